import PyProof.Rows.All
import Wide.All
import OpenK.AllK
import Wide.FinOn
import HandS.ForMost
import HandS.Exc
import HandS.Star
import HandS.TupAny
import HandS.Codes
import HandS.Style
import HandS.Flow
import PyProof.AutoSeq1
import HandS.IsInst
import HandS.Defaults
import HandS.Steps
import HandS.TryOnly
import HandS.StrMore
import HandS.WordsExc
import HandS.IntHex
import HandS.FStr
import PyProof.FString3
import PyProof.Rows.StrIntSpec
import KE.KDictZip
import KE.GoesZip
import KE.GoesEnum
import HandS.Zip
import KE.KAssignIn
import PyProof.NeKinds
import PyProof.EqAt
import HandS.Head0
import HandS.Head1
import HandS.Head2
import HandS.HeadEnd
import HandS.HeadHook1
import HandS.HeadHook2
import KE.KStateDown
import PySem.Challenge.RW_nolooking_k90_octets_within_octets
set_option Elab.async false
set_option linter.all false
set_option maxRecDepth 100000
set_option maxHeartbeats 4000000
/-! A layer over HandS: readings as functions over plain data (D), the mutable objects by numbers (Sto). -/
namespace DL
open PySem PySem.Spec PyProof.Rows L2

inductive D where
  | non | bl (b : Bool) | int (i : Int) | str (x : Str) | ty (n : String) | tup (xs : List D) | obj (n : Nat) | scr (zs : List Int)
  deriving Inhabited
inductive Ob where
  | lst (xs : List D)
  | ins (C : Addr) (fs : List (Str × D))
  | xd (fs : List (Str × D))
  deriving Inhabited
abbrev LE := List (Option D)
abbrev Sto := List Ob

/-- a list of the outside: the script -/
def FzL (K : PySem.W.Frag) (H : Hp) (a : Addr) (xs : List V) : Prop := (∃ u, H a = some (.frz u (.lst xs))) ∨ SqL K (fun _ => none) a xs
theorem FzL.seq {K : PySem.W.Frag} {H : Hp} {a : Addr} {xs : List V} (h : FzL K H a xs) : SqL K H a xs := by
  rcases h with ⟨u, h⟩ | (h | ⟨u, h⟩) | h
  · exact .inl (.inr ⟨u, h⟩)
  · cases h
  · cases h
  · exact .inr h
section
variable (K : PySem.W.Frag) (ι : List Addr) (H : Hp)
mutual
def DV : D → V → Prop
  | .non, v => v = .non
  | .bl b, v => v = .bl b
  | .int i, v => v = .int i
  | .str x, v => v = .str x
  | .ty n, v => v = .ty n
  | .scr zs, v => ∃ a, v = .ref a ∧ FzL K H a (zs.map V.int)
  | .tup ds, v => ∃ a xs, v = .ref a ∧ SqT K H a xs ∧ DVs ds xs
  | .obj n, v => ∃ a, v = .ref a ∧ ι[n]? = some a
def DVs : List D → List V → Prop
  | [], xs => xs = []
  | d :: ds, xs => ∃ y ys, xs = y :: ys ∧ DV d y ∧ DVs ds ys
end
end

structure Ext (K : PySem.W.Frag) (ι : List Addr) (H : Hp) (ι' : List Addr) (H' : Hp) : Prop where
  pre : ∃ t, ι' = ι ++ t
  tups : ∀ a xs, SqT K H a xs → SqT K H' a xs
  scrs : ∀ a xs, FzL K H a xs → FzL K H' a xs

variable {K : PySem.W.Frag} {ι ι' ι1 ι2 : List Addr} {H H' H1 H2 : Hp}
theorem Ext.refl : Ext K ι H ι H := ⟨⟨[], by simp⟩, fun _ _ h => h, fun _ _ h => h⟩
theorem Ext.trans (a : Ext K ι H ι1 H1) (b : Ext K ι1 H1 ι2 H2) : Ext K ι H ι2 H2 := by
  obtain ⟨t, rfl⟩ := a.pre
  obtain ⟨u, rfl⟩ := b.pre
  exact ⟨⟨t ++ u, by simp⟩, fun x xs h => b.tups x xs (a.tups x xs h), fun x xs h => b.scrs x xs (a.scrs x xs h)⟩
theorem Ext.get (e : Ext K ι H ι' H') {n : Nat} {a : Addr} (h : ι[n]? = some a) : ι'[n]? = some a := by
  obtain ⟨t, rfl⟩ := e.pre
  have := (List.getElem?_eq_some_iff.mp h).1
  rw [List.getElem?_append_left this]; exact h
mutual
theorem DV.mono (e : Ext K ι H ι' H') : ∀ (d : D) (v : V), DV K ι H d v → DV K ι' H' d v
  | .non, _, h => h
  | .bl _, _, h => h
  | .int _, _, h => h
  | .str _, _, h => h
  | .ty _, _, h => h
  | .scr _, _, h => let ⟨a, h1, h2⟩ := h; ⟨a, h1, e.scrs a _ h2⟩
  | .tup ds, _, h => by
    obtain ⟨a, xs, h1, h2, h3⟩ := h
    exact ⟨a, xs, h1, e.tups a xs h2, DVs.mono e ds xs h3⟩
  | .obj n, _, h => by
    obtain ⟨a, h1, h2⟩ := h
    exact ⟨a, h1, e.get h2⟩
theorem DVs.mono (e : Ext K ι H ι' H') : ∀ (ds : List D) (xs : List V), DVs K ι H ds xs → DVs K ι' H' ds xs
  | [], _, h => h
  | d :: ds, _, h => by
    obtain ⟨y, ys, h1, h2, h3⟩ := h
    exact ⟨y, ys, h1, DV.mono e d y h2, DVs.mono e ds ys h3⟩
end
theorem DVs.length : ∀ {ds : List D} {xs : List V}, DVs K ι H ds xs → xs.length = ds.length
  | [], _, h => by rw [show _ = _ from h]; rfl
  | d :: ds, _, h => by
    obtain ⟨y, ys, h1, h2, h3⟩ := h
    rw [h1, List.length_cons, List.length_cons, DVs.length h3]
theorem DVs.get : ∀ {ds : List D} {xs : List V} {i : Nat} {d : D}, DVs K ι H ds xs → ds[i]? = some d → ∃ v, xs[i]? = some v ∧ DV K ι H d v
  | [], _, i, d, _, h => by simp at h
  | e :: ds, _, i, d, h, hd => by
    obtain ⟨y, ys, rfl, h2, h3⟩ := h
    cases i with
    | zero => 
      have e1 : e = d := by simpa using hd
      subst e1
      exact ⟨y, rfl, h2⟩
    | succ i =>
      have hd' : ds[i]? = some d := by simpa using hd
      obtain ⟨v, hv, hr⟩ := DVs.get (i := i) h3 hd'
      exact ⟨v, by simpa using hv, hr⟩
theorem DVs.append : ∀ {ds es : List D} {xs ys : List V}, DVs K ι H ds xs → DVs K ι H es ys → DVs K ι H (ds ++ es) (xs ++ ys)
  | [], es, _, ys, h, h' => by rw [show _ = _ from h]; exact h'
  | d :: ds, es, _, ys, h, h' => by
    obtain ⟨y, zs, rfl, h2, h3⟩ := h
    exact ⟨y, zs ++ ys, rfl, h2, DVs.append h3 h'⟩
theorem DVs.take : ∀ {ds : List D} {xs : List V} (n : Nat), DVs K ι H ds xs → DVs K ι H (ds.take n) (xs.take n)
  | [], _, n, h => by rw [show _ = _ from h]; simp [DVs]
  | d :: ds, _, 0, h => by simp [DVs]
  | d :: ds, _, n + 1, h => by
    obtain ⟨y, zs, rfl, h2, h3⟩ := h
    exact ⟨y, zs.take n, by simp, h2, DVs.take n h3⟩
theorem DVs.drop : ∀ {ds : List D} {xs : List V} (n : Nat), DVs K ι H ds xs → DVs K ι H (ds.drop n) (xs.drop n)
  | [], _, n, h => by rw [show _ = _ from h]; simp [DVs]
  | d :: ds, _, 0, h => h
  | d :: ds, _, n + 1, h => by
    obtain ⟨y, zs, rfl, h2, h3⟩ := h
    exact DVs.drop n h3
theorem DVs.reverse : ∀ {ds : List D} {xs : List V}, DVs K ι H ds xs → DVs K ι H ds.reverse xs.reverse
  | [], _, h => by rw [show _ = _ from h]; simp [DVs]
  | d :: ds, _, h => by
    obtain ⟨y, zs, rfl, h2, h3⟩ := h
    rw [List.reverse_cons, List.reverse_cons]
    exact (DVs.reverse h3).append ⟨y, [], rfl, h2, rfl⟩
theorem DVs.set : ∀ {ds : List D} {xs : List V} {d : D} {v : V} (n : Nat), DVs K ι H ds xs → DV K ι H d v → DVs K ι H (ds.set n d) (xs.set n v)
  | [], _, _, _, n, h, _ => by rw [show _ = _ from h]; simp [DVs]
  | e :: ds, _, d, v, 0, h, hv => by
    obtain ⟨y, zs, rfl, h2, h3⟩ := h
    exact ⟨v, zs, rfl, hv, h3⟩
  | e :: ds, _, d, v, n + 1, h, hv => by
    obtain ⟨y, zs, rfl, h2, h3⟩ := h
    exact ⟨y, zs.set n v, rfl, h2, DVs.set n h3 hv⟩
theorem DVs.one {d : D} {xs : List V} (h : DVs K ι H [d] xs) : ∃ v, xs = [v] ∧ DV K ι H d v := by
  obtain ⟨y, ys, rfl, h2, h3⟩ := h
  rw [show _ = _ from h3]
  exact ⟨y, rfl, h2⟩
theorem DVs.two {d e : D} {xs : List V} (h : DVs K ι H [d, e] xs) : ∃ v w, xs = [v, w] ∧ DV K ι H d v ∧ DV K ι H e w := by
  obtain ⟨y, ys, rfl, h2, h3⟩ := h
  obtain ⟨z, rfl, h4⟩ := DVs.one h3
  exact ⟨y, z, rfl, h2, h4⟩
theorem DVs.nil {xs : List V} (h : DVs K ι H [] xs) : xs = [] := h

/-- named fields -/
def DFs (K : PySem.W.Frag) (ι : List Addr) (H : Hp) (fs : List (Str × D)) (vs : List (Str × V)) : Prop := vs.map (·.1) = fs.map (·.1) ∧ DVs K ι H (fs.map (·.2)) (vs.map (·.2))
theorem DFs.mono {fs : List (Str × D)} {vs : List (Str × V)} (e : Ext K ι H ι' H') (h : DFs K ι H fs vs) : DFs K ι' H' fs vs := ⟨h.1, DVs.mono e _ _ h.2⟩

/-- the object at an address -/
def OR (K : PySem.W.Frag) (ι : List Addr) (H : Hp) (a : Addr) : Ob → Prop
  | .lst ds => ∃ xs, H a = some (.lst xs) ∧ DVs K ι H ds xs
  | .ins C fs => ∃ dx vs, H a = some (.ins C dx vs) ∧ H dx = some (.own a) ∧ DFs K ι H fs vs
  | .xd fs => ∃ vs, H a = some (.xd vs) ∧ DFs K ι H fs vs

structure Rep (K : PySem.W.Frag) (ι : List Addr) (M : Sto) (H : Hp) : Prop where
  len : ι.length = M.length
  nd : ι.Nodup
  obs : ∀ (n : Nat) (a : Addr) (o : Ob), ι[n]? = some a → M[n]? = some o → OR K ι H a o

variable {M M' M1 M2 : Sto}
theorem OR.there {a : Addr} {o : Ob} (h : OR K ι H a o) : ∃ u, H a = some u := by
  cases o with
  | lst ds => obtain ⟨xs, e, _⟩ := h; exact ⟨_, e⟩
  | ins C fs => obtain ⟨dx, vs, e, _⟩ := h; exact ⟨_, e⟩
  | xd fs => obtain ⟨vs, e, _⟩ := h; exact ⟨_, e⟩
theorem Rep.at (R : Rep K ι M H) {n : Nat} {o : Ob} (h : M[n]? = some o) : ∃ a, ι[n]? = some a ∧ OR K ι H a o := by
  have hn := (List.getElem?_eq_some_iff.mp h).1
  have hn' : n < ι.length := by rw [R.len]; exact hn
  exact ⟨ι[n], by simp [hn'], R.obs n _ o (by simp [hn']) h⟩
theorem Rep.ob (R : Rep K ι M H) {n : Nat} {a : Addr} {o : Ob} (h : M[n]? = some o) (ha : ι[n]? = some a) : OR K ι H a o := R.obs n a o ha h
theorem Rep.there (R : Rep K ι M H) {n : Nat} {a : Addr} (ha : ι[n]? = some a) : ∃ u, H a = some u := by
  have hn := (List.getElem?_eq_some_iff.mp ha).1
  have hn' : n < M.length := by rw [← R.len]; exact hn
  exact (R.obs n a M[n] ha (by simp [hn'])).there
theorem Rep.new_notin (R : Rep K ι M H) {p : Addr} (hp : H p = none) : p ∉ ι := fun hm => by
  obtain ⟨n, hn⟩ := List.getElem?_of_mem hm
  obtain ⟨u, hu⟩ := R.there hn
  rw [hp] at hu; cases hu

theorem sqt_free {a p : Addr} {o : HO} {xs : List V} (hp : H p = none) (h : SqT K H a xs) : SqT K (upd H p o) a xs := by
  rcases h with (h | ⟨u, h⟩) | h
  · exact .inl (.inl (by rw [upd_ne (ne_of_none h hp)]; exact h))
  · exact .inl (.inr ⟨u, by rw [upd_ne (ne_of_none h hp)]; exact h⟩)
  · exact .inr h
theorem sqt_mut {a p : Addr} {o u : HO} {xs : List V} (hp : H p = some u) (h1 : ∀ ys, u ≠ .tup ys) (h2 : ∀ ob y, u ≠ .frz ob y) (h : SqT K H a xs) : SqT K (upd H p o) a xs := by
  rcases h with (h | ⟨w, h⟩) | h
  · refine .inl (.inl ?_)
    rw [upd_ne]; exact h
    intro e; subst e; rw [hp] at h; exact h1 _ (Option.some.inj h)
  · refine .inl (.inr ⟨w, ?_⟩)
    rw [upd_ne]; exact h
    intro e; subst e; rw [hp] at h; exact h2 _ _ (Option.some.inj h)
  · exact .inr h
theorem fzl_free {a p : Addr} {o : HO} {xs : List V} (hp : H p = none) (h : FzL K H a xs) : FzL K (upd H p o) a xs := by
  rcases h with ⟨u, h⟩ | h
  · exact .inl ⟨u, by rw [upd_ne (ne_of_none h hp)]; exact h⟩
  · exact .inr h
theorem fzl_mut {a p : Addr} {o u : HO} {xs : List V} (hp : H p = some u) (h2 : ∀ ob y, u ≠ .frz ob y) (h : FzL K H a xs) : FzL K (upd H p o) a xs := by
  rcases h with ⟨w, h⟩ | h
  · refine .inl ⟨w, ?_⟩
    rw [upd_ne]; exact h
    intro e; subst e; rw [hp] at h; exact h2 _ _ (Option.some.inj h)
  · exact .inr h
theorem Ext.new {p : Addr} {o : HO} (hp : H p = none) : Ext K ι H ι (upd H p o) := ⟨⟨[], by simp⟩, fun a xs h => sqt_free hp h, fun a xs h => fzl_free hp h⟩
theorem Ext.new1 {p : Addr} {o : HO} (hp : H p = none) : Ext K ι H (ι ++ [p]) (upd H p o) := ⟨⟨[p], rfl⟩, fun a xs h => sqt_free hp h, fun a xs h => fzl_free hp h⟩
theorem OR.mono {a : Addr} {o : Ob} (e : Ext K ι H ι' H') (k : ∀ u, H a = some u → H' a = some u) (k2 : ∀ b, H b = some (.own a) → H' b = some (.own a)) (h : OR K ι H a o) : OR K ι' H' a o := by
  cases o with
  | lst ds => obtain ⟨xs, e1, h2⟩ := h; exact ⟨xs, k _ e1, DVs.mono e _ _ h2⟩
  | ins C fs => obtain ⟨dx, vs, e1, h2, h3⟩ := h; exact ⟨dx, vs, k _ e1, k2 _ h2, h3.mono e⟩
  | xd fs => obtain ⟨vs, e1, h2⟩ := h; exact ⟨vs, k _ e1, h2.mono e⟩
/-- garbage is laid -/
theorem Rep.junk (R : Rep K ι M H) {p : Addr} {o : HO} (hp : H p = none) : Rep K ι M (upd H p o) :=
  ⟨R.len, R.nd, fun n a ob ha hm => (R.obs n a ob ha hm).mono (Ext.new hp) (fun u hu => by rw [upd_ne (ne_of_none hu hp)]; exact hu) fun b hb => by rw [upd_ne (ne_of_none hb hp)]; exact hb⟩
/-- a new object -/
theorem Rep.alloc (R : Rep K ι M H) {p : Addr} {o : HO} {ob : Ob} (hp : H p = none) (h : OR K (ι ++ [p]) (upd H p o) p ob) : Rep K (ι ++ [p]) (M ++ [ob]) (upd H p o) := by
  refine ⟨by rw [List.length_append, List.length_append, R.len]; rfl, ?_, fun n a ob' ha hm => ?_⟩
  · rw [List.nodup_append]
    refine ⟨R.nd, by simp, fun x hx y hy => ?_⟩
    have e : y = p := by simpa using hy
    subst e
    intro e; subst e
    exact R.new_notin hp hx
  · by_cases hn : n < ι.length
    · rw [List.getElem?_append_left hn] at ha
      rw [List.getElem?_append_left (by rw [← R.len]; exact hn)] at hm
      exact (R.obs n a ob' ha hm).mono (Ext.new1 hp) (fun u hu => by rw [upd_ne (ne_of_none hu hp)]; exact hu) fun b hb => by rw [upd_ne (ne_of_none hb hp)]; exact hb
    · have hl := (List.getElem?_eq_some_iff.mp ha).1
      rw [List.length_append, List.length_singleton] at hl
      have e : n = ι.length := by omega
      subst e
      rw [List.getElem?_append_right (Nat.le_refl _)] at ha
      rw [R.len, List.getElem?_append_right (Nat.le_refl _)] at hm
      simp at ha hm
      subst ha; subst hm
      exact h
/-- forgetting the youngest objects -/
theorem Rep.take (R : Rep K ι M H) (k : Nat) (h : ∀ n o, n < k → M[n]? = some o → ∀ a, OR K ι H a o → OR K (ι.take k) H a o) : Rep K (ι.take k) (M.take k) H := by
  refine ⟨by rw [List.length_take, List.length_take, R.len], R.nd.sublist (List.take_sublist _ _), fun n a o ha hm => ?_⟩
  rw [List.getElem?_take] at ha hm
  split at ha
  · rename_i hlt
    rw [if_pos hlt] at hm
    exact h n o hlt hm a (R.obs n a o ha hm)
  · cases ha

/-- the names' values -/
def Slots (K : PySem.W.Frag) (ι : List Addr) (H : Hp) (σ : L2.St) (ρ : LE) : Prop := σ.length = ρ.length ∧ ∀ (i : Nat) (d : D), ρ[i]? = some (some d) → ∃ v, σ[i]? = some (some v) ∧ DV K ι H d v
theorem Slots.mono {σ : L2.St} {ρ : LE} (e : Ext K ι H ι' H') (h : Slots K ι H σ ρ) : Slots K ι' H' σ ρ := ⟨h.1, fun i d hd => let ⟨v, h1, h2⟩ := h.2 i d hd; ⟨v, h1, DV.mono e d v h2⟩⟩
theorem Slots.set {σ : L2.St} {ρ : LE} {d : D} {v : V} (i : Nat) (h : Slots K ι H σ ρ) (hv : DV K ι H d v) : Slots K ι H (σ.set i (some v)) (ρ.set i (some d)) := by
  refine ⟨by rw [List.length_set, List.length_set, h.1], fun j e he => ?_⟩
  by_cases hj : i = j
  · subst hj
    have hi := (List.getElem?_eq_some_iff.mp he).1
    rw [List.length_set] at hi
    rw [List.getElem?_set_self hi] at he
    cases he
    exact ⟨v, List.getElem?_set_self (by rw [h.1]; exact hi), hv⟩
  · rw [List.getElem?_set_ne hj] at he
    obtain ⟨w, h1, h2⟩ := h.2 j e he
    exact ⟨w, by rw [List.getElem?_set_ne hj]; exact h1, h2⟩
theorem Slots.setNone {σ : L2.St} {ρ : LE} (i : Nat) (h : Slots K ι H σ ρ) : Slots K ι H (σ.set i none) (ρ.set i none) := by
  refine ⟨by rw [List.length_set, List.length_set, h.1], fun j e he => ?_⟩
  by_cases hj : i = j
  · subst hj
    have hi := (List.getElem?_eq_some_iff.mp he).1
    rw [List.length_set] at hi
    rw [List.getElem?_set_self hi] at he
    cases he
  · rw [List.getElem?_set_ne hj] at he
    obtain ⟨w, h1, h2⟩ := h.2 j e he
    exact ⟨w, by rw [List.getElem?_set_ne hj]; exact h1, h2⟩
/-- less is known -/
theorem Slots.forget {σ : L2.St} {ρ ρ' : LE} (h : Slots K ι H σ ρ) (hl : ρ'.length = ρ.length) (hf : ∀ (i : Nat) (d : D), ρ'[i]? = some (some d) → ρ[i]? = some (some d)) : Slots K ι H σ ρ' := ⟨h.1.trans hl.symm, fun i d hd => h.2 i d (hf i d hd)⟩
def wipeD (ρ : LE) : List Nat → LE
  | [] => ρ
  | v :: vs => (wipeD ρ vs).set v none
theorem Slots.wipe {σ : L2.St} {ρ : LE} (h : Slots K ι H σ ρ) : ∀ vs : List Nat, Slots K ι H (L2.wipe σ vs) (wipeD ρ vs)
  | [] => h
  | v :: vs => (Slots.wipe h vs).setNone v
end DL
set_option maxHeartbeats 4000000
namespace DL
open PySem PySem.Spec PyProof.Rows L2

structure Xn where
  cls : Value
  id : Option Nat
inductive Rs (α : Type) where
  | ok (a : α) (M : Sto)
  | ex (x : Xn) (M : Sto)
def bnd {α β : Type} : Option (Rs α) → (α → Sto → Option (Rs β)) → Option (Rs β)
  | none, _ => none
  | some (.ok a M), k => k a M
  | some (.ex x M), _ => some (.ex x M)
inductive Fl where
  | nx (ρ : LE) | rt (d : D) | bk (ρ : LE) | ct (ρ : LE) | ex (x : Xn) (ρ : LE)
abbrev DE := LE → Sto → Option (Rs D)
abbrev DT := LE → Sto → Option (Rs Bool)
abbrev DA := LE → Sto → Option (Rs (List D))
abbrev DS := LE → Sto → Option (Fl × Sto)
abbrev DIt := Nat → Sto → Option (Option D)
abbrev DI := LE → Sto → Option (Rs DIt)
abbrev DG := D → LE → Sto → Option (LE × Sto)
abbrev XW := L2.St → XK

def XR (ι : List Addr) (cls : Value) (dd : Option Addr) (x : Xn) : Prop := cls = x.cls ∧ ∀ n, x.id = some n → ∃ d, dd = some d ∧ ι[n]? = some d

section
variable (K : PySem.W.Frag) (E : XW) (ι : List Addr) (H : Hp) (σ : L2.St)
/-- what is wished of an exception -/
def GX {β : Type} (r : Rs β) : Prop := ∀ x M1, r = .ex x M1 → ∀ ι1 cls dd H1, Ext K ι H ι1 H1 → Rep K ι1 M1 H1 → XR ι1 cls dd x → E σ cls dd H1
def GoE (Q : VK) (r : Rs D) : Prop := (∀ d M1, r = .ok d M1 → ∀ ι1 v H1, Ext K ι H ι1 H1 → Rep K ι1 M1 H1 → DV K ι1 H1 d v → Q v H1) ∧ GX K E ι H σ r
def GoT (Q : Bool → Hp → Prop) (r : Rs Bool) : Prop := (∀ b M1, r = .ok b M1 → ∀ ι1 H1, Ext K ι H ι1 H1 → Rep K ι1 M1 H1 → Q b H1) ∧ GX K E ι H σ r
def GoA (Q : List V → Hp → Prop) (r : Rs (List D)) : Prop := (∀ ds M1, r = .ok ds M1 → ∀ ι1 vs H1, Ext K ι H ι1 H1 → Rep K ι1 M1 H1 → DVs K ι1 H1 ds vs → Q vs H1) ∧ GX K E ι H σ r
/-- an iterator's turns -/
def SimIt (J : It) (it : DIt) : Prop := ∀ ι1 M H1 i, Ext K ι H ι1 H1 → Rep K ι1 M H1 → (∀ d, it i M = some (some d) → J.go i H1 ∧ ∀ x H2, J.yld i H1 x H2 → ∃ ι2, Ext K ι1 H1 ι2 H2 ∧ Rep K ι2 M H2 ∧ DV K ι2 H2 d x) ∧ (it i M = some none → J.stop i H1)
def GoI (Q : It → Hp → Prop) (r : Rs DIt) : Prop := (∀ it M1, r = .ok it M1 → ∀ ι1 J H1, Ext K ι H ι1 H1 → Rep K ι1 M1 H1 → SimIt K ι1 H1 J it → Q J H1) ∧ GX K E ι H σ r
def GoS (Dn : Ends) (f : Fl) (M : Sto) : Prop := match f with
  | .nx ρ => ∀ ι1 σ1 H1, Ext K ι H ι1 H1 → Rep K ι1 M H1 → Slots K ι1 H1 σ1 ρ → Dn.nx σ1 H1
  | .bk ρ => ∀ ι1 σ1 H1, Ext K ι H ι1 H1 → Rep K ι1 M H1 → Slots K ι1 H1 σ1 ρ → Dn.bk σ1 H1
  | .ct ρ => ∀ ι1 σ1 H1, Ext K ι H ι1 H1 → Rep K ι1 M H1 → Slots K ι1 H1 σ1 ρ → Dn.ct σ1 H1
  | .rt d => ∀ ι1 v H1, Ext K ι H ι1 H1 → Rep K ι1 M H1 → DV K ι1 H1 d v → Dn.rt v H1
  | .ex x ρ => ∀ ι1 σ1 cls dd H1, Ext K ι H ι1 H1 → Rep K ι1 M H1 → Slots K ι1 H1 σ1 ρ → XR ι1 cls dd x → E σ1 cls dd H1
end
section
variable {K : PySem.W.Frag} {E : XW} {ι ι1 : List Addr} {H H1 : Hp} {σ : L2.St}
theorem GX.mono {β : Type} {r : Rs β} (e : Ext K ι H ι1 H1) (g : GX K E ι H σ r) : GX K E ι1 H1 σ r := fun x M hx ι2 cls dd H2 e2 => g x M hx ι2 cls dd H2 (e.trans e2)
theorem GX.ok {β : Type} {a : β} {M : Sto} : GX K E ι H σ (.ok a M) := fun _ _ h => by cases h
theorem GoE.mono {Q : VK} {r : Rs D} (e : Ext K ι H ι1 H1) (g : GoE K E ι H σ Q r) : GoE K E ι1 H1 σ Q r := ⟨fun d M h ι2 v H2 e2 => g.1 d M h ι2 v H2 (e.trans e2), g.2.mono e⟩
theorem GoT.mono {Q : Bool → Hp → Prop} {r : Rs Bool} (e : Ext K ι H ι1 H1) (g : GoT K E ι H σ Q r) : GoT K E ι1 H1 σ Q r := ⟨fun d M h ι2 H2 e2 => g.1 d M h ι2 H2 (e.trans e2), g.2.mono e⟩
theorem GoA.mono {Q : List V → Hp → Prop} {r : Rs (List D)} (e : Ext K ι H ι1 H1) (g : GoA K E ι H σ Q r) : GoA K E ι1 H1 σ Q r := ⟨fun d M h ι2 v H2 e2 => g.1 d M h ι2 v H2 (e.trans e2), g.2.mono e⟩
theorem GoI.mono {Q : It → Hp → Prop} {r : Rs DIt} (e : Ext K ι H ι1 H1) (g : GoI K E ι H σ Q r) : GoI K E ι1 H1 σ Q r := ⟨fun d M h ι2 v H2 e2 => g.1 d M h ι2 v H2 (e.trans e2), g.2.mono e⟩
theorem GoS.mono {Dn : Ends} {f : Fl} {M : Sto} (e : Ext K ι H ι1 H1) (g : GoS K E ι H Dn f M) : GoS K E ι1 H1 Dn f M := by
  cases f with
  | nx ρ => exact fun ι2 σ2 H2 e2 => g ι2 σ2 H2 (e.trans e2)
  | bk ρ => exact fun ι2 σ2 H2 e2 => g ι2 σ2 H2 (e.trans e2)
  | ct ρ => exact fun ι2 σ2 H2 e2 => g ι2 σ2 H2 (e.trans e2)
  | rt d => exact fun ι2 v H2 e2 => g ι2 v H2 (e.trans e2)
  | ex x ρ => exact fun ι2 σ2 c dd H2 e2 => g ι2 σ2 c dd H2 (e.trans e2)
theorem SimIt.mono {J : It} {it : DIt} (e : Ext K ι H ι1 H1) (g : SimIt K ι H J it) : SimIt K ι1 H1 J it := fun ι2 M H2 i e2 => g ι2 M H2 i (e.trans e2)
end

/-! ### the readings that functions give -/
section
variable (K : PySem.W.Frag) (E : XW)
def UE (de : DE) : TE := fun σ H Q => ∃ ι ρ M r, Rep K ι M H ∧ Slots K ι H σ ρ ∧ de ρ M = some r ∧ GoE K E ι H σ Q r
def UT (de : DT) : TT := fun σ H Q => ∃ ι ρ M r, Rep K ι M H ∧ Slots K ι H σ ρ ∧ de ρ M = some r ∧ GoT K E ι H σ Q r
def UA (de : DA) : TA := fun σ H Q => ∃ ι ρ M r, Rep K ι M H ∧ Slots K ι H σ ρ ∧ de ρ M = some r ∧ GoA K E ι H σ Q r
def UI (de : DI) : TI := fun σ H Q => ∃ ι ρ M r, Rep K ι M H ∧ Slots K ι H σ ρ ∧ de ρ M = some r ∧ GoI K E ι H σ Q r
def US (ds : DS) : TS := fun Dn σ H => ∃ ι ρ M f M', Rep K ι M H ∧ Slots K ι H σ ρ ∧ ds ρ M = some (f, M') ∧ GoS K E ι H Dn f M'
def UG (dg : DG) : TG := fun v σ H Q => ∃ ι ρ M d ρ' M', Rep K ι M H ∧ Slots K ι H σ ρ ∧ DV K ι H d v ∧ dg d ρ M = some (ρ', M') ∧ ∀ ι1 σ1 H1, Ext K ι H ι1 H1 → Rep K ι1 M' H1 → Slots K ι1 H1 σ1 ρ' → Q σ1 H1
end
/-- the judgements -/
def PED (X : Cx) (E : XW) (e : Expr) (de : DE) : Prop := PE X e (UE X.K E de)
def PTD (X : Cx) (E : XW) (e : Expr) (dt : DT) : Prop := PT X e (UT X.K E dt)
def PWD (X : Cx) (E : XW) (e : Expr) (dt : DT) : Prop := PW X e (UT X.K E dt)
def PAD (X : Cx) (E : XW) (es : List Expr) (da : DA) : Prop := PA X es (UA X.K E da)
def PSD (X : Cx) (E : XW) (st : Stmt) (ds : DS) : Prop := PS X st (US X.K E ds)
def PSsD (X : Cx) (E : XW) (st : List Stmt) (ds : DS) : Prop := PSs X st (US X.K E ds)
def PGD (X : Cx) (tg : Expr) (dg : DG) : Prop := PG X tg (UG X.K dg)
def PID (X : Cx) (E : XW) (tg it : Expr) (di : DI) : Prop := PI X tg it (UI X.K E di)
theorem PE.imp {X : Cx} {e : Expr} {t t' : TE} (h : PE X e t) (i : ∀ σ H Q, t' σ H Q → t σ H Q) : PE X e t' := ⟨fun pins s σ H Q I q => h.run pins s σ H Q I (i σ H Q q)⟩
theorem PT.imp {X : Cx} {e : Expr} {t t' : TT} (h : PT X e t) (i : ∀ σ H Q, t' σ H Q → t σ H Q) : PT X e t' := ⟨fun pins s σ H Q I q => h.run pins s σ H Q I (i σ H Q q)⟩
theorem PW.imp {X : Cx} {e : Expr} {t t' : TT} (h : PW X e t) (i : ∀ σ H Q, t' σ H Q → t σ H Q) : PW X e t' := ⟨fun wh pins s σ H Q I q => h.run wh pins s σ H Q I (i σ H Q q)⟩
theorem PA.imp {X : Cx} {e : List Expr} {t t' : TA} (h : PA X e t) (i : ∀ σ H Q, t' σ H Q → t σ H Q) : PA X e t' := ⟨fun pos pins s σ H Q I q => h.run pos pins s σ H Q I (i σ H Q q)⟩
theorem PS.imp {X : Cx} {e : Stmt} {t t' : TS} (h : PS X e t) (i : ∀ D σ H, t' D σ H → t D σ H) : PS X e t' := ⟨fun pins s σ H D I q => h.run pins s σ H D I (i D σ H q)⟩
theorem PSs.imp {X : Cx} {e : List Stmt} {t t' : TS} (h : PSs X e t) (i : ∀ D σ H, t' D σ H → t D σ H) : PSs X e t' := ⟨fun pins s σ H D I q => h.run pins s σ H D I (i D σ H q)⟩
theorem PG.imp {X : Cx} {e : Expr} {t t' : TG} (h : PG X e t) (i : ∀ v σ H Q, t' v σ H Q → t v σ H Q) : PG X e t' := ⟨fun pins s σ H v u Q I r q => h.run pins s σ H v u Q I r (i v σ H Q q)⟩
theorem PI.imp {X : Cx} {tg e : Expr} {t t' : TI} (h : PI X tg e t) (i : ∀ σ H Q, t' σ H Q → t σ H Q) : PI X tg e t' := ⟨fun pins s σ H Q I q => h.run pins s σ H Q I (i σ H Q q)⟩

section
variable {K : PySem.W.Frag} {E : XW} {ι : List Addr} {M : Sto} {H : Hp} {σ : L2.St} {ρ : LE} {β : Type} {r : Rs β}
/-- one part, then the rest -/
theorem UE.go {da : DE} {k : D → Sto → Option (Rs β)} {P : VK} (R : Rep K ι M H) (S : Slots K ι H σ ρ) (h : bnd (da ρ M) k = some r) (gx : GX K E ι H σ r)
    (hok : ∀ d M1, da ρ M = some (.ok d M1) → k d M1 = some r → ∀ ι1 v H1, Ext K ι H ι1 H1 → Rep K ι1 M1 H1 → DV K ι1 H1 d v → Slots K ι1 H1 σ ρ → GX K E ι1 H1 σ r → P v H1) : UE K E da σ H P := by
  cases hd : da ρ M with
  | none => rw [hd] at h; cases h
  | some q =>
    refine ⟨ι, ρ, M, q, R, S, hd, ?_⟩
    rw [hd] at h
    cases q with
    | ok d M1 => exact ⟨fun d' M' q => (by cases q; exact fun ι1 v H1 e R1 V1 => hok d M1 hd h ι1 v H1 e R1 V1 (S.mono e) (gx.mono e)), GX.ok⟩
    | ex x M1 =>
      refine ⟨fun d' M' q => (by cases q), fun y M' q => ?_⟩
      cases q
      have h' : some (Rs.ex x M1) = some r := h
      cases h'
      exact gx x M1 rfl
theorem UT.go {da : DT} {k : Bool → Sto → Option (Rs β)} {P : Bool → Hp → Prop} (R : Rep K ι M H) (S : Slots K ι H σ ρ) (h : bnd (da ρ M) k = some r) (gx : GX K E ι H σ r)
    (hok : ∀ d M1, da ρ M = some (.ok d M1) → k d M1 = some r → ∀ ι1 H1, Ext K ι H ι1 H1 → Rep K ι1 M1 H1 → Slots K ι1 H1 σ ρ → GX K E ι1 H1 σ r → P d H1) : UT K E da σ H P := by
  cases hd : da ρ M with
  | none => rw [hd] at h; cases h
  | some q =>
    refine ⟨ι, ρ, M, q, R, S, hd, ?_⟩
    rw [hd] at h
    cases q with
    | ok d M1 => exact ⟨fun d' M' q => (by cases q; exact fun ι1 H1 e R1 => hok d M1 hd h ι1 H1 e R1 (S.mono e) (gx.mono e)), GX.ok⟩
    | ex x M1 =>
      refine ⟨fun d' M' q => (by cases q), fun y M' q => ?_⟩
      cases q
      have h' : some (Rs.ex x M1) = some r := h
      cases h'
      exact gx x M1 rfl
theorem UA.go {da : DA} {k : List D → Sto → Option (Rs β)} {P : List V → Hp → Prop} (R : Rep K ι M H) (S : Slots K ι H σ ρ) (h : bnd (da ρ M) k = some r) (gx : GX K E ι H σ r)
    (hok : ∀ d M1, da ρ M = some (.ok d M1) → k d M1 = some r → ∀ ι1 v H1, Ext K ι H ι1 H1 → Rep K ι1 M1 H1 → DVs K ι1 H1 d v → Slots K ι1 H1 σ ρ → GX K E ι1 H1 σ r → P v H1) : UA K E da σ H P := by
  cases hd : da ρ M with
  | none => rw [hd] at h; cases h
  | some q =>
    refine ⟨ι, ρ, M, q, R, S, hd, ?_⟩
    rw [hd] at h
    cases q with
    | ok d M1 => exact ⟨fun d' M' q => (by cases q; exact fun ι1 v H1 e R1 V1 => hok d M1 hd h ι1 v H1 e R1 V1 (S.mono e) (gx.mono e)), GX.ok⟩
    | ex x M1 =>
      refine ⟨fun d' M' q => (by cases q), fun y M' q => ?_⟩
      cases q
      have h' : some (Rs.ex x M1) = some r := h
      cases h'
      exact gx x M1 rfl
theorem UI.go {da : DI} {k : DIt → Sto → Option (Rs β)} {P : It → Hp → Prop} (R : Rep K ι M H) (S : Slots K ι H σ ρ) (h : bnd (da ρ M) k = some r) (gx : GX K E ι H σ r)
    (hok : ∀ d M1, da ρ M = some (.ok d M1) → k d M1 = some r → ∀ ι1 J H1, Ext K ι H ι1 H1 → Rep K ι1 M1 H1 → SimIt K ι1 H1 J d → Slots K ι1 H1 σ ρ → GX K E ι1 H1 σ r → P J H1) : UI K E da σ H P := by
  cases hd : da ρ M with
  | none => rw [hd] at h; cases h
  | some q =>
    refine ⟨ι, ρ, M, q, R, S, hd, ?_⟩
    rw [hd] at h
    cases q with
    | ok d M1 => exact ⟨fun d' M' q => (by cases q; exact fun ι1 J H1 e R1 V1 => hok d M1 hd h ι1 J H1 e R1 V1 (S.mono e) (gx.mono e)), GX.ok⟩
    | ex x M1 =>
      refine ⟨fun d' M' q => (by cases q), fun y M' q => ?_⟩
      cases q
      have h' : some (Rs.ex x M1) = some r := h
      cases h'
      exact gx x M1 rfl
end

/-! ### names, constants -/
def dVar (i : Nat) : DE := fun ρ M => match ρ[i]? with
  | some (some d) => some (.ok d M)
  | _ => none
def dC (d : D) : DE := fun _ M => some (.ok d M)
section
variable {X : Cx} {E : XW} {pos : Pos}
theorem GoE.done {K : PySem.W.Frag} {E : XW} {ι : List Addr} {H : Hp} {σ : L2.St} {Q : VK} {d : D} {M : Sto} {v : V} (g : GoE K E ι H σ Q (.ok d M)) (R : Rep K ι M H) (h : DV K ι H d v) : Q v H := g.1 d M rfl ι v H Ext.refl R h
theorem GoE.step {K : PySem.W.Frag} {E : XW} {ι ι1 : List Addr} {H H1 : Hp} {σ : L2.St} {Q : VK} {d : D} {M : Sto} {v : V} (g : GoE K E ι H σ Q (.ok d M)) (e : Ext K ι H ι1 H1) (R : Rep K ι1 M H1) (h : DV K ι1 H1 d v) : Q v H1 := g.1 d M rfl ι1 v H1 e R h
theorem ped_var (i : Nat) {x : Str} (hN : X.N[i]? = some x := by rfl) (hv : Vis X.env.scope x := by first | exact Or.inl rfl | exact Or.inr (Or.inl rfl) | exact Or.inr (Or.inr rfl)) (hd : (x == ("__debug__" : Str)) = false := by decide)
    (hcd : (x == ("__classdict__" : Str)) = false := by decide) : PED X E (.Name x pos) (dVar i) := by
  refine PE.imp (pe_var hN hv hd hcd) fun σ H Q ⟨ι, ρ, M, r, R, S, h, g⟩ => ?_
  unfold dVar at h
  split at h
  · rename_i d hd
    cases h
    obtain ⟨v, h1, h2⟩ := S.2 i d hd
    exact ⟨v, h1, g.done R h2⟩
  · cases h
theorem ped_of {e : Expr} {v : V} {d : D} (h : PE X e (tC v)) (hd : ∀ ι H, DV X.K ι H d v) : PED X E e (dC d) := by
  refine PE.imp h fun σ H Q ⟨ι, ρ, M, r, R, S, h, g⟩ => ?_
  cases h
  exact g.done R (hd ι H)
theorem ped_int {i : Int} {j : Nat} : PED X E (.Constant (.int i) j pos) (dC (.int i)) := ped_of pe_int fun _ _ => rfl
theorem ped_bl {b : Bool} {j : Nat} : PED X E (.Constant (.bool b) j pos) (dC (.bl b)) := ped_of pe_bl fun _ _ => rfl
theorem ped_non {j : Nat} : PED X E (.Constant .none j pos) (dC .non) := ped_of pe_non fun _ _ => rfl
theorem ped_str {x : Str} {j : Nat} : PED X E (.Constant (.str x) j pos) (dC (.str x)) := ped_of pe_str fun _ _ => rfl
theorem ped_gint {x : Str} {i : Int} (hm : ∃ t, X.mg x = some (.int i t)) (hg : Gl X x := by rfl) (hd : (x == ("__debug__" : Str)) = false := by decide) : PED X E (.Name x pos) (dC (.int i)) := by
  obtain ⟨t, hm⟩ := hm
  exact ped_of (pe_glob hg hm (v := .int i) ⟨t, rfl⟩ hd) fun _ _ => rfl
theorem ped_gstr {x z : Str} (hm : ∃ t, X.mg x = some (.str z t)) (hg : Gl X x := by rfl) (hd : (x == ("__debug__" : Str)) = false := by decide) : PED X E (.Name x pos) (dC (.str z)) := by
  obtain ⟨t, hm⟩ := hm
  exact ped_of (pe_glob hg hm (v := .str z) ⟨t, rfl⟩ hd) fun _ _ => rfl
end

/-! ### operators -/
abbrev D2 := D → D → Sto → Option (D × Sto)
def dOp (f : D2) (da db : DE) : DE := fun ρ M => bnd (da ρ M) fun x M1 => bnd (db ρ M1) fun y M2 => match f x y M2 with
  | some (z, M3) => some (.ok z M3)
  | none => none
/-- r does at least what f tells -/
def Sim2 (K : PySem.W.Frag) (r : R2) (f : D2) : Prop := ∀ ι M H x y d e z M1 (Q : VK), Rep K ι M H → DV K ι H d x → DV K ι H e y → f d e M = some (z, M1) →
  (∀ ι1 v H1, Ext K ι H ι1 H1 → Rep K ι1 M1 H1 → DV K ι1 H1 z v → Q v H1) → r x y H Q
section
variable {X : Cx} {E : XW} {pos : Pos} {a b : Expr} {da db : DE}
theorem sim_op {K : PySem.W.Frag} {r : R2} {f : D2} (s : Sim2 K r f) : ∀ σ H Q, UE K E (dOp f da db) σ H Q → tOp r (UE K E da) (UE K E db) σ H Q := fun σ H Q ⟨ι, ρ, M, q, R, S, h, g⟩ =>
  UE.go R S h g.2 fun d M1 _ h1 ι1 x H1 e1 R1 V1 S1 gx1 => UE.go R1 S1 h1 gx1 fun d2 M2 _ h2 ι2 y H2 e2 R2 V2 S2 _ => by
    cases hf : f d d2 M2 with
    | none => simp only [hf] at h2; cases h2
    | some p =>
      obtain ⟨z, M3⟩ := p
      simp only [hf] at h2
      cases h2
      exact s ι2 M2 H2 x y d d2 z M3 Q R2 (DV.mono e2 d x V1) V2 hf fun ι3 v H3 e3 R3 V3 => g.step ((e1.trans e2).trans e3) R3 V3
theorem ped_op {op : Operator} {r : R2} {f : D2} (ho : OpR X (binaryOp op) r) (s : Sim2 X.K r f) (ha : PED X E a da) (hb : PED X E b db) : PED X E (.BinOp a op b pos) (dOp f da db) :=
  PE.imp (pe_op ho ha hb) (sim_op s)
theorem ped_cmp {op : CmpOp} {r : R2} {f : D2} (ho : OpR X (compareOp op) r) (s : Sim2 X.K r f) (ha : PED X E a da) (hb : PED X E b db) (hm : behindInMarks op b = false := by first | exact nobehind _ (by decide) (by decide) | rfl) : PED X E (.Compare a [op] [b] pos) (dOp f da db) :=
  PE.imp (pe_cmpR ho ha hb hm) (sim_op s)
end
theorem Sim2.or {K : PySem.W.Frag} {r r' : R2} {f f' : D2} (h : Sim2 K r f) (h' : Sim2 K r' f') : Sim2 K (fun x y H Q => r x y H Q ∨ r' x y H Q) (fun x y M => match f x y M with | some p => some p | none => f' x y M) := by
  intro ι M H x y d e z M1 Q R V W hf k
  cases hq : f d e M with
  | some p =>
    simp only [hq] at hf
    cases hf
    exact .inl (h ι M H x y d e z M1 Q R V W hq k)
  | none =>
    simp only [hq] at hf
    exact .inr (h' ι M H x y d e z M1 Q R V W hf k)
end DL
set_option maxHeartbeats 4000000
namespace DL
open PySem PySem.Spec PyProof.Rows L2

/-! ### objects written -/
section
variable {K : PySem.W.Frag} {ι ι1 : List Addr} {M : Sto} {H H1 : Hp}
theorem nodup_inj {α : Type} {l : List α} (h : l.Nodup) {m n : Nat} {a : α} (hm : l[m]? = some a) (hn : l[n]? = some a) : m = n := by
  obtain ⟨h1, e1⟩ := List.getElem?_eq_some_iff.mp hm
  obtain ⟨h2, e2⟩ := List.getElem?_eq_some_iff.mp hn
  exact (List.getElem_inj h).mp (e1.trans e2.symm)
theorem Ext.mut {a : Addr} {u o : HO} (hu : H a = some u) (h1 : ∀ ys, u ≠ .tup ys) (h2 : ∀ ob y, u ≠ .frz ob y) : Ext K ι H ι (upd H a o) := ⟨⟨[], by simp⟩, fun b xs h => sqt_mut hu h1 h2 h, fun b xs h => fzl_mut hu h2 h⟩
theorem Rep.put (R : Rep K ι M H) {n : Nat} {a : Addr} {u o : HO} {ob : Ob} (ha : ι[n]? = some a) (hu : H a = some u) (h1 : ∀ ys, u ≠ .tup ys) (h2 : ∀ ob y, u ≠ .frz ob y) (h3 : ∀ y, u ≠ .own y) (h : OR K ι (upd H a o) a ob) :
    Rep K ι (M.set n ob) (upd H a o) := by
  refine ⟨by rw [List.length_set]; exact R.len, R.nd, fun m b ob' hb hm => ?_⟩
  by_cases e : m = n
  · subst e
    rw [ha] at hb; cases hb
    have hl := (List.getElem?_eq_some_iff.mp hm).1
    rw [List.length_set] at hl
    rw [List.getElem?_set_self hl] at hm
    cases hm
    exact h
  · rw [List.getElem?_set_ne (Ne.symm e)] at hm
    have hab : b ≠ a := fun q => e (nodup_inj R.nd (q ▸ hb) ha)
    refine (R.obs m b ob' hb hm).mono (Ext.mut hu h1 h2) (fun w hw => by rw [upd_ne hab]; exact hw) fun c hc => ?_
    rw [upd_ne]; exact hc
    intro q; subst q; rw [hu] at hc; exact h3 _ (Option.some.inj hc)
theorem Rep.putL (R : Rep K ι M H) {n : Nat} {a : Addr} {ds es : List D} {xs ys : List V} (ha : ι[n]? = some a) (hu : H a = some (.lst xs)) (h : DVs K ι H es ys) : Rep K ι (M.set n (.lst es)) (upd H a (.lst ys)) ∧ Ext K ι H ι (upd H a (.lst ys)) := by
  have e : Ext K ι H ι (upd H a (.lst ys)) := Ext.mut hu (fun _ z => by cases z) fun _ _ z => by cases z
  exact ⟨R.put ha hu (fun _ z => by cases z) (fun _ _ z => by cases z) (fun _ z => by cases z) ⟨ys, upd_same, DVs.mono e _ _ h⟩, e⟩
theorem Rep.lst (R : Rep K ι M H) {n : Nat} {a : Addr} {ds : List D} (ha : ι[n]? = some a) (hm : M[n]? = some (.lst ds)) : ∃ xs, H a = some (.lst xs) ∧ DVs K ι H ds xs := R.obs n a _ ha hm
theorem Rep.newL (R : Rep K ι M H) {p : Addr} {ds : List D} {xs : List V} (hp : H p = none) (h : DVs K ι H ds xs) : Rep K (ι ++ [p]) (M ++ [.lst ds]) (upd H p (.lst xs)) ∧ Ext K ι H (ι ++ [p]) (upd H p (.lst xs)) ∧ DV K (ι ++ [p]) (upd H p (.lst xs)) (.obj M.length) (.ref p) := by
  have e : Ext K ι H (ι ++ [p]) (upd H p (.lst xs)) := Ext.new1 hp
  refine ⟨R.alloc hp ⟨xs, upd_same, DVs.mono e _ _ h⟩, e, p, rfl, ?_⟩
  rw [← R.len, List.getElem?_append_right (Nat.le_refl _)]
  simp
theorem Rep.newT (R : Rep K ι M H) {p : Addr} {ds : List D} {xs : List V} (hp : H p = none) (h : DVs K ι H ds xs) : Rep K ι M (upd H p (.tup xs)) ∧ Ext K ι H ι (upd H p (.tup xs)) ∧ DV K ι (upd H p (.tup xs)) (.tup ds) (.ref p) := by
  have e : Ext K ι H ι (upd H p (.tup xs)) := Ext.new hp
  exact ⟨R.junk hp, e, p, xs, rfl, SqT.of upd_same, DVs.mono e _ _ h⟩
end

/-! ### tests -/
def truD : D → Sto → Option Bool
  | .non, _ => some false
  | .bl b, _ => some b
  | .int i, _ => some (i != 0)
  | .str y, _ => if y.length ≤ sizeLine then some ((y.length : Int) != 0) else none
  | .ty _, _ => none
  | .scr _, _ => none
  | .tup ds, _ => some (!ds.isEmpty)
  | .obj n, M => match M[n]? with
    | some (.lst ds) => some (!ds.isEmpty)
    | _ => none
def isE {α β : Type} : List α → List β → Prop := fun a b => a.isEmpty = b.isEmpty
theorem DVs.isEmpty {K : PySem.W.Frag} {ι : List Addr} {H : Hp} {ds : List D} {xs : List V} (h : DVs K ι H ds xs) : xs.isEmpty = ds.isEmpty := by
  have := DVs.length h
  cases ds <;> cases xs <;> simp_all
theorem truD_ok {K : PySem.W.Frag} {ι : List Addr} {H : Hp} {M : Sto} {d : D} {v : V} {b : Bool} (R : Rep K ι M H) (h : DV K ι H d v) (t : truD d M = some b) : TruV K v H b := by
  cases d with
  | non => rw [show v = _ from h]; cases t; rfl
  | bl c => rw [show v = _ from h]; cases t; rfl
  | int i => rw [show v = _ from h]; cases t; rfl
  | str y =>
    rw [show v = _ from h]
    simp only [truD] at t
    split at t
    · rename_i hl
      cases t
      exact ⟨hl, rfl⟩
    · cases t
  | ty n => cases t
  | scr n => cases t
  | tup ds =>
    obtain ⟨a, xs, rfl, h2, h3⟩ := h
    cases t
    exact .inr (.inl ⟨xs, h2, by rw [DVs.isEmpty h3]⟩)
  | obj n =>
    obtain ⟨a, rfl, h2⟩ := h
    simp only [truD] at t
    split at t
    · rename_i ds hm
      cases t
      obtain ⟨xs, e1, e2⟩ := R.lst h2 hm
      exact .inl ⟨xs, SqL.of e1, by rw [DVs.isEmpty e2]⟩
    · cases t
def dTest (de : DE) : DT := fun ρ M => bnd (de ρ M) fun d M1 => match d with
  | .bl b => some (.ok b M1)
  | _ => none
def dTru (de : DE) : DT := fun ρ M => bnd (de ρ M) fun d M1 => match truD d M1 with
  | some b => some (.ok b M1)
  | none => none
section
variable {X : Cx} {E : XW} {pos : Pos} {a b c : Expr} {da db dc : DE} {ta tb : DT} {rest : List Expr}
theorem GoT.step {K : PySem.W.Frag} {E : XW} {ι ι1 : List Addr} {H H1 : Hp} {σ : L2.St} {Q : Bool → Hp → Prop} {d : Bool} {M : Sto} (g : GoT K E ι H σ Q (.ok d M)) (e : Ext K ι H ι1 H1) (R : Rep K ι1 M H1) : Q d H1 := g.1 d M rfl ι1 H1 e R
theorem sim_test {K : PySem.W.Frag} : ∀ σ H Q, UT K E (dTest da) σ H Q → tTest (UE K E da) σ H Q := fun σ H Q ⟨ι, ρ, M, r, R, S, h, g⟩ =>
  UE.go R S h g.2 fun d M1 _ h1 ι1 x H1 e1 R1 V1 S1 gx1 => by
    cases d with
    | bl b =>
      cases h1
      exact ⟨b, V1, g.step e1 R1⟩
    | _ => cases h1
theorem ptd_cmp {op : CmpOp} {r : R2} {f : D2} (ho : OpR X (compareOp op) r) (s : Sim2 X.K r f) (ha : PED X E a da) (hb : PED X E b db) (hm : behindInMarks op b = false := by first | exact nobehind _ (by decide) (by decide) | rfl) : PTD X E (.Compare a [op] [b] pos) (dTest (dOp f da db)) := by
  refine PT.imp (pt_cmpR ho ha hb hm) fun σ H Q h => ?_
  obtain ⟨ι, ρ, M, r', R, S, h, g⟩ := sim_test σ H Q h
  exact sim_op s σ H _ ⟨ι, ρ, M, r', R, S, h, g⟩
theorem ptd_tru (ha : PED X E a da) (he : ∀ whole, isTrue a X.env whole = (do let v ← whole; standAt a.pos; holding [v] (truthy v)) := by intro _; rfl) : PTD X E a (dTru da) := by
  refine PT.imp (pt_truth ha he) fun σ H Q ⟨ι, ρ, M, r, R, S, h, g⟩ => ?_
  refine UE.go R S h g.2 fun d M1 _ h1 ι1 x H1 e1 R1 V1 S1 gx1 => ?_
  cases ht : truD d M1 with
  | none => simp only [ht] at h1; cases h1
  | some b =>
    simp only [ht] at h1
    cases h1
    exact ⟨b, truD_ok R1 V1 ht, g.step e1 R1⟩
def dNotT (t : DT) : DT := fun ρ M => bnd (t ρ M) fun b M1 => some (.ok (!b) M1)
theorem ptd_not (ha : PTD X E a ta) : PTD X E (.UnaryOp .Not a pos) (dNotT ta) := by
  refine PT.imp (pt_not ha) fun σ H Q ⟨ι, ρ, M, r, R, S, h, g⟩ => ?_
  refine UT.go R S h g.2 fun d M1 _ h1 ι1 H1 e1 R1 S1 gx1 => ?_
  cases h1
  exact g.step e1 R1
def dAndT (t u : DT) : DT := fun ρ M => bnd (t ρ M) fun b M1 => if b = true then u ρ M1 else some (.ok false M1)
def dOrT (t u : DT) : DT := fun ρ M => bnd (t ρ M) fun b M1 => if b = true then some (.ok true M1) else u ρ M1
theorem pwd_and1 (ha : PTD X E a ta) : PWD X E (.BoolOp .And [a] pos) ta := pw_and1 ha
theorem pwd_or1 (ha : PTD X E a ta) : PWD X E (.BoolOp .Or [a] pos) ta := pw_or1 ha
theorem pwd_and (ha : PTD X E a ta) (hb : PWD X E (.BoolOp .And (b :: rest) pos) tb) : PWD X E (.BoolOp .And (a :: b :: rest) pos) (dAndT ta tb) := by
  refine PW.imp (pw_and ha hb) fun σ H Q ⟨ι, ρ, M, r, R, S, h, g⟩ => ?_
  refine UT.go R S h g.2 fun d M1 _ h1 ι1 H1 e1 R1 S1 gx1 => ?_
  cases d with
  | true => exact ⟨ι1, ρ, M1, r, R1, S1, h1, g.mono e1⟩
  | false =>
    cases h1
    exact g.step e1 R1
theorem pwd_or (ha : PTD X E a ta) (hb : PWD X E (.BoolOp .Or (b :: rest) pos) tb) : PWD X E (.BoolOp .Or (a :: b :: rest) pos) (dOrT ta tb) := by
  refine PW.imp (pw_or ha hb) fun σ H Q ⟨ι, ρ, M, r, R, S, h, g⟩ => ?_
  refine UT.go R S h g.2 fun d M1 _ h1 ι1 H1 e1 R1 S1 gx1 => ?_
  cases d with
  | false => exact ⟨ι1, ρ, M1, r, R1, S1, h1, g.mono e1⟩
  | true =>
    cases h1
    exact g.step e1 R1
theorem ptd_bool {op : BoolOp} {l : List Expr} (h : PWD X E (.BoolOp op l pos) ta) : PTD X E (.BoolOp op l pos) ta := PW.pt h
/-- and, or, not as values -/
def dAnd (da db : DE) : DE := fun ρ M => bnd (da ρ M) fun d M1 => match truD d M1 with
  | some true => db ρ M1
  | some false => some (.ok d M1)
  | none => none
def dOr (da db : DE) : DE := fun ρ M => bnd (da ρ M) fun d M1 => match truD d M1 with
  | some true => some (.ok d M1)
  | some false => db ρ M1
  | none => none
def dNot (da : DE) : DE := fun ρ M => bnd (da ρ M) fun d M1 => match truD d M1 with
  | some b => some (.ok (.bl (!b)) M1)
  | none => none
theorem ped_one {op : BoolOp} (h : PED X E a da) : PED X E (.BoolOp op [a] pos) da := pe_one h
theorem ped_and (ha : PED X E a da) (hb : PED X E (.BoolOp .And (b :: rest) pos) db) : PED X E (.BoolOp .And (a :: b :: rest) pos) (dAnd da db) := by
  refine PE.imp (pe_andT ha hb) fun σ H Q ⟨ι, ρ, M, r, R, S, h, g⟩ => ?_
  refine UE.go R S h g.2 fun d M1 _ h1 ι1 x H1 e1 R1 V1 S1 gx1 => ?_
  cases ht : truD d M1 with
  | none => simp only [ht] at h1; cases h1
  | some c =>
    simp only [ht] at h1
    refine ⟨c, truD_ok R1 V1 ht, ?_⟩
    cases c with
    | true => exact iteT ⟨ι1, ρ, M1, r, R1, S1, h1, g.mono e1⟩
    | false =>
      cases h1
      exact iteF (g.step e1 R1 V1)
theorem ped_or (ha : PED X E a da) (hb : PED X E (.BoolOp .Or (b :: rest) pos) db) : PED X E (.BoolOp .Or (a :: b :: rest) pos) (dOr da db) := by
  refine PE.imp (pe_orT ha hb) fun σ H Q ⟨ι, ρ, M, r, R, S, h, g⟩ => ?_
  refine UE.go R S h g.2 fun d M1 _ h1 ι1 x H1 e1 R1 V1 S1 gx1 => ?_
  cases ht : truD d M1 with
  | none => simp only [ht] at h1; cases h1
  | some c =>
    simp only [ht] at h1
    refine ⟨c, truD_ok R1 V1 ht, ?_⟩
    cases c with
    | false => exact iteF ⟨ι1, ρ, M1, r, R1, S1, h1, g.mono e1⟩
    | true =>
      cases h1
      exact iteT (g.step e1 R1 V1)
theorem ped_not (ha : PED X E a da) : PED X E (.UnaryOp .Not a pos) (dNot da) := by
  refine PE.imp (pe_notT ha) fun σ H Q ⟨ι, ρ, M, r, R, S, h, g⟩ => ?_
  refine UE.go R S h g.2 fun d M1 _ h1 ι1 x H1 e1 R1 V1 S1 gx1 => ?_
  cases ht : truD d M1 with
  | none => simp only [ht] at h1; cases h1
  | some c =>
    simp only [ht] at h1
    cases h1
    exact ⟨c, truD_ok R1 V1 ht, g.step e1 R1 rfl⟩
def dIf (t : DT) (da db : DE) : DE := fun ρ M => bnd (t ρ M) fun b M1 => if b = true then da ρ M1 else db ρ M1
theorem ped_if (hc : PTD X E c ta) (ha : PED X E a da) (hb : PED X E b db) : PED X E (.IfExp c a b pos) (dIf ta da db) := by
  refine PE.imp (pe_ifExp hc ha hb) fun σ H Q ⟨ι, ρ, M, r, R, S, h, g⟩ => ?_
  refine UT.go R S h g.2 fun d M1 _ h1 ι1 H1 e1 R1 S1 gx1 => ?_
  cases d with
  | true => exact iteT ⟨ι1, ρ, M1, r, R1, S1, h1, g.mono e1⟩
  | false => exact iteF ⟨ι1, ρ, M1, r, R1, S1, h1, g.mono e1⟩
/-- a op b op' c -/
def dChain (f f' : D2) (da db dc : DE) : DE := fun ρ M => bnd (da ρ M) fun x M1 => bnd (db ρ M1) fun y M2 => match f x y M2 with
  | some (.bl true, M3) => bnd (dc ρ M3) fun z M4 => (match f' y z M4 with
    | some (w, M5) => some (.ok w M5)
    | none => none)
  | some (.bl false, M3) => some (.ok (.bl false) M3)
  | _ => none
theorem sim_chain {K : PySem.W.Frag} {r r' : R2} {f f' : D2} (s : Sim2 K r f) (s' : Sim2 K r' f') : ∀ σ H Q, UE K E (dChain f f' da db dc) σ H Q → tChain r r' (UE K E da) (UE K E db) (UE K E dc) σ H Q := fun σ H Q ⟨ι, ρ, M, q, R, S, h, g⟩ =>
  UE.go R S h g.2 fun d M1 _ h1 ι1 x H1 e1 R1 V1 S1 gx1 => UE.go R1 S1 h1 gx1 fun d2 M2 _ h2 ι2 y H2 e2 R2 V2 S2 gx2 => by
    cases hf : f d d2 M2 with
    | none => simp only [hf] at h2; cases h2
    | some p =>
      obtain ⟨z, M3⟩ := p
      simp only [hf] at h2
      cases z with
      | bl b =>
        refine s ι2 M2 H2 x y d d2 _ M3 _ R2 (DV.mono e2 d x V1) V2 hf fun ι3 v H3 e3 R3 V3 => ⟨b, V3, ?_⟩
        cases b with
        | false =>
          cases h2
          exact iteF (g.step ((e1.trans e2).trans e3) R3 rfl)
        | true =>
          refine iteT (UE.go R3 (S2.mono e3) h2 (gx2.mono e3) fun d4 M4 _ h4 ι4 w H4 e4 R4 V4 S4 gx4 => ?_)
          cases hf4 : f' d2 d4 M4 with
          | none => simp only [hf4] at h4; cases h4
          | some p =>
            obtain ⟨z5, M5⟩ := p
            simp only [hf4] at h4
            cases h4
            exact s' ι4 M4 H4 y w d2 d4 z5 M5 Q R4 (DV.mono (e3.trans e4) d2 y V2) V4 hf4 fun ι5 v5 H5 e5 R5 V5 => g.step ((((e1.trans e2).trans e3).trans e4).trans e5) R5 V5
      | _ => cases h2
theorem ped_chain {op op' : CmpOp} {r r' : R2} {f f' : D2} (ho : OpR X (compareOp op) r) (s : Sim2 X.K r f) (ho' : OpR X (compareOp op') r') (s' : Sim2 X.K r' f') (ha : PED X E a da) (hb : PED X E b db) (hc : PED X E c dc)
    (hm : lastMarks [op, op'] [b, c] = false := by with_unfolding_all rfl) : PED X E (.Compare a [op, op'] [b, c] pos) (dChain f f' da db dc) := PE.imp (pe_chain ho ho' ha hb hc hm) (sim_chain s s')
theorem ptd_chain {op op' : CmpOp} {r r' : R2} {f f' : D2} (ho : OpR X (compareOp op) r) (s : Sim2 X.K r f) (ho' : OpR X (compareOp op') r') (s' : Sim2 X.K r' f') (ha : PED X E a da) (hb : PED X E b db) (hc : PED X E c dc)
    (hm : lastMarks [op, op'] [b, c] = false := by with_unfolding_all rfl) : PTD X E (.Compare a [op, op'] [b, c] pos) (dTest (dChain f f' da db dc)) := by
  refine PT.imp (pt_chain ho ho' ha hb hc hm) fun σ H Q h => ?_
  exact sim_chain s s' σ H _ (sim_test σ H Q h)
end

/-! ### arguments, displays -/
def dNil : DA := fun _ M => some (.ok [] M)
def dCons (de : DE) (da : DA) : DA := fun ρ M => bnd (de ρ M) fun d M1 => bnd (da ρ M1) fun ds M2 => some (.ok (d :: ds) M2)
/-- the items of a tuple, of a list -/
def itemsD : D → Sto → Option (List D)
  | .tup ds, _ => some ds
  | .obj n, M => match M[n]? with
    | some (.lst ds) => some ds
    | _ => none
  | _, _ => none
def dStar (de : DE) (da : DA) : DA := fun ρ M => bnd (de ρ M) fun d M1 => match itemsD d M1 with
  | some xs => bnd (da ρ M1) fun ds M2 => some (.ok (xs ++ ds) M2)
  | none => none
theorem itemsD_ok {K : PySem.W.Frag} {ι : List Addr} {H : Hp} {M : Sto} {d : D} {v : V} {ds : List D} (R : Rep K ι M H) (h : DV K ι H d v) (t : itemsD d M = some ds) : ∃ a xs, v = .ref a ∧ (SqT K H a xs ∨ SqL K H a xs) ∧ DVs K ι H ds xs := by
  cases d with
  | tup es =>
    obtain ⟨a, xs, rfl, h2, h3⟩ := h
    cases t
    exact ⟨a, xs, rfl, .inl h2, h3⟩
  | obj n =>
    obtain ⟨a, rfl, h2⟩ := h
    simp only [itemsD] at t
    split at t
    · rename_i es hm
      cases t
      obtain ⟨xs, e1, e2⟩ := R.lst h2 hm
      exact ⟨a, xs, rfl, .inr (SqL.of e1), e2⟩
    · cases t
  | _ => cases t
section
variable {X : Cx} {E : XW} {pos : Pos} {e : Expr} {es : List Expr} {de : DE} {da : DA}
theorem GoA.step {K : PySem.W.Frag} {E : XW} {ι ι1 : List Addr} {H H1 : Hp} {σ : L2.St} {Q : List V → Hp → Prop} {d : List D} {M : Sto} {vs : List V} (g : GoA K E ι H σ Q (.ok d M)) (e : Ext K ι H ι1 H1) (R : Rep K ι1 M H1) (h : DVs K ι1 H1 d vs) : Q vs H1 := g.1 d M rfl ι1 vs H1 e R h
theorem pad_nil : PAD X E [] dNil := PA.imp pa_nil fun σ H Q ⟨ι, ρ, M, r, R, S, h, g⟩ => by
  cases h
  exact g.step Ext.refl R rfl
theorem pad_cons (ha : PED X E e de) (hr : PAD X E es da) (hs : starEach (e :: es) X.env = (false, eval e X.env) :: starEach es X.env := by rfl) : PAD X E (e :: es) (dCons de da) :=
  PA.imp (pa_cons ha hr hs) fun σ H Q ⟨ι, ρ, M, r, R, S, h, g⟩ =>
    UE.go R S h g.2 fun d M1 _ h1 ι1 x H1 e1 R1 V1 S1 gx1 => UA.go R1 S1 h1 gx1 fun ds M2 _ h2 ι2 xs H2 e2 R2 V2 S2 gx2 => by
      cases h2
      exact g.step (e1.trans e2) R2 ⟨x, xs, rfl, DV.mono e2 d x V1, V2⟩
theorem pad_star {p : Pos} (ha : PED X E e de) (hr : PAD X E es da) (hs : starEach (.Starred e p :: es) X.env = (true, eval e X.env) :: starEach es X.env := by rfl) : PAD X E (.Starred e p :: es) (dStar de da) :=
  PA.imp (StX.pa_star ha hr hs) fun σ H Q ⟨ι, ρ, M, r, R, S, h, g⟩ =>
    UE.go R S h g.2 fun d M1 _ h1 ι1 x H1 e1 R1 V1 S1 gx1 => by
      cases hi : itemsD d M1 with
      | none => simp only [hi] at h1; cases h1
      | some ws =>
        simp only [hi] at h1
        obtain ⟨a, xs, rfl, hx, hv⟩ := itemsD_ok R1 V1 hi
        refine ⟨a, xs, rfl, hx, UA.go R1 S1 h1 gx1 fun ds M2 _ h2 ι2 ys H2 e2 R2 V2 S2 gx2 => ?_⟩
        cases h2
        exact g.step (e1.trans e2) R2 ((DVs.mono e2 _ _ hv).append V2)
def dTup (da : DA) : DE := fun ρ M => bnd (da ρ M) fun ds M1 => if ds.length ≤ sizeLine then some (.ok (.tup ds) M1) else none
def dLst (da : DA) : DE := fun ρ M => bnd (da ρ M) fun ds M1 => if ds.length ≤ sizeLine then some (.ok (.obj M1.length) (M1 ++ [.lst ds])) else none
theorem ped_tup {x1} (h : PAD X E es da) : PED X E (.Tuple es x1 pos) (dTup da) :=
  PE.imp (pe_tup h) fun σ H Q ⟨ι, ρ, M, r, R, S, h, g⟩ => UA.go R S h g.2 fun ds M1 _ h1 ι1 xs H1 e1 R1 V1 S1 gx1 => by
    split at h1
    · rename_i hl
      cases h1
      refine ⟨by rw [DVs.length V1]; exact hl, fun p hp => ?_⟩
      obtain ⟨R2, e2, V2⟩ := R1.newT hp V1
      exact g.step (e1.trans e2) R2 V2
    · cases h1
theorem ped_lst (h : PAD X E es da) : PED X E (.List es pos) (dLst da) :=
  PE.imp (pe_lst h) fun σ H Q ⟨ι, ρ, M, r, R, S, h, g⟩ => UA.go R S h g.2 fun ds M1 _ h1 ι1 xs H1 e1 R1 V1 S1 gx1 => by
    split at h1
    · rename_i hl
      cases h1
      refine ⟨by rw [DVs.length V1]; exact hl, fun p hp => ?_⟩
      obtain ⟨R2, e2, V2⟩ := R1.newL hp V1
      exact g.step (e1.trans e2) R2 V2
    · cases h1
end
end DL
set_option maxHeartbeats 4000000
namespace DL
open PySem PySem.Spec PyProof.Rows L2

/-! ### subscripts -/
def fIx : D2 := fun x y M => match x, y with
  | .tup ds, .int i => (match atI ds i with
    | some d => some (d, M)
    | none => none)
  | .obj n, .int i => (match M[n]? with
    | some (.lst ds) => (match atI ds i with
      | some d => some (d, M)
      | none => none)
    | _ => none)
  | .str z, .int i => if z.length ≤ sizeLine then (match atI z.cps.toList i with
    | some c => some (.str ⟨#[c]⟩, M)
    | none => none) else none
  | _, _ => none
theorem atI_len {α β : Type} {xs : List α} {ys : List β} (h : ys.length = xs.length) (i : Int) : ixN ys.length i = ixN xs.length i := by rw [h]
theorem DVs.atI {K : PySem.W.Frag} {ι : List Addr} {H : Hp} {ds : List D} {xs : List V} {i : Int} {d : D} (h : DVs K ι H ds xs) (e : L2.atI ds i = some d) : ∃ v, L2.atI xs i = some v ∧ DV K ι H d v := by
  unfold L2.atI at e ⊢
  rw [DVs.length h]
  cases hj : ixN ds.length i with
  | none => rw [hj] at e; cases e
  | some j =>
    rw [hj] at e
    exact DVs.get h e
theorem sim_ix {K : PySem.W.Frag} : Sim2 K (rIx K) fIx := by
  intro ι M H x y d e z M1 Q R V W hf k
  cases d with
  | tup ds =>
    cases e with
    | int i =>
      obtain ⟨a, xs, rfl, h2, h3⟩ := V
      rw [show y = _ from W]
      simp only [fIx] at hf
      cases ha : atI ds i with
      | none => rw [ha] at hf; cases hf
      | some w =>
        rw [ha] at hf
        cases hf
        obtain ⟨v, hv, rv⟩ := h3.atI ha
        exact .inr (.inl ⟨a, xs, i, v, rfl, rfl, h2, hv, k ι v H Ext.refl R rv⟩)
    | _ => cases hf
  | obj n =>
    cases e with
    | int i =>
      obtain ⟨a, rfl, h2⟩ := V
      rw [show y = _ from W]
      simp only [fIx] at hf
      split at hf
      · rename_i ds hm
        cases ha : atI ds i with
        | none => rw [ha] at hf; cases hf
        | some w =>
          rw [ha] at hf
          cases hf
          obtain ⟨xs, e1, e2⟩ := R.lst h2 hm
          obtain ⟨v, hv, rv⟩ := e2.atI ha
          exact .inl ⟨a, xs, i, v, rfl, rfl, SqL.of e1, hv, k ι v H Ext.refl R rv⟩
      · cases hf
    | _ => cases hf
  | str s =>
    cases e with
    | int i =>
      rw [show x = _ from V, show y = _ from W]
      simp only [fIx] at hf
      split at hf
      · rename_i hl
        cases ha : atI s.cps.toList i with
        | none => rw [ha] at hf; cases hf
        | some w =>
          rw [ha] at hf
          cases hf
          exact .inr (.inr ⟨s, i, w, rfl, rfl, hl, ha, k ι _ H Ext.refl R rfl⟩)
      · cases hf
    | _ => cases hf
  | _ => cases hf
section
variable {X : Cx} {E : XW} {pos : Pos} {a b : Expr} {da db : DE}
theorem ped_ix (ha : PED X E a da) (hb : PED X E b db) (hs : PlainIx b := by exact fun _ _ => rfl) : PED X E (.Subscript a b pos) (dOp fIx da db) := PE.imp (pe_ix ix_seq ha hb hs) (sim_op sim_ix)
end
/-! ### slices -/
abbrev DO := LE → Sto → Option (Rs (Option Int))
def dNoP : DO := fun _ M => some (.ok none M)
def dPart (de : DE) : DO := fun ρ M => bnd (de ρ M) fun d M1 => match d with
  | .int i => some (.ok (some i) M1)
  | _ => none
def cutD (xs : List D) (lo hi : Option Int) : List D := (xs.drop (HT.sIx xs.length 0 lo)).take (HT.sIx xs.length xs.length hi - HT.sIx xs.length 0 lo)
theorem DVs.cut {K : PySem.W.Frag} {ι : List Addr} {H : Hp} {ds : List D} {xs : List V} (h : DVs K ι H ds xs) (lo hi : Option Int) : DVs K ι H (cutD ds lo hi) (cutV xs lo hi) := by
  unfold cutD cutV
  rw [DVs.length h]
  exact (h.drop _).take _
def fSl : D → Option Int → Option Int → Sto → Option (D × Sto) := fun x lo hi M => match x with
  | .tup ds => some (.tup (cutD ds lo hi), M)
  | .obj n => (match M[n]? with
    | some (.lst ds) => some (.obj M.length, M ++ [.lst (cutD ds lo hi)])
    | _ => none)
  | .scr zs => some (.obj M.length, M ++ [.lst (cutD (zs.map D.int) lo hi)])
  | _ => none
theorem DVs.ints {K : PySem.W.Frag} {ι : List Addr} {H : Hp} : ∀ zs : List Int, DVs K ι H (zs.map D.int) (zs.map V.int)
  | [] => rfl
  | z :: zs => ⟨_, _, rfl, rfl, DVs.ints zs⟩
def dSl (de : DE) (dl dh : DO) : DE := fun ρ M => bnd (de ρ M) fun x M1 => bnd (dl ρ M1) fun l M2 => bnd (dh ρ M2) fun h M3 => match fSl x l h M3 with
  | some (z, M4) => some (.ok z M4)
  | none => none
def GoO (K : PySem.W.Frag) (E : XW) (ι : List Addr) (H : Hp) (σ : L2.St) (Q : Option Int → Hp → Prop) (r : Rs (Option Int)) : Prop := (∀ b M1, r = .ok b M1 → ∀ ι1 H1, Ext K ι H ι1 H1 → Rep K ι1 M1 H1 → Q b H1) ∧ GX K E ι H σ r
def UO (K : PySem.W.Frag) (E : XW) (de : DO) : TO := fun σ H Q => ∃ ι ρ M r, Rep K ι M H ∧ Slots K ι H σ ρ ∧ de ρ M = some r ∧ GoO K E ι H σ Q r
def POD (X : Cx) (E : XW) (e : Option Expr) (de : DO) : Prop := PO X e (UO X.K E de)
theorem PO.imp {X : Cx} {e : Option Expr} {t t' : TO} (h : PO X e t) (i : ∀ σ H Q, t' σ H Q → t σ H Q) : PO X e t' := ⟨fun pins s σ H Q I q => h.run pins s σ H Q I (i σ H Q q)⟩
theorem UO.go {K : PySem.W.Frag} {E : XW} {ι : List Addr} {M : Sto} {H : Hp} {σ : L2.St} {ρ : LE} {β : Type} {r : Rs β} {da : DO} {k : Option Int → Sto → Option (Rs β)} {P : Option Int → Hp → Prop} (R : Rep K ι M H) (S : Slots K ι H σ ρ) (h : bnd (da ρ M) k = some r) (gx : GX K E ι H σ r)
    (hok : ∀ d M1, da ρ M = some (.ok d M1) → k d M1 = some r → ∀ ι1 H1, Ext K ι H ι1 H1 → Rep K ι1 M1 H1 → Slots K ι1 H1 σ ρ → GX K E ι1 H1 σ r → P d H1) : UO K E da σ H P := by
  cases hd : da ρ M with
  | none => rw [hd] at h; cases h
  | some q =>
    refine ⟨ι, ρ, M, q, R, S, hd, ?_⟩
    rw [hd] at h
    cases q with
    | ok d M1 => exact ⟨fun d' M' q => (by cases q; exact fun ι1 H1 e R1 => hok d M1 hd h ι1 H1 e R1 (S.mono e) (gx.mono e)), GX.ok⟩
    | ex x M1 =>
      refine ⟨fun d' M' q => (by cases q), fun y M' q => ?_⟩
      cases q
      have h' : some (Rs.ex x M1) = some r := h
      cases h'
      exact gx x M1 rfl
section
variable {X : Cx} {E : XW} {pos p2 : Pos} {e : Expr} {lo hi : Option Expr} {de : DE} {dl dh : DO}
theorem pod_none : POD X E none dNoP := PO.imp po_none fun σ H Q ⟨ι, ρ, M, r, R, S, h, g⟩ => by
  cases h
  exact g.1 none M rfl ι H Ext.refl R
theorem pod_some (h : PED X E e de) : POD X E (some e) (dPart de) := PO.imp (po_some h) fun σ H Q ⟨ι, ρ, M, r, R, S, h, g⟩ => by
  refine UE.go R S h g.2 fun d M1 _ h1 ι1 x H1 e1 R1 V1 S1 gx1 => ?_
  cases d with
  | int i =>
    cases h1
    exact ⟨i, V1, g.1 _ _ rfl ι1 H1 e1 R1⟩
  | _ => cases h1
theorem ped_slice (he : PED X E e de) (hl : POD X E lo dl) (hh : POD X E hi dh) : PED X E (.Subscript e (.Slice lo hi none p2) pos) (dSl de dl dh) := by
  refine PE.imp (pe_slice (sl_list.or sl_tupA) he hl hh) fun σ H Q ⟨ι, ρ, M, r, R, S, h, g⟩ => ?_
  refine UE.go R S h g.2 fun d M1 _ h1 ι1 x H1 e1 R1 V1 S1 gx1 => UO.go R1 S1 h1 gx1 fun l M2 _ h2 ι2 H2 e2 R2 S2 gx2 => UO.go R2 S2 h2 gx2 fun u M3 _ h3 ι3 H3 e3 R3 S3 gx3 => ?_
  have V3 := DV.mono (e2.trans e3) d x V1
  have e13 := (e1.trans e2).trans e3
  cases d with
  | tup ds =>
    cases h3
    obtain ⟨a, xs, rfl, hx, hv⟩ := V3
    refine .inr ⟨a, xs, rfl, hx, fun hw => g.step e13 R3 ⟨a, xs, rfl, hx, ?_⟩, fun _ p hp => ?_⟩
    · have hl := DVs.length hv
      have e : cutD ds l u = ds := by
        unfold cutD
        rw [← hl, hw.1, hw.2, List.drop_zero, Nat.sub_zero, hl, List.take_length]
      rw [e]; exact hv
    · obtain ⟨R4, e4, V4⟩ := R3.newT hp (hv.cut l u)
      exact g.step (e13.trans e4) R4 V4
  | obj n =>
    obtain ⟨a, rfl, hn⟩ := V3
    cases hm : M3[n]? with
    | none => simp only [fSl, hm] at h3; cases h3
    | some o =>
      cases o with
      | lst ds =>
        simp only [fSl, hm] at h3
        cases h3
        obtain ⟨xs, hx, hv⟩ := R3.lst hn hm
        refine .inl ⟨a, xs, rfl, SqL.of hx, fun p hp => ?_⟩
        obtain ⟨R4, e4, V4⟩ := R3.newL hp (hv.cut l u)
        exact g.step (e13.trans e4) R4 V4
      | _ => simp only [fSl, hm] at h3; cases h3
  | scr zs =>
    obtain ⟨a, rfl, hf⟩ := V3
    cases h3
    refine .inl ⟨a, _, rfl, hf.seq, fun p hp => ?_⟩
    obtain ⟨R4, e4, V4⟩ := R3.newL hp ((DVs.ints zs).cut l u)
    exact g.step (e13.trans e4) R4 V4
  | _ => cases h3
end

/-! ### calls of built-ins -/
abbrev DCf := List D → Sto → Option (D × Sto)
def dCB (f : DCf) (da : DA) : DE := fun ρ M => bnd (da ρ M) fun ds M1 => match f ds M1 with
  | some (z, M2) => some (.ok z M2)
  | none => none
def SimC (K : PySem.W.Frag) (r : List V → Hp → VK → Prop) (f : DCf) : Prop := ∀ ι M H xs ds z M1 (Q : VK), Rep K ι M H → DVs K ι H ds xs → f ds M = some (z, M1) →
  (∀ ι1 v H1, Ext K ι H ι1 H1 → Rep K ι1 M1 H1 → DV K ι1 H1 z v → Q v H1) → r xs H Q
section
variable {X : Cx} {E : XW} {pos p : Pos} {e : Expr} {es : List Expr} {da : DA}
theorem sim_cb {K : PySem.W.Frag} {r : List V → Hp → VK → Prop} {f : DCf} (s : SimC K r f) : ∀ σ H Q, UE K E (dCB f da) σ H Q → tCB r (UA K E da) σ H Q := fun σ H Q ⟨ι, ρ, M, q, R, S, h, g⟩ =>
  UA.go R S h g.2 fun ds M1 _ h1 ι1 xs H1 e1 R1 V1 S1 gx1 => by
    cases hf : f ds M1 with
    | none => simp only [hf] at h1; cases h1
    | some p =>
      obtain ⟨z, M2⟩ := p
      simp only [hf] at h1
      cases h1
      exact s ι1 M1 H1 xs ds z M2 Q R1 V1 hf fun ι2 v H2 e2 R2 V2 => g.step (e1.trans e2) R2 V2
theorem ped_callB {x : Str} {id : String} {r : List V → Hp → VK → Prop} {f : DCf} (hc : CallR X (.builtin id) r) (s : SimC X.K r f) (hm : X.mg x = none) (hv : bootBuiltins x = some (.builtin id)) (ha : PAD X E (e :: es) da) (hg : Gl X x := by rfl)
    (hn : x ≠ "__name__" := by decide) (hdb : (x == ("__debug__" : Str)) = false := by decide)
    (he : starEach (e :: es) X.env = (false, eval e X.env) :: starEach es X.env := by rfl) (hpl : (backTo pos (starEach es X.env)).any (·.1) = false := by rfl) : PED X E (.Call (.Name x p) (e :: es) [] pos) (dCB f da) := PE.imp (pe_callB hc hg hm hv ha hn hdb he hpl) (sim_cb s)
theorem ped_callTy {x : Str} {T : String} {r : List V → Hp → VK → Prop} {f : DCf} (hc : CallR X (.type T) r) (s : SimC X.K r f) (hm : X.mg x = none) (hv : bootBuiltins x = some (.type T)) (ha : PAD X E (e :: es) da) (hg : Gl X x := by rfl)
    (hn : x ≠ "__name__" := by decide) (hdb : (x == ("__debug__" : Str)) = false := by decide)
    (he : starEach (e :: es) X.env = (false, eval e X.env) :: starEach es X.env := by rfl) (hpl : (backTo pos (starEach es X.env)).any (·.1) = false := by rfl) : PED X E (.Call (.Name x p) (e :: es) [] pos) (dCB f da) := PE.imp (pe_callTy hc hg hm hv ha hn hdb he hpl) (sim_cb s)
end

/-! ### built-in methods -/
abbrev DMf := D → List D → Sto → Option (D × Sto)
/-- the kind of a receiver -/
def tyD (T : String) : D → Sto → Bool
  | .str _, _ => T == "str"
  | .int _, _ => T == "int"
  | .obj n, M => match M[n]? with
    | some (.lst _) => T == "list"
    | _ => false
  | _, _ => false
def dBM (T : String) (f : DMf) (do_ : DE) (da : DA) : DE := fun ρ M => bnd (do_ ρ M) fun x M1 => if tyD T x M1 then bnd (da ρ M1) fun ds M2 => (match f x ds M2 with
  | some (z, M3) => some (.ok z M3)
  | none => none) else none
def SimM (K : PySem.W.Frag) (r : V → List V → Hp → VK → Prop) (f : DMf) : Prop := ∀ ι M H x d xs ds z M1 (Q : VK), Rep K ι M H → DV K ι H d x → DVs K ι H ds xs → f d ds M = some (z, M1) →
  (∀ ι1 v H1, Ext K ι H ι1 H1 → Rep K ι1 M1 H1 → DV K ι1 H1 z v → Q v H1) → r x xs H Q
theorem tyD_ok {K : PySem.W.Frag} {ι : List Addr} {H : Hp} {M : Sto} {T : String} {d : D} {v : V} (R : Rep K ι M H) (h : DV K ι H d v) (t : tyD T d M = true) : tyV K T v H := by
  cases d with
  | str y => rw [show v = _ from h]; exact eq_of_beq t
  | int y => rw [show v = _ from h]; exact eq_of_beq t
  | obj n =>
    obtain ⟨a, rfl, h2⟩ := h
    simp only [tyD] at t
    split at t
    · rename_i es hm
      obtain ⟨xs, e1, e2⟩ := R.lst h2 hm
      exact .inl ⟨eq_of_beq t, xs, SqL.of e1⟩
    · cases t
  | _ => cases t
section
variable {X : Cx} {E : XW} {pos apos cpos : Pos} {o e : Expr} {es : List Expr} {do_ : DE} {da : DA} {T id : String} {name : Str} {r : V → List V → Hp → VK → Prop} {f : DMf}
theorem sim_bm {K : PySem.W.Frag} (s : SimM K r f) : ∀ σ H Q, UE K E (dBM T f do_ da) σ H Q → tBM K T r (UE K E do_) (UA K E da) σ H Q := fun σ H Q ⟨ι, ρ, M, q, R, S, h, g⟩ =>
  UE.go R S h g.2 fun d M1 _ h1 ι1 x H1 e1 R1 V1 S1 gx1 => by
    split at h1
    · rename_i ht
      refine ⟨tyD_ok R1 V1 ht, UA.go R1 S1 h1 gx1 fun ds M2 _ h2 ι2 xs H2 e2 R2 V2 S2 gx2 => ?_⟩
      cases hf : f d ds M2 with
      | none => simp only [hf] at h2; cases h2
      | some p =>
        obtain ⟨z, M3⟩ := p
        simp only [hf] at h2
        cases h2
        exact s ι2 M2 H2 x d xs ds z M3 Q R2 (DV.mono e2 d x V1) V2 hf fun ι3 v H3 e3 R3 V3 => g.step ((e1.trans e2).trans e3) R3 V3
    · cases h1
theorem ped_bm (pa : PlainAttrs T) (slot : Slot T name id) (hty : typeOf (.builtin id) = pure (.type "method_descriptor")) (hm : MtR X id r) (s : SimM X.K r f) (ho : PED X E o do_) (ha : PAD X E (e :: es) da)
    (hbase : attributeBase o name X.env (eval o X.env) = eval o X.env := by rfl)
    (hfew : ((backTo cpos (starEach (e :: es) X.env)).all (fun x => !x.1) && (backToKw cpos (keywordEach [] X.env)).all (fun x => x.1.isSome)
      && decide ((e :: es).length + ([] : List Keyword).length + (if ([] : List Keyword).isEmpty then 0 else 1) < 30)) = true := by rfl)
    (hline : (apos.endLine == cpos.line) = true := by rfl) (hs : starEach (e :: es) X.env = (false, eval e X.env) :: starEach es X.env := by rfl) (hplain : (backTo cpos (starEach es X.env)).any (·.1) = false := by rfl) :
    PED X E (.Call (.Attribute o name apos) (e :: es) [] cpos) (dBM T f do_ da) := PE.imp (pe_bm pa slot hty hm ho ha hbase hfew hline hs hplain) (sim_bm s)
theorem ped_bm0 (pa : PlainAttrs T) (slot : Slot T name id) (hty : typeOf (.builtin id) = pure (.type "method_descriptor")) (hm : MtR X id r) (s : SimM X.K r f) (ho : PED X E o do_)
    (hbase : attributeBase o name X.env (eval o X.env) = eval o X.env := by rfl) (hline : (apos.endLine == cpos.line) = true := by rfl) : PED X E (.Call (.Attribute o name apos) [] [] cpos) (dBM T f do_ dNil) := by
  refine PE.imp (pe_bm0 pa slot hty hm ho hbase hline) fun σ H Q ⟨ι, ρ, M, q, R, S, h, g⟩ => ?_
  refine UE.go R S h g.2 fun d M1 _ h1 ι1 x H1 e1 R1 V1 S1 gx1 => ?_
  split at h1
  · rename_i ht
    refine ⟨tyD_ok R1 V1 ht, ?_⟩
    simp only [dNil, bnd] at h1
    cases hf : f d [] M1 with
    | none => simp only [hf] at h1; cases h1
    | some p =>
      obtain ⟨z, M3⟩ := p
      simp only [hf] at h1
      cases h1
      exact s ι1 M1 H1 x d [] [] z M3 Q R1 V1 rfl hf fun ι3 v H3 e3 R3 V3 => g.step (e1.trans e3) R3 V3
  · cases h1
end
/-! ### the methods of lists -/
def fAppend : DMf := fun x vs M => match x, vs with
  | .obj n, [d] => (match M[n]? with
    | some (.lst ds) => if ds.length < sizeLine then some (.non, M.set n (.lst (ds ++ [d]))) else none
    | _ => none)
  | _, _ => none
theorem sim_append {K : PySem.W.Frag} : SimM K rAppend fAppend := by
  intro ι M H x d xs ds z M1 Q R V W hf k
  unfold fAppend at hf
  split at hf
  · rename_i n e
    split at hf
    · rename_i es hm
      split at hf
      · rename_i hl
        cases hf
        obtain ⟨a, rfl, hn⟩ := V
        obtain ⟨v, rfl, hv⟩ := DVs.one W
        obtain ⟨ys, h1, h2⟩ := R.lst hn hm
        obtain ⟨R1, e1⟩ := R.putL (ds := es) (es := es ++ [e]) (ys := ys ++ [v]) hn h1 (h2.append ⟨v, [], rfl, hv, rfl⟩)
        exact ⟨a, ys, v, rfl, rfl, h1, by rw [DVs.length h2]; exact hl, k _ _ _ e1 R1 rfl⟩
      · cases hf
    · cases hf
  · cases hf
def fPop : DMf := fun x vs M => match x, vs with
  | .obj n, [] => (match M[n]? with
    | some (.lst ds) => (match ds[ds.length - 1]? with
      | some d => some (d, M.set n (.lst ds.dropLast))
      | none => none)
    | _ => none)
  | _, _ => none
theorem DVs.dropLast {K : PySem.W.Frag} {ι : List Addr} {H : Hp} {ds : List D} {xs : List V} (h : DVs K ι H ds xs) : DVs K ι H ds.dropLast xs.dropLast := by
  rw [List.dropLast_eq_take, List.dropLast_eq_take, DVs.length h]
  exact h.take _
theorem sim_pop {K : PySem.W.Frag} : SimM K rPop fPop := by
  intro ι M H x d xs ds z M1 Q R V W hf k
  unfold fPop at hf
  split at hf
  · rename_i n
    split at hf
    · rename_i es hm
      split at hf
      · rename_i w hw
        cases hf
        obtain ⟨a, rfl, hn⟩ := V
        obtain ⟨ys, h1, h2⟩ := R.lst hn hm
        obtain ⟨v, hv1, hv2⟩ := DVs.get h2 hw
        obtain ⟨R1, e1⟩ := R.putL (ds := es) (es := es.dropLast) (ys := ys.dropLast) hn h1 h2.dropLast
        exact ⟨a, ys, v, rfl, W, h1, by rw [DVs.length h2]; exact hv1, k _ _ _ e1 R1 (DV.mono e1 _ _ hv2)⟩
      · cases hf
    · cases hf
  · cases hf
/-- extend by a list -/
def fExtL : DMf := fun x vs M => match x, vs with
  | .obj n, [.obj m] => (match M[n]?, M[m]? with
    | some (.lst ds), some (.lst es) => if ds.length + es.length ≤ sizeLine then some (.non, M.set n (.lst (ds ++ es))) else none
    | _, _ => none)
  | _, _ => none
theorem sim_extL {K : PySem.W.Frag} : SimM K rExtend fExtL := by
  intro ι M H x d xs ds z M1 Q R V W hf k
  unfold fExtL at hf
  split at hf
  · rename_i n m
    split at hf
    · rename_i es fs hm hm2
      split at hf
      · rename_i hl
        cases hf
        obtain ⟨a, rfl, hn⟩ := V
        obtain ⟨v, rfl, b, rfl, hb⟩ := DVs.one W
        obtain ⟨ys, h1, h2⟩ := R.lst hn hm
        obtain ⟨zs, h3, h4⟩ := R.lst hb hm2
        obtain ⟨R1, e1⟩ := R.putL (ds := es) (es := es ++ fs) (ys := ys ++ zs) hn h1 (h2.append h4)
        exact ⟨a, b, ys, zs, rfl, rfl, h1, h3, by rw [DVs.length h2, DVs.length h4]; exact hl, k _ _ _ e1 R1 rfl⟩
      · cases hf
    · cases hf
  · cases hf

end DL
set_option maxHeartbeats 4000000
namespace DL
open PySem PySem.Spec PyProof.Rows L2

/-! ### list.extend by a tuple -/
theorem extend_tuple (l : Addr) (items : Array Value) (n : Nat) (b : Addr) (items2 : Array Value) (n2 : Nat) (dd : Option Addr) (sl : Array (Option Value)) (hs0 : ¬(!items.isEmpty && Builtin.List.listTooLong (items.size + items2.size)) = true) (hs1 : items.size ≤ sizeLine) (hs2 : items.size + items2.size ≤ sizeLine + 1) :
    Meets (Builtin.«list.extend» ⟨[.ref l, .ref b], []⟩) (fun _ R s => s.heap.get? l = some { cls := .type "list", dict := none, data := .seq items n, slots := #[] } ∧ s.heap.get? b = some { cls := .type "tuple", dict := dd, data := .seq items2 n2, slots := sl } ∧ R (.ok (.ret Value.none)) { s with heap := s.heap.update l (Obj.mapSeq fun x => x ++ items2), toks := s.toks }) :=
  .of_wp fun prog w A R s h => by
    obtain ⟨hp, g, d, tk, os⟩ := s; obtain ⟨hl, hb, h⟩ := h; have f1 := AutoSeq1.idx_int; have f2 := AutoSeq1.sub_tuple_tuple; have f3 := AutoSeq1.sub_list_list; have f4 := AutoSeq1.sub_tuple_list; have f5 := AutoSeq1.sub_list_tuple;
    have hz' : (items ++ items2).size ≤ sizeLine + 1 := by rw [Array.size_append]; exact hs2
    wp_walk using (wpAny_updateSeq hl rfl (hz := hs1) (_hz' := hz')), AutoSeq1.wpAny_loadPart' hl, AutoSeq1.wpAny_loadPart' hb; exact ⟨_, rfl, h⟩
def rExtT (K : PySem.W.Frag) : V → List V → Hp → VK → Prop := fun x vs H Q => ∃ l b xs zs, x = .ref l ∧ vs = [.ref b] ∧ H l = some (.lst xs) ∧ SqT K H b zs ∧ xs.length + zs.length ≤ sizeLine ∧ Q .non (upd H l (.lst (xs ++ zs)))
theorem mt_extT {X : Cx} : MtM X "list.extend" (rExtT X.K) := by
  intro pins s σ H x vs v us Q I rx rv h
  obtain ⟨l, b, xs, zs, rfl, rfl, hH, hB, hz, q⟩ := h
  cases rx
  obtain ⟨u, rfl, ru⟩ := rv.one
  cases ru
  obtain ⟨z, its, n, r, hl, e⟩ := I.lstM hH
  obtain ⟨its2, r2, ⟨ob, e2, c2, n2, d2⟩, z2⟩ := I.tuple hB
  have hl2 := r2.length
  obtain ⟨oc, od, odt, osl⟩ := ob
  obtain rfl : oc = _ := c2
  obtain rfl : odt = _ := d2
  have hsz : its.toArray.size + its2.toArray.size ≤ sizeLine := by rw [List.size_toArray, List.size_toArray]; omega
  have hlong : ¬ (!its.toArray.isEmpty && Builtin.List.listTooLong (its.toArray.size + its2.toArray.size)) = true := by
    rw [notLongL hsz, Bool.and_false]
    exact Bool.false_ne_true
  refine call_meets F.slot_list_extend ⟨_, e, rfl⟩ F.entry_list_extend (F.args_list_extend_2 _ _)
    (extend_tuple l its.toArray n b its2.toArray n2 od osl hlong (by rw [List.size_toArray]; omega) (by omega)) ⟨e, e2, ?_⟩
  refine ⟨.non, _, I.lset (its' := its ++ its2) hH e (by simp) (r.append r2) ?_, rfl, q⟩
  rw [List.length_append]
  omega
/-- extend by a list or by a tuple -/
def fExt : DMf := fun x vs M => match x, vs with
  | .obj n, [y] => (match M[n]?, itemsD y M with
    | some (.lst ds), some es => if ds.length + es.length ≤ sizeLine then some (.non, M.set n (.lst (ds ++ es))) else none
    | _, _ => none)
  | _, _ => none
theorem mt_ext {X : Cx} : MtR X "list.extend" (fun x xs H Q => rExtend x xs H Q ∨ rExtT X.K x xs H Q) := MtR.or mt_extend mt_extT
theorem sim_ext {K : PySem.W.Frag} : SimM K (fun x xs H Q => rExtend x xs H Q ∨ rExtT K x xs H Q) fExt := by
  intro ι M H x d xs ds z M1 Q R V W hf k
  unfold fExt at hf
  split at hf
  · rename_i n y
    split at hf
    · rename_i es fs hm hm2
      split at hf
      · rename_i hl
        cases hf
        obtain ⟨a, rfl, hn⟩ := V
        obtain ⟨v, rfl, hv⟩ := DVs.one W
        obtain ⟨ys, h1, h2⟩ := R.lst hn hm
        cases y with
        | tup gs =>
          cases hm2
          obtain ⟨b, zs, rfl, h3, h4⟩ := hv
          obtain ⟨R1, e1⟩ := R.putL (ds := es) (es := es ++ fs) (ys := ys ++ zs) hn h1 (h2.append h4)
          exact .inr ⟨a, b, ys, zs, rfl, rfl, h1, h3, by rw [DVs.length h2, DVs.length h4]; exact hl, k _ _ _ e1 R1 rfl⟩
        | obj m =>
          obtain ⟨b, rfl, hb⟩ := hv
          simp only [itemsD] at hm2
          split at hm2
          · rename_i gs hm3
            cases hm2
            obtain ⟨zs, h3, h4⟩ := R.lst hb hm3
            obtain ⟨R1, e1⟩ := R.putL (ds := es) (es := es ++ fs) (ys := ys ++ zs) hn h1 (h2.append h4)
            exact .inl ⟨a, b, ys, zs, rfl, rfl, h1, h3, by rw [DVs.length h2, DVs.length h4]; exact hl, k _ _ _ e1 R1 rfl⟩
          · cases hm2
        | _ => cases hm2
      · cases hf
    · cases hf
  · cases hf

/-! ### x[::-1] -/
theorem places_rev (n : Nat) : Builtin.Slice.slicePlaces ((n : Int) - 1) (-1) (-1) = n := by
  unfold Builtin.Slice.slicePlaces
  have h1 : ¬ ((-1 : Int) > 0) := by omega
  simp only [h1, if_false]
  split
  · rw [show (- -1 : Int) = 1 by decide, Int.ediv_one]; omega
  · omega
theorem pick_rev (xs : Array Value) : ((List.range xs.size).filterMap fun (k : Nat) => xs[(((xs.size : Int) - 1) + (k : Int) * (-1)).toNat]?).toArray = xs.toList.reverse.toArray := by
  refine congrArg List.toArray ?_
  refine List.ext_getElem? fun i => ?_
  have gen : ∀ l : List Nat, (∀ k ∈ l, k < xs.size) → l.filterMap (fun (k : Nat) => xs[(((xs.size : Int) - 1) + (k : Int) * (-1)).toNat]?) = l.map (fun k => (xs[xs.size - 1 - k]?).getD .none) := by
    intro l
    induction l with
    | nil => intro _; rfl
    | cons k l ih =>
      intro hl
      have hk' := hl k List.mem_cons_self
      have e1 : (((xs.size : Int) - 1) + (k : Int) * (-1)).toNat = xs.size - 1 - k := by omega
      have hlt : xs.size - 1 - k < xs.size := by omega
      rw [List.filterMap_cons, e1, List.map_cons, ih fun j hj => hl j (List.mem_cons_of_mem _ hj)]
      simp [hlt]
  have e := gen (List.range xs.size) fun k hk => List.mem_range.mp hk
  rw [e]
  by_cases hi : i < xs.size
  · rw [List.getElem?_map, List.getElem?_range hi, List.getElem?_reverse (by simpa using hi)]
    have hlt : xs.size - 1 - i < xs.size := by omega
    simp [hlt]
  · rw [List.getElem?_eq_none (by simp; omega), List.getElem?_eq_none (by simp; omega)]
section
variable {prog : Program} {w : World} {A : Around} {E : Value → Shared → Prop} {s : Shared}
theorem sliceApplied_rev {sl : Addr} {tk : Tok} {n : Nat} {Q : Int × Int × Nat → Shared → Prop} (hs : s.heap.IsSliceOf sl .none .none (.int (-1) tk)) 
    (h : Q ((n : Int) - 1, -1, n) s) : wpAny (model prog w) A (Builtin.Slice.sliceApplied (.ref sl) (pure (n : Int))) Q E s := by
  obtain ⟨os, hos, hcs, hds⟩ := id hs
  unfold Builtin.Slice.sliceApplied Builtin.Slice.sliceFields
  refine wpAny_bind (wpAny_bind (wpAny_field hos hds (x := .none) rfl (wpAny_bind (wpAny_field hos hds (x := .none) rfl (wpAny_bind (wpAny_field hos hds (x := .int (-1) tk) rfl (wpAny_pure ?_)))))))
  refine wpAny_bind (slicePart_int ?_)
  show wpAny _ _ (if ((-1 : Int) == 0) = true then _ else _) _ _ s
  rw [if_neg (by decide)]
  refine wpAny_bind (slicePart_none (wpAny_bind (slicePart_none (wpAny_bind (wpAny_pure ?_)))))
  show wpAny _ _ (pure ((n : Int) - 1, (-1 : Int), Builtin.Slice.slicePlaces ((n : Int) - 1) (-1) (-1))) _ _ s
  rw [places_rev]
  exact wpAny_pure h
theorem getItem_tuple_rev {t sl : Addr} {items : Array Value} {tk : Tok} {Q : Value → Shared → Prop} (ht : IsTup s.heap t items) (hs : s.heap.IsSliceOf sl .none .none (.int (-1) tk))
    (h : Q (.ref s.heap.objs.size) { s with heap := s.heap.push { cls := .type "tuple", data := .seq items.toList.reverse.toArray } }) (hsz : items.size ≤ sizeLine) : wpAny (model prog w) A (getItem (.ref t) (.ref sl)) Q E s := by
  have htake : sizeOk (.seq items.toList.reverse.toArray) := by
    show items.toList.reverse.toArray.size ≤ sizeLine
    rw [List.size_toArray, List.length_reverse, Array.length_toList]
    exact hsz
  obtain ⟨os, hos, hcs, hds⟩ := id hs
  have hTs : s.TypeIs (.ref sl) "slice" := ⟨os, hos, hcs⟩
  unfold getItem
  try with_reducible refine wpAny_holding ?_
  first | refine wpAny_bind (wpAny_pure ?_) | skip
  refine wpAny_bind (wpAny_sequenceKey ht.typeIs (by decide) ?_)
  refine wpAny_bind (wpAny_callSpecial?_slot (name := Str.ofString "__getitem__") ht.typeIs PyProof.Rows.slot_tuple_getitem
    (wpAny_call_entry PyProof.Rows.slot_tuple_getitem ht.typeIs entry_tuple_getitem ?_ (args_tuple_getitem _ _)))
  show wpAny _ _ (Builtin.Tuple.tupleItemsOf (.ref t) >>= _) _ _ s
  refine wpAny_bind (tupleItemsOf_ ht ?_)
  refine wpAny_bind (wpAny_typeOf hTs ?_)
  rw [if_pos (by decide)]
  refine wpAny_bind (sliceApplied_rev hs ?_)
  have hno : ¬ ((((items.size : Int) - 1) == 0 && (-1 : Int) == 1 && items.size == items.size) = true) := by
    intro q
    rw [Bool.and_eq_true, Bool.and_eq_true] at q
    exact absurd q.1.2 (by decide)
  show wpAny _ _ (if ((((items.size : Int) - 1) == 0 && (-1 : Int) == 1 && items.size == items.size) = true) then _ else _) _ _ s
  rw [if_neg hno, pick_rev]
  first
    | exact wpAny_bind (m := Builtin.Tuple.tupleExact _) (wpAny_newObj_type (wpAny_pure ⟨_, rfl, wpAny_pure h⟩) htake)
    | exact wpAny_bind (m := Builtin.Tuple.tupleExact _) (wpAny_newObj_type (wpAny_bind (wpAny_pure (wpAny_pure ⟨_, rfl, wpAny_pure h⟩))) htake)
    | exact wpAny_bind (wpAny_bind (m := Builtin.Tuple.tupleExact _) (wpAny_newObj_type (wpAny_pure (wpAny_pure ⟨_, rfl, wpAny_pure h⟩)) htake))
    | exact wpAny_bind (wpAny_bind (m := Builtin.Tuple.tupleExact _) (wpAny_newObj_type (wpAny_pure ⟨_, rfl, wpAny_pure h⟩) htake))
end
def tRevT (K : PySem.W.Frag) (te : TE) : TE := fun σ H Q => te σ H fun x H1 => ∃ a xs, x = .ref a ∧ SqT K H1 a xs ∧ ∀ p, H1 p = none → Q (.ref p) (upd H1 p (.tup xs.reverse))
section
variable {X : Cx}
theorem pe_revT {e : Expr} {te : TE} {k : Nat} {p1 p2 p3 pos : Pos} (he : PE X e te) : PE X (.Subscript e (.Slice none none (some (.UnaryOp .USub (.Constant (.int 1) k p1) p2)) p3) pos) (tRevT X.K te) := by
  refine ⟨fun pins s σ H Q I h => ?_⟩
  refine Subscript_ (thn (he.run pins s σ H _ I h) fun v s1 ⟨x, H1, I1, r1, q1⟩ => ?_)
  obtain ⟨a, xs, ex, hx, q⟩ := q1
  subst ex
  cases r1
  have hst : PO X (some (.UnaryOp .USub (.Constant (.int 1) k p1) p2)) (tPart (tUn (rU fun i => .int (-i)) (tC (.int 1)))) := po_some (pe_un un_neg pe_int)
  refine wpAny_Slice (thn (po_none.run pins s1 σ H1 (fun o H2 => o = none ∧ H2 = H1) I1 ⟨rfl, rfl⟩) fun vl s2 ⟨l, H2, I2, pl, el, e2⟩ => ?_)
  subst el e2
  refine thn (po_none.run pins s2 σ H2 (fun o H3 => o = none ∧ H3 = H2) I2 ⟨rfl, rfl⟩) fun vu s3 ⟨u, H3, I3, pu, eu, e3⟩ => ?_
  subst eu e3
  refine thn (hst.run pins s3 σ H3 (fun o H4 => o = some (-1) ∧ H4 = H3) I3 ⟨1, rfl, -1, rfl, rfl, rfl⟩) fun vs s4 ⟨o, H4, I4, ps, eo, e4⟩ => ?_
  subst eo e4
  have I5 : Inv X pins σ H4 { s4 with heap := s4.heap.push { cls := .type "slice", data := .fields #[vl, vu, vs] } } := I4.kept (t' := s4.toks) fun b ob q => Heap.get?_push_of_some _ q
  obtain ⟨its, r, ht, hz⟩ := I5.tuple hx
  have hlen := r.length
  cases pl
  cases pu
  obtain ⟨tk, rfl⟩ : ∃ tk, vs = Value.int (-1) tk := by
    cases ps
    exact ⟨_, rfl⟩
  show wpAny (model X.prog X.w) X.A (subscriptTail e (.Slice none none (some (.UnaryOp .USub (.Constant (.int 1) k p1) p2)) p3) (.ref a) (.ref s4.heap.objs.size)) (EP X pins σ Q) X.xe { s4 with heap := s4.heap.push { cls := .type "slice", data := .fields #[.none, .none, .int (-1) tk] } }
  refine tail_any (ops := [.ref a, .ref s4.heap.objs.size]) ht.typeIs PyProof.Rows.slot_tuple_getitem.lookup ?_ (by with_unfolding_all rfl)
  refine getItem_tuple_rev ht (Heap.IsSliceOf.new _ .none .none (.int (-1) tk)) ?_ (by rw [List.size_toArray]; omega)
  refine ⟨.ref _, _, I5.laid (t' := s4.toks) (o := .tup xs.reverse) (fun b ob q => Heap.get?_push_of_some _ q) (Nat.le_refl _) ?_, rfl, q _ (I5.hok.fresh (Nat.le_refl _))⟩
  exact ⟨by rw [List.length_reverse]; exact hz, _, r.reverse, IsTup.new _ _⟩
end
def dRev (de : DE) : DE := fun ρ M => bnd (de ρ M) fun d M1 => match d with
  | .tup ds => some (.ok (.tup ds.reverse) M1)
  | .obj n => (match M1[n]? with
    | some (.lst ds) => some (.ok (.obj M1.length) (M1 ++ [.lst ds.reverse]))
    | _ => none)
  | _ => none
theorem PE.orE {X : Cx} {e : Expr} {t t' : TE} (h : PE X e t) (h' : PE X e t') : PE X e (fun σ H Q => t σ H Q ∨ t' σ H Q) := ⟨fun pins s σ H Q I q => q.elim (h.run pins s σ H Q I) (h'.run pins s σ H Q I)⟩
theorem ped_rev {X : Cx} {E : XW} {e : Expr} {de : DE} {k : Nat} {p1 p2 p3 pos : Pos} (he : PED X E e de) : PED X E (.Subscript e (.Slice none none (some (.UnaryOp .USub (.Constant (.int 1) k p1) p2)) p3) pos) (dRev de) := by
  have key : PE X e (fun σ H Q => (UE X.K E de) σ H Q) := he
  refine PE.imp (t := fun σ H Q => tRevL X.K (UE X.K E de) σ H Q ∨ tRevT X.K (UE X.K E de) σ H Q) (PE.orE (pe_revL he) (pe_revT he)) fun σ H Q ⟨ι, ρ, M, r, R, S, h, g⟩ => ?_
  cases hd : de ρ M with
  | none => simp only [dRev, hd, bnd] at h; cases h
  | some q =>
    cases q with
    | ex x M1 => exact .inl (UE.go R S h g.2 fun d M1 hd' _ => by rw [hd] at hd'; cases hd')
    | ok d M1 =>
      cases d with
      | tup ds =>
        refine .inr (UE.go R S h g.2 fun d' M1' hd' h1 ι1 x H1 e1 R1 V1 S1 gx1 => ?_)
        rw [hd] at hd'
        cases hd'
        cases h1
        obtain ⟨a, xs, rfl, hx, hv⟩ := V1
        refine ⟨a, xs, rfl, hx, fun p hp => ?_⟩
        obtain ⟨R2, e2, V2⟩ := R1.newT hp hv.reverse
        exact g.step (e1.trans e2) R2 V2
      | obj n =>
        refine .inl (UE.go R S h g.2 fun d' M1' hd' h1 ι1 x H1 e1 R1 V1 S1 gx1 => ?_)
        rw [hd] at hd'
        cases hd'
        obtain ⟨a, rfl, hn⟩ := V1
        cases hm : M1[n]? with
        | none => simp only [hm] at h1; cases h1
        | some o =>
          cases o with
          | lst ds =>
            simp only [hm] at h1
            cases h1
            obtain ⟨xs, hx, hv⟩ := R1.lst hn hm
            refine ⟨a, xs, rfl, SqL.of hx, fun p hp => ?_⟩
            obtain ⟨R2, e2, V2⟩ := R1.newL hp hv.reverse
            exact g.step (e1.trans e2) R2 V2
          | _ => simp only [hm] at h1; cases h1
      | _ => simp only [dRev, hd, bnd] at h; cases h
end DL
set_option maxHeartbeats 4000000
namespace DL
open PySem PySem.Spec PyProof.Rows L2

def bndS {α : Type} : Option (Rs α) → LE → (α → Sto → Option (Fl × Sto)) → Option (Fl × Sto)
  | none, _, _ => none
  | some (.ok a M), _, k => k a M
  | some (.ex x M), ρ, _ => some (.ex x ρ, M)
section
variable {K : PySem.W.Frag} {E : XW} {ι : List Addr} {M M' : Sto} {H : Hp} {σ : L2.St} {ρ : LE} {Dn : Ends} {f : Fl}
theorem UE.goS {da : DE} {k : D → Sto → Option (Fl × Sto)} {P : VK} (R : Rep K ι M H) (S : Slots K ι H σ ρ) (h : bndS (da ρ M) ρ k = some (f, M')) (g : GoS K E ι H Dn f M')
    (hok : ∀ d M1, da ρ M = some (.ok d M1) → k d M1 = some (f, M') → ∀ ι1 v H1, Ext K ι H ι1 H1 → Rep K ι1 M1 H1 → DV K ι1 H1 d v → Slots K ι1 H1 σ ρ → GoS K E ι1 H1 Dn f M' → P v H1) : UE K E da σ H P := by
  cases hd : da ρ M with
  | none => rw [hd] at h; cases h
  | some q =>
    refine ⟨ι, ρ, M, q, R, S, hd, ?_⟩
    rw [hd] at h
    cases q with
    | ok d M1 => exact ⟨fun d' M' q => (by cases q; exact fun ι1 v H1 e R1 V1 => hok d M1 hd h ι1 v H1 e R1 V1 (S.mono e) (g.mono e)), GX.ok⟩
    | ex x M1 =>
      refine ⟨fun d' M' q => (by cases q), fun y M'' q => ?_⟩
      cases q
      have h' : some (Fl.ex x ρ, M1) = some (f, M') := h
      cases h'
      exact fun ι1 cls dd H1 e R1 X1 => g ι1 σ cls dd H1 e R1 (S.mono e) X1
theorem UT.goS {da : DT} {k : Bool → Sto → Option (Fl × Sto)} {P : Bool → Hp → Prop} (R : Rep K ι M H) (S : Slots K ι H σ ρ) (h : bndS (da ρ M) ρ k = some (f, M')) (g : GoS K E ι H Dn f M')
    (hok : ∀ d M1, da ρ M = some (.ok d M1) → k d M1 = some (f, M') → ∀ ι1 H1, Ext K ι H ι1 H1 → Rep K ι1 M1 H1 → Slots K ι1 H1 σ ρ → GoS K E ι1 H1 Dn f M' → P d H1) : UT K E da σ H P := by
  cases hd : da ρ M with
  | none => rw [hd] at h; cases h
  | some q =>
    refine ⟨ι, ρ, M, q, R, S, hd, ?_⟩
    rw [hd] at h
    cases q with
    | ok d M1 => exact ⟨fun d' M' q => (by cases q; exact fun ι1 H1 e R1 => hok d M1 hd h ι1 H1 e R1 (S.mono e) (g.mono e)), GX.ok⟩
    | ex x M1 =>
      refine ⟨fun d' M' q => (by cases q), fun y M'' q => ?_⟩
      cases q
      have h' : some (Fl.ex x ρ, M1) = some (f, M') := h
      cases h'
      exact fun ι1 cls dd H1 e R1 X1 => g ι1 σ cls dd H1 e R1 (S.mono e) X1
theorem UA.goS {da : DA} {k : List D → Sto → Option (Fl × Sto)} {P : List V → Hp → Prop} (R : Rep K ι M H) (S : Slots K ι H σ ρ) (h : bndS (da ρ M) ρ k = some (f, M')) (g : GoS K E ι H Dn f M')
    (hok : ∀ d M1, da ρ M = some (.ok d M1) → k d M1 = some (f, M') → ∀ ι1 v H1, Ext K ι H ι1 H1 → Rep K ι1 M1 H1 → DVs K ι1 H1 d v → Slots K ι1 H1 σ ρ → GoS K E ι1 H1 Dn f M' → P v H1) : UA K E da σ H P := by
  cases hd : da ρ M with
  | none => rw [hd] at h; cases h
  | some q =>
    refine ⟨ι, ρ, M, q, R, S, hd, ?_⟩
    rw [hd] at h
    cases q with
    | ok d M1 => exact ⟨fun d' M' q => (by cases q; exact fun ι1 v H1 e R1 V1 => hok d M1 hd h ι1 v H1 e R1 V1 (S.mono e) (g.mono e)), GX.ok⟩
    | ex x M1 =>
      refine ⟨fun d' M' q => (by cases q), fun y M'' q => ?_⟩
      cases q
      have h' : some (Fl.ex x ρ, M1) = some (f, M') := h
      cases h'
      exact fun ι1 cls dd H1 e R1 X1 => g ι1 σ cls dd H1 e R1 (S.mono e) X1
theorem UI.goS {da : DI} {k : DIt → Sto → Option (Fl × Sto)} {P : It → Hp → Prop} (R : Rep K ι M H) (S : Slots K ι H σ ρ) (h : bndS (da ρ M) ρ k = some (f, M')) (g : GoS K E ι H Dn f M')
    (hok : ∀ d M1, da ρ M = some (.ok d M1) → k d M1 = some (f, M') → ∀ ι1 J H1, Ext K ι H ι1 H1 → Rep K ι1 M1 H1 → SimIt K ι1 H1 J d → Slots K ι1 H1 σ ρ → GoS K E ι1 H1 Dn f M' → P J H1) : UI K E da σ H P := by
  cases hd : da ρ M with
  | none => rw [hd] at h; cases h
  | some q =>
    refine ⟨ι, ρ, M, q, R, S, hd, ?_⟩
    rw [hd] at h
    cases q with
    | ok d M1 => exact ⟨fun d' M' q => (by cases q; exact fun ι1 J H1 e R1 V1 => hok d M1 hd h ι1 J H1 e R1 V1 (S.mono e) (g.mono e)), GX.ok⟩
    | ex x M1 =>
      refine ⟨fun d' M' q => (by cases q), fun y M'' q => ?_⟩
      cases q
      have h' : some (Fl.ex x ρ, M1) = some (f, M') := h
      cases h'
      exact fun ι1 cls dd H1 e R1 X1 => g ι1 σ cls dd H1 e R1 (S.mono e) X1
theorem GoS.nx {ρ : LE} (g : GoS K E ι H Dn (.nx ρ) M) {ι1 : List Addr} {σ1 : L2.St} {H1 : Hp} (e : Ext K ι H ι1 H1) (R : Rep K ι1 M H1) (S : Slots K ι1 H1 σ1 ρ) : Dn.nx σ1 H1 := g ι1 σ1 H1 e R S
theorem GoS.rt {d : D} (g : GoS K E ι H Dn (.rt d) M) {ι1 : List Addr} {v : V} {H1 : Hp} (e : Ext K ι H ι1 H1) (R : Rep K ι1 M H1) (V1 : DV K ι1 H1 d v) : Dn.rt v H1 := g ι1 v H1 e R V1
end

/-! ### blocks, small statements -/
def dNext : DS := fun ρ M => some (.nx ρ, M)
def dSeq (ds dt : DS) : DS := fun ρ M => match ds ρ M with
  | some (.nx ρ1, M1) => dt ρ1 M1
  | r => r
def dBreak : DS := fun ρ M => some (.bk ρ, M)
def dCont : DS := fun ρ M => some (.ct ρ, M)
def dNever : DS := fun _ _ => none
def dDrop (de : DE) : DS := fun ρ M => bndS (de ρ M) ρ fun _ M1 => some (.nx ρ, M1)
def dRet (de : DE) : DS := fun ρ M => bndS (de ρ M) ρ fun d M1 => some (.rt d, M1)
def dRetN : DS := fun _ M => some (.rt .non, M)
def dIfS (t : DT) (ds dt : DS) : DS := fun ρ M => bndS (t ρ M) ρ fun b M1 => if b = true then ds ρ M1 else dt ρ M1
def dSet (i : Nat) (de : DE) : DS := fun ρ M => bndS (de ρ M) ρ fun d M1 => some (.nx (ρ.set i (some d)), M1)
section
variable {X : Cx} {E : XW} {st : Stmt} {rest : List Stmt} {ds dt : DS} {e : Expr} {de : DE} {pos : Pos}
theorem pssd_nil : PSsD X E [] dNext := PSs.imp pss_nil fun Dn σ H ⟨ι, ρ, M, f, M', R, S, h, g⟩ => by
  cases h
  exact g.nx Ext.refl R S
theorem pssd_cons (h1 : PSD X E st ds) (h2 : PSsD X E rest dt) : PSsD X E (st :: rest) (dSeq ds dt) := PSs.imp (pss_cons h1 h2) fun Dn σ H ⟨ι, ρ, M, f, M', R, S, h, g⟩ => by
  show US X.K E ds { Dn with nx := US X.K E dt Dn } σ H
  unfold dSeq at h
  cases hd : ds ρ M with
  | none => rw [hd] at h; cases h
  | some q =>
    obtain ⟨f1, M1⟩ := q
    rw [hd] at h
    refine ⟨ι, ρ, M, f1, M1, R, S, hd, ?_⟩
    cases f1 with
    | nx ρ1 => exact fun ι1 σ1 H1 e R1 S1 => ⟨ι1, ρ1, M1, f, M', R1, S1, h, g.mono e⟩
    | bk ρ1 => cases h; exact g
    | ct ρ1 => cases h; exact g
    | rt d => cases h; exact g
    | ex x ρ1 => cases h; exact g
theorem pssd_one (h1 : PSD X E st ds) : PSsD X E [st] ds := pss_one h1
theorem psd_pass : PSD X E (.Pass pos) dNext := PS.imp ps_pass fun Dn σ H ⟨ι, ρ, M, f, M', R, S, h, g⟩ => by
  cases h
  exact g.nx Ext.refl R S
theorem psd_break : PSD X E (.Break pos) dBreak := PS.imp ps_break fun Dn σ H ⟨ι, ρ, M, f, M', R, S, h, g⟩ => by
  cases h
  exact g ι σ H Ext.refl R S
theorem psd_continue : PSD X E (.Continue pos) dCont := PS.imp ps_continue fun Dn σ H ⟨ι, ρ, M, f, M', R, S, h, g⟩ => by
  cases h
  exact g ι σ H Ext.refl R S
theorem psd_never : PSD X E st dNever := PS.imp ps_never fun Dn σ H ⟨ι, ρ, M, f, M', R, S, h, g⟩ => by cases h
theorem psd_expr (he : PED X E e de) (hs : swapsWith e none pos.line X.env = pure false := by rfl) : PSD X E (.Expr e pos) (dDrop de) := PS.imp (ps_expr he hs) fun Dn σ H ⟨ι, ρ, M, f, M', R, S, h, g⟩ =>
  UE.goS R S h g fun d M1 _ h1 ι1 v H1 e1 R1 V1 S1 g1 => by
    cases h1
    exact g1.nx Ext.refl R1 S1
theorem psd_ret (he : PED X E e de) : PSD X E (.Return (some e) pos) (dRet de) := PS.imp (ps_ret he) fun Dn σ H ⟨ι, ρ, M, f, M', R, S, h, g⟩ =>
  UE.goS R S h g fun d M1 _ h1 ι1 v H1 e1 R1 V1 S1 g1 => by
    cases h1
    exact g1.rt Ext.refl R1 V1
theorem psd_retN : PSD X E (.Return none pos) dRetN := PS.imp ps_retN fun Dn σ H ⟨ι, ρ, M, f, M', R, S, h, g⟩ => by
  cases h
  exact g.rt (v := .non) Ext.refl R rfl
theorem psd_if {c : Expr} {a b : List Stmt} {t : DT} (hc : PTD X E c t) (ha : PSsD X E a ds) (hb : PSsD X E b dt) : PSD X E (.If c a b pos) (dIfS t ds dt) := PS.imp (ps_if hc ha hb) fun Dn σ H ⟨ι, ρ, M, f, M', R, S, h, g⟩ =>
  UT.goS R S h g fun b M1 _ h1 ι1 H1 e1 R1 S1 g1 => by
    cases b with
    | true => exact iteT ⟨ι1, ρ, M1, f, M', R1, S1, h1, g1⟩
    | false => exact iteF ⟨ι1, ρ, M1, f, M', R1, S1, h1, g1⟩
theorem psd_set (i : Nat) {x : Str} {pos' : Pos} (hN : X.N.Nodup) (he : PED X E e de) (hi : X.N[i]? = some x := by rfl) (hx : Loc X.env.scope x := by first | exact Or.inl rfl | exact Or.inr rfl) (hs : swapsWith e (some (.Name x pos')) pos.line X.env = pure false := by rfl) (hf : X.fn x = true ∨ X.env.scope.names.lookup x = some .local := by first | exact .inl rfl | exact .inr rfl | assumption) :
    PSD X E (.Assign [.Name x pos'] e pos) (dSet i de) := PS.imp (ps_set hN hi hx he hs hf) fun Dn σ H ⟨ι, ρ, M, f, M', R, S, h, g⟩ =>
  UE.goS R S h g fun d M1 _ h1 ι1 v H1 e1 R1 V1 S1 g1 => by
    cases h1
    exact g1.nx Ext.refl R1 (S1.set i V1)
end

/-! ### targets -/
def dgName (i : Nat) : DG := fun d ρ M => some (ρ.set i (some d), M)
abbrev DGs := List D → LE → Sto → Option (LE × Sto)
def dgNil : DGs := fun ds ρ M => match ds with
  | [] => some (ρ, M)
  | _ => none
def dgCons (dg : DG) (dgs : DGs) : DGs := fun ds ρ M => match ds with
  | d :: r => (match dg d ρ M with
    | some (ρ1, M1) => dgs r ρ1 M1
    | none => none)
  | [] => none
def dgTup (n : Nat) (dgs : DGs) : DG := fun d ρ M => match d with
  | .tup ds => if ds.length = n then dgs ds ρ M else none
  | _ => none
def UGs (K : PySem.W.Frag) (dg : DGs) : TGs := fun vs σ H Q => ∃ ι ρ M ds ρ' M', Rep K ι M H ∧ Slots K ι H σ ρ ∧ DVs K ι H ds vs ∧ dg ds ρ M = some (ρ', M') ∧ ∀ ι1 σ1 H1, Ext K ι H ι1 H1 → Rep K ι1 M' H1 → Slots K ι1 H1 σ1 ρ' → Q σ1 H1
def PGsD (X : Cx) (ts : List Expr) (dg : DGs) : Prop := PGs X ts (UGs X.K dg)
theorem PGs.imp {X : Cx} {e : List Expr} {t t' : TGs} (h : PGs X e t) (i : ∀ v σ H Q, t' v σ H Q → t v σ H Q) : PGs X e t' := ⟨fun pins s σ H v u Q I r q => h.run pins s σ H v u Q I r (i v σ H Q q)⟩
section
variable {X : Cx} {E : XW} {pos : Pos} {e : Expr} {es : List Expr} {dg : DG} {dgs : DGs} {de : DE}
theorem pgd_name (i : Nat) {x : Str} (hN : X.N.Nodup) (hi : X.N[i]? = some x := by rfl) (hx : Loc X.env.scope x := by first | exact Or.inl rfl | exact Or.inr rfl) (hf : X.fn x = true ∨ X.env.scope.names.lookup x = some .local := by first | exact .inl rfl | exact .inr rfl | assumption) : PGD X (.Name x pos) (dgName i) :=
  PG.imp (pg_name hN hi hx hf) fun v σ H Q ⟨ι, ρ, M, d, ρ', M', R, S, V, h, k⟩ => by
    cases h
    exact k ι _ H Ext.refl R (S.set i V)
theorem pgsd_nil : PGsD X [] dgNil := PGs.imp pgs_nil fun v σ H Q ⟨ι, ρ, M, ds, ρ', M', R, S, V, h, k⟩ => by
  cases ds with
  | nil =>
    cases h
    exact ⟨V, k ι σ H Ext.refl R S⟩
  | cons d r => cases h
theorem pgsd_cons (h1 : PGD X e dg) (h2 : PGsD X es dgs) (hs : (assignEach (e :: es) X.env).map (·.2) = assign e X.env :: (assignEach es X.env).map (·.2) := by rfl) : PGsD X (e :: es) (dgCons dg dgs) :=
  PGs.imp (pgs_cons h1 h2 hs) fun v σ H Q ⟨ι, ρ, M, ds, ρ', M', R, S, V, h, k⟩ => by
    cases ds with
    | nil => cases h
    | cons d r =>
      obtain ⟨y, ys, rfl, h2, h3⟩ := V
      cases hd : dg d ρ M with
      | none => simp only [dgCons, hd] at h; cases h
      | some q =>
        obtain ⟨ρ1, M1⟩ := q
        simp only [dgCons, hd] at h
        exact ⟨y, ys, rfl, ι, ρ, M, d, ρ1, M1, R, S, h2, hd, fun ι1 σ1 H1 e1 R1 S1 => ⟨ι1, ρ1, M1, r, ρ', M', R1, S1, DVs.mono e1 _ _ h3, h, fun ι2 σ2 H2 e2 => k ι2 σ2 H2 (e1.trans e2)⟩⟩
theorem pgd_tup {k n : Nat} (hc : X.calm = true) (h : PGsD X es dgs) (hn : (assignEach es X.env).length = n := by rfl) (hst : (assignEach es X.env).findIdx? (·.1) = none := by rfl) : PGD X (.Tuple es k pos) (dgTup n dgs) :=
  PG.imp (pg_tup hc h hn hst) fun v σ H Q ⟨ι, ρ, M, d, ρ', M', R, S, V, h, k⟩ => by
    cases d with
    | tup ds =>
      simp only [dgTup] at h
      split at h
      · rename_i hl
        obtain ⟨a, xs, rfl, h2, h3⟩ := V
        exact ⟨a, xs, rfl, h2, by rw [DVs.length h3]; exact hl, ι, ρ, M, ds, ρ', M', R, S, h3, h, k⟩
      · cases h
    | _ => cases h
/-- target = value -/
def dAsg (de : DE) (dg : DG) : DS := fun ρ M => bndS (de ρ M) ρ fun d M1 => match dg d ρ M1 with
  | some (ρ1, M2) => some (.nx ρ1, M2)
  | none => none
theorem psd_asg {tg : Expr} (he : PED X E e de) (hg : PGD X tg dg) (hs : swapsWithSole [tg] e pos.line X.env = pure false := by rfl) (hw : swappedStores [tg] e X.env = pure none := by rfl)
    (h1 : (assignEach [tg] X.env).map (·.2) = [assign tg X.env] := by rfl) : PSD X E (.Assign [tg] e pos) (dAsg de dg) := PS.imp (ps_asg he hg hs hw h1) fun Dn σ H ⟨ι, ρ, M, f, M', R, S, h, g⟩ =>
  UE.goS R S h g fun d M1 _ h1 ι1 v H1 e1 R1 V1 S1 g1 => by
    cases hd : dg d ρ M1 with
    | none => simp only [hd] at h1; cases h1
    | some q =>
      obtain ⟨ρ1, M2⟩ := q
      simp only [hd] at h1
      cases h1
      exact ⟨ι1, ρ, M1, d, ρ1, M', R1, S1, V1, hd, fun ι2 σ2 H2 e2 R2 S2 => g1.nx e2 R2 S2⟩
/-- a, b = x, y of two names -/
def dPar (i j : Nat) (da : DA) : DS := fun ρ M => bndS (da ρ M) ρ fun ds M1 => match ds with
  | [x, y] => some (.nx ((ρ.set i (some x)).set j (some y)), M1)
  | _ => none
theorem psd_par (i j : Nat) {x y : Str} {a b : Expr} {da : DA} {px py pt : Pos} {kt k2 pt2} (hc : X.calm = true) (hN : X.N.Nodup) (ha : PAD X E [a, b] da) (hi : X.N[i]? = some x := by rfl) (hj : X.N[j]? = some y := by rfl) (hij : i ≠ j := by decide)
    (hx : X.env.scope.names.lookup x = some .local := by rfl) (hy : X.env.scope.names.lookup y = some .local := by rfl)
    (hw : swappedStores [.Tuple [.Name x px, .Name y py] kt pt] (.Tuple [a, b] k2 pt2) X.env = pure (some [x, y]) := by rfl)
    (hs : swapsWithSole [.Tuple [.Name x px, .Name y py] kt pt] (.Tuple [a, b] k2 pt2) pos.line X.env = pure false := by rfl) :
    PSD X E (.Assign [.Tuple [.Name x px, .Name y py] kt pt] (.Tuple [a, b] k2 pt2) pos) (dPar i j da) := PS.imp (ps_par hc hN hi hj hij hx hy ha hw hs) fun Dn σ H ⟨ι, ρ, M, f, M', R, S, h, g⟩ =>
  UA.goS R S h g fun ds M1 _ h1 ι1 vs H1 e1 R1 V1 S1 g1 => by
    match ds, h1, V1 with
    | [c, d], h1, V1 =>
      cases h1
      obtain ⟨v, w, rfl, hv, hw⟩ := DVs.two V1
      exact ⟨v, w, rfl, g1.nx Ext.refl R1 ((S1.set i hv).set j hw)⟩
/-- name op= e -/
def dAug (f : D2) (i : Nat) (de : DE) : DS := fun ρ M => match ρ[i]? with
  | some (some d) => bndS (de ρ M) ρ fun e M1 => (match f d e M1 with
    | some (z, M2) => some (.nx (ρ.set i (some z)), M2)
    | none => none)
  | _ => none
theorem psd_aug (i : Nat) {x : Str} {op : Operator} {r : R2} {f : D2} {pos' : Pos} (hN : X.N.Nodup) (ho : OpR X (inplaceOp op) r) (s : Sim2 X.K r f) (he : PED X E e de) (hi : X.N[i]? = some x := by rfl) (hx : Loc X.env.scope x := by first | exact Or.inl rfl | exact Or.inr rfl) (hf : X.fn x = true ∨ X.env.scope.names.lookup x = some .local := by first | exact .inl rfl | exact .inr rfl | assumption) :
    PSD X E (.AugAssign (.Name x pos') op e pos) (dAug f i de) := PS.imp (ps_aug hN hi hx he (ti := r) ho hf) fun Dn σ H ⟨ι, ρ, M, fl, M', R, S, h, g⟩ => by
  unfold dAug at h
  split at h
  · rename_i d hd
    obtain ⟨v, h1, h2⟩ := S.2 i d hd
    refine ⟨v, h1, UE.goS R S h g fun d2 M1 _ h1 ι1 v2 H1 e1 R1 V1 S1 g1 => ?_⟩
    cases hz : f d d2 M1 with
    | none => simp only [hz] at h1; cases h1
    | some q =>
      obtain ⟨z, M2⟩ := q
      simp only [hz] at h1
      cases h1
      exact s ι1 M1 H1 v v2 d d2 z M' _ R1 (DV.mono e1 d v h2) V1 hz fun ι2 w H2 e2 R2 V2 => g1.nx e2 R2 ((S1.mono e2).set i V2)
  · cases h
end

/-! ### loops -/
def forF (it : DIt) (dg : DG) (db : DS) : Nat → Nat → LE → Sto → Option (Fl × Sto)
  | 0, _, _, _ => none
  | n + 1, i, ρ, M => match it i M with
    | none => none
    | some none => some (.nx ρ, M)
    | some (some d) => match dg d ρ M with
      | none => none
      | some (ρ1, M1) => match db ρ1 M1 with
        | some (.nx ρ2, M2) => forF it dg db n (i + 1) ρ2 M2
        | some (.ct ρ2, M2) => forF it dg db n (i + 1) ρ2 M2
        | some (.bk ρ2, M2) => some (.nx ρ2, M2)
        | some (.rt d, M2) => some (.rt d, M2)
        | some (.ex x ρ2, M2) => some (.ex x ρ2, M2)
        | none => none
theorem forF_mono {it : DIt} {dg : DG} {db : DS} {r : Fl × Sto} : ∀ {n : Nat} {i : Nat} {ρ : LE} {M : Sto}, forF it dg db n i ρ M = some r → ∀ {m : Nat}, n ≤ m → forF it dg db m i ρ M = some r
  | 0, _, _, _, h, _, _ => by cases h
  | n + 1, i, ρ, M, h, 0, hl => by omega
  | n + 1, i, ρ, M, h, m + 1, hl => by
    unfold forF at h ⊢
    split at h
    · cases h
    · rename_i hi; (try rw [hi]); exact h
    · rename_i d hi
      (try rw [hi])
      (try dsimp only at h ⊢)
      split at h
      · cases h
      · rename_i ρ1 M1 hg
        (try rw [hg])
        (try dsimp only at h ⊢)
        split at h
        · rename_i ρ2 M2 hb; (try rw [hb]); exact forF_mono h (by omega)
        · rename_i ρ2 M2 hb; (try rw [hb]); exact forF_mono h (by omega)
        · rename_i ρ2 M2 hb; (try rw [hb]); exact h
        · rename_i ρ2 M2 hb; (try rw [hb]); exact h
        · rename_i ρ2 M2 hb; (try rw [hb]); exact h
        · cases h
open Classical in
noncomputable def dForI (it : DIt) (dg : DG) (db : DS) (i : Nat) (ρ : LE) (M : Sto) : Option (Fl × Sto) :=
  if h : ∃ n r, forF it dg db n i ρ M = some r then forF it dg db h.choose i ρ M else none
theorem dForI_of {it : DIt} {dg : DG} {db : DS} {n i : Nat} {ρ : LE} {M : Sto} {r : Fl × Sto} (h : forF it dg db n i ρ M = some r) : dForI it dg db i ρ M = some r := by
  have hx : ∃ n r, forF it dg db n i ρ M = some r := ⟨n, r, h⟩
  unfold dForI
  rw [dif_pos hx]
  obtain ⟨r', h'⟩ := hx.choose_spec
  rcases Nat.le_total n hx.choose with l | l
  · exact forF_mono h l
  · have := forF_mono h' l
    rw [this] at h
    rw [h', h]
theorem of_dForI {it : DIt} {dg : DG} {db : DS} {i : Nat} {ρ : LE} {M : Sto} {r : Fl × Sto} (h : dForI it dg db i ρ M = some r) : ∃ n, forF it dg db n i ρ M = some r := by
  unfold dForI at h
  split at h
  · exact ⟨_, h⟩
  · cases h
/-- one turn -/
theorem dForI_eq {it : DIt} {dg : DG} {db : DS} {i : Nat} {ρ : LE} {M : Sto} : dForI it dg db i ρ M = match it i M with
    | none => none
    | some none => some (.nx ρ, M)
    | some (some d) => match dg d ρ M with
      | none => none
      | some (ρ1, M1) => match db ρ1 M1 with
        | some (.nx ρ2, M2) => dForI it dg db (i + 1) ρ2 M2
        | some (.ct ρ2, M2) => dForI it dg db (i + 1) ρ2 M2
        | some (.bk ρ2, M2) => some (.nx ρ2, M2)
        | some (.rt d, M2) => some (.rt d, M2)
        | some (.ex x ρ2, M2) => some (.ex x ρ2, M2)
        | none => none := by
  apply Option.ext
  intro r
  constructor
  · intro h
    obtain ⟨n, hn⟩ := of_dForI h
    cases n with
    | zero => cases hn
    | succ n =>
      unfold forF at hn
      split at hn
      · cases hn
      · rename_i hi; (try rw [hi]); exact hn
      · rename_i d hi
        (try rw [hi])
        (try dsimp only at hn ⊢)
        split at hn
        · cases hn
        · rename_i ρ1 M1 hg
          (try rw [hg])
          (try dsimp only at hn ⊢)
          split at hn
          · rename_i ρ2 M2 hb; (try rw [hb]); exact dForI_of hn
          · rename_i ρ2 M2 hb; (try rw [hb]); exact dForI_of hn
          · rename_i ρ2 M2 hb; (try rw [hb]); exact hn
          · rename_i ρ2 M2 hb; (try rw [hb]); exact hn
          · rename_i ρ2 M2 hb; (try rw [hb]); exact hn
          · cases hn
  · intro h
    have step : ∀ n, (match it i M with
      | none => none
      | some none => some (Fl.nx ρ, M)
      | some (some d) => match dg d ρ M with
        | none => none
        | some (ρ1, M1) => match db ρ1 M1 with
          | some (.nx ρ2, M2) => forF it dg db n (i + 1) ρ2 M2
          | some (.ct ρ2, M2) => forF it dg db n (i + 1) ρ2 M2
          | some (.bk ρ2, M2) => some (.nx ρ2, M2)
          | some (.rt d, M2) => some (.rt d, M2)
          | some (.ex x ρ2, M2) => some (.ex x ρ2, M2)
          | none => none) = some r → dForI it dg db i ρ M = some r := fun n hn => dForI_of (n := n + 1) hn
    split at h
    · cases h
    · rename_i hi; refine step 0 ?_; (try rw [hi]); exact h
    · rename_i d hi
      split at h
      · cases h
      · rename_i ρ1 M1 hg
        split at h
        · rename_i ρ2 M2 hb; obtain ⟨n, hn⟩ := of_dForI h; refine step n ?_; (try rw [hi]); (try dsimp only); (try rw [hg]); (try dsimp only); (try rw [hb]); exact hn
        · rename_i ρ2 M2 hb; obtain ⟨n, hn⟩ := of_dForI h; refine step n ?_; (try rw [hi]); (try dsimp only); (try rw [hg]); (try dsimp only); (try rw [hb]); exact hn
        · rename_i ρ2 M2 hb; refine step 0 ?_; (try rw [hi]); (try dsimp only); (try rw [hg]); (try dsimp only); (try rw [hb]); exact h
        · rename_i ρ2 M2 hb; refine step 0 ?_; (try rw [hi]); (try dsimp only); (try rw [hg]); (try dsimp only); (try rw [hb]); exact h
        · rename_i ρ2 M2 hb; refine step 0 ?_; (try rw [hi]); (try dsimp only); (try rw [hg]); (try dsimp only); (try rw [hb]); exact h
        · cases h
noncomputable def dFor (di : DI) (dg : DG) (db : DS) : DS := fun ρ M => bndS (di ρ M) ρ fun it M1 => dForI it dg db 0 ρ M1
section
variable {X : Cx} {E : XW} {pos : Pos}
theorem psd_for {tg iter : Expr} {body : List Stmt} {di : DI} {dg : DG} {db : DS} (hp : PassesOwn (model X.prog X.w) X.A X.env X.xe) (hc : X.calm = true) (hi : PID X E tg iter di) (hg : PGD X tg dg) (hb : PSsD X E body db)
    (hs : ∀ x, foldedSetIterable iter X.env x = pure x := by intro _; rfl) : PSD X E (.For tg iter body [] pos) (dFor di dg db) := PS.imp (ps_for hp hc hi hg hb hs) fun Dn σ H ⟨ι, ρ, M, f, M', R, S, h, g⟩ =>
  UI.goS R S h g fun it M1 _ h1 ι1 J H1 e1 R1 sim S1 g1 => by
    obtain ⟨n0, hn0⟩ := of_dForI h1
    refine ⟨fun i m σ' H' => ∃ ι' ρ' M'', Ext X.K ι1 H1 ι' H' ∧ Rep X.K ι' M'' H' ∧ Slots X.K ι' H' σ' ρ' ∧ forF it dg db m i ρ' M'' = some (f, M'), ⟨n0, ι1, ρ, M1, Ext.refl, R1, S1, hn0⟩, ?_⟩
    rintro i m σ2 H2 ⟨ι2, ρ2, M2, e2, R2, S2, hf⟩
    cases m with
    | zero => cases hf
    | succ m =>
      obtain ⟨sg, ss⟩ := sim ι2 M2 H2 i e2 R2
      unfold forF at hf
      split at hf
      · cases hf
      · rename_i hi
        cases hf
        exact .inl ⟨ss hi, g1.nx e2 R2 S2⟩
      · rename_i d hi
        obtain ⟨go, yld⟩ := sg d hi
        split at hf
        · cases hf
        · rename_i ρ3 M3 hg3
          refine .inr ⟨go, fun σ' H' => ∃ ι' ρ' M'', Ext X.K ι1 H1 ι' H' ∧ Rep X.K ι' M'' H' ∧ Slots X.K ι' H' σ' ρ' ∧ forF it dg db m (i + 1) ρ' M'' = some (f, M'), fun σ' H' hN => ⟨m, Nat.lt_succ_self m, hN⟩, fun x H3 hy => ?_⟩
          obtain ⟨ι3, e3, R3, V3⟩ := yld x H3 hy
          refine ⟨ι3, ρ2, M2, d, ρ3, M3, R3, S2.mono e3, V3, hg3, fun ι4 σ4 H4 e4 R4 S4 => ?_⟩
          have e14 := (e2.trans e3).trans e4
          cases hb4 : db ρ3 M3 with
          | none => rw [hb4] at hf; cases hf
          | some q =>
            obtain ⟨f4, M4⟩ := q
            rw [hb4] at hf
            refine ⟨ι4, ρ3, M3, f4, M4, R4, S4, hb4, ?_⟩
            cases f4 with
            | nx ρ5 => exact fun ι5 σ5 H5 e5 R5 S5 => ⟨ι5, ρ5, M4, e14.trans e5, R5, S5, hf⟩
            | ct ρ5 => exact fun ι5 σ5 H5 e5 R5 S5 => ⟨ι5, ρ5, M4, e14.trans e5, R5, S5, hf⟩
            | bk ρ5 =>
              cases hf
              exact fun ι5 σ5 H5 e5 R5 S5 => g1.nx (e14.trans e5) R5 S5
            | rt d5 =>
              cases hf
              exact fun ι5 v5 H5 e5 R5 V5 => g1.rt (e14.trans e5) R5 V5
            | ex x5 ρ5 =>
              cases hf
              exact fun ι5 σ5 c5 dd5 H5 e5 R5 S5 X5 => g1 ι5 σ5 c5 dd5 H5 (e14.trans e5) R5 S5 X5
end

def whileF (t : DT) (db : DS) : Nat → LE → Sto → Option (Fl × Sto)
  | 0, _, _ => none
  | n + 1, ρ, M => match t ρ M with
    | none => none
    | some (.ex x M1) => some (.ex x ρ, M1)
    | some (.ok false M1) => some (.nx ρ, M1)
    | some (.ok true M1) => match db ρ M1 with
      | some (.nx ρ2, M2) => whileF t db n ρ2 M2
      | some (.ct ρ2, M2) => whileF t db n ρ2 M2
      | some (.bk ρ2, M2) => some (.nx ρ2, M2)
      | some (.rt d, M2) => some (.rt d, M2)
      | some (.ex x ρ2, M2) => some (.ex x ρ2, M2)
      | none => none
theorem whileF_mono {t : DT} {db : DS} {r : Fl × Sto} : ∀ {n : Nat} {ρ : LE} {M : Sto}, whileF t db n ρ M = some r → ∀ {m : Nat}, n ≤ m → whileF t db m ρ M = some r
  | 0, _, _, h, _, _ => by cases h
  | n + 1, ρ, M, h, 0, hl => by omega
  | n + 1, ρ, M, h, m + 1, hl => by
    unfold whileF at h ⊢
    split at h
    · cases h
    · rename_i hi; (try rw [hi]); exact h
    · rename_i hi; (try rw [hi]); exact h
    · rename_i M1 hi
      (try rw [hi])
      (try dsimp only at h ⊢)
      split at h
      · rename_i ρ2 M2 hb; (try rw [hb]); exact whileF_mono h (by omega)
      · rename_i ρ2 M2 hb; (try rw [hb]); exact whileF_mono h (by omega)
      · rename_i ρ2 M2 hb; (try rw [hb]); exact h
      · rename_i ρ2 M2 hb; (try rw [hb]); exact h
      · rename_i ρ2 M2 hb; (try rw [hb]); exact h
      · cases h
open Classical in
noncomputable def dWhile (t : DT) (db : DS) : DS := fun ρ M =>
  if h : ∃ n r, whileF t db n ρ M = some r then whileF t db h.choose ρ M else none
theorem dWhile_of {t : DT} {db : DS} {n : Nat} {ρ : LE} {M : Sto} {r : Fl × Sto} (h : whileF t db n ρ M = some r) : dWhile t db ρ M = some r := by
  have hx : ∃ n r, whileF t db n ρ M = some r := ⟨n, r, h⟩
  unfold dWhile
  rw [dif_pos hx]
  obtain ⟨r', h'⟩ := hx.choose_spec
  rcases Nat.le_total n hx.choose with l | l
  · exact whileF_mono h l
  · have := whileF_mono h' l
    rw [this] at h
    rw [h', h]
theorem of_dWhile {t : DT} {db : DS} {ρ : LE} {M : Sto} {r : Fl × Sto} (h : dWhile t db ρ M = some r) : ∃ n, whileF t db n ρ M = some r := by
  unfold dWhile at h
  split at h
  · exact ⟨_, h⟩
  · cases h
theorem dWhile_eq {t : DT} {db : DS} {ρ : LE} {M : Sto} : dWhile t db ρ M = match t ρ M with
    | none => none
    | some (.ex x M1) => some (.ex x ρ, M1)
    | some (.ok false M1) => some (.nx ρ, M1)
    | some (.ok true M1) => match db ρ M1 with
      | some (.nx ρ2, M2) => dWhile t db ρ2 M2
      | some (.ct ρ2, M2) => dWhile t db ρ2 M2
      | some (.bk ρ2, M2) => some (.nx ρ2, M2)
      | some (.rt d, M2) => some (.rt d, M2)
      | some (.ex x ρ2, M2) => some (.ex x ρ2, M2)
      | none => none := by
  apply Option.ext
  intro r
  constructor
  · intro h
    obtain ⟨n, hn⟩ := of_dWhile h
    cases n with
    | zero => cases hn
    | succ n =>
      unfold whileF at hn
      split at hn
      · cases hn
      · rename_i hi; (try rw [hi]); exact hn
      · rename_i hi; (try rw [hi]); exact hn
      · rename_i M1 hi
        (try rw [hi])
        (try dsimp only at hn ⊢)
        split at hn
        · rename_i ρ2 M2 hb; (try rw [hb]); exact dWhile_of hn
        · rename_i ρ2 M2 hb; (try rw [hb]); exact dWhile_of hn
        · rename_i ρ2 M2 hb; (try rw [hb]); exact hn
        · rename_i ρ2 M2 hb; (try rw [hb]); exact hn
        · rename_i ρ2 M2 hb; (try rw [hb]); exact hn
        · cases hn
  · intro h
    have step : ∀ n, (match t ρ M with
      | none => none
      | some (.ex x M1) => some (Fl.ex x ρ, M1)
      | some (.ok false M1) => some (.nx ρ, M1)
      | some (.ok true M1) => match db ρ M1 with
        | some (.nx ρ2, M2) => whileF t db n ρ2 M2
        | some (.ct ρ2, M2) => whileF t db n ρ2 M2
        | some (.bk ρ2, M2) => some (.nx ρ2, M2)
        | some (.rt d, M2) => some (.rt d, M2)
        | some (.ex x ρ2, M2) => some (.ex x ρ2, M2)
        | none => none) = some r → dWhile t db ρ M = some r := fun n hn => dWhile_of (n := n + 1) hn
    split at h
    · cases h
    · rename_i hi; refine step 0 ?_; (try rw [hi]); exact h
    · rename_i hi; refine step 0 ?_; (try rw [hi]); exact h
    · rename_i M1 hi
      split at h
      · rename_i ρ2 M2 hb; obtain ⟨n, hn⟩ := of_dWhile h; refine step n ?_; (try rw [hi]); (try dsimp only); (try rw [hb]); exact hn
      · rename_i ρ2 M2 hb; obtain ⟨n, hn⟩ := of_dWhile h; refine step n ?_; (try rw [hi]); (try dsimp only); (try rw [hb]); exact hn
      · rename_i ρ2 M2 hb; refine step 0 ?_; (try rw [hi]); (try dsimp only); (try rw [hb]); exact h
      · rename_i ρ2 M2 hb; refine step 0 ?_; (try rw [hi]); (try dsimp only); (try rw [hb]); exact h
      · rename_i ρ2 M2 hb; refine step 0 ?_; (try rw [hi]); (try dsimp only); (try rw [hb]); exact h
      · cases h
section
variable {X : Cx} {E : XW} {pos : Pos}
theorem psd_while {c : Expr} {body : List Stmt} {t : DT} {db : DS} (hp : PassesOwn (model X.prog X.w) X.A X.env X.xe) (hc : PTD X E c t) (hb : PSsD X E body db) : PSD X E (.While c body [] pos) (dWhile t db) := PS.imp (ps_while hp hc hb) fun Dn σ H ⟨ι, ρ, M, f, M', R, S, h, g⟩ => by
  obtain ⟨n0, hn0⟩ := of_dWhile h
  refine ⟨fun m σ' H' => ∃ ι' ρ' M'', Ext X.K ι H ι' H' ∧ Rep X.K ι' M'' H' ∧ Slots X.K ι' H' σ' ρ' ∧ whileF t db m ρ' M'' = some (f, M'), ⟨n0, ι, ρ, M, Ext.refl, R, S, hn0⟩, ?_⟩
  rintro m σ2 H2 ⟨ι2, ρ2, M2, e2, R2, S2, hf⟩
  cases m with
  | zero => cases hf
  | succ m =>
    unfold whileF at hf
    cases ht : t ρ2 M2 with
    | none => rw [ht] at hf; cases hf
    | some q =>
      refine ⟨ι2, ρ2, M2, q, R2, S2, ht, ?_⟩
      rw [ht] at hf
      cases q with
      | ex x M3 =>
        refine ⟨fun d' M' q => (by cases q), fun y M'' q => ?_⟩
        cases q
        cases hf
        exact fun ι1 cls dd H1 e R1 X1 => g ι1 σ2 cls dd H1 (e2.trans e) R1 (S2.mono e) X1
      | ok b M3 =>
        refine ⟨fun b' M' q => ?_, GX.ok⟩
        cases q
        intro ι3 H3 e3 R3
        cases b with
        | false =>
          cases hf
          exact iteF (g.nx (e2.trans e3) R3 (S2.mono e3))
        | true =>
          refine iteT ⟨fun σ' H' => ∃ ι' ρ' M'', Ext X.K ι H ι' H' ∧ Rep X.K ι' M'' H' ∧ Slots X.K ι' H' σ' ρ' ∧ whileF t db m ρ' M'' = some (f, M'), fun σ' H' hN => ⟨m, Nat.lt_succ_self m, hN⟩, ?_⟩
          have S3 := S2.mono e3
          have e13 := e2.trans e3
          dsimp only at hf
          cases hb4 : db ρ2 M3 with
          | none => rw [hb4] at hf; cases hf
          | some q =>
            obtain ⟨f4, M4⟩ := q
            rw [hb4] at hf
            refine ⟨ι3, ρ2, M3, f4, M4, R3, S3, hb4, ?_⟩
            cases f4 with
            | nx ρ5 => exact fun ι5 σ5 H5 e5 R5 S5 => ⟨ι5, ρ5, M4, e13.trans e5, R5, S5, hf⟩
            | ct ρ5 => exact fun ι5 σ5 H5 e5 R5 S5 => ⟨ι5, ρ5, M4, e13.trans e5, R5, S5, hf⟩
            | bk ρ5 =>
              cases hf
              exact fun ι5 σ5 H5 e5 R5 S5 => g.nx (e13.trans e5) R5 S5
            | rt d5 =>
              cases hf
              exact fun ι5 v5 H5 e5 R5 V5 => g.rt (e13.trans e5) R5 V5
            | ex x5 ρ5 =>
              cases hf
              exact fun ι5 σ5 c5 dd5 H5 e5 R5 S5 X5 => g ι5 σ5 c5 dd5 H5 (e13.trans e5) R5 S5 X5
end
end DL
set_option maxHeartbeats 4000000
namespace DL
open PySem PySem.Spec PyProof.Rows L2

/-! ### what is walked -/
def itSeq : D → DIt
  | .tup ds => fun i _ => some ds[i]?
  | .obj n => fun i M => match M[n]? with
    | some (.lst ds) => some ds[i]?
    | _ => none
  | _ => fun _ _ => none
def isSeqD : D → Sto → Bool
  | .tup _, _ => true
  | .obj n, M => match M[n]? with
    | some (.lst _) => true
    | _ => false
  | _, _ => false
def diSeq (de : DE) : DI := fun ρ M => bnd (de ρ M) fun d M1 => if isSeqD d M1 then some (.ok (itSeq d) M1) else none
theorem sim_itt {K : PySem.W.Frag} {ι : List Addr} {H : Hp} {a : Addr} {xs : List V} {ds : List D} (hx : SqT K H a xs) (hv : DVs K ι H ds xs) : SimIt K ι H (Itt K a) (itSeq (.tup ds)) := by
  intro ι1 M H1 i e R
  have hx1 := e.tups a xs hx
  have hv1 := DVs.mono e _ _ hv
  refine ⟨fun d hd => ?_, fun hd => ?_⟩
  · have hd' : ds[i]? = some d := Option.some.inj hd
    obtain ⟨v, h1, h2⟩ := DVs.get hv1 hd'
    refine ⟨⟨xs, v, hx1, h1⟩, fun x H2 hy => ?_⟩
    obtain ⟨rfl, hy⟩ := hy
    have e1 := hy xs hx1
    rw [h1] at e1
    cases e1
    exact ⟨ι1, Ext.refl, R, h2⟩
  · have hd' : ds[i]? = none := Option.some.inj hd
    refine ⟨xs, hx1, ?_⟩
    rw [DVs.length hv1]
    exact List.getElem?_eq_none_iff.mp hd'
theorem sim_itl {K : PySem.W.Frag} {ι : List Addr} {H : Hp} {a : Addr} {n : Nat} (ha : ι[n]? = some a) : SimIt K ι H (Itl K a) (itSeq (.obj n)) := by
  intro ι1 M H1 i e R
  have ha1 := e.get ha
  cases hm : M[n]? with
  | none => exact ⟨fun d hd => (by simp only [itSeq, hm] at hd; cases hd), fun hd => (by simp only [itSeq, hm] at hd; cases hd)⟩
  | some o =>
    cases o with
    | lst ds =>
      obtain ⟨xs, hx, hv⟩ := R.lst ha1 hm
      refine ⟨fun d hd => ?_, fun hd => ?_⟩
      · simp only [itSeq, hm] at hd
        have hd' : ds[i]? = some d := Option.some.inj hd
        obtain ⟨v, h1, h2⟩ := DVs.get hv hd'
        refine ⟨⟨xs, v, SqL.of hx, h1⟩, fun x H2 hy => ?_⟩
        obtain ⟨rfl, hy⟩ := hy
        have e1 := hy xs (SqL.of hx)
        rw [h1] at e1
        cases e1
        exact ⟨ι1, Ext.refl, R, h2⟩
      · simp only [itSeq, hm] at hd
        have hd' : ds[i]? = none := Option.some.inj hd
        refine ⟨xs, SqL.of hx, ?_⟩
        rw [DVs.length hv]
        exact List.getElem?_eq_none_iff.mp hd'
    | _ => exact ⟨fun d hd => (by simp only [itSeq, hm] at hd; cases hd), fun hd => (by simp only [itSeq, hm] at hd; cases hd)⟩
theorem GoI.step {K : PySem.W.Frag} {E : XW} {ι ι1 : List Addr} {H H1 : Hp} {σ : L2.St} {Q : It → Hp → Prop} {d : DIt} {M : Sto} {J : It} (g : GoI K E ι H σ Q (.ok d M)) (e : Ext K ι H ι1 H1) (R : Rep K ι1 M H1) (h : SimIt K ι1 H1 J d) : Q J H1 := g.1 d M rfl ι1 J H1 e R h
theorem PI.orI {X : Cx} {tg e : Expr} {t t' : TI} (h : PI X tg e t) (h' : PI X tg e t') : PI X tg e (fun σ H Q => t σ H Q ∨ t' σ H Q) := ⟨fun pins s σ H Q I q => q.elim (h.run pins s σ H Q I) (h'.run pins s σ H Q I)⟩
section
variable {X : Cx} {E : XW} {tg l : Expr} {de : DE} {da : DA} {pos p : Pos}
theorem pid_seq (hl : PED X E l de) : PID X E tg l (diSeq de) := by
  refine PI.imp (PI.orI (pi_list hl) (pi_tup hl)) fun σ H Q ⟨ι, ρ, M, r, R, S, h, g⟩ => ?_
  cases hd : de ρ M with
  | none => simp only [diSeq, hd, bnd] at h; cases h
  | some q =>
    cases q with
    | ex x M1 => exact .inl (UE.go R S h g.2 fun d M1 hd' _ => by rw [hd] at hd'; cases hd')
    | ok d M1 =>
      cases d with
      | tup ds =>
        refine .inr (UE.go R S h g.2 fun d' M1' hd' h1 ι1 x H1 e1 R1 V1 S1 gx1 => ?_)
        rw [hd] at hd'
        cases hd'
        cases h1
        obtain ⟨a, xs, rfl, hx, hv⟩ := V1
        exact ⟨a, rfl, ⟨xs, hx⟩, g.step e1 R1 (sim_itt hx hv)⟩
      | obj n =>
        refine .inl (UE.go R S h g.2 fun d' M1' hd' h1 ι1 x H1 e1 R1 V1 S1 gx1 => ?_)
        rw [hd] at hd'
        cases hd'
        obtain ⟨a, rfl, hn⟩ := V1
        cases hm : M1[n]? with
        | none => simp only [isSeqD, hm] at h1; cases h1
        | some o =>
          cases o with
          | lst ds =>
            simp only [isSeqD, hm] at h1
            cases h1
            obtain ⟨xs, hx, hv⟩ := R1.lst hn hm
            exact ⟨a, rfl, ⟨xs, SqL.of hx⟩, g.step e1 R1 (sim_itl hn)⟩
          | _ => simp only [isSeqD, hm] at h1; cases h1
      | _ => simp only [diSeq, hd, bnd, isSeqD] at h; cases h
def itRng (lo : Int) (n : Nat) : DIt := fun i _ => some (if i < n then some (.int (lo + i)) else none)
theorem sim_itr {K : PySem.W.Frag} {ι : List Addr} {H : Hp} {lo : Int} {n : Nat} : SimIt K ι H (Itr lo n) (itRng lo n) := by
  intro ι1 M H1 i e R
  by_cases hi : i < n
  · refine ⟨fun d hd => ⟨hi, fun x H2 hy => ?_⟩, fun hd => ?_⟩
    · simp only [itRng, if_pos hi, Option.some.injEq] at hd
      subst hd
      obtain ⟨rfl, rfl⟩ := hy
      exact ⟨ι1, Ext.refl, R, rfl⟩
    · simp only [itRng, if_pos hi] at hd
      cases hd
  · refine ⟨fun d hd => ?_, fun hd => ?_⟩
    · simp only [itRng, if_neg hi] at hd
      cases hd
    · show n ≤ i
      omega
def diRng1 (da : DA) : DI := fun ρ M => bnd (da ρ M) fun ds M1 => match ds with
  | [.int j] => if -(2 ^ 62) ≤ j ∧ j < 2 ^ 62 then some (.ok (itRng 0 j.toNat) M1) else none
  | _ => none
def diRng2 (da : DA) : DI := fun ρ M => bnd (da ρ M) fun ds M1 => match ds with
  | [.int i, .int j] => if -(2 ^ 62) ≤ i ∧ i < 2 ^ 62 ∧ -(2 ^ 62) ≤ j ∧ j < 2 ^ 62 then some (.ok (itRng i (j - i).toNat) M1) else none
  | _ => none
theorem pid_range1 {a : Expr} (hm : X.mg "range" = none) (ha : PAD X E [a] da) (hg : Gl X "range" := by rfl) (hs : starEach [a] X.env = [(false, eval a X.env)] := by rfl) : PID X E tg (.Call (.Name "range" p) [a] [] pos) (diRng1 da) := by
  refine PI.imp (pi_range1 hg hm ha hs) fun σ H Q ⟨ι, ρ, M, r, R, S, h, g⟩ => ?_
  refine UA.go R S h g.2 fun ds M1 _ h1 ι1 xs H1 e1 R1 V1 S1 gx1 => ?_
  split at h1
  · rename_i j hda
    split at h1
    · rename_i hj
      cases h1
      obtain ⟨v, rfl, hv⟩ := DVs.one V1
      rw [show v = _ from hv]
      exact ⟨j, rfl, hj.1, hj.2, g.step e1 R1 sim_itr⟩
    · cases h1
  · cases h1
theorem pid_range2 {a b : Expr} (hm : X.mg "range" = none) (ha : PAD X E [a, b] da) (hg : Gl X "range" := by rfl) (hs : starEach [a, b] X.env = [(false, eval a X.env), (false, eval b X.env)] := by rfl) (hs2 : starEach [b] X.env = [(false, eval b X.env)] := by rfl) : PID X E tg (.Call (.Name "range" p) [a, b] [] pos) (diRng2 da) := by
  refine PI.imp (pi_range2 hg hm ha hs hs2) fun σ H Q ⟨ι, ρ, M, r, R, S, h, g⟩ => ?_
  refine UA.go R S h g.2 fun ds M1 _ h1 ι1 xs H1 e1 R1 V1 S1 gx1 => ?_
  split at h1
  · rename_i i j hda
    split at h1
    · rename_i hj
      cases h1
      obtain ⟨v, w, rfl, hv, hw⟩ := DVs.two V1
      rw [show v = _ from hv, show w = _ from hw]
      exact ⟨i, j, rfl, hj, g.step e1 R1 sim_itr⟩
    · cases h1
  · cases h1
/-- a text, sign by sign -/
def itStr (x : Str) : DIt := fun i _ => some (match x.cps[i]? with
  | some c => some (.str ⟨#[c]⟩)
  | none => none)
def diStr (de : DE) : DI := fun ρ M => bnd (de ρ M) fun d M1 => match d with
  | .str x => some (.ok (itStr x) M1)
  | _ => none
end

/-! ### comprehensions -/
/-- a target within a comprehension: what it stores are the block's own slots -/
structure TgOk (K : PySem.W.Frag) (vs : List Nat) (g : TG) (dg : D → LE → Option LE) : Prop where
  run : ∀ ι H σ ρ d v ρ' (Q : L2.St → Hp → Prop), Slots K ι H σ ρ → DV K ι H d v → dg d ρ = some ρ' → (∀ σ', Slots K ι H σ' ρ' → L2.wipe σ' vs = L2.wipe σ vs → Q σ' H) → g v σ H Q
theorem wipe_set {σ : L2.St} {j : Nat} {x : Option V} : ∀ {vs : List Nat}, j ∈ vs → L2.wipe (σ.set j x) vs = L2.wipe σ vs
  | v :: vs, h => by
    show (L2.wipe (σ.set j x) vs).set v none = (L2.wipe σ vs).set v none
    by_cases hj : j ∈ vs
    · rw [wipe_set hj]
    · have e : j = v := by simpa [hj] using h
      subst e
      have key : ∀ ws : List Nat, j ∉ ws → L2.wipe (σ.set j x) ws = (L2.wipe σ ws).set j x := by
        intro ws
        induction ws with
        | nil => intro _; rfl
        | cons w ws ih =>
          intro hw
          have h1 : j ≠ w := fun q => hw (by simp [q])
          have h2 : j ∉ ws := fun q => hw (List.mem_cons_of_mem _ q)
          show (L2.wipe (σ.set j x) ws).set w none = ((L2.wipe σ ws).set w none).set j x
          rw [ih h2, List.set_comm _ _ h1]
      rw [key vs hj, List.set_set]
def cgName (j : Nat) : D → LE → Option LE := fun d ρ => some (ρ.set j (some d))
theorem tg_name {K : PySem.W.Frag} {vs : List Nat} {j : Nat} (hj : j ∈ vs := by decide) : TgOk K vs (gName j) (cgName j) := ⟨fun ι H σ ρ d v ρ' Q S V h k => by
  cases h
  exact k _ (S.set j V) (wipe_set hj)⟩
structure TgsOk (K : PySem.W.Frag) (vs : List Nat) (g : TGs) (dg : List D → LE → Option LE) : Prop where
  run : ∀ ι H σ ρ ds xs ρ' (Q : L2.St → Hp → Prop), Slots K ι H σ ρ → DVs K ι H ds xs → dg ds ρ = some ρ' → (∀ σ', Slots K ι H σ' ρ' → L2.wipe σ' vs = L2.wipe σ vs → Q σ' H) → g xs σ H Q
def cgNil : List D → LE → Option LE := fun ds ρ => match ds with
  | [] => some ρ
  | _ => none
def cgCons (g : D → LE → Option LE) (gs : List D → LE → Option LE) : List D → LE → Option LE := fun ds ρ => match ds with
  | d :: r => (match g d ρ with
    | some ρ1 => gs r ρ1
    | none => none)
  | [] => none
def cgTup (n : Nat) (gs : List D → LE → Option LE) : D → LE → Option LE := fun d ρ => match d with
  | .tup ds => if ds.length = n then gs ds ρ else none
  | _ => none
theorem tgs_nil {K : PySem.W.Frag} {vs : List Nat} : TgsOk K vs gNil cgNil := ⟨fun ι H σ ρ ds xs ρ' Q S V h k => by
  cases ds with
  | nil =>
    cases h
    exact ⟨V, k σ S rfl⟩
  | cons d r => cases h⟩
theorem tgs_cons {K : PySem.W.Frag} {vs : List Nat} {g : TG} {gs : TGs} {dg : D → LE → Option LE} {dgs : List D → LE → Option LE} (h1 : TgOk K vs g dg) (h2 : TgsOk K vs gs dgs) : TgsOk K vs (gCons g gs) (cgCons dg dgs) := ⟨fun ι H σ ρ ds xs ρ' Q S V h k => by
  cases ds with
  | nil => cases h
  | cons d r =>
    obtain ⟨y, ys, rfl, v1, v2⟩ := V
    cases hd : dg d ρ with
    | none => simp only [cgCons, hd] at h; cases h
    | some ρ1 =>
      simp only [cgCons, hd] at h
      exact ⟨y, ys, rfl, h1.run ι H σ ρ d y ρ1 _ S v1 hd fun σ1 S1 w1 => h2.run ι H σ1 ρ1 r ys ρ' _ S1 v2 h fun σ2 S2 w2 => k σ2 S2 (w2.trans w1)⟩⟩
theorem tg_tup {K : PySem.W.Frag} {vs : List Nat} {n : Nat} {gs : TGs} {dgs : List D → LE → Option LE} (h : TgsOk K vs gs dgs) : TgOk K vs (gTup K n gs) (cgTup n dgs) := ⟨fun ι H σ ρ d v ρ' Q S V hd k => by
  cases d with
  | tup ds =>
    simp only [cgTup] at hd
    split at hd
    · rename_i hl
      obtain ⟨a, xs, rfl, h2, h3⟩ := V
      exact ⟨a, xs, rfl, h2, by rw [DVs.length h3]; exact hl, h.run ι H σ ρ ds xs ρ' Q S h3 hd k⟩
    · cases hd
  | _ => cases hd⟩
def EF : XW := fun _ _ _ _ => False
/-- the loop of a comprehension: the new list is the object nL -/
def lcF (it : DIt) (dg : D → LE → Option LE) (dt : DT) (de : DE) (ρ0 : LE) (nL : Nat) : Nat → Nat → Sto → Option (Rs D)
  | 0, _, _ => none
  | n + 1, i, M => match it i M with
    | none => none
    | some none => some (.ok (.obj nL) M)
    | some (some d) => match dg d ρ0 with
      | none => none
      | some ρ1 => match dt ρ1 M with
        | some (.ok true M2) => (match de ρ1 M2 with
          | some (.ok y M3) => (match M3[nL]? with
            | some (.lst acc) => if acc.length < sizeLine then lcF it dg dt de ρ0 nL n (i + 1) (M3.set nL (.lst (acc ++ [y]))) else none
            | _ => none)
          | _ => none)
        | some (.ok false M2) => lcF it dg dt de ρ0 nL n (i + 1) M2
        | _ => none
theorem lcF_mono {it : DIt} {dg : D → LE → Option LE} {dt : DT} {de : DE} {ρ0 : LE} {nL : Nat} {r : Rs D} : ∀ {n : Nat} {i : Nat} {M : Sto}, lcF it dg dt de ρ0 nL n i M = some r → ∀ {m : Nat}, n ≤ m → lcF it dg dt de ρ0 nL m i M = some r
  | 0, _, _, h, _, _ => by cases h
  | n + 1, i, M, h, 0, hl => by omega
  | n + 1, i, M, h, m + 1, hl => by
    unfold lcF at h ⊢
    cases hi : it i M with
    | none => rw [hi] at h; cases h
    | some o =>
      rw [hi] at h
      cases o with
      | none => exact h
      | some d =>
        dsimp only at h ⊢
        cases hg : dg d ρ0 with
        | none => rw [hg] at h; cases h
        | some ρ1 =>
          rw [hg] at h
          dsimp only at h ⊢
          cases ht : dt ρ1 M with
          | none => rw [ht] at h; cases h
          | some q =>
            rw [ht] at h
            cases q with
            | ex x M2 => cases h
            | ok b M2 =>
              cases b with
              | false => exact lcF_mono h (by omega)
              | true =>
                dsimp only at h ⊢
                cases he : de ρ1 M2 with
                | none => rw [he] at h; cases h
                | some q =>
                  rw [he] at h
                  cases q with
                  | ex x M3 => cases h
                  | ok y M3 =>
                    dsimp only at h ⊢
                    split at h
                    · rename_i acc hm
                      split at h
                      · rename_i hl2
                        (try rw [hm])
                        (try dsimp only)
                        rw [if_pos hl2]
                        exact lcF_mono h (by omega)
                      · cases h
                    · cases h
open Classical in
noncomputable def dLcI (it : DIt) (dg : D → LE → Option LE) (dt : DT) (de : DE) (ρ0 : LE) (nL : Nat) (i : Nat) (M : Sto) : Option (Rs D) :=
  if h : ∃ n r, lcF it dg dt de ρ0 nL n i M = some r then lcF it dg dt de ρ0 nL h.choose i M else none
theorem dLcI_of {it : DIt} {dg : D → LE → Option LE} {dt : DT} {de : DE} {ρ0 : LE} {nL : Nat} {n i : Nat} {M : Sto} {r : Rs D} (h : lcF it dg dt de ρ0 nL n i M = some r) : dLcI it dg dt de ρ0 nL i M = some r := by
  have hx : ∃ n r, lcF it dg dt de ρ0 nL n i M = some r := ⟨n, r, h⟩
  unfold dLcI
  rw [dif_pos hx]
  obtain ⟨r', h'⟩ := hx.choose_spec
  rcases Nat.le_total n hx.choose with l | l
  · exact lcF_mono h l
  · have := lcF_mono h' l
    rw [this] at h
    rw [h', h]
theorem of_dLcI {it : DIt} {dg : D → LE → Option LE} {dt : DT} {de : DE} {ρ0 : LE} {nL : Nat} {i : Nat} {M : Sto} {r : Rs D} (h : dLcI it dg dt de ρ0 nL i M = some r) : ∃ n, lcF it dg dt de ρ0 nL n i M = some r := by
  unfold dLcI at h
  split at h
  · exact ⟨_, h⟩
  · cases h
/-- one turn of a comprehension, by what its parts give -/
theorem dLcI_end {it : DIt} {dg : D → LE → Option LE} {dt : DT} {de : DE} {ρ0 : LE} {nL : Nat} {i : Nat} {M : Sto} (hi : it i M = some none) : dLcI it dg dt de ρ0 nL i M = some (.ok (.obj nL) M) :=
  dLcI_of (n := 1) (by unfold lcF; rw [hi])
theorem dLcI_yes {it : DIt} {dg : D → LE → Option LE} {dt : DT} {de : DE} {ρ0 ρ1 : LE} {nL : Nat} {i : Nat} {M M2 M3 : Sto} {d y : D} {acc : List D} {r : Rs D} (hi : it i M = some (some d)) (hg : dg d ρ0 = some ρ1) (ht : dt ρ1 M = some (.ok true M2)) (he : de ρ1 M2 = some (.ok y M3)) (hm : M3[nL]? = some (.lst acc)) (hl : acc.length < sizeLine)
    (h : dLcI it dg dt de ρ0 nL (i + 1) (M3.set nL (.lst (acc ++ [y]))) = some r) : dLcI it dg dt de ρ0 nL i M = some r := by
  obtain ⟨n, hn⟩ := of_dLcI h
  refine dLcI_of (n := n + 1) ?_
  unfold lcF
  rw [hi]; dsimp only
  rw [hg]; dsimp only
  rw [ht]; dsimp only
  rw [he]; dsimp only
  rw [hm]; dsimp only
  rw [if_pos hl]
  exact hn
theorem dLcI_no {it : DIt} {dg : D → LE → Option LE} {dt : DT} {de : DE} {ρ0 ρ1 : LE} {nL : Nat} {i : Nat} {M M2 : Sto} {d : D} {r : Rs D} (hi : it i M = some (some d)) (hg : dg d ρ0 = some ρ1) (ht : dt ρ1 M = some (.ok false M2))
    (h : dLcI it dg dt de ρ0 nL (i + 1) M2 = some r) : dLcI it dg dt de ρ0 nL i M = some r := by
  obtain ⟨n, hn⟩ := of_dLcI h
  refine dLcI_of (n := n + 1) ?_
  unfold lcF
  rw [hi]; dsimp only
  rw [hg]; dsimp only
  rw [ht]
  exact hn
noncomputable def dLc (vs : List Nat) (di : DI) (dg : D → LE → Option LE) (dt : DT) (de : DE) : DE := fun ρ M => bnd (di ρ M) fun it M1 => dLcI it dg dt de (wipeD ρ vs) M1.length 0 (M1 ++ [.lst []])
def dYes : DT := fun _ M => some (.ok true M)
section
variable {X : Cx} {E : XW}
theorem sim_lc {K : PySem.W.Frag} {di : DI} {g : TG} {dg : D → LE → Option LE} {dt : DT} {de : DE} {vs : List Nat} (tg : TgOk K vs g dg) : ∀ σ H Q, UE K E (dLc vs di dg dt de) σ H Q → tLc (UI K E di) g (UT K EF dt) (UE K EF de) vs σ H Q := fun σ H Q ⟨ι, ρ, M, r, R, S, h, gg⟩ =>
  UI.go R S h gg.2 fun it M1 _ h1 ι1 J H1 e1 R1 sim S1 gx1 => by
    intro P hP
    obtain ⟨n0, hn0⟩ := of_dLcI h1
    obtain ⟨R2, e2, V2⟩ := R1.newL (ds := []) (xs := []) hP rfl
    have sim2 := sim.mono e2
    have hP2 : (ι1 ++ [P])[M1.length]? = some P := by
      rw [← R1.len, List.getElem?_append_right (Nat.le_refl _)]
      simp
    refine ⟨fun i m H' => ∃ ι' M'', Ext K (ι1 ++ [P]) (upd H1 P (.lst [])) ι' H' ∧ Rep K ι' M'' H' ∧ lcF it dg dt de (wipeD ρ vs) M1.length m i M'' = some r, ⟨n0, ι1 ++ [P], M1 ++ [.lst []], Ext.refl, R2, hn0⟩, ?_⟩
    rintro i m H3 ⟨ι3, M3, e3, R3, hf⟩
    cases m with
    | zero => cases hf
    | succ m =>
      obtain ⟨sg, ss⟩ := sim2 ι3 M3 H3 i e3 R3
      unfold lcF at hf
      cases hi : it i M3 with
      | none => rw [hi] at hf; cases hf
      | some o =>
        rw [hi] at hf
        cases o with
        | none =>
          cases hf
          exact .inl ⟨ss hi, gg.step ((e1.trans e2).trans e3) R3 ⟨P, rfl, e3.get hP2⟩⟩
        | some d =>
          obtain ⟨go, yld⟩ := sg d hi
          dsimp only at hf
          cases hg : dg d (wipeD ρ vs) with
          | none => rw [hg] at hf; cases hf
          | some ρ1 =>
            rw [hg] at hf
            dsimp only at hf
            refine .inr ⟨go, fun H' => ∃ ι' M'', Ext K (ι1 ++ [P]) (upd H1 P (.lst [])) ι' H' ∧ Rep K ι' M'' H' ∧ lcF it dg dt de (wipeD ρ vs) M1.length m (i + 1) M'' = some r, fun H' hN => ⟨m, Nat.lt_succ_self m, hN⟩, fun x H4 hy => ?_⟩
            obtain ⟨ι4, e4, R4, V4⟩ := yld x H4 hy
            have S4 : Slots K ι4 H4 (L2.wipe σ vs) (wipeD ρ vs) := (S1.wipe vs).mono ((e2.trans e3).trans e4)
            refine tg.run ι4 H4 _ _ d x ρ1 _ S4 V4 hg fun σ5 S5 w5 => ⟨w5.trans ?_, ?_⟩
            · have idem : ∀ (τ : L2.St) (ws us : List Nat), (∀ u ∈ us, u ∈ ws) → L2.wipe (L2.wipe τ us) ws = L2.wipe τ ws := by
                intro τ ws us
                induction us with
                | nil => intro _; rfl
                | cons u us ih =>
                  intro hu
                  show L2.wipe ((L2.wipe τ us).set u none) ws = L2.wipe τ ws
                  rw [wipe_set (hu u List.mem_cons_self)]
                  exact ih fun z hz => hu z (List.mem_cons_of_mem _ hz)
              exact idem σ vs vs fun _ h => h
            · cases ht : dt ρ1 M3 with
              | none => rw [ht] at hf; cases hf
              | some q =>
                rw [ht] at hf
                refine ⟨ι4, ρ1, M3, q, R4, S5, ht, ?_⟩
                cases q with
                | ex x M5 => cases hf
                | ok b M5 =>
                  refine ⟨fun b' M' q => ?_, GX.ok⟩
                  cases q
                  intro ι6 H6 e6 R6
                  have e16 := (e3.trans e4).trans e6
                  cases b with
                  | false => exact iteF ⟨ι6, M5, e16, R6, hf⟩
                  | true =>
                    refine iteT ?_
                    dsimp only at hf
                    cases he : de ρ1 M5 with
                    | none => rw [he] at hf; cases hf
                    | some q =>
                      rw [he] at hf
                      refine ⟨ι6, ρ1, M5, q, R6, S5.mono e6, he, ?_⟩
                      cases q with
                      | ex x M7 => cases hf
                      | ok y M7 =>
                        refine ⟨fun y' M' q => ?_, GX.ok⟩
                        cases q
                        intro ι8 v8 H8 e8 R8 V8
                        dsimp only at hf
                        cases hm : M7[M1.length]? with
                        | none => rw [hm] at hf; cases hf
                        | some o =>
                          rw [hm] at hf
                          cases o with
                          | lst acc =>
                            dsimp only at hf
                            split at hf
                            · rename_i hl
                              have hp8 : ι8[M1.length]? = some P := (e16.trans e8).get hP2
                              obtain ⟨xs8, hx8, hv8⟩ := R8.lst hp8 hm
                              obtain ⟨R9, e9⟩ := R8.putL (ds := acc) (es := acc ++ [y]) (ys := xs8 ++ [v8]) hp8 hx8 (hv8.append ⟨v8, [], rfl, V8, rfl⟩)
                              exact ⟨xs8, hx8, by rw [DVs.length hv8]; exact hl, ι8, _, (e16.trans e8).trans e9, R9, hf⟩
                            · cases hf
                          | _ => cases hf
theorem ped_lc {elt tg iter : Expr} {ifs : List Expr} {scope : Scope} {own : List (Str × Nat)} {pos : Pos} {di : DI} {g : TG} {dg : D → LE → Option LE} {dt : DT} {de : DE} (hc : X.calm = true) (hN : X.N.Nodup) (hi : PID X E tg iter di) (ok : BlkOk X.N X.env.scope scope own)
    (hg : ∀ (s : Shared) (H : Hp) (C : Addr) (cl : List (Str × Addr)) (fp : List Addr), PG (X.blk s H scope (compEnvC scope cl C X.env) fp) tg g) (tgk : TgOk X.K (own.map (·.2)) g dg)
    (ht : ∀ (s : Shared) (H : Hp) (C : Addr) (cl : List (Str × Addr)) (fp : List Addr), PTs (X.blk s H scope (compEnvC scope cl C X.env) fp) ifs (UT X.K EF dt))
    (he : ∀ (s : Shared) (H : Hp) (C : Addr) (cl : List (Str × Addr)) (fp : List Addr), PED (X.blk s H scope (compEnvC scope cl C X.env) fp) EF elt de) (hs : ∀ x, foldedSetIterable iter X.env x = pure x := by intro _; rfl) :
    PED X E (.ListComp elt [⟨tg, iter, ifs, 0⟩] scope pos) (dLc (own.map (·.2)) di dg dt de) :=
  PE.imp (pe_lc (wi := UI X.K E di) (g := g) (tt := UT X.K EF dt) (te := UE X.K EF de) hc hN hi ok hg ht he hs) (sim_lc tgk)
theorem ptsd_nil {X : Cx} : PTs X [] (UT X.K EF dYes) := ⟨fun pins s σ H Q I h => pts_nil.run pins s σ H Q I (by
  obtain ⟨ι, ρ, M, r, R, S, h, g⟩ := h
  cases h
  exact g.step Ext.refl R)⟩
theorem ptsd_one {X : Cx} {c : Expr} {t : DT} (h : PTD X EF c t) : PTs X [c] (UT X.K EF t) := pts_one h
/-- name = [..] on one line -/
theorem psd_setLc (i : Nat) {y : Str} {py : Pos} {elt tg iter : Expr} {ifs : List Expr} {scope : Scope} {own : List (Str × Nat)} {pos spos : Pos} {di : DI} {g : TG} {dg : D → LE → Option LE} {dt : DT} {de : DE} (hc : X.calm = true) (hN : X.N.Nodup) 
    (hsw : swapsWith (.ListComp elt [⟨tg, iter, ifs, 0⟩] scope pos) (some (.Name y py)) spos.line X.env = pure true) (hi : PID X E tg iter di) (ok : BlkOk X.N X.env.scope scope own)
    (hg : ∀ (s : Shared) (H : Hp) (C : Addr) (cl : List (Str × Addr)) (fp : List Addr), PG (X.blk s H scope (compEnvC scope cl C X.env) fp) tg g) (tgk : TgOk X.K (own.map (·.2)) g dg)
    (ht : ∀ (s : Shared) (H : Hp) (C : Addr) (cl : List (Str × Addr)) (fp : List Addr), PTs (X.blk s H scope (compEnvC scope cl C X.env) fp) ifs (UT X.K EF dt))
    (he : ∀ (s : Shared) (H : Hp) (C : Addr) (cl : List (Str × Addr)) (fp : List Addr), PED (X.blk s H scope (compEnvC scope cl C X.env) fp) EF elt de) (hy : X.N[i]? = some y := by rfl) (hyl : X.env.scope.names.lookup y = some .local := by rfl) (hs : ∀ x, foldedSetIterable iter X.env x = pure x := by intro _; rfl) :
    PSD X E (.Assign [.Name y py] (.ListComp elt [⟨tg, iter, ifs, 0⟩] scope pos) spos) (dSet i (dLc (own.map (·.2)) di dg dt de)) := PS.imp (ps_setLc (wi := UI X.K E di) (g := g) (tt := UT X.K EF dt) (te := UE X.K EF de) hc hN hy hyl hsw hi ok hg ht he hs) fun Dn σ H ⟨ι, ρ, M, f, M', R, S, h, gg⟩ => by
  have key : UE X.K E (dLc (own.map (·.2)) di dg dt de) σ H (fun x H1 => gName i x σ H1 Dn.nx) := UE.goS R S h gg fun d M1 _ h1 ι1 v H1 e1 R1 V1 S1 g1 => by
    cases h1
    exact g1.nx Ext.refl R1 (S1.set i V1)
  exact sim_lc tgk σ H _ key
end
end DL
set_option maxHeartbeats 4000000
namespace DL
open PySem PySem.Spec PyProof.Rows L2

/-! ### closed data: what it names stands in the store -/
mutual
def D.cl (n : Nat) : D → Prop
  | .tup ds => D.cls n ds
  | .obj m => m < n
  | _ => True
def D.cls (n : Nat) : List D → Prop
  | [] => True
  | d :: ds => D.cl n d ∧ D.cls n ds
end
def Ob.cl (n : Nat) : Ob → Prop
  | .lst ds => D.cls n ds
  | .ins _ fs => D.cls n (fs.map (·.2))
  | .xd fs => D.cls n (fs.map (·.2))
def Clo (M : Sto) : Prop := ∀ o ∈ M, Ob.cl M.length o
section
variable {K : PySem.W.Frag} {ι : List Addr} {H : Hp} {M : Sto}
mutual
theorem DV.cl : ∀ (d : D) (v : V), DV K ι H d v → D.cl ι.length d
  | .non, _, _ => trivial
  | .bl _, _, _ => trivial
  | .int _, _, _ => trivial
  | .str _, _, _ => trivial
  | .ty _, _, _ => trivial
  | .scr _, _, _ => trivial
  | .tup ds, _, ⟨a, xs, _, _, h⟩ => DVs.cl ds xs h
  | .obj n, _, ⟨a, _, h⟩ => (List.getElem?_eq_some_iff.mp h).1
theorem DVs.cl : ∀ (ds : List D) (xs : List V), DVs K ι H ds xs → D.cls ι.length ds
  | [], _, _ => trivial
  | d :: ds, _, ⟨y, ys, _, h1, h2⟩ => ⟨DV.cl d y h1, DVs.cl ds ys h2⟩
end
mutual
theorem DV.back {t : List Addr} : ∀ (d : D) (v : V), DV K (ι ++ t) H d v → D.cl ι.length d → DV K ι H d v
  | .non, _, h, _ => h
  | .bl _, _, h, _ => h
  | .int _, _, h, _ => h
  | .str _, _, h, _ => h
  | .ty _, _, h, _ => h
  | .scr _, _, h, _ => h
  | .tup ds, _, ⟨a, xs, h1, h2, h3⟩, c => ⟨a, xs, h1, h2, DVs.back ds xs h3 c⟩
  | .obj n, _, ⟨a, h1, h2⟩, c => ⟨a, h1, by rw [List.getElem?_append_left c] at h2; exact h2⟩
theorem DVs.back {t : List Addr} : ∀ (ds : List D) (xs : List V), DVs K (ι ++ t) H ds xs → D.cls ι.length ds → DVs K ι H ds xs
  | [], _, h, _ => h
  | d :: ds, _, ⟨y, ys, h1, h2, h3⟩, c => ⟨y, ys, h1, DV.back d y h2 c.1, DVs.back ds ys h3 c.2⟩
end
theorem OR.back {t : List Addr} {a : Addr} {o : Ob} (h : OR K (ι ++ t) H a o) (c : Ob.cl ι.length o) : OR K ι H a o := by
  cases o with
  | lst ds => obtain ⟨xs, h1, h2⟩ := h; exact ⟨xs, h1, DVs.back _ _ h2 c⟩
  | ins C fs => obtain ⟨dx, vs, h1, h2, h3, h4⟩ := h; exact ⟨dx, vs, h1, h2, h3, DVs.back _ _ h4 c⟩
  | xd fs => obtain ⟨vs, h1, h3, h4⟩ := h; exact ⟨vs, h1, h3, DVs.back _ _ h4 c⟩
theorem OR.cl {a : Addr} {o : Ob} (h : OR K ι H a o) : Ob.cl ι.length o := by
  cases o with
  | lst ds => obtain ⟨xs, h1, h2⟩ := h; exact DVs.cl _ _ h2
  | ins C fs => obtain ⟨dx, vs, h1, h2, h3, h4⟩ := h; exact DVs.cl _ _ h4
  | xd fs => obtain ⟨vs, h1, h3, h4⟩ := h; exact DVs.cl _ _ h4
theorem Rep.clo (R : Rep K ι M H) : Clo M := fun o ho => by
  obtain ⟨n, hn⟩ := List.getElem?_of_mem ho
  obtain ⟨a, ha, h⟩ := R.at hn
  rw [← R.len]
  exact h.cl
theorem Rep.back {t : List Addr} {g : Sto} (R : Rep K (ι ++ t) (M ++ g) H) (hl : ι.length = M.length) (c : Clo M) : Rep K ι M H := by
  refine ⟨hl, (List.nodup_append.mp R.nd).1, fun n a o ha hm => ?_⟩
  have hn := (List.getElem?_eq_some_iff.mp ha).1
  refine (R.obs n a o (by rw [List.getElem?_append_left hn]; exact ha) (by rw [List.getElem?_append_left (by rw [← hl]; exact hn)]; exact hm)).back ?_
  rw [hl]
  exact c o (List.mem_of_getElem? hm)
end
theorem D.cls_mem {n : Nat} : ∀ {ds : List D}, D.cls n ds → ∀ d ∈ ds, D.cl n d
  | d :: ds, h, e, he => by
    rcases List.mem_cons.mp he with rfl | h2
    · exact h.1
    · exact D.cls_mem h.2 e h2
theorem D.cls_of {n : Nat} : ∀ {ds : List D}, (∀ d ∈ ds, D.cl n d) → D.cls n ds
  | [], _ => trivial
  | d :: ds, h => ⟨h d List.mem_cons_self, D.cls_of fun e he => h e (List.mem_cons_of_mem _ he)⟩
mutual
theorem D.cl_mono {m n : Nat} (hl : m ≤ n) : ∀ (d : D), D.cl m d → D.cl n d
  | .non, _ => trivial
  | .bl _, _ => trivial
  | .int _, _ => trivial
  | .str _, _ => trivial
  | .ty _, _ => trivial
  | .scr _, _ => trivial
  | .tup ds, h => D.cls_mono hl ds h
  | .obj k, h => Nat.lt_of_lt_of_le h hl
theorem D.cls_mono {m n : Nat} (hl : m ≤ n) : ∀ (ds : List D), D.cls m ds → D.cls n ds
  | [], _ => trivial
  | d :: ds, h => ⟨D.cl_mono hl d h.1, D.cls_mono hl ds h.2⟩
end
theorem Ob.cl_mono {m n : Nat} (hl : m ≤ n) : ∀ (o : Ob), Ob.cl m o → Ob.cl n o
  | .lst ds, h => D.cls_mono hl ds h
  | .ins _ fs, h => D.cls_mono hl _ h
  | .xd fs, h => D.cls_mono hl _ h

/-! ### how a def's end is shown to its caller -/
def Cl (M0 M2 : Sto) (d2 : D) (M1 : Sto) (d : D) : Prop := ∀ (K : PySem.W.Frag) (ι0 ι1 : List Addr) (H1 : Hp) (v : V), ι0.length = M0.length → (∃ t, ι1 = ι0 ++ t) → Rep K ι1 M2 H1 → DV K ι1 H1 d2 v → ∃ ι2, (∃ t, ι2 = ι0 ++ t) ∧ Rep K ι2 M1 H1 ∧ DV K ι2 H1 d v
theorem Cl.id {M0 M : Sto} {d : D} : Cl M0 M d M d := fun K ι0 ι1 H1 v _ ht R V => ⟨ι1, ht, R, V⟩
/-- the youngest objects are forgotten -/
theorem Cl.cut {M0 M1 g : Sto} {d : D} (hl : M0.length ≤ M1.length) (c : Clo M1) (cd : D.cl M1.length d) : Cl M0 (M1 ++ g) d M1 d := fun K ι0 ι1 H1 v h0 ⟨t, ht⟩ R V => by
  have hlen := R.len
  rw [ht, List.length_append, List.length_append] at hlen
  have e : ι1 = (ι0 ++ t.take (M1.length - M0.length)) ++ t.drop (M1.length - M0.length) := by rw [ht, List.append_assoc, List.take_append_drop]
  have hl2 : (ι0 ++ t.take (M1.length - M0.length)).length = M1.length := by rw [List.length_append, List.length_take]; omega
  rw [e] at R V
  exact ⟨ι0 ++ t.take (M1.length - M0.length), ⟨_, rfl⟩, R.back hl2 c, DV.back d v V (by rw [hl2]; exact cd)⟩
/-- of the youngest objects one alone is kept: the list that is handed back -/
theorem Cl.list {M0 M1 g : Sto} {j : Nat} {ds : List D} (hl : M0.length = M1.length) (c : Clo M1) (hj : g[j]? = some (.lst ds)) (cd : D.cls M1.length ds) : Cl M0 (M1 ++ g) (.obj (M1.length + j)) (M1 ++ [.lst ds]) (.obj M1.length) := fun K ι0 ι1 H1 v h0 ⟨t, ht⟩ R V => by
  obtain ⟨a, rfl, ha⟩ := V
  subst ht
  have h0' : ι0.length = M1.length := by omega
  have R1 : Rep K ι0 M1 H1 := R.back h0' c
  have hm : (M1 ++ g)[M1.length + j]? = some (.lst ds) := by rw [List.getElem?_append_right (Nat.le_add_right _ _), Nat.add_sub_cancel_left]; exact hj
  obtain ⟨xs, hx, hv⟩ := R.lst ha hm
  have hv1 : DVs K ι0 H1 ds xs := DVs.back _ _ hv (by rw [h0']; exact cd)
  have hna : a ∉ ι0 := fun hm2 => by
    obtain ⟨n, hn⟩ := List.getElem?_of_mem hm2
    have hlt := (List.getElem?_eq_some_iff.mp hn).1
    have := nodup_inj R.nd (by rw [List.getElem?_append_left hlt]; exact hn) ha
    omega
  have e1 : Ext K ι0 H1 (ι0 ++ [a]) H1 := ⟨⟨[a], rfl⟩, fun _ _ h => h, fun _ _ h => h⟩
  refine ⟨ι0 ++ [a], ⟨[a], rfl⟩, ⟨by rw [List.length_append, List.length_append, h0']; rfl, ?_, fun n b o hb ho => ?_⟩, a, rfl, ?_⟩
  · rw [List.nodup_append]
    refine ⟨R1.nd, by simp, fun z hz y hy => ?_⟩
    have e : y = a := by simpa using hy
    subst e
    intro e; subst e
    exact hna hz
  · by_cases hn : n < ι0.length
    · rw [List.getElem?_append_left hn] at hb
      rw [List.getElem?_append_left (by rw [← h0']; exact hn)] at ho
      exact (R1.obs n b o hb ho).mono e1 (fun _ h => h) fun _ h => h
    · have hlt := (List.getElem?_eq_some_iff.mp hb).1
      rw [List.length_append, List.length_singleton] at hlt
      have e : n = ι0.length := by omega
      subst e
      rw [List.getElem?_append_right (Nat.le_refl _)] at hb
      rw [h0', List.getElem?_append_right (Nat.le_refl _)] at ho
      simp at hb ho
      subst hb; subst ho
      exact ⟨xs, hx, DVs.mono e1 _ _ hv1⟩
  · rw [← h0', List.getElem?_append_right (Nat.le_refl _)]
    simp
/-- d2 names nothing -/
abbrev DF := List D → Sto → Option (Rs D)
def spF (K : PySem.W.Frag) (F : DF) : Sp := fun vs H Q Ex => ∃ ι M ds r, Rep K ι M H ∧ DVs K ι H ds vs ∧ F ds M = some r ∧ GoE K (fun _ => Ex) ι H [] Q r
def startD (n : Nat) (ds : List D) : LE := ds.map some ++ List.replicate (n - ds.length) none
theorem slots_start {K : PySem.W.Frag} {ι : List Addr} {H : Hp} {N : List Str} {ds : List D} {vs : List V} (h : DVs K ι H ds vs) : Slots K ι H (L2.start N vs) (startD N.length ds) := by
  have hl := DVs.length h
  unfold L2.start startD
  refine ⟨by simp [hl], fun i d hd => ?_⟩
  by_cases hi : i < ds.length
  · rw [List.getElem?_append_left (by simpa using hi), List.getElem?_map] at hd
    cases he : ds[i]? with
    | none => rw [he] at hd; cases hd
    | some e =>
      rw [he] at hd
      have e1 : e = d := by simpa using hd
      subst e1
      obtain ⟨v, h1, h2⟩ := DVs.get h he
      refine ⟨v, ?_, h2⟩
      rw [List.getElem?_append_left (by simp; omega), List.getElem?_map, h1]
      rfl
  · rw [List.getElem?_append_right (by simpa using Nat.le_of_not_lt hi)] at hd
    rw [List.getElem?_replicate] at hd
    split at hd
    · cases hd
    · cases hd
/-- how a body's end gives a promise's end -/
def Fin (M0 : Sto) (fl : Fl) (M2 : Sto) (d : D) (M1 : Sto) : Prop := (∃ d2, fl = .rt d2 ∧ Cl M0 M2 d2 M1 d) ∨ (∃ ρ, fl = .nx ρ ∧ Cl M0 M2 .non M1 d)
section
variable {P : Program} {w : World} {K : PySem.W.Frag} {mg : Str → Option Value} {base : Heap} {x qual : Str} {params : Arguments} {body : List Stmt} {scope : Scope} {dvs : List V} {kws : List (Str × V)} {f : Addr} {fd : FuncData}
/-- THE RULE for a def: its body as a function on data -/
theorem fn_okD {N ps : List Str} {k : Nat} {F : DF} {bd : DS} (Fd : FunD K x qual params body scope dvs kws f fd) (S : FnScope N ps scope) (hlen : ∀ ds M r, F ds M = some r → ds.length = ps.length)
    (ht : ∀ (cdv : Value) (A : Around) (outer : List Env) (s : Shared) (H : Hp) (E : XK), Room k (A.deeper (envOfC qual scope s.heap.objs.size f cdv)) → PSsD (cxOf CX0 P w K mg base N qual scope f cdv A outer s H E).nox EF body bd)
    (hF : ∀ ds M r, F ds M = some r → Clo M → D.cls M.length ds → ∃ d M1 fl M2, r = .ok d M1 ∧ bd (startD N.length ds) M = some (fl, M2) ∧ Fin M fl M2 d M1) : FnOk P w K mg base CX0 (k + 1) f fd ps (spF K F) := by
  refine Fd.ok S (fun vs H Q E ⟨ι, M, ds, r, R, V, h, g⟩ => by rw [DVs.length V]; exact hlen _ _ _ h) fun cdv A outer s H vs Q E hr hsp => ⟨US K EF bd, PSs.nox (ht cdv A outer s H E hr), ?_⟩
  obtain ⟨ι, M, ds, r, R, V, h, g⟩ := hsp
  have c1 := R.clo
  have c2 := DVs.cl _ _ V
  rw [R.len] at c2
  obtain ⟨d, M1, fl, M2, rfl, hb, fin⟩ := hF ds M r h c1 c2
  refine ⟨ι, startD N.length ds, M, fl, M2, R, slots_start V, hb, ?_⟩
  rcases fin with ⟨d2, rfl, cl⟩ | ⟨ρ, rfl, cl⟩
  · intro ι1 v H1 e R1 V1
    obtain ⟨ι2, ht2, R2, V2⟩ := cl K ι ι1 H1 v R.len e.pre R1 V1
    exact g.1 d M1 rfl ι2 v H1 ⟨ht2, e.tups, e.scrs⟩ R2 V2
  · intro ι1 σ1 H1 e R1 S1
    obtain ⟨ι2, ht2, R2, V2⟩ := cl K ι ι1 H1 .non R.len e.pre R1 rfl
    exact g.1 d M1 rfl ι2 .non H1 ⟨ht2, e.tups, e.scrs⟩ R2 V2
end
/-! ### calls of defs -/
def HasFnP (P : Program) (w : World) (K : PySem.W.Frag) (mg : Str → Option Value) (base : Heap) (k : Nat) (x : Str) (F : DF) : Prop := ∃ (f : Addr) (fd : FuncData) (ps : List Str), mg x = some (.ref f) ∧ PySem.W.keepIn K (.ref f) = true ∧ Binds K fd ps [] ∧ FnOk P w K mg base CX0 k f fd ps (spF K F)
abbrev HasFn (X : Cx) (k : Nat) (x : Str) (F : DF) : Prop := HasFnP X.prog X.w X.K X.mg X.base k x F
def dCall (F : DF) (da : DA) : DE := fun ρ M => bnd (da ρ M) fun ds M1 => match F ds M1 with
  | some (.ok d M2) => some (.ok d M2)
  | _ => none
section
variable {X : Cx} {E : XW} {x : Str} {p pos : Pos} {e : Expr} {es : List Expr} {da : DA} {F : DF} {k j : Nat}
theorem ped_call (h : HasFn X k x F) (hr : Room j X.A) (hk : k ≤ j) (ha : PAD X E (e :: es) da) (hg : Gl X x := by rfl) (hdb : (x == ("__debug__" : Str)) = false := by decide)
    (he : starEach (e :: es) X.env = (false, eval e X.env) :: starEach es X.env := by rfl) (hpl : (backTo pos (starEach es X.env)).any (·.1) = false := by rfl) : PED X E (.Call (.Name x p) (e :: es) [] pos) (dCall F da) := by
  obtain ⟨f, fd, ps, hm, hkp, hb, hf⟩ := h
  refine PE.imp (pe_call hf (hr.mono hk) hg hm hkp hb .nil pass0 ha hdb he hpl) fun σ H Q ⟨ι, ρ, M, r, R, S, h, g⟩ => ?_
  refine UA.go R S h g.2 fun ds M1 _ h1 ι1 vs H1 e1 R1 V1 S1 gx1 => ?_
  cases hF : F ds M1 with
  | none => simp only [hF] at h1; cases h1
  | some q =>
    simp only [hF] at h1
    cases q with
    | ex x M2 => cases h1
    | ok d M2 =>
      cases h1
      show spF X.K F (vs ++ []) H1 Q E0
      rw [List.append_nil]
      exact ⟨ι1, M1, ds, _, R1, V1, hF, fun d' M' hq => (by cases hq; exact fun ι2 v H2 e2 R2 V2 => g.step (e1.trans e2) R2 V2), GX.ok⟩
end
end DL
set_option maxHeartbeats 4000000
namespace DL
open PySem PySem.Spec PyProof.Rows L2

/-! ### operators on ints -/
def fII (C : Int → Int → Prop) [DecidableRel C] (g : Int → Int → D) : D2 := fun x y M => match x, y with
  | .int i, .int j => if C i j then some (g i j, M) else none
  | _, _ => none
def fI0 (g : Int → Int → D) : D2 := fun x y M => match x, y with
  | .int i, .int j => some (g i j, M)
  | _, _ => none
theorem sim_II {K : PySem.W.Frag} {C : Int → Int → Prop} [DecidableRel C] {g : Int → Int → D} {gv : Int → Int → V} (hg : ∀ ι H i j, DV K ι H (g i j) (gv i j)) : Sim2 K (rI C gv) (fII C g) := by
  intro ι M H x y d e z M1 Q R V W hf k
  unfold fII at hf
  split at hf
  · split at hf
    · rename_i hc
      cases hf
      rw [show x = _ from V, show y = _ from W]
      exact ⟨_, _, rfl, rfl, hc, k ι _ H Ext.refl R (hg ι H _ _)⟩
    · cases hf
  · cases hf
theorem sim_I0 {K : PySem.W.Frag} {g : Int → Int → D} {gv : Int → Int → V} (hg : ∀ ι H i j, DV K ι H (g i j) (gv i j)) : Sim2 K (rI0 gv) (fI0 g) := by
  intro ι M H x y d e z M1 Q R V W hf k
  unfold fI0 at hf
  split at hf
  · cases hf
    rw [show x = _ from V, show y = _ from W]
    exact ⟨_, _, rfl, rfl, k ι _ H Ext.refl R (hg ι H _ _)⟩
  · cases hf
instance (i j : Int) : Decidable (CMul i j) := by unfold CMul; infer_instance
instance : DecidableRel CMul := fun i j => inferInstance
instance : DecidableRel CDiv := fun i j => by unfold CDiv; infer_instance
instance : DecidableRel CPow := fun i j => by unfold CPow; infer_instance
abbrev fSub : D2 := fI0 fun i j => .int (i - j)
abbrev fFdiv : D2 := fII CDiv fun i j => .int (i / j)
abbrev fMod : D2 := fII (fun _ j => 0 < j) fun i j => .int (i % j)
abbrev fShr : D2 := fII (fun _ j => 0 ≤ j) fun i j => .int (i / 2 ^ j.toNat)
abbrev fBand : D2 := fI0 fun i j => .int (Builtin.bitAnd i j)
abbrev fLt : D2 := fI0 fun i j => .bl (decide (i < j))
abbrev fLe : D2 := fI0 fun i j => .bl (decide (i ≤ j))
abbrev fGt : D2 := fI0 fun i j => .bl (decide (j < i))
abbrev fGe : D2 := fI0 fun i j => .bl (decide (j ≤ i))
theorem sim_sub {K : PySem.W.Frag} : Sim2 K (rI0 fun i j => .int (i - j)) fSub := sim_I0 fun _ _ _ _ => rfl
theorem sim_fdiv {K : PySem.W.Frag} : Sim2 K (rI CDiv fun i j => .int (i / j)) fFdiv := sim_II fun _ _ _ _ => rfl
theorem sim_mod {K : PySem.W.Frag} : Sim2 K (rI (fun _ j => 0 < j) fun i j => .int (i % j)) fMod := sim_II fun _ _ _ _ => rfl
theorem sim_shr {K : PySem.W.Frag} : Sim2 K (rI (fun _ j => 0 ≤ j) fun i j => .int (i / 2 ^ j.toNat)) fShr := sim_II fun _ _ _ _ => rfl
theorem sim_band {K : PySem.W.Frag} : Sim2 K (rI0 fun i j => .int (Builtin.bitAnd i j)) fBand := sim_I0 fun _ _ _ _ => rfl
theorem sim_lt {K : PySem.W.Frag} : Sim2 K (rI0 fun i j => .bl (decide (i < j))) fLt := sim_I0 fun _ _ _ _ => rfl
theorem sim_le {K : PySem.W.Frag} : Sim2 K (rI0 fun i j => .bl (decide (i ≤ j))) fLe := sim_I0 fun _ _ _ _ => rfl
theorem sim_gt {K : PySem.W.Frag} : Sim2 K (rI0 fun i j => .bl (decide (j < i))) fGt := sim_I0 fun _ _ _ _ => rfl
theorem sim_ge {K : PySem.W.Frag} : Sim2 K (rI0 fun i j => .bl (decide (j ≤ i))) fGe := sim_I0 fun _ _ _ _ => rfl
/-- ** of great ints too -/
def CPowW (i j : Int) : Prop := 0 ≤ j ∧ (Builtin.Int.intBits i : Int) * j ≤ 2 ^ 27
instance : DecidableRel CPowW := fun i j => by unfold CPowW; infer_instance
theorem op_powW {X : Cx} : OpR X (binaryOp .Pow) (rI CPowW fun i j => .int (i ^ j.toNat)) := opI fun _ _ _ _ _ _ _ hc q => pow_int hc.1 hc.2 q
abbrev fPow : D2 := fII CPowW fun i j => .int (i ^ j.toNat)
theorem sim_pow {K : PySem.W.Frag} : Sim2 K (rI CPowW fun i j => .int (i ^ j.toNat)) fPow := sim_II fun _ _ _ _ => rfl
/-! ### + and * -/
def fAdd : D2 := fun x y M => match x, y with
  | .int i, .int j => some (.int (i + j), M)
  | .str s, .str t => if s.length + t.length ≤ sizeLine then some (.str (s ++ t), M) else none
  | .tup ds, .tup es => if ds.length + es.length ≤ sizeLine then some (.tup (ds ++ es), M) else none
  | .obj m, .obj n => (match M[m]?, M[n]? with
    | some (.lst ds), some (.lst es) => if ds.length + es.length ≤ sizeLine then some (.obj M.length, M ++ [.lst (ds ++ es)]) else none
    | _, _ => none)
  | _, _ => none
def rStrCat : R2 := fun x y H Q => ∃ i j, x = .str i ∧ y = .str j ∧ i.length + j.length ≤ sizeLine ∧ Q (.str (i ++ j)) H
def rAddAll (K : PySem.W.Frag) : R2 := fun x y H Q => rI0 (fun i j => .int (i + j)) x y H Q ∨ (rStrCat x y H Q ∨ (rCatA K x y H Q ∨ rCat x y H Q))
theorem op_addAll {X : Cx} : OpR X (binaryOp .Add) (rAddAll X.K) := op_add.or (OpR.or op_add_str (OpR.or op_catA op_cat))
theorem sim_add {K : PySem.W.Frag} : Sim2 K (rAddAll K) fAdd := by
  intro ι M H x y d e z M1 Q R V W hf k
  unfold fAdd at hf
  split at hf
  · cases hf
    rw [show x = _ from V, show y = _ from W]
    exact .inl ⟨_, _, rfl, rfl, k ι _ H Ext.refl R rfl⟩
  · split at hf
    · rename_i hl
      cases hf
      rw [show x = _ from V, show y = _ from W]
      exact .inr (.inl ⟨_, _, rfl, rfl, hl, k ι _ H Ext.refl R rfl⟩)
    · cases hf
  · rename_i ds es
    split at hf
    · rename_i hl
      cases hf
      obtain ⟨a, xs, rfl, hx, hv⟩ := V
      obtain ⟨b, ys, rfl, hy, hw⟩ := W
      have l1 := DVs.length hv
      have l2 := DVs.length hw
      refine .inr (.inr (.inl ⟨a, b, xs, ys, rfl, rfl, hx, hy, by omega, fun h0 => ?_, fun _ h0 => ?_, fun _ _ p hp => ?_⟩))
      · subst h0
        have e0 : ds = [] := List.length_eq_zero_iff.mp l1.symm
        subst e0
        exact k ι _ H Ext.refl R ⟨b, ys, rfl, hy, hw⟩
      · subst h0
        have e0 : es = [] := List.length_eq_zero_iff.mp l2.symm
        subst e0
        refine k ι _ H Ext.refl R ⟨a, xs, rfl, hx, ?_⟩
        rw [List.append_nil]
        exact hv
      · obtain ⟨R2, e2, V2⟩ := R.newT hp (hv.append hw)
        exact k ι _ _ e2 R2 V2
    · cases hf
  · rename_i m n
    split at hf
    · rename_i ds es hm hn
      split at hf
      · rename_i hl
        cases hf
        obtain ⟨a, rfl, ha⟩ := V
        obtain ⟨b, rfl, hb⟩ := W
        obtain ⟨xs, hx, hv⟩ := R.lst ha hm
        obtain ⟨ys, hy, hw⟩ := R.lst hb hn
        have l1 := DVs.length hv
        have l2 := DVs.length hw
        refine .inr (.inr (.inr ⟨a, b, xs, ys, rfl, rfl, hx, hy, by omega, fun p hp => ?_⟩))
        obtain ⟨R2, e2, V2⟩ := R.newL hp (hv.append hw)
        exact k _ _ _ e2 R2 V2
      · cases hf
    · cases hf
  · cases hf
def fMul : D2 := fun x y M => match x, y with
  | .int i, .int j => if CMul i j then some (.int (i * j), M) else none
  | .obj m, .int j => (match M[m]? with
    | some (.lst ds) => if -(2 ^ 63) ≤ j ∧ j < 2 ^ 63 ∧ ds.length * j.toNat ≤ sizeLine then some (.obj M.length, M ++ [.lst (List.replicate j.toNat ds).flatten]) else none
    | _ => none)
  | _, _ => none
theorem DVs.rep {K : PySem.W.Frag} {ι : List Addr} {H : Hp} {ds : List D} {xs : List V} (h : DVs K ι H ds xs) : ∀ n : Nat, DVs K ι H (List.replicate n ds).flatten (List.replicate n xs).flatten
  | 0 => rfl
  | n + 1 => by
    rw [List.replicate_succ, List.replicate_succ, List.flatten_cons, List.flatten_cons]
    exact h.append (DVs.rep h n)
def rMulAll : R2 := fun x y H Q => rI CMul (fun i j => .int (i * j)) x y H Q ∨ rRep x y H Q
theorem op_mulAll {X : Cx} : OpR X (binaryOp .Mult) rMulAll := op_mul.or op_rep
theorem sim_mul {K : PySem.W.Frag} : Sim2 K rMulAll fMul := by
  intro ι M H x y d e z M1 Q R V W hf k
  unfold fMul at hf
  split at hf
  · split at hf
    · rename_i hc
      cases hf
      rw [show x = _ from V, show y = _ from W]
      exact .inl ⟨_, _, rfl, rfl, hc, k ι _ H Ext.refl R rfl⟩
    · cases hf
  · split at hf
    · rename_i ds hm
      split at hf
      · rename_i hc
        cases hf
        obtain ⟨a, rfl, ha⟩ := V
        rw [show y = _ from W]
        obtain ⟨xs, hx, hv⟩ := R.lst ha hm
        refine .inr ⟨a, _, xs, rfl, rfl, hx, hc.1, hc.2.1, by rw [DVs.length hv]; exact hc.2.2, fun p hp => ?_⟩
        obtain ⟨R2, e2, V2⟩ := R.newL hp (hv.rep _)
        exact k _ _ _ e2 R2 V2
      · cases hf
    · cases hf
  · cases hf
/-! ### comparisons of data -/
mutual
def pyD : D → Option PyData
  | .non => some .none
  | .bl b => some (.bool b)
  | .int i => some (.int i)
  | .str x => some (.str x)
  | .tup ds => (pyDs ds).map .tuple
  | _ => none
def pyDs : List D → Option (List PyData)
  | [] => some []
  | d :: ds => match pyD d, pyDs ds with
    | some p, some ps => some (p :: ps)
    | _, _ => none
end
def pyO (M : Sto) : D → Option PyData
  | .obj n => match M[n]? with
    | some (.lst ds) => (pyDs ds).map .list
    | _ => none
  | d => pyD d
section
variable {K : PySem.W.Frag} {ι : List Addr} {H : Hp} {M : Sto}
mutual
theorem pyD_ok : ∀ (d : D) (v : V) (p : PyData), DV K ι H d v → pyD d = some p → Dp K H v p
  | .non, _, _, h, e => by rw [show _ = V.non from h]; cases e; exact .non
  | .bl b, _, _, h, e => by rw [show _ = V.bl b from h]; cases e; exact .bl b
  | .int b, _, _, h, e => by rw [show _ = V.int b from h]; cases e; exact .int b
  | .str b, _, _, h, e => by rw [show _ = V.str b from h]; cases e; exact .str b
  | .ty n, _, _, h, e => by cases e
  | .scr n, _, _, h, e => by cases e
  | .obj n, _, _, h, e => by cases e
  | .tup ds, _, p, h, e => by
    obtain ⟨a, xs, rfl, h2, h3⟩ := h
    have e' : (pyDs ds).map PyData.tuple = some p := e
    cases hq : pyDs ds with
    | none => rw [hq] at e'; cases e'
    | some ps =>
      rw [hq] at e'
      cases e'
      exact .tup h2 (pyDs_ok ds xs ps h3 hq)
theorem pyDs_ok : ∀ (ds : List D) (xs : List V) (ps : List PyData), DVs K ι H ds xs → pyDs ds = some ps → DpAll K H xs ps
  | [], _, _, h, e => by rw [show _ = [] from h]; cases e; exact .nil
  | d :: ds, _, ps, h, e => by
    obtain ⟨y, ys, rfl, h2, h3⟩ := h
    have e' : (match pyD d, pyDs ds with
      | some p, some ps => some (p :: ps)
      | _, _ => none) = some ps := e
    cases h4 : pyD d with
    | none => rw [h4] at e'; cases e'
    | some p =>
      cases h5 : pyDs ds with
      | none => rw [h4, h5] at e'; cases e'
      | some qs =>
        rw [h4, h5] at e'
        cases e'
        exact .cons (pyD_ok d y p h2 h4) (pyDs_ok ds ys qs h3 h5)
end
theorem pyO_ok (R : Rep K ι M H) {d : D} {v : V} {p : PyData} (h : DV K ι H d v) (e : pyO M d = some p) : Dp K H v p := by
  cases d with
  | obj n =>
    obtain ⟨a, rfl, ha⟩ := h
    simp only [pyO] at e
    split at e
    · rename_i ds hm
      obtain ⟨xs, hx, hv⟩ := R.lst ha hm
      cases hq : pyDs ds with
      | none => rw [hq] at e; cases e
      | some ps =>
        rw [hq] at e
        cases e
        exact .lst (SqL.of hx) (pyDs_ok ds xs ps hv hq)
    · cases e
  | _ => exact pyD_ok _ v p h e
end
def fEq : D2 := fun x y M => match pyO M x, pyO M y with
  | some a, some b => if SeqAt.shaped a = true ∧ SeqAt.shaped b = true then some (.bl (PyData.eqv a b), M) else none
  | _, _ => none
def fNe : D2 := fun x y M => match pyO M x, pyO M y with
  | some a, some b => if SeqAt.shaped a = true ∧ SeqAt.shaped b = true then some (.bl (!PyData.eqv a b), M) else none
  | _, _ => none
theorem sim_eq {K : PySem.W.Frag} : Sim2 K (rEqD K) fEq := by
  intro ι M H x y d e z M1 Q R V W hf k
  unfold fEq at hf
  split at hf
  · rename_i a b ha hb
    split at hf
    · rename_i hs
      cases hf
      exact ⟨a, b, pyO_ok R V ha, pyO_ok R W hb, hs.1, hs.2, k ι _ H Ext.refl R rfl⟩
    · cases hf
  · cases hf
theorem sim_ne {K : PySem.W.Frag} : Sim2 K (rNeD K) fNe := by
  intro ι M H x y d e z M1 Q R V W hf k
  unfold fNe at hf
  split at hf
  · rename_i a b ha hb
    split at hf
    · rename_i hs
      cases hf
      exact ⟨a, b, pyO_ok R V ha, pyO_ok R W hb, hs.1, hs.2, k ι _ H Ext.refl R rfl⟩
    · cases hf
  · cases hf
def isNon : D → Bool
  | .non => true
  | _ => false
theorem isNon_ok {K : PySem.W.Frag} {ι : List Addr} {H : Hp} {d : D} {v : V} (h : DV K ι H d v) : decide (v = .non) = isNon d := by
  cases d with
  | non => rw [show v = _ from h]; rfl
  | bl _ => rw [show v = _ from h]; rfl
  | int _ => rw [show v = _ from h]; rfl
  | str _ => rw [show v = _ from h]; rfl
  | ty _ => rw [show v = _ from h]; rfl
  | scr _ => obtain ⟨a, rfl, _⟩ := h; rfl
  | tup _ => obtain ⟨a, xs, rfl, _⟩ := h; rfl
  | obj _ => obtain ⟨a, rfl, _⟩ := h; rfl
def fIsN : D2 := fun x y M => match y with
  | .non => some (.bl (isNon x), M)
  | _ => none
def fNotN : D2 := fun x y M => match y with
  | .non => some (.bl (!isNon x), M)
  | _ => none
theorem sim_isN {K : PySem.W.Frag} : Sim2 K rIsN fIsN := by
  intro ι M H x y d e z M1 Q R V W hf k
  unfold fIsN at hf
  split at hf
  · cases hf
    refine ⟨W, ?_⟩
    rw [isNon_ok V]
    exact k ι _ H Ext.refl R rfl
  · cases hf
theorem sim_notN {K : PySem.W.Frag} : Sim2 K rNotN fNotN := by
  intro ι M H x y d e z M1 Q R V W hf k
  unfold fNotN at hf
  split at hf
  · cases hf
    refine ⟨W, ?_⟩
    rw [isNon_ok V]
    exact k ι _ H Ext.refl R rfl
  · cases hf
/-- one sign in a text -/
def fInS : D2 := fun x y M => match x, y with
  | .str s, .str t => (match s.cps.toList with
    | [c] => some (.bl (decide (c ∈ t.cps.toList)), M)
    | _ => none)
  | _, _ => none
theorem sim_inS {K : PySem.W.Frag} : Sim2 K rInS fInS := by
  intro ι M H x y d e z M1 Q R V W hf k
  unfold fInS at hf
  split at hf
  · rename_i s t
    split at hf
    · rename_i c hc
      cases hf
      rw [show x = _ from V, show y = _ from W]
      have e1 : s = ⟨#[c]⟩ := by
        obtain ⟨cs⟩ := s
        have : cs = #[c] := by
          apply Array.toList_inj.mp
          exact hc
        rw [this]
      rw [e1]
      exact ⟨c, t, rfl, rfl, k ι _ H Ext.refl R rfl⟩
    · cases hf
  · cases hf
/-! ### built-in calls -/
def lenD : D → Sto → Option Nat
  | .str y, _ => if y.length ≤ sizeLine then some y.length else none
  | .tup ds, _ => some ds.length
  | .obj n, M => match M[n]? with
    | some (.lst ds) => some ds.length
    | _ => none
  | _, _ => none
def fLen : DCf := fun ds M => match ds with
  | [d] => (match lenD d M with
    | some n => some (.int n, M)
    | none => none)
  | _ => none
theorem sim_len {K : PySem.W.Frag} : SimC K (fun xs H Q => ∃ x n, xs = [x] ∧ LenV K x H n ∧ Q (.int n) H) fLen := by
  intro ι M H xs ds z M1 Q R V hf k
  unfold fLen at hf
  split at hf
  · rename_i d
    obtain ⟨v, rfl, hv⟩ := DVs.one V
    split at hf
    · rename_i n hn
      cases hf
      refine ⟨v, n, rfl, ?_, k ι _ H Ext.refl R rfl⟩
      cases d with
      | str y =>
        rw [show v = _ from hv]
        simp only [lenD] at hn
        split at hn
        · rename_i hl
          cases hn
          exact ⟨hl, rfl⟩
        · cases hn
      | tup es =>
        obtain ⟨a, ys, rfl, h2, h3⟩ := hv
        cases hn
        exact .inr ⟨ys, h2, (DVs.length h3).symm⟩
      | obj m =>
        obtain ⟨a, rfl, ha⟩ := hv
        simp only [lenD] at hn
        split at hn
        · rename_i es hm
          cases hn
          obtain ⟨ys, h2, h3⟩ := R.lst ha hm
          exact .inl ⟨ys, SqL.of h2, (DVs.length h3).symm⟩
        · cases hn
      | _ => cases hn
    · cases hf
  · cases hf
def fAbs : DCf := fun ds M => match ds with
  | [.int i] => some (.int (if i < 0 then -i else i), M)
  | _ => none
theorem sim_abs {K : PySem.W.Frag} : SimC K (fun xs H Q => ∃ i, xs = [.int i] ∧ Q (.int (if i < 0 then -i else i)) H) fAbs := by
  intro ι M H xs ds z M1 Q R V hf k
  unfold fAbs at hf
  split at hf
  · rename_i i
    obtain ⟨v, rfl, hv⟩ := DVs.one V
    cases hf
    rw [show v = _ from hv]
    exact ⟨i, rfl, k ι _ H Ext.refl R rfl⟩
  · cases hf
def fInt1 : DCf := fun ds M => match ds with
  | [.int i] => some (.int i, M)
  | [.bl b] => some (.int (if b then 1 else 0), M)
  | _ => none
theorem sim_int1 {K : PySem.W.Frag} : SimC K (fun xs H Q => (∃ i, xs = [.int i] ∧ Q (.int i) H) ∨ ∃ k, xs = [.bl k] ∧ Q (.int (if k then 1 else 0)) H) fInt1 := by
  intro ι M H xs ds z M1 Q R V hf k
  unfold fInt1 at hf
  split at hf
  · rename_i i
    obtain ⟨v, rfl, hv⟩ := DVs.one V
    cases hf
    rw [show v = _ from hv]
    exact .inl ⟨i, rfl, k ι _ H Ext.refl R rfl⟩
  · rename_i b
    obtain ⟨v, rfl, hv⟩ := DVs.one V
    cases hf
    rw [show v = _ from hv]
    exact .inr ⟨b, rfl, k ι _ H Ext.refl R rfl⟩
  · cases hf
def fMax2 : DCf := fun ds M => match ds with
  | [.int i, .int j] => some (.int (if j > i then j else i), M)
  | _ => none
def fMin2 : DCf := fun ds M => match ds with
  | [.int i, .int j] => some (.int (if j < i then j else i), M)
  | _ => none
theorem sim_max2 {K : PySem.W.Frag} : SimC K (fun xs H Q => ∃ i j, xs = [.int i, .int j] ∧ Q (.int (if j > i then j else i)) H) fMax2 := by
  intro ι M H xs ds z M1 Q R V hf k
  unfold fMax2 at hf
  split at hf
  · rename_i i j
    obtain ⟨v, w, rfl, hv, hw⟩ := DVs.two V
    cases hf
    rw [show v = _ from hv, show w = _ from hw]
    exact ⟨i, j, rfl, k ι _ H Ext.refl R rfl⟩
  · cases hf
theorem sim_min2 {K : PySem.W.Frag} : SimC K (fun xs H Q => ∃ i j, xs = [.int i, .int j] ∧ Q (.int (if j < i then j else i)) H) fMin2 := by
  intro ι M H xs ds z M1 Q R V hf k
  unfold fMin2 at hf
  split at hf
  · rename_i i j
    obtain ⟨v, w, rfl, hv, hw⟩ := DVs.two V
    cases hf
    rw [show v = _ from hv, show w = _ from hw]
    exact ⟨i, j, rfl, k ι _ H Ext.refl R rfl⟩
  · cases hf
/-- tuple(x), list(x) of a list or a tuple -/
def fTuple : DCf := fun ds M => match ds with
  | [d] => (match itemsD d M with
    | some es => some (.tup es, M)
    | none => none)
  | _ => none
def rTupleOf (K : PySem.W.Frag) : List V → Hp → VK → Prop := fun xs H Q => ∃ p ys, xs = [.ref p] ∧ ((SqL K H p ys ∧ ∀ l, H l = none → Q (.ref l) (upd H l (.tup ys))) ∨ (SqT K H p ys ∧ Q (.ref p) H))
def rListOf (K : PySem.W.Frag) : List V → Hp → VK → Prop := fun xs H Q => ∃ p ys, xs = [.ref p] ∧ (SqL K H p ys ∨ SqT K H p ys) ∧ ∀ l, H l = none → Q (.ref l) (upd H l (.lst ys))
theorem sim_tuple {K : PySem.W.Frag} : SimC K (rTupleOf K) fTuple := by
  intro ι M H xs ds z M1 Q R V hf k
  unfold fTuple at hf
  split at hf
  · rename_i d
    obtain ⟨v, rfl, hv⟩ := DVs.one V
    split at hf
    · rename_i es hi
      cases hf
      obtain ⟨a, ys, rfl, hx, hv2⟩ := itemsD_ok R hv hi
      rcases hx with hx | hx
      · exact ⟨a, ys, rfl, .inr ⟨hx, k ι _ H Ext.refl R ⟨a, ys, rfl, hx, hv2⟩⟩⟩
      · refine ⟨a, ys, rfl, .inl ⟨hx, fun l hl => ?_⟩⟩
        obtain ⟨R2, e2, V2⟩ := R.newT hl hv2
        exact k _ _ _ e2 R2 V2
    · cases hf
  · cases hf
def fList : DCf := fun ds M => match ds with
  | [d] => (match itemsD d M with
    | some es => some (.obj M.length, M ++ [.lst es])
    | none => none)
  | _ => none
theorem sim_list {K : PySem.W.Frag} : SimC K (rListOf K) fList := by
  intro ι M H xs ds z M1 Q R V hf k
  unfold fList at hf
  split at hf
  · rename_i d
    obtain ⟨v, rfl, hv⟩ := DVs.one V
    split at hf
    · rename_i es hi
      cases hf
      obtain ⟨a, ys, rfl, hx, hv2⟩ := itemsD_ok R hv hi
      refine ⟨a, ys, rfl, hx.elim .inr .inl, fun l hl => ?_⟩
      obtain ⟨R2, e2, V2⟩ := R.newL hl hv2
      exact k _ _ _ e2 R2 V2
    · cases hf
  · cases hf
/-- all(xs), any(xs) of a list of truths -/
def boolsD : List D → Option (List Bool)
  | [] => some []
  | .bl b :: ds => (boolsD ds).map (b :: ·)
  | _ => none
theorem boolsD_ok {K : PySem.W.Frag} {ι : List Addr} {H : Hp} : ∀ (ds : List D) {xs : List V} {bs : List Bool}, DVs K ι H ds xs → boolsD ds = some bs → xs = bs.map V.bl
  | [], xs, bs, h, e => by rw [show xs = _ from h]; cases e; rfl
  | d :: ds, xs, bs, h, e => by
    obtain ⟨y, ys, rfl, h2, h3⟩ := h
    cases d with
    | bl b =>
      simp only [boolsD] at e
      cases hq : boolsD ds with
      | none => rw [hq] at e; cases e
      | some cs =>
        rw [hq] at e
        cases e
        rw [show y = _ from h2, boolsD_ok ds h3 hq]
        rfl
    | _ => cases e
def fAll : DCf := fun ds M => match ds with
  | [.obj n] => (match M[n]? with
    | some (.lst es) => (match boolsD es with
      | some bs => some (.bl (bs.all id), M)
      | none => none)
    | _ => none)
  | _ => none
def fAny : DCf := fun ds M => match ds with
  | [.obj n] => (match M[n]? with
    | some (.lst es) => (match boolsD es with
      | some bs => some (.bl (bs.any id), M)
      | none => none)
    | _ => none)
  | _ => none
theorem sim_all {K : PySem.W.Frag} : SimC K (rAll K) fAll := by
  intro ι M H xs ds z M1 Q R V hf k
  unfold fAll at hf
  split at hf
  · rename_i n
    split at hf
    · rename_i es hm
      split at hf
      · rename_i bs hb
        cases hf
        obtain ⟨v, rfl, a, rfl, ha⟩ := DVs.one V
        obtain ⟨ys, hx, hv⟩ := R.lst ha hm
        rw [boolsD_ok _ hv hb] at hx
        exact ⟨a, bs, rfl, SqL.of hx, k ι _ H Ext.refl R rfl⟩
      · cases hf
    · cases hf
  · cases hf
theorem sim_any {K : PySem.W.Frag} : SimC K (rAny K) fAny := by
  intro ι M H xs ds z M1 Q R V hf k
  unfold fAny at hf
  split at hf
  · rename_i n
    split at hf
    · rename_i es hm
      split at hf
      · rename_i bs hb
        cases hf
        obtain ⟨v, rfl, a, rfl, ha⟩ := DVs.one V
        obtain ⟨ys, hx, hv⟩ := R.lst ha hm
        rw [boolsD_ok _ hv hb] at hx
        exact ⟨a, bs, rfl, SqL.of hx, k ι _ H Ext.refl R rfl⟩
      · cases hf
    · cases hf
  · cases hf
/-! ### isinstance -/
def tyOf : D → Sto → Option String
  | .non, _ => some "NoneType"
  | .bl _, _ => some "bool"
  | .int _, _ => some "int"
  | .str _, _ => some "str"
  | .tup _, _ => some "tuple"
  | .obj n, M => match M[n]? with
    | some (.lst _) => some "list"
    | _ => none
  | .ty _, _ => none
  | .scr _, _ => none
theorem tyOf_ok {K : PySem.W.Frag} {ι : List Addr} {M : Sto} {H : Hp} {d : D} {v : V} {T : String} (R : Rep K ι M H) (h : DV K ι H d v) (e : tyOf d M = some T) : TyX K H v (.type T) := by
  cases d with
  | non => rw [show v = _ from h]; cases e; exact .base .non
  | bl b => rw [show v = _ from h]; cases e; exact .base (.bl b)
  | int b => rw [show v = _ from h]; cases e; exact .base (.int b)
  | str b => rw [show v = _ from h]; cases e; exact .base (.str b)
  | ty n => cases e
  | scr n => cases e
  | tup ds =>
    obtain ⟨a, xs, rfl, h2, h3⟩ := h
    cases e
    rcases h2 with (h2 | ⟨o, h2⟩) | ⟨o, its, n, h2, h4, _⟩
    · exact .base (.tup h2)
    · exact .fTuple h2
    · exact .kTuple h2 h4
  | obj n =>
    obtain ⟨a, rfl, ha⟩ := h
    simp only [tyOf] at e
    split at e
    · rename_i ds hm
      cases e
      obtain ⟨xs, hx, _⟩ := R.lst ha hm
      exact .base (.lst hx)
    · cases e
/-- what isinstance says of the built-in types -/
def isTy (t T : String) : Option Bool := if T = "int" then some (t == "int" || t == "bool") else if T = "str" ∨ T = "bool" ∨ T = "tuple" ∨ T = "list" then some (t == T) else none
theorem isTy_ok {K : PySem.W.Frag} {d : D} {M : Sto} {t T : String} {b : Bool} (ht : tyOf d M = some t) (h : isTy t T = some b) : PySem.W.kitOne K (.type t) (.type T) = some b := by
  have hT : t = "NoneType" ∨ t = "bool" ∨ t = "int" ∨ t = "str" ∨ t = "tuple" ∨ t = "list" := by
    cases d with
    | obj n =>
      simp only [tyOf] at ht
      split at ht
      · cases ht; simp
      · cases ht
    | ty n => cases ht
    | scr n => cases ht
    | _ => cases ht; simp
  unfold isTy at h
  split at h
  · rename_i hI
    subst hI
    cases h
    rcases hT with rfl | rfl | rfl | rfl | rfl | rfl <;> exact kit_ty (by decide +kernel)
  · split at h
    · rename_i hI
      cases h
      rcases hI with rfl | rfl | rfl | rfl <;> (rcases hT with rfl | rfl | rfl | rfl | rfl | rfl <;> exact kit_ty (by decide +kernel))
    · cases h
def isTys (t : String) : List D → Option Bool
  | [] => some false
  | .ty T :: r => match isTy t T, isTys t r with
    | some b, some c => some (b || c)
    | _, _ => none
  | _ => none
def fIsI : DCf := fun ds M => match ds with
  | [x, .ty T] => (match tyOf x M with
    | some t => (match isTy t T with
      | some b => some (.bl b, M)
      | none => none)
    | none => none)
  | [x, .tup cs] => (match tyOf x M with
    | some t => (match isTys t cs with
      | some b => some (.bl b, M)
      | none => none)
    | none => none)
  | _ => none
def rIsiS (K : PySem.W.Frag) : List V → Hp → VK → Prop := fun xs H Q => ∃ (x : V) (tp : Addr) (cs : List V) (t : Value) (us : List Value) (b : Bool), xs = [x, .ref tp] ∧ SqT K H tp cs ∧ Paired ClsV cs us ∧ TyX K H x t ∧ PySem.W.kitAny K t us = some b ∧ Q (.bl b) H
theorem call_isiS {X : Cx} : CallR X (.builtin "isinstance") (rIsiS X.K) := by
  intro pins s σ H xs us Q I r h
  obtain ⟨x, tp, cs, t, ws, b, rfl, hT, k, ty, e, q⟩ := h
  obtain ⟨u1, u2, rfl, r1, r2⟩ := vals2 r
  cases (show u2 = Value.ref tp from r2)
  obtain ⟨P, Z, p, hx⟩ := kit_of I r1 ty
  obtain ⟨its, rv, ⟨o, h1, h2, n, h3⟩, _⟩ := I.tuple hT
  have e3 := ClsV.all k rv
  subst e3
  obtain ⟨oc, od, dt, sl⟩ := o
  simp only at h2 h3
  subst h2 h3
  exact PySem.W.kia_tup Z I.kIn p h1 e hx fun tk => ⟨.bl b, H, I.tok tk, rfl, q⟩
theorem CallR.or {X : Cx} {f : Value} {r r' : List V → Hp → VK → Prop} (h : CallR X f r) (h' : CallR X f r') : CallR X f (fun xs H Q => r xs H Q ∨ r' xs H Q) := fun pins s σ H xs us Q I rv q => q.elim (h pins s σ H xs us Q I rv) (h' pins s σ H xs us Q I rv)
theorem call_isiA {X : Cx} : CallR X (.builtin "isinstance") (fun xs H Q => rIsi X.K xs H Q ∨ rIsiS X.K xs H Q) := CallR.or call_isi call_isiS
theorem isTys_ok {K : PySem.W.Frag} {ι : List Addr} {H : Hp} {d : D} {M : Sto} {t : String} (ht : tyOf d M = some t) : ∀ (cs : List D) {b : Bool} {xs : List V}, isTys t cs = some b → DVs K ι H cs xs → ∃ us, Paired ClsV xs us ∧ PySem.W.kitAny K (.type t) us = some b
  | [], b, xs, h, V => by
    rw [show xs = _ from V]
    cases h
    exact ⟨[], .nil, rfl⟩
  | c0 :: r, b, xs, h, V => by
    obtain ⟨y, ys, rfl, h2, h3⟩ := V
    cases c0 with
    | ty T =>
      rw [show y = _ from h2]
      simp only [isTys] at h
      cases h4 : isTy t T with
      | none => rw [h4] at h; cases h
      | some c =>
        cases h5 : isTys t r with
        | none => rw [h4, h5] at h; cases h
        | some c' =>
          rw [h4, h5] at h
          cases h
          have k1 := isTy_ok (K := K) ht h4
          obtain ⟨us, p, q⟩ := isTys_ok ht r h5 h3
          refine ⟨.type T :: us, .cons (.ty T) p, kitAny_cons k1 (fun z => ?_) fun z => ?_⟩
          · rw [z, Bool.false_or]; exact q
          · rw [z, Bool.true_or]
    | _ => cases h
def rIsiA (K : PySem.W.Frag) : List V → Hp → VK → Prop := fun xs H Q => rIsi K xs H Q ∨ rIsiS K xs H Q
theorem sim_isi {K : PySem.W.Frag} : SimC K (rIsiA K) fIsI := by
  intro ι M H xs ds z M1 Q R V hf k
  unfold fIsI at hf
  split at hf
  · rename_i x T
    obtain ⟨v, w, rfl, hv, hw⟩ := DVs.two V
    split at hf
    · rename_i t ht
      split at hf
      · rename_i b hb
        cases hf
        rw [show w = _ from hw]
        exact .inl ⟨v, _, _, _, b, rfl, .ty T, tyOf_ok R hv ht, isTy_ok ht hb, k ι _ H Ext.refl R rfl⟩
      · cases hf
    · cases hf
  · rename_i x cs
    obtain ⟨v, w, rfl, hv, hw⟩ := DVs.two V
    split at hf
    · rename_i t ht
      split at hf
      · rename_i b hb
        cases hf
        obtain ⟨a, ys, rfl, h2, h3⟩ := hw
        obtain ⟨us, p, q⟩ := isTys_ok (K := K) ht cs hb h3
        exact .inr ⟨v, a, ys, _, us, b, rfl, h2, p, tyOf_ok R hv ht, q, k ι _ H Ext.refl R rfl⟩
      · cases hf
    · cases hf
  · cases hf
end DL
set_option maxHeartbeats 4000000
namespace DL
open PySem PySem.Spec PyProof.Rows L2

/-! ### unary minus, the names of types -/
def dUn (f : D → Option D) (de : DE) : DE := fun ρ M => bnd (de ρ M) fun d M1 => match f d with
  | some z => some (.ok z M1)
  | none => none
def fNeg : D → Option D
  | .int i => some (.int (-i))
  | _ => none
def Sim1 (K : PySem.W.Frag) (r : V → Hp → VK → Prop) (f : D → Option D) : Prop := ∀ ι M H x d z (Q : VK), Rep K ι M H → DV K ι H d x → f d = some z → (∀ v, DV K ι H z v → Q v H) → r x H Q
theorem sim_neg {K : PySem.W.Frag} : Sim1 K (rU fun i => .int (-i)) fNeg := by
  intro ι M H x d z Q R V hf k
  cases d with
  | int i =>
    cases hf
    rw [show x = _ from V]
    exact ⟨i, rfl, k _ rfl⟩
  | _ => cases hf
section
variable {X : Cx} {E : XW} {pos p : Pos} {a : Expr} {da : DE}
theorem ped_un {op : UnaryOp} {r : V → Hp → VK → Prop} {f : D → Option D} (ho : UnR X (unaryOp op) r) (s : Sim1 X.K r f) (ha : PED X E a da) : PED X E (.UnaryOp op a pos) (dUn f da) :=
  PE.imp (pe_un ho ha) fun σ H Q ⟨ι, ρ, M, q, R, S, h, g⟩ => UE.go R S h g.2 fun d M1 _ h1 ι1 x H1 e1 R1 V1 S1 gx1 => by
    cases hf : f d with
    | none => simp only [hf] at h1; cases h1
    | some z =>
      simp only [hf] at h1
      cases h1
      exact s ι1 _ H1 x d z Q R1 V1 hf fun v hv => g.step e1 R1 hv
theorem ped_bty {x : Str} {T : String} (hm : X.mg x = none) (hv : bootBuiltins x = some (.type T)) (hg : Gl X x := by rfl) (hn : x ≠ "__name__" := by decide) (hd : (x == ("__debug__" : Str)) = false := by decide) : PED X E (.Name x pos) (dC (.ty T)) :=
  ped_of (pe_bltn hg hm hv (v := .ty T) rfl hn hd) fun _ _ => rfl
end

/-! ### a text walked -/
theorem sim_its {K : PySem.W.Frag} {ι : List Addr} {H : Hp} {z : Str} : SimIt K ι H (Its z) (itStr z) := by
  intro ι1 M H1 i e R
  cases hc : z.cps[i]? with
  | none =>
    refine ⟨fun d hd => ?_, fun _ => ?_⟩
    · simp only [itStr, hc] at hd; cases hd
    · exact Array.getElem?_eq_none_iff.mp hc
  | some c =>
    have hi : i < z.cps.size := (Array.getElem?_eq_some_iff.mp hc).1
    refine ⟨fun d hd => ⟨?_, fun x H2 hy => ?_⟩, fun hd => ?_⟩
    · exact hi
    · simp only [itStr, hc, Option.some.injEq] at hd
      subst hd
      obtain ⟨rfl, c', h1, rfl⟩ := hy
      rw [hc] at h1
      cases h1
      exact ⟨ι1, Ext.refl, R, rfl⟩
    · simp only [itStr, hc] at hd; cases hd
section
variable {X : Cx} {E : XW} {tg l : Expr} {de : DE}
theorem pid_str (hl : PED X E l de) : PID X E tg l (diStr de) :=
  PI.imp (pi_str hl) fun σ H Q ⟨ι, ρ, M, r, R, S, h, g⟩ => UE.go R S h g.2 fun d M1 _ h1 ι1 x H1 e1 R1 V1 S1 gx1 => by
    cases d with
    | str z =>
      cases h1
      exact ⟨z, V1, g.step e1 R1 sim_its⟩
    | _ => cases h1
end

/-! ### str.join, str.index -/
def strsD : List D → Option (List Str)
  | [] => some []
  | d :: ds => match d, strsD ds with
    | .str x, some xs => some (x :: xs)
    | _, _ => none
theorem strsD_ok {K : PySem.W.Frag} {ι : List Addr} {H : Hp} : ∀ (ds : List D) {xs : List V} {ys : List Str}, DVs K ι H ds xs → strsD ds = some ys → xs = ys.map V.str
  | [], xs, ys, h, e => by rw [show xs = _ from h]; cases e; rfl
  | d :: ds, xs, ys, h, e => by
    obtain ⟨y, zs, rfl, h2, h3⟩ := h
    simp only [strsD] at e
    split at e
    · rename_i x ws hw
      cases e
      rw [show y = _ from h2, strsD_ok ds h3 hw]
      rfl
    · cases e
def fJoin : DMf := fun x vs M => match x, vs with
  | .str a, [d] => (match itemsD d M with
    | some es => (match strsD es with
      | some ys => if (ys.map (·.length)).sum + ys.length * a.length ≤ 16777216 then some (.str (Txt.join a ys), M) else none
      | none => none)
    | none => none)
  | _, _ => none
def rJoin (K : PySem.W.Frag) : V → List V → Hp → VK → Prop := fun x xs H Q => ∃ a p, ∃ ys : List Str, x = .str a ∧ xs = [.ref p] ∧ (SqL K H p (ys.map V.str) ∨ SqT K H p (ys.map V.str)) ∧
    (ys.map (·.length)).sum + ys.length * a.length ≤ 16777216 ∧ Q (.str (Txt.join a ys)) H
theorem mt_joinD {X : Cx} : MtR X "str.join" (rJoin X.K) := mt_join
theorem sim_join {K : PySem.W.Frag} : SimM K (rJoin K) fJoin := by
  intro ι M H x d xs ds z M1 Q R V W hf k
  unfold fJoin at hf
  split at hf
  · rename_i a d
    split at hf
    · rename_i es hi
      split at hf
      · rename_i ys hy
        split at hf
        · rename_i hl
          cases hf
          obtain ⟨v, rfl, hv⟩ := DVs.one W
          rw [show x = _ from V]
          obtain ⟨p, zs, rfl, hx, hv2⟩ := itemsD_ok R hv hi
          rw [strsD_ok es hv2 hy] at hx
          exact ⟨a, p, ys, rfl, rfl, hx.elim .inr .inl, hl, k ι _ H Ext.refl R rfl⟩
        · cases hf
      · cases hf
    · cases hf
  · cases hf
def rSIndex : V → List V → Hp → VK → Prop := fun x xs H Q => ∃ (a b : Str) (k : Nat), x = .str a ∧ xs = [.str b] ∧ Txt.index0 a b = some k ∧ Q (.int (k : Nat)) H
theorem mt_sindex {X : Cx} : MtR X "str.index" rSIndex := by
  intro pins s σ H x xs v us Q I rx rs h
  obtain ⟨a, b, k0, rfl, rfl, hy, q0⟩ := h
  obtain ⟨t, rfl⟩ := rx
  cases rs with
  | cons r1 rs =>
    cases rs
    obtain ⟨u, rfl⟩ := r1
    cases q : Builtin.Str.occurrences a b 0 a.length 1 with
    | nil => unfold Txt.index0 at hy; rw [q] at hy; cases hy
    | cons k rest =>
      have hk : k = k0 := by unfold Txt.index0 at hy; rw [q] at hy; exact Option.some.inj hy
      subst hk
      exact PySem.SC.index q ⟨.int (k : Nat), H, I.tok _, ⟨_, rfl⟩, q0⟩
def fSIndex : DMf := fun x vs M => match x, vs with
  | .str a, [.str b] => (match Txt.index0 a b with
    | some k => some (.int (k : Nat), M)
    | none => none)
  | _, _ => none
theorem sim_sindex {K : PySem.W.Frag} : SimM K rSIndex fSIndex := by
  intro ι M H x d xs ds z M1 Q R V W hf k
  unfold fSIndex at hf
  split at hf
  · rename_i a b
    split at hf
    · rename_i n hn
      cases hf
      obtain ⟨v, rfl, hv⟩ := DVs.one W
      rw [show x = _ from V, show v = _ from hv]
      exact ⟨a, b, n, rfl, rfl, hn, k ι _ H Ext.refl R rfl⟩
    · cases hf
  · cases hf

/-! ### a, b, c = x, y, z -/
def dPar3 (i j l : Nat) (da : DA) : DS := fun ρ M => bndS (da ρ M) ρ fun ds M1 => match ds with
  | [x, y, z] => some (.nx (((ρ.set i (some x)).set j (some y)).set l (some z)), M1)
  | _ => none
section
variable {X : Cx} {E : XW}
theorem psd_par3 (i j l : Nat) {x y z : Str} {a b c : Expr} {da : DA} {px py pz pt pos : Pos} {kt k2 pt2} (hc : X.calm = true) (hN : X.N.Nodup) (ha : PAD X E [a, b, c] da) (hi : X.N[i]? = some x := by rfl) (hj : X.N[j]? = some y := by rfl) (hl : X.N[l]? = some z := by rfl) (hij : i ≠ j := by decide) (hil : i ≠ l := by decide) (hjl : j ≠ l := by decide)
    (hx : X.env.scope.names.lookup x = some .local := by rfl) (hy : X.env.scope.names.lookup y = some .local := by rfl) (hz : X.env.scope.names.lookup z = some .local := by rfl)
    (hw : swappedStores [.Tuple [.Name x px, .Name y py, .Name z pz] kt pt] (.Tuple [a, b, c] k2 pt2) X.env = pure (some [x, y, z]) := by rfl)
    (hs : swapsWithSole [.Tuple [.Name x px, .Name y py, .Name z pz] kt pt] (.Tuple [a, b, c] k2 pt2) pos.line X.env = pure false := by rfl) :
    PSD X E (.Assign [.Tuple [.Name x px, .Name y py, .Name z pz] kt pt] (.Tuple [a, b, c] k2 pt2) pos) (dPar3 i j l da) := PS.imp (ps_par3 hc hN hi hj hl hij hil hjl hx hy hz ha hw hs) fun Dn σ H ⟨ι, ρ, M, f, M', R, S, h, g⟩ =>
  UA.goS R S h g fun ds M1 _ h1 ι1 vs H1 e1 R1 V1 S1 g1 => by
    match ds, h1, V1 with
    | [c, d, e], h1, V1 =>
      cases h1
      obtain ⟨u, us, rfl, hu, V2⟩ := V1
      obtain ⟨v, w, rfl, hv, hw⟩ := DVs.two V2
      exact ⟨u, v, w, rfl, g1.nx Ext.refl R1 (((S1.set i hu).set j hv).set l hw)⟩
end

/-! ### o[i] = v, o[i] op= v of lists -/
def dgSub (do_ di : DE) : DG := fun d ρ M => match do_ ρ M with
  | some (.ok (.obj n) M1) => (match di ρ M1 with
    | some (.ok (.int k) M2) => (match M2[n]? with
      | some (.lst ds) => (match ixN ds.length k with
        | some j => some (ρ, M2.set n (.lst (ds.set j d)))
        | none => none)
      | _ => none)
    | _ => none)
  | _ => none
theorem UE.at {K : PySem.W.Frag} {E : XW} {ι : List Addr} {M : Sto} {H : Hp} {σ : L2.St} {ρ : LE} {de : DE} {d : D} {M1 : Sto} {P : VK} (R : Rep K ι M H) (S : Slots K ι H σ ρ) (h : de ρ M = some (.ok d M1)) (k : ∀ ι1 v H1, Ext K ι H ι1 H1 → Rep K ι1 M1 H1 → DV K ι1 H1 d v → Slots K ι1 H1 σ ρ → P v H1) : UE K E de σ H P :=
  ⟨ι, ρ, M, _, R, S, h, fun d' M' q => (by cases q; exact fun ι1 v H1 e R1 V1 => k ι1 v H1 e R1 V1 (S.mono e)), GX.ok⟩
section
variable {X : Cx} {E : XW} {pos : Pos} {o i e : Expr} {do_ di de : DE}
theorem pgd_sub (ho : PED X EF o do_) (hi : PED X EF i di)
    (ha : ∀ v, assign (.Subscript o i pos) X.env v = (do
      let ov ← holding [v] (eval o X.env)
      let iv ← holding [v, ov] (eval i X.env)
      standAt pos
      holding [v, ov, iv] (setItem ov iv v)
      release [v, ov, iv] []) := by intro _; rfl) : PGD X (.Subscript o i pos) (dgSub do_ di) := PG.imp (pg_sub ho hi set_list ha) fun v σ H Q ⟨ι, ρ, M, d, ρ', M', R, S, V, h, k⟩ => by
  unfold dgSub at h
  split at h
  · rename_i n M1 h1
    split at h
    · rename_i kk M2 h2
      split at h
      · rename_i ds hm
        split at h
        · rename_i j hj
          cases h
          refine UE.at R S h1 fun ι1 x H1 e1 R1 V1 S1 => UE.at R1 S1 h2 fun ι2 y H2 e2 R2 V2 S2 => ?_
          obtain ⟨a, rfl, hn⟩ := DV.mono e2 _ _ V1
          rw [show y = _ from V2]
          obtain ⟨xs, hx, hv⟩ := R2.lst hn hm
          have V3 := DV.mono (e1.trans e2) _ _ V
          obtain ⟨R3, e3⟩ := R2.putL (ds := ds) (es := ds.set j d) (ys := xs.set j v) hn hx (hv.set j V3)
          exact ⟨a, xs, kk, j, rfl, rfl, hx, by rw [DVs.length hv]; exact hj, k ι2 σ _ ((e1.trans e2).trans e3) R3 (S2.mono e3)⟩
        · cases h
      · cases h
    · cases h
  · cases h
end
end DL
set_option maxHeartbeats 4000000
namespace DL
open PySem PySem.Spec PyProof.Rows L2

/-! ### fields -/
def putD (f : Str) (v : D) : List (Str × D) → List (Str × D)
  | [] => [(f, v)]
  | (g, x) :: r => if g = f then (g, v) :: r else (g, x) :: putD f v r
section
variable {K : PySem.W.Frag} {ι : List Addr} {H : Hp}
theorem DFs.cons {f g : Str} {d : D} {v : V} {fs : List (Str × D)} {vs : List (Str × V)} (h : DFs K ι H ((f, d) :: fs) ((g, v) :: vs)) : f = g ∧ DV K ι H d v ∧ DFs K ι H fs vs := by
  obtain ⟨h1, y, ys, h2, h3, h4⟩ := h
  simp only [List.map_cons, List.cons.injEq] at h1 h2
  obtain ⟨rfl, h5⟩ := h1
  obtain ⟨rfl, rfl⟩ := h2
  exact ⟨rfl, h3, h5, h4⟩
theorem DFs.mk {f : Str} {d : D} {v : V} {fs : List (Str × D)} {vs : List (Str × V)} (h : DV K ι H d v) (h2 : DFs K ι H fs vs) : DFs K ι H ((f, d) :: fs) ((f, v) :: vs) :=
  ⟨by simp [h2.1], v, vs.map (·.2), rfl, h, h2.2⟩
theorem DFs.lookup {f : Str} : ∀ {fs : List (Str × D)} {vs : List (Str × V)} {d : D}, DFs K ι H fs vs → fs.lookup f = some d → ∃ v, vs.lookup f = some v ∧ DV K ι H d v
  | [], _, _, _, h => by cases h
  | (g, e) :: fs, [], _, h, _ => by have := h.1; simp at this
  | (g, e) :: fs, (g', w) :: vs, d, h, hl => by
    obtain ⟨rfl, h1, h2⟩ := h.cons
    rw [List.lookup_cons] at hl ⊢
    cases hq : f == g with
    | true =>
      rw [hq] at hl
      cases hl
      exact ⟨w, rfl, h1⟩
    | false =>
      rw [hq] at hl
      exact DFs.lookup h2 hl
theorem DFs.lookup_none {f : Str} : ∀ {fs : List (Str × D)} {vs : List (Str × V)}, DFs K ι H fs vs → fs.lookup f = none → vs.lookup f = none
  | [], [], _, _ => rfl
  | [], (g, w) :: vs, h, _ => by have := h.1; simp at this
  | (g, e) :: fs, [], _, _ => rfl
  | (g, e) :: fs, (g', w) :: vs, h, hl => by
    obtain ⟨rfl, h1, h2⟩ := h.cons
    rw [List.lookup_cons] at hl ⊢
    cases hq : f == g with
    | true => rw [hq] at hl; cases hl
    | false =>
      rw [hq] at hl
      exact DFs.lookup_none h2 hl
theorem DFs.put {f : Str} {d : D} {v : V} (hv : DV K ι H d v) : ∀ {fs : List (Str × D)} {vs : List (Str × V)}, DFs K ι H fs vs → DFs K ι H (putD f d fs) (putF f v vs)
  | [], [], _ => DFs.mk hv ⟨rfl, rfl⟩
  | [], (g, w) :: vs, h => by have := h.1; simp at this
  | (g, e) :: fs, [], h => by have := h.1; simp at this
  | (g, e) :: fs, (g', w) :: vs, h => by
    obtain ⟨rfl, h1, h2⟩ := h.cons
    unfold putD putF
    by_cases hq : g = f
    · rw [if_pos hq, if_pos hq]
      exact DFs.mk hv h2
    · rw [if_neg hq, if_neg hq]
      exact DFs.mk h1 (DFs.put hv h2)
theorem DFs.length {fs : List (Str × D)} {vs : List (Str × V)} (h : DFs K ι H fs vs) : vs.length = fs.length := by
  have := congrArg List.length h.1
  simpa using this
end
theorem Rep.ins {K : PySem.W.Frag} {ι : List Addr} {M : Sto} {H : Hp} (R : Rep K ι M H) {n : Nat} {a C : Addr} {fs : List (Str × D)} (ha : ι[n]? = some a) (hm : M[n]? = some (.ins C fs)) : ∃ dx vs, H a = some (.ins C dx vs) ∧ H dx = some (.own a) ∧ DFs K ι H fs vs := R.obs n a _ ha hm
theorem Rep.putI {K : PySem.W.Frag} {ι : List Addr} {M : Sto} {H : Hp} (R : Rep K ι M H) {n : Nat} {a C dx : Addr} {fs : List (Str × D)} {vs ws : List (Str × V)} (ha : ι[n]? = some a) (hu : H a = some (.ins C dx vs)) (ho : H dx = some (.own a)) (h : DFs K ι H fs ws) : Rep K ι (M.set n (.ins C fs)) (upd H a (.ins C dx ws)) ∧ Ext K ι H ι (upd H a (.ins C dx ws)) := by
  have e : Ext K ι H ι (upd H a (.ins C dx ws)) := Ext.mut hu (fun _ z => by cases z) fun _ _ z => by cases z
  have hne : dx ≠ a := by
    intro q
    rw [q, hu] at ho
    cases ho
  exact ⟨R.put ha hu (fun _ z => by cases z) (fun _ _ z => by cases z) (fun _ z => by cases z) ⟨dx, ws, upd_same, by rw [upd_ne hne]; exact ho, h.mono e⟩, e⟩
/-- o.f -/
def dFld (C : Addr) (f : Str) (de : DE) : DE := fun ρ M => bnd (de ρ M) fun d M1 => match d with
  | .obj n => (match M1[n]? with
    | some (.ins C' fs) => if C' = C then (match fs.lookup f with
      | some v => some (.ok v M1)
      | none => none) else none
    | _ => none)
  | _ => none
/-- o.f = v -/
def dSetFld (C : Addr) (f : Str) (do_ dv : DE) : DS := fun ρ M => bndS (dv ρ M) ρ fun y M1 => bndS (do_ ρ M1) ρ fun d M2 => match d with
  | .obj n => (match M2[n]? with
    | some (.ins C' fs) => if C' = C ∧ fs.length < 1000 then some (.nx ρ, M2.set n (.ins C (putD f y fs))) else none
    | _ => none)
  | _ => none
/-- o.f += v, of ints -/
def dAugFld (C : Addr) (f : Str) (do_ dv : DE) : DS := fun ρ M => bndS (do_ ρ M) ρ fun d M1 => match d with
  | .obj n => (match M1[n]? with
    | some (.ins C' fs) => if C' = C then (match fs.lookup f with
      | some (.int i) => bndS (dv ρ M1) ρ fun y M2 => (match y with
        | .int j => (match M2[n]? with
          | some (.ins C'' gs) => if C'' = C ∧ gs.length < 1000 then some (.nx ρ, M2.set n (.ins C (putD f (.int (i + j)) gs))) else none
          | _ => none)
        | _ => none)
      | _ => none) else none
    | _ => none)
  | _ => none
section
variable {X : Cx} {E : XW} {pos pos' tpos : Pos} {o e value : Expr} {f : Str} {C : Addr} {de do_ dv : DE}
theorem ped_fld (c : Cls X.K C) (n : NoAttr X.K C f) (he : PED X E e de) (hb : attributeBase e f X.env (eval e X.env) = eval e X.env := by rfl) : PED X E (.Attribute e f pos) (dFld C f de) :=
  PE.imp (pe_fld he hb) fun σ H Q ⟨ι, ρ, M, r, R, S, h, g⟩ => UE.go R S h g.2 fun d M1 _ h1 ι1 x H1 e1 R1 V1 S1 gx1 => by
    cases d with
    | obj m =>
      obtain ⟨a, rfl, ha⟩ := V1
      dsimp only at h1
      split at h1
      · rename_i C' fs hm
        split at h1
        · rename_i hC
          subst hC
          split at h1
          · rename_i v hl
            cases h1
            obtain ⟨dx, vs, hx, ho, hv⟩ := R1.ins ha hm
            obtain ⟨w, hw, rw'⟩ := hv.lookup hl
            exact ⟨a, _, dx, vs, w, rfl, hx, c, n, hw, g.step e1 R1 rw'⟩
          · cases h1
        · cases h1
      · cases h1
    | _ => cases h1
theorem psd_fld (c : Cls X.K C) (n : NoAttr X.K C f) (ho : PED X E o do_) (hv : PED X E value dv) (hs : swapsWith value (some (.Attribute o f pos')) pos.line X.env = pure false := by rfl) : PSD X E (.Assign [.Attribute o f pos'] value pos) (dSetFld C f do_ dv) :=
  PS.imp (ps_fld ho hv hs) fun Dn σ H ⟨ι, ρ, M, fl, M', R, S, h, g⟩ => UE.goS R S h g fun y M1 _ h1 ι1 v H1 e1 R1 V1 S1 g1 => UE.goS R1 S1 h1 g1 fun d M2 _ h2 ι2 x H2 e2 R2 V2 S2 g2 => by
    cases d with
    | obj m =>
      obtain ⟨a, rfl, ha⟩ := V2
      dsimp only at h2
      split at h2
      · rename_i C' fs hm
        split at h2
        · rename_i hC
          obtain ⟨rfl, hl⟩ := hC
          cases h2
          obtain ⟨dx, vs, hx, ho, hv⟩ := R2.ins ha hm
          have V1' := DV.mono e2 _ _ V1
          obtain ⟨R3, e3⟩ := R2.putI ha hx ho (hv.put (f := f) V1')
          exact ⟨a, _, dx, vs, rfl, hx, c, n, by rw [hv.length]; exact hl, g2.nx e3 R3 (S2.mono e3)⟩
        · cases h2
      · cases h2
    | _ => cases h2
theorem psd_fldaug (c : Cls X.K C) (n : NoAttr X.K C f) (ho : PED X E o do_) (hv : PED X E value dv) : PSD X E (.AugAssign (.Attribute o f tpos) .Add value pos) (dAugFld C f do_ dv) :=
  PS.imp (ps_fldaug ho hv in_add) fun Dn σ H ⟨ι, ρ, M, fl, M', R, S, h, g⟩ => UE.goS R S h g fun d M1 _ h1 ι1 x H1 e1 R1 V1 S1 g1 => by
    cases d with
    | obj m =>
      obtain ⟨a, rfl, ha⟩ := V1
      dsimp only at h1
      split at h1
      · rename_i C' fs hm
        split at h1
        · rename_i hC
          subst hC
          split at h1
          · rename_i i hl
            obtain ⟨dx, vs, hx, ho, hv⟩ := R1.ins ha hm
            obtain ⟨w, hw, rw'⟩ := hv.lookup hl
            refine ⟨a, _, dx, vs, w, rfl, hx, c, n, hw, UE.goS R1 S1 h1 g1 fun y M2 _ h2 ι2 v2 H2 e2 R2 V2 S2 g2 => ?_⟩
            cases y with
            | int j =>
              dsimp only at h2
              split at h2
              · rename_i C'' gs hm2
                split at h2
                · rename_i hC2
                  obtain ⟨rfl, hl2⟩ := hC2
                  cases h2
                  obtain ⟨dx2, vs2, hx2, ho2, hv2⟩ := R2.ins (e2.get ha) hm2
                  obtain ⟨R3, e3⟩ := R2.putI (e2.get ha) hx2 ho2 (hv2.put (f := f) (d := .int (i + j)) (v := .int (i + j)) rfl)
                  rw [show w = _ from rw', show v2 = _ from V2]
                  exact ⟨i, j, rfl, rfl, dx2, vs2, hx2, by rw [hv2.length]; exact hl2, g2.nx e3 R3 (S2.mono e3)⟩
                · cases h2
              · cases h2
            | _ => cases h2
          · cases h1
        · cases h1
      · cases h1
    | _ => cases h1
end
/-! ### methods and makers of own classes -/
def HasMP (P : Program) (w : World) (K : PySem.W.Frag) (mg : Str → Option Value) (base : Heap) (k : Nat) (C : Addr) (m : Str) (F : DF) : Prop := ∃ (f : Addr) (fd : FuncData) (ps : List Str), Cls K C ∧ Meth K C m f ∧ Binds K fd ps [] ∧ FnOk P w K mg base CX0 k f fd ps (spF K F)
abbrev HasM (X : Cx) (k : Nat) (C : Addr) (m : Str) (F : DF) : Prop := HasMP X.prog X.w X.K X.mg X.base k C m F
def dMeth (C : Addr) (m : Str) (F : DF) (do_ : DE) (da : DA) : DE := fun ρ M => bnd (do_ ρ M) fun x M1 => match x with
  | .obj n => (match M1[n]? with
    | some (.ins C' fs) => if C' = C ∧ fs.lookup m = none then bnd (da ρ M1) fun ds M2 => (match F (.obj n :: ds) M2 with
      | some (.ok d M3) => some (.ok d M3)
      | _ => none) else none
    | _ => none)
  | _ => none
/-- C(..) -/
def HasMkP (P : Program) (w : World) (K : PySem.W.Frag) (mg : Str → Option Value) (base : Heap) (k : Nat) (x : Str) (C : Addr) (F : DF) : Prop := ∃ (f : Addr) (fd : FuncData) (ps : List Str), mg x = some (.ref C) ∧ Mk K C f ∧ Binds K fd ps [] ∧ FnOk P w K mg base CX0 k f fd ps (spF K F)
abbrev HasMk (X : Cx) (k : Nat) (x : Str) (C : Addr) (F : DF) : Prop := HasMkP X.prog X.w X.K X.mg X.base k x C F
def dMake (C : Addr) (F : DF) (da : DA) : DE := fun ρ M => bnd (da ρ M) fun ds M1 => match F (.obj M1.length :: ds) (M1 ++ [.ins C []]) with
  | some (.ok .non M2) => if M1.length < M2.length then some (.ok (.obj M1.length) M2) else none
  | _ => none
section
variable {X : Cx} {E : XW} {pos apos p : Pos} {o e : Expr} {es : List Expr} {m x : Str} {C : Addr} {F : DF} {do_ : DE} {da : DA} {k j : Nat}
theorem run_meth {K : PySem.W.Frag} {E : XW} {sp : Sp} (hsp : sp = spF K F) : ∀ σ H Q, UE K E (dMeth C m F do_ da) σ H Q → tMeth C m sp [] E0 (UE K E do_) (UA K E da) σ H Q := fun σ H Q ⟨ι, ρ, M, r, R, S, h, g⟩ => UE.go R S h g.2 fun d M1 _ h1 ι1 x H1 e1 R1 V1 S1 gx1 => by
  subst hsp
  cases d with
  | obj n =>
    obtain ⟨a, rfl, ha⟩ := V1
    dsimp only at h1
    split at h1
    · rename_i C' fs hm
      split at h1
      · rename_i hC
        obtain ⟨rfl, hl⟩ := hC
        obtain ⟨dx, vs, hx, ho, hv⟩ := R1.ins ha hm
        refine ⟨a, dx, vs, rfl, hx, hv.lookup_none hl, UA.go R1 S1 h1 gx1 fun ds M2 _ h2 ι2 ws H2 e2 R2 V2 S2 gx2 => ?_⟩
        cases hF : F (.obj n :: ds) M2 with
        | none => simp only [hF] at h2; cases h2
        | some q =>
          simp only [hF] at h2
          cases q with
          | ex x M3 => cases h2
          | ok d3 M3 =>
            cases h2
            rw [List.append_nil]
            exact ⟨ι2, M2, .obj n :: ds, _, R2, ⟨.ref a, ws, rfl, ⟨a, rfl, e2.get ha⟩, V2⟩, hF, fun d' M' hq => (by cases hq; exact fun ι3 v H3 e3 R3 V3 => g.step ((e1.trans e2).trans e3) R3 V3), GX.ok⟩
      · cases h1
    · cases h1
  | _ => cases h1
theorem ped_meth {pl : Sem Bool} (h : HasM X k C m F) (hr : Room j X.A) (hk : k ≤ j) (ho : PED X E o do_) (ha : PAD X E (e :: es) da)
    (hst : starEach (e :: es) X.env = (false, eval e X.env) :: starEach es X.env := by rfl) (hpl : (backTo pos (starEach es X.env)).any (·.1) = false := by rfl)
    (ht : eval (.Call (.Attribute o m apos) (e :: es) [] pos) X.env = (do
      let ov ← eval o X.env
      standAt apos.atName
      let (f, first) ← holding [ov] (getMethod ov m pl)
      callWith pos f first (backTo pos (starEach (e :: es) X.env)) (backToKw pos (keywordEach [] X.env))) := by rfl) :
    PED X E (.Call (.Attribute o m apos) (e :: es) [] pos) (dMeth C m F do_ da) := by
  obtain ⟨f, fd, ps, c, hm, hb, hf⟩ := h
  exact PE.imp (pe_meth (pl := pl) ho c hm hf (hr.mono hk) hb .nil pass0 ha hst hpl ht) (run_meth rfl)
theorem ped_meth0 {pl : Sem Bool} (h : HasM X k C m F) (hr : Room j X.A) (hk : k ≤ j) (ho : PED X E o do_)
    (ht : eval (.Call (.Attribute o m apos) [] [] pos) X.env = (do
      let ov ← eval o X.env
      standAt apos.atName
      let (f, first) ← holding [ov] (getMethod ov m pl)
      callWith pos f first (backTo pos (starEach [] X.env)) (backToKw pos (keywordEach [] X.env))) := by rfl) :
    PED X E (.Call (.Attribute o m apos) [] [] pos) (dMeth C m F do_ dNil) := by
  obtain ⟨f, fd, ps, c, hm, hb, hf⟩ := h
  refine PE.imp (pe_meth0 (pl := pl) ho c hm hf (hr.mono hk) hb .nil pass0 ht) fun σ H Q hu => ?_
  have z : tMeth C m (spF X.K F) [] E0 (UE X.K E do_) (UA X.K E dNil) σ H Q := run_meth rfl σ H Q hu
  obtain ⟨ι, ρ, M, r, R, S, h, g⟩ := hu
  refine UE.go R S h g.2 fun d M1 _ h1 ι1 x H1 e1 R1 V1 S1 gx1 => ?_
  cases d with
  | obj n =>
    obtain ⟨a, rfl, ha⟩ := V1
    dsimp only at h1
    split at h1
    · rename_i C' fs hm9
      split at h1
      · rename_i hC
        obtain ⟨rfl, hl⟩ := hC
        obtain ⟨dx, vs, hx, ho, hv⟩ := R1.ins ha hm9
        refine ⟨a, dx, vs, rfl, hx, hv.lookup_none hl, ?_⟩
        show spF X.K F (.ref a :: ([] ++ [])) H1 Q E0
        simp only [dNil, bnd] at h1
        cases hF : F [.obj n] M1 with
        | none => simp only [hF] at h1; cases h1
        | some q =>
          simp only [hF] at h1
          cases q with
          | ex x M3 => cases h1
          | ok d3 M3 =>
            cases h1
            exact ⟨ι1, M1, [.obj n], _, R1, ⟨.ref a, [], rfl, ⟨a, rfl, ha⟩, rfl⟩, hF, fun d' M' hq => (by cases hq; exact fun ι3 v H3 e3 R3 V3 => g.step (e1.trans e3) R3 V3), GX.ok⟩
      · cases h1
    · cases h1
  | _ => cases h1
theorem ped_make (h : HasMk X k x C F) (hr : Room j X.A) (hk : k + 1 ≤ j) (ha : PAD X E (e :: es) da) (hg : Gl X x := by rfl) (hdb : (x == ("__debug__" : Str)) = false := by decide)
    (he : starEach (e :: es) X.env = (false, eval e X.env) :: starEach es X.env := by rfl) (hpl : (backTo pos (starEach es X.env)).any (·.1) = false := by rfl) : PED X E (.Call (.Name x p) (e :: es) [] pos) (dMake C F da) := by
  obtain ⟨f, fd, ps, hm, mk, hb, hf⟩ := h
  refine PE.imp (pe_make mk hf (hr.mono hk) hg hm hb .nil pass0 ha hdb he hpl) fun σ H Q ⟨ι, ρ, M, r, R, S, h, g⟩ => ?_
  refine UA.go R S h g.2 fun ds M1 _ h1 ι1 ws H1 e1 R1 V1 S1 gx1 => ?_
  intro y dx hy hdx hne
  have hy2 : upd H1 dx (.own y) y = none := by rw [upd_ne (Ne.symm hne)]; exact hy
  have R2 : Rep X.K ι1 M1 (upd H1 dx (.own y)) := R1.junk hdx
  have R3 : Rep X.K (ι1 ++ [y]) (M1 ++ [.ins C []]) (upd (upd H1 dx (.own y)) y (.ins C dx [])) := R2.alloc hy2 ⟨dx, [], upd_same, by rw [upd_ne hne]; exact upd_same, rfl, rfl⟩
  have e2 : Ext X.K ι1 H1 (ι1 ++ [y]) (upd (upd H1 dx (.own y)) y (.ins C dx [])) := (Ext.new (ι := ι1) hdx).trans (Ext.new1 hy2)
  have hy3 : (ι1 ++ [y])[M1.length]? = some y := by
    rw [← R1.len, List.getElem?_append_right (Nat.le_refl _)]
    simp
  rw [List.append_nil]
  cases hF : F (.obj M1.length :: ds) (M1 ++ [.ins C []]) with
  | none => simp only [hF] at h1; cases h1
  | some q =>
    simp only [hF] at h1
    split at h1
    · rename_i M2 hq
      cases hq
      split at h1
      · cases h1
        refine ⟨ι1 ++ [y], _, .obj M1.length :: ds, _, R3, ⟨.ref y, ws, rfl, ⟨y, rfl, hy3⟩, DVs.mono e2 _ _ V1⟩, hF, fun d' M' hq => ?_, GX.ok⟩
        cases hq
        intro ι4 v H4 e4 R4 V4
        exact ⟨V4, g.step ((e1.trans e2).trans e4) R4 ⟨y, rfl, e4.get hy3⟩⟩
      · cases h1
    · cases h1
/-- try: a body that raises nothing -/
theorem psd_try {x : Str} {c : Value} {body suite : List Stmt} {b₀ : Stmt} {np pos pos' : Pos} {db : DS} (hs : X.stack = X.env :: X.outer) (hf : X.env.frame = some X.env.locals) (hc : Names X x c)
    (hb : ∀ (W : WX) (pn : List (Addr × Obj)) (xe : Value → Shared → Prop), Takes (X.tr pn xe) W → PassesOwn (model X.prog X.w) X.A X.env xe → PSsD (X.tr pn xe) EF body db) :
    PSD X EF (.Try body [.ExceptHandler (some (.Name x np)) none (b₀ :: suite) pos'] [] [] pos) db :=
  ps_try_only (tb := fun _ => US X.K EF db) (ts := fun _ _ _ => tNever) (Wout := fun _ _ _ _ => False) hs hf hc takes0 (fun W pn xe tk pw => hb W pn xe tk pw) (fun a oe cls d pn hz hd => pss_never)
end
/-! ### o[i] op= v of a list of ints -/
theorem get_list {X : Cx} : PGet X (rIxL X.K) := by
  intro pins s σ H x y v u Q I rx ry h
  obtain ⟨p, xs, i, z, rfl, rfl, hq, he, q⟩ := h
  cases rx
  obtain ⟨t, rfl⟩ := ry
  obtain ⟨its, r, pl, hz⟩ := I.list hq
  obtain ⟨j, h1, h2, h3, h4, h5⟩ := atI_get he
  obtain ⟨w, ew, rw'⟩ := r.get h2
  have hl := r.length
  have hn := line63
  have fin : EP X pins σ Q w s := ⟨z, H, I, rw', q⟩
  by_cases h0 : 0 ≤ i
  · have hj : i.toNat = j := by
      rw [seqIndex_of h0 h5] at h1
      exact Option.some.inj h1
    exact wpAny_getItem_list pl.isList h0 (by omega) (by rw [hj]; simpa using ew) fin
  · have hj : (i + (its.toArray.size : Int)).toNat = j := by
      rw [seqIndex_neg (by omega) h4] at h1
      rw [List.size_toArray, ← hl]
      exact Option.some.inj h1
    exact wpAny_getItem_list_neg pl.isList (by omega) (by rw [List.size_toArray] <;> omega) (by omega) (by rw [hj]; simpa using ew) fin
def fIAdd : D2 := fI0 fun i j => .int (i + j)
theorem sim_iadd {K : PySem.W.Frag} : Sim2 K (rI0 fun i j => .int (i + j)) fIAdd := sim_I0 fun _ _ _ _ => rfl
def dAugS (f : D2) (do_ di de : DE) : DS := fun ρ M => bndS (do_ ρ M) ρ fun o M1 => bndS (di ρ M1) ρ fun i M2 => match o, i with
  | .obj n, .int k => (match M2[n]? with
    | some (.lst ds) => (match atI ds k with
      | some x => bndS (de ρ M2) ρ fun y M3 => (match f x y M3 with
        | some (z, M4) => (match M4[n]? with
          | some (.lst es) => (match ixN es.length k with
            | some j => some (.nx ρ, M4.set n (.lst (es.set j z)))
            | none => none)
          | _ => none)
        | none => none)
      | none => none)
    | _ => none)
  | _, _ => none
section
variable {X : Cx} {E : XW} {o i e : Expr} {do_ di de : DE} {pos tpos : Pos}
theorem psd_augS {op : Operator} {r : R2} {f : D2} (ho' : OpR X (inplaceOp op) r) (s : Sim2 X.K r f) (ho : PED X E o do_) (hi : PED X E i di) (he : PED X E e de)
    (ha : ∀ ov iv new, augStore i ov iv new = (do holding [new, ov, iv] (setItem ov iv new); release [new, ov, iv] []; pure .next) := by intros; rfl) : PSD X E (.AugAssign (.Subscript o i tpos) op e pos) (dAugS f do_ di de) :=
  PS.imp (ps_augS (tip := r) ho hi get_list he ho' set_list ha) fun Dn σ H ⟨ι, ρ, M, fl, M', R, S, h, g⟩ => UE.goS R S h g fun d M1 _ h1 ι1 x H1 e1 R1 V1 S1 g1 => UE.goS R1 S1 h1 g1 fun d2 M2 _ h2 ι2 y H2 e2 R2 V2 S2 g2 => by
    split at h2
    · rename_i n k _ _
      obtain ⟨a, rfl, hn⟩ := DV.mono e2 _ _ V1
      rw [show y = _ from V2]
      split at h2
      · rename_i ds hm
        split at h2
        · rename_i x0 hx0
          obtain ⟨xs, hx, hv⟩ := R2.lst hn hm
          obtain ⟨v0, hv0, rv0⟩ := hv.atI hx0
          refine ⟨a, xs, k, v0, rfl, rfl, SqL.of hx, hv0, UE.goS R2 S2 h2 g2 fun d3 M3 _ h3 ι3 y3 H3 e3 R3 V3 S3 g3 => ?_⟩
          cases hz : f x0 d3 M3 with
          | none => simp only [hz] at h3; cases h3
          | some q =>
            obtain ⟨z, M4⟩ := q
            simp only [hz] at h3
            refine s ι3 M3 H3 v0 y3 x0 d3 z M4 _ R3 (DV.mono e3 _ _ rv0) V3 hz fun ι4 w H4 e4 R4 V4 => ?_
            split at h3
            · rename_i es hm4
              split at h3
              · rename_i j hj
                cases h3
                obtain ⟨ys, hy, hw⟩ := R4.lst ((e3.trans e4).get hn) hm4
                obtain ⟨R5, e5⟩ := R4.putL (ds := es) (es := es.set j z) (ys := ys.set j w) ((e3.trans e4).get hn) hy (hw.set j V4)
                exact ⟨a, ys, k, j, rfl, rfl, hy, by rw [DVs.length hw]; exact hj, g3.nx (e4.trans e5) R5 (S3.mono (e4.trans e5))⟩
              · cases h3
            · cases h3
        · cases h2
      · cases h2
    · cases h2
end
end DL
set_option maxHeartbeats 4000000
namespace DL
open PySem PySem.Spec PyProof.Rows L2

/-! ### f'{n:07b}' -/
namespace B7
open Builtin Float
def spec07 : Str := Str.ofString "07b"
def f07 : FormatSpec := { fill := 48, align := 61, sign := none, noNeg0 := false, alt := false, width := some 7, grouping := none, precision := none, type := some 98 }
theorem parse07 : parseFormatSpec spec07.cps.toList "int" 62 = .ok f07 := by kernel_rfl
/-- the seven binary digits of n below 128 -/
def bin7 (n : Nat) : Str := ⟨#[48 + n / 64 % 2, 48 + n / 32 % 2, 48 + n / 16 % 2, 48 + n / 8 % 2, 48 + n / 4 % 2, 48 + n / 2 % 2, 48 + n % 2]⟩
section
variable {prog : Program} {w : World} {A : Around} {E : Value → Shared → Prop} {s : Shared}
theorem str_step {α : Type} {X Y : Str} {K : Str → Sem α} {u : Sem α} {Q : α → Shared → Prop} (e : X = Y) (hl : Y.length ≤ sizeLine) (h : wpAny (model prog w) A (K Y) Q E s) : wpAny (model prog w) A (if X.length > sizeLine then u else K X) Q E s := by
  subst e
  exact wpAny_ite_false (decide_eq_false (by omega)) h
set_option maxRecDepth 100000 in
theorem formatField_07b {n : Nat} {t : Tok} {Q : Value → Shared → Prop} (hn : n < 128)
    (h : Q (.str (bin7 n) (s.toks + 1)) { s with toks := s.toks + 1 + 1 }) :
    wpAny (model prog w) A (formatField (.int (n : Int) t) spec07) Q E s := by
  have hne : (spec07.length == 0) = false := by decide +kernel
  have hasc : ((spec07.cps.toList.drop 1).any (· ≥ 128) || (spec07.cps.getD 0 0 ≥ 128 && !([60, 62, 61, 94] : List Nat).contains (spec07.cps.getD 1 0))) = false := by decide +kernel
  show wpAny _ _ (holding [.int (n : Int) t] (pyFormat (.int (n : Int) t) spec07)) Q E s
  refine wpAny_holding ?_
  unfold pyFormat
  refine wpAny_bind (wpAny_mkStr ?_ (by decide +kernel))
  refine wpAny_bind (m := callSpecial? (.int (n : Int) t) (Str.ofString "__format__") [.str spec07 s.toks]) (wpAny_callSpecial?_slot (name := Str.ofString "__format__") (typeIs_int _ _ t) slot_int_format ?_)
  refine wpAny_call (codeAny_call_builtin slot_int_format.plain entry_int_format (slot_int_format.check _ _ _ _ _ _ _ _ (typeIs_int _ _ t) (args_int_format _ _) ?_))
  unfold Builtin.«int.__format__»
  simp only [selfAndOne, noKeywords, Int.intOfSelf, asInt?, asStr?, List.isEmpty_nil, if_true, pure_bind, bind_pure, bind_assoc, hne, hasc, Bool.false_eq_true, if_false,
    show (Value.str spec07 s.toks == Value.none) = false from rfl]
  refine wpAny_bind (wpAny_typeNameOf (T := "str") (typeIs_str _ _ _) (by decide) fun _ => ?_)
  first | refine wpAny_bind (wpAny_typeNameOfCut_int ?_) | refine wpAny_bind (wpAny_typeNameOf_int ?_)
  have ht : f07.type.getD (if (spec07.cps.back? == some 0) = true then 0 else 100) = 98 := by kernel_rfl
  simp only [parse07, ht]
  refine wpAny_ite_true ?c1 ?_
  case c1 => decide +kernel
  wp_walk
  refine str_step (Y := bin7 n) (K := fun z => (do let t ← fresh; pure (Value.str z t))) ?e ?h1 ?h2
  case e =>
    clear h
    revert n
    decide +kernel
  case h1 => show 7 ≤ sizeLine; decide
  wp_walk
  rw [isSubtype_str_str]
  exact wpAny_pure (wpAny_ite_true rfl (wpAny_pure h))
end
end B7
def tFmt07 (te : TE) : TE := fun σ H Q => te σ H fun x H1 => ∃ n : Nat, x = .int (n : Int) ∧ n < 128 ∧ Q (.str (B7.bin7 n)) H1
theorem pe_fmt07 {X : Cx} {e : Expr} {te : TE} {p1 p2 p3 p4 : Pos} {k : Nat} (he : PE X e te) : PE X (.JoinedStr [.FormattedValue e (-1) (some (.JoinedStr [.Constant (.str (Str.ofString "07b")) k p1] p2)) p3] p4) (tFmt07 te) := by
  refine pe_joined1 ⟨fun pins s σ H Q I h => ?_⟩
  refine wpAny_FormattedValue_spec (thn (he.run pins s σ H _ I h) fun v s1 ⟨x, H1, I1, r1, q1⟩ => ?_)
  obtain ⟨n, rfl, hn, q⟩ := q1
  obtain ⟨t, rfl⟩ := r1
  refine wpAny_JoinedStr_one (Calls.Constant_str ⟨_, _, rfl, ?_⟩)
  exact B7.formatField_07b hn ⟨.str _, H1, (I1.tok _).tok _, ⟨_, rfl⟩, q⟩
def dFmt07b (de : DE) : DE := fun ρ M => bnd (de ρ M) fun d M1 => match d with
  | .int i => if 0 ≤ i ∧ i < 128 then some (.ok (.str (B7.bin7 i.toNat)) M1) else none
  | _ => none
theorem ped_fmt07b {X : Cx} {E : XW} {e : Expr} {de : DE} {p1 p2 p3 p4 : Pos} {k : Nat} (he : PED X E e de) : PED X E (.JoinedStr [.FormattedValue e (-1) (some (.JoinedStr [.Constant (.str (Str.ofString "07b")) k p1] p2)) p3] p4) (dFmt07b de) :=
  PE.imp (pe_fmt07 he) fun σ H Q ⟨ι, ρ, M, r, R, S, h, g⟩ => UE.go R S h g.2 fun d M1 _ h1 ι1 x H1 e1 R1 V1 S1 gx1 => by
    cases d with
    | int i =>
      dsimp only at h1
      split at h1
      · rename_i hi
        cases h1
        rw [show x = _ from V1]
        exact ⟨i.toNat, by rw [Int.toNat_of_nonneg hi.1], by omega, g.step e1 R1 rfl⟩
      · cases h1
    | _ => cases h1

/-! ### int(t, 2) -/
namespace B2
open PySem.NumText PySem.Calls
def IsBin (c : Nat) : Prop := c = 48 ∨ c = 49
def binNum (l : List Nat) : Nat := l.foldl (fun a c => a * 2 + (c - 48)) 0
theorem digit_bin {c : Nat} (h : IsBin c) : digit? c = some (c - 48) := by
  rcases h with rfl | rfl <;> rfl
theorem bin_rng {c : Nat} (h : IsBin c) : 48 ≤ c ∧ c ≤ 49 ∧ c ≠ 95 := by
  unfold IsBin at h
  omega
theorem step_bin {ds : Array Nat} {b : Bool} {c : Nat} (h : IsBin c) : PySem.NumText.step 2 (ds, b) c = some (ds.push (c - 48), true) := by
  have hr := bin_rng h
  unfold PySem.NumText.step
  rw [if_neg (by rw [beq_iff_eq]; exact hr.2.2), digit_bin h]
  exact if_pos (by omega)
theorem foldl_bin : ∀ (cs : List Nat) (ds : Array Nat), (∀ c ∈ cs, IsBin c) → cs.foldlM (PySem.NumText.step 2) (ds, true) = some (cs.foldl (fun acc c => acc.push (c - 48)) ds, true)
  | [], _, _ => rfl
  | c :: cs, ds, h => by
    rw [List.foldlM_cons, step_bin (h c (List.mem_cons_self ..))]
    show cs.foldlM (PySem.NumText.step 2) (ds.push (c - 48), true) = _
    exact foldl_bin cs (ds.push (c - 48)) fun d hd => h d (List.mem_cons_of_mem _ hd)
theorem digits_bin {cs : List Nat} (h : ∀ c ∈ cs, IsBin c) (hne : cs ≠ []) : digits? 2 cs = some (cs.foldl (fun acc c => acc.push (c - 48)) #[]) := by
  cases cs with
  | nil => exact absurd rfl hne
  | cons c cs =>
    unfold digits?
    rw [List.foldlM_cons, step_bin (h c (List.mem_cons_self ..))]
    show (cs.foldlM (PySem.NumText.step 2) ((#[] : Array Nat).push (c - 48), true)).bind _ = _
    rw [foldl_bin cs _ fun d hd => h d (List.mem_cons_of_mem _ hd)]
    rfl
theorem push_bin : ∀ (cs : List Nat) (ds : Array Nat), (cs.foldl (fun acc c => acc.push (c - 48)) ds).foldl (fun acc d => acc * 2 + d) 0 = cs.foldl (fun a c => a * 2 + (c - 48)) (ds.foldl (fun acc d => acc * 2 + d) 0)
  | [], _ => rfl
  | c :: cs, ds => by
    rw [List.foldl_cons, push_bin cs (ds.push (c - 48)), List.foldl_cons]
    congr 1
    simp
theorem dropB {cs : List Nat} (h : ∀ c ∈ cs, IsBin c) : cs.dropWhile blank = cs := by
  cases cs with
  | nil => rfl
  | cons c cs => exact dropWhile_of (by have := bin_rng (h c (List.mem_cons_self ..)); omega)
theorem signB {cs : List Nat} (h : ∀ c ∈ cs, IsBin c) : sign cs = (false, cs) := by
  cases cs with
  | nil => rfl
  | cons c cs =>
    have := bin_rng (h c (List.mem_cons_self ..))
    exact sign_of (by omega) (by omega)
theorem basedB {cs : List Nat} (h : ∀ c ∈ cs, IsBin c) : based 2 cs = (2, false, cs) := by
  match cs, h with
  | [], _ => rfl
  | [a], h =>
    rcases h a (List.mem_cons_self ..) with rfl | rfl <;> rfl
  | a :: c :: r, h =>
    rcases h a (List.mem_cons_self ..) with rfl | rfl
    · rcases h c (List.mem_cons_of_mem _ (List.mem_cons_self ..)) with rfl | rfl <;> rfl
    · rfl
theorem read_bin {cs : List Nat} (h : ∀ c ∈ cs, IsBin c) (hne : cs ≠ []) : (int_private% "readNumeral") 0 2 cs = (int_private% "Numeral.value") ((binNum cs : Nat) : Int) := by
  have hr : ∀ c ∈ cs.reverse, IsBin c := fun c hc => h c (List.mem_reverse.mp hc)
  refine (readNumeral_eq 0 2 cs).trans ?_
  rw [dropB h, signB h]
  show judge 0 false (based 2 cs).1 (based 2 cs).2.1 (digits? (based 2 cs).1 (((based 2 cs).2.2.reverse.dropWhile blank).reverse)) = _
  rw [basedB h]
  show judge 0 false 2 false (digits? 2 ((cs.reverse.dropWhile blank).reverse)) = _
  rw [dropB hr, List.reverse_reverse, digits_bin h hne]
  show (int_private% "Numeral.value") (((cs.foldl (fun acc c => acc.push (c - 48)) (#[] : Array Nat)).foldl (fun acc d => acc * 2 + d) 0 : Nat) : Int) = _
  have z : (#[] : Array Nat).foldl (fun acc d => acc * 2 + d) 0 = 0 := by first | rfl | simp
  rw [push_bin, z] <;> rfl
theorem seen_bin {x : Str} (h : ∀ c ∈ x.cps.toList, IsBin c) : numTextOf x = x.cps.toList ∧ numSeenOf x = x.cps.toList := by
  have e1 : numTextOf x = x.cps.toList := by
    refine if_pos ?_
    rw [← Array.all_toList, List.all_eq_true]
    intro c hc
    have := bin_rng (h c hc)
    exact decide_eq_true (by omega)
  refine ⟨e1, ?_⟩
  show (numTextOf x).takeWhile _ = _
  rw [e1]
  refine takeWhile_all fun c hc => ?_
  have := bin_rng (h c hc)
  exact bne_iff_ne.mpr (by omega)
set_option maxHeartbeats 4000000 in
theorem gives_bin {x : PySem.Str} {u t : Tok} (hl : x.length ≤ 640) (h : ∀ c ∈ x.cps.toList, IsBin c) (hne : x.cps.toList ≠ []) :
    Gives (Builtin.«int.__new__» ⟨[.type "int", .str x u, .int 2 t], []⟩) (.int ((binNum x.cps.toList : Nat) : Int)) :=
  .of_wp fun M A E s Q hQ => by
    obtain ⟨hp, g, d, tk, os⟩ := s
    have f1 := F.conv_sub_int
    have f2 := F.madeHere_int
    have f6 : typeOf (.str x u) = pure (.type "str") := rfl
    obtain ⟨e1, e2⟩ := seen_bin h
    have hs : (numSeenOf x).length ≤ 640 := by
      rw [e2, Array.length_toList]
      exact hl
    have hr : (int_private% "readNumeral") 0 2 (numSeenOf x) = (int_private% "Numeral.value") ((binNum x.cps.toList : Nat) : Int) := by
      rw [e2]
      exact read_bin h hne
    have ha : ((numSeenOf x).length == (numTextOf x).length) = true := by
      rw [e1, e2]
      exact beq_self_eq_true _
    have hk := L2.Hx.Hid.mk (And.intro hs (And.intro hr ha))
    clear hs hr ha e1 e2 hl hne h
    repeat (any_goals (first
      | assumption
      | ((with_reducible show wpAny _ _ ((int_private% "intFromText") _ _ _) _ _ _); refine L2.Hx.wp_textB hk.out.1 hk.out.2.1 hk.out.2.2 ?_)
      | wp_step))
    all_goals first | exact ⟨_, rfl, hQ⟩ | skip
theorem call_bin {prog : Program} {w : World} {A : Around} {E : Value → Shared → Prop} {s : Shared} {Q : Value → Shared → Prop} {x : PySem.Str} {u t : Tok} (hl : x.length ≤ 640) (h : ∀ c ∈ x.cps.toList, IsBin c) (hne : x.cps.toList ≠ [])
    (hQ : Q (.int ((binNum x.cps.toList : Nat) : Int) s.toks) { s with toks := s.toks + 1 }) : wpAny (model prog w) A (call (.type "int") [.str x u, .int 2 t]) Q E s :=
  callType_new F.called_int F.newNe_int (L2.Hx.typeCall_int_2 _ _) (L2.Hx.newCall_int_2 _ _) (fun obj => F.initArgs_range_2 obj _ _) F.entry_int_new (gives_bin hl h hne).meets (show (Made.int ((binNum x.cps.toList : Nat) : Int)).post _ s from ⟨rfl, hQ⟩)
end B2
instance : DecidablePred B2.IsBin := fun c => by unfold B2.IsBin; infer_instance
def rIntBin : List V → Hp → VK → Prop := fun xs H Q => ∃ x : Str, xs = [.str x, .int 2] ∧ x.cps.toList ≠ [] ∧ x.length ≤ 640 ∧ (∀ c ∈ x.cps.toList, B2.IsBin c) ∧ Q (.int ((B2.binNum x.cps.toList : Nat) : Int)) H
theorem call_int_bin {X : Cx} : CallR X (.type "int") rIntBin := by
  intro pins s σ H xs us Q I r h
  obtain ⟨x, rfl, hne, hl, hx, q⟩ := h
  obtain ⟨u, w', rfl, r1, r2⟩ := vals2 r
  obtain ⟨t1, rfl⟩ := r1
  obtain ⟨t2, rfl⟩ := r2
  exact B2.call_bin (x := x) hl hx hne ⟨.int ((B2.binNum x.cps.toList : Nat) : Int), H, I.tok _, ⟨_, rfl⟩, q⟩
def fIntBin : DCf := fun ds M => match ds with
  | [.str x, .int 2] => if x.cps.toList ≠ [] ∧ x.length ≤ 640 ∧ ∀ c ∈ x.cps.toList, B2.IsBin c then some (.int ((B2.binNum x.cps.toList : Nat) : Int), M) else none
  | _ => none
theorem sim_intBin {K : PySem.W.Frag} : SimC K rIntBin fIntBin := by
  intro ι M H xs ds z M1 Q R V hf k
  unfold fIntBin at hf
  split at hf
  · rename_i x
    split at hf
    · rename_i hc
      cases hf
      obtain ⟨v, w, rfl, hv, hw⟩ := DVs.two V
      rw [show v = _ from hv, show w = _ from hw]
      exact ⟨x, rfl, hc.1, hc.2.1, hc.2.2, k ι _ H Ext.refl R rfl⟩
    · cases hf
  · cases hf
end DL
set_option maxHeartbeats 4000000
namespace DL
open PySem PySem.Spec PyProof.Rows L2

/-! ### zip in any state: the pair handed out last may live or not -/
abbrev ZF (h : Heap) (z TI TO : Addr) (f0 : Value) (f : Bool) : Prop := h.get? z = some { cls := .type "zip", dict := none, data := .fields #[f0, .bool f, .bool false, .ref TI, .ref TO], slots := #[] }
/-- a zip's own objects, whatever it handed out last -/
structure ZS (h : Heap) (z TI TO i1 i2 : Addr) : Prop where
  z : ∃ (f0 : Value) (f : Bool), ZF h z TI TO f0 f ∧ (f0 = .none ∨ ∃ T : Nat, f0 = rawInt T)
  ti : IsTupOf2 h TI (.ref i1) (.ref i2)
  to : ∃ a1 a2, IsTupOf2 h TO a1 a2
section
variable {prog : Program} {w : World} {A : Around} {E : Value → Shared → Prop} {s : Shared} {z TI TO i1 i2 : Addr} {fp1 fp2 : List Addr} {n1 n2 i : Nat} {P1 P2 : Nat → Value → Prop} {St1 St2 : Nat → Heap → Prop}
theorem alive_or {T : Addr} {Q : Option Obj → Shared → Prop} (h0 : Q none s) (h1 : ∀ o, s.heap.get? T = some o → Q (some o) s) : wpAny (model prog w) A (loadIfAlive T) Q E s := by
  have h' : Q (s.heap.get? T) s := by
    cases hT : s.heap.get? T with
    | none => exact h0
    | some o => exact h1 o hT
  exact fun _ _ _ => h'
theorem owned_any {f0 : Value} {f : Bool} {Q : Bool → Shared → Prop} (hz : ZF s.heap z TI TO f0 f) (h0 : f0 = .none ∨ ∃ T : Nat, f0 = rawInt T) (ht : Q true s)
    (hf : ∀ h', ZF h' z TI TO f0 true → Heap.SameBut z s.heap h' → Q false { s with heap := h' }) : wpAny (model prog w) A (Builtin.SmallTypes.ownedTupleIsFree (.ref z)) Q E s := by
  unfold Builtin.SmallTypes.ownedTupleIsFree
  rcases h0 with rfl | ⟨T, rfl⟩
  · exact wpAny_bind (wpAny_field hz rfl (x := .none) rfl (wpAny_pure ht))
  · refine wpAny_bind (wpAny_field hz rfl (x := rawInt T) rfl ?_)
    show wpAny _ _ (loadIfAlive ((T : Int).toNat) >>= _) _ _ _
    rw [Int.toNat_natCast]
    refine wpAny_bind (alive_or ?_ fun o ho => ?_)
    · simp only [Option.isNone_none, if_true]
      exact wpAny_pure ht
    · simp only [Option.isNone_some, Bool.false_eq_true, if_false]
      refine wpAny_bind (wpAny_field hz rfl (x := .bool f) rfl ?_)
      cases f with
      | true =>
        rw [if_neg (show ¬ ((Value.bool true != Value.bool true) = true) from Bool.false_ne_true)]
        exact wpAny_pure (hf s.heap hz (Heap.SameBut.refl _ _))
      | false =>
        rw [if_pos (show (Value.bool false != Value.bool true) = true from rfl)]
        exact wpAny_bind (wpAny_setField_rec hz (by simp) fun h₁ hz₁ hs₁ => wpAny_pure (hf h₁ hz₁ hs₁))
theorem zs_item {Q : Value → Shared → Prop} (S : ZipSep2 z TI TO i1 i2 fp1 fp2) (D1 : Draws prog w A i1 fp1 n1 P1 St1) (D2 : Draws prog w A i2 fp2 n2 P2 St2) (Z : ZS s.heap z TI TO i1 i2) (st1 : St1 i s.heap) (st2 : St2 i s.heap) (hlt1 : i < n1) (hlt2 : i < n2)
    (hQ : ∀ x1 x2 h' tk, P1 i x1 → P2 i x2 → ZS h' z TI TO i1 i2 → St1 (i + 1) h' → St2 (i + 1) h' → IsTupOf2 h' s.heap.objs.size x1 x2 → h'.objs.size = s.heap.objs.size + 1 →
      (∀ c o, c ≠ z → c ≠ TO → c ≠ i1 → c ≠ i2 → s.heap.get? c = some o → h'.get? c = some o) → Q (.ref s.heap.objs.size) { s with heap := h', toks := tk }) :
    wpAny (model prog w) A (Builtin.«zip.__next__» ⟨[.ref z], []⟩) (fun fin s' => ∃ v, fin = .done (.ret v) ∧ Q v s') E s := by
  obtain ⟨hp, g, d, tk0, os⟩ := s
  obtain ⟨⟨f0, f, hz, h0⟩, hTI, a1, a2, hTO⟩ := Z
  show wpAny _ _ (field (.ref z) 2 >>= _) _ _ _
  refine wpAny_bind (wpAny_field hz rfl (x := .bool false) rfl ?_)
  show wpAny _ _ (field (.ref z) 3 >>= _) _ _ _
  refine wpAny_bind (wpAny_field hz rfl (x := .ref TI) rfl ?_)
  refine wpAny_bind (wpAny_seqItems hTI rfl ?_)
  show wpAny _ _ (Builtin.SmallTypes.ownedTupleIsFree (.ref z) >>= _) _ _ _
  refine wpAny_bind (owned_any hz h0 ?_ fun h₁ hz₁ hs₁ => ?_)
  · simp only [if_true]
    refine wpAny_bind (wpAny_rule ?_)
    refine wpAny_bind (wpAny_field hz rfl (x := .ref TO) rfl ?_)
    refine wpAny_bind (wpAny_setField_rec hz (by simp) fun g0 hz0 hs0 => ?_)
    replace hz0 : ZF g0 z TI TO .ellipsis f := hz0
    replace hs0 : Heap.SameBut z hp g0 := hs0
    refine wpAny_bind ?_
    simp only [List.zipIdx_cons, List.zipIdx_nil, List.forIn_cons, List.forIn_nil]
    refine wpAny_bind (wpAny_bind (wpAny_onRaise ?_))
    show wpAny _ _ (Builtin.SmallTypes.nextOf (.ref i1) >>= _) _ _ ⟨g0, g, d, tk0, os⟩
    refine wpAny_bind (D1.item i _ _ _ hlt1 (D1.over st1 hs0 S.zf1) fun x1 p1 tk1 hx1 sn1 hp1 => wpAny_pure ?_)
    replace hp1 : Heap.SameBut i1 g0 p1 := hp1
    have hU1 : IsTupOf2 p1 TO a1 a2 := hp1.extBut _ _ S.Ti1 (hs0.extBut _ _ S.TOz hTO)
    refine wpAny_bind (wpAny_seqItems (s := ⟨p1, g, d, tk1, os⟩) hU1 rfl ?_)
    refine wpAny_bind (updateSeq_IsTupOf2 (s := ⟨p1, g, d, tk1, os⟩) hU1 fun g1 hT1 hs1 => ?_)
    replace hT1 : IsTupOf2 g1 TO x1 a2 := hT1
    replace hs1 : Heap.SameBut TO p1 g1 := hs1
    refine wpAny_bind (wpAny_letGo (wpAny_pure ?_))
    refine wpAny_bind (wpAny_bind (wpAny_onRaise ?_))
    show wpAny _ _ (Builtin.SmallTypes.nextOf (.ref i2) >>= _) _ _ ⟨g1, g, d, tk1, os⟩
    refine wpAny_bind (D2.item i _ _ _ hlt2 (D2.over (D2.over (D2.over st2 hs0 S.zf2) hp1 S.sep1_2) hs1 S.Tf2) fun x2 p2 tk2 hx2 sn2 hp2 => wpAny_pure ?_)
    replace hp2 : Heap.SameBut i2 g1 p2 := hp2
    have hU2 : IsTupOf2 p2 TO x1 a2 := hp2.extBut _ _ S.Ti2 hT1
    refine wpAny_bind (wpAny_seqItems (s := ⟨p2, g, d, tk2, os⟩) hU2 rfl ?_)
    refine wpAny_bind (updateSeq_IsTupOf2 (s := ⟨p2, g, d, tk2, os⟩) hU2 fun g2 hT2 hs2 => ?_)
    replace hT2 : IsTupOf2 g2 TO x1 x2 := hT2
    replace hs2 : Heap.SameBut TO p2 g2 := hs2
    refine wpAny_bind (wpAny_letGo (wpAny_pure (wpAny_pure ?_)))
    refine wpAny_bind (wpAny_seqItems (s := ⟨g2, g, d, tk2, os⟩) hT2 rfl ?_)
    refine wpAny_bind (wpAny_newTuple ?_)
    have hsz : g2.objs.size = hp.objs.size := by rw [hs2.1, hp2.1, hs1.1, hp1.1, hs0.1]
    have hzz : ZF g2 z TI TO .ellipsis f := (hs2.extBut _ _ S.TOz.symm (hp2.extBut _ _ S.zi2 (hs1.extBut _ _ S.TOz.symm (hp1.extBut _ _ S.zi1 hz0))))
    have hkk : ∀ c o, c ≠ z → c ≠ TO → c ≠ i1 → c ≠ i2 → hp.get? c = some o → g2.get? c = some o := fun c o cz cT c1 c2 e =>
      (hs2.extBut _ _ cT (hp2.extBut _ _ c2 (hs1.extBut _ _ cT (hp1.extBut _ _ c1 (hs0.extBut _ _ cz e)))))
    have hj1 : St1 (i + 1) g2 := (D1.over (D1.over (D1.over sn1 hs1 S.Tf1) hp2 S.sep2_1) hs2 S.Tf1)
    have hj2 : St2 (i + 1) g2 := (D2.over sn2 hs2 S.Tf2)
    have hzlt : z < g2.objs.size := Heap.lt_size hzz
    show wpAny _ _ (Builtin.SmallTypes.ownedTupleHandOut (.ref z) (.ref g2.objs.size) >>= _) _ _ ⟨g2.push { cls := .type "tuple", data := .seq #[x1, x2] }, g, d, tk2, os⟩
    refine wpAny_bind ?_
    unfold Builtin.SmallTypes.ownedTupleHandOut
    have hz₆ : ZF (g2.push { cls := .type "tuple", data := .seq #[x1, x2] }) z TI TO .ellipsis f := Heap.get?_push_of_some _ hzz
    refine wpAny_bind (wpAny_setField_rec hz₆ (by simp) fun h₇ hz₇ hs₇ => ?_)
    replace hz₇ : ZF h₇ z TI TO (rawInt g2.objs.size) f := hz₇
    refine wpAny_setField_rec hz₇ (by simp) fun h₈ hz₈ hs₈ => ?_
    replace hz₈ : ZF h₈ z TI TO (rawInt g2.objs.size) false := hz₈
    replace hs₇ : Heap.SameBut z (g2.push { cls := .type "tuple", data := .seq #[x1, x2] }) h₇ := hs₇
    replace hs₈ : Heap.SameBut z h₇ h₈ := hs₈
    have up : ∀ c o, c ≠ z → g2.get? c = some o → h₈.get? c = some o := fun c o c1 e => hs₈.extBut _ _ c1 (hs₇.extBut _ _ c1 (Heap.get?_push_of_some _ e))
    have hT₈ : IsTupOf2 h₈ g2.objs.size x1 x2 := hs₈.extBut _ _ (Nat.ne_of_gt hzlt) (hs₇.extBut _ _ (Nat.ne_of_gt hzlt) (Heap.get?_push_size _ rfl))
    have hz8 : h₈.objs.size = g2.objs.size + 1 := by rw [hs₈.1, hs₇.1, Heap.size_push]
    rw [hsz] at hz₈ hT₈ hz8
    refine wpAny_pure ⟨_, rfl, ?_⟩
    show Q (.ref g2.objs.size) ⟨h₈, g, d, tk2, os⟩
    rw [hsz]
    exact hQ x1 x2 h₈ tk2 hx1 hx2 ⟨⟨_, _, hz₈, .inr ⟨_, rfl⟩⟩, up _ _ S.TIz (hkk _ _ S.TIz S.TITO S.TIi1 S.TIi2 hTI), _, _, up _ _ S.TOz hT2⟩ (D1.frame _ _ _ hj1 fun b hb o e => up b o (fun q => S.zf1 (q ▸ hb)) e) (D2.frame _ _ _ hj2 fun b hb o e => up b o (fun q => S.zf2 (q ▸ hb)) e) hT₈ hz8 fun c o cz cT c1 c2 e => up c o cz (hkk c o cz cT c1 c2 e)
  · replace hs₁ : Heap.SameBut z hp h₁ := hs₁
    simp only [Bool.false_eq_true, if_false]
    refine wpAny_bind ?_
    rw [← Array.forIn_toList]
    simp only [List.forIn_cons, List.forIn_nil]
    refine wpAny_bind (wpAny_bind (wpAny_holding ?_))
    show wpAny _ _ (Builtin.SmallTypes.nextOf (.ref i1) >>= _) _ _ ⟨h₁, g, d, tk0, os⟩
    refine wpAny_bind (D1.item i _ _ _ hlt1 (D1.over st1 hs₁ S.zf1) fun x1 p1 tk1 hx1 sn1 hp1 => wpAny_pure ?_)
    replace hp1 : Heap.SameBut i1 h₁ p1 := hp1
    refine wpAny_pure ?_
    refine wpAny_bind (wpAny_bind (wpAny_holding ?_))
    show wpAny _ _ (Builtin.SmallTypes.nextOf (.ref i2) >>= _) _ _ ⟨p1, g, d, tk1, os⟩
    refine wpAny_bind (D2.item i _ _ _ hlt2 (D2.over (D2.over st2 hs₁ S.zf2) hp1 S.sep1_2) fun x2 p2 tk2 hx2 sn2 hp2 => wpAny_pure ?_)
    replace hp2 : Heap.SameBut i2 p1 p2 := hp2
    refine wpAny_pure (wpAny_pure ?_)
    show wpAny _ _ (newTuple [x1, x2] >>= _) _ _ _
    refine wpAny_bind (wpAny_newTuple ?_)
    have hsz : p2.objs.size = hp.objs.size := by rw [hp2.1, hp1.1, hs₁.1]
    have hz₃ : ZF p2 z TI TO f0 true := hp2.extBut _ _ S.zi2 (hp1.extBut _ _ S.zi1 hz₁)
    have hk : ∀ c o, c ≠ z → c ≠ i1 → c ≠ i2 → hp.get? c = some o → p2.get? c = some o := fun c o c1 c2 c3 e => hp2.extBut _ _ c3 (hp1.extBut _ _ c2 (hs₁.extBut _ _ c1 e))
    have hj1 : St1 (i + 1) p2 := D1.over sn1 hp2 S.sep2_1
    refine wpAny_pure ⟨_, rfl, ?_⟩
    show Q (.ref p2.objs.size) ⟨p2.push { cls := .type "tuple", data := .seq #[x1, x2] }, g, d, tk2, os⟩
    have hpp : IsTupOf2 (p2.push { cls := .type "tuple", data := .seq #[x1, x2] }) p2.objs.size x1 x2 := Heap.get?_push_size _ rfl
    have hz4 : (p2.push { cls := .type "tuple", data := .seq #[x1, x2] }).objs.size = p2.objs.size + 1 := Heap.size_push ..
    rw [hsz] at hpp hz4 ⊢
    exact hQ x1 x2 _ tk2 hx1 hx2 ⟨⟨_, _, Heap.get?_push_of_some _ hz₃, h0⟩, Heap.get?_push_of_some _ (hk _ _ S.TIz S.TIi1 S.TIi2 hTI), _, _, Heap.get?_push_of_some _ (hk _ _ S.TOz S.Ti1 S.Ti2 hTO)⟩
      (D1.frame _ _ _ hj1 fun b hb o e => Heap.get?_push_of_some _ e) (D2.frame _ _ _ sn2 fun b hb o e => Heap.get?_push_of_some _ e) hpp hz4 fun c o c1 cT c2 c3 e => Heap.get?_push_of_some _ (hk c o c1 c2 c3 e)
theorem zs_end {Q : PySem.Fin → Shared → Prop} (S : ZipSep2 z TI TO i1 i2 fp1 fp2) (D1 : Draws prog w A i1 fp1 n1 P1 St1) (D2 : Draws prog w A i2 fp2 n2 P2 St2) (Z : ZS s.heap z TI TO i1 i2) (st1 : St1 i s.heap) (st2 : St2 i s.heap) (hle1 : i ≤ n1) (hle2 : i ≤ n2) (hend : i = n1 ∨ i = n2)
    (hE : ∀ h' tk e, (∀ c o, c ≠ z → c ≠ TO → c ≠ i1 → c ≠ i2 → s.heap.get? c = some o → h'.get? c = some o) → (∃ o, h'.get? e = some o ∧ o.cls = .type "StopIteration") → E (.ref e) { s with heap := h', toks := tk }) :
    wpAny (model prog w) A (Builtin.«zip.__next__» ⟨[.ref z], []⟩) Q E s := by
  obtain ⟨hp, g, d, tk0, os⟩ := s
  obtain ⟨⟨f0, f, hz, h0⟩, hTI, a1, a2, hTO⟩ := Z
  show wpAny _ _ (field (.ref z) 2 >>= _) _ _ _
  refine wpAny_bind (wpAny_field hz rfl (x := .bool false) rfl ?_)
  show wpAny _ _ (field (.ref z) 3 >>= _) _ _ _
  refine wpAny_bind (wpAny_field hz rfl (x := .ref TI) rfl ?_)
  refine wpAny_bind (wpAny_seqItems hTI rfl ?_)
  show wpAny _ _ (Builtin.SmallTypes.ownedTupleIsFree (.ref z) >>= _) _ _ _
  refine wpAny_bind (owned_any hz h0 ?_ fun h₁ hz₁ hs₁ => ?_)
  · simp only [if_true]
    refine wpAny_bind (wpAny_rule ?_)
    refine wpAny_bind (wpAny_field hz rfl (x := .ref TO) rfl ?_)
    refine wpAny_bind (wpAny_setField_rec hz (by simp) fun g0 hz0 hs0 => ?_)
    replace hz0 : ZF g0 z TI TO .ellipsis f := hz0
    replace hs0 : Heap.SameBut z hp g0 := hs0
    refine wpAny_bind ?_
    simp only [List.zipIdx_cons, List.zipIdx_nil, List.forIn_cons, List.forIn_nil]
    refine wpAny_bind (wpAny_bind (wpAny_onRaise ?_))
    show wpAny _ _ (Builtin.SmallTypes.nextOf (.ref i1) >>= _) _ _ ⟨g0, g, d, tk0, os⟩
    by_cases hlt1 : i < n1
    · refine wpAny_bind (D1.item i _ _ _ hlt1 (D1.over st1 hs0 S.zf1) fun x1 p1 tk1 hx1 sn1 hp1 => wpAny_pure ?_)
      replace hp1 : Heap.SameBut i1 g0 p1 := hp1
      have hU1 : IsTupOf2 p1 TO a1 a2 := hp1.extBut _ _ S.Ti1 (hs0.extBut _ _ S.TOz hTO)
      refine wpAny_bind (wpAny_seqItems (s := ⟨p1, g, d, tk1, os⟩) hU1 rfl ?_)
      refine wpAny_bind (updateSeq_IsTupOf2 (s := ⟨p1, g, d, tk1, os⟩) hU1 fun g1 hT1 hs1 => ?_)
      replace hT1 : IsTupOf2 g1 TO x1 a2 := hT1
      replace hs1 : Heap.SameBut TO p1 g1 := hs1
      refine wpAny_bind (wpAny_letGo (wpAny_pure ?_))
      have hi2 : i = n2 := by omega
      refine wpAny_bind (wpAny_bind (wpAny_onRaise ?_))
      show wpAny _ _ (Builtin.SmallTypes.nextOf (.ref i2) >>= _) _ _ ⟨g1, g, d, tk1, os⟩
      refine wpAny_bind (D2.done ⟨g1, g, d, tk1, os⟩ _ _ (by rw [← hi2]; exact (D2.over (D2.over (D2.over st2 hs0 S.zf2) hp1 S.sep1_2) hs1 S.Tf2)) fun q e hq he => ?_)
      replace hq : Heap.ExtBut i2 g1 q := hq
      obtain ⟨oe, hoe, hce⟩ := he
      replace hoe : q.get? e = some oe := hoe
      have hzq : ZF q z TI TO .ellipsis f := hq _ _ S.zi2 (hs1.extBut _ _ S.TOz.symm (hp1.extBut _ _ S.zi1 hz0))
      have hez : e ≠ z := fun x => by subst x; rw [hzq] at hoe; cases hoe; simp at hce
      refine wpAny_setField_rec (s := ⟨q, g, d, tk1, os⟩) hzq (by simp) fun q' _ hq' => ?_
      replace hq' : Heap.SameBut z q q' := hq'
      exact hE q' tk1 e (fun c o cz cT c1 c2 x => hq'.extBut _ _ cz (hq _ _ c2 (hs1.extBut _ _ cT (hp1.extBut _ _ c1 (hs0.extBut _ _ cz x))))) ⟨oe, hq'.extBut _ _ hez hoe, hce⟩
    · have hi1 : i = n1 := by omega
      refine wpAny_bind (D1.done ⟨g0, g, d, tk0, os⟩ _ _ (by rw [← hi1]; exact (D1.over st1 hs0 S.zf1)) fun q e hq he => ?_)
      replace hq : Heap.ExtBut i1 g0 q := hq
      obtain ⟨oe, hoe, hce⟩ := he
      replace hoe : q.get? e = some oe := hoe
      have hzq : ZF q z TI TO .ellipsis f := hq _ _ S.zi1 hz0
      have hez : e ≠ z := fun x => by subst x; rw [hzq] at hoe; cases hoe; simp at hce
      refine wpAny_setField_rec (s := ⟨q, g, d, tk0, os⟩) hzq (by simp) fun q' _ hq' => ?_
      replace hq' : Heap.SameBut z q q' := hq'
      exact hE q' tk0 e (fun c o cz cT c1 c2 x => hq'.extBut _ _ cz (hq _ _ c1 (hs0.extBut _ _ cz x))) ⟨oe, hq'.extBut _ _ hez hoe, hce⟩
  · replace hs₁ : Heap.SameBut z hp h₁ := hs₁
    simp only [Bool.false_eq_true, if_false]
    refine wpAny_bind ?_
    rw [← Array.forIn_toList]
    simp only [List.forIn_cons, List.forIn_nil]
    refine wpAny_bind (wpAny_bind (wpAny_holding ?_))
    show wpAny _ _ (Builtin.SmallTypes.nextOf (.ref i1) >>= _) _ _ ⟨h₁, g, d, tk0, os⟩
    by_cases hlt1 : i < n1
    · refine wpAny_bind (D1.item i _ _ _ hlt1 (D1.over st1 hs₁ S.zf1) fun x1 p1 tk1 hx1 sn1 hp1 => wpAny_pure ?_)
      replace hp1 : Heap.SameBut i1 h₁ p1 := hp1
      refine wpAny_pure ?_
      have hi2 : i = n2 := by omega
      refine wpAny_bind (wpAny_bind (wpAny_holding ?_))
      show wpAny _ _ (Builtin.SmallTypes.nextOf (.ref i2) >>= _) _ _ ⟨p1, g, d, tk1, os⟩
      refine wpAny_bind (D2.done ⟨p1, g, d, tk1, os⟩ _ _ (by rw [← hi2]; exact (D2.over (D2.over st2 hs₁ S.zf2) hp1 S.sep1_2)) fun q e hq he => ?_)
      replace hq : Heap.ExtBut i2 p1 q := hq
      exact hE q tk1 e (fun c o cz cT c1 c2 x => hq _ _ c2 (hp1.extBut _ _ c1 (hs₁.extBut _ _ cz x))) he
    · have hi1 : i = n1 := by omega
      refine wpAny_bind (D1.done ⟨h₁, g, d, tk0, os⟩ _ _ (by rw [← hi1]; exact (D1.over st1 hs₁ S.zf1)) fun q e hq he => ?_)
      replace hq : Heap.ExtBut i1 h₁ q := hq
      exact hE q tk0 e (fun c o cz cT c1 c2 x => hq _ _ c1 (hs₁.extBut _ _ cz x)) he
theorem ZS.isZip (Z : ZS s.heap z TI TO i1 i2) : s.TypeIs (.ref z) "zip" := by
  obtain ⟨f0, f, hz, _⟩ := Z.z
  exact ⟨_, hz, rfl⟩
theorem ZS.keep {h h' : Heap} (Z : ZS h z TI TO i1 i2) (k : ∀ b, b = z ∨ b = TI ∨ b = TO → ∀ o, h.get? b = some o → h'.get? b = some o) : ZS h' z TI TO i1 i2 := by
  obtain ⟨⟨f0, f, hz, h0⟩, hTI, a1, a2, hTO⟩ := Z
  exact ⟨⟨f0, f, k z (.inl rfl) _ hz, h0⟩, k TI (.inr (.inl rfl)) _ hTI, a1, a2, k TO (.inr (.inr rfl)) _ hTO⟩
/-- the same, asked by nextOf or by pyNext -/
theorem zs_nextOf_item {Q : Value → Shared → Prop} (S : ZipSep2 z TI TO i1 i2 fp1 fp2) (D1 : Draws prog w A.in1 i1 fp1 n1 P1 St1) (D2 : Draws prog w A.in1 i2 fp2 n2 P2 St2) (Z : ZS s.heap z TI TO i1 i2) (st1 : St1 i s.heap) (st2 : St2 i s.heap) (hlt1 : i < n1) (hlt2 : i < n2)
    (hQ : ∀ x1 x2 h' tk, P1 i x1 → P2 i x2 → ZS h' z TI TO i1 i2 → St1 (i + 1) h' → St2 (i + 1) h' → IsTupOf2 h' s.heap.objs.size x1 x2 → h'.objs.size = s.heap.objs.size + 1 →
      (∀ c o, c ≠ z → c ≠ TO → c ≠ i1 → c ≠ i2 → s.heap.get? c = some o → h'.get? c = some o) → Q (.ref s.heap.objs.size) { s with heap := h', toks := tk }) :
    wpAny (model prog w) A (Builtin.SmallTypes.nextOf (.ref z)) Q E s := by
  have hT := Z.isZip
  unfold Builtin.SmallTypes.nextOf
  refine wpAny_bind (wpAny_callSpecial?_slot (name := Str.ofString "__next__") hT F.slot_zip_next
    (wpAny_call_entry F.slot_zip_next hT F.entry_zip_next
      (zs_item S D1 D2 Z st1 st2 hlt1 hlt2 fun x1 x2 h' tk y1 y2 b1 d1 d2 b5 b6 b7 => wpAny_pure (hQ x1 x2 h' tk y1 y2 b1 d1 d2 b5 b6 b7)) (F.args_zip_next_1 _)))
theorem zs_next_item {Q : Option Value → Shared → Prop} (S : ZipSep2 z TI TO i1 i2 fp1 fp2) (D1 : Draws prog w A.in1 i1 fp1 n1 P1 St1) (D2 : Draws prog w A.in1 i2 fp2 n2 P2 St2) (Z : ZS s.heap z TI TO i1 i2) (st1 : St1 i s.heap) (st2 : St2 i s.heap) (hlt1 : i < n1) (hlt2 : i < n2)
    (hQ : ∀ x1 x2 h' tk, P1 i x1 → P2 i x2 → ZS h' z TI TO i1 i2 → St1 (i + 1) h' → St2 (i + 1) h' → IsTupOf2 h' s.heap.objs.size x1 x2 → h'.objs.size = s.heap.objs.size + 1 →
      (∀ c o, c ≠ z → c ≠ TO → c ≠ i1 → c ≠ i2 → s.heap.get? c = some o → h'.get? c = some o) → Q (some (.ref s.heap.objs.size)) { s with heap := h', toks := tk }) :
    wpAny (model prog w) A (pyNext (.ref z)) Q E s := by
  have hT := Z.isZip
  unfold pyNext
  exact wpAny_bind (wpAny_attempt (wpAny_callSpecial?_slot (name := Str.ofString "__next__") hT F.slot_zip_next
    (wpAny_call_entry F.slot_zip_next hT F.entry_zip_next
      (zs_item S D1 D2 Z st1 st2 hlt1 hlt2 fun x1 x2 h' tk y1 y2 b1 d1 d2 b5 b6 b7 => wpAny_pure (hQ x1 x2 h' tk y1 y2 b1 d1 d2 b5 b6 b7)) (F.args_zip_next_1 _))))
theorem zs_next_end {Q : Option Value → Shared → Prop} (S : ZipSep2 z TI TO i1 i2 fp1 fp2) (D1 : Draws prog w A.in1 i1 fp1 n1 P1 St1) (D2 : Draws prog w A.in1 i2 fp2 n2 P2 St2) (Z : ZS s.heap z TI TO i1 i2) (st1 : St1 i s.heap) (st2 : St2 i s.heap) (hle1 : i ≤ n1) (hle2 : i ≤ n2) (hend : i = n1 ∨ i = n2)
    (hQ : ∀ h' tk, (∀ c o, c ≠ z → c ≠ TO → c ≠ i1 → c ≠ i2 → s.heap.get? c = some o → h'.get? c = some o) → Q none { s with heap := h', toks := tk }) : wpAny (model prog w) A (pyNext (.ref z)) Q E s := by
  have hT := Z.isZip
  unfold pyNext
  refine wpAny_bind (wpAny_attempt (wpAny_callSpecial?_slot (name := Str.ofString "__next__") hT F.slot_zip_next
    (wpAny_call_entry F.slot_zip_next hT F.entry_zip_next (zs_end S D1 D2 Z st1 st2 hle1 hle2 hend fun h' tk e hk he => ?_) (F.args_zip_next_1 _))))
  obtain ⟨o, ho, hc⟩ := he
  refine wpAny_bind (wpAny_isInstance (T := "StopIteration") (b := true) ⟨o, ho, hc⟩ isSubtype_stop ?_)
  exact wpAny_pure (hQ _ _ hk)
end
end DL
set_option maxHeartbeats 4000000
namespace DL
open PySem PySem.Spec PyProof.Rows L2

/-! ### enumerate over anything -/
section
variable {prog : Program} {w : World} {A : Around} {E : Value → Shared → Prop} {s : Shared}
theorem enum_next_gen {e it : Addr} {c : Int} {old : Value} {Q : Option Value → Shared → Prop} {R : Value → Heap → Prop} (he : IsEnum s.heap e it c old)
    (hin : ∀ (Q' : Value → Shared → Prop) (E' : Value → Shared → Prop), (∀ x h1 tk, R x h1 → IsEnum h1 e it c old → Q' x { s with heap := h1, toks := tk }) → wpAny (model prog w) A.in1 (Builtin.SmallTypes.nextOf (.ref it)) Q' E' s)
    (hQ : ∀ x h1 h' tk, R x h1 → IsEnumOut h' e it (c + 1) x h1.objs.size → h'.get? h1.objs.size = some { cls := .type "tuple", data := .seq #[.int c tk, x] } → h'.objs.size = h1.objs.size + 1 →
      (∀ b o, b ≠ e → h1.get? b = some o → h'.get? b = some o) → Q (some (.ref h1.objs.size)) { s with heap := h', toks := tk + 1 }) : wpAny (model prog w) A (pyNext (.ref e)) Q E s := by
  have hT : s.TypeIs (.ref e) "enumerate" := ⟨_, he, rfl⟩
  unfold pyNext
  refine wpAny_bind (wpAny_attempt (wpAny_callSpecial?_slot (name := Str.ofString "__next__") hT F.slot_enumerate_next (wpAny_call_entry F.slot_enumerate_next hT F.entry_enumerate_next ?_ (F.args_enumerate_next_1 _))))
  obtain ⟨hp, g, d, tk₀, os⟩ := s
  show wpAny _ _ (field (.ref e) 2 >>= _) _ _ _
  refine wpAny_bind (wpAny_field he rfl (x := .ref it) rfl ?_)
  refine wpAny_bind (hin _ _ fun x h₁ tk hR he₁ => ?_)
  show wpAny _ _ (field (.ref e) 3 >>= _) _ _ ⟨h₁, g, d, tk, os⟩
  refine wpAny_bind (wpAny_field he₁ rfl (x := rawInt c) rfl ?_)
  show wpAny _ _ (field (.ref e) 4 >>= _) _ _ ⟨h₁, g, d, tk, os⟩
  refine wpAny_bind (wpAny_field he₁ rfl (x := .none) rfl ?_)
  show wpAny _ _ (mkInt c >>= _) _ _ ⟨h₁, g, d, tk, os⟩
  refine wpAny_bind (wpAny_mkInt ?_)
  show wpAny _ _ (setField (.ref e) 3 (rawInt (c + 1)) >>= _) _ _ ⟨h₁, g, d, tk + 1, os⟩
  refine wpAny_bind (wpAny_setField_rec he₁ (by simp) fun h₂ he₂ hs₂ => ?_)
  replace hs₂ : Heap.SameBut e h₁ h₂ := hs₂
  replace he₂ : IsEnum h₂ e it (c + 1) old := he₂
  show wpAny _ _ (setField (.ref e) 4 .none >>= _) _ _ ⟨h₂, g, d, tk + 1, os⟩
  refine wpAny_bind (wpAny_setField_rec he₂ (by simp) fun h₃ he₃ hs₃ => ?_)
  replace hs₃ : Heap.SameBut e h₂ h₃ := hs₃
  replace he₃ : IsEnum h₃ e it (c + 1) old := he₃
  show wpAny _ _ (newTuple [.int c tk, x] >>= _) _ _ ⟨h₃, g, d, tk + 1, os⟩
  refine wpAny_bind (wpAny_newTuple ?_)
  have he₄ : IsEnum (h₃.push { cls := .type "tuple", data := .seq #[.int c tk, x] }) e it (c + 1) old := Heap.get?_push_of_some _ he₃
  generalize hh₄ : h₃.push { cls := .type "tuple", data := .seq #[.int c tk, x] } = h₄ at he₄
  have hsz : h₃.objs.size = h₁.objs.size := by rw [hs₃.1, hs₂.1]
  have hel : e < h₁.objs.size := Heap.lt_size he₁
  have ht₄ : h₄.get? h₁.objs.size = some { cls := .type "tuple", data := .seq #[.int c tk, x] } := by rw [← hh₄, ← hsz]; exact Heap.get?_push_size _ rfl
  have hz₄ : h₄.objs.size = h₁.objs.size + 1 := by rw [← hh₄, Heap.size_push, hsz]
  have hk₄ : ∀ b o, b ≠ e → h₁.get? b = some o → h₄.get? b = some o := fun b o hbe hb => by
    rw [← hh₄]; exact Heap.get?_push_of_some _ (hs₃.extBut b o hbe (hs₂.extBut b o hbe hb))
  show wpAny _ _ (Builtin.SmallTypes.ownedTupleIsFree (.ref e) >>= _) _ _ ⟨h₄, g, d, tk + 1, os⟩
  rw [hsz]
  clear hh₄ he₃ hs₃ he₂ hs₂ hsz h₃ h₂
  refine wpAny_bind ?_
  unfold Builtin.SmallTypes.ownedTupleIsFree
  refine wpAny_bind (wpAny_field he₄ rfl (x := .none) rfl (wpAny_pure ?_))
  simp only [if_true]
  refine wpAny_bind (wpAny_rule ?_)
  refine wpAny_bind (wpAny_field he₄ rfl (x := old) rfl ?_)
  refine wpAny_bind (wpAny_setField_rec he₄ (by simp) fun h₅ he₅ hs₅ => ?_)
  replace hs₅ : Heap.SameBut e h₄ h₅ := hs₅
  replace he₅ : IsEnum h₅ e it (c + 1) x := he₅
  show wpAny _ _ (Builtin.SmallTypes.ownedTupleHandOut (.ref e) (.ref h₁.objs.size) >>= _) _ _ ⟨h₅, g, d, tk + 1, os⟩
  refine wpAny_bind ?_
  unfold Builtin.SmallTypes.ownedTupleHandOut
  refine wpAny_bind (wpAny_setField_rec he₅ (by simp) fun h₆ he₆ hs₆ => ?_)
  replace hs₆ : Heap.SameBut e h₅ h₆ := hs₆
  replace he₆ : IsEnumOut h₆ e it (c + 1) x h₁.objs.size := he₆
  refine wpAny_setField_rec he₆ (by simp) fun h₇ he₇ hs₇ => ?_
  replace hs₇ : Heap.SameBut e h₆ h₇ := hs₇
  replace he₇ : IsEnumOut h₇ e it (c + 1) x h₁.objs.size := he₇
  refine wpAny_bind (wpAny_letGo (wpAny_pure ⟨_, rfl, wpAny_pure (hQ x h₁ h₇ tk hR he₇ ?_ ?_ ?_)⟩))
  · exact hs₇.extBut _ _ (Nat.ne_of_gt hel) (hs₆.extBut _ _ (Nat.ne_of_gt hel) (hs₅.extBut _ _ (Nat.ne_of_gt hel) ht₄))
  · rw [hs₇.1, hs₆.1, hs₅.1, hz₄]
  · exact fun b o hbe hb => hs₇.extBut b o hbe (hs₆.extBut b o hbe (hs₅.extBut b o hbe (hk₄ b o hbe hb)))
theorem enum_end_gen {e it : Addr} {c : Int} {old : Value} {Q : Option Value → Shared → Prop} {R : Heap → Prop} (he : IsEnum s.heap e it c old)
    (hin : ∀ (Q' : Value → Shared → Prop) (E' : Value → Shared → Prop), (∀ x h1 tk, R h1 → (∃ o, h1.get? x = some o ∧ o.cls = .type "StopIteration") → E' (.ref x) { s with heap := h1, toks := tk }) → wpAny (model prog w) A.in1 (Builtin.SmallTypes.nextOf (.ref it)) Q' E' s)
    (hQ : ∀ h' tk, R h' → Q none { s with heap := h', toks := tk }) : wpAny (model prog w) A (pyNext (.ref e)) Q E s := by
  have hT : s.TypeIs (.ref e) "enumerate" := ⟨_, he, rfl⟩
  unfold pyNext
  refine wpAny_bind (wpAny_attempt (wpAny_callSpecial?_slot (name := Str.ofString "__next__") hT F.slot_enumerate_next (wpAny_call_entry F.slot_enumerate_next hT F.entry_enumerate_next ?_ (F.args_enumerate_next_1 _))))
  show wpAny _ _ (field (.ref e) 2 >>= _) _ _ _
  refine wpAny_bind (wpAny_field he rfl (x := .ref it) rfl ?_)
  refine wpAny_bind (hin _ _ fun x h1 tk hR hx' => ?_)
  obtain ⟨o, ho, hc⟩ := hx'
  refine wpAny_bind (wpAny_isInstance (T := "StopIteration") (b := true) ⟨o, ho, hc⟩ isSubtype_stop ?_)
  exact wpAny_pure (hQ _ _ hR)
theorem zs_nextOf_end {z TI TO i1 i2 : Addr} {fp1 fp2 : List Addr} {n1 n2 i : Nat} {P1 P2 : Nat → Value → Prop} {St1 St2 : Nat → Heap → Prop} {Q : Value → Shared → Prop} (S : ZipSep2 z TI TO i1 i2 fp1 fp2) (D1 : Draws prog w A.in1 i1 fp1 n1 P1 St1) (D2 : Draws prog w A.in1 i2 fp2 n2 P2 St2) (Z : ZS s.heap z TI TO i1 i2) (st1 : St1 i s.heap) (st2 : St2 i s.heap) (hle1 : i ≤ n1) (hle2 : i ≤ n2) (hend : i = n1 ∨ i = n2)
    (hE : ∀ h' tk e, (∀ c o, c ≠ z → c ≠ TO → c ≠ i1 → c ≠ i2 → s.heap.get? c = some o → h'.get? c = some o) → (∃ o, h'.get? e = some o ∧ o.cls = .type "StopIteration") → E (.ref e) { s with heap := h', toks := tk }) :
    wpAny (model prog w) A (Builtin.SmallTypes.nextOf (.ref z)) Q E s := by
  have hT := Z.isZip
  unfold Builtin.SmallTypes.nextOf
  exact wpAny_bind (wpAny_callSpecial?_slot (name := Str.ofString "__next__") hT F.slot_zip_next
    (wpAny_call_entry F.slot_zip_next hT F.entry_zip_next (zs_end S D1 D2 Z st1 st2 hle1 hle2 hend hE) (F.args_zip_next_1 _)))
set_option maxHeartbeats 1000000 in
theorem meets_enum_it (v : Value) (it : Addr) (h0 h1 : Heap) (hit : ∀ (prog : Program) (w : World) (A : Around) (E : Value → Shared → Prop) (s : Shared) (Q : Value → Shared → Prop), s.heap = h0 → Q (.ref it) { s with heap := h1 } → wpAny (model prog w) A (pyIter v) Q E s) :
    Meets (Builtin.«enumerate.__new__» ⟨[.type "enumerate", v], []⟩) (fun _ R s => s.heap = h0 ∧
      R (.ok (.ret (.ref h1.objs.size))) { s with heap := h1.push { cls := .type "enumerate", data := .fields #[.none, .bool false, .ref it, rawInt 0, .none, .none] } }) :=
  .of_wp fun prog w A R s h => by
    obtain ⟨hp, g, d, tk, os⟩ := s; obtain ⟨hh, h⟩ := h
    replace hh : hp = h0 := hh
    subst hh
    have hsub := sub_enumerate
    have q1 : ∀ {A' : Around} {E : Value → Shared → Prop} {Q : Value → Shared → Prop}, Q (.ref it) ⟨h1, g, d, tk, os⟩ → wpAny (model prog w) A' (pyIter v) Q E ⟨hp, g, d, tk, os⟩ :=
      fun q => hit prog w _ _ ⟨hp, g, d, tk, os⟩ _ rfl q
    wp_walk using q1
    refine wpAny_stack_any fun st => wpAny_pure ?_
    split
    · rename_i c _ _ _ _ _
      cases (c == Value.type "enumerate")
      · wp_walk using q1
        exact ⟨_, rfl, h⟩
      · wp_walk using q1
        exact ⟨_, rfl, h⟩
    · wp_walk using q1
      exact ⟨_, rfl, h⟩
theorem call_enum_it {v : Value} {it : Addr} {h1 : Heap} {Q : Value → Shared → Prop} (hit : ∀ (prog : Program) (w : World) (A : Around) (E : Value → Shared → Prop) (s' : Shared) (Q : Value → Shared → Prop), s'.heap = s.heap → Q (.ref it) { s' with heap := h1 } → wpAny (model prog w) A (pyIter v) Q E s')
    (hQ : ∀ h', IsEnum h' h1.objs.size it 0 .none → h'.objs.size = h1.objs.size + 1 → (∀ b o, h1.get? b = some o → h'.get? b = some o) → Q (.ref h1.objs.size) { s with heap := h' }) :
    wpAny (model prog w) A (call (.type "enumerate") [v]) Q E s := by
  refine callType_new F.called_enumerate (by decide) (F.typeCall_enumerate_1 _) (F.newCall_enumerate_1 _) (fun obj => F.args_object_init_2 obj _) F.entry_enumerate_new (meets_enum_it v it s.heap h1 hit) ⟨rfl, ?_⟩
  have he : IsEnum (h1.push { cls := .type "enumerate", data := .fields #[.none, .bool false, .ref it, rawInt 0, .none, .none] }) h1.objs.size it 0 .none := Heap.get?_push_size _ rfl
  exact ⟨⟨_, he, rfl⟩, hQ _ he (Heap.size_push ..) fun b o x => Heap.get?_push_of_some _ x⟩
end
end DL
set_option maxHeartbeats 4000000
namespace DL
open PySem PySem.Spec PyProof.Rows L2

/-! ### for i, x in enumerate(tuple) -/
def IteT (K : PySem.W.Frag) (a : Addr) : It :=
  ⟨fun i H => ∃ (xs : List V) (x : V), SqT K H a xs ∧ xs[i]? = some x, fun i H v H' => ∃ T x, v = .ref T ∧ H T = none ∧ H' = upd H T (.tup [.int (i : Nat), x]) ∧ ∀ xs, SqT K H a xs → xs[i]? = some x, fun i H => ∃ xs : List V, SqT K H a xs ∧ xs.length ≤ i⟩
theorem turn_enumT {P : Program} {w : World} {K : PySem.W.Frag} {elts : List Expr} {kk : Nat} {tpos : Pos} (a e it : Addr) (hne : e ≠ it) :
    Turn P w K (.Tuple elts kk tpos) (IteT K a) [e, it] e (fun i h => (∃ old, IsEnum h e it ((i : Nat) : Int) old) ∧ h.IsTupleIter it a i) where
  mem := by simp
  obj := fun i h st b hb => by
    obtain ⟨⟨old, he⟩, ⟨o, ho, hc, hd⟩⟩ := st
    have e' : b = e ∨ b = it := by simpa using hb
    rcases e' with z | z
    · rw [z]; exact ⟨_, he, fun v q => nomatch q⟩
    · rw [z]; exact ⟨o, ho, fun v q => by rw [hd] at q; cases q⟩
  keep := fun i h h' st k => let ⟨⟨old, he⟩, hi⟩ := st; ⟨⟨old, k e (by simp) _ he⟩, hi.at fun o q => k it (by simp) o q⟩
  item := by
    intro X hP hw hK hc i pins s σ H E I hf st hg
    subst hP hw hK
    obtain ⟨⟨old, he⟩, hit⟩ := st
    obtain ⟨xs, x, hq, hx⟩ := hg
    obtain ⟨its, rv, p, hz⟩ := I.tuple hq
    obtain ⟨u, hu, ru⟩ := rv.get hx
    have hel : e < s.heap.objs.size := Heap.lt_size he
    have hil : it < s.heap.objs.size := by obtain ⟨_, q, _⟩ := hit; exact Heap.lt_size q
    refine enum_next_gen (R := fun y h1 => y = u ∧ h1.IsTupleIter it a (i + 1) ∧ Heap.SameBut it s.heap h1) he (fun Q' E' k => RZ.nextOf_tuple_item hit (show s.heap.IsTuple a its.toArray from p) (x := u) (by simpa using hu) fun h' hit' hs => k u h' s.toks ⟨rfl, hit', hs⟩ (hs.extBut _ _ hne he)) ?_
    rintro y h1 h' tk ⟨rfl, hit1, hs1⟩ ho hT hsz hk
    have hs1z : h1.objs.size = s.heap.objs.size := hs1.1
    rw [hs1z] at ho hT hsz ⊢
    refine ⟨_, rfl, wpAny_letOwnedTupleGo_enum (s := { s with heap := h', toks := tk + 1 }) ho fun h'' he' sb => ?_⟩
    have hT2 : h''.get? s.heap.objs.size = some { cls := .type "tuple", data := .seq #[.int i tk, y] } := (sb.2 _ (Nat.ne_of_gt hel)).trans hT
    have new : ObjOk X.prog X.w (upd H s.heap.objs.size (.tup [.int (i : Nat), x])) h'' s.heap.objs.size (.tup [.int (i : Nat), x]) :=
      ⟨by show 2 ≤ sizeLine; decide, [.int i tk, y], .cons ⟨_, rfl⟩ (.cons ru .nil), ⟨_, hT2, rfl, _, rfl⟩⟩
    have I1 : Inv X pins σ (upd H s.heap.objs.size (.tup [.int (i : Nat), x])) { s with heap := h'', toks := tk + 1 } :=
      I.turnedNew (ch := [e, it]) (fun b ob hb q => (sb.2 b (fun z => hb (by simp [z]))).trans (hk b ob (fun z => hb (by simp [z])) (hs1.extBut b ob (fun z => hb (by simp [z])) q))) hf (Nat.le_refl _) new
    refine ⟨.ref s.heap.objs.size, _, I1, rfl, ⟨_, x, rfl, I.hok.fresh (Nat.le_refl _), rfl, fun ys hy => by rw [I.tuple_inj hy hq]; exact hx⟩, ⟨⟨y, ?_⟩, hit1.at fun o q => (sb.2 it (Ne.symm hne)).trans (hk it o (Ne.symm hne) q)⟩, fun b hb => ?_⟩
    · have e1 : ((i + 1 : Nat) : Int) = (i : Int) + 1 := by omega
      rw [e1]; exact he'
    · have hb' : b < s.heap.objs.size := by
        have e' : b = e ∨ b = it := by simpa using hb
        rcases e' with z | z
        · rw [z]; exact hel
        · rw [z]; exact hil
      rw [upd_ne (Nat.ne_of_lt hb')]
      exact (hf b hb).1
  done := by
    intro X hP hw hK hc i pins s σ H E I hf st hg
    subst hP hw hK
    obtain ⟨⟨old, he⟩, hit⟩ := st
    obtain ⟨xs, hq, hx⟩ := hg
    obtain ⟨its, rv, p, hz⟩ := I.tuple hq
    have hl := rv.length
    exact enum_end_gen (R := fun h1 => Heap.ExtBut it s.heap h1) he (fun Q' E' k => RZ.nextOf_tuple_end (I.ok.hd hc) hit (show s.heap.IsTuple a its.toArray from p) (by simp; omega) fun h' x hs hx => k x h' s.toks hs hx) fun h' tk hs =>
      ⟨rfl, I.turnedL (t' := tk) (ch := [e, it]) (fun b o hb q => hs b o (fun z => hb (by simp [z])) q) hf⟩
  self := fun A i s Q E st h => let ⟨⟨_, he⟩, _⟩ := st; wpAny_pyIter_enum he h
def iEnumT (K : PySem.W.Frag) (ta : TA) : TI := fun σ H R => ta σ H fun vs H1 => ∃ a xs, vs = [.ref a] ∧ SqT K H1 a xs ∧ R (IteT K a) H1
theorem pi_enumT {X : Cx} {e : Expr} {ta : TA} {p pos tpos : Pos} {elts : List Expr} {kk : Nat} (hg : Gl X "enumerate") (hm : X.mg "enumerate" = none) (ha : PA X [e] ta) (hs : starEach [e] X.env = [(false, eval e X.env)] := by rfl) :
    PI X (.Tuple elts kk tpos) (.Call (.Name "enumerate" p) [e] [] pos) (iEnumT X.K ta) := by
  refine ⟨fun pins s σ H R I h => ?_⟩
  refine Call_ (ld_blt I hg hm boot_enumerate (PyProof.Rows.callWith_type1 (thn (ha.run pos pins s σ H _ I h) fun us s1 ⟨vs, H1, I1, r1, q1⟩ => ?_) hs rfl))
  obtain ⟨a, xs, ex, hq, q⟩ := q1
  subst ex
  cases r1 with
  | cons r rr =>
    cases rr
    cases r
    obtain ⟨its, rv, p', hz⟩ := I1.tuple hq
    have hsz1 : (s1.heap.push { cls := .type "tuple_iterator", data := .fields #[.ref a, .int 0 0] }).objs.size = s1.heap.objs.size + 1 := Heap.size_push ..
    refine call_enum_it (it := s1.heap.objs.size) (h1 := s1.heap.push { cls := .type "tuple_iterator", data := .fields #[.ref a, .int 0 0] }) (fun prog w A E s' Q hs' q => by
      rw [← hs'] at q
      exact wpAny_pyIter_tuple (items := its.toArray) (by rw [hs']; exact (show s1.heap.IsTuple a its.toArray from p')) q) fun h' he hsz hk => wpAny_pyIter_enum he ?_
    rw [hsz1] at he hsz ⊢
    have hkk : ∀ b o, s1.heap.get? b = some o → h'.get? b = some o := fun b o q => hk b o (Heap.get?_push_of_some _ q)
    have I2 : Inv X pins σ H1 { s1 with heap := h' } := I1.kept (t' := s1.toks) hkk
    have hit : h'.IsTupleIter s1.heap.objs.size a 0 := ⟨_, hk _ _ (Heap.get?_push_size _ rfl), rfl, rfl⟩
    refine ⟨s1.heap.objs.size + 1, [s1.heap.objs.size + 1, s1.heap.objs.size], _, _, H1, rfl, I2, turn_enumT a (s1.heap.objs.size + 1) s1.heap.objs.size (Nat.succ_ne_self _), ⟨⟨.none, he⟩, hit⟩, fun b hb => ?_, q⟩
    have e' : b = s1.heap.objs.size + 1 ∨ b = s1.heap.objs.size := by simpa using hb
    have hle : s1.heap.objs.size ≤ b := by
      rcases e' with z | z
      · rw [z]; exact Nat.le_add_right _ _
      · rw [z]; exact Nat.le_refl _
    exact I1.fpOk hle (I1.hok.fresh hle)
end DL
set_option maxHeartbeats 4000000
namespace DL
open PySem PySem.Spec PyProof.Rows L2

/-! ### for i, (x, y) in enumerate(zip(tuple, tuple)) -/
def IteZ (K : PySem.W.Frag) (a b : Addr) : It :=
  ⟨fun i H => ∃ (xs ys : List V) (x y : V), SqT K H a xs ∧ SqT K H b ys ∧ xs[i]? = some x ∧ ys[i]? = some y,
    fun i H v H' => ∃ T T2 x y, v = .ref T ∧ H T2 = none ∧ (upd H T2 (.tup [x, y])) T = none ∧ H' = upd (upd H T2 (.tup [x, y])) T (.tup [.int (i : Nat), .ref T2]) ∧ (∀ xs, SqT K H a xs → xs[i]? = some x) ∧ ∀ ys, SqT K H b ys → ys[i]? = some y,
    fun i H => ∃ xs ys : List V, SqT K H a xs ∧ SqT K H b ys ∧ i ≤ xs.length ∧ i ≤ ys.length ∧ (xs.length = i ∨ ys.length = i)⟩
theorem turn_enumZ {P : Program} {w : World} {K : PySem.W.Frag} {elts : List Expr} {kk : Nat} {tpos : Pos} {a b e z TI TO i1 i2 : Addr} (S : ZipSep2 z TI TO i1 i2 [i1, a] [i2, b]) (hai : a ≠ i1) (hbi : b ≠ i2) (hez : e ≠ z) (heI : e ≠ TI) (heO : e ≠ TO) (he1 : e ≠ i1) (he2 : e ≠ i2) :
    Turn P w K (.Tuple elts kk tpos) (IteZ K a b) [e, z, TI, TO, i1, i2] e (fun i h => (∃ old, IsEnum h e z ((i : Nat) : Int) old) ∧ ZS h z TI TO i1 i2 ∧ h.IsTupleIter i1 a i ∧ h.IsTupleIter i2 b i) where
  mem := by simp
  obj := fun i h st c hc => by
    obtain ⟨⟨old, he⟩, ⟨⟨f0, f, hz, h0⟩, hTI, a1, a2, hTO⟩, ⟨o1, e1, _, d1⟩, ⟨o2, e2, _, d2⟩⟩ := st
    have e' : c = e ∨ c = z ∨ c = TI ∨ c = TO ∨ c = i1 ∨ c = i2 := by simpa using hc
    rcases e' with q | q | q | q | q | q
    · rw [q]; exact ⟨_, he, fun v q => nomatch q⟩
    · rw [q]; exact ⟨_, hz, fun v q => nomatch q⟩
    · rw [q]; exact ⟨_, hTI, fun v q => nomatch q⟩
    · rw [q]; exact ⟨_, hTO, fun v q => nomatch q⟩
    · rw [q]; exact ⟨o1, e1, fun v q => by rw [d1] at q; cases q⟩
    · rw [q]; exact ⟨o2, e2, fun v q => by rw [d2] at q; cases q⟩
  keep := fun i h h' st k => by
    obtain ⟨⟨old, he⟩, Z, h1, h2⟩ := st
    exact ⟨⟨old, k e (by simp) _ he⟩, Z.keep fun b hb o q => k b (by rcases hb with rfl | rfl | rfl <;> simp) o q, h1.at fun o q => k i1 (by simp) o q, h2.at fun o q => k i2 (by simp) o q⟩
  item := by
    intro X hP hw hK hc i pins s σ H E I hf st hg
    subst hP hw hK
    obtain ⟨⟨old, he⟩, Z, h1, h2⟩ := st
    obtain ⟨xs, ys, x, y, hqx, hqy, hx, hy⟩ := hg
    obtain ⟨its, rv, p, _⟩ := I.tuple hqx
    obtain ⟨its2, rv2, p2, _⟩ := I.tuple hqy
    obtain ⟨u, hu, ru⟩ := rv.get hx
    obtain ⟨u2, hu2, ru2⟩ := rv2.get hy
    have hz0 := Z
    obtain ⟨⟨f0, f, hzf, _⟩, hTI, a1, a2, hTO⟩ := hz0
    have lt : ∀ c, c ∈ [e, z, TI, TO, i1, i2] → c < s.heap.objs.size := fun c hcm => by
      have e' : c = e ∨ c = z ∨ c = TI ∨ c = TO ∨ c = i1 ∨ c = i2 := by simpa using hcm
      rcases e' with q | q | q | q | q | q
      · rw [q]; exact Heap.lt_size he
      · rw [q]; exact Heap.lt_size hzf
      · rw [q]; exact Heap.lt_size hTI
      · rw [q]; exact Heap.lt_size hTO
      · rw [q]; obtain ⟨_, e1, _⟩ := h1; exact Heap.lt_size e1
      · rw [q]; obtain ⟨_, e1, _⟩ := h2; exact Heap.lt_size e1
    have hh1 : i < its.toArray.size := by
      have := (List.getElem?_eq_some_iff.mp hx).1
      have := rv.length
      simp; omega
    have hh2 : i < its2.toArray.size := by
      have := (List.getElem?_eq_some_iff.mp hy).1
      have := rv2.length
      simp; omega
    have hA := I.ok.hd hc
    have D1 := Draws.tuple (prog := X.prog) (w := X.w) (A := X.A.in1.in1) hA i1 a hai its.toArray
    have D2 := Draws.tuple (prog := X.prog) (w := X.w) (A := X.A.in1.in1) hA i2 b hbi its2.toArray
    have hu' : its.toArray[i]? = some u := by simpa using hu
    have hu2' : its2.toArray[i]? = some u2 := by simpa using hu2
    refine enum_next_gen (R := fun v h1 => v = .ref s.heap.objs.size ∧ ZS h1 z TI TO i1 i2 ∧ h1.IsTupleIter i1 a (i + 1) ∧ h1.IsTupleIter i2 b (i + 1) ∧ IsTupOf2 h1 s.heap.objs.size u u2 ∧ h1.objs.size = s.heap.objs.size + 1 ∧ ∀ c o, c ≠ z → c ≠ TO → c ≠ i1 → c ≠ i2 → s.heap.get? c = some o → h1.get? c = some o) he
      (fun Q' E' k => zs_nextOf_item S D1 D2 Z ⟨h1, show s.heap.IsTuple a its.toArray from p⟩ ⟨h2, show s.heap.IsTuple b its2.toArray from p2⟩ hh1 hh2 fun x1 x2 h' tk y1 y2 b1 d1 d2 b5 b6 b7 => by
        rw [hu'] at y1
        rw [hu2'] at y2
        cases y1
        cases y2
        exact k _ h' tk ⟨rfl, b1, d1.1, d2.1, b5, b6, b7⟩ (b7 e _ hez heO he1 he2 he)) ?_
    rintro v g1 h' tk ⟨rfl, Z1, t1, t2, hP1, hz1, hk1⟩ ho hT hsz hk
    refine ⟨_, rfl, wpAny_letOwnedTupleGo_enum (s := { s with heap := h', toks := tk + 1 }) ho fun h'' he' sb => ?_⟩
    have hel : e < s.heap.objs.size := Heap.lt_size he
    have hel1 : e < g1.objs.size := by rw [hz1]; exact Nat.lt_succ_of_lt hel
    have hT2 : h''.get? g1.objs.size = some { cls := .type "tuple", data := .seq #[.int i tk, .ref s.heap.objs.size] } := (sb.2 _ (Nat.ne_of_gt hel1)).trans hT
    have new1 : ObjOk X.prog X.w (upd H s.heap.objs.size (.tup [x, y])) g1 s.heap.objs.size (.tup [x, y]) :=
      ⟨by show 2 ≤ sizeLine; decide, [u, u2], .cons ru (.cons ru2 .nil), ⟨_, hP1, rfl, _, rfl⟩⟩
    have hfr : H s.heap.objs.size = none := I.hok.fresh (Nat.le_refl _)
    have I1 : Inv X pins σ (upd H s.heap.objs.size (.tup [x, y])) { s with heap := g1, toks := tk } :=
      I.turnedNew (ch := [e, z, TI, TO, i1, i2]) (fun c o hb q => hk1 c o (fun z => hb (by simp [z])) (fun z => hb (by simp [z])) (fun z => hb (by simp [z])) (fun z => hb (by simp [z])) q) hf (Nat.le_refl _) new1
    have hf1 : ∀ c ∈ [e, z, TI, TO, i1, i2], FpOk X pins (upd H s.heap.objs.size (.tup [x, y])) c := fun c hcm => by
      obtain ⟨q1, q2⟩ := hf c hcm
      exact ⟨by rw [upd_ne (Nat.ne_of_lt (lt c hcm))]; exact q1, q2⟩
    have new2 : ObjOk X.prog X.w (upd (upd H s.heap.objs.size (.tup [x, y])) g1.objs.size (.tup [.int (i : Nat), .ref s.heap.objs.size])) h'' g1.objs.size (.tup [.int (i : Nat), .ref s.heap.objs.size]) :=
      ⟨by show 2 ≤ sizeLine; decide, [.int i tk, .ref s.heap.objs.size], .cons ⟨_, rfl⟩ (.cons rfl .nil), ⟨_, hT2, rfl, _, rfl⟩⟩
    have I2 : Inv X pins σ (upd (upd H s.heap.objs.size (.tup [x, y])) g1.objs.size (.tup [.int (i : Nat), .ref s.heap.objs.size])) { s with heap := h'', toks := tk + 1 } :=
      I1.turnedNew (ch := [e, z, TI, TO, i1, i2]) (fun c o hb q => (sb.2 c (fun z => hb (by simp [z]))).trans (hk c o (fun z => hb (by simp [z])) q)) hf1 (Nat.le_refl _) new2
    have hfr2 : (upd H s.heap.objs.size (.tup [x, y])) g1.objs.size = none := I1.hok.fresh (Nat.le_refl _)
    have up : ∀ c o, c ≠ e → g1.get? c = some o → h''.get? c = some o := fun c o hce q => (sb.2 c hce).trans (hk c o hce q)
    refine ⟨.ref g1.objs.size, _, I2, rfl, ⟨_, _, x, y, rfl, hfr, hfr2, rfl, fun l hl => by rw [I.tuple_inj hl hqx]; exact hx, fun l hl => by rw [I.tuple_inj hl hqy]; exact hy⟩, ⟨⟨.ref s.heap.objs.size, ?_⟩, Z1.keep fun c hcm o q => up c o (by rcases hcm with rfl | rfl | rfl <;> first | exact hez.symm | exact heI.symm | exact heO.symm) q, t1.at fun o q => up i1 o he1.symm q, t2.at fun o q => up i2 o he2.symm q⟩, fun c hcm => ?_⟩
    · have e1 : ((i + 1 : Nat) : Int) = (i : Int) + 1 := by omega
      rw [e1]
      exact he'
    · rw [upd_ne (Nat.ne_of_lt (by rw [hz1]; exact Nat.lt_succ_of_lt (lt c hcm)))]
      exact (hf1 c hcm).1
  done := by
    intro X hP hw hK hc i pins s σ H E I hf st hg
    subst hP hw hK
    obtain ⟨⟨old, he⟩, Z, h1, h2⟩ := st
    obtain ⟨xs, ys, hqx, hqy, l1, l2, hend⟩ := hg
    obtain ⟨its, rv, p, _⟩ := I.tuple hqx
    obtain ⟨its2, rv2, p2, _⟩ := I.tuple hqy
    have m1 := rv.length
    have m2 := rv2.length
    have hA := I.ok.hd hc
    have D1 := Draws.tuple (prog := X.prog) (w := X.w) (A := X.A.in1.in1) hA i1 a hai its.toArray
    have D2 := Draws.tuple (prog := X.prog) (w := X.w) (A := X.A.in1.in1) hA i2 b hbi its2.toArray
    refine enum_end_gen (R := fun h' => ∀ c o, c ≠ z → c ≠ TO → c ≠ i1 → c ≠ i2 → s.heap.get? c = some o → h'.get? c = some o) he (fun Q' E' k => zs_nextOf_end S D1 D2 Z ⟨h1, show s.heap.IsTuple a its.toArray from p⟩ ⟨h2, show s.heap.IsTuple b its2.toArray from p2⟩ (by simp; omega) (by simp; omega) (by simp; omega) fun h' tk x hk hx => k x h' tk hk hx) fun h' tk hk => ?_
    exact ⟨rfl, I.turnedL (t' := tk) (ch := [e, z, TI, TO, i1, i2]) (fun c o hb q => hk c o (fun z => hb (by simp [z])) (fun z => hb (by simp [z])) (fun z => hb (by simp [z])) (fun z => hb (by simp [z])) q) hf⟩
  self := fun A i s Q E st h => let ⟨⟨_, he⟩, _⟩ := st; wpAny_pyIter_enum he h
theorem sep_new (N a b : Nat) (ha : a < N) (hb : b < N) : ZipSep2 (N + 4) (N + 2) (N + 3) N (N + 1) [N, a] [N + 1, b] := by
  have nm : ∀ {x u v : Nat}, x ≠ u → x ≠ v → (x : Addr) ∉ ([u, v] : List Addr) := fun h1 h2 h => by
    rcases List.mem_cons.mp h with q | q
    · exact h1 q
    · exact h2 (List.mem_singleton.mp q)
  constructor <;> first | exact List.mem_cons_self | (refine nm ?_ ?_ <;> omega) | (show @Ne Nat _ _; omega)
def iEnumZ (K : PySem.W.Frag) (ta : TA) : TI := fun σ H R => ta σ H fun vs H1 => ∃ a b xs ys, vs = [.ref a, .ref b] ∧ SqT K H1 a xs ∧ SqT K H1 b ys ∧ R (IteZ K a b) H1
theorem pi_enumZ {X : Cx} {e e2 : Expr} {ta : TA} {p p2 pos pos2 tpos : Pos} {elts : List Expr} {kk : Nat} (hg : Gl X "enumerate") (hm : X.mg "enumerate" = none) (hg2 : Gl X "zip") (hm2 : X.mg "zip" = none) (ha : PA X [e, e2] ta)
    (hs : starEach [e, e2] X.env = (false, eval e X.env) :: starEach [e2] X.env := by rfl) (hpl : (backTo pos2 (starEach [e2] X.env)).any (·.1) = false := by rfl)
    (ho : starEach [.Call (.Name "zip" p2) [e, e2] [] pos2] X.env = (false, eval (.Call (.Name "zip" p2) [e, e2] [] pos2) X.env) :: starEach [] X.env := by rfl) :
    PI X (.Tuple elts kk tpos) (.Call (.Name "enumerate" p) [.Call (.Name "zip" p2) [e, e2] [] pos2] [] pos) (iEnumZ X.K ta) := by
  refine ⟨fun pins s σ H R I h => ?_⟩
  refine Call_ (ld_blt I hg hm boot_enumerate (PyProof.Rows.callWith_type1 (PyProof.Rows.args_cons ?_ ho) ho rfl))
  refine Call_ (ld_blt I hg2 hm2 boot_zip (PyProof.Rows.callWith_type1 (thn (ha.run pos2 pins s σ H _ I h) fun us s1 ⟨vs, H1, I1, r1, q1⟩ => ?_) hs hpl))
  obtain ⟨a, b, xs, ys, ex, hqx, hqy, q⟩ := q1
  subst ex
  cases r1 with
  | cons r rr =>
    cases rr with
    | cons r' rr =>
      cases rr
      cases r
      cases r'
      obtain ⟨its, rv, p1, _⟩ := I1.tuple hqx
      obtain ⟨its2, rv2, p2, _⟩ := I1.tuple hqy
      have la : a < s1.heap.objs.size := by obtain ⟨o1, ho1, _⟩ := id p1; exact Heap.lt_size ho1
      have lb : b < s1.heap.objs.size := by obtain ⟨o1, ho1, _⟩ := id p2; exact Heap.lt_size ho1
      refine RZ.call_zipT (show s1.heap.IsTuple a its.toArray from p1) (show s1.heap.IsTuple b its2.toArray from p2) fun h' hz hTI hTO h1 h2 hsz hk => ?_
      refine PyProof.Rows.args_nil ?_
      refine call_enum_it (s := { s1 with heap := h' }) (it := s1.heap.objs.size + 4) (h1 := h') (fun prog w A E s' Q hs' q => by
        replace hs' : s'.heap = h' := hs'
        subst hs'
        exact wpAny_pyIter_zip hz q) fun h'' he hsz2 hk2 => wpAny_pyIter_enum he ?_
      rw [hsz] at he hsz2 ⊢
      have I2 : Inv X pins σ H1 { s1 with heap := h'' } := I1.kept (t' := s1.toks) fun c o q => hk2 c o (hk c o q)
      refine ⟨s1.heap.objs.size + 5, [s1.heap.objs.size + 5, s1.heap.objs.size + 4, s1.heap.objs.size + 2, s1.heap.objs.size + 3, s1.heap.objs.size, s1.heap.objs.size + 1], _, _, H1, rfl, I2,
        turn_enumZ (sep_new s1.heap.objs.size a b la lb) (Nat.ne_of_lt la) (Nat.ne_of_lt (Nat.lt_succ_of_lt lb)) (by show @Ne Nat _ _; omega) (by show @Ne Nat _ _; omega) (by show @Ne Nat _ _; omega) (by show @Ne Nat _ _; omega) (by show @Ne Nat _ _; omega),
        ⟨⟨.none, he⟩, ⟨⟨.none, false, hk2 _ _ hz, .inl rfl⟩, hk2 _ _ hTI, _, _, hk2 _ _ hTO⟩, h1.at fun o q => hk2 _ o q, h2.at fun o q => hk2 _ o q⟩, fun c hcm => ?_, q⟩
      have hle : s1.heap.objs.size ≤ c := by
        have e' : c = s1.heap.objs.size + 5 ∨ c = s1.heap.objs.size + 4 ∨ c = s1.heap.objs.size + 2 ∨ c = s1.heap.objs.size + 3 ∨ c = s1.heap.objs.size ∨ c = s1.heap.objs.size + 1 := by simpa using hcm
        rcases e' with z | z | z | z | z | z <;> (rw [z]; first | exact Nat.le_add_right _ _ | exact Nat.le_refl _)
      exact I1.fpOk hle (I1.hok.fresh hle)
end DL
set_option maxHeartbeats 4000000
namespace DL
open PySem PySem.Spec PyProof.Rows L2

theorem zip_no_len : typeLookup (.type "zip") "__len__" = pure none := by rw [typeLookup_type, builtinLookup_eq_fast]; kernel_rfl
theorem zip_no_hint : typeLookup (.type "zip") "__length_hint__" = pure none := by rw [typeLookup_type, builtinLookup_eq_fast]; kernel_rfl
/-- pairs are laid, one new tuple after the other -/
inductive PairsN (H0 : Hp) : List (V × V) → List Addr → Hp → Prop where
  | nil : PairsN H0 [] [] H0
  | snoc {ps : List (V × V)} {Ts : List Addr} {H : Hp} {x y : V} {T : Addr} (h : PairsN H0 ps Ts H) (hT : H T = none) : PairsN H0 (ps ++ [(x, y)]) (Ts ++ [T]) (upd H T (.tup [x, y]))
/-- an object known to stand in the heap is taken up -/
theorem adopt {X : Cx} {pins : List (Addr × Obj)} {σ : L2.St} {H : Hp} {s : Shared} {L : Addr} {ob : HO} (I : L2.Inv X pins σ H s) (hf : FpOk X pins H L) (new : ObjOk X.prog X.w (upd H L ob) s.heap L ob) : L2.Inv X pins σ (upd H L ob) s := by
  have hn : H L = none := hf.1
  have := I.step (H' := upd H L ob) (h' := s.heap) (g' := s.gens) (t' := s.toks) (d' := s.drawn) (ch := [L]) (fun b hb => by
      rw [List.mem_singleton.mp hb]
      exact ⟨hf.2.2.2.1, hf.2.1, hf.2.2.2.2.1, hf.2.2.2.2.2⟩) (fun b o _ _ hc e _ => e) (fun b o _ _ hc e _ => ⟨o.slots, e⟩)
    (fun b o hb e n => by rw [upd_ne (fun z => hb (by simp [z]))]; exact n) (fun b o hc e => ⟨o, e⟩) (fun b xs e => by rw [upd_ne (ne_of_none e hn)]; exact e) (fun b o u e => by rw [upd_ne (ne_of_none e hn)]; exact e) (fun b ps e => ⟨#[], by rw [upd_ne (ne_of_none e hn), e]; simp⟩) (fun m hm => hm) (fun b u e => ?_) I.bare
  · exact this
  · by_cases hb : b = L
    · subst hb
      rw [upd_same] at e
      cases e
      exact new
    · rw [upd_ne hb] at e
      exact (I.hok b u e).stay (fun c v hc q => q) (fun c q => by rw [upd_ne (ne_of_none q hn)]; exact q) fun c xs q => by rw [upd_ne (ne_of_none q hn)]; exact q
theorem zip_loop {X : Cx} {A : Around} {R : Result → Shared → Prop} {pins : List (Addr × Obj)} {σ : L2.St} {L z TI TO i1 i2 : Addr} {fp1 fp2 : List Addr} {n : Nat} {P1 P2 : Nat → Value → Prop} {St1 St2 : Nat → Heap → Prop} {H0 : Hp}
    (S : ZipSep2 z TI TO i1 i2 fp1 fp2) (D1 : Draws X.prog X.w A.in1.in1 i1 fp1 n P1 St1) (D2 : Draws X.prog X.w A.in1.in1 i2 fp2 n P2 St2) (hL1 : L ∉ fp1) (hL2 : L ∉ fp2) (hLz : L ≠ z) (hLI : L ≠ TI) (hLO : L ≠ TO) (hLi1 : L ≠ i1) (hLi2 : L ≠ i2) (res : Value)
    {xs ys : List V} (hx : ∀ i u, P1 i u → ∃ x, xs[i]? = some x ∧ L2.RelV x u) (hy : ∀ i u, P2 i u → ∃ y, ys[i]? = some y ∧ L2.RelV y u) (hn : n ≤ sizeLine) (hxl : xs.length = n) (hyl : ys.length = n)
    (hR : ∀ s' H' Ts' c', L2.Inv X pins σ H' s' → (∀ b ∈ [L, z, TI, TO, i1, i2], FpOk X pins H' b) → PairsN H0 (xs.zip ys) Ts' H' → s'.heap.get? L = some { cls := .type "list", dict := none, data := .seq (Ts'.map Value.ref).toArray c', slots := #[] } → R (.ok (.ret res)) s') :
    ∀ (k i : Nat) (s : Shared) (H : Hp) (acc : Array Value) (c : Nat) (Ts : List Addr), acc = (Ts.map Value.ref).toArray → n - i = k → i ≤ n → L2.Inv X pins σ H s → (∀ b ∈ [L, z, TI, TO, i1, i2], FpOk X pins H b) → ZS s.heap z TI TO i1 i2 → St1 i s.heap → St2 i s.heap →
      s.heap.get? L = some { cls := .type "list", dict := none, data := .seq acc c, slots := #[] } → Ts.length = i → PairsN H0 ((xs.zip ys).take i) Ts H →
      codeAny (model X.prog X.w) A (.builtin "list.extend.loop" ⟨[.ref L, .ref z, res], []⟩) R s := by
  intro k
  induction k with
  | zero =>
    intro i s H acc c Ts hacc hk hi I hf Z st1 st2 hL hlen hp
    subst hacc
    have hin : i = n := by omega
    subst hin
    refine codeAny_builtin F.entry_extend_loop ?_
    rw [Around.under_plainId F.plain_extend_loop _]
    show wpAny _ A.in1 (pyNext (.ref z) >>= _) _ _ s
    refine wpAny_bind (zs_next_end S D1 D2 Z st1 st2 (Nat.le_refl _) (Nat.le_refl _) (.inl rfl) fun h' tk hkk => ?_)
    refine wpAny_pure (hR _ H Ts c (I.turnedL (t' := tk) (ch := [L, z, TI, TO, i1, i2]) (fun b o hb q => hkk b o (fun z => hb (by simp [z])) (fun z => hb (by simp [z])) (fun z => hb (by simp [z])) (fun z => hb (by simp [z])) q) hf) hf ?_ (hkk L _ hLz hLO hLi1 hLi2 hL))
    rw [List.take_of_length_le (by rw [List.length_zip]; omega)] at hp
    exact hp
  | succ k ih =>
    intro i s H acc c Ts hacc hk hi I hf Z st1 st2 hL hlen hp
    have hlt : i < n := by omega
    refine codeAny_builtin F.entry_extend_loop ?_
    rw [Around.under_plainId F.plain_extend_loop _]
    show wpAny _ A.in1 (pyNext (.ref z) >>= _) _ _ s
    refine wpAny_bind (zs_next_item S D1 D2 Z st1 st2 hlt hlt fun u1 u2 h' tk p1 p2 Z1 t1 t2 hT hsz hkk => ?_)
    obtain ⟨x, ex, rx⟩ := hx i u1 p1
    obtain ⟨y, ey, ry⟩ := hy i u2 p2
    have hL' : h'.get? L = _ := hkk L _ hLz hLO hLi1 hLi2 hL
    show wpAny _ A.in1 (updateSeq L (·.push (.ref s.heap.objs.size)) >>= _) _ _ _
    have hLs : L < s.heap.objs.size := Heap.lt_size hL
    refine wpAny_bind (wpAny_updateSeq (s := { s with heap := h', toks := tk }) hL' rfl (wpAny_pure ⟨plainId_quiet F.plain_extend_loop _, ?_⟩) (by rw [hacc]; simp; omega) (by rw [hacc]; simp; omega))
    have hq := Heap.get?_update_self (Obj.mapSeq (·.push (.ref s.heap.objs.size))) hL' rfl
    have up : ∀ b o, b ≠ L → h'.get? b = some o → (h'.update L (Obj.mapSeq (·.push (.ref s.heap.objs.size)))).get? b = some o := fun b o hb e => (Heap.get?_update_other _ _ (fun q : L = b => hb q.symm)).trans e
    have hTL : s.heap.objs.size ≠ L := Nat.ne_of_gt hLs
    have hfr : H s.heap.objs.size = none := I.hok.fresh (Nat.le_refl _)
    have new : ObjOk X.prog X.w (upd H s.heap.objs.size (.tup [x, y])) (h'.update L (Obj.mapSeq (·.push (.ref s.heap.objs.size)))) s.heap.objs.size (.tup [x, y]) :=
      ⟨by show 2 ≤ sizeLine; decide, [u1, u2], .cons rx (.cons ry .nil), ⟨_, up _ _ hTL hT, rfl, _, rfl⟩⟩
    have lt : ∀ c, c ∈ [L, z, TI, TO, i1, i2] → c < s.heap.objs.size := fun c hcm => by
      obtain ⟨⟨f0, f, hzf, _⟩, hTI, a1, a2, hTO⟩ := Z
      have e' : c = L ∨ c = z ∨ c = TI ∨ c = TO ∨ c = i1 ∨ c = i2 := by simpa using hcm
      rcases e' with q | q | q | q | q | q
      · rw [q]; exact hLs
      · rw [q]; exact Heap.lt_size hzf
      · rw [q]; exact Heap.lt_size hTI
      · rw [q]; exact Heap.lt_size hTO
      · rw [q]; obtain ⟨_, e1⟩ := D1.live _ _ st1; exact Heap.lt_size e1
      · rw [q]; obtain ⟨_, e1⟩ := D2.live _ _ st2; exact Heap.lt_size e1
    have I1 : L2.Inv X pins σ (upd H s.heap.objs.size (.tup [x, y])) { s with heap := h'.update L (Obj.mapSeq (·.push (.ref s.heap.objs.size))), toks := tk } :=
      I.turnedNew (ch := [L, z, TI, TO, i1, i2]) (fun c o hb q => up c o (fun z => hb (by simp [z])) (hkk c o (fun z => hb (by simp [z])) (fun z => hb (by simp [z])) (fun z => hb (by simp [z])) (fun z => hb (by simp [z])) q)) hf (Nat.le_refl _) new
    have hf1 : ∀ c ∈ [L, z, TI, TO, i1, i2], FpOk X pins (upd H s.heap.objs.size (.tup [x, y])) c := fun c hcm => by
      obtain ⟨q1, q2⟩ := hf c hcm
      exact ⟨by rw [upd_ne (Nat.ne_of_lt (lt c hcm))]; exact q1, q2⟩
    have hxy : (xs.zip ys)[i]? = some (x, y) := List.getElem?_zip_eq_some.mpr ⟨ex, ey⟩
    have hpp : PairsN H0 ((xs.zip ys).take (i + 1)) (Ts ++ [s.heap.objs.size]) (upd H s.heap.objs.size (.tup [x, y])) := by
      rw [List.take_add_one, hxy]
      exact .snoc hp hfr
    refine ih (i + 1) _ _ (acc.push (.ref s.heap.objs.size)) _ (Ts ++ [s.heap.objs.size]) (by rw [hacc]; simp) (by omega) hlt I1 hf1 (Z1.keep fun b hb o e => up b o (by rcases hb with rfl | rfl | rfl; exact hLz.symm; exact hLI.symm; exact hLO.symm) e) (D1.frame _ _ _ t1 fun b hb o e => up b o (fun q => hL1 (q ▸ hb)) e) (D2.frame _ _ _ t2 fun b hb o e => up b o (fun q => hL2 (q ▸ hb)) e) hq (by rw [List.length_append, hlen]; rfl) hpp
end DL
set_option maxHeartbeats 4000000
namespace DL
open PySem PySem.Spec PyProof.Rows L2

theorem PairsN.length {H0 H : Hp} {ps : List (V × V)} {Ts : List Addr} (h : PairsN H0 ps Ts H) : Ts.length = ps.length := by
  induction h with
  | nil => rfl
  | snoc h hT ih => rw [List.length_append, List.length_append, ih]; rfl
theorem ZS.iter {prog : Program} {w : World} {A : Around} {E : Value → Shared → Prop} {s : Shared} {z TI TO i1 i2 : Addr} {Q : Value → Shared → Prop} (Z : ZS s.heap z TI TO i1 i2) (h : Q (.ref z) s) : wpAny (model prog w) A (pyIter (.ref z)) Q E s := by
  have hT := Z.isZip
  refine wpAny_pyIter_slot hT F.slot_zip_iter (wpAny_call_entry F.slot_zip_iter hT F.entry_zip_iter ?_ (F.args_zip_iter_1 _))
  show wpAny _ _ (ret (.ref z)) _ _ s
  exact wpAny_pure ⟨_, rfl, "zip", _, hT, F.slot_zip_next.lookup, h⟩
theorem ext_zip {prog : Program} {w : World} {A : Around} {s : Shared} {R : Result → Shared → Prop} {L z TI TO i1 i2 : Addr} {res : Value} {c₀ : Nat} (Z : ZS s.heap z TI TO i1 i2) (hLz : L ≠ z) (hS : s.heap.get? L = some { cls := .type "list", data := .seq #[] c₀ })
    (hR : ∀ h' c', (∀ b o, b ≠ L → s.heap.get? b = some o → h'.get? b = some o) → h'.objs.size = s.heap.objs.size → h'.get? L = some { cls := .type "list", data := .seq #[] c' } → codeAny (model prog w) A (.builtin "list.extend.loop" ⟨[.ref L, .ref z, res], []⟩) R { s with heap := h' }) :
    wpAny (model prog w) A.in1 (Builtin.List.listExtendWith (.ref L) (.ref z) res)
      (fun fin s' => match fin with | .done f => R (.ok f) s' | .again c' => c'.quiet = true ∧ codeAny (model prog w) A c' R s') (fun e s' => R (.error e) s') s := by
  have hT := Z.isZip
  unfold Builtin.List.listExtendWith
  refine wpAny_bind (wpAny_typeOf hT ?_)
  have h1 : Builtin.List.listSameRef (.ref L) (.ref z) = false := by simp [Builtin.List.listSameRef, hLz]
  have h2 : (Value.type "zip" == Value.type "list") = false := by decide
  have h3 : (Value.type "zip" == Value.type "tuple") = false := by decide
  simp only [h1, h2, h3, Bool.or_false, Bool.false_eq_true, if_false]
  refine wpAny_bind (Z.iter ?_)
  refine wpAny_bind (wpAny_holding ?_)
  unfold Builtin.List.listLengthHint
  refine wpAny_bind (wpAny_specialOf hT zip_no_len ?_)
  show wpAny _ A.in1 (specialOf (Value.ref z) (Str.ofString "__length_hint__") >>= _) _ _ _
  refine wpAny_bind (wpAny_specialOf hT zip_no_hint ?_)
  refine wpAny_pure ?_
  show wpAny _ A.in1 (rule "list.extend.makes-room" >>= fun _ => Builtin.List.listTouch (.ref L) >>= fun _ =>
    again (.builtin "list.extend.loop" ⟨[.ref L, .ref z, res], []⟩)) _ _ _
  refine wpAny_bind (wpAny_rule ?_)
  refine wpAny_bind ?_
  show wpAny _ A.in1 (updateSeq L (·.push .none) >>= fun _ => updateSeq L (·.pop)) _ _ _
  refine wpAny_bind (wpAny_updateSeq hS rfl ?_)
  have hS₂ := Heap.get?_update_self (Obj.mapSeq (·.push Value.none)) hS rfl
  refine wpAny_updateSeq (hz := by seq_fits) hS₂ rfl ?_
  have hS₃ := Heap.get?_update_self (Obj.mapSeq (·.pop)) hS₂ rfl
  have oth : ∀ b o, b ≠ L → s.heap.get? b = some o → ((s.heap.update L (Obj.mapSeq (·.push Value.none))).update L (Obj.mapSeq (·.pop))).get? b = some o :=
    fun b o hb e => (Heap.get?_update_other _ _ (Ne.symm hb)).trans ((Heap.get?_update_other _ _ (Ne.symm hb)).trans e)
  refine wpAny_pure ⟨plainId_quiet F.plain_extend_loop _, hR _ _ oth ?_ hS₃⟩
  simp
theorem init_zip {prog : Program} {w : World} {A : Around} {s : Shared} {R : Result → Shared → Prop} {L z TI TO i1 i2 : Addr} (Z : ZS s.heap z TI TO i1 i2) (hLz : L ≠ z) (hLI : L ≠ TI) (hLO : L ≠ TO) (hS : s.heap.get? L = some { cls := .type "list", data := .seq #[] })
    (hR : ∀ h' c', (∀ b o, b ≠ L → s.heap.get? b = some o → h'.get? b = some o) → h'.objs.size = s.heap.objs.size → h'.get? L = some { cls := .type "list", data := .seq #[] c' } → codeAny (model prog w) A (.builtin "list.extend.loop" ⟨[.ref L, .ref z, .none], []⟩) R { s with heap := h' }) :
    wpAny (model prog w) A.in1 (Builtin.«list.__init__» ⟨[.ref L, .ref z], []⟩)
      (fun fin s' => match fin with | .done f => R (.ok f) s' | .again c' => c'.quiet = true ∧ codeAny (model prog w) A c' R s') (fun e s' => R (.error e) s') s := by
  show wpAny _ A.in1 (do let old ← Builtin.List.listItems (.ref L); Builtin.List.listUpdate (.ref L) (fun _ => #[]); letGo old.toList.reverse; Builtin.List.listExtendWith (.ref L) (.ref z) .none) _ _ s
  refine wpAny_bind ?_
  unfold Builtin.List.listItems
  refine wpAny_bind (wpAny_seqItems hS rfl (wpAny_pure ?_))
  show wpAny _ A.in1 (updateSeq L (fun _ => #[]) >>= fun _ => letGo (#[] : Array Value).toList.reverse >>= fun _ => Builtin.List.listExtendWith (.ref L) (.ref z) .none) _ _ s
  refine wpAny_bind (wpAny_updateSeq hS rfl ?_)
  have hS₂ := Heap.get?_update_self (Obj.mapSeq (fun _ => (#[] : Array Value))) hS rfl
  have oth : ∀ b o, b ≠ L → s.heap.get? b = some o → (s.heap.update L (Obj.mapSeq (fun _ => (#[] : Array Value)))).get? b = some o :=
    fun b o hb e => (Heap.get?_update_other _ _ (Ne.symm hb)).trans e
  refine wpAny_bind (wpAny_letGo ?_)
  refine ext_zip (Z.keep fun b hb o e => oth b o (by rcases hb with rfl | rfl | rfl; exact hLz.symm; exact hLI.symm; exact hLO.symm) e) hLz hS₂ fun h' c' k hsz hL => hR h' c' (fun b o hb e => k b o hb (oth b o hb e)) ?_ hL
  rw [hsz]
  simp
/-- list(zip(..)), the zip fresh -/
theorem call_list_zip {X : Cx} (hc : X.calm = true) {pins : List (Addr × Obj)} {σ : L2.St} {H : Hp} {s : Shared} (I : L2.Inv X pins σ H s) {z TI TO i1 i2 : Addr} {fp1 fp2 : List Addr} {n : Nat} {P1 P2 : Nat → Value → Prop} {St1 St2 : Nat → Heap → Prop} {Q : Value → Shared → Prop}
    (Z : ZS s.heap z TI TO i1 i2) (S : ZipSep2 z TI TO i1 i2 fp1 fp2) (D1 : ∀ A : Around, A.handled = none → Draws X.prog X.w A i1 fp1 n P1 St1) (D2 : ∀ A : Around, A.handled = none → Draws X.prog X.w A i2 fp2 n P2 St2) (st1 : St1 0 s.heap) (st2 : St2 0 s.heap)
    (hf1 : ∀ b ∈ fp1, b < s.heap.objs.size) (hf2 : ∀ b ∈ fp2, b < s.heap.objs.size) (hf : ∀ b ∈ [z, TI, TO, i1, i2], FpOk X pins H b)
    {xs ys : List V} (hx : ∀ i u, P1 i u → ∃ x, xs[i]? = some x ∧ L2.RelV x u) (hy : ∀ i u, P2 i u → ∃ y, ys[i]? = some y ∧ L2.RelV y u) (hn : n ≤ sizeLine) (hxl : xs.length = n) (hyl : ys.length = n)
    (hQ : ∀ L H' Ts s', PairsN H (xs.zip ys) Ts H' → H' L = none → L2.Inv X pins σ (upd H' L (.lst (Ts.map V.ref))) s' → Q (.ref L) s') : wpAny (model X.prog X.w) X.A (call (.type "list") [.ref z]) Q X.xe s := by
  have hA := I.ok.hd hc
  refine callType_codes (Q₁ := fun obj s₁ => obj = .ref s.heap.objs.size ∧ s₁ = { s with heap := s.heap.push { cls := .type "list", data := .seq #[] } }) F.called_list (F.typeCall_list_1 _) F.entry_list_init
    (code_list_new _ ⟨rfl, rfl⟩) fun obj s₁ h₁ => ?_
  obtain ⟨rfl, rfl⟩ := h₁
  have hS : (s.heap.push { cls := .type "list", data := .seq #[] }).get? s.heap.objs.size = some { cls := .type "list", data := .seq #[] } := Heap.get?_push_size _ rfl
  have up : ∀ b o, s.heap.get? b = some o → (s.heap.push { cls := .type "list", data := .seq #[] }).get? b = some o := fun b o e => Heap.get?_push_of_some _ e
  have hZ := Z
  obtain ⟨⟨f0, f, hzf, _⟩, hTI, a1, a2, hTO⟩ := hZ
  have l1 : i1 < s.heap.objs.size := hf1 _ S.mem1
  have l2 : i2 < s.heap.objs.size := hf2 _ S.mem2
  have ne : ∀ {b : Addr}, b < s.heap.objs.size → s.heap.objs.size ≠ b := fun h => Nat.ne_of_gt h
  refine ⟨⟨_, hS, rfl⟩, F.args_list_init_2 _ _, init_zip (A := X.A.in1) (s := { s with heap := s.heap.push { cls := .type "list", data := .seq #[] } }) (Z.keep fun b _ o e => up b o e) (ne (Heap.lt_size hzf)) (ne (Heap.lt_size hTI)) (ne (Heap.lt_size hTO)) hS fun h' c' k hsz hL => ?_⟩
  have kk : ∀ b o, s.heap.get? b = some o → h'.get? b = some o := fun b o e => k b o (Nat.ne_of_lt (Heap.lt_size e)) (up b o e)
  have I2 : L2.Inv X pins σ H { s with heap := h' } := I.kept (t' := s.toks) kk
  have hfL : FpOk X pins H s.heap.objs.size := I.fpOk (Nat.le_refl _) (I.hok.fresh (Nat.le_refl _))
  refine zip_loop (X := X) (A := X.A.in1) (pins := pins) (σ := σ) (H0 := H) S (D1 _ hA) (D2 _ hA) (fun hm => Nat.lt_irrefl _ (hf1 _ hm)) (fun hm => Nat.lt_irrefl _ (hf2 _ hm)) (ne (Heap.lt_size hzf)) (ne (Heap.lt_size hTI)) (ne (Heap.lt_size hTO)) (ne l1) (ne l2) .none hx hy hn hxl hyl ?_
    n 0 { s with heap := h' } H #[] c' [] rfl rfl (Nat.zero_le _) I2 (fun b hb => ?_) (Z.keep fun b _ o e => kk b o e) ((D1 X.A hA).frame _ _ _ st1 fun b _ o e => kk b o e) ((D2 X.A hA).frame _ _ _ st2 fun b _ o e => kk b o e) hL rfl (by rw [List.take_zero]; exact .nil)
  · intro s' H' Ts' c'' I' hf' hp hL'
    have hfL' := hf' s.heap.objs.size (by simp)
    have hvl : Ts'.length = (xs.zip ys).length := hp.length
    have vals : Vals (Ts'.map V.ref) (Ts'.map Value.ref) := by
      clear hp hL' hvl
      induction Ts' with
      | nil => exact .nil
      | cons t ts ih => exact .cons rfl ih
    refine ⟨rfl, hQ _ H' Ts' s' hp hfL'.1 (adopt I' hfL' ⟨?_, Ts'.map Value.ref, c'', vals, hL'⟩)⟩
    rw [List.length_map, hvl, List.length_zip]
    omega
  · have e' : b = s.heap.objs.size ∨ b ∈ [z, TI, TO, i1, i2] := by simpa using hb
    rcases e' with q | q
    · rw [q]; exact hfL
    · exact hf b q
end DL
set_option maxHeartbeats 4000000
namespace DL
open PySem PySem.Spec PyProof.Rows L2

theorem vals_back {xs : List V} {us : List Value} {i : Nat} {u : Value} (h : Vals xs us) (e : us[i]? = some u) : ∃ x, xs[i]? = some x ∧ L2.RelV x u := by
  have hl := h.length
  have hi := (List.getElem?_eq_some_iff.mp e).1
  obtain ⟨u', e', r⟩ := Vals.get h (List.getElem?_eq_getElem (l := xs) (i := i) (by omega))
  rw [e] at e'
  cases e'
  exact ⟨_, List.getElem?_eq_getElem (by omega), r⟩
def tListZip (K : PySem.W.Frag) (ta : TA) : TE := fun σ H Q => ta σ H fun vs H1 => ∃ a b xs ys, vs = [.ref a, .ref b] ∧ ((SqL K H1 a xs ∧ SqL K H1 b ys) ∨ (SqT K H1 a xs ∧ SqT K H1 b ys)) ∧ xs.length = ys.length ∧ ∀ L H2 Ts, PairsN H1 (xs.zip ys) Ts H2 → H2 L = none → Q (.ref L) (upd H2 L (.lst (Ts.map V.ref)))
theorem pe_listZip {X : Cx} {e e2 : Expr} {ta : TA} {p p2 pos pos2 : Pos} (hc : X.calm = true) (hg : Gl X "list") (hm : X.mg "list" = none) (hg2 : Gl X "zip") (hm2 : X.mg "zip" = none) (ha : PA X [e, e2] ta)
    (hs : starEach [e, e2] X.env = (false, eval e X.env) :: starEach [e2] X.env := by rfl) (hpl : (backTo pos2 (starEach [e2] X.env)).any (·.1) = false := by rfl)
    (ho : starEach [.Call (.Name "zip" p2) [e, e2] [] pos2] X.env = (false, eval (.Call (.Name "zip" p2) [e, e2] [] pos2) X.env) :: starEach [] X.env := by rfl) :
    PE X (.Call (.Name "list" p) [.Call (.Name "zip" p2) [e, e2] [] pos2] [] pos) (tListZip X.K ta) := by
  refine ⟨fun pins s σ H Q I h => ?_⟩
  refine Call_ (ld_blt I hg hm boot_list (PyProof.Rows.callWith_type1 (PyProof.Rows.args_cons ?_ ho) ho rfl))
  refine Call_ (ld_blt I hg2 hm2 boot_zip (PyProof.Rows.callWith_type1 (thn (ha.run pos2 pins s σ H _ I h) fun us s1 ⟨vs, H1, I1, r1, q1⟩ => ?_) hs hpl))
  obtain ⟨a, b, xs, ys, ex, hab, hl, q⟩ := q1
  subst ex
  have nmem : ∀ {N a c : Nat}, a < N → (c : Addr) ∈ ([N, a] : List Addr) → c < N + 5 := fun h hm => by
    rcases List.mem_cons.mp hm with z | z
    · rw [z]; omega
    · rw [List.mem_singleton.mp z]; omega
  have nmem1 : ∀ {N a c : Nat}, a < N → (c : Addr) ∈ ([N + 1, a] : List Addr) → c < N + 5 := fun h hm => by
    rcases List.mem_cons.mp hm with z | z
    · rw [z]; omega
    · rw [List.mem_singleton.mp z]; omega
  have fresh5 : ∀ c, c ∈ [s1.heap.objs.size + 4, s1.heap.objs.size + 2, s1.heap.objs.size + 3, s1.heap.objs.size, s1.heap.objs.size + 1] → FpOk X pins H1 c := fun c hcm => by
    have e' : c = s1.heap.objs.size + 4 ∨ c = s1.heap.objs.size + 2 ∨ c = s1.heap.objs.size + 3 ∨ c = s1.heap.objs.size ∨ c = s1.heap.objs.size + 1 := by simpa using hcm
    have hle : s1.heap.objs.size ≤ c := by
      rcases e' with z | z | z | z | z
      · rw [z]; exact Nat.le_add_right _ _
      · rw [z]; exact Nat.le_add_right _ _
      · rw [z]; exact Nat.le_add_right _ _
      · rw [z]; exact Nat.le_refl _
      · rw [z]; exact Nat.le_add_right _ _
    exact I1.fpOk hle (I1.hok.fresh hle)
  cases r1 with
  | cons r rr =>
    cases rr with
    | cons r' rr =>
      cases rr
      cases r
      cases r'
      rcases hab with ⟨hqx, hqy⟩ | ⟨hqx, hqy⟩
      · obtain ⟨its, rv, p1, z1⟩ := I1.list hqx
        obtain ⟨its2, rv2, p2, z2⟩ := I1.list hqy
        have m1 := rv.length
        have m2 := rv2.length
        refine call_zip_2 p1.isList p2.isList fun h' hz hTI hTO h1 h2 hsz hk => ?_
        have I2 : Inv X pins σ H1 { s1 with heap := h' } := I1.kept (t' := s1.toks) hk
        have D1 : ∀ A : Around, A.handled = none → Draws X.prog X.w A s1.heap.objs.size [s1.heap.objs.size, a] its.toArray.size (fun i v => its.toArray[i]? = some v) (fun i h => h.IsListIter s1.heap.objs.size a i ∧ h.IsList a its.toArray) := fun A hA => Draws.list hA _ a (Nat.ne_of_lt p1.lt) its.toArray
        have D2 : ∀ A : Around, A.handled = none → Draws X.prog X.w A (s1.heap.objs.size + 1) [s1.heap.objs.size + 1, b] its.toArray.size (fun i v => its2.toArray[i]? = some v) (fun i h => h.IsListIter (s1.heap.objs.size + 1) b i ∧ h.IsList b its2.toArray) := fun A hA => by
          rw [show its.toArray.size = its2.toArray.size from by simp; omega]
          exact Draws.list hA (s1.heap.objs.size + 1) b (Nat.ne_of_lt (Nat.lt_succ_of_lt p2.lt)) its2.toArray
        refine PyProof.Rows.args_nil (call_list_zip hc I2 (n := its.toArray.size) ⟨⟨.none, false, hz, .inl rfl⟩, hTI, _, _, hTO⟩ (sep_new s1.heap.objs.size a b p1.lt p2.lt) D1 D2 ⟨h1, p1.isList.at fun o e => hk _ o e⟩ ⟨h2, p2.isList.at fun o e => hk _ o e⟩ (fun c hcm => by rw [hsz]; exact nmem p1.lt hcm) (fun c hcm => by rw [hsz]; exact nmem1 p2.lt hcm) fresh5 (xs := xs) (ys := ys)
          (fun i u hu => ?_) (fun i u hu => ?_) (by simp; omega) (by simp; omega) (by simp; omega) fun L H' Ts s' hp hL I' => ⟨.ref L, _, I', rfl, q L H' Ts hp hL⟩)
        · have hu' : its[i]? = some u := by simpa using hu
          exact vals_back rv hu'
        · have hu' : its2[i]? = some u := by simpa using hu
          exact vals_back rv2 hu'
      · obtain ⟨its, rv, p1, z1⟩ := I1.tuple hqx
        obtain ⟨its2, rv2, p2, z2⟩ := I1.tuple hqy
        have m1 := rv.length
        have m2 := rv2.length
        have la : a < s1.heap.objs.size := by obtain ⟨o1, ho1, _⟩ := id p1; exact Heap.lt_size ho1
        have lb : b < s1.heap.objs.size := by obtain ⟨o1, ho1, _⟩ := id p2; exact Heap.lt_size ho1
        have p1' : s1.heap.IsTuple a its.toArray := p1
        have p2' : s1.heap.IsTuple b its2.toArray := p2
        refine RZ.call_zipT p1' p2' fun h' hz hTI hTO h1 h2 hsz hk => ?_
        have I2 : Inv X pins σ H1 { s1 with heap := h' } := I1.kept (t' := s1.toks) hk
        have D1 : ∀ A : Around, A.handled = none → Draws X.prog X.w A s1.heap.objs.size [s1.heap.objs.size, a] its.toArray.size (fun i v => its.toArray[i]? = some v) (fun i h => h.IsTupleIter s1.heap.objs.size a i ∧ h.IsTuple a its.toArray) := fun A hA => Draws.tuple hA _ a (Nat.ne_of_lt la) its.toArray
        have D2 : ∀ A : Around, A.handled = none → Draws X.prog X.w A (s1.heap.objs.size + 1) [s1.heap.objs.size + 1, b] its.toArray.size (fun i v => its2.toArray[i]? = some v) (fun i h => h.IsTupleIter (s1.heap.objs.size + 1) b i ∧ h.IsTuple b its2.toArray) := fun A hA => by
          rw [show its.toArray.size = its2.toArray.size from by simp; omega]
          exact Draws.tuple hA (s1.heap.objs.size + 1) b (Nat.ne_of_lt (Nat.lt_succ_of_lt lb)) its2.toArray
        refine PyProof.Rows.args_nil (call_list_zip hc I2 (n := its.toArray.size) ⟨⟨.none, false, hz, .inl rfl⟩, hTI, _, _, hTO⟩ (sep_new s1.heap.objs.size a b la lb) D1 D2 ⟨h1, p1'.at fun o e => hk _ o e⟩ ⟨h2, p2'.at fun o e => hk _ o e⟩ (fun c hcm => by rw [hsz]; exact nmem la hcm) (fun c hcm => by rw [hsz]; exact nmem1 lb hcm) fresh5 (xs := xs) (ys := ys)
          (fun i u hu => ?_) (fun i u hu => ?_) (by simp; omega) (by simp; omega) (by simp; omega) fun L H' Ts s' hp hL I' => ⟨.ref L, _, I', rfl, q L H' Ts hp hL⟩)
        · have hu' : its[i]? = some u := by simpa using hu
          exact vals_back rv hu'
        · have hu' : its2[i]? = some u := by simpa using hu
          exact vals_back rv2 hu'
end DL
set_option maxHeartbeats 4000000
namespace DL
open PySem PySem.Spec PyProof.Rows L2

/-! ### the data of enumerate and zip -/
def itEnum (ds : List D) : DIt := fun i _ => some (match ds[i]? with
  | some d => some (.tup [.int (i : Nat), d])
  | none => none)
def diEnum (da : DA) : DI := fun ρ M => bnd (da ρ M) fun ds M1 => match ds with
  | [.tup xs] => some (.ok (itEnum xs) M1)
  | _ => none
theorem sim_ite {K : PySem.W.Frag} {ι : List Addr} {H : Hp} {a : Addr} {xs : List V} {ds : List D} (hx : SqT K H a xs) (hv : DVs K ι H ds xs) : SimIt K ι H (IteT K a) (itEnum ds) := by
  intro ι1 M H1 i e R
  have hx1 := e.tups a xs hx
  have hv1 := DVs.mono e _ _ hv
  refine ⟨fun d hd => ?_, fun hd => ?_⟩
  · cases hq : ds[i]? with
    | none => simp only [itEnum, hq] at hd; cases hd
    | some d0 =>
      simp only [itEnum, hq, Option.some.injEq] at hd
      subst hd
      obtain ⟨v, h1, h2⟩ := DVs.get hv1 hq
      refine ⟨⟨xs, v, hx1, h1⟩, fun x H2 hy => ?_⟩
      obtain ⟨T, y, rfl, hT, rfl, hy⟩ := hy
      have e1 := hy xs hx1
      rw [h1] at e1
      cases e1
      obtain ⟨R2, e2, V2⟩ := R.newT (ds := [.int (i : Nat), d0]) (xs := [.int (i : Nat), v]) hT ⟨.int (i : Nat), [v], rfl, rfl, v, [], rfl, h2, rfl⟩
      exact ⟨ι1, e2, R2, V2⟩
  · cases hq : ds[i]? with
    | some d0 => simp only [itEnum, hq] at hd; cases hd
    | none =>
      refine ⟨xs, hx1, ?_⟩
      rw [DVs.length hv1]
      exact List.getElem?_eq_none_iff.mp hq
def itEnumZ (ds es : List D) : DIt := fun i _ => if i < ds.length ∧ i < es.length then some (match ds[i]?, es[i]? with
  | some d, some e => some (.tup [.int (i : Nat), .tup [d, e]])
  | _, _ => none) else if i ≤ ds.length ∧ i ≤ es.length then some none else none
def diEnumZip (da : DA) : DI := fun ρ M => bnd (da ρ M) fun ds M1 => match ds with
  | [.tup xs, .tup ys] => some (.ok (itEnumZ xs ys) M1)
  | _ => none
theorem sim_itz {K : PySem.W.Frag} {ι : List Addr} {H : Hp} {a b : Addr} {xs ys : List V} {ds es : List D} (hx : SqT K H a xs) (hv : DVs K ι H ds xs) (hy : SqT K H b ys) (hw : DVs K ι H es ys) : SimIt K ι H (IteZ K a b) (itEnumZ ds es) := by
  intro ι1 M H1 i e R
  have hx1 := e.tups a xs hx
  have hv1 := DVs.mono e _ _ hv
  have hy1 := e.tups b ys hy
  have hw1 := DVs.mono e _ _ hw
  have l1 := DVs.length hv1
  have l2 := DVs.length hw1
  refine ⟨fun d hd => ?_, fun hd => ?_⟩
  · unfold itEnumZ at hd
    split at hd
    · rename_i hi
      rw [List.getElem?_eq_getElem hi.1, List.getElem?_eq_getElem hi.2] at hd
      simp only [Option.some.injEq] at hd
      subst hd
      obtain ⟨v, h1, h2⟩ := DVs.get hv1 (List.getElem?_eq_getElem hi.1)
      obtain ⟨u, h3, h4⟩ := DVs.get hw1 (List.getElem?_eq_getElem hi.2)
      refine ⟨⟨xs, ys, v, u, hx1, hy1, h1, h3⟩, fun x H2 hyy => ?_⟩
      obtain ⟨T, T2, p, q, rfl, hT2, hT, rfl, f1, f2⟩ := hyy
      have e1 := f1 xs hx1
      rw [h1] at e1
      cases e1
      have e2 := f2 ys hy1
      rw [h3] at e2
      cases e2
      obtain ⟨R2, x2, V2⟩ := R.newT (ds := [ds[i], es[i]]) (xs := [v, u]) hT2 ⟨v, [u], rfl, h2, u, [], rfl, h4, rfl⟩
      obtain ⟨R3, x3, V3⟩ := R2.newT (ds := [.int (i : Nat), .tup [ds[i], es[i]]]) (xs := [.int (i : Nat), .ref T2]) hT ⟨.int (i : Nat), [.ref T2], rfl, rfl, .ref T2, [], rfl, V2, rfl⟩
      exact ⟨ι1, x2.trans x3, R3, V3⟩
    · split at hd
      · cases hd
      · cases hd
  · unfold itEnumZ at hd
    split at hd
    · rename_i hi
      rw [List.getElem?_eq_getElem hi.1, List.getElem?_eq_getElem hi.2] at hd
      cases hd
    · split at hd
      · rename_i h1 h2
        exact ⟨xs, ys, hx1, hy1, by omega, by omega, by omega⟩
      · cases hd
section
variable {X : Cx} {E : XW} {da : DA} {p p2 pos pos2 tpos : Pos} {e e2 : Expr} {elts : List Expr} {kk : Nat}
theorem pid_enum (hm : X.mg "enumerate" = none) (ha : PAD X E [e] da) (hg : Gl X "enumerate" := by rfl) (hs : starEach [e] X.env = [(false, eval e X.env)] := by rfl) : PID X E (.Tuple elts kk tpos) (.Call (.Name "enumerate" p) [e] [] pos) (diEnum da) :=
  PI.imp (pi_enumT hg hm ha hs) fun σ H Q ⟨ι, ρ, M, r, R, S, h, g⟩ => UA.go R S h g.2 fun ds M1 _ h1 ι1 xs H1 e1 R1 V1 S1 gx1 => by
    split at h1
    · rename_i ws
      cases h1
      obtain ⟨v, rfl, hv⟩ := DVs.one V1
      obtain ⟨a, zs, rfl, hz, hw⟩ := hv
      exact ⟨a, zs, rfl, hz, g.step e1 R1 (sim_ite hz hw)⟩
    · cases h1
theorem pid_enumZip (hm : X.mg "enumerate" = none) (hm2 : X.mg "zip" = none) (ha : PAD X E [e, e2] da) (hg : Gl X "enumerate" := by rfl) (hg2 : Gl X "zip" := by rfl)
    (hs : starEach [e, e2] X.env = (false, eval e X.env) :: starEach [e2] X.env := by rfl) (hpl : (backTo pos2 (starEach [e2] X.env)).any (·.1) = false := by rfl)
    (ho : starEach [.Call (.Name "zip" p2) [e, e2] [] pos2] X.env = (false, eval (.Call (.Name "zip" p2) [e, e2] [] pos2) X.env) :: starEach [] X.env := by rfl) :
    PID X E (.Tuple elts kk tpos) (.Call (.Name "enumerate" p) [.Call (.Name "zip" p2) [e, e2] [] pos2] [] pos) (diEnumZip da) :=
  PI.imp (pi_enumZ hg hm hg2 hm2 ha hs hpl ho) fun σ H Q ⟨ι, ρ, M, r, R, S, h, g⟩ => UA.go R S h g.2 fun ds M1 _ h1 ι1 xs H1 e1 R1 V1 S1 gx1 => by
    split at h1
    · rename_i ws us
      cases h1
      obtain ⟨v, w, rfl, hv, hw⟩ := DVs.two V1
      obtain ⟨a, zs, rfl, hz, hzs⟩ := hv
      obtain ⟨b, ys, rfl, hy, hys⟩ := hw
      exact ⟨a, b, zs, ys, rfl, hz, hy, g.step e1 R1 (sim_itz hz hzs hy hys)⟩
    · cases h1
/-- list(zip(a, b)), both of one length -/
def zipD (xs ys : List D) : List D := (xs.zip ys).map fun p => .tup [p.1, p.2]
def dListZip (da : DA) : DE := fun ρ M => bnd (da ρ M) fun ds M1 => match ds with
  | [x, y] => (match x, y with
    | .tup xs, .tup ys => if xs.length = ys.length then some (.ok (.obj M1.length) (M1 ++ [.lst (zipD xs ys)])) else none
    | .obj n, .obj m => (match M1[n]?, M1[m]? with
      | some (.lst xs), some (.lst ys) => if xs.length = ys.length then some (.ok (.obj M1.length) (M1 ++ [.lst (zipD xs ys)])) else none
      | _, _ => none)
    | _, _ => none)
  | _ => none
theorem pairs_rep {K : PySem.W.Frag} {ι : List Addr} {M : Sto} {H0 H : Hp} {ps : List (V × V)} {Ts : List Addr} (h : PairsN H0 ps Ts H) (R : Rep K ι M H0) {ds es : List D} {xs ys : List V} (hv : DVs K ι H0 ds xs) (hw : DVs K ι H0 es ys) :
    ∀ n, ps = (xs.zip ys).take n → Rep K ι M H ∧ Ext K ι H0 ι H ∧ DVs K ι H ((zipD ds es).take n) (Ts.map V.ref) := by
  induction h with
  | nil =>
    intro n hn
    refine ⟨R, Ext.refl, ?_⟩
    have l1 := DVs.length hv
    have l2 := DVs.length hw
    have h0 : ((zipD ds es).take n).length = 0 := by
      have := congrArg List.length hn
      simp only [List.length_nil, List.length_take, List.length_zip] at this
      simp only [zipD, List.length_take, List.length_map, List.length_zip]
      omega
    rw [List.length_eq_zero_iff.mp h0]
    rfl
  | @snoc ps Ts H x y T h hT ih =>
    intro n hn
    have hn1 : ps = (xs.zip ys).take (ps.length) := by
      have := congrArg (List.take ps.length) hn
      rw [List.take_left] at this
      rw [List.take_take] at this
      have hl := congrArg List.length hn
      simp only [List.length_append, List.length_singleton, List.length_take] at hl
      rw [show min ps.length n = ps.length from by omega] at this
      exact this
    obtain ⟨R1, e1, V1⟩ := ih ps.length hn1
    have hl := congrArg List.length hn
    simp only [List.length_append, List.length_singleton, List.length_take] at hl
    have hxy : (xs.zip ys)[ps.length]? = some (x, y) := by
      have h2 := congrArg (fun l => l[ps.length]?) hn
      simp only [List.getElem?_append_right (Nat.le_refl _), Nat.sub_self, List.getElem?_cons_zero] at h2
      rw [List.getElem?_take_of_lt (by omega)] at h2
      exact h2.symm
    obtain ⟨hx, hy⟩ := List.getElem?_zip_eq_some.mp hxy
    have l1 := DVs.length hv
    have l2 := DVs.length hw
    have hi1 : ps.length < ds.length := by have := (List.getElem?_eq_some_iff.mp hx).1; omega
    have hi2 : ps.length < es.length := by have := (List.getElem?_eq_some_iff.mp hy).1; omega
    obtain ⟨v, h1, h2⟩ := DVs.get hv (List.getElem?_eq_getElem hi1)
    obtain ⟨u, h3, h4⟩ := DVs.get hw (List.getElem?_eq_getElem hi2)
    rw [hx] at h1
    cases h1
    rw [hy] at h3
    cases h3
    obtain ⟨R2, e2, V2⟩ := R1.newT (ds := [ds[ps.length], es[ps.length]]) (xs := [x, y]) hT ⟨x, [y], rfl, DV.mono e1 _ _ h2, y, [], rfl, DV.mono e1 _ _ h4, rfl⟩
    refine ⟨R2, e1.trans e2, ?_⟩
    have hz : (zipD ds es).take n = (zipD ds es).take ps.length ++ [.tup [ds[ps.length], es[ps.length]]] := by
      have hlz : (zipD ds es).length = min ds.length es.length := by simp [zipD]
      have h5 : (zipD ds es)[ps.length]? = some (.tup [ds[ps.length], es[ps.length]]) := by
        unfold zipD
        have h7 : (ds.zip es)[ps.length]? = some (ds[ps.length], es[ps.length]) := List.getElem?_zip_eq_some.mpr ⟨List.getElem?_eq_getElem hi1, List.getElem?_eq_getElem hi2⟩
        rw [List.getElem?_map, h7]
        rfl
      have h6 : (zipD ds es).take n = (zipD ds es).take (ps.length + 1) := by
        by_cases hc : n = ps.length + 1
        · rw [hc]
        · rw [List.take_of_length_le (by rw [hlz]; simp only [List.length_zip] at hl; omega), List.take_of_length_le (by rw [hlz]; simp only [List.length_zip] at hl; omega)]
      rw [h6, List.take_add_one, h5]
      rfl
    rw [hz, List.map_append]
    exact (DVs.mono e2 _ _ V1).append ⟨.ref T, [], rfl, V2, rfl⟩
theorem ped_listZip (hc : X.calm = true) (hm : X.mg "list" = none) (hm2 : X.mg "zip" = none) (ha : PAD X E [e, e2] da) (hg : Gl X "list" := by rfl) (hg2 : Gl X "zip" := by rfl)
    (hs : starEach [e, e2] X.env = (false, eval e X.env) :: starEach [e2] X.env := by rfl) (hpl : (backTo pos2 (starEach [e2] X.env)).any (·.1) = false := by rfl)
    (ho : starEach [.Call (.Name "zip" p2) [e, e2] [] pos2] X.env = (false, eval (.Call (.Name "zip" p2) [e, e2] [] pos2) X.env) :: starEach [] X.env := by rfl) :
    PED X E (.Call (.Name "list" p) [.Call (.Name "zip" p2) [e, e2] [] pos2] [] pos) (dListZip da) :=
  PE.imp (pe_listZip hc hg hm hg2 hm2 ha hs hpl ho) fun σ H Q ⟨ι, ρ, M, r, R, S, h, g⟩ => UA.go R S h g.2 fun ds M1 _ h1 ι1 xs H1 e1 R1 V1 S1 gx1 => by
    split at h1
    · rename_i x y
      obtain ⟨v, w, rfl, hv, hw⟩ := DVs.two V1
      have key : ∀ (ws us : List D) (zs ts : List V), DVs X.K ι1 H1 ws zs → DVs X.K ι1 H1 us ts → ws.length = us.length → r = .ok (.obj M1.length) (M1 ++ [.lst (zipD ws us)]) → ∀ L H2 Ts, PairsN H1 (zs.zip ts) Ts H2 → H2 L = none → Q (.ref L) (upd H2 L (.lst (Ts.map V.ref))) := fun ws us zs ts hzs hts hl hr L H2 Ts hp hL => by
        subst hr
        obtain ⟨R2, e2, V2⟩ := pairs_rep hp R1 hzs hts (zs.zip ts).length (List.take_length).symm
        have hlz : (zipD ws us).length = (zs.zip ts).length := by rw [List.length_zip, DVs.length hzs, DVs.length hts]; simp [zipD]
        rw [List.take_of_length_le (Nat.le_of_eq hlz)] at V2
        obtain ⟨R3, e3, V3⟩ := R2.newL hL V2
        exact g.step ((e1.trans e2).trans e3) R3 V3
      split at h1
      · rename_i ws us
        split at h1
        · rename_i hl
          cases h1
          obtain ⟨a, zs, rfl, hz, hzs⟩ := hv
          obtain ⟨b, ts, rfl, ht, hts⟩ := hw
          exact ⟨a, b, zs, ts, rfl, .inr ⟨hz, ht⟩, by rw [DVs.length hzs, DVs.length hts]; exact hl, key ws us zs ts hzs hts hl rfl⟩
        · cases h1
      · rename_i n m
        split at h1
        · rename_i ws us hn hm
          split at h1
          · rename_i hl
            cases h1
            obtain ⟨a, rfl, han⟩ := hv
            obtain ⟨b, rfl, hbm⟩ := hw
            obtain ⟨zs, hz, hzs⟩ := R1.lst han hn
            obtain ⟨ts, ht, hts⟩ := R1.lst hbm hm
            exact ⟨a, b, zs, ts, rfl, .inl ⟨SqL.of hz, SqL.of ht⟩, by rw [DVs.length hzs, DVs.length hts]; exact hl, key ws us zs ts hzs hts hl rfl⟩
          · cases h1
        · cases h1
      · cases h1
    · cases h1
end
end DL
set_option maxHeartbeats 4000000
namespace DL
open PySem PySem.Spec PyProof.Rows L2

/-! ### a dict of the module with int keys, its values None or bools -/
def codeV : Value → Option Nat
  | .none => some 0
  | .bool false => some 1
  | .bool true => some 2
  | _ => none
def cD : Nat → D
  | 0 => .non
  | 1 => .bl false
  | _ => .bl true
def cV : Nat → V
  | 0 => .non
  | 1 => .bl false
  | _ => .bl true
def keyI (e : DictEntry) : Option (Int × Int × Nat) := match e.key, codeV e.val with
  | .int i _, some c => some (i, e.hash, c)
  | _, _ => none
def keysI (l : List (Int × Nat)) : List (Option (Int × Int × Nat)) := l.map fun p => some (p.1, hashInt p.1, p.2)
def dicI (K : PySem.W.Frag) (a : Addr) : Option (List (Option (Int × Int × Nat))) := match K.lookup a with
  | some ⟨.type c, none, .dict es _, sl⟩ => (match decide (c = "dict") && (sl.isEmpty && !(a == sysModules)) with
    | true => some (es.toList.map keyI)
    | false => none)
  | _ => none
structure KDictI (K : PySem.W.Frag) (d : Addr) (l : List (Int × Nat)) : Prop where
  at_ : ∃ es n, K.lookup d = some ⟨.type "dict", none, .dict es n, #[]⟩ ∧ es.toList.map keyI = keysI l
  low : (d == sysModules) = false
theorem dicI_ok {K : PySem.W.Frag} {a : Addr} {l : List (Int × Nat)} (h : dicI K a = some (keysI l)) : KDictI K a l := by
  unfold dicI at h
  cases q : K.lookup a with
  | none => rw [q] at h; cases h
  | some o =>
    obtain ⟨oc, od, dt, osl⟩ := o
    rw [q] at h
    cases oc with
    | type c =>
      cases od with
      | none =>
        cases dt with
        | dict es n =>
          have h1 : (match decide (c = "dict") && (osl.isEmpty && !(a == sysModules)) with
            | true => some (es.toList.map keyI)
            | false => none) = some (keysI l) := h
          cases z : decide (c = "dict") && (osl.isEmpty && !(a == sysModules)) with
          | false => rw [z] at h1; cases h1
          | true =>
            rw [z] at h1
            rw [Bool.and_eq_true, Bool.and_eq_true, Bool.not_eq_true'] at z
            obtain ⟨z1, z3, z4⟩ := z
            have e1 : c = "dict" := of_decide_eq_true z1
            have e2 : osl = #[] := Array.isEmpty_iff.mp z3
            subst e1 e2
            exact ⟨⟨es, n, q, Option.some.inj h1⟩, z4⟩
        | _ => cases h
      | some b => cases dt <;> cases h
    | _ => cases od <;> cases dt <;> cases h
theorem keyI_some {e : DictEntry} {i h : Int} {c : Nat} (q : keyI e = some (i, h, c)) : (∃ t, e.key = .int i t) ∧ e.hash = h ∧ codeV e.val = some c := by
  unfold keyI at q
  split at q
  · rename_i i' t c' hk hc
    cases q
    exact ⟨⟨t, hk⟩, rfl, hc⟩
  · cases q
theorem keysI_all : ∀ {es : List DictEntry} {l : List (Int × Nat)}, es.map keyI = keysI l → ∀ e ∈ es, ∃ i c, keyI e = some (i, hashInt i, c)
  | [], _, _, e, he => by cases he
  | e :: es, [], h, _, _ => by cases h
  | e :: es, p :: l, h, e', he => by
    have h1 : keyI e :: es.map keyI = some (p.1, hashInt p.1, p.2) :: keysI l := h
    injection h1 with h2 h3
    rcases List.mem_cons.mp he with rfl | he
    · exact ⟨_, _, h2⟩
    · exact keysI_all h3 e' he
theorem findI : ∀ {es : List DictEntry} {l : List (Int × Nat)}, es.map keyI = keysI l → ∀ i, ((es.find? fun e => Value.isInt i e.key).map (·.val)).map codeV = (l.lookup i).map some
  | [], [], _, i => rfl
  | [], _ :: _, h, _ => by cases h
  | e :: es, [], h, _ => by cases h
  | e :: es, p :: l, h, i => by
    have h1 : keyI e :: es.map keyI = some (p.1, hashInt p.1, p.2) :: keysI l := h
    injection h1 with h2 h3
    obtain ⟨⟨t, hk⟩, hh, hc⟩ := keyI_some h2
    obtain ⟨k, c⟩ := p
    have hb : Value.isInt i e.key = (k == i) := by rw [hk]; rfl
    by_cases hi : k = i
    · subst hi
      rw [List.find?_cons_of_pos (by rw [hb]; exact beq_self_eq_true _), List.lookup_cons_self]
      exact congrArg some hc
    · rw [List.find?_cons_of_neg (by rw [hb]; simpa using hi), List.lookup_cons, show (i == k) = false from by simpa using fun q => hi q.symm]
      exact findI h3 i
theorem KDictI.map {K : PySem.W.Frag} {d : Addr} {l : List (Int × Nat)} (D : KDictI K d l) (prog : Program) (w : World) {h : Heap} (X : K.In h) : ∃ f, h.MapOf (PySem.intKind prog w) d f ∧ ∀ i, (f i).map codeV = (l.lookup i).map some := by
  obtain ⟨es, n, hl, hk⟩ := D.at_
  refine ⟨fun i => findBy Value.isInt es i, ⟨_, es, n, X _ _ hl, ⟨rfl, rfl, rfl⟩, rfl, fun e he => ?_, fun _ => rfl⟩, fun i => ?_⟩
  · obtain ⟨i, c, q⟩ := keysI_all hk e (Array.mem_toList_iff.mpr he)
    obtain ⟨⟨t, hk'⟩, hh, _⟩ := keyI_some q
    exact ⟨i, by rw [hk']; exact beq_self_eq_true _, hh⟩
  · have := findI hk i
    obtain ⟨es⟩ := es
    have e : findBy Value.isInt es.toArray i = (es.find? fun e => Value.isInt i e.key).map (·.val) := by
      unfold findBy
      rw [List.find?_toArray]
    show Option.map codeV (findBy Value.isInt es.toArray i) = _
    rw [e]
    exact this
theorem relC {u : Value} {c : Nat} (h : codeV u = some c) : L2.RelV (cV c) u ∧ ∀ K ι H, DV K ι H (cD c) (cV c) := by
  unfold codeV at h
  split at h <;> cases h <;> exact ⟨rfl, fun _ _ _ => rfl⟩
def dInK (l : List (Int × Nat)) (de : DE) : DE := fun ρ M => bnd (de ρ M) fun d M1 => match d with
  | .int i => some (.ok (.bl (l.lookup i).isSome) M1)
  | _ => none
def dGetK (l : List (Int × Nat)) (de : DE) : DE := fun ρ M => bnd (de ρ M) fun d M1 => match d with
  | .int i => (match l.lookup i with
    | some c => some (.ok (cD c) M1)
    | none => none)
  | _ => none
section
variable {X : Cx} {E : XW} {d : Addr} {l : List (Int × Nat)}
theorem op_in_ki (Dk : KDictI X.K d l) : OpR X (compareOp .In) (fun x y H Q => ∃ i : Int, x = .int i ∧ y = .ref d ∧ Q (.bl (l.lookup i).isSome) H) := by
  intro pins s σ H x y v u Q I rx ry h
  obtain ⟨i, rfl, rfl, q⟩ := h
  obtain ⟨t, rfl⟩ := rx
  cases ry
  obtain ⟨f, hm, hf⟩ := Dk.map X.prog X.w I.kIn
  refine wpAny_in_of (k := i) (show Value.isInt i (.int i t) = true from beq_self_eq_true i) Dk.low hm ?_
  have e : (f i).isSome = (l.lookup i).isSome := by
    have := congrArg Option.isSome (hf i)
    simpa using this
  rw [e]
  exact ⟨.bl (l.lookup i).isSome, H, I.tok _, rfl, q⟩
theorem ix_ki (Dk : KDictI X.K d l) : IxR X (fun x y H Q => ∃ (i : Int) (c : Nat), x = .ref d ∧ y = .int i ∧ l.lookup i = some c ∧ Q (cV c) H) := by
  intro value slice pins s σ H x y v u Q I rx ry h hs
  obtain ⟨i, c, rfl, rfl, e, q⟩ := h
  cases rx
  obtain ⟨t, rfl⟩ := ry
  obtain ⟨f, hm, hf⟩ := Dk.map X.prog X.w I.kIn
  have e2 := hf i
  rw [e] at e2
  cases hq : f i with
  | none => rw [hq] at e2; cases e2
  | some w0 =>
    rw [hq] at e2
    have e3 : codeV w0 = some c := Option.some.inj e2
    exact tail_any hm.typeIs slot_dict_getitem.lookup (wpAny_getItem_of (k := i) (show Value.isInt i (.int i t) = true from beq_self_eq_true i) hm hq ⟨cV c, H, I.tok _, (relC e3).1, q⟩) hs
variable {x : Str} {p pos : Pos} {a : Expr} {da : DE}
theorem ped_inK (hm : X.mg x = some (.ref d)) (Dk : KDictI X.K d l) (ha : PED X E a da) (hg : Gl X x := by rfl) (hd : (x == ("__debug__" : Str)) = false := by decide) (hb : behindInMarks .In (.Name x p) = false := by first | exact nobehind _ (by decide) (by decide) | rfl) : PED X E (.Compare a [.In] [.Name x p] pos) (dInK l da) :=
  PE.imp (pe_cmpR (op_in_ki Dk) ha (pe_glob hg hm (v := .ref d) rfl hd) hb) fun σ H Q ⟨ι, ρ, M, r, R, S, h, g⟩ => UE.go R S h g.2 fun z M1 _ h1 ι1 v H1 e1 R1 V1 S1 gx1 => by
    cases z with
    | int i =>
      cases h1
      rw [show v = _ from V1]
      exact ⟨i, rfl, rfl, g.step e1 R1 rfl⟩
    | _ => cases h1
theorem ptd_inK (hm : X.mg x = some (.ref d)) (Dk : KDictI X.K d l) (ha : PED X E a da) (hg : Gl X x := by rfl) (hd : (x == ("__debug__" : Str)) = false := by decide) (hb : behindInMarks .In (.Name x p) = false := by first | exact nobehind _ (by decide) (by decide) | rfl) : PTD X E (.Compare a [.In] [.Name x p] pos) (dTest (dInK l da)) := by
  refine PT.imp (pt_cmpR (op_in_ki Dk) ha (pe_glob hg hm (v := .ref d) rfl hd) hb) fun σ H Q h => ?_
  obtain ⟨ι, ρ, M, r, R, S, h, g⟩ := sim_test σ H Q h
  refine UE.go R S h g.2 fun z M1 _ h1 ι1 v H1 e1 R1 V1 S1 gx1 => ?_
  cases z with
  | int i =>
    cases h1
    rw [show v = _ from V1]
    exact ⟨i, rfl, rfl, g.step e1 R1 rfl⟩
  | _ => cases h1
theorem ped_getK (hm : X.mg x = some (.ref d)) (Dk : KDictI X.K d l) (ha : PED X E a da) (hg : Gl X x := by rfl) (hd : (x == ("__debug__" : Str)) = false := by decide) (hs : PlainIx a := by exact fun _ _ => rfl) : PED X E (.Subscript (.Name x p) a pos) (dGetK l da) :=
  PE.imp (pe_ix (ix_ki Dk) (pe_glob hg hm (v := .ref d) rfl hd) ha hs) fun σ H Q ⟨ι, ρ, M, r, R, S, h, g⟩ => UE.go R S h g.2 fun z M1 _ h1 ι1 v H1 e1 R1 V1 S1 gx1 => by
    cases z with
    | int i =>
      dsimp only at h1
      split at h1
      · rename_i c hc
        cases h1
        rw [show v = _ from V1]
        exact ⟨i, c, rfl, rfl, hc, g.step e1 R1 (by unfold cD cV; split <;> rfl)⟩
      · cases h1
    | _ => cases h1
end

/-! ### o.f as a target among others -/
def gFld (K : PySem.W.Frag) (to : TE) (f : Str) : TG := fun v σ H Q => to σ H fun o H1 => ∃ a C dx fs, o = .ref a ∧ H1 a = some (.ins C dx fs) ∧ Cls K C ∧ NoAttr K C f ∧ fs.length < 1000 ∧ Q σ (upd H1 a (.ins C dx (putF f v fs)))
theorem pg_fld {X : Cx} {o : Expr} {to : TE} {f : Str} {pos : Pos} (ho : PE X o to) : PG X (.Attribute o f pos) (gFld X.K to f) := by
  refine ⟨fun pins s σ H v u Q I r h => ?_⟩
  refine PySem.W.kas_attr (thn (ho.run pins s σ H _ I h) fun ov s1 ⟨x, H1, I1, rx, a, C, dx, fs, ex, ea, c, n, l, q⟩ => ?_)
  subst ex
  obtain rfl : ov = Value.ref a := rx
  exact setattr_ok I1 ea c n l r fun s3 I3 => ⟨σ, _, I3, q⟩
def dgFld (C : Addr) (f : Str) (do_ : DE) : DG := fun d ρ M => match do_ ρ M with
  | some (.ok (.obj n) M1) => (match M1[n]? with
    | some (.ins C' fs) => if C' = C ∧ fs.length < 1000 then some (ρ, M1.set n (.ins C (putD f d fs))) else none
    | _ => none)
  | _ => none
theorem pgd_fld {X : Cx} {o : Expr} {do_ : DE} {f : Str} {C : Addr} {pos : Pos} (c : Cls X.K C) (n : NoAttr X.K C f) (ho : PED X EF o do_) : PGD X (.Attribute o f pos) (dgFld C f do_) := PG.imp (pg_fld ho) fun v σ H Q ⟨ι, ρ, M, d, ρ', M', R, S, V, h, k⟩ => by
  unfold dgFld at h
  split at h
  · rename_i m M1 h1
    split at h
    · rename_i C' fs hm
      split at h
      · rename_i hC
        obtain ⟨rfl, hl⟩ := hC
        cases h
        refine UE.at R S h1 fun ι1 x H1 e1 R1 V1 S1 => ?_
        obtain ⟨a, rfl, ha⟩ := V1
        obtain ⟨dx, vs, hx, ho, hv⟩ := R1.ins ha hm
        have V1' := DV.mono e1 _ _ V
        obtain ⟨R3, e3⟩ := R1.putI ha hx ho (hv.put (f := f) V1')
        exact ⟨a, _, dx, vs, rfl, hx, c, n, by rw [hv.length]; exact hl, k ι1 σ _ (e1.trans e3) R3 (S1.mono e3)⟩
      · cases h
    · cases h
  · cases h
end DL
set_option maxHeartbeats 4000000
namespace DL
open PySem PySem.Spec PyProof.Rows L2

/-! ### promises told by a relation -/
open Classical in
noncomputable def fnR (R : List D → Sto → D → Sto → Prop) : DF := fun ds M => if h : ∃ p : D × Sto, R ds M p.1 p.2 then some (.ok h.choose.1 h.choose.2) else none
theorem fnR_some {R : List D → Sto → D → Sto → Prop} {ds : List D} {M : Sto} {r : Rs D} (h : fnR R ds M = some r) : ∃ d M1, r = .ok d M1 ∧ R ds M d M1 := by
  unfold fnR at h
  split at h
  · rename_i hx
    cases h
    exact ⟨_, _, rfl, hx.choose_spec⟩
  · cases h
def Fun (R : List D → Sto → D → Sto → Prop) : Prop := ∀ ds M d M1 d' M1', R ds M d M1 → R ds M d' M1' → d = d' ∧ M1 = M1'
theorem fnR_eq {R : List D → Sto → D → Sto → Prop} (u : Fun R) {ds : List D} {M M1 : Sto} {d : D} (h : R ds M d M1) : fnR R ds M = some (.ok d M1) := by
  have hx : ∃ p : D × Sto, R ds M p.1 p.2 := ⟨(d, M1), h⟩
  unfold fnR
  rw [dif_pos hx]
  obtain ⟨e1, e2⟩ := u _ _ _ _ _ _ hx.choose_spec h
  rw [e1, e2]
theorem fnR_hF {R : List D → Sto → D → Sto → Prop} {bd : DS} {n : Nat} (h : ∀ ds M d M1, R ds M d M1 → Clo M → D.cls M.length ds → ∃ fl M2, bd (startD n ds) M = some (fl, M2) ∧ Fin M fl M2 d M1) :
    ∀ ds M r, fnR R ds M = some r → Clo M → D.cls M.length ds → ∃ d M1 fl M2, r = .ok d M1 ∧ bd (startD n ds) M = some (fl, M2) ∧ Fin M fl M2 d M1 := by
  intro ds M r hr c1 c2
  obtain ⟨d, M1, rfl, hR⟩ := fnR_some hr
  obtain ⟨fl, M2, h1, h2⟩ := h ds M d M1 hR c1 c2
  exact ⟨d, M1, fl, M2, rfl, h1, h2⟩
theorem Fin.rt {M0 M2 M1 : Sto} {d d2 : D} (h : Cl M0 M2 d2 M1 d) : Fin M0 (.rt d2) M2 d M1 := .inl ⟨d2, rfl, h⟩
theorem Fin.nx {M0 M2 M1 : Sto} {ρ : LE} {d : D} (h : Cl M0 M2 .non M1 d) : Fin M0 (.nx ρ) M2 d M1 := .inr ⟨ρ, rfl, h⟩
/-- what was laid meanwhile is forgotten -/
theorem Fin.cut {M0 g : Sto} {d : D} (c : Clo M0) (cd : D.cl M0.length d) : Fin M0 (.rt d) (M0 ++ g) d M0 := Fin.rt (Cl.cut (Nat.le_refl _) c cd)

/-! ### the youngest objects by number -/
theorem getA {M g : Sto} (j : Nat) : (M ++ g)[M.length + j]? = g[j]? := by rw [List.getElem?_append_right (Nat.le_add_right _ _), Nat.add_sub_cancel_left]
theorem getA0 {M g : Sto} : (M ++ g)[M.length]? = g[0]? := getA 0
theorem setA {M g : Sto} (j : Nat) (y : Ob) : (M ++ g).set (M.length + j) y = M ++ g.set j y := by rw [List.set_append_right _ _ (Nat.le_add_right _ _), Nat.add_sub_cancel_left]
theorem setA0 {M g : Sto} (y : Ob) : (M ++ g).set M.length y = M ++ g.set 0 y := setA 0 y
theorem lenA {M g : Sto} : (M ++ g).length = M.length + g.length := List.length_append
theorem appA {M g h : Sto} : (M ++ g) ++ h = M ++ (g ++ h) := List.append_assoc ..
/-! ### one statement after another -/
section
variable {a b : DS} {ρ ρ1 : LE} {M M1 : Sto}
theorem seq_nx (h : a ρ M = some (.nx ρ1, M1)) : dSeq a b ρ M = b ρ1 M1 := by unfold dSeq; rw [h]
theorem seq_rt {d : D} (h : a ρ M = some (.rt d, M1)) : dSeq a b ρ M = some (.rt d, M1) := by unfold dSeq; rw [h]
theorem seq_ct (h : a ρ M = some (.ct ρ1, M1)) : dSeq a b ρ M = some (.ct ρ1, M1) := by unfold dSeq; rw [h]
theorem seq_bk (h : a ρ M = some (.bk ρ1, M1)) : dSeq a b ρ M = some (.bk ρ1, M1) := by unfold dSeq; rw [h]
theorem set_ok {i : Nat} {de : DE} {d : D} (h : de ρ M = some (Rs.ok d M1)) : dSet i de ρ M = some (.nx (ρ.set i (some d)), M1) := by unfold dSet; rw [h]; rfl
theorem ret_ok {de : DE} {d : D} (h : de ρ M = some (.ok d M1)) : dRet de ρ M = some (.rt d, M1) := by unfold dRet; rw [h]; rfl
theorem drop_ok {de : DE} {d : D} (h : de ρ M = some (.ok d M1)) : dDrop de ρ M = some (.nx ρ, M1) := by unfold dDrop; rw [h]; rfl
theorem if_yes {t : DT} (h : t ρ M = some (.ok true M1)) : dIfS t a b ρ M = a ρ M1 := by unfold dIfS; rw [h]; rfl
theorem if_no {t : DT} (h : t ρ M = some (.ok false M1)) : dIfS t a b ρ M = b ρ M1 := by unfold dIfS; rw [h]; rfl
theorem if_ok {t : DT} {c : Bool} (h : t ρ M = some (.ok c M1)) : dIfS t a b ρ M = if c = true then a ρ M1 else b ρ M1 := by unfold dIfS; rw [h]; rfl
theorem bnd_ok {α β : Type} {x : Option (Rs α)} {a : α} {k : α → Sto → Option (Rs β)} (h : x = some (Rs.ok a M)) : bnd x k = k a M := by rw [h]; rfl
theorem call_ok {F : DF} {da : DA} {ds : List D} {M2 : Sto} {d : D} (h : da ρ M = some (.ok ds M1)) (hF : F ds M1 = some (.ok d M2)) : dCall F da ρ M = some (.ok d M2) := by
  simp only [dCall, bnd, h, hF]
end
/-! ### loops -/
theorem for_rel {it : DIt} {dg : DG} {db : DS} (I : Nat → LE → Sto → Prop) (n : Nat)
    (step : ∀ i ρ M, i < n → I i ρ M → ∃ d ρ1 M1 ρ2 M2, it i M = some (some d) ∧ dg d ρ M = some (ρ1, M1) ∧ (db ρ1 M1 = some (.nx ρ2, M2) ∨ db ρ1 M1 = some (.ct ρ2, M2)) ∧ I (i + 1) ρ2 M2)
    (stop : ∀ ρ M, I n ρ M → it n M = some none) : ∀ (k i : Nat) (ρ : LE) (M : Sto), n - i = k → i ≤ n → I i ρ M → ∃ ρ' M', dForI it dg db i ρ M = some (.nx ρ', M') ∧ I n ρ' M' := by
  intro k
  induction k with
  | zero =>
    intro i ρ M hk hi h
    have e : i = n := by omega
    subst e
    exact ⟨ρ, M, by rw [dForI_eq, stop ρ M h], h⟩
  | succ k ih =>
    intro i ρ M hk hi h
    obtain ⟨d, ρ1, M1, ρ2, M2, h1, h2, h3, h4⟩ := step i ρ M (by omega) h
    obtain ⟨ρ', M', h5, h6⟩ := ih (i + 1) ρ2 M2 (by omega) (by omega) h4
    refine ⟨ρ', M', ?_, h6⟩
    rw [dForI_eq, h1]
    dsimp only
    rw [h2]
    dsimp only
    rcases h3 with h3 | h3 <;> (rw [h3]; exact h5)
theorem for_run {di : DI} {it : DIt} {dg : DG} {db : DS} {ρ : LE} {M : Sto} (hi : di ρ M = some (.ok it M)) (I : Nat → LE → Sto → Prop) (n : Nat) (h0 : I 0 ρ M)
    (step : ∀ i ρ M, i < n → I i ρ M → ∃ d ρ1 M1 ρ2 M2, it i M = some (some d) ∧ dg d ρ M = some (ρ1, M1) ∧ (db ρ1 M1 = some (.nx ρ2, M2) ∨ db ρ1 M1 = some (.ct ρ2, M2)) ∧ I (i + 1) ρ2 M2)
    (stop : ∀ ρ M, I n ρ M → it n M = some none) : ∃ ρ' M', dFor di dg db ρ M = some (.nx ρ', M') ∧ I n ρ' M' := by
  obtain ⟨ρ', M', h1, h2⟩ := for_rel I n step stop n 0 ρ M rfl (Nat.zero_le _) h0
  refine ⟨ρ', M', ?_, h2⟩
  unfold dFor
  rw [hi]
  exact h1
theorem while_rel {t : DT} {db : DS} (I : Nat → LE → Sto → Prop)
    (step : ∀ m ρ M, I m ρ M → (∃ M1, t ρ M = some (.ok false M1) ∧ m = 0 ∧ I 0 ρ M1) ∨ ∃ M1 ρ2 M2 m2, t ρ M = some (.ok true M1) ∧ (db ρ M1 = some (.nx ρ2, M2) ∨ db ρ M1 = some (.ct ρ2, M2)) ∧ m2 < m ∧ I m2 ρ2 M2) :
    ∀ (m : Nat) (ρ : LE) (M : Sto), I m ρ M → ∃ ρ' M', dWhile t db ρ M = some (.nx ρ', M') ∧ I 0 ρ' M' := by
  intro m
  induction m using Nat.strongRecOn with
  | ind m ih =>
    intro ρ M h
    rcases step m ρ M h with ⟨M1, h1, h2, h3⟩ | ⟨M1, ρ2, M2, m2, h1, h2, h3, h4⟩
    · exact ⟨ρ, M1, by rw [dWhile_eq, h1], h3⟩
    · obtain ⟨ρ', M', h5, h6⟩ := ih m2 h3 ρ2 M2 h4
      refine ⟨ρ', M', ?_, h6⟩
      rw [dWhile_eq, h1]
      dsimp only
      rcases h2 with h2 | h2 <;> (rw [h2]; exact h5)
/-- a comprehension whose item changes the store not -/
theorem lc_map {vs : List Nat} {di : DI} {it : DIt} {dg : D → LE → Option LE} {dt : DT} {de : DE} {ρ : LE} {M : Sto} {xs : List D} {f : D → D} (hdi : di ρ M = some (.ok it M)) (hit : ∀ i acc, it i (M ++ [.lst acc]) = some xs[i]?) (hz : xs.length ≤ sizeLine)
    (hs : ∀ x ∈ xs, ∀ acc, ∃ ρ1, dg x (wipeD ρ vs) = some ρ1 ∧ dt ρ1 (M ++ [.lst acc]) = some (.ok true (M ++ [.lst acc])) ∧ de ρ1 (M ++ [.lst acc]) = some (.ok (f x) (M ++ [.lst acc]))) :
    dLc vs di dg dt de ρ M = some (.ok (.obj M.length) (M ++ [.lst (xs.map f)])) := by
  unfold dLc
  rw [hdi]
  show dLcI it dg dt de (wipeD ρ vs) M.length 0 (M ++ [.lst []]) = _
  have key : ∀ (k i : Nat), xs.length - i = k → i ≤ xs.length → dLcI it dg dt de (wipeD ρ vs) M.length i (M ++ [.lst ((xs.take i).map f)]) = some (.ok (.obj M.length) (M ++ [.lst (xs.map f)])) := by
    intro k
    induction k with
    | zero =>
      intro i hk hi
      have e : i = xs.length := by omega
      subst e
      rw [List.take_length]
      exact dLcI_end (by rw [hit]; simp)
    | succ k ih =>
      intro i hk hi
      have hlt : i < xs.length := by omega
      obtain ⟨ρ1, h1, h2, h3⟩ := hs xs[i] (List.getElem_mem hlt) ((xs.take i).map f)
      refine dLcI_yes (d := xs[i]) (y := f xs[i]) (acc := (xs.take i).map f) (by rw [hit, List.getElem?_eq_getElem hlt]) h1 h2 h3 (by simp) (by simp; omega) ?_
      have := ih (i + 1) (by omega) hlt
      rw [List.take_add_one, List.getElem?_eq_getElem hlt, Option.toList_some, List.map_append] at this
      rw [setA0]
      exact this
  exact key xs.length 0 (by omega) (Nat.zero_le _)
/-- .. with a test -/
theorem lc_filter {vs : List Nat} {di : DI} {it : DIt} {dg : D → LE → Option LE} {dt : DT} {de : DE} {ρ : LE} {M : Sto} {xs : List D} {f : D → D} {p : D → Bool} (hdi : di ρ M = some (.ok it M)) (hit : ∀ i acc, it i (M ++ [.lst acc]) = some xs[i]?) (hz : xs.length ≤ sizeLine)
    (hs : ∀ x ∈ xs, ∀ acc, ∃ ρ1, dg x (wipeD ρ vs) = some ρ1 ∧ dt ρ1 (M ++ [.lst acc]) = some (.ok (p x) (M ++ [.lst acc])) ∧ (p x = true → de ρ1 (M ++ [.lst acc]) = some (.ok (f x) (M ++ [.lst acc])))) :
    dLc vs di dg dt de ρ M = some (.ok (.obj M.length) (M ++ [.lst ((xs.filter p).map f)])) := by
  unfold dLc
  rw [hdi]
  show dLcI it dg dt de (wipeD ρ vs) M.length 0 (M ++ [.lst []]) = _
  have key : ∀ (k i : Nat), xs.length - i = k → i ≤ xs.length → dLcI it dg dt de (wipeD ρ vs) M.length i (M ++ [.lst (((xs.take i).filter p).map f)]) = some (.ok (.obj M.length) (M ++ [.lst ((xs.filter p).map f)])) := by
    intro k
    induction k with
    | zero =>
      intro i hk hi
      have e : i = xs.length := by omega
      subst e
      rw [List.take_length]
      exact dLcI_end (by rw [hit]; simp)
    | succ k ih =>
      intro i hk hi
      have hlt : i < xs.length := by omega
      obtain ⟨ρ1, h1, h2, h3⟩ := hs xs[i] (List.getElem_mem hlt) (((xs.take i).filter p).map f)
      have := ih (i + 1) (by omega) hlt
      rw [List.take_add_one, List.getElem?_eq_getElem hlt, Option.toList_some, List.filter_append, List.map_append] at this
      cases hp : p xs[i] with
      | true =>
        have hl2 : ((xs.take i).filter p).length ≤ i := Nat.le_trans (List.length_filter_le _ _) (by rw [List.length_take]; omega)
        refine dLcI_yes (d := xs[i]) (y := f xs[i]) (acc := ((xs.take i).filter p).map f) (by rw [hit, List.getElem?_eq_getElem hlt]) h1 (by rw [hp] at h2; exact h2) (h3 hp) (by simp) (by rw [List.length_map]; omega) ?_
        rw [List.filter_cons_of_pos hp, List.filter_nil] at this
        rw [setA0]
        exact this
      | false =>
        refine dLcI_no (d := xs[i]) (by rw [hit, List.getElem?_eq_getElem hlt]) h1 (by rw [hp] at h2; exact h2) ?_
        rw [List.filter_cons_of_neg (by rw [hp]; exact Bool.false_ne_true), List.filter_nil, List.map_nil, List.append_nil] at this
        exact this
  exact key xs.length 0 (by omega) (Nat.zero_le _)
/-! ### octets -/
def oc (l : List Nat) : D := .tup (l.map fun n : Nat => D.int (n : Int))
theorem oc_inj {l m : List Nat} (h : oc l = oc m) : l = m := by
  unfold oc at h
  injection h with h
  refine (List.map_inj_right (f := fun n : Nat => D.int (n : Int)) fun a b h => ?_).mp h
  have h1 : D.int (a : Int) = D.int (b : Int) := h
  injection h1 with h2
  exact Int.ofNat.inj h2
theorem cls_ints {n : Nat} (l : List Nat) : D.cls n (l.map fun k : Nat => D.int (k : Int)) := D.cls_of fun d hd => by
  obtain ⟨k, _, rfl⟩ := List.mem_map.mp hd
  trivial
theorem oc_cl {n : Nat} (l : List Nat) : D.cl n (oc l) := cls_ints l
end DL
set_option maxHeartbeats 4000000
namespace DL
open PySem PySem.Spec PyProof.Rows L2

/-! ### what an expression gives, part by part -/
section
variable {da db dc de : DE} {ta tb : DT} {aa : DA} {oa ob : DO} {ρ ρ1 : LE} {M M1 M2 M3 M4 M5 : Sto} {x y z d : D} {ds es : List D} {b c : Bool}
theorem op_ok {f : D2} (h1 : da ρ M = some (.ok x M1)) (h2 : db ρ M1 = some (.ok y M2)) (h3 : f x y M2 = some (z, M3)) : dOp f da db ρ M = some (.ok z M3) := by
  simp only [dOp, bnd, h1, h2, h3]
theorem test_ok (h : de ρ M = some (.ok (.bl b) M1)) : dTest de ρ M = some (.ok b M1) := by simp only [dTest, bnd, h]
theorem tru_ok (h : de ρ M = some (.ok d M1)) (t : truD d M1 = some b) : dTru de ρ M = some (.ok b M1) := by simp only [dTru, bnd, h, t]
theorem notT_ok (h : ta ρ M = some (.ok b M1)) : dNotT ta ρ M = some (.ok (!b) M1) := by simp only [dNotT, bnd, h]
theorem andT_t (h : ta ρ M = some (.ok true M1)) (h2 : tb ρ M1 = some (.ok b M2)) : dAndT ta tb ρ M = some (.ok b M2) := by simp only [dAndT, bnd, h, h2, if_true]
theorem andT_f (h : ta ρ M = some (.ok false M1)) : dAndT ta tb ρ M = some (.ok false M1) := by simp only [dAndT, bnd, h, Bool.false_eq_true, if_false]
theorem orT_t (h : ta ρ M = some (.ok true M1)) : dOrT ta tb ρ M = some (.ok true M1) := by simp only [dOrT, bnd, h, if_true]
theorem orT_f (h : ta ρ M = some (.ok false M1)) (h2 : tb ρ M1 = some (.ok b M2)) : dOrT ta tb ρ M = some (.ok b M2) := by simp only [dOrT, bnd, h, h2, Bool.false_eq_true, if_false]
theorem andT_ok (h : ta ρ M = some (.ok b M)) (h2 : tb ρ M = some (.ok c M)) : dAndT ta tb ρ M = some (.ok (b && c) M) := by
  cases b with
  | true => exact andT_t h h2
  | false => exact andT_f h
theorem orT_ok (h : ta ρ M = some (.ok b M)) (h2 : tb ρ M = some (.ok c M)) : dOrT ta tb ρ M = some (.ok (b || c) M) := by
  cases b with
  | true => exact orT_t h
  | false => exact orT_f h h2
theorem and_t (h : da ρ M = some (.ok x M1)) (t : truD x M1 = some true) (h2 : db ρ M1 = some (.ok y M2)) : dAnd da db ρ M = some (.ok y M2) := by simp only [dAnd, bnd, h, t, h2]
theorem and_f (h : da ρ M = some (.ok x M1)) (t : truD x M1 = some false) : dAnd da db ρ M = some (.ok x M1) := by simp only [dAnd, bnd, h, t]
theorem or_t (h : da ρ M = some (.ok x M1)) (t : truD x M1 = some true) : dOr da db ρ M = some (.ok x M1) := by simp only [dOr, bnd, h, t]
theorem or_f (h : da ρ M = some (.ok x M1)) (t : truD x M1 = some false) (h2 : db ρ M1 = some (.ok y M2)) : dOr da db ρ M = some (.ok y M2) := by simp only [dOr, bnd, h, t, h2]
theorem andB (h : da ρ M = some (.ok (.bl b) M)) (h2 : b = true → db ρ M = some (.ok (.bl c) M)) : dAnd da db ρ M = some (.ok (.bl (b && c)) M) := by
  cases b with
  | true => exact and_t h rfl (h2 rfl)
  | false => exact and_f h rfl
theorem not_ok (h : da ρ M = some (.ok x M1)) (t : truD x M1 = some b) : dNot da ρ M = some (.ok (.bl (!b)) M1) := by simp only [dNot, bnd, h, t]
theorem ife_t (h : ta ρ M = some (.ok true M1)) (h2 : da ρ M1 = some (.ok x M2)) : dIf ta da db ρ M = some (.ok x M2) := by simp only [dIf, bnd, h, h2, if_true]
theorem ife_f (h : ta ρ M = some (.ok false M1)) (h2 : db ρ M1 = some (.ok x M2)) : dIf ta da db ρ M = some (.ok x M2) := by simp only [dIf, bnd, h, h2, Bool.false_eq_true, if_false]
theorem chain_t {f f' : D2} {w : D} (h1 : da ρ M = some (.ok x M1)) (h2 : db ρ M1 = some (.ok y M2)) (h3 : f x y M2 = some (.bl true, M3)) (h4 : dc ρ M3 = some (.ok z M4)) (h5 : f' y z M4 = some (w, M5)) : dChain f f' da db dc ρ M = some (.ok w M5) := by
  simp only [dChain, bnd, h1, h2, h3, h4, h5]
theorem chain_f {f f' : D2} (h1 : da ρ M = some (.ok x M1)) (h2 : db ρ M1 = some (.ok y M2)) (h3 : f x y M2 = some (.bl false, M3)) : dChain f f' da db dc ρ M = some (.ok (.bl false) M3) := by
  simp only [dChain, bnd, h1, h2, h3]
theorem nil_ok : dNil ρ M = some (.ok [] M) := rfl
theorem cons_ok (h : de ρ M = some (.ok d M1)) (h2 : aa ρ M1 = some (.ok ds M2)) : dCons de aa ρ M = some (.ok (d :: ds) M2) := by simp only [dCons, bnd, h, h2]
theorem one_ok (h : de ρ M = some (.ok d M1)) : dCons de dNil ρ M = some (.ok [d] M1) := cons_ok h rfl
theorem star_ok (h : de ρ M = some (.ok d M1)) (hi : itemsD d M1 = some es) (h2 : aa ρ M1 = some (.ok ds M2)) : dStar de aa ρ M = some (.ok (es ++ ds) M2) := by simp only [dStar, bnd, h, hi, h2]
theorem tup_ok (h : aa ρ M = some (.ok ds M1)) (hl : ds.length ≤ sizeLine) : dTup aa ρ M = some (.ok (.tup ds) M1) := by simp only [dTup, bnd, h, if_pos hl]
theorem lst_ok (h : aa ρ M = some (.ok ds M1)) (hl : ds.length ≤ sizeLine) : dLst aa ρ M = some (.ok (.obj M1.length) (M1 ++ [.lst ds])) := by simp only [dLst, bnd, h, if_pos hl]
theorem cb_ok {f : DCf} (h : aa ρ M = some (.ok ds M1)) (h2 : f ds M1 = some (z, M2)) : dCB f aa ρ M = some (.ok z M2) := by simp only [dCB, bnd, h, h2]
theorem bm_ok {T : String} {f : DMf} (h : da ρ M = some (.ok x M1)) (t : tyD T x M1 = true) (h2 : aa ρ M1 = some (.ok ds M2)) (h3 : f x ds M2 = some (z, M3)) : dBM T f da aa ρ M = some (.ok z M3) := by simp only [dBM, bnd, h, t, h2, h3, if_true]
theorem un_ok {f : D → Option D} (h : da ρ M = some (.ok x M1)) (h2 : f x = some z) : dUn f da ρ M = some (.ok z M1) := by simp only [dUn, bnd, h, h2]
theorem part_ok {i : Int} (h : da ρ M = some (.ok (.int i) M1)) : dPart da ρ M = some (.ok (some i) M1) := by simp only [dPart, bnd, h]
theorem slice_ok {l h : Option Int} (h1 : da ρ M = some (.ok x M1)) (h2 : oa ρ M1 = some (.ok l M2)) (h3 : ob ρ M2 = some (.ok h M3)) (h4 : fSl x l h M3 = some (z, M4)) : dSl da oa ob ρ M = some (.ok z M4) := by simp only [dSl, bnd, h1, h2, h3, h4]
theorem rev_ok (h1 : da ρ M = some (.ok (.tup ds) M1)) : dRev da ρ M = some (.ok (.tup ds.reverse) M1) := by simp only [dRev, bnd, h1]
theorem aug_ok {f : D2} {i : Nat} (hi : ρ[i]? = some (some x)) (h : de ρ M = some (.ok y M1)) (h2 : f x y M1 = some (z, M2)) : dAug f i de ρ M = some (.nx (ρ.set i (some z)), M2) := by simp only [dAug, hi, bndS, h, h2]
theorem par_ok {i j : Nat} (h : aa ρ M = some (.ok [x, y] M1)) : dPar i j aa ρ M = some (.nx ((ρ.set i (some x)).set j (some y)), M1) := by simp only [dPar, bndS, h]
theorem par3_ok {i j l : Nat} (h : aa ρ M = some (.ok [x, y, z] M1)) : dPar3 i j l aa ρ M = some (.nx (((ρ.set i (some x)).set j (some y)).set l (some z)), M1) := by simp only [dPar3, bndS, h]
theorem asg_ok {dg : DG} (h : de ρ M = some (.ok d M1)) (h2 : dg d ρ M1 = some (ρ1, M2)) : dAsg de dg ρ M = some (.nx ρ1, M2) := by simp only [dAsg, bndS, h, h2]
theorem fld_ok {C : Addr} {f : Str} {n : Nat} {fs : List (Str × D)} (h : de ρ M = some (.ok (.obj n) M1)) (hn : M1[n]? = some (.ins C fs)) (hf : fs.lookup f = some z) : dFld C f de ρ M = some (.ok z M1) := by simp only [dFld, bnd, h, hn, hf, if_true]
theorem meth_ok {C : Addr} {m : Str} {F : DF} {n : Nat} {fs : List (Str × D)} (h : de ρ M = some (.ok (.obj n) M1)) (hn : M1[n]? = some (.ins C fs)) (hf : fs.lookup m = none) (ha : aa ρ M1 = some (.ok ds M2)) (hF : F (.obj n :: ds) M2 = some (.ok z M3)) : dMeth C m F de aa ρ M = some (.ok z M3) := by
  simp only [dMeth, bnd, h, hn, hf, ha, hF, and_self, if_true]
theorem seq_ok {it : DIt} (h : de ρ M = some (.ok d M1)) (t : isSeqD d M1 = true) : diSeq de ρ M = some (.ok (itSeq d) M1) := by simp only [diSeq, bnd, h, t, if_true]
end

/-! ### slices of texts -/
def dSlT (de : DE) (dl dh : DO) : DE := fun ρ M => bnd (de ρ M) fun x M1 => bnd (dl ρ M1) fun l M2 => bnd (dh ρ M2) fun h M3 => match x with
  | .str z => if z.length ≤ sizeLine then some (.ok (.str (Txt.slice z l h)) M3) else none
  | _ => none
theorem ped_sliceT {X : Cx} {E : XW} {e : Expr} {lo hi : Option Expr} {p2 pos : Pos} {de : DE} {dl dh : DO} (he : PED X E e de) (hl : POD X E lo dl) (hh : POD X E hi dh) : PED X E (.Subscript e (.Slice lo hi none p2) pos) (dSlT de dl dh) := by
  refine PE.imp (pe_slice C8.sl_txt he hl hh) fun σ H Q ⟨ι, ρ, M, r, R, S, h, g⟩ => ?_
  refine UE.go R S h g.2 fun d M1 _ h1 ι1 x H1 e1 R1 V1 S1 gx1 => UO.go R1 S1 h1 gx1 fun l M2 _ h2 ι2 H2 e2 R2 S2 gx2 => UO.go R2 S2 h2 gx2 fun u M3 _ h3 ι3 H3 e3 R3 S3 gx3 => ?_
  have e13 := (e1.trans e2).trans e3
  cases d with
  | str z =>
    dsimp only at h3
    split at h3
    · rename_i hz
      cases h3
      exact ⟨z, V1, hz, g.step e13 R3 rfl⟩
    · cases h3
  | _ => cases h3
/-! ### lists of other lengths, a tuple and () -/
def rEqN (K : PySem.W.Frag) : R2 := fun x y H Q => ∃ p q xs ys, x = .ref p ∧ y = .ref q ∧ ((SqL K H p xs ∧ SqL K H q ys ∧ xs.length ≠ ys.length ∧ Q (.bl false) H) ∨ (SqT K H p xs ∧ SqT K H q ys ∧ ys = [] ∧ Q (.bl xs.isEmpty) H))
def rNeN (K : PySem.W.Frag) : R2 := fun x y H Q => ∃ p q xs ys, x = .ref p ∧ y = .ref q ∧ SqL K H p xs ∧ SqL K H q ys ∧ xs.length ≠ ys.length ∧ Q (.bl true) H
section
variable {X : Cx}
theorem op_eqA (hu : X.A.units + 64 < cLine) : OpR X (compareOp .Eq) (fun x y H Q => rEqN X.K x y H Q ∨ rEqD X.K x y H Q) := by
  intro pins s σ H x y v u Q I rx ry h
  rcases h with ⟨p, q, xs, ys, rfl, rfl, h⟩ | h
  · cases rx
    cases ry
    rcases h with ⟨h1, h2, hn, k⟩ | ⟨h1, h2, rfl, k⟩
    · obtain ⟨its, rv, pl, _⟩ := I.list h1
      obtain ⟨its2, rv2, pl2, _⟩ := I.list h2
      have l1 := rv.length
      have l2 := rv2.length
      refine SeqAt.eq_list_lengthsAt pl.isList pl2.isList ?_ (by omega) ⟨.bl false, H, I, rfl, k⟩
      rw [bne_iff_ne]
      simp
      omega
    · obtain ⟨its, rv, pl, _⟩ := I.tuple h1
      obtain ⟨its2, rv2, pl2, _⟩ := I.tuple h2
      have l1 := rv.length
      have l2 := rv2.length
      refine SeqAt.eq_tupleAt (e := fun _ => true) (show s.heap.IsTuple p its.toArray from pl) (show s.heap.IsTuple q its2.toArray from pl2) (by omega) (fun j h1 h2 => ?_) ⟨.bl xs.isEmpty, H, I, ?_, k⟩
      · simp at h2
        simp at l2
        omega
      · show _ = Value.bool _
        congr 1
        cases xs with
        | nil => cases its with
          | nil => cases its2 with
            | nil => rfl
            | cons _ _ => simp at l2
          | cons _ _ => simp at l1
        | cons a xs => cases its with
          | nil => simp at l1
          | cons _ _ => cases its2 with
            | nil => simp
            | cons _ _ => simp at l2
  · exact op_eqD hu pins s σ H x y v u Q I rx ry h
theorem op_neA (hu : X.A.units + 64 < cLine) : OpR X (compareOp .NotEq) (fun x y H Q => rNeN X.K x y H Q ∨ rNeD X.K x y H Q) := by
  intro pins s σ H x y v u Q I rx ry h
  rcases h with ⟨p, q, xs, ys, rfl, rfl, h1, h2, hn, k⟩ | h
  · cases rx
    cases ry
    obtain ⟨its, rv, pl, _⟩ := I.list h1
    obtain ⟨its2, rv2, pl2, _⟩ := I.list h2
    have l1 := rv.length
    have l2 := rv2.length
    refine SeqAt.RcNeAt.lists_lengths pl.isList pl2.isList ?_ (by omega) X.prog X.w X.xe _ ⟨.bl true, H, I, rfl, k⟩
    rw [bne_iff_ne]
    simp
    omega
  · exact op_neD hu pins s σ H x y v u Q I rx ry h
end
def lensD (M : Sto) : D → D → Option (Nat × Nat)
  | .obj n, .obj m => (match M[n]?, M[m]? with
    | some (.lst ds), some (.lst es) => some (ds.length, es.length)
    | _, _ => none)
  | _, _ => none
def fEqA : D2 := fun x y M => match x, y with
  | .obj n, .obj m => (match lensD M (.obj n) (.obj m) with
    | some (a, b) => if a = b then fEq (.obj n) (.obj m) M else some (.bl false, M)
    | none => none)
  | .tup ds, .tup [] => some (.bl ds.isEmpty, M)
  | x, y => fEq x y M
def fNeA : D2 := fun x y M => match x, y with
  | .obj n, .obj m => (match lensD M (.obj n) (.obj m) with
    | some (a, b) => if a = b then fNe (.obj n) (.obj m) M else some (.bl true, M)
    | none => none)
  | x, y => fNe x y M
theorem lensD_ok {K : PySem.W.Frag} {ι : List Addr} {M : Sto} {H : Hp} {n m a b : Nat} {x y : V} (R : Rep K ι M H) (V1 : DV K ι H (.obj n) x) (V2 : DV K ι H (.obj m) y) (h : lensD M (.obj n) (.obj m) = some (a, b)) :
    ∃ p q xs ys, x = .ref p ∧ y = .ref q ∧ SqL K H p xs ∧ SqL K H q ys ∧ xs.length = a ∧ ys.length = b := by
  unfold lensD at h
  dsimp only at h
  split at h
  · rename_i ds es hn hm
    cases h
    obtain ⟨p, rfl, hp⟩ := V1
    obtain ⟨q, rfl, hq⟩ := V2
    obtain ⟨xs, hx, hv⟩ := R.lst hp hn
    obtain ⟨ys, hy, hw⟩ := R.lst hq hm
    exact ⟨p, q, xs, ys, rfl, rfl, SqL.of hx, SqL.of hy, DVs.length hv, DVs.length hw⟩
  · cases h
theorem sim_eqA {K : PySem.W.Frag} : Sim2 K (fun x y H Q => rEqN K x y H Q ∨ rEqD K x y H Q) fEqA := by
  intro ι M H x y d e z M1 Q R V W hf k
  unfold fEqA at hf
  split at hf
  · split at hf
    · rename_i a b hl
      split at hf
      · exact .inr (sim_eq ι M H x y _ _ z M1 Q R V W hf k)
      · rename_i hab
        cases hf
        obtain ⟨p, q, xs, ys, e1, e2, h1, h2, l1, l2⟩ := lensD_ok R V W hl
        exact .inl ⟨p, q, xs, ys, e1, e2, .inl ⟨h1, h2, by omega, k ι _ H Ext.refl R rfl⟩⟩
    · cases hf
  · rename_i ds
    cases hf
    obtain ⟨p, xs, rfl, h1, h2⟩ := V
    obtain ⟨q, ys, rfl, h3, h4⟩ := W
    rw [show ys = [] from h4] at h3
    refine .inl ⟨p, q, xs, [], rfl, rfl, .inr ⟨h1, h3, rfl, ?_⟩⟩
    rw [DVs.isEmpty h2]
    exact k ι _ H Ext.refl R rfl
  · exact .inr (sim_eq ι M H x y _ _ z M1 Q R V W hf k)
theorem sim_neA {K : PySem.W.Frag} : Sim2 K (fun x y H Q => rNeN K x y H Q ∨ rNeD K x y H Q) fNeA := by
  intro ι M H x y d e z M1 Q R V W hf k
  unfold fNeA at hf
  split at hf
  · split at hf
    · rename_i a b hl
      split at hf
      · exact .inr (sim_ne ι M H x y _ _ z M1 Q R V W hf k)
      · rename_i hab
        cases hf
        obtain ⟨p, q, xs, ys, e1, e2, h1, h2, l1, l2⟩ := lensD_ok R V W hl
        exact .inl ⟨p, q, xs, ys, e1, e2, h1, h2, by omega, k ι _ H Ext.refl R rfl⟩
    · cases hf
  · exact .inr (sim_ne ι M H x y _ _ z M1 Q R V W hf k)
end DL
set_option maxHeartbeats 4000000
namespace DL
open PySem PySem.Spec PyProof.Rows L2

/-! ### a promise that nothing is asked of -/
theorem fn_empty {P : Program} {w : World} {K : PySem.W.Frag} {mg : Str → Option Value} {base : Heap} {x qual : Str} {params : Arguments} {body : List Stmt} {scope : Scope} {dvs : List V} {kws : List (Str × V)} {f : Addr} {fd : FuncData}
    {N ps : List Str} {k : Nat} {F : DF} (Fd : FunD K x qual params body scope dvs kws f fd) (S : FnScope N ps scope) (hE : ∀ ds M, F ds M = none) : FnOk P w K mg base CX0 (k + 1) f fd ps (spF K F) :=
  Fd.ok S (fun vs H Q E ⟨ι, M, ds, r, R, V, h, g⟩ => by rw [hE] at h; cases h) fun cdv A outer s H vs Q E hr ⟨ι, M, ds, r, R, V, h, g⟩ => by rw [hE] at h; cases h
theorem fnR_none {R : List D → Sto → D → Sto → Prop} (h : ∀ ds M d M1, ¬ R ds M d M1) (ds : List D) (M : Sto) : fnR R ds M = none := by
  cases e : fnR R ds M with
  | none => rfl
  | some r =>
    obtain ⟨d, M1, _, hR⟩ := fnR_some e
    exact (h _ _ _ _ hR).elim
theorem fnR_len {R : List D → Sto → D → Sto → Prop} {n : Nat} (h : ∀ ds M d M1, R ds M d M1 → ds.length = n) : ∀ ds M r, fnR R ds M = some r → ds.length = n := fun ds M r e => by
  obtain ⟨d, M1, _, hR⟩ := fnR_some e
  exact h _ _ _ _ hR
/-! ### the head's facts, with one more look -/
open He
abbrev AlB : Type := AlD × Bool
def obsB (fa : List Fa) (fn : List DefD) (ex : PySem.W.Frag → Bool) (K : PySem.W.Frag) : AlB := (obsD fa fn K, ex K)
def valB (fn : List DefD) : AlB := (valD fn, true)
def SaysB (fa : List Fa) (fn : List DefD) (ex : PySem.W.Frag → Bool) (K : PySem.W.Frag) : Prop := obsB fa fn ex K = valB fn
def obsBG (n : Nat) (fa : List Fa) (fn : List DefD) (ex : PySem.W.Frag → Bool) (g : Addr → Option Obj) : AlB := obsB fa fn ex (frG g (asD g n))
def hookB (n : Nat) (fa : List Fa) (fn : List DefD) (ex : PySem.W.Frag → Bool) : PySem.W.Hook where
  α := AlB
  obs := fun s => obsBG n fa fn ex s.heap.get?
  val := fun _ => valB fn
  says := fun _ h => ∃ K : PySem.W.Frag, K.In h ∧ SaysB fa fn ex K
  of := fun _ _ e => ⟨_, frG_in, e⟩
  keeps := fun _ _ _ ⟨K, hK, c⟩ k => ⟨K, PySem.W.Frag.In.keeps hK k, c⟩
theorem obsBG_eq {n : Nat} {fa : List Fa} {fn : List DefD} {ex : PySem.W.Frag → Bool} {g : Addr → Option Obj} {s : Shared} (h : ∀ a, g a = s.heap.get? a) : obsBG n fa fn ex g = (hookB n fa fn ex).obs s := by
  have e : g = s.heap.get? := funext h
  rw [e] <;> rfl
theorem SaysB.d {fa : List Fa} {fn : List DefD} {ex : PySem.W.Frag → Bool} {K : PySem.W.Frag} (c : SaysB fa fn ex K) : SaysD fa fn K := congrArg (fun z : AlB => z.1) c
theorem SaysB.more {fa : List Fa} {fn : List DefD} {ex : PySem.W.Frag → Bool} {K : PySem.W.Frag} (c : SaysB fa fn ex K) : ex K = true := congrArg (fun z : AlB => z.2) c
end DL
set_option maxHeartbeats 4000000
namespace K90
open PySem PySem.Spec PyProof.Rows L2 DL
section
variable {P : Program} {w : World} {K : PySem.W.Frag} {mg : Str → Option Value} {base : Heap} {f : Addr} {cdv : Value} {A : Around} {outer : List Env} {s : Shared} {H : Hp} {E : XK}
def topS (i : Nat) : Stmt := PySem.Challenge.pw_nolooking_k90_octets_within_octets.main.body.getD i (.Pass ⟨0, 0, 0, 0⟩)
structure GF (mg : Str → Option Value) : Prop where
  g_abs : mg "abs" = none
  g_all : mg "all" = none
  g_bool : mg "bool" = none
  g_enumerate : mg "enumerate" = none
  g_int : mg "int" = none
  g_isinstance : mg "isinstance" = none
  g_len : mg "len" = none
  g_list : mg "list" = none
  g_max : mg "max" = none
  g_min : mg "min" = none
  g_range : mg "range" = none
  g_str : mg "str" = none
  g_tuple : mg "tuple" = none
  g_zip : mg "zip" = none
  g_CHECK : ∃ t, mg "CHECK" = some (.int 4 t)
  g_FACTOR : ∃ t, mg "FACTOR" = some (.int 257 t)
  g_FALSE : ∃ t, mg "FALSE" = some (.int 1 t)
  g_GROUP : ∃ t, mg "GROUP" = some (.int 7 t)
  g_HALF : ∃ t, mg "HALF" = some (.int 128 t)
  g_LEAST : ∃ t, mg "LEAST" = some (.int 6 t)
  g_LESS : ∃ t, mg "LESS" = some (.int 4 t)
  g_LETTERS : ∃ t, mg "LETTERS" = some (.str "abcdefghijklmnopqrstuvwxyz" t)
  g_MARK_journal : ∃ t, mg "MARK_journal" = some (.int 76 t)
  g_MARK_packing : ∃ t, mg "MARK_packing" = some (.int 78 t)
  g_MODULUS : ∃ t, mg "MODULUS" = some (.int 4294967291 t)
  g_MOST_DEEP : ∃ t, mg "MOST_DEEP" = some (.int 100 t)
  g_MOST_LETTERS : ∃ t, mg "MOST_LETTERS" = some (.int 200 t)
  g_MOST_OCTETS : ∃ t, mg "MOST_OCTETS" = some (.int 400000 t)
  g_NONE : ∃ t, mg "NONE" = some (.int 0 t)
  g_NUMBER : ∃ t, mg "NUMBER" = some (.int 3 t)
  g_ROW : ∃ t, mg "ROW" = some (.int 6 t)
  g_TRUE : ∃ t, mg "TRUE" = some (.int 2 t)
  g_WORD : ∃ t, mg "WORD" = some (.int 5 t)
def T_SIMPLE : List (Int × Nat) := [(0, 0), (1, 1), (2, 2)]
/-! ### is_integer -/
abbrev s_is_integer : Stmt := (topS 5)
abbrev N_is_integer : List Str := ["thing"]
theorem sc_is_integer : FnScope N_is_integer ["thing"] (defScope s_is_integer) := ⟨rfl, rfl, rfl, by decide +kernel, rfl, by decide +kernel, by decide +kernel⟩
noncomputable def bd_is_integer : DS :=
  (dRet (dAnd (dCB fIsI (dCons (dVar 0) (dCons (dC (.ty "int")) dNil))) (dNot (dCB fIsI (dCons (dVar 0) (dCons (dC (.ty "bool")) dNil))))))
theorem tm_is_integer (G : GF mg) (hr : Room 0 (A.deeper (envOfC "is_integer" (defScope s_is_integer) s.heap.objs.size f cdv))) : PSsD (cxOf CX0 P w K mg base N_is_integer "is_integer" (defScope s_is_integer) f cdv A outer s H E).nox EF (defBody s_is_integer) (bd_is_integer ) :=
  by exact (pssd_one (psd_ret (ped_and (ped_callB call_isiA sim_isi G.g_isinstance boot_isinstance (pad_cons (ped_var 0) (pad_cons (ped_bty G.g_int PyProof.Rows.boot_int) pad_nil))) (ped_one (ped_not (ped_callB call_isiA sim_isi G.g_isinstance boot_isinstance (pad_cons (ped_var 0) (pad_cons (ped_bty G.g_bool PyProof.Rows.boot_bool) pad_nil))))))))
/-! ### is_within -/
abbrev s_is_within : Stmt := (topS 6)
abbrev N_is_within : List Str := ["thing", "least", "most"]
theorem sc_is_within : FnScope N_is_within ["thing", "least", "most"] (defScope s_is_within) := ⟨rfl, rfl, rfl, by decide +kernel, rfl, by decide +kernel, by decide +kernel⟩
noncomputable def bd_is_within (F_is_integer : DF) : DS :=
  (dRet (dAnd (dCall F_is_integer (dCons (dVar 0) dNil)) (dChain fLe fLe (dVar 1) (dVar 0) (dVar 2))))
theorem tm_is_within {F_is_integer : DF} (G : GF mg) (hr : Room 1 (A.deeper (envOfC "is_within" (defScope s_is_within) s.heap.objs.size f cdv))) (h_is_integer : HasFnP P w K mg base 1 "is_integer" F_is_integer) : PSsD (cxOf CX0 P w K mg base N_is_within "is_within" (defScope s_is_within) f cdv A outer s H E).nox EF (defBody s_is_within) (bd_is_within F_is_integer) :=
  by exact (pssd_one (psd_ret (ped_and (ped_call h_is_integer hr (by omega) (pad_cons (ped_var 0) pad_nil)) (ped_one (ped_chain op_le sim_le op_le sim_le (ped_var 1) (ped_var 0) (ped_var 2))))))
/-! ### integer_octets -/
abbrev s_integer_octets : Stmt := (topS 13)
abbrev N_integer_octets : List Str := ["number", "found"]
theorem sc_integer_octets : FnScope N_integer_octets ["number"] (defScope s_integer_octets) := ⟨rfl, rfl, rfl, by decide +kernel, rfl, by decide +kernel, by decide +kernel⟩
noncomputable def bd_integer_octets : DS :=
  (dSeq (dSet 1 (dLst dNil))
  (dSeq (dWhile (dTest (dOp fGe (dVar 0) (dC (.int 128))))
  (dSeq (dDrop (dBM "list" fAppend (dVar 1) (dCons (dOp fAdd (dC (.int 128)) (dOp fBand (dVar 0) (dOp fSub (dC (.int 128)) (dC (.int 1))))) dNil)))
  (dAug fShr 0 (dC (.int 7)))))
  (dRet (dTup (dStar (dVar 1) (dCons (dVar 0) dNil))))))
theorem tm_integer_octets (G : GF mg) (hr : Room 0 (A.deeper (envOfC "integer_octets" (defScope s_integer_octets) s.heap.objs.size f cdv))) : PSsD (cxOf CX0 P w K mg base N_integer_octets "integer_octets" (defScope s_integer_octets) f cdv A outer s H E).nox EF (defBody s_integer_octets) (bd_integer_octets ) :=
  by exact (pssd_cons (psd_set 1 sc_integer_octets.nd (ped_lst pad_nil))
      (pssd_cons (psd_while PassesOwn.never (ptd_cmp op_ge sim_ge (ped_var 0) (ped_gint G.g_HALF)) (pssd_cons (psd_expr (ped_bm PySem.F.plainAttrs_list PySem.F.slot_list_append PySem.F.type_list_append mt_append sim_append (ped_var 1) (pad_cons (ped_op op_addAll sim_add (ped_gint G.g_HALF) (ped_op op_and sim_band (ped_var 0) (ped_op op_sub sim_sub (ped_gint G.g_HALF) ped_int))) pad_nil)))
      (pssd_one (psd_aug 0 sc_integer_octets.nd iop_shr sim_shr (ped_gint G.g_GROUP)))))
      (pssd_one (psd_ret (ped_tup (pad_star (ped_var 1) (pad_cons (ped_var 0) pad_nil)))))))
/-! ### read_integer -/
abbrev s_read_integer : Stmt := (topS 14)
abbrev N_read_integer : List Str := ["octets", "place", "at", "bits", "octet"]
theorem sc_read_integer : FnScope N_read_integer ["octets", "place"] (defScope s_read_integer) := ⟨rfl, rfl, rfl, by decide +kernel, rfl, by decide +kernel, by decide +kernel⟩
noncomputable def bd_read_integer : DS :=
  (dSeq (dSet 2 (dVar 1))
  (dSeq (dWhile (dAndT (dTest (dOp fLt (dVar 2) (dCB fLen (dCons (dVar 0) dNil)))) (dTest (dOp fGe (dOp fIx (dVar 0) (dVar 2)) (dC (.int 128)))))
  (dAug fIAdd 2 (dC (.int 1))))
  (dSeq (dIfS (dOrT (dTest (dOp fEqA (dVar 2) (dCB fLen (dCons (dVar 0) dNil)))) (dAndT (dTest (dOp fEqA (dOp fIx (dVar 0) (dVar 2)) (dC (.int 0)))) (dTest (dOp fGt (dVar 2) (dVar 1))))) dNever dNext)
  (dSeq (dSet 3 (dBM "str" fJoin (dC (.str "")) (dCons (dLc [4] (diSeq (dRev (dSl (dVar 0) (dPart (dVar 1)) (dPart (dOp fAdd (dVar 2) (dC (.int 1))))))) (cgName 4) dYes (dFmt07b (dOp fBand (dVar 4) (dOp fSub (dC (.int 128)) (dC (.int 1)))))) dNil)))
  (dRet (dTup (dCons (dCB fIntBin (dCons (dVar 3) (dCons (dC (.int 2)) dNil))) (dCons (dOp fAdd (dVar 2) (dC (.int 1))) dNil))))))))
theorem tm_read_integer (G : GF mg) (hr : Room 0 (A.deeper (envOfC "read_integer" (defScope s_read_integer) s.heap.objs.size f cdv))) : PSsD (cxOf CX0 P w K mg base N_read_integer "read_integer" (defScope s_read_integer) f cdv A outer s H E).nox EF (defBody s_read_integer) (bd_read_integer ) :=
  by exact (pssd_cons (psd_set 2 sc_read_integer.nd (ped_var 1))
      (pssd_cons (psd_while PassesOwn.never (ptd_bool (pwd_and (ptd_cmp op_lt sim_lt (ped_var 2) (ped_callB call_len sim_len G.g_len boot_len (pad_cons (ped_var 0) pad_nil))) (pwd_and1 (ptd_cmp op_ge sim_ge (ped_ix (ped_var 0) (ped_var 2)) (ped_gint G.g_HALF))))) (pssd_one (psd_aug 2 sc_read_integer.nd iop_add sim_iadd ped_int)))
      (pssd_cons (psd_if (ptd_bool (pwd_or (ptd_cmp (op_eqA hr.units) sim_eqA (ped_var 2) (ped_callB call_len sim_len G.g_len boot_len (pad_cons (ped_var 0) pad_nil))) (pwd_or1 (ptd_bool (pwd_and (ptd_cmp (op_eqA hr.units) sim_eqA (ped_ix (ped_var 0) (ped_var 2)) ped_int) (pwd_and1 (ptd_cmp op_gt sim_gt (ped_var 2) (ped_var 1)))))))) (pssd_one psd_never) pssd_nil)
      (pssd_cons (psd_set 3 sc_read_integer.nd (ped_bm PySem.F.plainAttrs_str PySem.F.slot_str_join PySem.F.type_str_join mt_joinD sim_join ped_str (pad_cons (by exact (ped_lc (own := [("octet", 4)]) (g := gName 4) rfl sc_read_integer.nd (pid_seq (ped_rev (ped_slice (ped_var 0) (pod_some (ped_var 1)) (pod_some (ped_op op_addAll sim_add (ped_var 2) ped_int))))) (blkOk_by (own := [("octet", 4)]) (N := N_read_integer) (sc := defScope s_read_integer) (by decide +kernel)) (by exact fun _ _ _ _ _ => (pg_name (i := 4) sc_read_integer.nd rfl (Or.inl rfl))) (by exact (tg_name (j := 4))) (by exact fun _ _ _ _ _ => ptsd_nil) (by exact fun _ _ _ _ _ => (ped_fmt07b (ped_op op_and sim_band (ped_var 4) (ped_op op_sub sim_sub (ped_gint G.g_HALF) ped_int)))))) pad_nil)))
      (pssd_one (psd_ret (ped_tup (pad_cons (ped_callTy call_int_bin sim_intBin G.g_int PyProof.Rows.boot_int (pad_cons (ped_var 3) (pad_cons ped_int pad_nil))) (pad_cons (ped_op op_addAll sim_add (ped_var 2) ped_int) pad_nil)))))))))
/-! ### check_of -/
abbrev s_check_of : Stmt := (topS 15)
abbrev N_check_of : List Str := ["octets", "found", "octet"]
theorem sc_check_of : FnScope N_check_of ["octets"] (defScope s_check_of) := ⟨rfl, rfl, rfl, by decide +kernel, rfl, by decide +kernel, by decide +kernel⟩
noncomputable def bd_check_of : DS :=
  (dSeq (dSet 1 (dC (.int 1)))
  (dSeq (dFor (diSeq (dVar 0)) (dgName 2)
  (dSet 1 (dOp fMod (dOp fAdd (dOp fAdd (dOp fMul (dVar 1) (dC (.int 257))) (dVar 2)) (dC (.int 1))) (dC (.int 4294967291)))))
  (dRet (dVar 1))))
theorem tm_check_of (G : GF mg) (hr : Room 0 (A.deeper (envOfC "check_of" (defScope s_check_of) s.heap.objs.size f cdv))) : PSsD (cxOf CX0 P w K mg base N_check_of "check_of" (defScope s_check_of) f cdv A outer s H E).nox EF (defBody s_check_of) (bd_check_of ) :=
  by exact (pssd_cons (psd_set 1 sc_check_of.nd ped_int)
      (pssd_cons (psd_for PassesOwn.never rfl (pid_seq (ped_var 0)) (pgd_name 2 sc_check_of.nd) (pssd_one (psd_set 1 sc_check_of.nd (ped_op op_mod sim_mod (ped_op op_addAll sim_add (ped_op op_addAll sim_add (ped_op op_mulAll sim_mul (ped_var 1) (ped_gint G.g_FACTOR)) (ped_var 2)) ped_int) (ped_gint G.g_MODULUS)))))
      (pssd_one (psd_ret (ped_var 1)))))
/-! ### sealed -/
abbrev s_sealed : Stmt := (topS 16)
abbrev N_sealed : List Str := ["octets", "check"]
theorem sc_sealed : FnScope N_sealed ["octets"] (defScope s_sealed) := ⟨rfl, rfl, rfl, by decide +kernel, rfl, by decide +kernel, by decide +kernel⟩
noncomputable def bd_sealed (F_check_of : DF) : DS :=
  (dSeq (dSet 1 (dCall F_check_of (dCons (dVar 0) dNil)))
  (dRet (dTup (dStar (dVar 0) (dCons (dOp fShr (dVar 1) (dC (.int 24))) (dCons (dOp fBand (dOp fShr (dVar 1) (dC (.int 16))) (dC (.int 255))) (dCons (dOp fBand (dOp fShr (dVar 1) (dC (.int 8))) (dC (.int 255))) (dCons (dOp fBand (dVar 1) (dC (.int 255))) dNil))))))))
theorem tm_sealed {F_check_of : DF} (G : GF mg) (hr : Room 1 (A.deeper (envOfC "sealed" (defScope s_sealed) s.heap.objs.size f cdv))) (h_check_of : HasFnP P w K mg base 1 "check_of" F_check_of) : PSsD (cxOf CX0 P w K mg base N_sealed "sealed" (defScope s_sealed) f cdv A outer s H E).nox EF (defBody s_sealed) (bd_sealed F_check_of) :=
  by exact (pssd_cons (psd_set 1 sc_sealed.nd (ped_call h_check_of hr (by omega) (pad_cons (ped_var 0) pad_nil)))
      (pssd_one (psd_ret (ped_tup (pad_star (ped_var 0) (pad_cons (ped_op op_shr sim_shr (ped_var 1) ped_int) (pad_cons (ped_op op_and sim_band (ped_op op_shr sim_shr (ped_var 1) ped_int) ped_int) (pad_cons (ped_op op_and sim_band (ped_op op_shr sim_shr (ped_var 1) ped_int) ped_int) (pad_cons (ped_op op_and sim_band (ped_var 1) ped_int) pad_nil)))))))))
/-! ### is_sealed -/
abbrev s_is_sealed : Stmt := (topS 17)
abbrev N_is_sealed : List Str := ["octets"]
theorem sc_is_sealed : FnScope N_is_sealed ["octets"] (defScope s_is_sealed) := ⟨rfl, rfl, rfl, by decide +kernel, rfl, by decide +kernel, by decide +kernel⟩
noncomputable def bd_is_sealed (F_sealed : DF) : DS :=
  (dRet (dAnd (dOp fGe (dCB fLen (dCons (dVar 0) dNil)) (dC (.int 4))) (dOp fEqA (dCall F_sealed (dCons (dSl (dVar 0) dNoP (dPart (dOp fSub (dCB fLen (dCons (dVar 0) dNil)) (dC (.int 4))))) dNil)) (dCB fTuple (dCons (dVar 0) dNil)))))
theorem tm_is_sealed {F_sealed : DF} (G : GF mg) (hr : Room 2 (A.deeper (envOfC "is_sealed" (defScope s_is_sealed) s.heap.objs.size f cdv))) (h_sealed : HasFnP P w K mg base 2 "sealed" F_sealed) : PSsD (cxOf CX0 P w K mg base N_is_sealed "is_sealed" (defScope s_is_sealed) f cdv A outer s H E).nox EF (defBody s_is_sealed) (bd_is_sealed F_sealed) :=
  by exact (pssd_one (psd_ret (ped_and (ped_cmp op_ge sim_ge (ped_callB call_len sim_len G.g_len boot_len (pad_cons (ped_var 0) pad_nil)) (ped_gint G.g_CHECK)) (ped_one (ped_cmp (op_eqA hr.units) sim_eqA (ped_call h_sealed hr (by omega) (pad_cons (ped_slice (ped_var 0) pod_none (pod_some (ped_op op_sub sim_sub (ped_callB call_len sim_len G.g_len boot_len (pad_cons (ped_var 0) pad_nil)) (ped_gint G.g_CHECK)))) pad_nil)) (ped_callTy call_tuple_of sim_tuple G.g_tuple PyProof.Rows.boot_tuple (pad_cons (ped_var 0) pad_nil)))))))
/-! ### is_word -/
abbrev s_is_word : Stmt := (topS 32)
abbrev N_is_word : List Str := ["thing", "sign"]
theorem sc_is_word : FnScope N_is_word ["thing"] (defScope s_is_word) := ⟨rfl, rfl, rfl, by decide +kernel, rfl, by decide +kernel, by decide +kernel⟩
noncomputable def bd_is_word : DS :=
  (dRet (dAnd (dCB fIsI (dCons (dVar 0) (dCons (dC (.ty "str")) dNil))) (dAnd (dOp fLe (dCB fLen (dCons (dVar 0) dNil)) (dC (.int 200))) (dCB fAll (dCons (dLc [1] (diStr (dVar 0)) (cgName 1) dYes (dOp fInS (dVar 1) (dC (.str "abcdefghijklmnopqrstuvwxyz")))) dNil)))))
theorem tm_is_word (G : GF mg) (hr : Room 0 (A.deeper (envOfC "is_word" (defScope s_is_word) s.heap.objs.size f cdv))) : PSsD (cxOf CX0 P w K mg base N_is_word "is_word" (defScope s_is_word) f cdv A outer s H E).nox EF (defBody s_is_word) (bd_is_word ) :=
  by exact (pssd_one (psd_ret (ped_and (ped_callB call_isiA sim_isi G.g_isinstance boot_isinstance (pad_cons (ped_var 0) (pad_cons (ped_bty G.g_str PyProof.Rows.boot_str) pad_nil))) (ped_and (ped_cmp op_le sim_le (ped_callB call_len sim_len G.g_len boot_len (pad_cons (ped_var 0) pad_nil)) (ped_gint G.g_MOST_LETTERS)) (ped_one (ped_callB (cr_all rfl) sim_all G.g_all boot_all (pad_cons (by exact (ped_lc (own := [("sign", 1)]) (g := gName 1) rfl sc_is_word.nd (pid_str (ped_var 0)) (blkOk_by (own := [("sign", 1)]) (N := N_is_word) (sc := defScope s_is_word) (by decide +kernel)) (by exact fun _ _ _ _ _ => (pg_name (i := 1) sc_is_word.nd rfl (Or.inl rfl))) (by exact (tg_name (j := 1))) (by exact fun _ _ _ _ _ => ptsd_nil) (by exact fun _ _ _ _ _ => (ped_cmp op_inS sim_inS (ped_var 1) (ped_gstr G.g_LETTERS))))) pad_nil)))))))
/-! ### is_small -/
abbrev s_is_small : Stmt := (topS 33)
abbrev N_is_small : List Str := ["thing"]
theorem sc_is_small : FnScope N_is_small ["thing"] (defScope s_is_small) := ⟨rfl, rfl, rfl, by decide +kernel, rfl, by decide +kernel, by decide +kernel⟩
noncomputable def bd_is_small (F_is_integer : DF) : DS :=
  (dRet (dAnd (dCall F_is_integer (dCons (dVar 0) dNil)) (dOp fLt (dCB fAbs (dCons (dVar 0) dNil)) (dOp fPow (dOp fPow (dC (.int 10)) (dC (.int 50))) (dC (.int 8))))))
theorem tm_is_small {F_is_integer : DF} (G : GF mg) (hr : Room 1 (A.deeper (envOfC "is_small" (defScope s_is_small) s.heap.objs.size f cdv))) (h_is_integer : HasFnP P w K mg base 1 "is_integer" F_is_integer) : PSsD (cxOf CX0 P w K mg base N_is_small "is_small" (defScope s_is_small) f cdv A outer s H E).nox EF (defBody s_is_small) (bd_is_small F_is_integer) :=
  by exact (pssd_one (psd_ret (ped_and (ped_call h_is_integer hr (by omega) (pad_cons (ped_var 0) pad_nil)) (ped_one (ped_cmp op_lt sim_lt (ped_callB call_abs sim_abs G.g_abs boot_abs (pad_cons (ped_var 0) pad_nil)) (ped_op op_powW sim_pow (ped_op op_powW sim_pow ped_int ped_int) ped_int))))))
/-! ### is_plain -/
abbrev s_is_plain : Stmt := (topS 34)
abbrev N_is_plain : List Str := ["thing", "line", "one", "depth", "member"]
theorem sc_is_plain : FnScope N_is_plain ["thing"] (defScope s_is_plain) := ⟨rfl, rfl, rfl, by decide +kernel, rfl, by decide +kernel, by decide +kernel⟩
noncomputable def bd_is_plain (F_is_small F_is_word : DF) : DS :=
  (dSeq (dSet 1 (dLst (dCons (dTup (dCons (dVar 0) (dCons (dC (.int 1)) dNil))) dNil)))
  (dSeq (dWhile (dTest (dOp fNeA (dVar 1) (dLst dNil)))
  (dSeq (dAsg (dBM "list" fPop (dVar 1) dNil) (dgTup 2 (dgCons (dgName 2) (dgCons (dgName 3) dgNil))))
  (dIfS (dTru (dCB fIsI (dCons (dVar 2) (dCons (dC (.ty "tuple")) dNil)))) (dSeq (dIfS (dTest (dOp fGt (dVar 3) (dC (.int 100)))) (dRet (dC (.bl false))) dNext)
  (dDrop (dBM "list" fExt (dVar 1) (dCons (dLc [4] (diSeq (dVar 2)) (cgName 4) dYes (dTup (dCons (dVar 4) (dCons (dOp fAdd (dVar 3) (dC (.int 1))) dNil)))) dNil)))) (dIfS (dAndT (dTest (dOp fNotN (dVar 2) (dC .non))) (dAndT (dNotT (dTru (dCB fIsI (dCons (dVar 2) (dCons (dC (.ty "bool")) dNil))))) (dAndT (dNotT (dTru (dCall F_is_small (dCons (dVar 2) dNil)))) (dNotT (dTru (dCall F_is_word (dCons (dVar 2) dNil))))))) (dRet (dC (.bl false))) dNext))))
  (dRet (dC (.bl true)))))
theorem tm_is_plain {F_is_small F_is_word : DF} (G : GF mg) (hr : Room 2 (A.deeper (envOfC "is_plain" (defScope s_is_plain) s.heap.objs.size f cdv))) (h_is_small : HasFnP P w K mg base 2 "is_small" F_is_small) (h_is_word : HasFnP P w K mg base 1 "is_word" F_is_word) : PSsD (cxOf CX0 P w K mg base N_is_plain "is_plain" (defScope s_is_plain) f cdv A outer s H E).nox EF (defBody s_is_plain) (bd_is_plain F_is_small F_is_word) :=
  by exact (pssd_cons (psd_set 1 sc_is_plain.nd (ped_lst (pad_cons (ped_tup (pad_cons (ped_var 0) (pad_cons ped_int pad_nil))) pad_nil)))
      (pssd_cons (psd_while PassesOwn.never (ptd_cmp (op_neA hr.units) sim_neA (ped_var 1) (ped_lst pad_nil)) (pssd_cons (psd_asg (ped_bm0 PySem.F.plainAttrs_list PySem.F.slot_list_pop PySem.F.type_list_pop mt_pop sim_pop (ped_var 1)) (pgd_tup rfl (pgsd_cons (pgd_name 2 sc_is_plain.nd) (pgsd_cons (pgd_name 3 sc_is_plain.nd) pgsd_nil))))
      (pssd_one (psd_if (ptd_tru (ped_callB call_isiA sim_isi G.g_isinstance boot_isinstance (pad_cons (ped_var 2) (pad_cons (ped_bty G.g_tuple PyProof.Rows.boot_tuple) pad_nil)))) (pssd_cons (psd_if (ptd_cmp op_gt sim_gt (ped_var 3) (ped_gint G.g_MOST_DEEP)) (pssd_one (psd_ret ped_bl)) pssd_nil)
      (pssd_one (psd_expr (ped_bm PySem.F.plainAttrs_list PySem.F.slot_list_extend PySem.F.type_list_extend mt_ext sim_ext (ped_var 1) (pad_cons (by exact (ped_lc (own := [("member", 4)]) (g := gName 4) rfl sc_is_plain.nd (pid_seq (ped_var 2)) (blkOk_by (own := [("member", 4)]) (N := N_is_plain) (sc := defScope s_is_plain) (by decide +kernel)) (by exact fun _ _ _ _ _ => (pg_name (i := 4) sc_is_plain.nd rfl (Or.inl rfl))) (by exact (tg_name (j := 4))) (by exact fun _ _ _ _ _ => ptsd_nil) (by exact fun _ _ _ _ _ => (ped_tup (pad_cons (ped_var 4) (pad_cons (ped_op op_addAll sim_add (ped_var 3) ped_int) pad_nil)))))) pad_nil))))) (pssd_one (psd_if (ptd_bool (pwd_and (ptd_cmp op_notN1 sim_notN (ped_var 2) ped_non) (pwd_and (ptd_not (ptd_tru (ped_callB call_isiA sim_isi G.g_isinstance boot_isinstance (pad_cons (ped_var 2) (pad_cons (ped_bty G.g_bool PyProof.Rows.boot_bool) pad_nil))))) (pwd_and (ptd_not (ptd_tru (ped_call h_is_small hr (by omega) (pad_cons (ped_var 2) pad_nil)))) (pwd_and1 (ptd_not (ptd_tru (ped_call h_is_word hr (by omega) (pad_cons (ped_var 2) pad_nil))))))))) (pssd_one (psd_ret ped_bl)) pssd_nil))))))
      (pssd_one (psd_ret ped_bl))))
/-! ### number_octets -/
abbrev s_number_octets : Stmt := (topS 35)
abbrev N_number_octets : List Str := ["number"]
theorem sc_number_octets : FnScope N_number_octets ["number"] (defScope s_number_octets) := ⟨rfl, rfl, rfl, by decide +kernel, rfl, by decide +kernel, by decide +kernel⟩
noncomputable def bd_number_octets (F_integer_octets : DF) : DS :=
  (dSeq (dIfS (dTest (dOp fLt (dVar 0) (dC (.int 0)))) (dRet (dTup (dCons (dC (.int 4)) (dStar (dCall F_integer_octets (dCons (dOp fSub (dOp fSub (dC (.int 0)) (dC (.int 1))) (dVar 0)) dNil)) dNil)))) dNext)
  (dRet (dTup (dCons (dC (.int 3)) (dStar (dCall F_integer_octets (dCons (dVar 0) dNil)) dNil)))))
theorem tm_number_octets {F_integer_octets : DF} (G : GF mg) (hr : Room 1 (A.deeper (envOfC "number_octets" (defScope s_number_octets) s.heap.objs.size f cdv))) (h_integer_octets : HasFnP P w K mg base 1 "integer_octets" F_integer_octets) : PSsD (cxOf CX0 P w K mg base N_number_octets "number_octets" (defScope s_number_octets) f cdv A outer s H E).nox EF (defBody s_number_octets) (bd_number_octets F_integer_octets) :=
  by exact (pssd_cons (psd_if (ptd_cmp op_lt sim_lt (ped_var 0) ped_int) (pssd_one (psd_ret (ped_tup (pad_cons (ped_gint G.g_LESS) (pad_star (ped_call h_integer_octets hr (by omega) (pad_cons (ped_op op_sub sim_sub (ped_op op_sub sim_sub ped_int ped_int) (ped_var 0)) pad_nil)) pad_nil))))) pssd_nil)
      (pssd_one (psd_ret (ped_tup (pad_cons (ped_gint G.g_NUMBER) (pad_star (ped_call h_integer_octets hr (by omega) (pad_cons (ped_var 0) pad_nil)) pad_nil))))))
/-! ### own_octets -/
abbrev s_own_octets : Stmt := (topS 36)
abbrev N_own_octets : List Str := ["one", "sign"]
theorem sc_own_octets : FnScope N_own_octets ["one"] (defScope s_own_octets) := ⟨rfl, rfl, rfl, by decide +kernel, rfl, by decide +kernel, by decide +kernel⟩
noncomputable def bd_own_octets (F_integer_octets F_number_octets : DF) : DS :=
  (dSeq (dIfS (dTest (dOp fIsN (dVar 0) (dC .non))) (dRet (dTup (dCons (dC (.int 0)) dNil))) dNext)
  (dSeq (dIfS (dTru (dCB fIsI (dCons (dVar 0) (dCons (dC (.ty "bool")) dNil)))) (dRet (dTup (dCons (dIf (dTru (dVar 0)) (dC (.int 2)) (dC (.int 1))) dNil))) dNext)
  (dSeq (dIfS (dTru (dCB fIsI (dCons (dVar 0) (dCons (dC (.ty "tuple")) dNil)))) (dRet (dTup (dCons (dC (.int 6)) (dStar (dCall F_integer_octets (dCons (dCB fLen (dCons (dVar 0) dNil)) dNil)) dNil)))) dNext)
  (dSeq (dIfS (dTru (dCB fIsI (dCons (dVar 0) (dCons (dC (.ty "str")) dNil)))) (dRet (dTup (dCons (dC (.int 5)) (dStar (dCall F_integer_octets (dCons (dCB fLen (dCons (dVar 0) dNil)) dNil)) (dStar (dLc [1] (diStr (dVar 0)) (cgName 1) dYes (dBM "str" fSIndex (dC (.str "abcdefghijklmnopqrstuvwxyz")) (dCons (dVar 1) dNil))) dNil))))) dNext)
  (dRet (dCall F_number_octets (dCons (dVar 0) dNil)))))))
theorem tm_own_octets {F_integer_octets F_number_octets : DF} (G : GF mg) (hr : Room 2 (A.deeper (envOfC "own_octets" (defScope s_own_octets) s.heap.objs.size f cdv))) (h_integer_octets : HasFnP P w K mg base 1 "integer_octets" F_integer_octets) (h_number_octets : HasFnP P w K mg base 2 "number_octets" F_number_octets) : PSsD (cxOf CX0 P w K mg base N_own_octets "own_octets" (defScope s_own_octets) f cdv A outer s H E).nox EF (defBody s_own_octets) (bd_own_octets F_integer_octets F_number_octets) :=
  by exact (pssd_cons (psd_if (ptd_cmp op_isN1 sim_isN (ped_var 0) ped_non) (pssd_one (psd_ret (ped_tup (pad_cons (ped_gint G.g_NONE) pad_nil)))) pssd_nil)
      (pssd_cons (psd_if (ptd_tru (ped_callB call_isiA sim_isi G.g_isinstance boot_isinstance (pad_cons (ped_var 0) (pad_cons (ped_bty G.g_bool PyProof.Rows.boot_bool) pad_nil)))) (pssd_one (psd_ret (ped_tup (pad_cons (ped_if (ptd_tru (ped_var 0)) (ped_gint G.g_TRUE) (ped_gint G.g_FALSE)) pad_nil)))) pssd_nil)
      (pssd_cons (psd_if (ptd_tru (ped_callB call_isiA sim_isi G.g_isinstance boot_isinstance (pad_cons (ped_var 0) (pad_cons (ped_bty G.g_tuple PyProof.Rows.boot_tuple) pad_nil)))) (pssd_one (psd_ret (ped_tup (pad_cons (ped_gint G.g_ROW) (pad_star (ped_call h_integer_octets hr (by omega) (pad_cons (ped_callB call_len sim_len G.g_len boot_len (pad_cons (ped_var 0) pad_nil)) pad_nil)) pad_nil))))) pssd_nil)
      (pssd_cons (psd_if (ptd_tru (ped_callB call_isiA sim_isi G.g_isinstance boot_isinstance (pad_cons (ped_var 0) (pad_cons (ped_bty G.g_str PyProof.Rows.boot_str) pad_nil)))) (pssd_one (psd_ret (ped_tup (pad_cons (ped_gint G.g_WORD) (pad_star (ped_call h_integer_octets hr (by omega) (pad_cons (ped_callB call_len sim_len G.g_len boot_len (pad_cons (ped_var 0) pad_nil)) pad_nil)) (pad_star (by exact (ped_lc (own := [("sign", 1)]) (g := gName 1) rfl sc_own_octets.nd (pid_str (ped_var 0)) (blkOk_by (own := [("sign", 1)]) (N := N_own_octets) (sc := defScope s_own_octets) (by decide +kernel)) (by exact fun _ _ _ _ _ => (pg_name (i := 1) sc_own_octets.nd rfl (Or.inl rfl))) (by exact (tg_name (j := 1))) (by exact fun _ _ _ _ _ => ptsd_nil) (by exact fun _ _ _ _ _ => (ped_bm PySem.F.plainAttrs_str PySem.F.slot_str_index PySem.F.type_str_index mt_sindex sim_sindex (ped_gstr G.g_LETTERS) (pad_cons (ped_var 1) pad_nil))))) pad_nil)))))) pssd_nil)
      (pssd_one (psd_ret (ped_call h_number_octets hr (by omega) (pad_cons (ped_var 0) pad_nil))))))))
/-! ### packed -/
abbrev s_packed : Stmt := (topS 37)
abbrev N_packed : List Str := ["thing", "found", "line", "one"]
theorem sc_packed : FnScope N_packed ["thing"] (defScope s_packed) := ⟨rfl, rfl, rfl, by decide +kernel, rfl, by decide +kernel, by decide +kernel⟩
noncomputable def bd_packed (F_own_octets F_sealed : DF) : DS :=
  (dSeq (dPar 1 2 (dCons (dLst (dCons (dC (.int 78)) dNil)) (dCons (dLst (dCons (dVar 0) dNil)) dNil)))
  (dSeq (dWhile (dTest (dOp fNeA (dVar 2) (dLst dNil)))
  (dSeq (dSet 3 (dBM "list" fPop (dVar 2) dNil))
  (dSeq (dDrop (dBM "list" fExt (dVar 1) (dCons (dCall F_own_octets (dCons (dVar 3) dNil)) dNil)))
  (dIfS (dTru (dCB fIsI (dCons (dVar 3) (dCons (dC (.ty "tuple")) dNil)))) (dDrop (dBM "list" fExt (dVar 2) (dCons (dRev (dVar 3)) dNil))) dNext))))
  (dRet (dCall F_sealed (dCons (dCB fTuple (dCons (dVar 1) dNil)) dNil)))))
theorem tm_packed {F_own_octets F_sealed : DF} (G : GF mg) (hr : Room 3 (A.deeper (envOfC "packed" (defScope s_packed) s.heap.objs.size f cdv))) (h_own_octets : HasFnP P w K mg base 3 "own_octets" F_own_octets) (h_sealed : HasFnP P w K mg base 2 "sealed" F_sealed) : PSsD (cxOf CX0 P w K mg base N_packed "packed" (defScope s_packed) f cdv A outer s H E).nox EF (defBody s_packed) (bd_packed F_own_octets F_sealed) :=
  by exact (pssd_cons (psd_par 1 2 rfl sc_packed.nd (pad_cons (ped_lst (pad_cons (ped_gint G.g_MARK_packing) pad_nil)) (pad_cons (ped_lst (pad_cons (ped_var 0) pad_nil)) pad_nil)))
      (pssd_cons (psd_while PassesOwn.never (ptd_cmp (op_neA hr.units) sim_neA (ped_var 2) (ped_lst pad_nil)) (pssd_cons (psd_set 3 sc_packed.nd (ped_bm0 PySem.F.plainAttrs_list PySem.F.slot_list_pop PySem.F.type_list_pop mt_pop sim_pop (ped_var 2)))
      (pssd_cons (psd_expr (ped_bm PySem.F.plainAttrs_list PySem.F.slot_list_extend PySem.F.type_list_extend mt_ext sim_ext (ped_var 1) (pad_cons (ped_call h_own_octets hr (by omega) (pad_cons (ped_var 3) pad_nil)) pad_nil)))
      (pssd_one (psd_if (ptd_tru (ped_callB call_isiA sim_isi G.g_isinstance boot_isinstance (pad_cons (ped_var 3) (pad_cons (ped_bty G.g_tuple PyProof.Rows.boot_tuple) pad_nil)))) (pssd_one (psd_expr (ped_bm PySem.F.plainAttrs_list PySem.F.slot_list_extend PySem.F.type_list_extend mt_ext sim_ext (ped_var 2) (pad_cons (ped_rev (ped_var 3)) pad_nil)))) pssd_nil)))))
      (pssd_one (psd_ret (ped_call h_sealed hr (by omega) (pad_cons (ped_callTy call_tuple_of sim_tuple G.g_tuple PyProof.Rows.boot_tuple (pad_cons (ped_var 1) pad_nil)) pad_nil))))))
/-! ### Reader.__init__ -/
abbrev s_Reader___init__ : Stmt := (inClass (topS 38) 0)
abbrev N_Reader___init__ : List Str := ["self", "octets", "place"]
theorem sc_Reader___init__ : FnScope N_Reader___init__ ["self", "octets", "place"] (defScope s_Reader___init__) := ⟨rfl, rfl, rfl, by decide +kernel, rfl, by decide +kernel, by decide +kernel⟩
noncomputable def bd_Reader___init__ (C_Reader : Addr) : DS :=
  (dAsg (dTup (dCons (dVar 1) (dCons (dVar 2) dNil))) (dgTup 2 (dgCons (dgFld C_Reader "its_octets" (dVar 0)) (dgCons (dgFld C_Reader "its_place" (dVar 0)) dgNil))))
theorem tm_Reader___init__ {C_Reader : Addr} (G : GF mg) (hr : Room 0 (A.deeper (envOfC "Reader.__init__" (defScope s_Reader___init__) s.heap.objs.size f cdv))) (c_Reader : Cls K C_Reader) (n_its_place : NoAttr K C_Reader "its_place") (n_its_octets : NoAttr K C_Reader "its_octets") : PSsD (cxOf CX0 P w K mg base N_Reader___init__ "Reader.__init__" (defScope s_Reader___init__) f cdv A outer s H E).nox EF (defBody s_Reader___init__) (bd_Reader___init__ C_Reader) :=
  by exact (pssd_one (psd_asg (ped_tup (pad_cons (ped_var 1) (pad_cons (ped_var 2) pad_nil))) (pgd_tup rfl (pgsd_cons (pgd_fld c_Reader n_its_octets (ped_var 0)) (pgsd_cons (pgd_fld c_Reader n_its_place (ped_var 0)) pgsd_nil)))))
/-! ### Reader.number -/
abbrev s_Reader_number : Stmt := (inClass (topS 38) 1)
abbrev N_Reader_number : List Str := ["self", "found"]
theorem sc_Reader_number : FnScope N_Reader_number ["self"] (defScope s_Reader_number) := ⟨rfl, rfl, rfl, by decide +kernel, rfl, by decide +kernel, by decide +kernel⟩
noncomputable def bd_Reader_number (C_Reader : Addr) (F_read_integer : DF) : DS :=
  (dSeq (dAsg (dCall F_read_integer (dCons (dFld C_Reader "its_octets" (dVar 0)) (dCons (dFld C_Reader "its_place" (dVar 0)) dNil))) (dgTup 2 (dgCons (dgName 1) (dgCons (dgFld C_Reader "its_place" (dVar 0)) dgNil))))
  (dRet (dVar 1)))
theorem tm_Reader_number {C_Reader : Addr} {F_read_integer : DF} (G : GF mg) (hr : Room 1 (A.deeper (envOfC "Reader.number" (defScope s_Reader_number) s.heap.objs.size f cdv))) (h_read_integer : HasFnP P w K mg base 1 "read_integer" F_read_integer) (c_Reader : Cls K C_Reader) (n_its_place : NoAttr K C_Reader "its_place") (n_its_octets : NoAttr K C_Reader "its_octets") : PSsD (cxOf CX0 P w K mg base N_Reader_number "Reader.number" (defScope s_Reader_number) f cdv A outer s H E).nox EF (defBody s_Reader_number) (bd_Reader_number C_Reader F_read_integer) :=
  by exact (pssd_cons (psd_asg (ped_call h_read_integer hr (by omega) (pad_cons (ped_fld c_Reader n_its_octets (ped_var 0)) (pad_cons (ped_fld c_Reader n_its_place (ped_var 0)) pad_nil))) (pgd_tup rfl (pgsd_cons (pgd_name 1 sc_Reader_number.nd) (pgsd_cons (pgd_fld c_Reader n_its_place (ped_var 0)) pgsd_nil))))
      (pssd_one (psd_ret (ped_var 1))))
/-! ### Reader.tag -/
abbrev s_Reader_tag : Stmt := (inClass (topS 38) 2)
abbrev N_Reader_tag : List Str := ["self", "found"]
theorem sc_Reader_tag : FnScope N_Reader_tag ["self"] (defScope s_Reader_tag) := ⟨rfl, rfl, rfl, by decide +kernel, rfl, by decide +kernel, by decide +kernel⟩
noncomputable def bd_Reader_tag (C_Reader : Addr) : DS :=
  (dSeq (dIfS (dTest (dOp fEqA (dFld C_Reader "its_place" (dVar 0)) (dCB fLen (dCons (dFld C_Reader "its_octets" (dVar 0)) dNil)))) dNever dNext)
  (dSeq (dSet 1 (dOp fIx (dFld C_Reader "its_octets" (dVar 0)) (dFld C_Reader "its_place" (dVar 0))))
  (dSeq (dIfS (dTest (dOp fGt (dVar 1) (dC (.int 6)))) dNever dNext)
  (dSeq (dAugFld C_Reader "its_place" (dVar 0) (dC (.int 1)))
  (dRet (dVar 1))))))
theorem tm_Reader_tag {C_Reader : Addr} (G : GF mg) (hr : Room 0 (A.deeper (envOfC "Reader.tag" (defScope s_Reader_tag) s.heap.objs.size f cdv))) (c_Reader : Cls K C_Reader) (n_its_place : NoAttr K C_Reader "its_place") (n_its_octets : NoAttr K C_Reader "its_octets") : PSsD (cxOf CX0 P w K mg base N_Reader_tag "Reader.tag" (defScope s_Reader_tag) f cdv A outer s H E).nox EF (defBody s_Reader_tag) (bd_Reader_tag C_Reader) :=
  by exact (pssd_cons (psd_if (ptd_cmp (op_eqA hr.units) sim_eqA (ped_fld c_Reader n_its_place (ped_var 0)) (ped_callB call_len sim_len G.g_len boot_len (pad_cons (ped_fld c_Reader n_its_octets (ped_var 0)) pad_nil))) (pssd_one psd_never) pssd_nil)
      (pssd_cons (psd_set 1 sc_Reader_tag.nd (ped_ix (ped_fld c_Reader n_its_octets (ped_var 0)) (ped_fld c_Reader n_its_place (ped_var 0))))
      (pssd_cons (psd_if (ptd_cmp op_gt sim_gt (ped_var 1) (ped_gint G.g_ROW)) (pssd_one psd_never) pssd_nil)
      (pssd_cons (psd_fldaug c_Reader n_its_place (ped_var 0) ped_int)
      (pssd_one (psd_ret (ped_var 1)))))))
/-! ### Reader.letter -/
abbrev s_Reader_letter : Stmt := (inClass (topS 38) 3)
abbrev N_Reader_letter : List Str := ["self", "found"]
theorem sc_Reader_letter : FnScope N_Reader_letter ["self"] (defScope s_Reader_letter) := ⟨rfl, rfl, rfl, by decide +kernel, rfl, by decide +kernel, by decide +kernel⟩
noncomputable def bd_Reader_letter (C_Reader : Addr) : DS :=
  (dSeq (dIfS (dTest (dOp fEqA (dFld C_Reader "its_place" (dVar 0)) (dCB fLen (dCons (dFld C_Reader "its_octets" (dVar 0)) dNil)))) dNever dNext)
  (dSeq (dSet 1 (dOp fIx (dFld C_Reader "its_octets" (dVar 0)) (dFld C_Reader "its_place" (dVar 0))))
  (dSeq (dIfS (dTest (dOp fGe (dVar 1) (dCB fLen (dCons (dC (.str "abcdefghijklmnopqrstuvwxyz")) dNil)))) dNever dNext)
  (dSeq (dAugFld C_Reader "its_place" (dVar 0) (dC (.int 1)))
  (dRet (dOp fIx (dC (.str "abcdefghijklmnopqrstuvwxyz")) (dVar 1)))))))
theorem tm_Reader_letter {C_Reader : Addr} (G : GF mg) (hr : Room 0 (A.deeper (envOfC "Reader.letter" (defScope s_Reader_letter) s.heap.objs.size f cdv))) (c_Reader : Cls K C_Reader) (n_its_place : NoAttr K C_Reader "its_place") (n_its_octets : NoAttr K C_Reader "its_octets") : PSsD (cxOf CX0 P w K mg base N_Reader_letter "Reader.letter" (defScope s_Reader_letter) f cdv A outer s H E).nox EF (defBody s_Reader_letter) (bd_Reader_letter C_Reader) :=
  by exact (pssd_cons (psd_if (ptd_cmp (op_eqA hr.units) sim_eqA (ped_fld c_Reader n_its_place (ped_var 0)) (ped_callB call_len sim_len G.g_len boot_len (pad_cons (ped_fld c_Reader n_its_octets (ped_var 0)) pad_nil))) (pssd_one psd_never) pssd_nil)
      (pssd_cons (psd_set 1 sc_Reader_letter.nd (ped_ix (ped_fld c_Reader n_its_octets (ped_var 0)) (ped_fld c_Reader n_its_place (ped_var 0))))
      (pssd_cons (psd_if (ptd_cmp op_ge sim_ge (ped_var 1) (ped_callB call_len sim_len G.g_len boot_len (pad_cons (ped_gstr G.g_LETTERS) pad_nil))) (pssd_one psd_never) pssd_nil)
      (pssd_cons (psd_fldaug c_Reader n_its_place (ped_var 0) ped_int)
      (pssd_one (psd_ret (ped_ix (ped_gstr G.g_LETTERS) (ped_var 1))))))))
/-! ### Reader.word -/
abbrev s_Reader_word : Stmt := (inClass (topS 38) 4)
abbrev N_Reader_word : List Str := ["self", "place", "many", "turn"]
theorem sc_Reader_word : FnScope N_Reader_word ["self"] (defScope s_Reader_word) := ⟨rfl, rfl, rfl, by decide +kernel, rfl, by decide +kernel, by decide +kernel⟩
noncomputable def bd_Reader_word (C_Reader : Addr) (F_Reader_number F_Reader_letter : DF) : DS :=
  (dSeq (dPar 1 2 (dCons (dFld C_Reader "its_place" (dVar 0)) (dCons (dMeth C_Reader "number" F_Reader_number (dVar 0) dNil) dNil)))
  (dSeq (dIfS (dTest (dOp fGt (dVar 2) (dC (.int 200)))) dNever dNext)
  (dRet (dBM "str" fJoin (dC (.str "")) (dCons (dLc [3] (diRng1 (dCons (dVar 2) dNil)) (cgName 3) dYes (dMeth C_Reader "letter" F_Reader_letter (dVar 0) dNil)) dNil)))))
theorem tm_Reader_word {C_Reader : Addr} {F_Reader_number F_Reader_letter : DF} (G : GF mg) (hr : Room 2 (A.deeper (envOfC "Reader.word" (defScope s_Reader_word) s.heap.objs.size f cdv))) (h_Reader_number : HasMP P w K mg base 2 C_Reader "number" F_Reader_number) (h_Reader_letter : HasMP P w K mg base 1 C_Reader "letter" F_Reader_letter) (c_Reader : Cls K C_Reader) (n_its_place : NoAttr K C_Reader "its_place") : PSsD (cxOf CX0 P w K mg base N_Reader_word "Reader.word" (defScope s_Reader_word) f cdv A outer s H E).nox EF (defBody s_Reader_word) (bd_Reader_word C_Reader F_Reader_number F_Reader_letter) :=
  by exact (pssd_cons (psd_par 1 2 rfl sc_Reader_word.nd (pad_cons (ped_fld c_Reader n_its_place (ped_var 0)) (pad_cons (ped_meth0 h_Reader_number hr (by omega) (ped_var 0)) pad_nil)))
      (pssd_cons (psd_if (ptd_cmp op_gt sim_gt (ped_var 2) (ped_gint G.g_MOST_LETTERS)) (pssd_one psd_never) pssd_nil)
      (pssd_one (psd_ret (ped_bm PySem.F.plainAttrs_str PySem.F.slot_str_join PySem.F.type_str_join mt_joinD sim_join ped_str (pad_cons (by exact (ped_lc (own := [("turn", 3)]) (g := gName 3) rfl sc_Reader_word.nd (pid_range1 G.g_range (pad_cons (ped_var 2) pad_nil)) (blkOk_by (own := [("turn", 3)]) (N := N_Reader_word) (sc := defScope s_Reader_word) (by decide +kernel)) (by exact fun _ _ _ _ _ => (pg_name (i := 3) sc_Reader_word.nd rfl (Or.inl rfl))) (by exact (tg_name (j := 3))) (by exact fun _ _ _ _ _ => ptsd_nil) (by exact fun _ _ _ _ _ => (ped_meth0 h_Reader_letter hr (by omega) (ped_var 0))))) pad_nil))))))
/-! ### Reader.simple -/
abbrev s_Reader_simple : Stmt := (inClass (topS 38) 5)
abbrev N_Reader_simple : List Str := ["self", "tag", "found"]
theorem sc_Reader_simple : FnScope N_Reader_simple ["self", "tag"] (defScope s_Reader_simple) := ⟨rfl, rfl, rfl, by decide +kernel, rfl, by decide +kernel, by decide +kernel⟩
noncomputable def bd_Reader_simple (C_Reader : Addr) (F_Reader_word F_Reader_number : DF) : DS :=
  (dSeq (dIfS (dTest (dInK T_SIMPLE (dVar 1))) (dRet (dGetK T_SIMPLE (dVar 1))) dNext)
  (dSeq (dIfS (dTest (dOp fEqA (dVar 1) (dC (.int 5)))) (dRet (dMeth C_Reader "word" F_Reader_word (dVar 0) dNil)) dNext)
  (dSeq (dSet 2 (dMeth C_Reader "number" F_Reader_number (dVar 0) dNil))
  (dRet (dIf (dTest (dOp fEqA (dVar 1) (dC (.int 3)))) (dVar 2) (dOp fSub (dOp fSub (dC (.int 0)) (dC (.int 1))) (dVar 2)))))))
theorem tm_Reader_simple {C_Reader : Addr} {F_Reader_word F_Reader_number : DF} (G : GF mg) (hr : Room 3 (A.deeper (envOfC "Reader.simple" (defScope s_Reader_simple) s.heap.objs.size f cdv))) (h_Reader_word : HasMP P w K mg base 3 C_Reader "word" F_Reader_word) (h_Reader_number : HasMP P w K mg base 2 C_Reader "number" F_Reader_number) {A_SIMPLE : Addr} (m_SIMPLE : mg "SIMPLE" = some (.ref A_SIMPLE)) (k_SIMPLE : KDictI K A_SIMPLE T_SIMPLE) : PSsD (cxOf CX0 P w K mg base N_Reader_simple "Reader.simple" (defScope s_Reader_simple) f cdv A outer s H E).nox EF (defBody s_Reader_simple) (bd_Reader_simple C_Reader F_Reader_word F_Reader_number) :=
  by exact (pssd_cons (psd_if (ptd_inK m_SIMPLE k_SIMPLE (ped_var 1)) (pssd_one (psd_ret (ped_getK m_SIMPLE k_SIMPLE (ped_var 1)))) pssd_nil)
      (pssd_cons (psd_if (ptd_cmp (op_eqA hr.units) sim_eqA (ped_var 1) (ped_gint G.g_WORD)) (pssd_one (psd_ret (ped_meth0 h_Reader_word hr (by omega) (ped_var 0)))) pssd_nil)
      (pssd_cons (psd_set 2 sc_Reader_simple.nd (ped_meth0 h_Reader_number hr (by omega) (ped_var 0)))
      (pssd_one (psd_ret (ped_if (ptd_cmp (op_eqA hr.units) sim_eqA (ped_var 1) (ped_gint G.g_NUMBER)) (ped_var 2) (ped_op op_sub sim_sub (ped_op op_sub sim_sub ped_int ped_int) (ped_var 2))))))))
/-! ### Reader.thing -/
abbrev s_Reader_thing : Stmt := (inClass (topS 38) 6)
abbrev N_Reader_thing : List Str := ["self", "waiting", "found", "tag", "many", "members"]
theorem sc_Reader_thing : FnScope N_Reader_thing ["self"] (defScope s_Reader_thing) := ⟨rfl, rfl, rfl, by decide +kernel, rfl, by decide +kernel, by decide +kernel⟩
noncomputable def bd_Reader_thing (C_Reader : Addr) (F_Reader_tag F_Reader_number F_Reader_simple : DF) : DS :=
  (dSeq (dPar 1 2 (dCons (dLst dNil) (dCons (dC .non) dNil)))
  (dWhile (dTru (dC (.bl true)))
  (dSeq (dSet 3 (dMeth C_Reader "tag" F_Reader_tag (dVar 0) dNil))
  (dSeq (dIfS (dTest (dOp fEqA (dVar 3) (dC (.int 6)))) (dSeq (dSet 4 (dMeth C_Reader "number" F_Reader_number (dVar 0) dNil))
  (dSeq (dIfS (dTest (dOp fGt (dVar 4) (dC (.int 0)))) (dSeq (dDrop (dBM "list" fAppend (dVar 1) (dCons (dTup (dCons (dLst dNil) (dCons (dVar 4) dNil))) dNil)))
  dCont) dNext)
  (dSet 2 (dTup dNil)))) (dSet 2 (dMeth C_Reader "simple" F_Reader_simple (dVar 0) (dCons (dVar 3) dNil))))
  (dSeq (dWhile (dTest (dOp fNeA (dVar 1) (dLst dNil)))
  (dSeq (dAsg (dOp fIx (dVar 1) (dUn fNeg (dC (.int 1)))) (dgTup 2 (dgCons (dgName 5) (dgCons (dgName 4) dgNil))))
  (dSeq (dDrop (dBM "list" fAppend (dVar 5) (dCons (dVar 2) dNil)))
  (dSeq (dIfS (dTest (dOp fLt (dCB fLen (dCons (dVar 5) dNil)) (dVar 4))) dBreak dNext)
  (dSeq (dDrop (dBM "list" fPop (dVar 1) dNil))
  (dSet 2 (dCB fTuple (dCons (dVar 5) dNil))))))))
  (dIfS (dTest (dOp fEqA (dVar 1) (dLst dNil))) (dRet (dVar 2)) dNext))))))
theorem tm_Reader_thing {C_Reader : Addr} {F_Reader_tag F_Reader_number F_Reader_simple : DF} (G : GF mg) (hr : Room 4 (A.deeper (envOfC "Reader.thing" (defScope s_Reader_thing) s.heap.objs.size f cdv))) (h_Reader_tag : HasMP P w K mg base 1 C_Reader "tag" F_Reader_tag) (h_Reader_number : HasMP P w K mg base 2 C_Reader "number" F_Reader_number) (h_Reader_simple : HasMP P w K mg base 4 C_Reader "simple" F_Reader_simple) : PSsD (cxOf CX0 P w K mg base N_Reader_thing "Reader.thing" (defScope s_Reader_thing) f cdv A outer s H E).nox EF (defBody s_Reader_thing) (bd_Reader_thing C_Reader F_Reader_tag F_Reader_number F_Reader_simple) :=
  by exact (pssd_cons (psd_par 1 2 rfl sc_Reader_thing.nd (pad_cons (ped_lst pad_nil) (pad_cons ped_non pad_nil)))
      (pssd_one (psd_while PassesOwn.never (ptd_tru ped_bl) (pssd_cons (psd_set 3 sc_Reader_thing.nd (ped_meth0 h_Reader_tag hr (by omega) (ped_var 0)))
      (pssd_cons (psd_if (ptd_cmp (op_eqA hr.units) sim_eqA (ped_var 3) (ped_gint G.g_ROW)) (pssd_cons (psd_set 4 sc_Reader_thing.nd (ped_meth0 h_Reader_number hr (by omega) (ped_var 0)))
      (pssd_cons (psd_if (ptd_cmp op_gt sim_gt (ped_var 4) ped_int) (pssd_cons (psd_expr (ped_bm PySem.F.plainAttrs_list PySem.F.slot_list_append PySem.F.type_list_append mt_append sim_append (ped_var 1) (pad_cons (ped_tup (pad_cons (ped_lst pad_nil) (pad_cons (ped_var 4) pad_nil))) pad_nil)))
      (pssd_one psd_continue)) pssd_nil)
      (pssd_one (psd_set 2 sc_Reader_thing.nd (ped_tup pad_nil))))) (pssd_one (psd_set 2 sc_Reader_thing.nd (ped_meth h_Reader_simple hr (by omega) (ped_var 0) (pad_cons (ped_var 3) pad_nil)))))
      (pssd_cons (psd_while PassesOwn.never (ptd_cmp (op_neA hr.units) sim_neA (ped_var 1) (ped_lst pad_nil)) (pssd_cons (psd_asg (ped_ix (ped_var 1) (ped_un un_neg sim_neg ped_int)) (pgd_tup rfl (pgsd_cons (pgd_name 5 sc_Reader_thing.nd) (pgsd_cons (pgd_name 4 sc_Reader_thing.nd) pgsd_nil))))
      (pssd_cons (psd_expr (ped_bm PySem.F.plainAttrs_list PySem.F.slot_list_append PySem.F.type_list_append mt_append sim_append (ped_var 5) (pad_cons (ped_var 2) pad_nil)))
      (pssd_cons (psd_if (ptd_cmp op_lt sim_lt (ped_callB call_len sim_len G.g_len boot_len (pad_cons (ped_var 5) pad_nil)) (ped_var 4)) (pssd_one psd_break) pssd_nil)
      (pssd_cons (psd_expr (ped_bm0 PySem.F.plainAttrs_list PySem.F.slot_list_pop PySem.F.type_list_pop mt_pop sim_pop (ped_var 1)))
      (pssd_one (psd_set 2 sc_Reader_thing.nd (ped_callTy call_tuple_of sim_tuple G.g_tuple PyProof.Rows.boot_tuple (pad_cons (ped_var 5) pad_nil)))))))))
      (pssd_one (psd_if (ptd_cmp (op_eqA hr.units) sim_eqA (ped_var 1) (ped_lst pad_nil)) (pssd_one (psd_ret (ped_var 2))) pssd_nil))))))))
/-! ### opened -/
abbrev s_opened : Stmt := (topS 39)
abbrev N_opened : List Str := ["thing", "index", "one"]
theorem sc_opened : FnScope N_opened ["thing"] (defScope s_opened) := ⟨rfl, rfl, rfl, by decide +kernel, rfl, by decide +kernel, by decide +kernel⟩
noncomputable def bd_opened (C_Reader : Addr) (F_is_within F_is_sealed F_Reader___init__ : DF) : DS :=
  (dSeq (dIfS (dNotT (dTru (dCB fIsI (dCons (dVar 0) (dCons (dC (.ty "tuple")) dNil))))) dNever dNext)
  (dSeq (dFor (diEnum (dCons (dVar 0) dNil)) (dgTup 2 (dgCons (dgName 1) (dgCons (dgName 2) dgNil)))
  (dIfS (dNotT (dTru (dCall F_is_within (dCons (dVar 2) (dCons (dC (.int 0)) (dCons (dC (.int 255)) dNil)))))) dNever dNext))
  (dSeq (dIfS (dNotT (dTest (dChain fLe fLe (dC (.int 6)) (dCB fLen (dCons (dVar 0) dNil)) (dC (.int 400000))))) dNever dNext)
  (dSeq (dIfS (dTest (dOp fNeA (dOp fIx (dVar 0) (dC (.int 0))) (dC (.int 78)))) dNever dNext)
  (dSeq (dIfS (dNotT (dTru (dCall F_is_sealed (dCons (dVar 0) dNil)))) dNever dNext)
  (dRet (dMake C_Reader F_Reader___init__ (dCons (dSl (dVar 0) dNoP (dPart (dOp fSub (dCB fLen (dCons (dVar 0) dNil)) (dC (.int 4))))) (dCons (dC (.int 1)) dNil)))))))))
theorem tm_opened {C_Reader : Addr} {F_is_within F_is_sealed F_Reader___init__ : DF} (G : GF mg) (hr : Room 3 (A.deeper (envOfC "opened" (defScope s_opened) s.heap.objs.size f cdv))) (h_is_within : HasFnP P w K mg base 2 "is_within" F_is_within) (h_is_sealed : HasFnP P w K mg base 3 "is_sealed" F_is_sealed) (h_Reader___init__ : HasMkP P w K mg base 1 "Reader" C_Reader F_Reader___init__) : PSsD (cxOf CX0 P w K mg base N_opened "opened" (defScope s_opened) f cdv A outer s H E).nox EF (defBody s_opened) (bd_opened C_Reader F_is_within F_is_sealed F_Reader___init__) :=
  by exact (pssd_cons (psd_if (ptd_not (ptd_tru (ped_callB call_isiA sim_isi G.g_isinstance boot_isinstance (pad_cons (ped_var 0) (pad_cons (ped_bty G.g_tuple PyProof.Rows.boot_tuple) pad_nil))))) (pssd_one psd_never) pssd_nil)
      (pssd_cons (psd_for PassesOwn.never rfl (pid_enum G.g_enumerate (pad_cons (ped_var 0) pad_nil)) (pgd_tup rfl (pgsd_cons (pgd_name 1 sc_opened.nd) (pgsd_cons (pgd_name 2 sc_opened.nd) pgsd_nil))) (pssd_one (psd_if (ptd_not (ptd_tru (ped_call h_is_within hr (by omega) (pad_cons (ped_var 2) (pad_cons ped_int (pad_cons ped_int pad_nil)))))) (pssd_one psd_never) pssd_nil)))
      (pssd_cons (psd_if (ptd_not (ptd_chain op_le sim_le op_le sim_le (ped_gint G.g_LEAST) (ped_callB call_len sim_len G.g_len boot_len (pad_cons (ped_var 0) pad_nil)) (ped_gint G.g_MOST_OCTETS))) (pssd_one psd_never) pssd_nil)
      (pssd_cons (psd_if (ptd_cmp (op_neA hr.units) sim_neA (ped_ix (ped_var 0) ped_int) (ped_gint G.g_MARK_packing)) (pssd_one psd_never) pssd_nil)
      (pssd_cons (psd_if (ptd_not (ptd_tru (ped_call h_is_sealed hr (by omega) (pad_cons (ped_var 0) pad_nil)))) (pssd_one psd_never) pssd_nil)
      (pssd_one (psd_ret (ped_make h_Reader___init__ hr (by omega) (pad_cons (ped_slice (ped_var 0) pod_none (pod_some (ped_op op_sub sim_sub (ped_callB call_len sim_len G.g_len boot_len (pad_cons (ped_var 0) pad_nil)) (ped_gint G.g_CHECK)))) (pad_cons ped_int pad_nil))))))))))
/-! ### unpacked -/
abbrev s_unpacked : Stmt := (topS 40)
abbrev N_unpacked : List Str := ["thing", "reader", "found"]
theorem sc_unpacked : FnScope N_unpacked ["thing"] (defScope s_unpacked) := ⟨rfl, rfl, rfl, by decide +kernel, rfl, by decide +kernel, by decide +kernel⟩
noncomputable def bd_unpacked (C_Reader : Addr) (F_opened F_Reader_thing F_is_plain : DF) : DS :=
  (dSeq (dSet 1 (dCall F_opened (dCons (dVar 0) dNil)))
  (dSeq (dSet 2 (dMeth C_Reader "thing" F_Reader_thing (dVar 1) dNil))
  (dSeq (dIfS (dTest (dOp fLt (dFld C_Reader "its_place" (dVar 1)) (dCB fLen (dCons (dFld C_Reader "its_octets" (dVar 1)) dNil)))) dNever dNext)
  (dSeq (dIfS (dNotT (dTru (dCall F_is_plain (dCons (dVar 2) dNil)))) dNever dNext)
  (dRet (dVar 2))))))
theorem tm_unpacked {C_Reader : Addr} {F_opened F_Reader_thing F_is_plain : DF} (G : GF mg) (hr : Room 5 (A.deeper (envOfC "unpacked" (defScope s_unpacked) s.heap.objs.size f cdv))) (h_opened : HasFnP P w K mg base 4 "opened" F_opened) (h_Reader_thing : HasMP P w K mg base 5 C_Reader "thing" F_Reader_thing) (h_is_plain : HasFnP P w K mg base 3 "is_plain" F_is_plain) (c_Reader : Cls K C_Reader) (n_its_place : NoAttr K C_Reader "its_place") (n_its_octets : NoAttr K C_Reader "its_octets") : PSsD (cxOf CX0 P w K mg base N_unpacked "unpacked" (defScope s_unpacked) f cdv A outer s H E).nox EF (defBody s_unpacked) (bd_unpacked C_Reader F_opened F_Reader_thing F_is_plain) :=
  by exact (pssd_cons (psd_set 1 sc_unpacked.nd (ped_call h_opened hr (by omega) (pad_cons (ped_var 0) pad_nil)))
      (pssd_cons (psd_set 2 sc_unpacked.nd (ped_meth0 h_Reader_thing hr (by omega) (ped_var 1)))
      (pssd_cons (psd_if (ptd_cmp op_lt sim_lt (ped_fld c_Reader n_its_place (ped_var 1)) (ped_callB call_len sim_len G.g_len boot_len (pad_cons (ped_fld c_Reader n_its_octets (ped_var 1)) pad_nil))) (pssd_one psd_never) pssd_nil)
      (pssd_cons (psd_if (ptd_not (ptd_tru (ped_call h_is_plain hr (by omega) (pad_cons (ped_var 2) pad_nil)))) (pssd_one psd_never) pssd_nil)
      (pssd_one (psd_ret (ped_var 2)))))))
/-! ### first_unlike -/
abbrev s_first_unlike : Stmt := (topS 41)
abbrev N_first_unlike : List Str := ["one", "other", "at", "mine", "its"]
theorem sc_first_unlike : FnScope N_first_unlike ["one", "other"] (defScope s_first_unlike) := ⟨rfl, rfl, rfl, by decide +kernel, rfl, by decide +kernel, by decide +kernel⟩
noncomputable def bd_first_unlike : DS :=
  (dSeq (dFor (diEnumZip (dCons (dVar 0) (dCons (dVar 1) dNil))) (dgTup 2 (dgCons (dgName 2) (dgCons (dgTup 2 (dgCons (dgName 3) (dgCons (dgName 4) dgNil))) dgNil)))
  (dIfS (dTest (dOp fNeA (dVar 3) (dVar 4))) (dRet (dVar 2)) dNext))
  (dRet (dIf (dTest (dOp fEqA (dCB fLen (dCons (dVar 0) dNil)) (dCB fLen (dCons (dVar 1) dNil)))) (dC .non) (dCB fMin2 (dCons (dCB fLen (dCons (dVar 0) dNil)) (dCons (dCB fLen (dCons (dVar 1) dNil)) dNil))))))
theorem tm_first_unlike (G : GF mg) (hr : Room 0 (A.deeper (envOfC "first_unlike" (defScope s_first_unlike) s.heap.objs.size f cdv))) : PSsD (cxOf CX0 P w K mg base N_first_unlike "first_unlike" (defScope s_first_unlike) f cdv A outer s H E).nox EF (defBody s_first_unlike) (bd_first_unlike ) :=
  by exact (pssd_cons (psd_for PassesOwn.never rfl (pid_enumZip G.g_enumerate G.g_zip (pad_cons (ped_var 0) (pad_cons (ped_var 1) pad_nil))) (pgd_tup rfl (pgsd_cons (pgd_name 2 sc_first_unlike.nd) (pgsd_cons (pgd_tup rfl (pgsd_cons (pgd_name 3 sc_first_unlike.nd) (pgsd_cons (pgd_name 4 sc_first_unlike.nd) pgsd_nil))) pgsd_nil))) (pssd_one (psd_if (ptd_cmp (op_neA hr.units) sim_neA (ped_var 3) (ped_var 4)) (pssd_one (psd_ret (ped_var 2))) pssd_nil)))
      (pssd_one (psd_ret (ped_if (ptd_cmp (op_eqA hr.units) sim_eqA (ped_callB call_len sim_len G.g_len boot_len (pad_cons (ped_var 0) pad_nil)) (ped_callB call_len sim_len G.g_len boot_len (pad_cons (ped_var 1) pad_nil))) ped_non (ped_callB (call_min2 rfl) sim_min2 G.g_min boot_min (pad_cons (ped_callB call_len sim_len G.g_len boot_len (pad_cons (ped_var 0) pad_nil)) (pad_cons (ped_callB call_len sim_len G.g_len boot_len (pad_cons (ped_var 1) pad_nil)) pad_nil)))))))
/-! ### spoilt -/
abbrev s_spoilt : Stmt := (topS 42)
abbrev N_spoilt : List Str := ["octets", "place", "octet"]
theorem sc_spoilt : FnScope N_spoilt ["octets", "place", "octet"] (defScope s_spoilt) := ⟨rfl, rfl, rfl, by decide +kernel, rfl, by decide +kernel, by decide +kernel⟩
noncomputable def bd_spoilt : DS :=
  (dRet (dTup (dStar (dSl (dVar 0) dNoP (dPart (dVar 1))) (dCons (dVar 2) (dStar (dSl (dVar 0) (dPart (dOp fAdd (dVar 1) (dC (.int 1)))) dNoP) dNil)))))
theorem tm_spoilt (G : GF mg) (hr : Room 0 (A.deeper (envOfC "spoilt" (defScope s_spoilt) s.heap.objs.size f cdv))) : PSsD (cxOf CX0 P w K mg base N_spoilt "spoilt" (defScope s_spoilt) f cdv A outer s H E).nox EF (defBody s_spoilt) (bd_spoilt ) :=
  by exact (pssd_one (psd_ret (ped_tup (pad_star (ped_slice (ped_var 0) pod_none (pod_some (ped_var 1))) (pad_cons (ped_var 2) (pad_star (ped_slice (ped_var 0) (pod_some (ped_op op_addAll sim_add (ped_var 1) ped_int)) pod_none) pad_nil))))))
/-! ### is_deed -/
abbrev s_is_deed : Stmt := (topS 45)
abbrev N_is_deed : List Str := ["thing"]
theorem sc_is_deed : FnScope N_is_deed ["thing"] (defScope s_is_deed) := ⟨rfl, rfl, rfl, by decide +kernel, rfl, by decide +kernel, by decide +kernel⟩
noncomputable def bd_is_deed (F_is_plain F_packed : DF) : DS :=
  (dSeq (dIfS (dOrT (dNotT (dTru (dCB fIsI (dCons (dVar 0) (dCons (dC (.ty "tuple")) dNil))))) (dOrT (dTest (dOp fEqA (dVar 0) (dTup dNil))) (dNotT (dTru (dCB fIsI (dCons (dOp fIx (dVar 0) (dC (.int 0))) (dCons (dC (.ty "str")) dNil))))))) (dRet (dC (.bl false))) dNext)
  (dRet (dAnd (dOp fNeA (dOp fIx (dVar 0) (dC (.int 0))) (dC (.str ""))) (dAnd (dCall F_is_plain (dCons (dVar 0) dNil)) (dOp fLe (dCB fLen (dCons (dCall F_packed (dCons (dVar 0) dNil)) dNil)) (dC (.int 400000)))))))
theorem tm_is_deed {F_is_plain F_packed : DF} (G : GF mg) (hr : Room 4 (A.deeper (envOfC "is_deed" (defScope s_is_deed) s.heap.objs.size f cdv))) (h_is_plain : HasFnP P w K mg base 3 "is_plain" F_is_plain) (h_packed : HasFnP P w K mg base 4 "packed" F_packed) : PSsD (cxOf CX0 P w K mg base N_is_deed "is_deed" (defScope s_is_deed) f cdv A outer s H E).nox EF (defBody s_is_deed) (bd_is_deed F_is_plain F_packed) :=
  by exact (pssd_cons (psd_if (ptd_bool (pwd_or (ptd_not (ptd_tru (ped_callB call_isiA sim_isi G.g_isinstance boot_isinstance (pad_cons (ped_var 0) (pad_cons (ped_bty G.g_tuple PyProof.Rows.boot_tuple) pad_nil))))) (pwd_or (ptd_cmp (op_eqA hr.units) sim_eqA (ped_var 0) (ped_tup pad_nil)) (pwd_or1 (ptd_not (ptd_tru (ped_callB call_isiA sim_isi G.g_isinstance boot_isinstance (pad_cons (ped_ix (ped_var 0) ped_int) (pad_cons (ped_bty G.g_str PyProof.Rows.boot_str) pad_nil))))))))) (pssd_one (psd_ret ped_bl)) pssd_nil)
      (pssd_one (psd_ret (ped_and (ped_cmp (op_neA hr.units) sim_neA (ped_ix (ped_var 0) ped_int) ped_str) (ped_and (ped_call h_is_plain hr (by omega) (pad_cons (ped_var 0) pad_nil)) (ped_one (ped_cmp op_le sim_le (ped_callB call_len sim_len G.g_len boot_len (pad_cons (ped_call h_packed hr (by omega) (pad_cons (ped_var 0) pad_nil)) pad_nil)) (ped_gint G.g_MOST_OCTETS))))))))
/-! ### record_of -/
abbrev s_record_of : Stmt := (topS 46)
abbrev N_record_of : List Str := ["deed", "body"]
theorem sc_record_of : FnScope N_record_of ["deed"] (defScope s_record_of) := ⟨rfl, rfl, rfl, by decide +kernel, rfl, by decide +kernel, by decide +kernel⟩
noncomputable def bd_record_of (F_packed F_integer_octets F_sealed : DF) : DS :=
  (dSeq (dSet 1 (dCall F_packed (dCons (dVar 0) dNil)))
  (dRet (dCall F_sealed (dCons (dTup (dCons (dC (.int 76)) (dStar (dCall F_integer_octets (dCons (dCB fLen (dCons (dVar 1) dNil)) dNil)) (dStar (dVar 1) dNil)))) dNil))))
theorem tm_record_of {F_packed F_integer_octets F_sealed : DF} (G : GF mg) (hr : Room 4 (A.deeper (envOfC "record_of" (defScope s_record_of) s.heap.objs.size f cdv))) (h_packed : HasFnP P w K mg base 4 "packed" F_packed) (h_integer_octets : HasFnP P w K mg base 1 "integer_octets" F_integer_octets) (h_sealed : HasFnP P w K mg base 2 "sealed" F_sealed) : PSsD (cxOf CX0 P w K mg base N_record_of "record_of" (defScope s_record_of) f cdv A outer s H E).nox EF (defBody s_record_of) (bd_record_of F_packed F_integer_octets F_sealed) :=
  by exact (pssd_cons (psd_set 1 sc_record_of.nd (ped_call h_packed hr (by omega) (pad_cons (ped_var 0) pad_nil)))
      (pssd_one (psd_ret (ped_call h_sealed hr (by omega) (pad_cons (ped_tup (pad_cons (ped_gint G.g_MARK_journal) (pad_star (ped_call h_integer_octets hr (by omega) (pad_cons (ped_callB call_len sim_len G.g_len boot_len (pad_cons (ped_var 1) pad_nil)) pad_nil)) (pad_star (ped_var 1) pad_nil)))) pad_nil)))))
/-! ### whole_record -/
abbrev s_whole_record : Stmt := (topS 47)
abbrev N_whole_record : List Str := ["octets", "place", "many", "begin", "behind", "deed"]
theorem sc_whole_record : FnScope N_whole_record ["octets", "place"] (defScope s_whole_record) := ⟨rfl, rfl, rfl, by decide +kernel, rfl, by decide +kernel, by decide +kernel⟩
noncomputable def bd_whole_record (F_read_integer F_is_sealed F_unpacked F_is_deed : DF) : DS :=
  (dSeq (dAsg (dCall F_read_integer (dCons (dVar 0) (dCons (dOp fAdd (dVar 1) (dC (.int 1))) dNil))) (dgTup 2 (dgCons (dgName 2) (dgCons (dgName 3) dgNil))))
  (dSeq (dSet 4 (dOp fAdd (dOp fAdd (dVar 3) (dVar 2)) (dC (.int 4))))
  (dSeq (dIfS (dOrT (dTest (dOp fGt (dVar 4) (dCB fLen (dCons (dVar 0) dNil)))) (dNotT (dTru (dCall F_is_sealed (dCons (dSl (dVar 0) (dPart (dVar 1)) (dPart (dVar 4))) dNil))))) (dRet (dC .non)) dNext)
  (dSeq (dSet 5 (dCall F_unpacked (dCons (dSl (dVar 0) (dPart (dVar 3)) (dPart (dOp fAdd (dVar 3) (dVar 2)))) dNil)))
  (dRet (dIf (dTru (dCall F_is_deed (dCons (dVar 5) dNil))) (dTup (dCons (dVar 5) (dCons (dVar 4) dNil))) (dC .non)))))))
theorem tm_whole_record {F_read_integer F_is_sealed F_unpacked F_is_deed : DF} (G : GF mg) (hr : Room 6 (A.deeper (envOfC "whole_record" (defScope s_whole_record) s.heap.objs.size f cdv))) (h_read_integer : HasFnP P w K mg base 1 "read_integer" F_read_integer) (h_is_sealed : HasFnP P w K mg base 3 "is_sealed" F_is_sealed) (h_unpacked : HasFnP P w K mg base 6 "unpacked" F_unpacked) (h_is_deed : HasFnP P w K mg base 5 "is_deed" F_is_deed) : PSsD (cxOf CX0 P w K mg base N_whole_record "whole_record" (defScope s_whole_record) f cdv A outer s H E).nox EF (defBody s_whole_record) (bd_whole_record F_read_integer F_is_sealed F_unpacked F_is_deed) :=
  by exact (pssd_cons (psd_asg (ped_call h_read_integer hr (by omega) (pad_cons (ped_var 0) (pad_cons (ped_op op_addAll sim_add (ped_var 1) ped_int) pad_nil))) (pgd_tup rfl (pgsd_cons (pgd_name 2 sc_whole_record.nd) (pgsd_cons (pgd_name 3 sc_whole_record.nd) pgsd_nil))))
      (pssd_cons (psd_set 4 sc_whole_record.nd (ped_op op_addAll sim_add (ped_op op_addAll sim_add (ped_var 3) (ped_var 2)) (ped_gint G.g_CHECK)))
      (pssd_cons (psd_if (ptd_bool (pwd_or (ptd_cmp op_gt sim_gt (ped_var 4) (ped_callB call_len sim_len G.g_len boot_len (pad_cons (ped_var 0) pad_nil))) (pwd_or1 (ptd_not (ptd_tru (ped_call h_is_sealed hr (by omega) (pad_cons (ped_slice (ped_var 0) (pod_some (ped_var 1)) (pod_some (ped_var 4))) pad_nil))))))) (pssd_one (psd_ret ped_non)) pssd_nil)
      (pssd_cons (psd_set 5 sc_whole_record.nd (ped_call h_unpacked hr (by omega) (pad_cons (ped_slice (ped_var 0) (pod_some (ped_var 3)) (pod_some (ped_op op_addAll sim_add (ped_var 3) (ped_var 2)))) pad_nil)))
      (pssd_one (psd_ret (ped_if (ptd_tru (ped_call h_is_deed hr (by omega) (pad_cons (ped_var 5) pad_nil))) (ped_tup (pad_cons (ped_var 5) (pad_cons (ped_var 4) pad_nil))) ped_non)))))))
/-! ### read_record -/
abbrev s_read_record : Stmt := (topS 48)
abbrev N_read_record : List Str := ["octets", "place"]
theorem sc_read_record : FnScope N_read_record ["octets", "place"] (defScope s_read_record) := ⟨rfl, rfl, rfl, by decide +kernel, rfl, by decide +kernel, by decide +kernel⟩
noncomputable def bd_read_record (F_whole_record : DF) : DS :=
  (dSeq (dIfS (dOrT (dTest (dOp fEqA (dVar 1) (dCB fLen (dCons (dVar 0) dNil)))) (dTest (dOp fNeA (dOp fIx (dVar 0) (dVar 1)) (dC (.int 76))))) (dRet (dC .non)) dNext)
  (dRet (dCall F_whole_record (dCons (dVar 0) (dCons (dVar 1) dNil)))))
theorem tm_read_record {F_whole_record : DF} (G : GF mg) (hr : Room 7 (A.deeper (envOfC "read_record" (defScope s_read_record) s.heap.objs.size f cdv))) (h_whole_record : HasFnP P w K mg base 7 "whole_record" F_whole_record) {X_BadBytes : Addr} (x_BadBytes : mg "BadBytes" = some (.ref X_BadBytes)) : PSsD (cxOf CX0 P w K mg base N_read_record "read_record" (defScope s_read_record) f cdv A outer s H E).nox EF (defBody s_read_record) (bd_read_record F_whole_record) :=
  by exact (pssd_cons (psd_if (ptd_bool (pwd_or (ptd_cmp (op_eqA hr.units) sim_eqA (ped_var 1) (ped_callB call_len sim_len G.g_len boot_len (pad_cons (ped_var 0) pad_nil))) (pwd_or1 (ptd_cmp (op_neA hr.units) sim_neA (ped_ix (ped_var 0) (ped_var 1)) (ped_gint G.g_MARK_journal))))) (pssd_one (psd_ret ped_non)) pssd_nil)
      (pssd_one (psd_try rfl rfl ⟨rfl, by decide, .inl x_BadBytes⟩ (fun W pn xe tk pw => by exact (pssd_one (psd_ret (ped_call h_whole_record hr (by omega) (pad_cons (ped_var 0) (pad_cons (ped_var 1) pad_nil)))))))))
/-! ### journal_of -/
abbrev s_journal_of : Stmt := (topS 49)
abbrev N_journal_of : List Str := ["deeds", "found", "deed"]
theorem sc_journal_of : FnScope N_journal_of ["deeds"] (defScope s_journal_of) := ⟨rfl, rfl, rfl, by decide +kernel, rfl, by decide +kernel, by decide +kernel⟩
noncomputable def bd_journal_of (F_record_of : DF) : DS :=
  (dSeq (dSet 1 (dLst dNil))
  (dSeq (dFor (diSeq (dVar 0)) (dgName 2)
  (dDrop (dBM "list" fExt (dVar 1) (dCons (dCall F_record_of (dCons (dVar 2) dNil)) dNil))))
  (dRet (dCB fTuple (dCons (dVar 1) dNil)))))
theorem tm_journal_of {F_record_of : DF} (G : GF mg) (hr : Room 5 (A.deeper (envOfC "journal_of" (defScope s_journal_of) s.heap.objs.size f cdv))) (h_record_of : HasFnP P w K mg base 5 "record_of" F_record_of) : PSsD (cxOf CX0 P w K mg base N_journal_of "journal_of" (defScope s_journal_of) f cdv A outer s H E).nox EF (defBody s_journal_of) (bd_journal_of F_record_of) :=
  by exact (pssd_cons (psd_set 1 sc_journal_of.nd (ped_lst pad_nil))
      (pssd_cons (psd_for PassesOwn.never rfl (pid_seq (ped_var 0)) (pgd_name 2 sc_journal_of.nd) (pssd_one (psd_expr (ped_bm PySem.F.plainAttrs_list PySem.F.slot_list_extend PySem.F.type_list_extend mt_ext sim_ext (ped_var 1) (pad_cons (ped_call h_record_of hr (by omega) (pad_cons (ped_var 2) pad_nil)) pad_nil)))))
      (pssd_one (psd_ret (ped_callTy call_tuple_of sim_tuple G.g_tuple PyProof.Rows.boot_tuple (pad_cons (ped_var 1) pad_nil))))))
/-! ### steps_in -/
abbrev s_steps_in : Stmt := (topS 50)
abbrev N_steps_in : List Str := ["octets", "found", "step"]
theorem sc_steps_in : FnScope N_steps_in ["octets"] (defScope s_steps_in) := ⟨rfl, rfl, rfl, by decide +kernel, rfl, by decide +kernel, by decide +kernel⟩
noncomputable def bd_steps_in (F_read_record : DF) : DS :=
  (dSeq (dPar 1 2 (dCons (dLst dNil) (dCons (dCall F_read_record (dCons (dVar 0) (dCons (dC (.int 0)) dNil))) dNil)))
  (dSeq (dWhile (dTest (dOp fNotN (dVar 2) (dC .non)))
  (dSeq (dDrop (dBM "list" fAppend (dVar 1) (dCons (dVar 2) dNil)))
  (dSet 2 (dCall F_read_record (dCons (dVar 0) (dCons (dOp fIx (dVar 2) (dC (.int 1))) dNil))))))
  (dRet (dVar 1))))
theorem tm_steps_in {F_read_record : DF} (G : GF mg) (hr : Room 8 (A.deeper (envOfC "steps_in" (defScope s_steps_in) s.heap.objs.size f cdv))) (h_read_record : HasFnP P w K mg base 8 "read_record" F_read_record) : PSsD (cxOf CX0 P w K mg base N_steps_in "steps_in" (defScope s_steps_in) f cdv A outer s H E).nox EF (defBody s_steps_in) (bd_steps_in F_read_record) :=
  by exact (pssd_cons (psd_par 1 2 rfl sc_steps_in.nd (pad_cons (ped_lst pad_nil) (pad_cons (ped_call h_read_record hr (by omega) (pad_cons (ped_var 0) (pad_cons ped_int pad_nil))) pad_nil)))
      (pssd_cons (psd_while PassesOwn.never (ptd_cmp op_notN1 sim_notN (ped_var 2) ped_non) (pssd_cons (psd_expr (ped_bm PySem.F.plainAttrs_list PySem.F.slot_list_append PySem.F.type_list_append mt_append sim_append (ped_var 1) (pad_cons (ped_var 2) pad_nil)))
      (pssd_one (psd_set 2 sc_steps_in.nd (ped_call h_read_record hr (by omega) (pad_cons (ped_var 0) (pad_cons (ped_ix (ped_var 2) ped_int) pad_nil)))))))
      (pssd_one (psd_ret (ped_var 1)))))
/-! ### deeds_in -/
abbrev s_deeds_in : Stmt := (topS 51)
abbrev N_deeds_in : List Str := ["octets", "found", "deed", "behind"]
theorem sc_deeds_in : FnScope N_deeds_in ["octets"] (defScope s_deeds_in) := ⟨rfl, rfl, rfl, by decide +kernel, rfl, by decide +kernel, by decide +kernel⟩
noncomputable def bd_deeds_in (F_steps_in : DF) : DS :=
  (dSeq (dSet 1 (dCall F_steps_in (dCons (dVar 0) dNil)))
  (dRet (dTup (dCons (dCB fTuple (dCons (dLc [2, 3] (diSeq (dVar 1)) (cgTup 2 (cgCons (cgName 2) (cgCons (cgName 3) cgNil))) dYes (dVar 2)) dNil)) (dCons (dIf (dTru (dVar 1)) (dOp fIx (dOp fIx (dVar 1) (dUn fNeg (dC (.int 1)))) (dC (.int 1))) (dC (.int 0))) dNil)))))
theorem tm_deeds_in {F_steps_in : DF} (G : GF mg) (hr : Room 9 (A.deeper (envOfC "deeds_in" (defScope s_deeds_in) s.heap.objs.size f cdv))) (h_steps_in : HasFnP P w K mg base 9 "steps_in" F_steps_in) : PSsD (cxOf CX0 P w K mg base N_deeds_in "deeds_in" (defScope s_deeds_in) f cdv A outer s H E).nox EF (defBody s_deeds_in) (bd_deeds_in F_steps_in) :=
  by exact (pssd_cons (psd_set 1 sc_deeds_in.nd (ped_call h_steps_in hr (by omega) (pad_cons (ped_var 0) pad_nil)))
      (pssd_one (psd_ret (ped_tup (pad_cons (ped_callTy call_tuple_of sim_tuple G.g_tuple PyProof.Rows.boot_tuple (pad_cons (by exact (ped_lc (own := [("deed", 2), ("behind", 3)]) (g := gTup K 2 (gCons (gName 2) (gCons (gName 3) gNil))) rfl sc_deeds_in.nd (pid_seq (ped_var 1)) (blkOk_by (own := [("deed", 2), ("behind", 3)]) (N := N_deeds_in) (sc := defScope s_deeds_in) (by decide +kernel)) (by exact fun _ _ _ _ _ => (pg_tup rfl (pgs_cons (pg_name (i := 2) sc_deeds_in.nd rfl (Or.inl rfl)) (pgs_cons (pg_name (i := 3) sc_deeds_in.nd rfl (Or.inl rfl)) pgs_nil)))) (by exact (tg_tup (n := 2) (tgs_cons (tg_name (j := 2)) (tgs_cons (tg_name (j := 3)) tgs_nil)))) (by exact fun _ _ _ _ _ => ptsd_nil) (by exact fun _ _ _ _ _ => (ped_var 2)))) pad_nil)) (pad_cons (ped_if (ptd_tru (ped_var 1)) (ped_ix (ped_ix (ped_var 1) (ped_un un_neg sim_neg ped_int)) ped_int) ped_int) pad_nil))))))
/-! ### _law_bag -/
abbrev s__law_bag : Stmt := (topS 53)
abbrev N__law_bag : List Str := ["script", "cell"]
theorem sc__law_bag : FnScope N__law_bag ["script"] (defScope s__law_bag) := ⟨rfl, rfl, rfl, by decide +kernel, rfl, by decide +kernel, by decide +kernel⟩
noncomputable def bd__law_bag : DS :=
  (dRet (dLst (dCons (dC (.int 0)) (dCons (dC (.int 1234567891)) (dCons (dC (.int 0)) (dCons (dLc [1] (diSeq (dSl (dVar 0) dNoP (dPart (dC (.int 63))))) (cgName 1) dYes (dCB fAbs (dCons (dVar 1) dNil))) dNil))))))
theorem tm__law_bag (G : GF mg) (hr : Room 0 (A.deeper (envOfC "_law_bag" (defScope s__law_bag) s.heap.objs.size f cdv))) : PSsD (cxOf CX0 P w K mg base N__law_bag "_law_bag" (defScope s__law_bag) f cdv A outer s H E).nox EF (defBody s__law_bag) (bd__law_bag ) :=
  by exact (pssd_one (psd_ret (ped_lst (pad_cons ped_int (pad_cons ped_int (pad_cons ped_int (pad_cons (by exact (ped_lc (own := [("cell", 1)]) (g := gName 1) rfl sc__law_bag.nd (pid_seq (ped_slice (ped_var 0) pod_none (pod_some ped_int))) (blkOk_by (own := [("cell", 1)]) (N := N__law_bag) (sc := defScope s__law_bag) (by decide +kernel)) (by exact fun _ _ _ _ _ => (pg_name (i := 1) sc__law_bag.nd rfl (Or.inl rfl))) (by exact (tg_name (j := 1))) (by exact fun _ _ _ _ _ => ptsd_nil) (by exact fun _ _ _ _ _ => (ped_callB call_abs sim_abs G.g_abs boot_abs (pad_cons (ped_var 1) pad_nil))))) pad_nil)))))))
/-! ### _law_take -/
abbrev s__law_take : Stmt := (topS 54)
abbrev N__law_take : List Str := ["bag", "many", "cell", "stir", "value", "begin", "second"]
theorem sc__law_take : FnScope N__law_take ["bag", "many"] (defScope s__law_take) := ⟨rfl, rfl, rfl, by decide +kernel, rfl, by decide +kernel, by decide +kernel⟩
noncomputable def bd__law_take : DS :=
  (dSeq (dIfS (dTest (dOp fEqA (dOp fIx (dVar 0) (dC (.int 0))) (dC (.int 0)))) (dSeq (dSet 2 (dOp fIx (dOp fAdd (dSl (dOp fIx (dVar 0) (dC (.int 3))) (dPart (dOp fIx (dVar 0) (dC (.int 2)))) dNoP) (dLst (dCons (dC (.int 0)) dNil))) (dC (.int 0))))
  (dSeq (dAugS fIAdd (dVar 0) (dC (.int 2)) (dC (.int 1)))
  (dSeq (dIfS (dTest (dOp fGe (dVar 2) (dOp fPow (dC (.int 10)) (dC (.int 18))))) (dAsg (dVar 2) (dgSub (dVar 0) (dC (.int 0)))) dNext)
  (dSeq (dSet 3 (dOp fAdd (dOp fAdd (dOp fMul (dOp fIx (dVar 0) (dC (.int 1))) (dC (.int 48271))) (dOp fMod (dCB fInt1 (dCons (dVar 2) dNil)) (dC (.int 2147483647)))) (dOp fMul (dC (.int 7919)) (dOp fIx (dVar 0) (dC (.int 2))))))
  (dAsg (dOp fMod (dCB fInt1 (dCons (dVar 3) dNil)) (dC (.int 2147483647))) (dgSub (dVar 0) (dC (.int 1)))))))) dNext)
  (dSeq (dIfS (dTest (dOp fGt (dOp fIx (dVar 0) (dC (.int 0))) (dC (.int 0)))) (dSeq (dSet 4 (dOp fMod (dCB fInt1 (dCons (dOp fIx (dVar 0) (dC (.int 0))) dNil)) (dVar 1)))
  (dSeq (dAsg (dOp fFdiv (dCB fInt1 (dCons (dOp fIx (dVar 0) (dC (.int 0))) dNil)) (dVar 1)) (dgSub (dVar 0) (dC (.int 0))))
  (dRet (dVar 4)))) dNext)
  (dSeq (dSet 5 (dOp fMod (dCB fInt1 (dCons (dOp fMul (dOp fAdd (dOp fIx (dVar 0) (dC (.int 1))) (dC (.int 1))) (dC (.int 39373))) dNil)) (dC (.int 1000000007))))
  (dSeq (dSet 6 (dOp fMod (dCB fInt1 (dCons (dOp fMul (dOp fMod (dCB fInt1 (dCons (dOp fMul (dVar 5) (dVar 5)) dNil)) (dC (.int 998244353))) (dC (.int 30011))) dNil)) (dC (.int 998244353))))
  (dRet (dOp fMod (dCB fInt1 (dCons (dOp fFdiv (dVar 6) (dC (.int 7))) dNil)) (dVar 1)))))))
theorem tm__law_take (G : GF mg) (hr : Room 0 (A.deeper (envOfC "_law_take" (defScope s__law_take) s.heap.objs.size f cdv))) : PSsD (cxOf CX0 P w K mg base N__law_take "_law_take" (defScope s__law_take) f cdv A outer s H E).nox EF (defBody s__law_take) (bd__law_take ) :=
  by exact (pssd_cons (psd_if (ptd_cmp (op_eqA hr.units) sim_eqA (ped_ix (ped_var 0) ped_int) ped_int) (pssd_cons (psd_set 2 sc__law_take.nd (ped_ix (ped_op op_addAll sim_add (ped_slice (ped_ix (ped_var 0) ped_int) (pod_some (ped_ix (ped_var 0) ped_int)) pod_none) (ped_lst (pad_cons ped_int pad_nil))) ped_int))
      (pssd_cons (psd_augS iop_add sim_iadd (ped_var 0) ped_int ped_int)
      (pssd_cons (psd_if (ptd_cmp op_ge sim_ge (ped_var 2) (ped_op op_powW sim_pow ped_int ped_int)) (pssd_one (psd_asg (ped_var 2) (pgd_sub (ped_var 0) ped_int))) pssd_nil)
      (pssd_cons (psd_set 3 sc__law_take.nd (ped_op op_addAll sim_add (ped_op op_addAll sim_add (ped_op op_mulAll sim_mul (ped_ix (ped_var 0) ped_int) ped_int) (ped_op op_mod sim_mod (ped_callTy call_int1 sim_int1 G.g_int PyProof.Rows.boot_int (pad_cons (ped_var 2) pad_nil)) ped_int)) (ped_op op_mulAll sim_mul ped_int (ped_ix (ped_var 0) ped_int))))
      (pssd_one (psd_asg (ped_op op_mod sim_mod (ped_callTy call_int1 sim_int1 G.g_int PyProof.Rows.boot_int (pad_cons (ped_var 3) pad_nil)) ped_int) (pgd_sub (ped_var 0) ped_int))))))) pssd_nil)
      (pssd_cons (psd_if (ptd_cmp op_gt sim_gt (ped_ix (ped_var 0) ped_int) ped_int) (pssd_cons (psd_set 4 sc__law_take.nd (ped_op op_mod sim_mod (ped_callTy call_int1 sim_int1 G.g_int PyProof.Rows.boot_int (pad_cons (ped_ix (ped_var 0) ped_int) pad_nil)) (ped_var 1)))
      (pssd_cons (psd_asg (ped_op op_fdiv sim_fdiv (ped_callTy call_int1 sim_int1 G.g_int PyProof.Rows.boot_int (pad_cons (ped_ix (ped_var 0) ped_int) pad_nil)) (ped_var 1)) (pgd_sub (ped_var 0) ped_int))
      (pssd_one (psd_ret (ped_var 4))))) pssd_nil)
      (pssd_cons (psd_set 5 sc__law_take.nd (ped_op op_mod sim_mod (ped_callTy call_int1 sim_int1 G.g_int PyProof.Rows.boot_int (pad_cons (ped_op op_mulAll sim_mul (ped_op op_addAll sim_add (ped_ix (ped_var 0) ped_int) ped_int) ped_int) pad_nil)) ped_int))
      (pssd_cons (psd_set 6 sc__law_take.nd (ped_op op_mod sim_mod (ped_callTy call_int1 sim_int1 G.g_int PyProof.Rows.boot_int (pad_cons (ped_op op_mulAll sim_mul (ped_op op_mod sim_mod (ped_callTy call_int1 sim_int1 G.g_int PyProof.Rows.boot_int (pad_cons (ped_op op_mulAll sim_mul (ped_var 5) (ped_var 5)) pad_nil)) ped_int) ped_int) pad_nil)) ped_int))
      (pssd_one (psd_ret (ped_op op_mod sim_mod (ped_callTy call_int1 sim_int1 G.g_int PyProof.Rows.boot_int (pad_cons (ped_op op_fdiv sim_fdiv (ped_var 6) ped_int) pad_nil)) (ped_var 1))))))))
/-! ### _law_some -/
abbrev s__law_some : Stmt := (topS 55)
abbrev N__law_some : List Str := ["bag", "things"]
theorem sc__law_some : FnScope N__law_some ["bag", "things"] (defScope s__law_some) := ⟨rfl, rfl, rfl, by decide +kernel, rfl, by decide +kernel, by decide +kernel⟩
noncomputable def bd__law_some (F__law_take : DF) : DS :=
  (dRet (dOp fIx (dVar 1) (dCall F__law_take (dCons (dVar 0) (dCons (dCB fLen (dCons (dVar 1) dNil)) dNil)))))
theorem tm__law_some {F__law_take : DF} (G : GF mg) (hr : Room 1 (A.deeper (envOfC "_law_some" (defScope s__law_some) s.heap.objs.size f cdv))) (h__law_take : HasFnP P w K mg base 1 "_law_take" F__law_take) : PSsD (cxOf CX0 P w K mg base N__law_some "_law_some" (defScope s__law_some) f cdv A outer s H E).nox EF (defBody s__law_some) (bd__law_some F__law_take) :=
  by exact (pssd_one (psd_ret (ped_ix (ped_var 1) (ped_call h__law_take hr (by omega) (pad_cons (ped_var 0) (pad_cons (ped_callB call_len sim_len G.g_len boot_len (pad_cons (ped_var 1) pad_nil)) pad_nil))))))
/-! ### _law_alike -/
abbrev s__law_alike : Stmt := (topS 56)
abbrev N__law_alike : List Str := ["found", "due", "pairs", "at", "one", "other"]
theorem sc__law_alike : FnScope N__law_alike ["found", "due"] (defScope s__law_alike) := ⟨rfl, rfl, rfl, by decide +kernel, rfl, by decide +kernel, by decide +kernel⟩
noncomputable def bd__law_alike : DS :=
  (dSeq (dPar 2 3 (dCons (dLst (dCons (dTup (dCons (dVar 0) (dCons (dVar 1) dNil))) dNil)) (dCons (dC (.int 0)) dNil)))
  (dSeq (dWhile (dTest (dOp fLt (dVar 3) (dCB fLen (dCons (dVar 2) dNil))))
  (dSeq (dAsg (dOp fIx (dVar 2) (dVar 3)) (dgTup 2 (dgCons (dgName 4) (dgCons (dgName 5) dgNil))))
  (dSeq (dAug fIAdd 3 (dC (.int 1)))
  (dSeq (dIfS (dOrT (dTest (dOp fNeA (dCB fIsI (dCons (dVar 4) (dCons (dC (.ty "bool")) dNil))) (dCB fIsI (dCons (dVar 5) (dCons (dC (.ty "bool")) dNil))))) (dTest (dOp fNeA (dCB fIsI (dCons (dVar 4) (dCons (dC (.ty "str")) dNil))) (dCB fIsI (dCons (dVar 5) (dCons (dC (.ty "str")) dNil)))))) (dRet (dC (.bl false))) dNext)
  (dSeq (dIfS (dTest (dOp fNeA (dCB fIsI (dCons (dVar 4) (dCons (dTup (dCons (dC (.ty "tuple")) (dCons (dC (.ty "list")) dNil))) dNil))) (dCB fIsI (dCons (dVar 5) (dCons (dTup (dCons (dC (.ty "tuple")) (dCons (dC (.ty "list")) dNil))) dNil))))) (dRet (dC (.bl false))) dNext)
  (dIfS (dTru (dCB fIsI (dCons (dVar 4) (dCons (dTup (dCons (dC (.ty "tuple")) (dCons (dC (.ty "list")) dNil))) dNil)))) (dSeq (dIfS (dOrT (dTest (dOp fNeA (dCB fIsI (dCons (dVar 4) (dCons (dC (.ty "tuple")) dNil))) (dCB fIsI (dCons (dVar 5) (dCons (dC (.ty "tuple")) dNil))))) (dTest (dOp fNeA (dCB fLen (dCons (dVar 4) dNil)) (dCB fLen (dCons (dVar 5) dNil))))) (dRet (dC (.bl false))) dNext)
  (dDrop (dBM "list" fExt (dVar 2) (dCons (dListZip (dCons (dVar 4) (dCons (dVar 5) dNil))) dNil)))) (dIfS (dTest (dOp fNeA (dVar 4) (dVar 5))) (dRet (dC (.bl false))) dNext)))))))
  (dRet (dC (.bl true)))))
theorem tm__law_alike (G : GF mg) (hr : Room 0 (A.deeper (envOfC "_law_alike" (defScope s__law_alike) s.heap.objs.size f cdv))) : PSsD (cxOf CX0 P w K mg base N__law_alike "_law_alike" (defScope s__law_alike) f cdv A outer s H E).nox EF (defBody s__law_alike) (bd__law_alike ) :=
  by exact (pssd_cons (psd_par 2 3 rfl sc__law_alike.nd (pad_cons (ped_lst (pad_cons (ped_tup (pad_cons (ped_var 0) (pad_cons (ped_var 1) pad_nil))) pad_nil)) (pad_cons ped_int pad_nil)))
      (pssd_cons (psd_while PassesOwn.never (ptd_cmp op_lt sim_lt (ped_var 3) (ped_callB call_len sim_len G.g_len boot_len (pad_cons (ped_var 2) pad_nil))) (pssd_cons (psd_asg (ped_ix (ped_var 2) (ped_var 3)) (pgd_tup rfl (pgsd_cons (pgd_name 4 sc__law_alike.nd) (pgsd_cons (pgd_name 5 sc__law_alike.nd) pgsd_nil))))
      (pssd_cons (psd_aug 3 sc__law_alike.nd iop_add sim_iadd ped_int)
      (pssd_cons (psd_if (ptd_bool (pwd_or (ptd_cmp (op_neA hr.units) sim_neA (ped_callB call_isiA sim_isi G.g_isinstance boot_isinstance (pad_cons (ped_var 4) (pad_cons (ped_bty G.g_bool PyProof.Rows.boot_bool) pad_nil))) (ped_callB call_isiA sim_isi G.g_isinstance boot_isinstance (pad_cons (ped_var 5) (pad_cons (ped_bty G.g_bool PyProof.Rows.boot_bool) pad_nil)))) (pwd_or1 (ptd_cmp (op_neA hr.units) sim_neA (ped_callB call_isiA sim_isi G.g_isinstance boot_isinstance (pad_cons (ped_var 4) (pad_cons (ped_bty G.g_str PyProof.Rows.boot_str) pad_nil))) (ped_callB call_isiA sim_isi G.g_isinstance boot_isinstance (pad_cons (ped_var 5) (pad_cons (ped_bty G.g_str PyProof.Rows.boot_str) pad_nil))))))) (pssd_one (psd_ret ped_bl)) pssd_nil)
      (pssd_cons (psd_if (ptd_cmp (op_neA hr.units) sim_neA (ped_callB call_isiA sim_isi G.g_isinstance boot_isinstance (pad_cons (ped_var 4) (pad_cons (ped_tup (pad_cons (ped_bty G.g_tuple PyProof.Rows.boot_tuple) (pad_cons (ped_bty G.g_list PyProof.Rows.boot_list) pad_nil))) pad_nil))) (ped_callB call_isiA sim_isi G.g_isinstance boot_isinstance (pad_cons (ped_var 5) (pad_cons (ped_tup (pad_cons (ped_bty G.g_tuple PyProof.Rows.boot_tuple) (pad_cons (ped_bty G.g_list PyProof.Rows.boot_list) pad_nil))) pad_nil)))) (pssd_one (psd_ret ped_bl)) pssd_nil)
      (pssd_one (psd_if (ptd_tru (ped_callB call_isiA sim_isi G.g_isinstance boot_isinstance (pad_cons (ped_var 4) (pad_cons (ped_tup (pad_cons (ped_bty G.g_tuple PyProof.Rows.boot_tuple) (pad_cons (ped_bty G.g_list PyProof.Rows.boot_list) pad_nil))) pad_nil)))) (pssd_cons (psd_if (ptd_bool (pwd_or (ptd_cmp (op_neA hr.units) sim_neA (ped_callB call_isiA sim_isi G.g_isinstance boot_isinstance (pad_cons (ped_var 4) (pad_cons (ped_bty G.g_tuple PyProof.Rows.boot_tuple) pad_nil))) (ped_callB call_isiA sim_isi G.g_isinstance boot_isinstance (pad_cons (ped_var 5) (pad_cons (ped_bty G.g_tuple PyProof.Rows.boot_tuple) pad_nil)))) (pwd_or1 (ptd_cmp (op_neA hr.units) sim_neA (ped_callB call_len sim_len G.g_len boot_len (pad_cons (ped_var 4) pad_nil)) (ped_callB call_len sim_len G.g_len boot_len (pad_cons (ped_var 5) pad_nil)))))) (pssd_one (psd_ret ped_bl)) pssd_nil)
      (pssd_one (psd_expr (ped_bm PySem.F.plainAttrs_list PySem.F.slot_list_extend PySem.F.type_list_extend mt_ext sim_ext (ped_var 2) (pad_cons (ped_listZip rfl G.g_list G.g_zip (pad_cons (ped_var 4) (pad_cons (ped_var 5) pad_nil))) pad_nil))))) (pssd_one (psd_if (ptd_cmp (op_neA hr.units) sim_neA (ped_var 4) (ped_var 5)) (pssd_one (psd_ret ped_bl)) pssd_nil)))))))))
      (pssd_one (psd_ret ped_bl))))
/-! ### _law_seven -/
abbrev s__law_seven : Stmt := (topS 57)
abbrev N__law_seven : List Str := ["number", "found", "left", "turn"]
theorem sc__law_seven : FnScope N__law_seven ["number"] (defScope s__law_seven) := ⟨rfl, rfl, rfl, by decide +kernel, rfl, by decide +kernel, by decide +kernel⟩
noncomputable def bd__law_seven : DS :=
  (dSeq (dPar 1 2 (dCons (dLst dNil) (dCons (dVar 0) dNil)))
  (dSeq (dFor (diRng1 (dCons (dC (.int 200)) dNil)) (dgName 3)
  (dSeq (dIfS (dTest (dOp fLt (dVar 2) (dC (.int 128)))) dBreak dNext)
  (dSeq (dDrop (dBM "list" fAppend (dVar 1) (dCons (dOp fAdd (dC (.int 128)) (dOp fMod (dCB fInt1 (dCons (dVar 2) dNil)) (dC (.int 128)))) dNil)))
  (dSet 2 (dOp fFdiv (dCB fInt1 (dCons (dVar 2) dNil)) (dC (.int 128)))))))
  (dRet (dOp fAdd (dVar 1) (dLst (dCons (dVar 2) dNil))))))
theorem tm__law_seven (G : GF mg) (hr : Room 0 (A.deeper (envOfC "_law_seven" (defScope s__law_seven) s.heap.objs.size f cdv))) : PSsD (cxOf CX0 P w K mg base N__law_seven "_law_seven" (defScope s__law_seven) f cdv A outer s H E).nox EF (defBody s__law_seven) (bd__law_seven ) :=
  by exact (pssd_cons (psd_par 1 2 rfl sc__law_seven.nd (pad_cons (ped_lst pad_nil) (pad_cons (ped_var 0) pad_nil)))
      (pssd_cons (psd_for PassesOwn.never rfl (pid_range1 G.g_range (pad_cons ped_int pad_nil)) (pgd_name 3 sc__law_seven.nd) (pssd_cons (psd_if (ptd_cmp op_lt sim_lt (ped_var 2) ped_int) (pssd_one psd_break) pssd_nil)
      (pssd_cons (psd_expr (ped_bm PySem.F.plainAttrs_list PySem.F.slot_list_append PySem.F.type_list_append mt_append sim_append (ped_var 1) (pad_cons (ped_op op_addAll sim_add ped_int (ped_op op_mod sim_mod (ped_callTy call_int1 sim_int1 G.g_int PyProof.Rows.boot_int (pad_cons (ped_var 2) pad_nil)) ped_int)) pad_nil)))
      (pssd_one (psd_set 2 sc__law_seven.nd (ped_op op_fdiv sim_fdiv (ped_callTy call_int1 sim_int1 G.g_int PyProof.Rows.boot_int (pad_cons (ped_var 2) pad_nil)) ped_int))))))
      (pssd_one (psd_ret (ped_op op_addAll sim_add (ped_var 1) (ped_lst (pad_cons (ped_var 2) pad_nil)))))))
/-! ### _law_own_octets -/
abbrev s__law_own_octets : Stmt := (topS 58)
abbrev N__law_own_octets : List Str := ["thing", "found", "one", "sign"]
theorem sc__law_own_octets : FnScope N__law_own_octets ["thing"] (defScope s__law_own_octets) := ⟨rfl, rfl, rfl, by decide +kernel, rfl, by decide +kernel, by decide +kernel⟩
noncomputable def bd__law_own_octets (F__law_seven F__law_own_octets : DF) : DS :=
  (dSeq (dIfS (dTest (dOp fIsN (dVar 0) (dC .non))) (dRet (dLst (dCons (dC (.int 0)) dNil))) dNext)
  (dSeq (dIfS (dTru (dCB fIsI (dCons (dVar 0) (dCons (dC (.ty "bool")) dNil)))) (dRet (dLst (dCons (dIf (dTru (dVar 0)) (dC (.int 2)) (dC (.int 1))) dNil))) dNext)
  (dSeq (dIfS (dTru (dCB fIsI (dCons (dVar 0) (dCons (dC (.ty "int")) dNil)))) (dRet (dIf (dTest (dOp fGe (dVar 0) (dC (.int 0)))) (dOp fAdd (dLst (dCons (dC (.int 3)) dNil)) (dCall F__law_seven (dCons (dVar 0) dNil))) (dOp fAdd (dLst (dCons (dC (.int 4)) dNil)) (dCall F__law_seven (dCons (dOp fSub (dUn fNeg (dC (.int 1))) (dVar 0)) dNil))))) dNext)
  (dSeq (dIfS (dTru (dCB fIsI (dCons (dVar 0) (dCons (dC (.ty "str")) dNil)))) (dRet (dOp fAdd (dOp fAdd (dLst (dCons (dC (.int 5)) dNil)) (dCall F__law_seven (dCons (dCB fLen (dCons (dVar 0) dNil)) dNil))) (dLc [3] (diStr (dVar 0)) (cgName 3) dYes (dBM "str" fSIndex (dC (.str "abcdefghijklmnopqrstuvwxyz")) (dCons (dVar 3) dNil))))) dNext)
  (dSeq (dSet 1 (dOp fAdd (dLst (dCons (dC (.int 6)) dNil)) (dCall F__law_seven (dCons (dCB fLen (dCons (dVar 0) dNil)) dNil))))
  (dSeq (dFor (diSeq (dVar 0)) (dgName 2)
  (dDrop (dBM "list" fExt (dVar 1) (dCons (dCall F__law_own_octets (dCons (dVar 2) dNil)) dNil))))
  (dRet (dVar 1))))))))
theorem tm__law_own_octets {F__law_seven F__law_own_octets : DF} {j : Nat} (G : GF mg) (hr : Room j (A.deeper (envOfC "_law_own_octets" (defScope s__law_own_octets) s.heap.objs.size f cdv))) (hj : 1 ≤ j) (h__law_seven : HasFnP P w K mg base 1 "_law_seven" F__law_seven) (h__law_own_octets : HasFnP P w K mg base j "_law_own_octets" F__law_own_octets) : PSsD (cxOf CX0 P w K mg base N__law_own_octets "_law_own_octets" (defScope s__law_own_octets) f cdv A outer s H E).nox EF (defBody s__law_own_octets) (bd__law_own_octets F__law_seven F__law_own_octets) :=
  by exact (pssd_cons (psd_if (ptd_cmp op_isN1 sim_isN (ped_var 0) ped_non) (pssd_one (psd_ret (ped_lst (pad_cons ped_int pad_nil)))) pssd_nil)
      (pssd_cons (psd_if (ptd_tru (ped_callB call_isiA sim_isi G.g_isinstance boot_isinstance (pad_cons (ped_var 0) (pad_cons (ped_bty G.g_bool PyProof.Rows.boot_bool) pad_nil)))) (pssd_one (psd_ret (ped_lst (pad_cons (ped_if (ptd_tru (ped_var 0)) ped_int ped_int) pad_nil)))) pssd_nil)
      (pssd_cons (psd_if (ptd_tru (ped_callB call_isiA sim_isi G.g_isinstance boot_isinstance (pad_cons (ped_var 0) (pad_cons (ped_bty G.g_int PyProof.Rows.boot_int) pad_nil)))) (pssd_one (psd_ret (ped_if (ptd_cmp op_ge sim_ge (ped_var 0) ped_int) (ped_op op_addAll sim_add (ped_lst (pad_cons ped_int pad_nil)) (ped_call h__law_seven hr (by omega) (pad_cons (ped_var 0) pad_nil))) (ped_op op_addAll sim_add (ped_lst (pad_cons ped_int pad_nil)) (ped_call h__law_seven hr (by omega) (pad_cons (ped_op op_sub sim_sub (ped_un un_neg sim_neg ped_int) (ped_var 0)) pad_nil)))))) pssd_nil)
      (pssd_cons (psd_if (ptd_tru (ped_callB call_isiA sim_isi G.g_isinstance boot_isinstance (pad_cons (ped_var 0) (pad_cons (ped_bty G.g_str PyProof.Rows.boot_str) pad_nil)))) (pssd_one (psd_ret (ped_op op_addAll sim_add (ped_op op_addAll sim_add (ped_lst (pad_cons ped_int pad_nil)) (ped_call h__law_seven hr (by omega) (pad_cons (ped_callB call_len sim_len G.g_len boot_len (pad_cons (ped_var 0) pad_nil)) pad_nil))) (by exact (ped_lc (own := [("sign", 3)]) (g := gName 3) rfl sc__law_own_octets.nd (pid_str (ped_var 0)) (blkOk_by (own := [("sign", 3)]) (N := N__law_own_octets) (sc := defScope s__law_own_octets) (by decide +kernel)) (by exact fun _ _ _ _ _ => (pg_name (i := 3) sc__law_own_octets.nd rfl (Or.inl rfl))) (by exact (tg_name (j := 3))) (by exact fun _ _ _ _ _ => ptsd_nil) (by exact fun _ _ _ _ _ => (ped_bm PySem.F.plainAttrs_str PySem.F.slot_str_index PySem.F.type_str_index mt_sindex sim_sindex ped_str (pad_cons (ped_var 3) pad_nil)))))))) pssd_nil)
      (pssd_cons (psd_set 1 sc__law_own_octets.nd (ped_op op_addAll sim_add (ped_lst (pad_cons ped_int pad_nil)) (ped_call h__law_seven hr (by omega) (pad_cons (ped_callB call_len sim_len G.g_len boot_len (pad_cons (ped_var 0) pad_nil)) pad_nil))))
      (pssd_cons (psd_for PassesOwn.never rfl (pid_seq (ped_var 0)) (pgd_name 2 sc__law_own_octets.nd) (pssd_one (psd_expr (ped_bm PySem.F.plainAttrs_list PySem.F.slot_list_extend PySem.F.type_list_extend mt_ext sim_ext (ped_var 1) (pad_cons (ped_call h__law_own_octets hr (by omega) (pad_cons (ped_var 2) pad_nil)) pad_nil)))))
      (pssd_one (psd_ret (ped_var 1)))))))))
/-! ### _law_own_sealed -/
abbrev s__law_own_sealed : Stmt := (topS 59)
abbrev N__law_own_sealed : List Str := ["octets", "check", "more", "octet", "turn"]
theorem sc__law_own_sealed : FnScope N__law_own_sealed ["octets"] (defScope s__law_own_sealed) := ⟨rfl, rfl, rfl, by decide +kernel, rfl, by decide +kernel, by decide +kernel⟩
noncomputable def bd__law_own_sealed : DS :=
  (dSeq (dPar 1 2 (dCons (dC (.int 1)) (dCons (dLst dNil) dNil)))
  (dSeq (dFor (diSeq (dVar 0)) (dgName 3)
  (dSet 1 (dOp fMod (dCB fInt1 (dCons (dOp fAdd (dOp fAdd (dOp fMul (dVar 1) (dC (.int 257))) (dVar 3)) (dC (.int 1))) dNil)) (dC (.int 4294967291)))))
  (dSeq (dFor (diRng1 (dCons (dC (.int 4)) dNil)) (dgName 4)
  (dSeq (dSet 2 (dOp fAdd (dLst (dCons (dOp fMod (dCB fInt1 (dCons (dVar 1) dNil)) (dC (.int 256))) dNil)) (dVar 2)))
  (dSet 1 (dOp fFdiv (dCB fInt1 (dCons (dVar 1) dNil)) (dC (.int 256))))))
  (dRet (dOp fAdd (dCB fList (dCons (dVar 0) dNil)) (dVar 2))))))
theorem tm__law_own_sealed (G : GF mg) (hr : Room 0 (A.deeper (envOfC "_law_own_sealed" (defScope s__law_own_sealed) s.heap.objs.size f cdv))) : PSsD (cxOf CX0 P w K mg base N__law_own_sealed "_law_own_sealed" (defScope s__law_own_sealed) f cdv A outer s H E).nox EF (defBody s__law_own_sealed) (bd__law_own_sealed ) :=
  by exact (pssd_cons (psd_par 1 2 rfl sc__law_own_sealed.nd (pad_cons ped_int (pad_cons (ped_lst pad_nil) pad_nil)))
      (pssd_cons (psd_for PassesOwn.never rfl (pid_seq (ped_var 0)) (pgd_name 3 sc__law_own_sealed.nd) (pssd_one (psd_set 1 sc__law_own_sealed.nd (ped_op op_mod sim_mod (ped_callTy call_int1 sim_int1 G.g_int PyProof.Rows.boot_int (pad_cons (ped_op op_addAll sim_add (ped_op op_addAll sim_add (ped_op op_mulAll sim_mul (ped_var 1) ped_int) (ped_var 3)) ped_int) pad_nil)) ped_int))))
      (pssd_cons (psd_for PassesOwn.never rfl (pid_range1 G.g_range (pad_cons ped_int pad_nil)) (pgd_name 4 sc__law_own_sealed.nd) (pssd_cons (psd_set 2 sc__law_own_sealed.nd (ped_op op_addAll sim_add (ped_lst (pad_cons (ped_op op_mod sim_mod (ped_callTy call_int1 sim_int1 G.g_int PyProof.Rows.boot_int (pad_cons (ped_var 1) pad_nil)) ped_int) pad_nil)) (ped_var 2)))
      (pssd_one (psd_set 1 sc__law_own_sealed.nd (ped_op op_fdiv sim_fdiv (ped_callTy call_int1 sim_int1 G.g_int PyProof.Rows.boot_int (pad_cons (ped_var 1) pad_nil)) ped_int)))))
      (pssd_one (psd_ret (ped_op op_addAll sim_add (ped_callTy call_list_of sim_list G.g_list PyProof.Rows.boot_list (pad_cons (ped_var 0) pad_nil)) (ped_var 2)))))))
/-! ### _law_own_packed -/
abbrev s__law_own_packed : Stmt := (topS 60)
abbrev N__law_own_packed : List Str := ["thing"]
theorem sc__law_own_packed : FnScope N__law_own_packed ["thing"] (defScope s__law_own_packed) := ⟨rfl, rfl, rfl, by decide +kernel, rfl, by decide +kernel, by decide +kernel⟩
noncomputable def bd__law_own_packed (F__law_own_octets F__law_own_sealed : DF) : DS :=
  (dRet (dCB fTuple (dCons (dCall F__law_own_sealed (dCons (dOp fAdd (dLst (dCons (dC (.int 78)) dNil)) (dCall F__law_own_octets (dCons (dVar 0) dNil))) dNil)) dNil)))
theorem tm__law_own_packed {F__law_own_octets F__law_own_sealed : DF} (G : GF mg) (hr : Room 6 (A.deeper (envOfC "_law_own_packed" (defScope s__law_own_packed) s.heap.objs.size f cdv))) (h__law_own_octets : HasFnP P w K mg base 6 "_law_own_octets" F__law_own_octets) (h__law_own_sealed : HasFnP P w K mg base 1 "_law_own_sealed" F__law_own_sealed) : PSsD (cxOf CX0 P w K mg base N__law_own_packed "_law_own_packed" (defScope s__law_own_packed) f cdv A outer s H E).nox EF (defBody s__law_own_packed) (bd__law_own_packed F__law_own_octets F__law_own_sealed) :=
  by exact (pssd_one (psd_ret (ped_callTy call_tuple_of sim_tuple G.g_tuple PyProof.Rows.boot_tuple (pad_cons (ped_call h__law_own_sealed hr (by omega) (pad_cons (ped_op op_addAll sim_add (ped_lst (pad_cons ped_int pad_nil)) (ped_call h__law_own_octets hr (by omega) (pad_cons (ped_var 0) pad_nil))) pad_nil)) pad_nil))))
/-! ### _law_own_record -/
abbrev s__law_own_record : Stmt := (topS 61)
abbrev N__law_own_record : List Str := ["deed", "body"]
theorem sc__law_own_record : FnScope N__law_own_record ["deed"] (defScope s__law_own_record) := ⟨rfl, rfl, rfl, by decide +kernel, rfl, by decide +kernel, by decide +kernel⟩
noncomputable def bd__law_own_record (F__law_own_packed F__law_seven F__law_own_sealed : DF) : DS :=
  (dSeq (dSet 1 (dCB fList (dCons (dCall F__law_own_packed (dCons (dVar 0) dNil)) dNil)))
  (dRet (dCB fTuple (dCons (dCall F__law_own_sealed (dCons (dOp fAdd (dOp fAdd (dLst (dCons (dC (.int 76)) dNil)) (dCall F__law_seven (dCons (dCB fLen (dCons (dVar 1) dNil)) dNil))) (dVar 1)) dNil)) dNil))))
theorem tm__law_own_record {F__law_own_packed F__law_seven F__law_own_sealed : DF} (G : GF mg) (hr : Room 7 (A.deeper (envOfC "_law_own_record" (defScope s__law_own_record) s.heap.objs.size f cdv))) (h__law_own_packed : HasFnP P w K mg base 7 "_law_own_packed" F__law_own_packed) (h__law_seven : HasFnP P w K mg base 1 "_law_seven" F__law_seven) (h__law_own_sealed : HasFnP P w K mg base 1 "_law_own_sealed" F__law_own_sealed) : PSsD (cxOf CX0 P w K mg base N__law_own_record "_law_own_record" (defScope s__law_own_record) f cdv A outer s H E).nox EF (defBody s__law_own_record) (bd__law_own_record F__law_own_packed F__law_seven F__law_own_sealed) :=
  by exact (pssd_cons (psd_set 1 sc__law_own_record.nd (ped_callTy call_list_of sim_list G.g_list PyProof.Rows.boot_list (pad_cons (ped_call h__law_own_packed hr (by omega) (pad_cons (ped_var 0) pad_nil)) pad_nil)))
      (pssd_one (psd_ret (ped_callTy call_tuple_of sim_tuple G.g_tuple PyProof.Rows.boot_tuple (pad_cons (ped_call h__law_own_sealed hr (by omega) (pad_cons (ped_op op_addAll sim_add (ped_op op_addAll sim_add (ped_lst (pad_cons ped_int pad_nil)) (ped_call h__law_seven hr (by omega) (pad_cons (ped_callB call_len sim_len G.g_len boot_len (pad_cons (ped_var 1) pad_nil)) pad_nil))) (ped_var 1)) pad_nil)) pad_nil)))))
/-! ### _law_own_journal -/
abbrev s__law_own_journal : Stmt := (topS 62)
abbrev N__law_own_journal : List Str := ["deeds", "found", "deed"]
theorem sc__law_own_journal : FnScope N__law_own_journal ["deeds"] (defScope s__law_own_journal) := ⟨rfl, rfl, rfl, by decide +kernel, rfl, by decide +kernel, by decide +kernel⟩
noncomputable def bd__law_own_journal (F__law_own_record : DF) : DS :=
  (dSeq (dSet 1 (dLst dNil))
  (dSeq (dFor (diSeq (dVar 0)) (dgName 2)
  (dDrop (dBM "list" fExt (dVar 1) (dCons (dCB fList (dCons (dCall F__law_own_record (dCons (dVar 2) dNil)) dNil)) dNil))))
  (dRet (dCB fTuple (dCons (dVar 1) dNil)))))
theorem tm__law_own_journal {F__law_own_record : DF} (G : GF mg) (hr : Room 8 (A.deeper (envOfC "_law_own_journal" (defScope s__law_own_journal) s.heap.objs.size f cdv))) (h__law_own_record : HasFnP P w K mg base 8 "_law_own_record" F__law_own_record) : PSsD (cxOf CX0 P w K mg base N__law_own_journal "_law_own_journal" (defScope s__law_own_journal) f cdv A outer s H E).nox EF (defBody s__law_own_journal) (bd__law_own_journal F__law_own_record) :=
  by exact (pssd_cons (psd_set 1 sc__law_own_journal.nd (ped_lst pad_nil))
      (pssd_cons (psd_for PassesOwn.never rfl (pid_seq (ped_var 0)) (pgd_name 2 sc__law_own_journal.nd) (pssd_one (psd_expr (ped_bm PySem.F.plainAttrs_list PySem.F.slot_list_extend PySem.F.type_list_extend mt_ext sim_ext (ped_var 1) (pad_cons (ped_callTy call_list_of sim_list G.g_list PyProof.Rows.boot_list (pad_cons (ped_call h__law_own_record hr (by omega) (pad_cons (ped_var 2) pad_nil)) pad_nil)) pad_nil)))))
      (pssd_one (psd_ret (ped_callTy call_tuple_of sim_tuple G.g_tuple PyProof.Rows.boot_tuple (pad_cons (ped_var 1) pad_nil))))))
/-! ### _law_thing -/
abbrev s__law_thing : Stmt := (topS 63)
abbrev N__law_thing : List Str := ["bag", "depth", "at"]
theorem sc__law_thing : FnScope N__law_thing ["bag", "depth"] (defScope s__law_thing) := ⟨rfl, rfl, rfl, by decide +kernel, rfl, by decide +kernel, by decide +kernel⟩
noncomputable def bd__law_thing (F__law_take F__law_thing F__law_some : DF) : DS :=
  (dSeq (dIfS (dAndT (dTest (dOp fGt (dVar 1) (dC (.int 0)))) (dTest (dOp fEqA (dCall F__law_take (dCons (dVar 0) (dCons (dC (.int 2)) dNil))) (dC (.int 0))))) (dRet (dCB fTuple (dCons (dLc [2] (diRng1 (dCons (dCall F__law_take (dCons (dVar 0) (dCons (dC (.int 3)) dNil))) dNil)) (cgName 2) dYes (dCall F__law_thing (dCons (dVar 0) (dCons (dOp fSub (dVar 1) (dC (.int 1))) dNil)))) dNil))) dNext)
  (dRet (dCall F__law_some (dCons (dVar 0) (dCons (dLst (dCons (dC .non) (dCons (dC (.bl true)) (dCons (dC (.bl false)) (dCons (dCall F__law_take (dCons (dVar 0) (dCons (dC (.int 300)) dNil))) (dCons (dOp fSub (dUn fNeg (dC (.int 1))) (dCall F__law_take (dCons (dVar 0) (dCons (dC (.int 300)) dNil)))) (dCons (dSlT (dC (.str "az")) dNoP (dPart (dCall F__law_take (dCons (dVar 0) (dCons (dC (.int 3)) dNil))))) (dCons (dOp fPow (dC (.int 10)) (dC (.int 20))) dNil)))))))) dNil)))))
theorem tm__law_thing {F__law_take F__law_thing F__law_some : DF} {j : Nat} (G : GF mg) (hr : Room j (A.deeper (envOfC "_law_thing" (defScope s__law_thing) s.heap.objs.size f cdv))) (hj : 2 ≤ j) (h__law_take : HasFnP P w K mg base 1 "_law_take" F__law_take) (h__law_thing : HasFnP P w K mg base j "_law_thing" F__law_thing) (h__law_some : HasFnP P w K mg base 2 "_law_some" F__law_some) : PSsD (cxOf CX0 P w K mg base N__law_thing "_law_thing" (defScope s__law_thing) f cdv A outer s H E).nox EF (defBody s__law_thing) (bd__law_thing F__law_take F__law_thing F__law_some) :=
  by exact (pssd_cons (psd_if (ptd_bool (pwd_and (ptd_cmp op_gt sim_gt (ped_var 1) ped_int) (pwd_and1 (ptd_cmp (op_eqA hr.units) sim_eqA (ped_call h__law_take hr (by omega) (pad_cons (ped_var 0) (pad_cons ped_int pad_nil))) ped_int)))) (pssd_one (psd_ret (ped_callTy call_tuple_of sim_tuple G.g_tuple PyProof.Rows.boot_tuple (pad_cons (by exact (ped_lc (own := [("at", 2)]) (g := gName 2) rfl sc__law_thing.nd (pid_range1 G.g_range (pad_cons (ped_call h__law_take hr (by omega) (pad_cons (ped_var 0) (pad_cons ped_int pad_nil))) pad_nil)) (blkOk_by (own := [("at", 2)]) (N := N__law_thing) (sc := defScope s__law_thing) (by decide +kernel)) (by exact fun _ _ _ _ _ => (pg_name (i := 2) sc__law_thing.nd rfl (Or.inl rfl))) (by exact (tg_name (j := 2))) (by exact fun _ _ _ _ _ => ptsd_nil) (by exact fun _ _ _ _ _ => (ped_call h__law_thing hr (by omega) (pad_cons (ped_var 0) (pad_cons (ped_op op_sub sim_sub (ped_var 1) ped_int) pad_nil)))))) pad_nil)))) pssd_nil)
      (pssd_one (psd_ret (ped_call h__law_some hr (by omega) (pad_cons (ped_var 0) (pad_cons (ped_lst (pad_cons ped_non (pad_cons ped_bl (pad_cons ped_bl (pad_cons (ped_call h__law_take hr (by omega) (pad_cons (ped_var 0) (pad_cons ped_int pad_nil))) (pad_cons (ped_op op_sub sim_sub (ped_un un_neg sim_neg ped_int) (ped_call h__law_take hr (by omega) (pad_cons (ped_var 0) (pad_cons ped_int pad_nil)))) (pad_cons (ped_sliceT ped_str pod_none (pod_some (ped_call h__law_take hr (by omega) (pad_cons (ped_var 0) (pad_cons ped_int pad_nil))))) (pad_cons (ped_op op_powW sim_pow ped_int ped_int) pad_nil)))))))) pad_nil))))))
/-! ### _law_check -/
abbrev s__law_check : Stmt := (topS 64)
abbrev N__law_check : List Str := ["octets", "found", "octet"]
theorem sc__law_check : FnScope N__law_check ["octets"] (defScope s__law_check) := ⟨rfl, rfl, rfl, by decide +kernel, rfl, by decide +kernel, by decide +kernel⟩
noncomputable def bd__law_check : DS :=
  (dSeq (dSet 1 (dC (.int 1)))
  (dSeq (dFor (diSeq (dVar 0)) (dgName 2)
  (dSet 1 (dOp fMod (dCB fInt1 (dCons (dOp fAdd (dOp fAdd (dOp fMul (dVar 1) (dC (.int 257))) (dVar 2)) (dC (.int 1))) dNil)) (dC (.int 4294967291)))))
  (dRet (dVar 1))))
theorem tm__law_check (G : GF mg) (hr : Room 0 (A.deeper (envOfC "_law_check" (defScope s__law_check) s.heap.objs.size f cdv))) : PSsD (cxOf CX0 P w K mg base N__law_check "_law_check" (defScope s__law_check) f cdv A outer s H E).nox EF (defBody s__law_check) (bd__law_check ) :=
  by exact (pssd_cons (psd_set 1 sc__law_check.nd ped_int)
      (pssd_cons (psd_for PassesOwn.never rfl (pid_seq (ped_var 0)) (pgd_name 2 sc__law_check.nd) (pssd_one (psd_set 1 sc__law_check.nd (ped_op op_mod sim_mod (ped_callTy call_int1 sim_int1 G.g_int PyProof.Rows.boot_int (pad_cons (ped_op op_addAll sim_add (ped_op op_addAll sim_add (ped_op op_mulAll sim_mul (ped_var 1) ped_int) (ped_var 2)) ped_int) pad_nil)) ped_int))))
      (pssd_one (psd_ret (ped_var 1)))))
/-! ### _law_apart_at -/
abbrev s__law_apart_at : Stmt := (topS 65)
abbrev N__law_apart_at : List Str := ["one", "other", "at"]
theorem sc__law_apart_at : FnScope N__law_apart_at ["one", "other"] (defScope s__law_apart_at) := ⟨rfl, rfl, rfl, by decide +kernel, rfl, by decide +kernel, by decide +kernel⟩
noncomputable def bd__law_apart_at : DS :=
  (dSeq (dFor (diRng1 (dCons (dCB fMax2 (dCons (dCB fLen (dCons (dVar 0) dNil)) (dCons (dCB fLen (dCons (dVar 1) dNil)) dNil))) dNil)) (dgName 2)
  (dIfS (dTest (dOp fNeA (dSl (dVar 0) (dPart (dVar 2)) (dPart (dOp fAdd (dVar 2) (dC (.int 1))))) (dSl (dVar 1) (dPart (dVar 2)) (dPart (dOp fAdd (dVar 2) (dC (.int 1))))))) (dRet (dVar 2)) dNext))
  (dRet (dC .non)))
theorem tm__law_apart_at (G : GF mg) (hr : Room 0 (A.deeper (envOfC "_law_apart_at" (defScope s__law_apart_at) s.heap.objs.size f cdv))) : PSsD (cxOf CX0 P w K mg base N__law_apart_at "_law_apart_at" (defScope s__law_apart_at) f cdv A outer s H E).nox EF (defBody s__law_apart_at) (bd__law_apart_at ) :=
  by exact (pssd_cons (psd_for PassesOwn.never rfl (pid_range1 G.g_range (pad_cons (ped_callB (call_max2 rfl) sim_max2 G.g_max boot_max (pad_cons (ped_callB call_len sim_len G.g_len boot_len (pad_cons (ped_var 0) pad_nil)) (pad_cons (ped_callB call_len sim_len G.g_len boot_len (pad_cons (ped_var 1) pad_nil)) pad_nil))) pad_nil)) (pgd_name 2 sc__law_apart_at.nd) (pssd_one (psd_if (ptd_cmp (op_neA hr.units) sim_neA (ped_slice (ped_var 0) (pod_some (ped_var 2)) (pod_some (ped_op op_addAll sim_add (ped_var 2) ped_int))) (ped_slice (ped_var 1) (pod_some (ped_var 2)) (pod_some (ped_op op_addAll sim_add (ped_var 2) ped_int)))) (pssd_one (psd_ret (ped_var 2))) pssd_nil)))
      (pssd_one (psd_ret ped_non)))
/-! ### law -/
abbrev s_law : Stmt := (topS 66)
abbrev N_law : List Str := ["script", "bag", "turn", "thing", "level", "some", "here", "again_at", "due", "octets", "found", "at", "more", "bent", "told", "many", "one", "other", "deeds", "odd"]
theorem sc_law : FnScope N_law ["script"] (defScope s_law) := ⟨rfl, rfl, rfl, by decide +kernel, rfl, by decide +kernel, by decide +kernel⟩
noncomputable def bd_law (F__law_bag F__law_thing F__law_take F__law_own_packed F_packed F__law_alike F_unpacked F_spoilt F_first_unlike F_is_sealed F_check_of F__law_check F_sealed F__law_apart_at F__law_some F_journal_of F_deeds_in F__law_own_journal F_record_of F__law_own_record F_is_deed : DF) : DS :=
  (dSeq (dSet 1 (dCall F__law_bag (dCons (dVar 0) dNil)))
  (dSeq (dFor (diRng1 (dCons (dC (.int 3)) dNil)) (dgName 2)
  (dSeq (dPar3 3 4 5 (dCons (dCall F__law_thing (dCons (dVar 1) (dCons (dC (.int 2)) dNil))) (dCons (dOp fAdd (dC (.int 1)) (dCall F__law_take (dCons (dVar 1) (dCons (dC (.int 3)) dNil)))) (dCons (dLst dNil) dNil))))
  (dSeq (dSet 6 (dVar 3))
  (dSeq (dFor (diRng1 (dCons (dVar 4) dNil)) (dgName 7)
  (dSeq (dSet 8 (dCall F__law_own_packed (dCons (dVar 6) dNil)))
  (dSeq (dIfS (dNotT (dTru (dCall F__law_alike (dCons (dCall F_packed (dCons (dVar 6) dNil)) (dCons (dVar 8) dNil))))) (dRet (dC (.bl false))) dNext)
  (dSeq (dDrop (dBM "list" fAppend (dVar 5) (dCons (dVar 8) dNil)))
  (dSet 6 (dVar 8))))))
  (dSeq (dFor (diSeq (dRev (dVar 5))) (dgName 9)
  (dSeq (dSet 10 (dCall F_unpacked (dCons (dVar 9) dNil)))
  (dSeq (dPar 11 12 (dCons (dCall F__law_take (dCons (dVar 1) (dCons (dCB fLen (dCons (dVar 9) dNil)) dNil))) (dCons (dOp fAdd (dC (.int 1)) (dCall F__law_take (dCons (dVar 1) (dCons (dC (.int 255)) dNil)))) dNil)))
  (dSeq (dSet 13 (dOp fAdd (dOp fAdd (dSl (dVar 9) dNoP (dPart (dVar 11))) (dTup (dCons (dOp fMod (dCB fInt1 (dCons (dOp fAdd (dOp fIx (dVar 9) (dVar 11)) (dVar 12)) dNil)) (dC (.int 256))) dNil))) (dSl (dVar 9) (dPart (dOp fAdd (dVar 11) (dC (.int 1)))) dNoP)))
  (dSeq (dSet 14 (dLst (dCons (dCall F_spoilt (dCons (dVar 9) (dCons (dVar 11) (dCons (dOp fIx (dVar 13) (dVar 11)) dNil)))) (dCons (dCall F_first_unlike (dCons (dVar 9) (dCons (dVar 13) dNil))) (dCons (dCall F_is_sealed (dCons (dVar 9) dNil)) (dCons (dCall F_is_sealed (dCons (dVar 13) dNil)) dNil))))))
  (dSeq (dIfS (dNotT (dTru (dCall F__law_alike (dCons (dVar 14) (dCons (dLst (dCons (dVar 13) (dCons (dVar 11) (dCons (dC (.bl true)) (dCons (dC (.bl false)) dNil))))) dNil))))) (dRet (dC (.bl false))) dNext)
  (dSeq (dIfS (dOrT (dTest (dOp fNeA (dCall F_check_of (dCons (dSl (dVar 9) dNoP (dPart (dUn fNeg (dC (.int 4))))) dNil)) (dCall F__law_check (dCons (dSl (dVar 9) dNoP (dPart (dUn fNeg (dC (.int 4))))) dNil)))) (dNotT (dTru (dCall F__law_alike (dCons (dCall F_sealed (dCons (dSl (dVar 9) dNoP (dPart (dUn fNeg (dC (.int 4))))) dNil)) (dCons (dVar 9) dNil)))))) (dRet (dC (.bl false))) dNext)
  (dSeq (dSet 15 (dCall F__law_take (dCons (dVar 1) (dCons (dOp fAdd (dCB fLen (dCons (dVar 9) dNil)) (dC (.int 1))) dNil))))
  (dFor (diSeq (dTup (dCons (dTup (dCons (dVar 9) (dCons (dSl (dVar 9) dNoP (dPart (dVar 15))) dNil))) (dCons (dTup (dCons (dSl (dVar 9) dNoP (dPart (dVar 15))) (dCons (dVar 13) dNil))) (dCons (dTup (dCons (dVar 9) (dCons (dVar 9) dNil))) dNil))))) (dgTup 2 (dgCons (dgName 16) (dgCons (dgName 17) dgNil)))
  (dIfS (dNotT (dTru (dCall F__law_alike (dCons (dCall F_first_unlike (dCons (dVar 16) (dCons (dVar 17) dNil))) (dCons (dCall F__law_apart_at (dCons (dVar 16) (dCons (dVar 17) dNil))) dNil))))) (dRet (dC (.bl false))) dNext))))))))))
  (dSeq (dIfS (dNotT (dTru (dCall F__law_alike (dCons (dVar 10) (dCons (dVar 3) dNil))))) (dRet (dC (.bl false))) dNext)
  (dSeq (dSet 18 (dLst (dCons (dTup (dCons (dC (.str "octets")) (dCons (dOp fIx (dVar 5) (dC (.int 0))) dNil))) (dCons (dTup (dCons (dC (.str "bent")) (dCons (dVar 13) (dCons (dVar 4) dNil)))) (dCons (dTup (dCons (dCall F__law_some (dCons (dVar 1) (dCons (dLst (dCons (dC (.str "a")) (dCons (dC (.str "give")) (dCons (dC (.str "gone")) dNil)))) dNil))) (dCons (dVar 3) dNil))) dNil)))))
  (dSeq (dSet 9 (dCall F_journal_of (dCons (dCB fTuple (dCons (dVar 18) dNil)) dNil)))
  (dSeq (dIfS (dNotT (dTru (dCall F__law_alike (dCons (dLst (dCons (dVar 9) (dCons (dCall F_deeds_in (dCons (dVar 9) dNil)) dNil))) (dCons (dLst (dCons (dCall F__law_own_journal (dCons (dVar 18) dNil)) (dCons (dTup (dCons (dCB fTuple (dCons (dVar 18) dNil)) (dCons (dCB fLen (dCons (dVar 9) dNil)) dNil))) dNil))) dNil))))) (dRet (dC (.bl false))) dNext)
  (dSeq (dIfS (dNotT (dTru (dCall F__law_alike (dCons (dCall F_record_of (dCons (dOp fIx (dVar 18) (dC (.int 0))) dNil)) (dCons (dCall F__law_own_record (dCons (dOp fIx (dVar 18) (dC (.int 0))) dNil)) dNil))))) (dRet (dC (.bl false))) dNext)
  (dSeq (dSet 19 (dLst (dCons (dTup dNil) (dCons (dLst (dCons (dC (.str "a")) dNil)) (dCons (dTup (dCons (dC (.str "A")) dNil)) (dCons (dTup (dCons (dC (.int 1)) (dCons (dC (.str "a")) dNil))) (dCons (dC .non) (dCons (dTup (dCons (dC (.str "a")) (dCons (dLst (dCons (dC (.str "b")) dNil)) dNil))) (dCons (dTup (dCons (dC (.str "a")) (dCons (dC (.str "B")) dNil))) (dCons (dTup (dCons (dC (.str "a")) (dCons (dTup (dCons (dTup (dCons (dC (.str "b")) (dCons (dLst dNil) dNil))) dNil)) dNil))) dNil))))))))))
  (dIfS (dNotT (dTru (dCall F__law_alike (dCons (dLc [16] (diSeq (dOp fAdd (dVar 18) (dVar 19))) (cgName 16) dYes (dCall F_is_deed (dCons (dVar 16) dNil))) (dCons (dOp fAdd (dOp fMul (dLst (dCons (dC (.bl true)) dNil)) (dC (.int 3))) (dOp fMul (dLst (dCons (dC (.bl false)) dNil)) (dC (.int 8)))) dNil))))) (dRet (dC (.bl false))) dNext))))))))))))
  (dRet (dC (.bl true)))))
theorem tm_law {F__law_bag F__law_thing F__law_take F__law_own_packed F_packed F__law_alike F_unpacked F_spoilt F_first_unlike F_is_sealed F_check_of F__law_check F_sealed F__law_apart_at F__law_some F_journal_of F_deeds_in F__law_own_journal F_record_of F__law_own_record F_is_deed : DF} (G : GF mg) (hr : Room 10 (A.deeper (envOfC "law" (defScope s_law) s.heap.objs.size f cdv))) (h__law_bag : HasFnP P w K mg base 1 "_law_bag" F__law_bag) (h__law_thing : HasFnP P w K mg base 6 "_law_thing" F__law_thing) (h__law_take : HasFnP P w K mg base 1 "_law_take" F__law_take) (h__law_own_packed : HasFnP P w K mg base 7 "_law_own_packed" F__law_own_packed) (h_packed : HasFnP P w K mg base 4 "packed" F_packed) (h__law_alike : HasFnP P w K mg base 1 "_law_alike" F__law_alike) (h_unpacked : HasFnP P w K mg base 6 "unpacked" F_unpacked) (h_spoilt : HasFnP P w K mg base 1 "spoilt" F_spoilt) (h_first_unlike : HasFnP P w K mg base 1 "first_unlike" F_first_unlike) (h_is_sealed : HasFnP P w K mg base 3 "is_sealed" F_is_sealed) (h_check_of : HasFnP P w K mg base 1 "check_of" F_check_of) (h__law_check : HasFnP P w K mg base 1 "_law_check" F__law_check) (h_sealed : HasFnP P w K mg base 2 "sealed" F_sealed) (h__law_apart_at : HasFnP P w K mg base 1 "_law_apart_at" F__law_apart_at) (h__law_some : HasFnP P w K mg base 2 "_law_some" F__law_some) (h_journal_of : HasFnP P w K mg base 6 "journal_of" F_journal_of) (h_deeds_in : HasFnP P w K mg base 10 "deeds_in" F_deeds_in) (h__law_own_journal : HasFnP P w K mg base 9 "_law_own_journal" F__law_own_journal) (h_record_of : HasFnP P w K mg base 5 "record_of" F_record_of) (h__law_own_record : HasFnP P w K mg base 8 "_law_own_record" F__law_own_record) (h_is_deed : HasFnP P w K mg base 5 "is_deed" F_is_deed) : PSsD (cxOf CX0 P w K mg base N_law "law" (defScope s_law) f cdv A outer s H E).nox EF (defBody s_law) (bd_law F__law_bag F__law_thing F__law_take F__law_own_packed F_packed F__law_alike F_unpacked F_spoilt F_first_unlike F_is_sealed F_check_of F__law_check F_sealed F__law_apart_at F__law_some F_journal_of F_deeds_in F__law_own_journal F_record_of F__law_own_record F_is_deed) :=
  by exact (pssd_cons (psd_set 1 sc_law.nd (ped_call h__law_bag hr (by omega) (pad_cons (ped_var 0) pad_nil)))
      (pssd_cons (psd_for PassesOwn.never rfl (pid_range1 G.g_range (pad_cons ped_int pad_nil)) (pgd_name 2 sc_law.nd) (pssd_cons (psd_par3 3 4 5 rfl sc_law.nd (pad_cons (ped_call h__law_thing hr (by omega) (pad_cons (ped_var 1) (pad_cons ped_int pad_nil))) (pad_cons (ped_op op_addAll sim_add ped_int (ped_call h__law_take hr (by omega) (pad_cons (ped_var 1) (pad_cons ped_int pad_nil)))) (pad_cons (ped_lst pad_nil) pad_nil))))
      (pssd_cons (psd_set 6 sc_law.nd (ped_var 3))
      (pssd_cons (psd_for PassesOwn.never rfl (pid_range1 G.g_range (pad_cons (ped_var 4) pad_nil)) (pgd_name 7 sc_law.nd) (pssd_cons (psd_set 8 sc_law.nd (ped_call h__law_own_packed hr (by omega) (pad_cons (ped_var 6) pad_nil)))
      (pssd_cons (psd_if (ptd_not (ptd_tru (ped_call h__law_alike hr (by omega) (pad_cons (ped_call h_packed hr (by omega) (pad_cons (ped_var 6) pad_nil)) (pad_cons (ped_var 8) pad_nil))))) (pssd_one (psd_ret ped_bl)) pssd_nil)
      (pssd_cons (psd_expr (ped_bm PySem.F.plainAttrs_list PySem.F.slot_list_append PySem.F.type_list_append mt_append sim_append (ped_var 5) (pad_cons (ped_var 8) pad_nil)))
      (pssd_one (psd_set 6 sc_law.nd (ped_var 8)))))))
      (pssd_cons (psd_for PassesOwn.never rfl (pid_seq (ped_rev (ped_var 5))) (pgd_name 9 sc_law.nd) (pssd_cons (psd_set 10 sc_law.nd (ped_call h_unpacked hr (by omega) (pad_cons (ped_var 9) pad_nil)))
      (pssd_cons (psd_par 11 12 rfl sc_law.nd (pad_cons (ped_call h__law_take hr (by omega) (pad_cons (ped_var 1) (pad_cons (ped_callB call_len sim_len G.g_len boot_len (pad_cons (ped_var 9) pad_nil)) pad_nil))) (pad_cons (ped_op op_addAll sim_add ped_int (ped_call h__law_take hr (by omega) (pad_cons (ped_var 1) (pad_cons ped_int pad_nil)))) pad_nil)))
      (pssd_cons (psd_set 13 sc_law.nd (ped_op op_addAll sim_add (ped_op op_addAll sim_add (ped_slice (ped_var 9) pod_none (pod_some (ped_var 11))) (ped_tup (pad_cons (ped_op op_mod sim_mod (ped_callTy call_int1 sim_int1 G.g_int PyProof.Rows.boot_int (pad_cons (ped_op op_addAll sim_add (ped_ix (ped_var 9) (ped_var 11)) (ped_var 12)) pad_nil)) ped_int) pad_nil))) (ped_slice (ped_var 9) (pod_some (ped_op op_addAll sim_add (ped_var 11) ped_int)) pod_none)))
      (pssd_cons (psd_set 14 sc_law.nd (ped_lst (pad_cons (ped_call h_spoilt hr (by omega) (pad_cons (ped_var 9) (pad_cons (ped_var 11) (pad_cons (ped_ix (ped_var 13) (ped_var 11)) pad_nil)))) (pad_cons (ped_call h_first_unlike hr (by omega) (pad_cons (ped_var 9) (pad_cons (ped_var 13) pad_nil))) (pad_cons (ped_call h_is_sealed hr (by omega) (pad_cons (ped_var 9) pad_nil)) (pad_cons (ped_call h_is_sealed hr (by omega) (pad_cons (ped_var 13) pad_nil)) pad_nil))))))
      (pssd_cons (psd_if (ptd_not (ptd_tru (ped_call h__law_alike hr (by omega) (pad_cons (ped_var 14) (pad_cons (ped_lst (pad_cons (ped_var 13) (pad_cons (ped_var 11) (pad_cons ped_bl (pad_cons ped_bl pad_nil))))) pad_nil))))) (pssd_one (psd_ret ped_bl)) pssd_nil)
      (pssd_cons (psd_if (ptd_bool (pwd_or (ptd_cmp (op_neA hr.units) sim_neA (ped_call h_check_of hr (by omega) (pad_cons (ped_slice (ped_var 9) pod_none (pod_some (ped_un un_neg sim_neg ped_int))) pad_nil)) (ped_call h__law_check hr (by omega) (pad_cons (ped_slice (ped_var 9) pod_none (pod_some (ped_un un_neg sim_neg ped_int))) pad_nil))) (pwd_or1 (ptd_not (ptd_tru (ped_call h__law_alike hr (by omega) (pad_cons (ped_call h_sealed hr (by omega) (pad_cons (ped_slice (ped_var 9) pod_none (pod_some (ped_un un_neg sim_neg ped_int))) pad_nil)) (pad_cons (ped_var 9) pad_nil)))))))) (pssd_one (psd_ret ped_bl)) pssd_nil)
      (pssd_cons (psd_set 15 sc_law.nd (ped_call h__law_take hr (by omega) (pad_cons (ped_var 1) (pad_cons (ped_op op_addAll sim_add (ped_callB call_len sim_len G.g_len boot_len (pad_cons (ped_var 9) pad_nil)) ped_int) pad_nil))))
      (pssd_one (psd_for PassesOwn.never rfl (pid_seq (ped_tup (pad_cons (ped_tup (pad_cons (ped_var 9) (pad_cons (ped_slice (ped_var 9) pod_none (pod_some (ped_var 15))) pad_nil))) (pad_cons (ped_tup (pad_cons (ped_slice (ped_var 9) pod_none (pod_some (ped_var 15))) (pad_cons (ped_var 13) pad_nil))) (pad_cons (ped_tup (pad_cons (ped_var 9) (pad_cons (ped_var 9) pad_nil))) pad_nil))))) (pgd_tup rfl (pgsd_cons (pgd_name 16 sc_law.nd) (pgsd_cons (pgd_name 17 sc_law.nd) pgsd_nil))) (pssd_one (psd_if (ptd_not (ptd_tru (ped_call h__law_alike hr (by omega) (pad_cons (ped_call h_first_unlike hr (by omega) (pad_cons (ped_var 16) (pad_cons (ped_var 17) pad_nil))) (pad_cons (ped_call h__law_apart_at hr (by omega) (pad_cons (ped_var 16) (pad_cons (ped_var 17) pad_nil))) pad_nil))))) (pssd_one (psd_ret ped_bl)) pssd_nil))))))))))))
      (pssd_cons (psd_if (ptd_not (ptd_tru (ped_call h__law_alike hr (by omega) (pad_cons (ped_var 10) (pad_cons (ped_var 3) pad_nil))))) (pssd_one (psd_ret ped_bl)) pssd_nil)
      (pssd_cons (psd_set 18 sc_law.nd (ped_lst (pad_cons (ped_tup (pad_cons ped_str (pad_cons (ped_ix (ped_var 5) ped_int) pad_nil))) (pad_cons (ped_tup (pad_cons ped_str (pad_cons (ped_var 13) (pad_cons (ped_var 4) pad_nil)))) (pad_cons (ped_tup (pad_cons (ped_call h__law_some hr (by omega) (pad_cons (ped_var 1) (pad_cons (ped_lst (pad_cons ped_str (pad_cons ped_str (pad_cons ped_str pad_nil)))) pad_nil))) (pad_cons (ped_var 3) pad_nil))) pad_nil)))))
      (pssd_cons (psd_set 9 sc_law.nd (ped_call h_journal_of hr (by omega) (pad_cons (ped_callTy call_tuple_of sim_tuple G.g_tuple PyProof.Rows.boot_tuple (pad_cons (ped_var 18) pad_nil)) pad_nil)))
      (pssd_cons (psd_if (ptd_not (ptd_tru (ped_call h__law_alike hr (by omega) (pad_cons (ped_lst (pad_cons (ped_var 9) (pad_cons (ped_call h_deeds_in hr (by omega) (pad_cons (ped_var 9) pad_nil)) pad_nil))) (pad_cons (ped_lst (pad_cons (ped_call h__law_own_journal hr (by omega) (pad_cons (ped_var 18) pad_nil)) (pad_cons (ped_tup (pad_cons (ped_callTy call_tuple_of sim_tuple G.g_tuple PyProof.Rows.boot_tuple (pad_cons (ped_var 18) pad_nil)) (pad_cons (ped_callB call_len sim_len G.g_len boot_len (pad_cons (ped_var 9) pad_nil)) pad_nil))) pad_nil))) pad_nil))))) (pssd_one (psd_ret ped_bl)) pssd_nil)
      (pssd_cons (psd_if (ptd_not (ptd_tru (ped_call h__law_alike hr (by omega) (pad_cons (ped_call h_record_of hr (by omega) (pad_cons (ped_ix (ped_var 18) ped_int) pad_nil)) (pad_cons (ped_call h__law_own_record hr (by omega) (pad_cons (ped_ix (ped_var 18) ped_int) pad_nil)) pad_nil))))) (pssd_one (psd_ret ped_bl)) pssd_nil)
      (pssd_cons (psd_set 19 sc_law.nd (ped_lst (pad_cons (ped_tup pad_nil) (pad_cons (ped_lst (pad_cons ped_str pad_nil)) (pad_cons (ped_tup (pad_cons ped_str pad_nil)) (pad_cons (ped_tup (pad_cons ped_int (pad_cons ped_str pad_nil))) (pad_cons ped_non (pad_cons (ped_tup (pad_cons ped_str (pad_cons (ped_lst (pad_cons ped_str pad_nil)) pad_nil))) (pad_cons (ped_tup (pad_cons ped_str (pad_cons ped_str pad_nil))) (pad_cons (ped_tup (pad_cons ped_str (pad_cons (ped_tup (pad_cons (ped_tup (pad_cons ped_str (pad_cons (ped_lst pad_nil) pad_nil))) pad_nil)) pad_nil))) pad_nil))))))))))
      (pssd_one (psd_if (ptd_not (ptd_tru (ped_call h__law_alike hr (by omega) (pad_cons (by exact (ped_lc (own := [("one", 16)]) (g := gName 16) rfl sc_law.nd (pid_seq (ped_op op_addAll sim_add (ped_var 18) (ped_var 19))) (blkOk_by (own := [("one", 16)]) (N := N_law) (sc := defScope s_law) (by decide +kernel)) (by exact fun _ _ _ _ _ => (pg_name (i := 16) sc_law.nd rfl (Or.inl rfl))) (by exact (tg_name (j := 16))) (by exact fun _ _ _ _ _ => ptsd_nil) (by exact fun _ _ _ _ _ => (ped_call h_is_deed hr (by omega) (pad_cons (ped_var 16) pad_nil))))) (pad_cons (ped_op op_addAll sim_add (ped_op op_mulAll sim_mul (ped_lst (pad_cons ped_bl pad_nil)) ped_int) (ped_op op_mulAll sim_mul (ped_lst (pad_cons ped_bl pad_nil)) ped_int)) pad_nil))))) (pssd_one (psd_ret ped_bl)) pssd_nil)))))))))))))
      (pssd_one (psd_ret ped_bl))))
end
end K90
set_option maxHeartbeats 4000000
namespace K90
open PySem PySem.Spec PyProof.Rows L2 DL
theorem sz : sizeLine = 16777216 := rfl
theorem o_mul {i j : Int} {M : Sto} (h : CMul i j) : fMul (.int i) (.int j) M = some (.int (i * j), M) := if_pos h
theorem o_add {i j : Int} {M : Sto} : fAdd (.int i) (.int j) M = some (.int (i + j), M) := id rfl
theorem o_sub {i j : Int} {M : Sto} : fSub (.int i) (.int j) M = some (.int (i - j), M) := id rfl
theorem o_modI {i j : Int} {M : Sto} (h : 0 < j) : fMod (.int i) (.int j) M = some (.int (i % j), M) := if_pos h
theorem o_mod {i : Int} {M : Sto} : fMod (.int i) (.int 4294967291) M = some (.int (i % 4294967291), M) := id rfl
theorem o_shr {i : Int} {k : Nat} {M : Sto} : fShr (.int i) (.int (k : Int)) M = some (.int (i / 2 ^ k), M) := by
  unfold fShr fII
  dsimp only
  rw [if_pos (Int.natCast_nonneg k), Int.toNat_natCast]
theorem o_lt {i j : Int} {M : Sto} : fLt (.int i) (.int j) M = some (.bl (decide (i < j)), M) := id rfl
theorem o_le {i j : Int} {M : Sto} : fLe (.int i) (.int j) M = some (.bl (decide (i ≤ j)), M) := id rfl
theorem o_gt {i j : Int} {M : Sto} : fGt (.int i) (.int j) M = some (.bl (decide (j < i)), M) := id rfl
theorem o_ge {i j : Int} {M : Sto} : fGe (.int i) (.int j) M = some (.bl (decide (j ≤ i)), M) := id rfl
theorem o_band255 {n : Nat} {M : Sto} : fBand (.int n) (.int 255) M = some (.int ((n % 256 : Nat) : Int), M) := by
  have h : (n &&& 255 : Nat) = n % 256 := Nat.and_two_pow_sub_one_eq_mod n 8
  show some (D.int ((((n : Int).toNat &&& (255 : Int).toNat : Nat)) : Int), M) = _
  rw [Int.toNat_natCast]
  exact congrArg (fun k : Nat => some (D.int (k : Int), M)) h
/-! ### is_integer -/
def R_is_integer (ds : List D) (M : Sto) (d : D) (M1 : Sto) : Prop := ∃ x t, ds = [x] ∧ tyOf x M = some t ∧ d = .bl (t == "int") ∧ M = M1
theorem u_is_integer : Fun R_is_integer := by
  rintro ds M d M1 d' M1' ⟨x, t, rfl, h, rfl, rfl⟩ ⟨x', t', e, h', rfl, rfl⟩
  cases e
  rw [h] at h'
  cases h'
  exact ⟨rfl, rfl⟩
noncomputable def F_is_integer : DF := fnR R_is_integer
theorem isTyI (t : String) (h : t ∈ ["NoneType", "bool", "int", "str", "tuple", "list"]) : ∃ a b, isTy t "int" = some a ∧ isTy t "bool" = some b ∧ (a && !b) = (t == "int") := by
  simp only [List.mem_cons, List.mem_nil_iff, or_false] at h
  rcases h with rfl | rfl | rfl | rfl | rfl | rfl <;> exact ⟨_, _, rfl, rfl, by decide⟩
theorem tyOf_mem {x : D} {M : Sto} {t : String} (h : tyOf x M = some t) : t ∈ ["NoneType", "bool", "int", "str", "tuple", "list"] := by
  unfold tyOf at h
  split at h <;> first | (cases h; decide) | (split at h <;> first | (cases h; decide) | cases h) | cases h
theorem hF_is_integer : ∀ ds M r, F_is_integer ds M = some r → Clo M → D.cls M.length ds → ∃ d M1 fl M2, r = .ok d M1 ∧ bd_is_integer (startD N_is_integer.length ds) M = some (fl, M2) ∧ DL.Fin M fl M2 d M1 := fnR_hF fun ds M d M1 ⟨x, t, e1, ht, e2, e3⟩ _ _ => by
  subst e1 e2 e3
  obtain ⟨a, b, h1, h2, h3⟩ := isTyI t (tyOf_mem ht)
  refine ⟨_, _, ?_, Fin.rt Cl.id⟩
  simp only [bd_is_integer, dRet, bndS, dAnd, dCB, dCons, dNil, dVar, dC, bnd, fIsI, startD, List.length_cons, List.length_nil, List.map_cons, List.map_nil, List.cons_append, List.nil_append, List.set_cons_zero, List.set_cons_succ, List.getElem?_cons_zero, List.getElem?_cons_succ, List.replicate_succ, List.replicate_zero, Nat.sub_self, Bool.false_eq_true, if_true, if_false, ite_true, ite_false, reduceIte, ht, h1, h2, truD, dNot]
  rw [← h3]
  cases a <;> rfl
/-! ### is_within, of an int -/
def R_is_within (ds : List D) (M : Sto) (d : D) (M1 : Sto) : Prop := ∃ x a b : Int, ds = [.int x, .int a, .int b] ∧ d = .bl (decide (a ≤ x) && decide (x ≤ b)) ∧ M = M1
theorem u_is_within : Fun R_is_within := by
  rintro ds M d M1 d' M1' ⟨x, a, b, rfl, rfl, rfl⟩ ⟨x', a', b', e, rfl, rfl⟩
  cases e
  exact ⟨rfl, rfl⟩
noncomputable def F_is_within : DF := fnR R_is_within
theorem hF_is_within : ∀ ds M r, F_is_within ds M = some r → Clo M → D.cls M.length ds → ∃ d M1 fl M2, r = .ok d M1 ∧ bd_is_within F_is_integer (startD N_is_within.length ds) M = some (fl, M2) ∧ DL.Fin M fl M2 d M1 := fnR_hF fun ds M d M1 ⟨x, a, b, e1, e2, e3⟩ _ _ => by
  subst e1 e2 e3
  refine ⟨_, _, ?_, Fin.rt Cl.id⟩
  have h1 : F_is_integer [.int x] M = some (.ok (.bl true) M) := fnR_eq u_is_integer ⟨.int x, "int", rfl, rfl, rfl, rfl⟩
  simp only [bd_is_within, dRet, bndS, dAnd, dCall, dCons, dNil, dVar, dC, bnd, startD, List.length_cons, List.length_nil, List.map_cons, List.map_nil, List.cons_append, List.nil_append, List.set_cons_zero, List.set_cons_succ, List.getElem?_cons_zero, List.getElem?_cons_succ, List.replicate_succ, List.replicate_zero, Nat.sub_self, Bool.false_eq_true, if_true, if_false, ite_true, ite_false, reduceIte, h1, truD, dChain, fI0]
  by_cases h : a ≤ x
  · simp [h]
  · simp [h]
/-! ### integer_octets -/
def seven (n : Nat) : List Nat := if n < 128 then [n] else (128 + n % 128) :: seven (n / 128)
termination_by n
decreasing_by omega
theorem seven_lt {n : Nat} (h : n < 128) : seven n = [n] := by rw [seven, if_pos h]
theorem seven_ge {n : Nat} (h : ¬ n < 128) : seven n = (128 + n % 128) :: seven (n / 128) := by rw [seven, if_neg h]
theorem seven_len : ∀ (k n : Nat), n < 128 ^ k → 0 < k → (seven n).length ≤ k := by
  intro k
  induction k with
  | zero => intro n h1 h2; omega
  | succ k ih =>
    intro n h1 h2
    by_cases h : n < 128
    · rw [seven_lt h]
      exact Nat.succ_le_succ (Nat.zero_le _)
    · rw [seven_ge h, List.length_cons]
      have hk : 0 < k := by
        rcases Nat.eq_zero_or_pos k with rfl | h3
        · exact absurd (by simpa using h1) h
        · exact h3
      have := ih (n / 128) (by rw [Nat.pow_succ] at h1; exact Nat.div_lt_of_lt_mul (by rw [Nat.mul_comm]; exact h1)) hk
      omega
theorem band127 (n : Nat) : Builtin.bitAnd (n : Int) (128 - 1) = ((n % 128 : Nat) : Int) := by
  have h : (n &&& 127 : Nat) = n % 128 := Nat.and_two_pow_sub_one_eq_mod n 7
  show ((((n : Int).toNat &&& (127 : Int).toNat : Nat)) : Int) = _
  rw [Int.toNat_natCast]
  exact congrArg Nat.cast h
theorem band255 (n : Nat) : Builtin.bitAnd (n : Int) 255 = ((n % 256 : Nat) : Int) := by
  have h : (n &&& 255 : Nat) = n % 256 := Nat.and_two_pow_sub_one_eq_mod n 8
  show ((((n : Int).toNat &&& (255 : Int).toNat : Nat)) : Int) = _
  rw [Int.toNat_natCast]
  exact congrArg Nat.cast h
def R_integer_octets (ds : List D) (M : Sto) (d : D) (M1 : Sto) : Prop := ∃ n : Nat, n < 128 ^ 100 ∧ ds = [.int n] ∧ d = oc (seven n) ∧ M = M1
theorem u_integer_octets : Fun R_integer_octets := by
  rintro ds M d M1 d' M1' ⟨n, _, rfl, rfl, rfl⟩ ⟨n', _, e, rfl, rfl⟩
  injection e with e
  injection e with e
  rw [Int.ofNat.inj e]
  exact ⟨rfl, rfl⟩
noncomputable def F_integer_octets : DF := fnR R_integer_octets
theorem hF_integer_octets : ∀ ds M r, F_integer_octets ds M = some r → Clo M → D.cls M.length ds → ∃ d M1 fl M2, r = .ok d M1 ∧ bd_integer_octets (startD N_integer_octets.length ds) M = some (fl, M2) ∧ DL.Fin M fl M2 d M1 := fnR_hF fun ds M d M1 ⟨n, hn, e1, e2, e3⟩ c1 _ => by
  subst e1 e2 e3
  have hlen := seven_len 100 n hn (by decide)
  have hs := sz
  have key := while_rel (t := dTest (dOp fGe (dVar 0) (dC (.int 128)))) (db := dSeq (dDrop (dBM "list" fAppend (dVar 1) (dCons (dOp fAdd (dC (.int 128)) (dOp fBand (dVar 0) (dOp fSub (dC (.int 128)) (dC (.int 1))))) dNil))) (dAug fShr 0 (dC (.int 7))))
    (fun k ρ M' => ∃ (m : Nat) (l : List Nat), ρ = [some (.int m), some (.obj M.length)] ∧ M' = M ++ [.lst (l.map fun n : Nat => D.int n)] ∧ seven n = l ++ seven m ∧ k = m / 128) ?_ (n / 128) [some (.int n), some (.obj M.length)] (M ++ [.lst []]) ⟨n, [], rfl, rfl, rfl, rfl⟩
  · obtain ⟨ρ', M', h1, m, l, rfl, rfl, h2, h3⟩ := key
    have hm : m < 128 := by omega
    refine ⟨.rt (oc (seven n)), M ++ [.lst (l.map fun n : Nat => D.int n)], ?_, Fin.cut c1 (oc_cl _)⟩
    unfold bd_integer_octets
    rw [seq_nx (ρ1 := [some (.int n), some (.obj M.length)]) (M1 := M ++ [.lst []]) (by simp only [dSet, dLst, dNil, bnd, bndS, startD, List.length_cons, List.length_nil, List.map_cons, List.map_nil, List.cons_append, List.nil_append, List.set_cons_zero, List.set_cons_succ, List.getElem?_cons_zero, List.getElem?_cons_succ, List.replicate_succ, List.replicate_zero, Nat.sub_self, Bool.false_eq_true, if_true, if_false, ite_true, ite_false, reduceIte]; rfl), seq_nx h1]
    refine ret_ok ?_
    have e1 : seven n = l ++ [m] := by rw [h2, seven_lt hm]
    rw [e1, List.length_append] at hlen
    simp only [dTup, dStar, dCons, dNil, dVar, bnd, itemsD, getA0, List.length_cons, List.length_nil, List.map_cons, List.map_nil, List.cons_append, List.nil_append, List.set_cons_zero, List.set_cons_succ, List.getElem?_cons_zero, List.getElem?_cons_succ, List.replicate_succ, List.replicate_zero, Nat.sub_self, Bool.false_eq_true, if_true, if_false, ite_true, ite_false, reduceIte]
    rw [if_pos (by simp; omega)]
    rw [e1]
    simp [oc]
  · rintro k ρ M' ⟨m, l, rfl, rfl, h2, rfl⟩
    by_cases hm : m < 128
    · left
      refine ⟨M ++ [.lst (l.map fun n : Nat => D.int n)], ?_, by omega, m, l, rfl, rfl, h2, by omega⟩
      simp only [dTest, dOp, dVar, dC, bnd, fI0, List.length_cons, List.length_nil, List.map_cons, List.map_nil, List.cons_append, List.nil_append, List.set_cons_zero, List.set_cons_succ, List.getElem?_cons_zero, List.getElem?_cons_succ, List.replicate_succ, List.replicate_zero, Nat.sub_self, Bool.false_eq_true, if_true, if_false, ite_true, ite_false, reduceIte]
      rw [decide_eq_false (by omega)]
    · right
      refine ⟨M ++ [.lst (l.map fun n : Nat => D.int n)], [some (.int (m / 128 : Nat)), some (.obj M.length)], M ++ [.lst ((l ++ [128 + m % 128]).map fun n : Nat => D.int n)], m / 128 / 128, ?_, .inl ?_, by omega, m / 128, l ++ [128 + m % 128], rfl, rfl, ?_, rfl⟩
      · simp only [dTest, dOp, dVar, dC, bnd, fI0, List.length_cons, List.length_nil, List.map_cons, List.map_nil, List.cons_append, List.nil_append, List.set_cons_zero, List.set_cons_succ, List.getElem?_cons_zero, List.getElem?_cons_succ, List.replicate_succ, List.replicate_zero, Nat.sub_self, Bool.false_eq_true, if_true, if_false, ite_true, ite_false, reduceIte]
        rw [decide_eq_true (by omega)]
      · have hl : l.length < 100 := by
          have := congrArg List.length h2
          rw [seven_ge hm] at this
          simp only [List.length_append, List.length_cons] at this
          omega
        simp only [dSeq, dDrop, dBM, dOp, dVar, dC, dCons, dNil, bnd, bndS, fI0, fII, fAdd, fAppend, dAug, tyD, getA0, setA0, band127, List.length_cons, List.length_nil, List.map_cons, List.map_nil, List.cons_append, List.nil_append, List.set_cons_zero, List.set_cons_succ, List.getElem?_cons_zero, List.getElem?_cons_succ, List.replicate_succ, List.replicate_zero, Nat.sub_self, Bool.false_eq_true, if_true, if_false, ite_true, ite_false, reduceIte]
        simp [hs]
        rw [if_pos (by omega)]
        simp [fII]
      · rw [h2, seven_ge hm, List.append_assoc]
        rfl
/-! ### number_octets -/
def numOct (i : Int) : List Nat := if i < 0 then 4 :: seven (-1 - i).toNat else 3 :: seven i.toNat
def SmallI (i : Int) : Prop := i.natAbs < 128 ^ 99
def R_number_octets (ds : List D) (M : Sto) (d : D) (M1 : Sto) : Prop := ∃ i : Int, SmallI i ∧ ds = [.int i] ∧ d = oc (numOct i) ∧ M = M1
theorem u_number_octets : Fun R_number_octets := by
  rintro ds M d M1 d' M1' ⟨n, _, rfl, rfl, rfl⟩ ⟨n', _, e, rfl, rfl⟩
  cases e
  exact ⟨rfl, rfl⟩
noncomputable def F_number_octets : DF := fnR R_number_octets
theorem hF_number_octets : ∀ ds M r, F_number_octets ds M = some r → Clo M → D.cls M.length ds → ∃ d M1 fl M2, r = .ok d M1 ∧ bd_number_octets F_integer_octets (startD N_number_octets.length ds) M = some (fl, M2) ∧ DL.Fin M fl M2 d M1 := fnR_hF fun ds M d M1 ⟨i, hi, e1, e2, e3⟩ c1 _ => by
  subst e1 e2 e3
  have hs := sz
  have hi' : i.natAbs < 128 ^ 99 := hi
  have hp : (128 : Nat) ^ 99 < 128 ^ 100 := by decide
  have hq := seven_len 100
  refine ⟨_, _, ?_, Fin.rt Cl.id⟩
  unfold bd_number_octets numOct
  by_cases h : i < 0
  · have h1 : F_integer_octets [.int (-1 - i)] M = some (.ok (oc (seven (-1 - i).toNat)) M) := fnR_eq u_integer_octets ⟨(-1 - i).toNat, by omega, by rw [Int.toNat_of_nonneg (by omega)], rfl, rfl⟩
    have hl := hq (-1 - i).toNat (by omega) (by decide)
    rw [seq_rt (d := oc (4 :: seven (-1 - i).toNat)) (M1 := M), if_pos h]
    rw [if_yes (M1 := M) (by simp only [dTest, dOp, dVar, dC, bnd, fI0, startD, List.length_cons, List.length_nil, List.map_cons, List.map_nil, List.cons_append, List.nil_append, List.set_cons_zero, List.set_cons_succ, List.getElem?_cons_zero, List.getElem?_cons_succ, List.replicate_succ, List.replicate_zero, Nat.sub_self, Bool.false_eq_true, if_true, if_false, ite_true, ite_false, reduceIte]; rw [decide_eq_true h])]
    refine ret_ok ?_
    simp only [dTup, dCons, dNil, dStar, dCall, dOp, dVar, dC, bnd, fI0, startD, List.length_cons, List.length_nil, List.map_cons, List.map_nil, List.cons_append, List.nil_append, List.set_cons_zero, List.set_cons_succ, List.getElem?_cons_zero, List.getElem?_cons_succ, List.replicate_succ, List.replicate_zero, Nat.sub_self, Bool.false_eq_true, if_true, if_false, ite_true, ite_false, reduceIte]
    rw [show (0 : Int) - 1 - i = -1 - i from by omega, h1]
    simp only [itemsD, oc, bnd, List.append_nil, List.length_cons, List.length_nil, List.map_cons, List.map_nil, List.cons_append, List.nil_append, List.set_cons_zero, List.set_cons_succ, List.getElem?_cons_zero, List.getElem?_cons_succ, List.replicate_succ, List.replicate_zero, Nat.sub_self, Bool.false_eq_true, if_true, if_false, ite_true, ite_false, reduceIte]
    rw [if_pos (by simp; omega)]
    rfl
  · have h1 : F_integer_octets [.int i] M = some (.ok (oc (seven i.toNat)) M) := fnR_eq u_integer_octets ⟨i.toNat, by omega, by rw [Int.toNat_of_nonneg (by omega)], rfl, rfl⟩
    have hl := hq i.toNat (by omega) (by decide)
    rw [seq_nx (ρ1 := [some (.int i)]) (M1 := M), if_neg h]
    · refine ret_ok ?_
      simp only [dTup, dCons, dNil, dStar, dCall, dOp, dVar, dC, bnd, fI0, startD, List.length_cons, List.length_nil, List.map_cons, List.map_nil, List.cons_append, List.nil_append, List.set_cons_zero, List.set_cons_succ, List.getElem?_cons_zero, List.getElem?_cons_succ, List.replicate_succ, List.replicate_zero, Nat.sub_self, Bool.false_eq_true, if_true, if_false, ite_true, ite_false, reduceIte]
      rw [h1]
      simp only [itemsD, oc, bnd, List.append_nil, List.length_cons, List.length_nil, List.map_cons, List.map_nil, List.cons_append, List.nil_append, List.set_cons_zero, List.set_cons_succ, List.getElem?_cons_zero, List.getElem?_cons_succ, List.replicate_succ, List.replicate_zero, Nat.sub_self, Bool.false_eq_true, if_true, if_false, ite_true, ite_false, reduceIte]
      rw [if_pos (by simp; omega)]
      rfl
    · rw [if_no (M1 := M) (by simp only [dTest, dOp, dVar, dC, bnd, fI0, startD, List.length_cons, List.length_nil, List.map_cons, List.map_nil, List.cons_append, List.nil_append, List.set_cons_zero, List.set_cons_succ, List.getElem?_cons_zero, List.getElem?_cons_succ, List.replicate_succ, List.replicate_zero, Nat.sub_self, Bool.false_eq_true, if_true, if_false, ite_true, ite_false, reduceIte]; rw [decide_eq_false h])]
      rfl
end K90
set_option maxHeartbeats 4000000
namespace K90
open PySem PySem.Spec PyProof.Rows L2 DL
/-! ### equality of octets -/
theorem pyDs_ints (l : List Nat) : pyDs (l.map fun n : Nat => D.int (n : Int)) = some (l.map fun n : Nat => PyData.int (n : Int)) := by
  induction l with
  | nil => rfl
  | cons x l ih => simp [pyDs, pyD, ih]
theorem eqv_ints : ∀ l m : List Nat, PyData.eqvAll (l.map fun n : Nat => PyData.int (n : Int)) (m.map fun n : Nat => PyData.int (n : Int)) = decide (l = m)
  | [], [] => by simp [PyData.eqvAll]
  | x :: l, [] => by simp [PyData.eqvAll]
  | [], y :: m => by simp [PyData.eqvAll]
  | x :: l, y :: m => by
    rw [List.map_cons, List.map_cons, PyData.eqvAll, eqv_ints l m, PyData.eqv]
    by_cases h : x = y
    · subst h
      simp
    · have h2 : ¬ (x : Int) = y := by omega
      simp [h, h2]
theorem lay_ints (l : List Nat) : PyData.canLayAll0 (l.map fun n : Nat => PyData.int (n : Int)) = true ∧ PyData.depthAll (l.map fun n : Nat => PyData.int (n : Int)) = 0 := by
  induction l with
  | nil => exact ⟨by simp [PyData.canLayAll0], by simp [PyData.depthAll]⟩
  | cons x l ih => exact ⟨by simp [PyData.canLayAll0, PyData.canLay0, ih.1], by simp [PyData.depthAll, PyData.depth, ih.2]⟩
theorem shaped_ints (l : List Nat) : SeqAt.shaped (PyData.tuple (l.map fun n : Nat => PyData.int (n : Int))) = true := by
  have h := lay_ints l
  unfold SeqAt.shaped PyData.canLay0 PyData.depth
  rw [h.1, h.2]
  rfl
theorem o_eq_oc (l m : List Nat) (M : Sto) : fEq (oc l) (oc m) M = some (.bl (decide (l = m)), M) := by
  unfold fEq
  have h : ∀ l : List Nat, pyO M (oc l) = some (.tuple (l.map fun n : Nat => PyData.int (n : Int))) := fun l => by
    show pyD (oc l) = _
    unfold oc pyD
    rw [pyDs_ints]
    rfl
  rw [h l, h m]
  dsimp only
  rw [if_pos ⟨shaped_ints l, shaped_ints m⟩, PyData.eqv, eqv_ints]
theorem o_eqA_oc (l m : List Nat) (M : Sto) : fEqA (oc l) (oc m) M = some (.bl (decide (l = m)), M) := by
  cases m with
  | nil =>
    show some (D.bl (l.map fun n : Nat => D.int (n : Int)).isEmpty, M) = _
    cases l <;> rfl
  | cons y m => exact o_eq_oc l (y :: m) M
/-! ### check_of, sealed, is_sealed -/
def chk (l : List Nat) : Nat := l.foldl (fun a c => (a * 257 + c + 1) % 4294967291) 1
theorem chk_nil : chk [] = 1 := rfl
theorem chk_snoc (l : List Nat) (x : Nat) : chk (l ++ [x]) = (chk l * 257 + x + 1) % 4294967291 := by
  unfold chk
  rw [List.foldl_append, List.foldl_cons, List.foldl_nil]
theorem chk_lt (l : List Nat) : chk l < 4294967291 := by
  have key : ∀ (l : List Nat) (a : Nat), a < 4294967291 → l.foldl (fun a c => (a * 257 + c + 1) % 4294967291) a < 4294967291 := by
    intro l
    induction l with
    | nil => intro a h; exact h
    | cons x l ih => intro a h; exact ih _ (Nat.mod_lt _ (by decide))
  exact key l 1 (by decide)
def R_check_of (ds : List D) (M : Sto) (d : D) (M1 : Sto) : Prop := ∃ l : List Nat, (∀ x ∈ l, x < 256) ∧ ds = [oc l] ∧ d = .int (chk l) ∧ M = M1
theorem u_check_of : Fun R_check_of := by
  rintro ds M d M1 d' M1' ⟨n, _, rfl, rfl, rfl⟩ ⟨n', _, e, rfl, rfl⟩
  injection e with e
  rw [oc_inj e]
  exact ⟨rfl, rfl⟩
noncomputable def F_check_of : DF := fnR R_check_of
theorem hF_check_of : ∀ ds M r, F_check_of ds M = some r → Clo M → D.cls M.length ds → ∃ d M1 fl M2, r = .ok d M1 ∧ bd_check_of (startD N_check_of.length ds) M = some (fl, M2) ∧ DL.Fin M fl M2 d M1 := fnR_hF fun ds M d M1 ⟨l, hl, e1, e2, e3⟩ c1 _ => by
  subst e1 e2 e3
  have step : ∀ i ρ M', i < l.length → (∃ v, ρ = [some (oc l), some (.int (chk (l.take i))), v] ∧ M = M') → ∃ d ρ1 M1 ρ2 M2, itSeq (oc l) i M' = some (some d) ∧ dgName 2 d ρ M' = some (ρ1, M1) ∧
      ((dSet 1 (dOp fMod (dOp fAdd (dOp fAdd (dOp fMul (dVar 1) (dC (.int 257))) (dVar 2)) (dC (.int 1))) (dC (.int 4294967291)))) ρ1 M1 = some (.nx ρ2, M2) ∨ (dSet 1 (dOp fMod (dOp fAdd (dOp fAdd (dOp fMul (dVar 1) (dC (.int 257))) (dVar 2)) (dC (.int 1))) (dC (.int 4294967291)))) ρ1 M1 = some (.ct ρ2, M2)) ∧ (∃ v, ρ2 = [some (oc l), some (.int (chk (l.take (i + 1)))), v] ∧ M = M2) := by
    rintro i ρ M' hi ⟨v, rfl, rfl⟩
    refine ⟨.int l[i], _, _, [some (oc l), some (.int (chk (l.take (i + 1)))), some (.int l[i])], M, ?_, rfl, .inl ?_, some (.int l[i]), rfl, rfl⟩
    · simp [itSeq, oc, List.getElem?_eq_getElem hi]
    · have hc := chk_lt (l.take i)
      have h2 : fMul (.int (chk (l.take i) : Nat)) (.int 257) M = some (.int ((chk (l.take i) : Nat) * 257), M) := o_mul (.inl (by omega))
      have e : chk (l.take (i + 1)) = (chk (l.take i) * 257 + l[i] + 1) % 4294967291 := by
        rw [List.take_add_one, List.getElem?_eq_getElem hi]
        exact chk_snoc _ _
      have e2 : ((chk (l.take (i + 1)) : Nat) : Int) = ((chk (l.take i) : Nat) * 257 + (l[i] : Nat) + 1) % 4294967291 := by
        rw [e]
        omega
      rw [e2]
      exact set_ok (op_ok (op_ok (op_ok (op_ok rfl rfl h2) rfl o_add) rfl o_add) rfl o_mod)
  obtain ⟨ρ', M', h1, v, rfl, rfl⟩ := for_run (di := diSeq (dVar 0)) (ρ := [some (oc l), some (.int 1), none]) (M := M) rfl _ l.length ⟨none, by rw [List.take_zero, chk_nil]; rfl, rfl⟩ step (fun ρ M' ⟨v, e1, e2⟩ => by simp [itSeq, oc])
  refine ⟨_, _, ?_, Fin.rt Cl.id⟩
  unfold bd_check_of
  rw [seq_nx (ρ1 := [some (oc l), some (.int 1), none]) (M1 := M) rfl, seq_nx h1, List.take_length]
  rfl

theorem o_shrN (n : Nat) {j : Int} (k : Nat) {M : Sto} (h : j = k) : fShr (.int n) (.int j) M = some (.int ((n / 2 ^ k : Nat) : Int), M) := by
  subst h
  rw [o_shr]
  have : ((n : Int) / 2 ^ k) = ((n / 2 ^ k : Nat) : Int) := by
    rw [Int.natCast_ediv, Int.natCast_pow]
    rfl
  rw [this]
/-! ### sealed -/
def chk4 (c : Nat) : List Nat := [c / 2 ^ 24, c / 2 ^ 16 % 256, c / 2 ^ 8 % 256, c % 256]
def sealedL (l : List Nat) : List Nat := l ++ chk4 (chk l)
theorem sealed_len (l : List Nat) : (sealedL l).length = l.length + 4 := by
  unfold sealedL
  rw [List.length_append]
  rfl
def Byt (l : List Nat) : Prop := ∀ x ∈ l, x < 256
def R_sealed (ds : List D) (M : Sto) (d : D) (M1 : Sto) : Prop := ∃ l : List Nat, Byt l ∧ l.length ≤ 16000000 ∧ ds = [oc l] ∧ d = oc (sealedL l) ∧ M = M1
theorem u_sealed : Fun R_sealed := by
  rintro ds M d M1 d' M1' ⟨n, _, _, rfl, rfl, rfl⟩ ⟨n', _, _, e, rfl, rfl⟩
  injection e with e
  rw [oc_inj e]
  exact ⟨rfl, rfl⟩
noncomputable def F_sealed : DF := fnR R_sealed
theorem oc_app (l m : List Nat) : (l.map fun n : Nat => D.int (n : Int)) ++ (m.map fun n : Nat => D.int (n : Int)) = (l ++ m).map fun n : Nat => D.int (n : Int) := (List.map_append).symm
theorem hF_sealed : ∀ ds M r, F_sealed ds M = some r → Clo M → D.cls M.length ds → ∃ d M1 fl M2, r = .ok d M1 ∧ bd_sealed F_check_of (startD N_sealed.length ds) M = some (fl, M2) ∧ DL.Fin M fl M2 d M1 := fnR_hF fun ds M d M1 ⟨l, hb, hl, e1, e2, e3⟩ c1 _ => by
  subst e1 e2 e3
  have hs := sz
  have h1 : F_check_of [oc l] M = some (.ok (.int (chk l : Nat)) M) := fnR_eq u_check_of ⟨l, hb, rfl, rfl, rfl⟩
  refine ⟨_, _, ?_, Fin.rt Cl.id⟩
  unfold bd_sealed
  rw [seq_nx (ρ1 := [some (oc l), some (.int (chk l : Nat))]) (M1 := M) (set_ok (call_ok (one_ok rfl) h1))]
  refine ret_ok (d := oc (sealedL l)) ?_
  have h2 : (dStar (dVar 0) (dCons (dOp fShr (dVar 1) (dC (.int 24))) (dCons (dOp fBand (dOp fShr (dVar 1) (dC (.int 16))) (dC (.int 255))) (dCons (dOp fBand (dOp fShr (dVar 1) (dC (.int 8))) (dC (.int 255))) (dCons (dOp fBand (dVar 1) (dC (.int 255))) dNil))))) [some (oc l), some (.int (chk l : Nat))] M = some (.ok ((l.map fun n : Nat => D.int (n : Int)) ++ ((chk4 (chk l)).map fun n : Nat => D.int (n : Int))) M) :=
    star_ok (M1 := M) rfl rfl (cons_ok (op_ok rfl rfl (o_shrN _ 24 rfl)) (cons_ok (op_ok (op_ok rfl rfl (o_shrN _ 16 rfl)) rfl o_band255) (cons_ok (op_ok (op_ok rfl rfl (o_shrN _ 8 rfl)) rfl o_band255) (one_ok (op_ok rfl rfl o_band255)))))
  rw [oc_app] at h2
  exact tup_ok h2 (by rw [List.length_map]; have := sealed_len l; omega)
/-! ### is_sealed -/
def isSealedL (l : List Nat) : Bool := decide (4 ≤ l.length) && decide (sealedL (l.take (l.length - 4)) = l)
def R_is_sealed (ds : List D) (M : Sto) (d : D) (M1 : Sto) : Prop := ∃ l : List Nat, Byt l ∧ l.length ≤ 16000000 ∧ ds = [oc l] ∧ d = .bl (isSealedL l) ∧ M = M1
theorem u_is_sealed : Fun R_is_sealed := by
  rintro ds M d M1 d' M1' ⟨n, _, _, rfl, rfl, rfl⟩ ⟨n', _, _, e, rfl, rfl⟩
  injection e with e
  rw [oc_inj e]
  exact ⟨rfl, rfl⟩
noncomputable def F_is_sealed : DF := fnR R_is_sealed
theorem o_len_oc (l : List Nat) (M : Sto) : fLen [oc l] M = some (.int (l.length : Nat), M) := by
  unfold fLen oc lenD
  simp
theorem cut_lo (l : List D) (k : Nat) (h : k ≤ l.length) : DL.cutD l (some (k : Int)) none = l.drop k := by
  unfold DL.cutD
  rw [HT.sIx_nat, HT.sIx_none, Nat.min_eq_left h, ← List.length_drop, List.take_length]
theorem cut_hi (l : List D) (k : Nat) : DL.cutD l none (some (k : Int)) = l.take k := by
  unfold DL.cutD
  rw [HT.sIx_nat, HT.sIx_none, List.drop_zero, Nat.sub_zero]
  rcases Nat.le_total k l.length with h | h
  · rw [Nat.min_eq_left h]
  · rw [Nat.min_eq_right h, List.take_length, List.take_of_length_le h]
theorem cut_both (l : List D) (j k : Nat) (h : j ≤ k) (h2 : k ≤ l.length) : DL.cutD l (some (j : Int)) (some (k : Int)) = (l.drop j).take (k - j) := by
  unfold DL.cutD
  rw [HT.sIx_nat, HT.sIx_nat, Nat.min_eq_left h2, Nat.min_eq_left (Nat.le_trans h h2)]
theorem sl_hi (l : List Nat) (k : Nat) (M : Sto) : fSl (oc l) none (some (k : Int)) M = some (oc (l.take k), M) := by
  unfold fSl oc
  dsimp only
  rw [cut_hi, List.map_take]
theorem sl_lo (l : List Nat) (k : Nat) (h : k ≤ l.length) (M : Sto) : fSl (oc l) (some (k : Int)) none M = some (oc (l.drop k), M) := by
  unfold fSl oc
  dsimp only
  rw [cut_lo _ _ (by rw [List.length_map]; exact h), List.map_drop]
theorem sl_both (l : List Nat) (j k : Nat) (h : j ≤ k) (h2 : k ≤ l.length) (M : Sto) : fSl (oc l) (some (j : Int)) (some (k : Int)) M = some (oc ((l.drop j).take (k - j)), M) := by
  unfold fSl oc
  dsimp only
  rw [cut_both _ _ _ h (by rw [List.length_map]; exact h2), List.map_take, List.map_drop]
theorem hF_is_sealed : ∀ ds M r, F_is_sealed ds M = some r → Clo M → D.cls M.length ds → ∃ d M1 fl M2, r = .ok d M1 ∧ bd_is_sealed F_sealed (startD N_is_sealed.length ds) M = some (fl, M2) ∧ DL.Fin M fl M2 d M1 := fnR_hF fun ds M d M1 ⟨l, hb, hl, e1, e2, e3⟩ c1 _ => by
  subst e1 e2 e3
  refine ⟨_, _, ?_, Fin.rt Cl.id⟩
  unfold bd_is_sealed
  refine ret_ok (andB (op_ok (cb_ok (one_ok rfl) (o_len_oc l M)) rfl (show fGe (.int (l.length : Nat)) (.int 4) M = some (.bl (decide (4 ≤ l.length)), M) from ?_)) fun h4 => ?_)
  · rw [o_ge]
    congr 2
    simp
    omega
  · have h4' : 4 ≤ l.length := of_decide_eq_true h4
    have h1 : F_sealed [oc (l.take (l.length - 4))] M = some (.ok (oc (sealedL (l.take (l.length - 4)))) M) := fnR_eq u_sealed ⟨l.take (l.length - 4), fun x hx => hb x (List.mem_of_mem_take hx), by rw [List.length_take]; omega, rfl, rfl, rfl⟩
    have e : fSl (oc l) none (some ((l.length : Int) - 4)) M = some (oc (l.take (l.length - 4)), M) := by
      rw [show ((l.length : Int) - 4) = ((l.length - 4 : Nat) : Int) from by omega]
      exact sl_hi l _ M
    exact op_ok (call_ok (one_ok (slice_ok rfl rfl (part_ok (op_ok (cb_ok (one_ok rfl) (o_len_oc l M)) rfl o_sub)) e)) h1) (cb_ok (one_ok rfl) rfl) (o_eqA_oc _ _ M)
end K90
set_option maxHeartbeats 4000000
namespace K90
open PySem PySem.Spec PyProof.Rows L2 DL
/-! ### spoilt -/
theorem o_add1 (p : Nat) {M : Sto} : fAdd (.int (p : Int)) (.int 1) M = some (.int ((p + 1 : Nat) : Int), M) := rfl
def R_spoilt (ds : List D) (M : Sto) (d : D) (M1 : Sto) : Prop := ∃ (l : List Nat) (p o : Nat), p < l.length ∧ l.length ≤ 16000000 ∧ ds = [oc l, .int p, .int o] ∧ d = oc (l.take p ++ o :: l.drop (p + 1)) ∧ M = M1
theorem u_spoilt : Fun R_spoilt := by
  rintro ds M d M1 d' M1' ⟨l, p, o, _, _, rfl, rfl, rfl⟩ ⟨l', p', o', _, _, e, rfl, rfl⟩
  injection e with e1 e2
  injection e2 with e2 e3
  injection e3 with e3 e4
  injection e2 with e2
  injection e3 with e3
  rw [oc_inj e1, Int.ofNat.inj e2, Int.ofNat.inj e3]
  exact ⟨rfl, rfl⟩
noncomputable def F_spoilt : DF := fnR R_spoilt
theorem hF_spoilt : ∀ ds M r, F_spoilt ds M = some r → Clo M → D.cls M.length ds → ∃ d M1 fl M2, r = .ok d M1 ∧ bd_spoilt (startD N_spoilt.length ds) M = some (fl, M2) ∧ DL.Fin M fl M2 d M1 := fnR_hF fun ds M d M1 ⟨l, p, o, hp, hl, e1, e2, e3⟩ c1 _ => by
  subst e1 e2 e3
  have hs := sz
  refine ⟨_, _, ?_, Fin.rt Cl.id⟩
  unfold bd_spoilt
  refine ret_ok ?_
  have h2 : (dStar (dSl (dVar 0) dNoP (dPart (dVar 1))) (dCons (dVar 2) (dStar (dSl (dVar 0) (dPart (dOp fAdd (dVar 1) (dC (.int 1)))) dNoP) dNil))) (startD N_spoilt.length [oc l, .int p, .int o]) M = some (.ok (((l.take p).map fun n : Nat => D.int (n : Int)) ++ (D.int (o : Int) :: (((l.drop (p + 1)).map fun n : Nat => D.int (n : Int)) ++ []))) M) :=
    star_ok (M1 := M) (slice_ok rfl rfl (part_ok rfl) (sl_hi l p M)) rfl (cons_ok rfl (star_ok (slice_ok rfl (part_ok (op_ok rfl rfl (o_add1 p))) rfl (sl_lo l (p + 1) (by omega) M)) rfl nil_ok))
  have e : (((l.take p).map fun n : Nat => D.int (n : Int)) ++ (D.int (o : Int) :: (((l.drop (p + 1)).map fun n : Nat => D.int (n : Int)) ++ []))) = (l.take p ++ o :: l.drop (p + 1)).map fun n : Nat => D.int (n : Int) := by
    rw [List.append_nil, List.map_append, List.map_cons]
  rw [e] at h2
  exact tup_ok h2 (by rw [List.length_map, List.length_append, List.length_cons, List.length_take, List.length_drop]; omega)
/-! ### types -/
theorem o_isi {x : D} {M : Sto} {t T : String} (ht : tyOf x M = some t) (hT : isTy t T = some (t == T)) : fIsI [x, .ty T] M = some (.bl (t == T), M) := by
  simp only [fIsI, ht, hT]
theorem isTy_str (t : String) : isTy t "str" = some (t == "str") := rfl
theorem isTy_bool (t : String) : isTy t "bool" = some (t == "bool") := rfl
theorem isTy_tuple (t : String) : isTy t "tuple" = some (t == "tuple") := rfl
theorem tyOf_obj {n : Nat} {M : Sto} {t : String} (h : tyOf (.obj n) M = some t) : t = "list" := by
  have h' : (match M[n]? with
    | some (.lst _) => some "list"
    | _ => none) = some t := h
  split at h'
  · cases h'
    rfl
  · cases h'
/-! ### is_word -/
def LET : Str := "abcdefghijklmnopqrstuvwxyz"
def isW : D → Bool
  | .str s => decide (s.length ≤ 200) && s.cps.toList.all fun c => decide (c ∈ LET.cps.toList)
  | _ => false
def R_is_word (ds : List D) (M : Sto) (d : D) (M1 : Sto) : Prop := ∃ x t, tyOf x M = some t ∧ (∀ s, x = .str s → s.length ≤ 100000) ∧ ds = [x] ∧ d = .bl (isW x) ∧ M = M1
theorem u_is_word : Fun R_is_word := by
  rintro ds M d M1 d' M1' ⟨x, t, _, _, rfl, rfl, rfl⟩ ⟨x', t', _, _, e, rfl, rfl⟩
  cases e
  exact ⟨rfl, rfl⟩
noncomputable def F_is_word : DF := fnR R_is_word
theorem boolsD_map {α : Type} (f : α → Bool) (l : List α) : boolsD (l.map fun c => D.bl (f c)) = some (l.map f) := by
  induction l with
  | nil => rfl
  | cons x l ih => simp [boolsD, ih]
theorem hF_is_word : ∀ ds M r, F_is_word ds M = some r → Clo M → D.cls M.length ds → ∃ d M1 fl M2, r = .ok d M1 ∧ bd_is_word (startD N_is_word.length ds) M = some (fl, M2) ∧ DL.Fin M fl M2 d M1 := fnR_hF fun ds M d M1 ⟨x, t, ht, hz, e1, e2, e3⟩ c1 _ => by
  subst e1 e2 e3
  have hs := sz
  unfold bd_is_word
  have h1 : dCB fIsI (dCons (dVar 0) (dCons (dC (.ty "str")) dNil)) (startD N_is_word.length [x]) M = some (.ok (.bl (t == "str")) M) := cb_ok (cons_ok rfl (one_ok rfl)) (o_isi ht (isTy_str t))
  cases x with
  | str s =>
    cases ht
    have hl := hz s rfl
    have h2 : dOp fLe (dCB fLen (dCons (dVar 0) dNil)) (dC (.int 200)) (startD N_is_word.length [D.str s]) M = some (.ok (.bl (decide (s.length ≤ 200))) M) := by
      refine op_ok (cb_ok (one_ok rfl) (z := .int s.length) (M2 := M) ?_) rfl ?_
      · simp only [fLen, lenD]
        rw [if_pos (by omega)]
      · rw [o_le]
        congr 2
        simp
        omega
    by_cases h200 : s.length ≤ 200
    · have h3 := lc_map (vs := [1]) (di := diStr (dVar 0)) (dg := cgName 1) (dt := dYes) (de := dOp fInS (dVar 1) (dC (.str "abcdefghijklmnopqrstuvwxyz"))) (ρ := startD N_is_word.length [D.str s]) (M := M) (it := itStr s) (xs := s.cps.toList.map fun c => D.str ⟨#[c]⟩)
        (f := fun d => match d with
          | .str s => (match s.cps.toList with
            | [c] => .bl (decide (c ∈ LET.cps.toList))
            | _ => .non)
          | _ => .non) rfl (fun i acc => by simp [itStr, Array.getElem?_toList]; cases s.cps[i]? <;> rfl) (by simp; have : s.cps.size = s.length := rfl; omega) (fun d hd acc => by
            obtain ⟨c, hc, rfl⟩ := List.mem_map.mp hd
            exact ⟨_, rfl, rfl, op_ok rfl rfl rfl⟩)
      rw [List.map_map] at h3
      have h4 : (s.cps.toList.map ((fun d => match d with
          | D.str s => (match s.cps.toList with
            | [c] => D.bl (decide (c ∈ LET.cps.toList))
            | _ => D.non)
          | _ => D.non) ∘ fun c => D.str ⟨#[c]⟩)) = s.cps.toList.map fun c => D.bl (decide (c ∈ LET.cps.toList)) := rfl
      rw [h4] at h3
      have h5 : fAll [.obj M.length] (M ++ [.lst (s.cps.toList.map fun c => D.bl (decide (c ∈ LET.cps.toList)))]) = some (.bl (s.cps.toList.all fun c => decide (c ∈ LET.cps.toList)), M ++ [.lst (s.cps.toList.map fun c => D.bl (decide (c ∈ LET.cps.toList)))]) := by
        simp only [fAll, getA0, List.getElem?_cons_zero, boolsD_map]
        congr 2
        simp [List.all_map]
      refine ⟨_, _, ret_ok (and_t h1 rfl (and_t h2 (by rw [decide_eq_true h200]; rfl) (cb_ok (one_ok h3) h5))), ?_⟩
      have e : isW (.str s) = s.cps.toList.all fun c => decide (c ∈ LET.cps.toList) := by
        show (decide (s.length ≤ 200) && _) = _
        rw [decide_eq_true h200, Bool.true_and]
      rw [e]
      exact Fin.cut c1 trivial
    · refine ⟨_, _, ret_ok (and_t h1 rfl (and_f h2 (by rw [decide_eq_false h200]; rfl))), ?_⟩
      have e : isW (.str s) = decide (s.length ≤ 200) := by
        show (decide (s.length ≤ 200) && _) = _
        rw [decide_eq_false h200, Bool.false_and]
      rw [e]
      exact Fin.rt Cl.id
  | obj n =>
    have ht' := tyOf_obj ht
    subst ht'
    exact ⟨_, _, ret_ok (and_f h1 rfl), Fin.rt Cl.id⟩
  | ty n => cases ht
  | scr n => cases ht
  | _ => cases ht; exact ⟨_, _, ret_ok (and_f h1 rfl), Fin.rt Cl.id⟩
/-! ### is_small -/
def isS : D → Bool
  | .int i => decide (i.natAbs < 10 ^ 400)
  | _ => false
def R_is_small (ds : List D) (M : Sto) (d : D) (M1 : Sto) : Prop := ∃ x t, tyOf x M = some t ∧ ds = [x] ∧ d = .bl (isS x) ∧ M = M1
theorem u_is_small : Fun R_is_small := by
  rintro ds M d M1 d' M1' ⟨x, t, _, rfl, rfl, rfl⟩ ⟨x', t', _, e, rfl, rfl⟩
  cases e
  exact ⟨rfl, rfl⟩
noncomputable def F_is_small : DF := fnR R_is_small
theorem o_pow {i : Int} {k : Nat} {M : Sto} (h : (Builtin.Int.intBits i : Int) * k ≤ 2 ^ 27) : fPow (.int i) (.int (k : Int)) M = some (.int (i ^ k), M) := by
  show (if CPowW i k then some (D.int (i ^ (k : Int).toNat), M) else none) = _
  rw [if_pos ⟨Int.natCast_nonneg k, h⟩, Int.toNat_natCast]
theorem o_pow1 {M : Sto} : fPow (.int 10) (.int 50) M = some (.int (10 ^ 50), M) := o_pow (k := 50) (by decide +kernel)
theorem o_pow2 {M : Sto} : fPow (.int (10 ^ 50)) (.int 8) M = some (.int ((10 ^ 50) ^ 8), M) := o_pow (k := 8) (by decide +kernel)
theorem hF_is_small : ∀ ds M r, F_is_small ds M = some r → Clo M → D.cls M.length ds → ∃ d M1 fl M2, r = .ok d M1 ∧ bd_is_small F_is_integer (startD N_is_small.length ds) M = some (fl, M2) ∧ DL.Fin M fl M2 d M1 := fnR_hF fun ds M d M1 ⟨x, t, ht, e1, e2, e3⟩ c1 _ => by
  subst e1 e2 e3
  unfold bd_is_small
  have h1 : dCall F_is_integer (dCons (dVar 0) dNil) (startD N_is_small.length [x]) M = some (.ok (.bl (t == "int")) M) := call_ok (one_ok rfl) (fnR_eq u_is_integer ⟨x, t, rfl, ht, rfl, rfl⟩)
  cases x with
  | int i =>
    cases ht
    refine ⟨_, _, ret_ok (and_t h1 rfl (op_ok (cb_ok (one_ok rfl) (z := .int (if i < 0 then -i else i)) (M2 := M) rfl) (op_ok (op_ok rfl rfl o_pow1) rfl o_pow2) o_lt)), ?_⟩
    have e : decide ((if i < 0 then -i else i) < ((10 : Int) ^ 50) ^ 8) = isS (.int i) := by
      unfold isS
      have h10 : ((10 : Int) ^ 50) ^ 8 = ((10 ^ 400 : Nat) : Int) := by
        rw [← Int.pow_mul]
        exact (Int.natCast_pow 10 400).symm
      rw [h10]
      congr 1
      apply propext
      generalize (10 ^ 400 : Nat) = B
      split <;> omega
    rw [e]
    exact Fin.rt Cl.id
  | obj n =>
    have ht' := tyOf_obj ht
    subst ht'
    exact ⟨_, _, ret_ok (and_f h1 rfl), Fin.rt Cl.id⟩
  | ty n => cases ht
  | scr n => cases ht
  | _ => cases ht; exact ⟨_, _, ret_ok (and_f h1 rfl), Fin.rt Cl.id⟩
/-! ### own_octets -/
def idx (x : Str) : List Nat := x.cps.toList.map fun c => c - 97
/-- the first octets of a thing: of a tuple its length alone -/
def headO : D → List Nat
  | .non => [0]
  | .bl b => [if b then 2 else 1]
  | .tup ds => 6 :: seven ds.length
  | .str x => 5 :: (seven x.length ++ idx x)
  | .int i => numOct i
  | _ => []
def okH : D → Prop
  | .non => True
  | .bl _ => True
  | .tup ds => ds.length ≤ 16000000
  | .str x => x.length ≤ 200 ∧ ∀ c ∈ x.cps.toList, c ∈ LET.cps.toList
  | .int i => SmallI i
  | _ => False
def R_own_octets (ds : List D) (M : Sto) (d : D) (M1 : Sto) : Prop := ∃ x, okH x ∧ ds = [x] ∧ d = oc (headO x) ∧ M = M1
theorem u_own_octets : Fun R_own_octets := by
  rintro ds M d M1 d' M1' ⟨x, _, rfl, rfl, rfl⟩ ⟨x', _, e, rfl, rfl⟩
  cases e
  exact ⟨rfl, rfl⟩
noncomputable def F_own_octets : DF := fnR R_own_octets
theorem LET_list : LET.cps.toList = (List.range 26).map (· + 97) := by decide +kernel
theorem index_let : ∀ k, k < 26 → Txt.index0 LET ⟨#[k + 97]⟩ = some k := by decide +kernel
theorem let_mem {c : Nat} (h : c ∈ LET.cps.toList) : ∃ k, k < 26 ∧ c = k + 97 := by
  rw [LET_list] at h
  obtain ⟨k, hk, rfl⟩ := List.mem_map.mp h
  exact ⟨k, List.mem_range.mp hk, rfl⟩
theorem sevenN (n : Nat) (hn : n ≤ 16777216) (M : Sto) : F_integer_octets [.int (n : Int)] M = some (.ok (oc (seven n)) M) := fnR_eq u_integer_octets ⟨n, Nat.lt_of_le_of_lt hn (by decide), rfl, rfl, rfl⟩
theorem seven_short (n : Nat) (hn : n ≤ 16777216) : (seven n).length ≤ 5 := seven_len 5 n (Nat.lt_of_le_of_lt hn (by decide)) (by decide)
theorem hF_own_octets : ∀ ds M r, F_own_octets ds M = some r → Clo M → D.cls M.length ds → ∃ d M1 fl M2, r = .ok d M1 ∧ bd_own_octets F_integer_octets F_number_octets (startD N_own_octets.length ds) M = some (fl, M2) ∧ DL.Fin M fl M2 d M1 := fnR_hF fun ds M d M1 ⟨x, hx, e1, e2, e3⟩ c1 _ => by
  subst e1 e2 e3
  have hs := sz
  unfold bd_own_octets
  generalize hρ : startD N_own_octets.length [x] = ρ
  have v0 : dVar 0 ρ M = some (.ok x M) := by rw [← hρ]; rfl
  have isN : dTest (dOp fIsN (dVar 0) (dC .non)) ρ M = some (.ok (DL.isNon x) M) := test_ok (op_ok v0 rfl rfl)
  have isi : ∀ {t T : String}, tyOf x M = some t → isTy t T = some (t == T) → dTru (dCB fIsI (dCons (dVar 0) (dCons (dC (.ty T)) dNil))) ρ M = some (.ok (t == T) M) := fun ht hT => tru_ok (cb_ok (cons_ok v0 (one_ok rfl)) (o_isi ht hT)) rfl
  cases x with
  | non =>
    refine ⟨_, _, seq_rt ((if_yes isN).trans (ret_ok (tup_ok (one_ok rfl) (by decide)))), Fin.rt Cl.id⟩
  | bl b =>
    rw [seq_nx (ρ1 := ρ) (M1 := M) (if_no isN)]
    refine ⟨_, _, seq_rt ((if_yes (isi rfl rfl)).trans (ret_ok (tup_ok (ds := [.int ((if b then 2 else 1 : Nat) : Int)]) (one_ok ?_) (show 1 ≤ sizeLine by decide)))), Fin.rt Cl.id⟩
    cases b with
    | true => exact ife_t (tru_ok v0 rfl) rfl
    | false => exact ife_f (tru_ok v0 rfl) rfl
  | tup ds =>
    have hl : ds.length ≤ 16000000 := hx
    rw [seq_nx (ρ1 := ρ) (M1 := M) (if_no isN), seq_nx (ρ1 := ρ) (M1 := M) (if_no (isi rfl rfl))]
    have h1 := sevenN ds.length (by omega) M
    have h2 := seven_short ds.length (by omega)
    refine ⟨_, _, seq_rt ((if_yes (isi rfl rfl)).trans (ret_ok (tup_ok (cons_ok rfl (star_ok (call_ok (one_ok (cb_ok (one_ok v0) rfl)) h1) rfl nil_ok)) (by simp; omega)))), ?_⟩
    rw [List.append_nil]
    exact Fin.rt Cl.id
  | str y =>
    obtain ⟨hl, hc⟩ := hx
    rw [seq_nx (ρ1 := ρ) (M1 := M) (if_no isN), seq_nx (ρ1 := ρ) (M1 := M) (if_no (isi rfl rfl)), seq_nx (ρ1 := ρ) (M1 := M) (if_no (isi rfl rfl))]
    have h1 := sevenN y.length (by omega) M
    have h2 := seven_short y.length (by omega)
    have h3 := lc_map (vs := [1]) (di := diStr (dVar 0)) (dg := cgName 1) (dt := dYes) (de := dBM "str" fSIndex (dC (.str "abcdefghijklmnopqrstuvwxyz")) (dCons (dVar 1) dNil)) (ρ := ρ) (M := M) (it := itStr y) (xs := y.cps.toList.map fun c => D.str ⟨#[c]⟩)
        (f := fun d => match d with
          | .str s => (match s.cps.toList with
            | [c] => .int ((c - 97 : Nat) : Int)
            | _ => .non)
          | _ => .non) (by simp only [diStr, bnd, v0]) (fun i acc => by simp [itStr, Array.getElem?_toList]; cases y.cps[i]? <;> rfl) (by simp; have : y.cps.size = y.length := rfl; omega) (fun d hd acc => by
            obtain ⟨c, hc', rfl⟩ := List.mem_map.mp hd
            obtain ⟨k, hk, rfl⟩ := let_mem (hc c hc')
            refine ⟨_, rfl, rfl, bm_ok (x := .str LET) rfl rfl (one_ok (d := .str ⟨#[k + 97]⟩) (by rw [← hρ]; rfl)) (z := .int ((k : Nat) : Int)) ?_⟩
            simp only [fSIndex, index_let k hk])
    rw [List.map_map] at h3
    have h4 : (y.cps.toList.map ((fun d => match d with
          | D.str s => (match s.cps.toList with
            | [c] => D.int ((c - 97 : Nat) : Int)
            | _ => D.non)
          | _ => D.non) ∘ fun c => D.str ⟨#[c]⟩)) = (idx y).map fun n : Nat => D.int (n : Int) := by
      unfold idx
      rw [List.map_map]
      rfl
    rw [h4] at h3
    have hlen : (idx y).length = y.length := by
      unfold idx
      rw [List.length_map]
      rfl
    have hlenS : (lenD (.str y) M) = some y.length := by
      simp only [lenD]
      rw [if_pos (by omega)]
    refine ⟨_, _, seq_rt ((if_yes (isi rfl rfl)).trans (ret_ok (tup_ok (cons_ok rfl (star_ok (call_ok (one_ok (cb_ok (one_ok v0) (show fLen [.str y] M = some (.int (y.length : Nat), M) from by simp only [fLen, hlenS]))) h1) rfl (star_ok (es := (idx y).map fun n : Nat => D.int (n : Int)) h3 (by simp only [itemsD, getA0, List.getElem?_cons_zero]) nil_ok))) (by simp [hlen]; omega)))), ?_⟩
    rw [List.append_nil, oc_app]
    exact Fin.cut c1 (oc_cl (headO (.str y)))
  | int i =>
    rw [seq_nx (ρ1 := ρ) (M1 := M) (if_no isN), seq_nx (ρ1 := ρ) (M1 := M) (if_no (isi rfl rfl)), seq_nx (ρ1 := ρ) (M1 := M) (if_no (isi rfl rfl)), seq_nx (ρ1 := ρ) (M1 := M) (if_no (isi rfl rfl))]
    exact ⟨_, _, ret_ok (call_ok (one_ok v0) (fnR_eq u_number_octets ⟨i, hx, rfl, rfl, rfl⟩)), Fin.rt Cl.id⟩
  | obj n => exact hx.elim
  | ty n => exact hx.elim
  | scr n => exact hx.elim
end K90
set_option maxHeartbeats 4000000
namespace K90
open PySem PySem.Spec PyProof.Rows L2 DL
/-! ### lists that are compared with [] -/
theorem ne_nil {i n : Nat} {ρ : DL.LE} {M : Sto} {L : List D} (hv : dVar i ρ M = some (.ok (.obj n) M)) (hn : M[n]? = some (.lst L)) : dTest (dOp fNeA (dVar i) (dLst dNil)) ρ M = some (.ok (!L.isEmpty) (M ++ [.lst []])) := by
  refine test_ok (op_ok hv (lst_ok nil_ok (Nat.zero_le _)) ?_)
  have hlt := (List.getElem?_eq_some_iff.mp hn).1
  have e1 : (M ++ [Ob.lst []])[n]? = some (.lst L) := by rw [List.getElem?_append_left hlt]; exact hn
  have e2 : (M ++ [Ob.lst []])[M.length]? = some (.lst []) := getA0
  have hl : lensD (M ++ [Ob.lst []]) (.obj n) (.obj M.length) = some (L.length, 0) := by simp only [lensD, e1, e2, List.length_nil]
  unfold fNeA
  dsimp only
  rw [hl]
  dsimp only
  cases L with
  | nil =>
    rw [if_pos (show ([] : List D).length = 0 from rfl)]
    unfold fNe
    simp only [pyO, e1, e2, pyDs, Option.map_some]
    rw [if_pos ⟨by decide, by decide⟩]
    rfl
  | cons x L => rw [if_neg (by simp)]; rfl
theorem eq_nil {i n : Nat} {ρ : DL.LE} {M : Sto} {L : List D} (hv : dVar i ρ M = some (.ok (.obj n) M)) (hn : M[n]? = some (.lst L)) : dTest (dOp fEqA (dVar i) (dLst dNil)) ρ M = some (.ok L.isEmpty (M ++ [.lst []])) := by
  refine test_ok (op_ok hv (lst_ok nil_ok (Nat.zero_le _)) ?_)
  have hlt := (List.getElem?_eq_some_iff.mp hn).1
  have e1 : (M ++ [Ob.lst []])[n]? = some (.lst L) := by rw [List.getElem?_append_left hlt]; exact hn
  have e2 : (M ++ [Ob.lst []])[M.length]? = some (.lst []) := getA0
  have hl : lensD (M ++ [Ob.lst []]) (.obj n) (.obj M.length) = some (L.length, 0) := by simp only [lensD, e1, e2, List.length_nil]
  unfold fEqA
  dsimp only
  rw [hl]
  dsimp only
  cases L with
  | nil =>
    rw [if_pos (show ([] : List D).length = 0 from rfl)]
    unfold fEq
    simp only [pyO, e1, e2, pyDs, Option.map_some]
    rw [if_pos ⟨by decide, by decide⟩]
    rfl
  | cons x L => rw [if_neg (by simp)]; rfl
theorem pop_ok {n : Nat} {M : Sto} {L : List D} {x : D} (hn : M[n]? = some (.lst (L ++ [x]))) : fPop (.obj n) [] M = some (x, M.set n (.lst L)) := by
  simp only [fPop, hn]
  rw [List.length_append, List.length_singleton, Nat.add_sub_cancel, List.getElem?_append_right (Nat.le_refl _), Nat.sub_self, List.dropLast_concat]
  rfl
theorem ext_ok {n : Nat} {M : Sto} {L es : List D} {y : D} (hn : M[n]? = some (.lst L)) (hy : itemsD y M = some es) (hl : L.length + es.length ≤ sizeLine) : fExt (.obj n) [y] M = some (.non, M.set n (.lst (L ++ es))) := by
  simp only [fExt, hn, hy, if_pos hl]
theorem app_ok {n : Nat} {M : Sto} {L : List D} {y : D} (hn : M[n]? = some (.lst L)) (hl : L.length < sizeLine) : fAppend (.obj n) [y] M = some (.non, M.set n (.lst (L ++ [y]))) := by
  simp only [fAppend, hn, if_pos hl]
theorem ty_list {n : Nat} {M : Sto} {L : List D} (hn : M[n]? = some (.lst L)) : tyD "list" (.obj n) M = true := by
  simp only [tyD, hn]
  rfl
/-! ### the octets of a thing -/
mutual
def octD : D → List Nat
  | .tup ds => headO (.tup ds) ++ octDs ds
  | .non => headO .non
  | .bl b => headO (.bl b)
  | .int i => headO (.int i)
  | .str x => headO (.str x)
  | .ty n => []
  | .scr n => []
  | .obj n => []
def octDs : List D → List Nat
  | [] => []
  | d :: ds => octD d ++ octDs ds
end
mutual
def okD : D → Prop
  | .tup ds => okH (.tup ds) ∧ okDs ds
  | .non => True
  | .bl _ => True
  | .int i => okH (.int i)
  | .str x => okH (.str x)
  | .ty n => False
  | .scr n => False
  | .obj n => False
def okDs : List D → Prop
  | [] => True
  | d :: ds => okD d ∧ okDs ds
end
mutual
def nod : D → Nat
  | .tup ds => 1 + nods ds
  | .non => 1
  | .bl b => 1
  | .int i => 1
  | .str x => 1
  | .ty n => 1
  | .scr n => 1
  | .obj n => 1
def nods : List D → Nat
  | [] => 0
  | d :: ds => nod d + nods ds
end
theorem octDs_app : ∀ xs ys : List D, octDs (xs ++ ys) = octDs xs ++ octDs ys
  | [], _ => rfl
  | x :: xs, ys => by rw [List.cons_append, octDs, octDs, octDs_app xs ys, List.append_assoc]
theorem nods_app : ∀ xs ys : List D, nods (xs ++ ys) = nods xs + nods ys
  | [], _ => by simp [nods]
  | x :: xs, ys => by rw [List.cons_append, nods, nods, nods_app xs ys, Nat.add_assoc]
theorem nods_rev : ∀ xs : List D, nods xs.reverse = nods xs
  | [] => rfl
  | x :: xs => by rw [List.reverse_cons, nods_app, nods_rev xs, nods, nods, nods]; omega
theorem okDs_app : ∀ {xs ys : List D}, okDs (xs ++ ys) ↔ okDs xs ∧ okDs ys
  | [], _ => by simp [okDs]
  | x :: xs, ys => by rw [List.cons_append, okDs, okDs, okDs_app, and_assoc]
theorem okDs_rev : ∀ {xs : List D}, okDs xs.reverse ↔ okDs xs
  | [] => by simp
  | x :: xs => by
    rw [List.reverse_cons, okDs_app, okDs_rev, okDs, okDs, okDs]
    constructor
    · rintro ⟨a, b, _⟩
      exact ⟨b, a⟩
    · rintro ⟨a, b⟩
      exact ⟨b, a, trivial⟩
theorem okD_H {d : D} (h : okD d) : okH d := by
  cases d with
  | tup ds => exact h.1
  | ty n => exact h.elim
  | scr n => exact h.elim
  | obj n => exact h.elim
  | _ => exact h
theorem seven_pos (n : Nat) : 0 < (seven n).length := by
  by_cases h : n < 128
  · rw [seven_lt h]; exact Nat.one_pos
  · rw [seven_ge h]; exact Nat.succ_pos _
theorem head_pos {d : D} (h : okH d) : 0 < (headO d).length := by
  cases d with
  | non => exact Nat.one_pos
  | bl b => exact Nat.one_pos
  | int i =>
    show 0 < (numOct i).length
    unfold numOct
    split
    · exact Nat.succ_pos _
    · exact Nat.succ_pos _
  | str x => exact Nat.succ_pos _
  | tup ds => exact Nat.succ_pos _
  | ty n => exact h.elim
  | scr n => exact h.elim
  | obj n => exact h.elim
mutual
theorem nod_le : ∀ d : D, okD d → nod d ≤ (octD d).length
  | .tup ds, h => by
    rw [nod, octD, List.length_append]
    have h1 := head_pos h.1
    have h2 := nods_le ds h.2
    omega
  | .non, _ => by rw [nod, octD]; exact Nat.le_refl _
  | .bl b, _ => by rw [nod, octD]; exact Nat.le_refl _
  | .int i, h => by rw [nod, octD]; exact head_pos (d := .int i) h
  | .str x, h => by rw [nod, octD]; exact head_pos (d := .str x) h
  | .ty n, h => h.elim
  | .scr n, h => h.elim
  | .obj n, h => h.elim
theorem nods_le : ∀ ds : List D, okDs ds → nods ds ≤ (octDs ds).length
  | [], _ => Nat.le_refl _
  | d :: ds, h => by
    rw [nods, octDs, List.length_append]
    have h1 := nod_le d h.1
    have h2 := nods_le ds h.2
    omega
end
theorem len_nods : ∀ ds : List D, ds.length ≤ nods ds
  | [] => Nat.le_refl _
  | d :: ds => by
    rw [List.length_cons, nods]
    have h1 := len_nods ds
    have h2 : 1 ≤ nod d := by cases d <;> simp [nod]
    omega
def tailO : D → List Nat
  | .tup ds => octDs ds
  | _ => []
theorem octD_head {d : D} (h : okD d) : octD d = headO d ++ tailO d := by
  cases d with
  | tup ds => rfl
  | ty n => exact h.elim
  | scr n => exact h.elim
  | obj n => exact h.elim
  | _ => simp [octD, tailO]
theorem seven_byt : ∀ (k n : Nat), n < 128 ^ k → 0 < k → Byt (seven n) := by
  intro k
  induction k with
  | zero => intro n h1 h2; omega
  | succ k ih =>
    intro n h1 h2
    by_cases h : n < 128
    · rw [seven_lt h]
      intro x hx
      rw [List.mem_singleton.mp hx]
      omega
    · rw [seven_ge h]
      intro x hx
      rcases List.mem_cons.mp hx with rfl | hx
      · omega
      · have hk : 0 < k := by
          rcases Nat.eq_zero_or_pos k with rfl | h3
          · exact absurd (by simpa using h1) h
          · exact h3
        exact ih (n / 128) (by rw [Nat.pow_succ] at h1; exact Nat.div_lt_of_lt_mul (by rw [Nat.mul_comm]; exact h1)) hk x hx
theorem byt_cons {x : Nat} {l : List Nat} (h : x < 256) (hl : Byt l) : Byt (x :: l) := fun y hy => by
  rcases List.mem_cons.mp hy with rfl | hy
  · exact h
  · exact hl y hy
theorem byt_app {l m : List Nat} (h : Byt l) (hm : Byt m) : Byt (l ++ m) := fun y hy => (List.mem_append.mp hy).elim (h y) (hm y)
theorem byt_small (n : Nat) (h : n ≤ 16777216) : Byt (seven n) := seven_byt 5 n (Nat.lt_of_le_of_lt h (by decide)) (by decide)
theorem numOct_byt {i : Int} (h : SmallI i) : Byt (numOct i) := by
  have h' : i.natAbs < 128 ^ 99 := h
  have hp : (128 : Nat) ^ 99 < 128 ^ 100 := by decide
  unfold numOct
  split
  · exact byt_cons (by decide) (seven_byt 100 _ (by omega) (by decide))
  · exact byt_cons (by decide) (seven_byt 100 _ (by omega) (by decide))
theorem head_byt {d : D} (h : okH d) : Byt (headO d) := by
  cases d with
  | non => exact byt_cons (by decide) (fun x hx => by cases hx)
  | bl b => exact byt_cons (by cases b <;> decide) (fun x hx => by cases hx)
  | int i => exact numOct_byt h
  | str x =>
    refine byt_cons (by decide) (byt_app (byt_small _ (by have := h.1; omega)) fun y hy => ?_)
    obtain ⟨c, hc, rfl⟩ := List.mem_map.mp hy
    obtain ⟨k, hk, rfl⟩ := let_mem (h.2 c hc)
    omega
  | tup ds => exact byt_cons (by decide) (byt_small _ (by have : ds.length ≤ 16000000 := h; omega))
  | ty n => exact h.elim
  | scr n => exact h.elim
  | obj n => exact h.elim
mutual
theorem oct_byt : ∀ d : D, okD d → Byt (octD d)
  | .tup ds, h => by rw [octD]; exact byt_app (head_byt h.1) (octs_byt ds h.2)
  | .non, _ => head_byt (d := .non) trivial
  | .bl b, _ => head_byt (d := .bl b) trivial
  | .int i, h => by rw [octD]; exact head_byt (d := .int i) h
  | .str x, h => by rw [octD]; exact head_byt (d := .str x) h
  | .ty n, h => h.elim
  | .scr n, h => h.elim
  | .obj n, h => h.elim
theorem octs_byt : ∀ ds : List D, okDs ds → Byt (octDs ds)
  | [], _ => fun x hx => by cases hx
  | d :: ds, h => by rw [octDs]; exact byt_app (oct_byt d h.1) (octs_byt ds h.2)
end
/-! ### packed -/
def packedL (d : D) : List Nat := sealedL (78 :: octD d)
def R_packed (ds : List D) (M : Sto) (d : D) (M1 : Sto) : Prop := ∃ x, okD x ∧ (octD x).length ≤ 4000000 ∧ ds = [x] ∧ d = oc (packedL x) ∧ M = M1
theorem u_packed : Fun R_packed := by
  rintro ds M d M1 d' M1' ⟨x, _, _, rfl, rfl, rfl⟩ ⟨x', _, _, e, rfl, rfl⟩
  cases e
  exact ⟨rfl, rfl⟩
noncomputable def F_packed : DF := fnR R_packed
def nts (l : List Nat) : List D := l.map fun n : Nat => D.int (n : Int)
theorem hF_packed : ∀ ds M r, F_packed ds M = some r → Clo M → D.cls M.length ds → ∃ d M1 fl M2, r = .ok d M1 ∧ bd_packed F_own_octets F_sealed (startD N_packed.length ds) M = some (fl, M2) ∧ DL.Fin M fl M2 d M1 := fnR_hF fun ds M d M1 ⟨x, hx, hz, e1, e2, e3⟩ c1 _ => by
  subst e1 e2 e3
  have hs := sz
  unfold bd_packed
  have key := while_rel (t := dTest (dOp fNeA (dVar 2) (dLst dNil))) (db := dSeq (dSet 3 (dBM "list" fPop (dVar 2) dNil))
    (dSeq (dDrop (dBM "list" fExt (dVar 1) (dCons (dCall F_own_octets (dCons (dVar 3) dNil)) dNil)))
    (dIfS (dTru (dCB fIsI (dCons (dVar 3) (dCons (dC (.ty "tuple")) dNil)))) (dDrop (dBM "list" fExt (dVar 2) (dCons (dRev (dVar 3)) dNil))) dNext)))
    (fun m ρ M' => ∃ (F : List Nat) (L : List D) (g : Sto) (v : Option D), ρ = [some x, some (.obj M.length), some (.obj (M.length + 1)), v] ∧ M' = M ++ (.lst (nts F) :: .lst L :: g) ∧ okDs L ∧ F ++ octDs L.reverse = 78 :: octD x ∧ m = nods L) ?_
    (nods [x]) [some x, some (.obj M.length), some (.obj (M.length + 1)), none] (M ++ [.lst (nts [78]), .lst [x]]) ⟨[78], [x], [], none, rfl, rfl, ⟨hx, trivial⟩, by simp [octDs], rfl⟩
  · obtain ⟨ρ', M', h1, F, L, g, v, rfl, rfl, hL, hF, h0⟩ := key
    have hL0 : L = [] := by
      have := len_nods L
      exact List.length_eq_zero_iff.mp (by omega)
    subst hL0
    have hF' : F = 78 :: octD x := by simpa [octDs] using hF
    subst hF'
    have hp : dPar 1 2 (dCons (dLst (dCons (dC (.int 78)) dNil)) (dCons (dLst (dCons (dVar 0) dNil)) dNil)) (startD N_packed.length [x]) M = some (.nx [some x, some (.obj M.length), some (.obj (M.length + 1)), none], M ++ [.lst (nts [78]), .lst [x]]) := by
      have a1 : dLst (dCons (dC (.int 78)) dNil) (startD N_packed.length [x]) M = some (.ok (.obj M.length) (M ++ [.lst (nts [78])])) := lst_ok (one_ok rfl) (show 1 ≤ sizeLine by decide)
      have a2 : dLst (dCons (dVar 0) dNil) (startD N_packed.length [x]) (M ++ [.lst (nts [78])]) = some (.ok (.obj (M ++ [Ob.lst (nts [78])]).length) ((M ++ [Ob.lst (nts [78])]) ++ [Ob.lst [x]])) := lst_ok (one_ok rfl) (show 1 ≤ sizeLine by decide)
      rw [lenA, appA] at a2
      exact par_ok (cons_ok a1 (one_ok a2))
    rw [seq_nx hp, seq_nx h1]
    have ht : dCB fTuple (dCons (dVar 1) dNil) [some x, some (.obj M.length), some (.obj (M.length + 1)), v] (M ++ (.lst (nts (78 :: octD x)) :: .lst [] :: g)) = some (.ok (oc (78 :: octD x)) (M ++ (.lst (nts (78 :: octD x)) :: .lst [] :: g))) :=
      cb_ok (one_ok rfl) (by simp only [fTuple, itemsD, getA0, List.getElem?_cons_zero]; rfl)
    refine ⟨_, _, ret_ok (call_ok (one_ok ht) (fnR_eq u_sealed ⟨78 :: octD x, byt_cons (by decide) (oct_byt x hx), by rw [List.length_cons]; omega, rfl, rfl, rfl⟩)), Fin.cut c1 (oc_cl _)⟩
  · rintro m ρ M' ⟨F, L, g, v, rfl, rfl, hL, hF, rfl⟩
    have hM : (M ++ (Ob.lst (nts F) :: .lst L :: g))[M.length + 1]? = some (.lst L) := by rw [getA 1]; rfl
    have ht := ne_nil (i := 2) (ρ := [some x, some (.obj M.length), some (.obj (M.length + 1)), v]) rfl hM
    rcases List.eq_nil_or_concat L with rfl | ⟨L', y, rfl⟩
    · left
      exact ⟨_, ht, rfl, F, [], g ++ [.lst []], v, rfl, by rw [appA]; rfl, hL, hF, rfl⟩
    · right
      rw [List.concat_eq_append] at hL hF hM ht ⊢
      obtain ⟨hL', hy, _⟩ := okDs_app.mp hL
      have ht' : dTest (dOp fNeA (dVar 2) (dLst dNil)) [some x, some (.obj M.length), some (.obj (M.length + 1)), v] (M ++ (.lst (nts F) :: .lst (L' ++ [y]) :: g)) = some (.ok true (M ++ (.lst (nts F) :: .lst (L' ++ [y]) :: (g ++ [.lst []])))) := by
        rw [ht, appA]
        cases L' <;> rfl
      have hsum := congrArg List.length hF
      rw [List.reverse_append, List.reverse_singleton, List.singleton_append, octDs] at hF hsum
      rw [octD_head hy] at hF hsum
      simp only [List.length_append, List.length_cons] at hsum
      generalize hg : g ++ [Ob.lst []] = g1 at ht'
      have p1 : dSet 3 (dBM "list" fPop (dVar 2) dNil) [some x, some (.obj M.length), some (.obj (M.length + 1)), v] (M ++ (.lst (nts F) :: .lst (L' ++ [y]) :: g1)) = some (.nx [some x, some (.obj M.length), some (.obj (M.length + 1)), some y], M ++ (.lst (nts F) :: .lst L' :: g1)) := by
        refine set_ok (bm_ok rfl (ty_list (L := L' ++ [y]) (by rw [getA 1]; rfl)) nil_ok ?_)
        rw [pop_ok (L := L') (x := y) (by rw [getA 1]; rfl), setA 1]
        rfl
      have p2 : dDrop (dBM "list" fExt (dVar 1) (dCons (dCall F_own_octets (dCons (dVar 3) dNil)) dNil)) [some x, some (.obj M.length), some (.obj (M.length + 1)), some y] (M ++ (.lst (nts F) :: .lst L' :: g1)) = some (.nx [some x, some (.obj M.length), some (.obj (M.length + 1)), some y], M ++ (.lst (nts (F ++ headO y)) :: .lst L' :: g1)) := by
        refine drop_ok (bm_ok rfl (ty_list (L := nts F) getA0) (one_ok (call_ok (one_ok rfl) (fnR_eq u_own_octets ⟨y, okD_H hy, rfl, rfl, rfl⟩))) (z := .non) ?_)
        rw [ext_ok (L := nts F) (es := nts (headO y)) getA0 rfl (by unfold nts; rw [List.length_map, List.length_map]; omega), setA0]
        unfold nts
        rw [oc_app]
        rfl
      by_cases hty : ∃ es, y = .tup es
      · obtain ⟨es, rfl⟩ := hty
        have hes := hy.2
        rw [show tailO (.tup es) = octDs es from rfl] at hF hsum
        have n1 := nods_le es hes
        have n2 := len_nods es
        have n3 := nods_le L' hL'
        have n4 := len_nods L'
        have n5 : (octDs L'.reverse).length = (octDs L').length := by
          have key : ∀ l : List D, (octDs l.reverse).length = (octDs l).length := by
            intro l
            induction l with
            | nil => rfl
            | cons a l ih => rw [List.reverse_cons, octDs_app, List.length_append, ih, octDs, octDs, octDs, List.append_nil, List.length_append]; omega
          exact key L'
        have p3 : dIfS (dTru (dCB fIsI (dCons (dVar 3) (dCons (dC (.ty "tuple")) dNil)))) (dDrop (dBM "list" fExt (dVar 2) (dCons (dRev (dVar 3)) dNil))) dNext [some x, some (.obj M.length), some (.obj (M.length + 1)), some (.tup es)] (M ++ (.lst (nts (F ++ headO (.tup es))) :: .lst L' :: g1)) = some (.nx [some x, some (.obj M.length), some (.obj (M.length + 1)), some (.tup es)], M ++ (.lst (nts (F ++ headO (.tup es))) :: .lst (L' ++ es.reverse) :: g1)) := by
          rw [if_yes (tru_ok (cb_ok (cons_ok rfl (one_ok rfl)) (o_isi rfl (isTy_tuple _))) rfl)]
          refine drop_ok (bm_ok rfl (ty_list (L := L') (by rw [getA 1]; rfl)) (one_ok (rev_ok rfl)) (z := .non) ?_)
          rw [ext_ok (L := L') (es := es.reverse) (by rw [getA 1]; rfl) rfl (by rw [List.length_reverse]; omega), setA 1]
          rfl
        refine ⟨_, _, _, nods (L' ++ es.reverse), ht', .inl (by rw [seq_nx p1, seq_nx p2]; exact p3), ?_, F ++ headO (.tup es), L' ++ es.reverse, g1, some (.tup es), rfl, rfl, okDs_app.mpr ⟨hL', okDs_rev.mpr hes⟩, ?_, rfl⟩
        · rw [nods_app, nods_app, nods_rev, nods, nods, nod]
          omega
        · rw [List.reverse_append, List.reverse_reverse, octDs_app, ← hF]
          simp [List.append_assoc]
      · have hyt : ∃ t, tyOf y (M ++ (.lst (nts (F ++ headO y)) :: .lst L' :: g1)) = some t ∧ (t == "tuple") = false := by
          cases y with
          | tup es => exact absurd ⟨es, rfl⟩ hty
          | ty n => exact hy.elim
          | scr n => exact hy.elim
          | obj n => exact hy.elim
          | _ => exact ⟨_, rfl, by decide⟩
        obtain ⟨t, hty1, hty2⟩ := hyt
        have hy0 : tailO y = [] := by
          cases y with
          | tup es => exact absurd ⟨es, rfl⟩ hty
          | _ => rfl
        rw [hy0] at hF
        have p3 : dIfS (dTru (dCB fIsI (dCons (dVar 3) (dCons (dC (.ty "tuple")) dNil)))) (dDrop (dBM "list" fExt (dVar 2) (dCons (dRev (dVar 3)) dNil))) dNext [some x, some (.obj M.length), some (.obj (M.length + 1)), some y] (M ++ (.lst (nts (F ++ headO y)) :: .lst L' :: g1)) = some (.nx [some x, some (.obj M.length), some (.obj (M.length + 1)), some y], M ++ (.lst (nts (F ++ headO y)) :: .lst L' :: g1)) := by
          rw [if_no (tru_ok (cb_ok (cons_ok rfl (one_ok rfl)) (o_isi hty1 (isTy_tuple t))) (by rw [hty2]; rfl))]
          rfl
        refine ⟨_, _, _, nods L', ht', .inl (by rw [seq_nx p1, seq_nx p2]; exact p3), ?_, F ++ headO y, L', g1, some y, rfl, rfl, hL', ?_, rfl⟩
        · rw [nods_app, nods, nods]
          have : 1 ≤ nod y := by cases y <;> simp [nod]
          omega
        · rw [← hF]
          simp [List.append_assoc]
end K90
set_option maxHeartbeats 4000000
namespace K90
open PySem PySem.Spec PyProof.Rows L2 DL
/-! ### is_plain -/
mutual
def plD : Nat → D → Bool
  | k, .tup ds => decide (k ≤ 100) && plDs (k + 1) ds
  | _, .non => true
  | _, .bl b => true
  | _, .int i => isS (.int i)
  | _, .str x => isW (.str x)
  | _, .ty n => false
  | _, .scr n => false
  | _, .obj n => false
def plDs : Nat → List D → Bool
  | _, [] => true
  | k, d :: ds => plD k d && plDs k ds
end
mutual
def typD (M : Sto) : D → Prop
  | .tup ds => typDs M ds
  | .non => True
  | .bl b => True
  | .int i => True
  | .str x => x.length ≤ 100000
  | .ty n => False
  | .scr n => False
  | .obj n => ∃ L, M[n]? = some (.lst L)
def typDs (M : Sto) : List D → Prop
  | [] => True
  | d :: ds => typD M d ∧ typDs M ds
end
theorem typ_tyOf {M g : Sto} {x : D} (h : typD M x) : ∃ t, tyOf x (M ++ g) = some t := by
  cases x with
  | ty n => exact h.elim
  | scr n => exact h.elim
  | obj n =>
    obtain ⟨L, hL⟩ := h
    refine ⟨"list", ?_⟩
    show (match (M ++ g)[n]? with
      | some (.lst _) => some "list"
      | _ => none) = some "list"
    rw [List.getElem?_append_left (List.getElem?_eq_some_iff.mp hL).1, hL]
  | _ => exact ⟨_, rfl⟩
def plAll (ps : List (D × Nat)) : Bool := ps.all fun p => plD p.2 p.1
def lineD (ps : List (D × Nat)) : List D := ps.map fun p => .tup [p.1, .int (p.2 : Int)]
theorem plDs_all (k : Nat) : ∀ ds : List D, plAll (ds.map fun d => (d, k)) = plDs k ds
  | [] => rfl
  | d :: ds => by
    have := plDs_all k ds
    unfold plAll at this ⊢
    rw [List.map_cons, List.all_cons, this, plDs]
theorem typDs_all {M : Sto} (k : Nat) : ∀ {ds : List D}, typDs M ds → ∀ p ∈ ds.map (fun d => (d, k)), typD M p.1
  | [], _, p, hp => by cases hp
  | d :: ds, h, p, hp => by
    rcases List.mem_cons.mp hp with rfl | hp
    · exact h.1
    · exact typDs_all k h.2 p hp
def wt (ps : List (D × Nat)) : Nat := nods (ps.map (·.1))
theorem wt_app (ps qs : List (D × Nat)) : wt (ps ++ qs) = wt ps + wt qs := by
  unfold wt
  rw [List.map_append, nods_app]
theorem wt_len (ps : List (D × Nat)) : ps.length ≤ wt ps := by
  have := len_nods (ps.map (·.1))
  rw [List.length_map] at this
  exact this
def R_is_plain (ds : List D) (M : Sto) (d : D) (M1 : Sto) : Prop := ∃ x, typD M x ∧ nod x ≤ 4000000 ∧ ds = [x] ∧ d = .bl (plD 1 x) ∧ M = M1
theorem u_is_plain : Fun R_is_plain := by
  rintro ds M d M1 d' M1' ⟨x, _, _, rfl, rfl, rfl⟩ ⟨x', _, _, e, rfl, rfl⟩
  cases e
  exact ⟨rfl, rfl⟩
noncomputable def F_is_plain : DF := fnR R_is_plain
theorem pl_leaf {M : Sto} {y : D} {t : String} {k : Nat} (ht : tyOf y M = some t) (h : (t == "tuple") = false) : (!DL.isNon y && (!(t == "bool") && (!isS y && !isW y))) = !plD k y := by
  cases y with
  | tup ds => cases ht; cases h
  | ty n => cases ht
  | scr n => cases ht
  | obj n =>
    have := tyOf_obj ht
    subst this
    rfl
  | non => rfl
  | bl b => cases ht; rfl
  | int i => cases ht; show (true && (true && (!isS (.int i) && true))) = !isS (.int i); simp
  | str x => cases ht; show (true && (true && (true && !isW (.str x)))) = !isW (.str x); simp
theorem hF_is_plain : ∀ ds M r, F_is_plain ds M = some r → Clo M → D.cls M.length ds → ∃ d M1 fl M2, r = .ok d M1 ∧ bd_is_plain F_is_small F_is_word (startD N_is_plain.length ds) M = some (fl, M2) ∧ DL.Fin M fl M2 d M1 := fnR_hF fun ds M d M1 ⟨x, hx, hz, e1, e2, e3⟩ c1 _ => by
  subst e1 e2 e3
  have hs := sz
  unfold bd_is_plain
  generalize hbody : (dSeq (dAsg (dBM "list" fPop (dVar 1) dNil) (dgTup 2 (dgCons (dgName 2) (dgCons (dgName 3) dgNil)))) _) = body
  have key : ∀ (m : Nat) (ps : List (D × Nat)) (g : Sto) (v2 v3 v4 : Option D), m = wt ps → wt ps ≤ 4000000 → (∀ p ∈ ps, typD M p.1) → ∃ g', (plAll ps = true ∧ ∃ ρ', dWhile (dTest (dOp fNeA (dVar 1) (dLst dNil))) body [some x, some (.obj M.length), v2, v3, v4] (M ++ (.lst (lineD ps) :: g)) = some (.nx ρ', M ++ g')) ∨
      (plAll ps = false ∧ dWhile (dTest (dOp fNeA (dVar 1) (dLst dNil))) body [some x, some (.obj M.length), v2, v3, v4] (M ++ (.lst (lineD ps) :: g)) = some (.rt (.bl false), M ++ g')) := by
    intro m
    induction m using Nat.strongRecOn with
    | ind m ih =>
      intro ps g v2 v3 v4 hm hw hty
      have ht := ne_nil (i := 1) (n := M.length) (ρ := [some x, some (.obj M.length), v2, v3, v4]) (M := M ++ (.lst (lineD ps) :: g)) (L := lineD ps) rfl getA0
      rcases List.eq_nil_or_concat ps with rfl | ⟨qs, p, rfl⟩
      · refine ⟨.lst [] :: g ++ [.lst []], .inl ⟨rfl, [some x, some (.obj M.length), v2, v3, v4], ?_⟩⟩
        rw [dWhile_eq, ht, appA]
        rfl
      · rw [List.concat_eq_append] at *
        obtain ⟨y, k⟩ := p
        have hline : lineD (qs ++ [(y, k)]) = lineD qs ++ [.tup [y, .int (k : Int)]] := by unfold lineD; rw [List.map_append]; rfl
        rw [hline] at ht ⊢
        have hne : (!(lineD qs ++ [D.tup [y, .int (k : Int)]]).isEmpty) = true := by cases lineD qs <;> rfl
        rw [hne, appA] at ht
        have hwt : wt (qs ++ [(y, k)]) = wt qs + nod y := by rw [wt_app]; simp [wt, nods]
        rw [hwt] at hm hw
        have hqs : ∀ p ∈ qs, typD M p.1 := fun p hp => hty p (List.mem_append_left _ hp)
        have hy : typD M y := hty (y, k) (List.mem_append_right _ (List.mem_singleton.mpr rfl))
        have hall : plAll (qs ++ [(y, k)]) = (plAll qs && plD k y) := by unfold plAll; rw [List.all_append]; simp
        have hnod : 1 ≤ nod y := by cases y <;> simp [nod]
        generalize hg : (g ++ [Ob.lst []]) = g1
        have ht1 : dTest (dOp fNeA (dVar 1) (dLst dNil)) [some x, some (.obj M.length), v2, v3, v4] (M ++ (.lst (lineD qs ++ [.tup [y, .int (k : Int)]]) :: g)) = some (.ok true (M ++ (.lst (lineD qs ++ [.tup [y, .int (k : Int)]]) :: g1))) := by rw [ht, ← hg]; rfl
        have p1 : dAsg (dBM "list" fPop (dVar 1) dNil) (dgTup 2 (dgCons (dgName 2) (dgCons (dgName 3) dgNil))) [some x, some (.obj M.length), v2, v3, v4] (M ++ (.lst (lineD qs ++ [.tup [y, .int (k : Int)]]) :: g1)) = some (.nx [some x, some (.obj M.length), some y, some (.int (k : Int)), v4], M ++ (.lst (lineD qs) :: g1)) := by
          refine asg_ok (d := .tup [y, .int (k : Int)]) (M1 := M ++ (.lst (lineD qs) :: g1)) (bm_ok rfl (ty_list getA0) nil_ok ?_) rfl
          rw [pop_ok getA0, setA0]
          rfl
        obtain ⟨t, hyt⟩ := typ_tyOf (g := .lst (lineD qs) :: g1) hy
        have isi : ∀ {T : String}, isTy t T = some (t == T) → dTru (dCB fIsI (dCons (dVar 2) (dCons (dC (.ty T)) dNil))) [some x, some (.obj M.length), some y, some (.int (k : Int)), v4] (M ++ (.lst (lineD qs) :: g1)) = some (.ok (t == T) (M ++ (.lst (lineD qs) :: g1))) := fun hT => tru_ok (cb_ok (cons_ok rfl (one_ok rfl)) (o_isi hyt hT)) rfl
        by_cases htup : (t == "tuple") = true
        · have hes : ∃ es, y = .tup es := by
            cases y with
            | tup es => exact ⟨es, rfl⟩
            | obj n => rw [tyOf_obj hyt] at htup; cases htup
            | ty n => cases hyt
            | scr n => cases hyt
            | _ => cases hyt; cases htup
          obtain ⟨es, rfl⟩ := hes
          have hk2 : dTest (dOp fGt (dVar 3) (dC (.int 100))) [some x, some (.obj M.length), some (.tup es), some (.int (k : Int)), v4] (M ++ (.lst (lineD qs) :: g1)) = some (.ok (decide (100 < k)) (M ++ (.lst (lineD qs) :: g1))) := by
            refine test_ok (op_ok rfl rfl ?_)
            rw [o_gt]
            congr 2
            simp
            omega
          by_cases hk : 100 < k
          · refine ⟨.lst (lineD qs) :: g1, .inr ⟨?_, ?_⟩⟩
            · rw [hall, plD, decide_eq_false (by omega)]
              simp
            · rw [dWhile_eq, ht1, ← hbody]
              dsimp only
              rw [seq_nx p1, if_yes (by rw [isi (isTy_tuple t), htup]), seq_rt ((if_yes (by rw [hk2, decide_eq_true hk])).trans (ret_ok rfl))]
          · have hlen : es.length ≤ 4000000 := by
              have h1 := len_nods es
              rw [nod] at hw
              omega
            have h3 := lc_map (vs := [4]) (di := diSeq (dVar 2)) (dg := cgName 4) (dt := dYes) (de := dTup (dCons (dVar 4) (dCons (dOp fAdd (dVar 3) (dC (.int 1))) dNil))) (ρ := [some x, some (.obj M.length), some (.tup es), some (.int (k : Int)), v4]) (M := M ++ (.lst (lineD qs) :: g1)) (it := itSeq (.tup es)) (xs := es) (f := fun d => .tup [d, .int ((k + 1 : Nat) : Int)])
              rfl (fun i acc => rfl) (by omega) (fun d hd acc => ⟨_, rfl, rfl, tup_ok (cons_ok rfl (one_ok (op_ok rfl rfl rfl))) (show 2 ≤ sizeLine by decide)⟩)
            have hl2 : (es.map fun d => D.tup [d, .int ((k + 1 : Nat) : Int)]) = lineD (es.map fun d => (d, k + 1)) := by unfold lineD; rw [List.map_map]; rfl
            rw [hl2, appA] at h3
            have h4 : dDrop (dBM "list" fExt (dVar 1) (dCons (dLc [4] (diSeq (dVar 2)) (cgName 4) dYes (dTup (dCons (dVar 4) (dCons (dOp fAdd (dVar 3) (dC (.int 1))) dNil)))) dNil)) [some x, some (.obj M.length), some (.tup es), some (.int (k : Int)), v4] (M ++ (.lst (lineD qs) :: g1)) = some (.nx [some x, some (.obj M.length), some (.tup es), some (.int (k : Int)), v4], M ++ (.lst (lineD (qs ++ es.map fun d => (d, k + 1))) :: (g1 ++ [.lst (lineD (es.map fun d => (d, k + 1)))]))) := by
              refine drop_ok (bm_ok rfl (ty_list (L := lineD qs) getA0) (one_ok h3) (z := .non) ?_)
              have e1 : (M ++ (.lst (lineD qs) :: g1 ++ [Ob.lst (lineD (es.map fun d => (d, k + 1)))]))[(M ++ (Ob.lst (lineD qs) :: g1)).length]? = some (.lst (lineD (es.map fun d => (d, k + 1)))) := by
                rw [← appA]
                exact getA0
              have hq : qs.length ≤ 4000000 := by
                have := wt_len qs
                omega
              rw [ext_ok (L := lineD qs) (es := lineD (es.map fun d => (d, k + 1))) getA0 (by simp only [itemsD, e1]) (by unfold lineD; simp only [List.length_map]; omega), setA0]
              unfold lineD
              rw [List.map_append]
              rfl
            obtain ⟨g', hg'⟩ := ih (wt (qs ++ es.map fun d => (d, k + 1))) (by
                have e : wt (es.map fun d => (d, k + 1)) = nods es := by unfold wt; rw [List.map_map]; exact congrArg nods (List.map_id es)
                rw [wt_app, e, hm, nod]
                omega) (qs ++ es.map fun d => (d, k + 1)) (g1 ++ [.lst (lineD (es.map fun d => (d, k + 1)))]) (some (.tup es)) (some (.int (k : Int))) v4 rfl (by
                have e : wt (es.map fun d => (d, k + 1)) = nods es := by unfold wt; rw [List.map_map]; exact congrArg nods (List.map_id es)
                rw [wt_app, e]
                rw [nod] at hw
                omega) (fun p hp => (List.mem_append.mp hp).elim (hqs p) (typDs_all (k + 1) hy p))
            have hpl : plAll (qs ++ es.map fun d => (d, k + 1)) = plAll (qs ++ [(.tup es, k)]) := by
              rw [hall, plD, decide_eq_true (show k ≤ 100 by omega), Bool.true_and, ← plDs_all]
              unfold plAll
              rw [List.all_append]
            have hrun : dWhile (dTest (dOp fNeA (dVar 1) (dLst dNil))) body [some x, some (.obj M.length), v2, v3, v4] (M ++ (.lst (lineD qs ++ [.tup [.tup es, .int (k : Int)]]) :: g)) = dWhile (dTest (dOp fNeA (dVar 1) (dLst dNil))) body [some x, some (.obj M.length), some (.tup es), some (.int (k : Int)), v4] (M ++ (.lst (lineD (qs ++ es.map fun d => (d, k + 1))) :: (g1 ++ [.lst (lineD (es.map fun d => (d, k + 1)))]))) := by
              have hb : body [some x, some (.obj M.length), v2, v3, v4] (M ++ (.lst (lineD qs ++ [.tup [.tup es, .int (k : Int)]]) :: g1)) = some (.nx [some x, some (.obj M.length), some (.tup es), some (.int (k : Int)), v4], M ++ (.lst (lineD (qs ++ es.map fun d => (d, k + 1))) :: (g1 ++ [.lst (lineD (es.map fun d => (d, k + 1)))]))) := by
                rw [← hbody, seq_nx p1, if_yes (by rw [isi (isTy_tuple t), htup]), seq_nx (by rw [if_no (by rw [hk2, decide_eq_false hk])]; rfl), h4]
              rw [dWhile_eq, ht1]
              dsimp only
              rw [hb]
            rw [hrun, ← hpl]
            exact ⟨g', hg'⟩
        · have htup' : (t == "tuple") = false := by cases h : (t == "tuple"); rfl; exact absurd h htup
          have hstr : ∀ s, y = .str s → s.length ≤ 100000 := fun s e => by subst e; exact hy
          have hc : dAndT (dTest (dOp fNotN (dVar 2) (dC .non))) (dAndT (dNotT (dTru (dCB fIsI (dCons (dVar 2) (dCons (dC (.ty "bool")) dNil))))) (dAndT (dNotT (dTru (dCall F_is_small (dCons (dVar 2) dNil)))) (dNotT (dTru (dCall F_is_word (dCons (dVar 2) dNil)))))) [some x, some (.obj M.length), some y, some (.int (k : Int)), v4] (M ++ (.lst (lineD qs) :: g1)) = some (.ok (!plD k y) (M ++ (.lst (lineD qs) :: g1))) := by
            rw [← pl_leaf hyt htup']
            exact andT_ok (test_ok (op_ok rfl rfl rfl)) (andT_ok (notT_ok (isi (isTy_bool t))) (andT_ok (notT_ok (tru_ok (call_ok (one_ok rfl) (fnR_eq u_is_small ⟨y, t, hyt, rfl, rfl, rfl⟩)) rfl)) (notT_ok (tru_ok (call_ok (one_ok rfl) (fnR_eq u_is_word ⟨y, t, hyt, hstr, rfl, rfl, rfl⟩)) rfl))))
          cases hpy : plD k y with
          | false =>
            refine ⟨.lst (lineD qs) :: g1, .inr ⟨by rw [hall, hpy, Bool.and_false], ?_⟩⟩
            rw [dWhile_eq, ht1, ← hbody]
            dsimp only
            rw [seq_nx p1, if_no (by rw [isi (isTy_tuple t), htup']), if_yes (by rw [hc, hpy]; rfl), ret_ok rfl]
          | true =>
            obtain ⟨g', hg'⟩ := ih (wt qs) (by omega) qs g1 (some y) (some (.int (k : Int))) v4 rfl (by omega) hqs
            have hrun : dWhile (dTest (dOp fNeA (dVar 1) (dLst dNil))) body [some x, some (.obj M.length), v2, v3, v4] (M ++ (.lst (lineD qs ++ [.tup [y, .int (k : Int)]]) :: g)) = dWhile (dTest (dOp fNeA (dVar 1) (dLst dNil))) body [some x, some (.obj M.length), some y, some (.int (k : Int)), v4] (M ++ (.lst (lineD qs) :: g1)) := by
              have hb : body [some x, some (.obj M.length), v2, v3, v4] (M ++ (.lst (lineD qs ++ [.tup [y, .int (k : Int)]]) :: g1)) = some (.nx [some x, some (.obj M.length), some y, some (.int (k : Int)), v4], M ++ (.lst (lineD qs) :: g1)) := by
                rw [← hbody, seq_nx p1, if_no (by rw [isi (isTy_tuple t), htup']), if_no (by rw [hc, hpy]; rfl)]
                rfl
              rw [dWhile_eq, ht1]
              dsimp only
              rw [hb]
            rw [hrun, hall, hpy, Bool.and_true]
            exact ⟨g', hg'⟩
  have h0 : dSet 1 (dLst (dCons (dTup (dCons (dVar 0) (dCons (dC (.int 1)) dNil))) dNil)) (startD N_is_plain.length [x]) M = some (.nx [some x, some (.obj M.length), none, none, none], M ++ [.lst (lineD [(x, 1)])]) :=
    set_ok (lst_ok (one_ok (tup_ok (cons_ok rfl (one_ok rfl)) (show 2 ≤ sizeLine by decide))) (show 1 ≤ sizeLine by decide))
  have hall : plAll [(x, 1)] = plD 1 x := by unfold plAll; simp
  obtain ⟨g', hg'⟩ := key _ [(x, 1)] [] none none none rfl (by simp [wt, nods]; omega) (fun p hp => by rw [List.mem_singleton.mp hp]; exact hx)
  rw [seq_nx h0]
  rcases hg' with ⟨h1, ρ', h2⟩ | ⟨h1, h2⟩
  · rw [seq_nx h2, ← hall, h1]
    exact ⟨_, _, ret_ok rfl, Fin.cut c1 trivial⟩
  · rw [seq_rt h2, ← hall, h1]
    exact ⟨_, _, rfl, Fin.cut c1 trivial⟩
end K90
set_option maxHeartbeats 4000000
namespace K90
open PySem PySem.Spec PyProof.Rows L2 DL
/-! ### the octets of a number, read back -/
theorem seven_shape : ∀ n : Nat, ∃ init last, seven n = init ++ [last] ∧ (∀ x ∈ init, 128 ≤ x) ∧ last < 128 ∧ (init ≠ [] → last ≠ 0) := by
  intro n
  induction n using Nat.strongRecOn with
  | ind n ih =>
    by_cases h : n < 128
    · exact ⟨[], n, seven_lt h, fun x hx => (List.not_mem_nil hx).elim, h, fun q => absurd rfl q⟩
    · obtain ⟨init, last, e, h1, h2, h3⟩ := ih (n / 128) (by omega)
      refine ⟨(128 + n % 128) :: init, last, by rw [seven_ge h, e]; rfl, fun x hx => ?_, h2, fun _ => ?_⟩
      · rcases List.mem_cons.mp hx with rfl | hx
        · omega
        · exact h1 x hx
      · cases init with
        | nil =>
          have e2 : seven (n / 128) = [last] := e
          by_cases hq : n / 128 < 128
          · rw [seven_lt hq] at e2
            injection e2 with e3
            omega
          · rw [seven_ge hq] at e2
            injection e2 with e3 e4
            have := seven_pos (n / 128 / 128)
            rw [e4] at this
            cases this
        | cons a init => exact h3 (by simp)
theorem seven_inj : ∀ (n m : Nat) (r r' : List Nat), seven n ++ r = seven m ++ r' → n = m := by
  intro n
  induction n using Nat.strongRecOn with
  | ind n ih =>
    intro m r r' e
    by_cases h : n < 128
    · rw [seven_lt h] at e
      by_cases h2 : m < 128
      · rw [seven_lt h2] at e
        injection e
      · rw [seven_ge h2] at e
        injection e with e1 _
        omega
    · rw [seven_ge h] at e
      by_cases h2 : m < 128
      · rw [seven_lt h2] at e
        injection e with e1 _
        omega
      · rw [seven_ge h2] at e
        injection e with e1 e2
        have := ih (n / 128) (by omega) (m / 128) r r' e2
        omega
/-- the binary digits of 7 bits -/
def bits7 (x : Nat) : List Nat := [48 + x / 64 % 2, 48 + x / 32 % 2, 48 + x / 16 % 2, 48 + x / 8 % 2, 48 + x / 4 % 2, 48 + x / 2 % 2, 48 + x % 2]
theorem bits7_bin (x : Nat) : ∀ c ∈ bits7 x, B2.IsBin c := by
  intro c hc
  simp only [bits7, List.mem_cons, List.mem_nil_iff, or_false] at hc
  unfold B2.IsBin
  omega
theorem binNum_app (a : List Nat) (x : Nat) (hx : x < 128) : B2.binNum (a ++ bits7 x) = B2.binNum a * 128 + x := by
  unfold B2.binNum
  rw [List.foldl_append]
  generalize List.foldl (fun a c => a * 2 + (c - 48)) 0 a = b
  simp only [bits7, List.foldl_cons, List.foldl_nil]
  omega
def allBits (l : List Nat) : List Nat := (l.map fun o => bits7 (o % 128)).flatten
theorem bits_seven : ∀ n : Nat, B2.binNum (allBits (seven n).reverse) = n := by
  intro n
  induction n using Nat.strongRecOn with
  | ind n ih =>
    by_cases h : n < 128
    · rw [seven_lt h]
      have e := binNum_app [] (n % 128) (Nat.mod_lt _ (by decide))
      have e2 : allBits [n].reverse = [] ++ bits7 (n % 128) := by simp [allBits]
      rw [e2, e, Nat.mod_eq_of_lt h]
      simp [B2.binNum]
    · rw [seven_ge h, List.reverse_cons]
      have e2 : allBits ((seven (n / 128)).reverse ++ [128 + n % 128]) = allBits (seven (n / 128)).reverse ++ bits7 (n % 128) := by
        unfold allBits
        rw [List.map_append, List.flatten_append, List.map_cons, List.map_nil, List.flatten_cons, List.flatten_nil, List.append_nil]
        congr 2
        omega
      rw [e2, binNum_app _ _ (Nat.mod_lt _ (by decide)), ih (n / 128) (by omega)]
      omega
theorem joinL_nil : ∀ ys : List (List Nat), TL.joinL [] ys = ys.flatten
  | [] => rfl
  | [p] => by simp [TL.joinL]
  | p :: q :: r => by
    rw [TL.joinL, joinL_nil (q :: r), List.nil_append, ← List.flatten_cons]
theorem at_nat {α : Type} (xs : List α) (k : Nat) : L2.atI xs (k : Int) = xs[k]? := by
  unfold L2.atI L2.ixN
  rw [if_pos (Int.natCast_nonneg k)]
  by_cases h : k < xs.length
  · rw [if_pos (by omega), Option.bind_some, Int.toNat_natCast]
  · rw [if_neg (by omega), Option.bind_none, List.getElem?_eq_none (by omega)]
theorem ix_oc {l : List Nat} {k x : Nat} (h : l[k]? = some x) (M : Sto) : fIx (oc l) (.int (k : Int)) M = some (.int (x : Int), M) := by
  unfold fIx oc
  simp only [at_nat, List.getElem?_map, h, Option.map_some]
theorem o_eqI (a b : Int) (M : Sto) : fEqA (.int a) (.int b) M = some (.bl (a == b), M) := by
  show fEq (.int a) (.int b) M = _
  unfold fEq
  simp only [pyO, pyD]
  rw [if_pos ⟨by rfl, by rfl⟩]
  rfl
theorem o_neI (a b : Int) (M : Sto) : fNeA (.int a) (.int b) M = some (.bl (!(a == b)), M) := by
  show fNe (.int a) (.int b) M = _
  unfold fNe
  simp only [pyO, pyD]
  rw [if_pos ⟨by rfl, by rfl⟩]
  rfl
theorem natEq (a b : Nat) : ((a : Int) == (b : Int)) = decide (a = b) := by
  by_cases h : a = b
  · subst h; simp
  · rw [decide_eq_false h]
    have : ¬ (a : Int) = (b : Int) := by omega
    simpa using this
/-! ### read_integer -/
def R_read_integer (ds : List D) (M : Sto) (d : D) (M1 : Sto) : Prop := ∃ (l r : List Nat) (p n : Nat), l.drop p = seven n ++ r ∧ p ≤ l.length ∧ n < 128 ^ 90 ∧ l.length ≤ 16000000 ∧ ds = [oc l, .int p] ∧ d = .tup [.int n, .int ((p + (seven n).length : Nat) : Int)] ∧ M = M1
theorem u_read_integer : Fun R_read_integer := by
  rintro ds M d M1 d' M1' ⟨l, r, p, n, h, _, _, _, rfl, rfl, rfl⟩ ⟨l', r', p', n', h', _, _, _, e, rfl, rfl⟩
  injection e with e1 e2
  injection e2 with e2 e3
  injection e2 with e2
  have e1 := oc_inj e1
  have e2 := Int.ofNat.inj e2
  subst e1 e2
  rw [h] at h'
  rw [seven_inj _ _ _ _ h']
  exact ⟨rfl, rfl⟩
noncomputable def F_read_integer : DF := fnR R_read_integer
theorem hF_read_integer : ∀ ds M r, F_read_integer ds M = some r → Clo M → D.cls M.length ds → ∃ d M1 fl M2, r = .ok d M1 ∧ bd_read_integer (startD N_read_integer.length ds) M = some (fl, M2) ∧ DL.Fin M fl M2 d M1 := fnR_hF fun ds M d M1 ⟨l, r, p, n, hd, hp, hn, hl, e1, e2, e3⟩ c1 _ => by
  subst e1 e2 e3
  have hs := sz
  obtain ⟨init, last, hsh, hi, hlast, hnz⟩ := seven_shape n
  have hlen : (seven n).length = init.length + 1 := by rw [hsh, List.length_append]; rfl
  have h90 := seven_len 90 n hn (by decide)
  have hlt : p + init.length < l.length := by
    have := congrArg List.length hd
    rw [List.length_drop, List.length_append, hlen] at this
    omega
  have hget : ∀ j, j ≤ init.length → l[p + j]? = (seven n)[j]? := fun j hj => by
    rw [← List.getElem?_drop, hd, List.getElem?_append_left (by rw [hlen]; omega)]
  have hinit : ∀ j (hj : j < init.length), l[p + j]? = some init[j] := fun j hj => by
    rw [hget j (by omega), hsh, List.getElem?_append_left hj, List.getElem?_eq_getElem hj]
  have hend : l[p + init.length]? = some last := by
    rw [hget _ (Nat.le_refl _), hsh, List.getElem?_append_right (Nat.le_refl _), Nat.sub_self]
    rfl
  unfold bd_read_integer
  rw [seq_nx (ρ1 := [some (oc l), some (.int (p : Nat)), some (.int (p : Nat)), none, none]) (M1 := M) (set_ok rfl)]
  have tst : ∀ (j x : Nat), l[p + j]? = some x → dAndT (dTest (dOp fLt (dVar 2) (dCB fLen (dCons (dVar 0) dNil)))) (dTest (dOp fGe (dOp fIx (dVar 0) (dVar 2)) (dC (.int 128)))) [some (oc l), some (.int (p : Nat)), some (.int ((p + j : Nat) : Int)), none, none] M = some (.ok (decide (128 ≤ x)) M) := fun j x hx => by
    have hj := (List.getElem?_eq_some_iff.mp hx).1
    refine andT_t (M1 := M) (test_ok (op_ok rfl (cb_ok (one_ok rfl) (o_len_oc l M)) ?_)) (test_ok (op_ok (op_ok rfl rfl (ix_oc hx M)) rfl ?_))
    · rw [o_lt, decide_eq_true (by omega)]
    · rw [o_ge]
      congr 2
      simp
      omega
  obtain ⟨ρ', M', h1, j, rfl, rfl, hj, h0⟩ := while_rel (t := dAndT (dTest (dOp fLt (dVar 2) (dCB fLen (dCons (dVar 0) dNil)))) (dTest (dOp fGe (dOp fIx (dVar 0) (dVar 2)) (dC (.int 128))))) (db := dAug fIAdd 2 (dC (.int 1)))
    (fun m ρ M' => ∃ j : Nat, ρ = [some (oc l), some (.int (p : Nat)), some (.int ((p + j : Nat) : Int)), none, none] ∧ M = M' ∧ j ≤ init.length ∧ m = init.length - j) (fun m ρ M' ⟨j, e1, e2, hj, hm⟩ => by
      subst e1 e2
      rcases Nat.lt_or_ge j init.length with hlt2 | hge
      · right
        refine ⟨M, [some (oc l), some (.int (p : Nat)), some (.int ((p + (j + 1) : Nat) : Int)), none, none], M, m - 1, ?_, .inl ?_, by omega, j + 1, rfl, rfl, by omega, by omega⟩
        · rw [tst j init[j] (hinit j hlt2), decide_eq_true (hi _ (List.getElem_mem hlt2))]
        · exact aug_ok (x := .int ((p + j : Nat) : Int)) rfl rfl rfl
      · left
        have e : j = init.length := by omega
        subst e
        refine ⟨M, ?_, by omega, init.length, rfl, rfl, Nat.le_refl _, by omega⟩
        rw [tst _ last hend, decide_eq_false (by omega)]) init.length [some (oc l), some (.int (p : Nat)), some (.int (p : Nat)), none, none] M ⟨0, rfl, rfl, Nat.zero_le _, rfl⟩
  have ej : j = init.length := by omega
  subst ej
  rw [seq_nx h1]
  have hif : dOrT (dTest (dOp fEqA (dVar 2) (dCB fLen (dCons (dVar 0) dNil)))) (dAndT (dTest (dOp fEqA (dOp fIx (dVar 0) (dVar 2)) (dC (.int 0)))) (dTest (dOp fGt (dVar 2) (dVar 1)))) [some (oc l), some (.int (p : Nat)), some (.int ((p + init.length : Nat) : Int)), none, none] M = some (.ok false M) := by
    refine orT_f (M1 := M) (test_ok (op_ok rfl (cb_ok (one_ok rfl) (o_len_oc l M)) ?_)) ?_
    · rw [o_eqI, natEq, decide_eq_false (by omega)]
    · by_cases hz : last = 0
      · have hin : init = [] := by
          cases init with
          | nil => rfl
          | cons a b => exact absurd hz (hnz (by simp))
        refine andT_t (M1 := M) (test_ok (op_ok (op_ok rfl rfl (ix_oc hend M)) rfl ?_)) (test_ok (op_ok rfl rfl ?_))
        · rw [o_eqI, hz]
          rfl
        · rw [o_gt, decide_eq_false (by rw [hin]; simp)]
      · refine andT_f (test_ok (op_ok (op_ok rfl rfl (ix_oc hend M)) rfl ?_))
        rw [o_eqI]
        have := natEq last 0
        rw [decide_eq_false hz] at this
        exact congrArg (fun b => some (D.bl b, M)) this
  rw [seq_nx ((if_no hif).trans rfl)]
  have hsl : fSl (oc l) (some (p : Int)) (some ((p + init.length : Nat) + 1 : Int)) M = some (oc (seven n), M) := by
    rw [show (((p + init.length : Nat) : Int) + 1) = ((p + init.length + 1 : Nat) : Int) from rfl, sl_both l p (p + init.length + 1) (by omega) (by omega)]
    rw [hd, show p + init.length + 1 - p = (seven n).length from by rw [hlen]; omega, List.take_left]
  have hrev : dRev (dSl (dVar 0) (dPart (dVar 1)) (dPart (dOp fAdd (dVar 2) (dC (.int 1))))) [some (oc l), some (.int (p : Nat)), some (.int ((p + init.length : Nat) : Int)), none, none] M = some (.ok (.tup (nts (seven n).reverse)) M) := by
    have h5 : dSl (dVar 0) (dPart (dVar 1)) (dPart (dOp fAdd (dVar 2) (dC (.int 1)))) [some (oc l), some (.int (p : Nat)), some (.int ((p + init.length : Nat) : Int)), none, none] M = some (.ok (oc (seven n)) M) := slice_ok rfl (part_ok rfl) (part_ok (op_ok rfl rfl rfl)) hsl
    rw [rev_ok h5]
    unfold nts
    rw [List.map_reverse]
  have hlc := lc_map (vs := [4]) (dg := cgName 4) (dt := dYes) (de := dFmt07b (dOp fBand (dVar 4) (dOp fSub (dC (.int 128)) (dC (.int 1))))) (it := itSeq (.tup (nts (seven n).reverse))) (xs := nts (seven n).reverse)
    (f := fun d => match d with
      | .int i => .str (B7.bin7 (i.toNat % 128))
      | _ => .non) (seq_ok (it := fun _ _ => none) hrev rfl) (fun i acc => rfl) (by unfold nts; rw [List.length_map, List.length_reverse]; omega) (fun d hd acc => by
        obtain ⟨o, _, rfl⟩ := List.mem_map.mp hd
        refine ⟨_, rfl, rfl, ?_⟩
        simp only [dFmt07b, dOp, dVar, dC, bnd, fI0, wipeD, cgName, List.length_cons, List.length_nil, List.map_cons, List.map_nil, List.cons_append, List.nil_append, List.set_cons_zero, List.set_cons_succ, List.getElem?_cons_zero, List.getElem?_cons_succ, List.replicate_succ, List.replicate_zero, Nat.sub_self, Bool.false_eq_true, if_true, if_false, ite_true, ite_false, reduceIte]
        rw [band127]
        have hm : o % 128 < 128 := Nat.mod_lt _ (by decide)
        rw [if_pos ⟨by omega, by omega⟩, Int.toNat_natCast]
        show _ = some (Rs.ok (D.str (B7.bin7 ((o : Int).toNat % 128))) _)
        rw [Int.toNat_natCast])
  have hmap : ((nts (seven n).reverse).map fun d => match d with
      | D.int i => D.str (B7.bin7 (i.toNat % 128))
      | _ => D.non) = ((seven n).reverse.map fun o => (SX.S (bits7 (o % 128)))).map D.str := by
    unfold nts
    rw [List.map_map, List.map_map]
    refine List.map_congr_left fun o _ => ?_
    show D.str (B7.bin7 ((o : Int).toNat % 128)) = _
    rw [Int.toNat_natCast]
    rfl
  rw [hmap] at hlc
  have hstrs : ∀ xs : List Str, strsD (xs.map D.str) = some xs := by
    intro xs
    induction xs with
    | nil => rfl
    | cons a xs ih => simp only [List.map_cons, strsD, ih]
  have hall : ∀ xs : List Nat, ((xs.map fun o => SX.S (bits7 (o % 128))).map (·.length)).sum = 7 * xs.length := by
    intro xs
    induction xs with
    | nil => rfl
    | cons a xs ih =>
      rw [List.map_cons, List.map_cons, List.sum_cons, ih, List.length_cons]
      show 7 + _ = _
      omega
  have hjoin : fJoin (.str "") [.obj M.length] (M ++ [.lst (((seven n).reverse.map fun o => (SX.S (bits7 (o % 128)))).map D.str)]) = some (.str (SX.S (allBits (seven n).reverse)), M ++ [.lst (((seven n).reverse.map fun o => (SX.S (bits7 (o % 128)))).map D.str)]) := by
    simp only [fJoin, itemsD, getA0, List.getElem?_cons_zero, hstrs]
    rw [if_pos (by rw [hall, List.length_reverse, List.length_map]; show _ + _ * 0 ≤ _; omega)]
    have e : ((seven n).reverse.map fun o => SX.S (bits7 (o % 128))) = ((seven n).reverse.map fun o => bits7 (o % 128)).map SX.S := by rw [List.map_map]; rfl
    have e2 : Txt.join "" (((seven n).reverse.map fun o => bits7 (o % 128)).map SX.S) = SX.S (allBits (seven n).reverse) := by
      have := SX.join_S [] ((seven n).reverse.map fun o => bits7 (o % 128))
      rw [joinL_nil] at this
      exact this
    rw [e, e2]
  rw [seq_nx (set_ok (bm_ok rfl rfl (one_ok hlc) hjoin))]
  have hbitlen : ∀ xs : List Nat, (allBits xs).length = 7 * xs.length := by
    intro xs
    unfold allBits
    induction xs with
    | nil => rfl
    | cons a xs ih => rw [List.map_cons, List.flatten_cons, List.length_append, ih, List.length_cons]; show 7 + _ = _; omega
  have hint : ∀ M', fIntBin [.str (SX.S (allBits (seven n).reverse)), .int 2] M' = some (.int (n : Nat), M') := fun M' => by
    have hlist : (SX.S (allBits (seven n).reverse)).cps.toList = allBits (seven n).reverse := rfl
    have hL := hbitlen (seven n).reverse
    rw [List.length_reverse] at hL
    have hc : (SX.S (allBits (seven n).reverse)).cps.toList ≠ [] ∧ (SX.S (allBits (seven n).reverse)).length ≤ 640 ∧ ∀ c ∈ (SX.S (allBits (seven n).reverse)).cps.toList, B2.IsBin c := by
      refine ⟨?_, ?_, ?_⟩
      · rw [hlist]
        intro q
        rw [q, List.length_nil] at hL
        omega
      · show (allBits (seven n).reverse).toArray.size ≤ 640
        rw [List.size_toArray]
        omega
      · rw [hlist]
        intro c hc
        obtain ⟨b, hb, hc⟩ := List.mem_flatten.mp hc
        obtain ⟨o, _, rfl⟩ := List.mem_map.mp hb
        exact bits7_bin _ c hc
    refine (if_pos hc).trans ?_
    rw [hlist, bits_seven]
  refine ⟨_, _, ret_ok (tup_ok (cons_ok (cb_ok (cons_ok rfl (one_ok rfl)) (hint _)) (one_ok (op_ok rfl rfl rfl))) (show 2 ≤ sizeLine by decide)), ?_⟩
  have e : ((p + init.length : Nat) : Int) + 1 = ((p + (seven n).length : Nat) : Int) := by rw [hlen]; rfl
  show DL.Fin M (.rt (.tup [.int (n : Nat), .int (((p + init.length : Nat) : Int) + 1)])) _ _ M
  rw [e]
  exact Fin.cut c1 ⟨trivial, trivial, trivial⟩
end K90
set_option maxHeartbeats 4000000
namespace K90
open PySem PySem.Spec PyProof.Rows L2 DL
/-- a comprehension whose items change the store -/
theorem lc_rel {vs : List Nat} {di : DI} {it : DIt} {dg : D → DL.LE → Option DL.LE} {dt : DT} {de : DE} {ρ : DL.LE} {M M0 : Sto} (hdi : di ρ M0 = some (.ok it M)) (S : Nat → Sto) (ys : List D) (h0 : S 0 = M) (hlen : ∀ i, (S i).length = M.length) (hz : ys.length ≤ sizeLine)
    (hs : ∀ i (hi : i < ys.length), ∃ d ρ1, it i (S i ++ [.lst (ys.take i)]) = some (some d) ∧ dg d (wipeD ρ vs) = some ρ1 ∧ dt ρ1 (S i ++ [.lst (ys.take i)]) = some (.ok true (S i ++ [.lst (ys.take i)])) ∧ de ρ1 (S i ++ [.lst (ys.take i)]) = some (.ok ys[i] (S (i + 1) ++ [.lst (ys.take i)])))
    (he : it ys.length (S ys.length ++ [.lst ys]) = some none) : dLc vs di dg dt de ρ M0 = some (.ok (.obj M.length) (S ys.length ++ [.lst ys])) := by
  unfold dLc
  rw [hdi]
  show dLcI it dg dt de (wipeD ρ vs) M.length 0 (M ++ [.lst []]) = _
  have key : ∀ (k i : Nat), ys.length - i = k → i ≤ ys.length → dLcI it dg dt de (wipeD ρ vs) M.length i (S i ++ [.lst (ys.take i)]) = some (.ok (.obj M.length) (S ys.length ++ [.lst ys])) := by
    intro k
    induction k with
    | zero =>
      intro i hk hi
      have e : i = ys.length := by omega
      subst e
      rw [List.take_length]
      exact dLcI_end he
    | succ k ih =>
      intro i hk hi
      have hlt : i < ys.length := by omega
      obtain ⟨d, ρ1, h1, h2, h3, h4⟩ := hs i hlt
      refine dLcI_yes h1 h2 h3 h4 (acc := ys.take i) (by rw [← hlen (i + 1)]; exact getA0) (by rw [List.length_take]; omega) ?_
      have := ih (i + 1) (by omega) hlt
      rw [List.take_add_one, List.getElem?_eq_getElem hlt, Option.toList_some] at this
      rw [← hlen (i + 1), setA0, hlen]
      exact this
  have := key ys.length 0 (by omega) (Nat.zero_le _)
  rw [h0, List.take_zero] at this
  exact this
/-! ### the Reader -/
def rd (C : Addr) (l : List Nat) (p : Nat) : Ob := .ins C [("its_octets", oc l), ("its_place", .int (p : Int))]
theorem rd_inj {C : Addr} {l l' : List Nat} {p p' : Nat} (h : rd C l p = rd C l' p') : l = l' ∧ p = p' := by
  unfold rd at h
  injection h with _ h
  injection h with h1 h2
  injection h2 with h2 _
  injection h1 with _ h1
  injection h2 with _ h2
  injection h2 with h2
  exact ⟨oc_inj h1, Int.ofNat.inj h2⟩
theorem rd_oct {l : List Nat} {p : Nat} : ([("its_octets", oc l), ("its_place", .int (p : Int))] : List (Str × D)).lookup ("its_octets" : Str) = some (oc l) := rfl
theorem rd_pl {l : List Nat} {p : Nat} : ([("its_octets", oc l), ("its_place", .int (p : Int))] : List (Str × D)).lookup ("its_place" : Str) = some (D.int (p : Int)) := rfl
section
variable {C : Addr}
def R_Reader___init__ (C : Addr) (ds : List D) (M : Sto) (d : D) (M1 : Sto) : Prop := ∃ (n : Nat) (l : List Nat) (p : Nat), M[n]? = some (.ins C []) ∧ ds = [.obj n, oc l, .int (p : Int)] ∧ d = .non ∧ M1 = M.set n (rd C l p)
theorem u_Reader___init__ : Fun (R_Reader___init__ C) := by
  rintro ds M d M1 d' M1' ⟨n, l, p, _, rfl, rfl, rfl⟩ ⟨n', l', p', _, e, rfl, rfl⟩
  injection e with e1 e2
  injection e2 with e2 e3
  injection e3 with e3 _
  injection e1 with e1
  injection e3 with e3
  rw [e1, oc_inj e2, Int.ofNat.inj e3]
  exact ⟨rfl, rfl⟩
noncomputable def F_Reader___init__ (C : Addr) : DF := fnR (R_Reader___init__ C)
theorem dgFld_ok {f : Str} {do_ : DE} {d : D} {ρ : DL.LE} {M M1 : Sto} {n : Nat} {fs : List (Str × D)} (h : do_ ρ M = some (.ok (.obj n) M1)) (hn : M1[n]? = some (.ins C fs)) (hl : fs.length < 1000) : dgFld C f do_ d ρ M = some (ρ, M1.set n (.ins C (putD f d fs))) := by
  simp only [dgFld, h, hn, hl, and_self, if_true]
theorem hF_Reader___init__ : ∀ ds M r, F_Reader___init__ C ds M = some r → Clo M → D.cls M.length ds → ∃ d M1 fl M2, r = .ok d M1 ∧ bd_Reader___init__ C (startD N_Reader___init__.length ds) M = some (fl, M2) ∧ DL.Fin M fl M2 d M1 := fnR_hF fun ds M d M1 ⟨n, l, p, hn, e1, e2, e3⟩ c1 _ => by
  subst e1 e2 e3
  have hlt := (List.getElem?_eq_some_iff.mp hn).1
  refine ⟨.nx [some (.obj n), some (oc l), some (.int (p : Int))], M.set n (rd C l p), ?_, Fin.nx Cl.id⟩
  unfold bd_Reader___init__
  refine asg_ok (d := .tup [oc l, .int (p : Int)]) (tup_ok (cons_ok rfl (one_ok rfl)) (show 2 ≤ sizeLine by decide)) ?_
  have h1 : dgFld C "its_octets" (dVar 0) (oc l) [some (.obj n), some (oc l), some (.int (p : Int))] M = some ([some (.obj n), some (oc l), some (.int (p : Int))], M.set n (.ins C [("its_octets", oc l)])) := dgFld_ok rfl hn (by decide)
  have h2 : dgFld C "its_place" (dVar 0) (.int (p : Int)) [some (.obj n), some (oc l), some (.int (p : Int))] (M.set n (.ins C [("its_octets", oc l)])) = some ([some (.obj n), some (oc l), some (.int (p : Int))], (M.set n (.ins C [("its_octets", oc l)])).set n (.ins C [("its_octets", oc l), ("its_place", .int (p : Int))])) := dgFld_ok rfl (List.getElem?_set_self hlt) (show 1 < 1000 by decide)
  rw [List.set_set] at h2
  show (match dgFld C "its_octets" (dVar 0) (oc l) [some (.obj n), some (oc l), some (.int (p : Int))] M with
    | some (ρ1, M1) => dgCons (dgFld C "its_place" (dVar 0)) dgNil [.int (p : Int)] ρ1 M1
    | none => none) = _
  rw [h1]
  show (match dgFld C "its_place" (dVar 0) (.int (p : Int)) [some (.obj n), some (oc l), some (.int (p : Int))] (M.set n (.ins C [("its_octets", oc l)])) with
    | some (ρ1, M1) => dgNil [] ρ1 M1
    | none => none) = _
  rw [h2]
  rfl
def R_Reader_number (C : Addr) (ds : List D) (M : Sto) (d : D) (M1 : Sto) : Prop := ∃ (n : Nat) (l r : List Nat) (p v : Nat), M[n]? = some (rd C l p) ∧ l.drop p = seven v ++ r ∧ p ≤ l.length ∧ v < 128 ^ 90 ∧ l.length ≤ 16000000 ∧ ds = [.obj n] ∧ d = .int (v : Int) ∧ M1 = M.set n (rd C l (p + (seven v).length))
theorem u_Reader_number : Fun (R_Reader_number C) := by
  rintro ds M d M1 d' M1' ⟨n, l, r, p, v, h, hd, _, _, _, rfl, rfl, rfl⟩ ⟨n', l', r', p', v', h', hd', _, _, _, e, rfl, rfl⟩
  injection e with e1 _
  injection e1 with e1
  subst e1
  rw [h] at h'
  obtain ⟨rfl, rfl⟩ := rd_inj (Option.some.inj h')
  rw [hd] at hd'
  rw [seven_inj _ _ _ _ hd']
  exact ⟨rfl, rfl⟩
noncomputable def F_Reader_number (C : Addr) : DF := fnR (R_Reader_number C)
theorem putPlace {l : List Nat} {p q : Nat} : putD "its_place" (.int (q : Int)) [("its_octets", oc l), ("its_place", .int (p : Int))] = ([("its_octets", oc l), ("its_place", .int (q : Int))] : List (Str × D)) := rfl
theorem hF_Reader_number : ∀ ds M r, F_Reader_number C ds M = some r → Clo M → D.cls M.length ds → ∃ d M1 fl M2, r = .ok d M1 ∧ bd_Reader_number C F_read_integer (startD N_Reader_number.length ds) M = some (fl, M2) ∧ DL.Fin M fl M2 d M1 := fnR_hF fun ds M d M1 ⟨n, l, r, p, v, hn, hd, hp, hv, hl, e1, e2, e3⟩ c1 _ => by
  subst e1 e2 e3
  unfold bd_Reader_number
  have hc : dCall F_read_integer (dCons (dFld C "its_octets" (dVar 0)) (dCons (dFld C "its_place" (dVar 0)) dNil)) (startD N_Reader_number.length [.obj n]) M = some (.ok (.tup [.int (v : Int), .int ((p + (seven v).length : Nat) : Int)]) M) :=
    call_ok (cons_ok (fld_ok rfl hn rd_oct) (one_ok (fld_ok rfl hn rd_pl))) (fnR_eq u_read_integer ⟨l, r, p, v, hd, hp, hv, hl, rfl, rfl, rfl⟩)
  have h2 : dgFld C "its_place" (dVar 0) (.int ((p + (seven v).length : Nat) : Int)) [some (.obj n), some (.int (v : Int))] M = some ([some (.obj n), some (.int (v : Int))], M.set n (rd C l (p + (seven v).length))) := dgFld_ok rfl hn (show 2 < 1000 by decide)
  have h3 : dgTup 2 (dgCons (dgName 1) (dgCons (dgFld C "its_place" (dVar 0)) dgNil)) (.tup [.int (v : Int), .int ((p + (seven v).length : Nat) : Int)]) (startD N_Reader_number.length [.obj n]) M = some ([some (.obj n), some (.int (v : Int))], M.set n (rd C l (p + (seven v).length))) := by
    show (match dgFld C "its_place" (dVar 0) (.int ((p + (seven v).length : Nat) : Int)) [some (.obj n), some (.int (v : Int))] M with
      | some (ρ1, M1) => dgNil [] ρ1 M1
      | none => none) = _
    rw [h2]
    rfl
  rw [seq_nx (asg_ok hc h3)]
  exact ⟨_, _, ret_ok rfl, Fin.rt Cl.id⟩
theorem augFld_ok {f : Str} {i j : Int} {do_ dv : DE} {ρ : DL.LE} {M : Sto} {n : Nat} {fs : List (Str × D)} (h : do_ ρ M = some (.ok (.obj n) M)) (hn : M[n]? = some (.ins C fs)) (hf : fs.lookup f = some (.int i)) (hv : dv ρ M = some (.ok (.int j) M)) (hl : fs.length < 1000) : dAugFld C f do_ dv ρ M = some (.nx ρ, M.set n (.ins C (putD f (.int (i + j)) fs))) := by
  simp only [dAugFld, bndS, h, hn, hf, hv, hl, and_self, if_true]
def R_Reader_tag (C : Addr) (ds : List D) (M : Sto) (d : D) (M1 : Sto) : Prop := ∃ (n : Nat) (l : List Nat) (p x : Nat), M[n]? = some (rd C l p) ∧ l[p]? = some x ∧ x ≤ 6 ∧ ds = [.obj n] ∧ d = .int (x : Int) ∧ M1 = M.set n (rd C l (p + 1))
theorem u_Reader_tag : Fun (R_Reader_tag C) := by
  rintro ds M d M1 d' M1' ⟨n, l, p, x, h, hx, _, rfl, rfl, rfl⟩ ⟨n', l', p', x', h', hx', _, e, rfl, rfl⟩
  injection e with e1 _
  injection e1 with e1
  subst e1
  rw [h] at h'
  obtain ⟨rfl, rfl⟩ := rd_inj (Option.some.inj h')
  rw [hx] at hx'
  cases hx'
  exact ⟨rfl, rfl⟩
noncomputable def F_Reader_tag (C : Addr) : DF := fnR (R_Reader_tag C)
theorem hF_Reader_tag : ∀ ds M r, F_Reader_tag C ds M = some r → Clo M → D.cls M.length ds → ∃ d M1 fl M2, r = .ok d M1 ∧ bd_Reader_tag C (startD N_Reader_tag.length ds) M = some (fl, M2) ∧ DL.Fin M fl M2 d M1 := fnR_hF fun ds M d M1 ⟨n, l, p, x, hn, hx, h6, e1, e2, e3⟩ c1 _ => by
  subst e1 e2 e3
  have hlt := (List.getElem?_eq_some_iff.mp hx).1
  unfold bd_Reader_tag
  have p1 : dTest (dOp fEqA (dFld C "its_place" (dVar 0)) (dCB fLen (dCons (dFld C "its_octets" (dVar 0)) dNil))) (startD N_Reader_tag.length [.obj n]) M = some (.ok false M) := by
    refine test_ok (op_ok (fld_ok rfl hn rd_pl) (cb_ok (one_ok (fld_ok rfl hn rd_oct)) (o_len_oc l M)) ?_)
    rw [o_eqI, natEq, decide_eq_false (by omega)]
  rw [seq_nx ((if_no p1).trans rfl), seq_nx (ρ1 := [some (.obj n), some (.int (x : Int))]) (M1 := M) (set_ok (op_ok (fld_ok rfl hn rd_oct) (fld_ok rfl hn rd_pl) (ix_oc hx M)))]
  have p2 : dTest (dOp fGt (dVar 1) (dC (.int 6))) [some (.obj n), some (.int (x : Int))] M = some (.ok false M) := by
    refine test_ok (op_ok rfl rfl ?_)
    rw [o_gt, decide_eq_false (by omega)]
  rw [seq_nx ((if_no p2).trans rfl), seq_nx (augFld_ok rfl hn rd_pl rfl (show 2 < 1000 by decide))]
  exact ⟨_, _, ret_ok rfl, Fin.rt Cl.id⟩
def R_Reader_letter (C : Addr) (ds : List D) (M : Sto) (d : D) (M1 : Sto) : Prop := ∃ (n : Nat) (l : List Nat) (p x : Nat), M[n]? = some (rd C l p) ∧ l[p]? = some x ∧ x < 26 ∧ ds = [.obj n] ∧ d = .str ⟨#[x + 97]⟩ ∧ M1 = M.set n (rd C l (p + 1))
theorem u_Reader_letter : Fun (R_Reader_letter C) := by
  rintro ds M d M1 d' M1' ⟨n, l, p, x, h, hx, _, rfl, rfl, rfl⟩ ⟨n', l', p', x', h', hx', _, e, rfl, rfl⟩
  injection e with e1 _
  injection e1 with e1
  subst e1
  rw [h] at h'
  obtain ⟨rfl, rfl⟩ := rd_inj (Option.some.inj h')
  rw [hx] at hx'
  cases hx'
  exact ⟨rfl, rfl⟩
noncomputable def F_Reader_letter (C : Addr) : DF := fnR (R_Reader_letter C)
theorem LET_at : ∀ x, x < 26 → LET.cps.toList[x]? = some (x + 97) := by decide +kernel
theorem LET_len : LET.length = 26 := by decide +kernel
theorem hF_Reader_letter : ∀ ds M r, F_Reader_letter C ds M = some r → Clo M → D.cls M.length ds → ∃ d M1 fl M2, r = .ok d M1 ∧ bd_Reader_letter C (startD N_Reader_letter.length ds) M = some (fl, M2) ∧ DL.Fin M fl M2 d M1 := fnR_hF fun ds M d M1 ⟨n, l, p, x, hn, hx, h6, e1, e2, e3⟩ c1 _ => by
  subst e1 e2 e3
  have hlt := (List.getElem?_eq_some_iff.mp hx).1
  unfold bd_Reader_letter
  have p1 : dTest (dOp fEqA (dFld C "its_place" (dVar 0)) (dCB fLen (dCons (dFld C "its_octets" (dVar 0)) dNil))) (startD N_Reader_letter.length [.obj n]) M = some (.ok false M) := by
    refine test_ok (op_ok (fld_ok rfl hn rd_pl) (cb_ok (one_ok (fld_ok rfl hn rd_oct)) (o_len_oc l M)) ?_)
    rw [o_eqI, natEq, decide_eq_false (by omega)]
  rw [seq_nx ((if_no p1).trans rfl), seq_nx (ρ1 := [some (.obj n), some (.int (x : Int))]) (M1 := M) (set_ok (op_ok (fld_ok rfl hn rd_oct) (fld_ok rfl hn rd_pl) (ix_oc hx M)))]
  have hlen : fLen [.str LET] M = some (.int ((26 : Nat) : Int), M) := by
    have e : lenD (.str LET) M = some 26 := by
      show (if LET.length ≤ sizeLine then some LET.length else none) = _
      rw [LET_len, if_pos (by decide)]
    simp only [fLen, e]
  have p2 : dTest (dOp fGe (dVar 1) (dCB fLen (dCons (dC (.str "abcdefghijklmnopqrstuvwxyz")) dNil))) [some (.obj n), some (.int (x : Int))] M = some (.ok false M) := by
    refine test_ok (op_ok rfl (cb_ok (one_ok rfl) hlen) ?_)
    rw [o_ge, decide_eq_false (by omega)]
  rw [seq_nx ((if_no p2).trans rfl), seq_nx (augFld_ok rfl hn rd_pl rfl (show 2 < 1000 by decide))]
  have hix : ∀ M', fIx (.str LET) (.int (x : Int)) M' = some (.str ⟨#[x + 97]⟩, M') := fun M' => by
    have hz : LET.length ≤ sizeLine := by rw [LET_len]; decide
    show (if LET.length ≤ sizeLine then (match L2.atI LET.cps.toList (x : Int) with
      | some c => some (D.str ⟨#[c]⟩, M')
      | none => none) else none) = _
    rw [if_pos hz, at_nat, LET_at x h6]
  exact ⟨_, _, ret_ok (op_ok rfl rfl (hix _)), Fin.rt Cl.id⟩
end
end K90
set_option maxHeartbeats 4000000
namespace K90
open PySem PySem.Spec PyProof.Rows L2 DL
theorem rng1_ok {aa : DA} {ρ : DL.LE} {M M1 : Sto} {k : Nat} (h : aa ρ M = some (.ok [.int (k : Int)] M1)) (h0 : -(2 ^ 62) ≤ (k : Int)) (hk : (k : Int) < 2 ^ 62) : diRng1 aa ρ M = some (.ok (itRng 0 k) M1) := by
  unfold diRng1
  rw [bnd_ok h]
  exact (if_pos ⟨h0, hk⟩).trans (by rw [Int.toNat_natCast])
theorem str_ext {x y : Str} (h : x.cps.toList = y.cps.toList) : x = y := by
  obtain ⟨⟨a⟩⟩ := x
  obtain ⟨⟨b⟩⟩ := y
  have h' : a = b := h
  rw [h']
theorem idx_inj {x y : Str} (hx : ∀ c ∈ x.cps.toList, c ∈ LET.cps.toList) (hy : ∀ c ∈ y.cps.toList, c ∈ LET.cps.toList) (h : idx x = idx y) : x = y := by
  refine str_ext ?_
  unfold idx at h
  have key : ∀ a b : List Nat, (∀ c ∈ a, c ∈ LET.cps.toList) → (∀ c ∈ b, c ∈ LET.cps.toList) → a.map (fun c => c - 97) = b.map (fun c => c - 97) → a = b := by
    intro a
    induction a with
    | nil =>
      intro b _ _ e
      cases b with
      | nil => rfl
      | cons _ _ => cases e
    | cons c a ih =>
      intro b ha hb e
      cases b with
      | nil => cases e
      | cons d b =>
        rw [List.map_cons, List.map_cons] at e
        injection e with e1 e2
        obtain ⟨k, _, rfl⟩ := let_mem (ha c List.mem_cons_self)
        obtain ⟨j, _, rfl⟩ := let_mem (hb d List.mem_cons_self)
        rw [ih b (fun c hc => ha c (List.mem_cons_of_mem _ hc)) (fun c hc => hb c (List.mem_cons_of_mem _ hc)) e2]
        have : k = j := by omega
        rw [this]
  exact key _ _ hx hy h
theorem idx_len (x : Str) : (idx x).length = x.length := by
  unfold idx
  rw [List.length_map]
  rfl
section
variable {C : Addr}
def R_Reader_word (C : Addr) (ds : List D) (M : Sto) (d : D) (M1 : Sto) : Prop := ∃ (n : Nat) (l r : List Nat) (p : Nat) (x : Str), M[n]? = some (rd C l p) ∧ l.drop p = seven x.length ++ (idx x ++ r) ∧ p ≤ l.length ∧ okH (.str x) ∧ l.length ≤ 16000000 ∧ ds = [.obj n] ∧ d = .str x ∧ M1 = M.set n (rd C l (p + (seven x.length).length + x.length))
theorem u_Reader_word : Fun (R_Reader_word C) := by
  rintro ds M d M1 d' M1' ⟨n, l, r, p, x, h, hd, _, hx, _, rfl, rfl, rfl⟩ ⟨n', l', r', p', y, h', hd', _, hy, _, e, rfl, rfl⟩
  injection e with e1 _
  injection e1 with e1
  subst e1
  rw [h] at h'
  obtain ⟨rfl, rfl⟩ := rd_inj (Option.some.inj h')
  rw [hd] at hd'
  have hl := seven_inj _ _ _ _ hd'
  rw [hl] at hd'
  have h2 := List.append_cancel_left hd'
  have h3 := List.append_inj_left h2 (by rw [idx_len, idx_len, hl])
  have := idx_inj hx.2 hy.2 h3
  subst this
  exact ⟨rfl, rfl⟩
noncomputable def F_Reader_word (C : Addr) : DF := fnR (R_Reader_word C)
theorem hF_Reader_word : ∀ ds M r, F_Reader_word C ds M = some r → Clo M → D.cls M.length ds → ∃ d M1 fl M2, r = .ok d M1 ∧ bd_Reader_word C (F_Reader_number C) (F_Reader_letter C) (startD N_Reader_word.length ds) M = some (fl, M2) ∧ DL.Fin M fl M2 d M1 := fnR_hF fun ds M d M1 ⟨n, l, r, p, x, hn, hd, hp, hx, hl, e1, e2, e3⟩ c1 _ => by
  subst e1 e2 e3
  obtain ⟨hx1, hx2⟩ := hx
  have hs := sz
  have hlt := (List.getElem?_eq_some_iff.mp hn).1
  unfold bd_Reader_word
  have hnum : dMeth C "number" (F_Reader_number C) (dVar 0) dNil (startD N_Reader_word.length [.obj n]) M = some (.ok (.int (x.length : Nat)) (M.set n (rd C l (p + (seven x.length).length)))) :=
    meth_ok rfl hn rfl nil_ok (fnR_eq u_Reader_number ⟨n, l, idx x ++ r, p, x.length, hn, hd, hp, Nat.lt_of_le_of_lt hx1 (by decide), hl, rfl, rfl, rfl⟩)
  rw [seq_nx (ρ1 := [some (.obj n), some (.int (p : Int)), some (.int (x.length : Nat)), none]) (par_ok (cons_ok (fld_ok rfl hn rd_pl) (one_ok hnum)))]
  generalize hq : p + (seven x.length).length = q
  have hdq : l.drop q = idx x ++ r := by
    rw [← hq, ← List.drop_drop, hd, List.drop_left]
  have p2 : dTest (dOp fGt (dVar 2) (dC (.int 200))) [some (.obj n), some (.int (p : Int)), some (.int (x.length : Nat)), none] (M.set n (rd C l q)) = some (.ok false (M.set n (rd C l q))) := by
    refine test_ok (op_ok rfl rfl ?_)
    rw [o_gt, decide_eq_false (by omega)]
  have hid := idx_len x
  have hcl : x.cps.toList.length = x.length := rfl
  have hlc := lc_rel (vs := [3]) (di := diRng1 (dCons (dVar 2) dNil)) (dg := cgName 3) (dt := dYes) (de := dMeth C "letter" (F_Reader_letter C) (dVar 0) dNil) (ρ := [some (.obj n), some (.int (p : Int)), some (.int (x.length : Nat)), none]) (M := M.set n (rd C l q)) (M0 := M.set n (rd C l q)) (it := itRng 0 x.length)
    (rng1_ok (one_ok rfl) (by omega) (by omega)) (fun i => M.set n (rd C l (q + i))) (x.cps.toList.map fun c => D.str ⟨#[c]⟩) rfl (fun i => by rw [List.length_set, List.length_set]) (by rw [List.length_map, hcl]; omega)
    (fun i hi => by
      rw [List.length_map, hcl] at hi
      have hic : i < x.cps.toList.length := hi
      obtain ⟨k, hk, hck⟩ := let_mem (hx2 _ (List.getElem_mem hic))
      have hgt : l[q + i]? = some k := by
        rw [← List.getElem?_drop, hdq, List.getElem?_append_left (by rw [hid]; exact hi)]
        unfold idx
        rw [List.getElem?_map, List.getElem?_eq_getElem hic, hck]
        show some (k + 97 - 97) = some k
        rw [Nat.add_sub_cancel]
      refine ⟨.int ((i : Nat) : Int), [some (.obj n), some (.int (p : Int)), some (.int (x.length : Nat)), some (.int (i : Int))], ?_, rfl, rfl, ?_⟩
      · simp only [itRng]
        rw [if_pos hi, Int.zero_add]
      · have hn2 : (M.set n (rd C l (q + i)) ++ [Ob.lst ((x.cps.toList.map fun c => D.str ⟨#[c]⟩).take i)])[n]? = some (rd C l (q + i)) := by
          rw [List.getElem?_append_left (by rw [List.length_set]; exact hlt)]
          exact List.getElem?_set_self hlt
        have hF := fnR_eq (ds := [.obj n]) (u_Reader_letter (C := C)) ⟨n, l, q + i, k, hn2, hgt, hk, rfl, rfl, rfl⟩
        rw [List.set_append_left _ _ (by rw [List.length_set]; exact hlt), List.set_set] at hF
        have hv : (x.cps.toList.map fun c => D.str ⟨#[c]⟩)[i]'(by rw [List.length_map]; exact hic) = D.str ⟨#[k + 97]⟩ := by
          rw [List.getElem_map, hck]
        rw [hv]
        exact meth_ok rfl hn2 rfl nil_ok hF) (by
      rw [List.length_map, hcl]
      simp only [itRng]
      rw [if_neg (Nat.lt_irrefl _)])
  rw [List.length_map, hcl] at hlc
  rw [seq_nx ((if_no p2).trans rfl)]
  have hstrs : ∀ xs : List Nat, strsD (xs.map fun c => D.str ⟨#[c]⟩) = some ((xs.map fun c => [c]).map SX.S) := by
    intro xs
    induction xs with
    | nil => rfl
    | cons a xs ih =>
      simp only [List.map_cons, strsD, ih]
  have hflat : ∀ xs : List Nat, (xs.map fun c => [c]).flatten = xs := by
    intro xs
    induction xs with
    | nil => rfl
    | cons a xs ih => rw [List.map_cons, List.flatten_cons, ih]; rfl
  have hsum : ∀ xs : List Nat, (((xs.map fun c => [c]).map SX.S).map (·.length)).sum = xs.length := by
    intro xs
    induction xs with
    | nil => rfl
    | cons a xs ih =>
      rw [List.map_cons, List.map_cons, List.map_cons, List.sum_cons, ih, List.length_cons]
      show 1 + _ = _
      omega
  have hjoin : fJoin (.str "") [.obj (M.set n (rd C l q)).length] (M.set n (rd C l (q + x.length)) ++ [.lst (x.cps.toList.map fun c => D.str ⟨#[c]⟩)]) = some (.str x, M.set n (rd C l (q + x.length)) ++ [.lst (x.cps.toList.map fun c => D.str ⟨#[c]⟩)]) := by
    have e0 : (M.set n (rd C l (q + x.length)) ++ [Ob.lst (x.cps.toList.map fun c => D.str ⟨#[c]⟩)])[(M.set n (rd C l q)).length]? = some (.lst (x.cps.toList.map fun c => D.str ⟨#[c]⟩)) := by
      rw [show (M.set n (rd C l q)).length = (M.set n (rd C l (q + x.length))).length from by rw [List.length_set, List.length_set]]
      exact getA0
    simp only [fJoin, itemsD, e0, hstrs]
    rw [if_pos (by rw [hsum, List.length_map, List.length_map, hcl]; show _ + _ * 0 ≤ _; omega)]
    have e2 : Txt.join "" ((x.cps.toList.map fun c => [c]).map SX.S) = x := by
      have := SX.join_S [] (x.cps.toList.map fun c => [c])
      rw [joinL_nil, hflat] at this
      exact this
    rw [e2]
  refine ⟨_, _, ret_ok (bm_ok rfl rfl (one_ok hlc) hjoin), ?_⟩
  refine Fin.rt (Cl.cut (by rw [List.length_set]; exact Nat.le_refl _) ?_ trivial)
  intro o ho
  rw [List.length_set]
  rcases List.mem_or_eq_of_mem_set ho with h | rfl
  · exact c1 o h
  · exact ⟨oc_cl l, trivial, trivial⟩
end
end K90
set_option maxHeartbeats 4000000
namespace K90
open PySem PySem.Spec PyProof.Rows L2 DL
/-! ### what can be read back -/
mutual
def okR : D → Prop
  | .tup ds => ds.length ≤ 16000000 ∧ okRs ds
  | .non => True
  | .bl _ => True
  | .int i => i.natAbs < 128 ^ 89
  | .str x => okH (.str x)
  | .ty n => False
  | .scr n => False
  | .obj n => False
def okRs : List D → Prop
  | [] => True
  | d :: ds => okR d ∧ okRs ds
end
mutual
theorem okR_D : ∀ d : D, okR d → okD d
  | .tup ds, h => ⟨h.1, okRs_Ds ds h.2⟩
  | .non, _ => trivial
  | .bl _, _ => trivial
  | .int i, h => by
    have h' : i.natAbs < 128 ^ 89 := h
    have hp : (128 : Nat) ^ 89 < 128 ^ 99 := by decide
    exact (Nat.lt_trans h' hp : i.natAbs < 128 ^ 99)
  | .str x, h => h
theorem okRs_Ds : ∀ ds : List D, okRs ds → okDs ds
  | [], _ => trivial
  | d :: ds, h => ⟨okR_D d h.1, okRs_Ds ds h.2⟩
end
def tagO : D → Nat
  | .non => 0
  | .bl b => if b then 2 else 1
  | .int i => if i < 0 then 4 else 3
  | .str _ => 5
  | .tup _ => 6
  | _ => 7
def restO : D → List Nat
  | .int i => if i < 0 then seven (-1 - i).toNat else seven i.toNat
  | .str x => seven x.length ++ idx x
  | .tup ds => seven ds.length
  | _ => []
theorem headO_eq {x : D} (h : okR x) : headO x = tagO x :: restO x := by
  cases x with
  | ty n => exact h.elim
  | scr n => exact h.elim
  | obj n => exact h.elim
  | int i =>
    show numOct i = _
    unfold numOct tagO restO
    by_cases hi : i < 0
    · simp only [if_pos hi]
    · simp only [if_neg hi]
  | _ => rfl
theorem rest_inj {x y : D} {r r' : List Nat} (hx : okR x) (hy : okR y) (ht : tagO x = tagO y) (hr : restO x ++ r = restO y ++ r') : (x = y ∧ r = r') ∨ ∃ ds es, x = .tup ds ∧ y = .tup es ∧ ds.length = es.length ∧ r = r' := by
  cases x with
  | ty n => exact hx.elim
  | scr n => exact hx.elim
  | obj n => exact hx.elim
  | non =>
    cases y with
    | non => exact .inl ⟨rfl, hr⟩
    | bl b => cases b <;> cases ht
    | int i => by_cases hi : i < 0 <;> simp [tagO, hi] at ht
    | str z => cases ht
    | tup es => cases ht
    | ty n => exact hy.elim
    | scr n => exact hy.elim
    | obj n => exact hy.elim
  | bl a =>
    cases y with
    | non => cases a <;> cases ht
    | bl b => cases a <;> cases b <;> first | exact .inl ⟨rfl, hr⟩ | cases ht
    | int i => cases a <;> by_cases hi : i < 0 <;> simp [tagO, hi] at ht
    | str z => cases a <;> cases ht
    | tup es => cases a <;> cases ht
    | ty n => exact hy.elim
    | scr n => exact hy.elim
    | obj n => exact hy.elim
  | int i =>
    cases y with
    | non => by_cases hi : i < 0 <;> simp [tagO, hi] at ht
    | bl b => cases b <;> by_cases hi : i < 0 <;> simp [tagO, hi] at ht
    | int j =>
      simp only [tagO] at ht
      unfold restO at hr
      by_cases hi : i < 0
      · by_cases hj : j < 0
        · simp only [if_pos hi, if_pos hj] at hr
          have e := seven_inj _ _ _ _ hr
          rw [e] at hr
          exact .inl ⟨by have : i = j := by omega
                         rw [this], List.append_cancel_left hr⟩
        · rw [if_pos hi, if_neg hj] at ht; cases ht
      · by_cases hj : j < 0
        · rw [if_neg hi, if_pos hj] at ht; cases ht
        · simp only [if_neg hi, if_neg hj] at hr
          have e := seven_inj _ _ _ _ hr
          rw [e] at hr
          exact .inl ⟨by have : i = j := by omega
                         rw [this], List.append_cancel_left hr⟩
    | str z => by_cases hi : i < 0 <;> simp [tagO, hi] at ht
    | tup es => by_cases hi : i < 0 <;> simp [tagO, hi] at ht
    | ty n => exact hy.elim
    | scr n => exact hy.elim
    | obj n => exact hy.elim
  | str z =>
    cases y with
    | non => cases ht
    | bl b => cases b <;> cases ht
    | int i => by_cases hi : i < 0 <;> simp [tagO, hi] at ht
    | str z' =>
      unfold restO at hr
      rw [List.append_assoc, List.append_assoc] at hr
      have hl := seven_inj _ _ _ _ hr
      rw [hl] at hr
      have h2 := List.append_cancel_left hr
      have h3 := List.append_inj_left h2 (by rw [idx_len, idx_len, hl])
      have := idx_inj hx.2 hy.2 h3
      subst this
      exact .inl ⟨rfl, List.append_cancel_left h2⟩
    | tup es => cases ht
    | ty n => exact hy.elim
    | scr n => exact hy.elim
    | obj n => exact hy.elim
  | tup ds =>
    cases y with
    | non => cases ht
    | bl b => cases b <;> cases ht
    | int i => by_cases hi : i < 0 <;> simp [tagO, hi] at ht
    | str z => cases ht
    | tup es =>
      have hl := seven_inj _ _ _ _ hr
      have hr' : seven ds.length ++ r = seven es.length ++ r' := hr
      rw [hl] at hr'
      exact .inr ⟨ds, es, rfl, rfl, hl, List.append_cancel_left hr'⟩
    | ty n => exact hy.elim
    | scr n => exact hy.elim
    | obj n => exact hy.elim
mutual
theorem octD_inj : ∀ (x : D), okR x → ∀ (y : D), okR y → ∀ r r', octD x ++ r = octD y ++ r' → x = y ∧ r = r'
  | .tup ds, hx, y, hy, r, r', e => by
    rw [octD_head (okR_D _ hx), octD_head (okR_D _ hy), headO_eq hx, headO_eq hy, List.append_assoc, List.append_assoc] at e
    injection e with e1 e2
    rcases rest_inj hx hy e1 e2 with ⟨h, e3⟩ | ⟨ds', es, h1, h2, h3, e3⟩
    · subst h
      exact ⟨rfl, List.append_cancel_left e3⟩
    · cases h1
      subst h2
      obtain ⟨h4, h5⟩ := octDs_inj ds hx.2 es hy.2 h3 r r' e3
      exact ⟨by rw [h4], h5⟩
  | .non, hx, y, hy, r, r', e => octD_leaf hx hy (fun ds => by simp) e
  | .bl b, hx, y, hy, r, r', e => octD_leaf hx hy (fun ds => by simp) e
  | .int i, hx, y, hy, r, r', e => octD_leaf hx hy (fun ds => by simp) e
  | .str z, hx, y, hy, r, r', e => octD_leaf hx hy (fun ds => by simp) e
  | .ty n, hx, _, _, _, _, _ => hx.elim
  | .scr n, hx, _, _, _, _, _ => hx.elim
  | .obj n, hx, _, _, _, _, _ => hx.elim
theorem octD_leaf {x y : D} {r r' : List Nat} (hx : okR x) (hy : okR y) (hl : ∀ ds, x ≠ .tup ds) (e : octD x ++ r = octD y ++ r') : x = y ∧ r = r' := by
  rw [octD_head (okR_D _ hx), octD_head (okR_D _ hy), headO_eq hx, headO_eq hy, List.append_assoc, List.append_assoc] at e
  injection e with e1 e2
  rcases rest_inj hx hy e1 e2 with ⟨h, e3⟩ | ⟨ds', es, h1, _⟩
  · subst h
    exact ⟨rfl, List.append_cancel_left e3⟩
  · exact absurd h1 (hl ds')
theorem octDs_inj : ∀ (xs : List D), okRs xs → ∀ (ys : List D), okRs ys → xs.length = ys.length → ∀ r r', octDs xs ++ r = octDs ys ++ r' → xs = ys ∧ r = r'
  | [], _, ys, _, hl, r, r', e => by
    cases ys with
    | nil => exact ⟨rfl, e⟩
    | cons y ys => cases hl
  | x :: xs, hx, ys, hy, hl, r, r', e => by
    cases ys with
    | nil => cases hl
    | cons y ys =>
      rw [octDs, octDs, List.append_assoc, List.append_assoc] at e
      obtain ⟨h1, h2⟩ := octD_inj x hx.1 y hy.1 _ _ e
      obtain ⟨h3, h4⟩ := octDs_inj xs hx.2 ys hy.2 (by simpa using hl) r r' h2
      exact ⟨by rw [h1, h3], h4⟩
end
/-! ### Reader.simple -/
theorem set_same {M : Sto} {n : Nat} {o : Ob} (h : M[n]? = some o) : M.set n o = M := by
  apply List.ext_getElem?
  intro i
  by_cases hi : n = i
  · subst hi
    rw [List.getElem?_set_self (List.getElem?_eq_some_iff.mp h).1, h]
  · rw [List.getElem?_set_ne hi]
section
variable {C : Addr}
def R_Reader_simple (C : Addr) (ds : List D) (M : Sto) (d : D) (M1 : Sto) : Prop := ∃ (n : Nat) (l r : List Nat) (p : Nat) (x : D), M[n]? = some (rd C l p) ∧ l.drop p = restO x ++ r ∧ p ≤ l.length ∧ okR x ∧ (∀ ds, x ≠ .tup ds) ∧ l.length ≤ 16000000 ∧ ds = [.obj n, .int (tagO x : Nat)] ∧ x = d ∧ M1 = M.set n (rd C l (p + (restO x).length))
theorem u_Reader_simple : Fun (R_Reader_simple C) := by
  rintro ds M d M1 d' M1' ⟨n, l, r, p, x, h, hd, _, hx, hnx, _, rfl, rfl, rfl⟩ ⟨n', l', r', p', y, h', hd', _, hy, _, _, e, rfl, rfl⟩
  injection e with e1 e2
  injection e1 with e1
  injection e2 with e2 _
  injection e2 with e2
  have e2 := Int.ofNat.inj e2
  subst e1
  rw [h] at h'
  obtain ⟨rfl, rfl⟩ := rd_inj (Option.some.inj h')
  rw [hd] at hd'
  rcases rest_inj hx hy e2 hd' with ⟨h1, _⟩ | ⟨ds, _, h1, _⟩
  · rw [h1]
    exact ⟨rfl, rfl⟩
  · exact absurd h1 (hnx ds)
noncomputable def F_Reader_simple (C : Addr) : DF := fnR (R_Reader_simple C)
theorem hF_Reader_simple : ∀ ds M r, F_Reader_simple C ds M = some r → Clo M → D.cls M.length ds → ∃ d M1 fl M2, r = .ok d M1 ∧ bd_Reader_simple C (F_Reader_word C) (F_Reader_number C) (startD N_Reader_simple.length ds) M = some (fl, M2) ∧ DL.Fin M fl M2 d M1 := fnR_hF fun ds M d M1 ⟨n, l, r, p, x, hn, hd, hp, hx, hnx, hl, e1, e2, e3⟩ c1 _ => by
  subst e2 e1 e3
  unfold bd_Reader_simple
  have hin : ∀ k : Nat, dTest (dInK T_SIMPLE (dVar 1)) [some (.obj n), some (.int (k : Nat)), none] M = some (.ok (T_SIMPLE.lookup (k : Int)).isSome M) := fun k => test_ok rfl
  have heq : ∀ (k j : Nat), dTest (dOp fEqA (dVar 1) (dC (.int (j : Int)))) [some (.obj n), some (.int (k : Nat)), none] M = some (.ok (decide (k = j)) M) := fun k j => by
    refine test_ok (op_ok rfl rfl ?_)
    rw [o_eqI, natEq]
  have heq5 : ∀ k : Nat, dTest (dOp fEqA (dVar 1) (dC (.int 5))) [some (.obj n), some (.int (k : Nat)), none] M = some (.ok (decide (k = 5)) M) := fun k => heq k 5
  have const : ∀ (k c : Nat), T_SIMPLE.lookup (k : Int) = some c → restO x = [] → x = cD c → tagO x = k → ∃ fl M2, dSeq (dIfS (dTest (dInK T_SIMPLE (dVar 1))) (dRet (dGetK T_SIMPLE (dVar 1))) dNext) (dSeq (dIfS (dTest (dOp fEqA (dVar 1) (dC (.int 5)))) (dRet (dMeth C "word" (F_Reader_word C) (dVar 0) dNil)) dNext)
      (dSeq (dSet 2 (dMeth C "number" (F_Reader_number C) (dVar 0) dNil)) (dRet (dIf (dTest (dOp fEqA (dVar 1) (dC (.int 3)))) (dVar 2) (dOp fSub (dOp fSub (dC (.int 0)) (dC (.int 1))) (dVar 2)))))) (startD N_Reader_simple.length [.obj n, .int (tagO x : Nat)]) M = some (fl, M2) ∧ DL.Fin M fl M2 x (M.set n (rd C l (p + (restO x).length))) := fun k c hk hr hxc ht => by
    rw [ht, hr]
    have h1 : dGetK T_SIMPLE (dVar 1) [some (.obj n), some (.int (k : Nat)), none] M = some (.ok (cD c) M) := by
      show (match T_SIMPLE.lookup (k : Int) with
        | some c => some (Rs.ok (cD c) M)
        | none => none) = _
      rw [hk]
    refine ⟨.rt x, M, seq_rt ((if_yes (M1 := M) ((hin k).trans (by rw [hk]; rfl))).trans ?_), ?_⟩
    · rw [hxc]
      exact ret_ok h1
    · rw [List.length_nil, Nat.add_zero, set_same hn]
      exact Fin.rt Cl.id
  have hst : ∀ k : Nat, startD N_Reader_simple.length [D.obj n, .int (k : Nat)] = [some (.obj n), some (.int (k : Nat)), none] := fun _ => rfl
  cases x with
  | non => exact const 0 0 rfl rfl rfl rfl
  | bl b =>
    cases b with
    | false => exact const 1 1 rfl rfl rfl rfl
    | true => exact const 2 2 rfl rfl rfl rfl
  | str z =>
    have hd' : l.drop p = seven z.length ++ (idx z ++ r) := by rw [hd]; show (seven z.length ++ idx z) ++ r = _; rw [List.append_assoc]
    have e : p + (restO (.str z)).length = p + (seven z.length).length + z.length := by
      show p + (seven z.length ++ idx z).length = _
      rw [List.length_append, idx_len]
      omega
    rw [e, show tagO (.str z) = 5 from rfl, hst, seq_nx (ρ1 := [some (.obj n), some (.int (5 : Nat)), none]) (M1 := M) ((if_no ((hin 5).trans rfl)).trans rfl)]
    refine ⟨_, _, seq_rt ((if_yes ((heq5 5).trans rfl)).trans (ret_ok (meth_ok rfl hn rfl nil_ok (fnR_eq u_Reader_word ⟨n, l, r, p, z, hn, hd', hp, hx, hl, rfl, rfl, rfl⟩)))), Fin.rt Cl.id⟩
  | int i =>
    have h' : i.natAbs < 128 ^ 89 := hx
    have hpw : (128 : Nat) ^ 89 < 128 ^ 90 := by decide
    by_cases hi : i < 0
    · have e : restO (.int i) = seven (-1 - i).toNat := if_pos hi
      have hd' : l.drop p = seven (-1 - i).toNat ++ r := by rw [hd, e]
      have et : tagO (.int i) = 4 := if_pos hi
      rw [e, et, hst, seq_nx (ρ1 := [some (.obj n), some (.int (4 : Nat)), none]) (M1 := M) ((if_no ((hin 4).trans rfl)).trans rfl), seq_nx (ρ1 := [some (.obj n), some (.int (4 : Nat)), none]) (M1 := M) ((if_no ((heq5 4).trans rfl)).trans rfl)]
      have hnum : dMeth C "number" (F_Reader_number C) (dVar 0) dNil [some (.obj n), some (.int (4 : Nat)), none] M = some (.ok (.int ((-1 - i).toNat : Nat)) (M.set n (rd C l (p + (seven (-1 - i).toNat).length)))) :=
        meth_ok rfl hn rfl nil_ok (fnR_eq u_Reader_number ⟨n, l, r, p, _, hn, hd', hp, by omega, hl, rfl, rfl, rfl⟩)
      rw [seq_nx (ρ1 := [some (.obj n), some (.int (4 : Nat)), some (.int ((-1 - i).toNat : Nat))]) (set_ok hnum)]
      have h3 : dTest (dOp fEqA (dVar 1) (dC (.int 3))) [some (.obj n), some (.int (4 : Nat)), some (.int ((-1 - i).toNat : Nat))] (M.set n (rd C l (p + (seven (-1 - i).toNat).length))) = some (.ok false (M.set n (rd C l (p + (seven (-1 - i).toNat).length)))) := by
        refine test_ok (op_ok rfl rfl ?_)
        rw [o_eqI]
        rfl
      refine ⟨_, _, ret_ok (ife_f h3 (op_ok (op_ok rfl rfl rfl) rfl rfl)), ?_⟩
      rw [Int.toNat_of_nonneg (by omega)]
      have e4 : (0 : Int) - 1 - (-1 - i) = i := by omega
      show DL.Fin M (.rt (.int ((0 : Int) - 1 - (-1 - i)))) _ _ _
      rw [e4]
      exact Fin.rt Cl.id
    · have e : restO (.int i) = seven i.toNat := if_neg hi
      have hd' : l.drop p = seven i.toNat ++ r := by rw [hd, e]
      have et : tagO (.int i) = 3 := if_neg hi
      rw [e, et, hst, seq_nx (ρ1 := [some (.obj n), some (.int (3 : Nat)), none]) (M1 := M) ((if_no ((hin 3).trans rfl)).trans rfl), seq_nx (ρ1 := [some (.obj n), some (.int (3 : Nat)), none]) (M1 := M) ((if_no ((heq5 3).trans rfl)).trans rfl)]
      have hnum : dMeth C "number" (F_Reader_number C) (dVar 0) dNil [some (.obj n), some (.int (3 : Nat)), none] M = some (.ok (.int (i.toNat : Nat)) (M.set n (rd C l (p + (seven i.toNat).length)))) :=
        meth_ok rfl hn rfl nil_ok (fnR_eq u_Reader_number ⟨n, l, r, p, _, hn, hd', hp, by omega, hl, rfl, rfl, rfl⟩)
      rw [seq_nx (ρ1 := [some (.obj n), some (.int (3 : Nat)), some (.int (i.toNat : Nat))]) (set_ok hnum)]
      have h3 : dTest (dOp fEqA (dVar 1) (dC (.int 3))) [some (.obj n), some (.int (3 : Nat)), some (.int (i.toNat : Nat))] (M.set n (rd C l (p + (seven i.toNat).length))) = some (.ok true (M.set n (rd C l (p + (seven i.toNat).length)))) := by
        refine test_ok (op_ok rfl rfl ?_)
        rw [o_eqI]
        rfl
      refine ⟨_, _, ret_ok (ife_t h3 rfl), ?_⟩
      rw [Int.toNat_of_nonneg (by omega)]
      exact Fin.rt Cl.id
  | tup es => exact absurd rfl (hnx es)
  | ty k => exact hx.elim
  | scr k => exact hx.elim
  | obj k => exact hx.elim
end
end K90
set_option maxHeartbeats 4000000
namespace K90
open PySem PySem.Spec PyProof.Rows L2 DL
/-! ### Reader.thing: the stack machine -/
abbrev Fr := List (Nat × List D × Nat)
def frW (fr : Fr) : List D := fr.map fun f => .tup [.obj f.1, .int (f.2.2 : Int)]
structure Sta (C : Addr) (l : List Nat) (M : Sto) (n p : Nat) (fr : Fr) (S : Sto) : Prop where
  base : ∃ g, S = M.set n (rd C l p) ++ g
  hw : S[M.length]? = some (.lst (frW fr))
  hf : ∀ f ∈ fr, S[f.1]? = some (.lst f.2.1) ∧ M.length < f.1
  nd : (fr.map (·.1)).Nodup
section
variable {C : Addr} {l : List Nat} {M : Sto} {n p q : Nat} {fr : Fr} {S : Sto}
theorem Sta.rdr (h : Sta C l M n p fr S) (hn : n < M.length) : S[n]? = some (rd C l p) := by
  obtain ⟨g, rfl⟩ := h.base
  rw [List.getElem?_append_left (by rw [List.length_set]; exact hn)]
  exact List.getElem?_set_self hn
theorem Sta.move (h : Sta C l M n p fr S) (hn : n < M.length) : Sta C l M n q fr (S.set n (rd C l q)) := by
  refine ⟨?_, ?_, fun f hf => ?_, h.nd⟩
  · obtain ⟨g, rfl⟩ := h.base
    exact ⟨g, by rw [List.set_append_left _ _ (by rw [List.length_set]; exact hn), List.set_set]⟩
  · rw [List.getElem?_set_ne (by omega)]
    exact h.hw
  · have := (h.hf f hf).2
    rw [List.getElem?_set_ne (by omega)]
    exact h.hf f hf
theorem Sta.junk (h : Sta C l M n p fr S) (o : Ob) : Sta C l M n p fr (S ++ [o]) := by
  have key : ∀ {i : Nat} {u : Ob}, S[i]? = some u → (S ++ [o])[i]? = some u := fun e => by
    rw [List.getElem?_append_left (List.getElem?_eq_some_iff.mp e).1]
    exact e
  obtain ⟨g, e⟩ := h.base
  exact ⟨⟨g ++ [o], by rw [e, appA]⟩, key h.hw, fun f hf => ⟨key (h.hf f hf).1, (h.hf f hf).2⟩, h.nd⟩
theorem Sta.setw (h : Sta C l M n p fr S) (hn : n < M.length) (i : Nat) (o : Ob) (hi : M.length ≤ i) : ∃ g, S.set i o = M.set n (rd C l p) ++ g := by
  obtain ⟨g, e⟩ := h.base
  exact ⟨g.set (i - M.length) o, by rw [e, List.set_append_right _ _ (by rw [List.length_set]; exact hi), List.length_set]⟩
theorem Sta.wlt (h : Sta C l M n p fr S) : M.length < S.length := (List.getElem?_eq_some_iff.mp h.hw).1
theorem Sta.push (h : Sta C l M n p fr S) (hn : n < M.length) (k : Nat) : Sta C l M n p (fr ++ [(S.length, [], k)]) ((S ++ [Ob.lst []]).set M.length (Ob.lst (frW fr ++ [D.tup [.obj S.length, .int (k : Int)]]))) := by
  have j := h.junk (.lst [])
  have hlt := h.wlt
  have fresh : ∀ f ∈ fr, f.1 < S.length := fun f hf => (List.getElem?_eq_some_iff.mp (h.hf f hf).1).1
  refine ⟨j.setw hn _ _ (Nat.le_refl _), ?_, fun f hf => ?_, ?_⟩
  · rw [List.getElem?_set_self j.wlt]
    unfold frW
    rw [List.map_append]
    rfl
  · rcases List.mem_append.mp hf with hf | hf
    · have := (h.hf f hf).2
      rw [List.getElem?_set_ne (by omega)]
      exact ⟨(j.hf f hf).1, this⟩
    · rw [List.mem_singleton.mp hf]
      refine ⟨?_, hlt⟩
      show ((S ++ [Ob.lst []]).set M.length _)[S.length]? = _
      rw [List.getElem?_set_ne (by omega)]
      exact getA0
  · rw [List.map_append, List.nodup_append]
    refine ⟨h.nd, by simp, fun a ha b hb => ?_⟩
    obtain ⟨f, hf, rfl⟩ := List.mem_map.mp ha
    have hb' : b = S.length := by simpa using hb
    have := fresh f hf
    omega
theorem Sta.top {k many : Nat} {ms : List D} (h : Sta C l M n p (fr ++ [(k, ms, many)]) S) : S[k]? = some (.lst ms) ∧ M.length < k := h.hf (k, ms, many) (List.mem_append_right _ (List.mem_singleton.mpr rfl))
theorem Sta.upd {k many : Nat} {ms ms' : List D} (h : Sta C l M n p (fr ++ [(k, ms, many)]) S) (hn : n < M.length) : Sta C l M n p (fr ++ [(k, ms', many)]) (S.set k (Ob.lst ms')) := by
  obtain ⟨h1, h2⟩ := h.top
  have hnd := h.nd
  rw [List.map_append, List.nodup_append] at hnd
  refine ⟨h.setw hn _ _ (by omega), ?_, fun f hf => ?_, ?_⟩
  · rw [List.getElem?_set_ne (by omega), h.hw]
    unfold frW
    rw [List.map_append, List.map_append]
    rfl
  · rcases List.mem_append.mp hf with hf | hf
    · have hne : k ≠ f.1 := fun e => hnd.2.2 f.1 (List.mem_map_of_mem hf) k (by simp) e.symm
      rw [List.getElem?_set_ne hne]
      exact h.hf f (List.mem_append_left _ hf)
    · rw [List.mem_singleton.mp hf]
      exact ⟨List.getElem?_set_self (List.getElem?_eq_some_iff.mp h1).1, h2⟩
  · have := h.nd
    rw [List.map_append] at this ⊢
    exact this
theorem Sta.pop {k many : Nat} {ms : List D} (h : Sta C l M n p (fr ++ [(k, ms, many)]) S) (hn : n < M.length) : Sta C l M n p fr (S.set M.length (Ob.lst (frW fr))) := by
  have hnd := h.nd
  rw [List.map_append, List.nodup_append] at hnd
  refine ⟨h.setw hn _ _ (Nat.le_refl _), List.getElem?_set_self h.wlt, fun f hf => ?_, hnd.1⟩
  have := (h.hf f (List.mem_append_left _ hf)).2
  rw [List.getElem?_set_ne (by omega)]
  exact h.hf f (List.mem_append_left _ hf)
end
def innB : DS := dSeq (dAsg (dOp fIx (dVar 1) (dUn fNeg (dC (.int 1)))) (dgTup 2 (dgCons (dgName 5) (dgCons (dgName 4) dgNil))))
  (dSeq (dDrop (dBM "list" fAppend (dVar 5) (dCons (dVar 2) dNil)))
  (dSeq (dIfS (dTest (dOp fLt (dCB fLen (dCons (dVar 5) dNil)) (dVar 4))) dBreak dNext)
  (dSeq (dDrop (dBM "list" fPop (dVar 1) dNil))
  (dSet 2 (dCB fTuple (dCons (dVar 5) dNil))))))
noncomputable def innW : DS := dWhile (dTest (dOp fNeA (dVar 1) (dLst dNil))) innB
def ifsB : DS := dIfS (dTest (dOp fEqA (dVar 1) (dLst dNil))) (dRet (dVar 2)) dNext
noncomputable def a2B (C : Addr) : DS := dIfS (dTest (dOp fEqA (dVar 3) (dC (.int 6)))) (dSeq (dSet 4 (dMeth C "number" (F_Reader_number C) (dVar 0) dNil))
  (dSeq (dIfS (dTest (dOp fGt (dVar 4) (dC (.int 0)))) (dSeq (dDrop (dBM "list" fAppend (dVar 1) (dCons (dTup (dCons (dLst dNil) (dCons (dVar 4) dNil))) dNil)))
  dCont) dNext)
  (dSet 2 (dTup dNil)))) (dSet 2 (dMeth C "simple" (F_Reader_simple C) (dVar 0) (dCons (dVar 3) dNil)))
noncomputable def bodB (C : Addr) : DS := dSeq (dSet 3 (dMeth C "tag" (F_Reader_tag C) (dVar 0) dNil)) (dSeq (a2B C) (dSeq innW ifsB))
noncomputable def run (C : Addr) : DS := dWhile (dTru (dC (.bl true))) (bodB C)
noncomputable def Kon (C : Addr) : DS := fun ρ S => match dSeq innW ifsB ρ S with
  | some (.nx ρ2, M2) => run C ρ2 M2
  | some (.ct ρ2, M2) => run C ρ2 M2
  | some (.bk ρ2, M2) => some (.nx ρ2, M2)
  | some (.rt d, M2) => some (.rt d, M2)
  | some (.ex x ρ2, M2) => some (.ex x ρ2, M2)
  | none => none
section
variable {C : Addr} {ρ ρ1 ρ2 : DL.LE} {S S1 S2 : Sto}
theorem run_go (h1 : dSet 3 (dMeth C "tag" (F_Reader_tag C) (dVar 0) dNil) ρ S = some (.nx ρ1, S1)) (h2 : a2B C ρ1 S1 = some (.nx ρ2, S2)) : run C ρ S = Kon C ρ2 S2 := by
  unfold run
  rw [dWhile_eq, show dTru (dC (.bl true)) ρ S = some (.ok true S) from rfl]
  dsimp only
  rw [show bodB C ρ S = dSeq innW ifsB ρ2 S2 from by unfold bodB; rw [seq_nx h1, seq_nx h2]]
  rfl
theorem run_ct (h1 : dSet 3 (dMeth C "tag" (F_Reader_tag C) (dVar 0) dNil) ρ S = some (.nx ρ1, S1)) (h2 : a2B C ρ1 S1 = some (.ct ρ2, S2)) : run C ρ S = run C ρ2 S2 := by
  unfold run
  rw [dWhile_eq, show dTru (dC (.bl true)) ρ S = some (.ok true S) from rfl]
  dsimp only
  rw [show bodB C ρ S = some (.ct ρ2, S2) from by unfold bodB; rw [seq_nx h1, seq_ct h2]]
theorem Kon_go (h1 : dTest (dOp fNeA (dVar 1) (dLst dNil)) ρ S = some (.ok true S1)) (h2 : innB ρ S1 = some (.nx ρ2, S2)) : Kon C ρ S = Kon C ρ2 S2 := by
  have e : innW ρ S = innW ρ2 S2 := by
    unfold innW
    rw [dWhile_eq, h1]
    dsimp only
    rw [h2]
  unfold Kon dSeq
  rw [e]
theorem Kon_bk (h1 : dTest (dOp fNeA (dVar 1) (dLst dNil)) ρ S = some (.ok true S1)) (h2 : innB ρ S1 = some (.bk ρ2, S2)) {S3 : Sto} (h3 : ifsB ρ2 S2 = some (.nx ρ2, S3)) : Kon C ρ S = run C ρ2 S3 := by
  have e : innW ρ S = some (.nx ρ2, S2) := by
    unfold innW
    rw [dWhile_eq, h1]
    dsimp only
    rw [h2]
  unfold Kon
  rw [seq_nx e, h3]
theorem Kon_end (h1 : dTest (dOp fNeA (dVar 1) (dLst dNil)) ρ S = some (.ok false S1)) {d : D} {S3 : Sto} (h3 : ifsB ρ S1 = some (.rt d, S3)) : Kon C ρ S = some (.rt d, S3) := by
  have e : innW ρ S = some (.nx ρ, S1) := by
    unfold innW
    rw [dWhile_eq, h1]
  unfold Kon
  rw [seq_nx e, h3]
end
theorem at_last {α : Type} (xs : List α) (x : α) : L2.atI (xs ++ [x]) (-1) = some x := by
  unfold L2.atI L2.ixN
  rw [if_neg (by omega), if_pos (by rw [List.length_append, List.length_singleton]; omega), Option.bind_some]
  rw [show ((-1 : Int) + ((xs ++ [x]).length : Int)).toNat = xs.length from by rw [List.length_append, List.length_singleton]; omega]
  rw [List.getElem?_append_right (Nat.le_refl _), Nat.sub_self]
  rfl
section
variable {C : Addr} {l : List Nat} {M : Sto} {n : Nat}
/-- a member is found: appended -/
theorem inn_app {p k many : Nat} {ms : List D} {fr : Fr} {S : Sto} {d : D} {t m mem : Option D} (hn : n < M.length) (h : Sta C l M n p (fr ++ [(k, ms, many)]) S) (hms : ms.length < 16000000) :
    ∃ S2, Sta C l M n p (fr ++ [(k, ms ++ [d], many)]) S2 ∧ ∀ (x : Fl) (S3 : Sto), dSeq (dIfS (dTest (dOp fLt (dCB fLen (dCons (dVar 5) dNil)) (dVar 4))) dBreak dNext)
  (dSeq (dDrop (dBM "list" fPop (dVar 1) dNil))
  (dSet 2 (dCB fTuple (dCons (dVar 5) dNil)))) [some (.obj n), some (.obj M.length), some d, t, some (.int (many : Int)), some (.obj k)] S2 = some (x, S3) → ∃ S1, dTest (dOp fNeA (dVar 1) (dLst dNil)) [some (.obj n), some (.obj M.length), some d, t, m, mem] S = some (.ok true S1) ∧ innB [some (.obj n), some (.obj M.length), some d, t, m, mem] S1 = some (x, S3) := by
  have hs := sz
  have h1 := h.junk (.lst [])
  refine ⟨(S ++ [Ob.lst []]).set k (Ob.lst (ms ++ [d])), h1.upd hn, fun x S3 hx => ⟨S ++ [.lst []], ?_, ?_⟩⟩
  · rw [ne_nil rfl h.hw]
    unfold frW
    rw [List.map_append]
    cases List.map (fun f => D.tup [.obj f.1, .int (f.2.2 : Int)]) fr <;> rfl
  · have hix : fIx (.obj M.length) (.int (-1)) (S ++ [Ob.lst []]) = some (.tup [.obj k, .int (many : Int)], S ++ [Ob.lst []]) := by
      simp only [fIx, h1.hw]
      unfold frW
      rw [List.map_append, List.map_cons, List.map_nil, at_last]
    have e1 : dAsg (dOp fIx (dVar 1) (dUn fNeg (dC (.int 1)))) (dgTup 2 (dgCons (dgName 5) (dgCons (dgName 4) dgNil))) [some (.obj n), some (.obj M.length), some d, t, m, mem] (S ++ [Ob.lst []]) = some (.nx [some (.obj n), some (.obj M.length), some d, t, some (.int (many : Int)), some (.obj k)], S ++ [Ob.lst []]) :=
      asg_ok (op_ok rfl (un_ok rfl rfl) hix) rfl
    have e2 : dDrop (dBM "list" fAppend (dVar 5) (dCons (dVar 2) dNil)) [some (.obj n), some (.obj M.length), some d, t, some (.int (many : Int)), some (.obj k)] (S ++ [Ob.lst []]) = some (.nx [some (.obj n), some (.obj M.length), some d, t, some (.int (many : Int)), some (.obj k)], (S ++ [Ob.lst []]).set k (Ob.lst (ms ++ [d]))) :=
      drop_ok (bm_ok rfl (ty_list h1.top.1) (one_ok rfl) (app_ok h1.top.1 (by omega)))
    unfold innB
    rw [seq_nx e1, seq_nx e2]
    exact hx
theorem len_test {k many : Nat} {ms : List D} {S : Sto} {a b c t : Option D} (h : S[k]? = some (.lst ms)) : dTest (dOp fLt (dCB fLen (dCons (dVar 5) dNil)) (dVar 4)) [a, b, c, t, some (.int (many : Int)), some (.obj k)] S = some (.ok (decide (ms.length < many)) S) := by
  have e : lenD (.obj k) S = some ms.length := by simp only [lenD, h]
  refine test_ok (op_ok (cb_ok (one_ok rfl) (show fLen [.obj k] S = some (.int (ms.length : Nat), S) from by simp only [fLen, e])) rfl ?_)
  rw [o_lt]
  congr 2
  simp
mutual
theorem thing_run (hn : n < M.length) (hl : l.length ≤ 16000000) : ∀ (x : D), okR x → ∀ (p : Nat) (fr : Fr) (S : Sto) (f t m mem : Option D) (r : List Nat), Sta C l M n p fr S → l.drop p = octD x ++ r → p ≤ l.length → fr.length + nod x ≤ 4000000 →
    ∃ S' t' m' mem', Sta C l M n (p + (octD x).length) fr S' ∧ run C [some (.obj n), some (.obj M.length), f, t, m, mem] S = Kon C [some (.obj n), some (.obj M.length), some x, t', m', mem'] S'
  | .tup ds, hx, p, fr, S, f, t, m, mem, r, h, hd, hp, hb => by
    have hs := sz
    have hlen : ds.length ≤ 16000000 := hx.1
    rw [octD_head (okR_D _ hx), headO_eq hx] at hd
    have hd1 : l.drop p = 6 :: (seven ds.length ++ (octDs ds ++ r)) := by rw [hd]; show 6 :: (seven ds.length ++ octDs ds) ++ r = _; rw [List.cons_append, List.append_assoc]
    have hget : l[p]? = some 6 := by
      have := congrArg (fun z => z[0]?) hd1
      simpa using this
    have hlt := (List.getElem?_eq_some_iff.mp hget).1
    have hd2 : l.drop (p + 1) = seven ds.length ++ (octDs ds ++ r) := by
      rw [← List.drop_drop, hd1]
      rfl
    have h0 := h.rdr hn
    have e1 : dSet 3 (dMeth C "tag" (F_Reader_tag C) (dVar 0) dNil) [some (.obj n), some (.obj M.length), f, t, m, mem] S = some (.nx [some (.obj n), some (.obj M.length), f, some (.int (6 : Nat)), m, mem], S.set n (rd C l (p + 1))) :=
      set_ok (meth_ok rfl h0 rfl nil_ok (fnR_eq u_Reader_tag ⟨n, l, p, 6, h0, hget, by decide, rfl, rfl, rfl⟩))
    have h1 : Sta C l M n (p + 1) fr (S.set n (rd C l (p + 1))) := h.move hn
    have t6 : dTest (dOp fEqA (dVar 3) (dC (.int 6))) [some (.obj n), some (.obj M.length), f, some (.int (6 : Nat)), m, mem] (S.set n (rd C l (p + 1))) = some (.ok true (S.set n (rd C l (p + 1)))) := by
      refine test_ok (op_ok rfl rfl ?_)
      rw [o_eqI]
      rfl
    have h2 : Sta C l M n (p + 1 + (seven ds.length).length) fr ((S.set n (rd C l (p + 1))).set n (rd C l (p + 1 + (seven ds.length).length))) := h1.move hn
    have e2 : dSet 4 (dMeth C "number" (F_Reader_number C) (dVar 0) dNil) [some (.obj n), some (.obj M.length), f, some (.int (6 : Nat)), m, mem] (S.set n (rd C l (p + 1))) = some (.nx [some (.obj n), some (.obj M.length), f, some (.int (6 : Nat)), some (.int (ds.length : Nat)), mem], (S.set n (rd C l (p + 1))).set n (rd C l (p + 1 + (seven ds.length).length))) :=
      set_ok (meth_ok rfl (h1.rdr hn) rfl nil_ok (fnR_eq u_Reader_number ⟨n, l, octDs ds ++ r, p + 1, ds.length, h1.rdr hn, hd2, by omega, Nat.lt_of_le_of_lt hlen (by decide), hl, rfl, rfl, rfl⟩))
    generalize (S.set n (rd C l (p + 1))).set n (rd C l (p + 1 + (seven ds.length).length)) = S2 at h2 e2
    have tg : dTest (dOp fGt (dVar 4) (dC (.int 0))) [some (.obj n), some (.obj M.length), f, some (.int (6 : Nat)), some (.int (ds.length : Nat)), mem] S2 = some (.ok (decide (0 < ds.length)) S2) := by
      refine test_ok (op_ok rfl rfl ?_)
      rw [o_gt]
      congr 2
      simp
    have hd3 : l.drop (p + 1 + (seven ds.length).length) = octDs ds ++ r := by
      rw [← List.drop_drop, hd2, List.drop_left]
    have hlo : (octD (.tup ds)).length = 1 + (seven ds.length).length + (octDs ds).length := by
      rw [octD_head (okR_D _ hx), headO_eq hx, List.length_append, List.length_cons]
      show (seven ds.length).length + 1 + (octDs ds).length = _
      omega
    cases ds with
    | nil =>
      refine ⟨S2, some (.int (6 : Nat)), some (.int ((([] : List D).length : Nat) : Int)), mem, ?_, run_go e1 ?_⟩
      · rw [hlo]
        have e : p + (1 + (seven ([] : List D).length).length + (octDs []).length) = p + 1 + (seven ([] : List D).length).length := by
          show p + (1 + _ + 0) = _
          omega
        rw [e]
        exact h2
      · unfold a2B
        rw [if_yes t6, seq_nx e2, seq_nx ((if_no (tg.trans rfl)).trans rfl)]
        rfl
    | cons d ds =>
      have hb' : fr.length + (1 + nods (d :: ds)) ≤ 4000000 := by rw [nod] at hb; exact hb
      have hpush := h2.push hn (d :: ds).length
      have e3 : dDrop (dBM "list" fAppend (dVar 1) (dCons (dTup (dCons (dLst dNil) (dCons (dVar 4) dNil))) dNil)) [some (.obj n), some (.obj M.length), f, some (.int (6 : Nat)), some (.int ((d :: ds).length : Nat)), mem] S2 = some (.nx [some (.obj n), some (.obj M.length), f, some (.int (6 : Nat)), some (.int ((d :: ds).length : Nat)), mem], (S2 ++ [Ob.lst []]).set M.length (Ob.lst (frW fr ++ [D.tup [.obj S2.length, .int ((d :: ds).length : Nat)]]))) := by
        have j := h2.junk (.lst [])
        have htup : dTup (dCons (dLst dNil) (dCons (dVar 4) dNil)) [some (.obj n), some (.obj M.length), f, some (.int (6 : Nat)), some (.int ((d :: ds).length : Nat)), mem] S2 = some (.ok (.tup [.obj S2.length, .int ((d :: ds).length : Nat)]) (S2 ++ [Ob.lst []])) := tup_ok (cons_ok (lst_ok nil_ok (Nat.zero_le _)) (one_ok rfl)) (show 2 ≤ sizeLine by decide)
        exact drop_ok (bm_ok rfl (ty_list h2.hw) (one_ok htup) (app_ok j.hw (by unfold frW; rw [List.length_map]; omega)))
      have e4 : a2B C [some (.obj n), some (.obj M.length), f, some (.int (6 : Nat)), m, mem] (S.set n (rd C l (p + 1))) = some (.ct [some (.obj n), some (.obj M.length), f, some (.int (6 : Nat)), some (.int ((d :: ds).length : Nat)), mem], (S2 ++ [Ob.lst []]).set M.length (Ob.lst (frW fr ++ [D.tup [.obj S2.length, .int ((d :: ds).length : Nat)]]))) := by
        unfold a2B
        rw [if_yes t6, seq_nx e2, seq_ct ((if_yes (tg.trans rfl)).trans ((seq_nx e3).trans rfl))]
      obtain ⟨S', t', m', mem', h5, h6⟩ := things_run hn hl (d :: ds) hx.2 S2.length [] (d :: ds).length _ fr _ f (some (.int (6 : Nat))) (some (.int ((d :: ds).length : Nat))) mem r (by simp) (by simp) hlen hpush hd3 (by
          have := congrArg List.length hd2
          rw [List.length_drop, List.length_append] at this
          omega) (by omega)
      refine ⟨S', t', m', mem', ?_, (run_ct e1 e4).trans h6⟩
      rw [hlo]
      have e : p + (1 + (seven (d :: ds).length).length + (octDs (d :: ds)).length) = p + 1 + (seven (d :: ds).length).length + (octDs (d :: ds)).length := by omega
      rw [e]
      exact h5
  | .non, hx, p, fr, S, f, t, m, mem, r, h, hd, hp, hb => leaf_run hn hl .non hx (fun ds => by simp) p fr S f t m mem r h hd hp
  | .bl b, hx, p, fr, S, f, t, m, mem, r, h, hd, hp, hb => leaf_run hn hl (.bl b) hx (fun ds => by simp) p fr S f t m mem r h hd hp
  | .int i, hx, p, fr, S, f, t, m, mem, r, h, hd, hp, hb => leaf_run hn hl (.int i) hx (fun ds => by simp) p fr S f t m mem r h hd hp
  | .str z, hx, p, fr, S, f, t, m, mem, r, h, hd, hp, hb => leaf_run hn hl (.str z) hx (fun ds => by simp) p fr S f t m mem r h hd hp
  | .ty k, hx, _, _, _, _, _, _, _, _, _, _, _, _ => hx.elim
  | .scr k, hx, _, _, _, _, _, _, _, _, _, _, _, _ => hx.elim
  | .obj k, hx, _, _, _, _, _, _, _, _, _, _, _, _ => hx.elim
theorem leaf_run (hn : n < M.length) (hl : l.length ≤ 16000000) (x : D) (hx : okR x) (hnt : ∀ ds, x ≠ .tup ds) (p : Nat) (fr : Fr) (S : Sto) (f t m mem : Option D) (r : List Nat) (h : Sta C l M n p fr S) (hd : l.drop p = octD x ++ r) (hp : p ≤ l.length) :
    ∃ S' t' m' mem', Sta C l M n (p + (octD x).length) fr S' ∧ run C [some (.obj n), some (.obj M.length), f, t, m, mem] S = Kon C [some (.obj n), some (.obj M.length), some x, t', m', mem'] S' := by
  have hoct : octD x = tagO x :: restO x := by
    rw [octD_head (okR_D _ hx), headO_eq hx]
    have : tailO x = [] := by
      cases x with
      | tup ds => exact absurd rfl (hnt ds)
      | _ => rfl
    rw [this, List.append_nil]
  rw [hoct, List.cons_append] at hd
  have hget : l[p]? = some (tagO x) := by
    have := congrArg (fun z => z[0]?) hd
    simpa using this
  have hlt := (List.getElem?_eq_some_iff.mp hget).1
  have hd2 : l.drop (p + 1) = restO x ++ r := by
    rw [← List.drop_drop, hd]
    rfl
  have h0 := h.rdr hn
  have ht6 : tagO x < 6 := by
    cases x with
    | tup ds => exact absurd rfl (hnt ds)
    | ty k => exact hx.elim
    | scr k => exact hx.elim
    | obj k => exact hx.elim
    | non => decide
    | bl b => cases b <;> decide
    | int i => by_cases hi : i < 0 <;> simp [tagO, hi]
    | str z => show 5 < 6; decide
  have e1 : dSet 3 (dMeth C "tag" (F_Reader_tag C) (dVar 0) dNil) [some (.obj n), some (.obj M.length), f, t, m, mem] S = some (.nx [some (.obj n), some (.obj M.length), f, some (.int (tagO x : Nat)), m, mem], S.set n (rd C l (p + 1))) :=
    set_ok (meth_ok rfl h0 rfl nil_ok (fnR_eq u_Reader_tag ⟨n, l, p, tagO x, h0, hget, by omega, rfl, rfl, rfl⟩))
  have h1 : Sta C l M n (p + 1) fr (S.set n (rd C l (p + 1))) := h.move hn
  have t6 : dTest (dOp fEqA (dVar 3) (dC (.int 6))) [some (.obj n), some (.obj M.length), f, some (.int (tagO x : Nat)), m, mem] (S.set n (rd C l (p + 1))) = some (.ok false (S.set n (rd C l (p + 1)))) := by
    refine test_ok (op_ok rfl rfl ?_)
    rw [o_eqI]
    have := natEq (tagO x) 6
    rw [decide_eq_false (by omega)] at this
    exact congrArg (fun b => some (D.bl b, S.set n (rd C l (p + 1)))) this
  have e2 : a2B C [some (.obj n), some (.obj M.length), f, some (.int (tagO x : Nat)), m, mem] (S.set n (rd C l (p + 1))) = some (.nx [some (.obj n), some (.obj M.length), some x, some (.int (tagO x : Nat)), m, mem], (S.set n (rd C l (p + 1))).set n (rd C l (p + 1 + (restO x).length))) := by
    unfold a2B
    rw [if_no t6]
    exact set_ok (meth_ok rfl (h1.rdr hn) rfl (one_ok rfl) (fnR_eq u_Reader_simple ⟨n, l, r, p + 1, x, h1.rdr hn, hd2, by omega, hx, hnt, hl, rfl, rfl, rfl⟩))
  refine ⟨_, _, _, _, ?_, run_go e1 e2⟩
  rw [hoct, List.length_cons, show p + ((restO x).length + 1) = p + 1 + (restO x).length from by omega]
  exact h1.move hn
theorem things_run (hn : n < M.length) (hl : l.length ≤ 16000000) : ∀ (ds : List D), okRs ds → ∀ (k : Nat) (ms : List D) (many p : Nat) (fr : Fr) (S : Sto) (f t m mem : Option D) (r : List Nat), ds ≠ [] → ms.length + ds.length = many → many ≤ 16000000 → Sta C l M n p (fr ++ [(k, ms, many)]) S → l.drop p = octDs ds ++ r → p ≤ l.length → fr.length + 1 + nods ds ≤ 4000000 →
    ∃ S' t' m' mem', Sta C l M n (p + (octDs ds).length) fr S' ∧ run C [some (.obj n), some (.obj M.length), f, t, m, mem] S = Kon C [some (.obj n), some (.obj M.length), some (.tup (ms ++ ds)), t', m', mem'] S'
  | [], _, _, _, _, _, _, _, _, _, _, _, _, hne, _, _, _, _, _, _ => absurd rfl hne
  | d :: ds, hx, k, ms, many, p, fr, S, f, t, m, mem, r, _, hm, hmm, h, hd, hp, hb => by
    rw [octDs, List.append_assoc] at hd
    have hb1 : fr.length + 1 + (nod d + nods ds) ≤ 4000000 := by rw [nods] at hb; exact hb
    rw [List.length_cons] at hm
    obtain ⟨S1, t1, m1, mem1, h1, e1⟩ := thing_run hn hl d hx.1 p (fr ++ [(k, ms, many)]) S f t m mem (octDs ds ++ r) h hd hp (by rw [List.length_append, List.length_singleton]; omega)
    obtain ⟨S2, h2, e2⟩ := inn_app (d := d) (t := t1) (m := m1) (mem := mem1) hn h1 (by omega)
    have hlt := len_test (many := many) (a := some (.obj n)) (b := some (.obj M.length)) (c := some d) (t := t1) h2.top.1
    rw [List.length_append, List.length_singleton] at hlt
    have hd2 : l.drop (p + (octD d).length) = octDs ds ++ r := by rw [← List.drop_drop, hd, List.drop_left]
    have hp2 : p + (octD d).length ≤ l.length := by
      have := congrArg List.length hd
      rw [List.length_drop, List.length_append] at this
      omega
    cases ds with
    | nil =>
      rw [List.length_nil] at hm
      have hpop := h2.pop hn
      have q1 : dDrop (dBM "list" fPop (dVar 1) dNil) [some (.obj n), some (.obj M.length), some d, t1, some (.int (many : Int)), some (.obj k)] S2 = some (.nx [some (.obj n), some (.obj M.length), some d, t1, some (.int (many : Int)), some (.obj k)], S2.set M.length (Ob.lst (frW fr))) := by
        have hw := h2.hw
        rw [show frW (fr ++ [(k, ms ++ [d], many)]) = frW fr ++ [.tup [.obj k, .int (many : Int)]] from by unfold frW; rw [List.map_append]; rfl] at hw
        exact drop_ok (bm_ok rfl (ty_list hw) nil_ok (pop_ok hw))
      have hk3 : (S2.set M.length (Ob.lst (frW fr)))[k]? = some (.lst (ms ++ [d])) := by
        rw [List.getElem?_set_ne (by have := h2.top.2; omega)]
        exact h2.top.1
      have q2 : dSet 2 (dCB fTuple (dCons (dVar 5) dNil)) [some (.obj n), some (.obj M.length), some d, t1, some (.int (many : Int)), some (.obj k)] (S2.set M.length (Ob.lst (frW fr))) = some (.nx [some (.obj n), some (.obj M.length), some (.tup (ms ++ [d])), t1, some (.int (many : Int)), some (.obj k)], S2.set M.length (Ob.lst (frW fr))) :=
        set_ok (cb_ok (one_ok rfl) (by simp only [fTuple, itemsD, hk3]))
      obtain ⟨S3, e3, e4⟩ := e2 _ _ (by rw [seq_nx ((if_no (hlt.trans (by rw [decide_eq_false (by omega)]))).trans rfl), seq_nx q1]; exact q2)
      refine ⟨_, _, _, _, ?_, e1.trans (Kon_go e3 e4)⟩
      rw [octDs, octDs, List.append_nil]
      exact hpop
    | cons d2 ds =>
      obtain ⟨S3, e3, e4⟩ := e2 _ _ (seq_bk ((if_yes (hlt.trans (by rw [decide_eq_true (by rw [List.length_cons] at hm; omega)]))).trans rfl))
      have h4 := h2.junk (.lst [])
      have q3 : ifsB [some (.obj n), some (.obj M.length), some d, t1, some (.int (many : Int)), some (.obj k)] S2 = some (.nx [some (.obj n), some (.obj M.length), some d, t1, some (.int (many : Int)), some (.obj k)], S2 ++ [Ob.lst []]) := by
        unfold ifsB
        rw [if_no (by
          rw [eq_nil rfl h2.hw]
          unfold frW
          rw [List.map_append]
          cases List.map (fun f => D.tup [.obj f.1, .int (f.2.2 : Int)]) fr <;> rfl)]
        rfl
      obtain ⟨S', t', m', mem', h5, e5⟩ := things_run hn hl (d2 :: ds) hx.2 k (ms ++ [d]) many _ fr _ (some d) t1 (some (.int (many : Int))) (some (.obj k)) r (by simp) (by rw [List.length_append, List.length_singleton]; omega) hmm h4 hd2 hp2 (by omega)
      refine ⟨S', t', m', mem', ?_, ?_⟩
      · rw [octDs, List.length_append, ← Nat.add_assoc]
        exact h5
      · rw [e1, Kon_bk e3 e4 q3, e5, List.append_assoc]
        rfl
end
end
end K90
set_option maxHeartbeats 4000000
namespace K90
open PySem PySem.Spec PyProof.Rows L2 DL
mutual
theorem okD_cl {n : Nat} : ∀ x : D, okD x → D.cl n x
  | .tup ds, h => okDs_cl ds h.2
  | .non, _ => trivial
  | .bl _, _ => trivial
  | .int _, _ => trivial
  | .str _, _ => trivial
  | .ty _, h => h.elim
  | .scr _, h => h.elim
  | .obj _, h => h.elim
theorem okDs_cl {n : Nat} : ∀ ds : List D, okDs ds → D.cls n ds
  | [], _ => trivial
  | d :: ds, h => ⟨okD_cl d h.1, okDs_cl ds h.2⟩
end
theorem clo_set {M : Sto} {n : Nat} {o : Ob} (c : Clo M) (h : ∀ k, Ob.cl k o) : Clo (M.set n o) := by
  intro u hu
  rw [List.length_set]
  rcases List.mem_or_eq_of_mem_set hu with h1 | rfl
  · exact c u h1
  · exact h _
section
variable {C : Addr}
theorem rd_clo {l : List Nat} {p : Nat} : ∀ k, Ob.cl k (rd C l p) := fun k => ⟨oc_cl l, trivial, trivial⟩
def R_Reader_thing (C : Addr) (ds : List D) (M : Sto) (d : D) (M1 : Sto) : Prop := ∃ (n : Nat) (l r : List Nat) (p : Nat) (x : D), M[n]? = some (rd C l p) ∧ l.drop p = octD x ++ r ∧ p ≤ l.length ∧ okR x ∧ nod x ≤ 4000000 ∧ l.length ≤ 16000000 ∧ ds = [.obj n] ∧ x = d ∧ M1 = M.set n (rd C l (p + (octD x).length))
theorem u_Reader_thing : Fun (R_Reader_thing C) := by
  rintro ds M d M1 d' M1' ⟨n, l, r, p, x, h, hd, _, hx, _, _, rfl, rfl, rfl⟩ ⟨n', l', r', p', y, h', hd', _, hy, _, _, e, rfl, rfl⟩
  injection e with e1 e2
  injection e1 with e1
  subst e1
  rw [h] at h'
  obtain ⟨rfl, rfl⟩ := rd_inj (Option.some.inj h')
  rw [hd] at hd'
  obtain ⟨h1, _⟩ := octD_inj x hx y hy _ _ hd'
  subst h1
  exact ⟨rfl, rfl⟩
noncomputable def F_Reader_thing (C : Addr) : DF := fnR (R_Reader_thing C)
theorem hF_Reader_thing : ∀ ds M r, F_Reader_thing C ds M = some r → Clo M → D.cls M.length ds → ∃ d M1 fl M2, r = .ok d M1 ∧ bd_Reader_thing C (F_Reader_tag C) (F_Reader_number C) (F_Reader_simple C) (startD N_Reader_thing.length ds) M = some (fl, M2) ∧ DL.Fin M fl M2 d M1 := fnR_hF fun ds M d M1 ⟨n, l, r, p, x, hn, hd, hp, hx, hnod, hl, e1, e2, e3⟩ c1 _ => by
  subst e2 e1 e3
  have hlt := (List.getElem?_eq_some_iff.mp hn).1
  have h0 : Sta C l M n p [] (M ++ [Ob.lst []]) := ⟨⟨[.lst []], by rw [set_same hn]⟩, getA0, fun f hf => (List.not_mem_nil hf).elim, List.nodup_nil⟩
  obtain ⟨S', t', m', mem', h1, h2⟩ := thing_run hlt hl x hx p [] (M ++ [Ob.lst []]) (some .non) none none none r h0 hd hp (by rw [List.length_nil]; omega)
  have p1 : dPar 1 2 (dCons (dLst dNil) (dCons (dC .non) dNil)) (startD N_Reader_thing.length [.obj n]) M = some (.nx [some (.obj n), some (.obj M.length), some .non, none, none, none], M ++ [Ob.lst []]) :=
    par_ok (cons_ok (lst_ok nil_ok (Nat.zero_le _)) (one_ok rfl))
  have h3 := h1.junk (.lst [])
  have q1 : dTest (dOp fNeA (dVar 1) (dLst dNil)) [some (.obj n), some (.obj M.length), some x, t', m', mem'] S' = some (.ok false (S' ++ [Ob.lst []])) := ne_nil rfl h1.hw
  have q2 : ifsB [some (.obj n), some (.obj M.length), some x, t', m', mem'] (S' ++ [Ob.lst []]) = some (.rt x, S' ++ [Ob.lst []] ++ [Ob.lst []]) := by
    unfold ifsB
    rw [if_yes (eq_nil rfl h3.hw)]
    exact ret_ok rfl
  have hrun : run C [some (.obj n), some (.obj M.length), some .non, none, none, none] (M ++ [Ob.lst []]) = some (.rt x, S' ++ [Ob.lst []] ++ [Ob.lst []]) := h2.trans (Kon_end q1 q2)
  obtain ⟨g, hg⟩ := h1.base
  refine ⟨.rt x, S' ++ [Ob.lst []] ++ [Ob.lst []], (seq_nx p1).trans hrun, ?_⟩
  rw [hg, appA, appA]
  exact Fin.rt (Cl.cut (by rw [List.length_set]; exact Nat.le_refl _) (clo_set c1 rd_clo) (okD_cl x (okR_D x hx)))
/-! ### opened -/
def R_opened (C : Addr) (ds : List D) (M : Sto) (d : D) (M1 : Sto) : Prop := ∃ l : List Nat, Byt (78 :: l) ∧ 6 ≤ (78 :: l).length ∧ (78 :: l).length ≤ 400000 ∧ isSealedL (78 :: l) = true ∧ ds = [oc (78 :: l)] ∧ d = .obj M.length ∧ M1 = M ++ [rd C ((78 :: l).take ((78 :: l).length - 4)) 1]
theorem u_opened : Fun (R_opened C) := by
  rintro ds M d M1 d' M1' ⟨l, _, _, _, _, rfl, rfl, rfl⟩ ⟨l', _, _, _, _, e, rfl, rfl⟩
  injection e with e _
  have := oc_inj e
  rw [this]
  exact ⟨rfl, rfl⟩
noncomputable def F_opened (C : Addr) : DF := fnR (R_opened C)
theorem hF_opened : ∀ ds M r, F_opened C ds M = some r → Clo M → D.cls M.length ds → ∃ d M1 fl M2, r = .ok d M1 ∧ bd_opened C F_is_within F_is_sealed (F_Reader___init__ C) (startD N_opened.length ds) M = some (fl, M2) ∧ DL.Fin M fl M2 d M1 := fnR_hF fun ds M d M1 ⟨l0, hb, h6, h4, hsl, e1, e2, e3⟩ c1 _ => by
  subst e1 e2 e3
  generalize hL : 78 :: l0 = l at hb h6 h4 hsl
  have hget0 : l[0]? = some 78 := by rw [← hL]; rfl
  unfold bd_opened
  have t1 : dNotT (dTru (dCB fIsI (dCons (dVar 0) (dCons (dC (.ty "tuple")) dNil)))) (startD N_opened.length [oc l]) M = some (.ok false M) := notT_ok (tru_ok (cb_ok (cons_ok rfl (one_ok rfl)) (o_isi (t := "tuple") rfl (isTy_tuple _))) rfl)
  rw [seq_nx (ρ1 := [some (oc l), none, none]) (M1 := M) ((if_no t1).trans rfl)]
  have step : ∀ i ρ M', i < l.length → (∃ a b, ρ = [some (oc l), a, b] ∧ M = M') → ∃ d ρ1 M1 ρ2 M2, itEnum (l.map fun n : Nat => D.int (n : Int)) i M' = some (some d) ∧ dgTup 2 (dgCons (dgName 1) (dgCons (dgName 2) dgNil)) d ρ M' = some (ρ1, M1) ∧
      (dIfS (dNotT (dTru (dCall F_is_within (dCons (dVar 2) (dCons (dC (.int 0)) (dCons (dC (.int 255)) dNil)))))) dNever dNext ρ1 M1 = some (.nx ρ2, M2) ∨ dIfS (dNotT (dTru (dCall F_is_within (dCons (dVar 2) (dCons (dC (.int 0)) (dCons (dC (.int 255)) dNil)))))) dNever dNext ρ1 M1 = some (.ct ρ2, M2)) ∧ (∃ a b, ρ2 = [some (oc l), a, b] ∧ M = M2) := by
    rintro i ρ M' hi ⟨a, b, rfl, rfl⟩
    have hx := hb l[i] (List.getElem_mem hi)
    refine ⟨.tup [.int (i : Nat), .int (l[i] : Nat)], [some (oc l), some (.int (i : Nat)), some (.int (l[i] : Nat))], M, [some (oc l), some (.int (i : Nat)), some (.int (l[i] : Nat))], M, ?_, rfl, .inl ?_, _, _, rfl, rfl⟩
    · simp only [itEnum, List.getElem?_map, List.getElem?_eq_getElem hi, Option.map_some]
    · refine (if_no (M1 := M) (notT_ok (b := true) (tru_ok (call_ok (cons_ok rfl (cons_ok rfl (one_ok rfl))) (fnR_eq u_is_within ⟨(l[i] : Nat), 0, 255, rfl, rfl, rfl⟩)) ?_))).trans rfl
      show some (decide ((0 : Int) ≤ (l[i] : Nat)) && decide (((l[i] : Nat) : Int) ≤ 255)) = some true
      rw [decide_eq_true (by omega), decide_eq_true (by omega)]
      rfl
  obtain ⟨ρ', M', h1, a, b, rfl, rfl⟩ := for_run (di := diEnum (dCons (dVar 0) dNil)) (ρ := [some (oc l), none, none]) (M := M) (it := itEnum (l.map fun n : Nat => D.int (n : Int))) rfl _ l.length ⟨none, none, rfl, rfl⟩ step (fun ρ M' _ => by simp only [itEnum, List.getElem?_map, List.getElem?_eq_none (Nat.le_refl _), Option.map_none])
  rw [seq_nx h1]
  have t2 : dNotT (dTest (dChain fLe fLe (dC (.int 6)) (dCB fLen (dCons (dVar 0) dNil)) (dC (.int 400000)))) [some (oc l), a, b] M = some (.ok false M) := by
    refine notT_ok (b := true) (test_ok (chain_t (M3 := M) (M4 := M) rfl (cb_ok (one_ok rfl) (o_len_oc l M)) ?_ rfl ?_))
    · rw [o_le, decide_eq_true (by omega)]
    · rw [o_le, decide_eq_true (by omega)]
  rw [seq_nx (ρ1 := [some (oc l), a, b]) (M1 := M) ((if_no t2).trans rfl)]
  have t3 : dTest (dOp fNeA (dOp fIx (dVar 0) (dC (.int 0))) (dC (.int 78))) [some (oc l), a, b] M = some (.ok false M) := by
    refine test_ok (op_ok (op_ok rfl rfl (ix_oc (k := 0) hget0 M)) rfl ?_)
    rw [o_neI]
    rfl
  have t4 : dNotT (dTru (dCall F_is_sealed (dCons (dVar 0) dNil))) [some (oc l), a, b] M = some (.ok false M) := by
    refine notT_ok (b := true) (tru_ok (call_ok (one_ok rfl) (fnR_eq u_is_sealed ⟨l, hb, by omega, rfl, rfl, rfl⟩)) ?_)
    rw [hsl]
    rfl
  rw [seq_nx (ρ1 := [some (oc l), a, b]) (M1 := M) ((if_no t3).trans rfl), seq_nx (ρ1 := [some (oc l), a, b]) (M1 := M) ((if_no t4).trans rfl)]
  have hsl2 : fSl (oc l) none (some ((l.length : Int) - 4)) M = some (oc (l.take (l.length - 4)), M) := by
    rw [show ((l.length : Int) - 4) = ((l.length - 4 : Nat) : Int) from by omega]
    exact sl_hi l _ M
  have hargs : dCons (dSl (dVar 0) dNoP (dPart (dOp fSub (dCB fLen (dCons (dVar 0) dNil)) (dC (.int 4))))) (dCons (dC (.int 1)) dNil) [some (oc l), a, b] M = some (.ok [oc (l.take (l.length - 4)), .int ((1 : Nat) : Int)] M) :=
    cons_ok (slice_ok rfl rfl (part_ok (op_ok (cb_ok (one_ok rfl) (o_len_oc l M)) rfl o_sub)) hsl2) (one_ok rfl)
  have hF : F_Reader___init__ C [.obj M.length, oc (l.take (l.length - 4)), .int ((1 : Nat) : Int)] (M ++ [.ins C []]) = some (.ok .non (M ++ [rd C (l.take (l.length - 4)) 1])) := by
    have := fnR_eq (ds := [.obj M.length, oc (l.take (l.length - 4)), .int ((1 : Nat) : Int)]) (M := M ++ [.ins C []]) (u_Reader___init__ (C := C)) ⟨M.length, l.take (l.length - 4), 1, getA0, rfl, rfl, rfl⟩
    rw [setA0] at this
    exact this
  have hmk : dMake C (F_Reader___init__ C) (dCons (dSl (dVar 0) dNoP (dPart (dOp fSub (dCB fLen (dCons (dVar 0) dNil)) (dC (.int 4))))) (dCons (dC (.int 1)) dNil)) [some (oc l), a, b] M = some (.ok (.obj M.length) (M ++ [rd C (l.take (l.length - 4)) 1])) := by
    unfold dMake
    rw [bnd_ok hargs]
    try dsimp only
    rw [hF]
    try dsimp only
    rw [if_pos (by rw [List.length_append]; exact Nat.lt_succ_self _)]
  exact ⟨_, _, ret_ok hmk, Fin.rt Cl.id⟩
/-! ### unpacked -/
theorem sealed_take (l : List Nat) : (sealedL l).take ((sealedL l).length - 4) = l := by
  rw [sealed_len, Nat.add_sub_cancel]
  unfold sealedL
  exact List.take_left
theorem sealed_is (l : List Nat) : isSealedL (sealedL l) = true := by
  unfold isSealedL
  rw [sealed_take, sealed_len, decide_eq_true (by omega), decide_eq_true rfl]
  rfl
theorem sealed_inj {l m : List Nat} (h : sealedL l = sealedL m) : l = m := by
  rw [← sealed_take l, ← sealed_take m, h]
theorem chk4_byt (l : List Nat) : Byt (chk4 (chk l)) := by
  have := chk_lt l
  intro x hx
  simp only [chk4, List.mem_cons, List.mem_nil_iff, or_false] at hx
  omega
theorem sealed_byt {l : List Nat} (h : Byt l) : Byt (sealedL l) := byt_app h (chk4_byt l)
def R_unpacked (ds : List D) (M : Sto) (d : D) (M1 : Sto) : Prop := ∃ x : D, okR x ∧ plD 1 x = true ∧ (packedL x).length ≤ 400000 ∧ ds = [oc (packedL x)] ∧ x = d ∧ M = M1
theorem u_unpacked : Fun R_unpacked := by
  rintro ds M d M1 d' M1' ⟨x, hx, _, _, rfl, rfl, rfl⟩ ⟨y, hy, _, _, e, rfl, rfl⟩
  injection e with e _
  have h1 := sealed_inj (oc_inj e)
  injection h1 with _ h2
  obtain ⟨h3, _⟩ := octD_inj x hx y hy [] [] (by rw [List.append_nil, List.append_nil]; exact h2)
  exact ⟨h3, rfl⟩
noncomputable def F_unpacked : DF := fnR R_unpacked
mutual
theorem okD_typ {M : Sto} : ∀ x : D, okD x → typD M x
  | .tup ds, h => okDs_typ ds h.2
  | .non, _ => trivial
  | .bl _, _ => trivial
  | .int _, _ => trivial
  | .str x, h => by
    have h' : x.length ≤ 200 := h.1
    show x.length ≤ 100000
    omega
  | .ty _, h => h.elim
  | .scr _, h => h.elim
  | .obj _, h => h.elim
theorem okDs_typ {M : Sto} : ∀ ds : List D, okDs ds → typDs M ds
  | [], _ => trivial
  | d :: ds, h => ⟨okD_typ d h.1, okDs_typ ds h.2⟩
end
theorem packed_len (x : D) : (packedL x).length = (octD x).length + 5 := by
  unfold packedL
  rw [sealed_len, List.length_cons]
theorem hF_unpacked : ∀ ds M r, F_unpacked ds M = some r → Clo M → D.cls M.length ds → ∃ d M1 fl M2, r = .ok d M1 ∧ bd_unpacked C (F_opened C) (F_Reader_thing C) F_is_plain (startD N_unpacked.length ds) M = some (fl, M2) ∧ DL.Fin M fl M2 d M1 := fnR_hF fun ds M d M1 ⟨x, hx, hpl, hz, e1, e2, e3⟩ c1 _ => by
  subst e2 e1 e3
  have hlen := packed_len x
  have hnod := nod_le x (okR_D x hx)
  have hpos : 1 ≤ (octD x).length := by
    have : 1 ≤ nod x := by cases x <;> simp [nod]
    omega
  unfold bd_unpacked
  have e0 : packedL x = 78 :: (octD x ++ chk4 (chk (78 :: octD x))) := rfl
  have hopen : F_opened C [oc (packedL x)] M = some (.ok (.obj M.length) (M ++ [rd C (78 :: octD x) 1])) := by
    have := fnR_eq (ds := [oc (packedL x)]) (M := M) (u_opened (C := C)) ⟨octD x ++ chk4 (chk (78 :: octD x)), sealed_byt (byt_cons (by decide) (oct_byt x (okR_D x hx))), by rw [← e0]; omega, by rw [← e0]; exact hz, sealed_is (78 :: octD x), by rw [e0], rfl, rfl⟩
    rw [← e0, show (packedL x).take ((packedL x).length - 4) = 78 :: octD x from sealed_take _] at this
    exact this
  rw [seq_nx (ρ1 := [some (oc (packedL x)), some (.obj M.length), none]) (set_ok (call_ok (one_ok rfl) hopen))]
  have hg1 : (M ++ [rd C (78 :: octD x) 1])[M.length]? = some (rd C (78 :: octD x) 1) := getA0
  have hthing : F_Reader_thing C [.obj M.length] (M ++ [rd C (78 :: octD x) 1]) = some (.ok x (M ++ [rd C (78 :: octD x) (1 + (octD x).length)])) := by
    have := fnR_eq (ds := [.obj M.length]) (u_Reader_thing (C := C)) ⟨M.length, 78 :: octD x, [], 1, x, hg1, by rw [List.append_nil]; rfl, by rw [List.length_cons]; omega, hx, by omega, by rw [List.length_cons]; omega, rfl, rfl, rfl⟩
    rw [setA0] at this
    exact this
  rw [seq_nx (ρ1 := [some (oc (packedL x)), some (.obj M.length), some x]) (set_ok (meth_ok rfl hg1 rfl nil_ok hthing))]
  have hg2 : (M ++ [rd C (78 :: octD x) (1 + (octD x).length)])[M.length]? = some (rd C (78 :: octD x) (1 + (octD x).length)) := getA0
  have t1 : dTest (dOp fLt (dFld C "its_place" (dVar 1)) (dCB fLen (dCons (dFld C "its_octets" (dVar 1)) dNil))) [some (oc (packedL x)), some (.obj M.length), some x] (M ++ [rd C (78 :: octD x) (1 + (octD x).length)]) = some (.ok false (M ++ [rd C (78 :: octD x) (1 + (octD x).length)])) := by
    refine test_ok (op_ok (fld_ok rfl hg2 rd_pl) (cb_ok (one_ok (fld_ok rfl hg2 rd_oct)) (o_len_oc _ _)) ?_)
    rw [o_lt, decide_eq_false (by rw [List.length_cons]; omega)]
  have t2 : dNotT (dTru (dCall F_is_plain (dCons (dVar 2) dNil))) [some (oc (packedL x)), some (.obj M.length), some x] (M ++ [rd C (78 :: octD x) (1 + (octD x).length)]) = some (.ok false (M ++ [rd C (78 :: octD x) (1 + (octD x).length)])) := by
    refine notT_ok (b := true) (tru_ok (call_ok (one_ok rfl) (fnR_eq u_is_plain ⟨x, okD_typ x (okR_D x hx), by omega, rfl, rfl, rfl⟩)) ?_)
    rw [hpl]
    rfl
  rw [seq_nx ((if_no t1).trans rfl), seq_nx ((if_no t2).trans rfl)]
  exact ⟨_, _, ret_ok rfl, Fin.cut c1 (okD_cl x (okR_D x hx))⟩
end
end K90
set_option maxHeartbeats 4000000
namespace K90
open PySem PySem.Spec PyProof.Rows L2 DL
/-! ### first_unlike -/
def du : Nat → List Nat → List Nat → Option Nat
  | i, a :: as, b :: bs => if a = b then du (i + 1) as bs else some i
  | _, _, _ => none
def fuD (a b : List Nat) : D := match du 0 a b with
  | some j => .int (j : Int)
  | none => if a.length = b.length then .non else .int ((min a.length b.length : Nat) : Int)
def R_first_unlike (ds : List D) (M : Sto) (d : D) (M1 : Sto) : Prop := ∃ a b : List Nat, ds = [oc a, oc b] ∧ d = fuD a b ∧ M = M1
theorem u_first_unlike : Fun R_first_unlike := by
  rintro ds M d M1 d' M1' ⟨a, b, rfl, rfl, rfl⟩ ⟨a', b', e, rfl, rfl⟩
  injection e with e1 e2
  injection e2 with e2 _
  rw [oc_inj e1, oc_inj e2]
  exact ⟨rfl, rfl⟩
noncomputable def F_first_unlike : DF := fnR R_first_unlike
theorem hF_first_unlike : ∀ ds M r, F_first_unlike ds M = some r → Clo M → D.cls M.length ds → ∃ d M1 fl M2, r = .ok d M1 ∧ bd_first_unlike (startD N_first_unlike.length ds) M = some (fl, M2) ∧ DL.Fin M fl M2 d M1 := fnR_hF fun ds M d M1 ⟨a, b, e1, e2, e3⟩ c1 _ => by
  subst e1 e2 e3
  unfold bd_first_unlike
  have hz : ∀ (i : Nat) (x y : Nat), a[i]? = some x → b[i]? = some y → ∀ M', itEnumZ (nts a) (nts b) i M' = some (some (.tup [.int (i : Nat), .tup [.int (x : Nat), .int (y : Nat)]])) := fun i x y hx hy M' => by
    have h1 := (List.getElem?_eq_some_iff.mp hx).1
    have h2 := (List.getElem?_eq_some_iff.mp hy).1
    unfold itEnumZ nts
    rw [if_pos ⟨by rw [List.length_map]; exact h1, by rw [List.length_map]; exact h2⟩, List.getElem?_map, List.getElem?_map, hx, hy]
    rfl
  have key : ∀ (k i : Nat) (v2 v3 v4 : Option D), min a.length b.length - i = k → i ≤ min a.length b.length → ∃ v2' v3' v4', dForI (itEnumZ (nts a) (nts b)) (dgTup 2 (dgCons (dgName 2) (dgCons (dgTup 2 (dgCons (dgName 3) (dgCons (dgName 4) dgNil))) dgNil)))
      (dIfS (dTest (dOp fNeA (dVar 3) (dVar 4))) (dRet (dVar 2)) dNext) i [some (oc a), some (oc b), v2, v3, v4] M = (match du i (a.drop i) (b.drop i) with
        | some j => some (.rt (.int (j : Int)), M)
        | none => some (.nx [some (oc a), some (oc b), v2', v3', v4'], M)) := by
    intro k
    induction k with
    | zero =>
      intro i v2 v3 v4 hk hi
      refine ⟨v2, v3, v4, ?_⟩
      have hn : itEnumZ (nts a) (nts b) i M = some none := by
        unfold itEnumZ nts
        rw [if_neg (by rw [List.length_map, List.length_map]; omega), if_pos ⟨by rw [List.length_map]; omega, by rw [List.length_map]; omega⟩]
      rw [dForI_eq, hn]
      have hdu : du i (a.drop i) (b.drop i) = none := by
        rcases Nat.le_total a.length b.length with h | h
        · rw [List.drop_eq_nil_of_le (show a.length ≤ i by omega)]
          unfold du
          rfl
        · rw [List.drop_eq_nil_of_le (show b.length ≤ i by omega)]
          cases a.drop i <;> rfl
      rw [hdu]
    | succ k ih =>
      intro i v2 v3 v4 hk hi
      have ha : i < a.length := by omega
      have hb : i < b.length := by omega
      have hit := hz i a[i] b[i] (List.getElem?_eq_getElem ha) (List.getElem?_eq_getElem hb) M
      have htest : dTest (dOp fNeA (dVar 3) (dVar 4)) [some (oc a), some (oc b), some (.int (i : Nat)), some (.int (a[i] : Nat)), some (.int (b[i] : Nat))] M = some (.ok (!decide (a[i] = b[i])) M) := by
        refine test_ok (op_ok rfl rfl ?_)
        rw [o_neI, natEq]
      rw [List.drop_eq_getElem_cons ha, List.drop_eq_getElem_cons hb, du]
      by_cases hab : a[i] = b[i]
      · obtain ⟨w2, w3, w4, hw⟩ := ih (i + 1) (some (.int (i : Nat))) (some (.int (a[i] : Nat))) (some (.int (b[i] : Nat))) (by omega) (by omega)
        refine ⟨w2, w3, w4, ?_⟩
        rw [if_pos hab, ← hw, dForI_eq, hit]
        show (match dIfS (dTest (dOp fNeA (dVar 3) (dVar 4))) (dRet (dVar 2)) dNext [some (oc a), some (oc b), some (.int (i : Nat)), some (.int (a[i] : Nat)), some (.int (b[i] : Nat))] M with
          | some (.nx ρ2, M2) => _
          | some (.ct ρ2, M2) => _
          | some (.bk ρ2, M2) => _
          | some (.rt d, M2) => _
          | some (.ex x ρ2, M2) => _
          | none => _) = _
        rw [if_no (by rw [htest, decide_eq_true hab]; rfl)]
        rfl
      · refine ⟨none, none, none, ?_⟩
        rw [if_neg hab, dForI_eq, hit]
        show (match dIfS (dTest (dOp fNeA (dVar 3) (dVar 4))) (dRet (dVar 2)) dNext [some (oc a), some (oc b), some (.int (i : Nat)), some (.int (a[i] : Nat)), some (.int (b[i] : Nat))] M with
          | some (.nx ρ2, M2) => _
          | some (.ct ρ2, M2) => _
          | some (.bk ρ2, M2) => _
          | some (.rt d, M2) => _
          | some (.ex x ρ2, M2) => _
          | none => _) = _
        rw [if_yes (by rw [htest, decide_eq_false hab]; rfl), ret_ok rfl]
  obtain ⟨v2, v3, v4, hk⟩ := key _ 0 none none none rfl (Nat.zero_le _)
  rw [List.drop_zero, List.drop_zero] at hk
  have hfor : dFor (diEnumZip (dCons (dVar 0) (dCons (dVar 1) dNil))) (dgTup 2 (dgCons (dgName 2) (dgCons (dgTup 2 (dgCons (dgName 3) (dgCons (dgName 4) dgNil))) dgNil)))
      (dIfS (dTest (dOp fNeA (dVar 3) (dVar 4))) (dRet (dVar 2)) dNext) (startD N_first_unlike.length [oc a, oc b]) M = (match du 0 a b with
        | some j => some (.rt (.int (j : Int)), M)
        | none => some (.nx [some (oc a), some (oc b), v2, v3, v4], M)) := hk
  unfold fuD
  cases hdu : du 0 a b with
  | some j =>
    rw [hdu] at hfor
    exact ⟨_, _, seq_rt hfor, Fin.rt Cl.id⟩
  | none =>
    rw [hdu] at hfor
    rw [seq_nx hfor]
    have ht : dTest (dOp fEqA (dCB fLen (dCons (dVar 0) dNil)) (dCB fLen (dCons (dVar 1) dNil))) [some (oc a), some (oc b), v2, v3, v4] M = some (.ok (decide (a.length = b.length)) M) := by
      refine test_ok (op_ok (cb_ok (one_ok rfl) (o_len_oc a M)) (cb_ok (one_ok rfl) (o_len_oc b M)) ?_)
      rw [o_eqI, natEq]
    dsimp only
    by_cases hl : a.length = b.length
    · rw [if_pos hl]
      exact ⟨_, _, ret_ok (ife_t (by rw [ht, decide_eq_true hl]) rfl), Fin.rt Cl.id⟩
    · rw [if_neg hl]
      have hmin : (if (b.length : Int) < (a.length : Int) then (b.length : Int) else (a.length : Int)) = ((min a.length b.length : Nat) : Int) := by split <;> omega
      refine ⟨.rt (.int (if (b.length : Int) < (a.length : Int) then (b.length : Int) else (a.length : Int))), M, ret_ok (ife_f (by rw [ht, decide_eq_false hl]) (cb_ok (cons_ok (cb_ok (one_ok rfl) (o_len_oc a M)) (one_ok (cb_ok (one_ok rfl) (o_len_oc b M)))) rfl)), ?_⟩
      rw [hmin]
      exact Fin.rt Cl.id
/-! ### record_of, journal_of -/
def recL (x : D) : List Nat := sealedL (76 :: (seven (packedL x).length ++ packedL x))
theorem packed_byt {x : D} (h : okD x) : Byt (packedL x) := sealed_byt (byt_cons (by decide) (oct_byt x h))
def R_record_of (ds : List D) (M : Sto) (d : D) (M1 : Sto) : Prop := ∃ x, okD x ∧ (octD x).length ≤ 1000000 ∧ ds = [x] ∧ d = oc (recL x) ∧ M = M1
theorem u_record_of : Fun R_record_of := by
  rintro ds M d M1 d' M1' ⟨x, _, _, rfl, rfl, rfl⟩ ⟨x', _, _, e, rfl, rfl⟩
  cases e
  exact ⟨rfl, rfl⟩
noncomputable def F_record_of : DF := fnR R_record_of
theorem hF_record_of : ∀ ds M r, F_record_of ds M = some r → Clo M → D.cls M.length ds → ∃ d M1 fl M2, r = .ok d M1 ∧ bd_record_of F_packed F_integer_octets F_sealed (startD N_record_of.length ds) M = some (fl, M2) ∧ DL.Fin M fl M2 d M1 := fnR_hF fun ds M d M1 ⟨x, hx, hz, e1, e2, e3⟩ c1 _ => by
  subst e1 e2 e3
  have hs := sz
  have hlen := packed_len x
  have h7 := seven_short (packedL x).length (by omega)
  unfold bd_record_of
  rw [seq_nx (ρ1 := [some x, some (oc (packedL x))]) (M1 := M) (set_ok (call_ok (one_ok rfl) (fnR_eq u_packed ⟨x, hx, by omega, rfl, rfl, rfl⟩)))]
  have h1 : dTup (dCons (dC (.int 76)) (dStar (dCall F_integer_octets (dCons (dCB fLen (dCons (dVar 1) dNil)) dNil)) (dStar (dVar 1) dNil))) [some x, some (oc (packedL x))] M = some (.ok (oc (76 :: (seven (packedL x).length ++ packedL x))) M) := by
    have h2 : dCons (dC (.int 76)) (dStar (dCall F_integer_octets (dCons (dCB fLen (dCons (dVar 1) dNil)) dNil)) (dStar (dVar 1) dNil)) [some x, some (oc (packedL x))] M = some (.ok (.int 76 :: ((seven (packedL x).length).map (fun n : Nat => D.int (n : Int)) ++ ((packedL x).map (fun n : Nat => D.int (n : Int)) ++ []))) M) :=
      cons_ok rfl (star_ok (call_ok (one_ok (cb_ok (one_ok rfl) (o_len_oc _ M))) (sevenN (packedL x).length (by omega) M)) rfl (star_ok rfl rfl nil_ok))
    rw [List.append_nil, oc_app] at h2
    exact tup_ok h2 (by rw [List.length_map, List.length_cons, List.length_append]; omega)
  exact ⟨_, _, ret_ok (call_ok (one_ok h1) (fnR_eq u_sealed ⟨_, byt_cons (by decide) (byt_app (byt_small _ (by omega)) (packed_byt hx)), by rw [List.length_cons, List.length_append]; omega, rfl, rfl, rfl⟩)), Fin.rt Cl.id⟩
theorem rec_len (x : D) : (recL x).length = (seven (packedL x).length).length + (packedL x).length + 5 := by
  unfold recL
  rw [sealed_len, List.length_cons, List.length_append]
def jouL (xs : List D) : List Nat := (xs.map recL).flatten
def R_journal_of (ds : List D) (M : Sto) (d : D) (M1 : Sto) : Prop := ∃ xs : List D, (∀ x ∈ xs, okD x ∧ (octD x).length ≤ 1000000) ∧ (jouL xs).length ≤ 10000000 ∧ ds = [.tup xs] ∧ d = oc (jouL xs) ∧ M = M1
theorem u_journal_of : Fun R_journal_of := by
  rintro ds M d M1 d' M1' ⟨x, _, _, rfl, rfl, rfl⟩ ⟨x', _, _, e, rfl, rfl⟩
  cases e
  exact ⟨rfl, rfl⟩
noncomputable def F_journal_of : DF := fnR R_journal_of
theorem jou_take (xs : List D) (i : Nat) (hi : i < xs.length) : jouL (xs.take (i + 1)) = jouL (xs.take i) ++ recL xs[i] := by
  unfold jouL
  rw [List.take_add_one, List.getElem?_eq_getElem hi, Option.toList_some, List.map_append, List.flatten_append]
  simp
theorem jou_le (xs : List D) (i : Nat) : (jouL (xs.take i)).length ≤ (jouL xs).length := by
  have h : jouL xs = jouL (xs.take i) ++ jouL (xs.drop i) := by
    unfold jouL
    rw [← List.flatten_append, ← List.map_append, List.take_append_drop]
  rw [h, List.length_append]
  omega
theorem hF_journal_of : ∀ ds M r, F_journal_of ds M = some r → Clo M → D.cls M.length ds → ∃ d M1 fl M2, r = .ok d M1 ∧ bd_journal_of F_record_of (startD N_journal_of.length ds) M = some (fl, M2) ∧ DL.Fin M fl M2 d M1 := fnR_hF fun ds M d M1 ⟨xs, hx, hz, e1, e2, e3⟩ c1 _ => by
  subst e1 e2 e3
  have hs := sz
  unfold bd_journal_of
  rw [seq_nx (ρ1 := [some (.tup xs), some (.obj M.length), none]) (M1 := M ++ [Ob.lst []]) (set_ok (lst_ok nil_ok (Nat.zero_le _)))]
  have step : ∀ i ρ M', i < xs.length → (∃ v, ρ = [some (.tup xs), some (.obj M.length), v] ∧ M ++ [Ob.lst (nts (jouL (xs.take i)))] = M') → ∃ d ρ1 M1 ρ2 M2, itSeq (.tup xs) i M' = some (some d) ∧ dgName 2 d ρ M' = some (ρ1, M1) ∧
      (dDrop (dBM "list" fExt (dVar 1) (dCons (dCall F_record_of (dCons (dVar 2) dNil)) dNil)) ρ1 M1 = some (.nx ρ2, M2) ∨ dDrop (dBM "list" fExt (dVar 1) (dCons (dCall F_record_of (dCons (dVar 2) dNil)) dNil)) ρ1 M1 = some (.ct ρ2, M2)) ∧ (∃ v, ρ2 = [some (.tup xs), some (.obj M.length), v] ∧ M ++ [Ob.lst (nts (jouL (xs.take (i + 1))))] = M2) := by
    rintro i ρ M' hi ⟨v, rfl, rfl⟩
    have hxi := hx xs[i] (List.getElem_mem hi)
    have hle := jou_le xs (i + 1)
    rw [jou_take xs i hi] at hle ⊢
    refine ⟨xs[i], _, _, [some (.tup xs), some (.obj M.length), some xs[i]], M ++ [Ob.lst (nts (jouL (xs.take i) ++ recL xs[i]))], ?_, rfl, .inl ?_, _, rfl, rfl⟩
    · show some xs[i]? = _
      rw [List.getElem?_eq_getElem hi]
    · refine drop_ok (bm_ok rfl (ty_list getA0) (one_ok (call_ok (one_ok rfl) (fnR_eq u_record_of ⟨xs[i], hxi.1, hxi.2, rfl, rfl, rfl⟩))) (z := .non) ?_)
      rw [ext_ok (L := nts (jouL (xs.take i))) (es := nts (recL xs[i])) getA0 rfl (by unfold nts; rw [List.length_map, List.length_map]; rw [List.length_append] at hle; omega), setA0]
      unfold nts
      rw [oc_app]
      rfl
  obtain ⟨ρ', M', h1, v, rfl, h2⟩ := for_run (di := diSeq (dVar 0)) (ρ := [some (.tup xs), some (.obj M.length), none]) (M := M ++ [Ob.lst []]) (it := itSeq (.tup xs)) rfl _ xs.length ⟨none, rfl, rfl⟩ step (fun ρ M' _ => by show some xs[xs.length]? = _; rw [List.getElem?_eq_none (Nat.le_refl _)])
  subst h2
  rw [List.take_length] at h1
  rw [seq_nx h1]
  exact ⟨_, _, ret_ok (cb_ok (one_ok rfl) (by simp only [fTuple, itemsD, getA0, List.getElem?_cons_zero]; rfl)), Fin.cut c1 (oc_cl (jouL xs))⟩
end K90
set_option maxHeartbeats 4000000
namespace K90
open PySem PySem.Spec PyProof.Rows L2 DL
/-! ### is_deed -/
def isDeed : D → Bool
  | .tup (.str s :: ds) => !(s == "") && (plD 1 (.tup (.str s :: ds)) && decide ((packedL (.tup (.str s :: ds))).length ≤ 400000))
  | _ => false
def R_is_deed (ds : List D) (M : Sto) (d : D) (M1 : Sto) : Prop := ∃ x, typD M x ∧ nod x ≤ 4000000 ∧ (plD 1 x = true → okD x ∧ (octD x).length ≤ 4000000) ∧ (∀ s ds, x = .tup (.str s :: ds) → PyData.strOk s = true) ∧ ds = [x] ∧ d = .bl (isDeed x) ∧ M = M1
theorem u_is_deed : Fun R_is_deed := by
  rintro ds M d M1 d' M1' ⟨x, _, _, _, _, rfl, rfl, rfl⟩ ⟨x', _, _, _, _, e, rfl, rfl⟩
  cases e
  exact ⟨rfl, rfl⟩
noncomputable def F_is_deed : DF := fnR R_is_deed
theorem o_neS (s t : Str) (M : Sto) (h1 : PyData.strOk s = true) (h2 : PyData.strOk t = true) : fNeA (.str s) (.str t) M = some (.bl (!(s == t)), M) := by
  show fNe (.str s) (.str t) M = _
  unfold fNe
  simp only [pyO, pyD]
  have hk : ∀ z : Str, PyData.strOk z = true → SeqAt.shaped (.str z) = true := fun z hz => by
    unfold SeqAt.shaped PyData.canLay0 PyData.depth
    rw [hz]
    rfl
  rw [if_pos ⟨hk s h1, hk t h2⟩]
  rfl
theorem typ_leafTy {M : Sto} {x : D} (h : typD M x) : ∃ t, tyOf x M = some t ∧ ((t == "tuple") = true ↔ ∃ ds, x = .tup ds) ∧ ((t == "str") = true ↔ ∃ s, x = .str s) := by
  obtain ⟨t, ht⟩ := typ_tyOf (g := []) h
  rw [List.append_nil] at ht
  refine ⟨t, ht, ?_, ?_⟩
  · cases x with
    | obj n => rw [tyOf_obj ht]; simp
    | ty n => cases ht
    | scr n => cases ht
    | _ => cases ht; simp
  · cases x with
    | obj n => rw [tyOf_obj ht]; simp
    | ty n => cases ht
    | scr n => cases ht
    | _ => cases ht; simp
theorem hF_is_deed : ∀ ds M r, F_is_deed ds M = some r → Clo M → D.cls M.length ds → ∃ d M1 fl M2, r = .ok d M1 ∧ bd_is_deed F_is_plain F_packed (startD N_is_deed.length ds) M = some (fl, M2) ∧ DL.Fin M fl M2 d M1 := fnR_hF fun ds M d M1 ⟨x, hx, hz, hpl, hso, e1, e2, e3⟩ c1 _ => by
  subst e1 e2 e3
  unfold bd_is_deed
  generalize hρ : startD N_is_deed.length [x] = ρ
  have v0 : dVar 0 ρ M = some (.ok x M) := by rw [← hρ]; rfl
  obtain ⟨t, ht, htt, hts⟩ := typ_leafTy hx
  have a1 : dNotT (dTru (dCB fIsI (dCons (dVar 0) (dCons (dC (.ty "tuple")) dNil)))) ρ M = some (.ok (!(t == "tuple")) M) := notT_ok (tru_ok (cb_ok (cons_ok v0 (one_ok rfl)) (o_isi ht (isTy_tuple t))) rfl)
  by_cases htup : (t == "tuple") = true
  · obtain ⟨ds, rfl⟩ := htt.mp htup
    rw [htup] at a1
    cases ds with
    | nil =>
      have a2 : dTest (dOp fEqA (dVar 0) (dTup dNil)) ρ M = some (.ok true M) := test_ok (op_ok v0 (tup_ok nil_ok (Nat.zero_le _)) rfl)
      exact ⟨_, _, seq_rt ((if_yes (orT_f a1 (orT_t a2))).trans (ret_ok rfl)), Fin.rt Cl.id⟩
    | cons y ys =>
      have hlen0 : dTup dNil ρ M = some (.ok (.tup []) M) := tup_ok nil_ok (Nat.zero_le _)
      have a2 : dTest (dOp fEqA (dVar 0) (dTup dNil)) ρ M = some (.ok false M) := test_ok (op_ok v0 hlen0 rfl)
      have hy : typD M y := hx.1
      obtain ⟨ty, hty, _, hys⟩ := typ_leafTy hy
      have hix : dOp fIx (dVar 0) (dC (.int 0)) ρ M = some (.ok y M) := op_ok v0 rfl (by
        show (match L2.atI (y :: ys) ((0 : Nat) : Int) with
          | some d => some (d, M)
          | none => none) = _
        rw [at_nat]
        rfl)
      have a3 : dNotT (dTru (dCB fIsI (dCons (dOp fIx (dVar 0) (dC (.int 0))) (dCons (dC (.ty "str")) dNil)))) ρ M = some (.ok (!(ty == "str")) M) := notT_ok (tru_ok (cb_ok (cons_ok hix (one_ok rfl)) (o_isi hty (isTy_str ty))) rfl)
      by_cases hstr : (ty == "str") = true
      · obtain ⟨s, rfl⟩ := hys.mp hstr
        rw [hstr] at a3
        rw [seq_nx ((if_no (orT_f a1 (orT_f a2 a3))).trans rfl)]
        have b1 : dOp fNeA (dOp fIx (dVar 0) (dC (.int 0))) (dC (.str "")) ρ M = some (.ok (.bl (!(s == ""))) M) := op_ok hix rfl (o_neS s "" M (hso s ys rfl) (by decide +kernel))
        refine ⟨_, _, ret_ok (andB b1 fun _ => andB (call_ok (one_ok v0) (fnR_eq u_is_plain ⟨_, hx, hz, rfl, rfl, rfl⟩)) fun hp => ?_), Fin.rt Cl.id⟩
        obtain ⟨hok, ho⟩ := hpl hp
        refine op_ok (cb_ok (one_ok (call_ok (one_ok v0) (fnR_eq u_packed ⟨_, hok, ho, rfl, rfl, rfl⟩))) (o_len_oc _ M)) rfl ?_
        generalize (packedL (D.tup (D.str s :: ys))).length = k
        have e : decide ((k : Int) ≤ 400000) = decide (k ≤ 400000) := decide_eq_decide.mpr (by omega)
        rw [o_le, e]
      · have hstr' : (ty == "str") = false := by cases h : (ty == "str"); rfl; exact absurd h hstr
        rw [hstr'] at a3
        have e : isDeed (.tup (y :: ys)) = false := by
          cases y with
          | str s => exact absurd (hys.mpr ⟨s, rfl⟩) hstr
          | _ => rfl
        rw [e]
        exact ⟨_, _, seq_rt ((if_yes (orT_f a1 (orT_f a2 a3))).trans (ret_ok rfl)), Fin.rt Cl.id⟩
  · have htup' : (t == "tuple") = false := by cases h : (t == "tuple"); rfl; exact absurd h htup
    rw [htup'] at a1
    have e : isDeed x = false := by
      cases x with
      | tup ds => exact absurd (htt.mpr ⟨ds, rfl⟩) htup
      | _ => rfl
    rw [e]
    exact ⟨_, _, seq_rt ((if_yes (orT_t a1)).trans (ret_ok rfl)), Fin.rt Cl.id⟩
end K90
set_option maxHeartbeats 4000000
namespace K90
open PySem PySem.Spec PyProof.Rows L2 DL
structure OkRec (x : D) : Prop where
  r : okR x
  pl : plD 1 x = true
  deed : isDeed x = true
  len : (packedL x).length ≤ 400000
  str : ∀ s ds, x = .tup (.str s :: ds) → PyData.strOk s = true
theorem rec_cons (x : D) : recL x = 76 :: (seven (packedL x).length ++ (packedL x ++ chk4 (chk (76 :: (seven (packedL x).length ++ packedL x))))) := by
  unfold recL
  show (76 :: (seven (packedL x).length ++ packedL x)) ++ _ = _
  rw [List.cons_append, List.append_assoc]
theorem rec_inj {x y : D} {r r' : List Nat} (hx : OkRec x) (hy : OkRec y) (h : recL x ++ r = recL y ++ r') : x = y := by
  rw [rec_cons x, rec_cons y] at h
  simp only [List.cons_append, List.append_assoc] at h
  injection h with _ h
  have hl := seven_inj _ _ _ _ h
  rw [hl] at h
  have h2 := List.append_cancel_left h
  have h3 := List.append_inj_left h2 hl
  have h4 := sealed_inj h3
  injection h4 with _ h5
  exact (octD_inj x hx.r y hy.r [] [] (by rw [List.append_nil, List.append_nil]; exact h5)).1
theorem deed_F {x : D} (hx : OkRec x) (M : Sto) : F_is_deed [x] M = some (.ok (.bl true) M) := by
  have hD := okR_D x hx.r
  have h1 := nod_le x hD
  have h2 := packed_len x
  have h3 := hx.len
  exact fnR_eq u_is_deed ⟨x, okD_typ x hD, by omega, fun _ => ⟨hD, by omega⟩, hx.str, rfl, by rw [hx.deed], rfl⟩
/-! ### whole_record -/
def R_whole_record (ds : List D) (M : Sto) (d : D) (M1 : Sto) : Prop := ∃ (l r : List Nat) (p : Nat) (x : D), Byt l ∧ l.length ≤ 10000000 ∧ l.drop p = recL x ++ r ∧ OkRec x ∧ ds = [oc l, .int (p : Int)] ∧ d = .tup [x, .int ((p + (recL x).length : Nat) : Int)] ∧ M = M1
theorem u_whole_record : Fun R_whole_record := by
  rintro ds M d M1 d' M1' ⟨l, r, p, x, _, _, hd, hx, rfl, rfl, rfl⟩ ⟨l', r', p', y, _, _, hd', hy, e, rfl, rfl⟩
  injection e with e1 e2
  injection e2 with e2 _
  injection e2 with e2
  have e1 := oc_inj e1
  have e2 := Int.ofNat.inj e2
  subst e1 e2
  rw [hd] at hd'
  have := rec_inj hx hy hd'
  subst this
  exact ⟨rfl, rfl⟩
noncomputable def F_whole_record : DF := fnR R_whole_record
theorem hF_whole_record : ∀ ds M r, F_whole_record ds M = some r → Clo M → D.cls M.length ds → ∃ d M1 fl M2, r = .ok d M1 ∧ bd_whole_record F_read_integer F_is_sealed F_unpacked F_is_deed (startD N_whole_record.length ds) M = some (fl, M2) ∧ DL.Fin M fl M2 d M1 := fnR_hF fun ds M d M1 ⟨l, r, p, x, hb, hl, hd, hx, e1, e2, e3⟩ c1 _ => by
  subst e1 e2 e3
  have hpl := hx.len
  have hrl := rec_len x
  have h7 := seven_short (packedL x).length (by omega)
  have hlp : p + (recL x).length ≤ l.length := by
    have := congrArg List.length hd
    rw [List.length_drop, List.length_append] at this
    omega
  have hd1 : l.drop (p + 1) = seven (packedL x).length ++ (packedL x ++ (chk4 (chk (76 :: (seven (packedL x).length ++ packedL x))) ++ r)) := by
    rw [← List.drop_drop, hd, rec_cons, List.cons_append, List.append_assoc, List.append_assoc]
    rfl
  unfold bd_whole_record
  generalize hn : (packedL x).length = m at *
  have hri : dCall F_read_integer (dCons (dVar 0) (dCons (dOp fAdd (dVar 1) (dC (.int 1))) dNil)) (startD N_whole_record.length [oc l, .int (p : Int)]) M = some (.ok (.tup [.int (m : Nat), .int ((p + 1 + (seven m).length : Nat) : Int)]) M) :=
    call_ok (cons_ok rfl (one_ok (op_ok rfl rfl (o_add1 p)))) (fnR_eq u_read_integer ⟨l, _, p + 1, m, hd1, by omega, Nat.lt_of_le_of_lt hpl (by decide), by omega, rfl, rfl, rfl⟩)
  generalize hq : p + 1 + (seven m).length = q at *
  rw [seq_nx (ρ1 := [some (oc l), some (.int (p : Nat)), some (.int (m : Nat)), some (.int (q : Nat)), none, none]) (M1 := M) (asg_ok hri rfl)]
  rw [seq_nx (ρ1 := [some (oc l), some (.int (p : Nat)), some (.int (m : Nat)), some (.int (q : Nat)), some (.int ((q + m + 4 : Nat) : Int)), none]) (M1 := M) (set_ok (op_ok (op_ok rfl rfl rfl) rfl rfl))]
  have hbe : q + m + 4 = p + (recL x).length := by omega
  have t1 : dTest (dOp fGt (dVar 4) (dCB fLen (dCons (dVar 0) dNil))) [some (oc l), some (.int (p : Nat)), some (.int (m : Nat)), some (.int (q : Nat)), some (.int ((q + m + 4 : Nat) : Int)), none] M = some (.ok false M) := by
    refine test_ok (op_ok rfl (cb_ok (one_ok rfl) (o_len_oc l M)) ?_)
    rw [o_gt, decide_eq_false (by omega)]
  have hsl : fSl (oc l) (some (p : Int)) (some ((q + m + 4 : Nat) : Int)) M = some (oc (recL x), M) := by
    rw [sl_both l p (q + m + 4) (by omega) (by omega), hd, show q + m + 4 - p = (recL x).length from by omega, List.take_left]
  have hbx : Byt (recL x) := fun y hy => hb y (List.mem_of_mem_drop (i := p) (by rw [hd]; exact List.mem_append_left _ hy))
  have t2 : dNotT (dTru (dCall F_is_sealed (dCons (dSl (dVar 0) (dPart (dVar 1)) (dPart (dVar 4))) dNil))) [some (oc l), some (.int (p : Nat)), some (.int (m : Nat)), some (.int (q : Nat)), some (.int ((q + m + 4 : Nat) : Int)), none] M = some (.ok false M) := by
    refine notT_ok (b := true) (tru_ok (call_ok (one_ok (slice_ok rfl (part_ok rfl) (part_ok rfl) hsl)) (fnR_eq u_is_sealed ⟨recL x, hbx, by omega, rfl, rfl, rfl⟩)) ?_)
    rw [show isSealedL (recL x) = true from sealed_is _]
    rfl
  rw [seq_nx ((if_no (orT_f t1 t2)).trans rfl)]
  have hsl2 : fSl (oc l) (some (q : Int)) (some ((q + m : Nat) : Int)) M = some (oc (packedL x), M) := by
    rw [sl_both l q (q + m) (by omega) (by omega), show q + m - q = (packedL x).length from by omega, ← hq, ← List.drop_drop, hd1, List.drop_left, List.take_left]
  rw [seq_nx (ρ1 := [some (oc l), some (.int (p : Nat)), some (.int (m : Nat)), some (.int (q : Nat)), some (.int ((q + m + 4 : Nat) : Int)), some x]) (M1 := M) (set_ok (call_ok (one_ok (slice_ok rfl (part_ok rfl) (part_ok (op_ok rfl rfl rfl)) hsl2)) (fnR_eq u_unpacked ⟨x, hx.r, hx.pl, by omega, rfl, rfl, rfl⟩)))]
  refine ⟨_, _, ret_ok (ife_t (tru_ok (call_ok (one_ok rfl) (deed_F hx M)) rfl) (tup_ok (cons_ok rfl (one_ok rfl)) (show 2 ≤ sizeLine by decide))), ?_⟩
  rw [hbe]
  exact Fin.rt Cl.id
/-! ### read_record -/
def R_read_record (ds : List D) (M : Sto) (d : D) (M1 : Sto) : Prop := ∃ (l : List Nat) (p : Nat), Byt l ∧ l.length ≤ 10000000 ∧ ds = [oc l, .int (p : Int)] ∧ ((p = l.length ∧ d = .non) ∨ ∃ r x, l.drop p = recL x ++ r ∧ OkRec x ∧ d = .tup [x, .int ((p + (recL x).length : Nat) : Int)]) ∧ M = M1
theorem u_read_record : Fun R_read_record := by
  rintro ds M d M1 d' M1' ⟨l, p, _, _, rfl, h, rfl⟩ ⟨l', p', _, _, e, h', rfl⟩
  injection e with e1 e2
  injection e2 with e2 _
  injection e2 with e2
  have e1 := oc_inj e1
  have e2 := Int.ofNat.inj e2
  subst e1 e2
  have no : ∀ {r : List Nat} {x : D}, p = l.length → l.drop p = recL x ++ r → False := fun hp hd => by
    rw [hp, List.drop_length, rec_cons] at hd
    cases hd
  rcases h with ⟨hp, rfl⟩ | ⟨r, x, hd, hx, rfl⟩
  · rcases h' with ⟨_, rfl⟩ | ⟨r', y, hd', _, _⟩
    · exact ⟨rfl, rfl⟩
    · exact (no hp hd').elim
  · rcases h' with ⟨hp, _⟩ | ⟨r', y, hd', hy, rfl⟩
    · exact (no hp hd).elim
    · rw [hd] at hd'
      have := rec_inj hx hy hd'
      subst this
      exact ⟨rfl, rfl⟩
noncomputable def F_read_record : DF := fnR R_read_record
theorem hF_read_record : ∀ ds M r, F_read_record ds M = some r → Clo M → D.cls M.length ds → ∃ d M1 fl M2, r = .ok d M1 ∧ bd_read_record F_whole_record (startD N_read_record.length ds) M = some (fl, M2) ∧ DL.Fin M fl M2 d M1 := fnR_hF fun ds M d M1 ⟨l, p, hb, hl, e1, hor, e3⟩ c1 _ => by
  subst e1 e3
  unfold bd_read_record
  have t1 : dTest (dOp fEqA (dVar 1) (dCB fLen (dCons (dVar 0) dNil))) (startD N_read_record.length [oc l, .int (p : Int)]) M = some (.ok (decide (p = l.length)) M) := by
    refine test_ok (op_ok rfl (cb_ok (one_ok rfl) (o_len_oc l M)) ?_)
    rw [o_eqI, natEq]
  rcases hor with ⟨hp, rfl⟩ | ⟨r, x, hd, hx, rfl⟩
  · exact ⟨_, _, seq_rt ((if_yes (orT_t (by rw [t1, decide_eq_true hp]))).trans (ret_ok rfl)), Fin.rt Cl.id⟩
  · have hget : l[p]? = some 76 := by
      rw [rec_cons, List.cons_append] at hd
      have := congrArg (fun z => z[0]?) hd
      simpa using this
    have hlt := (List.getElem?_eq_some_iff.mp hget).1
    have t2 : dTest (dOp fNeA (dOp fIx (dVar 0) (dVar 1)) (dC (.int 76))) (startD N_read_record.length [oc l, .int (p : Int)]) M = some (.ok false M) := by
      refine test_ok (op_ok (op_ok rfl rfl (ix_oc hget M)) rfl ?_)
      rw [o_neI]
      rfl
    rw [seq_nx ((if_no (orT_f (by rw [t1, decide_eq_false (by omega)]) t2)).trans rfl)]
    exact ⟨_, _, ret_ok (call_ok (cons_ok rfl (one_ok rfl)) (fnR_eq u_whole_record ⟨l, r, p, x, hb, hl, hd, hx, rfl, rfl, rfl⟩)), Fin.rt Cl.id⟩
end K90
set_option maxHeartbeats 4000000
namespace K90
open PySem PySem.Spec PyProof.Rows L2 DL
/-! ### steps_in -/
def stepsL : Nat → List D → List D
  | _, [] => []
  | p, x :: xs => .tup [x, .int ((p + (recL x).length : Nat) : Int)] :: stepsL (p + (recL x).length) xs
theorem jou_cons (x : D) (xs : List D) : jouL (x :: xs) = recL x ++ jouL xs := by
  unfold jouL
  rw [List.map_cons, List.flatten_cons]
theorem jou_inj : ∀ {xs ys : List D}, (∀ x ∈ xs, OkRec x) → (∀ y ∈ ys, OkRec y) → jouL xs = jouL ys → xs = ys
  | [], [], _, _, _ => rfl
  | [], y :: ys, _, _, h => by
    rw [jou_cons, rec_cons, List.cons_append] at h
    cases h
  | x :: xs, [], _, _, h => by
    rw [jou_cons, rec_cons, List.cons_append] at h
    cases h
  | x :: xs, y :: ys, hx, hy, h => by
    rw [jou_cons, jou_cons] at h
    have e := rec_inj (hx x List.mem_cons_self) (hy y List.mem_cons_self) h
    subst e
    rw [jou_inj (fun z hz => hx z (List.mem_cons_of_mem _ hz)) (fun z hz => hy z (List.mem_cons_of_mem _ hz)) (List.append_cancel_left h)]
def R_steps_in (ds : List D) (M : Sto) (d : D) (M1 : Sto) : Prop := ∃ xs : List D, (∀ x ∈ xs, OkRec x) ∧ Byt (jouL xs) ∧ (jouL xs).length ≤ 10000000 ∧ ds = [oc (jouL xs)] ∧ d = .obj M.length ∧ M1 = M ++ [.lst (stepsL 0 xs)]
theorem u_steps_in : Fun R_steps_in := by
  rintro ds M d M1 d' M1' ⟨xs, hx, _, _, rfl, rfl, rfl⟩ ⟨ys, hy, _, _, e, rfl, rfl⟩
  injection e with e _
  have := jou_inj hx hy (oc_inj e)
  subst this
  exact ⟨rfl, rfl⟩
noncomputable def F_steps_in : DF := fnR R_steps_in
/-- the next step at p, of what is left -/
def nextS (p : Nat) : List D → D
  | [] => .non
  | x :: _ => .tup [x, .int ((p + (recL x).length : Nat) : Int)]
theorem nextS_F {l : List Nat} {p : Nat} {ys : List D} {M : Sto} (hb : Byt l) (hl : l.length ≤ 10000000) (hd : l.drop p = jouL ys) (hp : p ≤ l.length) (hy : ∀ y ∈ ys, OkRec y) : F_read_record [oc l, .int (p : Int)] M = some (.ok (nextS p ys) M) := by
  cases ys with
  | nil =>
    have h0 : l.drop p = [] := hd
    have : l.length ≤ p := List.drop_eq_nil_iff.mp h0
    exact fnR_eq u_read_record ⟨l, p, hb, hl, rfl, .inl ⟨by omega, rfl⟩, rfl⟩
  | cons y ys => exact fnR_eq u_read_record ⟨l, p, hb, hl, rfl, .inr ⟨jouL ys, y, by rw [hd, jou_cons], hy y List.mem_cons_self, rfl⟩, rfl⟩
theorem stepsL_len : ∀ (p : Nat) (xs : List D), (stepsL p xs).length = xs.length
  | _, [] => rfl
  | p, x :: xs => by rw [stepsL, List.length_cons, List.length_cons, stepsL_len]
theorem jou_count : ∀ xs : List D, xs.length ≤ (jouL xs).length
  | [] => Nat.le_refl _
  | x :: xs => by
    rw [jou_cons, List.length_append, List.length_cons]
    have h1 := jou_count xs
    have h2 := rec_len x
    omega
theorem hF_steps_in : ∀ ds M r, F_steps_in ds M = some r → Clo M → D.cls M.length ds → ∃ d M1 fl M2, r = .ok d M1 ∧ bd_steps_in F_read_record (startD N_steps_in.length ds) M = some (fl, M2) ∧ DL.Fin M fl M2 d M1 := fnR_hF fun ds M d M1 ⟨xs, hx, hb, hl, e1, e2, e3⟩ c1 _ => by
  subst e1 e2 e3
  have hs := sz
  generalize hL : jouL xs = l at hb hl
  unfold bd_steps_in
  have hcount : xs.length ≤ 10000000 := by
    have := jou_count xs
    rw [hL] at this
    omega
  have p1 : dPar 1 2 (dCons (dLst dNil) (dCons (dCall F_read_record (dCons (dVar 0) (dCons (dC (.int 0)) dNil))) dNil)) (startD N_steps_in.length [oc l]) M = some (.nx [some (oc l), some (.obj M.length), some (nextS 0 xs)], M ++ [Ob.lst []]) :=
    par_ok (cons_ok (lst_ok nil_ok (Nat.zero_le _)) (one_ok (call_ok (cons_ok rfl (one_ok rfl)) (nextS_F (p := 0) hb hl (by rw [List.drop_zero, hL]) (Nat.zero_le _) hx))))
  rw [seq_nx p1]
  obtain ⟨ρ', M', h1, acc, ys, p, rfl, rfl, hys, hdr, hp, hacc, h0⟩ := while_rel (t := dTest (dOp fNotN (dVar 2) (dC .non))) (db := dSeq (dDrop (dBM "list" fAppend (dVar 1) (dCons (dVar 2) dNil))) (dSet 2 (dCall F_read_record (dCons (dVar 0) (dCons (dOp fIx (dVar 2) (dC (.int 1))) dNil)))))
    (fun m ρ M' => ∃ (acc ys : List D) (p : Nat), ρ = [some (oc l), some (.obj M.length), some (nextS p ys)] ∧ M ++ [Ob.lst acc] = M' ∧ (∀ y ∈ ys, OkRec y) ∧ l.drop p = jouL ys ∧ p ≤ l.length ∧ acc ++ stepsL p ys = stepsL 0 xs ∧ m = ys.length) (fun m ρ M' ⟨acc, ys, p, e1, e2, hys, hdr, hp, hacc, hm⟩ => by
      subst e1 e2
      cases ys with
      | nil => exact .inl ⟨_, test_ok (op_ok rfl rfl rfl), hm, acc, [], p, rfl, rfl, hys, hdr, hp, hacc, rfl⟩
      | cons y ys =>
        right
        have hd2 : l.drop (p + (recL y).length) = jouL ys := by rw [← List.drop_drop, hdr, jou_cons, List.drop_left]
        have hp2 : p + (recL y).length ≤ l.length := by
          have := congrArg List.length hdr
          rw [List.length_drop, jou_cons, List.length_append] at this
          omega
        have hal : acc.length < sizeLine := by
          have := congrArg List.length hacc
          rw [List.length_append, stepsL_len, stepsL_len, List.length_cons] at this
          omega
        refine ⟨M ++ [Ob.lst acc], [some (oc l), some (.obj M.length), some (nextS (p + (recL y).length) ys)], M ++ [Ob.lst (acc ++ [.tup [y, .int ((p + (recL y).length : Nat) : Int)]])], ys.length, test_ok (op_ok rfl rfl rfl), .inl ?_, by rw [hm, List.length_cons]; omega, acc ++ [.tup [y, .int ((p + (recL y).length : Nat) : Int)]], ys, p + (recL y).length, rfl, rfl, fun z hz => hys z (List.mem_cons_of_mem _ hz), hd2, hp2, ?_, rfl⟩
        · have a1 : dDrop (dBM "list" fAppend (dVar 1) (dCons (dVar 2) dNil)) [some (oc l), some (.obj M.length), some (nextS p (y :: ys))] (M ++ [Ob.lst acc]) = some (.nx [some (oc l), some (.obj M.length), some (nextS p (y :: ys))], M ++ [Ob.lst (acc ++ [.tup [y, .int ((p + (recL y).length : Nat) : Int)]])]) := by
            refine drop_ok (bm_ok rfl (ty_list getA0) (one_ok rfl) (z := .non) ?_)
            rw [app_ok getA0 hal, setA0]
            rfl
          rw [seq_nx a1]
          have hix : fIx (nextS p (y :: ys)) (.int 1) (M ++ [Ob.lst (acc ++ [.tup [y, .int ((p + (recL y).length : Nat) : Int)]])]) = some (.int ((p + (recL y).length : Nat) : Int), M ++ [Ob.lst (acc ++ [.tup [y, .int ((p + (recL y).length : Nat) : Int)]])]) := rfl
          exact set_ok (call_ok (cons_ok rfl (one_ok (op_ok rfl rfl hix))) (nextS_F hb hl hd2 hp2 fun z hz => hys z (List.mem_cons_of_mem _ hz)))
        · rw [← hacc, stepsL, List.append_assoc]
          rfl) xs.length [some (oc l), some (.obj M.length), some (nextS 0 xs)] (M ++ [Ob.lst []]) ⟨[], xs, 0, rfl, rfl, hx, by rw [List.drop_zero, hL], Nat.zero_le _, rfl, rfl⟩
  have hy0 : ys = [] := List.length_eq_zero_iff.mp h0.symm
  subst hy0
  rw [stepsL, List.append_nil] at hacc
  subst hacc
  rw [seq_nx h1]
  exact ⟨_, _, ret_ok rfl, Fin.rt Cl.id⟩
/-! ### deeds_in -/
def R_deeds_in (ds : List D) (M : Sto) (d : D) (M1 : Sto) : Prop := ∃ xs : List D, (∀ x ∈ xs, OkRec x) ∧ Byt (jouL xs) ∧ (jouL xs).length ≤ 10000000 ∧ ds = [oc (jouL xs)] ∧ d = .tup [.tup xs, .int ((jouL xs).length : Nat)] ∧ M = M1
theorem u_deeds_in : Fun R_deeds_in := by
  rintro ds M d M1 d' M1' ⟨xs, hx, _, _, rfl, rfl, rfl⟩ ⟨ys, hy, _, _, e, rfl, rfl⟩
  injection e with e _
  have := jou_inj hx hy (oc_inj e)
  subst this
  exact ⟨rfl, rfl⟩
noncomputable def F_deeds_in : DF := fnR R_deeds_in
theorem stepsL_last : ∀ (p : Nat) (xs : List D), xs ≠ [] → ∃ as x, stepsL p xs = as ++ [.tup [x, .int ((p + (jouL xs).length : Nat) : Int)]]
  | _, [], h => absurd rfl h
  | p, [x], _ => ⟨[], x, by simp [stepsL, jouL]⟩
  | p, x :: y :: ys, _ => by
    obtain ⟨as, z, h⟩ := stepsL_last (p + (recL x).length) (y :: ys) (by simp)
    refine ⟨.tup [x, .int ((p + (recL x).length : Nat) : Int)] :: as, z, ?_⟩
    rw [stepsL, h, jou_cons x, List.length_append, ← Nat.add_assoc]
    rfl
theorem stepsL_mem : ∀ {p : Nat} {xs : List D} {d : D}, d ∈ stepsL p xs → ∃ x q, d = .tup [x, .int q]
  | _, [], _, h => (List.not_mem_nil h).elim
  | p, x :: xs, d, h => by
    rcases List.mem_cons.mp h with rfl | h
    · exact ⟨_, _, rfl⟩
    · exact stepsL_mem h
theorem stepsL_map : ∀ (p : Nat) (xs : List D), (stepsL p xs).map (fun d => match d with
    | .tup [x, _] => x
    | _ => .non) = xs
  | _, [] => rfl
  | p, x :: xs => by
    rw [stepsL, List.map_cons, stepsL_map]
theorem hF_deeds_in : ∀ ds M r, F_deeds_in ds M = some r → Clo M → D.cls M.length ds → ∃ d M1 fl M2, r = .ok d M1 ∧ bd_deeds_in F_steps_in (startD N_deeds_in.length ds) M = some (fl, M2) ∧ DL.Fin M fl M2 d M1 := fnR_hF fun ds M d M1 ⟨xs, hx, hb, hl, e1, e2, e3⟩ c1 _ => by
  subst e1 e2 e3
  have hs := sz
  have hcount := jou_count xs
  unfold bd_deeds_in
  rw [seq_nx (ρ1 := [some (oc (jouL xs)), some (.obj M.length), none, none]) (M1 := M ++ [Ob.lst (stepsL 0 xs)]) (set_ok (call_ok (one_ok rfl) (fnR_eq u_steps_in ⟨xs, hx, hb, hl, rfl, rfl, rfl⟩)))]
  have hseq : diSeq (dVar 1) [some (oc (jouL xs)), some (.obj M.length), none, none] (M ++ [Ob.lst (stepsL 0 xs)]) = some (.ok (itSeq (.obj M.length)) (M ++ [Ob.lst (stepsL 0 xs)])) := seq_ok (it := fun _ _ => none) rfl (by simp only [isSeqD, getA0, List.getElem?_cons_zero])
  have hlc := lc_map (vs := [2, 3]) (dg := cgTup 2 (cgCons (cgName 2) (cgCons (cgName 3) cgNil))) (dt := dYes) (de := dVar 2) (xs := stepsL 0 xs) (f := fun d => match d with
    | .tup [x, _] => x
    | _ => .non) hseq (fun i acc => by rw [appA]; simp only [itSeq, getA0, List.singleton_append, List.getElem?_cons_zero]) (by rw [stepsL_len]; omega) (fun d hd acc => by
      obtain ⟨x, q, rfl⟩ := stepsL_mem hd
      exact ⟨_, rfl, rfl, rfl⟩)
  rw [stepsL_map] at hlc
  have hlen1 : (M ++ [Ob.lst (stepsL 0 xs)]).length = M.length + 1 := by rw [List.length_append]; rfl
  rw [hlen1, appA] at hlc
  have hlist : (M ++ ([Ob.lst (stepsL 0 xs)] ++ [Ob.lst xs]))[M.length]? = some (.lst (stepsL 0 xs)) := getA0
  have htup : fTuple [.obj (M.length + 1)] (M ++ ([Ob.lst (stepsL 0 xs)] ++ [Ob.lst xs])) = some (.tup xs, M ++ ([Ob.lst (stepsL 0 xs)] ++ [Ob.lst xs])) := by
    have : (M ++ ([Ob.lst (stepsL 0 xs)] ++ [Ob.lst xs]))[M.length + 1]? = some (.lst xs) := by rw [getA 1]; rfl
    simp only [fTuple, itemsD, this]
  have htru : dTru (dVar 1) [some (oc (jouL xs)), some (.obj M.length), none, none] (M ++ ([Ob.lst (stepsL 0 xs)] ++ [Ob.lst xs])) = some (.ok (!(stepsL 0 xs).isEmpty) (M ++ ([Ob.lst (stepsL 0 xs)] ++ [Ob.lst xs]))) := tru_ok rfl (by simp only [truD, hlist])
  have hsecond : dIf (dTru (dVar 1)) (dOp fIx (dOp fIx (dVar 1) (dUn fNeg (dC (.int 1)))) (dC (.int 1))) (dC (.int 0)) [some (oc (jouL xs)), some (.obj M.length), none, none] (M ++ ([Ob.lst (stepsL 0 xs)] ++ [Ob.lst xs])) = some (.ok (.int ((jouL xs).length : Nat)) (M ++ ([Ob.lst (stepsL 0 xs)] ++ [Ob.lst xs]))) := by
    by_cases hne : xs = []
    · subst hne
      exact ife_f (htru.trans rfl) rfl
    · obtain ⟨as, x, hlast⟩ := stepsL_last 0 xs hne
      rw [Nat.zero_add] at hlast
      have hE : (!(stepsL 0 xs).isEmpty) = true := by rw [hlast]; cases as <;> rfl
      refine ife_t (htru.trans (by rw [hE])) (op_ok (x := .tup [x, .int ((jouL xs).length : Nat)]) (op_ok rfl (un_ok rfl rfl) ?_) rfl rfl)
      simp only [fIx, hlist]
      rw [hlast, at_last]
  refine ⟨_, _, ret_ok (tup_ok (cons_ok (cb_ok (one_ok hlc) htup) (one_ok hsecond)) (show 2 ≤ sizeLine by decide)), Fin.cut c1 ⟨?_, trivial, trivial⟩⟩
  exact D.cls_of fun d hd => okD_cl d (okR_D d (hx d hd).r)
end K90
set_option maxHeartbeats 4000000
namespace K90
open PySem PySem.Spec PyProof.Rows L2 DL
theorem o_int1 {i : Int} {M : Sto} : fInt1 [.int i] M = some (.int i, M) := id rfl
theorem o_modN (a : Nat) (b : Nat) (hb : 0 < b) {M : Sto} : fMod (.int (a : Int)) (.int (b : Int)) M = some (.int ((a % b : Nat) : Int), M) := by
  rw [o_modI (by omega), Int.natCast_emod]
theorem o_fdivN (a b : Nat) (hb : 0 < b) (hc : CDiv (a : Int) (b : Int)) {M : Sto} : fFdiv (.int (a : Int)) (.int (b : Int)) M = some (.int ((a / b : Nat) : Int), M) := by
  show (if CDiv (a : Int) (b : Int) then some (D.int ((a : Int) / (b : Int)), M) else none) = _
  rw [if_pos hc, Int.natCast_ediv]
/-! ### _law_check -/
def R__law_check (ds : List D) (M : Sto) (d : D) (M1 : Sto) : Prop := ∃ l : List Nat, Byt l ∧ ds = [oc l] ∧ d = .int (chk l) ∧ M = M1
theorem u__law_check : Fun R__law_check := by
  rintro ds M d M1 d' M1' ⟨n, _, rfl, rfl, rfl⟩ ⟨n', _, e, rfl, rfl⟩
  injection e with e
  rw [oc_inj e]
  exact ⟨rfl, rfl⟩
noncomputable def F__law_check : DF := fnR R__law_check
theorem chk_step (l : List Nat) (i : Nat) (hi : i < l.length) : ((chk (l.take (i + 1)) : Nat) : Int) = ((chk (l.take i) : Nat) * 257 + (l[i] : Nat) + 1) % 4294967291 := by
  have e : chk (l.take (i + 1)) = (chk (l.take i) * 257 + l[i] + 1) % 4294967291 := by
    rw [List.take_add_one, List.getElem?_eq_getElem hi]
    exact chk_snoc _ _
  rw [e]
  omega
theorem hF__law_check : ∀ ds M r, F__law_check ds M = some r → Clo M → D.cls M.length ds → ∃ d M1 fl M2, r = .ok d M1 ∧ bd__law_check (startD N__law_check.length ds) M = some (fl, M2) ∧ DL.Fin M fl M2 d M1 := fnR_hF fun ds M d M1 ⟨l, hl, e1, e2, e3⟩ c1 _ => by
  subst e1 e2 e3
  have step : ∀ i ρ M', i < l.length → (∃ v, ρ = [some (oc l), some (.int (chk (l.take i))), v] ∧ M = M') → ∃ d ρ1 M1 ρ2 M2, itSeq (oc l) i M' = some (some d) ∧ dgName 2 d ρ M' = some (ρ1, M1) ∧
      ((dSet 1 (dOp fMod (dCB fInt1 (dCons (dOp fAdd (dOp fAdd (dOp fMul (dVar 1) (dC (.int 257))) (dVar 2)) (dC (.int 1))) dNil)) (dC (.int 4294967291)))) ρ1 M1 = some (.nx ρ2, M2) ∨ (dSet 1 (dOp fMod (dCB fInt1 (dCons (dOp fAdd (dOp fAdd (dOp fMul (dVar 1) (dC (.int 257))) (dVar 2)) (dC (.int 1))) dNil)) (dC (.int 4294967291)))) ρ1 M1 = some (.ct ρ2, M2)) ∧ (∃ v, ρ2 = [some (oc l), some (.int (chk (l.take (i + 1)))), v] ∧ M = M2) := by
    rintro i ρ M' hi ⟨v, rfl, rfl⟩
    refine ⟨.int l[i], _, _, [some (oc l), some (.int (chk (l.take (i + 1)))), some (.int l[i])], M, ?_, rfl, .inl ?_, some (.int l[i]), rfl, rfl⟩
    · simp [itSeq, oc, List.getElem?_eq_getElem hi]
    · have hc := chk_lt (l.take i)
      have h2 : fMul (.int (chk (l.take i) : Nat)) (.int 257) M = some (.int ((chk (l.take i) : Nat) * 257), M) := o_mul (.inl (by omega))
      rw [chk_step l i hi]
      exact set_ok (op_ok (cb_ok (one_ok (op_ok (op_ok (op_ok rfl rfl h2) rfl o_add) rfl o_add)) o_int1) rfl o_mod)
  obtain ⟨ρ', M', h1, v, rfl, rfl⟩ := for_run (di := diSeq (dVar 0)) (ρ := [some (oc l), some (.int 1), none]) (M := M) rfl _ l.length ⟨none, by rw [List.take_zero, chk_nil]; rfl, rfl⟩ step (fun ρ M' ⟨v, e1, e2⟩ => by simp [itSeq, oc])
  refine ⟨_, _, ?_, Fin.rt Cl.id⟩
  unfold bd__law_check
  rw [seq_nx (ρ1 := [some (oc l), some (.int 1), none]) (M1 := M) rfl, seq_nx h1, List.take_length]
  rfl
/-! ### _law_seven -/
def R__law_seven (ds : List D) (M : Sto) (d : D) (M1 : Sto) : Prop := ∃ n : Nat, n < 128 ^ 100 ∧ ds = [.int n] ∧ d = .obj M.length ∧ M1 = M ++ [.lst (nts (seven n))]
theorem u__law_seven : Fun R__law_seven := by
  rintro ds M d M1 d' M1' ⟨n, _, rfl, rfl, rfl⟩ ⟨n', _, e, rfl, rfl⟩
  injection e with e
  injection e with e
  rw [Int.ofNat.inj e]
  exact ⟨rfl, rfl⟩
noncomputable def F__law_seven : DF := fnR R__law_seven
theorem hF__law_seven : ∀ ds M r, F__law_seven ds M = some r → Clo M → D.cls M.length ds → ∃ d M1 fl M2, r = .ok d M1 ∧ bd__law_seven (startD N__law_seven.length ds) M = some (fl, M2) ∧ DL.Fin M fl M2 d M1 := fnR_hF fun ds M d M1 ⟨n, hn, e1, e2, e3⟩ c1 _ => by
  subst e1 e2 e3
  have hs := sz
  have h100 := seven_len 100 n hn (by decide)
  unfold bd__law_seven
  rw [seq_nx (ρ1 := [some (.int (n : Nat)), some (.obj M.length), some (.int (n : Nat)), none]) (M1 := M ++ [Ob.lst []]) (par_ok (cons_ok (lst_ok nil_ok (Nat.zero_le _)) (one_ok rfl)))]
  generalize hdb : (dSeq (dIfS (dTest (dOp fLt (dVar 2) (dC (.int 128)))) dBreak dNext) _) = db
  have key : ∀ (m i : Nat) (acc : List Nat) (v : Option D), i + (seven m).length ≤ 200 → acc.length + (seven m).length ≤ 200 → ∃ init last v', seven m = init ++ [last] ∧ dForI (itRng 0 200) (dgName 3) db i [some (.int (n : Nat)), some (.obj M.length), some (.int (m : Nat)), v] (M ++ [Ob.lst (nts acc)]) = some (.nx [some (.int (n : Nat)), some (.obj M.length), some (.int (last : Nat)), v'], M ++ [Ob.lst (nts (acc ++ init))]) := by
    intro m
    induction m using Nat.strongRecOn with
    | ind m ih =>
      intro i acc v hi hacc
      have hp := seven_pos m
      have hit : itRng 0 200 i (M ++ [Ob.lst (nts acc)]) = some (some (.int (0 + (i : Int)))) := by
        unfold itRng
        rw [if_pos (by omega)]
      have ht : ∀ w, dTest (dOp fLt (dVar 2) (dC (.int 128))) [some (.int (n : Nat)), some (.obj M.length), some (.int (m : Nat)), w] (M ++ [Ob.lst (nts acc)]) = some (.ok (decide (m < 128)) (M ++ [Ob.lst (nts acc)])) := fun w => by
        refine test_ok (op_ok rfl rfl ?_)
        have e : decide ((m : Int) < 128) = decide (m < 128) := decide_eq_decide.mpr (by omega)
        rw [o_lt, e]
      by_cases h : m < 128
      · refine ⟨[], m, some (.int (0 + (i : Int))), seven_lt h, ?_⟩
        have hb : db [some (.int (n : Nat)), some (.obj M.length), some (.int (m : Nat)), some (.int (0 + (i : Int)))] (M ++ [Ob.lst (nts acc)]) = some (.bk [some (.int (n : Nat)), some (.obj M.length), some (.int (m : Nat)), some (.int (0 + (i : Int)))], M ++ [Ob.lst (nts acc)]) := by
          rw [← hdb]
          exact seq_bk ((if_yes (by rw [ht, decide_eq_true h])).trans rfl)
        rw [dForI_eq, hit]
        dsimp only [dgName, List.set]
        rw [hb, List.append_nil]
      · rw [seven_ge h, List.length_cons] at hi hacc
        obtain ⟨init, last, v', e, hw⟩ := ih (m / 128) (by omega) (i + 1) (acc ++ [128 + m % 128]) (some (.int (0 + (i : Int)))) (by omega) (by rw [List.length_append, List.length_singleton]; omega)
        refine ⟨(128 + m % 128) :: init, last, v', by rw [seven_ge h, e]; rfl, ?_⟩
        have hb : db [some (.int (n : Nat)), some (.obj M.length), some (.int (m : Nat)), some (.int (0 + (i : Int)))] (M ++ [Ob.lst (nts acc)]) = some (.nx [some (.int (n : Nat)), some (.obj M.length), some (.int ((m / 128 : Nat) : Int)), some (.int (0 + (i : Int)))], M ++ [Ob.lst (nts (acc ++ [128 + m % 128]))]) := by
          rw [← hdb, seq_nx ((if_no (by rw [ht, decide_eq_false h])).trans rfl)]
          have a1 : dDrop (dBM "list" fAppend (dVar 1) (dCons (dOp fAdd (dC (.int 128)) (dOp fMod (dCB fInt1 (dCons (dVar 2) dNil)) (dC (.int 128)))) dNil)) [some (.int (n : Nat)), some (.obj M.length), some (.int (m : Nat)), some (.int (0 + (i : Int)))] (M ++ [Ob.lst (nts acc)]) = some (.nx [some (.int (n : Nat)), some (.obj M.length), some (.int (m : Nat)), some (.int (0 + (i : Int)))], M ++ [Ob.lst (nts (acc ++ [128 + m % 128]))]) := by
            refine drop_ok (bm_ok rfl (ty_list getA0) (one_ok (op_ok rfl (op_ok (cb_ok (one_ok rfl) o_int1) rfl (o_modN m 128 (by decide))) o_add)) (z := .non) ?_)
            rw [app_ok getA0 (by unfold nts; rw [List.length_map]; omega), setA0]
            unfold nts
            rw [List.map_append]
            rfl
          rw [seq_nx a1]
          exact set_ok (op_ok (cb_ok (one_ok rfl) o_int1) rfl (o_fdivN m 128 (by decide) ⟨by decide, by decide⟩))
        rw [dForI_eq, hit]
        dsimp only [dgName, List.set]
        rw [hb]
        dsimp only
        rw [hw, List.append_assoc]
        rfl
  obtain ⟨init, last, v', e, hw⟩ := key n 0 [] none (by omega) (by rw [List.length_nil]; omega)
  have hfor : dFor (diRng1 (dCons (dC (.int 200)) dNil)) (dgName 3) db [some (.int (n : Nat)), some (.obj M.length), some (.int (n : Nat)), none] (M ++ [Ob.lst []]) = some (.nx [some (.int (n : Nat)), some (.obj M.length), some (.int (last : Nat)), v'], M ++ [Ob.lst (nts init)]) := by
    unfold dFor
    rw [rng1_ok (k := 200) (one_ok rfl) (by decide) (by decide)]
    exact hw
  rw [seq_nx hfor]
  have hlen1 : (M ++ [Ob.lst (nts init)]).length = M.length + 1 := by rw [List.length_append]; rfl
  have hl : dLst (dCons (dVar 2) dNil) [some (.int (n : Nat)), some (.obj M.length), some (.int (last : Nat)), v'] (M ++ [Ob.lst (nts init)]) = some (.ok (.obj (M.length + 1)) (M ++ ([Ob.lst (nts init)] ++ [Ob.lst (nts [last])]))) := by
    rw [← appA, ← hlen1]
    exact lst_ok (one_ok rfl) (show 1 ≤ sizeLine by decide)
  have hsum : fAdd (.obj M.length) (.obj (M.length + 1)) (M ++ ([Ob.lst (nts init)] ++ [Ob.lst (nts [last])])) = some (.obj (M.length + 2), M ++ ([Ob.lst (nts init), Ob.lst (nts [last]), Ob.lst (nts (seven n))])) := by
    have g0 : (M ++ ([Ob.lst (nts init)] ++ [Ob.lst (nts [last])]))[M.length]? = some (.lst (nts init)) := getA0
    have g1 : (M ++ ([Ob.lst (nts init)] ++ [Ob.lst (nts [last])]))[M.length + 1]? = some (.lst (nts [last])) := by rw [getA 1]; rfl
    have hi := congrArg List.length e
    rw [List.length_append] at hi
    unfold fAdd
    simp only [g0, g1]
    rw [if_pos (by unfold nts; rw [List.length_map, List.length_map, List.length_singleton]; omega), lenA, appA]
    unfold nts
    rw [oc_app, ← e]
    rfl
  refine ⟨_, _, ret_ok (op_ok rfl hl hsum), Fin.rt (Cl.list (M1 := M) (g := [Ob.lst (nts init), Ob.lst (nts [last]), Ob.lst (nts (seven n))]) (j := 2) rfl c1 rfl (cls_ints (seven n)))⟩
end K90
set_option maxHeartbeats 4000000
namespace K90
open PySem PySem.Spec PyProof.Rows L2 DL
/-! ### _law_own_octets, by depth -/
mutual
def dep : D → Nat
  | .tup ds => 1 + deps ds
  | .non => 0
  | .bl b => 0
  | .int i => 0
  | .str x => 0
  | .ty n => 0
  | .scr n => 0
  | .obj n => 0
def deps : List D → Nat
  | [] => 0
  | d :: ds => max (dep d) (deps ds)
end
theorem dep_mem : ∀ {ds : List D} {d : D}, d ∈ ds → dep d ≤ deps ds
  | x :: ds, d, h => by
    rw [deps]
    rcases List.mem_cons.mp h with rfl | h
    · exact Nat.le_max_left _ _
    · exact Nat.le_trans (dep_mem h) (Nat.le_max_right _ _)
theorem okDs_mem : ∀ {ds : List D} {d : D}, okDs ds → d ∈ ds → okD d
  | x :: ds, d, h, hm => by
    rcases List.mem_cons.mp hm with rfl | hm
    · exact h.1
    · exact okDs_mem h.2 hm
def R__law_own_octets (k : Nat) (ds : List D) (M : Sto) (d : D) (M1 : Sto) : Prop := ∃ x, okD x ∧ dep x < k ∧ (octD x).length ≤ 4000000 ∧ ds = [x] ∧ d = .obj M.length ∧ M1 = M ++ [.lst (nts (octD x))]
theorem u__law_own_octets {k : Nat} : Fun (R__law_own_octets k) := by
  rintro ds M d M1 d' M1' ⟨x, _, _, _, rfl, rfl, rfl⟩ ⟨x', _, _, _, e, rfl, rfl⟩
  cases e
  exact ⟨rfl, rfl⟩
noncomputable def F__law_own_octets (k : Nat) : DF := fnR (R__law_own_octets k)
theorem add_lists {M g : Sto} {i j : Nat} {a b : List Nat} (h1 : (M ++ g)[i]? = some (.lst (nts a))) (h2 : (M ++ g)[j]? = some (.lst (nts b))) (hl : a.length + b.length ≤ 16000000) : fAdd (.obj i) (.obj j) (M ++ g) = some (.obj (M.length + g.length), M ++ (g ++ [.lst (nts (a ++ b))])) := by
  have hs := sz
  unfold fAdd
  simp only [h1, h2]
  rw [if_pos (by unfold nts; rw [List.length_map, List.length_map]; omega), lenA, appA]
  unfold nts
  rw [oc_app]
theorem oct_sum : ∀ (ds : List D) (d : D), d ∈ ds → (octD d).length ≤ (octDs ds).length
  | x :: ds, d, h => by
    rw [octDs, List.length_append]
    rcases List.mem_cons.mp h with rfl | h
    · omega
    · have := oct_sum ds d h
      omega
theorem octDs_take (ds : List D) (i : Nat) (hi : i < ds.length) : octDs (ds.take (i + 1)) = octDs (ds.take i) ++ octD ds[i] := by
  rw [List.take_add_one, List.getElem?_eq_getElem hi, Option.toList_some, octDs_app, octDs, octDs, List.append_nil]
theorem octDs_take_le (ds : List D) (i : Nat) : (octDs (ds.take i)).length ≤ (octDs ds).length := by
  have h : octDs ds = octDs (ds.take i) ++ octDs (ds.drop i) := by rw [← octDs_app, List.take_append_drop]
  rw [h, List.length_append]
  omega
theorem seven_F (n : Nat) (hn : n < 128 ^ 100) (M : Sto) : F__law_seven [.int (n : Int)] M = some (.ok (.obj M.length) (M ++ [.lst (nts (seven n))])) := fnR_eq u__law_seven ⟨n, hn, rfl, rfl, rfl⟩
theorem Fin.list {M g : Sto} {j : Nat} {ds : List D} (c : Clo M) (hj : g[j]? = some (.lst ds)) (cd : D.cls M.length ds) : DL.Fin M (.rt (.obj (M.length + j))) (M ++ g) (.obj M.length) (M ++ [.lst ds]) := Fin.rt (Cl.list rfl c hj cd)
theorem one_lst {v : Int} {ρ : DL.LE} {M g : Sto} : dLst (dCons (dC (.int v)) dNil) ρ (M ++ g) = some (.ok (.obj (M.length + g.length)) (M ++ (g ++ [.lst [.int v]]))) := by
  rw [← lenA, ← appA]
  exact lst_ok (one_ok rfl) (show 1 ≤ sizeLine by decide)
/-- [t] + _law_seven(e) -/
theorem pre_seven {t n : Nat} {e : DE} {ρ : DL.LE} {M : Sto} (he : e ρ (M ++ [.lst (nts [t])]) = some (.ok (.int (n : Int)) (M ++ [.lst (nts [t])]))) (hn : n < 128 ^ 100) :
    dOp fAdd (dLst (dCons (dC (.int (t : Int))) dNil)) (dCall F__law_seven (dCons e dNil)) ρ M = some (.ok (.obj (M.length + 2)) (M ++ [.lst (nts [t]), .lst (nts (seven n)), .lst (nts (t :: seven n))])) := by
  have h7 := seven_len 100 n hn (by decide)
  have h1 : dLst (dCons (dC (.int (t : Int))) dNil) ρ M = some (.ok (.obj M.length) (M ++ [.lst (nts [t])])) := lst_ok (one_ok rfl) (show 1 ≤ sizeLine by decide)
  have h2 : dCall F__law_seven (dCons e dNil) ρ (M ++ [.lst (nts [t])]) = some (.ok (.obj (M.length + 1)) (M ++ [.lst (nts [t]), .lst (nts (seven n))])) := by
    have := call_ok (one_ok he) (seven_F n hn (M ++ [.lst (nts [t])]))
    rw [lenA, appA] at this
    exact this
  refine op_ok h1 h2 ?_
  rw [add_lists (a := [t]) (b := seven n) getA0 (by rw [getA 1]; rfl) (by rw [List.length_singleton]; omega)]
  rfl
theorem hF__law_own_octets {k : Nat} : ∀ ds M r, F__law_own_octets (k + 1) ds M = some r → Clo M → D.cls M.length ds → ∃ d M1 fl M2, r = .ok d M1 ∧ bd__law_own_octets F__law_seven (F__law_own_octets k) (startD N__law_own_octets.length ds) M = some (fl, M2) ∧ DL.Fin M fl M2 d M1 := fnR_hF fun ds M d M1 ⟨x, hx, hdep, hz, e1, e2, e3⟩ c1 _ => by
  subst e1 e2 e3
  have hs := sz
  unfold bd__law_own_octets
  generalize hρ : startD N__law_own_octets.length [x] = ρ
  have v0 : ∀ M', dVar 0 ρ M' = some (.ok x M') := fun M' => by rw [← hρ]; rfl
  have isN : dTest (dOp fIsN (dVar 0) (dC .non)) ρ M = some (.ok (DL.isNon x) M) := test_ok (op_ok (v0 M) rfl rfl)
  have isi : ∀ {t T : String} {b : Bool}, tyOf x M = some t → isTy t T = some b → dTru (dCB fIsI (dCons (dVar 0) (dCons (dC (.ty T)) dNil))) ρ M = some (.ok b M) := fun {t T b} ht hT => tru_ok (cb_ok (cons_ok (v0 M) (one_ok rfl)) (show fIsI [x, .ty T] M = some (.bl b, M) from by simp only [fIsI, ht, hT])) rfl
  cases x with
  | non => exact ⟨_, _, seq_rt ((if_yes isN).trans (ret_ok (lst_ok (one_ok rfl) (show 1 ≤ sizeLine by decide)))), Fin.rt Cl.id⟩
  | bl b =>
    rw [seq_nx (ρ1 := ρ) (M1 := M) (if_no isN)]
    refine ⟨_, _, seq_rt ((if_yes (isi rfl rfl)).trans (ret_ok (lst_ok (ds := [.int ((if b then 2 else 1 : Nat) : Int)]) (one_ok ?_) (show 1 ≤ sizeLine by decide)))), Fin.rt Cl.id⟩
    cases b with
    | true => exact ife_t (tru_ok (v0 M) rfl) rfl
    | false => exact ife_f (tru_ok (v0 M) rfl) rfl
  | int i =>
    have hsm : i.natAbs < 128 ^ 99 := hx
    have hp : (128 : Nat) ^ 99 < 128 ^ 100 := by decide
    rw [seq_nx (ρ1 := ρ) (M1 := M) (if_no isN), seq_nx (ρ1 := ρ) (M1 := M) (if_no (isi rfl rfl))]
    have hge : dTest (dOp fGe (dVar 0) (dC (.int 0))) ρ M = some (.ok (decide (0 ≤ i)) M) := test_ok (op_ok (v0 M) rfl o_ge)
    have hoct : octD (.int i) = numOct i := rfl
    rw [hoct]
    unfold numOct
    by_cases hi : i < 0
    · rw [if_pos hi]
      have hpre := pre_seven (t := 4) (n := (-1 - i).toNat) (ρ := ρ) (M := M) (e := dOp fSub (dUn fNeg (dC (.int 1))) (dVar 0)) (by
        rw [Int.toNat_of_nonneg (by omega)]
        exact op_ok (un_ok rfl rfl) (v0 _) rfl) (by omega)
      exact ⟨_, _, seq_rt ((if_yes (isi rfl rfl)).trans (ret_ok (ife_f (by rw [hge, decide_eq_false (by omega)]) hpre))), Fin.list c1 rfl (cls_ints _)⟩
    · rw [if_neg hi]
      have hpre := pre_seven (t := 3) (n := i.toNat) (ρ := ρ) (M := M) (e := dVar 0) (by
        rw [Int.toNat_of_nonneg (by omega)]
        exact v0 _) (by omega)
      exact ⟨_, _, seq_rt ((if_yes (isi rfl rfl)).trans (ret_ok (ife_t (by rw [hge, decide_eq_true (by omega)]) hpre))), Fin.list c1 rfl (cls_ints _)⟩
  | str y =>
    obtain ⟨hl, hc⟩ := hx
    rw [seq_nx (ρ1 := ρ) (M1 := M) (if_no isN), seq_nx (ρ1 := ρ) (M1 := M) (if_no (isi rfl rfl)), seq_nx (ρ1 := ρ) (M1 := M) (if_no (isi rfl rfl))]
    have hlenS : ∀ M', fLen [.str y] M' = some (.int (y.length : Nat), M') := fun M' => by
      have e : lenD (.str y) M' = some y.length := by
        simp only [lenD]
        rw [if_pos (by omega)]
      simp only [fLen, e]
    have h7 := seven_short y.length (by omega)
    have hpre := pre_seven (t := 5) (n := y.length) (ρ := ρ) (M := M) (e := dCB fLen (dCons (dVar 0) dNil)) (cb_ok (one_ok (v0 _)) (hlenS _)) (Nat.lt_of_le_of_lt hl (by decide))
    generalize hM3 : M ++ [Ob.lst (nts [5]), .lst (nts (seven y.length)), .lst (nts (5 :: seven y.length))] = M3 at hpre
    have h3 := lc_map (vs := [3]) (di := diStr (dVar 0)) (dg := cgName 3) (dt := dYes) (de := dBM "str" fSIndex (dC (.str "abcdefghijklmnopqrstuvwxyz")) (dCons (dVar 3) dNil)) (ρ := ρ) (M := M3) (it := itStr y) (xs := y.cps.toList.map fun c => D.str ⟨#[c]⟩)
        (f := fun d => match d with
          | .str s => (match s.cps.toList with
            | [c] => .int ((c - 97 : Nat) : Int)
            | _ => .non)
          | _ => .non) (by simp only [diStr, bnd, v0]) (fun i acc => by simp [itStr, Array.getElem?_toList]; cases y.cps[i]? <;> rfl) (by simp; have : y.cps.size = y.length := rfl; omega) (fun d hd acc => by
            obtain ⟨c, hc', rfl⟩ := List.mem_map.mp hd
            obtain ⟨k, hk, rfl⟩ := let_mem (hc c hc')
            refine ⟨_, rfl, rfl, bm_ok (x := .str LET) rfl rfl (one_ok (d := .str ⟨#[k + 97]⟩) (by rw [← hρ]; rfl)) (z := .int ((k : Nat) : Int)) ?_⟩
            simp only [fSIndex, index_let k hk])
    rw [List.map_map] at h3
    have h4 : (y.cps.toList.map ((fun d => match d with
          | D.str s => (match s.cps.toList with
            | [c] => D.int ((c - 97 : Nat) : Int)
            | _ => D.non)
          | _ => D.non) ∘ fun c => D.str ⟨#[c]⟩)) = nts (idx y) := by
      unfold idx nts
      rw [List.map_map]
      rfl
    rw [h4] at h3
    have e3 : M3.length = M.length + 3 := by rw [← hM3, lenA]; rfl
    rw [e3, ← hM3, appA, hM3] at h3
    have hsum := add_lists (M := M) (g := [Ob.lst (nts [5]), .lst (nts (seven y.length)), .lst (nts (5 :: seven y.length)), .lst (nts (idx y))]) (i := M.length + 2) (j := M.length + 3) (a := 5 :: seven y.length) (b := idx y) (by rw [getA 2]; rfl) (by rw [getA 3]; rfl) (by rw [List.length_cons, idx_len]; omega)
    have hoct : octD (.str y) = (5 :: seven y.length) ++ idx y := rfl
    rw [hoct]
    exact ⟨_, _, seq_rt ((if_yes (isi rfl rfl)).trans (ret_ok (op_ok hpre h3 hsum))), Fin.list (j := 4) c1 rfl (cls_ints _)⟩
  | tup es =>
    have hlen : es.length ≤ 16000000 := hx.1
    rw [seq_nx (ρ1 := ρ) (M1 := M) (if_no isN), seq_nx (ρ1 := ρ) (M1 := M) (if_no (isi rfl rfl)), seq_nx (ρ1 := ρ) (M1 := M) (if_no (isi rfl rfl)), seq_nx (ρ1 := ρ) (M1 := M) (if_no (isi rfl rfl))]
    have h7 := seven_short es.length (by omega)
    have hoct : octD (.tup es) = (6 :: seven es.length) ++ octDs es := rfl
    rw [hoct, List.length_append, List.length_cons] at hz
    have hpre := pre_seven (t := 6) (n := es.length) (ρ := ρ) (M := M) (e := dCB fLen (dCons (dVar 0) dNil)) (cb_ok (one_ok (v0 _)) rfl) (Nat.lt_of_le_of_lt hlen (by decide))
    have hset : dSet 1 (dOp fAdd (dLst (dCons (dC (.int 6)) dNil)) (dCall F__law_seven (dCons (dCB fLen (dCons (dVar 0) dNil)) dNil))) ρ M = some (.nx [some (.tup es), some (.obj (M.length + 2)), none, none], M ++ [.lst (nts [6]), .lst (nts (seven es.length)), .lst (nts (6 :: seven es.length))]) := by
      rw [← hρ] at hpre ⊢
      exact set_ok hpre
    rw [seq_nx hset]
    have step : ∀ i ρ M', i < es.length → (∃ (v : Option D) (g : Sto), ρ = [some (.tup es), some (.obj (M.length + 2)), v, none] ∧ M ++ (.lst (nts [6]) :: .lst (nts (seven es.length)) :: .lst (nts (6 :: seven es.length ++ octDs (es.take i))) :: g) = M') → ∃ d ρ1 M1 ρ2 M2, itSeq (.tup es) i M' = some (some d) ∧ dgName 2 d ρ M' = some (ρ1, M1) ∧
        (dDrop (dBM "list" fExt (dVar 1) (dCons (dCall (F__law_own_octets k) (dCons (dVar 2) dNil)) dNil)) ρ1 M1 = some (.nx ρ2, M2) ∨ dDrop (dBM "list" fExt (dVar 1) (dCons (dCall (F__law_own_octets k) (dCons (dVar 2) dNil)) dNil)) ρ1 M1 = some (.ct ρ2, M2)) ∧
        (∃ (v : Option D) (g : Sto), ρ2 = [some (.tup es), some (.obj (M.length + 2)), v, none] ∧ M ++ (.lst (nts [6]) :: .lst (nts (seven es.length)) :: .lst (nts (6 :: seven es.length ++ octDs (es.take (i + 1)))) :: g) = M2) := by
      rintro i ρ M' hi ⟨v, g, rfl, rfl⟩
      have hm := List.getElem_mem hi
      have hle := octDs_take_le es (i + 1)
      have hs1 := oct_sum es es[i] hm
      rw [octDs_take es i hi] at hle ⊢
      rw [List.length_append] at hle
      have hd1 := dep_mem hm
      rw [dep] at hdep
      have hcall := fnR_eq (ds := [es[i]]) (M := M ++ (.lst (nts [6]) :: .lst (nts (seven es.length)) :: .lst (nts (6 :: seven es.length ++ octDs (es.take i))) :: g)) (u__law_own_octets (k := k)) ⟨es[i], okDs_mem hx.2 hm, by omega, by omega, rfl, rfl, rfl⟩
      refine ⟨es[i], _, _, [some (.tup es), some (.obj (M.length + 2)), some es[i], none], M ++ (.lst (nts [6]) :: .lst (nts (seven es.length)) :: .lst (nts (6 :: seven es.length ++ (octDs (es.take i) ++ octD es[i]))) :: (g ++ [.lst (nts (octD es[i]))])), ?_, rfl, .inl ?_, _, _, rfl, rfl⟩
      · show some es[i]? = _
        rw [List.getElem?_eq_getElem hi]
      · refine drop_ok (bm_ok rfl (ty_list (L := nts (6 :: seven es.length ++ octDs (es.take i))) (by rw [getA 2]; rfl)) (one_ok (call_ok (one_ok rfl) hcall)) (z := .non) ?_)
        rw [ext_ok (L := nts (6 :: seven es.length ++ octDs (es.take i))) (es := nts (octD es[i])) (by rw [appA, getA 2]; rfl) (by simp only [itemsD, getA0, List.getElem?_cons_zero]) (by unfold nts; rw [List.length_map, List.length_map, List.length_append, List.length_cons]; omega), appA, setA 2]
        unfold nts
        rw [oc_app, List.append_assoc]
        rfl
    obtain ⟨ρ', M', h1, v, g, rfl, h2⟩ := for_run (di := diSeq (dVar 0)) (ρ := [some (.tup es), some (.obj (M.length + 2)), none, none]) (M := M ++ [.lst (nts [6]), .lst (nts (seven es.length)), .lst (nts (6 :: seven es.length))]) (it := itSeq (.tup es)) rfl _ es.length ⟨none, [], rfl, by rw [List.take_zero, octDs, List.append_nil]⟩ step (fun ρ M' _ => by show some es[es.length]? = _; rw [List.getElem?_eq_none (Nat.le_refl _)])
    subst h2
    rw [List.take_length] at h1
    rw [seq_nx h1, hoct]
    exact ⟨_, _, ret_ok rfl, Fin.list (j := 2) c1 rfl (cls_ints _)⟩
  | ty n => exact hx.elim
  | scr n => exact hx.elim
  | obj n => exact hx.elim
end K90
set_option maxHeartbeats 4000000
namespace K90
open PySem PySem.Spec PyProof.Rows L2 DL
/-! ### _law_own_sealed, of a list -/
def R__law_own_sealed (ds : List D) (M : Sto) (d : D) (M1 : Sto) : Prop := ∃ (n : Nat) (l : List Nat), M[n]? = some (.lst (nts l)) ∧ Byt l ∧ l.length ≤ 15000000 ∧ ds = [.obj n] ∧ d = .obj M.length ∧ M1 = M ++ [.lst (nts (sealedL l))]
theorem nts_inj {l m : List Nat} (h : nts l = nts m) : l = m := by
  have : oc l = oc m := by
    show D.tup (nts l) = D.tup (nts m)
    rw [h]
  exact oc_inj this
theorem u__law_own_sealed : Fun R__law_own_sealed := by
  rintro ds M d M1 d' M1' ⟨n, l, h, _, _, rfl, rfl, rfl⟩ ⟨n', l', h', _, _, e, rfl, rfl⟩
  injection e with e _
  injection e with e
  subst e
  rw [h] at h'
  injection h' with h'
  injection h' with h'
  rw [nts_inj h']
  exact ⟨rfl, rfl⟩
noncomputable def F__law_own_sealed : DF := fnR R__law_own_sealed
theorem hF__law_own_sealed : ∀ ds M r, F__law_own_sealed ds M = some r → Clo M → D.cls M.length ds → ∃ d M1 fl M2, r = .ok d M1 ∧ bd__law_own_sealed (startD N__law_own_sealed.length ds) M = some (fl, M2) ∧ DL.Fin M fl M2 d M1 := fnR_hF fun ds M d M1 ⟨n, l, hn, hb, hl, e1, e2, e3⟩ c1 _ => by
  subst e1 e2 e3
  have hs := sz
  have hnl := (List.getElem?_eq_some_iff.mp hn).1
  unfold bd__law_own_sealed
  rw [seq_nx (ρ1 := [some (.obj n), some (.int 1), some (.obj M.length), none, none]) (M1 := M ++ [Ob.lst []]) (par_ok (cons_ok rfl (one_ok (lst_ok nil_ok (Nat.zero_le _)))))]
  have hn1 : ∀ g : Sto, (M ++ g)[n]? = some (.lst (nts l)) := fun g => by rw [List.getElem?_append_left hnl]; exact hn
  have step : ∀ i ρ M', i < l.length → (∃ v, ρ = [some (.obj n), some (.int (chk (l.take i))), some (.obj M.length), v, none] ∧ M ++ [Ob.lst []] = M') → ∃ d ρ1 M1 ρ2 M2, itSeq (.obj n) i M' = some (some d) ∧ dgName 3 d ρ M' = some (ρ1, M1) ∧
      ((dSet 1 (dOp fMod (dCB fInt1 (dCons (dOp fAdd (dOp fAdd (dOp fMul (dVar 1) (dC (.int 257))) (dVar 3)) (dC (.int 1))) dNil)) (dC (.int 4294967291)))) ρ1 M1 = some (.nx ρ2, M2) ∨ (dSet 1 (dOp fMod (dCB fInt1 (dCons (dOp fAdd (dOp fAdd (dOp fMul (dVar 1) (dC (.int 257))) (dVar 3)) (dC (.int 1))) dNil)) (dC (.int 4294967291)))) ρ1 M1 = some (.ct ρ2, M2)) ∧ (∃ v, ρ2 = [some (.obj n), some (.int (chk (l.take (i + 1)))), some (.obj M.length), v, none] ∧ M ++ [Ob.lst []] = M2) := by
    rintro i ρ M' hi ⟨v, rfl, rfl⟩
    refine ⟨.int l[i], _, _, [some (.obj n), some (.int (chk (l.take (i + 1)))), some (.obj M.length), some (.int l[i]), none], M ++ [Ob.lst []], ?_, rfl, .inl ?_, some (.int l[i]), rfl, rfl⟩
    · simp only [itSeq, hn1]
      unfold nts
      rw [List.getElem?_map, List.getElem?_eq_getElem hi]
      rfl
    · have hc := chk_lt (l.take i)
      have h2 : fMul (.int (chk (l.take i) : Nat)) (.int 257) (M ++ [Ob.lst []]) = some (.int ((chk (l.take i) : Nat) * 257), M ++ [Ob.lst []]) := o_mul (.inl (by omega))
      rw [chk_step l i hi]
      exact set_ok (op_ok (cb_ok (one_ok (op_ok (op_ok (op_ok rfl rfl h2) rfl o_add) rfl o_add)) o_int1) rfl o_mod)
  obtain ⟨ρ', M', h1, v, rfl, h2⟩ := for_run (di := diSeq (dVar 0)) (ρ := [some (.obj n), some (.int 1), some (.obj M.length), none, none]) (M := M ++ [Ob.lst []]) (it := itSeq (.obj n)) (seq_ok (it := fun _ _ => none) rfl (by simp only [isSeqD, hn1])) _ l.length ⟨none, by rw [List.take_zero, chk_nil]; rfl, rfl⟩ step (fun ρ M' ⟨v, e1, e2⟩ => by
    subst e2
    simp only [itSeq, hn1]
    unfold nts
    rw [List.getElem?_map, List.getElem?_eq_none (Nat.le_refl _)]
    rfl)
  subst h2
  rw [List.take_length] at h1
  rw [seq_nx h1]
  have hc := chk_lt l
  generalize hcc : chk l = c at hc
  have step2 : ∀ i ρ M', i < 4 → (∃ (w : Option D) (g : Sto) (mo : Nat), ρ = [some (.obj n), some (.int ((c / 256 ^ i : Nat) : Int)), some (.obj mo), v, w] ∧ M ++ g = M' ∧ (M ++ g)[mo]? = some (.lst (nts ((chk4 c).drop (4 - i))))) → ∃ d ρ1 M1 ρ2 M2, itRng 0 4 i M' = some (some d) ∧ dgName 4 d ρ M' = some (ρ1, M1) ∧
      ((dSeq (dSet 2 (dOp fAdd (dLst (dCons (dOp fMod (dCB fInt1 (dCons (dVar 1) dNil)) (dC (.int 256))) dNil)) (dVar 2))) (dSet 1 (dOp fFdiv (dCB fInt1 (dCons (dVar 1) dNil)) (dC (.int 256))))) ρ1 M1 = some (.nx ρ2, M2) ∨ (dSeq (dSet 2 (dOp fAdd (dLst (dCons (dOp fMod (dCB fInt1 (dCons (dVar 1) dNil)) (dC (.int 256))) dNil)) (dVar 2))) (dSet 1 (dOp fFdiv (dCB fInt1 (dCons (dVar 1) dNil)) (dC (.int 256))))) ρ1 M1 = some (.ct ρ2, M2)) ∧
      (∃ (w : Option D) (g : Sto) (mo : Nat), ρ2 = [some (.obj n), some (.int ((c / 256 ^ (i + 1) : Nat) : Int)), some (.obj mo), v, w] ∧ M ++ g = M2 ∧ (M ++ g)[mo]? = some (.lst (nts ((chk4 c).drop (4 - (i + 1)))))) := by
    rintro i ρ M' hi ⟨w, g, mo, rfl, rfl, hmo⟩
    have hmo2 : ∀ h : Sto, (M ++ g ++ h)[mo]? = some (.lst (nts ((chk4 c).drop (4 - i)))) := fun h => by
      rw [List.getElem?_append_left (List.getElem?_eq_some_iff.mp hmo).1]
      exact hmo
    have hdig : (chk4 c).drop (4 - (i + 1)) = (c / 256 ^ i % 256) :: (chk4 c).drop (4 - i) := by
      have h4 : i = 0 ∨ i = 1 ∨ i = 2 ∨ i = 3 := by omega
      rcases h4 with rfl | rfl | rfl | rfl <;> simp [chk4] <;> omega
    have hlst : dLst (dCons (dOp fMod (dCB fInt1 (dCons (dVar 1) dNil)) (dC (.int 256))) dNil) [some (.obj n), some (.int ((c / 256 ^ i : Nat) : Int)), some (.obj mo), v, some (.int (0 + (i : Int)))] (M ++ g) = some (.ok (.obj (M ++ g).length) (M ++ g ++ [Ob.lst (nts [c / 256 ^ i % 256])])) :=
      lst_ok (one_ok (op_ok (cb_ok (one_ok rfl) o_int1) rfl (o_modN _ 256 (by decide)))) (show 1 ≤ sizeLine by decide)
    have hadd := add_lists (M := M ++ g) (g := [Ob.lst (nts [c / 256 ^ i % 256])]) (i := (M ++ g).length) (j := mo) (a := [c / 256 ^ i % 256]) (b := (chk4 c).drop (4 - i)) getA0 (hmo2 _) (by rw [List.length_singleton, List.length_drop]; show 1 + (4 - (4 - i)) ≤ _; omega)
    refine ⟨.int (0 + (i : Int)), _, _, [some (.obj n), some (.int ((c / 256 ^ (i + 1) : Nat) : Int)), some (.obj ((M ++ g).length + 1)), v, some (.int (0 + (i : Int)))], M ++ g ++ ([Ob.lst (nts [c / 256 ^ i % 256])] ++ [.lst (nts ([c / 256 ^ i % 256] ++ (chk4 c).drop (4 - i)))]), ?_, rfl, .inl ?_, _, g ++ ([Ob.lst (nts [c / 256 ^ i % 256])] ++ [.lst (nts ([c / 256 ^ i % 256] ++ (chk4 c).drop (4 - i)))]), _, rfl, by rw [appA], ?_⟩
    · unfold itRng
      rw [if_pos hi]
    · rw [seq_nx (ρ1 := [some (.obj n), some (.int ((c / 256 ^ i : Nat) : Int)), some (.obj ((M ++ g).length + 1)), v, some (.int (0 + (i : Int)))]) (set_ok (op_ok hlst rfl hadd))]
      have hdv := o_fdivN (c / 256 ^ i) 256 (by decide) ⟨by decide, by decide⟩ (M := M ++ g ++ ([Ob.lst (nts [c / 256 ^ i % 256])] ++ [.lst (nts ([c / 256 ^ i % 256] ++ (chk4 c).drop (4 - i)))]))
      rw [Nat.div_div_eq_div_mul, ← Nat.pow_succ] at hdv
      exact set_ok (op_ok (cb_ok (one_ok rfl) o_int1) rfl hdv)
    · rw [← appA, getA 1, hdig]
      rfl
  obtain ⟨ρ', M', h2, w, g, mo, rfl, rfl, hmo⟩ := for_run (di := diRng1 (dCons (dC (.int 4)) dNil)) (ρ := [some (.obj n), some (.int ((c : Nat) : Int)), some (.obj M.length), v, none]) (M := M ++ [Ob.lst []]) (it := itRng 0 4) (rng1_ok (k := 4) (one_ok rfl) (by decide) (by decide)) _ 4 ⟨none, [.lst []], M.length, by rw [Nat.pow_zero, Nat.div_one], rfl, getA0⟩ step2 (fun ρ M' _ => by
    unfold itRng
    rw [if_neg (Nat.lt_irrefl _)])
  rw [seq_nx h2]
  rw [Nat.sub_self, List.drop_zero] at hmo
  have hlist : dCB fList (dCons (dVar 0) dNil) [some (.obj n), some (.int ((c / 256 ^ 4 : Nat) : Int)), some (.obj mo), v, w] (M ++ g) = some (.ok (.obj (M ++ g).length) (M ++ g ++ [Ob.lst (nts l)])) := cb_ok (one_ok rfl) (by simp only [fList, itemsD, hn1])
  have hadd := add_lists (M := M ++ g) (g := [Ob.lst (nts l)]) (i := (M ++ g).length) (j := mo) (a := l) (b := chk4 c) getA0 (by rw [List.getElem?_append_left (List.getElem?_eq_some_iff.mp hmo).1]; exact hmo) (by show l.length + 4 ≤ _; omega)
  have hsl : sealedL l = l ++ chk4 c := by unfold sealedL; rw [hcc]
  rw [hsl]
  have hj : (M ++ g).length + 1 = M.length + (g.length + 1) := by rw [lenA]; omega
  refine ⟨_, _, ret_ok (op_ok hlist rfl hadd), ?_⟩
  rw [appA]
  show DL.Fin M (.rt (.obj ((M ++ g).length + 1))) (M ++ (g ++ ([Ob.lst (nts l)] ++ [.lst (nts (l ++ chk4 c))]))) _ _
  rw [hj]
  exact Fin.list c1 (by rw [List.getElem?_append_right (by omega)]; simp) (cls_ints _)
end K90
set_option maxHeartbeats 4000000
namespace K90
open PySem PySem.Spec PyProof.Rows L2 DL
/-! ### _law_own_packed -/
def R__law_own_packed (k : Nat) (ds : List D) (M : Sto) (d : D) (M1 : Sto) : Prop := ∃ x, okD x ∧ dep x < k ∧ (octD x).length ≤ 4000000 ∧ ds = [x] ∧ d = oc (packedL x) ∧ M = M1
theorem u__law_own_packed {k : Nat} : Fun (R__law_own_packed k) := by
  rintro ds M d M1 d' M1' ⟨x, _, _, _, rfl, rfl, rfl⟩ ⟨x', _, _, _, e, rfl, rfl⟩
  cases e
  exact ⟨rfl, rfl⟩
noncomputable def F__law_own_packed (k : Nat) : DF := fnR (R__law_own_packed k)
theorem sealed_F {M : Sto} {n : Nat} {l : List Nat} (h : M[n]? = some (.lst (nts l))) (hb : Byt l) (hl : l.length ≤ 15000000) : F__law_own_sealed [.obj n] M = some (.ok (.obj M.length) (M ++ [.lst (nts (sealedL l))])) := fnR_eq u__law_own_sealed ⟨n, l, h, hb, hl, rfl, rfl, rfl⟩
theorem tup_list {M : Sto} {l : List Nat} : fTuple [.obj M.length] (M ++ [.lst (nts l)]) = some (oc l, M ++ [.lst (nts l)]) := by
  simp only [fTuple, itemsD, getA0, List.getElem?_cons_zero]
  rfl
theorem hF__law_own_packed {k : Nat} : ∀ ds M r, F__law_own_packed k ds M = some r → Clo M → D.cls M.length ds → ∃ d M1 fl M2, r = .ok d M1 ∧ bd__law_own_packed (F__law_own_octets k) F__law_own_sealed (startD N__law_own_packed.length ds) M = some (fl, M2) ∧ DL.Fin M fl M2 d M1 := fnR_hF fun ds M d M1 ⟨x, hx, hd, hz, e1, e2, e3⟩ c1 _ => by
  subst e1 e2 e3
  unfold bd__law_own_packed
  have h1 : dLst (dCons (dC (.int 78)) dNil) (startD N__law_own_packed.length [x]) M = some (.ok (.obj M.length) (M ++ [Ob.lst (nts [78])])) := lst_ok (one_ok rfl) (show 1 ≤ sizeLine by decide)
  have h2 : dCall (F__law_own_octets k) (dCons (dVar 0) dNil) (startD N__law_own_packed.length [x]) (M ++ [Ob.lst (nts [78])]) = some (.ok (.obj (M.length + 1)) (M ++ ([Ob.lst (nts [78])] ++ [Ob.lst (nts (octD x))]))) := by
    have := call_ok (ρ := startD N__law_own_packed.length [x]) (one_ok (de := dVar 0) rfl) (fnR_eq (ds := [x]) (M := M ++ [Ob.lst (nts [78])]) (u__law_own_octets (k := k)) ⟨x, hx, hd, hz, rfl, rfl, rfl⟩)
    rw [lenA, appA] at this
    exact this
  have h3 := add_lists (M := M) (g := [Ob.lst (nts [78])] ++ [Ob.lst (nts (octD x))]) (i := M.length) (j := M.length + 1) (a := [78]) (b := octD x) getA0 (by rw [getA 1]; rfl) (by rw [List.length_singleton]; omega)
  have h4 := sealed_F (M := M ++ (([Ob.lst (nts [78])] ++ [Ob.lst (nts (octD x))]) ++ [Ob.lst (nts ([78] ++ octD x))])) (n := M.length + 2) (l := 78 :: octD x) (by rw [getA 2]; rfl) (byt_cons (by decide) (oct_byt x hx)) (by rw [List.length_cons]; omega)
  refine ⟨_, _, ret_ok (cb_ok (one_ok (call_ok (one_ok (op_ok h1 h2 h3)) h4)) tup_list), ?_⟩
  rw [appA]
  exact Fin.cut c1 (oc_cl (packedL x))
/-! ### _law_own_record -/
def R__law_own_record (k : Nat) (ds : List D) (M : Sto) (d : D) (M1 : Sto) : Prop := ∃ x, okD x ∧ dep x < k ∧ (octD x).length ≤ 1000000 ∧ ds = [x] ∧ d = oc (recL x) ∧ M = M1
theorem u__law_own_record {k : Nat} : Fun (R__law_own_record k) := by
  rintro ds M d M1 d' M1' ⟨x, _, _, _, rfl, rfl, rfl⟩ ⟨x', _, _, _, e, rfl, rfl⟩
  cases e
  exact ⟨rfl, rfl⟩
noncomputable def F__law_own_record (k : Nat) : DF := fnR (R__law_own_record k)
theorem hF__law_own_record {k : Nat} : ∀ ds M r, F__law_own_record k ds M = some r → Clo M → D.cls M.length ds → ∃ d M1 fl M2, r = .ok d M1 ∧ bd__law_own_record (F__law_own_packed k) F__law_seven F__law_own_sealed (startD N__law_own_record.length ds) M = some (fl, M2) ∧ DL.Fin M fl M2 d M1 := fnR_hF fun ds M d M1 ⟨x, hx, hd, hz, e1, e2, e3⟩ c1 _ => by
  subst e1 e2 e3
  have hs := sz
  have hlen := packed_len x
  have h7 := seven_short (packedL x).length (by omega)
  unfold bd__law_own_record
  have p1 : dCB fList (dCons (dCall (F__law_own_packed k) (dCons (dVar 0) dNil)) dNil) (startD N__law_own_record.length [x]) M = some (.ok (.obj M.length) (M ++ [Ob.lst (nts (packedL x))])) :=
    cb_ok (one_ok (call_ok (one_ok rfl) (fnR_eq u__law_own_packed ⟨x, hx, hd, by omega, rfl, rfl, rfl⟩))) rfl
  rw [seq_nx (ρ1 := [some x, some (.obj M.length)]) (set_ok p1)]
  have hfl : ∀ g, fLen [.obj M.length] (M ++ ([Ob.lst (nts (packedL x))] ++ g)) = some (.int ((packedL x).length : Nat), M ++ ([Ob.lst (nts (packedL x))] ++ g)) := fun g => by
    have e : lenD (.obj M.length) (M ++ ([Ob.lst (nts (packedL x))] ++ g)) = some (packedL x).length := by
      simp only [lenD, getA0, List.singleton_append, List.getElem?_cons_zero]
      unfold nts
      rw [List.length_map]
    simp only [fLen, e]
  have hpre := pre_seven (t := 76) (n := (packedL x).length) (ρ := [some x, some (.obj M.length)]) (M := M ++ [Ob.lst (nts (packedL x))]) (e := dCB fLen (dCons (dVar 1) dNil)) (cb_ok (one_ok rfl) (by rw [appA]; exact hfl _)) (Nat.lt_of_le_of_lt (show (packedL x).length ≤ 16777216 by omega) (by decide))
  rw [lenA, appA] at hpre
  have h3 := add_lists (M := M) (g := [Ob.lst (nts (packedL x))] ++ [Ob.lst (nts [76]), .lst (nts (seven (packedL x).length)), .lst (nts (76 :: seven (packedL x).length))]) (i := M.length + 3) (j := M.length) (a := 76 :: seven (packedL x).length) (b := packedL x) (by rw [getA 3]; rfl) getA0 (by rw [List.length_cons]; omega)
  have h4 := sealed_F (M := M ++ (([Ob.lst (nts (packedL x))] ++ [Ob.lst (nts [76]), .lst (nts (seven (packedL x).length)), .lst (nts (76 :: seven (packedL x).length))]) ++ [Ob.lst (nts ((76 :: seven (packedL x).length) ++ packedL x))])) (n := M.length + 4) (l := 76 :: (seven (packedL x).length ++ packedL x)) (by rw [getA 4]; rfl) (byt_cons (by decide) (byt_app (byt_small _ (by omega)) (packed_byt hx))) (by rw [List.length_cons, List.length_append]; omega)
  refine ⟨_, _, ret_ok (cb_ok (one_ok (call_ok (one_ok (op_ok hpre rfl h3)) h4)) tup_list), ?_⟩
  rw [appA]
  exact Fin.cut c1 (oc_cl (recL x))
/-! ### _law_own_journal, of a tuple or a list of deeds -/
def R__law_own_journal (k : Nat) (ds : List D) (M : Sto) (d : D) (M1 : Sto) : Prop := ∃ (n : Nat) (xs : List D), M[n]? = some (.lst xs) ∧ (∀ x ∈ xs, okD x ∧ dep x < k ∧ (octD x).length ≤ 1000000) ∧ (jouL xs).length ≤ 10000000 ∧ ds = [.obj n] ∧ d = oc (jouL xs) ∧ M = M1
theorem u__law_own_journal {k : Nat} : Fun (R__law_own_journal k) := by
  rintro ds M d M1 d' M1' ⟨n, xs, h, _, _, rfl, rfl, rfl⟩ ⟨n', xs', h', _, _, e, rfl, rfl⟩
  injection e with e _
  injection e with e
  subst e
  rw [h] at h'
  injection h' with h'
  injection h' with h'
  rw [h']
  exact ⟨rfl, rfl⟩
noncomputable def F__law_own_journal (k : Nat) : DF := fnR (R__law_own_journal k)
theorem hF__law_own_journal {k : Nat} : ∀ ds M r, F__law_own_journal k ds M = some r → Clo M → D.cls M.length ds → ∃ d M1 fl M2, r = .ok d M1 ∧ bd__law_own_journal (F__law_own_record k) (startD N__law_own_journal.length ds) M = some (fl, M2) ∧ DL.Fin M fl M2 d M1 := fnR_hF fun ds M d M1 ⟨n, xs, hn, hx, hz, e1, e2, e3⟩ c1 _ => by
  subst e1 e2 e3
  have hs := sz
  have hnl := (List.getElem?_eq_some_iff.mp hn).1
  have hn1 : ∀ g : Sto, (M ++ g)[n]? = some (.lst xs) := fun g => by rw [List.getElem?_append_left hnl]; exact hn
  unfold bd__law_own_journal
  rw [seq_nx (ρ1 := [some (.obj n), some (.obj M.length), none]) (M1 := M ++ [Ob.lst []]) (set_ok (lst_ok nil_ok (Nat.zero_le _)))]
  have step : ∀ i ρ M', i < xs.length → (∃ (v : Option D) (g : Sto), ρ = [some (.obj n), some (.obj M.length), v] ∧ M ++ (Ob.lst (nts (jouL (xs.take i))) :: g) = M') → ∃ d ρ1 M1 ρ2 M2, itSeq (.obj n) i M' = some (some d) ∧ dgName 2 d ρ M' = some (ρ1, M1) ∧
      (dDrop (dBM "list" fExt (dVar 1) (dCons (dCB fList (dCons (dCall (F__law_own_record k) (dCons (dVar 2) dNil)) dNil)) dNil)) ρ1 M1 = some (.nx ρ2, M2) ∨ dDrop (dBM "list" fExt (dVar 1) (dCons (dCB fList (dCons (dCall (F__law_own_record k) (dCons (dVar 2) dNil)) dNil)) dNil)) ρ1 M1 = some (.ct ρ2, M2)) ∧ (∃ (v : Option D) (g : Sto), ρ2 = [some (.obj n), some (.obj M.length), v] ∧ M ++ (Ob.lst (nts (jouL (xs.take (i + 1)))) :: g) = M2) := by
    rintro i ρ M' hi ⟨v, g, rfl, rfl⟩
    have hxi := hx xs[i] (List.getElem_mem hi)
    have hle := jou_le xs (i + 1)
    rw [jou_take xs i hi] at hle ⊢
    refine ⟨xs[i], _, _, [some (.obj n), some (.obj M.length), some xs[i]], M ++ (Ob.lst (nts (jouL (xs.take i) ++ recL xs[i])) :: (g ++ [.lst (nts (recL xs[i]))])), ?_, rfl, .inl ?_, _, _, rfl, rfl⟩
    · simp only [itSeq, hn1]
      rw [List.getElem?_eq_getElem hi]
    · have hlist : dCB fList (dCons (dCall (F__law_own_record k) (dCons (dVar 2) dNil)) dNil) [some (.obj n), some (.obj M.length), some xs[i]] (M ++ (Ob.lst (nts (jouL (xs.take i))) :: g)) = some (.ok (.obj (M ++ (Ob.lst (nts (jouL (xs.take i))) :: g)).length) (M ++ (Ob.lst (nts (jouL (xs.take i))) :: g) ++ [Ob.lst (nts (recL xs[i]))])) :=
        cb_ok (one_ok (call_ok (one_ok rfl) (fnR_eq u__law_own_record ⟨xs[i], hxi.1, hxi.2.1, hxi.2.2, rfl, rfl, rfl⟩))) rfl
      refine drop_ok (bm_ok rfl (ty_list getA0) (one_ok hlist) (z := .non) ?_)
      rw [ext_ok (L := nts (jouL (xs.take i))) (es := nts (recL xs[i])) (by rw [appA]; exact getA0) (by simp only [itemsD, getA0, List.getElem?_cons_zero]) (by unfold nts; rw [List.length_map, List.length_map]; rw [List.length_append] at hle; omega), appA, setA0]
      unfold nts
      rw [oc_app]
      rfl
  obtain ⟨ρ', M', h1, v, g, rfl, h2⟩ := for_run (di := diSeq (dVar 0)) (ρ := [some (.obj n), some (.obj M.length), none]) (M := M ++ [Ob.lst []]) (it := itSeq (.obj n)) (seq_ok (it := fun _ _ => none) rfl (by simp only [isSeqD, hn1])) _ xs.length ⟨none, [], rfl, rfl⟩ step (fun ρ M' ⟨v, g, e1, e2⟩ => by
    subst e2
    simp only [itSeq, hn1]
    rw [List.getElem?_eq_none (Nat.le_refl _)])
  subst h2
  rw [List.take_length] at h1
  rw [seq_nx h1]
  exact ⟨_, _, ret_ok (cb_ok (one_ok rfl) (by simp only [fTuple, itemsD, getA0, List.getElem?_cons_zero]; rfl)), Fin.cut c1 (oc_cl (jouL xs))⟩
end K90
set_option maxHeartbeats 4000000
namespace K90
open PySem PySem.Spec PyProof.Rows L2 DL
/-! ### _law_apart_at -/
theorem o_neA_oc (l m : List Nat) (M : Sto) : fNeA (oc l) (oc m) M = some (.bl (!decide (l = m)), M) := by
  show fNe (oc l) (oc m) M = _
  unfold fNe
  have h : ∀ l : List Nat, pyO M (oc l) = some (.tuple (l.map fun n : Nat => PyData.int (n : Int))) := fun l => by
    show pyD (oc l) = _
    unfold oc pyD
    rw [pyDs_ints]
    rfl
  rw [h l, h m]
  dsimp only
  rw [if_pos ⟨shaped_ints l, shaped_ints m⟩, PyData.eqv, eqv_ints]
theorem sl_one (l : List Nat) (i : Nat) (M : Sto) : fSl (oc l) (some (i : Int)) (some ((i + 1 : Nat) : Int)) M = some (oc ((l.drop i).take 1), M) := by
  unfold fSl oc
  dsimp only
  have e : DL.cutD (l.map fun n : Nat => D.int (n : Int)) (some (i : Int)) (some ((i + 1 : Nat) : Int)) = ((l.drop i).take 1).map fun n : Nat => D.int (n : Int) := by
    unfold DL.cutD
    rw [HT.sIx_nat, HT.sIx_nat, List.length_map, List.map_take, List.map_drop]
    rcases Nat.lt_or_ge i l.length with h | h
    · rw [Nat.min_eq_left (by omega), Nat.min_eq_left (by omega), Nat.add_sub_cancel_left]
    · rw [Nat.min_eq_right h, Nat.min_eq_right (by omega), Nat.sub_self, List.take_zero, List.drop_eq_nil_of_le (by rw [List.length_map]; exact h), List.take_nil]
  rw [e]
def ap : Nat → List Nat → List Nat → Option Nat
  | _, [], [] => none
  | i, a :: as, b :: bs => if a = b then ap (i + 1) as bs else some i
  | i, _, _ => some i
def apD (a b : List Nat) : D := match ap 0 a b with
  | some j => .int (j : Int)
  | none => .non
theorem ap_du : ∀ (i : Nat) (a b : List Nat), (match ap i a b with
    | some j => D.int (j : Int)
    | none => .non) = match du i a b with
    | some j => .int (j : Int)
    | none => if a.length = b.length then .non else .int ((i + min a.length b.length : Nat) : Int)
  | i, [], [] => rfl
  | i, [], b :: bs => by simp [ap, du]
  | i, a :: as, [] => by simp [ap, du]
  | i, a :: as, b :: bs => by
    rw [ap, du]
    by_cases h : a = b
    · rw [if_pos h, if_pos h, ap_du (i + 1) as bs]
      cases du (i + 1) as bs with
      | some j => rfl
      | none =>
        simp only [List.length_cons, Nat.add_right_cancel_iff]
        have e : i + 1 + min as.length bs.length = i + min (as.length + 1) (bs.length + 1) := by omega
        rw [e]
    · rw [if_neg h, if_neg h]
theorem apD_fuD (a b : List Nat) : apD a b = fuD a b := by
  unfold apD fuD
  refine (ap_du 0 a b).trans ?_
  rw [Nat.zero_add]
  all_goals (cases du 0 a b <;> rfl)
def R__law_apart_at (ds : List D) (M : Sto) (d : D) (M1 : Sto) : Prop := ∃ a b : List Nat, a.length ≤ 16000000 ∧ b.length ≤ 16000000 ∧ ds = [oc a, oc b] ∧ d = fuD a b ∧ M = M1
theorem u__law_apart_at : Fun R__law_apart_at := by
  rintro ds M d M1 d' M1' ⟨a, b, _, _, rfl, rfl, rfl⟩ ⟨a', b', _, _, e, rfl, rfl⟩
  injection e with e1 e2
  injection e2 with e2 _
  rw [oc_inj e1, oc_inj e2]
  exact ⟨rfl, rfl⟩
noncomputable def F__law_apart_at : DF := fnR R__law_apart_at
theorem hF__law_apart_at : ∀ ds M r, F__law_apart_at ds M = some r → Clo M → D.cls M.length ds → ∃ d M1 fl M2, r = .ok d M1 ∧ bd__law_apart_at (startD N__law_apart_at.length ds) M = some (fl, M2) ∧ DL.Fin M fl M2 d M1 := fnR_hF fun ds M d M1 ⟨a, b, ha, hb, e1, e2, e3⟩ c1 _ => by
  subst e1 e2 e3
  rw [← apD_fuD]
  unfold bd__law_apart_at
  generalize hdb : dIfS (dTest (dOp fNeA _ _)) (dRet (dVar 2)) dNext = db
  have key : ∀ (k i : Nat) (v : Option D), max a.length b.length - i = k → i ≤ max a.length b.length → ∃ v', dForI (itRng 0 (max a.length b.length)) (dgName 2) db i [some (oc a), some (oc b), v] M = (match ap i (a.drop i) (b.drop i) with
        | some j => some (.rt (.int (j : Int)), M)
        | none => some (.nx [some (oc a), some (oc b), v'], M)) := by
    intro k
    induction k with
    | zero =>
      intro i v hk hi
      refine ⟨v, ?_⟩
      rw [dForI_eq, show itRng 0 (max a.length b.length) i M = some none from by unfold itRng; rw [if_neg (by omega)], List.drop_eq_nil_of_le (show a.length ≤ i by omega), List.drop_eq_nil_of_le (show b.length ≤ i by omega)]
      rfl
    | succ k ih =>
      intro i v hk hi
      have hit : itRng 0 (max a.length b.length) i M = some (some (.int ((i : Nat) : Int))) := by
        unfold itRng
        rw [if_pos (by omega), Int.zero_add]
      have ht : dTest (dOp fNeA (dSl (dVar 0) (dPart (dVar 2)) (dPart (dOp fAdd (dVar 2) (dC (.int 1))))) (dSl (dVar 1) (dPart (dVar 2)) (dPart (dOp fAdd (dVar 2) (dC (.int 1)))))) [some (oc a), some (oc b), some (.int (i : Nat))] M = some (.ok (!decide ((a.drop i).take 1 = (b.drop i).take 1)) M) :=
        test_ok (op_ok (slice_ok rfl (part_ok rfl) (part_ok (op_ok rfl rfl (o_add1 i))) (sl_one a i M)) (slice_ok rfl (part_ok rfl) (part_ok (op_ok rfl rfl (o_add1 i))) (sl_one b i M)) (o_neA_oc _ _ M))
      by_cases hc : (a.drop i).take 1 = (b.drop i).take 1
      · have hb1 : db [some (oc a), some (oc b), some (.int (i : Nat))] M = some (.nx [some (oc a), some (oc b), some (.int (i : Nat))], M) := by
          rw [← hdb, if_no (by rw [ht, decide_eq_true hc]; rfl)]
          rfl
        obtain ⟨v', hv⟩ := ih (i + 1) (some (.int (i : Nat))) (by omega) (by omega)
        refine ⟨v', ?_⟩
        have hap : ap i (a.drop i) (b.drop i) = ap (i + 1) (a.drop (i + 1)) (b.drop (i + 1)) := by
          have e1 : a.drop (i + 1) = (a.drop i).drop 1 := by rw [List.drop_drop]
          have e2 : b.drop (i + 1) = (b.drop i).drop 1 := by rw [List.drop_drop]
          have hne : ¬ (a.drop i = [] ∧ b.drop i = []) := fun ⟨h1, h2⟩ => by
            have := List.drop_eq_nil_iff.mp h1
            have := List.drop_eq_nil_iff.mp h2
            omega
          rw [e1, e2]
          cases h1 : a.drop i with
          | nil =>
            cases h2 : b.drop i with
            | nil => exact absurd ⟨h1, h2⟩ hne
            | cons y ys => rw [h1, h2] at hc; simp at hc
          | cons x xs =>
            cases h2 : b.drop i with
            | nil => rw [h1, h2] at hc; simp at hc
            | cons y ys =>
              rw [h1, h2] at hc
              have hxy : x = y := by simpa using hc
              rw [ap, if_pos hxy]
              rfl
        rw [hap, ← hv, dForI_eq, hit]
        dsimp only [dgName, List.set]
        rw [hb1]
      · have hb1 : db [some (oc a), some (oc b), some (.int (i : Nat))] M = some (.rt (.int (i : Nat)), M) := by
          rw [← hdb, if_yes (by rw [ht, decide_eq_false hc]; rfl)]
          exact ret_ok rfl
        refine ⟨none, ?_⟩
        have hap : ap i (a.drop i) (b.drop i) = some i := by
          cases h1 : a.drop i with
          | nil =>
            cases h2 : b.drop i with
            | nil => rw [h1, h2] at hc; exact absurd rfl hc
            | cons y ys => rfl
          | cons x xs =>
            cases h2 : b.drop i with
            | nil => rfl
            | cons y ys =>
              rw [h1, h2] at hc
              have hxy : ¬ x = y := fun e => hc (by rw [e]; rfl)
              rw [ap, if_neg hxy]
        rw [hap, dForI_eq, hit]
        dsimp only [dgName, List.set]
        rw [hb1]
  obtain ⟨v', hk⟩ := key _ 0 none rfl (Nat.zero_le _)
  rw [List.drop_zero, List.drop_zero] at hk
  have hmax : (if ((b.length : Nat) : Int) > ((a.length : Nat) : Int) then ((b.length : Nat) : Int) else ((a.length : Nat) : Int)) = ((max a.length b.length : Nat) : Int) := by split <;> omega
  have hrng : diRng1 (dCons (dCB fMax2 (dCons (dCB fLen (dCons (dVar 0) dNil)) (dCons (dCB fLen (dCons (dVar 1) dNil)) dNil))) dNil) (startD N__law_apart_at.length [oc a, oc b]) M = some (.ok (itRng 0 (max a.length b.length)) M) := by
    refine rng1_ok (one_ok (cb_ok (cons_ok (cb_ok (one_ok rfl) (o_len_oc a M)) (one_ok (cb_ok (one_ok rfl) (o_len_oc b M)))) ?_)) (by omega) (by omega)
    show some (D.int _, M) = _
    rw [hmax]
  have hfor : dFor (diRng1 (dCons (dCB fMax2 (dCons (dCB fLen (dCons (dVar 0) dNil)) (dCons (dCB fLen (dCons (dVar 1) dNil)) dNil))) dNil)) (dgName 2) db (startD N__law_apart_at.length [oc a, oc b]) M = (match ap 0 a b with
        | some j => some (.rt (.int (j : Int)), M)
        | none => some (.nx [some (oc a), some (oc b), v'], M)) := by
    unfold dFor
    rw [hrng]
    exact hk
  unfold apD
  cases hap : ap 0 a b with
  | some j =>
    rw [hap] at hfor
    exact ⟨_, _, seq_rt hfor, Fin.rt Cl.id⟩
  | none =>
    rw [hap] at hfor
    rw [seq_nx hfor]
    exact ⟨_, _, ret_ok rfl, Fin.rt Cl.id⟩
end K90
set_option maxHeartbeats 4000000
namespace K90
open PySem PySem.Spec PyProof.Rows L2 DL
/-! ### the bag -/
def bagD (b0 b1 b2 c : Nat) : List D := [.int (b0 : Int), .int (b1 : Int), .int (b2 : Int), .obj c]
structure Bag (M : Sto) (n c b0 b1 b2 : Nat) (cells : List Nat) : Prop where
  bag : M[n]? = some (.lst (bagD b0 b1 b2 c))
  cel : M[c]? = some (.lst (nts cells))
  b1 : b1 < 2147483647
  len : cells.length ≤ 63
/-- the bag's first part: a cell is drawn when b0 is used up -/
def drawB (b0 b1 b2 : Nat) (cells : List Nat) : Nat × Nat × Nat :=
  if b0 = 0 then (if 10 ^ 18 ≤ cells.getD b2 0 then cells.getD b2 0 else 0, (b1 * 48271 + cells.getD b2 0 % 2147483647 + 7919 * (b2 + 1)) % 2147483647, b2 + 1) else (b0, b1, b2)
def mixB (b1 many : Nat) : Nat := (((b1 + 1) * 39373 % 1000000007) * ((b1 + 1) * 39373 % 1000000007) % 998244353 * 30011 % 998244353) / 7 % many
/-- value, b0 after -/
def takeB (b0 b1 many : Nat) : Nat × Nat := if 0 < b0 then (b0 % many, b0 / many) else (mixB b1 many, b0)
def R__law_take (ds : List D) (M : Sto) (d : D) (M1 : Sto) : Prop := ∃ (n c b0 b1 b2 : Nat) (cells : List Nat) (many : Nat), Bag M n c b0 b1 b2 cells ∧ 0 < many ∧ many < 1000000000 ∧ ds = [.obj n, .int (many : Int)] ∧
  d = .int (((takeB (drawB b0 b1 b2 cells).1 (drawB b0 b1 b2 cells).2.1 many).1 : Nat) : Int) ∧ M1 = M.set n (.lst (bagD (takeB (drawB b0 b1 b2 cells).1 (drawB b0 b1 b2 cells).2.1 many).2 (drawB b0 b1 b2 cells).2.1 (drawB b0 b1 b2 cells).2.2 c))
theorem u__law_take : Fun R__law_take := by
  rintro ds M d M1 d' M1' ⟨n, c, b0, b1, b2, cells, many, B, _, _, rfl, rfl, rfl⟩ ⟨n', c', b0', b1', b2', cells', many', B', _, _, e, rfl, rfl⟩
  injection e with e1 e2
  injection e1 with e1
  injection e2 with e2 _
  injection e2 with e2
  have e2 := Int.ofNat.inj e2
  subst e1 e2
  have h := B.bag
  rw [B'.bag] at h
  injection h with h
  injection h with h
  unfold bagD at h
  injection h with h0 h
  injection h with h1 h
  injection h with h2 h
  injection h with h3 _
  injection h0 with h0
  injection h1 with h1
  injection h2 with h2
  injection h3 with h3
  have h0 := Int.ofNat.inj h0
  have h1 := Int.ofNat.inj h1
  have h2 := Int.ofNat.inj h2
  subst h0 h1 h2 h3
  have hc := B.cel
  rw [B'.cel] at hc
  injection hc with hc
  injection hc with hc
  have hc := nts_inj hc
  subst hc
  exact ⟨rfl, rfl⟩
noncomputable def F__law_take : DF := fnR R__law_take
end K90
set_option maxHeartbeats 4000000
namespace K90
open PySem PySem.Spec PyProof.Rows L2 DL
theorem bag_ix {S : Sto} {n : Nat} {ds : List D} {j : Nat} {d : D} (h : S[n]? = some (.lst ds)) (hj : ds[j]? = some d) : fIx (.obj n) (.int (j : Int)) S = some (d, S) := by
  simp only [fIx, h, at_nat, hj]
theorem sub_ok {ρ : DL.LE} {S : Sto} {n j i : Nat} {ds : List D} {d : D} (hv : dVar i ρ S = some (.ok (.obj n) S)) (h : S[n]? = some (.lst ds)) (hj : j < ds.length) : dgSub (dVar i) (dC (.int (j : Int))) d ρ S = some (ρ, S.set n (.lst (ds.set j d))) := by
  have e : L2.ixN ds.length (j : Int) = some j := by
    unfold L2.ixN
    rw [if_pos (Int.natCast_nonneg j), if_pos (by omega), Int.toNat_natCast]
  simp only [dgSub, hv, dC, h, e]
theorem augS_ok {ρ : DL.LE} {S : Sto} {n j i : Nat} {ds : List D} {a b : Int} (hv : dVar i ρ S = some (.ok (.obj n) S)) (h : S[n]? = some (.lst ds)) (hj : ds[j]? = some (.int a)) : dAugS fIAdd (dVar i) (dC (.int (j : Int))) (dC (.int b)) ρ S = some (.nx ρ, S.set n (.lst (ds.set j (.int (a + b))))) := by
  have hlt := (List.getElem?_eq_some_iff.mp hj).1
  have e : L2.ixN ds.length (j : Int) = some j := by
    unfold L2.ixN
    rw [if_pos (Int.natCast_nonneg j), if_pos (by omega), Int.toNat_natCast]
  simp only [dAugS, bndS, hv, dC, h, at_nat, hj, fIAdd, fI0, e]
/-- the rest of a list's first item, or 0 -/
theorem draw_ok {ρ : DL.LE} {M : Sto} {n c b0 b1 b2 : Nat} {cells : List Nat} (B : Bag M n c b0 b1 b2 cells) (hv : ∀ M', dVar 0 ρ M' = some (.ok (.obj n) M')) : ∃ g, dOp fIx (dOp fAdd (dSl (dOp fIx (dVar 0) (dC (.int 3))) (dPart (dOp fIx (dVar 0) (dC (.int 2)))) dNoP) (dLst (dCons (dC (.int 0)) dNil))) (dC (.int 0)) ρ M = some (.ok (.int (cells.getD b2 0 : Nat)) (M ++ g)) := by
  have h3 : dOp fIx (dVar 0) (dC (.int 3)) ρ M = some (.ok (.obj c) M) := op_ok (hv M) rfl (bag_ix (j := 3) B.bag rfl)
  have h2 : dOp fIx (dVar 0) (dC (.int 2)) ρ M = some (.ok (.int (b2 : Int)) M) := op_ok (hv M) rfl (bag_ix (j := 2) B.bag rfl)
  have hsl : fSl (.obj c) (some (b2 : Int)) none M = some (.obj M.length, M ++ [.lst (nts (cells.drop b2))]) := by
    simp only [fSl, B.cel]
    have e : DL.cutD (nts cells) (some (b2 : Int)) none = nts (cells.drop b2) := by
      unfold DL.cutD nts
      rw [HT.sIx_nat, HT.sIx_none, List.length_map]
      rcases Nat.le_total b2 cells.length with h | h
      · rw [Nat.min_eq_left h, List.map_drop, List.take_of_length_le (by rw [List.length_drop, List.length_map]; omega)]
      · rw [Nat.min_eq_right h, Nat.sub_self, List.take_zero, List.drop_eq_nil_of_le h, List.map_nil]
    rw [e]
  have hl : dLst (dCons (dC (.int 0)) dNil) ρ (M ++ [.lst (nts (cells.drop b2))]) = some (.ok (.obj (M.length + 1)) (M ++ ([.lst (nts (cells.drop b2))] ++ [.lst (nts [0])]))) := by
    have := one_lst (v := 0) (ρ := ρ) (M := M) (g := [.lst (nts (cells.drop b2))])
    exact this
  have ha := add_lists (M := M) (g := [Ob.lst (nts (cells.drop b2))] ++ [Ob.lst (nts [0])]) (i := M.length) (j := M.length + 1) (a := cells.drop b2) (b := [0]) getA0 (by rw [getA 1]; rfl) (by have := B.len; rw [List.length_drop, List.length_singleton]; omega)
  have hg : (M ++ (([Ob.lst (nts (cells.drop b2))] ++ [Ob.lst (nts [0])]) ++ [Ob.lst (nts (cells.drop b2 ++ [0]))]))[M.length + ([Ob.lst (nts (cells.drop b2))] ++ [Ob.lst (nts [0])]).length]? = some (.lst (nts (cells.drop b2 ++ [0]))) := by
    show (M ++ _)[M.length + 2]? = _
    rw [getA 2]
    rfl
  refine ⟨_, op_ok (op_ok (slice_ok h3 (part_ok h2) rfl hsl) hl ha) rfl (bag_ix (j := 0) hg ?_)⟩
  unfold nts
  rw [List.getElem?_map]
  have e : (cells.drop b2 ++ [0])[0]? = some (cells.getD b2 0) := by
    rw [List.getD_eq_getElem?_getD]
    rcases Nat.lt_or_ge b2 cells.length with h | h
    · rw [List.getElem?_append_left (by rw [List.length_drop]; omega), List.getElem?_drop, Nat.add_zero, List.getElem?_eq_getElem h]
      rfl
    · rw [List.drop_eq_nil_of_le h, List.getElem?_eq_none h]
      rfl
  rw [e]
  rfl
end K90
set_option maxHeartbeats 4000000
namespace K90
open PySem PySem.Spec PyProof.Rows L2 DL
theorem o_mulN (a b : Nat) (h : a < 2 ^ 64 ∨ b < 2 ^ 64) {M : Sto} : fMul (.int (a : Int)) (.int (b : Int)) M = some (.int ((a * b : Nat) : Int), M) := by
  rw [o_mul (by unfold CMul; rcases h with h | h; exact .inl (by omega); exact .inr (by omega)), Int.natCast_mul]
theorem o_addN (a b : Nat) {M : Sto} : fAdd (.int (a : Int)) (.int (b : Int)) M = some (.int ((a + b : Nat) : Int), M) := id rfl
/-- the value by mixing b1 -/
theorem mix_ok {S : Sto} {n c b0 b1 b2 many : Nat} {x y z : Option D} (h : S[n]? = some (.lst (bagD b0 b1 b2 c))) (hb : b1 < 2147483647) (hm : 0 < many) :
    dSeq (dSet 5 (dOp fMod (dCB fInt1 (dCons (dOp fMul (dOp fAdd (dOp fIx (dVar 0) (dC (.int 1))) (dC (.int 1))) (dC (.int 39373))) dNil)) (dC (.int 1000000007))))
  (dSeq (dSet 6 (dOp fMod (dCB fInt1 (dCons (dOp fMul (dOp fMod (dCB fInt1 (dCons (dOp fMul (dVar 5) (dVar 5)) dNil)) (dC (.int 998244353))) (dC (.int 30011))) dNil)) (dC (.int 998244353))))
  (dRet (dOp fMod (dCB fInt1 (dCons (dOp fFdiv (dVar 6) (dC (.int 7))) dNil)) (dVar 1)))) [some (.obj n), some (.int (many : Int)), x, y, z, none, none] S = some (.rt (.int (mixB b1 many : Nat)), S) := by
  have h1 := o_mulN (b1 + 1) 39373 (.inl (by omega)) (M := S)
  generalize hw : (b1 + 1) * 39373 % 1000000007 = w
  have hwl : w < 1000000007 := by rw [← hw]; exact Nat.mod_lt _ (by decide)
  have h2 := o_modN ((b1 + 1) * 39373) 1000000007 (by decide) (M := S)
  rw [hw] at h2
  have p1 : dSet 5 (dOp fMod (dCB fInt1 (dCons (dOp fMul (dOp fAdd (dOp fIx (dVar 0) (dC (.int 1))) (dC (.int 1))) (dC (.int 39373))) dNil)) (dC (.int 1000000007))) [some (.obj n), some (.int (many : Int)), x, y, z, none, none] S = some (.nx [some (.obj n), some (.int (many : Int)), x, y, z, some (.int (w : Int)), none], S) :=
    set_ok (op_ok (cb_ok (one_ok (op_ok (op_ok (op_ok rfl rfl (bag_ix (j := 1) h rfl)) rfl (o_addN b1 1)) rfl h1)) o_int1) rfl h2)
  have h3 := o_mulN w w (.inl (by omega)) (M := S)
  have h4 := o_modN (w * w) 998244353 (by decide) (M := S)
  have hq : w * w % 998244353 < 998244353 := Nat.mod_lt _ (by decide)
  have h5 := o_mulN (w * w % 998244353) 30011 (.inl (by omega)) (M := S)
  have h6 := o_modN (w * w % 998244353 * 30011) 998244353 (by decide) (M := S)
  generalize hv : w * w % 998244353 * 30011 % 998244353 = v at h6
  have p2 : dSet 6 (dOp fMod (dCB fInt1 (dCons (dOp fMul (dOp fMod (dCB fInt1 (dCons (dOp fMul (dVar 5) (dVar 5)) dNil)) (dC (.int 998244353))) (dC (.int 30011))) dNil)) (dC (.int 998244353))) [some (.obj n), some (.int (many : Int)), x, y, z, some (.int (w : Int)), none] S = some (.nx [some (.obj n), some (.int (many : Int)), x, y, z, some (.int (w : Int)), some (.int (v : Int))], S) :=
    set_ok (op_ok (cb_ok (one_ok (op_ok (op_ok (cb_ok (one_ok (op_ok rfl rfl h3)) o_int1) rfl h4) rfl h5)) o_int1) rfl h6)
  have e : mixB b1 many = v / 7 % many := by
    unfold mixB
    rw [hw, hv]
  rw [seq_nx p1, seq_nx p2, e]
  exact ret_ok (op_ok (cb_ok (one_ok (op_ok rfl rfl (o_fdivN v 7 (by decide) ⟨by decide, by decide⟩))) o_int1) rfl (o_modN (v / 7) many hm))
end K90
set_option maxHeartbeats 4000000
namespace K90
open PySem PySem.Spec PyProof.Rows L2 DL
theorem clo_set1 {M : Sto} {n : Nat} {o : Ob} (c : Clo M) (h : Ob.cl M.length o) : Clo (M.set n o) := by
  intro u hu
  rw [List.length_set]
  rcases List.mem_or_eq_of_mem_set hu with h1 | rfl
  · exact c u h1
  · exact h
theorem set_appL {M g : Sto} {n : Nat} {o : Ob} (h : n < M.length) : (M ++ g).set n o = M.set n o ++ g := List.set_append_left _ _ h
theorem set_self {M : Sto} {n : Nat} {o : Ob} (h : M[n]? = some o) : M.set n o = M := by
  apply List.ext_getElem?
  intro i
  rw [List.getElem?_set]
  by_cases hi : n = i
  · subst hi
    rw [if_pos rfl, if_pos (List.getElem?_eq_some_iff.mp h).1, h]
  · rw [if_neg hi]
theorem get_app {M g : Sto} {n : Nat} {o : Ob} (h : M[n]? = some o) : (M ++ g)[n]? = some o := by
  rw [List.getElem?_append_left (List.getElem?_eq_some_iff.mp h).1, h]
theorem get_set {M : Sto} {n : Nat} {o : Ob} (h : n < M.length) : (M.set n o)[n]? = some o := by
  rw [List.getElem?_set, if_pos rfl, if_pos h]
theorem o_eqN (a b : Nat) (M : Sto) : fEqA (.int (a : Int)) (.int (b : Int)) M = some (.bl (decide (a = b)), M) := by
  rw [o_eqI]
  by_cases h : a = b
  · subst h; simp
  · rw [decide_eq_false h]
    congr 3
    exact beq_eq_false_iff_ne.mpr (fun e => h (Int.ofNat.inj e))
theorem Bag.lt {M : Sto} {n c b0 b1 b2 : Nat} {cells : List Nat} (B : Bag M n c b0 b1 b2 cells) : n < M.length := (List.getElem?_eq_some_iff.mp B.bag).1
theorem Bag.ltc {M : Sto} {n c b0 b1 b2 : Nat} {cells : List Nat} (B : Bag M n c b0 b1 b2 cells) : c < M.length := (List.getElem?_eq_some_iff.mp B.cel).1
theorem bagD_cl {m b0 b1 b2 c : Nat} (h : c < m) : D.cls m (bagD b0 b1 b2 c) := ⟨trivial, trivial, trivial, h, trivial⟩
theorem Bag.ne {M : Sto} {n c b0 b1 b2 : Nat} {cells : List Nat} (B : Bag M n c b0 b1 b2 cells) : n ≠ c := by
  intro e
  subst e
  have h := B.bag
  rw [B.cel] at h
  injection h with h
  injection h with h
  unfold bagD nts at h
  match cells, h with
  | [_, _, _, x], h => simp at h
/-- the first statement: a cell is drawn -/
theorem take1 {M : Sto} {n c b0 b1 b2 many : Nat} {cells : List Nat} (B : Bag M n c b0 b1 b2 cells) : ∃ (x y : Option D) (g : Sto),
  dIfS (dTest (dOp fEqA (dOp fIx (dVar 0) (dC (.int 0))) (dC (.int 0)))) (dSeq (dSet 2 (dOp fIx (dOp fAdd (dSl (dOp fIx (dVar 0) (dC (.int 3))) (dPart (dOp fIx (dVar 0) (dC (.int 2)))) dNoP) (dLst (dCons (dC (.int 0)) dNil))) (dC (.int 0))))
  (dSeq (dAugS fIAdd (dVar 0) (dC (.int 2)) (dC (.int 1)))
  (dSeq (dIfS (dTest (dOp fGe (dVar 2) (dOp fPow (dC (.int 10)) (dC (.int 18))))) (dAsg (dVar 2) (dgSub (dVar 0) (dC (.int 0)))) dNext)
  (dSeq (dSet 3 (dOp fAdd (dOp fAdd (dOp fMul (dOp fIx (dVar 0) (dC (.int 1))) (dC (.int 48271))) (dOp fMod (dCB fInt1 (dCons (dVar 2) dNil)) (dC (.int 2147483647)))) (dOp fMul (dC (.int 7919)) (dOp fIx (dVar 0) (dC (.int 2))))))
  (dAsg (dOp fMod (dCB fInt1 (dCons (dVar 3) dNil)) (dC (.int 2147483647))) (dgSub (dVar 0) (dC (.int 1)))))))) dNext
  [some (.obj n), some (.int (many : Int)), none, none, none, none, none] M = some (.nx [some (.obj n), some (.int (many : Int)), x, y, none, none, none], M.set n (.lst (bagD (drawB b0 b1 b2 cells).1 (drawB b0 b1 b2 cells).2.1 (drawB b0 b1 b2 cells).2.2 c)) ++ g) := by
  have t0 : dTest (dOp fEqA (dOp fIx (dVar 0) (dC (.int 0))) (dC (.int 0))) [some (.obj n), some (.int (many : Int)), none, none, none, none, none] M = some (.ok (decide (b0 = 0)) M) := test_ok (op_ok (op_ok rfl rfl (bag_ix (j := 0) B.bag rfl)) rfl (o_eqN b0 0 M))
  by_cases h0 : b0 = 0
  · rw [if_yes (by rw [t0, decide_eq_true h0])]
    have e1 : drawB b0 b1 b2 cells = (if 10 ^ 18 ≤ cells.getD b2 0 then cells.getD b2 0 else 0, (b1 * 48271 + cells.getD b2 0 % 2147483647 + 7919 * (b2 + 1)) % 2147483647, b2 + 1) := by unfold drawB; rw [if_pos h0]
    rw [e1]
    obtain ⟨g, hd⟩ := draw_ok (ρ := [some (.obj n), some (.int (many : Int)), none, none, none, none, none]) B (fun _ => rfl)
    generalize cells.getD b2 0 = q at hd ⊢
    rw [seq_nx (ρ1 := [some (.obj n), some (.int (many : Int)), some (.int (q : Nat)), none, none, none, none]) (set_ok hd)]
    have p2 : dAugS fIAdd (dVar 0) (dC (.int 2)) (dC (.int 1)) [some (.obj n), some (.int (many : Int)), some (.int (q : Nat)), none, none, none, none] (M ++ g) = some (.nx [some (.obj n), some (.int (many : Int)), some (.int (q : Nat)), none, none, none, none], M.set n (.lst (bagD b0 b1 (b2 + 1) c)) ++ g) := by
      have := augS_ok (ρ := [some (.obj n), some (.int (many : Int)), some (.int (q : Nat)), none, none, none, none]) (S := M ++ g) (i := 0) (j := 2) (b := 1) rfl (get_app B.bag) rfl
      rw [set_appL B.lt] at this
      exact this
    rw [seq_nx p2]
    have hlt : n < (M.set n (.lst (bagD b0 b1 (b2 + 1) c))).length := by rw [List.length_set]; exact B.lt
    have hb : (M.set n (.lst (bagD b0 b1 (b2 + 1) c)))[n]? = some (.lst (bagD b0 b1 (b2 + 1) c)) := get_set B.lt
    have p3 : dIfS (dTest (dOp fGe (dVar 2) (dOp fPow (dC (.int 10)) (dC (.int 18))))) (dAsg (dVar 2) (dgSub (dVar 0) (dC (.int 0)))) dNext [some (.obj n), some (.int (many : Int)), some (.int (q : Nat)), none, none, none, none] (M.set n (.lst (bagD b0 b1 (b2 + 1) c)) ++ g) =
        some (.nx [some (.obj n), some (.int (many : Int)), some (.int (q : Nat)), none, none, none, none], M.set n (.lst (bagD (if 10 ^ 18 ≤ q then q else 0) b1 (b2 + 1) c)) ++ g) := by
      have hp : fPow (.int 10) (.int 18) (M.set n (.lst (bagD b0 b1 (b2 + 1) c)) ++ g) = some (.int (10 ^ 18), _) := o_pow (k := 18) (by decide +kernel)
      have ht : dTest (dOp fGe (dVar 2) (dOp fPow (dC (.int 10)) (dC (.int 18)))) [some (.obj n), some (.int (many : Int)), some (.int (q : Nat)), none, none, none, none] (M.set n (.lst (bagD b0 b1 (b2 + 1) c)) ++ g) = some (.ok (decide ((10 : Int) ^ 18 ≤ (q : Int))) _) := test_ok (op_ok rfl (op_ok rfl rfl hp) o_ge)
      by_cases hq : 10 ^ 18 ≤ q
      · rw [if_yes (by rw [ht, decide_eq_true (by omega)]), if_pos hq]
        refine asg_ok rfl ?_
        have := sub_ok (ρ := [some (.obj n), some (.int (many : Int)), some (.int (q : Nat)), none, none, none, none]) (S := M.set n (.lst (bagD b0 b1 (b2 + 1) c)) ++ g) (i := 0) (j := 0) (d := .int (q : Nat)) rfl (get_app hb) (show 0 < 4 by decide)
        rw [set_appL hlt, List.set_set] at this
        exact this
      · rw [if_no (by rw [ht, decide_eq_false (by omega)]), if_neg hq, h0]
        rfl
    rw [seq_nx p3]
    generalize hB0 : (if 10 ^ 18 ≤ q then q else 0) = B0
    have hlt : n < (M.set n (.lst (bagD B0 b1 (b2 + 1) c))).length := by rw [List.length_set]; exact B.lt
    have hb : (M.set n (.lst (bagD B0 b1 (b2 + 1) c)) ++ g)[n]? = some (.lst (bagD B0 b1 (b2 + 1) c)) := get_app (get_set B.lt)
    have m1 := o_mulN b1 48271 (.inr (by omega)) (M := M.set n (.lst (bagD B0 b1 (b2 + 1) c)) ++ g)
    have m2 := o_mulN 7919 (b2 + 1) (.inl (by omega)) (M := M.set n (.lst (bagD B0 b1 (b2 + 1) c)) ++ g)
    have m3 := o_modN q 2147483647 (by decide) (M := M.set n (.lst (bagD B0 b1 (b2 + 1) c)) ++ g)
    have p4 : dSet 3 (dOp fAdd (dOp fAdd (dOp fMul (dOp fIx (dVar 0) (dC (.int 1))) (dC (.int 48271))) (dOp fMod (dCB fInt1 (dCons (dVar 2) dNil)) (dC (.int 2147483647)))) (dOp fMul (dC (.int 7919)) (dOp fIx (dVar 0) (dC (.int 2))))) [some (.obj n), some (.int (many : Int)), some (.int (q : Nat)), none, none, none, none] (M.set n (.lst (bagD B0 b1 (b2 + 1) c)) ++ g) =
        some (.nx [some (.obj n), some (.int (many : Int)), some (.int (q : Nat)), some (.int ((b1 * 48271 + q % 2147483647 + 7919 * (b2 + 1) : Nat) : Int)), none, none, none], M.set n (.lst (bagD B0 b1 (b2 + 1) c)) ++ g) :=
      set_ok (op_ok (op_ok (op_ok (op_ok rfl rfl (bag_ix (j := 1) hb rfl)) rfl m1) (op_ok (cb_ok (one_ok rfl) o_int1) rfl m3) (o_addN _ _)) (op_ok rfl (op_ok rfl rfl (bag_ix (j := 2) hb rfl)) m2) (o_addN _ _))
    rw [seq_nx p4]
    generalize b1 * 48271 + q % 2147483647 + 7919 * (b2 + 1) = r
    have m4 := o_modN r 2147483647 (by decide) (M := M.set n (.lst (bagD B0 b1 (b2 + 1) c)) ++ g)
    refine ⟨some (.int (q : Nat)), some (.int (r : Nat)), g, asg_ok (op_ok (cb_ok (one_ok rfl) o_int1) rfl m4) ?_⟩
    have := sub_ok (ρ := [some (.obj n), some (.int (many : Int)), some (.int (q : Nat)), some (.int (r : Nat)), none, none, none]) (S := M.set n (.lst (bagD B0 b1 (b2 + 1) c)) ++ g) (i := 0) (j := 1) (d := .int (r % 2147483647 : Nat)) rfl hb (show 1 < 4 by decide)
    rw [set_appL hlt, List.set_set] at this
    exact this
  · rw [if_no (by rw [t0, decide_eq_false h0])]
    have e1 : drawB b0 b1 b2 cells = (b0, b1, b2) := by unfold drawB; rw [if_neg h0]
    rw [e1]
    refine ⟨none, none, [], ?_⟩
    rw [set_self B.bag, List.append_nil]
    rfl
theorem draw_b1 {M : Sto} {n c b0 b1 b2 : Nat} {cells : List Nat} (B : Bag M n c b0 b1 b2 cells) : (drawB b0 b1 b2 cells).2.1 < 2147483647 := by
  unfold drawB
  by_cases h0 : b0 = 0
  · rw [if_pos h0]
    exact Nat.mod_lt _ (by decide)
  · rw [if_neg h0]
    exact B.b1
theorem hF__law_take : ∀ ds M r, F__law_take ds M = some r → Clo M → D.cls M.length ds → ∃ d M1 fl M2, r = .ok d M1 ∧ bd__law_take (startD N__law_take.length ds) M = some (fl, M2) ∧ DL.Fin M fl M2 d M1 := fnR_hF fun ds M d M1 ⟨n, c, b0, b1, b2, cells, many, B, hm, hm2, e1, e2, e3⟩ c1 _ => by
  subst e1 e2 e3
  unfold bd__law_take
  obtain ⟨x, y, g, h1⟩ := take1 (many := many) B
  have hst : startD N__law_take.length [.obj n, .int (many : Int)] = [some (.obj n), some (.int (many : Int)), none, none, none, none, none] := rfl
  rw [hst, seq_nx h1]
  have hb1 := draw_b1 B
  generalize (drawB b0 b1 b2 cells).1 = B0
  generalize (drawB b0 b1 b2 cells).2.1 = B1 at hb1 ⊢
  generalize (drawB b0 b1 b2 cells).2.2 = B2
  have hlt : n < (M.set n (.lst (bagD B0 B1 B2 c))).length := by rw [List.length_set]; exact B.lt
  have hb : (M.set n (.lst (bagD B0 B1 B2 c)) ++ g)[n]? = some (.lst (bagD B0 B1 B2 c)) := get_app (get_set B.lt)
  have ht : dTest (dOp fGt (dOp fIx (dVar 0) (dC (.int 0))) (dC (.int 0))) [some (.obj n), some (.int (many : Int)), x, y, none, none, none] (M.set n (.lst (bagD B0 B1 B2 c)) ++ g) = some (.ok (decide ((0 : Int) < (B0 : Int))) (M.set n (.lst (bagD B0 B1 B2 c)) ++ g)) := test_ok (op_ok (op_ok rfl rfl (bag_ix (j := 0) hb rfl)) rfl o_gt)
  have hcut : ∀ B0' : Nat, Clo (M.set n (.lst (bagD B0' B1 B2 c))) := fun B0' => clo_set1 c1 (bagD_cl B.ltc)
  have hle : ∀ B0' : Nat, M.length ≤ (M.set n (.lst (bagD B0' B1 B2 c))).length := fun B0' => by rw [List.length_set]; exact Nat.le_refl _
  by_cases h0 : 0 < B0
  · have e : takeB B0 B1 many = (B0 % many, B0 / many) := by unfold takeB; rw [if_pos h0]
    rw [e]
    have q1 : dSet 4 (dOp fMod (dCB fInt1 (dCons (dOp fIx (dVar 0) (dC (.int 0))) dNil)) (dVar 1)) [some (.obj n), some (.int (many : Int)), x, y, none, none, none] (M.set n (.lst (bagD B0 B1 B2 c)) ++ g) = some (.nx [some (.obj n), some (.int (many : Int)), x, y, some (.int (B0 % many : Nat)), none, none], M.set n (.lst (bagD B0 B1 B2 c)) ++ g) :=
      set_ok (op_ok (cb_ok (one_ok (op_ok rfl rfl (bag_ix (j := 0) hb rfl))) o_int1) rfl (o_modN B0 many hm))
    have q2 : dAsg (dOp fFdiv (dCB fInt1 (dCons (dOp fIx (dVar 0) (dC (.int 0))) dNil)) (dVar 1)) (dgSub (dVar 0) (dC (.int 0))) [some (.obj n), some (.int (many : Int)), x, y, some (.int (B0 % many : Nat)), none, none] (M.set n (.lst (bagD B0 B1 B2 c)) ++ g) = some (.nx [some (.obj n), some (.int (many : Int)), x, y, some (.int (B0 % many : Nat)), none, none], M.set n (.lst (bagD (B0 / many) B1 B2 c)) ++ g) := by
      refine asg_ok (op_ok (cb_ok (one_ok (op_ok rfl rfl (bag_ix (j := 0) hb rfl))) o_int1) rfl (o_fdivN B0 many hm ⟨by omega, by omega⟩)) ?_
      have := sub_ok (ρ := [some (.obj n), some (.int (many : Int)), x, y, some (.int (B0 % many : Nat)), none, none]) (S := M.set n (.lst (bagD B0 B1 B2 c)) ++ g) (i := 0) (j := 0) (d := .int (B0 / many : Nat)) rfl hb (show 0 < 4 by decide)
      rw [set_appL hlt, List.set_set] at this
      exact this
    rw [seq_rt ((if_yes (by rw [ht, decide_eq_true (by omega)])).trans (by rw [seq_nx q1, seq_nx q2]; exact ret_ok rfl))]
    exact ⟨_, _, rfl, Fin.rt (Cl.cut (hle _) (hcut _) trivial)⟩
  · have e : takeB B0 B1 many = (mixB B1 many, B0) := by unfold takeB; rw [if_neg h0]
    have ht0 : dTest (dOp fGt (dOp fIx (dVar 0) (dC (.int 0))) (dC (.int 0))) [some (.obj n), some (.int (many : Int)), x, y, none, none, none] (M.set n (.lst (bagD B0 B1 B2 c)) ++ g) = some (.ok false (M.set n (.lst (bagD B0 B1 B2 c)) ++ g)) := by rw [ht, decide_eq_false (by omega)]
    rw [e]
    refine ⟨_, _, (seq_nx (if_no ht0)).trans (mix_ok hb hb1 hm), Fin.rt (Cl.cut (hle _) (hcut _) trivial)⟩
/-- after a draw: a value below `many`, and a bag again -/
theorem take_val {b0 b1 many : Nat} (hm : 0 < many) : (takeB b0 b1 many).1 < many := by
  unfold takeB
  by_cases h : 0 < b0
  · rw [if_pos h]; exact Nat.mod_lt _ hm
  · rw [if_neg h]; exact Nat.mod_lt _ hm
end K90
set_option maxHeartbeats 4000000
namespace K90
open PySem PySem.Spec PyProof.Rows L2 DL
/-! ### the bag's state -/
abbrev BS := Nat × Nat × Nat
@[irreducible] def tk (cells : List Nat) (s : BS) (many : Nat) : Nat × BS :=
  ((takeB (drawB s.1 s.2.1 s.2.2 cells).1 (drawB s.1 s.2.1 s.2.2 cells).2.1 many).1, (takeB (drawB s.1 s.2.1 s.2.2 cells).1 (drawB s.1 s.2.1 s.2.2 cells).2.1 many).2, (drawB s.1 s.2.1 s.2.2 cells).2.1, (drawB s.1 s.2.1 s.2.2 cells).2.2)
def bgO (s : BS) (c : Nat) : Ob := .lst (bagD s.1 s.2.1 s.2.2 c)
abbrev BagS (M : Sto) (n c : Nat) (s : BS) (cells : List Nat) : Prop := Bag M n c s.1 s.2.1 s.2.2 cells
theorem tk_lt (cells : List Nat) (s : BS) {many : Nat} (hm : 0 < many) : (tk cells s many).1 < many := by
  unfold tk
  exact take_val hm
theorem take_F {M : Sto} {n c : Nat} {s : BS} {cells : List Nat} {many : Nat} (B : BagS M n c s cells) (h0 : 0 < many) (h1 : many < 1000000000) : F__law_take [.obj n, .int (many : Int)] M = some (.ok (.int ((tk cells s many).1 : Nat)) (M.set n (bgO (tk cells s many).2 c))) := by
  unfold tk
  exact fnR_eq u__law_take ⟨n, c, s.1, s.2.1, s.2.2, cells, many, B, h0, h1, rfl, rfl, rfl⟩
theorem BagS.set {M : Sto} {n c : Nat} {s s' : BS} {cells : List Nat} (B : BagS M n c s cells) (h : s'.2.1 < 2147483647) : BagS (M.set n (bgO s' c)) n c s' cells :=
  ⟨get_set B.lt, by rw [List.getElem?_set_ne B.ne]; exact B.cel, h, B.len⟩
theorem tk_b1 {M : Sto} {n c : Nat} {s : BS} {cells : List Nat} (B : BagS M n c s cells) (many : Nat) : (tk cells s many).2.2.1 < 2147483647 := by
  unfold tk
  exact draw_b1 B
theorem BagS.tk {M : Sto} {n c : Nat} {s : BS} {cells : List Nat} (B : BagS M n c s cells) (many : Nat) : BagS (M.set n (bgO (tk cells s many).2 c)) n c (tk cells s many).2 cells := BagS.set B (tk_b1 B many)
theorem BagS.app {M : Sto} {n c : Nat} {s : BS} {cells : List Nat} (B : BagS M n c s cells) (g : Sto) : BagS (M ++ g) n c s cells := ⟨get_app B.bag, get_app B.cel, B.b1, B.len⟩
theorem bs_inj {s s' : BS} {c c' : Nat} (h : bgO s c = bgO s' c') : s = s' ∧ c = c' := by
  obtain ⟨a, b, d⟩ := s
  obtain ⟨a', b', d'⟩ := s'
  unfold bgO at h
  injection h with h
  unfold bagD at h
  injection h with h0 h
  injection h with h1 h
  injection h with h2 h
  injection h with h3 _
  injection h0 with h0
  injection h1 with h1
  injection h2 with h2
  injection h3 with h3
  have k0 : a = a' := Int.ofNat.inj h0
  have k1 : b = b' := Int.ofNat.inj h1
  have k2 : d = d' := Int.ofNat.inj h2
  rw [k0, k1, k2, h3]
  exact ⟨rfl, rfl⟩
theorem bag_uni {M : Sto} {n c c' : Nat} {s s' : BS} {cells cells' : List Nat} (B : BagS M n c s cells) (B' : BagS M n c' s' cells') : s = s' ∧ c = c' ∧ cells = cells' := by
  have h := B.bag
  rw [B'.bag] at h
  injection h with h
  obtain ⟨h1, h2⟩ := bs_inj (s := s') (s' := s) (c := c') (c' := c) h
  subst h1 h2
  have hc := B.cel
  rw [B'.cel] at hc
  injection hc with hc
  injection hc with hc
  exact ⟨rfl, rfl, (nts_inj hc).symm⟩
/-! ### _law_some -/
def R__law_some (ds : List D) (M : Sto) (d : D) (M1 : Sto) : Prop := ∃ (n c t : Nat) (s : BS) (cells : List Nat) (L : List D), BagS M n c s cells ∧ M[t]? = some (.lst L) ∧ t ≠ n ∧ 0 < L.length ∧ L.length < 1000 ∧ ds = [.obj n, .obj t] ∧ d = L.getD (tk cells s L.length).1 .non ∧ M1 = M.set n (bgO (tk cells s L.length).2 c)
theorem u__law_some : Fun R__law_some := by
  rintro ds M d M1 d' M1' ⟨n, c, t, s, cells, L, B, hL, _, _, _, rfl, rfl, rfl⟩ ⟨n', c', t', s', cells', L', B', hL', _, _, _, e, rfl, rfl⟩
  injection e with e1 e2
  injection e1 with e1
  injection e2 with e2 _
  injection e2 with e2
  subst e1 e2
  obtain ⟨h1, h2, h3⟩ := bag_uni B B'
  subst h1 h2 h3
  rw [hL] at hL'
  cases hL'
  exact ⟨rfl, rfl⟩
noncomputable def F__law_some : DF := fnR R__law_some
theorem hF__law_some : ∀ ds M r, F__law_some ds M = some r → Clo M → D.cls M.length ds → ∃ d M1 fl M2, r = .ok d M1 ∧ bd__law_some F__law_take (startD N__law_some.length ds) M = some (fl, M2) ∧ DL.Fin M fl M2 d M1 := fnR_hF fun ds M d M1 ⟨n, c, t, s, cells, L, B, hL, hne, h0, h1, e1, e2, e3⟩ c1 _ => by
  subst e1 e2 e3
  have hlen : fLen [.obj t] M = some (.int (L.length : Nat), M) := by simp only [fLen, lenD, hL]
  have hL2 : (M.set n (bgO (tk cells s L.length).2 c))[t]? = some (.lst L) := by rw [List.getElem?_set_ne (Ne.symm hne)]; exact hL
  have hv := tk_lt cells s h0
  have ht := take_F B h0 (show L.length < 1000000000 by omega)
  generalize (tk cells s L.length).1 = v at hv ht ⊢
  generalize bgO (tk cells s L.length).2 c = o at hL2 ht ⊢
  have hst : startD N__law_some.length [.obj n, .obj t] = [some (.obj n), some (.obj t)] := rfl
  rw [hst]
  have hg : L[v]? = some (L.getD v .non) := by
    rw [List.getD_eq_getElem?_getD, List.getElem?_eq_getElem hv]
    rfl
  have h2 : dCall F__law_take (dCons (dVar 0) (dCons (dCB fLen (dCons (dVar 1) dNil)) dNil)) [some (.obj n), some (.obj t)] M = some (.ok (.int (v : Int)) (M.set n o)) := call_ok (cons_ok rfl (one_ok (cb_ok (one_ok rfl) hlen))) ht
  exact ⟨_, _, ret_ok (op_ok rfl h2 (bag_ix hL2 hg)), Fin.rt Cl.id⟩
theorem some_F {M : Sto} {n c t k : Nat} {s : BS} {cells : List Nat} {L : List D} (B : BagS M n c s cells) (hL : M[t]? = some (.lst L)) (hne : t ≠ n) (hk : L.length = k) (h0 : 0 < k) (h1 : k < 1000) : F__law_some [.obj n, .obj t] M = some (.ok (L.getD (tk cells s k).1 .non) (M.set n (bgO (tk cells s k).2 c))) := by
  subst hk
  exact fnR_eq u__law_some ⟨n, c, t, s, cells, L, B, hL, hne, h0, h1, rfl, rfl, rfl⟩
/-! ### _law_thing -/
def lst7 (a b c : Nat) : List D := [D.non, .bl true, .bl false, .int (a : Int), .int (-1 - (b : Int)), .str (Txt.slice "az" none (some (c : Int))), .int (10 ^ 20)]
@[irreducible] def some7 (cells : List Nat) (s : BS) : D × BS :=
  ((lst7 (tk cells s 300).1 (tk cells (tk cells s 300).2 300).1 (tk cells (tk cells (tk cells s 300).2 300).2 3).1).getD (tk cells (tk cells (tk cells (tk cells s 300).2 300).2 3).2 7).1 .non, (tk cells (tk cells (tk cells (tk cells s 300).2 300).2 3).2 7).2)
def rep (f : BS → D × BS) : Nat → BS → List D × BS
  | 0, s => ([], s)
  | m + 1, s => ((f s).1 :: (rep f m (f s).2).1, (rep f m (f s).2).2)
def thG (cells : List Nat) : Nat → BS → D × BS
  | 0, s => some7 cells s
  | k + 1, s => if (tk cells s 2).1 = 0 then (.tup (rep (thG cells k) (tk cells (tk cells s 2).2 3).1 (tk cells (tk cells s 2).2 3).2).1, (rep (thG cells k) (tk cells (tk cells s 2).2 3).1 (tk cells (tk cells s 2).2 3).2).2) else some7 cells (tk cells s 2).2
def R__law_thing (k : Nat) (ds : List D) (M : Sto) (d : D) (M1 : Sto) : Prop := ∃ (n c dp : Nat) (s : BS) (cells : List Nat), BagS M n c s cells ∧ dp < k ∧ ds = [.obj n, .int (dp : Int)] ∧ d = (thG cells dp s).1 ∧ M1 = M.set n (bgO (thG cells dp s).2 c)
theorem u__law_thing {k : Nat} : Fun (R__law_thing k) := by
  rintro ds M d M1 d' M1' ⟨n, c, dp, s, cells, B, _, rfl, rfl, rfl⟩ ⟨n', c', dp', s', cells', B', _, e, rfl, rfl⟩
  injection e with e1 e2
  injection e1 with e1
  injection e2 with e2 _
  injection e2 with e2
  have e2 := Int.ofNat.inj e2
  subst e1 e2
  obtain ⟨h1, h2, h3⟩ := bag_uni B B'
  subst h1 h2 h3
  exact ⟨rfl, rfl⟩
noncomputable def F__law_thing (k : Nat) : DF := fnR (R__law_thing k)
theorem some7_b1 {M : Sto} {n c : Nat} {s : BS} {cells : List Nat} (B : BagS M n c s cells) : (some7 cells s).2.2.1 < 2147483647 := by
  unfold some7
  exact tk_b1 (BagS.tk (BagS.tk (BagS.tk B 300) 300) 3) 7
theorem rep_b1 {n c : Nat} {cells : List Nat} {f : BS → D × BS} (h : ∀ (M : Sto) (s : BS), BagS M n c s cells → (f s).2.2.1 < 2147483647) : ∀ (m : Nat) (M : Sto) (s : BS), BagS M n c s cells → (rep f m s).2.2.1 < 2147483647
  | 0, M, s, B => B.b1
  | m + 1, M, s, B => rep_b1 h m _ _ (BagS.set B (h M s B))
theorem thG_b1 {n c : Nat} {cells : List Nat} : ∀ (k : Nat) (M : Sto) (s : BS), BagS M n c s cells → (thG cells k s).2.2.1 < 2147483647
  | 0, M, s, B => by
    unfold thG
    exact some7_b1 B
  | k + 1, M, s, B => by
    unfold thG
    by_cases h : (tk cells s 2).1 = 0
    · rw [if_pos h]
      exact rep_b1 (fun M s B => thG_b1 k M s B) _ _ _ (BagS.tk (BagS.tk B 2) 3)
    · rw [if_neg h]
      exact some7_b1 (BagS.tk B 2)
theorem rep_len (f : BS → D × BS) : ∀ (m : Nat) (s : BS), (rep f m s).1.length = m
  | 0, s => rfl
  | m + 1, s => by rw [rep, List.length_cons, rep_len f m]
/-- the state ahead of turn i -/
def repS (f : BS → D × BS) : Nat → BS → BS
  | 0, s => s
  | i + 1, s => repS f i (f s).2
theorem rep_get (f : BS → D × BS) : ∀ (m i : Nat) (s : BS) (hi : i < m), (rep f m s).1[i]? = some (f (repS f i s)).1
  | m + 1, 0, s, _ => rfl
  | m + 1, i + 1, s, hi => by
    rw [rep, List.getElem?_cons_succ]
    exact rep_get f m i _ (by omega)
theorem repS_succ (f : BS → D × BS) : ∀ (i : Nat) (s : BS), repS f (i + 1) s = (f (repS f i s)).2
  | 0, s => rfl
  | i + 1, s => repS_succ f i (f s).2
theorem rep_end (f : BS → D × BS) : ∀ (m : Nat) (s : BS), (rep f m s).2 = repS f m s
  | 0, s => rfl
  | m + 1, s => rep_end f m (f s).2
theorem set_set {M : Sto} {n : Nat} {o o' : Ob} : (M.set n o).set n o' = M.set n o' := List.set_set ..
theorem o_pow20 {M : Sto} : fPow (.int 10) (.int 20) M = some (.int (10 ^ 20), M) := o_pow (k := 20) (by decide +kernel)
theorem slT_ok {de : DE} {dl dh : DO} {ρ : DL.LE} {M M1 M2 M3 : Sto} {z : Str} {l h : Option Int} (h1 : de ρ M = some (.ok (.str z) M1)) (h2 : dl ρ M1 = some (.ok l M2)) (h3 : dh ρ M2 = some (.ok h M3)) (hz : z.length ≤ sizeLine) : dSlT de dl dh ρ M = some (.ok (.str (Txt.slice z l h)) M3) := by
  simp only [dSlT, bnd, h1, h2, h3, if_pos hz]
theorem some7_ok {M : Sto} {n c : Nat} {s : BS} {cells : List Nat} {ρ : DL.LE} (B : BagS M n c s cells) (hv : ∀ M', dVar 0 ρ M' = some (.ok (.obj n) M')) :
    ∃ g, dCall F__law_some (dCons (dVar 0) (dCons (dLst (dCons (dC .non) (dCons (dC (.bl true)) (dCons (dC (.bl false)) (dCons (dCall F__law_take (dCons (dVar 0) (dCons (dC (.int 300)) dNil))) (dCons (dOp fSub (dUn fNeg (dC (.int 1))) (dCall F__law_take (dCons (dVar 0) (dCons (dC (.int 300)) dNil)))) (dCons (dSlT (dC (.str "az")) dNoP (dPart (dCall F__law_take (dCons (dVar 0) (dCons (dC (.int 3)) dNil))))) (dCons (dOp fPow (dC (.int 10)) (dC (.int 20))) dNil)))))))) dNil)) ρ M = some (.ok (some7 cells s).1 (M.set n (bgO (some7 cells s).2 c) ++ g)) := by
  have B1 := BagS.tk B 300
  have B2 := BagS.tk B1 300
  have B3 := BagS.tk B2 3
  have t1 := take_F B (many := 300) (by decide) (by decide)
  have t2 := take_F B1 (many := 300) (by decide) (by decide)
  have t3 := take_F B2 (many := 3) (by decide) (by decide)
  unfold some7
  generalize (tk cells s 300).1 = va at t1 ⊢
  generalize (tk cells s 300).2 = s1 at B1 B2 B3 t1 t2 t3 ⊢
  generalize (tk cells s1 300).1 = vb at t2 ⊢
  generalize (tk cells s1 300).2 = s2 at B2 B3 t2 t3 ⊢
  generalize (tk cells s2 3).1 = vc at t3 ⊢
  generalize (tk cells s2 3).2 = s3 at B3 t3 ⊢
  have a7 : ∀ S : Sto, dCons (dOp fPow (dC (.int 10)) (dC (.int 20))) dNil ρ S = some (.ok [.int (10 ^ 20)] S) := fun S => one_ok (op_ok (x := .int 10) (y := .int 20) rfl rfl o_pow20)
  have c1 : dCall F__law_take (dCons (dVar 0) (dCons (dC (.int 300)) dNil)) ρ M = _ := call_ok (cons_ok (hv M) (one_ok (d := .int 300) rfl)) t1
  have c2 : dCall F__law_take (dCons (dVar 0) (dCons (dC (.int 300)) dNil)) ρ _ = _ := call_ok (cons_ok (hv _) (one_ok (d := .int 300) rfl)) t2
  have c3 : dCall F__law_take (dCons (dVar 0) (dCons (dC (.int 3)) dNil)) ρ _ = _ := call_ok (cons_ok (hv _) (one_ok (d := .int 3) rfl)) t3
  have z0 : ∀ S : Sto, dC (.str "az") ρ S = some (.ok (.str "az") S) := fun S => rfl
  have n0 : ∀ S : Sto, dNoP ρ S = some (.ok none S) := fun S => rfl
  have m1 : ∀ S : Sto, dUn fNeg (dC (.int 1)) ρ S = some (.ok (.int (-1)) S) := fun S => un_ok (x := .int 1) rfl rfl
  have hl := lst_ok (ds := lst7 va vb vc) (cons_ok (rfl : dC .non ρ M = some (.ok .non M)) (cons_ok (rfl : dC (.bl true) ρ M = some (.ok (.bl true) M)) (cons_ok (rfl : dC (.bl false) ρ M = some (.ok (.bl false) M)) (cons_ok c1 (cons_ok (op_ok (m1 _) c2 o_sub) (cons_ok (slT_ok (z := "az") (l := none) (z0 _) (n0 _) (part_ok c3) (by decide +kernel)) (a7 _))))))) (show 7 ≤ sizeLine by decide)
  have B3' := BagS.app B3 [.lst (lst7 va vb vc)]
  rw [set_set, set_set] at B3' hl
  have hso := some_F B3' getA0 (by have := B.lt; rw [List.length_set]; omega) (k := 7) rfl (by decide) (by decide)
  rw [set_appL (by rw [List.length_set]; exact B.lt), set_set] at hso
  exact ⟨_, call_ok (cons_ok (hv M) (one_ok hl)) hso⟩
/-! ### what is drawn -/
def Leaf (x : D) : Prop := x = .non ∨ (∃ b, x = .bl b) ∨ (∃ i : Int, x = .int i ∧ i.natAbs ≤ 10 ^ 20) ∨ ∃ c : Nat, c < 3 ∧ x = .str (Txt.slice "az" none (some (c : Int)))
theorem getD_mem {α : Type} {P : α → Prop} {l : List α} {i : Nat} {d : α} (h : ∀ x ∈ l, P x) (hd : P d) : P (l.getD i d) := by
  rw [List.getD_eq_getElem?_getD]
  cases hx : l[i]? with
  | none => exact hd
  | some x => exact h x (List.mem_of_getElem? hx)
theorem some7_leaf (cells : List Nat) (s : BS) : Leaf (some7 cells s).1 := by
  have h1 := tk_lt cells s (many := 300) (by decide)
  have h2 := tk_lt cells (tk cells s 300).2 (many := 300) (by decide)
  have h3 := tk_lt cells (tk cells (tk cells s 300).2 300).2 (many := 3) (by decide)
  have hp : 300 ≤ 10 ^ 20 := by decide
  unfold some7
  generalize (tk cells s 300).1 = va at h1 ⊢
  generalize (tk cells (tk cells s 300).2 300).1 = vb at h2 ⊢
  generalize (tk cells (tk cells (tk cells s 300).2 300).2 3).1 = vc at h3 ⊢
  generalize (tk cells (tk cells (tk cells (tk cells s 300).2 300).2 3).2 7).1 = i
  show Leaf ((lst7 va vb vc).getD i .non)
  refine getD_mem (P := Leaf) (fun x hx => ?_) (.inl rfl)
  unfold lst7 at hx
  simp only [List.mem_cons, List.not_mem_nil, or_false] at hx
  rcases hx with rfl | rfl | rfl | rfl | rfl | rfl | rfl
  · exact .inl rfl
  · exact .inr (.inl ⟨_, rfl⟩)
  · exact .inr (.inl ⟨_, rfl⟩)
  · exact .inr (.inr (.inl ⟨_, rfl, by omega⟩))
  · exact .inr (.inr (.inl ⟨_, rfl, by omega⟩))
  · exact .inr (.inr (.inr ⟨_, h3, rfl⟩))
  · exact .inr (.inr (.inl ⟨_, rfl, by decide⟩))
theorem rep_all {f : BS → D × BS} {P : D → Prop} (h : ∀ s, P (f s).1) : ∀ (m : Nat) (s : BS), ∀ d ∈ (rep f m s).1, P d
  | 0, s, d, hd => by cases hd
  | m + 1, s, d, hd => by
    rw [rep] at hd
    rcases List.mem_cons.mp hd with rfl | hd
    · exact h s
    · exact rep_all h m _ d hd
theorem thG_all (cells : List Nat) {P : Nat → D → Prop} (h0 : ∀ k x, Leaf x → P k x) (h1 : ∀ k ds, ds.length ≤ 2 → (∀ d ∈ ds, P k d) → P (k + 1) (.tup ds)) : ∀ (k : Nat) (s : BS), P k (thG cells k s).1
  | 0, s => by
    unfold thG
    exact h0 0 _ (some7_leaf cells s)
  | k + 1, s => by
    unfold thG
    by_cases h : (tk cells s 2).1 = 0
    · rw [if_pos h]
      have hl := tk_lt cells (tk cells s 2).2 (many := 3) (by decide)
      exact h1 k _ (by rw [rep_len]; omega) (rep_all (fun s => thG_all cells h0 h1 k s) _ _)
    · rw [if_neg h]
      exact h0 _ _ (some7_leaf cells _)
theorem az_ok : ∀ c : Nat, c < 3 → (decide ((Txt.slice "az" none (some (c : Int))).length ≤ 2) && (Txt.slice "az" none (some (c : Int))).cps.toList.all fun c => decide (c ∈ LET.cps.toList)) = true := by decide +kernel
theorem az_len {c : Nat} (h : c < 3) : (Txt.slice "az" none (some (c : Int))).length ≤ 2 := of_decide_eq_true (Bool.and_eq_true_iff.mp (az_ok c h)).1
theorem az_let {c : Nat} (h : c < 3) : ∀ x ∈ (Txt.slice "az" none (some (c : Int))).cps.toList, x ∈ LET.cps.toList := fun x hx => of_decide_eq_true (List.all_eq_true.mp (Bool.and_eq_true_iff.mp (az_ok c h)).2 x hx)
theorem leaf_okR {x : D} (h : Leaf x) : okR x := by
  rcases h with rfl | ⟨b, rfl⟩ | ⟨i, rfl, hi⟩ | ⟨c, hc, rfl⟩
  · trivial
  · trivial
  · have hp : 10 ^ 20 < 128 ^ 89 := by decide
    show i.natAbs < 128 ^ 89
    omega
  · exact ⟨Nat.le_trans (az_len hc) (by decide), az_let hc⟩
theorem okRs_of : ∀ {ds : List D}, (∀ d ∈ ds, okR d) → okRs ds
  | [], _ => trivial
  | d :: ds, h => ⟨h d List.mem_cons_self, okRs_of fun e he => h e (List.mem_cons_of_mem _ he)⟩
theorem thG_okR (cells : List Nat) (k : Nat) (s : BS) : okR (thG cells k s).1 := thG_all cells (P := fun _ x => okR x) (fun _ _ h => leaf_okR h) (fun _ ds hl h => ⟨by omega, okRs_of h⟩) k s
theorem deps_le {k : Nat} : ∀ {ds : List D}, (∀ d ∈ ds, dep d ≤ k) → deps ds ≤ k
  | [], _ => Nat.zero_le _
  | d :: ds, h => by
    rw [deps]
    exact Nat.max_le.mpr ⟨h d List.mem_cons_self, deps_le fun e he => h e (List.mem_cons_of_mem _ he)⟩
theorem leaf_dep {x : D} (h : Leaf x) : dep x = 0 := by
  rcases h with rfl | ⟨b, rfl⟩ | ⟨i, rfl, hi⟩ | ⟨c, hc, rfl⟩ <;> rfl
theorem thG_dep (cells : List Nat) (k : Nat) (s : BS) : dep (thG cells k s).1 ≤ k := thG_all cells (P := fun k x => dep x ≤ k) (fun _ _ h => by rw [leaf_dep h]; exact Nat.zero_le _) (fun k ds hl h => by
  rw [dep]
  have := deps_le h
  omega) k s
def bnd3 : Nat → Nat
  | 0 => 11
  | k + 1 => 2 + 2 * bnd3 k
theorem bnd3_ge (k : Nat) : 11 ≤ bnd3 k := by
  induction k with
  | zero => exact Nat.le_refl _
  | succ k ih => rw [bnd3]; omega
theorem leaf_oct {x : D} (h : Leaf x) : (octD x).length ≤ 11 := by
  rcases h with rfl | ⟨b, rfl⟩ | ⟨i, rfl, hi⟩ | ⟨c, hc, rfl⟩
  · decide
  · decide +revert
  · show (numOct i).length ≤ 11
    have hp : 10 ^ 20 < 128 ^ 10 := by decide
    unfold numOct
    by_cases h : i < 0
    · rw [if_pos h, List.length_cons]
      have := seven_len 10 (-1 - i).toNat (by omega) (by decide)
      omega
    · rw [if_neg h, List.length_cons]
      have := seven_len 10 i.toNat (by omega) (by decide)
      omega
  · have h2 := az_len hc
    show (5 :: (seven _ ++ idx _)).length ≤ 11
    rw [List.length_cons, List.length_append, idx_len]
    have := seven_len 1 (Txt.slice "az" none (some (c : Int))).length (by omega) (by decide)
    omega
theorem octDs_le {b : Nat} : ∀ {ds : List D}, (∀ d ∈ ds, (octD d).length ≤ b) → (octDs ds).length ≤ ds.length * b
  | [], _ => Nat.zero_le _
  | d :: ds, h => by
    rw [octDs, List.length_append, List.length_cons, Nat.add_mul, Nat.one_mul]
    have h1 := h d List.mem_cons_self
    have h2 := octDs_le fun e he => h e (List.mem_cons_of_mem _ he)
    omega
theorem thG_oct (cells : List Nat) (k : Nat) (s : BS) : (octD (thG cells k s).1).length ≤ bnd3 k := thG_all cells (P := fun k x => (octD x).length ≤ bnd3 k) (fun k _ h => Nat.le_trans (leaf_oct h) (bnd3_ge k)) (fun k ds hl h => by
  have h1 := octDs_le h
  show ((6 :: seven ds.length) ++ octDs ds).length ≤ _
  rw [List.length_append, List.length_cons, bnd3]
  have h2 := seven_len 1 ds.length (by omega) (by decide)
  have h3 : ds.length * bnd3 k ≤ 2 * bnd3 k := Nat.mul_le_mul_right _ hl
  omega) k s
theorem plDs_of {k : Nat} : ∀ {ds : List D}, (∀ d ∈ ds, plD k d = true) → plDs k ds = true
  | [], _ => rfl
  | d :: ds, h => by
    rw [plDs, h d List.mem_cons_self, plDs_of fun e he => h e (List.mem_cons_of_mem _ he)]
    rfl
theorem isW_ok {z : Str} (h1 : z.length ≤ 200) (h2 : ∀ c ∈ z.cps.toList, c ∈ LET.cps.toList) : isW (.str z) = true := by
  show (decide (z.length ≤ 200) && z.cps.toList.all fun c => decide (c ∈ LET.cps.toList)) = true
  rw [decide_eq_true h1, Bool.true_and, List.all_eq_true]
  exact fun c hc => decide_eq_true (h2 c hc)
theorem leaf_pl {x : D} (k : Nat) (h : Leaf x) : plD k x = true := by
  rcases h with rfl | ⟨b, rfl⟩ | ⟨i, rfl, hi⟩ | ⟨c, hc, rfl⟩
  · rfl
  · rfl
  · have hp : 10 ^ 20 < 10 ^ 400 := by decide
    rw [plD]
    show decide (i.natAbs < 10 ^ 400) = true
    exact decide_eq_true (Nat.lt_of_le_of_lt hi hp)
  · rw [plD]
    exact isW_ok (Nat.le_trans (az_len hc) (by decide)) (az_let hc)
theorem thG_pl (cells : List Nat) (k : Nat) (s : BS) : ∀ j, j + k ≤ 100 → plD j (thG cells k s).1 = true := thG_all cells (P := fun k x => ∀ j, j + k ≤ 100 → plD j x = true) (fun k x h j _ => leaf_pl j h) (fun k ds hl h j hj => by
  rw [plD, decide_eq_true (show j ≤ 100 by omega), plDs_of fun d hd => h d hd (j + 1) (by omega)]
  rfl) k s
theorem repS_b1 {n c : Nat} {cells : List Nat} {f : BS → D × BS} (h : ∀ (M : Sto) (s : BS), BagS M n c s cells → (f s).2.2.1 < 2147483647) {M : Sto} {s : BS} (B : BagS M n c s cells) (i : Nat) : (repS f i s).2.1 < 2147483647 := by
  rw [← rep_end]
  exact rep_b1 h i M s B
theorem bgO_cl {m c : Nat} {s : BS} (h : c < m) : Ob.cl m (bgO s c) := bagD_cl h
theorem thing_F {k n c dp : Nat} {s : BS} {cells : List Nat} {M : Sto} (B : BagS M n c s cells) (h : dp < k) : F__law_thing k [.obj n, .int (dp : Int)] M = some (.ok (thG cells dp s).1 (M.set n (bgO (thG cells dp s).2 c))) :=
  fnR_eq u__law_thing ⟨n, c, dp, s, cells, B, h, rfl, rfl, rfl⟩
end K90
set_option maxHeartbeats 4000000
namespace K90
open PySem PySem.Spec PyProof.Rows L2 DL
theorem hF__law_thing {k : Nat} : ∀ ds M r, F__law_thing (k + 1) ds M = some r → Clo M → D.cls M.length ds → ∃ d M1 fl M2, r = .ok d M1 ∧ bd__law_thing F__law_take (F__law_thing k) F__law_some (startD N__law_thing.length ds) M = some (fl, M2) ∧ DL.Fin M fl M2 d M1 := fnR_hF fun ds M d M1 ⟨n, c, dp, s, cells, B, hdp, e1, e2, e3⟩ c1 _ => by
  subst e1 e2 e3
  unfold bd__law_thing
  have hst : startD N__law_thing.length [.obj n, .int (dp : Int)] = [some (.obj n), some (.int (dp : Int)), none] := rfl
  rw [hst]
  have hcut : ∀ s' : BS, Clo (M.set n (bgO s' c)) := fun s' => clo_set1 c1 (bgO_cl B.ltc)
  have hle : ∀ o : Ob, M.length ≤ (M.set n o).length := fun o => by rw [List.length_set]; exact Nat.le_refl _
  have hgt : dTest (dOp fGt (dVar 1) (dC (.int 0))) [some (.obj n), some (.int (dp : Int)), none] M = some (.ok (decide (0 < dp)) M) := by
    have : dTest (dOp fGt (dVar 1) (dC (.int 0))) [some (.obj n), some (.int (dp : Int)), none] M = some (.ok (decide ((0 : Int) < (dp : Int))) M) := test_ok (op_ok rfl rfl o_gt)
    rw [this]
    congr 3
    simp
  cases dp with
  | zero =>
    obtain ⟨g, h7⟩ := some7_ok (ρ := [some (.obj n), some (.int ((0 : Nat) : Int)), none]) B (fun _ => rfl)
    have hno : ∀ {a b : DS} {t : DT}, dIfS (dAndT (dTest (dOp fGt (dVar 1) (dC (.int 0)))) t) a b [some (.obj n), some (.int ((0 : Nat) : Int)), none] M = b [some (.obj n), some (.int ((0 : Nat) : Int)), none] M := if_no (andT_f hgt)
    have hcl : D.cl M.length (thG cells 0 s).1 := okD_cl _ (okR_D _ (thG_okR cells 0 s))
    have e : thG cells 0 s = some7 cells s := by rw [thG]
    rw [seq_nx hno]
    rw [e] at hcl ⊢
    generalize some7 cells s = q at h7 hcl ⊢
    have hcl' : D.cl (M.set n (bgO q.2 c)).length q.1 := by rw [List.length_set]; exact hcl
    exact ⟨_, _, ret_ok h7, Fin.rt (Cl.cut (hle _) (hcut _) hcl')⟩
  | succ dp =>
    have t2 := take_F B (many := 2) (by decide) (by decide)
    have B1 := BagS.tk B 2
    have htest : dTest (dOp fEqA (dCall F__law_take (dCons (dVar 0) (dCons (dC (.int 2)) dNil))) (dC (.int 0))) [some (.obj n), some (.int ((dp + 1 : Nat) : Int)), none] M = some (.ok (decide ((tk cells s 2).1 = 0)) (M.set n (bgO (tk cells s 2).2 c))) := test_ok (op_ok (call_ok (cons_ok rfl (one_ok rfl)) t2) rfl (o_eqN _ 0 _))
    have hgt' := hgt
    rw [decide_eq_true (Nat.succ_pos dp)] at hgt'
    have hand := andT_t hgt' htest
    by_cases hz : (tk cells s 2).1 = 0
    · have e : thG cells (dp + 1) s = (.tup (rep (thG cells dp) (tk cells (tk cells s 2).2 3).1 (tk cells (tk cells s 2).2 3).2).1, (rep (thG cells dp) (tk cells (tk cells s 2).2 3).1 (tk cells (tk cells s 2).2 3).2).2) := by
        rw [thG, if_pos hz]
      have hcl : D.cl M.length (thG cells (dp + 1) s).1 := okD_cl _ (okR_D _ (thG_okR cells (dp + 1) s))
      rw [e] at hcl ⊢
      rw [decide_eq_true hz] at hand
      have t3 := take_F B1 (many := 3) (by decide) (by decide)
      have B2 := BagS.tk B1 3
      have hm := tk_lt cells (tk cells s 2).2 (many := 3) (by decide)
      rw [set_set] at t3 B2
      have hb := repS_b1 (fun M s B => thG_b1 dp M s B) B2
      generalize (tk cells (tk cells s 2).2 3).2 = s3 at t3 B2 hb hcl ⊢
      generalize (tk cells (tk cells s 2).2 3).1 = m at t3 hm hcl ⊢
      have hdi : diRng1 (dCons (dCall F__law_take (dCons (dVar 0) (dCons (dC (.int 3)) dNil))) dNil) [some (.obj n), some (.int ((dp + 1 : Nat) : Int)), none] (M.set n (bgO (tk cells s 2).2 c)) = some (.ok (itRng 0 m) (M.set n (bgO s3 c))) := rng1_ok (one_ok (call_ok (cons_ok rfl (one_ok rfl)) t3)) (by omega) (by omega)
      have hlen := rep_len (thG cells dp) m s3
      have hlc := lc_rel (vs := [2]) (dg := cgName 2) (dt := dYes) (de := dCall (F__law_thing k) (dCons (dVar 0) (dCons (dOp fSub (dVar 1) (dC (.int 1))) dNil))) hdi (fun i => M.set n (bgO (repS (thG cells dp) i s3) c)) (rep (thG cells dp) m s3).1 rfl (fun i => by rw [List.length_set, List.length_set]) (by rw [hlen]; have := sz; omega) (fun i hi => by
        rw [hlen] at hi
        have Bi : BagS (M.set n (bgO (repS (thG cells dp) i s3) c)) n c (repS (thG cells dp) i s3) cells := BagS.set B (hb i)
        have hg := rep_get (thG cells dp) m i s3 hi
        have hgi : (rep (thG cells dp) m s3).1[i] = (thG cells dp (repS (thG cells dp) i s3)).1 := by
          rw [List.getElem?_eq_getElem (by omega)] at hg
          exact Option.some.inj hg
        refine ⟨.int ((i : Nat) : Int), _, ?_, rfl, rfl, ?_⟩
        · show some _ = _
          rw [if_pos hi, Int.zero_add]
        · have hsub : dOp fSub (dVar 1) (dC (.int 1)) [some (.obj n), some (.int ((dp + 1 : Nat) : Int)), some (.int ((i : Nat) : Int))] (M.set n (bgO (repS (thG cells dp) i s3) c) ++ [.lst ((rep (thG cells dp) m s3).1.take i)]) = some (.ok (.int (dp : Int)) (M.set n (bgO (repS (thG cells dp) i s3) c) ++ [.lst ((rep (thG cells dp) m s3).1.take i)])) := by
            refine op_ok rfl rfl ?_
            rw [o_sub]
            congr 3
            omega
          have htf := thing_F (k := k) (dp := dp) (BagS.app Bi [.lst ((rep (thG cells dp) m s3).1.take i)]) (by omega)
          rw [set_appL (by rw [List.length_set]; exact B.lt), set_set, ← repS_succ, ← hgi] at htf
          exact call_ok (cons_ok rfl (one_ok hsub)) htf) (by
        rw [hlen]
        show some _ = _
        rw [if_neg (by omega)])
      have htup : fTuple [.obj (M.set n (bgO s3 c)).length] (M.set n (bgO (repS (thG cells dp) (rep (thG cells dp) m s3).1.length s3) c) ++ [.lst (rep (thG cells dp) m s3).1]) = some (.tup (rep (thG cells dp) m s3).1, M.set n (bgO (repS (thG cells dp) (rep (thG cells dp) m s3).1.length s3) c) ++ [.lst (rep (thG cells dp) m s3).1]) := by
        have : (M.set n (bgO s3 c)).length = (M.set n (bgO (repS (thG cells dp) (rep (thG cells dp) m s3).1.length s3) c)).length := by rw [List.length_set, List.length_set]
        rw [this]
        simp only [fTuple, itemsD, getA0, List.getElem?_cons_zero]
      rw [hlen] at htup hlc
      rw [rep_end]
      exact ⟨_, _, seq_rt ((if_yes hand).trans (ret_ok (cb_ok (one_ok hlc) htup))), Fin.rt (Cl.cut (hle _) (hcut _) (by rw [List.length_set]; exact hcl))⟩
    · have e : thG cells (dp + 1) s = some7 cells (tk cells s 2).2 := by
        rw [thG, if_neg hz]
      have hcl : D.cl M.length (thG cells (dp + 1) s).1 := okD_cl _ (okR_D _ (thG_okR cells (dp + 1) s))
      rw [e] at hcl ⊢
      rw [decide_eq_false hz] at hand
      obtain ⟨g, h7⟩ := some7_ok (ρ := [some (.obj n), some (.int ((dp + 1 : Nat) : Int)), none]) B1 (fun _ => rfl)
      have hno : ∀ {a : DS}, dIfS (dAndT (dTest (dOp fGt (dVar 1) (dC (.int 0)))) (dTest (dOp fEqA (dCall F__law_take (dCons (dVar 0) (dCons (dC (.int 2)) dNil))) (dC (.int 0))))) a dNext [some (.obj n), some (.int ((dp + 1 : Nat) : Int)), none] M = some (.nx [some (.obj n), some (.int ((dp + 1 : Nat) : Int)), none], M.set n (bgO (tk cells s 2).2 c)) := (if_no hand).trans rfl
      rw [set_set] at h7
      rw [seq_nx hno]
      generalize some7 cells (tk cells s 2).2 = q at h7 hcl ⊢
      have hcl' : D.cl (M.set n (bgO q.2 c)).length q.1 := by rw [List.length_set]; exact hcl
      exact ⟨_, _, ret_ok h7, Fin.rt (Cl.cut (hle _) (hcut _) hcl')⟩
end K90
set_option maxHeartbeats 4000000
namespace K90
open PySem PySem.Spec PyProof.Rows L2 DL
/-! ### _law_bag -/
def its (zs : List Int) : List D := zs.map D.int
theorem its_inj {a b : List Int} (h : its a = its b) : a = b := (List.map_inj_right (f := D.int) fun a b h => by injection h).mp h
def bag0 : BS := (0, 1234567891, 0)
def R__law_bag (ds : List D) (M : Sto) (d : D) (M1 : Sto) : Prop := ∃ zs : List Int, zs.length ≤ 63 ∧ ds = [.scr zs] ∧ d = .obj (M.length + 2) ∧ M1 = M ++ [.lst (its zs), .lst (nts (zs.map Int.natAbs)), bgO bag0 (M.length + 1)]
theorem u__law_bag : Fun R__law_bag := by
  rintro ds M d M1 d' M1' ⟨zs, _, rfl, rfl, rfl⟩ ⟨zs', _, e, rfl, rfl⟩
  injection e with e _
  injection e with e
  subst e
  exact ⟨rfl, rfl⟩
noncomputable def F__law_bag : DF := fnR R__law_bag
theorem hF__law_bag : ∀ ds M r, F__law_bag ds M = some r → Clo M → D.cls M.length ds → ∃ d M1 fl M2, r = .ok d M1 ∧ bd__law_bag (startD N__law_bag.length ds) M = some (fl, M2) ∧ DL.Fin M fl M2 d M1 := fnR_hF fun ds M d M1 ⟨zs, hl, e1, e2, e3⟩ c1 _ => by
  subst e1 e2 e3
  have hs := sz
  unfold bd__law_bag
  have hcut : DL.cutD (its zs) none (some (63 : Int)) = its zs := by
    have := cut_hi (its zs) 63
    rw [show ((63 : Nat) : Int) = 63 from rfl] at this
    rw [this, List.take_of_length_le (by unfold its; rw [List.length_map]; exact hl)]
  have hsl : fSl (.scr zs) none (some (63 : Int)) M = some (.obj M.length, M ++ [.lst (its zs)]) := by
    show some (D.obj M.length, M ++ [Ob.lst (DL.cutD (its zs) none (some (63 : Int)))]) = _
    rw [hcut]
  have hdi : diSeq (dSl (dVar 0) dNoP (dPart (dC (.int 63)))) (startD N__law_bag.length [.scr zs]) M = some (.ok (itSeq (.obj M.length)) (M ++ [.lst (its zs)])) := seq_ok (it := fun _ _ => none) (slice_ok rfl rfl (part_ok rfl) hsl) (by simp only [isSeqD, getA0, List.getElem?_cons_zero])
  have hlc := lc_rel (vs := [1]) (dg := cgName 1) (dt := dYes) (de := dCB fAbs (dCons (dVar 1) dNil)) hdi (fun _ => M ++ [.lst (its zs)]) (nts (zs.map Int.natAbs)) rfl (fun _ => rfl) (by unfold nts; rw [List.length_map, List.length_map]; omega) (fun i hi => by
      have hi' : i < zs.length := by unfold nts at hi; rw [List.length_map, List.length_map] at hi; exact hi
      refine ⟨.int zs[i], _, ?_, rfl, rfl, cb_ok (one_ok (d := .int zs[i]) rfl) ?_⟩
      · show (match ((M ++ [.lst (its zs)]) ++ [.lst _])[M.length]? with
        | some (.lst ds) => some ds[i]?
        | _ => none) = _
        rw [appA, getA0]
        show some (its zs)[i]? = _
        unfold its
        rw [List.getElem?_map, List.getElem?_eq_getElem hi']
        rfl
      · have e : (nts (zs.map Int.natAbs))[i] = .int ((zs[i].natAbs : Nat) : Int) := by
          have h2 : (nts (zs.map Int.natAbs))[i]? = some (.int ((zs[i].natAbs : Nat) : Int)) := by
            unfold nts
            rw [List.getElem?_map, List.getElem?_map, List.getElem?_eq_getElem hi']
            rfl
          rw [List.getElem?_eq_getElem hi] at h2
          exact Option.some.inj h2
        rw [e]
        show some (D.int _, _) = some (D.int _, _)
        congr 3
        split <;> omega) (by
      show (match ((M ++ [.lst (its zs)]) ++ [.lst _])[M.length]? with
        | some (.lst ds) => some ds[(nts (zs.map Int.natAbs)).length]?
        | _ => none) = _
      rw [appA, getA0]
      show some (its zs)[(nts (zs.map Int.natAbs)).length]? = _
      unfold its nts
      rw [List.getElem?_eq_none (by rw [List.length_map, List.length_map, List.length_map]; exact Nat.le_refl _)])
  rw [lenA, appA] at hlc
  have hlst := lst_ok (cons_ok (rfl : dC (.int 0) (startD N__law_bag.length [.scr zs]) M = some (.ok (.int 0) M)) (cons_ok (rfl : dC (.int 1234567891) (startD N__law_bag.length [.scr zs]) M = some (.ok (.int 1234567891) M)) (cons_ok (rfl : dC (.int 0) (startD N__law_bag.length [.scr zs]) M = some (.ok (.int 0) M)) (one_ok hlc)))) (show 4 ≤ sizeLine by decide)
  rw [lenA, appA] at hlst
  exact ⟨_, _, ret_ok hlst, Fin.rt Cl.id⟩
/-! ### _law_alike, of what is alike -/
inductive Alk (M : Sto) : D → D → D → Prop
  | same (z : D) : okD z → Alk M z z z
  | lists (n m : Nat) (es : List D) : M[n]? = some (.lst es) → M[m]? = some (.lst es) → okDs es → Alk M (.obj n) (.obj m) (.tup es)
theorem Alk.app {M g : Sto} {x y z : D} (h : Alk M x y z) : Alk (M ++ g) x y z := by
  cases h with
  | same _ h => exact .same _ h
  | lists n m es h1 h2 h3 => exact .lists n m es (get_app h1) (get_app h2) h3
def R__law_alike (ds : List D) (M : Sto) (d : D) (M1 : Sto) : Prop := ∃ x y z, Alk M x y z ∧ nod z ≤ 4000000 ∧ ds = [x, y] ∧ d = .bl true ∧ M = M1
theorem u__law_alike : Fun R__law_alike := by
  rintro ds M d M1 d' M1' ⟨x, y, z, _, _, rfl, rfl, rfl⟩ ⟨x', y', z', _, _, e, rfl, rfl⟩
  exact ⟨rfl, rfl⟩
noncomputable def F__law_alike : DF := fnR R__law_alike
abbrev Tri := List (D × D × D)
def triL (ts : Tri) : List D := ts.map fun t => .tup [t.1, t.2.1]
def triW (ts : Tri) : Nat := nods (ts.map fun t => t.2.2)
theorem triW_app (a b : Tri) : triW (a ++ b) = triW a + triW b := by
  unfold triW
  rw [List.map_append, nods_app]
theorem nod_pos (d : D) : 0 < nod d := by
  cases d with
  | tup ds => rw [nod]; omega
  | _ => exact Nat.one_pos
theorem LET_small : ∀ c ∈ LET.cps.toList, c < 0x110000 := by decide +kernel
theorem strOk_let {s : Str} (h : ∀ c ∈ s.cps.toList, c ∈ LET.cps.toList) : PyData.strOk s = true := by
  unfold PyData.strOk
  rw [← Array.all_toList, List.all_eq_true]
  exact fun c hc => decide_eq_true (LET_small c (h c hc))
/-- equal data, by one test -/
theorem o_neA_same {z : D} (h : okD z) (hn : ∀ ds, z ≠ .tup ds) (M : Sto) : fNeA z z M = some (.bl false, M) := by
  cases z with
  | non => rfl
  | bl b => cases b <;> rfl
  | int i => rw [o_neI]; simp
  | str s =>
    have hk := strOk_let h.2
    rw [o_neS s s M hk hk]
    simp
  | tup ds => exact absurd rfl (hn ds)
  | ty n => exact h.elim
  | scr n => exact h.elim
  | obj n => exact h.elim
theorem okDs_alk {M : Sto} {es : List D} (h : okDs es) : ∀ t ∈ es.map (fun e => (e, e, e)), Alk M t.1 t.2.1 t.2.2 := fun t ht => by
  obtain ⟨e, he, rfl⟩ := List.mem_map.mp ht
  exact .same e (okDs_mem h he)
theorem triL_zip (es : List D) : triL (es.map fun e => (e, e, e)) = zipD es es := by
  unfold triL zipD
  induction es with
  | nil => rfl
  | cons e es ih => simpa using ih
theorem triW_map (es : List D) : triW (es.map fun e => (e, e, e)) = nods es := by
  unfold triW
  rw [List.map_map]
  show nods (es.map fun e => e) = _
  rw [List.map_id']
inductive Kind (M : Sto) (x y z : D) : Prop
  | node (es : List D) (t : String) (hz : z = .tup es) (ho : okDs es) (hx : ∀ g, tyOf x (M ++ g) = some t) (hy : ∀ g, tyOf y (M ++ g) = some t) (ht : (t == "tuple" || (t == "list" || false)) = true) (hl : ∀ g, lenD x (M ++ g) = some es.length ∧ lenD y (M ++ g) = some es.length)
      (hzip : ∀ (g : Sto) (ρ : DL.LE) (i j : Nat), dVar i ρ (M ++ g) = some (.ok x (M ++ g)) → dVar j ρ (M ++ g) = some (.ok y (M ++ g)) → dListZip (dCons (dVar i) (dCons (dVar j) dNil)) ρ (M ++ g) = some (.ok (.obj (M ++ g).length) ((M ++ g) ++ [.lst (zipD es es)])))
  | leaf (t : String) (e1 : x = z) (e2 : y = z) (ho : okD z) (hn : ∀ ds, z ≠ .tup ds) (hx : ∀ g, tyOf z (M ++ g) = some t) (ht : (t == "tuple" || (t == "list" || false)) = false)
theorem Alk.kind {M : Sto} {x y z : D} (h : Alk M x y z) : Kind M x y z := by
  cases h with
  | lists n m es h1 h2 h3 =>
    have g1 : ∀ g, (M ++ g)[n]? = some (.lst es) := fun g => get_app h1
    have g2 : ∀ g, (M ++ g)[m]? = some (.lst es) := fun g => get_app h2
    refine .node es "list" rfl h3 (fun g => by simp only [tyOf, g1]) (fun g => by simp only [tyOf, g2]) rfl (fun g => ⟨by simp only [lenD, g1], by simp only [lenD, g2]⟩) (fun g ρ i j hi hj => ?_)
    simp only [dListZip, bnd, dCons, hi, hj, dNil, g1, g2, if_true]
  | same _ ho =>
    cases x with
    | tup es =>
      refine .node es "tuple" rfl ho.2 (fun g => rfl) (fun g => rfl) rfl (fun g => ⟨rfl, rfl⟩) (fun g ρ i j hi hj => ?_)
      simp only [dListZip, bnd, dCons, hi, hj, dNil, if_true]
    | non => exact .leaf _ rfl rfl ho (fun ds h => by cases h) (fun g => rfl) rfl
    | bl b => exact .leaf _ rfl rfl ho (fun ds h => by cases h) (fun g => rfl) rfl
    | int i => exact .leaf _ rfl rfl ho (fun ds h => by cases h) (fun g => rfl) rfl
    | str s => exact .leaf _ rfl rfl ho (fun ds h => by cases h) (fun g => rfl) rfl
    | ty n => exact ho.elim
    | scr n => exact ho.elim
    | obj n => exact ho.elim
section
variable {ρ : DL.LE} {S : Sto} {i j : Nat} {x y : D} {t : String}
theorem isi1 {T : String} (hv : dVar i ρ S = some (.ok x S)) (ht : tyOf x S = some t) (hT : isTy t T = some (t == T)) : dCB fIsI (dCons (dVar i) (dCons (dC (.ty T)) dNil)) ρ S = some (.ok (.bl (t == T)) S) := cb_ok (cons_ok hv (one_ok rfl)) (o_isi ht hT)
theorem isi2 (hv : dVar i ρ S = some (.ok x S)) (ht : tyOf x S = some t) : dCB fIsI (dCons (dVar i) (dCons (dTup (dCons (dC (.ty "tuple")) (dCons (dC (.ty "list")) dNil))) dNil)) ρ S = some (.ok (.bl (t == "tuple" || (t == "list" || false))) S) := by
  refine cb_ok (cons_ok hv (one_ok (tup_ok (cons_ok rfl (one_ok rfl)) (by decide)))) (z := .bl (t == "tuple" || (t == "list" || false))) ?_
  have e : isTys t [.ty "tuple", .ty "list"] = some (t == "tuple" || (t == "list" || false)) := rfl
  simp only [fIsI, ht, e]
theorem ne_bb (b : Bool) : fNeA (.bl b) (.bl b) S = some (.bl false, S) := by cases b <;> rfl
theorem ne_isi1 {T : String} (hv : dVar i ρ S = some (.ok x S)) (hw : dVar j ρ S = some (.ok y S)) (ht : tyOf x S = some t) (hu : tyOf y S = some t) (hT : isTy t T = some (t == T)) : dTest (dOp fNeA (dCB fIsI (dCons (dVar i) (dCons (dC (.ty T)) dNil))) (dCB fIsI (dCons (dVar j) (dCons (dC (.ty T)) dNil)))) ρ S = some (.ok false S) :=
  test_ok (op_ok (isi1 hv ht hT) (isi1 hw hu hT) (ne_bb _))
theorem ne_isi2 (hv : dVar i ρ S = some (.ok x S)) (hw : dVar j ρ S = some (.ok y S)) (ht : tyOf x S = some t) (hu : tyOf y S = some t) : dTest (dOp fNeA (dCB fIsI (dCons (dVar i) (dCons (dTup (dCons (dC (.ty "tuple")) (dCons (dC (.ty "list")) dNil))) dNil))) (dCB fIsI (dCons (dVar j) (dCons (dTup (dCons (dC (.ty "tuple")) (dCons (dC (.ty "list")) dNil))) dNil)))) ρ S = some (.ok false S) :=
  test_ok (op_ok (isi2 hv ht) (isi2 hw hu) (ne_bb _))
end
theorem triW_cons (t : D × D × D) (ts : Tri) : triW (t :: ts) = nod t.2.2 + triW ts := by
  unfold triW
  rw [List.map_cons, nods]
theorem triW_len (ts : Tri) : ts.length ≤ triW ts := by
  unfold triW
  have := len_nods (ts.map fun t => t.2.2)
  rw [List.length_map] at this
  exact this
def alkB : DS :=
    (dSeq (dAsg (dOp fIx (dVar 2) (dVar 3)) (dgTup 2 (dgCons (dgName 4) (dgCons (dgName 5) dgNil))))
  (dSeq (dAug fIAdd 3 (dC (.int 1)))
  (dSeq (dIfS (dOrT (dTest (dOp fNeA (dCB fIsI (dCons (dVar 4) (dCons (dC (.ty "bool")) dNil))) (dCB fIsI (dCons (dVar 5) (dCons (dC (.ty "bool")) dNil))))) (dTest (dOp fNeA (dCB fIsI (dCons (dVar 4) (dCons (dC (.ty "str")) dNil))) (dCB fIsI (dCons (dVar 5) (dCons (dC (.ty "str")) dNil)))))) (dRet (dC (.bl false))) dNext)
  (dSeq (dIfS (dTest (dOp fNeA (dCB fIsI (dCons (dVar 4) (dCons (dTup (dCons (dC (.ty "tuple")) (dCons (dC (.ty "list")) dNil))) dNil))) (dCB fIsI (dCons (dVar 5) (dCons (dTup (dCons (dC (.ty "tuple")) (dCons (dC (.ty "list")) dNil))) dNil))))) (dRet (dC (.bl false))) dNext)
  (dIfS (dTru (dCB fIsI (dCons (dVar 4) (dCons (dTup (dCons (dC (.ty "tuple")) (dCons (dC (.ty "list")) dNil))) dNil)))) (dSeq (dIfS (dOrT (dTest (dOp fNeA (dCB fIsI (dCons (dVar 4) (dCons (dC (.ty "tuple")) dNil))) (dCB fIsI (dCons (dVar 5) (dCons (dC (.ty "tuple")) dNil))))) (dTest (dOp fNeA (dCB fLen (dCons (dVar 4) dNil)) (dCB fLen (dCons (dVar 5) dNil))))) (dRet (dC (.bl false))) dNext)
  (dDrop (dBM "list" fExt (dVar 2) (dCons (dListZip (dCons (dVar 4) (dCons (dVar 5) dNil))) dNil)))) (dIfS (dTest (dOp fNeA (dVar 4) (dVar 5))) (dRet (dC (.bl false))) dNext))))))
theorem hF__law_alike : ∀ ds M r, F__law_alike ds M = some r → Clo M → D.cls M.length ds → ∃ d M1 fl M2, r = .ok d M1 ∧ bd__law_alike (startD N__law_alike.length ds) M = some (fl, M2) ∧ DL.Fin M fl M2 d M1 := fnR_hF fun ds M d M1 ⟨x, y, z, ha, hz, e1, e2, e3⟩ c1 _ => by
  subst e1 e2 e3
  have hs := sz
  unfold bd__law_alike
  have hst : startD N__law_alike.length [x, y] = [some x, some y, none, none, none, none] := rfl
  rw [hst]
  have p1 : dPar 2 3 (dCons (dLst (dCons (dTup (dCons (dVar 0) (dCons (dVar 1) dNil))) dNil)) (dCons (dC (.int 0)) dNil)) [some x, some y, none, none, none, none] M = some (.nx [some x, some y, some (.obj M.length), some (.int 0), none, none], M ++ [.lst [.tup [x, y]]]) :=
    par_ok (cons_ok (lst_ok (one_ok (tup_ok (cons_ok rfl (one_ok rfl)) (show 2 ≤ sizeLine by decide))) (show 1 ≤ sizeLine by decide)) (one_ok rfl))
  rw [seq_nx p1]
  have hw := while_rel (t := dTest (dOp fLt (dVar 3) (dCB fLen (dCons (dVar 2) dNil)))) (fun m ρ S => ∃ (ts : Tri) (i : Nat) (o1 o2 : Option D) (g : Sto), ρ = [some x, some y, some (.obj M.length), some (.int (i : Int)), o1, o2] ∧ S = M ++ (.lst (triL ts) :: g) ∧ (∀ t ∈ ts, Alk M t.1 t.2.1 t.2.2) ∧ i ≤ ts.length ∧ m = triW (ts.drop i) ∧ i + m ≤ 4000001) (db := alkB) ?_ (triW [(x, y, z)]) [some x, some y, some (.obj M.length), some (.int 0), none, none] (M ++ [.lst [.tup [x, y]]]) ⟨[(x, y, z)], 0, none, none, [], rfl, rfl, fun t ht => by rw [List.mem_singleton.mp ht]; exact ha, Nat.zero_le _, rfl, by
      rw [triW_cons, show triW [] = 0 from rfl]
      show 0 + (nod z + 0) ≤ _
      omega⟩
  · obtain ⟨ρ', S', h1, ts, i, o1, o2, g, rfl, rfl, _⟩ := hw
    unfold alkB at h1
    rw [seq_nx h1]
    exact ⟨_, _, ret_ok rfl, Fin.cut c1 trivial⟩
  · rintro m ρ S ⟨ts, i, o1, o2, g, rfl, rfl, hts, hi, rfl, hb⟩
    have hP : ∀ (o : Ob) (g : Sto), (M ++ (o :: g))[M.length]? = some o := fun o g => getA0
    have hlen : (triL ts).length = ts.length := by unfold triL; rw [List.length_map]
    have ht : dTest (dOp fLt (dVar 3) (dCB fLen (dCons (dVar 2) dNil))) [some x, some y, some (.obj M.length), some (.int (i : Int)), o1, o2] (M ++ (.lst (triL ts) :: g)) = some (.ok (decide (i < ts.length)) (M ++ (.lst (triL ts) :: g))) := by
      have hl : fLen [.obj M.length] (M ++ (.lst (triL ts) :: g)) = some (.int (ts.length : Nat), M ++ (.lst (triL ts) :: g)) := by
        simp only [fLen, lenD, hP, hlen]
      have : dTest (dOp fLt (dVar 3) (dCB fLen (dCons (dVar 2) dNil))) [some x, some y, some (.obj M.length), some (.int (i : Int)), o1, o2] (M ++ (.lst (triL ts) :: g)) = some (.ok (decide ((i : Int) < (ts.length : Nat))) (M ++ (.lst (triL ts) :: g))) := test_ok (op_ok rfl (cb_ok (one_ok rfl) hl) o_lt)
      rw [this]
      congr 3
      simp
    rw [ht]
    rcases Nat.lt_or_ge i ts.length with hlt | hge
    · right
      rw [decide_eq_true hlt]
      unfold alkB
      have hd : ts.drop i = ts[i] :: ts.drop (i + 1) := List.drop_eq_getElem_cons hlt
      have hal := hts ts[i] (List.getElem_mem hlt)
      rw [hd, triW_cons] at hb ⊢
      have hlen2 := triW_len (ts.drop (i + 1))
      rw [List.length_drop] at hlen2
      have hnp := nod_pos ts[i].2.2
      have b1 : dAsg (dOp fIx (dVar 2) (dVar 3)) (dgTup 2 (dgCons (dgName 4) (dgCons (dgName 5) dgNil))) [some x, some y, some (.obj M.length), some (.int (i : Int)), o1, o2] (M ++ (.lst (triL ts) :: g)) = some (.nx [some x, some y, some (.obj M.length), some (.int (i : Int)), some ts[i].1, some ts[i].2.1], M ++ (.lst (triL ts) :: g)) :=
        asg_ok (op_ok rfl rfl (bag_ix (hP _ _) (d := .tup [ts[i].1, ts[i].2.1]) (by unfold triL; rw [List.getElem?_map, List.getElem?_eq_getElem hlt]; rfl))) rfl
      have b2 : dAug fIAdd 3 (dC (.int 1)) [some x, some y, some (.obj M.length), some (.int (i : Int)), some ts[i].1, some ts[i].2.1] (M ++ (.lst (triL ts) :: g)) = some (.nx [some x, some y, some (.obj M.length), some (.int ((i + 1 : Nat) : Int)), some ts[i].1, some ts[i].2.1], M ++ (.lst (triL ts) :: g)) := aug_ok rfl rfl rfl
      have v4 : ∀ S', dVar 4 [some x, some y, some (.obj M.length), some (.int ((i + 1 : Nat) : Int)), some ts[i].1, some ts[i].2.1] S' = some (.ok ts[i].1 S') := fun _ => rfl
      have v5 : ∀ S', dVar 5 [some x, some y, some (.obj M.length), some (.int ((i + 1 : Nat) : Int)), some ts[i].1, some ts[i].2.1] S' = some (.ok ts[i].2.1 S') := fun _ => rfl
      have v2 : ∀ S', dVar 2 [some x, some y, some (.obj M.length), some (.int ((i + 1 : Nat) : Int)), some ts[i].1, some ts[i].2.1] S' = some (.ok (.obj M.length) S') := fun _ => rfl
      have fin : ∀ {db : DS} {X : Option (Fl × Sto)}, db [some x, some y, some (.obj M.length), some (.int ((i + 1 : Nat) : Int)), some ts[i].1, some ts[i].2.1] (M ++ (.lst (triL ts) :: g)) = X → dSeq (dAsg (dOp fIx (dVar 2) (dVar 3)) (dgTup 2 (dgCons (dgName 4) (dgCons (dgName 5) dgNil)))) (dSeq (dAug fIAdd 3 (dC (.int 1))) db) [some x, some y, some (.obj M.length), some (.int (i : Int)), o1, o2] (M ++ (.lst (triL ts) :: g)) = X := fun h => by rw [seq_nx b1, seq_nx b2]; exact h
      generalize hρ2 : [some x, some y, some (.obj M.length), some (.int ((i + 1 : Nat) : Int)), some ts[i].1, some ts[i].2.1] = ρ2 at v2 v4 v5 fin ⊢
      cases hal.kind with
      | leaf t e1 e2 ho hn hx htt =>
        have tx : tyOf ts[i].1 (M ++ (.lst (triL ts) :: g)) = some t := by rw [e1]; exact hx _
        have ty : tyOf ts[i].2.1 (M ++ (.lst (triL ts) :: g)) = some t := by rw [e2]; exact hx _
        have i1 := orT_f (ne_isi1 (v4 _) (v5 _) tx ty (isTy_bool t)) (ne_isi1 (v4 _) (v5 _) tx ty (isTy_str t))
        have i2 := ne_isi2 (v4 _) (v5 _) tx ty
        have i3 := tru_ok (isi2 (v4 _) tx) rfl
        rw [htt] at i3
        have i4 : dTest (dOp fNeA (dVar 4) (dVar 5)) ρ2 (M ++ (.lst (triL ts) :: g)) = some (.ok false (M ++ (.lst (triL ts) :: g))) := test_ok (op_ok (v4 _) (v5 _) (by rw [e1, e2]; exact o_neA_same ho hn _))
        exact ⟨_, _, _, triW (ts.drop (i + 1)), rfl, .inl (fin (by rw [seq_nx ((if_no i1).trans rfl), seq_nx ((if_no i2).trans rfl), if_no i3, if_no i4]; rfl)), by omega, ts, i + 1, _, _, g, hρ2.symm, rfl, hts, hlt, rfl, by omega⟩
      | node es t hz2 ho hx hy htt hl hzip =>
        have tx := hx (.lst (triL ts) :: g)
        have ty := hy (.lst (triL ts) :: g)
        have i1 := orT_f (ne_isi1 (v4 _) (v5 _) tx ty (isTy_bool t)) (ne_isi1 (v4 _) (v5 _) tx ty (isTy_str t))
        have i2 := ne_isi2 (v4 _) (v5 _) tx ty
        have i3 := tru_ok (isi2 (v4 _) tx) rfl
        rw [htt] at i3
        have hl1 : fLen [ts[i].1] (M ++ (.lst (triL ts) :: g)) = some (.int (es.length : Nat), M ++ (.lst (triL ts) :: g)) := by simp only [fLen, (hl _).1]
        have hl2 : fLen [ts[i].2.1] (M ++ (.lst (triL ts) :: g)) = some (.int (es.length : Nat), M ++ (.lst (triL ts) :: g)) := by simp only [fLen, (hl _).2]
        have i4 : dTest (dOp fNeA (dCB fLen (dCons (dVar 4) dNil)) (dCB fLen (dCons (dVar 5) dNil))) ρ2 (M ++ (.lst (triL ts) :: g)) = some (.ok false (M ++ (.lst (triL ts) :: g))) := test_ok (op_ok (cb_ok (one_ok (v4 _)) hl1) (cb_ok (one_ok (v5 _)) hl2) (by rw [o_neI]; simp))
        have i5 := orT_f (ne_isi1 (v4 _) (v5 _) tx ty (isTy_tuple t)) i4
        have hn : nod ts[i].2.2 = 1 + nods es := by rw [hz2, nod]
        have hne := len_nods es
        have hzp := hzip (.lst (triL ts) :: g) ρ2 4 5 (v4 _) (v5 _)
        rw [appA] at hzp
        have hext : dDrop (dBM "list" fExt (dVar 2) (dCons (dListZip (dCons (dVar 4) (dCons (dVar 5) dNil))) dNil)) ρ2 (M ++ (.lst (triL ts) :: g)) = some (.nx ρ2, M ++ (.lst (triL (ts ++ es.map fun e => (e, e, e))) :: (g ++ [.lst (zipD es es)]))) := by
          refine drop_ok (bm_ok (v2 _) (ty_list (hP _ _)) (one_ok hzp) (z := .non) ?_)
          have hit : itemsD (.obj (M ++ .lst (triL ts) :: g).length) (M ++ (.lst (triL ts) :: (g ++ [.lst (zipD es es)]))) = some (zipD es es) := by
            rw [← List.cons_append, ← appA]
            simp only [itemsD, getA0, List.getElem?_cons_zero]
          rw [List.cons_append, ext_ok (L := triL ts) (es := zipD es es) (hP _ _) hit (by
            have : (zipD es es).length = es.length := by unfold zipD; simp
            rw [hlen, this]
            omega), setA0]
          unfold triL
          rw [List.map_append]
          have := triL_zip es
          unfold triL at this
          rw [this]
          rfl
        have hdr : (ts ++ es.map fun e => (e, e, e)).drop (i + 1) = ts.drop (i + 1) ++ es.map fun e => (e, e, e) := List.drop_append_of_le_length hlt
        refine ⟨_, _, _, triW (ts.drop (i + 1)) + nods es, rfl, .inl (fin (by rw [seq_nx ((if_no i1).trans rfl), seq_nx ((if_no i2).trans rfl), if_yes i3, seq_nx ((if_no i5).trans rfl), hext])), by omega, ts ++ es.map (fun e => (e, e, e)), i + 1, _, _, g ++ [.lst (zipD es es)], hρ2.symm, rfl, ?_, ?_, ?_, by omega⟩
        · intro t ht
          rcases List.mem_append.mp ht with h | h
          · exact hts t h
          · exact okDs_alk ho t h
        · rw [List.length_append]; omega
        · rw [hdr, triW_app, triW_map]
    · left
      have e : i = ts.length := by omega
      subst e
      rw [decide_eq_false (Nat.lt_irrefl _)]
      have h0 : triW (ts.drop ts.length) = 0 := by rw [List.drop_length]; rfl
      exact ⟨_, rfl, h0, ts, ts.length, o1, o2, g, rfl, rfl, hts, Nat.le_refl _, h0.symm, by omega⟩
end K90
set_option maxHeartbeats 4000000
namespace K90
open PySem PySem.Spec PyProof.Rows L2 DL
/-! ### a changed octet is seen by the check -/
theorem step_inj {a b c : Nat} (ha : a < 4294967291) (hb : b < 4294967291) (h : (a * 257 + c + 1) % 4294967291 = (b * 257 + c + 1) % 4294967291) : a = b := by omega
theorem fold_inj : ∀ (l : List Nat) (a b : Nat), a < 4294967291 → b < 4294967291 → l.foldl (fun a c => (a * 257 + c + 1) % 4294967291) a = l.foldl (fun a c => (a * 257 + c + 1) % 4294967291) b → a = b
  | [], a, b, _, _, h => h
  | x :: l, a, b, ha, hb, h => step_inj ha hb (fold_inj l _ _ (Nat.mod_lt _ (by decide)) (Nat.mod_lt _ (by decide)) h)
theorem chk_change (pre post : List Nat) (x y : Nat) (hx : x < 256) (hy : y < 256) (h : chk (pre ++ x :: post) = chk (pre ++ y :: post)) : x = y := by
  unfold chk at h
  rw [List.foldl_append, List.foldl_append, List.foldl_cons, List.foldl_cons] at h
  have h1 := fold_inj post _ _ (Nat.mod_lt _ (by decide)) (Nat.mod_lt _ (by decide)) h
  omega
theorem chk4_inj {a b : Nat} (ha : a < 4294967291) (hb : b < 4294967291) (h : chk4 a = chk4 b) : a = b := by
  unfold chk4 at h
  injection h with h1 h
  injection h with h2 h
  injection h with h3 h
  injection h with h4 _
  omega
def bendL (l : List Nat) (p o : Nat) : List Nat := l.take p ++ o :: l.drop (p + 1)
theorem bend_len {l : List Nat} {p o : Nat} (h : p < l.length) : (bendL l p o).length = l.length := by
  unfold bendL
  rw [List.length_append, List.length_cons, List.length_take, List.length_drop]
  omega
theorem bend_get {l : List Nat} {p o : Nat} (h : p < l.length) : (bendL l p o)[p]? = some o := by
  unfold bendL
  rw [List.getElem?_append_right (by rw [List.length_take]; omega), List.length_take, Nat.min_eq_left (by omega), Nat.sub_self]
  rfl
theorem split_at {l : List Nat} {p : Nat} (h : p < l.length) : l = l.take p ++ l[p] :: l.drop (p + 1) := by
  rw [← List.drop_eq_getElem_cons h, List.take_append_drop]
theorem bend_byt {l : List Nat} {p o : Nat} (hl : Byt l) (ho : o < 256) : Byt (bendL l p o) := byt_app (fun x hx => hl x (List.mem_of_mem_take hx)) (byt_cons ho fun x hx => hl x (List.mem_of_mem_drop hx))
/-- .. the sealed list with one octet otherwise is not sealed -/
theorem bend_not {m : List Nat} {p o : Nat} (hb : Byt (sealedL m)) (hp : p < (sealedL m).length) (ho : o < 256) (hne : (sealedL m)[p]'hp ≠ o) : isSealedL (bendL (sealedL m) p o) = false := by
  have hlen := sealed_len m
  have hbl := bend_len (o := o) hp
  unfold isSealedL
  rw [Bool.and_eq_false_iff]
  right
  refine decide_eq_false fun h => ?_
  rw [hbl, hlen, Nat.add_sub_cancel] at h
  have hsp := split_at hp
  rcases Nat.lt_or_ge p m.length with hlt | hge
  · -- the octet is of the body
    have e1 : (bendL (sealedL m) p o).take m.length = bendL m p o := by
      unfold bendL sealedL
      rw [List.take_append_of_le_length (l₁ := m) (by omega), List.drop_append_of_le_length (by omega), ← List.cons_append, ← List.append_assoc, List.take_append_of_le_length (by rw [List.length_append, List.length_cons, List.length_take, List.length_drop]; omega)]
      rw [List.take_of_length_le]
      rw [List.length_append, List.length_cons, List.length_take, List.length_drop]
      omega
    have e2 : bendL (sealedL m) p o = bendL m p o ++ chk4 (chk m) := by
      unfold bendL sealedL
      rw [List.take_append_of_le_length (l₁ := m) (by omega), List.drop_append_of_le_length (by omega), ← List.cons_append, ← List.append_assoc]
    rw [e1, e2] at h
    unfold sealedL at h
    have h3 := chk4_inj (chk_lt _) (chk_lt _) (List.append_cancel_left h)
    have hm := split_at hlt
    have hg : (sealedL m)[p] = m[p] := List.getElem_append_left hlt
    have hbm : m[p] < 256 := by rw [← hg]; exact hb _ (List.getElem_mem _)
    have h4 : chk (m.take p ++ o :: m.drop (p + 1)) = chk (m.take p ++ m[p] :: m.drop (p + 1)) := by
      rw [← hm]
      exact h3
    have h5 := chk_change _ _ _ _ ho hbm h4
    exact hne (by rw [hg, h5])
  · -- the octet is of the check
    have e1 : (bendL (sealedL m) p o).take m.length = m := by
      unfold bendL
      rw [List.take_append_of_le_length (by rw [List.length_take]; omega), List.take_take, Nat.min_eq_left hge]
      unfold sealedL
      rw [List.take_append_of_le_length (Nat.le_refl _), List.take_length]
    rw [e1] at h
    have h2 := bend_get (o := o) hp
    rw [← h, List.getElem?_eq_getElem hp] at h2
    exact hne (Option.some.inj h2)
/-! ### the first unlike place of a bent list -/
theorem du_bend : ∀ (i p o : Nat) (l : List Nat) (hp : p < l.length), l[p] ≠ o → du i l (bendL l p o) = some (i + p)
  | i, 0, o, a :: l, hp, hne => by
    show du i (a :: l) (o :: l) = _
    rw [du, if_neg (show ¬ a = o from hne)]
    rfl
  | i, p + 1, o, a :: l, hp, hne => by
    show du i (a :: l) (a :: bendL l p o) = _
    rw [du, if_pos rfl, du_bend (i + 1) p o l (by rw [List.length_cons] at hp; omega) hne, Nat.add_assoc, Nat.add_comm 1 p]
theorem fuD_bend {l : List Nat} {p o : Nat} (hp : p < l.length) (hne : l[p] ≠ o) : fuD l (bendL l p o) = .int (p : Int) := by
  unfold fuD
  rw [du_bend 0 p o l hp hne, Nat.zero_add]
theorem du_lt : ∀ (i : Nat) (a b : List Nat) (j : Nat), du i a b = some j → j < i + a.length
  | i, [], b, j, h => by simp [du] at h
  | i, a :: as, [], j, h => by simp [du] at h
  | i, a :: as, b :: bs, j, h => by
    rw [du] at h
    rw [List.length_cons]
    by_cases e : a = b
    · rw [if_pos e] at h
      have := du_lt (i + 1) as bs j h
      omega
    · rw [if_neg e] at h
      cases h
      omega
theorem small_int {n : Nat} (h : n ≤ 100000000) : okD (.int (n : Int)) := by
  have hp : 100000000 < 128 ^ 99 := by decide
  show (n : Int).natAbs < 128 ^ 99
  omega
theorem fuD_ok {a b : List Nat} (ha : a.length ≤ 16000000) : okD (fuD a b) ∧ nod (fuD a b) = 1 := by
  unfold fuD
  cases h : du 0 a b with
  | some j =>
    have := du_lt 0 a b j h
    exact ⟨small_int (by omega), rfl⟩
  | none =>
    dsimp only
    by_cases e : a.length = b.length
    · rw [if_pos e]
      exact ⟨trivial, rfl⟩
    · rw [if_neg e]
      exact ⟨small_int (by omega), rfl⟩
/-! ### octets as things -/
theorem okDs_ints : ∀ {l : List Nat}, Byt l → okDs (l.map fun n : Nat => D.int (n : Int))
  | [], _ => trivial
  | x :: l, h => ⟨small_int (Nat.le_trans (Nat.le_of_lt (h x List.mem_cons_self)) (by decide)), okDs_ints fun y hy => h y (List.mem_cons_of_mem _ hy)⟩
theorem okRs_ints : ∀ {l : List Nat}, Byt l → okRs (l.map fun n : Nat => D.int (n : Int))
  | [], _ => trivial
  | x :: l, h => ⟨by
    have hp : 256 < 128 ^ 89 := by decide
    have := h x List.mem_cons_self
    show ((x : Nat) : Int).natAbs < 128 ^ 89
    omega, okRs_ints fun y hy => h y (List.mem_cons_of_mem _ hy)⟩
theorem oc_okR {l : List Nat} (h : Byt l) (hl : l.length ≤ 16000000) : okR (oc l) := ⟨by rw [List.length_map]; exact hl, okRs_ints h⟩
theorem nods_ints : ∀ l : List Nat, nods (l.map fun n : Nat => D.int (n : Int)) = l.length
  | [] => rfl
  | x :: l => by
    rw [List.map_cons, nods, nods_ints l, List.length_cons]
    show 1 + l.length = _
    omega
theorem oc_nod (l : List Nat) : nod (oc l) = 1 + l.length := by
  unfold oc
  rw [nod, nods_ints]
theorem deps_ints : ∀ l : List Nat, deps (l.map fun n : Nat => D.int (n : Int)) = 0
  | [] => rfl
  | x :: l => by
    rw [List.map_cons, deps, deps_ints l]
    rfl
theorem oc_dep (l : List Nat) : dep (oc l) = 1 := by
  unfold oc
  rw [dep, deps_ints]
theorem pl_ints (k : Nat) : ∀ {l : List Nat}, Byt l → plDs k (l.map fun n : Nat => D.int (n : Int)) = true
  | [], _ => rfl
  | x :: l, h => by
    have hp : 256 < 10 ^ 400 := by decide
    have hx := h x List.mem_cons_self
    have e : plD k (.int (x : Int)) = true := by
      rw [plD]
      show decide (((x : Nat) : Int).natAbs < 10 ^ 400) = true
      exact decide_eq_true (Nat.lt_trans (by omega) hp)
    rw [List.map_cons, plDs, e, pl_ints k fun y hy => h y (List.mem_cons_of_mem _ hy)]
    rfl
theorem oc_pl {k : Nat} (hk : k ≤ 100) {l : List Nat} (h : Byt l) : plD k (oc l) = true := by
  unfold oc
  rw [plD, decide_eq_true hk, pl_ints _ h]
  rfl
theorem int_oct {x : Nat} (h : x < 256) : (octD (.int (x : Int))).length ≤ 3 := by
  show (numOct (x : Int)).length ≤ 3
  unfold numOct
  rw [if_neg (by omega), List.length_cons]
  have := seven_len 2 (x : Int).toNat (by omega) (by decide)
  omega
theorem ints_oct : ∀ {l : List Nat}, Byt l → (octDs (l.map fun n : Nat => D.int (n : Int))).length ≤ 3 * l.length
  | [], _ => Nat.zero_le _
  | x :: l, h => by
    rw [List.map_cons, octDs, List.length_append, List.length_cons]
    have h1 := int_oct (h x List.mem_cons_self)
    have h2 := ints_oct fun y hy => h y (List.mem_cons_of_mem _ hy)
    omega
theorem oc_oct {l : List Nat} (h : Byt l) (hl : l.length ≤ 16000000) : (octD (oc l)).length ≤ 3 * l.length + 6 := by
  show ((6 :: seven (l.map fun n : Nat => D.int (n : Int)).length) ++ octDs (l.map fun n : Nat => D.int (n : Int))).length ≤ _
  rw [List.length_append, List.length_cons, List.length_map]
  have h1 := seven_short l.length (by omega)
  have h2 := ints_oct h
  omega
/-! ### octets of octets -/
structure Fit (x : D) (b d : Nat) : Prop where
  r : okR x
  oct : (octD x).length ≤ b
  dep : dep x ≤ d
  pl : ∀ j, j + d ≤ 100 → plD j x = true
theorem Fit.up {x : D} {b d : Nat} (h : Fit x b d) (hb : b ≤ 1000000) : Fit (oc (packedL x)) (3 * b + 21) 1 ∧ (packedL x).length ≤ b + 5 ∧ Byt (packedL x) := by
  have hby := packed_byt (okR_D x h.r)
  have hl := packed_len x
  have ho := h.oct
  have h3 := oc_oct hby (by omega)
  exact ⟨⟨oc_okR hby (by omega), by omega, by rw [oc_dep]; exact Nat.le_refl _, fun j hj => oc_pl (by omega) hby⟩, by omega, hby⟩
def tow (x : D) : Nat → D
  | 0 => x
  | j + 1 => oc (packedL (tow x j))
theorem thG_fit (cells : List Nat) (s : BS) : Fit (thG cells 2 s).1 50 2 := ⟨thG_okR cells 2 s, thG_oct cells 2 s, thG_dep cells 2 s, thG_pl cells 2 s⟩
theorem tow_fit {x : D} (h : Fit x 50 2) : ∀ j, j < 3 → Fit (tow x j) 600 2
  | 0, _ => ⟨h.r, Nat.le_trans h.oct (by decide), h.dep, h.pl⟩
  | 1, _ => by
    have h1 := (h.up (by decide)).1
    exact ⟨h1.r, Nat.le_trans h1.oct (by decide), Nat.le_trans h1.dep (by decide), fun j hj => h1.pl j (by omega)⟩
  | 2, _ => by
    have h1 := (h.up (by decide)).1
    have h2 := (h1.up (by decide)).1
    exact ⟨h2.r, Nat.le_trans h2.oct (by decide), Nat.le_trans h2.dep (by decide), fun j hj => h2.pl j (by omega)⟩
end K90
set_option maxHeartbeats 1000000
namespace K90
open PySem PySem.Spec PyProof.Rows L2 DL
/-! ### what stands while the law runs -/
structure Inv (M : Sto) (n c : Nat) (cells : List Nat) (s : BS) (S : Sto) : Prop where
  ext : ∃ g, S = M ++ g
  lo : M.length ≤ c
  lt : c < n
  bag : BagS S n c s cells
section
variable {M S : Sto} {n c : Nat} {cells : List Nat} {s : BS}
theorem Inv.app (I : Inv M n c cells s S) (g : Sto) : Inv M n c cells s (S ++ g) := by
  obtain ⟨h, e⟩ := I.ext
  exact ⟨⟨h ++ g, by rw [e, appA]⟩, I.lo, I.lt, BagS.app I.bag g⟩
theorem ext_set {i : Nat} {o : Ob} (h : ∃ g, S = M ++ g) (hi : M.length ≤ i) : ∃ g, S.set i o = M ++ g := by
  obtain ⟨g, rfl⟩ := h
  exact ⟨g.set (i - M.length) o, List.set_append_right _ _ hi⟩
theorem Inv.setB {s' : BS} (I : Inv M n c cells s S) (h : s'.2.1 < 2147483647) : Inv M n c cells s' (S.set n (bgO s' c)) :=
  ⟨ext_set I.ext (Nat.le_of_lt (Nat.lt_of_le_of_lt I.lo I.lt)), I.lo, I.lt, BagS.set I.bag h⟩
theorem Inv.tk (I : Inv M n c cells s S) (many : Nat) : Inv M n c cells (tk cells s many).2 (S.set n (bgO (tk cells s many).2 c)) := I.setB (tk_b1 I.bag many)
theorem Inv.setO {t : Nat} (I : Inv M n c cells s S) (ht : n < t) (o : Ob) : Inv M n c cells s (S.set t o) := by
  have h1 := I.lo
  have h2 := I.lt
  refine ⟨ext_set I.ext (by omega), h1, h2, ⟨?_, ?_, I.bag.b1, I.bag.len⟩⟩
  · rw [List.getElem?_set_ne (by omega)]; exact I.bag.bag
  · rw [List.getElem?_set_ne (by omega)]; exact I.bag.cel
theorem get_bag {t : Nat} {o o' : Ob} (h : S[t]? = some o) (ht : n < t) : (S.set n o')[t]? = some o := by
  rw [List.getElem?_set_ne (by omega)]; exact h
theorem lt_of_get {t : Nat} {o : Ob} (h : S[t]? = some o) : t < S.length := (List.getElem?_eq_some_iff.mp h).1
end
/-! ### the calls -/
section
variable {S S1 S2 S3 : Sto} {ρ : DL.LE} {x y z : D}
theorem alike_F (h : Alk S x y z) (hz : nod z ≤ 4000000) : F__law_alike [x, y] S = some (.ok (.bl true) S) := fnR_eq u__law_alike ⟨x, y, z, h, hz, rfl, rfl, rfl⟩
/-- if not alike(..): return False -/
theorem alike_go {aa : DA} (h : aa ρ S = some (.ok [x, y] S1)) (ha : Alk S1 x y z) (hz : nod z ≤ 4000000) : dIfS (dNotT (dTru (dCall F__law_alike aa))) (dRet (dC (.bl false))) dNext ρ S = some (.nx ρ, S1) :=
  (if_no (notT_ok (tru_ok (call_ok h (alike_F ha hz)) rfl))).trans rfl
theorem packed_F {b d : Nat} (h : Fit x b d) (hb : b ≤ 1000000) : F_packed [x] S = some (.ok (oc (packedL x)) S) := fnR_eq u_packed ⟨x, okR_D x h.r, by have := h.oct; omega, rfl, rfl, rfl⟩
theorem own_packed_F {b d : Nat} (h : Fit x b d) (hb : b ≤ 1000000) (hd : d < 4) : F__law_own_packed 4 [x] S = some (.ok (oc (packedL x)) S) := fnR_eq u__law_own_packed ⟨x, okR_D x h.r, by have := h.dep; omega, by have := h.oct; omega, rfl, rfl, rfl⟩
theorem unpacked_F {b d : Nat} (h : Fit x b d) (hb : b ≤ 1000) (hd : d < 4) : F_unpacked [oc (packedL x)] S = some (.ok x S) := fnR_eq u_unpacked ⟨x, h.r, h.pl 1 (by omega), by rw [packed_len]; have := h.oct; omega, rfl, rfl, rfl⟩
theorem oc_alk {l : List Nat} (h : Byt l) (hl : l.length ≤ 1000000) : Alk S (oc l) (oc l) (oc l) ∧ nod (oc l) ≤ 4000000 := ⟨.same _ (okR_D _ (oc_okR h (by omega))), by rw [oc_nod]; omega⟩
theorem fu_F {a b : List Nat} : F_first_unlike [oc a, oc b] S = some (.ok (fuD a b) S) := fnR_eq u_first_unlike ⟨a, b, rfl, rfl, rfl⟩
theorem apart_F {a b : List Nat} (ha : a.length ≤ 16000000) (hb : b.length ≤ 16000000) : F__law_apart_at [oc a, oc b] S = some (.ok (fuD a b) S) := fnR_eq u__law_apart_at ⟨a, b, ha, hb, rfl, rfl, rfl⟩
theorem spoilt_F {l : List Nat} {p o : Nat} (hp : p < l.length) (hl : l.length ≤ 16000000) : F_spoilt [oc l, .int (p : Int), .int (o : Int)] S = some (.ok (oc (bendL l p o)) S) := fnR_eq u_spoilt ⟨l, p, o, hp, hl, rfl, rfl, rfl⟩
theorem is_sealed_F {l : List Nat} (hb : Byt l) (hl : l.length ≤ 16000000) : F_is_sealed [oc l] S = some (.ok (.bl (isSealedL l)) S) := fnR_eq u_is_sealed ⟨l, hb, hl, rfl, rfl, rfl⟩
theorem check_of_F {l : List Nat} (hb : Byt l) : F_check_of [oc l] S = some (.ok (.int (chk l : Nat)) S) := fnR_eq u_check_of ⟨l, hb, rfl, rfl, rfl⟩
theorem law_check_F {l : List Nat} (hb : Byt l) : F__law_check [oc l] S = some (.ok (.int (chk l : Nat)) S) := fnR_eq u__law_check ⟨l, hb, rfl, rfl, rfl⟩
theorem sealed_F2 {l : List Nat} (hb : Byt l) (hl : l.length ≤ 16000000) : F_sealed [oc l] S = some (.ok (oc (sealedL l)) S) := fnR_eq u_sealed ⟨l, hb, hl, rfl, rfl, rfl⟩
end
/-! ### the octets of the octets -/
noncomputable def hereB : DS :=
  (dSeq (dSet 8 (dCall (F__law_own_packed 4) (dCons (dVar 6) dNil)))
  (dSeq (dIfS (dNotT (dTru (dCall F__law_alike (dCons (dCall F_packed (dCons (dVar 6) dNil)) (dCons (dVar 8) dNil))))) (dRet (dC (.bl false))) dNext)
  (dSeq (dDrop (dBM "list" fAppend (dVar 5) (dCons (dVar 8) dNil)))
  (dSet 6 (dVar 8)))))
def tows (x : D) (j : Nat) : List D := (List.range j).map fun i => tow x (i + 1)
theorem tows_succ (x : D) (j : Nat) : tows x (j + 1) = tows x j ++ [tow x (j + 1)] := by
  unfold tows
  rw [List.range_succ, List.map_append]
  rfl
theorem tows_len (x : D) (j : Nat) : (tows x j).length = j := by
  unfold tows
  rw [List.length_map, List.length_range]
theorem tows_get {x : D} {j i : Nat} (h : i < j) : (tows x j)[i]? = some (tow x (i + 1)) := by
  unfold tows
  rw [List.getElem?_map, List.getElem?_range h]
  rfl
theorem tow_byt {x : D} (h : Fit x 50 2) {j : Nat} (hj : j < 3) : Byt (packedL (tow x j)) ∧ (packedL (tow x j)).length ≤ 605 := by
  have := (tow_fit h j hj).up (by decide)
  exact ⟨this.2.2, this.2.1⟩
/-- one turn -/
theorem hereB_ok {M S : Sto} {n c t j : Nat} {cells : List Nat} {s : BS} {x : D} {a0 a1 a2 a3 a4 a7 a8 : Option D} {R : List (Option D)} (I : Inv M n c cells s S) (ht : n < t) (hx : Fit x 50 2) (hj : j < 3) (hL : S[t]? = some (.lst (tows x j))) :
    hereB (a0 :: a1 :: a2 :: a3 :: a4 :: some (.obj t) :: some (tow x j) :: a7 :: a8 :: R) S = some (.nx (a0 :: a1 :: a2 :: a3 :: a4 :: some (.obj t) :: some (tow x (j + 1)) :: a7 :: some (tow x (j + 1)) :: R), S.set t (.lst (tows x (j + 1)))) := by
  have hf := tow_fit hx j hj
  obtain ⟨hby, hlen⟩ := tow_byt hx hj
  obtain ⟨hal, hnod⟩ := oc_alk (S := S) hby (by omega)
  have e : tow x (j + 1) = oc (packedL (tow x j)) := rfl
  have hown := own_packed_F (S := S) hf (by decide) (by decide)
  have hpk := packed_F (S := S) hf (by decide)
  rw [← e] at hal hnod hown hpk
  generalize tow x j = y at *
  generalize hz : tow x (j + 1) = z at *
  have b1 : dSet 8 (dCall (F__law_own_packed 4) (dCons (dVar 6) dNil)) (a0 :: a1 :: a2 :: a3 :: a4 :: some (.obj t) :: some y :: a7 :: a8 :: R) S = some (.nx (a0 :: a1 :: a2 :: a3 :: a4 :: some (.obj t) :: some y :: a7 :: some z :: R), S) := set_ok (call_ok (one_ok rfl) hown)
  have b2 := alike_go (ρ := a0 :: a1 :: a2 :: a3 :: a4 :: some (.obj t) :: some y :: a7 :: some z :: R) (aa := dCons (dCall F_packed (dCons (dVar 6) dNil)) (dCons (dVar 8) dNil)) (cons_ok (call_ok (one_ok rfl) hpk) (one_ok rfl)) hal hnod
  have b3 : dDrop (dBM "list" fAppend (dVar 5) (dCons (dVar 8) dNil)) (a0 :: a1 :: a2 :: a3 :: a4 :: some (.obj t) :: some y :: a7 :: some z :: R) S = some (.nx (a0 :: a1 :: a2 :: a3 :: a4 :: some (.obj t) :: some y :: a7 :: some z :: R), S.set t (.lst (tows x j ++ [z]))) := drop_ok (bm_ok rfl (ty_list hL) (one_ok rfl) (app_ok hL (by rw [tows_len]; have := sz; omega)))
  unfold hereB
  rw [seq_nx b1, seq_nx b2, seq_nx b3, tows_succ, hz]
  exact set_ok rfl
theorem hereL_ok {M S : Sto} {n c t lv : Nat} {cells : List Nat} {s : BS} {x : D} {a0 a1 a2 a3 a7 a8 : Option D} {R : List (Option D)} (I : Inv M n c cells s S) (ht : n < t) (hx : Fit x 50 2) (hj : lv ≤ 3) (hL : S[t]? = some (.lst [])) :
    ∃ a7' a8' S', dFor (diRng1 (dCons (dVar 4) dNil)) (dgName 7) hereB (a0 :: a1 :: a2 :: a3 :: some (.int (lv : Int)) :: some (.obj t) :: some x :: a7 :: a8 :: R) S = some (.nx (a0 :: a1 :: a2 :: a3 :: some (.int (lv : Int)) :: some (.obj t) :: some (tow x lv) :: a7' :: a8' :: R), S') ∧ Inv M n c cells s S' ∧ S'[t]? = some (.lst (tows x lv)) := by
  have hr := for_run (dg := dgName 7) (db := hereB) (rng1_ok (aa := dCons (dVar 4) dNil) (ρ := a0 :: a1 :: a2 :: a3 :: some (.int (lv : Int)) :: some (.obj t) :: some x :: a7 :: a8 :: R) (M := S) (k := lv) (one_ok rfl) (by omega) (by omega))
    (fun j ρ S' => ∃ a7' a8', ρ = a0 :: a1 :: a2 :: a3 :: some (.int (lv : Int)) :: some (.obj t) :: some (tow x j) :: a7' :: a8' :: R ∧ Inv M n c cells s S' ∧ S'[t]? = some (.lst (tows x j))) lv ⟨a7, a8, rfl, I, hL⟩ (by
    rintro j ρ S' hjl ⟨a7', a8', rfl, I', hL'⟩
    refine ⟨.int ((j : Nat) : Int), _, _, _, _, ?_, rfl, .inl (hereB_ok I' ht hx (by omega) hL'), _, _, rfl, I'.setO ht _, get_set (lt_of_get hL')⟩
    show some _ = _
    rw [if_pos hjl, Int.zero_add]) (fun ρ S' _ => by
    show some _ = _
    rw [if_neg (Nat.lt_irrefl _)])
  obtain ⟨ρ', S', h1, a7', a8', rfl, I', hL'⟩ := hr
  exact ⟨a7', a8', S', h1, I', hL'⟩
end K90
set_option maxHeartbeats 1000000
namespace K90
open PySem PySem.Spec PyProof.Rows L2 DL
theorem sl_less4 (l : List Nat) (h : 4 ≤ l.length) (S : Sto) : fSl (oc l) none (some (-4)) S = some (oc (l.take (l.length - 4)), S) := by
  unfold fSl oc
  dsimp only
  have e : DL.cutD (l.map fun n : Nat => D.int (n : Int)) none (some (-4)) = (l.take (l.length - 4)).map fun n : Nat => D.int (n : Int) := by
    unfold DL.cutD
    rw [HT.sIx_none, List.drop_zero, Nat.sub_zero, List.map_take]
    have : HT.sIx (l.map fun n : Nat => D.int (n : Int)).length (l.map fun n : Nat => D.int (n : Int)).length (some (-4)) = l.length - 4 := by
      rw [List.length_map]
      show (if (-4 : Int) < 0 then ((-4 : Int) + (l.length : Int)).toNat else min (-4 : Int).toNat l.length) = _
      rw [if_pos (by decide)]
      omega
    rw [this]
  rw [e]
theorem add_oc (a b : List Nat) (h : a.length + b.length ≤ 16000000) (S : Sto) : fAdd (oc a) (oc b) S = some (oc (a ++ b), S) := by
  have hs := sz
  unfold fAdd oc
  dsimp only
  rw [if_pos (by rw [List.length_map, List.length_map]; omega), oc_app]
theorem tup1 (x : Nat) : D.tup [.int (x : Int)] = oc [x] := rfl
/-! ### the octets, one otherwise -/
section
variable {S : Sto} {ρ : DL.LE} {l : List Nat} {p m : Nat}
noncomputable def o13 : DE := dOp fAdd (dOp fAdd (dSl (dVar 9) dNoP (dPart (dVar 11))) (dTup (dCons (dOp fMod (dCB fInt1 (dCons (dOp fAdd (dOp fIx (dVar 9) (dVar 11)) (dVar 12)) dNil)) (dC (.int 256))) dNil))) (dSl (dVar 9) (dPart (dOp fAdd (dVar 11) (dC (.int 1)))) dNoP)
theorem o13_ok (v9 : ∀ S', dVar 9 ρ S' = some (.ok (oc l) S')) (v11 : ∀ S', dVar 11 ρ S' = some (.ok (.int (p : Int)) S')) (v12 : ∀ S', dVar 12 ρ S' = some (.ok (.int (m : Int)) S')) (hp : p < l.length) (hl : l.length ≤ 1000000) :
    o13 ρ S = some (.ok (oc (bendL l p ((l[p] + m) % 256))) S) := by
  have hs := sz
  have hix : fIx (oc l) (.int (p : Int)) S = some (.int (l[p] : Nat), S) := ix_oc (List.getElem?_eq_getElem hp) S
  have e1 : dSl (dVar 9) dNoP (dPart (dVar 11)) ρ S = some (.ok (oc (l.take p)) S) := slice_ok (v9 S) rfl (part_ok (v11 S)) (sl_hi l p S)
  have e2 : dTup (dCons (dOp fMod (dCB fInt1 (dCons (dOp fAdd (dOp fIx (dVar 9) (dVar 11)) (dVar 12)) dNil)) (dC (.int 256))) dNil) ρ S = some (.ok (oc [(l[p] + m) % 256]) S) := tup_ok (ds := [.int (((l[p] + m) % 256 : Nat) : Int)]) (one_ok (op_ok (cb_ok (one_ok (op_ok (op_ok (v9 S) (v11 S) hix) (v12 S) (o_addN l[p] m))) o_int1) rfl (o_modN (l[p] + m) 256 (by decide)))) (show 1 ≤ sizeLine by decide)
  have e3 : dSl (dVar 9) (dPart (dOp fAdd (dVar 11) (dC (.int 1)))) dNoP ρ S = some (.ok (oc (l.drop (p + 1))) S) := slice_ok (v9 S) (part_ok (op_ok (v11 S) rfl (o_add1 p))) rfl (sl_lo l (p + 1) (by omega) S)
  unfold o13
  refine op_ok (op_ok e1 e2 (add_oc _ _ (by rw [List.length_take, List.length_singleton]; omega) S)) e3 ?_
  rw [add_oc _ _ (by rw [List.length_append, List.length_take, List.length_singleton, List.length_drop]; omega)]
  unfold bendL
  rw [List.append_assoc]
  rfl
noncomputable def o14 : DE := dLst (dCons (dCall F_spoilt (dCons (dVar 9) (dCons (dVar 11) (dCons (dOp fIx (dVar 13) (dVar 11)) dNil)))) (dCons (dCall F_first_unlike (dCons (dVar 9) (dCons (dVar 13) dNil))) (dCons (dCall F_is_sealed (dCons (dVar 9) dNil)) (dCons (dCall F_is_sealed (dCons (dVar 13) dNil)) dNil))))
abbrev told (b : List Nat) (p : Nat) : List D := [oc b, .int (p : Int), .bl true, .bl false]
theorem o14_ok {k : List Nat} {o : Nat} (v9 : ∀ S', dVar 9 ρ S' = some (.ok (oc (sealedL k)) S')) (v11 : ∀ S', dVar 11 ρ S' = some (.ok (.int (p : Int)) S')) (v13 : ∀ S', dVar 13 ρ S' = some (.ok (oc (bendL (sealedL k) p o)) S')) (hb : Byt (sealedL k)) (hp : p < (sealedL k).length) (hl : (sealedL k).length ≤ 1000000) (ho : o < 256) (hne : (sealedL k)[p] ≠ o) :
    o14 ρ S = some (.ok (.obj S.length) (S ++ [.lst (told (bendL (sealedL k) p o) p)])) := by
  have hbl := bend_len (o := o) hp
  have hix : fIx (oc (bendL (sealedL k) p o)) (.int (p : Int)) S = some (.int (o : Nat), S) := ix_oc (bend_get hp) S
  have h1 := fu_F (S := S) (a := sealedL k) (b := bendL (sealedL k) p o)
  rw [fuD_bend hp hne] at h1
  have h2 := is_sealed_F (S := S) hb (by omega)
  rw [sealed_is] at h2
  have h3 := is_sealed_F (S := S) (bend_byt (p := p) hb ho) (by omega)
  rw [bend_not hb hp ho hne] at h3
  unfold o14
  exact lst_ok (cons_ok (call_ok (cons_ok (v9 S) (cons_ok (v11 S) (one_ok (op_ok (v13 S) (v11 S) hix)))) (spoilt_F hp (by omega))) (cons_ok (call_ok (cons_ok (v9 S) (one_ok (v13 S))) h1) (cons_ok (call_ok (one_ok (v9 S)) h2) (one_ok (call_ok (one_ok (v13 S)) h3))))) (show 4 ≤ sizeLine by decide)
noncomputable def i15 : DS := dIfS (dNotT (dTru (dCall F__law_alike (dCons (dVar 14) (dCons (dLst (dCons (dVar 13) (dCons (dVar 11) (dCons (dC (.bl true)) (dCons (dC (.bl false)) dNil))))) dNil))))) (dRet (dC (.bl false))) dNext
theorem i15_ok {b : List Nat} {t : Nat} (v11 : ∀ S', dVar 11 ρ S' = some (.ok (.int (p : Int)) S')) (v13 : ∀ S', dVar 13 ρ S' = some (.ok (oc b) S')) (v14 : ∀ S', dVar 14 ρ S' = some (.ok (.obj t) S')) (ht : S[t]? = some (.lst (told b p))) (hb : Byt b) (hl : b.length ≤ 1000000) (hp : p ≤ 1000000) :
    i15 ρ S = some (.nx ρ, S ++ [.lst (told b p)]) := by
  have e : dLst (dCons (dVar 13) (dCons (dVar 11) (dCons (dC (.bl true)) (dCons (dC (.bl false)) dNil)))) ρ S = some (.ok (.obj S.length) (S ++ [.lst (told b p)])) := lst_ok (cons_ok (v13 S) (cons_ok (v11 S) (cons_ok rfl (one_ok rfl)))) (show 4 ≤ sizeLine by decide)
  have hok : okDs (told b p) := ⟨okR_D _ (oc_okR hb (by omega)), small_int (by omega), trivial, trivial, trivial⟩
  unfold i15
  refine alike_go (cons_ok (v14 S) (one_ok e)) (Alk.lists t S.length _ (get_app ht) getA0 hok) ?_
  have h1 : nod (.tup (told b p)) = 1 + (nod (oc b) + (1 + (1 + (1 + 0)))) := rfl
  rw [h1, oc_nod]
  omega
noncomputable def i16 : DS := dIfS (dOrT (dTest (dOp fNeA (dCall F_check_of (dCons (dSl (dVar 9) dNoP (dPart (dUn fNeg (dC (.int 4))))) dNil)) (dCall F__law_check (dCons (dSl (dVar 9) dNoP (dPart (dUn fNeg (dC (.int 4))))) dNil)))) (dNotT (dTru (dCall F__law_alike (dCons (dCall F_sealed (dCons (dSl (dVar 9) dNoP (dPart (dUn fNeg (dC (.int 4))))) dNil)) (dCons (dVar 9) dNil)))))) (dRet (dC (.bl false))) dNext
theorem i16_ok {k : List Nat} (v9 : ∀ S', dVar 9 ρ S' = some (.ok (oc (sealedL k)) S')) (hb : Byt (sealedL k)) (hl : (sealedL k).length ≤ 1000000) : i16 ρ S = some (.nx ρ, S) := by
  have hlen := sealed_len k
  have hk : Byt k := fun x hx => hb x (List.mem_append_left _ hx)
  have hsl : dSl (dVar 9) dNoP (dPart (dUn fNeg (dC (.int 4)))) ρ S = some (.ok (oc k) S) := by
    have h4 := sl_less4 (sealedL k) (by omega) S
    rw [sealed_take] at h4
    exact slice_ok (v9 S) rfl (part_ok (un_ok rfl rfl)) h4
  have t1 : dTest (dOp fNeA (dCall F_check_of (dCons (dSl (dVar 9) dNoP (dPart (dUn fNeg (dC (.int 4))))) dNil)) (dCall F__law_check (dCons (dSl (dVar 9) dNoP (dPart (dUn fNeg (dC (.int 4))))) dNil))) ρ S = some (.ok false S) := by
    refine test_ok (op_ok (call_ok (one_ok hsl) (check_of_F hk)) (call_ok (one_ok hsl) (law_check_F hk)) ?_)
    rw [o_neI]
    simp
  obtain ⟨hal, hnod⟩ := oc_alk (S := S) hb hl
  have t2 : dNotT (dTru (dCall F__law_alike (dCons (dCall F_sealed (dCons (dSl (dVar 9) dNoP (dPart (dUn fNeg (dC (.int 4))))) dNil)) (dCons (dVar 9) dNil)))) ρ S = some (.ok false S) := notT_ok (tru_ok (call_ok (cons_ok (call_ok (one_ok hsl) (sealed_F2 hk (by omega))) (one_ok (v9 S))) (alike_F hal hnod)) rfl)
  unfold i16
  exact (if_no (orT_f t1 t2)).trans rfl
end
/-! ### the first unlike places of three pairs -/
noncomputable def prB : DS := dIfS (dNotT (dTru (dCall F__law_alike (dCons (dCall F_first_unlike (dCons (dVar 16) (dCons (dVar 17) dNil))) (dCons (dCall F__law_apart_at (dCons (dVar 16) (dCons (dVar 17) dNil))) dNil))))) (dRet (dC (.bl false))) dNext
theorem prB_ok {S : Sto} {ρ : DL.LE} {a b : List Nat} (v16 : ∀ S', dVar 16 ρ S' = some (.ok (oc a) S')) (v17 : ∀ S', dVar 17 ρ S' = some (.ok (oc b) S')) (ha : a.length ≤ 1000000) (hb : b.length ≤ 1000000) : prB ρ S = some (.nx ρ, S) := by
  obtain ⟨ho, hn⟩ := fuD_ok (a := a) (b := b) (by omega)
  unfold prB
  exact alike_go (cons_ok (call_ok (cons_ok (v16 S) (one_ok (v17 S))) fu_F) (one_ok (call_ok (cons_ok (v16 S) (one_ok (v17 S))) (apart_F (by omega) (by omega))))) (.same _ ho) (by rw [hn]; decide)
noncomputable def prL : DS := dFor (diSeq (dTup (dCons (dTup (dCons (dVar 9) (dCons (dSl (dVar 9) dNoP (dPart (dVar 15))) dNil))) (dCons (dTup (dCons (dSl (dVar 9) dNoP (dPart (dVar 15))) (dCons (dVar 13) dNil))) (dCons (dTup (dCons (dVar 9) (dCons (dVar 9) dNil))) dNil))))) (dgTup 2 (dgCons (dgName 16) (dgCons (dgName 17) dgNil))) prB
abbrev R20 (a0 a1 a2 a3 a4 a5 a6 a7 a8 a9 a10 a11 a12 a13 a14 a15 a16 a17 a18 a19 : Option D) : DL.LE := [a0, a1, a2, a3, a4, a5, a6, a7, a8, a9, a10, a11, a12, a13, a14, a15, a16, a17, a18, a19]
theorem prL_ok {S : Sto} {a0 a1 a2 a3 a4 a5 a6 a7 a8 a10 a11 a12 a14 a16 a17 a18 a19 : Option D} {l b : List Nat} {m : Nat} (hl : l.length ≤ 1000000) (hb : b.length ≤ 1000000) :
    ∃ a16' a17', prL (R20 a0 a1 a2 a3 a4 a5 a6 a7 a8 (some (oc l)) a10 a11 a12 (some (oc b)) a14 (some (.int (m : Int))) a16 a17 a18 a19) S = some (.nx (R20 a0 a1 a2 a3 a4 a5 a6 a7 a8 (some (oc l)) a10 a11 a12 (some (oc b)) a14 (some (.int (m : Int))) a16' a17' a18 a19), S) := by
  have hsl : ∀ {a16 a17 : Option D}, dSl (dVar 9) dNoP (dPart (dVar 15)) (R20 a0 a1 a2 a3 a4 a5 a6 a7 a8 (some (oc l)) a10 a11 a12 (some (oc b)) a14 (some (.int (m : Int))) a16 a17 a18 a19) S = some (.ok (oc (l.take m)) S) := slice_ok rfl rfl (part_ok rfl) (sl_hi l m S)
  have h2 : 2 ≤ sizeLine := by decide
  have htup : dTup (dCons (dTup (dCons (dVar 9) (dCons (dSl (dVar 9) dNoP (dPart (dVar 15))) dNil))) (dCons (dTup (dCons (dSl (dVar 9) dNoP (dPart (dVar 15))) (dCons (dVar 13) dNil))) (dCons (dTup (dCons (dVar 9) (dCons (dVar 9) dNil))) dNil))) (R20 a0 a1 a2 a3 a4 a5 a6 a7 a8 (some (oc l)) a10 a11 a12 (some (oc b)) a14 (some (.int (m : Int))) a16 a17 a18 a19) S = some (.ok (.tup [.tup [oc l, oc (l.take m)], .tup [oc (l.take m), oc b], .tup [oc l, oc l]]) S) :=
    tup_ok (cons_ok (tup_ok (cons_ok rfl (one_ok hsl)) h2) (cons_ok (tup_ok (cons_ok hsl (one_ok rfl)) h2) (one_ok (tup_ok (cons_ok rfl (one_ok rfl)) h2)))) (show 3 ≤ sizeLine by decide)
  have hr := for_run (di := diSeq (dTup (dCons (dTup (dCons (dVar 9) (dCons (dSl (dVar 9) dNoP (dPart (dVar 15))) dNil))) (dCons (dTup (dCons (dSl (dVar 9) dNoP (dPart (dVar 15))) (dCons (dVar 13) dNil))) (dCons (dTup (dCons (dVar 9) (dCons (dVar 9) dNil))) dNil))))) (dg := dgTup 2 (dgCons (dgName 16) (dgCons (dgName 17) dgNil))) (db := prB) (seq_ok (it := fun _ _ => none) htup rfl)
    (fun i ρ S' => S' = S ∧ ∃ a16' a17', ρ = R20 a0 a1 a2 a3 a4 a5 a6 a7 a8 (some (oc l)) a10 a11 a12 (some (oc b)) a14 (some (.int (m : Int))) a16' a17' a18 a19) 3 ⟨rfl, a16, a17, rfl⟩ (by
    rintro i ρ S' hi ⟨rfl, a16', a17', rfl⟩
    have key : ∀ x y : List Nat, x.length ≤ 1000000 → y.length ≤ 1000000 → prB (R20 a0 a1 a2 a3 a4 a5 a6 a7 a8 (some (oc l)) a10 a11 a12 (some (oc b)) a14 (some (.int (m : Int))) (some (oc x)) (some (oc y)) a18 a19) S' = some (.nx (R20 a0 a1 a2 a3 a4 a5 a6 a7 a8 (some (oc l)) a10 a11 a12 (some (oc b)) a14 (some (.int (m : Int))) (some (oc x)) (some (oc y)) a18 a19), S') := fun x y hx hy => prB_ok (fun _ => rfl) (fun _ => rfl) hx hy
    have ht : (l.take m).length ≤ 1000000 := by rw [List.length_take]; omega
    match i, hi with
    | 0, _ => exact ⟨_, _, _, _, _, rfl, rfl, .inl (key l (l.take m) hl ht), rfl, _, _, rfl⟩
    | 1, _ => exact ⟨_, _, _, _, _, rfl, rfl, .inl (key (l.take m) b ht hb), rfl, _, _, rfl⟩
    | 2, _ => exact ⟨_, _, _, _, _, rfl, rfl, .inl (key l l hl hl), rfl, _, _, rfl⟩) (fun ρ S' _ => rfl)
  obtain ⟨ρ', S', h1, rfl, a16', a17', rfl⟩ := hr
  exact ⟨a16', a17', h1⟩
/-! ### one turn over the octets -/
noncomputable def octB : DS :=
  (dSeq (dSet 10 (dCall F_unpacked (dCons (dVar 9) dNil)))
  (dSeq (dPar 11 12 (dCons (dCall F__law_take (dCons (dVar 1) (dCons (dCB fLen (dCons (dVar 9) dNil)) dNil))) (dCons (dOp fAdd (dC (.int 1)) (dCall F__law_take (dCons (dVar 1) (dCons (dC (.int 255)) dNil)))) dNil)))
  (dSeq (dSet 13 o13)
  (dSeq (dSet 14 o14)
  (dSeq i15
  (dSeq i16
  (dSeq (dSet 15 (dCall F__law_take (dCons (dVar 1) (dCons (dOp fAdd (dCB fLen (dCons (dVar 9) dNil)) (dC (.int 1))) dNil))))
  prL)))))))
theorem octB_ok {M S : Sto} {n c t r : Nat} {cells : List Nat} {s : BS} {y : D} {o oo : Ob} {a0 a2 a3 a4 a5 a6 a7 a8 a10 a11 a12 a13 a14 a15 a16 a17 a18 a19 : Option D} (I : Inv M n c cells s S) (hy : Fit y 600 2) (ht : n < t) (hr : n < r) (hT : S[t]? = some o) (hR : S[r]? = some oo) :
    ∃ s' S' b a11' a12' a14' a15' a16' a17', octB (R20 a0 (some (.obj n)) a2 a3 a4 a5 a6 a7 a8 (some (oc (packedL y))) a10 a11 a12 a13 a14 a15 a16 a17 a18 a19) S = some (.nx (R20 a0 (some (.obj n)) a2 a3 a4 a5 a6 a7 a8 (some (oc (packedL y))) (some y) a11' a12' (some (oc b)) a14' a15' a16' a17' a18 a19), S') ∧ Byt b ∧ b.length ≤ 700 ∧ Inv M n c cells s' S' ∧ S'[t]? = some o ∧ S'[r]? = some oo := by
  obtain ⟨-, hlen, hby⟩ := hy.up (by decide)
  have hunp := unpacked_F (S := S) hy (by decide) (by decide)
  obtain ⟨k, hk⟩ : ∃ k, packedL y = sealedL k := ⟨_, rfl⟩
  rw [hk] at hlen hby hunp ⊢
  have h0 : 0 < (sealedL k).length := by rw [sealed_len]; omega
  have t1 := take_F I.bag h0 (by omega)
  have hp := tk_lt cells s h0
  have I1 := I.tk (sealedL k).length
  have T1 := get_bag (n := n) (o' := bgO (tk cells s (sealedL k).length).2 c) hT ht
  have R1 := get_bag (n := n) (o' := bgO (tk cells s (sealedL k).length).2 c) hR hr
  generalize (tk cells s (sealedL k).length).1 = p at t1 hp
  generalize (tk cells s (sealedL k).length).2 = s1 at t1 I1 T1 R1
  generalize hS1 : S.set n (bgO s1 c) = S1 at t1 I1 T1 R1
  have t2 := take_F I1.bag (many := 255) (by decide) (by decide)
  have hm := tk_lt cells s1 (many := 255) (by decide)
  have I2 := I1.tk 255
  have T2 := get_bag (n := n) (o' := bgO (tk cells s1 255).2 c) T1 ht
  have R2 := get_bag (n := n) (o' := bgO (tk cells s1 255).2 c) R1 hr
  generalize (tk cells s1 255).1 = m0 at t2 hm
  generalize (tk cells s1 255).2 = s2 at t2 I2 T2 R2
  generalize hS2 : S1.set n (bgO s2 c) = S2 at t2 I2 T2 R2
  -- the statements
  have b1 : dSet 10 (dCall F_unpacked (dCons (dVar 9) dNil)) (R20 a0 (some (.obj n)) a2 a3 a4 a5 a6 a7 a8 (some (oc (sealedL k))) a10 a11 a12 a13 a14 a15 a16 a17 a18 a19) S = some (.nx (R20 a0 (some (.obj n)) a2 a3 a4 a5 a6 a7 a8 (some (oc (sealedL k))) (some y) a11 a12 a13 a14 a15 a16 a17 a18 a19), S) := set_ok (call_ok (one_ok rfl) hunp)
  have b2 : dPar 11 12 (dCons (dCall F__law_take (dCons (dVar 1) (dCons (dCB fLen (dCons (dVar 9) dNil)) dNil))) (dCons (dOp fAdd (dC (.int 1)) (dCall F__law_take (dCons (dVar 1) (dCons (dC (.int 255)) dNil)))) dNil)) (R20 a0 (some (.obj n)) a2 a3 a4 a5 a6 a7 a8 (some (oc (sealedL k))) (some y) a11 a12 a13 a14 a15 a16 a17 a18 a19) S = some (.nx (R20 a0 (some (.obj n)) a2 a3 a4 a5 a6 a7 a8 (some (oc (sealedL k))) (some y) (some (.int (p : Int))) (some (.int ((1 + m0 : Nat) : Int))) a13 a14 a15 a16 a17 a18 a19), S2) :=
    par_ok (cons_ok (call_ok (cons_ok rfl (one_ok (cb_ok (one_ok rfl) (o_len_oc _ _)))) t1) (one_ok (op_ok rfl (call_ok (cons_ok rfl (one_ok rfl)) t2) (o_addN 1 m0))))
  have ho : ((sealedL k)[p] + (1 + m0)) % 256 < 256 := Nat.mod_lt _ (by decide)
  have hxp : (sealedL k)[p] < 256 := hby _ (List.getElem_mem _)
  have hne : (sealedL k)[p] ≠ ((sealedL k)[p] + (1 + m0)) % 256 := by omega
  have b3 : dSet 13 o13 (R20 a0 (some (.obj n)) a2 a3 a4 a5 a6 a7 a8 (some (oc (sealedL k))) (some y) (some (.int (p : Int))) (some (.int ((1 + m0 : Nat) : Int))) a13 a14 a15 a16 a17 a18 a19) S2 = some (.nx (R20 a0 (some (.obj n)) a2 a3 a4 a5 a6 a7 a8 (some (oc (sealedL k))) (some y) (some (.int (p : Int))) (some (.int ((1 + m0 : Nat) : Int))) (some (oc (bendL (sealedL k) p (((sealedL k)[p] + (1 + m0)) % 256)))) a14 a15 a16 a17 a18 a19), S2) := set_ok (o13_ok (fun _ => rfl) (fun _ => rfl) (fun _ => rfl) hp (by omega))
  generalize ((sealedL k)[p] + (1 + m0)) % 256 = x at b3 ho hne
  have hbl := bend_len (o := x) hp
  have hbb := bend_byt (p := p) hby ho
  have b4 : dSet 14 o14 (R20 a0 (some (.obj n)) a2 a3 a4 a5 a6 a7 a8 (some (oc (sealedL k))) (some y) (some (.int (p : Int))) (some (.int ((1 + m0 : Nat) : Int))) (some (oc (bendL (sealedL k) p x))) a14 a15 a16 a17 a18 a19) S2 = some (.nx (R20 a0 (some (.obj n)) a2 a3 a4 a5 a6 a7 a8 (some (oc (sealedL k))) (some y) (some (.int (p : Int))) (some (.int ((1 + m0 : Nat) : Int))) (some (oc (bendL (sealedL k) p x))) (some (.obj S2.length)) a15 a16 a17 a18 a19), S2 ++ [.lst (told (bendL (sealedL k) p x) p)]) := set_ok (o14_ok (fun _ => rfl) (fun _ => rfl) (fun _ => rfl) hby hp (by omega) ho hne)
  generalize bendL (sealedL k) p x = b at b3 b4 hbl hbb
  have I3 := I2.app [.lst (told b p)]
  have T3 := get_app (g := [.lst (told b p)]) T2
  have R3 := get_app (g := [.lst (told b p)]) R2
  have G3 : (S2 ++ [Ob.lst (told b p)])[S2.length]? = some (.lst (told b p)) := getA0
  generalize hS3 : S2 ++ [Ob.lst (told b p)] = S3 at b4 I3 T3 R3 G3
  have b5 : i15 (R20 a0 (some (.obj n)) a2 a3 a4 a5 a6 a7 a8 (some (oc (sealedL k))) (some y) (some (.int (p : Int))) (some (.int ((1 + m0 : Nat) : Int))) (some (oc b)) (some (.obj S2.length)) a15 a16 a17 a18 a19) S3 = _ := i15_ok (fun _ => rfl) (fun _ => rfl) (fun _ => rfl) G3 hbb (by omega) (by omega)
  have I4 := I3.app [.lst (told b p)]
  have T4 := get_app (g := [.lst (told b p)]) T3
  have R4 := get_app (g := [.lst (told b p)]) R3
  generalize S3 ++ [Ob.lst (told b p)] = S4 at b5 I4 T4 R4
  have b6 : i16 (R20 a0 (some (.obj n)) a2 a3 a4 a5 a6 a7 a8 (some (oc (sealedL k))) (some y) (some (.int (p : Int))) (some (.int ((1 + m0 : Nat) : Int))) (some (oc b)) (some (.obj S2.length)) a15 a16 a17 a18 a19) S4 = _ := i16_ok (fun _ => rfl) hby (by omega)
  have t3 := take_F I4.bag (many := (sealedL k).length + 1) (by omega) (by omega)
  have I5 := I4.tk ((sealedL k).length + 1)
  have T5 := get_bag (n := n) (o' := bgO (tk cells s2 ((sealedL k).length + 1)).2 c) T4 ht
  have R5 := get_bag (n := n) (o' := bgO (tk cells s2 ((sealedL k).length + 1)).2 c) R4 hr
  generalize (tk cells s2 ((sealedL k).length + 1)).1 = q at t3
  generalize (tk cells s2 ((sealedL k).length + 1)).2 = s5 at t3 I5 T5 R5
  generalize S4.set n (bgO s5 c) = S5 at t3 I5 T5 R5
  have b7 : dSet 15 (dCall F__law_take (dCons (dVar 1) (dCons (dOp fAdd (dCB fLen (dCons (dVar 9) dNil)) (dC (.int 1))) dNil))) (R20 a0 (some (.obj n)) a2 a3 a4 a5 a6 a7 a8 (some (oc (sealedL k))) (some y) (some (.int (p : Int))) (some (.int ((1 + m0 : Nat) : Int))) (some (oc b)) (some (.obj S2.length)) a15 a16 a17 a18 a19) S4 = some (.nx (R20 a0 (some (.obj n)) a2 a3 a4 a5 a6 a7 a8 (some (oc (sealedL k))) (some y) (some (.int (p : Int))) (some (.int ((1 + m0 : Nat) : Int))) (some (oc b)) (some (.obj S2.length)) (some (.int (q : Int))) a16 a17 a18 a19), S5) := set_ok (call_ok (cons_ok rfl (one_ok (op_ok (cb_ok (one_ok rfl) (o_len_oc _ _)) rfl (o_add1 _)))) t3)
  obtain ⟨a16', a17', b8⟩ := prL_ok (S := S5) (a0 := a0) (a1 := some (.obj n)) (a2 := a2) (a3 := a3) (a4 := a4) (a5 := a5) (a6 := a6) (a7 := a7) (a8 := a8) (a10 := some y) (a11 := some (.int (p : Int))) (a12 := some (.int ((1 + m0 : Nat) : Int))) (a14 := some (.obj S2.length)) (a16 := a16) (a17 := a17) (a18 := a18) (a19 := a19) (l := sealedL k) (b := b) (m := q) (by omega) (by omega)
  have hfin := (seq_nx b1).trans ((seq_nx b2).trans ((seq_nx b3).trans ((seq_nx b4).trans ((seq_nx b5).trans ((seq_nx b6).trans ((seq_nx b7).trans b8))))))
  exact ⟨s5, S5, b, _, _, _, _, _, _, hfin, hbb, by omega, I5, T5, R5⟩
end K90
set_option maxHeartbeats 1000000
namespace K90
open PySem PySem.Spec PyProof.Rows L2 DL
theorem for_run2 {di : DI} {it : DIt} {dg : DG} {db : DS} {ρ : DL.LE} {M0 M : Sto} (hi : di ρ M0 = some (.ok it M)) (I : Nat → DL.LE → Sto → Prop) (n : Nat) (h0 : I 0 ρ M)
    (step : ∀ i ρ M, i < n → I i ρ M → ∃ d ρ1 M1 ρ2 M2, it i M = some (some d) ∧ dg d ρ M = some (ρ1, M1) ∧ (db ρ1 M1 = some (.nx ρ2, M2) ∨ db ρ1 M1 = some (.ct ρ2, M2)) ∧ I (i + 1) ρ2 M2)
    (stop : ∀ ρ M, I n ρ M → it n M = some none) : ∃ ρ' M', dFor di dg db ρ M0 = some (.nx ρ', M') ∧ I n ρ' M' := by
  obtain ⟨ρ', M', h1, h2⟩ := for_rel I n step stop n 0 ρ M rfl (Nat.zero_le _) h0
  refine ⟨ρ', M', ?_, h2⟩
  unfold dFor
  rw [hi]
  exact h1
theorem revL_ok {da : DE} {ρ : DL.LE} {S : Sto} {t : Nat} {L : List D} (h1 : da ρ S = some (.ok (.obj t) S)) (h : S[t]? = some (.lst L)) : dRev da ρ S = some (.ok (.obj S.length) (S ++ [.lst L.reverse])) := by simp only [dRev, bnd, h1, h]
noncomputable def octLp : DS := dFor (diSeq (dRev (dVar 5))) (dgName 9) octB
theorem octL_ok {M S : Sto} {n c t lv : Nat} {cells : List Nat} {s : BS} {x : D} {a0 a2 a3 a6 a7 a8 a9 a10 a11 a12 a13 a14 a15 a16 a17 a18 a19 : Option D} (I : Inv M n c cells s S) (hx : Fit x 50 2) (ht : n < t) (h1 : 1 ≤ lv) (h3 : lv ≤ 3) (hT : S[t]? = some (.lst (tows x lv))) :
    ∃ s' S' b a9' a11' a12' a14' a15' a16' a17', octLp (R20 a0 (some (.obj n)) a2 a3 (some (.int (lv : Int))) (some (.obj t)) a6 a7 a8 a9 a10 a11 a12 a13 a14 a15 a16 a17 a18 a19) S = some (.nx (R20 a0 (some (.obj n)) a2 a3 (some (.int (lv : Int))) (some (.obj t)) a6 a7 a8 a9' (some x) a11' a12' (some (oc b)) a14' a15' a16' a17' a18 a19), S') ∧ Byt b ∧ b.length ≤ 700 ∧ Inv M n c cells s' S' ∧ S'[t]? = some (.lst (tows x lv)) := by
  have hrv := revL_ok (da := dVar 5) (ρ := R20 a0 (some (.obj n)) a2 a3 (some (.int (lv : Int))) (some (.obj t)) a6 a7 a8 a9 a10 a11 a12 a13 a14 a15 a16 a17 a18 a19) (S := S) rfl hT
  have hR : (S ++ [Ob.lst (tows x lv).reverse])[S.length]? = some (.lst (tows x lv).reverse) := getA0
  have hlt : n < S.length := I.bag.lt
  have hdi := seq_ok (it := fun _ _ => none) hrv (by simp only [isSeqD, hR])
  have I0 := I.app [.lst (tows x lv).reverse]
  have T0 := get_app (g := [.lst (tows x lv).reverse]) hT
  have hr := for_run2 (dg := dgName 9) (db := octB) hdi
    (fun i ρ S' => ∃ s' a9' a10' a11' a12' a13' a14' a15' a16' a17', ρ = R20 a0 (some (.obj n)) a2 a3 (some (.int (lv : Int))) (some (.obj t)) a6 a7 a8 a9' a10' a11' a12' a13' a14' a15' a16' a17' a18 a19 ∧ Inv M n c cells s' S' ∧ S'[t]? = some (.lst (tows x lv)) ∧ S'[S.length]? = some (.lst (tows x lv).reverse) ∧ (i = 0 ∨ a10' = some (tow x (lv - i)) ∧ ∃ b, a13' = some (oc b) ∧ Byt b ∧ b.length ≤ 700)) lv
    ⟨s, a9, a10, a11, a12, a13, a14, a15, a16, a17, rfl, I0, T0, hR, .inl rfl⟩ (by
      rintro i ρ S' hi ⟨s', a9', a10', a11', a12', a13', a14', a15', a16', a17', rfl, I', T', R', -⟩
      have hj : lv - i - 1 < 3 := by omega
      have hit : itSeq (.obj S.length) i S' = some (some (oc (packedL (tow x (lv - i - 1))))) := by
        show (match S'[S.length]? with
          | some (.lst ds) => some ds[i]?
          | _ => none) = _
        rw [R']
        show some ((tows x lv).reverse[i]?) = _
        rw [List.getElem?_reverse (by rw [tows_len]; exact hi), tows_len, tows_get (by omega), show lv - 1 - i + 1 = (lv - i - 1) + 1 from by omega]
        rfl
      obtain ⟨s2, S2, b, a11', a12', a14', a15', a16', a17', h1, hb, hbl, I2, T2, R2⟩ := octB_ok (a0 := a0) (a2 := a2) (a3 := a3) (a4 := some (.int (lv : Int))) (a5 := some (.obj t)) (a6 := a6) (a7 := a7) (a8 := a8) (a10 := a10') (a11 := a11') (a12 := a12') (a13 := a13') (a14 := a14') (a15 := a15') (a16 := a16') (a17 := a17') (a18 := a18) (a19 := a19) I' (tow_fit hx _ hj) ht hlt T' R'
      exact ⟨_, _, _, _, _, hit, rfl, .inl h1, s2, _, _, _, _, _, _, _, _, _, rfl, I2, T2, R2, .inr ⟨by rw [Nat.sub_sub], b, rfl, hb, hbl⟩⟩) (by
      rintro ρ S' ⟨s', a9', a10', a11', a12', a13', a14', a15', a16', a17', rfl, I', T', R', -⟩
      show (match S'[S.length]? with
          | some (.lst ds) => some ds[lv]?
          | _ => none) = _
      rw [R']
      show some ((tows x lv).reverse[lv]?) = _
      rw [List.getElem?_eq_none (by rw [List.length_reverse, tows_len]; exact Nat.le_refl _)])
  obtain ⟨ρ', S', hf, s', a9', a10', a11', a12', a13', a14', a15', a16', a17', rfl, I', T', -, hor⟩ := hr
  rcases hor with h0 | ⟨h10, b, h13, hb, hbl⟩
  · omega
  · subst h10 h13
    rw [Nat.sub_self] at hf
    exact ⟨s', S', b, _, _, _, _, _, _, _, hf, hb, hbl, I', T'⟩
/-! ### the deeds -/
def wordOk (w : Str) : Bool := decide (w.length ≤ 200) && w.cps.toList.all (fun c => decide (c ∈ LET.cps.toList)) && !(w == "")
theorem wordOk_H {w : Str} (h : wordOk w = true) : okH (.str w) ∧ (w == "") = false := by
  unfold wordOk at h
  rw [Bool.and_eq_true, Bool.and_eq_true] at h
  obtain ⟨⟨h1, h2⟩, h3⟩ := h
  exact ⟨⟨of_decide_eq_true h1, fun c hc => of_decide_eq_true (List.all_eq_true.mp h2 c hc)⟩, by simpa using h3⟩
structure DeedOk (d : D) : Prop where
  rc : OkRec d
  dep : dep d < 4
  oct : (octD d).length ≤ 10000
theorem deed_ok {w : Str} (hw : wordOk w = true) {ds : List D} (hl : ds.length ≤ 2) (h : ∀ d ∈ ds, okR d ∧ plD 2 d = true ∧ (octD d).length ≤ 3000 ∧ dep d ≤ 2) : DeedOk (.tup (.str w :: ds)) := by
  obtain ⟨hH, hne⟩ := wordOk_H hw
  have hr : okR (.tup (.str w :: ds)) := ⟨by rw [List.length_cons]; omega, hH, okRs_of fun d hd => (h d hd).1⟩
  have hpl : plD 1 (.tup (.str w :: ds)) = true := by
    have hw2 : plD 2 (.str w) = true := by rw [plD]; exact isW_ok hH.1 hH.2
    rw [plD, plDs, hw2, plDs_of fun d hd => (h d hd).2.1]
    rfl
  have hoct : (octD (.tup (.str w :: ds))).length ≤ 10000 := by
    show ((6 :: seven (D.str w :: ds).length) ++ ((5 :: (seven w.length ++ idx w)) ++ octDs ds)).length ≤ _
    have h1 := seven_len 1 (D.str w :: ds).length (by rw [List.length_cons]; omega) (by decide)
    have hwl := hH.1
    have h2 := seven_short w.length (by omega)
    have h3 := octDs_le (b := 3000) fun d hd => (h d hd).2.2.1
    have h4 : ds.length * 3000 ≤ 2 * 3000 := Nat.mul_le_mul_right _ hl
    have h5 : (5 :: (seven w.length ++ idx w)).length = (seven w.length).length + w.length + 1 := by rw [List.length_cons, List.length_append, idx_len]
    rw [List.length_append, List.length_append, h5, List.length_cons]
    omega
  have hpk : (packedL (.tup (.str w :: ds))).length ≤ 400000 := by rw [packed_len]; omega
  refine ⟨⟨hr, hpl, ?_, hpk, fun s es e => ?_⟩, ?_, hoct⟩
  · show (!(w == "") && (plD 1 (.tup (.str w :: ds)) && decide ((packedL (.tup (.str w :: ds))).length ≤ 400000))) = true
    rw [hne, hpl, decide_eq_true hpk]
    rfl
  · injection e with e
    injection e with e1 _
    injection e1 with e1
    subst e1
    exact strOk_let hH.2
  · have hd := deps_le (k := 2) fun d hd => (h d hd).2.2.2
    show 1 + max (dep (.str w)) (deps ds) < 4
    have : dep (.str w) = 0 := rfl
    omega
def deeds (w : Str) (b : List Nat) (lv : Nat) (x : D) : List D := [.tup [.str "octets", oc (packedL x)], .tup [.str "bent", oc b, .int (lv : Int)], .tup [.str w, x]]
theorem deeds_ok {w : Str} {b : List Nat} {lv : Nat} {x : D} (hw : wordOk w = true) (hb : Byt b) (hbl : b.length ≤ 700) (hlv : lv ≤ 3) (hx : Fit x 50 2) : ∀ d ∈ deeds w b lv x, DeedOk d := by
  intro d hd
  have hup := (hx.up (by decide))
  unfold deeds at hd
  simp only [List.mem_cons, List.not_mem_nil, or_false] at hd
  have hint : okR (.int (lv : Int)) ∧ plD 2 (.int (lv : Int)) = true ∧ (octD (.int (lv : Int))).length ≤ 3000 ∧ dep (.int (lv : Int)) ≤ 2 := by
    refine ⟨?_, ?_, Nat.le_trans (int_oct (by omega)) (by decide), Nat.zero_le _⟩
    · have hp : 4 < 128 ^ 89 := by decide
      show ((lv : Nat) : Int).natAbs < 128 ^ 89
      omega
    · have hp : 4 < 10 ^ 400 := by decide
      rw [plD]
      show decide (((lv : Nat) : Int).natAbs < 10 ^ 400) = true
      exact decide_eq_true (Nat.lt_trans (by omega) hp)
  have hbo := oc_oct hb (by omega)
  rcases hd with rfl | rfl | rfl
  · refine deed_ok (by decide +kernel) (show 1 ≤ 2 by decide) fun d hd => ?_
    rw [List.mem_singleton] at hd
    subst hd
    exact ⟨hup.1.r, hup.1.pl 2 (by decide), Nat.le_trans hup.1.oct (by decide), Nat.le_trans hup.1.dep (by decide)⟩
  · refine deed_ok (by decide +kernel) (show 2 ≤ 2 by decide) fun d hd => ?_
    simp only [List.mem_cons, List.not_mem_nil, or_false] at hd
    rcases hd with rfl | rfl
    · exact ⟨oc_okR hb (by omega), oc_pl (by decide) hb, by omega, by rw [oc_dep]; decide⟩
    · exact hint
  · refine deed_ok hw (show 1 ≤ 2 by decide) fun d hd => ?_
    rw [List.mem_singleton] at hd
    subst hd
    exact ⟨hx.r, hx.pl 2 (by decide), Nat.le_trans hx.oct (by decide), hx.dep⟩
theorem rec_byt {x : D} (h : okD x) (hl : (packedL x).length ≤ 16000000) : Byt (recL x) := sealed_byt (byt_cons (by decide) (byt_app (byt_small _ (by omega)) (packed_byt h)))
theorem rec_le {d : D} (h : DeedOk d) : (recL d).length ≤ 10015 ∧ Byt (recL d) := by
  have h1 := h.oct
  have h2 := packed_len d
  have h3 := seven_short (packedL d).length (by omega)
  have h4 := rec_len d
  exact ⟨by omega, rec_byt (okR_D d h.rc.r) (by omega)⟩
theorem jou_ok : ∀ {xs : List D}, (∀ d ∈ xs, DeedOk d) → (jouL xs).length ≤ xs.length * 10015 ∧ Byt (jouL xs)
  | [], _ => ⟨Nat.le_refl _, fun x hx => by cases hx⟩
  | x :: xs, h => by
    obtain ⟨h1, h2⟩ := rec_le (h x List.mem_cons_self)
    obtain ⟨h3, h4⟩ := jou_ok fun d hd => h d (List.mem_cons_of_mem _ hd)
    rw [jou_cons]
    refine ⟨?_, byt_app h2 h4⟩
    rw [List.length_append, List.length_cons, Nat.add_mul, Nat.one_mul]
    omega
theorem deedNods : ∀ {xs : List D}, (∀ d ∈ xs, DeedOk d) → nods xs ≤ xs.length * 10000
  | [], _ => Nat.le_refl _
  | x :: xs, h => by
    have h1 := h x List.mem_cons_self
    have h2 := nod_le x (okR_D x h1.rc.r)
    have h3 := h1.oct
    have h4 := deedNods fun d hd => h d (List.mem_cons_of_mem _ hd)
    rw [nods, List.length_cons, Nat.add_mul, Nat.one_mul]
    omega
theorem okDs_of : ∀ {ds : List D}, (∀ d ∈ ds, okD d) → okDs ds
  | [], _ => trivial
  | d :: ds, h => ⟨h d List.mem_cons_self, okDs_of fun e he => h e (List.mem_cons_of_mem _ he)⟩
end K90
set_option maxHeartbeats 1000000
namespace K90
open PySem PySem.Spec PyProof.Rows L2 DL
section
variable {M S : Sto} {n c t : Nat} {cells : List Nat} {s : BS} {ρ : DL.LE}
/-! ### the list of the deeds -/
noncomputable def e18 : DE := dLst (dCons (dTup (dCons (dC (.str "octets")) (dCons (dOp fIx (dVar 5) (dC (.int 0))) dNil))) (dCons (dTup (dCons (dC (.str "bent")) (dCons (dVar 13) (dCons (dVar 4) dNil)))) (dCons (dTup (dCons (dCall F__law_some (dCons (dVar 1) (dCons (dLst (dCons (dC (.str "a")) (dCons (dC (.str "give")) (dCons (dC (.str "gone")) dNil)))) dNil))) (dCons (dVar 3) dNil))) dNil)))
theorem word3 : ∀ v, v < 3 → ∃ w : Str, ([D.str "a", .str "give", .str "gone"] : List D).getD v .non = .str w ∧ wordOk w = true
  | 0, _ => ⟨"a", rfl, by decide +kernel⟩
  | 1, _ => ⟨"give", rfl, by decide +kernel⟩
  | 2, _ => ⟨"gone", rfl, by decide +kernel⟩
theorem e18_ok {x : D} {b : List Nat} {lv : Nat} (I : Inv M n c cells s S) (hlv : 1 ≤ lv) (hT : S[t]? = some (.lst (tows x lv))) (v1 : ∀ S', dVar 1 ρ S' = some (.ok (.obj n) S')) (v3 : ∀ S', dVar 3 ρ S' = some (.ok x S')) (v4 : ∀ S', dVar 4 ρ S' = some (.ok (.int (lv : Int)) S')) (v5 : ∀ S', dVar 5 ρ S' = some (.ok (.obj t) S')) (v13 : ∀ S', dVar 13 ρ S' = some (.ok (oc b) S')) :
    ∃ w s' S', wordOk w = true ∧ e18 ρ S = some (.ok (.obj S'.length) (S' ++ [.lst (deeds w b lv x)])) ∧ Inv M n c cells s' S' := by
  have h2 : 2 ≤ sizeLine := by decide
  have h3 : 3 ≤ sizeLine := by decide
  have hw : dLst (dCons (dC (.str "a")) (dCons (dC (.str "give")) (dCons (dC (.str "gone")) dNil))) ρ S = some (.ok (.obj S.length) (S ++ [.lst [.str "a", .str "give", .str "gone"]])) := lst_ok (cons_ok rfl (cons_ok rfl (one_ok rfl))) h3
  have I1 := I.app [.lst [.str "a", .str "give", .str "gone"]]
  have hlt : n < S.length := I.bag.lt
  have hso := some_F I1.bag (t := S.length) getA0 (by omega) (k := 3) rfl (by decide) (by decide)
  have hv := tk_lt cells s (many := 3) (by decide)
  have I2 := I1.tk 3
  generalize (tk cells s 3).1 = v at hso hv
  generalize (tk cells s 3).2 = s2 at hso I2
  generalize (S ++ [Ob.lst [.str "a", .str "give", .str "gone"]]).set n (bgO s2 c) = S2 at hso I2
  obtain ⟨w, e, hwok⟩ := word3 v hv
  rw [e] at hso
  have h0 : dOp fIx (dVar 5) (dC (.int 0)) ρ S = some (.ok (oc (packedL x)) S) := op_ok (v5 S) rfl (bag_ix (j := 0) hT (tows_get (by omega)))
  refine ⟨w, s2, S2, hwok, ?_, I2⟩
  exact lst_ok (cons_ok (tup_ok (cons_ok rfl (one_ok h0)) h2) (cons_ok (tup_ok (cons_ok rfl (cons_ok (v13 S) (one_ok (v4 S)))) h3) (one_ok (tup_ok (cons_ok (call_ok (cons_ok (v1 S) (one_ok hw)) hso) (one_ok (v3 S2))) h2)))) h3
/-! ### the journal -/
theorem journal_F {xs : List D} (h : ∀ d ∈ xs, DeedOk d) (hl : xs.length ≤ 3) : F_journal_of [.tup xs] S = some (.ok (oc (jouL xs)) S) :=
  fnR_eq u_journal_of ⟨xs, fun x hx => ⟨okR_D x (h x hx).rc.r, by have := (h x hx).oct; omega⟩, by have := (jou_ok h).1; omega, rfl, rfl, rfl⟩
theorem deeds_in_F {xs : List D} (h : ∀ d ∈ xs, DeedOk d) (hl : xs.length ≤ 3) : F_deeds_in [oc (jouL xs)] S = some (.ok (.tup [.tup xs, .int ((jouL xs).length : Nat)]) S) :=
  fnR_eq u_deeds_in ⟨xs, fun x hx => (h x hx).rc, (jou_ok h).2, by have := (jou_ok h).1; omega, rfl, rfl, rfl⟩
theorem own_journal_F {xs : List D} (ht : S[t]? = some (.lst xs)) (h : ∀ d ∈ xs, DeedOk d) (hl : xs.length ≤ 3) : F__law_own_journal 4 [.obj t] S = some (.ok (oc (jouL xs)) S) :=
  fnR_eq u__law_own_journal ⟨t, xs, ht, fun x hx => ⟨okR_D x (h x hx).rc.r, (h x hx).dep, by have := (h x hx).oct; omega⟩, by have := (jou_ok h).1; omega, rfl, rfl, rfl⟩
theorem record_F {d : D} (h : DeedOk d) : F_record_of [d] S = some (.ok (oc (recL d)) S) := fnR_eq u_record_of ⟨d, okR_D d h.rc.r, by have := h.oct; omega, rfl, rfl, rfl⟩
theorem own_record_F {d : D} (h : DeedOk d) : F__law_own_record 4 [d] S = some (.ok (oc (recL d)) S) := fnR_eq u__law_own_record ⟨d, okR_D d h.rc.r, h.dep, by have := h.oct; omega, rfl, rfl, rfl⟩
theorem tupL {xs : List D} (ht : S[t]? = some (.lst xs)) : fTuple [.obj t] S = some (.tup xs, S) := by simp only [fTuple, itemsD, ht]
noncomputable def iJ : DS := dIfS (dNotT (dTru (dCall F__law_alike (dCons (dLst (dCons (dVar 9) (dCons (dCall F_deeds_in (dCons (dVar 9) dNil)) dNil))) (dCons (dLst (dCons (dCall (F__law_own_journal 4) (dCons (dVar 18) dNil)) (dCons (dTup (dCons (dCB fTuple (dCons (dVar 18) dNil)) (dCons (dCB fLen (dCons (dVar 9) dNil)) dNil))) dNil))) dNil))))) (dRet (dC (.bl false))) dNext
theorem iJ_ok {xs : List D} (ht : S[t]? = some (.lst xs)) (h : ∀ d ∈ xs, DeedOk d) (hl : xs.length ≤ 3) (v9 : ∀ S', dVar 9 ρ S' = some (.ok (oc (jouL xs)) S')) (v18 : ∀ S', dVar 18 ρ S' = some (.ok (.obj t) S')) :
    ∃ g, iJ ρ S = some (.nx ρ, S ++ g) := by
  have h2 : 2 ≤ sizeLine := by decide
  obtain ⟨hj, hb⟩ := jou_ok h
  have l1 : dLst (dCons (dVar 9) (dCons (dCall F_deeds_in (dCons (dVar 9) dNil)) dNil)) ρ S = some (.ok (.obj S.length) (S ++ [.lst [oc (jouL xs), .tup [.tup xs, .int ((jouL xs).length : Nat)]]])) := lst_ok (cons_ok (v9 S) (one_ok (call_ok (one_ok (v9 S)) (deeds_in_F h hl)))) h2
  have hE : ∀ E : Ob, dLst (dCons (dCall (F__law_own_journal 4) (dCons (dVar 18) dNil)) (dCons (dTup (dCons (dCB fTuple (dCons (dVar 18) dNil)) (dCons (dCB fLen (dCons (dVar 9) dNil)) dNil))) dNil)) ρ (S ++ [E]) = some (.ok (.obj (S ++ [E]).length) ((S ++ [E]) ++ [.lst [oc (jouL xs), .tup [.tup xs, .int ((jouL xs).length : Nat)]]])) := fun E => by
    have ht' := get_app (g := [E]) ht
    exact lst_ok (cons_ok (call_ok (one_ok (v18 _)) (own_journal_F ht' h hl)) (one_ok (tup_ok (cons_ok (cb_ok (one_ok (v18 _)) (tupL ht')) (one_ok (cb_ok (one_ok (v9 _)) (o_len_oc _ _)))) h2))) h2
  have hok : okDs [oc (jouL xs), .tup [.tup xs, .int ((jouL xs).length : Nat)]] := ⟨okR_D _ (oc_okR hb (by omega)), ⟨show 2 ≤ 16000000 by decide, ⟨show xs.length ≤ 16000000 by omega, okDs_of fun d hd => okR_D d (h d hd).rc.r⟩, small_int (by omega), trivial⟩, trivial⟩
  have hnd := deedNods h
  refine ⟨_, (alike_go (cons_ok l1 (one_ok (hE _))) (Alk.lists S.length _ _ (get_app getA0) getA0 hok) ?_).trans (by rw [appA])⟩
  have e1 : nod (.tup [oc (jouL xs), .tup [.tup xs, .int ((jouL xs).length : Nat)]]) = 1 + (nod (oc (jouL xs)) + ((1 + ((1 + nods xs) + (1 + 0))) + 0)) := rfl
  rw [e1, oc_nod]
  omega
noncomputable def iR : DS := dIfS (dNotT (dTru (dCall F__law_alike (dCons (dCall F_record_of (dCons (dOp fIx (dVar 18) (dC (.int 0))) dNil)) (dCons (dCall (F__law_own_record 4) (dCons (dOp fIx (dVar 18) (dC (.int 0))) dNil)) dNil))))) (dRet (dC (.bl false))) dNext
theorem iR_ok {d : D} {xs : List D} (ht : S[t]? = some (.lst (d :: xs))) (h : DeedOk d) (v18 : ∀ S', dVar 18 ρ S' = some (.ok (.obj t) S')) : iR ρ S = some (.nx ρ, S) := by
  have h0 : dOp fIx (dVar 18) (dC (.int 0)) ρ S = some (.ok d S) := op_ok (v18 S) rfl (bag_ix (j := 0) ht rfl)
  obtain ⟨hl, hb⟩ := rec_le h
  obtain ⟨ha, hn⟩ := oc_alk (S := S) hb (by omega)
  exact alike_go (cons_ok (call_ok (one_ok h0) (record_F h)) (one_ok (call_ok (one_ok h0) (own_record_F h)))) ha hn
/-! ### what is no deed -/
noncomputable def e19 : DE := dLst (dCons (dTup dNil) (dCons (dLst (dCons (dC (.str "a")) dNil)) (dCons (dTup (dCons (dC (.str "A")) dNil)) (dCons (dTup (dCons (dC (.int 1)) (dCons (dC (.str "a")) dNil))) (dCons (dC .non) (dCons (dTup (dCons (dC (.str "a")) (dCons (dLst (dCons (dC (.str "b")) dNil)) dNil))) (dCons (dTup (dCons (dC (.str "a")) (dCons (dC (.str "B")) dNil))) (dCons (dTup (dCons (dC (.str "a")) (dCons (dTup (dCons (dTup (dCons (dC (.str "b")) (dCons (dLst dNil) dNil))) dNil)) dNil))) dNil))))))))
def odd (i j k : Nat) : List D := [.tup [], .obj i, .tup [.str "A"], .tup [.int 1, .str "a"], .non, .tup [.str "a", .obj j], .tup [.str "a", .str "B"], .tup [.str "a", .tup [.tup [.str "b", .obj k]]]]
theorem e19_ok : e19 ρ S = some (.ok (.obj (S.length + 3)) (S ++ [.lst [.str "a"], .lst [.str "b"], .lst [], .lst (odd S.length (S.length + 1) (S.length + 2))])) := by
  have h0 : 0 ≤ sizeLine := by decide
  have h1 : 1 ≤ sizeLine := by decide
  have h2 : 2 ≤ sizeLine := by decide
  have l1 : dLst (dCons (dC (.str "a")) dNil) ρ S = some (.ok (.obj S.length) (S ++ [.lst [.str "a"]])) := lst_ok (one_ok rfl) h1
  have l2 : dLst (dCons (dC (.str "b")) dNil) ρ (S ++ [.lst [.str "a"]]) = some (.ok (.obj (S.length + 1)) (S ++ [.lst [.str "a"], .lst [.str "b"]])) := by
    have := lst_ok (ρ := ρ) (M := S ++ [.lst [.str "a"]]) (aa := dCons (dC (.str "b")) dNil) (one_ok rfl) h1
    rw [lenA, appA] at this
    exact this
  have l3 : dLst dNil ρ (S ++ [.lst [.str "a"], .lst [.str "b"]]) = some (.ok (.obj (S.length + 2)) (S ++ [.lst [.str "a"], .lst [.str "b"], .lst []])) := by
    have := lst_ok (ρ := ρ) (M := S ++ [.lst [.str "a"], .lst [.str "b"]]) (aa := dNil) nil_ok h0
    rw [lenA, appA] at this
    exact this
  have l4 := lst_ok (cons_ok (tup_ok nil_ok h0 : dTup dNil ρ S = _) (cons_ok l1 (cons_ok (tup_ok (one_ok (rfl : dC (.str "A") ρ _ = some (.ok (.str "A") _))) h1) (cons_ok (tup_ok (cons_ok (rfl : dC (.int 1) ρ _ = some (.ok (.int 1) _)) (one_ok (rfl : dC (.str "a") ρ _ = some (.ok (.str "a") _)))) h2) (cons_ok (rfl : dC .non ρ _ = some (.ok .non _)) (cons_ok (tup_ok (cons_ok (rfl : dC (.str "a") ρ _ = some (.ok (.str "a") _)) (one_ok l2)) h2) (cons_ok (tup_ok (cons_ok (rfl : dC (.str "a") ρ _ = some (.ok (.str "a") _)) (one_ok (rfl : dC (.str "B") ρ _ = some (.ok (.str "B") _)))) h2) (one_ok (tup_ok (cons_ok (rfl : dC (.str "a") ρ _ = some (.ok (.str "a") _)) (one_ok (tup_ok (one_ok (tup_ok (cons_ok (rfl : dC (.str "b") ρ _ = some (.ok (.str "b") _)) (one_ok l3)) h2)) h1))) h2))))))))) (show 8 ≤ sizeLine by decide)
  rw [lenA, appA] at l4
  exact l4
theorem pl_str {k : Nat} {z : Str} (h : isW (.str z) = false) : plD k (.str z) = false := by
  rw [plD]
  exact h
theorem typ_lst {i : Nat} {L : List D} (h : S[i]? = some (.lst L)) : typD S (.obj i) := by
  rw [typD]
  exact ⟨L, h⟩
theorem typ_str (z : Str) (h : z.length ≤ 100000) : typD S (.str z) := by
  rw [typD]
  exact h
/-- a thing that is no deed, asked -/
theorem odd_F {x : D} (ht : typD S x) (hn : nod x ≤ 4000000) (hp : plD 1 x = false) (hs : ∀ s ds, x = .tup (.str s :: ds) → PyData.strOk s = true) : F_is_deed [x] S = some (.ok (.bl false) S) := by
  have hd : isDeed x = false := by
    unfold isDeed
    split
    · rename_i z ds
      rw [hp, Bool.false_and, Bool.and_false]
    · rfl
  exact fnR_eq u_is_deed ⟨x, ht, hn, fun h => (by rw [hp] at h; cases h), hs, rfl, by rw [hd], rfl⟩
end
end K90
set_option maxHeartbeats 1000000
namespace K90
open PySem PySem.Spec PyProof.Rows L2 DL
section
variable {M S : Sto} {n c t : Nat} {cells : List Nat} {s : BS} {ρ : DL.LE}
theorem odd_F2 {x : D} (ht : typD S x) (hn : nod x ≤ 4000000) (hp : okD x) (ho : (octD x).length ≤ 4000000) (hd : isDeed x = false) (hs : ∀ s ds, x = .tup (.str s :: ds) → PyData.strOk s = true) : F_is_deed [x] S = some (.ok (.bl false) S) :=
  fnR_eq u_is_deed ⟨x, ht, hn, fun _ => ⟨hp, ho⟩, hs, rfl, by rw [hd], rfl⟩
theorem strA : PyData.strOk ("a" : Str) = true := by decide +kernel
theorem odd_ok {i j k : Nat} {A B C : List D} (hi : S[i]? = some (.lst A)) (hj : S[j]? = some (.lst B)) (hk : S[k]? = some (.lst C)) : ∀ x ∈ odd i j k, F_is_deed [x] S = some (.ok (.bl false) S) := by
  intro x hx
  have ta : typD S (.str "a") := typ_str _ (by decide +kernel)
  have hword : ∀ (z : Str) (ds : List D), (D.tup (.str "a" :: ds) : D) = .tup (.str z :: ds) → PyData.strOk z = true := fun z ds e => by
    injection e with e
    injection e with e _
    injection e with e
    rw [← e]
    exact strA
  have hfirst : ∀ (y : List D) (s : Str) (ds : List D), D.tup (.str "a" :: y) = .tup (.str s :: ds) → PyData.strOk s = true := fun y s ds e => by
    injection e with e
    injection e with e _
    injection e with e
    rw [← e]
    exact strA
  unfold odd at hx
  simp only [List.mem_cons, List.not_mem_nil, or_false] at hx
  rcases hx with rfl | rfl | rfl | rfl | rfl | rfl | rfl | rfl
  · exact odd_F2 trivial (by decide) ⟨Nat.zero_le _, trivial⟩ (by decide +kernel) rfl (fun s ds e => by cases e)
  · exact odd_F (typ_lst hi) (show 1 ≤ 4000000 by decide) (by rw [plD]) (fun s ds e => by cases e)
  · refine odd_F ⟨typ_str _ (by decide +kernel), trivial⟩ (show 1 + (1 + 0) ≤ 4000000 by decide) (by decide +kernel) (fun s ds e => ?_)
    injection e with e
    injection e with e _
    injection e with e
    rw [← e]
    decide +kernel
  · refine odd_F2 ⟨trivial, ta, trivial⟩ (show 1 + (1 + (1 + 0)) ≤ 4000000 by decide) ⟨show 2 ≤ 16000000 by decide, small_int (n := 1) (by decide), ⟨by decide +kernel, by decide +kernel⟩, trivial⟩ (by decide +kernel) rfl (fun s ds e => ?_)
    injection e with e
    injection e with e _
    cases e
  · exact odd_F2 trivial (by decide) trivial (by decide +kernel) rfl (fun s ds e => by cases e)
  · exact odd_F ⟨ta, typ_lst hj, trivial⟩ (show 1 + (1 + (1 + 0)) ≤ 4000000 by decide) (by simp only [plD, plDs, Bool.and_false, Bool.false_and]) (hfirst _)
  · exact odd_F ⟨ta, typ_str _ (by decide +kernel), trivial⟩ (show 1 + (1 + (1 + 0)) ≤ 4000000 by decide) (by decide +kernel) (hfirst _)
  · exact odd_F ⟨ta, ⟨⟨typ_str _ (by decide +kernel), typ_lst hk, trivial⟩, trivial⟩, trivial⟩ (show 1 + (1 + ((1 + ((1 + (1 + (1 + 0))) + 0)) + 0)) ≤ 4000000 by decide) (by simp only [plD, plDs, Bool.and_false, Bool.false_and]) (hfirst _)
noncomputable def iF : DS := dIfS (dNotT (dTru (dCall F__law_alike (dCons (dLc [16] (diSeq (dOp fAdd (dVar 18) (dVar 19))) (cgName 16) dYes (dCall F_is_deed (dCons (dVar 16) dNil))) (dCons (dOp fAdd (dOp fMul (dLst (dCons (dC (.bl true)) dNil)) (dC (.int 3))) (dOp fMul (dLst (dCons (dC (.bl false)) dNil)) (dC (.int 8)))) dNil))))) (dRet (dC (.bl false))) dNext
theorem addL {i j : Nat} {A B : List D} (hi : S[i]? = some (.lst A)) (hj : S[j]? = some (.lst B)) (hl : A.length + B.length ≤ 1000) : fAdd (.obj i) (.obj j) S = some (.obj S.length, S ++ [.lst (A ++ B)]) := by
  have hs := sz
  simp only [fAdd, hi, hj]
  rw [if_pos (by omega)]
theorem mulL {i k : Nat} {A : List D} (hi : S[i]? = some (.lst A)) (hk : k ≤ 1000) (hl : A.length ≤ 1000) : fMul (.obj i) (.int (k : Int)) S = some (.obj S.length, S ++ [.lst (List.replicate k A).flatten]) := by
  have hs := sz
  simp only [fMul, hi]
  have h1 : A.length * k ≤ 1000 * 1000 := Nat.mul_le_mul hl hk
  rw [if_pos ⟨by omega, by omega, by rw [Int.toNat_natCast]; omega⟩, Int.toNat_natCast]
abbrev res11 : List D := [.bl true, .bl true, .bl true, .bl false, .bl false, .bl false, .bl false, .bl false, .bl false, .bl false, .bl false]
theorem due11 : ∃ g, (dOp fAdd (dOp fMul (dLst (dCons (dC (.bl true)) dNil)) (dC (.int 3))) (dOp fMul (dLst (dCons (dC (.bl false)) dNil)) (dC (.int 8)))) ρ S = some (.ok (.obj (S ++ g).length) ((S ++ g) ++ [.lst res11])) := by
  have h1 : 1 ≤ sizeLine := by decide
  have l1 : dLst (dCons (dC (.bl true)) dNil) ρ S = some (.ok (.obj S.length) (S ++ [.lst [.bl true]])) := lst_ok (one_ok rfl) h1
  have m1 := mulL (S := S ++ [.lst [.bl true]]) (i := S.length) (k := 3) (A := [.bl true]) getA0 (by decide) (by decide)
  have e1 := op_ok (db := dC (.int 3)) (ρ := ρ) l1 rfl m1
  have hg1 : ((S ++ [Ob.lst [.bl true]]) ++ [.lst (List.replicate 3 [D.bl true]).flatten])[(S ++ [Ob.lst [.bl true]]).length]? = some (.lst (List.replicate 3 [D.bl true]).flatten) := getA0
  generalize hS1 : (S ++ [Ob.lst [.bl true]]) ++ [.lst (List.replicate 3 [D.bl true]).flatten] = S1 at e1 hg1
  generalize (S ++ [Ob.lst [.bl true]]).length = i1 at e1 hg1
  have l2 : dLst (dCons (dC (.bl false)) dNil) ρ S1 = some (.ok (.obj S1.length) (S1 ++ [.lst [.bl false]])) := lst_ok (one_ok rfl) h1
  have m2 := mulL (S := S1 ++ [.lst [.bl false]]) (i := S1.length) (k := 8) (A := [.bl false]) getA0 (by decide) (by decide)
  have e2 := op_ok (db := dC (.int 8)) (ρ := ρ) l2 rfl m2
  have hg1' := get_app (g := [.lst (List.replicate 8 [D.bl false]).flatten]) (get_app (g := [Ob.lst [.bl false]]) hg1)
  have hg2 : ((S1 ++ [Ob.lst [.bl false]]) ++ [.lst (List.replicate 8 [D.bl false]).flatten])[(S1 ++ [Ob.lst [.bl false]]).length]? = some (.lst (List.replicate 8 [D.bl false]).flatten) := getA0
  have e3 := op_ok (ρ := ρ) e1 e2 (addL hg1' hg2 (by decide))
  refine ⟨[Ob.lst [.bl true], .lst (List.replicate 3 [D.bl true]).flatten, .lst [.bl false], .lst (List.replicate 8 [D.bl false]).flatten], e3.trans ?_⟩
  have hS2 : (S1 ++ [Ob.lst [.bl false]]) ++ [.lst (List.replicate 8 [D.bl false]).flatten] = S ++ [Ob.lst [.bl true], .lst (List.replicate 3 [D.bl true]).flatten, .lst [.bl false], .lst (List.replicate 8 [D.bl false]).flatten] := by
    rw [← hS1, appA, appA, appA]
    rfl
  rw [hS2]
  rfl
theorem iF_ok {t2 : Nat} {xs : List D} {i j k : Nat} {A B C : List D} (hi : S[i]? = some (.lst A)) (hj : S[j]? = some (.lst B)) (hk : S[k]? = some (.lst C)) (ht : S[t]? = some (.lst xs)) (ht2 : S[t2]? = some (.lst (odd i j k))) (h : ∀ d ∈ xs, DeedOk d) (hl : xs.length = 3) (hρ : ∃ a0 a1 a2 a3 a4 a5 a6 a7 a8 a9 a10 a11 a12 a13 a14 a15 a16 a17, ρ = R20 a0 a1 a2 a3 a4 a5 a6 a7 a8 a9 a10 a11 a12 a13 a14 a15 a16 a17 (some (.obj t)) (some (.obj t2))) :
    ∃ g, iF ρ S = some (.nx ρ, S ++ g) := by
  have hs := sz
  obtain ⟨a0, a1, a2, a3, a4, a5, a6, a7, a8, a9, a10, a11, a12, a13, a14, a15, a16, a17, rfl⟩ := hρ
  have hadd := addL ht ht2 (by rw [hl]; exact (show 3 + 8 ≤ 1000 by decide))
  have hdi : diSeq (dOp fAdd (dVar 18) (dVar 19)) (R20 a0 a1 a2 a3 a4 a5 a6 a7 a8 a9 a10 a11 a12 a13 a14 a15 a16 a17 (some (.obj t)) (some (.obj t2))) S = some (.ok (itSeq (.obj S.length)) (S ++ [.lst (xs ++ odd i j k)])) := seq_ok (it := fun _ _ => none) (op_ok rfl rfl hadd) (by simp only [isSeqD, getA0, List.getElem?_cons_zero])
  have hlen : (xs ++ odd i j k).length = 11 := by rw [List.length_append, hl]; rfl
  have hres : ∀ (g : Sto) (m : Nat) (hm : m < 11), ∃ x b, (xs ++ odd i j k)[m]? = some x ∧ res11[m]? = some (.bl b) ∧ F_is_deed [x] (S ++ g) = some (.ok (.bl b) (S ++ g)) := fun g m hm => by
    rcases Nat.lt_or_ge m 3 with h3 | h3
    · refine ⟨xs[m], true, by rw [List.getElem?_append_left (by omega), List.getElem?_eq_getElem], ?_, deed_F (h _ (List.getElem_mem _)).rc _⟩
      match m, h3 with
      | 0, _ => rfl
      | 1, _ => rfl
      | 2, _ => rfl
    · have hlt : m - xs.length < (odd i j k).length := by show m - xs.length < 8; omega
      refine ⟨(odd i j k)[m - xs.length], false, by rw [List.getElem?_append_right (by omega), List.getElem?_eq_getElem], ?_, odd_ok (get_app hi) (get_app hj) (get_app hk) _ (List.getElem_mem _)⟩
      match m, h3, hm with
      | 3, _, _ => rfl
      | 4, _, _ => rfl
      | 5, _, _ => rfl
      | 6, _, _ => rfl
      | 7, _, _ => rfl
      | 8, _, _ => rfl
      | 9, _, _ => rfl
      | 10, _, _ => rfl
  have hlc := lc_rel (vs := [16]) (dg := cgName 16) (dt := dYes) (de := dCall F_is_deed (dCons (dVar 16) dNil)) hdi (fun _ => S ++ [.lst (xs ++ odd i j k)]) res11 rfl (fun _ => rfl) (show 11 ≤ sizeLine by decide) (fun m hm => by
    obtain ⟨x, b, e1, e2, e3⟩ := hres ([.lst (xs ++ odd i j k)] ++ [.lst (res11.take m)]) m hm
    have e4 : res11[m] = .bl b := by
      rw [List.getElem?_eq_getElem hm] at e2
      exact Option.some.inj e2
    rw [← appA] at e3
    refine ⟨x, _, ?_, rfl, rfl, ?_⟩
    · show (match ((S ++ [.lst (xs ++ odd i j k)]) ++ [.lst (res11.take m)])[S.length]? with
        | some (.lst ds) => some ds[m]?
        | _ => none) = _
      rw [appA, getA0]
      show some ((xs ++ odd i j k)[m]?) = _
      rw [e1]
    · rw [e4]
      exact call_ok (one_ok rfl) e3) (by
    show (match ((S ++ [.lst (xs ++ odd i j k)]) ++ [.lst res11])[S.length]? with
        | some (.lst ds) => some ds[11]?
        | _ => none) = _
    rw [appA, getA0]
    show some ((xs ++ odd i j k)[11]?) = _
    rw [List.getElem?_eq_none (by rw [hlen]; exact Nat.le_refl _)])
  have hG : ((S ++ [Ob.lst (xs ++ odd i j k)]) ++ [.lst res11])[(S ++ [Ob.lst (xs ++ odd i j k)]).length]? = some (.lst res11) := getA0
  generalize (S ++ [Ob.lst (xs ++ odd i j k)]).length = p at hlc hG
  obtain ⟨g, hdue⟩ := due11 (ρ := R20 a0 a1 a2 a3 a4 a5 a6 a7 a8 a9 a10 a11 a12 a13 a14 a15 a16 a17 (some (.obj t)) (some (.obj t2))) (S := (S ++ [Ob.lst (xs ++ odd i j k)]) ++ [.lst res11])
  have hok : okDs res11 := ⟨trivial, trivial, trivial, trivial, trivial, trivial, trivial, trivial, trivial, trivial, trivial, trivial⟩
  unfold iF
  refine ⟨[Ob.lst (xs ++ odd i j k)] ++ ([Ob.lst res11] ++ (g ++ [.lst res11])), (alike_go (cons_ok hlc (one_ok hdue)) (Alk.lists p _ _ (get_app (get_app hG)) getA0 hok) (by decide)).trans ?_⟩
  rw [appA, appA, appA]
end
end K90
set_option maxHeartbeats 1000000
namespace K90
open PySem PySem.Spec PyProof.Rows L2 DL
noncomputable def p3 : DS := dPar3 3 4 5 (dCons (dCall (F__law_thing 3) (dCons (dVar 1) (dCons (dC (.int 2)) dNil))) (dCons (dOp fAdd (dC (.int 1)) (dCall F__law_take (dCons (dVar 1) (dCons (dC (.int 3)) dNil)))) (dCons (dLst dNil) dNil)))
noncomputable def hereLp : DS := dFor (diRng1 (dCons (dVar 4) dNil)) (dgName 7) hereB
noncomputable def g10 : DS := dIfS (dNotT (dTru (dCall F__law_alike (dCons (dVar 10) (dCons (dVar 3) dNil))))) (dRet (dC (.bl false))) dNext
noncomputable def e9 : DE := dCall F_journal_of (dCons (dCB fTuple (dCons (dVar 18) dNil)) dNil)
noncomputable def turnB : DS :=
  (dSeq p3
  (dSeq (dSet 6 (dVar 3))
  (dSeq hereLp
  (dSeq octLp
  (dSeq g10
  (dSeq (dSet 18 e18)
  (dSeq (dSet 9 e9)
  (dSeq iJ
  (dSeq iR
  (dSeq (dSet 19 e19)
  iF))))))))))
def Row (n : Nat) (ρ : DL.LE) : Prop := ∃ a0 a2 a3 a4 a5 a6 a7 a8 a9 a10 a11 a12 a13 a14 a15 a16 a17 a18 a19, ρ = R20 a0 (some (.obj n)) a2 a3 a4 a5 a6 a7 a8 a9 a10 a11 a12 a13 a14 a15 a16 a17 a18 a19
theorem p3_ok {M S : Sto} {n c : Nat} {cells : List Nat} {s : BS} {a0 a2 a3 a4 a5 a6 a7 a8 a9 a10 a11 a12 a13 a14 a15 a16 a17 a18 a19 : Option D} (I : Inv M n c cells s S) :
    ∃ (x : D) (lv : Nat) (s' : BS) (S' : Sto), p3 (R20 a0 (some (.obj n)) a2 a3 a4 a5 a6 a7 a8 a9 a10 a11 a12 a13 a14 a15 a16 a17 a18 a19) S = some (.nx (R20 a0 (some (.obj n)) a2 (some x) (some (.int (lv : Int))) (some (.obj S'.length)) a6 a7 a8 a9 a10 a11 a12 a13 a14 a15 a16 a17 a18 a19), S' ++ [.lst []]) ∧ Fit x 50 2 ∧ 1 ≤ lv ∧ lv ≤ 3 ∧ Inv M n c cells s' S' := by
  have h1 := thing_F (k := 3) (dp := 2) I.bag (by decide)
  have hx := thG_fit cells s
  have I1 := I.setB (thG_b1 2 S s I.bag)
  generalize (thG cells 2 s).1 = x at h1 hx
  generalize (thG cells 2 s).2 = s1 at h1 I1
  generalize S.set n (bgO s1 c) = S1 at h1 I1
  have h2 := take_F I1.bag (many := 3) (by decide) (by decide)
  have hv := tk_lt cells s1 (many := 3) (by decide)
  have I2 := I1.tk 3
  generalize (tk cells s1 3).1 = v at h2 hv
  generalize (tk cells s1 3).2 = s2 at h2 I2
  generalize S1.set n (bgO s2 c) = S2 at h2 I2
  refine ⟨x, 1 + v, s2, S2, ?_, hx, by omega, by omega, I2⟩
  unfold p3
  exact par3_ok (cons_ok (call_ok (cons_ok rfl (one_ok rfl)) h1) (cons_ok (op_ok rfl (call_ok (cons_ok rfl (one_ok rfl)) h2) (o_addN 1 v)) (one_ok (lst_ok nil_ok (show 0 ≤ sizeLine by decide)))))
theorem turn_ok {M S : Sto} {n c : Nat} {cells : List Nat} {s : BS} {ρ : DL.LE} (I : Inv M n c cells s S) (hρ : Row n ρ) : ∃ s' ρ' S', turnB ρ S = some (.nx ρ', S') ∧ Row n ρ' ∧ Inv M n c cells s' S' := by
  obtain ⟨a0, a2, a3, a4, a5, a6, a7, a8, a9, a10, a11, a12, a13, a14, a15, a16, a17, a18, a19, rfl⟩ := hρ
  obtain ⟨x, lv, s1, S1, b1, hx, hl1, hl3, I1⟩ := p3_ok (a0 := a0) (a2 := a2) (a3 := a3) (a4 := a4) (a5 := a5) (a6 := a6) (a7 := a7) (a8 := a8) (a9 := a9) (a10 := a10) (a11 := a11) (a12 := a12) (a13 := a13) (a14 := a14) (a15 := a15) (a16 := a16) (a17 := a17) (a18 := a18) (a19 := a19) I
  have I1' := I1.app [.lst []]
  have hlt : n < S1.length := I1.bag.lt
  have b2 : dSet 6 (dVar 3) (R20 a0 (some (.obj n)) a2 (some x) (some (.int (lv : Int))) (some (.obj S1.length)) a6 a7 a8 a9 a10 a11 a12 a13 a14 a15 a16 a17 a18 a19) (S1 ++ [.lst []]) = some (.nx (R20 a0 (some (.obj n)) a2 (some x) (some (.int (lv : Int))) (some (.obj S1.length)) (some x) a7 a8 a9 a10 a11 a12 a13 a14 a15 a16 a17 a18 a19), S1 ++ [.lst []]) := set_ok rfl
  obtain ⟨a7', a8', S3, b3, I3, T3⟩ := hereL_ok (lv := lv) (a0 := a0) (a1 := some (.obj n)) (a2 := a2) (a3 := some x) (a7 := a7) (a8 := a8) (R := [a9, a10, a11, a12, a13, a14, a15, a16, a17, a18, a19]) I1' hlt hx hl3 getA0
  obtain ⟨s4, S4, b, a9', a11', a12', a14', a15', a16', a17', b4, hb, hbl, I4, T4⟩ := octL_ok (a0 := a0) (a2 := a2) (a3 := some x) (a6 := some (tow x lv)) (a7 := a7') (a8 := a8') (a9 := a9) (a10 := a10) (a11 := a11) (a12 := a12) (a13 := a13) (a14 := a14) (a15 := a15) (a16 := a16) (a17 := a17) (a18 := a18) (a19 := a19) I3 hx hlt hl1 hl3 T3
  generalize hρ4 : R20 a0 (some (.obj n)) a2 (some x) (some (.int (lv : Int))) (some (.obj S1.length)) (some (tow x lv)) a7' a8' a9' (some x) a11' a12' (some (oc b)) a14' a15' a16' a17' a18 a19 = ρ4 at b4
  have hxn := nod_le x (okR_D x hx.r)
  have hxo := hx.oct
  have v10 : dVar 10 ρ4 S4 = some (.ok x S4) := by rw [← hρ4]; rfl
  have v3 : dVar 3 ρ4 S4 = some (.ok x S4) := by rw [← hρ4]; rfl
  have b5 : g10 ρ4 S4 = some (.nx ρ4, S4) := alike_go (cons_ok v10 (one_ok v3)) (.same x (okR_D x hx.r)) (by omega)
  obtain ⟨w, s5, S5, hw, he18, I5⟩ := e18_ok (ρ := ρ4) (x := x) (b := b) I4 hl1 T4 (fun _ => by rw [← hρ4]; rfl) (fun _ => by rw [← hρ4]; rfl) (fun _ => by rw [← hρ4]; rfl) (fun _ => by rw [← hρ4]; rfl) (fun _ => by rw [← hρ4]; rfl)
  have b6 := set_ok (i := 18) he18
  rw [← hρ4] at b6
  have b6' : dSet 18 e18 ρ4 S4 = some (.nx (R20 a0 (some (.obj n)) a2 (some x) (some (.int (lv : Int))) (some (.obj S1.length)) (some (tow x lv)) a7' a8' a9' (some x) a11' a12' (some (oc b)) a14' a15' a16' a17' (some (.obj S5.length)) a19), S5 ++ [.lst (deeds w b lv x)]) := by
    rw [← hρ4]
    exact b6
  have hD := deeds_ok hw hb hbl hl3 hx
  have hDl : (deeds w b lv x).length = 3 := rfl
  have I6 := I5.app [.lst (deeds w b lv x)]
  have T6 : (S5 ++ [Ob.lst (deeds w b lv x)])[S5.length]? = some (.lst (deeds w b lv x)) := getA0
  have hcons : ∃ d xs, deeds w b lv x = d :: xs := ⟨_, _, rfl⟩
  generalize deeds w b lv x = L at b6' hD hDl I6 T6 hcons
  generalize S5 ++ [Ob.lst L] = S6 at b6' I6 T6
  generalize S5.length = t at b6' T6
  have b7 : dSet 9 e9 (R20 a0 (some (.obj n)) a2 (some x) (some (.int (lv : Int))) (some (.obj S1.length)) (some (tow x lv)) a7' a8' a9' (some x) a11' a12' (some (oc b)) a14' a15' a16' a17' (some (.obj t)) a19) S6 = some (.nx (R20 a0 (some (.obj n)) a2 (some x) (some (.int (lv : Int))) (some (.obj S1.length)) (some (tow x lv)) a7' a8' (some (oc (jouL L))) (some x) a11' a12' (some (oc b)) a14' a15' a16' a17' (some (.obj t)) a19), S6) := set_ok (call_ok (one_ok (cb_ok (one_ok rfl) (tupL T6))) (journal_F hD (by omega)))
  obtain ⟨g7, b8⟩ := iJ_ok (ρ := R20 a0 (some (.obj n)) a2 (some x) (some (.int (lv : Int))) (some (.obj S1.length)) (some (tow x lv)) a7' a8' (some (oc (jouL L))) (some x) a11' a12' (some (oc b)) a14' a15' a16' a17' (some (.obj t)) a19) T6 hD (by omega) (fun _ => rfl) (fun _ => rfl)
  have I7 := I6.app g7
  have T7 := get_app (g := g7) T6
  generalize S6 ++ g7 = S7 at b8 I7 T7
  obtain ⟨d0, xs0, hL⟩ := hcons
  have b9 : iR (R20 a0 (some (.obj n)) a2 (some x) (some (.int (lv : Int))) (some (.obj S1.length)) (some (tow x lv)) a7' a8' (some (oc (jouL L))) (some x) a11' a12' (some (oc b)) a14' a15' a16' a17' (some (.obj t)) a19) S7 = _ := iR_ok (d := d0) (xs := xs0) (by rw [← hL]; exact T7) (hD d0 (by rw [hL]; exact List.mem_cons_self)) (fun _ => rfl)
  have b10 : dSet 19 e19 (R20 a0 (some (.obj n)) a2 (some x) (some (.int (lv : Int))) (some (.obj S1.length)) (some (tow x lv)) a7' a8' (some (oc (jouL L))) (some x) a11' a12' (some (oc b)) a14' a15' a16' a17' (some (.obj t)) a19) S7 = some (.nx (R20 a0 (some (.obj n)) a2 (some x) (some (.int (lv : Int))) (some (.obj S1.length)) (some (tow x lv)) a7' a8' (some (oc (jouL L))) (some x) a11' a12' (some (oc b)) a14' a15' a16' a17' (some (.obj t)) (some (.obj (S7.length + 3)))), S7 ++ [.lst [.str "a"], .lst [.str "b"], .lst [], .lst (odd S7.length (S7.length + 1) (S7.length + 2))]) := set_ok e19_ok
  have I8 := I7.app [.lst [.str "a"], .lst [.str "b"], .lst [], .lst (odd S7.length (S7.length + 1) (S7.length + 2))]
  have T8 := get_app (g := [.lst [.str "a"], .lst [.str "b"], .lst [], .lst (odd S7.length (S7.length + 1) (S7.length + 2))]) T7
  obtain ⟨g9, b11⟩ := iF_ok (S := S7 ++ [.lst [.str "a"], .lst [.str "b"], .lst [], .lst (odd S7.length (S7.length + 1) (S7.length + 2))]) (ρ := R20 a0 (some (.obj n)) a2 (some x) (some (.int (lv : Int))) (some (.obj S1.length)) (some (tow x lv)) a7' a8' (some (oc (jouL L))) (some x) a11' a12' (some (oc b)) a14' a15' a16' a17' (some (.obj t)) (some (.obj (S7.length + 3)))) (t := t) (t2 := S7.length + 3) (i := S7.length) (j := S7.length + 1) (k := S7.length + 2) (A := [.str "a"]) (B := [.str "b"]) (C := []) (by rw [getA0]; rfl) (by rw [getA 1]; rfl) (by rw [getA 2]; rfl) T8 (by rw [getA 3]; rfl) hD hDl ⟨_, _, _, _, _, _, _, _, _, _, _, _, _, _, _, _, _, _, rfl⟩
  have hfin := (seq_nx b1).trans ((seq_nx b2).trans ((seq_nx b3).trans ((seq_nx b4).trans ((seq_nx b5).trans ((seq_nx b6').trans ((seq_nx b7).trans ((seq_nx b8).trans ((seq_nx b9).trans ((seq_nx b10).trans b11)))))))))
  exact ⟨s5, _, _, hfin, ⟨_, _, _, _, _, _, _, _, _, _, _, _, _, _, _, _, _, _, _, rfl⟩, I8.app g9⟩
/-! ### law -/
def R_law (ds : List D) (M : Sto) (d : D) (M1 : Sto) : Prop := ∃ zs : List Int, zs.length ≤ 63 ∧ ds = [.scr zs] ∧ d = .bl true ∧ M = M1
theorem u_law : Fun R_law := by
  rintro ds M d M1 d' M1' ⟨zs, _, rfl, rfl, rfl⟩ ⟨zs', _, e, rfl, rfl⟩
  exact ⟨rfl, rfl⟩
noncomputable def F_law : DF := fnR R_law
theorem law_bag_F {M : Sto} {zs : List Int} (hl : zs.length ≤ 63) : F__law_bag [.scr zs] M = some (.ok (.obj (M.length + 2)) (M ++ [.lst (its zs), .lst (nts (zs.map Int.natAbs)), bgO bag0 (M.length + 1)])) := fnR_eq u__law_bag ⟨zs, hl, rfl, rfl, rfl⟩
theorem hF_law : ∀ ds M r, F_law ds M = some r → Clo M → D.cls M.length ds → ∃ d M1 fl M2, r = .ok d M1 ∧ bd_law F__law_bag (F__law_thing 3) F__law_take (F__law_own_packed 4) F_packed F__law_alike F_unpacked F_spoilt F_first_unlike F_is_sealed F_check_of F__law_check F_sealed F__law_apart_at F__law_some F_journal_of F_deeds_in (F__law_own_journal 4) F_record_of (F__law_own_record 4) F_is_deed (startD N_law.length ds) M = some (fl, M2) ∧ DL.Fin M fl M2 d M1 := fnR_hF fun ds M d M1 ⟨zs, hl, e1, e2, e3⟩ c1 _ => by
  subst e1 e2 e3
  have e : bd_law F__law_bag (F__law_thing 3) F__law_take (F__law_own_packed 4) F_packed F__law_alike F_unpacked F_spoilt F_first_unlike F_is_sealed F_check_of F__law_check F_sealed F__law_apart_at F__law_some F_journal_of F_deeds_in (F__law_own_journal 4) F_record_of (F__law_own_record 4) F_is_deed =
    dSeq (dSet 1 (dCall F__law_bag (dCons (dVar 0) dNil))) (dSeq (dFor (diRng1 (dCons (dC (.int 3)) dNil)) (dgName 2) turnB) (dRet (dC (.bl true)))) := rfl
  rw [e]
  have hst : startD N_law.length [.scr zs] = R20 (some (.scr zs)) none none none none none none none none none none none none none none none none none none none := rfl
  rw [hst]
  have b1 : dSet 1 (dCall F__law_bag (dCons (dVar 0) dNil)) (R20 (some (.scr zs)) none none none none none none none none none none none none none none none none none none none) M = some (.nx (R20 (some (.scr zs)) (some (.obj (M.length + 2))) none none none none none none none none none none none none none none none none none none), M ++ [.lst (its zs), .lst (nts (zs.map Int.natAbs)), bgO bag0 (M.length + 1)]) := set_ok (call_ok (one_ok rfl) (law_bag_F hl))
  have I : Inv M (M.length + 2) (M.length + 1) (zs.map Int.natAbs) bag0 (M ++ [.lst (its zs), .lst (nts (zs.map Int.natAbs)), bgO bag0 (M.length + 1)]) := ⟨⟨_, rfl⟩, by omega, by omega, ⟨by rw [getA 2]; rfl, by rw [getA 1]; rfl, by decide, by rw [List.length_map]; exact hl⟩⟩
  have hr := for_run (dg := dgName 2) (db := turnB) (rng1_ok (aa := dCons (dC (.int 3)) dNil) (ρ := R20 (some (.scr zs)) (some (.obj (M.length + 2))) none none none none none none none none none none none none none none none none none none) (M := M ++ [.lst (its zs), .lst (nts (zs.map Int.natAbs)), bgO bag0 (M.length + 1)]) (k := 3) (one_ok rfl) (by decide) (by decide))
    (fun i ρ S => ∃ s, Row (M.length + 2) ρ ∧ Inv M (M.length + 2) (M.length + 1) (zs.map Int.natAbs) s S) 3 ⟨bag0, ⟨_, _, _, _, _, _, _, _, _, _, _, _, _, _, _, _, _, _, _, rfl⟩, I⟩ (by
    rintro i ρ S hi ⟨s, ⟨a0, a2, a3, a4, a5, a6, a7, a8, a9, a10, a11, a12, a13, a14, a15, a16, a17, a18, a19, rfl⟩, I⟩
    obtain ⟨s', ρ', S', h1, h2, h3⟩ := turn_ok (ρ := R20 a0 (some (.obj (M.length + 2))) (some (.int ((i : Nat) : Int))) a3 a4 a5 a6 a7 a8 a9 a10 a11 a12 a13 a14 a15 a16 a17 a18 a19) I ⟨_, _, _, _, _, _, _, _, _, _, _, _, _, _, _, _, _, _, _, rfl⟩
    refine ⟨.int ((i : Nat) : Int), _, _, _, _, ?_, rfl, .inl h1, s', h2, h3⟩
    show some _ = _
    rw [if_pos hi, Int.zero_add]) (fun ρ S _ => rfl)
  obtain ⟨ρ', S', h1, s, -, I'⟩ := hr
  obtain ⟨g, hg⟩ := I'.ext
  subst hg
  rw [seq_nx b1, seq_nx h1]
  exact ⟨_, _, ret_ok rfl, Fin.cut c1 trivial⟩
end K90
set_option maxHeartbeats 4000000
namespace K90
open PySem PySem.Spec PyProof.Rows L2 DL
/-! ### the head: facts by names -/
def dd_is_integer : He.DefD := ⟨("is_integer", none), "is_integer", "is_integer", defArgs s_is_integer, defBody s_is_integer, defScope s_is_integer, [], []⟩
def dd_is_within : He.DefD := ⟨("is_within", none), "is_within", "is_within", defArgs s_is_within, defBody s_is_within, defScope s_is_within, [], []⟩
def dd_integer_octets : He.DefD := ⟨("integer_octets", none), "integer_octets", "integer_octets", defArgs s_integer_octets, defBody s_integer_octets, defScope s_integer_octets, [], []⟩
def dd_read_integer : He.DefD := ⟨("read_integer", none), "read_integer", "read_integer", defArgs s_read_integer, defBody s_read_integer, defScope s_read_integer, [], []⟩
def dd_check_of : He.DefD := ⟨("check_of", none), "check_of", "check_of", defArgs s_check_of, defBody s_check_of, defScope s_check_of, [], []⟩
def dd_sealed : He.DefD := ⟨("sealed", none), "sealed", "sealed", defArgs s_sealed, defBody s_sealed, defScope s_sealed, [], []⟩
def dd_is_sealed : He.DefD := ⟨("is_sealed", none), "is_sealed", "is_sealed", defArgs s_is_sealed, defBody s_is_sealed, defScope s_is_sealed, [], []⟩
def dd_is_word : He.DefD := ⟨("is_word", none), "is_word", "is_word", defArgs s_is_word, defBody s_is_word, defScope s_is_word, [], []⟩
def dd_is_small : He.DefD := ⟨("is_small", none), "is_small", "is_small", defArgs s_is_small, defBody s_is_small, defScope s_is_small, [], []⟩
def dd_is_plain : He.DefD := ⟨("is_plain", none), "is_plain", "is_plain", defArgs s_is_plain, defBody s_is_plain, defScope s_is_plain, [], []⟩
def dd_number_octets : He.DefD := ⟨("number_octets", none), "number_octets", "number_octets", defArgs s_number_octets, defBody s_number_octets, defScope s_number_octets, [], []⟩
def dd_own_octets : He.DefD := ⟨("own_octets", none), "own_octets", "own_octets", defArgs s_own_octets, defBody s_own_octets, defScope s_own_octets, [], []⟩
def dd_packed : He.DefD := ⟨("packed", none), "packed", "packed", defArgs s_packed, defBody s_packed, defScope s_packed, [], []⟩
def dd_Reader___init__ : He.DefD := ⟨("Reader", some "__init__"), "__init__", "Reader.__init__", defArgs s_Reader___init__, defBody s_Reader___init__, defScope s_Reader___init__, [], []⟩
def dd_Reader_number : He.DefD := ⟨("Reader", some "number"), "number", "Reader.number", defArgs s_Reader_number, defBody s_Reader_number, defScope s_Reader_number, [], []⟩
def dd_Reader_tag : He.DefD := ⟨("Reader", some "tag"), "tag", "Reader.tag", defArgs s_Reader_tag, defBody s_Reader_tag, defScope s_Reader_tag, [], []⟩
def dd_Reader_letter : He.DefD := ⟨("Reader", some "letter"), "letter", "Reader.letter", defArgs s_Reader_letter, defBody s_Reader_letter, defScope s_Reader_letter, [], []⟩
def dd_Reader_word : He.DefD := ⟨("Reader", some "word"), "word", "Reader.word", defArgs s_Reader_word, defBody s_Reader_word, defScope s_Reader_word, [], []⟩
def dd_Reader_simple : He.DefD := ⟨("Reader", some "simple"), "simple", "Reader.simple", defArgs s_Reader_simple, defBody s_Reader_simple, defScope s_Reader_simple, [], []⟩
def dd_Reader_thing : He.DefD := ⟨("Reader", some "thing"), "thing", "Reader.thing", defArgs s_Reader_thing, defBody s_Reader_thing, defScope s_Reader_thing, [], []⟩
def dd_opened : He.DefD := ⟨("opened", none), "opened", "opened", defArgs s_opened, defBody s_opened, defScope s_opened, [], []⟩
def dd_unpacked : He.DefD := ⟨("unpacked", none), "unpacked", "unpacked", defArgs s_unpacked, defBody s_unpacked, defScope s_unpacked, [], []⟩
def dd_first_unlike : He.DefD := ⟨("first_unlike", none), "first_unlike", "first_unlike", defArgs s_first_unlike, defBody s_first_unlike, defScope s_first_unlike, [], []⟩
def dd_spoilt : He.DefD := ⟨("spoilt", none), "spoilt", "spoilt", defArgs s_spoilt, defBody s_spoilt, defScope s_spoilt, [], []⟩
def dd_is_deed : He.DefD := ⟨("is_deed", none), "is_deed", "is_deed", defArgs s_is_deed, defBody s_is_deed, defScope s_is_deed, [], []⟩
def dd_record_of : He.DefD := ⟨("record_of", none), "record_of", "record_of", defArgs s_record_of, defBody s_record_of, defScope s_record_of, [], []⟩
def dd_whole_record : He.DefD := ⟨("whole_record", none), "whole_record", "whole_record", defArgs s_whole_record, defBody s_whole_record, defScope s_whole_record, [], []⟩
def dd_read_record : He.DefD := ⟨("read_record", none), "read_record", "read_record", defArgs s_read_record, defBody s_read_record, defScope s_read_record, [], []⟩
def dd_journal_of : He.DefD := ⟨("journal_of", none), "journal_of", "journal_of", defArgs s_journal_of, defBody s_journal_of, defScope s_journal_of, [], []⟩
def dd_steps_in : He.DefD := ⟨("steps_in", none), "steps_in", "steps_in", defArgs s_steps_in, defBody s_steps_in, defScope s_steps_in, [], []⟩
def dd_deeds_in : He.DefD := ⟨("deeds_in", none), "deeds_in", "deeds_in", defArgs s_deeds_in, defBody s_deeds_in, defScope s_deeds_in, [], []⟩
def dd__law_bag : He.DefD := ⟨("_law_bag", none), "_law_bag", "_law_bag", defArgs s__law_bag, defBody s__law_bag, defScope s__law_bag, [], []⟩
def dd__law_take : He.DefD := ⟨("_law_take", none), "_law_take", "_law_take", defArgs s__law_take, defBody s__law_take, defScope s__law_take, [], []⟩
def dd__law_some : He.DefD := ⟨("_law_some", none), "_law_some", "_law_some", defArgs s__law_some, defBody s__law_some, defScope s__law_some, [], []⟩
def dd__law_alike : He.DefD := ⟨("_law_alike", none), "_law_alike", "_law_alike", defArgs s__law_alike, defBody s__law_alike, defScope s__law_alike, [], []⟩
def dd__law_seven : He.DefD := ⟨("_law_seven", none), "_law_seven", "_law_seven", defArgs s__law_seven, defBody s__law_seven, defScope s__law_seven, [], []⟩
def dd__law_own_octets : He.DefD := ⟨("_law_own_octets", none), "_law_own_octets", "_law_own_octets", defArgs s__law_own_octets, defBody s__law_own_octets, defScope s__law_own_octets, [], []⟩
def dd__law_own_sealed : He.DefD := ⟨("_law_own_sealed", none), "_law_own_sealed", "_law_own_sealed", defArgs s__law_own_sealed, defBody s__law_own_sealed, defScope s__law_own_sealed, [], []⟩
def dd__law_own_packed : He.DefD := ⟨("_law_own_packed", none), "_law_own_packed", "_law_own_packed", defArgs s__law_own_packed, defBody s__law_own_packed, defScope s__law_own_packed, [], []⟩
def dd__law_own_record : He.DefD := ⟨("_law_own_record", none), "_law_own_record", "_law_own_record", defArgs s__law_own_record, defBody s__law_own_record, defScope s__law_own_record, [], []⟩
def dd__law_own_journal : He.DefD := ⟨("_law_own_journal", none), "_law_own_journal", "_law_own_journal", defArgs s__law_own_journal, defBody s__law_own_journal, defScope s__law_own_journal, [], []⟩
def dd__law_thing : He.DefD := ⟨("_law_thing", none), "_law_thing", "_law_thing", defArgs s__law_thing, defBody s__law_thing, defScope s__law_thing, [], []⟩
def dd__law_check : He.DefD := ⟨("_law_check", none), "_law_check", "_law_check", defArgs s__law_check, defBody s__law_check, defScope s__law_check, [], []⟩
def dd__law_apart_at : He.DefD := ⟨("_law_apart_at", none), "_law_apart_at", "_law_apart_at", defArgs s__law_apart_at, defBody s__law_apart_at, defScope s__law_apart_at, [], []⟩
def dd_law : He.DefD := ⟨("law", none), "law", "law", defArgs s_law, defBody s_law, defScope s_law, [], []⟩
def fnH : List He.DefD := [dd_is_integer, dd_is_within, dd_integer_octets, dd_read_integer, dd_check_of, dd_sealed, dd_is_sealed, dd_is_word, dd_is_small, dd_is_plain, dd_number_octets, dd_own_octets, dd_packed, dd_Reader___init__, dd_Reader_number, dd_Reader_tag, dd_Reader_letter, dd_Reader_word, dd_Reader_simple, dd_Reader_thing, dd_opened, dd_unpacked, dd_first_unlike, dd_spoilt, dd_is_deed, dd_record_of, dd_whole_record, dd_read_record, dd_journal_of, dd_steps_in, dd_deeds_in, dd__law_bag, dd__law_take, dd__law_some, dd__law_alike, dd__law_seven, dd__law_own_octets, dd__law_own_sealed, dd__law_own_packed, dd__law_own_record, dd__law_own_journal, dd__law_thing, dd__law_check, dd__law_apart_at, dd_law]
def faH : List He.Fa := [.free "abs", .free "all", .free "bool", .free "enumerate", .free "int", .free "isinstance", .free "len", .free "list", .free "max", .free "min", .free "range", .free "str", .free "tuple", .free "zip", .int "CHECK" 4, .int "FACTOR" 257, .int "FALSE" 1, .int "GROUP" 7, .int "HALF" 128, .int "LEAST" 6, .int "LESS" 4, .str "LETTERS" "abcdefghijklmnopqrstuvwxyz", .int "MARK_journal" 76, .int "MARK_packing" 78, .int "MODULUS" 4294967291, .int "MOST_DEEP" 100, .int "MOST_LETTERS" 200, .int "MOST_OCTETS" 400000, .int "NONE" 0, .int "NUMBER" 3, .int "ROW" 6, .int "TRUE" 2, .int "WORD" 5, .glo "is_integer", .glo "is_within", .glo "integer_octets", .glo "read_integer", .glo "check_of", .glo "sealed", .glo "is_sealed", .glo "is_word", .glo "is_small", .glo "is_plain", .glo "number_octets", .glo "own_octets", .glo "packed", .glo "opened", .glo "unpacked", .glo "first_unlike", .glo "spoilt", .glo "is_deed", .glo "record_of", .glo "whole_record", .glo "read_record", .glo "journal_of", .glo "steps_in", .glo "deeds_in", .glo "_law_bag", .glo "_law_take", .glo "_law_some", .glo "_law_alike", .glo "_law_seven", .glo "_law_own_octets", .glo "_law_own_sealed", .glo "_law_own_packed", .glo "_law_own_record", .glo "_law_own_journal", .glo "_law_thing", .glo "_law_check", .glo "_law_apart_at", .glo "law", .glo "Reader", .cls "Reader", .noat "Reader" "its_place", .noat "Reader" "its_octets", .mkr "Reader", .meth "Reader" "number", .meth "Reader" "tag", .meth "Reader" "letter", .meth "Reader" "word", .meth "Reader" "simple", .meth "Reader" "thing", .glo "SIMPLE", .glo "BadBytes"]
def exH (K : PySem.W.Frag) : Bool := decide (dicI K (He.ga K "SIMPLE") = some (keysI T_SIMPLE))
/-! ### each def keeps its promise -/
section
variable {P : Program} {w : World} {K : PySem.W.Frag} {mg : Str → Option Value} {base h : Heap}
theorem gfH (X : K.In h) (G : h.Ns mainGlobals mg) (c : SaysB faH fnH exH K) : GF mg := ⟨He.free_ok X G (c.d.fact 0), He.free_ok X G (c.d.fact 1), He.free_ok X G (c.d.fact 2), He.free_ok X G (c.d.fact 3), He.free_ok X G (c.d.fact 4), He.free_ok X G (c.d.fact 5), He.free_ok X G (c.d.fact 6), He.free_ok X G (c.d.fact 7), He.free_ok X G (c.d.fact 8), He.free_ok X G (c.d.fact 9), He.free_ok X G (c.d.fact 10), He.free_ok X G (c.d.fact 11), He.free_ok X G (c.d.fact 12), He.free_ok X G (c.d.fact 13), He.int_ok X G (c.d.fact 14), He.int_ok X G (c.d.fact 15), He.int_ok X G (c.d.fact 16), He.int_ok X G (c.d.fact 17), He.int_ok X G (c.d.fact 18), He.int_ok X G (c.d.fact 19), He.int_ok X G (c.d.fact 20), He.str_ok X G (c.d.fact 21), He.int_ok X G (c.d.fact 22), He.int_ok X G (c.d.fact 23), He.int_ok X G (c.d.fact 24), He.int_ok X G (c.d.fact 25), He.int_ok X G (c.d.fact 26), He.int_ok X G (c.d.fact 27), He.int_ok X G (c.d.fact 28), He.int_ok X G (c.d.fact 29), He.int_ok X G (c.d.fact 30), He.int_ok X G (c.d.fact 31), He.int_ok X G (c.d.fact 32)⟩
theorem ok__law_bag (X : K.In h) (G : h.Ns mainGlobals mg) (c : SaysB faH fnH exH K) : HasFnP P w K mg base 1 "_law_bag" (F__law_bag) := by
  obtain ⟨fd, Fd⟩ := c.d.def_ 31 (d := dd__law_bag) rfl
  exact ⟨_, fd, ["script"], He.glo_ok X G (c.d.fact 57), Fd.kp, (FunD.bindsN (ps := ["script"]) Fd fun _ _ _ _ _ _ us hl => match us, hl with | [_], _ => rfl), fn_okD (k := 0) Fd sc__law_bag (fnR_len fun ds M d M1 hR => by first | exact (match hR with | ⟨_, e, _⟩ => congrArg List.length e) | exact (match hR with | ⟨_, _, e, _⟩ => congrArg List.length e) | exact (match hR with | ⟨_, _, _, e, _⟩ => congrArg List.length e) | exact (match hR with | ⟨_, _, _, _, e, _⟩ => congrArg List.length e) | exact (match hR with | ⟨_, _, _, _, _, e, _⟩ => congrArg List.length e) | exact (match hR with | ⟨_, _, _, _, _, _, e, _⟩ => congrArg List.length e) | exact (match hR with | ⟨_, _, _, _, _, _, _, e, _⟩ => congrArg List.length e) | exact (match hR with | ⟨_, _, _, _, _, _, _, _, e, _⟩ => congrArg List.length e) | exact (match hR with | ⟨_, _, _, _, _, _, _, _, _, e, _⟩ => congrArg List.length e) | exact (match hR with | ⟨_, _, _, _, _, _, _, _, _, _, e, _⟩ => congrArg List.length e) | exact (match hR with | ⟨_, _, _, _, _, _, _, _, _, _, _, e, _⟩ => congrArg List.length e) | exact (match hR with | ⟨_, _, _, _, _, _, _, _, _, _, _, _, e, _⟩ => congrArg List.length e) | exact (match hR with | ⟨_, _, _, _, _, _, _, _, _, _, _, _, _, e, _⟩ => congrArg List.length e) | exact (match hR with | ⟨_, _, _, _, _, _, _, _, _, _, _, _, _, _, e, _⟩ => congrArg List.length e)) (fun _ _ _ _ _ _ hr => tm__law_bag (gfH X G c) hr) hF__law_bag⟩
theorem ok__law_take (X : K.In h) (G : h.Ns mainGlobals mg) (c : SaysB faH fnH exH K) : HasFnP P w K mg base 1 "_law_take" (F__law_take) := by
  obtain ⟨fd, Fd⟩ := c.d.def_ 32 (d := dd__law_take) rfl
  exact ⟨_, fd, ["bag", "many"], He.glo_ok X G (c.d.fact 58), Fd.kp, (FunD.bindsN (ps := ["bag", "many"]) Fd fun _ _ _ _ _ _ us hl => match us, hl with | [_, _], _ => rfl), fn_okD (k := 0) Fd sc__law_take (fnR_len fun ds M d M1 hR => by first | exact (match hR with | ⟨_, e, _⟩ => congrArg List.length e) | exact (match hR with | ⟨_, _, e, _⟩ => congrArg List.length e) | exact (match hR with | ⟨_, _, _, e, _⟩ => congrArg List.length e) | exact (match hR with | ⟨_, _, _, _, e, _⟩ => congrArg List.length e) | exact (match hR with | ⟨_, _, _, _, _, e, _⟩ => congrArg List.length e) | exact (match hR with | ⟨_, _, _, _, _, _, e, _⟩ => congrArg List.length e) | exact (match hR with | ⟨_, _, _, _, _, _, _, e, _⟩ => congrArg List.length e) | exact (match hR with | ⟨_, _, _, _, _, _, _, _, e, _⟩ => congrArg List.length e) | exact (match hR with | ⟨_, _, _, _, _, _, _, _, _, e, _⟩ => congrArg List.length e) | exact (match hR with | ⟨_, _, _, _, _, _, _, _, _, _, e, _⟩ => congrArg List.length e) | exact (match hR with | ⟨_, _, _, _, _, _, _, _, _, _, _, e, _⟩ => congrArg List.length e) | exact (match hR with | ⟨_, _, _, _, _, _, _, _, _, _, _, _, e, _⟩ => congrArg List.length e) | exact (match hR with | ⟨_, _, _, _, _, _, _, _, _, _, _, _, _, e, _⟩ => congrArg List.length e) | exact (match hR with | ⟨_, _, _, _, _, _, _, _, _, _, _, _, _, _, e, _⟩ => congrArg List.length e)) (fun _ _ _ _ _ _ hr => tm__law_take (gfH X G c) hr) hF__law_take⟩
theorem ok__law_some (X : K.In h) (G : h.Ns mainGlobals mg) (c : SaysB faH fnH exH K) : HasFnP P w K mg base 2 "_law_some" (F__law_some) := by
  obtain ⟨fd, Fd⟩ := c.d.def_ 33 (d := dd__law_some) rfl
  exact ⟨_, fd, ["bag", "things"], He.glo_ok X G (c.d.fact 59), Fd.kp, (FunD.bindsN (ps := ["bag", "things"]) Fd fun _ _ _ _ _ _ us hl => match us, hl with | [_, _], _ => rfl), fn_okD (k := 1) Fd sc__law_some (fnR_len fun ds M d M1 hR => by first | exact (match hR with | ⟨_, e, _⟩ => congrArg List.length e) | exact (match hR with | ⟨_, _, e, _⟩ => congrArg List.length e) | exact (match hR with | ⟨_, _, _, e, _⟩ => congrArg List.length e) | exact (match hR with | ⟨_, _, _, _, e, _⟩ => congrArg List.length e) | exact (match hR with | ⟨_, _, _, _, _, e, _⟩ => congrArg List.length e) | exact (match hR with | ⟨_, _, _, _, _, _, e, _⟩ => congrArg List.length e) | exact (match hR with | ⟨_, _, _, _, _, _, _, e, _⟩ => congrArg List.length e) | exact (match hR with | ⟨_, _, _, _, _, _, _, _, e, _⟩ => congrArg List.length e) | exact (match hR with | ⟨_, _, _, _, _, _, _, _, _, e, _⟩ => congrArg List.length e) | exact (match hR with | ⟨_, _, _, _, _, _, _, _, _, _, e, _⟩ => congrArg List.length e) | exact (match hR with | ⟨_, _, _, _, _, _, _, _, _, _, _, e, _⟩ => congrArg List.length e) | exact (match hR with | ⟨_, _, _, _, _, _, _, _, _, _, _, _, e, _⟩ => congrArg List.length e) | exact (match hR with | ⟨_, _, _, _, _, _, _, _, _, _, _, _, _, e, _⟩ => congrArg List.length e) | exact (match hR with | ⟨_, _, _, _, _, _, _, _, _, _, _, _, _, _, e, _⟩ => congrArg List.length e)) (fun _ _ _ _ _ _ hr => tm__law_some (gfH X G c) hr (ok__law_take X G c)) hF__law_some⟩
theorem okk__law_thing (X : K.In h) (G : h.Ns mainGlobals mg) (c : SaysB faH fnH exH K) : ∀ k : Nat, HasFnP P w K mg base (3 + k) "_law_thing" (F__law_thing k)
  | 0 => by
    obtain ⟨fd, Fd⟩ := c.d.def_ 41 (d := dd__law_thing) rfl
    exact ⟨_, fd, ["bag", "depth"], He.glo_ok X G (c.d.fact 67), Fd.kp, (FunD.bindsN (ps := ["bag", "depth"]) Fd fun _ _ _ _ _ _ us hl => match us, hl with | [_, _], _ => rfl), fn_empty (k := 2) Fd sc__law_thing (fnR_none fun ds M d M1 hR => by first | exact (match hR with | ⟨_, e, _⟩ => Nat.not_lt_zero _ e) | exact (match hR with | ⟨_, _, e, _⟩ => Nat.not_lt_zero _ e) | exact (match hR with | ⟨_, _, _, e, _⟩ => Nat.not_lt_zero _ e) | exact (match hR with | ⟨_, _, _, _, e, _⟩ => Nat.not_lt_zero _ e) | exact (match hR with | ⟨_, _, _, _, _, e, _⟩ => Nat.not_lt_zero _ e) | exact (match hR with | ⟨_, _, _, _, _, _, e, _⟩ => Nat.not_lt_zero _ e) | exact (match hR with | ⟨_, _, _, _, _, _, _, e, _⟩ => Nat.not_lt_zero _ e) | exact (match hR with | ⟨_, _, _, _, _, _, _, _, e, _⟩ => Nat.not_lt_zero _ e) | exact (match hR with | ⟨_, _, _, _, _, _, _, _, _, e, _⟩ => Nat.not_lt_zero _ e) | exact (match hR with | ⟨_, _, _, _, _, _, _, _, _, _, e, _⟩ => Nat.not_lt_zero _ e) | exact (match hR with | ⟨_, _, _, _, _, _, _, _, _, _, _, e, _⟩ => Nat.not_lt_zero _ e))⟩
  | k + 1 => by
    obtain ⟨fd, Fd⟩ := c.d.def_ 41 (d := dd__law_thing) rfl
    have ih := okk__law_thing X G c k
    exact ⟨_, fd, ["bag", "depth"], He.glo_ok X G (c.d.fact 67), Fd.kp, (FunD.bindsN (ps := ["bag", "depth"]) Fd fun _ _ _ _ _ _ us hl => match us, hl with | [_, _], _ => rfl), fn_okD (k := 3 + k) Fd sc__law_thing (fnR_len fun ds M d M1 hR => by first | exact (match hR with | ⟨_, e, _⟩ => congrArg List.length e) | exact (match hR with | ⟨_, _, e, _⟩ => congrArg List.length e) | exact (match hR with | ⟨_, _, _, e, _⟩ => congrArg List.length e) | exact (match hR with | ⟨_, _, _, _, e, _⟩ => congrArg List.length e) | exact (match hR with | ⟨_, _, _, _, _, e, _⟩ => congrArg List.length e) | exact (match hR with | ⟨_, _, _, _, _, _, e, _⟩ => congrArg List.length e) | exact (match hR with | ⟨_, _, _, _, _, _, _, e, _⟩ => congrArg List.length e) | exact (match hR with | ⟨_, _, _, _, _, _, _, _, e, _⟩ => congrArg List.length e) | exact (match hR with | ⟨_, _, _, _, _, _, _, _, _, e, _⟩ => congrArg List.length e) | exact (match hR with | ⟨_, _, _, _, _, _, _, _, _, _, e, _⟩ => congrArg List.length e) | exact (match hR with | ⟨_, _, _, _, _, _, _, _, _, _, _, e, _⟩ => congrArg List.length e) | exact (match hR with | ⟨_, _, _, _, _, _, _, _, _, _, _, _, e, _⟩ => congrArg List.length e) | exact (match hR with | ⟨_, _, _, _, _, _, _, _, _, _, _, _, _, e, _⟩ => congrArg List.length e) | exact (match hR with | ⟨_, _, _, _, _, _, _, _, _, _, _, _, _, _, e, _⟩ => congrArg List.length e)) (fun _ _ _ _ _ _ hr => tm__law_thing (gfH X G c) hr (by omega) (ok__law_take X G c) ih (ok__law_some X G c)) hF__law_thing⟩
theorem ok__law_thing (X : K.In h) (G : h.Ns mainGlobals mg) (c : SaysB faH fnH exH K) : HasFnP P w K mg base 6 "_law_thing" (F__law_thing 3) := okk__law_thing X G c 3
theorem ok__law_seven (X : K.In h) (G : h.Ns mainGlobals mg) (c : SaysB faH fnH exH K) : HasFnP P w K mg base 1 "_law_seven" (F__law_seven) := by
  obtain ⟨fd, Fd⟩ := c.d.def_ 35 (d := dd__law_seven) rfl
  exact ⟨_, fd, ["number"], He.glo_ok X G (c.d.fact 61), Fd.kp, (FunD.bindsN (ps := ["number"]) Fd fun _ _ _ _ _ _ us hl => match us, hl with | [_], _ => rfl), fn_okD (k := 0) Fd sc__law_seven (fnR_len fun ds M d M1 hR => by first | exact (match hR with | ⟨_, e, _⟩ => congrArg List.length e) | exact (match hR with | ⟨_, _, e, _⟩ => congrArg List.length e) | exact (match hR with | ⟨_, _, _, e, _⟩ => congrArg List.length e) | exact (match hR with | ⟨_, _, _, _, e, _⟩ => congrArg List.length e) | exact (match hR with | ⟨_, _, _, _, _, e, _⟩ => congrArg List.length e) | exact (match hR with | ⟨_, _, _, _, _, _, e, _⟩ => congrArg List.length e) | exact (match hR with | ⟨_, _, _, _, _, _, _, e, _⟩ => congrArg List.length e) | exact (match hR with | ⟨_, _, _, _, _, _, _, _, e, _⟩ => congrArg List.length e) | exact (match hR with | ⟨_, _, _, _, _, _, _, _, _, e, _⟩ => congrArg List.length e) | exact (match hR with | ⟨_, _, _, _, _, _, _, _, _, _, e, _⟩ => congrArg List.length e) | exact (match hR with | ⟨_, _, _, _, _, _, _, _, _, _, _, e, _⟩ => congrArg List.length e) | exact (match hR with | ⟨_, _, _, _, _, _, _, _, _, _, _, _, e, _⟩ => congrArg List.length e) | exact (match hR with | ⟨_, _, _, _, _, _, _, _, _, _, _, _, _, e, _⟩ => congrArg List.length e) | exact (match hR with | ⟨_, _, _, _, _, _, _, _, _, _, _, _, _, _, e, _⟩ => congrArg List.length e)) (fun _ _ _ _ _ _ hr => tm__law_seven (gfH X G c) hr) hF__law_seven⟩
theorem okk__law_own_octets (X : K.In h) (G : h.Ns mainGlobals mg) (c : SaysB faH fnH exH K) : ∀ k : Nat, HasFnP P w K mg base (2 + k) "_law_own_octets" (F__law_own_octets k)
  | 0 => by
    obtain ⟨fd, Fd⟩ := c.d.def_ 36 (d := dd__law_own_octets) rfl
    exact ⟨_, fd, ["thing"], He.glo_ok X G (c.d.fact 62), Fd.kp, (FunD.bindsN (ps := ["thing"]) Fd fun _ _ _ _ _ _ us hl => match us, hl with | [_], _ => rfl), fn_empty (k := 1) Fd sc__law_own_octets (fnR_none fun ds M d M1 hR => by first | exact (match hR with | ⟨_, e, _⟩ => Nat.not_lt_zero _ e) | exact (match hR with | ⟨_, _, e, _⟩ => Nat.not_lt_zero _ e) | exact (match hR with | ⟨_, _, _, e, _⟩ => Nat.not_lt_zero _ e) | exact (match hR with | ⟨_, _, _, _, e, _⟩ => Nat.not_lt_zero _ e) | exact (match hR with | ⟨_, _, _, _, _, e, _⟩ => Nat.not_lt_zero _ e) | exact (match hR with | ⟨_, _, _, _, _, _, e, _⟩ => Nat.not_lt_zero _ e) | exact (match hR with | ⟨_, _, _, _, _, _, _, e, _⟩ => Nat.not_lt_zero _ e) | exact (match hR with | ⟨_, _, _, _, _, _, _, _, e, _⟩ => Nat.not_lt_zero _ e) | exact (match hR with | ⟨_, _, _, _, _, _, _, _, _, e, _⟩ => Nat.not_lt_zero _ e) | exact (match hR with | ⟨_, _, _, _, _, _, _, _, _, _, e, _⟩ => Nat.not_lt_zero _ e) | exact (match hR with | ⟨_, _, _, _, _, _, _, _, _, _, _, e, _⟩ => Nat.not_lt_zero _ e))⟩
  | k + 1 => by
    obtain ⟨fd, Fd⟩ := c.d.def_ 36 (d := dd__law_own_octets) rfl
    have ih := okk__law_own_octets X G c k
    exact ⟨_, fd, ["thing"], He.glo_ok X G (c.d.fact 62), Fd.kp, (FunD.bindsN (ps := ["thing"]) Fd fun _ _ _ _ _ _ us hl => match us, hl with | [_], _ => rfl), fn_okD (k := 2 + k) Fd sc__law_own_octets (fnR_len fun ds M d M1 hR => by first | exact (match hR with | ⟨_, e, _⟩ => congrArg List.length e) | exact (match hR with | ⟨_, _, e, _⟩ => congrArg List.length e) | exact (match hR with | ⟨_, _, _, e, _⟩ => congrArg List.length e) | exact (match hR with | ⟨_, _, _, _, e, _⟩ => congrArg List.length e) | exact (match hR with | ⟨_, _, _, _, _, e, _⟩ => congrArg List.length e) | exact (match hR with | ⟨_, _, _, _, _, _, e, _⟩ => congrArg List.length e) | exact (match hR with | ⟨_, _, _, _, _, _, _, e, _⟩ => congrArg List.length e) | exact (match hR with | ⟨_, _, _, _, _, _, _, _, e, _⟩ => congrArg List.length e) | exact (match hR with | ⟨_, _, _, _, _, _, _, _, _, e, _⟩ => congrArg List.length e) | exact (match hR with | ⟨_, _, _, _, _, _, _, _, _, _, e, _⟩ => congrArg List.length e) | exact (match hR with | ⟨_, _, _, _, _, _, _, _, _, _, _, e, _⟩ => congrArg List.length e) | exact (match hR with | ⟨_, _, _, _, _, _, _, _, _, _, _, _, e, _⟩ => congrArg List.length e) | exact (match hR with | ⟨_, _, _, _, _, _, _, _, _, _, _, _, _, e, _⟩ => congrArg List.length e) | exact (match hR with | ⟨_, _, _, _, _, _, _, _, _, _, _, _, _, _, e, _⟩ => congrArg List.length e)) (fun _ _ _ _ _ _ hr => tm__law_own_octets (gfH X G c) hr (by omega) (ok__law_seven X G c) ih) hF__law_own_octets⟩
theorem ok__law_own_octets (X : K.In h) (G : h.Ns mainGlobals mg) (c : SaysB faH fnH exH K) : HasFnP P w K mg base 6 "_law_own_octets" (F__law_own_octets 4) := okk__law_own_octets X G c 4
theorem ok__law_own_sealed (X : K.In h) (G : h.Ns mainGlobals mg) (c : SaysB faH fnH exH K) : HasFnP P w K mg base 1 "_law_own_sealed" (F__law_own_sealed) := by
  obtain ⟨fd, Fd⟩ := c.d.def_ 37 (d := dd__law_own_sealed) rfl
  exact ⟨_, fd, ["octets"], He.glo_ok X G (c.d.fact 63), Fd.kp, (FunD.bindsN (ps := ["octets"]) Fd fun _ _ _ _ _ _ us hl => match us, hl with | [_], _ => rfl), fn_okD (k := 0) Fd sc__law_own_sealed (fnR_len fun ds M d M1 hR => by first | exact (match hR with | ⟨_, e, _⟩ => congrArg List.length e) | exact (match hR with | ⟨_, _, e, _⟩ => congrArg List.length e) | exact (match hR with | ⟨_, _, _, e, _⟩ => congrArg List.length e) | exact (match hR with | ⟨_, _, _, _, e, _⟩ => congrArg List.length e) | exact (match hR with | ⟨_, _, _, _, _, e, _⟩ => congrArg List.length e) | exact (match hR with | ⟨_, _, _, _, _, _, e, _⟩ => congrArg List.length e) | exact (match hR with | ⟨_, _, _, _, _, _, _, e, _⟩ => congrArg List.length e) | exact (match hR with | ⟨_, _, _, _, _, _, _, _, e, _⟩ => congrArg List.length e) | exact (match hR with | ⟨_, _, _, _, _, _, _, _, _, e, _⟩ => congrArg List.length e) | exact (match hR with | ⟨_, _, _, _, _, _, _, _, _, _, e, _⟩ => congrArg List.length e) | exact (match hR with | ⟨_, _, _, _, _, _, _, _, _, _, _, e, _⟩ => congrArg List.length e) | exact (match hR with | ⟨_, _, _, _, _, _, _, _, _, _, _, _, e, _⟩ => congrArg List.length e) | exact (match hR with | ⟨_, _, _, _, _, _, _, _, _, _, _, _, _, e, _⟩ => congrArg List.length e) | exact (match hR with | ⟨_, _, _, _, _, _, _, _, _, _, _, _, _, _, e, _⟩ => congrArg List.length e)) (fun _ _ _ _ _ _ hr => tm__law_own_sealed (gfH X G c) hr) hF__law_own_sealed⟩
theorem ok__law_own_packed (X : K.In h) (G : h.Ns mainGlobals mg) (c : SaysB faH fnH exH K) : HasFnP P w K mg base 7 "_law_own_packed" (F__law_own_packed 4) := by
  obtain ⟨fd, Fd⟩ := c.d.def_ 38 (d := dd__law_own_packed) rfl
  exact ⟨_, fd, ["thing"], He.glo_ok X G (c.d.fact 64), Fd.kp, (FunD.bindsN (ps := ["thing"]) Fd fun _ _ _ _ _ _ us hl => match us, hl with | [_], _ => rfl), fn_okD (k := 6) Fd sc__law_own_packed (fnR_len fun ds M d M1 hR => by first | exact (match hR with | ⟨_, e, _⟩ => congrArg List.length e) | exact (match hR with | ⟨_, _, e, _⟩ => congrArg List.length e) | exact (match hR with | ⟨_, _, _, e, _⟩ => congrArg List.length e) | exact (match hR with | ⟨_, _, _, _, e, _⟩ => congrArg List.length e) | exact (match hR with | ⟨_, _, _, _, _, e, _⟩ => congrArg List.length e) | exact (match hR with | ⟨_, _, _, _, _, _, e, _⟩ => congrArg List.length e) | exact (match hR with | ⟨_, _, _, _, _, _, _, e, _⟩ => congrArg List.length e) | exact (match hR with | ⟨_, _, _, _, _, _, _, _, e, _⟩ => congrArg List.length e) | exact (match hR with | ⟨_, _, _, _, _, _, _, _, _, e, _⟩ => congrArg List.length e) | exact (match hR with | ⟨_, _, _, _, _, _, _, _, _, _, e, _⟩ => congrArg List.length e) | exact (match hR with | ⟨_, _, _, _, _, _, _, _, _, _, _, e, _⟩ => congrArg List.length e) | exact (match hR with | ⟨_, _, _, _, _, _, _, _, _, _, _, _, e, _⟩ => congrArg List.length e) | exact (match hR with | ⟨_, _, _, _, _, _, _, _, _, _, _, _, _, e, _⟩ => congrArg List.length e) | exact (match hR with | ⟨_, _, _, _, _, _, _, _, _, _, _, _, _, _, e, _⟩ => congrArg List.length e)) (fun _ _ _ _ _ _ hr => tm__law_own_packed (gfH X G c) hr (ok__law_own_octets X G c) (ok__law_own_sealed X G c)) hF__law_own_packed⟩
theorem ok_integer_octets (X : K.In h) (G : h.Ns mainGlobals mg) (c : SaysB faH fnH exH K) : HasFnP P w K mg base 1 "integer_octets" (F_integer_octets) := by
  obtain ⟨fd, Fd⟩ := c.d.def_ 2 (d := dd_integer_octets) rfl
  exact ⟨_, fd, ["number"], He.glo_ok X G (c.d.fact 35), Fd.kp, (FunD.bindsN (ps := ["number"]) Fd fun _ _ _ _ _ _ us hl => match us, hl with | [_], _ => rfl), fn_okD (k := 0) Fd sc_integer_octets (fnR_len fun ds M d M1 hR => by first | exact (match hR with | ⟨_, e, _⟩ => congrArg List.length e) | exact (match hR with | ⟨_, _, e, _⟩ => congrArg List.length e) | exact (match hR with | ⟨_, _, _, e, _⟩ => congrArg List.length e) | exact (match hR with | ⟨_, _, _, _, e, _⟩ => congrArg List.length e) | exact (match hR with | ⟨_, _, _, _, _, e, _⟩ => congrArg List.length e) | exact (match hR with | ⟨_, _, _, _, _, _, e, _⟩ => congrArg List.length e) | exact (match hR with | ⟨_, _, _, _, _, _, _, e, _⟩ => congrArg List.length e) | exact (match hR with | ⟨_, _, _, _, _, _, _, _, e, _⟩ => congrArg List.length e) | exact (match hR with | ⟨_, _, _, _, _, _, _, _, _, e, _⟩ => congrArg List.length e) | exact (match hR with | ⟨_, _, _, _, _, _, _, _, _, _, e, _⟩ => congrArg List.length e) | exact (match hR with | ⟨_, _, _, _, _, _, _, _, _, _, _, e, _⟩ => congrArg List.length e) | exact (match hR with | ⟨_, _, _, _, _, _, _, _, _, _, _, _, e, _⟩ => congrArg List.length e) | exact (match hR with | ⟨_, _, _, _, _, _, _, _, _, _, _, _, _, e, _⟩ => congrArg List.length e) | exact (match hR with | ⟨_, _, _, _, _, _, _, _, _, _, _, _, _, _, e, _⟩ => congrArg List.length e)) (fun _ _ _ _ _ _ hr => tm_integer_octets (gfH X G c) hr) hF_integer_octets⟩
theorem ok_number_octets (X : K.In h) (G : h.Ns mainGlobals mg) (c : SaysB faH fnH exH K) : HasFnP P w K mg base 2 "number_octets" (F_number_octets) := by
  obtain ⟨fd, Fd⟩ := c.d.def_ 10 (d := dd_number_octets) rfl
  exact ⟨_, fd, ["number"], He.glo_ok X G (c.d.fact 43), Fd.kp, (FunD.bindsN (ps := ["number"]) Fd fun _ _ _ _ _ _ us hl => match us, hl with | [_], _ => rfl), fn_okD (k := 1) Fd sc_number_octets (fnR_len fun ds M d M1 hR => by first | exact (match hR with | ⟨_, e, _⟩ => congrArg List.length e) | exact (match hR with | ⟨_, _, e, _⟩ => congrArg List.length e) | exact (match hR with | ⟨_, _, _, e, _⟩ => congrArg List.length e) | exact (match hR with | ⟨_, _, _, _, e, _⟩ => congrArg List.length e) | exact (match hR with | ⟨_, _, _, _, _, e, _⟩ => congrArg List.length e) | exact (match hR with | ⟨_, _, _, _, _, _, e, _⟩ => congrArg List.length e) | exact (match hR with | ⟨_, _, _, _, _, _, _, e, _⟩ => congrArg List.length e) | exact (match hR with | ⟨_, _, _, _, _, _, _, _, e, _⟩ => congrArg List.length e) | exact (match hR with | ⟨_, _, _, _, _, _, _, _, _, e, _⟩ => congrArg List.length e) | exact (match hR with | ⟨_, _, _, _, _, _, _, _, _, _, e, _⟩ => congrArg List.length e) | exact (match hR with | ⟨_, _, _, _, _, _, _, _, _, _, _, e, _⟩ => congrArg List.length e) | exact (match hR with | ⟨_, _, _, _, _, _, _, _, _, _, _, _, e, _⟩ => congrArg List.length e) | exact (match hR with | ⟨_, _, _, _, _, _, _, _, _, _, _, _, _, e, _⟩ => congrArg List.length e) | exact (match hR with | ⟨_, _, _, _, _, _, _, _, _, _, _, _, _, _, e, _⟩ => congrArg List.length e)) (fun _ _ _ _ _ _ hr => tm_number_octets (gfH X G c) hr (ok_integer_octets X G c)) hF_number_octets⟩
theorem ok_own_octets (X : K.In h) (G : h.Ns mainGlobals mg) (c : SaysB faH fnH exH K) : HasFnP P w K mg base 3 "own_octets" (F_own_octets) := by
  obtain ⟨fd, Fd⟩ := c.d.def_ 11 (d := dd_own_octets) rfl
  exact ⟨_, fd, ["one"], He.glo_ok X G (c.d.fact 44), Fd.kp, (FunD.bindsN (ps := ["one"]) Fd fun _ _ _ _ _ _ us hl => match us, hl with | [_], _ => rfl), fn_okD (k := 2) Fd sc_own_octets (fnR_len fun ds M d M1 hR => by first | exact (match hR with | ⟨_, e, _⟩ => congrArg List.length e) | exact (match hR with | ⟨_, _, e, _⟩ => congrArg List.length e) | exact (match hR with | ⟨_, _, _, e, _⟩ => congrArg List.length e) | exact (match hR with | ⟨_, _, _, _, e, _⟩ => congrArg List.length e) | exact (match hR with | ⟨_, _, _, _, _, e, _⟩ => congrArg List.length e) | exact (match hR with | ⟨_, _, _, _, _, _, e, _⟩ => congrArg List.length e) | exact (match hR with | ⟨_, _, _, _, _, _, _, e, _⟩ => congrArg List.length e) | exact (match hR with | ⟨_, _, _, _, _, _, _, _, e, _⟩ => congrArg List.length e) | exact (match hR with | ⟨_, _, _, _, _, _, _, _, _, e, _⟩ => congrArg List.length e) | exact (match hR with | ⟨_, _, _, _, _, _, _, _, _, _, e, _⟩ => congrArg List.length e) | exact (match hR with | ⟨_, _, _, _, _, _, _, _, _, _, _, e, _⟩ => congrArg List.length e) | exact (match hR with | ⟨_, _, _, _, _, _, _, _, _, _, _, _, e, _⟩ => congrArg List.length e) | exact (match hR with | ⟨_, _, _, _, _, _, _, _, _, _, _, _, _, e, _⟩ => congrArg List.length e) | exact (match hR with | ⟨_, _, _, _, _, _, _, _, _, _, _, _, _, _, e, _⟩ => congrArg List.length e)) (fun _ _ _ _ _ _ hr => tm_own_octets (gfH X G c) hr (ok_integer_octets X G c) (ok_number_octets X G c)) hF_own_octets⟩
theorem ok_check_of (X : K.In h) (G : h.Ns mainGlobals mg) (c : SaysB faH fnH exH K) : HasFnP P w K mg base 1 "check_of" (F_check_of) := by
  obtain ⟨fd, Fd⟩ := c.d.def_ 4 (d := dd_check_of) rfl
  exact ⟨_, fd, ["octets"], He.glo_ok X G (c.d.fact 37), Fd.kp, (FunD.bindsN (ps := ["octets"]) Fd fun _ _ _ _ _ _ us hl => match us, hl with | [_], _ => rfl), fn_okD (k := 0) Fd sc_check_of (fnR_len fun ds M d M1 hR => by first | exact (match hR with | ⟨_, e, _⟩ => congrArg List.length e) | exact (match hR with | ⟨_, _, e, _⟩ => congrArg List.length e) | exact (match hR with | ⟨_, _, _, e, _⟩ => congrArg List.length e) | exact (match hR with | ⟨_, _, _, _, e, _⟩ => congrArg List.length e) | exact (match hR with | ⟨_, _, _, _, _, e, _⟩ => congrArg List.length e) | exact (match hR with | ⟨_, _, _, _, _, _, e, _⟩ => congrArg List.length e) | exact (match hR with | ⟨_, _, _, _, _, _, _, e, _⟩ => congrArg List.length e) | exact (match hR with | ⟨_, _, _, _, _, _, _, _, e, _⟩ => congrArg List.length e) | exact (match hR with | ⟨_, _, _, _, _, _, _, _, _, e, _⟩ => congrArg List.length e) | exact (match hR with | ⟨_, _, _, _, _, _, _, _, _, _, e, _⟩ => congrArg List.length e) | exact (match hR with | ⟨_, _, _, _, _, _, _, _, _, _, _, e, _⟩ => congrArg List.length e) | exact (match hR with | ⟨_, _, _, _, _, _, _, _, _, _, _, _, e, _⟩ => congrArg List.length e) | exact (match hR with | ⟨_, _, _, _, _, _, _, _, _, _, _, _, _, e, _⟩ => congrArg List.length e) | exact (match hR with | ⟨_, _, _, _, _, _, _, _, _, _, _, _, _, _, e, _⟩ => congrArg List.length e)) (fun _ _ _ _ _ _ hr => tm_check_of (gfH X G c) hr) hF_check_of⟩
theorem ok_sealed (X : K.In h) (G : h.Ns mainGlobals mg) (c : SaysB faH fnH exH K) : HasFnP P w K mg base 2 "sealed" (F_sealed) := by
  obtain ⟨fd, Fd⟩ := c.d.def_ 5 (d := dd_sealed) rfl
  exact ⟨_, fd, ["octets"], He.glo_ok X G (c.d.fact 38), Fd.kp, (FunD.bindsN (ps := ["octets"]) Fd fun _ _ _ _ _ _ us hl => match us, hl with | [_], _ => rfl), fn_okD (k := 1) Fd sc_sealed (fnR_len fun ds M d M1 hR => by first | exact (match hR with | ⟨_, e, _⟩ => congrArg List.length e) | exact (match hR with | ⟨_, _, e, _⟩ => congrArg List.length e) | exact (match hR with | ⟨_, _, _, e, _⟩ => congrArg List.length e) | exact (match hR with | ⟨_, _, _, _, e, _⟩ => congrArg List.length e) | exact (match hR with | ⟨_, _, _, _, _, e, _⟩ => congrArg List.length e) | exact (match hR with | ⟨_, _, _, _, _, _, e, _⟩ => congrArg List.length e) | exact (match hR with | ⟨_, _, _, _, _, _, _, e, _⟩ => congrArg List.length e) | exact (match hR with | ⟨_, _, _, _, _, _, _, _, e, _⟩ => congrArg List.length e) | exact (match hR with | ⟨_, _, _, _, _, _, _, _, _, e, _⟩ => congrArg List.length e) | exact (match hR with | ⟨_, _, _, _, _, _, _, _, _, _, e, _⟩ => congrArg List.length e) | exact (match hR with | ⟨_, _, _, _, _, _, _, _, _, _, _, e, _⟩ => congrArg List.length e) | exact (match hR with | ⟨_, _, _, _, _, _, _, _, _, _, _, _, e, _⟩ => congrArg List.length e) | exact (match hR with | ⟨_, _, _, _, _, _, _, _, _, _, _, _, _, e, _⟩ => congrArg List.length e) | exact (match hR with | ⟨_, _, _, _, _, _, _, _, _, _, _, _, _, _, e, _⟩ => congrArg List.length e)) (fun _ _ _ _ _ _ hr => tm_sealed (gfH X G c) hr (ok_check_of X G c)) hF_sealed⟩
theorem ok_packed (X : K.In h) (G : h.Ns mainGlobals mg) (c : SaysB faH fnH exH K) : HasFnP P w K mg base 4 "packed" (F_packed) := by
  obtain ⟨fd, Fd⟩ := c.d.def_ 12 (d := dd_packed) rfl
  exact ⟨_, fd, ["thing"], He.glo_ok X G (c.d.fact 45), Fd.kp, (FunD.bindsN (ps := ["thing"]) Fd fun _ _ _ _ _ _ us hl => match us, hl with | [_], _ => rfl), fn_okD (k := 3) Fd sc_packed (fnR_len fun ds M d M1 hR => by first | exact (match hR with | ⟨_, e, _⟩ => congrArg List.length e) | exact (match hR with | ⟨_, _, e, _⟩ => congrArg List.length e) | exact (match hR with | ⟨_, _, _, e, _⟩ => congrArg List.length e) | exact (match hR with | ⟨_, _, _, _, e, _⟩ => congrArg List.length e) | exact (match hR with | ⟨_, _, _, _, _, e, _⟩ => congrArg List.length e) | exact (match hR with | ⟨_, _, _, _, _, _, e, _⟩ => congrArg List.length e) | exact (match hR with | ⟨_, _, _, _, _, _, _, e, _⟩ => congrArg List.length e) | exact (match hR with | ⟨_, _, _, _, _, _, _, _, e, _⟩ => congrArg List.length e) | exact (match hR with | ⟨_, _, _, _, _, _, _, _, _, e, _⟩ => congrArg List.length e) | exact (match hR with | ⟨_, _, _, _, _, _, _, _, _, _, e, _⟩ => congrArg List.length e) | exact (match hR with | ⟨_, _, _, _, _, _, _, _, _, _, _, e, _⟩ => congrArg List.length e) | exact (match hR with | ⟨_, _, _, _, _, _, _, _, _, _, _, _, e, _⟩ => congrArg List.length e) | exact (match hR with | ⟨_, _, _, _, _, _, _, _, _, _, _, _, _, e, _⟩ => congrArg List.length e) | exact (match hR with | ⟨_, _, _, _, _, _, _, _, _, _, _, _, _, _, e, _⟩ => congrArg List.length e)) (fun _ _ _ _ _ _ hr => tm_packed (gfH X G c) hr (ok_own_octets X G c) (ok_sealed X G c)) hF_packed⟩
theorem ok__law_alike (X : K.In h) (G : h.Ns mainGlobals mg) (c : SaysB faH fnH exH K) : HasFnP P w K mg base 1 "_law_alike" (F__law_alike) := by
  obtain ⟨fd, Fd⟩ := c.d.def_ 34 (d := dd__law_alike) rfl
  exact ⟨_, fd, ["found", "due"], He.glo_ok X G (c.d.fact 60), Fd.kp, (FunD.bindsN (ps := ["found", "due"]) Fd fun _ _ _ _ _ _ us hl => match us, hl with | [_, _], _ => rfl), fn_okD (k := 0) Fd sc__law_alike (fnR_len fun ds M d M1 hR => by first | exact (match hR with | ⟨_, e, _⟩ => congrArg List.length e) | exact (match hR with | ⟨_, _, e, _⟩ => congrArg List.length e) | exact (match hR with | ⟨_, _, _, e, _⟩ => congrArg List.length e) | exact (match hR with | ⟨_, _, _, _, e, _⟩ => congrArg List.length e) | exact (match hR with | ⟨_, _, _, _, _, e, _⟩ => congrArg List.length e) | exact (match hR with | ⟨_, _, _, _, _, _, e, _⟩ => congrArg List.length e) | exact (match hR with | ⟨_, _, _, _, _, _, _, e, _⟩ => congrArg List.length e) | exact (match hR with | ⟨_, _, _, _, _, _, _, _, e, _⟩ => congrArg List.length e) | exact (match hR with | ⟨_, _, _, _, _, _, _, _, _, e, _⟩ => congrArg List.length e) | exact (match hR with | ⟨_, _, _, _, _, _, _, _, _, _, e, _⟩ => congrArg List.length e) | exact (match hR with | ⟨_, _, _, _, _, _, _, _, _, _, _, e, _⟩ => congrArg List.length e) | exact (match hR with | ⟨_, _, _, _, _, _, _, _, _, _, _, _, e, _⟩ => congrArg List.length e) | exact (match hR with | ⟨_, _, _, _, _, _, _, _, _, _, _, _, _, e, _⟩ => congrArg List.length e) | exact (match hR with | ⟨_, _, _, _, _, _, _, _, _, _, _, _, _, _, e, _⟩ => congrArg List.length e)) (fun _ _ _ _ _ _ hr => tm__law_alike (gfH X G c) hr) hF__law_alike⟩
theorem ok_is_integer (X : K.In h) (G : h.Ns mainGlobals mg) (c : SaysB faH fnH exH K) : HasFnP P w K mg base 1 "is_integer" (F_is_integer) := by
  obtain ⟨fd, Fd⟩ := c.d.def_ 0 (d := dd_is_integer) rfl
  exact ⟨_, fd, ["thing"], He.glo_ok X G (c.d.fact 33), Fd.kp, (FunD.bindsN (ps := ["thing"]) Fd fun _ _ _ _ _ _ us hl => match us, hl with | [_], _ => rfl), fn_okD (k := 0) Fd sc_is_integer (fnR_len fun ds M d M1 hR => by first | exact (match hR with | ⟨_, e, _⟩ => congrArg List.length e) | exact (match hR with | ⟨_, _, e, _⟩ => congrArg List.length e) | exact (match hR with | ⟨_, _, _, e, _⟩ => congrArg List.length e) | exact (match hR with | ⟨_, _, _, _, e, _⟩ => congrArg List.length e) | exact (match hR with | ⟨_, _, _, _, _, e, _⟩ => congrArg List.length e) | exact (match hR with | ⟨_, _, _, _, _, _, e, _⟩ => congrArg List.length e) | exact (match hR with | ⟨_, _, _, _, _, _, _, e, _⟩ => congrArg List.length e) | exact (match hR with | ⟨_, _, _, _, _, _, _, _, e, _⟩ => congrArg List.length e) | exact (match hR with | ⟨_, _, _, _, _, _, _, _, _, e, _⟩ => congrArg List.length e) | exact (match hR with | ⟨_, _, _, _, _, _, _, _, _, _, e, _⟩ => congrArg List.length e) | exact (match hR with | ⟨_, _, _, _, _, _, _, _, _, _, _, e, _⟩ => congrArg List.length e) | exact (match hR with | ⟨_, _, _, _, _, _, _, _, _, _, _, _, e, _⟩ => congrArg List.length e) | exact (match hR with | ⟨_, _, _, _, _, _, _, _, _, _, _, _, _, e, _⟩ => congrArg List.length e) | exact (match hR with | ⟨_, _, _, _, _, _, _, _, _, _, _, _, _, _, e, _⟩ => congrArg List.length e)) (fun _ _ _ _ _ _ hr => tm_is_integer (gfH X G c) hr) hF_is_integer⟩
theorem ok_is_within (X : K.In h) (G : h.Ns mainGlobals mg) (c : SaysB faH fnH exH K) : HasFnP P w K mg base 2 "is_within" (F_is_within) := by
  obtain ⟨fd, Fd⟩ := c.d.def_ 1 (d := dd_is_within) rfl
  exact ⟨_, fd, ["thing", "least", "most"], He.glo_ok X G (c.d.fact 34), Fd.kp, (FunD.bindsN (ps := ["thing", "least", "most"]) Fd fun _ _ _ _ _ _ us hl => match us, hl with | [_, _, _], _ => rfl), fn_okD (k := 1) Fd sc_is_within (fnR_len fun ds M d M1 hR => by first | exact (match hR with | ⟨_, e, _⟩ => congrArg List.length e) | exact (match hR with | ⟨_, _, e, _⟩ => congrArg List.length e) | exact (match hR with | ⟨_, _, _, e, _⟩ => congrArg List.length e) | exact (match hR with | ⟨_, _, _, _, e, _⟩ => congrArg List.length e) | exact (match hR with | ⟨_, _, _, _, _, e, _⟩ => congrArg List.length e) | exact (match hR with | ⟨_, _, _, _, _, _, e, _⟩ => congrArg List.length e) | exact (match hR with | ⟨_, _, _, _, _, _, _, e, _⟩ => congrArg List.length e) | exact (match hR with | ⟨_, _, _, _, _, _, _, _, e, _⟩ => congrArg List.length e) | exact (match hR with | ⟨_, _, _, _, _, _, _, _, _, e, _⟩ => congrArg List.length e) | exact (match hR with | ⟨_, _, _, _, _, _, _, _, _, _, e, _⟩ => congrArg List.length e) | exact (match hR with | ⟨_, _, _, _, _, _, _, _, _, _, _, e, _⟩ => congrArg List.length e) | exact (match hR with | ⟨_, _, _, _, _, _, _, _, _, _, _, _, e, _⟩ => congrArg List.length e) | exact (match hR with | ⟨_, _, _, _, _, _, _, _, _, _, _, _, _, e, _⟩ => congrArg List.length e) | exact (match hR with | ⟨_, _, _, _, _, _, _, _, _, _, _, _, _, _, e, _⟩ => congrArg List.length e)) (fun _ _ _ _ _ _ hr => tm_is_within (gfH X G c) hr (ok_is_integer X G c)) hF_is_within⟩
theorem ok_is_sealed (X : K.In h) (G : h.Ns mainGlobals mg) (c : SaysB faH fnH exH K) : HasFnP P w K mg base 3 "is_sealed" (F_is_sealed) := by
  obtain ⟨fd, Fd⟩ := c.d.def_ 6 (d := dd_is_sealed) rfl
  exact ⟨_, fd, ["octets"], He.glo_ok X G (c.d.fact 39), Fd.kp, (FunD.bindsN (ps := ["octets"]) Fd fun _ _ _ _ _ _ us hl => match us, hl with | [_], _ => rfl), fn_okD (k := 2) Fd sc_is_sealed (fnR_len fun ds M d M1 hR => by first | exact (match hR with | ⟨_, e, _⟩ => congrArg List.length e) | exact (match hR with | ⟨_, _, e, _⟩ => congrArg List.length e) | exact (match hR with | ⟨_, _, _, e, _⟩ => congrArg List.length e) | exact (match hR with | ⟨_, _, _, _, e, _⟩ => congrArg List.length e) | exact (match hR with | ⟨_, _, _, _, _, e, _⟩ => congrArg List.length e) | exact (match hR with | ⟨_, _, _, _, _, _, e, _⟩ => congrArg List.length e) | exact (match hR with | ⟨_, _, _, _, _, _, _, e, _⟩ => congrArg List.length e) | exact (match hR with | ⟨_, _, _, _, _, _, _, _, e, _⟩ => congrArg List.length e) | exact (match hR with | ⟨_, _, _, _, _, _, _, _, _, e, _⟩ => congrArg List.length e) | exact (match hR with | ⟨_, _, _, _, _, _, _, _, _, _, e, _⟩ => congrArg List.length e) | exact (match hR with | ⟨_, _, _, _, _, _, _, _, _, _, _, e, _⟩ => congrArg List.length e) | exact (match hR with | ⟨_, _, _, _, _, _, _, _, _, _, _, _, e, _⟩ => congrArg List.length e) | exact (match hR with | ⟨_, _, _, _, _, _, _, _, _, _, _, _, _, e, _⟩ => congrArg List.length e) | exact (match hR with | ⟨_, _, _, _, _, _, _, _, _, _, _, _, _, _, e, _⟩ => congrArg List.length e)) (fun _ _ _ _ _ _ hr => tm_is_sealed (gfH X G c) hr (ok_sealed X G c)) hF_is_sealed⟩
theorem ok_Reader___init__ (X : K.In h) (G : h.Ns mainGlobals mg) (c : SaysB faH fnH exH K) : HasMkP P w K mg base 1 "Reader" (He.ga K "Reader") (F_Reader___init__ (He.ga K "Reader")) := by
  obtain ⟨fd, Fd⟩ := c.d.def_ 13 (d := dd_Reader___init__) rfl
  exact ⟨_, fd, ["self", "octets", "place"], He.glo_ok X G (c.d.fact 71), He.mkr_ok (c.d.fact 75), (FunD.bindsN (ps := ["self", "octets", "place"]) Fd fun _ _ _ _ _ _ us hl => match us, hl with | [_, _, _], _ => rfl), fn_okD (k := 0) Fd sc_Reader___init__ (fnR_len fun ds M d M1 hR => by first | exact (match hR with | ⟨_, e, _⟩ => congrArg List.length e) | exact (match hR with | ⟨_, _, e, _⟩ => congrArg List.length e) | exact (match hR with | ⟨_, _, _, e, _⟩ => congrArg List.length e) | exact (match hR with | ⟨_, _, _, _, e, _⟩ => congrArg List.length e) | exact (match hR with | ⟨_, _, _, _, _, e, _⟩ => congrArg List.length e) | exact (match hR with | ⟨_, _, _, _, _, _, e, _⟩ => congrArg List.length e) | exact (match hR with | ⟨_, _, _, _, _, _, _, e, _⟩ => congrArg List.length e) | exact (match hR with | ⟨_, _, _, _, _, _, _, _, e, _⟩ => congrArg List.length e) | exact (match hR with | ⟨_, _, _, _, _, _, _, _, _, e, _⟩ => congrArg List.length e) | exact (match hR with | ⟨_, _, _, _, _, _, _, _, _, _, e, _⟩ => congrArg List.length e) | exact (match hR with | ⟨_, _, _, _, _, _, _, _, _, _, _, e, _⟩ => congrArg List.length e) | exact (match hR with | ⟨_, _, _, _, _, _, _, _, _, _, _, _, e, _⟩ => congrArg List.length e) | exact (match hR with | ⟨_, _, _, _, _, _, _, _, _, _, _, _, _, e, _⟩ => congrArg List.length e) | exact (match hR with | ⟨_, _, _, _, _, _, _, _, _, _, _, _, _, _, e, _⟩ => congrArg List.length e)) (fun _ _ _ _ _ _ hr => tm_Reader___init__ (gfH X G c) hr (He.cls_ok (c.d.fact 72)) (He.noat_ok (c.d.fact 73)) (He.noat_ok (c.d.fact 74))) hF_Reader___init__⟩
theorem ok_opened (X : K.In h) (G : h.Ns mainGlobals mg) (c : SaysB faH fnH exH K) : HasFnP P w K mg base 4 "opened" (F_opened (He.ga K "Reader")) := by
  obtain ⟨fd, Fd⟩ := c.d.def_ 20 (d := dd_opened) rfl
  exact ⟨_, fd, ["thing"], He.glo_ok X G (c.d.fact 46), Fd.kp, (FunD.bindsN (ps := ["thing"]) Fd fun _ _ _ _ _ _ us hl => match us, hl with | [_], _ => rfl), fn_okD (k := 3) Fd sc_opened (fnR_len fun ds M d M1 hR => by first | exact (match hR with | ⟨_, e, _⟩ => congrArg List.length e) | exact (match hR with | ⟨_, _, e, _⟩ => congrArg List.length e) | exact (match hR with | ⟨_, _, _, e, _⟩ => congrArg List.length e) | exact (match hR with | ⟨_, _, _, _, e, _⟩ => congrArg List.length e) | exact (match hR with | ⟨_, _, _, _, _, e, _⟩ => congrArg List.length e) | exact (match hR with | ⟨_, _, _, _, _, _, e, _⟩ => congrArg List.length e) | exact (match hR with | ⟨_, _, _, _, _, _, _, e, _⟩ => congrArg List.length e) | exact (match hR with | ⟨_, _, _, _, _, _, _, _, e, _⟩ => congrArg List.length e) | exact (match hR with | ⟨_, _, _, _, _, _, _, _, _, e, _⟩ => congrArg List.length e) | exact (match hR with | ⟨_, _, _, _, _, _, _, _, _, _, e, _⟩ => congrArg List.length e) | exact (match hR with | ⟨_, _, _, _, _, _, _, _, _, _, _, e, _⟩ => congrArg List.length e) | exact (match hR with | ⟨_, _, _, _, _, _, _, _, _, _, _, _, e, _⟩ => congrArg List.length e) | exact (match hR with | ⟨_, _, _, _, _, _, _, _, _, _, _, _, _, e, _⟩ => congrArg List.length e) | exact (match hR with | ⟨_, _, _, _, _, _, _, _, _, _, _, _, _, _, e, _⟩ => congrArg List.length e)) (fun _ _ _ _ _ _ hr => tm_opened (gfH X G c) hr (ok_is_within X G c) (ok_is_sealed X G c) (ok_Reader___init__ X G c)) hF_opened⟩
theorem ok_Reader_tag (X : K.In h) (G : h.Ns mainGlobals mg) (c : SaysB faH fnH exH K) : HasMP P w K mg base 1 (He.ga K "Reader") "tag" (F_Reader_tag (He.ga K "Reader")) := by
  obtain ⟨fd, Fd⟩ := c.d.def_ 15 (d := dd_Reader_tag) rfl
  exact ⟨_, fd, ["self"], (He.cls_ok (c.d.fact 72)), He.meth_ok (c.d.fact 77), (FunD.bindsN (ps := ["self"]) Fd fun _ _ _ _ _ _ us hl => match us, hl with | [_], _ => rfl), fn_okD (k := 0) Fd sc_Reader_tag (fnR_len fun ds M d M1 hR => by first | exact (match hR with | ⟨_, e, _⟩ => congrArg List.length e) | exact (match hR with | ⟨_, _, e, _⟩ => congrArg List.length e) | exact (match hR with | ⟨_, _, _, e, _⟩ => congrArg List.length e) | exact (match hR with | ⟨_, _, _, _, e, _⟩ => congrArg List.length e) | exact (match hR with | ⟨_, _, _, _, _, e, _⟩ => congrArg List.length e) | exact (match hR with | ⟨_, _, _, _, _, _, e, _⟩ => congrArg List.length e) | exact (match hR with | ⟨_, _, _, _, _, _, _, e, _⟩ => congrArg List.length e) | exact (match hR with | ⟨_, _, _, _, _, _, _, _, e, _⟩ => congrArg List.length e) | exact (match hR with | ⟨_, _, _, _, _, _, _, _, _, e, _⟩ => congrArg List.length e) | exact (match hR with | ⟨_, _, _, _, _, _, _, _, _, _, e, _⟩ => congrArg List.length e) | exact (match hR with | ⟨_, _, _, _, _, _, _, _, _, _, _, e, _⟩ => congrArg List.length e) | exact (match hR with | ⟨_, _, _, _, _, _, _, _, _, _, _, _, e, _⟩ => congrArg List.length e) | exact (match hR with | ⟨_, _, _, _, _, _, _, _, _, _, _, _, _, e, _⟩ => congrArg List.length e) | exact (match hR with | ⟨_, _, _, _, _, _, _, _, _, _, _, _, _, _, e, _⟩ => congrArg List.length e)) (fun _ _ _ _ _ _ hr => tm_Reader_tag (gfH X G c) hr (He.cls_ok (c.d.fact 72)) (He.noat_ok (c.d.fact 73)) (He.noat_ok (c.d.fact 74))) hF_Reader_tag⟩
theorem ok_read_integer (X : K.In h) (G : h.Ns mainGlobals mg) (c : SaysB faH fnH exH K) : HasFnP P w K mg base 1 "read_integer" (F_read_integer) := by
  obtain ⟨fd, Fd⟩ := c.d.def_ 3 (d := dd_read_integer) rfl
  exact ⟨_, fd, ["octets", "place"], He.glo_ok X G (c.d.fact 36), Fd.kp, (FunD.bindsN (ps := ["octets", "place"]) Fd fun _ _ _ _ _ _ us hl => match us, hl with | [_, _], _ => rfl), fn_okD (k := 0) Fd sc_read_integer (fnR_len fun ds M d M1 hR => by first | exact (match hR with | ⟨_, e, _⟩ => congrArg List.length e) | exact (match hR with | ⟨_, _, e, _⟩ => congrArg List.length e) | exact (match hR with | ⟨_, _, _, e, _⟩ => congrArg List.length e) | exact (match hR with | ⟨_, _, _, _, e, _⟩ => congrArg List.length e) | exact (match hR with | ⟨_, _, _, _, _, e, _⟩ => congrArg List.length e) | exact (match hR with | ⟨_, _, _, _, _, _, e, _⟩ => congrArg List.length e) | exact (match hR with | ⟨_, _, _, _, _, _, _, e, _⟩ => congrArg List.length e) | exact (match hR with | ⟨_, _, _, _, _, _, _, _, e, _⟩ => congrArg List.length e) | exact (match hR with | ⟨_, _, _, _, _, _, _, _, _, e, _⟩ => congrArg List.length e) | exact (match hR with | ⟨_, _, _, _, _, _, _, _, _, _, e, _⟩ => congrArg List.length e) | exact (match hR with | ⟨_, _, _, _, _, _, _, _, _, _, _, e, _⟩ => congrArg List.length e) | exact (match hR with | ⟨_, _, _, _, _, _, _, _, _, _, _, _, e, _⟩ => congrArg List.length e) | exact (match hR with | ⟨_, _, _, _, _, _, _, _, _, _, _, _, _, e, _⟩ => congrArg List.length e) | exact (match hR with | ⟨_, _, _, _, _, _, _, _, _, _, _, _, _, _, e, _⟩ => congrArg List.length e)) (fun _ _ _ _ _ _ hr => tm_read_integer (gfH X G c) hr) hF_read_integer⟩
theorem ok_Reader_number (X : K.In h) (G : h.Ns mainGlobals mg) (c : SaysB faH fnH exH K) : HasMP P w K mg base 2 (He.ga K "Reader") "number" (F_Reader_number (He.ga K "Reader")) := by
  obtain ⟨fd, Fd⟩ := c.d.def_ 14 (d := dd_Reader_number) rfl
  exact ⟨_, fd, ["self"], (He.cls_ok (c.d.fact 72)), He.meth_ok (c.d.fact 76), (FunD.bindsN (ps := ["self"]) Fd fun _ _ _ _ _ _ us hl => match us, hl with | [_], _ => rfl), fn_okD (k := 1) Fd sc_Reader_number (fnR_len fun ds M d M1 hR => by first | exact (match hR with | ⟨_, e, _⟩ => congrArg List.length e) | exact (match hR with | ⟨_, _, e, _⟩ => congrArg List.length e) | exact (match hR with | ⟨_, _, _, e, _⟩ => congrArg List.length e) | exact (match hR with | ⟨_, _, _, _, e, _⟩ => congrArg List.length e) | exact (match hR with | ⟨_, _, _, _, _, e, _⟩ => congrArg List.length e) | exact (match hR with | ⟨_, _, _, _, _, _, e, _⟩ => congrArg List.length e) | exact (match hR with | ⟨_, _, _, _, _, _, _, e, _⟩ => congrArg List.length e) | exact (match hR with | ⟨_, _, _, _, _, _, _, _, e, _⟩ => congrArg List.length e) | exact (match hR with | ⟨_, _, _, _, _, _, _, _, _, e, _⟩ => congrArg List.length e) | exact (match hR with | ⟨_, _, _, _, _, _, _, _, _, _, e, _⟩ => congrArg List.length e) | exact (match hR with | ⟨_, _, _, _, _, _, _, _, _, _, _, e, _⟩ => congrArg List.length e) | exact (match hR with | ⟨_, _, _, _, _, _, _, _, _, _, _, _, e, _⟩ => congrArg List.length e) | exact (match hR with | ⟨_, _, _, _, _, _, _, _, _, _, _, _, _, e, _⟩ => congrArg List.length e) | exact (match hR with | ⟨_, _, _, _, _, _, _, _, _, _, _, _, _, _, e, _⟩ => congrArg List.length e)) (fun _ _ _ _ _ _ hr => tm_Reader_number (gfH X G c) hr (ok_read_integer X G c) (He.cls_ok (c.d.fact 72)) (He.noat_ok (c.d.fact 73)) (He.noat_ok (c.d.fact 74))) hF_Reader_number⟩
theorem ok_Reader_letter (X : K.In h) (G : h.Ns mainGlobals mg) (c : SaysB faH fnH exH K) : HasMP P w K mg base 1 (He.ga K "Reader") "letter" (F_Reader_letter (He.ga K "Reader")) := by
  obtain ⟨fd, Fd⟩ := c.d.def_ 16 (d := dd_Reader_letter) rfl
  exact ⟨_, fd, ["self"], (He.cls_ok (c.d.fact 72)), He.meth_ok (c.d.fact 78), (FunD.bindsN (ps := ["self"]) Fd fun _ _ _ _ _ _ us hl => match us, hl with | [_], _ => rfl), fn_okD (k := 0) Fd sc_Reader_letter (fnR_len fun ds M d M1 hR => by first | exact (match hR with | ⟨_, e, _⟩ => congrArg List.length e) | exact (match hR with | ⟨_, _, e, _⟩ => congrArg List.length e) | exact (match hR with | ⟨_, _, _, e, _⟩ => congrArg List.length e) | exact (match hR with | ⟨_, _, _, _, e, _⟩ => congrArg List.length e) | exact (match hR with | ⟨_, _, _, _, _, e, _⟩ => congrArg List.length e) | exact (match hR with | ⟨_, _, _, _, _, _, e, _⟩ => congrArg List.length e) | exact (match hR with | ⟨_, _, _, _, _, _, _, e, _⟩ => congrArg List.length e) | exact (match hR with | ⟨_, _, _, _, _, _, _, _, e, _⟩ => congrArg List.length e) | exact (match hR with | ⟨_, _, _, _, _, _, _, _, _, e, _⟩ => congrArg List.length e) | exact (match hR with | ⟨_, _, _, _, _, _, _, _, _, _, e, _⟩ => congrArg List.length e) | exact (match hR with | ⟨_, _, _, _, _, _, _, _, _, _, _, e, _⟩ => congrArg List.length e) | exact (match hR with | ⟨_, _, _, _, _, _, _, _, _, _, _, _, e, _⟩ => congrArg List.length e) | exact (match hR with | ⟨_, _, _, _, _, _, _, _, _, _, _, _, _, e, _⟩ => congrArg List.length e) | exact (match hR with | ⟨_, _, _, _, _, _, _, _, _, _, _, _, _, _, e, _⟩ => congrArg List.length e)) (fun _ _ _ _ _ _ hr => tm_Reader_letter (gfH X G c) hr (He.cls_ok (c.d.fact 72)) (He.noat_ok (c.d.fact 73)) (He.noat_ok (c.d.fact 74))) hF_Reader_letter⟩
theorem ok_Reader_word (X : K.In h) (G : h.Ns mainGlobals mg) (c : SaysB faH fnH exH K) : HasMP P w K mg base 3 (He.ga K "Reader") "word" (F_Reader_word (He.ga K "Reader")) := by
  obtain ⟨fd, Fd⟩ := c.d.def_ 17 (d := dd_Reader_word) rfl
  exact ⟨_, fd, ["self"], (He.cls_ok (c.d.fact 72)), He.meth_ok (c.d.fact 79), (FunD.bindsN (ps := ["self"]) Fd fun _ _ _ _ _ _ us hl => match us, hl with | [_], _ => rfl), fn_okD (k := 2) Fd sc_Reader_word (fnR_len fun ds M d M1 hR => by first | exact (match hR with | ⟨_, e, _⟩ => congrArg List.length e) | exact (match hR with | ⟨_, _, e, _⟩ => congrArg List.length e) | exact (match hR with | ⟨_, _, _, e, _⟩ => congrArg List.length e) | exact (match hR with | ⟨_, _, _, _, e, _⟩ => congrArg List.length e) | exact (match hR with | ⟨_, _, _, _, _, e, _⟩ => congrArg List.length e) | exact (match hR with | ⟨_, _, _, _, _, _, e, _⟩ => congrArg List.length e) | exact (match hR with | ⟨_, _, _, _, _, _, _, e, _⟩ => congrArg List.length e) | exact (match hR with | ⟨_, _, _, _, _, _, _, _, e, _⟩ => congrArg List.length e) | exact (match hR with | ⟨_, _, _, _, _, _, _, _, _, e, _⟩ => congrArg List.length e) | exact (match hR with | ⟨_, _, _, _, _, _, _, _, _, _, e, _⟩ => congrArg List.length e) | exact (match hR with | ⟨_, _, _, _, _, _, _, _, _, _, _, e, _⟩ => congrArg List.length e) | exact (match hR with | ⟨_, _, _, _, _, _, _, _, _, _, _, _, e, _⟩ => congrArg List.length e) | exact (match hR with | ⟨_, _, _, _, _, _, _, _, _, _, _, _, _, e, _⟩ => congrArg List.length e) | exact (match hR with | ⟨_, _, _, _, _, _, _, _, _, _, _, _, _, _, e, _⟩ => congrArg List.length e)) (fun _ _ _ _ _ _ hr => tm_Reader_word (gfH X G c) hr (ok_Reader_number X G c) (ok_Reader_letter X G c) (He.cls_ok (c.d.fact 72)) (He.noat_ok (c.d.fact 73))) hF_Reader_word⟩
theorem ok_Reader_simple (X : K.In h) (G : h.Ns mainGlobals mg) (c : SaysB faH fnH exH K) : HasMP P w K mg base 4 (He.ga K "Reader") "simple" (F_Reader_simple (He.ga K "Reader")) := by
  obtain ⟨fd, Fd⟩ := c.d.def_ 18 (d := dd_Reader_simple) rfl
  exact ⟨_, fd, ["self", "tag"], (He.cls_ok (c.d.fact 72)), He.meth_ok (c.d.fact 80), (FunD.bindsN (ps := ["self", "tag"]) Fd fun _ _ _ _ _ _ us hl => match us, hl with | [_, _], _ => rfl), fn_okD (k := 3) Fd sc_Reader_simple (fnR_len fun ds M d M1 hR => by first | exact (match hR with | ⟨_, e, _⟩ => congrArg List.length e) | exact (match hR with | ⟨_, _, e, _⟩ => congrArg List.length e) | exact (match hR with | ⟨_, _, _, e, _⟩ => congrArg List.length e) | exact (match hR with | ⟨_, _, _, _, e, _⟩ => congrArg List.length e) | exact (match hR with | ⟨_, _, _, _, _, e, _⟩ => congrArg List.length e) | exact (match hR with | ⟨_, _, _, _, _, _, e, _⟩ => congrArg List.length e) | exact (match hR with | ⟨_, _, _, _, _, _, _, e, _⟩ => congrArg List.length e) | exact (match hR with | ⟨_, _, _, _, _, _, _, _, e, _⟩ => congrArg List.length e) | exact (match hR with | ⟨_, _, _, _, _, _, _, _, _, e, _⟩ => congrArg List.length e) | exact (match hR with | ⟨_, _, _, _, _, _, _, _, _, _, e, _⟩ => congrArg List.length e) | exact (match hR with | ⟨_, _, _, _, _, _, _, _, _, _, _, e, _⟩ => congrArg List.length e) | exact (match hR with | ⟨_, _, _, _, _, _, _, _, _, _, _, _, e, _⟩ => congrArg List.length e) | exact (match hR with | ⟨_, _, _, _, _, _, _, _, _, _, _, _, _, e, _⟩ => congrArg List.length e) | exact (match hR with | ⟨_, _, _, _, _, _, _, _, _, _, _, _, _, _, e, _⟩ => congrArg List.length e)) (fun _ _ _ _ _ _ hr => tm_Reader_simple (gfH X G c) hr (ok_Reader_word X G c) (ok_Reader_number X G c) (He.glo_ok X G (c.d.fact 82)) (dicI_ok (of_decide_eq_true c.more))) hF_Reader_simple⟩
theorem ok_Reader_thing (X : K.In h) (G : h.Ns mainGlobals mg) (c : SaysB faH fnH exH K) : HasMP P w K mg base 5 (He.ga K "Reader") "thing" (F_Reader_thing (He.ga K "Reader")) := by
  obtain ⟨fd, Fd⟩ := c.d.def_ 19 (d := dd_Reader_thing) rfl
  exact ⟨_, fd, ["self"], (He.cls_ok (c.d.fact 72)), He.meth_ok (c.d.fact 81), (FunD.bindsN (ps := ["self"]) Fd fun _ _ _ _ _ _ us hl => match us, hl with | [_], _ => rfl), fn_okD (k := 4) Fd sc_Reader_thing (fnR_len fun ds M d M1 hR => by first | exact (match hR with | ⟨_, e, _⟩ => congrArg List.length e) | exact (match hR with | ⟨_, _, e, _⟩ => congrArg List.length e) | exact (match hR with | ⟨_, _, _, e, _⟩ => congrArg List.length e) | exact (match hR with | ⟨_, _, _, _, e, _⟩ => congrArg List.length e) | exact (match hR with | ⟨_, _, _, _, _, e, _⟩ => congrArg List.length e) | exact (match hR with | ⟨_, _, _, _, _, _, e, _⟩ => congrArg List.length e) | exact (match hR with | ⟨_, _, _, _, _, _, _, e, _⟩ => congrArg List.length e) | exact (match hR with | ⟨_, _, _, _, _, _, _, _, e, _⟩ => congrArg List.length e) | exact (match hR with | ⟨_, _, _, _, _, _, _, _, _, e, _⟩ => congrArg List.length e) | exact (match hR with | ⟨_, _, _, _, _, _, _, _, _, _, e, _⟩ => congrArg List.length e) | exact (match hR with | ⟨_, _, _, _, _, _, _, _, _, _, _, e, _⟩ => congrArg List.length e) | exact (match hR with | ⟨_, _, _, _, _, _, _, _, _, _, _, _, e, _⟩ => congrArg List.length e) | exact (match hR with | ⟨_, _, _, _, _, _, _, _, _, _, _, _, _, e, _⟩ => congrArg List.length e) | exact (match hR with | ⟨_, _, _, _, _, _, _, _, _, _, _, _, _, _, e, _⟩ => congrArg List.length e)) (fun _ _ _ _ _ _ hr => tm_Reader_thing (gfH X G c) hr (ok_Reader_tag X G c) (ok_Reader_number X G c) (ok_Reader_simple X G c)) hF_Reader_thing⟩
theorem ok_is_small (X : K.In h) (G : h.Ns mainGlobals mg) (c : SaysB faH fnH exH K) : HasFnP P w K mg base 2 "is_small" (F_is_small) := by
  obtain ⟨fd, Fd⟩ := c.d.def_ 8 (d := dd_is_small) rfl
  exact ⟨_, fd, ["thing"], He.glo_ok X G (c.d.fact 41), Fd.kp, (FunD.bindsN (ps := ["thing"]) Fd fun _ _ _ _ _ _ us hl => match us, hl with | [_], _ => rfl), fn_okD (k := 1) Fd sc_is_small (fnR_len fun ds M d M1 hR => by first | exact (match hR with | ⟨_, e, _⟩ => congrArg List.length e) | exact (match hR with | ⟨_, _, e, _⟩ => congrArg List.length e) | exact (match hR with | ⟨_, _, _, e, _⟩ => congrArg List.length e) | exact (match hR with | ⟨_, _, _, _, e, _⟩ => congrArg List.length e) | exact (match hR with | ⟨_, _, _, _, _, e, _⟩ => congrArg List.length e) | exact (match hR with | ⟨_, _, _, _, _, _, e, _⟩ => congrArg List.length e) | exact (match hR with | ⟨_, _, _, _, _, _, _, e, _⟩ => congrArg List.length e) | exact (match hR with | ⟨_, _, _, _, _, _, _, _, e, _⟩ => congrArg List.length e) | exact (match hR with | ⟨_, _, _, _, _, _, _, _, _, e, _⟩ => congrArg List.length e) | exact (match hR with | ⟨_, _, _, _, _, _, _, _, _, _, e, _⟩ => congrArg List.length e) | exact (match hR with | ⟨_, _, _, _, _, _, _, _, _, _, _, e, _⟩ => congrArg List.length e) | exact (match hR with | ⟨_, _, _, _, _, _, _, _, _, _, _, _, e, _⟩ => congrArg List.length e) | exact (match hR with | ⟨_, _, _, _, _, _, _, _, _, _, _, _, _, e, _⟩ => congrArg List.length e) | exact (match hR with | ⟨_, _, _, _, _, _, _, _, _, _, _, _, _, _, e, _⟩ => congrArg List.length e)) (fun _ _ _ _ _ _ hr => tm_is_small (gfH X G c) hr (ok_is_integer X G c)) hF_is_small⟩
theorem ok_is_word (X : K.In h) (G : h.Ns mainGlobals mg) (c : SaysB faH fnH exH K) : HasFnP P w K mg base 1 "is_word" (F_is_word) := by
  obtain ⟨fd, Fd⟩ := c.d.def_ 7 (d := dd_is_word) rfl
  exact ⟨_, fd, ["thing"], He.glo_ok X G (c.d.fact 40), Fd.kp, (FunD.bindsN (ps := ["thing"]) Fd fun _ _ _ _ _ _ us hl => match us, hl with | [_], _ => rfl), fn_okD (k := 0) Fd sc_is_word (fnR_len fun ds M d M1 hR => by first | exact (match hR with | ⟨_, e, _⟩ => congrArg List.length e) | exact (match hR with | ⟨_, _, e, _⟩ => congrArg List.length e) | exact (match hR with | ⟨_, _, _, e, _⟩ => congrArg List.length e) | exact (match hR with | ⟨_, _, _, _, e, _⟩ => congrArg List.length e) | exact (match hR with | ⟨_, _, _, _, _, e, _⟩ => congrArg List.length e) | exact (match hR with | ⟨_, _, _, _, _, _, e, _⟩ => congrArg List.length e) | exact (match hR with | ⟨_, _, _, _, _, _, _, e, _⟩ => congrArg List.length e) | exact (match hR with | ⟨_, _, _, _, _, _, _, _, e, _⟩ => congrArg List.length e) | exact (match hR with | ⟨_, _, _, _, _, _, _, _, _, e, _⟩ => congrArg List.length e) | exact (match hR with | ⟨_, _, _, _, _, _, _, _, _, _, e, _⟩ => congrArg List.length e) | exact (match hR with | ⟨_, _, _, _, _, _, _, _, _, _, _, e, _⟩ => congrArg List.length e) | exact (match hR with | ⟨_, _, _, _, _, _, _, _, _, _, _, _, e, _⟩ => congrArg List.length e) | exact (match hR with | ⟨_, _, _, _, _, _, _, _, _, _, _, _, _, e, _⟩ => congrArg List.length e) | exact (match hR with | ⟨_, _, _, _, _, _, _, _, _, _, _, _, _, _, e, _⟩ => congrArg List.length e)) (fun _ _ _ _ _ _ hr => tm_is_word (gfH X G c) hr) hF_is_word⟩
theorem ok_is_plain (X : K.In h) (G : h.Ns mainGlobals mg) (c : SaysB faH fnH exH K) : HasFnP P w K mg base 3 "is_plain" (F_is_plain) := by
  obtain ⟨fd, Fd⟩ := c.d.def_ 9 (d := dd_is_plain) rfl
  exact ⟨_, fd, ["thing"], He.glo_ok X G (c.d.fact 42), Fd.kp, (FunD.bindsN (ps := ["thing"]) Fd fun _ _ _ _ _ _ us hl => match us, hl with | [_], _ => rfl), fn_okD (k := 2) Fd sc_is_plain (fnR_len fun ds M d M1 hR => by first | exact (match hR with | ⟨_, e, _⟩ => congrArg List.length e) | exact (match hR with | ⟨_, _, e, _⟩ => congrArg List.length e) | exact (match hR with | ⟨_, _, _, e, _⟩ => congrArg List.length e) | exact (match hR with | ⟨_, _, _, _, e, _⟩ => congrArg List.length e) | exact (match hR with | ⟨_, _, _, _, _, e, _⟩ => congrArg List.length e) | exact (match hR with | ⟨_, _, _, _, _, _, e, _⟩ => congrArg List.length e) | exact (match hR with | ⟨_, _, _, _, _, _, _, e, _⟩ => congrArg List.length e) | exact (match hR with | ⟨_, _, _, _, _, _, _, _, e, _⟩ => congrArg List.length e) | exact (match hR with | ⟨_, _, _, _, _, _, _, _, _, e, _⟩ => congrArg List.length e) | exact (match hR with | ⟨_, _, _, _, _, _, _, _, _, _, e, _⟩ => congrArg List.length e) | exact (match hR with | ⟨_, _, _, _, _, _, _, _, _, _, _, e, _⟩ => congrArg List.length e) | exact (match hR with | ⟨_, _, _, _, _, _, _, _, _, _, _, _, e, _⟩ => congrArg List.length e) | exact (match hR with | ⟨_, _, _, _, _, _, _, _, _, _, _, _, _, e, _⟩ => congrArg List.length e) | exact (match hR with | ⟨_, _, _, _, _, _, _, _, _, _, _, _, _, _, e, _⟩ => congrArg List.length e)) (fun _ _ _ _ _ _ hr => tm_is_plain (gfH X G c) hr (ok_is_small X G c) (ok_is_word X G c)) hF_is_plain⟩
theorem ok_unpacked (X : K.In h) (G : h.Ns mainGlobals mg) (c : SaysB faH fnH exH K) : HasFnP P w K mg base 6 "unpacked" (F_unpacked) := by
  obtain ⟨fd, Fd⟩ := c.d.def_ 21 (d := dd_unpacked) rfl
  exact ⟨_, fd, ["thing"], He.glo_ok X G (c.d.fact 47), Fd.kp, (FunD.bindsN (ps := ["thing"]) Fd fun _ _ _ _ _ _ us hl => match us, hl with | [_], _ => rfl), fn_okD (k := 5) Fd sc_unpacked (fnR_len fun ds M d M1 hR => by first | exact (match hR with | ⟨_, e, _⟩ => congrArg List.length e) | exact (match hR with | ⟨_, _, e, _⟩ => congrArg List.length e) | exact (match hR with | ⟨_, _, _, e, _⟩ => congrArg List.length e) | exact (match hR with | ⟨_, _, _, _, e, _⟩ => congrArg List.length e) | exact (match hR with | ⟨_, _, _, _, _, e, _⟩ => congrArg List.length e) | exact (match hR with | ⟨_, _, _, _, _, _, e, _⟩ => congrArg List.length e) | exact (match hR with | ⟨_, _, _, _, _, _, _, e, _⟩ => congrArg List.length e) | exact (match hR with | ⟨_, _, _, _, _, _, _, _, e, _⟩ => congrArg List.length e) | exact (match hR with | ⟨_, _, _, _, _, _, _, _, _, e, _⟩ => congrArg List.length e) | exact (match hR with | ⟨_, _, _, _, _, _, _, _, _, _, e, _⟩ => congrArg List.length e) | exact (match hR with | ⟨_, _, _, _, _, _, _, _, _, _, _, e, _⟩ => congrArg List.length e) | exact (match hR with | ⟨_, _, _, _, _, _, _, _, _, _, _, _, e, _⟩ => congrArg List.length e) | exact (match hR with | ⟨_, _, _, _, _, _, _, _, _, _, _, _, _, e, _⟩ => congrArg List.length e) | exact (match hR with | ⟨_, _, _, _, _, _, _, _, _, _, _, _, _, _, e, _⟩ => congrArg List.length e)) (fun _ _ _ _ _ _ hr => tm_unpacked (gfH X G c) hr (ok_opened X G c) (ok_Reader_thing X G c) (ok_is_plain X G c) (He.cls_ok (c.d.fact 72)) (He.noat_ok (c.d.fact 73)) (He.noat_ok (c.d.fact 74))) hF_unpacked⟩
theorem ok_spoilt (X : K.In h) (G : h.Ns mainGlobals mg) (c : SaysB faH fnH exH K) : HasFnP P w K mg base 1 "spoilt" (F_spoilt) := by
  obtain ⟨fd, Fd⟩ := c.d.def_ 23 (d := dd_spoilt) rfl
  exact ⟨_, fd, ["octets", "place", "octet"], He.glo_ok X G (c.d.fact 49), Fd.kp, (FunD.bindsN (ps := ["octets", "place", "octet"]) Fd fun _ _ _ _ _ _ us hl => match us, hl with | [_, _, _], _ => rfl), fn_okD (k := 0) Fd sc_spoilt (fnR_len fun ds M d M1 hR => by first | exact (match hR with | ⟨_, e, _⟩ => congrArg List.length e) | exact (match hR with | ⟨_, _, e, _⟩ => congrArg List.length e) | exact (match hR with | ⟨_, _, _, e, _⟩ => congrArg List.length e) | exact (match hR with | ⟨_, _, _, _, e, _⟩ => congrArg List.length e) | exact (match hR with | ⟨_, _, _, _, _, e, _⟩ => congrArg List.length e) | exact (match hR with | ⟨_, _, _, _, _, _, e, _⟩ => congrArg List.length e) | exact (match hR with | ⟨_, _, _, _, _, _, _, e, _⟩ => congrArg List.length e) | exact (match hR with | ⟨_, _, _, _, _, _, _, _, e, _⟩ => congrArg List.length e) | exact (match hR with | ⟨_, _, _, _, _, _, _, _, _, e, _⟩ => congrArg List.length e) | exact (match hR with | ⟨_, _, _, _, _, _, _, _, _, _, e, _⟩ => congrArg List.length e) | exact (match hR with | ⟨_, _, _, _, _, _, _, _, _, _, _, e, _⟩ => congrArg List.length e) | exact (match hR with | ⟨_, _, _, _, _, _, _, _, _, _, _, _, e, _⟩ => congrArg List.length e) | exact (match hR with | ⟨_, _, _, _, _, _, _, _, _, _, _, _, _, e, _⟩ => congrArg List.length e) | exact (match hR with | ⟨_, _, _, _, _, _, _, _, _, _, _, _, _, _, e, _⟩ => congrArg List.length e)) (fun _ _ _ _ _ _ hr => tm_spoilt (gfH X G c) hr) hF_spoilt⟩
theorem ok_first_unlike (X : K.In h) (G : h.Ns mainGlobals mg) (c : SaysB faH fnH exH K) : HasFnP P w K mg base 1 "first_unlike" (F_first_unlike) := by
  obtain ⟨fd, Fd⟩ := c.d.def_ 22 (d := dd_first_unlike) rfl
  exact ⟨_, fd, ["one", "other"], He.glo_ok X G (c.d.fact 48), Fd.kp, (FunD.bindsN (ps := ["one", "other"]) Fd fun _ _ _ _ _ _ us hl => match us, hl with | [_, _], _ => rfl), fn_okD (k := 0) Fd sc_first_unlike (fnR_len fun ds M d M1 hR => by first | exact (match hR with | ⟨_, e, _⟩ => congrArg List.length e) | exact (match hR with | ⟨_, _, e, _⟩ => congrArg List.length e) | exact (match hR with | ⟨_, _, _, e, _⟩ => congrArg List.length e) | exact (match hR with | ⟨_, _, _, _, e, _⟩ => congrArg List.length e) | exact (match hR with | ⟨_, _, _, _, _, e, _⟩ => congrArg List.length e) | exact (match hR with | ⟨_, _, _, _, _, _, e, _⟩ => congrArg List.length e) | exact (match hR with | ⟨_, _, _, _, _, _, _, e, _⟩ => congrArg List.length e) | exact (match hR with | ⟨_, _, _, _, _, _, _, _, e, _⟩ => congrArg List.length e) | exact (match hR with | ⟨_, _, _, _, _, _, _, _, _, e, _⟩ => congrArg List.length e) | exact (match hR with | ⟨_, _, _, _, _, _, _, _, _, _, e, _⟩ => congrArg List.length e) | exact (match hR with | ⟨_, _, _, _, _, _, _, _, _, _, _, e, _⟩ => congrArg List.length e) | exact (match hR with | ⟨_, _, _, _, _, _, _, _, _, _, _, _, e, _⟩ => congrArg List.length e) | exact (match hR with | ⟨_, _, _, _, _, _, _, _, _, _, _, _, _, e, _⟩ => congrArg List.length e) | exact (match hR with | ⟨_, _, _, _, _, _, _, _, _, _, _, _, _, _, e, _⟩ => congrArg List.length e)) (fun _ _ _ _ _ _ hr => tm_first_unlike (gfH X G c) hr) hF_first_unlike⟩
theorem ok__law_check (X : K.In h) (G : h.Ns mainGlobals mg) (c : SaysB faH fnH exH K) : HasFnP P w K mg base 1 "_law_check" (F__law_check) := by
  obtain ⟨fd, Fd⟩ := c.d.def_ 42 (d := dd__law_check) rfl
  exact ⟨_, fd, ["octets"], He.glo_ok X G (c.d.fact 68), Fd.kp, (FunD.bindsN (ps := ["octets"]) Fd fun _ _ _ _ _ _ us hl => match us, hl with | [_], _ => rfl), fn_okD (k := 0) Fd sc__law_check (fnR_len fun ds M d M1 hR => by first | exact (match hR with | ⟨_, e, _⟩ => congrArg List.length e) | exact (match hR with | ⟨_, _, e, _⟩ => congrArg List.length e) | exact (match hR with | ⟨_, _, _, e, _⟩ => congrArg List.length e) | exact (match hR with | ⟨_, _, _, _, e, _⟩ => congrArg List.length e) | exact (match hR with | ⟨_, _, _, _, _, e, _⟩ => congrArg List.length e) | exact (match hR with | ⟨_, _, _, _, _, _, e, _⟩ => congrArg List.length e) | exact (match hR with | ⟨_, _, _, _, _, _, _, e, _⟩ => congrArg List.length e) | exact (match hR with | ⟨_, _, _, _, _, _, _, _, e, _⟩ => congrArg List.length e) | exact (match hR with | ⟨_, _, _, _, _, _, _, _, _, e, _⟩ => congrArg List.length e) | exact (match hR with | ⟨_, _, _, _, _, _, _, _, _, _, e, _⟩ => congrArg List.length e) | exact (match hR with | ⟨_, _, _, _, _, _, _, _, _, _, _, e, _⟩ => congrArg List.length e) | exact (match hR with | ⟨_, _, _, _, _, _, _, _, _, _, _, _, e, _⟩ => congrArg List.length e) | exact (match hR with | ⟨_, _, _, _, _, _, _, _, _, _, _, _, _, e, _⟩ => congrArg List.length e) | exact (match hR with | ⟨_, _, _, _, _, _, _, _, _, _, _, _, _, _, e, _⟩ => congrArg List.length e)) (fun _ _ _ _ _ _ hr => tm__law_check (gfH X G c) hr) hF__law_check⟩
theorem ok__law_apart_at (X : K.In h) (G : h.Ns mainGlobals mg) (c : SaysB faH fnH exH K) : HasFnP P w K mg base 1 "_law_apart_at" (F__law_apart_at) := by
  obtain ⟨fd, Fd⟩ := c.d.def_ 43 (d := dd__law_apart_at) rfl
  exact ⟨_, fd, ["one", "other"], He.glo_ok X G (c.d.fact 69), Fd.kp, (FunD.bindsN (ps := ["one", "other"]) Fd fun _ _ _ _ _ _ us hl => match us, hl with | [_, _], _ => rfl), fn_okD (k := 0) Fd sc__law_apart_at (fnR_len fun ds M d M1 hR => by first | exact (match hR with | ⟨_, e, _⟩ => congrArg List.length e) | exact (match hR with | ⟨_, _, e, _⟩ => congrArg List.length e) | exact (match hR with | ⟨_, _, _, e, _⟩ => congrArg List.length e) | exact (match hR with | ⟨_, _, _, _, e, _⟩ => congrArg List.length e) | exact (match hR with | ⟨_, _, _, _, _, e, _⟩ => congrArg List.length e) | exact (match hR with | ⟨_, _, _, _, _, _, e, _⟩ => congrArg List.length e) | exact (match hR with | ⟨_, _, _, _, _, _, _, e, _⟩ => congrArg List.length e) | exact (match hR with | ⟨_, _, _, _, _, _, _, _, e, _⟩ => congrArg List.length e) | exact (match hR with | ⟨_, _, _, _, _, _, _, _, _, e, _⟩ => congrArg List.length e) | exact (match hR with | ⟨_, _, _, _, _, _, _, _, _, _, e, _⟩ => congrArg List.length e) | exact (match hR with | ⟨_, _, _, _, _, _, _, _, _, _, _, e, _⟩ => congrArg List.length e) | exact (match hR with | ⟨_, _, _, _, _, _, _, _, _, _, _, _, e, _⟩ => congrArg List.length e) | exact (match hR with | ⟨_, _, _, _, _, _, _, _, _, _, _, _, _, e, _⟩ => congrArg List.length e) | exact (match hR with | ⟨_, _, _, _, _, _, _, _, _, _, _, _, _, _, e, _⟩ => congrArg List.length e)) (fun _ _ _ _ _ _ hr => tm__law_apart_at (gfH X G c) hr) hF__law_apart_at⟩
theorem ok_record_of (X : K.In h) (G : h.Ns mainGlobals mg) (c : SaysB faH fnH exH K) : HasFnP P w K mg base 5 "record_of" (F_record_of) := by
  obtain ⟨fd, Fd⟩ := c.d.def_ 25 (d := dd_record_of) rfl
  exact ⟨_, fd, ["deed"], He.glo_ok X G (c.d.fact 51), Fd.kp, (FunD.bindsN (ps := ["deed"]) Fd fun _ _ _ _ _ _ us hl => match us, hl with | [_], _ => rfl), fn_okD (k := 4) Fd sc_record_of (fnR_len fun ds M d M1 hR => by first | exact (match hR with | ⟨_, e, _⟩ => congrArg List.length e) | exact (match hR with | ⟨_, _, e, _⟩ => congrArg List.length e) | exact (match hR with | ⟨_, _, _, e, _⟩ => congrArg List.length e) | exact (match hR with | ⟨_, _, _, _, e, _⟩ => congrArg List.length e) | exact (match hR with | ⟨_, _, _, _, _, e, _⟩ => congrArg List.length e) | exact (match hR with | ⟨_, _, _, _, _, _, e, _⟩ => congrArg List.length e) | exact (match hR with | ⟨_, _, _, _, _, _, _, e, _⟩ => congrArg List.length e) | exact (match hR with | ⟨_, _, _, _, _, _, _, _, e, _⟩ => congrArg List.length e) | exact (match hR with | ⟨_, _, _, _, _, _, _, _, _, e, _⟩ => congrArg List.length e) | exact (match hR with | ⟨_, _, _, _, _, _, _, _, _, _, e, _⟩ => congrArg List.length e) | exact (match hR with | ⟨_, _, _, _, _, _, _, _, _, _, _, e, _⟩ => congrArg List.length e) | exact (match hR with | ⟨_, _, _, _, _, _, _, _, _, _, _, _, e, _⟩ => congrArg List.length e) | exact (match hR with | ⟨_, _, _, _, _, _, _, _, _, _, _, _, _, e, _⟩ => congrArg List.length e) | exact (match hR with | ⟨_, _, _, _, _, _, _, _, _, _, _, _, _, _, e, _⟩ => congrArg List.length e)) (fun _ _ _ _ _ _ hr => tm_record_of (gfH X G c) hr (ok_packed X G c) (ok_integer_octets X G c) (ok_sealed X G c)) hF_record_of⟩
theorem ok_journal_of (X : K.In h) (G : h.Ns mainGlobals mg) (c : SaysB faH fnH exH K) : HasFnP P w K mg base 6 "journal_of" (F_journal_of) := by
  obtain ⟨fd, Fd⟩ := c.d.def_ 28 (d := dd_journal_of) rfl
  exact ⟨_, fd, ["deeds"], He.glo_ok X G (c.d.fact 54), Fd.kp, (FunD.bindsN (ps := ["deeds"]) Fd fun _ _ _ _ _ _ us hl => match us, hl with | [_], _ => rfl), fn_okD (k := 5) Fd sc_journal_of (fnR_len fun ds M d M1 hR => by first | exact (match hR with | ⟨_, e, _⟩ => congrArg List.length e) | exact (match hR with | ⟨_, _, e, _⟩ => congrArg List.length e) | exact (match hR with | ⟨_, _, _, e, _⟩ => congrArg List.length e) | exact (match hR with | ⟨_, _, _, _, e, _⟩ => congrArg List.length e) | exact (match hR with | ⟨_, _, _, _, _, e, _⟩ => congrArg List.length e) | exact (match hR with | ⟨_, _, _, _, _, _, e, _⟩ => congrArg List.length e) | exact (match hR with | ⟨_, _, _, _, _, _, _, e, _⟩ => congrArg List.length e) | exact (match hR with | ⟨_, _, _, _, _, _, _, _, e, _⟩ => congrArg List.length e) | exact (match hR with | ⟨_, _, _, _, _, _, _, _, _, e, _⟩ => congrArg List.length e) | exact (match hR with | ⟨_, _, _, _, _, _, _, _, _, _, e, _⟩ => congrArg List.length e) | exact (match hR with | ⟨_, _, _, _, _, _, _, _, _, _, _, e, _⟩ => congrArg List.length e) | exact (match hR with | ⟨_, _, _, _, _, _, _, _, _, _, _, _, e, _⟩ => congrArg List.length e) | exact (match hR with | ⟨_, _, _, _, _, _, _, _, _, _, _, _, _, e, _⟩ => congrArg List.length e) | exact (match hR with | ⟨_, _, _, _, _, _, _, _, _, _, _, _, _, _, e, _⟩ => congrArg List.length e)) (fun _ _ _ _ _ _ hr => tm_journal_of (gfH X G c) hr (ok_record_of X G c)) hF_journal_of⟩
theorem ok_is_deed (X : K.In h) (G : h.Ns mainGlobals mg) (c : SaysB faH fnH exH K) : HasFnP P w K mg base 5 "is_deed" (F_is_deed) := by
  obtain ⟨fd, Fd⟩ := c.d.def_ 24 (d := dd_is_deed) rfl
  exact ⟨_, fd, ["thing"], He.glo_ok X G (c.d.fact 50), Fd.kp, (FunD.bindsN (ps := ["thing"]) Fd fun _ _ _ _ _ _ us hl => match us, hl with | [_], _ => rfl), fn_okD (k := 4) Fd sc_is_deed (fnR_len fun ds M d M1 hR => by first | exact (match hR with | ⟨_, e, _⟩ => congrArg List.length e) | exact (match hR with | ⟨_, _, e, _⟩ => congrArg List.length e) | exact (match hR with | ⟨_, _, _, e, _⟩ => congrArg List.length e) | exact (match hR with | ⟨_, _, _, _, e, _⟩ => congrArg List.length e) | exact (match hR with | ⟨_, _, _, _, _, e, _⟩ => congrArg List.length e) | exact (match hR with | ⟨_, _, _, _, _, _, e, _⟩ => congrArg List.length e) | exact (match hR with | ⟨_, _, _, _, _, _, _, e, _⟩ => congrArg List.length e) | exact (match hR with | ⟨_, _, _, _, _, _, _, _, e, _⟩ => congrArg List.length e) | exact (match hR with | ⟨_, _, _, _, _, _, _, _, _, e, _⟩ => congrArg List.length e) | exact (match hR with | ⟨_, _, _, _, _, _, _, _, _, _, e, _⟩ => congrArg List.length e) | exact (match hR with | ⟨_, _, _, _, _, _, _, _, _, _, _, e, _⟩ => congrArg List.length e) | exact (match hR with | ⟨_, _, _, _, _, _, _, _, _, _, _, _, e, _⟩ => congrArg List.length e) | exact (match hR with | ⟨_, _, _, _, _, _, _, _, _, _, _, _, _, e, _⟩ => congrArg List.length e) | exact (match hR with | ⟨_, _, _, _, _, _, _, _, _, _, _, _, _, _, e, _⟩ => congrArg List.length e)) (fun _ _ _ _ _ _ hr => tm_is_deed (gfH X G c) hr (ok_is_plain X G c) (ok_packed X G c)) hF_is_deed⟩
theorem ok_whole_record (X : K.In h) (G : h.Ns mainGlobals mg) (c : SaysB faH fnH exH K) : HasFnP P w K mg base 7 "whole_record" (F_whole_record) := by
  obtain ⟨fd, Fd⟩ := c.d.def_ 26 (d := dd_whole_record) rfl
  exact ⟨_, fd, ["octets", "place"], He.glo_ok X G (c.d.fact 52), Fd.kp, (FunD.bindsN (ps := ["octets", "place"]) Fd fun _ _ _ _ _ _ us hl => match us, hl with | [_, _], _ => rfl), fn_okD (k := 6) Fd sc_whole_record (fnR_len fun ds M d M1 hR => by first | exact (match hR with | ⟨_, e, _⟩ => congrArg List.length e) | exact (match hR with | ⟨_, _, e, _⟩ => congrArg List.length e) | exact (match hR with | ⟨_, _, _, e, _⟩ => congrArg List.length e) | exact (match hR with | ⟨_, _, _, _, e, _⟩ => congrArg List.length e) | exact (match hR with | ⟨_, _, _, _, _, e, _⟩ => congrArg List.length e) | exact (match hR with | ⟨_, _, _, _, _, _, e, _⟩ => congrArg List.length e) | exact (match hR with | ⟨_, _, _, _, _, _, _, e, _⟩ => congrArg List.length e) | exact (match hR with | ⟨_, _, _, _, _, _, _, _, e, _⟩ => congrArg List.length e) | exact (match hR with | ⟨_, _, _, _, _, _, _, _, _, e, _⟩ => congrArg List.length e) | exact (match hR with | ⟨_, _, _, _, _, _, _, _, _, _, e, _⟩ => congrArg List.length e) | exact (match hR with | ⟨_, _, _, _, _, _, _, _, _, _, _, e, _⟩ => congrArg List.length e) | exact (match hR with | ⟨_, _, _, _, _, _, _, _, _, _, _, _, e, _⟩ => congrArg List.length e) | exact (match hR with | ⟨_, _, _, _, _, _, _, _, _, _, _, _, _, e, _⟩ => congrArg List.length e) | exact (match hR with | ⟨_, _, _, _, _, _, _, _, _, _, _, _, _, _, e, _⟩ => congrArg List.length e)) (fun _ _ _ _ _ _ hr => tm_whole_record (gfH X G c) hr (ok_read_integer X G c) (ok_is_sealed X G c) (ok_unpacked X G c) (ok_is_deed X G c)) hF_whole_record⟩
theorem ok_read_record (X : K.In h) (G : h.Ns mainGlobals mg) (c : SaysB faH fnH exH K) : HasFnP P w K mg base 8 "read_record" (F_read_record) := by
  obtain ⟨fd, Fd⟩ := c.d.def_ 27 (d := dd_read_record) rfl
  exact ⟨_, fd, ["octets", "place"], He.glo_ok X G (c.d.fact 53), Fd.kp, (FunD.bindsN (ps := ["octets", "place"]) Fd fun _ _ _ _ _ _ us hl => match us, hl with | [_, _], _ => rfl), fn_okD (k := 7) Fd sc_read_record (fnR_len fun ds M d M1 hR => by first | exact (match hR with | ⟨_, e, _⟩ => congrArg List.length e) | exact (match hR with | ⟨_, _, e, _⟩ => congrArg List.length e) | exact (match hR with | ⟨_, _, _, e, _⟩ => congrArg List.length e) | exact (match hR with | ⟨_, _, _, _, e, _⟩ => congrArg List.length e) | exact (match hR with | ⟨_, _, _, _, _, e, _⟩ => congrArg List.length e) | exact (match hR with | ⟨_, _, _, _, _, _, e, _⟩ => congrArg List.length e) | exact (match hR with | ⟨_, _, _, _, _, _, _, e, _⟩ => congrArg List.length e) | exact (match hR with | ⟨_, _, _, _, _, _, _, _, e, _⟩ => congrArg List.length e) | exact (match hR with | ⟨_, _, _, _, _, _, _, _, _, e, _⟩ => congrArg List.length e) | exact (match hR with | ⟨_, _, _, _, _, _, _, _, _, _, e, _⟩ => congrArg List.length e) | exact (match hR with | ⟨_, _, _, _, _, _, _, _, _, _, _, e, _⟩ => congrArg List.length e) | exact (match hR with | ⟨_, _, _, _, _, _, _, _, _, _, _, _, e, _⟩ => congrArg List.length e) | exact (match hR with | ⟨_, _, _, _, _, _, _, _, _, _, _, _, _, e, _⟩ => congrArg List.length e) | exact (match hR with | ⟨_, _, _, _, _, _, _, _, _, _, _, _, _, _, e, _⟩ => congrArg List.length e)) (fun _ _ _ _ _ _ hr => tm_read_record (gfH X G c) hr (ok_whole_record X G c) (He.glo_ok X G (c.d.fact 83))) hF_read_record⟩
theorem ok_steps_in (X : K.In h) (G : h.Ns mainGlobals mg) (c : SaysB faH fnH exH K) : HasFnP P w K mg base 9 "steps_in" (F_steps_in) := by
  obtain ⟨fd, Fd⟩ := c.d.def_ 29 (d := dd_steps_in) rfl
  exact ⟨_, fd, ["octets"], He.glo_ok X G (c.d.fact 55), Fd.kp, (FunD.bindsN (ps := ["octets"]) Fd fun _ _ _ _ _ _ us hl => match us, hl with | [_], _ => rfl), fn_okD (k := 8) Fd sc_steps_in (fnR_len fun ds M d M1 hR => by first | exact (match hR with | ⟨_, e, _⟩ => congrArg List.length e) | exact (match hR with | ⟨_, _, e, _⟩ => congrArg List.length e) | exact (match hR with | ⟨_, _, _, e, _⟩ => congrArg List.length e) | exact (match hR with | ⟨_, _, _, _, e, _⟩ => congrArg List.length e) | exact (match hR with | ⟨_, _, _, _, _, e, _⟩ => congrArg List.length e) | exact (match hR with | ⟨_, _, _, _, _, _, e, _⟩ => congrArg List.length e) | exact (match hR with | ⟨_, _, _, _, _, _, _, e, _⟩ => congrArg List.length e) | exact (match hR with | ⟨_, _, _, _, _, _, _, _, e, _⟩ => congrArg List.length e) | exact (match hR with | ⟨_, _, _, _, _, _, _, _, _, e, _⟩ => congrArg List.length e) | exact (match hR with | ⟨_, _, _, _, _, _, _, _, _, _, e, _⟩ => congrArg List.length e) | exact (match hR with | ⟨_, _, _, _, _, _, _, _, _, _, _, e, _⟩ => congrArg List.length e) | exact (match hR with | ⟨_, _, _, _, _, _, _, _, _, _, _, _, e, _⟩ => congrArg List.length e) | exact (match hR with | ⟨_, _, _, _, _, _, _, _, _, _, _, _, _, e, _⟩ => congrArg List.length e) | exact (match hR with | ⟨_, _, _, _, _, _, _, _, _, _, _, _, _, _, e, _⟩ => congrArg List.length e)) (fun _ _ _ _ _ _ hr => tm_steps_in (gfH X G c) hr (ok_read_record X G c)) hF_steps_in⟩
theorem ok_deeds_in (X : K.In h) (G : h.Ns mainGlobals mg) (c : SaysB faH fnH exH K) : HasFnP P w K mg base 10 "deeds_in" (F_deeds_in) := by
  obtain ⟨fd, Fd⟩ := c.d.def_ 30 (d := dd_deeds_in) rfl
  exact ⟨_, fd, ["octets"], He.glo_ok X G (c.d.fact 56), Fd.kp, (FunD.bindsN (ps := ["octets"]) Fd fun _ _ _ _ _ _ us hl => match us, hl with | [_], _ => rfl), fn_okD (k := 9) Fd sc_deeds_in (fnR_len fun ds M d M1 hR => by first | exact (match hR with | ⟨_, e, _⟩ => congrArg List.length e) | exact (match hR with | ⟨_, _, e, _⟩ => congrArg List.length e) | exact (match hR with | ⟨_, _, _, e, _⟩ => congrArg List.length e) | exact (match hR with | ⟨_, _, _, _, e, _⟩ => congrArg List.length e) | exact (match hR with | ⟨_, _, _, _, _, e, _⟩ => congrArg List.length e) | exact (match hR with | ⟨_, _, _, _, _, _, e, _⟩ => congrArg List.length e) | exact (match hR with | ⟨_, _, _, _, _, _, _, e, _⟩ => congrArg List.length e) | exact (match hR with | ⟨_, _, _, _, _, _, _, _, e, _⟩ => congrArg List.length e) | exact (match hR with | ⟨_, _, _, _, _, _, _, _, _, e, _⟩ => congrArg List.length e) | exact (match hR with | ⟨_, _, _, _, _, _, _, _, _, _, e, _⟩ => congrArg List.length e) | exact (match hR with | ⟨_, _, _, _, _, _, _, _, _, _, _, e, _⟩ => congrArg List.length e) | exact (match hR with | ⟨_, _, _, _, _, _, _, _, _, _, _, _, e, _⟩ => congrArg List.length e) | exact (match hR with | ⟨_, _, _, _, _, _, _, _, _, _, _, _, _, e, _⟩ => congrArg List.length e) | exact (match hR with | ⟨_, _, _, _, _, _, _, _, _, _, _, _, _, _, e, _⟩ => congrArg List.length e)) (fun _ _ _ _ _ _ hr => tm_deeds_in (gfH X G c) hr (ok_steps_in X G c)) hF_deeds_in⟩
theorem ok__law_own_record (X : K.In h) (G : h.Ns mainGlobals mg) (c : SaysB faH fnH exH K) : HasFnP P w K mg base 8 "_law_own_record" (F__law_own_record 4) := by
  obtain ⟨fd, Fd⟩ := c.d.def_ 39 (d := dd__law_own_record) rfl
  exact ⟨_, fd, ["deed"], He.glo_ok X G (c.d.fact 65), Fd.kp, (FunD.bindsN (ps := ["deed"]) Fd fun _ _ _ _ _ _ us hl => match us, hl with | [_], _ => rfl), fn_okD (k := 7) Fd sc__law_own_record (fnR_len fun ds M d M1 hR => by first | exact (match hR with | ⟨_, e, _⟩ => congrArg List.length e) | exact (match hR with | ⟨_, _, e, _⟩ => congrArg List.length e) | exact (match hR with | ⟨_, _, _, e, _⟩ => congrArg List.length e) | exact (match hR with | ⟨_, _, _, _, e, _⟩ => congrArg List.length e) | exact (match hR with | ⟨_, _, _, _, _, e, _⟩ => congrArg List.length e) | exact (match hR with | ⟨_, _, _, _, _, _, e, _⟩ => congrArg List.length e) | exact (match hR with | ⟨_, _, _, _, _, _, _, e, _⟩ => congrArg List.length e) | exact (match hR with | ⟨_, _, _, _, _, _, _, _, e, _⟩ => congrArg List.length e) | exact (match hR with | ⟨_, _, _, _, _, _, _, _, _, e, _⟩ => congrArg List.length e) | exact (match hR with | ⟨_, _, _, _, _, _, _, _, _, _, e, _⟩ => congrArg List.length e) | exact (match hR with | ⟨_, _, _, _, _, _, _, _, _, _, _, e, _⟩ => congrArg List.length e) | exact (match hR with | ⟨_, _, _, _, _, _, _, _, _, _, _, _, e, _⟩ => congrArg List.length e) | exact (match hR with | ⟨_, _, _, _, _, _, _, _, _, _, _, _, _, e, _⟩ => congrArg List.length e) | exact (match hR with | ⟨_, _, _, _, _, _, _, _, _, _, _, _, _, _, e, _⟩ => congrArg List.length e)) (fun _ _ _ _ _ _ hr => tm__law_own_record (gfH X G c) hr (ok__law_own_packed X G c) (ok__law_seven X G c) (ok__law_own_sealed X G c)) hF__law_own_record⟩
theorem ok__law_own_journal (X : K.In h) (G : h.Ns mainGlobals mg) (c : SaysB faH fnH exH K) : HasFnP P w K mg base 9 "_law_own_journal" (F__law_own_journal 4) := by
  obtain ⟨fd, Fd⟩ := c.d.def_ 40 (d := dd__law_own_journal) rfl
  exact ⟨_, fd, ["deeds"], He.glo_ok X G (c.d.fact 66), Fd.kp, (FunD.bindsN (ps := ["deeds"]) Fd fun _ _ _ _ _ _ us hl => match us, hl with | [_], _ => rfl), fn_okD (k := 8) Fd sc__law_own_journal (fnR_len fun ds M d M1 hR => by first | exact (match hR with | ⟨_, e, _⟩ => congrArg List.length e) | exact (match hR with | ⟨_, _, e, _⟩ => congrArg List.length e) | exact (match hR with | ⟨_, _, _, e, _⟩ => congrArg List.length e) | exact (match hR with | ⟨_, _, _, _, e, _⟩ => congrArg List.length e) | exact (match hR with | ⟨_, _, _, _, _, e, _⟩ => congrArg List.length e) | exact (match hR with | ⟨_, _, _, _, _, _, e, _⟩ => congrArg List.length e) | exact (match hR with | ⟨_, _, _, _, _, _, _, e, _⟩ => congrArg List.length e) | exact (match hR with | ⟨_, _, _, _, _, _, _, _, e, _⟩ => congrArg List.length e) | exact (match hR with | ⟨_, _, _, _, _, _, _, _, _, e, _⟩ => congrArg List.length e) | exact (match hR with | ⟨_, _, _, _, _, _, _, _, _, _, e, _⟩ => congrArg List.length e) | exact (match hR with | ⟨_, _, _, _, _, _, _, _, _, _, _, e, _⟩ => congrArg List.length e) | exact (match hR with | ⟨_, _, _, _, _, _, _, _, _, _, _, _, e, _⟩ => congrArg List.length e) | exact (match hR with | ⟨_, _, _, _, _, _, _, _, _, _, _, _, _, e, _⟩ => congrArg List.length e) | exact (match hR with | ⟨_, _, _, _, _, _, _, _, _, _, _, _, _, _, e, _⟩ => congrArg List.length e)) (fun _ _ _ _ _ _ hr => tm__law_own_journal (gfH X G c) hr (ok__law_own_record X G c)) hF__law_own_journal⟩
theorem ok_law (X : K.In h) (G : h.Ns mainGlobals mg) (c : SaysB faH fnH exH K) {f : Addr} (hfa : mg "law" = some (.ref f)) : ∃ fd : FuncData, (∀ (s : Shared) (v : Value), BindsTo s fd ⟨[v], []⟩ [("script", v)]) ∧ ∀ base : Heap, FnOk P w K mg base CX0 11 f fd ["script"] (spF K F_law) := by
  obtain ⟨fd, Fd⟩ := c.d.def_ 44 (d := dd_law) rfl
  have e := hfa.symm.trans (He.glo_ok X G (c.d.fact 70))
  cases e
  have b := FunD.bindsA (ps := ["script"]) Fd fun _ _ _ _ _ _ us hl => match us, hl with | [_], _ => rfl
  exact ⟨fd, fun s v => b s [v] rfl, fun base => fn_okD (base := base) (k := 10) Fd sc_law (fnR_len fun ds M d M1 hR => by first | exact (match hR with | ⟨_, e, _⟩ => congrArg List.length e) | exact (match hR with | ⟨_, _, e, _⟩ => congrArg List.length e) | exact (match hR with | ⟨_, _, _, e, _⟩ => congrArg List.length e) | exact (match hR with | ⟨_, _, _, _, e, _⟩ => congrArg List.length e) | exact (match hR with | ⟨_, _, _, _, _, e, _⟩ => congrArg List.length e) | exact (match hR with | ⟨_, _, _, _, _, _, e, _⟩ => congrArg List.length e) | exact (match hR with | ⟨_, _, _, _, _, _, _, e, _⟩ => congrArg List.length e) | exact (match hR with | ⟨_, _, _, _, _, _, _, _, e, _⟩ => congrArg List.length e) | exact (match hR with | ⟨_, _, _, _, _, _, _, _, _, e, _⟩ => congrArg List.length e) | exact (match hR with | ⟨_, _, _, _, _, _, _, _, _, _, e, _⟩ => congrArg List.length e) | exact (match hR with | ⟨_, _, _, _, _, _, _, _, _, _, _, e, _⟩ => congrArg List.length e) | exact (match hR with | ⟨_, _, _, _, _, _, _, _, _, _, _, _, e, _⟩ => congrArg List.length e) | exact (match hR with | ⟨_, _, _, _, _, _, _, _, _, _, _, _, _, e, _⟩ => congrArg List.length e) | exact (match hR with | ⟨_, _, _, _, _, _, _, _, _, _, _, _, _, _, e, _⟩ => congrArg List.length e)) (fun _ _ _ _ _ _ hr => tm_law (gfH X G c) hr (ok__law_bag X G c) (ok__law_thing X G c) (ok__law_take X G c) (ok__law_own_packed X G c) (ok_packed X G c) (ok__law_alike X G c) (ok_unpacked X G c) (ok_spoilt X G c) (ok_first_unlike X G c) (ok_is_sealed X G c) (ok_check_of X G c) (ok__law_check X G c) (ok_sealed X G c) (ok__law_apart_at X G c) (ok__law_some X G c) (ok_journal_of X G c) (ok_deeds_in X G c) (ok__law_own_journal X G c) (ok_record_of X G c) (ok__law_own_record X G c) (ok_is_deed X G c)) hF_law⟩
end
end K90
set_option maxHeartbeats 4000000
namespace K90
open PySem PySem.Spec PyProof.Rows L2 DL
/-- the end -/
theorem endH {P : Program} {w : World} {K : PySem.W.Frag} {mg : Str → Option Value} {h : Heap} {fa : Addr} (X : K.In h) (G : h.Ns mainGlobals mg) (c : SaysB faH fnH exH K) (hmg : mg "law" = some (.ref fa)) :
    ∃ (K' : PySem.W.Frag) (fd : FuncData) (sp : Sp), K'.In h ∧ (∀ (s : Shared) (u : Value), BindsTo s fd ⟨[u], []⟩ [("script", u)]) ∧
        (∀ (H : Hp) (a : Addr) (ns : List Int), ns.length ≤ 63 → Only H → SqL K' H a (ns.map V.int) → sp [.ref a] H (fun v _ => v = .bl true) fun _ _ _ => False) ∧
        ∀ base : Heap, K'.In base → base.Ns mainGlobals mg → FnOk P w K' mg base CX0 11 fa fd ["script"] sp := by
  obtain ⟨fd, hb, hF⟩ := ok_law (P := P) (w := w) X G c hmg
  refine ⟨K, fd, spF K F_law, X, hb, fun H a ns hl hO hS => ?_, fun base _ _ => hF base⟩
  have hz : FzL K H a (ns.map V.int) := by
    rcases hS with (hS | ⟨o, hS⟩) | hS
    · rcases hO a with h | ⟨o, xs, h⟩
      · rw [h] at hS; cases hS
      · rw [h] at hS; cases hS
    · exact .inl ⟨o, hS⟩
    · exact .inr (.inr hS)
  refine ⟨[], [], [.scr ns], .ok (.bl true) [], ⟨rfl, List.nodup_nil, fun n a o h => (by cases h)⟩, ⟨_, _, rfl, ⟨a, rfl, hz⟩, rfl⟩, fnR_eq u_law ⟨ns, hl, rfl, rfl, rfl⟩, ?_, GX.ok⟩
  intro d M1 e ι1 v H1 _ _ V1
  cases e
  exact V1
/-! ### the top's run -/
def nm0 : List PySem.Str := ["NoLookError", "BadBytes", "LETTERS", "is_integer", "is_within", "MODULUS", "FACTOR", "GROUP", "HALF", "CHECK", "integer_octets", "read_integer", "check_of", "sealed", "is_sealed", "MARK_packing", "NONE", "FALSE", "TRUE", "NUMBER", "LESS", "WORD", "ROW", "LEAST", "MOST_OCTETS", "MOST_LETTERS", "MOST_DEEP", "SIMPLE", "is_word", "is_small"]
def nm1 : List PySem.Str := ["is_plain", "number_octets", "own_octets", "packed", "Reader", "opened", "unpacked", "first_unlike", "spoilt", "MARK_journal", "is_deed", "record_of", "whole_record", "read_record", "journal_of", "steps_in", "deeds_in", "_law_bag", "_law_take", "_law_some", "_law_alike", "_law_seven", "_law_own_octets", "_law_own_sealed", "_law_own_packed", "_law_own_record", "_law_own_journal", "_law_thing", "_law_check", "_law_apart_at"]
def nmH : List PySem.Str := nm0 ++ nm1
abbrev RH : PySem.W.OpenRow := PySem.W.OpenLaw.row PySem.Challenge.rw_nolooking_k90_octets_within_octets
abbrev hkH : PySem.W.Hook := hookB 6 faH fnH exH
def obH (s : PySem.W.SharedT) : AlB := obsBG 6 faH fnH exH (HandSHeadRun.getT s)
theorem obH_eq (s : PySem.W.SharedT) : obH s = hkH.obs s.abs := obsBG_eq (HandSHeadRun.getT_eq s)
set_option maxHeartbeats 0 in
theorem runH (w : World) : HandSHeadRun.RunEq RH (PySem.W.view RH.prog [66]) hkH obH 6000 nmH w := PySem.W.byRow2 "special-get-raises" (P := fun w => HandSHeadRun.RunEq RH (PySem.W.view RH.prog [66]) hkH obH 6000 nmH w) (fun w => by intro os; kernel_rfl) (fun w => by intro os; kernel_rfl) w
end K90
open PySem PySem.W PySem.Calls PyProof.Rows
theorem PySem.Challenge.cw_nolooking_k90_octets_within_octets_holds : PySem.Challenge.rw_nolooking_k90_octets_within_octets.Holds := by
  w_on; o_law
  refine HandSHeadRun.head_any (r := OpenLaw.row PySem.Challenge.rw_nolooking_k90_octets_within_octets) (q := view (OpenLaw.row PySem.Challenge.rw_nolooking_k90_octets_within_octets).prog [66]) (H := K90.hkH) (ob := K90.obH) (M := 6000) (loose := K90.nmH) (d := HandSHeadRun.topDef (OpenLaw.row PySem.Challenge.rw_nolooking_k90_octets_within_octets).prog 66) (kwd := []) K90.obH_eq
    (by kernel_rfl) (fun s => by kernel_rfl) K90.runH (by kernel_rfl) (by kernel_rfl) (by kernel_rfl) (by rfl) (by first | assumption | decide +kernel) (by decide +kernel) ⟨rfl, rfl, rfl, rfl, rfl, by decide +kernel⟩ ?hw ?hc
  case hw => w_witness2
  case hc =>
    refine L2.walk_ofE (l := PySem.Challenge.rw_nolooking_k90_octets_within_octets) (n := 63) (k := 11) (x := "script") (CX := L2.CX0) rfl (by decide) (by kernel_rfl) ⟨rfl, by decide, by decide⟩ ?F (fun _ _ _ _ z => z)
    intro w mg fa h Y G hmg0
    obtain ⟨K, KX, c⟩ := Y
    have hmg : mg ("law" : PySem.Str) = some (.ref fa) := by
      have e : (HandSHeadRun.topDef (OpenLaw.row PySem.Challenge.rw_nolooking_k90_octets_within_octets).prog 66).name = ("law" : PySem.Str) := by kernel_rfl
      rw [← e]
      exact hmg0
    refine K90.endH (P := (PySem.Challenge.rw_nolooking_k90_octets_within_octets).prog) (w := w) KX G c hmg
