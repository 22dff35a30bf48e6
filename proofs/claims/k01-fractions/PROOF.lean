import PyProof.Rows.All
import Wide.All
import OpenK.AllK
import Wide.FinOn
import HandS.ForMost
import HandS.Exc
import HandS.TryOnly
import HandS.ExcOwn
import HandS.WordsExc
import HandS.CallSlots
import HandS.ExcInit
import HandS.ExcIs
import HandS.ExcField
import HandS.Gcd
import HandS.Wide
import HandS.IsInst
import HandS.Lambda
import HandS.TupAny
import HandS.TupMul
import HandS.Steps
import HandS.HotCalls
import HandS.ExcCtx
import HandS.Defaults
import KE.KExcIs
import HandS.HeadHook4
import HandS.HeadWalk
import HandS.EndTab
import HandS.Head2
import HandS.Head3
import PySem.Challenge.RW_oneemptied_k01_fractions_and_their_worth
set_option Elab.async false
set_option linter.all false
set_option maxRecDepth 100000
set_option maxHeartbeats 4000000
/-! Z1: a value-level mirror over the hand layer: data, stores, what fits a reading. -/
namespace Z
open PySem PySem.Spec PyProof.Rows L2

abbrev D := PyData
/-- a value: data that never changes; a list that may change, by its place in the store; some object -/
inductive U where
  | d (x : D)
  | loc (l : Nat)
  | rd (xs : List D)
  | adr (a : Addr)
  | ty (n : String)
  | cls (n : Str)
  | ex (c : Str) (y : D)
  | thk
abbrev Store := List (Option (List D))
abbrev Vr := List (Option U)
inductive R (A : Type) where
  | ok (a : A) (S : Store)
  | exc (c : Str) (x : D) (S : Store)
  | bad
inductive O where
  | nx (r : Vr) (S : Store)
  | rt (u : U) (S : Store)
  | bk (r : Vr) (S : Store)
  | ct (r : Vr) (S : Store)
  | exc (c : Str) (x : D) (r : Vr) (S : Store)
  | bad

/-! ### data in the heap -/
mutual
inductive Is (K : PySem.W.Frag) (F : Hp) : V → D → Prop
  | non : Is K F .non .none
  | bl (b : Bool) : Is K F (.bl b) (.bool b)
  | int (i : Int) : Is K F (.int i) (.int i)
  | str (x : Str) : Is K F (.str x) (.str x)
  | lst {a : Addr} {vs : List V} {ds : List D} : F a = some (.lst vs) → IsAll K F vs ds → Is K F (.ref a) (.list ds)
  | tup {a : Addr} {vs : List V} {ds : List D} : SqT K F a vs → IsAll K F vs ds → Is K F (.ref a) (.tuple ds)
inductive IsAll (K : PySem.W.Frag) (F : Hp) : List V → List D → Prop
  | nil : IsAll K F [] []
  | cons {v : V} {vs : List V} {d : D} {ds : List D} : Is K F v d → IsAll K F vs ds → IsAll K F (v :: vs) (d :: ds)
end
def Le (F F' : Hp) : Prop := ∀ a o, F a = some o → F' a = some o
theorem Le.refl (F : Hp) : Le F F := fun _ _ h => h
theorem Le.trans {F G H : Hp} (a : Le F G) (b : Le G H) : Le F H := fun x o h => b x o (a x o h)
theorem Le.new {F : Hp} {p : Addr} {o : HO} (h : F p = none) : Le F (upd F p o) := fun a u e => by
  rw [upd_ne (ne_of_none e h)]
  exact e
theorem le_rd {F F' : Hp} {a : Addr} {u : HO} (e : Le F F') (h : Rd F a u) : Rd F' a u := by
  rcases h with h | ⟨o, h⟩
  · exact .inl (e a _ h)
  · exact .inr ⟨o, e a _ h⟩
theorem le_t {K : PySem.W.Frag} {F F' : Hp} {a : Addr} {xs : List V} (e : Le F F') (h : SqT K F a xs) : SqT K F' a xs := by
  rcases h with h | h
  · exact .inl (le_rd e h)
  · exact .inr h
theorem le_l {K : PySem.W.Frag} {F F' : Hp} {a : Addr} {xs : List V} (e : Le F F') (h : SqL K F a xs) : SqL K F' a xs := by
  rcases h with h | h
  · exact .inl (le_rd e h)
  · exact .inr h
section
variable {K : PySem.W.Frag} {F F' : Hp}
mutual
theorem Is.mono (e : Le F F') : ∀ (d : D) (v : V), Is K F v d → Is K F' v d
  | .none, _, h => by cases h; exact .non
  | .bool b, _, h => by cases h; exact .bl b
  | .int i, _, h => by cases h; exact .int i
  | .str x, _, h => by cases h; exact .str x
  | .list ds, _, h => by
    cases h with
    | lst a b => exact .lst (e _ _ a) (IsAll.mono e ds _ b)
  | .tuple ds, _, h => by
    cases h with
    | tup a b => exact .tup (le_t e a) (IsAll.mono e ds _ b)
  | .dict _, _, h => by cases h
theorem IsAll.mono (e : Le F F') : ∀ (ds : List D) (vs : List V), IsAll K F vs ds → IsAll K F' vs ds
  | [], _, h => by cases h; exact .nil
  | d :: ds, _, h => by
    cases h with
    | cons a b => exact .cons (Is.mono e d _ a) (IsAll.mono e ds _ b)
end
mutual
theorem Is.dp (e : Le F F') : ∀ (d : D) (v : V), Is K F v d → Dp K F' v d
  | .none, _, h => by cases h; exact .non
  | .bool b, _, h => by cases h; exact .bl b
  | .int i, _, h => by cases h; exact .int i
  | .str x, _, h => by cases h; exact .str x
  | .list ds, _, h => by
    cases h with
    | lst a b => exact .lst (SqL.of (e _ _ a)) (IsAll.dp e ds _ b)
  | .tuple ds, _, h => by
    cases h with
    | tup a b => exact .tup (le_t e a) (IsAll.dp e ds _ b)
  | .dict _, _, h => by cases h
theorem IsAll.dp (e : Le F F') : ∀ (ds : List D) (vs : List V), IsAll K F vs ds → DpAll K F' vs ds
  | [], _, h => by cases h; exact .nil
  | d :: ds, _, h => by
    cases h with
    | cons a b => exact .cons (Is.dp e d _ a) (IsAll.dp e ds _ b)
end
theorem IsAll.length : ∀ {ds : List D} {vs : List V}, IsAll K F vs ds → vs.length = ds.length
  | [], _, h => by cases h; rfl
  | d :: ds, _, h => by
    cases h with
    | cons a b => rw [List.length_cons, List.length_cons, IsAll.length b]
theorem IsAll.get : ∀ {ds : List D} {vs : List V} {i : Nat} {d : D}, IsAll K F vs ds → ds[i]? = some d → ∃ v, vs[i]? = some v ∧ Is K F v d
  | [], _, _, _, h, e => by simp at e
  | x :: ds, _, 0, d, h, e => by
    cases h with
    | cons a b => simp at e; subst e; exact ⟨_, rfl, a⟩
  | x :: ds, _, i + 1, d, h, e => by
    cases h with
    | cons a b =>
      obtain ⟨v, h1, h2⟩ := IsAll.get (i := i) b (by simpa using e)
      exact ⟨v, by simpa using h1, h2⟩
theorem IsAll.append : ∀ {ds es : List D} {vs ws : List V}, IsAll K F vs ds → IsAll K F ws es → IsAll K F (vs ++ ws) (ds ++ es)
  | [], _, _, _, h, k => by cases h; exact k
  | d :: ds, _, _, _, h, k => by
    cases h with
    | cons a b => exact .cons a (IsAll.append b k)
theorem IsAll.take : ∀ (n : Nat) {ds : List D} {vs : List V}, IsAll K F vs ds → IsAll K F (vs.take n) (ds.take n)
  | 0, _, _, _ => by rw [List.take_zero, List.take_zero]; exact .nil
  | n + 1, [], _, h => by cases h; exact .nil
  | n + 1, d :: ds, _, h => by
    cases h with
    | cons a b => exact .cons a (IsAll.take n b)
theorem IsAll.drop : ∀ (n : Nat) {ds : List D} {vs : List V}, IsAll K F vs ds → IsAll K F (vs.drop n) (ds.drop n)
  | 0, _, _, h => h
  | n + 1, [], _, h => by cases h; exact .nil
  | n + 1, d :: ds, _, h => by
    cases h with
    | cons a b => exact IsAll.drop n b
theorem IsAll.set : ∀ {ds : List D} {vs : List V} (i : Nat) {v : V} {d : D}, IsAll K F vs ds → Is K F v d → IsAll K F (vs.set i v) (ds.set i d)
  | [], _, _, _, _, h, _ => by cases h; exact .nil
  | x :: ds, _, 0, _, _, h, k => by
    cases h with
    | cons a b => exact .cons k b
  | x :: ds, _, i + 1, _, _, h, k => by
    cases h with
    | cons a b => exact .cons a (IsAll.set i b k)
theorem IsAll.int : ∀ (ns : List Int), IsAll K F (ns.map V.int) (ns.map PyData.int)
  | [] => .nil
  | n :: ns => .cons (.int n) (IsAll.int ns)
end

/-! ### the state -/
/-- what stays as it is: the written part, the module's names, the code tables; the exception that is handled (its class, its dict); the thunk that was handed in (where it stands, its code, the frame around it) -/
structure Fx where
  K : PySem.W.Frag
  mg : Str → Option Value
  T : List (Addr × Str)
  exc : Addr → Str → Addr → Prop := fun _ _ _ => False
  tf : Addr := 0
  tc : Addr := 0
  tq : Str := Str.empty
  enc : Vr := []
  encσ : L2.St := []
structure Rep (x : Fx) (α : Nat → Addr) (F : Hp) (S : Store) (H : Hp) : Prop where
  le : Le F H
  inj : ∀ i j, i < S.length → j < S.length → α i = α j → i = j
  cell : ∀ (i : Nat) (ds : List D), S[i]? = some (some ds) → F (α i) = none ∧ ∃ vs, H (α i) = some (.lst vs) ∧ IsAll x.K F vs ds
  old : ∀ i, i < S.length → ∃ vs, H (α i) = some (.lst vs)
  tabs : LamX.Tabs x.T H
  tabF : ∀ b ps, F b ≠ some (.tbl ps)
structure Ext (α α' : Nat → Addr) (F F' : Hp) (S S' : Store) : Prop where
  len : S.length ≤ S'.length
  al : ∀ i, i < S.length → α' i = α i
  fr : Le F F'
def IsV (x : Fx) (α : Nat → Addr) (F : Hp) (n : Nat) (v : V) : U → Prop
  | .d y => Is x.K F v y
  | .loc l => v = .ref (α l) ∧ l < n
  | .rd ds => ∃ a vs, v = .ref a ∧ SqL x.K F a vs ∧ IsAll x.K F vs ds
  | .adr a => v = .ref a
  | .ty n => v = .ty n
  | .cls c => ∃ C, v = .ref C ∧ x.mg c = some (.ref C)
  | .ex c y => ∃ a dd fs w, v = .ref a ∧ x.exc a c dd ∧ F dd = some (.xd fs) ∧ fs.lookup ("what" : Str) = some w ∧ Is x.K F w y
  | .thk => False
def IsU (x : Fx) (α : Nat → Addr) (F : Hp) (n : Nat) (v : V) (u : U) : Prop := match u with
  | .thk => v = .ref x.tf ∧ F x.tc = some (LamX.CodeO x.tc x.tq) ∧ x.encσ.length = x.enc.length ∧ ∀ (i : Nat) (u : U), x.enc[i]? = some (some u) → ∃ v', x.encσ[i]? = some (some v') ∧ IsV x α F n v' u
  | u => IsV x α F n v u
structure Sl (x : Fx) (α : Nat → Addr) (F : Hp) (n : Nat) (σ : L2.St) (ρ : Vr) : Prop where
  len : σ.length = ρ.length
  get : ∀ (i : Nat) (u : U), ρ[i]? = some (some u) → ∃ v, σ[i]? = some (some v) ∧ IsU x α F n v u
theorem Ext.refl (α : Nat → Addr) (F : Hp) (S : Store) : Ext α α F F S S := ⟨Nat.le_refl _, fun _ _ => rfl, Le.refl F⟩
theorem Ext.trans {α α1 α2 : Nat → Addr} {F F1 F2 : Hp} {S S1 S2 : Store} (a : Ext α α1 F F1 S S1) (b : Ext α1 α2 F1 F2 S1 S2) : Ext α α2 F F2 S S2 :=
  ⟨Nat.le_trans a.len b.len, fun i h => (b.al i (Nat.lt_of_lt_of_le h a.len)).trans (a.al i h), a.fr.trans b.fr⟩
section
variable {x : Fx} {α α' α1 : Nat → Addr} {F F' F1 : Hp} {S S' S1 : Store} {H H' : Hp} {σ : L2.St} {ρ : Vr} {v : V} {u : U}
theorem IsV.ext (e : Ext α α' F F' S S') (h : IsV x α F S.length v u) : IsV x α' F' S'.length v u := by
  cases u with
  | d y => exact Is.mono e.fr y v h
  | loc l => exact ⟨by rw [e.al l h.2]; exact h.1, Nat.lt_of_lt_of_le h.2 e.len⟩
  | rd ds =>
    obtain ⟨a, vs, h1, h2, h3⟩ := h
    exact ⟨a, vs, h1, le_l e.fr h2, IsAll.mono e.fr _ _ h3⟩
  | adr a => exact h
  | ty n => exact h
  | cls c => exact h
  | ex c y =>
    obtain ⟨a, dd, fs, w, h1, h2, h3, h4, h5⟩ := h
    exact ⟨a, dd, fs, w, h1, h2, e.fr _ _ h3, h4, Is.mono e.fr y w h5⟩
  | thk => exact h
theorem IsU.of (h : IsV x α F S.length v u) : IsU x α F S.length v u := by
  cases u <;> first | exact h | exact h.elim
theorem IsU.ext (e : Ext α α' F F' S S') (h : IsU x α F S.length v u) : IsU x α' F' S'.length v u := by
  cases u with
  | thk =>
    obtain ⟨h1, h2, h3, h4⟩ := h
    refine ⟨h1, e.fr _ _ h2, h3, fun i u hu => ?_⟩
    obtain ⟨v', h5, h6⟩ := h4 i u hu
    exact ⟨v', h5, h6.ext e⟩
  | d y => exact IsV.ext (x := x) (u := .d y) e h
  | loc l => exact IsV.ext (x := x) (u := .loc l) e h
  | rd ds => exact IsV.ext (x := x) (u := .rd ds) e h
  | adr a => exact h
  | ty n => exact h
  | cls c => exact h
  | ex c y => exact IsV.ext (x := x) (u := .ex c y) e h
theorem Sl.ext (e : Ext α α' F F' S S') (h : Sl x α F S.length σ ρ) : Sl x α' F' S'.length σ ρ := ⟨h.len, fun i u hu => by
  obtain ⟨v, h1, h2⟩ := h.get i u hu
  exact ⟨v, h1, h2.ext e⟩⟩
theorem Sl.set (i : Nat) (h : Sl x α F S.length σ ρ) (hu : IsU x α F S.length v u) : Sl x α F S.length (σ.set i (some v)) (ρ.set i (some u)) := by
  refine ⟨by rw [List.length_set, List.length_set, h.len], fun j w hw => ?_⟩
  by_cases e : i = j
  · subst e
    have hl : i < ρ.length := by
      have := List.getElem?_eq_some_iff.mp hw
      obtain ⟨q, _⟩ := this
      rw [List.length_set] at q
      exact q
    rw [List.getElem?_set_self hl] at hw
    cases hw
    exact ⟨v, List.getElem?_set_self (by rw [h.len]; exact hl), hu⟩
  · rw [List.getElem?_set_ne e] at hw ⊢
    exact h.get j w hw
/-- a new frozen object -/
theorem Rep.frozen (r : Rep x α F S H) {p : Addr} {o : HO} (hp : H p = none) (ho : ∀ ps, o ≠ .tbl ps := by intro _ h; cases h) : Rep x α (upd F p o) S (upd H p o) ∧ Ext α α F (upd F p o) S S := by
  have hF : F p = none := by
    cases e : F p with
    | none => rfl
    | some q => rw [r.le _ _ e] at hp; cases hp
  have ne : ∀ i, i < S.length → α i ≠ p := fun i h z => by
    obtain ⟨vs, q⟩ := r.old i h
    rw [z, hp] at q
    cases q
  refine ⟨⟨fun a u e => ?_, r.inj, fun i ds e => ?_, fun i h => ?_, r.tabs.ext fun b o e => ?_, fun q ps hq => ?_⟩, ⟨Nat.le_refl _, fun _ _ => rfl, Le.new hF⟩⟩
  · by_cases z : a = p
    · subst z
      rw [upd_same] at e ⊢
      exact e
    · rw [upd_ne z] at e ⊢
      exact r.le _ _ e
  · have hi : i < S.length := (List.getElem?_eq_some_iff.mp e).1
    obtain ⟨h1, vs, h2, h3⟩ := r.cell i ds e
    exact ⟨by rw [upd_ne (ne i hi)]; exact h1, vs, by rw [upd_ne (ne i hi)]; exact h2, IsAll.mono (Le.new hF) _ _ h3⟩
  · rw [upd_ne (ne i h)]
    exact r.old i h
  · rw [upd_ne (ne_of_none e hp)]
    exact e
  · by_cases z : q = p
    · rw [z, upd_same] at hq
      exact ho ps (Option.some.inj hq)
    · rw [upd_ne z] at hq
      exact r.tabF q ps hq
/-- a new list that may change -/
theorem Rep.fresh (r : Rep x α F S H) {p : Addr} {vs : List V} {ds : List D} (hp : H p = none) (hv : IsAll x.K F vs ds) :
    Rep x (fun i => if i = S.length then p else α i) F (S ++ [some ds]) (upd H p (.lst vs)) ∧ Ext α (fun i => if i = S.length then p else α i) F F S (S ++ [some ds]) := by
  have hF : F p = none := by
    cases e : F p with
    | none => rfl
    | some q => rw [r.le _ _ e] at hp; cases hp
  have ne : ∀ i, i < S.length → α i ≠ p := fun i h z => by
    obtain ⟨vs, q⟩ := r.old i h
    rw [z, hp] at q
    cases q
  have al : ∀ i, i < S.length → (if i = S.length then p else α i) = α i := fun i h => if_neg (Nat.ne_of_lt h)
  have aln : (if S.length = S.length then p else α S.length) = p := if_pos rfl
  have lt : ∀ i, i < (S ++ [some ds]).length → i < S.length ∨ i = S.length := fun i h => by
    rw [List.length_append, List.length_singleton] at h
    omega
  refine ⟨⟨fun a u e => ?_, fun i j hi hj e => ?_, fun i es e => ?_, fun i h => ?_, r.tabs.ext fun b o e => ?_, r.tabF⟩, ⟨by rw [List.length_append]; omega, al, Le.refl F⟩⟩
  · rw [upd_ne (ne_of_none (r.le _ _ e) hp)]
    exact r.le _ _ e
  · rcases lt i hi with h1 | h1 <;> rcases lt j hj with h2 | h2
    · have e' : (if i = S.length then p else α i) = (if j = S.length then p else α j) := e
      rw [al i h1, al j h2] at e'
      exact r.inj i j h1 h2 e'
    · have e' : (if i = S.length then p else α i) = (if j = S.length then p else α j) := e
      rw [al i h1, if_pos h2] at e'
      exact absurd e' (ne i h1)
    · have e' : (if i = S.length then p else α i) = (if j = S.length then p else α j) := e
      rw [al j h2, if_pos h1] at e'
      exact absurd e'.symm (ne j h2)
    · rw [h1, h2]
  · show F (if i = S.length then p else α i) = none ∧ ∃ vs', upd H p (.lst vs) (if i = S.length then p else α i) = some (.lst vs') ∧ _
    by_cases hi : i < S.length
    · rw [al i hi]
      rw [List.getElem?_append_left hi] at e
      obtain ⟨h1, ws, h2, h3⟩ := r.cell i es e
      exact ⟨h1, ws, by rw [upd_ne (ne i hi)]; exact h2, h3⟩
    · have hl := (List.getElem?_eq_some_iff.mp e).1
      have h1 : i = S.length := by
        rcases lt i hl with z | z
        · exact absurd z hi
        · exact z
      subst h1
      rw [List.getElem?_append_right (Nat.le_refl _)] at e
      simp at e
      subst e
      rw [aln]
      exact ⟨hF, vs, upd_same, hv⟩
  · show ∃ ws, upd H p (.lst vs) (if i = S.length then p else α i) = some (.lst ws)
    rcases lt i h with h1 | h1
    · rw [al i h1, upd_ne (ne i h1)]
      exact r.old i h1
    · rw [if_pos h1, upd_same]
      exact ⟨_, rfl⟩
  · rw [upd_ne (ne_of_none e hp)]
    exact e
/-- a list that may change is changed -/
theorem Rep.write (r : Rep x α F S H) {l : Nat} {ds es : List D} {ws : List V} (h : S[l]? = some (some ds)) (hw : IsAll x.K F ws es) :
    Rep x α F (S.set l (some es)) (upd H (α l) (.lst ws)) ∧ Ext α α F F S (S.set l (some es)) := by
  have hl : l < S.length := (List.getElem?_eq_some_iff.mp h).1
  obtain ⟨c1, vs, c2, c3⟩ := r.cell l ds h
  refine ⟨⟨fun a u e => ?_, fun i j hi hj => r.inj i j (by simpa using hi) (by simpa using hj), fun i fs e => ?_, fun i hi => ?_, fun q hq => ?_, r.tabF⟩, ⟨by rw [List.length_set]; exact Nat.le_refl _, fun _ _ => rfl, Le.refl F⟩⟩
  · rw [upd_ne (ne_of_none e c1)]
    exact r.le _ _ e
  · by_cases z : l = i
    · subst z
      rw [List.getElem?_set_self hl] at e
      cases e
      exact ⟨c1, ws, upd_same, hw⟩
    · rw [List.getElem?_set_ne z] at e
      have hi : i < S.length := (List.getElem?_eq_some_iff.mp e).1
      obtain ⟨h1, ts, h2, h3⟩ := r.cell i fs e
      exact ⟨h1, ts, by rw [upd_ne (fun y => z (r.inj l i hl hi y.symm))]; exact h2, h3⟩
  · by_cases z : α i = α l
    · rw [z, upd_same]
      exact ⟨_, rfl⟩
    · rw [upd_ne z]
      exact r.old i (by simpa using hi)
  · obtain ⟨ps, h1, h2, h3⟩ := r.tabs q hq
    have n1 : q.1 ≠ α l := fun z => by rw [z, c2] at h1; cases h1
    refine ⟨ps, by rw [upd_ne n1]; exact h1, h2, fun pos cv hc => ?_⟩
    obtain ⟨c, e1, e2⟩ := h3 pos cv hc
    refine ⟨c, e1, ?_⟩
    have n2 : c ≠ α l := fun z => by
      rw [z, c2] at e2
      unfold LamX.CodeO at e2
      cases e2
    rw [upd_ne n2]
    exact e2
/-- a list stops changing -/
theorem Rep.freeze (r : Rep x α F S H) {l : Nat} {ds : List D} (h : S[l]? = some (some ds)) :
    ∃ F' vs, Rep x α F' (S.set l none) H ∧ Ext α α F F' S (S.set l none) ∧ F' (α l) = some (.lst vs) ∧ IsAll x.K F' vs ds := by
  have hl : l < S.length := (List.getElem?_eq_some_iff.mp h).1
  obtain ⟨c1, vs, c2, c3⟩ := r.cell l ds h
  have le1 : Le F (upd F (α l) (.lst vs)) := Le.new c1
  refine ⟨upd F (α l) (.lst vs), vs, ⟨fun a u e => ?_, fun i j hi hj => r.inj i j (by simpa using hi) (by simpa using hj), fun i fs e => ?_, fun i hi => r.old i (by simpa using hi), r.tabs, fun q ps hq => ?_⟩,
    ⟨by rw [List.length_set]; exact Nat.le_refl _, fun _ _ => rfl, le1⟩, upd_same, IsAll.mono le1 _ _ c3⟩
  · by_cases z : a = α l
    · subst z
      rw [upd_same] at e
      rw [← e]
      exact c2
    · rw [upd_ne z] at e
      exact r.le _ _ e
  · have z : l ≠ i := fun z => by
      subst z
      rw [List.getElem?_set_self hl] at e
      cases e
    rw [List.getElem?_set_ne z] at e
    have hi : i < S.length := (List.getElem?_eq_some_iff.mp e).1
    obtain ⟨h1, ts, h2, h3⟩ := r.cell i fs e
    exact ⟨by rw [upd_ne (fun y => z (r.inj l i hl hi y.symm))]; exact h1, ts, h2, IsAll.mono le1 _ _ h3⟩
  · by_cases z : q = α l
    · rw [z, upd_same] at hq
      cases hq
    · rw [upd_ne z] at hq
      exact r.tabF q ps hq
/-- tables of code objects grow, new objects come -/
theorem Rep.extN {H1 : Hp} (r : Rep x α F S H) (e : LamX.ExtN H H1) (t : LamX.Tabs x.T H1) : Rep x α F S H1 := by
  refine ⟨fun a u h => e _ _ (r.le a u h) fun ps z => r.tabF a ps (by rw [← z]; exact h), r.inj, fun i ds h => ?_, fun i h => ?_, t, r.tabF⟩
  · obtain ⟨h1, vs, h2, h3⟩ := r.cell i ds h
    exact ⟨h1, vs, e _ _ h2 (fun ps z => by cases z), h3⟩
  · obtain ⟨vs, h2⟩ := r.old i h
    exact ⟨vs, e _ _ h2 (fun ps z => by cases z)⟩
/-- an object that is there is known -/
theorem Rep.knows (r : Rep x α F S H) {c : Addr} {o : HO} (h : H c = some o) (h1 : ∀ ps, o ≠ .tbl ps) (h2 : ∀ vs, o ≠ .lst vs) : ∃ F', Rep x α F' S H ∧ Ext α α F F' S S ∧ F' c = some o := by
  refine ⟨upd F c o, ⟨fun a u e => ?_, r.inj, fun i ds e => ?_, r.old, r.tabs, fun q ps hq => ?_⟩, ⟨Nat.le_refl _, fun _ _ => rfl, fun a u e => ?_⟩, upd_same⟩
  · by_cases z : a = c
    · rw [z, upd_same] at e
      rw [z, h, e]
    · rw [upd_ne z] at e
      exact r.le _ _ e
  · obtain ⟨c1, vs, c2, c3⟩ := r.cell i ds e
    refine ⟨?_, vs, c2, IsAll.mono (fun a u e => ?_) _ _ c3⟩
    · rw [upd_ne (fun z => by rw [z, h] at c2; exact h2 _ (Option.some.inj c2))]
      exact c1
    · by_cases z : a = c
      · rw [z, upd_same, ← h, ← r.le _ _ e, z]
      · rw [upd_ne z]
        exact e
  · by_cases z : q = c
    · rw [z, upd_same] at hq
      exact h1 ps (Option.some.inj hq)
    · rw [upd_ne z] at hq
      exact r.tabF q ps hq
  · by_cases z : a = c
    · rw [z, upd_same, ← h, ← r.le _ _ e, z]
    · rw [upd_ne z]
      exact e
/-- the last places are forgotten -/
theorem Rep.cut (r : Rep x α F S H) (n : Nat) : Rep x α F (S.take n) H := by
  have lt : ∀ i, i < (S.take n).length → i < S.length := fun i h => by rw [List.length_take] at h; omega
  refine ⟨r.le, fun i j hi hj => r.inj i j (lt i hi) (lt j hj), fun i ds e => r.cell i ds ?_, fun i h => r.old i (lt i h), r.tabs, r.tabF⟩
  have hi := (List.getElem?_eq_some_iff.mp e).1
  rw [List.length_take] at hi
  rw [List.getElem?_take_of_lt (by omega)] at e
  exact e
end
end Z

namespace Z
open PySem PySem.Spec PyProof.Rows L2

def R.bind {A C : Type} (r : R A) (k : A → Store → R C) : R C := match r with
  | .ok a S => k a S
  | .exc c x S => .exc c x S
  | .bad => .bad
def R.st {A : Type} (r : R A) (ρ : Vr) (k : A → Store → O) : O := match r with
  | .ok a S => k a S
  | .exc c x S => .exc c x ρ S
  | .bad => .bad
def O.seq (o : O) (k : Vr → Store → O) : O := match o with
  | .nx ρ S => k ρ S
  | o => o
/-! ### what is wanted behind -/
abbrev Rl (A B : Type) := Fx → (Nat → Addr) → Hp → Nat → B → A → Prop
def Post {A B : Type} (rel : Rl A B) (x : Fx) (W : WX) (α : Nat → Addr) (F : Hp) (S : Store) (σ : L2.St) (Q : B → Hp → Prop) : R A → Prop
  | .ok a S' => ∀ α' F' H' b, Ext α α' F F' S S' → Rep x α' F' S' H' → rel x α' F' S'.length b a → Q b H'
  | .exc c d S' => ∀ α' F' H' (C p : Addr) v fs, Ext α α' F F' S S' → Rep x α' F' S' H' → x.mg c = some (.ref C) → F' p = some (.xd fs) → fs.lookup ("what" : Str) = some v → Is x.K F' v d → W (.ref C) (some p) σ H'
  | .bad => False
def Fit {A B : Type} (rel : Rl A B) (x : Fx) (W : WX) (t : L2.St → Hp → (B → Hp → Prop) → Prop) (f : Vr → Store → R A) : Prop :=
  ∀ α F ρ S σ H, Rep x α F S H → Sl x α F S.length σ ρ → ∀ Q, Post rel x W α F S σ Q (f ρ S) → t σ H Q
def zU : Rl U V := fun x α F n v u => IsU x α F n v u
def zB : Rl Bool Bool := fun _ _ _ _ b a => b = a
def zO : Rl (Option Int) (Option Int) := fun _ _ _ _ b a => b = a
inductive IsUs (x : Fx) (α : Nat → Addr) (F : Hp) (n : Nat) : List V → List U → Prop
  | nil : IsUs x α F n [] []
  | cons {v : V} {vs : List V} {u : U} {us : List U} : IsU x α F n v u → IsUs x α F n vs us → IsUs x α F n (v :: vs) (u :: us)
def zUs : Rl (List U) (List V) := fun x α F n vs us => IsUs x α F n vs us
abbrev FitE := Fit zU
abbrev FitT := Fit zB
abbrev FitA := Fit zUs
abbrev FitP := Fit zO
section
variable {A B A' B' : Type} {rel : Rl A B} {rel' : Rl A' B'} {x : Fx} {W : WX} {α α1 : Nat → Addr} {F F1 : Hp} {S S1 : Store} {H H1 : Hp} {σ : L2.St} {ρ : Vr}
theorem Post.ext (e : Ext α α1 F F1 S S1) {Q : B → Hp → Prop} {r : R A} (p : Post rel x W α F S σ Q r) : Post rel x W α1 F1 S1 σ Q r := by
  cases r with
  | ok a S' => exact fun α' F' H' b e1 => p α' F' H' b (e.trans e1)
  | exc c d S' => exact fun α' F' H' C p' v fs e1 => p α' F' H' C p' v fs (e.trans e1)
  | bad => exact p
theorem Post.imp {Q Q' : B → Hp → Prop} {r : R A} (p : Post rel x W α F S σ Q r) (h : ∀ b H, Q b H → Q' b H) : Post rel x W α F S σ Q' r := by
  cases r with
  | ok a S' => exact fun α' F' H' b e1 e2 e3 => h _ _ (p α' F' H' b e1 e2 e3)
  | exc c d S' => exact p
  | bad => exact p
theorem Fit.bind {t : L2.St → Hp → (B → Hp → Prop) → Prop} {f : Vr → Store → R A} {k : A → Store → R A'} {Q : B' → Hp → Prop} {Q1 : B → Hp → Prop} (h : Fit rel x W t f) (r : Rep x α F S H) (s : Sl x α F S.length σ ρ)
    (p : Post rel' x W α F S σ Q ((f ρ S).bind k))
    (c : ∀ α1 F1 S1 H1 b a, Ext α α1 F F1 S S1 → Rep x α1 F1 S1 H1 → Sl x α1 F1 S1.length σ ρ → rel x α1 F1 S1.length b a → Post rel' x W α1 F1 S1 σ Q (k a S1) → Q1 b H1) : t σ H Q1 := by
  refine h α F ρ S σ H r s Q1 ?_
  cases e : f ρ S with
  | ok a S1 =>
    rw [e] at p
    exact fun α1 F1 H1 b e1 r1 q => c α1 F1 S1 H1 b a e1 r1 (s.ext e1) q (Post.ext e1 p)
  | exc cc d S1 =>
    rw [e] at p
    exact p
  | bad =>
    rw [e] at p
    exact p
end
theorem IsUs.length {x : Fx} {α : Nat → Addr} {F : Hp} {n : Nat} : ∀ {vs : List V} {us : List U}, IsUs x α F n vs us → vs.length = us.length
  | _, _, .nil => rfl
  | _, _, .cons _ t => by rw [List.length_cons, List.length_cons, IsUs.length t]
theorem IsUs.ext {x : Fx} {α α' : Nat → Addr} {F F' : Hp} {S S' : Store} (e : Ext α α' F F' S S') : ∀ {vs : List V} {us : List U}, IsUs x α F S.length vs us → IsUs x α' F' S'.length vs us
  | _, _, .nil => .nil
  | _, _, .cons h t => .cons (h.ext e) (IsUs.ext e t)

/-! ### freezing -/
def frz (u : U) (S : Store) : Option (D × Store) := match u with
  | .d y => some (y, S)
  | .loc l => match S[l]? with
    | some (some ds) => some (.list ds, S.set l none)
    | _ => none
  | _ => none
def frzs : List U → Store → Option (List D × Store)
  | [], S => some ([], S)
  | u :: us, S => match frz u S with
    | some (y, S1) => (match frzs us S1 with
      | some (ys, S2) => some (y :: ys, S2)
      | none => none)
    | none => none
section
variable {x : Fx} {α : Nat → Addr} {F : Hp} {S S' : Store} {H : Hp}
theorem frz_ok {v : V} {u : U} {y : D} (r : Rep x α F S H) (h : IsU x α F S.length v u) (e : frz u S = some (y, S')) : ∃ F', Rep x α F' S' H ∧ Ext α α F F' S S' ∧ Is x.K F' v y := by
  unfold frz at e
  cases u with
  | d z =>
    cases e
    exact ⟨F, r, Ext.refl _ _ _, h⟩
  | loc l =>
    dsimp only at e
    split at e
    · rename_i ds q
      cases e
      obtain ⟨F', vs, r1, e1, h1, h2⟩ := r.freeze q
      refine ⟨F', r1, e1, ?_⟩
      obtain ⟨hv, _⟩ := h
      subst hv
      exact .lst h1 h2
    · cases e
  | rd _ => cases e
  | adr _ => cases e
  | ty _ => cases e
  | cls _ => cases e
  | ex _ _ => cases e
  | thk => cases e
theorem frzs_ok : ∀ {us : List U} {vs : List V} {S S' : Store} {F : Hp} {ys : List D}, Rep x α F S H → IsUs x α F S.length vs us → frzs us S = some (ys, S') → ∃ F', Rep x α F' S' H ∧ Ext α α F F' S S' ∧ IsAll x.K F' vs ys
  | [], _, S, S', F, ys, r, h, e => by
    cases h
    cases e
    exact ⟨F, r, Ext.refl _ _ _, .nil⟩
  | u :: us, _, S, S', F, ys, r, h, e => by
    cases h with
    | cons h1 h2 =>
      unfold frzs at e
      split at e
      · rename_i y S1 q1
        split at e
        · rename_i zs S2 q2
          cases e
          obtain ⟨F1, r1, e1, i1⟩ := frz_ok r h1 q1
          obtain ⟨F2, r2, e2, i2⟩ := frzs_ok r1 (h2.ext e1) q2
          exact ⟨F2, r2, e1.trans e2, .cons (Is.mono e2.fr _ _ i1) i2⟩
        · cases e
      · cases e
end
/-! ### expressions: values -/
def fVar (i : Nat) : Vr → Store → R U := fun ρ S => match ρ[i]? with
  | some (some u) => .ok u S
  | _ => .bad
@[simp] def fC (u : U) : Vr → Store → R U := fun _ S => .ok u S
@[simp] def fNil : Vr → Store → R (List U) := fun _ S => .ok [] S
@[simp] def fCons (f : Vr → Store → R U) (g : Vr → Store → R (List U)) : Vr → Store → R (List U) := fun ρ S => (f ρ S).bind fun u S1 => (g ρ S1).bind fun us S2 => .ok (u :: us) S2
@[simp] def mkTup (us : List U) (S : Store) : R U := match frzs us S with
  | some (ds, S1) => if ds.length ≤ 1000000 then .ok (.d (.tuple ds)) S1 else .bad
  | none => .bad
@[simp] def mkLst (us : List U) (S : Store) : R U := match frzs us S with
  | some (ds, S1) => if ds.length ≤ 1000000 then .ok (.d (.list ds)) S1 else .bad
  | none => .bad
@[simp] def mkLoc (us : List U) (S : Store) : R U := match frzs us S with
  | some (ds, S1) => if ds.length ≤ 1000000 then .ok (.loc S1.length) (S1 ++ [some ds]) else .bad
  | none => .bad
@[simp] def f1 (g : U → Store → R U) (fa : Vr → Store → R U) : Vr → Store → R U := fun ρ S => (fa ρ S).bind g
@[simp] def f2 (g : U → U → Store → R U) (fa fb : Vr → Store → R U) : Vr → Store → R U := fun ρ S => (fa ρ S).bind fun u S1 => (fb ρ S1).bind fun w S2 => g u w S2
@[simp] def fN (g : List U → Store → R U) (fa : Vr → Store → R (List U)) : Vr → Store → R U := fun ρ S => (fa ρ S).bind g
def tru (u : U) (S : Store) : R Bool := match u with
  | .d (.bool b) => .ok b S
  | _ => .bad
@[simp] def fTst (fe : Vr → Store → R U) : Vr → Store → R Bool := fun ρ S => (fe ρ S).bind tru
@[simp] def fAndT (a b : Vr → Store → R Bool) : Vr → Store → R Bool := fun ρ S => (a ρ S).bind fun c S1 => if c = true then b ρ S1 else .ok false S1
@[simp] def fOrT (a b : Vr → Store → R Bool) : Vr → Store → R Bool := fun ρ S => (a ρ S).bind fun c S1 => if c = true then .ok true S1 else b ρ S1
@[simp] def fNotT (a : Vr → Store → R Bool) : Vr → Store → R Bool := fun ρ S => (a ρ S).bind fun c S1 => .ok (!c) S1
@[simp] def fAndV (a b : Vr → Store → R U) : Vr → Store → R U := fun ρ S => (fTst a ρ S).bind fun c S1 => if c = true then b ρ S1 else .ok (.d (.bool false)) S1
@[simp] def fOrV (a b : Vr → Store → R U) : Vr → Store → R U := fun ρ S => (fTst a ρ S).bind fun c S1 => if c = true then .ok (.d (.bool true)) S1 else b ρ S1
@[simp] def fNotV (a : Vr → Store → R U) : Vr → Store → R U := fun ρ S => (fTst a ρ S).bind fun c S1 => .ok (.d (.bool !c)) S1
@[simp] def fIf (t : Vr → Store → R Bool) (a b : Vr → Store → R U) : Vr → Store → R U := fun ρ S => (t ρ S).bind fun c S1 => if c = true then a ρ S1 else b ρ S1
@[simp] def fChain (g g' : U → U → Store → R U) (fa fb fc : Vr → Store → R U) : Vr → Store → R U := fun ρ S => (fa ρ S).bind fun u S1 => (fb ρ S1).bind fun w S2 => ((g u w S2).bind tru).bind fun c S3 =>
  if c = true then (fc ρ S3).bind fun z S4 => g' w z S4 else .ok (.d (.bool false)) S3
/-- an operation on values -/
def Fit2 (x : Fx) (r : R2) (g : U → U → Store → R U) : Prop := ∀ W α F S σ H v w u u', Rep x α F S H → IsU x α F S.length v u → IsU x α F S.length w u' → ∀ Q, Post zU x W α F S σ Q (g u u' S) → r v w H Q
def Fit1 (x : Fx) (r : V → Hp → VK → Prop) (g : U → Store → R U) : Prop := ∀ W α F S σ H v u, Rep x α F S H → IsU x α F S.length v u → ∀ Q, Post zU x W α F S σ Q (g u S) → r v H Q
def FitN (x : Fx) (r : List V → Hp → VK → Prop) (g : List U → Store → R U) : Prop := ∀ W α F S σ H vs us, Rep x α F S H → IsUs x α F S.length vs us → ∀ Q, Post zU x W α F S σ Q (g us S) → r vs H Q
section
variable {x : Fx} {W : WX} {ta tb tc : TE} {t t' : TT} {ts : TA} {fa fb fc : Vr → Store → R U} {f f' : Vr → Store → R Bool} {fs : Vr → Store → R (List U)}
theorem is_bool {α : Nat → Addr} {F : Hp} {n : Nat} {v : V} {b : Bool} (h : IsU x α F n v (.d (.bool b))) : v = .bl b := by
  have h' : Is x.K F v (.bool b) := h
  cases h'
  rfl
theorem is_int {α : Nat → Addr} {F : Hp} {n : Nat} {v : V} {i : Int} (h : IsU x α F n v (.d (.int i))) : v = .int i := by
  have h' : Is x.K F v (.int i) := h
  cases h'
  rfl
theorem fit_var (i : Nat) : FitE x W (tVar i) (fVar i) := by
  intro α F ρ S σ H r s Q p
  unfold fVar at p
  split at p
  · rename_i u e
    obtain ⟨v, h1, h2⟩ := s.get i u e
    exact ⟨v, h1, p α F H v (Ext.refl _ _ _) r h2⟩
  · exact p.elim
theorem fit_c {v : V} {u : U} (h : ∀ α F n, IsU x α F n v u) : FitE x W (tC v) (fC u) := fun α F ρ S σ H r s Q p => p α F H v (Ext.refl _ _ _) r (h α F _)
theorem fit_int (i : Int) : FitE x W (tC (.int i)) (fC (.d (.int i))) := fit_c fun _ _ _ => .int i
theorem fit_str (i : Str) : FitE x W (tC (.str i)) (fC (.d (.str i))) := fit_c fun _ _ _ => .str i
theorem fit_bl (i : Bool) : FitE x W (tC (.bl i)) (fC (.d (.bool i))) := fit_c fun _ _ _ => .bl i
theorem fit_non : FitE x W (tC .non) (fC (.d .none)) := fit_c fun _ _ _ => .non
theorem fit_nil : FitA x W tNil fNil := fun α F ρ S σ H r s Q p => p α F H [] (Ext.refl _ _ _) r .nil
theorem fit_cons (h : FitE x W ta fa) (hs : FitA x W ts fs) : FitA x W (tCons ta ts) (fCons fa fs) := by
  intro α F ρ S σ H r s Q p
  refine h.bind r s p fun α1 F1 S1 H1 v u e1 r1 s1 i1 p1 => ?_
  refine hs.bind r1 s1 p1 fun α2 F2 S2 H2 vs us e2 r2 s2 i2 p2 => ?_
  exact p2 α2 F2 H2 (v :: vs) (Ext.refl _ _ _) r2 (.cons (IsU.ext e2 i1) i2)
theorem le_line {n : Nat} (h : n ≤ 1000000) : n ≤ sizeLine := Nat.le_trans h (by decide)
theorem lt_line {n : Nat} (h : n < 1000000) : n < sizeLine := Nat.lt_of_lt_of_le h (by decide)
theorem fit_tup (h : FitA x W ts fs) : FitE x W (tTup ts) (fN mkTup fs) := by
  intro α F ρ S σ H r s Q p
  refine h.bind r s p fun α1 F1 S1 H1 vs us e1 r1 s1 i1 p1 => ?_
  unfold mkTup at p1
  split at p1
  · rename_i ds S2 q
    split at p1
    · rename_i hl
      obtain ⟨F2, r2, e2, i2⟩ := frzs_ok r1 i1 q
      refine ⟨le_line (by rw [i2.length]; exact hl), fun q hq => ?_⟩
      obtain ⟨r3, e3⟩ := r2.frozen (o := .tup vs) hq
      exact p1 _ _ _ _ (e2.trans e3) r3 (.tup (SqT.of upd_same) (IsAll.mono e3.fr _ _ i2))
    · exact p1.elim
  · exact p1.elim
theorem fit_lst (h : FitA x W ts fs) : FitE x W (tLst ts) (fN mkLst fs) := by
  intro α F ρ S σ H r s Q p
  refine h.bind r s p fun α1 F1 S1 H1 vs us e1 r1 s1 i1 p1 => ?_
  unfold mkLst at p1
  split at p1
  · rename_i ds S2 q
    split at p1
    · rename_i hl
      obtain ⟨F2, r2, e2, i2⟩ := frzs_ok r1 i1 q
      refine ⟨le_line (by rw [i2.length]; exact hl), fun q hq => ?_⟩
      obtain ⟨r3, e3⟩ := r2.frozen (o := .lst vs) hq
      exact p1 _ _ _ _ (e2.trans e3) r3 (.lst upd_same (IsAll.mono e3.fr _ _ i2))
    · exact p1.elim
  · exact p1.elim
theorem fit_loc (h : FitA x W ts fs) : FitE x W (tLst ts) (fN mkLoc fs) := by
  intro α F ρ S σ H r s Q p
  refine h.bind r s p fun α1 F1 S1 H1 vs us e1 r1 s1 i1 p1 => ?_
  unfold mkLoc at p1
  split at p1
  · rename_i ds S2 q
    split at p1
    · rename_i hl
      obtain ⟨F2, r2, e2, i2⟩ := frzs_ok r1 i1 q
      refine ⟨le_line (by rw [i2.length]; exact hl), fun q hq => ?_⟩
      obtain ⟨r3, e3⟩ := r2.fresh (vs := vs) hq i2
      refine p1 _ _ _ _ (e2.trans e3) r3 ⟨?_, ?_⟩
      · show V.ref q = V.ref (if S2.length = S2.length then q else α1 S2.length)
        rw [if_pos rfl]
      · rw [List.length_append, List.length_singleton]
        exact Nat.lt_succ_self _
    · exact p1.elim
  · exact p1.elim
theorem fit_op {r : R2} {g : U → U → Store → R U} (hr : Fit2 x r g) (ha : FitE x W ta fa) (hb : FitE x W tb fb) : FitE x W (tOp r ta tb) (f2 g fa fb) := by
  intro α F ρ S σ H r0 s Q p
  refine ha.bind r0 s p fun α1 F1 S1 H1 v u e1 r1 s1 i1 p1 => ?_
  refine hb.bind r1 s1 p1 fun α2 F2 S2 H2 w u' e2 r2 s2 i2 p2 => ?_
  exact hr W α2 F2 S2 σ H2 v w u u' r2 (IsU.ext e2 i1) i2 Q p2
theorem fit_un {r : V → Hp → VK → Prop} {g : U → Store → R U} (hr : Fit1 x r g) (ha : FitE x W ta fa) : FitE x W (tUn r ta) (f1 g fa) := by
  intro α F ρ S σ H r0 s Q p
  refine ha.bind r0 s p fun α1 F1 S1 H1 v u e1 r1 s1 i1 p1 => ?_
  exact hr W α1 F1 S1 σ H1 v u r1 i1 Q p1
theorem fit_cb {r : List V → Hp → VK → Prop} {g : List U → Store → R U} (hr : FitN x r g) (ha : FitA x W ts fs) : FitE x W (tCB r ts) (fN g fs) := by
  intro α F ρ S σ H r0 s Q p
  refine ha.bind r0 s p fun α1 F1 S1 H1 v u e1 r1 s1 i1 p1 => ?_
  exact hr W α1 F1 S1 σ H1 v u r1 i1 Q p1
theorem tru_ok {α : Nat → Addr} {F : Hp} {S : Store} {σ : L2.St} {H : Hp} {v : V} {u : U} {Q : Bool → Hp → Prop} (r : Rep x α F S H) (i : IsU x α F S.length v u) (p : Post zB x W α F S σ Q (tru u S)) : ∃ b, v = .bl b ∧ Q b H := by
  unfold tru at p
  split at p
  · rename_i b
    exact ⟨b, is_bool i, p α F H b (Ext.refl _ _ _) r rfl⟩
  · exact p.elim
theorem fit_tst (h : FitE x W ta fa) : FitT x W (tTest ta) (fTst fa) := by
  intro α F ρ S σ H r0 s Q p
  exact h.bind r0 s p fun α1 F1 S1 H1 v u e1 r1 s1 i1 p1 => tru_ok r1 i1 p1
theorem fit_tB (h : FitE x W ta fa) : FitT x W (tB ta) (fTst fa) := fit_tst h
theorem fit_and (h : FitT x W t f) (h' : FitT x W t' f') : FitT x W (tAnd t t') (fAndT f f') := by
  intro α F ρ S σ H r0 s Q p
  refine h.bind r0 s p fun α1 F1 S1 H1 b a e1 r1 s1 i1 p1 => ?_
  have i1' : b = a := i1
  subst i1'
  cases b with
  | true => exact h' _ _ _ _ _ _ r1 s1 Q p1
  | false => exact p1 _ _ _ _ (Ext.refl _ _ _) r1 rfl
theorem fit_or (h : FitT x W t f) (h' : FitT x W t' f') : FitT x W (tOr t t') (fOrT f f') := by
  intro α F ρ S σ H r0 s Q p
  refine h.bind r0 s p fun α1 F1 S1 H1 b a e1 r1 s1 i1 p1 => ?_
  have i1' : b = a := i1
  subst i1'
  cases b with
  | false => exact h' _ _ _ _ _ _ r1 s1 Q p1
  | true => exact p1 _ _ _ _ (Ext.refl _ _ _) r1 rfl
theorem fit_not (h : FitT x W t f) : FitT x W (tNot t) (fNotT f) := by
  intro α F ρ S σ H r0 s Q p
  refine h.bind r0 s p fun α1 F1 S1 H1 b a e1 r1 s1 i1 p1 => ?_
  have i1' : b = a := i1
  subst i1'
  exact p1 _ _ _ _ (Ext.refl _ _ _) r1 rfl
theorem fit_andV (h : FitE x W ta fa) (h' : FitE x W tb fb) : FitE x W (tAndV ta tb) (fAndV fa fb) := by
  intro α F ρ S σ H r0 s Q p
  refine (fit_tst h).bind r0 s p fun α1 F1 S1 H1 b a e1 r1 s1 i1 p1 => ?_
  have i1' : b = a := i1
  subst i1'
  cases b with
  | true => exact h' _ _ _ _ _ _ r1 s1 Q p1
  | false => exact p1 _ _ _ _ (Ext.refl _ _ _) r1 (.bl false)
theorem fit_orV (h : FitE x W ta fa) (h' : FitE x W tb fb) : FitE x W (tOrV ta tb) (fOrV fa fb) := by
  intro α F ρ S σ H r0 s Q p
  refine (fit_tst h).bind r0 s p fun α1 F1 S1 H1 b a e1 r1 s1 i1 p1 => ?_
  have i1' : b = a := i1
  subst i1'
  cases b with
  | false => exact h' _ _ _ _ _ _ r1 s1 Q p1
  | true => exact p1 _ _ _ _ (Ext.refl _ _ _) r1 (.bl true)
theorem fit_notV (h : FitE x W ta fa) : FitE x W (tNotV ta) (fNotV fa) := by
  intro α F ρ S σ H r0 s Q p
  refine (fit_tst h).bind r0 s p fun α1 F1 S1 H1 b a e1 r1 s1 i1 p1 => ?_
  have i1' : b = a := i1
  subst i1'
  exact p1 _ _ _ _ (Ext.refl _ _ _) r1 (.bl _)
theorem fit_if (h : FitT x W t f) (ha : FitE x W ta fa) (hb : FitE x W tb fb) : FitE x W (tIf t ta tb) (fIf f fa fb) := by
  intro α F ρ S σ H r0 s Q p
  refine h.bind r0 s p fun α1 F1 S1 H1 b a e1 r1 s1 i1 p1 => ?_
  have i1' : b = a := i1
  subst i1'
  cases b with
  | true => exact ha _ _ _ _ _ _ r1 s1 Q p1
  | false => exact hb _ _ _ _ _ _ r1 s1 Q p1
theorem Post.binds {A B A' B' : Type} {rel : Rl A B} {rel' : Rl A' B'} {α : Nat → Addr} {F : Hp} {S : Store} {σ : L2.St} {r : R A} {k : A → Store → R A'} {Q : B' → Hp → Prop} {Q1 : B → Hp → Prop} (p : Post rel' x W α F S σ Q (r.bind k))
    (c : ∀ α1 F1 S1 H1 b a, Ext α α1 F F1 S S1 → Rep x α1 F1 S1 H1 → rel x α1 F1 S1.length b a → Post rel' x W α1 F1 S1 σ Q (k a S1) → Q1 b H1) : Post rel x W α F S σ Q1 r := by
  cases r with
  | ok a S' => exact fun α' F' H' b e1 r1 i1 => c _ _ _ _ _ _ e1 r1 i1 (Post.ext e1 p)
  | exc c d S' => exact p
  | bad => exact p
theorem fit_chain {r r' : R2} {g g' : U → U → Store → R U} (hr : Fit2 x r g) (hr' : Fit2 x r' g') (ha : FitE x W ta fa) (hb : FitE x W tb fb) (hc : FitE x W tc fc) : FitE x W (tChain r r' ta tb tc) (fChain g g' fa fb fc) := by
  intro α F ρ S σ H r0 s Q p
  refine ha.bind r0 s p fun α1 F1 S1 H1 v u e1 r1 s1 i1 p1 => ?_
  refine hb.bind r1 s1 p1 fun α2 F2 S2 H2 w u' e2 r2 s2 i2 p2 => ?_
  have p2' := p2
  refine hr W α2 F2 S2 σ H2 v w u u' r2 (IsU.ext e2 i1) i2 _ ?_
  have asc : ((g u u' S2).bind tru).bind (fun c S3 => if c = true then (fc ρ S3).bind fun z S4 => g' u' z S4 else .ok (.d (.bool false)) S3) = (g u u' S2).bind fun y S3 => (tru y S3).bind fun c S3 => if c = true then (fc ρ S3).bind fun z S4 => g' u' z S4 else .ok (.d (.bool false)) S3 := by
    cases g u u' S2 <;> rfl
  rw [asc] at p2'
  refine p2'.binds fun α3 F3 S3 H3 z y e3 r3 i3 p3 => ?_
  cases hy : y with
  | d q =>
    rw [hy] at p3 i3
    cases q with
    | bool c =>
      refine ⟨c, is_bool i3, ?_⟩
      cases c with
      | true =>
        refine hc.bind r3 (s2.ext e3) p3 fun α4 F4 S4 H4 z2 y2 e4 r4 s4 i4 p4 => ?_
        exact hr' W α4 F4 S4 σ H4 w z2 u' y2 r4 (IsU.ext e4 (IsU.ext e3 i2)) i4 Q p4
      | false => exact p3 _ _ _ _ (Ext.refl _ _ _) r3 (.bl false)
    | _ => exact p3.elim
  | _ => rw [hy] at p3; exact p3.elim
end
end Z

namespace Z
open PySem PySem.Spec PyProof.Rows L2
/-! ### statements -/
def PostS (x : Fx) (W : WX) (α : Nat → Addr) (F : Hp) (S : Store) (D : Ends) : O → Prop
  | .nx ρ' S' => ∀ α' F' H' σ', Ext α α' F F' S S' → Rep x α' F' S' H' → Sl x α' F' S'.length σ' ρ' → D.nx σ' H'
  | .bk ρ' S' => ∀ α' F' H' σ', Ext α α' F F' S S' → Rep x α' F' S' H' → Sl x α' F' S'.length σ' ρ' → D.bk σ' H'
  | .ct ρ' S' => ∀ α' F' H' σ', Ext α α' F F' S S' → Rep x α' F' S' H' → Sl x α' F' S'.length σ' ρ' → D.ct σ' H'
  | .rt u S' => ∀ α' F' H' v, Ext α α' F F' S S' → Rep x α' F' S' H' → IsU x α' F' S'.length v u → D.rt v H'
  | .exc c d ρ' S' => ∀ α' F' H' σ' (C p : Addr) v fs, Ext α α' F F' S S' → Rep x α' F' S' H' → Sl x α' F' S'.length σ' ρ' → x.mg c = some (.ref C) → F' p = some (.xd fs) → fs.lookup ("what" : Str) = some v → Is x.K F' v d → W (.ref C) (some p) σ' H'
  | .bad => False
def FitS (x : Fx) (W : WX) (t : TS) (g : Vr → Store → O) : Prop := ∀ α F ρ S σ H, Rep x α F S H → Sl x α F S.length σ ρ → ∀ D, PostS x W α F S D (g ρ S) → t D σ H
section
variable {A B : Type} {rel : Rl A B} {x : Fx} {W : WX} {α α1 : Nat → Addr} {F F1 : Hp} {S S1 : Store} {H H1 : Hp} {σ : L2.St} {ρ : Vr} {D : Ends}
theorem PostS.ext (e : Ext α α1 F F1 S S1) {o : O} (p : PostS x W α F S D o) : PostS x W α1 F1 S1 D o := by
  cases o with
  | nx ρ' S' => exact fun α' F' H' σ' e1 => p α' F' H' σ' (e.trans e1)
  | bk ρ' S' => exact fun α' F' H' σ' e1 => p α' F' H' σ' (e.trans e1)
  | ct ρ' S' => exact fun α' F' H' σ' e1 => p α' F' H' σ' (e.trans e1)
  | rt u S' => exact fun α' F' H' σ' e1 => p α' F' H' σ' (e.trans e1)
  | exc c d ρ' S' => exact fun α' F' H' σ' C q v fs e1 => p α' F' H' σ' C q v fs (e.trans e1)
  | bad => exact p
/-- an expression ahead -/
theorem Fit.st {t : L2.St → Hp → (B → Hp → Prop) → Prop} {f : Vr → Store → R A} {k : A → Store → O} {Q1 : B → Hp → Prop} (h : Fit rel x W t f) (r : Rep x α F S H) (s : Sl x α F S.length σ ρ) (p : PostS x W α F S D ((f ρ S).st ρ k))
    (c : ∀ α1 F1 S1 H1 b a, Ext α α1 F F1 S S1 → Rep x α1 F1 S1 H1 → Sl x α1 F1 S1.length σ ρ → rel x α1 F1 S1.length b a → PostS x W α1 F1 S1 D (k a S1) → Q1 b H1) : t σ H Q1 := by
  refine h α F ρ S σ H r s Q1 ?_
  cases e : f ρ S with
  | ok a S1 =>
    rw [e] at p
    exact fun α1 F1 H1 b e1 r1 q => c α1 F1 S1 H1 b a e1 r1 (s.ext e1) q (PostS.ext e1 p)
  | exc cc d S1 =>
    rw [e] at p
    exact fun α' F' H' C q v fs e1 r1 => p α' F' H' σ C q v fs e1 r1 (s.ext e1)
  | bad =>
    rw [e] at p
    exact p
end
@[simp] def gNx : Vr → Store → O := .nx
@[simp] def gSeq (a b : Vr → Store → O) : Vr → Store → O := fun ρ S => (a ρ S).seq b
@[simp] def gSet (i : Nat) (fe : Vr → Store → R U) : Vr → Store → O := fun ρ S => (fe ρ S).st ρ fun u S1 => .nx (ρ.set i (some u)) S1
@[simp] def gDrop (fe : Vr → Store → R U) : Vr → Store → O := fun ρ S => (fe ρ S).st ρ fun _ S1 => .nx ρ S1
@[simp] def gRet (fe : Vr → Store → R U) : Vr → Store → O := fun ρ S => (fe ρ S).st ρ fun u S1 => .rt u S1
@[simp] def gRetN : Vr → Store → O := fun _ S => .rt (.d .none) S
@[simp] def gIf (t : Vr → Store → R Bool) (a b : Vr → Store → O) : Vr → Store → O := fun ρ S => (t ρ S).st ρ fun c S1 => if c = true then a ρ S1 else b ρ S1
@[simp] def gPar (i j : Nat) (fs : Vr → Store → R (List U)) : Vr → Store → O := fun ρ S => (fs ρ S).st ρ fun us S1 => match us with
  | [u, w] => .nx ((ρ.set i (some u)).set j (some w)) S1
  | _ => .bad
@[simp] def gBrk : Vr → Store → O := .bk
@[simp] def gCnt : Vr → Store → O := .ct
def Flow' (D : Ends) (nx : L2.St → Hp → Prop) : Ends := { D with nx := nx }
section
variable {x : Fx} {W : WX} {t u : TS} {a b : Vr → Store → O} {te : TE} {fe : Vr → Store → R U} {tt : TT} {f : Vr → Store → R Bool} {ts : TA} {fs : Vr → Store → R (List U)}
theorem fits_nx : FitS x W tNext gNx := fun α F ρ S σ H r s D p => p α F H σ (Ext.refl _ _ _) r s
theorem fits_brk : FitS x W tBreak gBrk := fun α F ρ S σ H r s D p => p α F H σ (Ext.refl _ _ _) r s
theorem fits_cnt : FitS x W tCont gCnt := fun α F ρ S σ H r s D p => p α F H σ (Ext.refl _ _ _) r s
theorem fits_seq (h : FitS x W t a) (h' : FitS x W u b) : FitS x W (tSeq t u) (gSeq a b) := by
  intro α F ρ S σ H r s D p
  refine h α F ρ S σ H r s { D with nx := u D } ?_
  unfold gSeq at p
  cases e : a ρ S with
  | nx ρ' S' =>
    rw [e] at p
    exact fun α' F' H' σ' e1 r1 s1 => h' α' F' ρ' S' σ' H' r1 s1 D (PostS.ext e1 p)
  | rt u' S' => rw [e] at p; exact p
  | bk ρ' S' => rw [e] at p; exact p
  | ct ρ' S' => rw [e] at p; exact p
  | exc c d ρ' S' => rw [e] at p; exact p
  | bad => rw [e] at p; exact p
theorem fits_set (i : Nat) (h : FitE x W te fe) : FitS x W (tAsg te (gName i)) (gSet i fe) := by
  intro α F ρ S σ H r s D p
  exact h.st r s p fun α1 F1 S1 H1 v w e1 r1 s1 i1 p1 => p1 α1 F1 H1 _ (Ext.refl _ _ _) r1 (s1.set i i1)
theorem fits_drop (h : FitE x W te fe) : FitS x W (tDrop te) (gDrop fe) := by
  intro α F ρ S σ H r s D p
  exact h.st r s p fun α1 F1 S1 H1 v w e1 r1 s1 i1 p1 => p1 α1 F1 H1 _ (Ext.refl _ _ _) r1 s1
theorem fits_ret (h : FitE x W te fe) : FitS x W (tRet te) (gRet fe) := by
  intro α F ρ S σ H r s D p
  exact h.st r s p fun α1 F1 S1 H1 v w e1 r1 s1 i1 p1 => p1 α1 F1 H1 v (Ext.refl _ _ _) r1 i1
theorem fits_retN : FitS x W tRetN gRetN := fun α F ρ S σ H r s D p => p α F H .non (Ext.refl _ _ _) r .non
theorem fits_if (h : FitT x W tt f) (ha : FitS x W t a) (hb : FitS x W u b) : FitS x W (tIfS tt t u) (gIf f a b) := by
  intro α F ρ S σ H r s D p
  refine h.st r s p fun α1 F1 S1 H1 c c' e1 r1 s1 i1 p1 => ?_
  have i1' : c = c' := i1
  subst i1'
  cases c with
  | true => exact ha α1 F1 ρ S1 σ H1 r1 s1 D p1
  | false => exact hb α1 F1 ρ S1 σ H1 r1 s1 D p1
theorem fits_par (i j : Nat) (h : FitA x W ts fs) : FitS x W (tPar i j ts) (gPar i j fs) := by
  intro α F ρ S σ H r s D p
  refine h.st r s p fun α1 F1 S1 H1 vs us e1 r1 s1 i1 p1 => ?_
  split at p1
  · rename_i u' w'
    have i1' : IsUs x α1 F1 S1.length vs [u', w'] := i1
    cases i1' with
    | cons h1 h2 =>
      cases h2 with
      | cons h3 h4 =>
        cases h4
        exact ⟨_, _, rfl, p1 α1 F1 H1 _ (Ext.refl _ _ _) r1 ((s1.set i h1).set j h3)⟩
  · exact p1.elim
end
/-! ### targets -/
def FitG (x : Fx) (g : TG) (a : U → Vr → Option Vr) : Prop := ∀ α F ρ S σ H v u ρ', Rep x α F S H → Sl x α F S.length σ ρ → IsU x α F S.length v u → a u ρ = some ρ' → ∀ Q : L2.St → Hp → Prop, (∀ σ', Sl x α F S.length σ' ρ' → Q σ' H) → g v σ H Q
def FitGs (x : Fx) (g : TGs) (a : List D → Vr → Option Vr) : Prop := ∀ α F ρ S σ H vs us ρ', Rep x α F S H → Sl x α F S.length σ ρ → IsAll x.K F vs us → a us ρ = some ρ' → ∀ Q : L2.St → Hp → Prop, (∀ σ', Sl x α F S.length σ' ρ' → Q σ' H) → g vs σ H Q
@[simp] def aName (i : Nat) : U → Vr → Option Vr := fun u ρ => some (ρ.set i (some u))
@[simp] def aTup (n : Nat) (a : List D → Vr → Option Vr) : U → Vr → Option Vr := fun u ρ => match u with
  | .d (.tuple ds) => if ds.length = n then a ds ρ else none
  | _ => none
@[simp] def aNil : List D → Vr → Option Vr := fun ds ρ => match ds with
  | [] => some ρ
  | _ => none
@[simp] def aCons (a : U → Vr → Option Vr) (b : List D → Vr → Option Vr) : List D → Vr → Option Vr := fun ds ρ => match ds with
  | d :: ds => (a (.d d) ρ).bind (b ds)
  | [] => none
@[simp] def gAsg (fe : Vr → Store → R U) (a : U → Vr → Option Vr) : Vr → Store → O := fun ρ S => (fe ρ S).st ρ fun u S1 => match a u ρ with
  | some ρ' => .nx ρ' S1
  | none => .bad
section
variable {x : Fx} {W : WX} {g : TG} {gs : TGs} {a : U → Vr → Option Vr} {b : List D → Vr → Option Vr} {te : TE} {fe : Vr → Store → R U}
theorem fitg_name (i : Nat) : FitG x (gName i) (aName i) := by
  intro α F ρ S σ H v u ρ' r s i1 e Q q
  cases e
  exact q _ (s.set i i1)
theorem fitg_nil : FitGs x gNil aNil := by
  intro α F ρ S σ H vs us ρ' r s i1 e Q q
  unfold aNil at e
  split at e
  · cases e
    cases i1
    exact ⟨rfl, q _ s⟩
  · cases e
theorem fitg_cons (h : FitG x g a) (h' : FitGs x gs b) : FitGs x (gCons g gs) (aCons a b) := by
  intro α F ρ S σ H vs us ρ' r s i1 e Q q
  unfold aCons at e
  split at e
  · rename_i d ds
    cases i1 with
    | cons h1 h2 =>
      cases e1 : a (.d d) ρ with
      | none => rw [e1] at e; cases e
      | some ρ1 =>
        rw [e1] at e
        exact ⟨_, _, rfl, h α F ρ S σ H _ (.d d) ρ1 r s h1 e1 _ fun σ1 s1 => h' α F ρ1 S σ1 H _ ds ρ' r s1 h2 e Q q⟩
  · cases e
theorem fitg_tup {n : Nat} (h : FitGs x gs b) : FitG x (gTup x.K n gs) (aTup n b) := by
  intro α F ρ S σ H v u ρ' r s i1 e Q q
  unfold aTup at e
  split at e
  · rename_i ds
    have i1' : Is x.K F v (.tuple ds) := i1
    cases i1' with
    | tup h1 h2 =>
      split at e
      · rename_i hl
        exact ⟨_, _, rfl, le_t r.le h1, by rw [h2.length]; exact hl, h α F ρ S σ H _ ds ρ' r s h2 e Q q⟩
      · cases e
  · cases e
theorem fits_asg (h : FitE x W te fe) (hg : FitG x g a) : FitS x W (tAsg te g) (gAsg fe a) := by
  intro α F ρ S σ H r s D p
  refine h.st r s p fun α1 F1 S1 H1 v w e1 r1 s1 i1 p1 => ?_
  split at p1
  · rename_i ρ' e
    exact hg α1 F1 ρ S1 σ H1 v w ρ' r1 s1 i1 e D.nx fun σ' s' => p1 α1 F1 H1 σ' (Ext.refl _ _ _) r1 s'
  · exact p1.elim
end
/-! ### what is walked -/
def Wk (x : Fx) (F : Hp) (J : It) (ds : List D) : Prop := ∀ α F' S H, Le F F' → Rep x α F' S H → ∀ i : Nat,
  (∀ d, ds[i]? = some d → J.go i H ∧ ∀ v H', J.yld i H v H' → ∃ F'', Rep x α F'' S H' ∧ Ext α α F' F'' S S ∧ Is x.K F'' v d) ∧ (ds.length ≤ i → J.stop i H)
def zI : Rl (List D) It := fun x _ F _ J ds => Wk x F J ds
abbrev FitI := Fit zI
def forO (tg : U → Vr → Option Vr) (body : Vr → Store → O) : List D → Vr → Store → O
  | [], ρ, S => .nx ρ S
  | d :: ds, ρ, S => match tg (.d d) ρ with
    | none => .bad
    | some ρ1 => match body ρ1 S with
      | .nx ρ2 S2 => forO tg body ds ρ2 S2
      | .ct ρ2 S2 => forO tg body ds ρ2 S2
      | .bk ρ2 S2 => .nx ρ2 S2
      | o => o
def gFor (src : Vr → Store → R (List D)) (tg : U → Vr → Option Vr) (body : Vr → Store → O) : Vr → Store → O := fun ρ S => (src ρ S).st ρ fun ds S1 => forO tg body ds ρ S1
theorem drop_cons {ds : List D} {i : Nat} {d : D} (h : ds[i]? = some d) : ds.drop i = d :: ds.drop (i + 1) := by
  obtain ⟨hi, e⟩ := List.getElem?_eq_some_iff.mp h
  rw [← e]
  exact List.drop_eq_getElem_cons hi
section
variable {x : Fx} {W : WX} {wi : TI} {src : Vr → Store → R (List D)} {g : TG} {tg : U → Vr → Option Vr} {tb : TS} {body : Vr → Store → O}
theorem fits_for (h : FitI x W wi src) (hg : FitG x g tg) (hb : FitS x W tb body) : FitS x W (tFor wi g tb) (gFor src tg body) := by
  intro α F ρ S σ H r s D p
  refine h.st r s p fun α1 F1 S1 H1 J ds e1 r1 s1 wk p1 => ?_
  refine ⟨fun i m σ' H' => m = ds.length - i ∧ i ≤ ds.length ∧ ∃ α' F' ρ' S', Ext α1 α' F1 F' S1 S' ∧ Rep x α' F' S' H' ∧ Sl x α' F' S'.length σ' ρ' ∧ PostS x W α' F' S' D (forO tg body (ds.drop i) ρ' S'),
    ⟨ds.length, rfl, Nat.zero_le _, α1, F1, ρ, S1, Ext.refl _ _ _, r1, s1, p1⟩, ?_⟩
  rintro i m σ' H' ⟨hm, hi, α', F', ρ', S', e2, r2, s2, p2⟩
  obtain ⟨w1, w2⟩ := wk α' F' S' H' e2.fr r2 i
  by_cases hlt : i < ds.length
  · have hd : ds[i]? = some ds[i] := List.getElem?_eq_getElem hlt
    obtain ⟨go, yl⟩ := w1 _ hd
    refine .inr ⟨go, fun σ3 H3 => i + 1 ≤ ds.length ∧ ∃ α' F' ρ' S', Ext α1 α' F1 F' S1 S' ∧ Rep x α' F' S' H3 ∧ Sl x α' F' S'.length σ3 ρ' ∧ PostS x W α' F' S' D (forO tg body (ds.drop (i + 1)) ρ' S'),
      fun σ3 H3 n => ⟨ds.length - (i + 1), by omega, rfl, n⟩, fun v H3 y => ?_⟩
    obtain ⟨F3, r3, e3, i3⟩ := yl v H3 y
    rw [drop_cons hd] at p2
    unfold forO at p2
    split at p2
    · exact p2.elim
    · rename_i ρ1 et
      refine hg α' F3 ρ' S' σ' H3 v (.d ds[i]) ρ1 r3 (s2.ext e3) i3 et _ fun σ4 s4 => ?_
      refine hb α' F3 ρ1 S' σ4 H3 r3 s4 _ ?_
      have p3 := PostS.ext e3 p2
      cases eb : body ρ1 S' with
      | nx ρ2 S2 =>
        rw [eb] at p3
        exact fun α5 F5 H5 σ5 e5 r5 s5 => ⟨hlt, α5, F5, ρ2, S2, (e2.trans e3).trans e5, r5, s5, PostS.ext e5 p3⟩
      | ct ρ2 S2 =>
        rw [eb] at p3
        exact fun α5 F5 H5 σ5 e5 r5 s5 => ⟨hlt, α5, F5, ρ2, S2, (e2.trans e3).trans e5, r5, s5, PostS.ext e5 p3⟩
      | bk ρ2 S2 => rw [eb] at p3; exact p3
      | rt u S2 => rw [eb] at p3; exact p3
      | exc c d ρ2 S2 => rw [eb] at p3; exact p3
      | bad => rw [eb] at p3; exact p3
  · have e : i = ds.length := by omega
    subst e
    rw [List.drop_length] at p2
    exact .inl ⟨w2 (Nat.le_refl _), p2 α' F' H' σ' (Ext.refl _ _ _) r2 s2⟩
end
/-! ### while -/
def whN (t : Vr → Store → R Bool) (body : Vr → Store → O) : Nat → Vr → Store → O
  | 0, _, _ => .bad
  | n + 1, ρ, S => (t ρ S).st ρ fun b S1 => if b = true then (match body ρ S1 with
      | .nx ρ2 S2 => whN t body n ρ2 S2
      | .ct ρ2 S2 => whN t body n ρ2 S2
      | .bk ρ2 S2 => .nx ρ2 S2
      | o => o) else .nx ρ S1
theorem whN_mono (t : Vr → Store → R Bool) (body : Vr → Store → O) : ∀ (n : Nat) (ρ : Vr) (S : Store), whN t body n ρ S ≠ .bad → whN t body (n + 1) ρ S = whN t body n ρ S
  | 0, _, _, h => absurd rfl h
  | n + 1, ρ, S, h => by
    rw [whN] at h ⊢
    rw [whN]
    cases e : t ρ S with
    | exc c d S1 => rfl
    | bad => rfl
    | ok b S1 =>
      rw [e] at h
      cases b with
      | false => rfl
      | true =>
        simp only [R.st, if_true] at h ⊢
        cases eb : body ρ S1 with
        | nx ρ2 S2 => rw [eb] at h; exact whN_mono t body n ρ2 S2 h
        | ct ρ2 S2 => rw [eb] at h; exact whN_mono t body n ρ2 S2 h
        | _ => rfl
theorem whN_le {t : Vr → Store → R Bool} {body : Vr → Store → O} {ρ : Vr} {S : Store} {n : Nat} (h : whN t body n ρ S ≠ .bad) : ∀ m, whN t body (n + m) ρ S = whN t body n ρ S
  | 0 => rfl
  | m + 1 => by
    have ih := whN_le h m
    rw [← Nat.add_assoc, whN_mono t body (n + m) ρ S (by rw [ih]; exact h), ih]
theorem whN_det {t : Vr → Store → R Bool} {body : Vr → Store → O} {ρ : Vr} {S : Store} {n m : Nat} (h : whN t body n ρ S ≠ .bad) (h' : whN t body m ρ S ≠ .bad) : whN t body n ρ S = whN t body m ρ S := by
  rcases Nat.le_total n m with l | l
  · obtain ⟨k, rfl⟩ := Nat.exists_eq_add_of_le l
    exact (whN_le h k).symm
  · obtain ⟨k, rfl⟩ := Nat.exists_eq_add_of_le l
    exact whN_le h' k
open Classical in
noncomputable def gWh (t : Vr → Store → R Bool) (body : Vr → Store → O) : Vr → Store → O := fun ρ S => if h : ∃ n, whN t body n ρ S ≠ .bad then whN t body (Classical.choose h) ρ S else .bad
theorem gWh_of {t : Vr → Store → R Bool} {body : Vr → Store → O} {ρ : Vr} {S : Store} {n : Nat} (h : whN t body n ρ S ≠ .bad) : gWh t body ρ S = whN t body n ρ S := by
  have hx : ∃ n, whN t body n ρ S ≠ .bad := ⟨n, h⟩
  unfold gWh
  rw [dif_pos hx]
  exact whN_det (Classical.choose_spec hx) h
theorem gWh_ex {t : Vr → Store → R Bool} {body : Vr → Store → O} {ρ : Vr} {S : Store} (h : gWh t body ρ S ≠ .bad) : ∃ n, gWh t body ρ S = whN t body n ρ S := by
  unfold gWh at h ⊢
  split at h
  · rename_i hx
    rw [dif_pos hx]
    exact ⟨_, rfl⟩
  · exact absurd rfl h
/-- the one-turn equation, where a turn goes on -/
theorem gWh_go {t : Vr → Store → R Bool} {body : Vr → Store → O} {ρ : Vr} {S S1 : Store} {ρ2 : Vr} {S2 : Store} (h1 : t ρ S = .ok true S1) (h2 : body ρ S1 = .nx ρ2 S2) (h3 : gWh t body ρ2 S2 ≠ .bad) : gWh t body ρ S = gWh t body ρ2 S2 := by
  obtain ⟨n, hn⟩ := gWh_ex h3
  have e : whN t body (n + 1) ρ S = whN t body n ρ2 S2 := by
    rw [whN, h1]
    simp only [R.st, if_true]
    rw [h2]
  rw [hn, ← e]
  exact gWh_of (by rw [e, ← hn]; exact h3)
theorem gWh_end {t : Vr → Store → R Bool} {body : Vr → Store → O} {ρ : Vr} {S S1 : Store} (h1 : t ρ S = .ok false S1) : gWh t body ρ S = .nx ρ S1 := by
  have e : whN t body 1 ρ S = .nx ρ S1 := by
    rw [whN, h1]
    rfl
  rw [← e]
  exact gWh_of (by rw [e]; exact fun z => nomatch z)
theorem gWh_rt {t : Vr → Store → R Bool} {body : Vr → Store → O} {ρ : Vr} {S S1 S2 : Store} {u : U} (h1 : t ρ S = .ok true S1) (h2 : body ρ S1 = .rt u S2) : gWh t body ρ S = .rt u S2 := by
  have e : whN t body 1 ρ S = .rt u S2 := by
    rw [whN, h1]
    simp only [R.st, if_true]
    rw [h2]
  rw [← e]
  exact gWh_of (by rw [e]; exact fun z => nomatch z)
section
variable {x : Fx} {W : WX} {tt : TT} {f : Vr → Store → R Bool} {tb : TS} {body : Vr → Store → O}
theorem fits_wh (h : FitT x W tt f) (hb : FitS x W tb body) : FitS x W (tWhile tt tb) (gWh f body) := by
  intro α F ρ S σ H r s D p
  have nb : gWh f body ρ S ≠ .bad := fun z => by rw [z] at p; exact p
  obtain ⟨n, hn⟩ := gWh_ex nb
  rw [hn] at p
  refine ⟨fun m σ' H' => ∃ α' F' ρ' S', Ext α α' F F' S S' ∧ Rep x α' F' S' H' ∧ Sl x α' F' S'.length σ' ρ' ∧ PostS x W α' F' S' D (whN f body m ρ' S'), ⟨n, α, F, ρ, S, Ext.refl _ _ _, r, s, p⟩, ?_⟩
  rintro m σ' H' ⟨α', F', ρ', S', e2, r2, s2, p2⟩
  cases m with
  | zero => exact p2.elim
  | succ m =>
    rw [whN] at p2
    refine h.st r2 s2 p2 fun α3 F3 S3 H3 b b' e3 r3 s3 i3 p3 => ?_
    have i3' : b = b' := i3
    subst i3'
    cases b with
    | false => exact p3 α3 F3 H3 σ' (Ext.refl _ _ _) r3 s3
    | true =>
      refine ⟨fun σ4 H4 => ∃ α' F' ρ' S', Ext α α' F F' S S' ∧ Rep x α' F' S' H4 ∧ Sl x α' F' S'.length σ4 ρ' ∧ PostS x W α' F' S' D (whN f body m ρ' S'), fun σ4 H4 w => ⟨m, Nat.lt_succ_self m, w⟩, ?_⟩
      refine hb α3 F3 ρ' S3 σ' H3 r3 s3 _ ?_
      simp only [if_true] at p3
      cases eb : body ρ' S3 with
      | nx ρ2 S2 =>
        rw [eb] at p3
        exact fun α5 F5 H5 σ5 e5 r5 s5 => ⟨α5, F5, ρ2, S2, (e2.trans e3).trans e5, r5, s5, PostS.ext e5 p3⟩
      | ct ρ2 S2 =>
        rw [eb] at p3
        exact fun α5 F5 H5 σ5 e5 r5 s5 => ⟨α5, F5, ρ2, S2, (e2.trans e3).trans e5, r5, s5, PostS.ext e5 p3⟩
      | bk ρ2 S2 => rw [eb] at p3; exact p3
      | rt u S2 => rw [eb] at p3; exact p3
      | exc c d ρ2 S2 => rw [eb] at p3; exact p3
      | bad => rw [eb] at p3; exact p3
end
/-! ### defs -/
def retn (n : Nat) (u : U) (S : Store) : R U := match u with
  | .d y => .ok (.d y) (S.take n)
  | .loc l => if l < n then .ok (.loc l) (S.take n) else (match S[l]? with
    | some (some ds) => .ok (.loc n) (S.take n ++ [some ds])
    | _ => .bad)
  | _ => .bad
def fin (n : Nat) : O → R U
  | .nx _ S => .ok (.d .none) (S.take n)
  | .rt u S => retn n u S
  | .exc c d _ S => .exc c d (S.take n)
  | _ => .bad
/-- a def's own slots at its entry -/
@[simp] def slots (k : Nat) (us : List U) : Vr := us.map some ++ List.replicate (k - us.length) none
@[simp] def runD (k : Nat) (g : Vr → Store → O) : List U → Store → R U := fun us S => fin S.length (g (slots k us) S)
def spOf (x : Fx) (np : Nat) (m : List U → Store → R U) : Sp := fun vs H Q E => ∃ α F S us, vs.length = np ∧ Rep x α F S H ∧ IsUs x α F S.length vs us ∧ Post zU x (fun c d _ H => E c d H) α F S [] Q (m us S)
section
variable {x : Fx}
theorem sl_start {α : Nat → Addr} {F : Hp} {n : Nat} {N : List Str} : ∀ {vs : List V} {us : List U}, IsUs x α F n vs us → Sl x α F n (L2.start N vs) (slots N.length us) := by
  intro vs us h
  have hl := h.length
  have key : ∀ {vs : List V} {us : List U}, IsUs x α F n vs us → ∀ (m : Nat) (i : Nat) (u : U), (us.map some ++ List.replicate m none)[i]? = some (some u) → ∃ v, (vs.map some ++ List.replicate m none)[i]? = some (some v) ∧ IsU x α F n v u := by
    intro vs us h
    induction h with
    | nil =>
      intro m i u e
      simp only [List.map_nil, List.nil_append, List.getElem?_replicate] at e
      split at e <;> cases e
    | cons h1 h2 ih =>
      intro m i u e
      cases i with
      | zero =>
        simp at e
        subst e
        exact ⟨_, rfl, h1⟩
      | succ i =>
        obtain ⟨v, q1, q2⟩ := ih m i u (by simpa using e)
        exact ⟨v, by simpa using q1, q2⟩
  refine ⟨?_, fun i u e => ?_⟩
  · unfold L2.start slots
    simp only [List.length_append, List.length_map, List.length_replicate, hl]
  · unfold slots at e
    unfold L2.start
    rw [hl]
    exact key h _ i u e
theorem Ext.cut {α α' : Nat → Addr} {F F' : Hp} {S S' : Store} (e : Ext α α' F F' S S') : Ext α α' F F' S (S'.take S.length) ∧ (S'.take S.length).length = S.length := by
  have h : (S'.take S.length).length = S.length := by
    rw [List.length_take]
    have := e.len
    omega
  exact ⟨⟨by rw [h]; exact Nat.le_refl _, e.al, e.fr⟩, h⟩
theorem retn_ok {W : WX} {α α1 : Nat → Addr} {F F1 : Hp} {S S1 : Store} {H1 : Hp} {v : V} {u : U} {Q : VK} {σ : L2.St} (e1 : Ext α α1 F F1 S S1) (r1 : Rep x α1 F1 S1 H1) (i1 : IsU x α1 F1 S1.length v u) (p : Post zU x W α F S σ Q (retn S.length u S1)) : Q v H1 := by
  obtain ⟨ec, lc⟩ := e1.cut
  have rc := r1.cut S.length
  unfold retn at p
  cases u with
  | d y => exact p α1 F1 H1 v ec rc i1
  | rd _ => exact p.elim
  | adr _ => exact p.elim
  | ty _ => exact p.elim
  | cls _ => exact p.elim
  | ex _ _ => exact p.elim
  | thk => exact p.elim
  | loc l =>
    obtain ⟨hv, hl⟩ := i1
    dsimp only at p
    split at p
    · rename_i hlt
      exact p α1 F1 H1 v ec rc ⟨hv, by rw [lc]; exact hlt⟩
    · rename_i hge
      split at p
      · rename_i ds q
        obtain ⟨c1, ws, c2, c3⟩ := r1.cell l ds q
        have al : ∀ i, i < S.length → (if i = S.length then α1 l else α1 i) = α1 i := fun i h => if_neg (Nat.ne_of_lt h)
        have ll : (S1.take S.length ++ [some ds]).length = S.length + 1 := by rw [List.length_append, lc, List.length_singleton]
        have up : ∀ i, i < S.length → i < S1.length := fun i h => Nat.lt_of_lt_of_le h e1.len
        refine p (fun i => if i = S.length then α1 l else α1 i) F1 H1 v ⟨by rw [ll]; omega, fun i h => (al i h).trans (e1.al i h), e1.fr⟩ ⟨r1.le, fun i j hi hj z => ?_, fun i es ei => ?_, fun i hi => ?_, r1.tabs, r1.tabF⟩ ⟨?_, by rw [ll]; omega⟩
        · rw [ll] at hi hj
          have z' : (if i = S.length then α1 l else α1 i) = (if j = S.length then α1 l else α1 j) := z
          by_cases hi2 : i < S.length <;> by_cases hj2 : j < S.length
          · rw [al i hi2, al j hj2] at z'
            exact r1.inj i j (up i hi2) (up j hj2) z'
          · rw [al i hi2, if_pos (by omega)] at z'
            have := r1.inj i l (up i hi2) hl z'
            omega
          · rw [al j hj2, if_pos (by omega)] at z'
            have := r1.inj l j hl (up j hj2) z'
            omega
          · omega
        · show F1 (if i = S.length then α1 l else α1 i) = none ∧ ∃ vs, H1 (if i = S.length then α1 l else α1 i) = some (.lst vs) ∧ _
          by_cases hi2 : i < S.length
          · rw [al i hi2]
            rw [List.getElem?_append_left (by rw [lc]; exact hi2), List.getElem?_take_of_lt hi2] at ei
            exact r1.cell i es ei
          · have hi3 := (List.getElem?_eq_some_iff.mp ei).1
            rw [ll] at hi3
            have hi4 : i = S.length := by omega
            subst hi4
            rw [List.getElem?_append_right (by rw [lc]; exact Nat.le_refl _), lc, Nat.sub_self] at ei
            simp at ei
            subst ei
            rw [if_pos rfl]
            exact ⟨c1, ws, c2, c3⟩
        · show ∃ vs, H1 (if i = S.length then α1 l else α1 i) = some (.lst vs)
          rw [ll] at hi
          by_cases hi2 : i < S.length
          · rw [al i hi2]
            exact r1.old i (up i hi2)
          · rw [if_pos (by omega)]
            exact r1.old l hl
        · show v = V.ref (if S.length = S.length then α1 l else α1 S.length)
          rw [if_pos rfl]
          exact hv
      · exact p.elim
theorem Post.sig {A B : Type} {rel : Rl A B} {E : XK} {α : Nat → Addr} {F : Hp} {S : Store} {σ σ' : L2.St} {Q : B → Hp → Prop} {r : R A} (p : Post rel x (fun c d _ H => E c d H) α F S σ Q r) : Post rel x (fun c d _ H => E c d H) α F S σ' Q r := by
  cases r <;> exact p
/-- a def's body -/
theorem body_ok {E : XK} {N : List Str} {np : Nat} {t : TS} {g : Vr → Store → O} (h : FitS x (fun c d _ H => E c d H) t g) {vs : List V} {H : Hp} {Q : VK} (hs : spOf x np (runD N.length g) vs H Q E) : t { nx := fun _ H' => Q .non H', rt := Q } (L2.start N vs) H := by
  obtain ⟨α, F, S, us, _, r, iu, p⟩ := hs
  refine h α F _ S _ H r (sl_start iu) _ ?_
  unfold runD at p
  cases e : g (slots N.length us) S with
  | nx ρ' S' =>
    rw [e] at p
    exact fun α' F' H' σ' e1 r1 s1 => p α' F' H' .non e1.cut.1 (r1.cut _) .non
  | rt u S' =>
    rw [e] at p
    exact fun α' F' H' v e1 r1 i1 => retn_ok e1 r1 i1 p
  | exc c d ρ' S' =>
    rw [e] at p
    exact fun α' F' H' σ' C q v fs e1 r1 s1 m1 => p α' F' H' C q v fs e1.cut.1 (r1.cut _) m1
  | bk ρ' S' => rw [e] at p; exact p.elim
  | ct ρ' S' => rw [e] at p; exact p.elim
  | bad => rw [e] at p; exact p.elim
/-- a call -/
@[simp] def fCall (m : List U → Store → R U) (fs : Vr → Store → R (List U)) : Vr → Store → R U := fN m fs
theorem fit_call {W : WX} {ts : TA} {fs : Vr → Store → R (List U)} {np : Nat} {m : List U → Store → R U} (h : FitA x W ts fs) (hl : ∀ ρ S us S', fs ρ S = .ok us S' → us.length = np) : FitE x W (tCallSD (spOf x np m) [] (WE W) ts) (fCall m fs) := by
  intro α F ρ S σ H r s Q p
  have h' := h α F ρ S σ H r s
  refine h' _ ?_
  unfold fCall fN at p
  cases e : fs ρ S with
  | exc c d S1 => rw [e] at p; exact p
  | bad => rw [e] at p; exact p
  | ok us S1 =>
    rw [e] at p
    intro α1 F1 H1 vs e1 r1 i1
    have i1' : IsUs x α1 F1 S1.length vs us := i1
    refine ⟨α1, F1, S1, us, ?_, r1, by rw [List.append_nil]; exact i1', ?_⟩
    · rw [List.append_nil, i1'.length]
      exact hl ρ S us S1 e
    · have p1 := Post.ext e1 p
      cases em : m us S1 with
      | ok u S2 => rw [show (R.ok us S1).bind m = R.ok u S2 from em] at p1; exact p1
      | exc c d S2 => rw [show (R.ok us S1).bind m = R.exc c d S2 from em] at p1; exact p1
      | bad => rw [show (R.ok us S1).bind m = R.bad from em] at p1; exact p1
theorem fl_nil : ∀ ρ S us S', fNil ρ S = .ok us S' → us.length = 0 := fun ρ S us S' e => by cases e; rfl
theorem fl_cons {f : Vr → Store → R U} {fs : Vr → Store → R (List U)} {n : Nat} (h : ∀ ρ S us S', fs ρ S = .ok us S' → us.length = n) : ∀ ρ S us S', fCons f fs ρ S = .ok us S' → us.length = n + 1 := fun ρ S us S' e => by
  unfold fCons at e
  cases e1 : f ρ S with
  | ok u S1 =>
    rw [e1] at e
    simp only [R.bind] at e
    cases e2 : fs ρ S1 with
    | ok ws S2 =>
      rw [e2] at e
      cases e
      rw [List.length_cons, h _ _ _ _ e2]
    | exc _ _ _ => rw [e2] at e; cases e
    | bad => rw [e2] at e; cases e
  | exc _ _ _ => rw [e1] at e; cases e
  | bad => rw [e1] at e; cases e
end
end Z

namespace Z
open PySem PySem.Spec PyProof.Rows L2
/-! ### views -/
/-- the items of a list that may be read | of one that is tracked -/
def viewL (u : U) (S : Store) : Option (List D) := match u with
  | .d (.list xs) => some xs
  | .loc l => (match S[l]? with
    | some (some xs) => some xs
    | _ => none)
  | .rd xs => some xs
  | _ => none
def viewM (u : U) (S : Store) : Option (List D) := match u with
  | .d (.list xs) => some xs
  | .loc l => (match S[l]? with
    | some (some xs) => some xs
    | _ => none)
  | _ => none
def viewD (u : U) (S : Store) : Option D := match u with
  | .d x => some x
  | .loc l => (match S[l]? with
    | some (some xs) => some (.list xs)
    | _ => none)
  | _ => none
section
variable {x : Fx} {α : Nat → Addr} {F : Hp} {S : Store} {H : Hp} {v : V} {u : U} {xs : List D}
theorem viewM_ok (r : Rep x α F S H) (i : IsU x α F S.length v u) (e : viewM u S = some xs) : ∃ a vs, v = .ref a ∧ H a = some (.lst vs) ∧ IsAll x.K F vs xs := by
  unfold viewM at e
  cases u with
  | d y =>
    cases y with
    | list ys =>
      cases e
      have i' : Is x.K F v (.list xs) := i
      cases i' with
      | lst h1 h2 => exact ⟨_, _, rfl, r.le _ _ h1, h2⟩
    | _ => cases e
  | loc l =>
    dsimp only at e
    split at e
    · rename_i ds q
      have e' := Option.some.inj e
      subst e'
      obtain ⟨_, vs, h2, h3⟩ := r.cell l _ q
      obtain ⟨h1, _⟩ := i
      exact ⟨_, vs, h1, h2, h3⟩
    · cases e
  | _ => cases e
theorem viewL_ok (r : Rep x α F S H) (i : IsU x α F S.length v u) (e : viewL u S = some xs) : ∃ a vs, v = .ref a ∧ SqL x.K H a vs ∧ IsAll x.K F vs xs := by
  cases u with
  | rd ys =>
    cases e
    obtain ⟨a, vs, h1, h2, h3⟩ := i
    exact ⟨a, vs, h1, le_l r.le h2, h3⟩
  | d y =>
    obtain ⟨a, vs, h1, h2, h3⟩ := viewM_ok (xs := xs) r i (by cases y <;> exact e)
    exact ⟨a, vs, h1, SqL.of h2, h3⟩
  | loc l =>
    obtain ⟨a, vs, h1, h2, h3⟩ := viewM_ok (xs := xs) r i e
    exact ⟨a, vs, h1, SqL.of h2, h3⟩
  | _ => cases e
theorem viewD_ok {y : D} (r : Rep x α F S H) (i : IsU x α F S.length v u) (e : viewD u S = some y) : Dp x.K H v y := by
  cases u with
  | d z =>
    cases e
    exact Is.dp r.le _ _ i
  | loc l =>
    unfold viewD at e
    dsimp only at e
    split at e
    · rename_i ds q
      have e' := Option.some.inj e
      subst e'
      obtain ⟨_, vs, h2, h3⟩ := r.cell l _ q
      obtain ⟨h1, _⟩ := i
      subst h1
      exact .lst (SqL.of h2) (IsAll.dp r.le _ _ h3)
    · cases e
  | _ => cases e
end
/-! ### operations -/
def uAdd (u w : U) (S : Store) : R U := match u, w with
  | .d (.int i), .d (.int j) => .ok (.d (.int (i + j))) S
  | .d (.str a), .d (.str b) => if a.length + b.length ≤ 1000000 then .ok (.d (.str (a ++ b))) S else .bad
  | .d (.tuple xs), .d (.tuple ys) => if xs.length + ys.length ≤ 1000000 then .ok (.d (.tuple (xs ++ ys))) S else .bad
  | u, w => match viewM u S, viewM w S with
    | some xs, some ys => if xs.length + ys.length ≤ 1000000 then .ok (.d (.list (xs ++ ys))) S else .bad
    | _, _ => .bad
def uSub (u w : U) (S : Store) : R U := match u, w with
  | .d (.int i), .d (.int j) => .ok (.d (.int (i - j))) S
  | _, _ => .bad
def uMul (u w : U) (S : Store) : R U := match u, w with
  | .d (.int i), .d (.int j) => if i.natAbs.log2 + j.natAbs.log2 < 1000000 then .ok (.d (.int (i * j))) S else .bad
  | u, .d (.int k) => match viewM u S with
    | some xs => if 0 ≤ k ∧ k ≤ 1000 ∧ xs.length ≤ 1000 then .ok (.d (.list (List.replicate k.toNat xs).flatten)) S else .bad
    | none => .bad
  | _, _ => .bad
def uDiv (u w : U) (S : Store) : R U := match u, w with
  | .d (.int i), .d (.int j) => if j ≠ 0 ∧ j.natAbs.log2 < 9000 then .ok (.d (.int (i.fdiv j))) S else .bad
  | _, _ => .bad
def uMod (u w : U) (S : Store) : R U := match u, w with
  | .d (.int i), .d (.int j) => if j ≠ 0 then .ok (.d (.int (i.fmod j))) S else .bad
  | _, _ => .bad
def uPow (u w : U) (S : Store) : R U := match u, w with
  | .d (.int i), .d (.int j) => if 0 ≤ j ∧ j ≤ 1000000 ∧ i.natAbs < 2 ^ 64 then .ok (.d (.int (i ^ j.toNat))) S else .bad
  | _, _ => .bad
def uNeg (u : U) (S : Store) : R U := match u with
  | .d (.int i) => .ok (.d (.int (-i))) S
  | _ => .bad
def uEq (u w : U) (S : Store) : R U := match viewD u S, viewD w S with
  | some a, some b => if (SeqAt.shaped a && SeqAt.shaped b) = true then .ok (.d (.bool (PyData.eqv a b))) S else .bad
  | _, _ => .bad
def uNe (u w : U) (S : Store) : R U := match viewD u S, viewD w S with
  | some a, some b => if (SeqAt.shaped a && SeqAt.shaped b) = true then .ok (.d (.bool (!PyData.eqv a b))) S else .bad
  | _, _ => .bad
def uLt (u w : U) (S : Store) : R U := match u, w with
  | .d (.int i), .d (.int j) => .ok (.d (.bool (decide (i < j)))) S
  | _, _ => .bad
def uLe (u w : U) (S : Store) : R U := match u, w with
  | .d (.int i), .d (.int j) => .ok (.d (.bool (decide (i ≤ j)))) S
  | _, _ => .bad
def uGt (u w : U) (S : Store) : R U := match u, w with
  | .d (.int i), .d (.int j) => .ok (.d (.bool (decide (j < i)))) S
  | _, _ => .bad
def uGe (u w : U) (S : Store) : R U := match u, w with
  | .d (.int i), .d (.int j) => .ok (.d (.bool (decide (j ≤ i)))) S
  | _, _ => .bad
@[simp] def isNone : U → Bool
  | .d .none => true
  | _ => false
def uIsN (u w : U) (S : Store) : R U := .ok (.d (.bool (isNone u))) S
def uNotN (u w : U) (S : Store) : R U := .ok (.d (.bool (!isNone u))) S
def uIx (u w : U) (S : Store) : R U := match w with
  | .d (.int i) => (match u with
    | .d (.tuple xs) => (match atI xs i with
      | some y => .ok (.d y) S
      | none => .bad)
    | .d (.str z) => if z.length ≤ 1000000 then (match atI z.cps.toList i with
      | some c => .ok (.d (.str ⟨#[c]⟩)) S
      | none => .bad) else .bad
    | u => (match viewL u S with
      | some xs => (match atI xs i with
        | some y => .ok (.d y) S
        | none => .bad)
      | none => .bad))
  | _ => .bad
section
variable {x : Fx} {α : Nat → Addr} {F : Hp} {S : Store} {H : Hp} {v : V}
theorem shp_int (i : Int) : SeqAt.shaped (.int i) = true := rfl
theorem fit_ii {g : U → U → Store → R U} {r : R2} (h : ∀ W α F S σ H i j Q, Rep x α F S H → Post zU x W α F S σ Q (g (.d (.int i)) (.d (.int j)) S) → r (.int i) (.int j) H Q)
    (hn : ∀ u w S, (∀ i j, ¬ (u = .d (.int i) ∧ w = .d (.int j))) → g u w S = .bad) : Fit2 x r g := by
  intro W α F S σ H v w u u' r0 i1 i2 Q p
  by_cases e : ∃ i j, u = .d (.int i) ∧ u' = .d (.int j)
  · obtain ⟨i, j, rfl, rfl⟩ := e
    rw [is_int i1, is_int i2]
    exact h W α F S σ H i j Q r0 p
  · rw [hn u u' S fun i j z => e ⟨i, j, z⟩] at p
    exact p.elim
theorem ok_here {W : WX} {σ : L2.St} {Q : VK} {y : D} {v : V} (r : Rep x α F S H) (p : Post zU x W α F S σ Q (.ok (.d y) S)) (i : Is x.K F v y) : Q v H := p α F H v (Ext.refl _ _ _) r i
theorem atI_ok {K : PySem.W.Frag} {vs : List V} {xs : List D} {i : Int} {y : D} (h : IsAll K F vs xs) (e : atI xs i = some y) : ∃ v, atI vs i = some v ∧ Is K F v y := by
  unfold atI at e ⊢
  rw [h.length]
  cases q : ixN xs.length i with
  | none => rw [q] at e; cases e
  | some j =>
    rw [q] at e
    exact h.get (i := j) e
end
/-- the readings -/
def rAddU : R2 := fun x y H Q => (∃ i j, x = .int i ∧ y = .int j ∧ Q (.int (i + j)) H) ∨ (∃ i j, x = .str i ∧ y = .str j ∧ i.length + j.length ≤ sizeLine ∧ Q (.str (i ++ j)) H) ∨ rCat x y H Q
def rAddA (K : PySem.W.Frag) : R2 := fun x y H Q => rAddU x y H Q ∨ rCatA K x y H Q
def rMulU : R2 := fun x y H Q => rI CMulW (fun i j => .int (i * j)) x y H Q ∨ rRep x y H Q
def CDivA (_ j : Int) : Prop := j ≠ 0 ∧ j.natAbs.log2 < 9000
def rDivU : R2 := rI CDivA fun i j => .int (i.fdiv j)
def rModU : R2 := rI (fun _ j => j ≠ 0) fun i j => .int (i.fmod j)
section
variable {X : Cx}
theorem op_addA : OpR X (binaryOp .Add) (rAddA X.K) := (op_add.or (op_add_str.or op_cat)).or op_catA
theorem op_mulU : OpR X (binaryOp .Mult) rMulU := op_mulW.or op_rep
theorem op_divU : OpR X (binaryOp .FloorDiv) rDivU := opI fun _ _ _ _ _ _ _ hc q => floordiv_int hc.1 q (.inl (PyProof.noPylong_of_log2 hc.2))
theorem op_modU : OpR X (binaryOp .Mod) rModU := op_modN
end
section
variable {x : Fx}
theorem fit_addA : Fit2 x (rAddA x.K) uAdd := by
  intro W α F S σ H v w u u' r i1 i2 Q p
  have lists : (∀ xs ys, viewM u S = some xs → viewM u' S = some ys → Post zU x W α F S σ Q (if xs.length + ys.length ≤ 1000000 then .ok (.d (.list (xs ++ ys))) S else .bad) → rAddA x.K v w H Q) := by
    intro xs ys h1 h2 p
    obtain ⟨a, vs, rfl, ha, ia⟩ := viewM_ok r i1 h1
    obtain ⟨b, ws, rfl, hb, ib⟩ := viewM_ok r i2 h2
    split at p
    · rename_i hl
      refine .inl (.inr (.inr ⟨a, b, vs, ws, rfl, rfl, ha, hb, le_line (by rw [ia.length, ib.length]; exact hl), fun q hq => ?_⟩))
      obtain ⟨r3, e3⟩ := r.frozen (o := .lst (vs ++ ws)) hq
      exact p _ _ _ _ e3 r3 (.lst upd_same (IsAll.mono e3.fr _ _ (ia.append ib)))
    · exact p.elim
  unfold uAdd at p
  split at p
  · rename_i i j
    rw [is_int i1, is_int i2]
    exact .inl (.inl ⟨i, j, rfl, rfl, ok_here r p (.int _)⟩)
  · rename_i a b
    have j1 : Is x.K F v (.str a) := i1
    have j2 : Is x.K F w (.str b) := i2
    cases j1
    cases j2
    split at p
    · rename_i hl
      exact .inl (.inr (.inl ⟨a, b, rfl, rfl, le_line hl, ok_here r p (.str _)⟩))
    · exact p.elim
  · rename_i xs ys
    have j1 : Is x.K F v (.tuple xs) := i1
    have j2 : Is x.K F w (.tuple ys) := i2
    cases j1 with
    | @tup a vs _ a1 a2 =>
      cases j2 with
      | @tup b ws _ b1 b2 =>
        split at p
        · rename_i hl
          refine .inr ⟨a, b, vs, ws, rfl, rfl, le_t r.le a1, le_t r.le b1, le_line (by rw [a2.length, b2.length]; exact hl), fun e => ?_, fun e e' => ?_, fun e e' q hq => ?_⟩
          · subst e
            cases a2
            exact ok_here r p (.tup b1 b2)
          · subst e'
            cases b2
            rw [List.append_nil] at p
            exact ok_here r p (.tup a1 a2)
          · obtain ⟨r3, e3⟩ := r.frozen (o := .tup (vs ++ ws)) hq
            exact p _ _ _ _ e3 r3 (.tup (SqT.of upd_same) (IsAll.mono e3.fr _ _ (a2.append b2)))
        · exact p.elim
  · split at p
    · rename_i xs ys h1 h2
      exact lists xs ys h1 h2 p
    · exact p.elim
theorem fit_sub : Fit2 x (rI0 fun i j => .int (i - j)) uSub := fit_ii (fun W α F S σ H i j Q r p => ⟨i, j, rfl, rfl, ok_here r p (.int _)⟩) fun u w S h => by
  unfold uSub
  split
  · rename_i i j
    exact absurd ⟨rfl, rfl⟩ (h i j)
  · rfl
theorem fit_mulU : Fit2 x rMulU uMul := by
  intro W α F S σ H v w u u' r i1 i2 Q p
  unfold uMul at p
  split at p
  · rename_i i j
    rw [is_int i1, is_int i2]
    split at p
    · rename_i hl
      exact .inl ⟨i, j, rfl, rfl, hl, ok_here r p (.int _)⟩
    · exact p.elim
  · rename_i k hk
    rw [is_int i2]
    split at p
    · rename_i xs hx
      obtain ⟨a, vs, rfl, ha, ia⟩ := viewM_ok r i1 hx
      split at p
      · rename_i hl
        have hz : vs.length * k.toNat ≤ 1000 * 1000 := Nat.mul_le_mul (by rw [ia.length]; exact hl.2.2) (by omega)
        refine .inr ⟨a, k, vs, rfl, rfl, ha, by omega, by omega, le_line hz, fun q hq => ?_⟩
        obtain ⟨r3, e3⟩ := r.frozen (o := .lst (List.replicate k.toNat vs).flatten) hq
        refine p _ _ _ _ e3 r3 (.lst upd_same (IsAll.mono e3.fr _ _ ?_))
        have key : ∀ n : Nat, IsAll x.K F (List.replicate n vs).flatten (List.replicate n xs).flatten := fun n => by
          induction n with
          | zero => exact .nil
          | succ n ih =>
            rw [List.replicate_succ, List.replicate_succ, List.flatten_cons, List.flatten_cons]
            exact ia.append ih
        exact key _
      · exact p.elim
    · exact p.elim
  · exact p.elim
theorem fit_divU : Fit2 x rDivU uDiv := fit_ii (fun W α F S σ H i j Q r p => by
    unfold uDiv at p
    dsimp only at p
    split at p
    · rename_i hl
      exact ⟨i, j, rfl, rfl, hl, ok_here r p (.int _)⟩
    · exact p.elim) fun u w S h => by
  unfold uDiv
  split
  · rename_i i j
    exact absurd ⟨rfl, rfl⟩ (h i j)
  · rfl
theorem fit_modU : Fit2 x rModU uMod := fit_ii (fun W α F S σ H i j Q r p => by
    unfold uMod at p
    dsimp only at p
    split at p
    · rename_i hl
      exact ⟨i, j, rfl, rfl, hl, ok_here r p (.int _)⟩
    · exact p.elim) fun u w S h => by
  unfold uMod
  split
  · rename_i i j
    exact absurd ⟨rfl, rfl⟩ (h i j)
  · rfl
theorem fit_powU : Fit2 x (L2.rI CPow fun i j => .int (i ^ j.toNat)) uPow := fit_ii (fun W α F S σ H i j Q r p => by
    unfold uPow at p
    dsimp only at p
    split at p
    · rename_i hl
      exact ⟨i, j, rfl, rfl, hl, ok_here r p (.int _)⟩
    · exact p.elim) fun u w S h => by
  unfold uPow
  split
  · rename_i i j
    exact absurd ⟨rfl, rfl⟩ (h i j)
  · rfl
theorem fit_negU : Fit1 x (L2.rU fun i => .int (-i)) uNeg := by
  intro W α F S σ H v u r i1 Q p
  unfold uNeg at p
  split at p
  · rename_i i
    rw [is_int i1]
    exact ⟨i, rfl, ok_here r p (.int _)⟩
  · exact p.elim
theorem fit_eqU : Fit2 x (rEqD x.K) uEq := by
  intro W α F S σ H v w u u' r i1 i2 Q p
  unfold uEq at p
  split at p
  · rename_i a b h1 h2
    split at p
    · rename_i hs
      rw [Bool.and_eq_true] at hs
      exact ⟨a, b, viewD_ok r i1 h1, viewD_ok r i2 h2, hs.1, hs.2, ok_here r p (.bl _)⟩
    · exact p.elim
  · exact p.elim
theorem fit_neU : Fit2 x (rNeD x.K) uNe := by
  intro W α F S σ H v w u u' r i1 i2 Q p
  unfold uNe at p
  split at p
  · rename_i a b h1 h2
    split at p
    · rename_i hs
      rw [Bool.and_eq_true] at hs
      exact ⟨a, b, viewD_ok r i1 h1, viewD_ok r i2 h2, hs.1, hs.2, ok_here r p (.bl _)⟩
    · exact p.elim
  · exact p.elim
theorem fit_ltU : Fit2 x (rI0 fun i j => .bl (decide (i < j))) uLt := fit_ii (fun W α F S σ H i j Q r p => ⟨i, j, rfl, rfl, ok_here r p (.bl _)⟩) fun u w S h => by
  unfold uLt
  split
  · rename_i i j
    exact absurd ⟨rfl, rfl⟩ (h i j)
  · rfl
theorem fit_leU : Fit2 x (rI0 fun i j => .bl (decide (i ≤ j))) uLe := fit_ii (fun W α F S σ H i j Q r p => ⟨i, j, rfl, rfl, ok_here r p (.bl _)⟩) fun u w S h => by
  unfold uLe
  split
  · rename_i i j
    exact absurd ⟨rfl, rfl⟩ (h i j)
  · rfl
theorem fit_gtU : Fit2 x (rI0 fun i j => .bl (decide (j < i))) uGt := fit_ii (fun W α F S σ H i j Q r p => ⟨i, j, rfl, rfl, ok_here r p (.bl _)⟩) fun u w S h => by
  unfold uGt
  split
  · rename_i i j
    exact absurd ⟨rfl, rfl⟩ (h i j)
  · rfl
theorem fit_geU : Fit2 x (rI0 fun i j => .bl (decide (j ≤ i))) uGe := fit_ii (fun W α F S σ H i j Q r p => ⟨i, j, rfl, rfl, ok_here r p (.bl _)⟩) fun u w S h => by
  unfold uGe
  split
  · rename_i i j
    exact absurd ⟨rfl, rfl⟩ (h i j)
  · rfl
theorem isNone_ok {α : Nat → Addr} {F : Hp} {n : Nat} {v : V} {u : U} (i : IsU x α F n v u) : decide (v = .non) = isNone u := by
  cases u with
  | d y =>
    have i' : Is x.K F v y := i
    cases i' <;> rfl
  | loc l => rw [i.1]; rfl
  | rd ys =>
    obtain ⟨a, vs, h1, _⟩ := i
    rw [h1]; rfl
  | adr a =>
    have i' : v = .ref a := i
    rw [i']; rfl
  | ty a =>
    have i' : v = .ty a := i
    rw [i']; rfl
  | cls c =>
    obtain ⟨C, h1, _⟩ := i
    rw [h1]; rfl
  | ex c y =>
    obtain ⟨a, _, _, _, h1, _⟩ := i
    rw [h1]; rfl
  | thk =>
    rw [i.1]; rfl
def rIsN' : R2 := fun x y H Q => y = .non ∧ Q (.bl (decide (x = .non))) H
def rNotN' : R2 := fun x y H Q => y = .non ∧ Q (.bl (!decide (x = .non))) H
theorem fit_ixU : Fit2 x (rIx x.K) uIx := by
  intro W α F S σ H v w u u' r i1 i2 Q p
  unfold uIx at p
  split at p
  · rename_i i
    rw [is_int i2]
    split at p
    · rename_i xs
      have j1 : Is x.K F v (.tuple xs) := i1
      cases j1 with
      | tup a1 a2 =>
        split at p
        · rename_i y hy
          obtain ⟨z, h1, h2⟩ := atI_ok a2 hy
          exact .inr (.inl ⟨_, _, i, z, rfl, rfl, le_t r.le a1, h1, ok_here r p h2⟩)
        · exact p.elim
    · rename_i z
      have j1 : Is x.K F v (.str z) := i1
      cases j1
      split at p
      · rename_i hl
        split at p
        · rename_i c hc
          exact .inr (.inr ⟨z, i, c, rfl, rfl, le_line hl, hc, ok_here r p (.str _)⟩)
        · exact p.elim
      · exact p.elim
    · split at p
      · rename_i xs hx
        split at p
        · rename_i y hy
          obtain ⟨a, vs, rfl, ha, ia⟩ := viewL_ok r i1 hx
          obtain ⟨z, h1, h2⟩ := atI_ok ia hy
          exact .inl ⟨_, _, i, z, rfl, rfl, ha, h1, ok_here r p h2⟩
        · exact p.elim
      · exact p.elim
  · exact p.elim
end
/-! ### calls of built-ins -/
def uLen (us : List U) (S : Store) : R U := match us with
  | [.d (.tuple xs)] => .ok (.d (.int (xs.length : Int))) S
  | [.d (.str z)] => if z.length ≤ 1000000 then .ok (.d (.int (z.length : Int))) S else .bad
  | [u] => (match viewL u S with
    | some xs => .ok (.d (.int (xs.length : Int))) S
    | none => .bad)
  | _ => .bad
def uInt (us : List U) (S : Store) : R U := match us with
  | [.d (.int i)] => .ok (.d (.int i)) S
  | [.d (.bool b)] => .ok (.d (.int (if b then 1 else 0))) S
  | _ => .bad
def uMax (us : List U) (S : Store) : R U := match us with
  | [.d (.int i), .d (.int j)] => .ok (.d (.int (if j > i then j else i))) S
  | _ => .bad
def uMin (us : List U) (S : Store) : R U := match us with
  | [.d (.int i), .d (.int j)] => .ok (.d (.int (if j < i then j else i))) S
  | _ => .bad
def uAbs (us : List U) (S : Store) : R U := match us with
  | [.d (.int i)] => .ok (.d (.int (if i < 0 then -i else i))) S
  | _ => .bad
def uGcd (us : List U) (S : Store) : R U := match us with
  | [.d (.int i), .d (.int j)] => .ok (.d (.int ((Nat.gcd i.natAbs j.natAbs : Nat) : Int))) S
  | _ => .bad
def tyOf : D → String
  | .none => "NoneType"
  | .bool _ => "bool"
  | .int _ => "int"
  | .str _ => "str"
  | .list _ => "list"
  | .tuple _ => "tuple"
  | .dict _ => "dict"
def isTy (T : String) (k : String) : Bool := if T = "int" then (k == "int" || k == "bool") else k == T
def okTy (T : String) : Bool := T == "int" || T == "bool" || T == "str" || T == "tuple" || T == "list"
def uIsi (us : List U) (S : Store) : R U := match us with
  | [.d y, .ty T] => if okTy T = true then .ok (.d (.bool (isTy T (tyOf y)))) S else .bad
  | [.loc l, .ty T] => if okTy T = true then (match S[l]? with
    | some (some _) => .ok (.d (.bool (isTy T "list"))) S
    | _ => .bad) else .bad
  | _ => .bad
theorem kit_all (T k : String) (hT : okTy T = true) (hk : k = "NoneType" ∨ k = "bool" ∨ k = "int" ∨ k = "str" ∨ k = "list" ∨ k = "tuple") : kitB k T = some (isTy T k) := by
  have hT' : T = "int" ∨ T = "bool" ∨ T = "str" ∨ T = "tuple" ∨ T = "list" := by
    unfold okTy at hT
    simp only [Bool.or_eq_true, beq_iff_eq] at hT
    rcases hT with (((h | h) | h) | h) | h
    · exact .inl h
    · exact .inr (.inl h)
    · exact .inr (.inr (.inl h))
    · exact .inr (.inr (.inr (.inl h)))
    · exact .inr (.inr (.inr (.inr h)))
  rcases hT' with rfl | rfl | rfl | rfl | rfl <;> rcases hk with rfl | rfl | rfl | rfl | rfl | rfl <;> decide +kernel
section
variable {x : Fx}
theorem is_ty {α : Nat → Addr} {F : Hp} {n : Nat} {v : V} {T : String} (h : IsU x α F n v (.ty T)) : v = .ty T := h
theorem us1 {α : Nat → Addr} {F : Hp} {n : Nat} {vs : List V} {u : U} (h : IsUs x α F n vs [u]) : ∃ v, vs = [v] ∧ IsU x α F n v u := by
  cases h with
  | cons h1 h2 =>
    cases h2
    exact ⟨_, rfl, h1⟩
theorem us2 {α : Nat → Addr} {F : Hp} {n : Nat} {vs : List V} {u u' : U} (h : IsUs x α F n vs [u, u']) : ∃ v w, vs = [v, w] ∧ IsU x α F n v u ∧ IsU x α F n w u' := by
  cases h with
  | cons h1 h2 =>
    obtain ⟨w, e, h3⟩ := us1 h2
    subst e
    exact ⟨_, _, rfl, h1, h3⟩
theorem fit_lenU : FitN x (fun xs H Q => ∃ y n, xs = [y] ∧ LenV x.K y H n ∧ Q (.int n) H) uLen := by
  intro W α F S σ H vs us r i1 Q p
  unfold uLen at p
  split at p
  · rename_i xs
    obtain ⟨v, rfl, h⟩ := us1 i1
    have j1 : Is x.K F v (.tuple xs) := h
    cases j1 with
    | tup a1 a2 => exact ⟨_, xs.length, rfl, .inr ⟨_, le_t r.le a1, a2.length.symm⟩, ok_here r p (.int _)⟩
  · rename_i z
    obtain ⟨v, rfl, h⟩ := us1 i1
    have j1 : Is x.K F v (.str z) := h
    cases j1
    split at p
    · rename_i hl
      exact ⟨_, z.length, rfl, ⟨le_line hl, rfl⟩, ok_here r p (.int _)⟩
    · exact p.elim
  · obtain ⟨v, rfl, h⟩ := us1 i1
    split at p
    · rename_i xs hx
      obtain ⟨a, ws, rfl, ha, ia⟩ := viewL_ok r h hx
      exact ⟨_, xs.length, rfl, .inl ⟨_, ha, ia.length.symm⟩, ok_here r p (.int _)⟩
    · exact p.elim
  · exact p.elim
theorem fit_intU : FitN x (fun xs H Q => (∃ i, xs = [.int i] ∧ Q (.int i) H) ∨ ∃ k, xs = [.bl k] ∧ Q (.int (if k then 1 else 0)) H) uInt := by
  intro W α F S σ H vs us r i1 Q p
  unfold uInt at p
  split at p
  · rename_i i
    obtain ⟨v, rfl, h⟩ := us1 i1
    rw [is_int h]
    exact .inl ⟨i, rfl, ok_here r p (.int _)⟩
  · rename_i b
    obtain ⟨v, rfl, h⟩ := us1 i1
    rw [is_bool h]
    exact .inr ⟨b, rfl, ok_here r p (.int _)⟩
  · exact p.elim
theorem fit_maxU : FitN x (fun xs H Q => ∃ i j, xs = [.int i, .int j] ∧ Q (.int (if j > i then j else i)) H) uMax := by
  intro W α F S σ H vs us r i1 Q p
  unfold uMax at p
  split at p
  · rename_i i j
    obtain ⟨v, w, rfl, h, h'⟩ := us2 i1
    rw [is_int h, is_int h']
    exact ⟨i, j, rfl, ok_here r p (.int _)⟩
  · exact p.elim
theorem fit_minU : FitN x (fun xs H Q => ∃ i j, xs = [.int i, .int j] ∧ Q (.int (if j < i then j else i)) H) uMin := by
  intro W α F S σ H vs us r i1 Q p
  unfold uMin at p
  split at p
  · rename_i i j
    obtain ⟨v, w, rfl, h, h'⟩ := us2 i1
    rw [is_int h, is_int h']
    exact ⟨i, j, rfl, ok_here r p (.int _)⟩
  · exact p.elim
theorem fit_absU : FitN x (fun xs H Q => ∃ i, xs = [.int i] ∧ Q (.int (if i < 0 then -i else i)) H) uAbs := by
  intro W α F S σ H vs us r i1 Q p
  unfold uAbs at p
  split at p
  · rename_i i
    obtain ⟨v, rfl, h⟩ := us1 i1
    rw [is_int h]
    exact ⟨i, rfl, ok_here r p (.int _)⟩
  · exact p.elim
theorem fit_gcdU : FitN x rGcd uGcd := by
  intro W α F S σ H vs us r i1 Q p
  unfold uGcd at p
  split at p
  · rename_i i j
    obtain ⟨v, w, rfl, h, h'⟩ := us2 i1
    rw [is_int h, is_int h']
    exact ⟨i, j, rfl, ok_here r p (.int _)⟩
  · exact p.elim
theorem tyX_of {F H : Hp} {v : V} {y : D} (le : Le F H) (h : Is x.K F v y) : TyX x.K H v (.type (tyOf y)) ∧ (tyOf y = "NoneType" ∨ tyOf y = "bool" ∨ tyOf y = "int" ∨ tyOf y = "str" ∨ tyOf y = "list" ∨ tyOf y = "tuple") := by
  cases h with
  | non => exact ⟨.base .non, by simp [tyOf]⟩
  | bl b => exact ⟨.base (.bl b), by simp [tyOf]⟩
  | int i => exact ⟨.base (.int i), by simp [tyOf]⟩
  | str z => exact ⟨.base (.str z), by simp [tyOf]⟩
  | lst a b => exact ⟨.base (.lst (le _ _ a)), by simp [tyOf]⟩
  | tup a b =>
    refine ⟨?_, by simp [tyOf]⟩
    rcases a with (a | ⟨o, a⟩) | ⟨o, its, n, k, c, _⟩
    · exact .base (.tup (le _ _ a))
    · exact .fTuple (le _ _ a)
    · exact .kTuple k c
theorem fit_isiU : FitN x (rIsi x.K) uIsi := by
  intro W α F S σ H vs us r i1 Q p
  unfold uIsi at p
  split at p
  · rename_i y T
    obtain ⟨v, w, rfl, h, h'⟩ := us2 i1
    rw [is_ty h']
    split at p
    · rename_i hT
      obtain ⟨t1, t2⟩ := tyX_of r.le h
      exact ⟨v, .ty T, _, _, _, rfl, .ty T, t1, kit_ty (kit_all T (tyOf y) hT t2), ok_here r p (.bl _)⟩
    · exact p.elim
  · rename_i l T
    obtain ⟨v, w, rfl, h, h'⟩ := us2 i1
    rw [is_ty h']
    split at p
    · rename_i hT
      split at p
      · rename_i ds e
        obtain ⟨_, ws, c2, _⟩ := r.cell l ds e
        obtain ⟨h1, _⟩ := h
        subst h1
        exact ⟨_, .ty T, _, _, _, rfl, .ty T, .base (.lst c2), kit_ty (kit_all T "list" hT (by simp)), ok_here r p (.bl _)⟩
      · exact p.elim
    · exact p.elim
  · exact p.elim
end
end Z

/-! Z5: a comprehension over a list, its target a tuple of names, while an exception is handled. -/
namespace Z
open PySem PySem.Spec PyProof.Rows L2 HotX
section
variable {prog : Program} {w : World} {A : Around} {E : Value → Shared → Prop} {s : Shared}
theorem hot_upd {x1 it : Addr} {h : Heap} {o : Obj} {vs : Array Value} {f : Obj → Obj} (hot : HotAt A x1 h) (ho : h.get? it = some o) (hd : o.data = .fields vs) (hs : vs.size ≤ 2) : HotAt A x1 (h.update it f) := by
  obtain ⟨hh, o1, v1, h1, d1, c1⟩ := hot
  have ne : it ≠ x1 := fun z => by
    rw [z, h1] at ho
    cases ho
    rw [d1] at hd
    injection hd with hd
    subst hd
    have := (Array.getElem?_eq_some_iff.mp c1).1
    omega
  exact ⟨hh, o1, v1, by rw [Heap.get?_update_other _ _ ne]; exact h1, d1, c1⟩
theorem hot_push {x1 : Addr} {h : Heap} {o : Obj} (hot : HotAt A x1 h) : HotAt A x1 (h.push o) := by
  obtain ⟨hh, o1, v1, h1, d1, c1⟩ := hot
  exact ⟨hh, o1, v1, Heap.get?_push_of_some _ h1, d1, c1⟩
theorem hot_lt {x1 : Addr} {h : Heap} (hot : HotAt A x1 h) : x1 < h.objs.size := by
  obtain ⟨_, o1, v1, h1, _⟩ := hot
  exact Heap.lt_size h1
theorem hot_same {x1 it : Addr} {h h' : Heap} (hot : HotAt A x1 h) (hs : ∀ b o, b ≠ it → h.get? b = some o → h'.get? b = some o) (ne : x1 ≠ it) : HotAt A x1 h' := by
  obtain ⟨hh, o1, v1, h1, d1, c1⟩ := hot
  exact ⟨hh, o1, v1, hs _ _ ne h1, d1, c1⟩
theorem ext_stop {it : Addr} {h0 h1 : Heap} {o1 o2 : Obj} {f : Obj → Obj} (x : Heap.ExtBut it h0 h1) : Heap.ExtBut it h0 (((h1.push o1).push o2).update (h1.push o1).objs.size f) := fun b o hb e => by
  have e1 := x b o hb e
  have e2 := Heap.get?_push_of_some o1 e1
  rw [Heap.get?_update_other _ _ (Nat.ne_of_gt (Heap.lt_size e2))]
  exact Heap.get?_push_of_some o2 e2
theorem list_end_hot {it l x1 : Addr} {i : Nat} {items : Array Value} {Q : Option Value → Shared → Prop} (hot : HotAt A x1 s.heap) (hit : s.heap.IsListIter it l i) (hl : s.heap.IsList l items) (hx : items[i]? = none)
    (hQ : ∀ h', Heap.ExtBut it s.heap h' → Q none { s with heap := h' }) : wpAny (model prog w) A (pyNext (.ref it)) Q E s := by
  obtain ⟨o, ho, hc, hd⟩ := id hit
  obtain ⟨ol, hol, _, nl, hdl⟩ := hl
  unfold pyNext
  refine wpAny_bind (wpAny_attempt (wpAny_callSpecial?_slot (name := Str.ofString "__next__") hit.typeIs slot_listiter_next (wpAny_call_entry slot_listiter_next hit.typeIs entry_listiter_next ?_ (args_listiter_next _))))
  show wpAny _ _ (field (.ref it) 0 >>= _) _ _ s
  refine wpAny_bind (wpAny_field ho hd (x := .ref l) rfl ?_)
  show wpAny _ _ (if (Value.ref l == Value.none) = true then _ else _) _ _ s
  rw [if_neg (show ¬ ((Value.ref l == Value.none) = true) from Bool.false_ne_true)]
  show wpAny _ _ (field (.ref it) 1 >>= _) _ _ s
  refine wpAny_bind (wpAny_field ho hd (x := .int i 0) rfl ?_)
  show wpAny _ _ (seqItems? (.ref l) >>= _) _ _ s
  refine wpAny_bind (wpAny_seqItems hol hdl ?_)
  simp only [Int.toNat_natCast, hx]
  refine wpAny_bind (wpAny_rule (wpAny_bind (wpAny_setField ho hd (by simp) ?_)))
  show wpAny _ _ (newExc (.type "StopIteration") [] >>= _) _ _ _
  refine wpAny_bind ?_
  simp only [newExc, newTuple]
  refine wpAny_bind (wpAny_newObj_type ?_ (by size_fits))
  refine wpAny_bind (m := firstArgMember _ _) (wpAny_of_eq (a := Value.none) (by first | rfl | (simp only [firstArgMember]; rfl)) ?_)
  refine wpAny_newObj_type ?_ (by size_fits)
  have hot1 := hot_upd (f := Obj.mapFields (·.setIfInBounds 0 .none)) hot ho hd (by simp)
  refine raiseNew_hot (x1 := x1) (hot_push (hot_push ⟨hot1.1, hot1.2⟩)) (Nat.ne_of_lt (hot_lt (hot_push hot1))) (Heap.get?_push_size _ rfl) rfl (by first | (simp; done) | (simp; omega) | (simp only [Array.size_append]; simp; omega)) ?_
  refine wpAny_bind (wpAny_isInstance (T := "StopIteration") (b := true) ⟨_, Heap.get?_update_self _ (Heap.get?_push_size _ rfl) rfl, rfl⟩ isSubtype_stop ?_)
  exact wpAny_pure (hQ _ (ext_stop (Heap.SameBut.update ..).extBut))
theorem tup_end_hot {it t x1 : Addr} {i : Nat} {items : Array Value} {Q : Option Value → Shared → Prop} (hot : HotAt A x1 s.heap) (hit : IsTupIter s.heap it t i) (ht : IsTup s.heap t items) (hx : items[i]? = none)
    (hQ : ∀ h', Heap.ExtBut it s.heap h' → Q none { s with heap := h' }) : wpAny (model prog w) A (pyNext (.ref it)) Q E s := by
  obtain ⟨o, ho, hc, hd⟩ := id hit
  obtain ⟨ol, hol, _, nl, hdl⟩ := ht
  unfold pyNext
  refine wpAny_bind (wpAny_attempt (wpAny_callSpecial?_slot (name := Str.ofString "__next__") hit.typeIs slot_tupleiter_next (wpAny_call_entry slot_tupleiter_next hit.typeIs entry_tupleiter_next ?_ (args_tupleiter_next _))))
  show wpAny _ _ (field (.ref it) 0 >>= _) _ _ s
  refine wpAny_bind (wpAny_field ho hd (x := .ref t) rfl ?_)
  show wpAny _ _ (if (Value.ref t == Value.none) = true then _ else _) _ _ s
  rw [if_neg (show ¬ ((Value.ref t == Value.none) = true) from Bool.false_ne_true)]
  show wpAny _ _ (field (.ref it) 1 >>= _) _ _ s
  refine wpAny_bind (wpAny_field ho hd (x := .int i 0) rfl ?_)
  show wpAny _ _ (seqItems? (.ref t) >>= _) _ _ s
  refine wpAny_bind (wpAny_seqItems hol hdl ?_)
  simp only [Int.toNat_natCast, hx]
  refine wpAny_bind (wpAny_rule (wpAny_bind (wpAny_setField ho hd (by simp) ?_)))
  show wpAny _ _ (newExc (.type "StopIteration") [] >>= _) _ _ _
  refine wpAny_bind ?_
  simp only [newExc, newTuple]
  refine wpAny_bind (wpAny_newObj_type ?_ (by size_fits))
  refine wpAny_bind (m := firstArgMember _ _) (wpAny_of_eq (a := Value.none) (by first | rfl | (simp only [firstArgMember]; rfl)) ?_)
  refine wpAny_newObj_type ?_ (by size_fits)
  have hot1 := hot_upd (f := Obj.mapFields (·.setIfInBounds 0 .none)) hot ho hd (by simp)
  refine raiseNew_hot (x1 := x1) (hot_push (hot_push ⟨hot1.1, hot1.2⟩)) (Nat.ne_of_lt (hot_lt (hot_push hot1))) (Heap.get?_push_size _ rfl) rfl (by first | (simp; done) | (simp; omega) | (simp only [Array.size_append]; simp; omega)) ?_
  refine wpAny_bind (wpAny_isInstance (T := "StopIteration") (b := true) ⟨_, Heap.get?_update_self _ (Heap.get?_push_size _ rfl) rfl, rfl⟩ isSubtype_stop ?_)
  exact wpAny_pure (hQ _ (ext_stop (Heap.SameBut.update ..).extBut))
theorem unpack_hot {t x1 : Addr} {items : Array Value} {Q : List Value → Shared → Prop} (hot : HotAt A x1 s.heap) (ht : IsTup s.heap t items)
    (hQ : ∀ h', Heap.ExtBut s.heap.objs.size s.heap h' → Q items.toList { s with heap := h' }) : wpAny (model prog w) A (unpackItems (.ref t) items.size none) Q E s := by
  have hlt : t ≠ s.heap.objs.size := by obtain ⟨o, ho, _⟩ := ht; exact Nat.ne_of_lt (Heap.lt_size ho)
  unfold unpackItems
  refine wpAny_bind ?_
  unfold notIterableAtAll
  refine wpAny_bind (wpAny_specialOf ht.typeIs slot_tuple_iter.lookup ?_)
  refine wpAny_pure ?_
  simp only [Bool.false_eq_true, if_false]
  refine wpAny_bind (wpAny_holding (iter_tuple ht ?_))
  refine wpAny_bind (wpAny_holding (draw_tuple hlt items.size 0 _ _ ⟨_, Heap.get?_push_size _ rfl, rfl, rfl⟩ (ht.push _) (by omega) fun h₁ hit₁ hs₁ => ?_))
  have hall : List.take items.size (List.drop 0 items.toList) = items.toList := by
    rw [List.drop_zero]; exact List.take_of_length_le (by simp)
  rw [hall]
  rw [if_neg (by simp)]
  have ht₁ : IsTup h₁ t items := (ht.push _).extBut hs₁.extBut hlt
  have hot₁ : HotAt A x1 h₁ := hot_same (hot_push (o := { cls := .type "tuple_iterator", data := .fields #[.ref t, .int 0 0] }) hot) hs₁.extBut (Nat.ne_of_lt (hot_lt hot))
  refine wpAny_bind (wpAny_holding (tup_end_hot (s := { s with heap := h₁ }) hot₁ hit₁ ht₁ (by simp) fun h₂ he₂ => ?_))
  simp only [Option.isSome_none, Bool.false_eq_true, if_false]
  exact wpAny_pure (hQ h₂ fun b o hb e => he₂ b o hb (hs₁.extBut b o hb (Heap.get?_push_of_some _ e)))
end
/-- a target met while an exception is handled -/
structure PGH (X : Cx) (target : Expr) (t : TG) : Prop where
  run : ∀ (pins : List (Addr × Obj)) (s : Shared) (σ : L2.St) (H : Hp) (v : V) (u : Value) (Q : L2.St → Hp → Prop) (x1 : Addr), HotAt X.A x1 s.heap → Inv X pins σ H s → RelV v u → t v σ H Q →
    wpAny (model X.prog X.w) X.A (assign target X.env u) (fun _ s' => ∃ σ' H', Inv X pins σ' H' s' ∧ Q σ' H') X.xe s
theorem pgH_tup {X : Cx} {es : List Expr} {k : Nat} {t : TGs} {n : Nat} {pos : Pos} (h : PGs X es t) (hn : (assignEach es X.env).length = n := by rfl) (hst : (assignEach es X.env).findIdx? (·.1) = none := by rfl) : PGH X (.Tuple es k pos) (gTup X.K n t) := by
  refine ⟨fun pins s σ H v u Q x1 hot I r hw => ?_⟩
  obtain ⟨a, xs, e1, hq, hl, hw⟩ := hw
  subst e1
  cases r
  obtain ⟨its, rv, ht, hz⟩ := I.tuple hq
  rw [assign_Tuple]
  refine wpAny_bind (wpAny_standAt ?_)
  unfold unpack
  rw [show (assignEach es X.env).length = its.toArray.size by simp [hn, ← hl, rv.length], hst]
  refine wpAny_bind (wpAny_holding (unpack_hot hot ht fun h' hx => ?_))
  have I1 : Inv X pins σ H { s with heap := h' } := I.kept (t' := s.toks) fun b o e => hx b o (Nat.ne_of_lt (Heap.lt_size e)) e
  exact h.run pins _ σ H xs _ Q I1 (by simpa using rv) hw
section
variable {X : Cx}
/-- [elt for (a, b, ..) in xs if ..] while an exception is handled -/
theorem pe_lcH {elt tg iter : Expr} {ifs : List Expr} {scope : Scope} {own : List (Str × Nat)} {pos : Pos} {tl : TE} {g : TG} {tt : TT} {te : TE} (hc : L2H.HotC X) (hN : X.N.Nodup) (hl : PE X iter tl) (ok : BlkOk X.N X.env.scope scope own)
    (hg : ∀ (s : Shared) (H : Hp) (C : Addr) (cl : List (Str × Addr)) (fp : List Addr), PGH (X.blk s H scope (compEnvC scope cl C X.env) fp) tg g) (ht : ∀ (s : Shared) (H : Hp) (C : Addr) (cl : List (Str × Addr)) (fp : List Addr), PTs (X.blk s H scope (compEnvC scope cl C X.env) fp) ifs tt)
    (he : ∀ (s : Shared) (H : Hp) (C : Addr) (cl : List (Str × Addr)) (fp : List Addr), PE (X.blk s H scope (compEnvC scope cl C X.env) fp) elt te) (hs : ∀ x, foldedSetIterable iter X.env x = pure x := by intro _; rfl) :
    PE X (.ListComp elt [⟨tg, iter, ifs, 0⟩] scope pos) (tLc (iList X.K tl) g tt te (own.map (·.2))) := by
  refine ⟨fun pins s σ H Q I h => ?_⟩
  rw [eval_ListComp]
  obtain ⟨pq, ⟨hh, vq, dq, cq⟩, hpq⟩ := hc
  have hfree : ∀ y ∈ scope.names, y.2 = .free → ∃ c, X.env.cells.lookup y.1 = some c := fun y hy e => (ok.free y hy e).elim (fun k => I.ok.has _ (.inl k)) fun k => I.ok.has _ (.inr k)
  refine wpAny_comprehension_free (use := none) rfl hs (closure_ok hfree) ok.kind (fun y hy e => by rw [ok.uniq y hy, e]) (thn (hl.run pins s σ H _ I h) fun xv s1 hx => ?_)
  obtain ⟨x0, H1, I1, r1, a, e0, ⟨xs0, hq0⟩, q⟩ := hx
  subst e0
  cases r1
  obtain ⟨its0, rv0, pl0, hz0⟩ := I1.list hq0
  refine wpAny_pyIter_list pl0.isList ?_
  generalize hs2 : ({ s1 with heap := s1.heap.push { cls := .type "list_iterator", data := .fields #[.ref a, .int 0 0] } } : Shared) = s2
  generalize hit : s1.heap.objs.size = it
  have I2 : Inv X pins σ H1 s2 := by
    rw [← hs2]
    exact I1.kept (t' := s1.toks) fun b o e => Heap.get?_push_of_some _ e
  have st2 : s2.heap.IsListIter it a 0 := by
    rw [← hs2, ← hit]
    exact ⟨_, Heap.get?_push_size _ rfl, rfl, rfl⟩
  have f2 : FpOk X pins H1 it := by
    rw [← hit]
    exact I1.fpOk (Nat.le_refl _) (I1.hok.fresh (Nat.le_refl _))
  refine wpAny_newObj_type (newEnv_comp ?_) (by show 0 ≤ sizeLine; decide)
  generalize hD : s2.heap.objs.size = D
  have hDn : H1 D = none := I2.hok.fresh (Nat.le_of_eq hD)
  obtain ⟨W, ⟨m0, w0⟩, turn⟩ := q D hDn
  generalize hs3 : ({ s2 with heap := s2.heap.push { cls := .type "list", data := .seq ([] : List Value).toArray } } : Shared) = s3
  have I3 : Inv X pins σ (upd H1 D (.lst [])) s3 := by
    rw [← hs3]
    refine I2.laid (t' := s2.toks) (fun b o e => Heap.get?_push_of_some _ e) (Nat.le_of_eq hD) ⟨Nat.zero_le _, [], 0, .nil, ?_⟩
    rw [← hD]
    exact Heap.get?_push_size _ rfl
  have h3 : s3.heap = s2.heap.push { cls := .type "list", data := .seq ([] : List Value).toArray } := by rw [← hs3]
  have lit : it < s2.heap.objs.size := by
    obtain ⟨o, e, _⟩ := st2
    exact Heap.lt_size e
  have f3 : ∀ b ∈ [it], FpOk X pins (upd H1 D (.lst [])) b ∧ b < s3.heap.objs.size := fun b hb => by
    have eb : b = it := by simpa using hb
    subst eb
    refine ⟨⟨?_, f2.2⟩, by rw [h3, Heap.size_push]; exact Nat.lt_succ_of_lt lit⟩
    rw [upd_ne (by rw [← hD]; exact Nat.ne_of_lt lit)]
    exact f2.1
  have st3 : s3.heap.IsListIter it a 0 := st2.at fun o e => by rw [h3]; exact Heap.get?_push_of_some _ e
  have I4 := block_start I3 ok hN f3
  have pg := hg s3 (upd H1 D (.lst [])) s3.heap.objs.size (cellsFrom (s3.heap.objs.size + 1) scope.names (cloFrom X.env.cells scope.names [])) [it]
  have pt := ht s3 (upd H1 D (.lst [])) s3.heap.objs.size (cellsFrom (s3.heap.objs.size + 1) scope.names (cloFrom X.env.cells scope.names [])) [it]
  have pe := he s3 (upd H1 D (.lst [])) s3.heap.objs.size (cellsFrom (s3.heap.objs.size + 1) scope.names (cloFrom X.env.cells scope.names [])) [it]
  show codeAny _ _ (.compStart (.ListComp elt [⟨tg, iter, ifs, 0⟩] scope pos) 0 (.ref it) (.ref D) (compEnvC scope (cellsFrom (s3.heap.objs.size + 1) scope.names (cloFrom X.env.cells scope.names [])) s3.heap.objs.size X.env)) (compPost (model X.prog X.w) X.A X.xe none _ (.ref D) s3.heap.objs.size) { s3 with heap := pushCells (s3.heap.push { cls := .type "dict", data := .dict #[] }) scope.names }
  have nfp : upd H1 D (.lst []) it = none := (f3 it (by simp)).1.1
  generalize hce : compEnvC scope (cellsFrom (s3.heap.objs.size + 1) scope.names (cloFrom X.env.cells scope.names [])) s3.heap.objs.size X.env = ce at I4 pg pt pe ⊢
  have cL : ce.locals = s3.heap.objs.size := by subst hce; rfl
  generalize hH3 : upd H1 D (.lst []) = H3 at I3 I4 pg pt pe w0 nfp f3
  generalize hs4 : ({ s3 with heap := pushCells (s3.heap.push { cls := .type "dict", data := .dict #[] }) scope.names } : Shared) = s4 at I4 ⊢
  have st4 : s4.heap.IsListIter it a 0 := st3.at fun o e => by rw [← hs4]; exact pushCells_keeps _ _ _ _ (Heap.get?_push_of_some _ e)
  have P3 := I3.pin pq (List.mem_append_left _ hpq)
  have npq : pq.1 ≠ it := ((f3 it (by simp)).1.2.2.2.2.2 pq (List.mem_append_left _ hpq))
  have hotAt : ∀ {σ' : L2.St} {H' : Hp} {s' : Shared} {pp : List (Addr × Obj)}, Inv (X.blk s3 H3 scope ce [it]) pp σ' H' s' → HotAt X.A pq.1 s'.heap := fun {σ' H' s' pp} I' =>
    ⟨hh, pq.2, vq, I'.base.keep pq.1 pq.2 P3.1 P3.2.1 (fun hmm => (List.mem_cons.mp (I3.stkSub pq.1 hmm)).elim P3.2.2.1 P3.2.2.2.1) (by simpa using npq), dq, cq⟩
  have stat : ∀ {σ' : L2.St} {H' : Hp} {s' : Shared}, Inv (X.blk s3 H3 scope ce [it]) [] σ' H' s' → H' it = none → FpOk (X.blk s3 H3 scope ce [it]) [] H' it := fun {σ' H' s'} I' hn =>
    ⟨hn, (I'.ok.exf it (by simp)).1, I'.ok.exfs it (by simp), .inl (by simp), fun x c e => (I'.ok.exf it (by simp)).2 x c e, fun p hp => absurd (show p ∈ ([] : List (Addr × Obj)) ++ [] from hp) (by simp)⟩
  have loop : codeAny (model X.prog X.w) X.A (.compLoop (.ListComp elt [⟨tg, iter, ifs, 0⟩] scope pos) 0 (.ref it) (.ref D) ce) (compPost (model X.prog X.w) X.A X.xe none (EP X pins σ Q) (.ref D) s3.heap.objs.size) s4 := by
    refine compLoop_any (fun n s' => ∃ i H', Inv (X.blk s3 H3 scope ce [it]) [] (wipe σ (own.map (·.2))) H' s' ∧ s'.heap.IsListIter it a i ∧ H' it = none ∧ W i n H') ?_ m0 ⟨0, H3, I4, st4, nfp, w0⟩
    rintro n s5 ⟨i, H5, I5, st5, n5, w5⟩
    rcases turn i n H5 w5 with ⟨⟨xs, hq, hx⟩, qq⟩ | ⟨⟨xs, x, hq, hx⟩, Nx, hNx, step⟩
    · obtain ⟨its, rv, pl, hz⟩ := I5.list hq
      have hlen := rv.length
      refine list_end_hot (hotAt I5) st5 pl.isList (by simp; omega) fun h' eb => ?_
      obtain ⟨g0, g1, g2, g3, g4, g5⟩ := stat I5 n5
      have I6 : Inv (X.blk s3 H3 scope ce [it]) [] (wipe σ (own.map (·.2))) H5 { s5 with heap := h' } := I5.turned (t' := s5.toks) (fun b o hb e => eb b o hb e) g0 g1 g3 g4 g5
      have I7 : Inv X pins σ H5 { s5 with heap := h' } := I3.call' (ch := [it]) I6.os I6.base I6.hok I6.bare fun b hb => ⟨(f3 b hb).1.2.2.2.1, (f3 b hb).1.2.1, (f3 b hb).1.2.2.2.2.1, (f3 b hb).1.2.2.2.2.2⟩
      have nC : H5 s3.heap.objs.size = none := by
        have z : H5 ce.locals = none := I6.free
        rw [cL] at z
        exact z
      obtain ⟨m, hn, _⟩ := I6.loc
      have hn : ({ s5 with heap := h' } : Shared).heap.Ns ce.locals m := hn
      rw [cL] at hn
      obtain ⟨k0, k1, k2, k3, k4, k5⟩ := I3.fpOk (Nat.le_refl _) nC
      exact ⟨m, hn, fun h'' sb => ⟨.ref D, H5, I7.turned (t' := s5.toks) (fun b o hb e => (sb.2 b hb).trans e) k0 k1 k3 k4 k5, rfl, qq⟩⟩
    · obtain ⟨its, rv, pl, hz⟩ := I5.list hq
      obtain ⟨u, hu, ru⟩ := rv.get hx
      refine wpAny_pyNext_list_item st5 pl.isList (x := u) (by simpa using hu) fun h' st7 sb => ?_
      obtain ⟨g0, g1, g2, g3, g4, g5⟩ := stat I5 n5
      have I7 : Inv (X.blk s3 H3 scope ce [it]) [] (wipe σ (own.map (·.2))) H5 { s5 with heap := h' } := I5.turned (t' := s5.toks) (fun b o hb e => (sb.2 b hb).trans e) g0 g1 g3 g4 g5
      obtain ⟨oi, ei, ci, di⟩ := id st7
      refine go_of (s := { s5 with heap := h' }) ei ci di (by decide) ?_
      have I7' := I7.pinned (fp := [it]) (fun b hb => by
        have eb : b = it := by simpa using hb
        subst eb
        exact stat I7 n5) fun b hb => by
          have eb : b = it := by simpa using hb
          subst eb
          exact ⟨oi, ei, fun v z => by rw [di] at z; cases z⟩
      refine thnF (pg.run _ _ _ H5 x u _ pq.1 (hotAt I7) I7' ru (step x H5 ⟨rfl, fun ys hy => by rw [I5.list_inj hy hq]; exact hx⟩)) fun _ s8 ⟨σ8, H8, I8, hw8, q8⟩ => ?_
      refine thnF (pt.run _ s8 σ8 H8 _ I8 q8) fun b s9 ⟨H9, I9, q9⟩ => ?_
      have fin : ∀ {s' : Shared} {H' : Hp}, Inv (X.blk s3 H3 scope ce [it]) ([] ++ pinsAt [it] h') σ8 H' s' → Nx H' → ∃ m, m < n ∧ ∃ i H', Inv (X.blk s3 H3 scope ce [it]) [] (wipe σ (own.map (·.2))) H' s' ∧ s'.heap.IsListIter it a i ∧ H' it = none ∧ W i m H' := fun {s' H'} I' nx => by
        obtain ⟨m', hm, w'⟩ := hNx H' nx
        have pin' := I'.pin (it, oi) (List.mem_append_right _ (List.mem_append_right _ (mem_pinsAt (by simp) ei)))
        have hll : (wipe σ (own.map (·.2))).length = σ8.length := by rw [← hw8, wipe_length]
        refine ⟨m', hm, i + 1, H', (I'.unpinned (pins := [])).weak hll (fun j v e => ?_), st7.at fun o e => ?_, pin'.2.1, w'⟩
        · rw [← hw8] at e
          exact (wipe_some e).1
        · rw [ei] at e
          cases e
          exact pin'.1
      cases b with
      | false =>
        simp only [Bool.false_eq_true, if_false] at q9 ⊢
        exact fin I9 q9
      | true =>
        simp only [if_true] at q9 ⊢
        refine thnF (pe.run _ s9 σ8 H9 _ I9 q9) fun z s10 ⟨yv, H10, I10, r10, acc, hD10, hz10, nx⟩ => ?_
        exact app_ok (X := X.blk s3 H3 scope ce [it]) I10 hD10 hz10 r10 fun s11 I11 => fin I11 nx
  exact codeAny_compStart_list loop (wpAny_pyIter_listiter st4 loop)
end
end Z

/-! Z6: the hand layer's rules and what fits, at once. -/
namespace Z
open PySem PySem.Spec PyProof.Rows L2
abbrev Tb := List (Addr × Str)
/-- the class names that may be raised, the data of a context that a mirror needs -/
def fx (X : Cx) (T : Tb) : Fx := { K := X.K, mg := X.mg, T := T }
structure DE (X : Cx) (x : Fx) (W : WX) (e : Expr) (t : TE) (f : Vr → Store → R U) : Prop where
  pe : PE X e t
  fit : FitE x W t f
structure DT (X : Cx) (x : Fx) (W : WX) (e : Expr) (t : TT) (f : Vr → Store → R Bool) : Prop where
  pt : PT X e t
  fit : FitT x W t f
structure DW (X : Cx) (x : Fx) (W : WX) (e : Expr) (t : TT) (f : Vr → Store → R Bool) : Prop where
  pw : PW X e t
  fit : FitT x W t f
structure DA (X : Cx) (x : Fx) (W : WX) (es : List Expr) (t : TA) (f : Vr → Store → R (List U)) (n : Nat) : Prop where
  pa : PA X es t
  fit : FitA x W t f
  len : ∀ ρ S us S', f ρ S = .ok us S' → us.length = n
structure DS (X : Cx) (x : Fx) (W : WX) (st : Stmt) (t : TS) (g : Vr → Store → O) : Prop where
  ps : PS X st t
  fit : FitS x W t g
structure DB (X : Cx) (x : Fx) (W : WX) (st : List Stmt) (t : TS) (g : Vr → Store → O) : Prop where
  ps : PSs X st t
  fit : FitS x W t g
structure DG (X : Cx) (x : Fx) (tg : Expr) (t : TG) (a : U → Vr → Option Vr) : Prop where
  pg : PG X tg t
  fit : FitG x t a
structure DGs (X : Cx) (x : Fx) (tgs : List Expr) (t : TGs) (a : List D → Vr → Option Vr) : Prop where
  pg : PGs X tgs t
  fit : FitGs x t a
structure DI (X : Cx) (x : Fx) (W : WX) (tg iter : Expr) (t : TI) (f : Vr → Store → R (List D)) : Prop where
  pi : PI X tg iter t
  fit : FitI x W t f
section
variable {X : Cx} {x : Fx} {W : WX} {a b c e : Expr} {es : List Expr} {ta tb tc te : TE} {fa fb fc fe : Vr → Store → R U} {ts : TA} {fs : Vr → Store → R (List U)} {n : Nat} {pos p : Pos} {tt tu : TT} {ft fu : Vr → Store → R Bool}
/-! ### names, constants -/
theorem de_var (i : Nat) {y : Str} (hN : X.N[i]? = some y := by rfl) (hv : Vis X.env.scope y := by first | exact Or.inl rfl | exact Or.inr (Or.inl rfl) | exact Or.inr (Or.inr rfl)) (hd : (y == ("__debug__" : Str)) = false := by decide)
    (hcd : (y == ("__classdict__" : Str)) = false := by decide) : DE X x W (.Name y pos) (tVar i) (fVar i) := ⟨pe_var hN hv hd hcd, fit_var i⟩
theorem de_int {i : Int} {j : Nat} : DE X x W (.Constant (.int i) j pos) (tC (.int i)) (fC (.d (.int i))) := ⟨pe_int, fit_int i⟩
theorem de_bl {i : Bool} {j : Nat} : DE X x W (.Constant (.bool i) j pos) (tC (.bl i)) (fC (.d (.bool i))) := ⟨pe_bl, fit_bl i⟩
theorem de_non {j : Nat} : DE X x W (.Constant .none j pos) (tC .non) (fC (.d .none)) := ⟨pe_non, fit_non⟩
theorem de_str {z : Str} {j : Nat} : DE X x W (.Constant (.str z) j pos) (tC (.str z)) (fC (.d (.str z))) := ⟨pe_str, fit_str z⟩
/-- a module's constant -/
theorem de_gint {y : Str} {i : Int} (hm : ∃ t, X.mg y = some (.int i t)) (hg : Gl X y := by rfl) (hd : (y == ("__debug__" : Str)) = false := by decide) : DE X x W (.Name y pos) (tC (.int i)) (fC (.d (.int i))) := by
  obtain ⟨t, h⟩ := hm
  exact ⟨pe_glob hg h ⟨t, rfl⟩ hd, fit_int i⟩
theorem de_gtup {y : Str} {A : Addr} {ds : List D} (hm : X.mg y = some (.ref A)) (hi : ∀ F, Is x.K F (.ref A) (.tuple ds)) (hg : Gl X y := by rfl) (hd : (y == ("__debug__" : Str)) = false := by decide) : DE X x W (.Name y pos) (tC (.ref A)) (fC (.d (.tuple ds))) :=
  ⟨pe_glob hg hm rfl hd, fit_c fun _ F _ => hi F⟩
theorem de_gcls {y : Str} {A : Addr} (hx : x.mg = X.mg) (hm : X.mg y = some (.ref A)) (hg : Gl X y := by rfl) (hd : (y == ("__debug__" : Str)) = false := by decide) : DE X x W (.Name y pos) (tC (.ref A)) (fC (.cls y)) :=
  ⟨pe_glob hg hm rfl hd, fit_c fun _ _ _ => ⟨A, rfl, by rw [hx]; exact hm⟩⟩
theorem de_ty {y : Str} {T : String} (hm : X.mg y = none) (hv : bootBuiltins y = some (.type T) := by decide +kernel) (hg : Gl X y := by rfl) (hn : y ≠ "__name__" := by decide) (hd : (y == ("__debug__" : Str)) = false := by decide) : DE X x W (.Name y pos) (tC (.ty T)) (fC (.ty T)) :=
  ⟨pe_bltn hg hm hv rfl hn hd, fit_c fun _ _ _ => rfl⟩
/-! ### argument lists, displays -/
theorem da_nil : DA X x W [] tNil fNil 0 := ⟨pa_nil, fit_nil, fl_nil⟩
theorem da_cons (h : DE X x W e te fe) (hs : DA X x W es ts fs n) (he : starEach (e :: es) X.env = (false, eval e X.env) :: starEach es X.env := by rfl) : DA X x W (e :: es) (tCons te ts) (fCons fe fs) (n + 1) :=
  ⟨pa_cons h.pe hs.pa he, fit_cons h.fit hs.fit, fl_cons hs.len⟩
theorem de_tup {k : Nat} (h : DA X x W es ts fs n) : DE X x W (.Tuple es k pos) (tTup ts) (fN mkTup fs) := ⟨pe_tup h.pa, fit_tup h.fit⟩
theorem de_lst (h : DA X x W es ts fs n) : DE X x W (.List es pos) (tLst ts) (fN mkLst fs) := ⟨pe_lst h.pa, fit_lst h.fit⟩
theorem de_loc (h : DA X x W es ts fs n) : DE X x W (.List es pos) (tLst ts) (fN mkLoc fs) := ⟨pe_lst h.pa, fit_loc h.fit⟩
/-! ### operators -/
theorem de_op {op : Operator} {r : R2} {g : U → U → Store → R U} (ho : OpR X (binaryOp op) r) (hr : Fit2 x r g) (ha : DE X x W a ta fa) (hb : DE X x W b tb fb) : DE X x W (.BinOp a op b pos) (tOp r ta tb) (f2 g fa fb) := ⟨pe_op ho ha.pe hb.pe, fit_op hr ha.fit hb.fit⟩
theorem de_add (hK : x.K = X.K) (ha : DE X x W a ta fa) (hb : DE X x W b tb fb) : DE X x W (.BinOp a .Add b pos) (tOp (rAddA X.K) ta tb) (f2 uAdd fa fb) := de_op op_addA (hK ▸ fit_addA) ha hb
theorem de_sub (ha : DE X x W a ta fa) (hb : DE X x W b tb fb) : DE X x W (.BinOp a .Sub b pos) (tOp (rI0 fun i j => .int (i - j)) ta tb) (f2 uSub fa fb) := de_op op_sub fit_sub ha hb
theorem de_mul (ha : DE X x W a ta fa) (hb : DE X x W b tb fb) : DE X x W (.BinOp a .Mult b pos) (tOp rMulU ta tb) (f2 uMul fa fb) := de_op op_mulU fit_mulU ha hb
theorem de_div (ha : DE X x W a ta fa) (hb : DE X x W b tb fb) : DE X x W (.BinOp a .FloorDiv b pos) (tOp rDivU ta tb) (f2 uDiv fa fb) := de_op op_divU fit_divU ha hb
theorem de_mod (ha : DE X x W a ta fa) (hb : DE X x W b tb fb) : DE X x W (.BinOp a .Mod b pos) (tOp rModU ta tb) (f2 uMod fa fb) := de_op op_modU fit_modU ha hb
theorem de_pow (ha : DE X x W a ta fa) (hb : DE X x W b tb fb) : DE X x W (.BinOp a .Pow b pos) (tOp (L2.rI CPow fun i j => .int (i ^ j.toNat)) ta tb) (f2 uPow fa fb) := de_op op_pow fit_powU ha hb
theorem de_neg (ha : DE X x W a ta fa) : DE X x W (.UnaryOp .USub a pos) (tUn (L2.rU fun i => .int (-i)) ta) (f1 uNeg fa) := ⟨pe_un un_neg ha.pe, fit_un fit_negU ha.fit⟩
/-! ### comparisons -/
structure CmpOk (X : Cx) (x : Fx) (op : CmpOp) (r : R2) (g : U → U → Store → R U) : Prop where
  op : OpR X (compareOp op) r
  fit : Fit2 x r g
theorem c_eq (hK : x.K = X.K) (hu : X.A.units + 64 < cLine) : CmpOk X x .Eq (rEqD X.K) uEq := ⟨op_eqD hu, hK ▸ fit_eqU⟩
theorem c_ne (hK : x.K = X.K) (hu : X.A.units + 64 < cLine) : CmpOk X x .NotEq (rNeD X.K) uNe := ⟨op_neD hu, hK ▸ fit_neU⟩
theorem c_lt : CmpOk X x .Lt (rI0 fun i j => .bl (decide (i < j))) uLt := ⟨op_lt, fit_ltU⟩
theorem c_le : CmpOk X x .LtE (rI0 fun i j => .bl (decide (i ≤ j))) uLe := ⟨op_le, fit_leU⟩
theorem c_gt : CmpOk X x .Gt (rI0 fun i j => .bl (decide (j < i))) uGt := ⟨op_gt, fit_gtU⟩
theorem c_ge : CmpOk X x .GtE (rI0 fun i j => .bl (decide (j ≤ i))) uGe := ⟨op_ge, fit_geU⟩
theorem de_cmp {op : CmpOp} {r : R2} {g : U → U → Store → R U} (h : CmpOk X x op r g) (ha : DE X x W a ta fa) (hb : DE X x W b tb fb) (hm : behindInMarks op b = false := by exact nomark _) : DE X x W (.Compare a [op] [b] pos) (tOp r ta tb) (f2 g fa fb) :=
  ⟨pe_cmpR h.op ha.pe hb.pe hm, fit_op h.fit ha.fit hb.fit⟩
theorem dt_cmp {op : CmpOp} {r : R2} {g : U → U → Store → R U} (h : CmpOk X x op r g) (ha : DE X x W a ta fa) (hb : DE X x W b tb fb) (hm : behindInMarks op b = false := by exact nomark _) : DT X x W (.Compare a [op] [b] pos) (tTest (tOp r ta tb)) (fTst (f2 g fa fb)) :=
  ⟨pt_cmpR h.op ha.pe hb.pe hm, fit_tst (fit_op h.fit ha.fit hb.fit)⟩
theorem de_chain {op op' : CmpOp} {r r' : R2} {g g' : U → U → Store → R U} (h : CmpOk X x op r g) (h' : CmpOk X x op' r' g') (ha : DE X x W a ta fa) (hb : DE X x W b tb fb) (hc : DE X x W c tc fc) (hm : lastMarks [op, op'] [b, c] = false := by with_unfolding_all rfl) :
    DE X x W (.Compare a [op, op'] [b, c] pos) (tChain r r' ta tb tc) (fChain g g' fa fb fc) := ⟨pe_chain h.op h'.op ha.pe hb.pe hc.pe hm, fit_chain h.fit h'.fit ha.fit hb.fit hc.fit⟩
theorem dt_chain {op op' : CmpOp} {r r' : R2} {g g' : U → U → Store → R U} (h : CmpOk X x op r g) (h' : CmpOk X x op' r' g') (ha : DE X x W a ta fa) (hb : DE X x W b tb fb) (hc : DE X x W c tc fc) (hm : lastMarks [op, op'] [b, c] = false := by with_unfolding_all rfl) :
    DT X x W (.Compare a [op, op'] [b, c] pos) (tTest (tChain r r' ta tb tc)) (fTst (fChain g g' fa fb fc)) := ⟨pt_chain h.op h'.op ha.pe hb.pe hc.pe hm, fit_tst (fit_chain h.fit h'.fit ha.fit hb.fit hc.fit)⟩
@[simp] def uIsN1 (u : U) (S : Store) : R U := .ok (.d (.bool (isNone u))) S
@[simp] def uNotN1 (u : U) (S : Store) : R U := .ok (.d (.bool (!isNone u))) S
theorem fit_isN (ha : FitE x W ta fa) : FitE x W (tIsN ta) (f1 uIsN1 fa) := by
  intro α F ρ S σ H r0 s Q q
  refine ha.bind r0 s q fun α1 F1 S1 H1 v u e1 r1 s1 i1 p1 => ?_
  rw [show decide (v = .non) = isNone u from isNone_ok i1]
  exact ok_here r1 p1 (.bl _)
theorem fit_notN (ha : FitE x W ta fa) : FitE x W (tNotN ta) (f1 uNotN1 fa) := by
  intro α F ρ S σ H r0 s Q q
  refine ha.bind r0 s q fun α1 F1 S1 H1 v u e1 r1 s1 i1 p1 => ?_
  rw [show decide (v = .non) = isNone u from isNone_ok i1]
  exact ok_here r1 p1 (.bl _)
theorem de_isN {j : Nat} (ha : DE X x W a ta fa) : DE X x W (.Compare a [.Is] [.Constant .none j p] pos) (tIsN ta) (f1 uIsN1 fa) := ⟨pe_cmp (pc_isN ha.pe), fit_isN ha.fit⟩
theorem de_notN {j : Nat} (ha : DE X x W a ta fa) : DE X x W (.Compare a [.IsNot] [.Constant .none j p] pos) (tNotN ta) (f1 uNotN1 fa) := ⟨pe_cmp (pc_notN ha.pe), fit_notN ha.fit⟩
theorem dt_isN {j : Nat} (ha : DE X x W a ta fa) : DT X x W (.Compare a [.Is] [.Constant .none j p] pos) (tB (tIsN ta)) (fTst (f1 uIsN1 fa)) := ⟨pt_cmp (pc_isN ha.pe), fit_tB (fit_isN ha.fit)⟩
theorem dt_notN {j : Nat} (ha : DE X x W a ta fa) : DT X x W (.Compare a [.IsNot] [.Constant .none j p] pos) (tB (tNotN ta)) (fTst (f1 uNotN1 fa)) := ⟨pt_cmp (pc_notN ha.pe), fit_tB (fit_notN ha.fit)⟩
/-! ### and, or, not; conditional -/
theorem de_one {op : BoolOp} (h : DE X x W a ta fa) : DE X x W (.BoolOp op [a] pos) ta fa := ⟨pe_one h.pe, h.fit⟩
theorem de_and (ha : DE X x W a ta fa) (hb : DE X x W (.BoolOp .And (b :: es) pos) tb fb) : DE X x W (.BoolOp .And (a :: b :: es) pos) (tAndV ta tb) (fAndV fa fb) := ⟨pe_and ha.pe hb.pe, fit_andV ha.fit hb.fit⟩
theorem de_or (ha : DE X x W a ta fa) (hb : DE X x W (.BoolOp .Or (b :: es) pos) tb fb) : DE X x W (.BoolOp .Or (a :: b :: es) pos) (tOrV ta tb) (fOrV fa fb) := ⟨pe_or ha.pe hb.pe, fit_orV ha.fit hb.fit⟩
theorem de_not (ha : DE X x W a ta fa) : DE X x W (.UnaryOp .Not a pos) (tNotV ta) (fNotV fa) := ⟨pe_not ha.pe, fit_notV ha.fit⟩
theorem dw_and1 (h : DT X x W a tt ft) : DW X x W (.BoolOp .And [a] pos) tt ft := ⟨pw_and1 h.pt, h.fit⟩
theorem dw_or1 (h : DT X x W a tt ft) : DW X x W (.BoolOp .Or [a] pos) tt ft := ⟨pw_or1 h.pt, h.fit⟩
theorem dw_and (ha : DT X x W a tt ft) (hb : DW X x W (.BoolOp .And (b :: es) pos) tu fu) : DW X x W (.BoolOp .And (a :: b :: es) pos) (tAnd tt tu) (fAndT ft fu) := ⟨pw_and ha.pt hb.pw, fit_and ha.fit hb.fit⟩
theorem dw_or (ha : DT X x W a tt ft) (hb : DW X x W (.BoolOp .Or (b :: es) pos) tu fu) : DW X x W (.BoolOp .Or (a :: b :: es) pos) (tOr tt tu) (fOrT ft fu) := ⟨pw_or ha.pt hb.pw, fit_or ha.fit hb.fit⟩
theorem dt_w (h : DW X x W a tt ft) : DT X x W a tt ft := ⟨h.pw.pt, h.fit⟩
theorem dt_not (h : DT X x W a tt ft) : DT X x W (.UnaryOp .Not a pos) (tNot tt) (fNotT ft) := ⟨pt_not h.pt, fit_not h.fit⟩
theorem dt_val (h : DE X x W e te fe) (he : ∀ whole, isTrue e X.env whole = (do let v ← whole; standAt e.pos; holding [v] (truthy v)) := by intro _; rfl) : DT X x W e (tB te) (fTst fe) := ⟨pt_val h.pe he, fit_tB h.fit⟩
theorem de_if (hc : DT X x W c tt ft) (ha : DE X x W a ta fa) (hb : DE X x W b tb fb) : DE X x W (.IfExp c a b pos) (tIf tt ta tb) (fIf ft fa fb) := ⟨pe_ifExp hc.pt ha.pe hb.pe, fit_if hc.fit ha.fit hb.fit⟩
/-! ### subscripts, calls of built-ins -/
theorem de_ix (hK : x.K = X.K) (ha : DE X x W a ta fa) (hb : DE X x W b tb fb) (hs : PlainIx b := by exact fun _ _ => rfl) : DE X x W (.Subscript a b pos) (tOp (rIx X.K) ta tb) (f2 uIx fa fb) := ⟨pe_ix ix_seq ha.pe hb.pe hs, fit_op (hK ▸ fit_ixU) ha.fit hb.fit⟩
theorem de_callB {y : Str} {id : String} {r : List V → Hp → VK → Prop} {g : List U → Store → R U} (hc : CallR X (.builtin id) r) (hr : FitN x r g) (hm : X.mg y = none) (hv : bootBuiltins y = some (.builtin id)) (ha : DA X x W (e :: es) ts fs n) (hg : Gl X y := by rfl) (hn : y ≠ "__name__" := by decide)
    (hdb : (y == ("__debug__" : Str)) = false := by decide) (he : starEach (e :: es) X.env = (false, eval e X.env) :: starEach es X.env := by rfl) (hpl : (backTo pos (starEach es X.env)).any (·.1) = false := by rfl) : DE X x W (.Call (.Name y p) (e :: es) [] pos) (tCB r ts) (fN g fs) :=
  ⟨pe_callB hc hg hm hv ha.pa hn hdb he hpl, fit_cb hr ha.fit⟩
theorem de_callTy {y : Str} {T : String} {r : List V → Hp → VK → Prop} {g : List U → Store → R U} (hc : CallR X (.type T) r) (hr : FitN x r g) (hm : X.mg y = none) (hv : bootBuiltins y = some (.type T)) (ha : DA X x W (e :: es) ts fs n) (hg : Gl X y := by rfl) (hn : y ≠ "__name__" := by decide)
    (hdb : (y == ("__debug__" : Str)) = false := by decide) (he : starEach (e :: es) X.env = (false, eval e X.env) :: starEach es X.env := by rfl) (hpl : (backTo pos (starEach es X.env)).any (·.1) = false := by rfl) : DE X x W (.Call (.Name y p) (e :: es) [] pos) (tCB r ts) (fN g fs) :=
  ⟨pe_callTy hc hg hm hv ha.pa hn hdb he hpl, fit_cb hr ha.fit⟩
theorem de_len (hK : x.K = X.K) (hm : X.mg "len" = none) (ha : DA X x W (e :: es) ts fs n) (hg : Gl X "len" := by rfl) (he : starEach (e :: es) X.env = (false, eval e X.env) :: starEach es X.env := by rfl) (hpl : (backTo pos (starEach es X.env)).any (·.1) = false := by rfl) :
    DE X x W (.Call (.Name "len" p) (e :: es) [] pos) (tCB (fun xs H Q => ∃ y n, xs = [y] ∧ LenV X.K y H n ∧ Q (.int n) H) ts) (fN uLen fs) := de_callB call_len (hK ▸ fit_lenU) hm PySem.boot_len ha hg (by decide) (by decide) he hpl
theorem de_intc (hm : X.mg "int" = none) (ha : DA X x W (e :: es) ts fs n) (hg : Gl X "int" := by rfl) (he : starEach (e :: es) X.env = (false, eval e X.env) :: starEach es X.env := by rfl) (hpl : (backTo pos (starEach es X.env)).any (·.1) = false := by rfl) :
    DE X x W (.Call (.Name "int" p) (e :: es) [] pos) (tCB (fun xs H Q => (∃ i, xs = [.int i] ∧ Q (.int i) H) ∨ ∃ k, xs = [.bl k] ∧ Q (.int (if k then 1 else 0)) H) ts) (fN uInt fs) := de_callTy call_int1 fit_intU hm boot_int ha hg (by decide) (by decide) he hpl
theorem de_max2 (hc : X.calm = true) (hm : X.mg "max" = none) (ha : DA X x W (e :: es) ts fs n) (hg : Gl X "max" := by rfl) (he : starEach (e :: es) X.env = (false, eval e X.env) :: starEach es X.env := by rfl) (hpl : (backTo pos (starEach es X.env)).any (·.1) = false := by rfl) :
    DE X x W (.Call (.Name "max" p) (e :: es) [] pos) (tCB (fun xs H Q => ∃ i j, xs = [.int i, .int j] ∧ Q (.int (if j > i then j else i)) H) ts) (fN uMax fs) := de_callB (call_max2 hc) fit_maxU hm boot_max ha hg (by decide) (by decide) he hpl
theorem de_min2 (hc : X.calm = true) (hm : X.mg "min" = none) (ha : DA X x W (e :: es) ts fs n) (hg : Gl X "min" := by rfl) (he : starEach (e :: es) X.env = (false, eval e X.env) :: starEach es X.env := by rfl) (hpl : (backTo pos (starEach es X.env)).any (·.1) = false := by rfl) :
    DE X x W (.Call (.Name "min" p) (e :: es) [] pos) (tCB (fun xs H Q => ∃ i j, xs = [.int i, .int j] ∧ Q (.int (if j < i then j else i)) H) ts) (fN uMin fs) := de_callB (call_min2 hc) fit_minU hm boot_min ha hg (by decide) (by decide) he hpl
theorem de_isi (hK : x.K = X.K) (hm : X.mg "isinstance" = none) (ha : DA X x W (e :: es) ts fs n) (hg : Gl X "isinstance" := by rfl) (he : starEach (e :: es) X.env = (false, eval e X.env) :: starEach es X.env := by rfl) (hpl : (backTo pos (starEach es X.env)).any (·.1) = false := by rfl) :
    DE X x W (.Call (.Name "isinstance" p) (e :: es) [] pos) (tCB (rIsi X.K) ts) (fN uIsi fs) := de_callB call_isi (hK ▸ fit_isiU) hm boot_isinstance ha hg (by decide) (by decide) he hpl
theorem de_gcd (hm : X.mg "gcd" = some (.builtin "math.gcd")) (ha : DA X x W (e :: es) ts fs n) (hg : Gl X "gcd" := by rfl) (he : starEach (e :: es) X.env = (false, eval e X.env) :: starEach es X.env := by rfl) (hpl : (backTo pos (starEach es X.env)).any (·.1) = false := by rfl) :
    DE X x W (.Call (.Name "gcd" p) (e :: es) [] pos) (tCB rGcd ts) (fN uGcd fs) := ⟨pe_callBfun cr_gcd hg hm ha.pa (by decide) he hpl, fit_cb fit_gcdU ha.fit⟩
/-! ### methods of lists and texts -/
def fM (g : U → List U → Store → R U) (fo : Vr → Store → R U) (fs : Vr → Store → R (List U)) : Vr → Store → R U := fun ρ S => (fo ρ S).bind fun u S1 => (fs ρ S1).bind fun us S2 => g u us S2
/-- a list whose method is asked -/
def isL (u : U) (S : Store) : Bool := (viewL u S).isSome
@[simp] def fML (g : U → List U → Store → R U) (fo : Vr → Store → R U) (fs : Vr → Store → R (List U)) : Vr → Store → R U := fun ρ S => (fo ρ S).bind fun u S1 => if isL u S1 = true then (fs ρ S1).bind fun us S2 => g u us S2 else .bad
def isS : U → Bool
  | .d (.str _) => true
  | _ => false
def fMS (g : U → List U → Store → R U) (fo : Vr → Store → R U) (fs : Vr → Store → R (List U)) : Vr → Store → R U := fun ρ S => (fo ρ S).bind fun u S1 => if isS u = true then (fs ρ S1).bind fun us S2 => g u us S2 else .bad
def FitM (x : Fx) (r : V → List V → Hp → VK → Prop) (g : U → List U → Store → R U) : Prop := ∀ W α F S σ H v u vs us, Rep x α F S H → IsU x α F S.length v u → IsUs x α F S.length vs us → ∀ Q, Post zU x W α F S σ Q (g u us S) → r v vs H Q
theorem fit_mL {r : V → List V → Hp → VK → Prop} {g : U → List U → Store → R U} (hr : FitM x r g) (ho : FitE x W te fe) (hs : FitA x W ts fs) : FitE x W (tBM x.K "list" r te ts) (fML g fe fs) := by
  intro α F ρ S σ H r0 s Q q
  refine ho.bind r0 s q fun α1 F1 S1 H1 v u e1 r1 s1 i1 p1 => ?_
  split at p1
  · rename_i hl
    unfold isL at hl
    cases ev : viewL u S1 with
    | none => rw [ev] at hl; cases hl
    | some xs =>
      obtain ⟨A, vs, rfl, h1, _⟩ := viewL_ok r1 i1 ev
      refine ⟨.inl ⟨rfl, vs, h1⟩, hs.bind r1 s1 p1 fun α2 F2 S2 H2 ws us e2 r2 s2 i2 p2 => ?_⟩
      exact hr W α2 F2 S2 σ H2 _ u ws us r2 (IsU.ext e2 i1) i2 Q p2
  · exact p1.elim
theorem fit_mL0 {r : V → List V → Hp → VK → Prop} {g : U → List U → Store → R U} (hr : FitM x r g) (ho : FitE x W te fe) : FitE x W (tBM0 x.K "list" r te) (fML g fe fNil) := by
  intro α F ρ S σ H r0 s Q q
  refine ho.bind r0 s q fun α1 F1 S1 H1 v u e1 r1 s1 i1 p1 => ?_
  split at p1
  · rename_i hl
    unfold isL at hl
    cases ev : viewL u S1 with
    | none => rw [ev] at hl; cases hl
    | some xs =>
      obtain ⟨A, vs, rfl, h1, _⟩ := viewL_ok r1 i1 ev
      exact ⟨.inl ⟨rfl, vs, h1⟩, hr W α1 F1 S1 σ H1 _ u [] [] r1 i1 .nil Q p1⟩
  · exact p1.elim
theorem fit_mS {r : V → List V → Hp → VK → Prop} {g : U → List U → Store → R U} (hr : FitM x r g) (ho : FitE x W te fe) (hs : FitA x W ts fs) : FitE x W (tBM x.K "str" r te ts) (fMS g fe fs) := by
  intro α F ρ S σ H r0 s Q q
  refine ho.bind r0 s q fun α1 F1 S1 H1 v u e1 r1 s1 i1 p1 => ?_
  split at p1
  · rename_i hl
    unfold isS at hl
    split at hl
    · rename_i z
      have j1 : Is x.K F1 v (.str z) := i1
      cases j1
      refine ⟨rfl, hs.bind r1 s1 p1 fun α2 F2 S2 H2 ws us e2 r2 s2 i2 p2 => ?_⟩
      exact hr W α2 F2 S2 σ H2 _ _ ws us r2 (IsU.ext (u := .d (.str z)) e2 i1) i2 Q p2
    · cases hl
  · exact p1.elim
def uApp (u : U) (us : List U) (S : Store) : R U := match u, us with
  | .loc l, [w] => (match frz w S with
    | some (y, S1) => (match S1[l]? with
      | some (some ds) => if ds.length < 1000000 then .ok (.d .none) (S1.set l (some (ds ++ [y]))) else .bad
      | _ => .bad)
    | none => .bad)
  | _, _ => .bad
def uExt (u : U) (us : List U) (S : Store) : R U := match u, us with
  | .loc l, [w] => (match viewM w S with
    | some ys => (match S[l]? with
      | some (some ds) => if ds.length + ys.length ≤ 1000000 then .ok (.d .none) (S.set l (some (ds ++ ys))) else .bad
      | _ => .bad)
    | none => .bad)
  | _, _ => .bad
def uPop (u : U) (us : List U) (S : Store) : R U := match u, us with
  | .loc l, [] => (match S[l]? with
    | some (some ds) => (match ds[ds.length - 1]? with
      | some y => .ok (.d y) (S.set l (some ds.dropLast))
      | none => .bad)
    | _ => .bad)
  | _, _ => .bad
def strsD : List D → Option (List Str)
  | [] => some []
  | .str z :: ds => (strsD ds).map (z :: ·)
  | _ => none
def uJoin (u : U) (us : List U) (S : Store) : R U := match u, us with
  | .d (.str a), [w] => (match viewM w S with
    | some ys => (match strsD ys with
      | some zs => if (zs.map (·.length)).sum + zs.length * a.length ≤ 16777216 then .ok (.d (.str (Txt.join a zs))) S else .bad
      | none => .bad)
    | none => .bad)
  | _, _ => .bad
theorem is_loc {α : Nat → Addr} {F : Hp} {m : Nat} {v : V} {l : Nat} (h : IsU x α F m v (.loc l)) : v = .ref (α l) ∧ l < m := h
theorem IsAll.one {K : PySem.W.Frag} {F : Hp} {v : V} {y : D} (h : Is K F v y) : IsAll K F [v] [y] := .cons h .nil
theorem fit_app : FitM x rAppend uApp := by
  intro W α F S σ H v u vs us r i1 i2 Q q
  unfold uApp at q
  split at q
  · rename_i l w
    obtain ⟨v2, rfl, i3⟩ := us1 i2
    split at q
    · rename_i y S1 hf
      obtain ⟨F1, r1, e1, j1⟩ := frz_ok r i3 hf
      split at q
      · rename_i ds hl
        obtain ⟨c1, ws, c2, c3⟩ := r1.cell l ds hl
        split at q
        · rename_i hz
          obtain ⟨rfl, _⟩ := is_loc i1
          obtain ⟨r2, e2⟩ := r1.write hl (c3.append (.one j1))
          exact ⟨_, ws, v2, rfl, rfl, c2, lt_line (by rw [c3.length]; exact hz), q _ _ _ _ (e1.trans e2) r2 .non⟩
        · exact q.elim
      · exact q.elim
    · exact q.elim
  · exact q.elim
theorem fit_ext : FitM x rExtend uExt := by
  intro W α F S σ H v u vs us r i1 i2 Q q
  unfold uExt at q
  split at q
  · rename_i l w
    obtain ⟨v2, rfl, i3⟩ := us1 i2
    split at q
    · rename_i ys hy
      obtain ⟨A, zs, rfl, h1, h2⟩ := viewM_ok r i3 hy
      split at q
      · rename_i ds hl
        obtain ⟨c1, ws, c2, c3⟩ := r.cell l ds hl
        split at q
        · rename_i hz
          obtain ⟨rfl, _⟩ := is_loc i1
          obtain ⟨r2, e2⟩ := r.write hl (c3.append h2)
          exact ⟨_, A, ws, zs, rfl, rfl, c2, h1, le_line (by rw [c3.length, h2.length]; exact hz), q _ _ _ _ e2 r2 .non⟩
        · exact q.elim
      · exact q.elim
    · exact q.elim
  · exact q.elim
theorem IsAll.dropLast {K : PySem.W.Frag} {F : Hp} {vs : List V} {ds : List D} (h : IsAll K F vs ds) : IsAll K F vs.dropLast ds.dropLast := by
  rw [List.dropLast_eq_take, List.dropLast_eq_take, h.length]
  exact h.take _
theorem fit_pop : FitM x rPop uPop := by
  intro W α F S σ H v u vs us r i1 i2 Q q
  unfold uPop at q
  split at q
  · rename_i l
    cases i2
    split at q
    · rename_i ds hl
      obtain ⟨c1, ws, c2, c3⟩ := r.cell l ds hl
      split at q
      · rename_i y hy
        obtain ⟨z, h1, h2⟩ := c3.get hy
        obtain ⟨rfl, _⟩ := is_loc i1
        obtain ⟨r2, e2⟩ := r.write hl c3.dropLast
        exact ⟨_, ws, z, rfl, rfl, c2, by rw [c3.length]; exact h1, q _ _ _ _ e2 r2 h2⟩
      · exact q.elim
    · exact q.elim
  · exact q.elim
theorem strsD_ok {K : PySem.W.Frag} {F : Hp} : ∀ {ds : List D} {vs : List V} {zs : List Str}, IsAll K F vs ds → strsD ds = some zs → vs = zs.map V.str
  | [], _, _, h, e => by
    cases h
    cases e
    rfl
  | .str z :: ds, _, _, h, e => by
    cases h with
    | cons h1 h2 =>
      cases h1
      unfold strsD at e
      cases q : strsD ds with
      | none => rw [q] at e; cases e
      | some ws =>
        rw [q] at e
        cases e
        rw [strsD_ok h2 q, List.map_cons]
  | .none :: _, _, _, _, e => by cases e
  | .bool _ :: _, _, _, _, e => by cases e
  | .int _ :: _, _, _, _, e => by cases e
  | .list _ :: _, _, _, _, e => by cases e
  | .tuple _ :: _, _, _, _, e => by cases e
  | .dict _ :: _, _, _, _, e => by cases e
theorem fit_join : FitM x (fun y xs H Q => ∃ a p, ∃ ys : List Str, y = .str a ∧ xs = [.ref p] ∧ (SqL x.K H p (ys.map V.str) ∨ SqT x.K H p (ys.map V.str)) ∧ (ys.map (·.length)).sum + ys.length * a.length ≤ 16777216 ∧ Q (.str (Txt.join a ys)) H) uJoin := by
  intro W α F S σ H v u vs us r i1 i2 Q q
  unfold uJoin at q
  split at q
  · rename_i a w
    have j1 : Is x.K F v (.str a) := i1
    cases j1
    obtain ⟨v2, rfl, i3⟩ := us1 i2
    split at q
    · rename_i ys hy
      obtain ⟨A, zs, rfl, h1, h2⟩ := viewM_ok r i3 hy
      split at q
      · rename_i ws hs
        split at q
        · rename_i hz
          have e := strsD_ok h2 hs
          subst e
          exact ⟨a, A, ws, rfl, rfl, .inl (SqL.of h1), hz, ok_here r q (.str _)⟩
        · exact q.elim
      · exact q.elim
    · exact q.elim
  · exact q.elim
section
variable {o : Expr} {apos cpos : Pos}
theorem de_append (hK : x.K = X.K) (ho : DE X x W o te fe) (ha : DA X x W (e :: es) ts fs n) (hbase : attributeBase o "append" X.env (eval o X.env) = eval o X.env := by rfl)
    (hfew : ((backTo cpos (starEach (e :: es) X.env)).all (fun x => !x.1) && (backToKw cpos (keywordEach [] X.env)).all (fun x => x.1.isSome) && decide ((e :: es).length + ([] : List Keyword).length + (if ([] : List Keyword).isEmpty then 0 else 1) < 30)) = true := by rfl)
    (hline : (apos.endLine == cpos.line) = true := by rfl) (hs : starEach (e :: es) X.env = (false, eval e X.env) :: starEach es X.env := by rfl) (hplain : (backTo cpos (starEach es X.env)).any (·.1) = false := by rfl) :
    DE X x W (.Call (.Attribute o "append" apos) (e :: es) [] cpos) (tBM x.K "list" rAppend te ts) (fML uApp fe fs) :=
  ⟨hK ▸ pe_bm PySem.F.plainAttrs_list PySem.F.slot_list_append PySem.F.type_list_append mt_append ho.pe ha.pa hbase hfew hline hs hplain, fit_mL fit_app ho.fit ha.fit⟩
theorem de_extend (hK : x.K = X.K) (ho : DE X x W o te fe) (ha : DA X x W (e :: es) ts fs n) (hbase : attributeBase o "extend" X.env (eval o X.env) = eval o X.env := by rfl)
    (hfew : ((backTo cpos (starEach (e :: es) X.env)).all (fun x => !x.1) && (backToKw cpos (keywordEach [] X.env)).all (fun x => x.1.isSome) && decide ((e :: es).length + ([] : List Keyword).length + (if ([] : List Keyword).isEmpty then 0 else 1) < 30)) = true := by rfl)
    (hline : (apos.endLine == cpos.line) = true := by rfl) (hs : starEach (e :: es) X.env = (false, eval e X.env) :: starEach es X.env := by rfl) (hplain : (backTo cpos (starEach es X.env)).any (·.1) = false := by rfl) :
    DE X x W (.Call (.Attribute o "extend" apos) (e :: es) [] cpos) (tBM x.K "list" rExtend te ts) (fML uExt fe fs) :=
  ⟨hK ▸ pe_bm PySem.F.plainAttrs_list PySem.F.slot_list_extend PySem.F.type_list_extend mt_extend ho.pe ha.pa hbase hfew hline hs hplain, fit_mL fit_ext ho.fit ha.fit⟩
theorem de_pop (hK : x.K = X.K) (ho : DE X x W o te fe) (hbase : attributeBase o "pop" X.env (eval o X.env) = eval o X.env := by rfl) (hline : (apos.endLine == cpos.line) = true := by rfl) :
    DE X x W (.Call (.Attribute o "pop" apos) [] [] cpos) (tBM0 x.K "list" rPop te) (fML uPop fe fNil) :=
  ⟨hK ▸ pe_bm0 PySem.F.plainAttrs_list PySem.F.slot_list_pop PySem.F.type_list_pop mt_pop ho.pe hbase hline, fit_mL0 fit_pop ho.fit⟩
theorem de_join (hK : x.K = X.K) (ho : DE X x W o te fe) (ha : DA X x W (e :: es) ts fs n) (hbase : attributeBase o "join" X.env (eval o X.env) = eval o X.env := by rfl)
    (hfew : ((backTo cpos (starEach (e :: es) X.env)).all (fun x => !x.1) && (backToKw cpos (keywordEach [] X.env)).all (fun x => x.1.isSome) && decide ((e :: es).length + ([] : List Keyword).length + (if ([] : List Keyword).isEmpty then 0 else 1) < 30)) = true := by rfl)
    (hline : (apos.endLine == cpos.line) = true := by rfl) (hs : starEach (e :: es) X.env = (false, eval e X.env) :: starEach es X.env := by rfl) (hplain : (backTo cpos (starEach es X.env)).any (·.1) = false := by rfl) :
    DE X x W (.Call (.Attribute o "join" apos) (e :: es) [] cpos) (tBM x.K "str" (fun y xs H Q => ∃ a p, ∃ ys : List Str, y = .str a ∧ xs = [.ref p] ∧ (SqL x.K H p (ys.map V.str) ∨ SqT x.K H p (ys.map V.str)) ∧ (ys.map (·.length)).sum + ys.length * a.length ≤ 16777216 ∧ Q (.str (Txt.join a ys)) H) te ts) (fMS uJoin fe fs) :=
  ⟨hK ▸ pe_bm PySem.F.plainAttrs_str PySem.F.slot_str_join PySem.F.type_str_join mt_join ho.pe ha.pa hbase hfew hline hs hplain, fit_mS fit_join ho.fit ha.fit⟩
end
end
end Z

/-! Z7: statements, loops, comprehensions, calls, defs. -/
namespace Z
open PySem PySem.Spec PyProof.Rows L2
section
variable {X : Cx} {x : Fx} {W : WX} {a b c e : Expr} {es : List Expr} {ta tb tc te : TE} {fa fb fc fe : Vr → Store → R U} {ts : TA} {fs : Vr → Store → R (List U)} {n : Nat} {pos p : Pos} {tt tu : TT} {ft fu : Vr → Store → R Bool}
variable {st : Stmt} {sts sts' : List Stmt} {t u : TS} {g h : Vr → Store → O}
theorem db_nil : DB X x W [] tNext gNx := ⟨pss_nil, fits_nx⟩
theorem db_cons (h1 : DS X x W st t g) (h2 : DB X x W sts u h) : DB X x W (st :: sts) (tSeq t u) (gSeq g h) := ⟨pss_cons h1.ps h2.ps, fits_seq h1.fit h2.fit⟩
theorem db_one (h1 : DS X x W st t g) : DB X x W [st] t g := ⟨pss_one h1.ps, h1.fit⟩
theorem ds_pass : DS X x W (.Pass pos) tNext gNx := ⟨ps_pass, fits_nx⟩
theorem ds_brk : DS X x W (.Break pos) tBreak gBrk := ⟨ps_break, fits_brk⟩
theorem ds_cnt : DS X x W (.Continue pos) tCont gCnt := ⟨ps_continue, fits_cnt⟩
theorem ds_set (i : Nat) {y : Str} (hN : X.N.Nodup) (he : DE X x W e te fe) (hi : X.N[i]? = some y := by rfl) (hx : Loc X.env.scope y := by first | exact Or.inl rfl | exact Or.inr rfl) (hs : swapsWith e (some (.Name y p)) pos.line X.env = pure false := by rfl)
    (hf : X.fn y = true ∨ X.env.scope.names.lookup y = some .local := by first | exact .inl rfl | exact .inr rfl) : DS X x W (.Assign [.Name y p] e pos) (tAsg te (gName i)) (gSet i fe) := ⟨ps_set hN hi hx he.pe hs hf, fits_set i he.fit⟩
theorem ds_expr (he : DE X x W e te fe) (hs : swapsWith e none pos.line X.env = pure false := by rfl) : DS X x W (.Expr e pos) (tDrop te) (gDrop fe) := ⟨ps_expr he.pe hs, fits_drop he.fit⟩
theorem ds_ret (he : DE X x W e te fe) : DS X x W (.Return (some e) pos) (tRet te) (gRet fe) := ⟨ps_ret he.pe, fits_ret he.fit⟩
theorem ds_retN : DS X x W (.Return none pos) tRetN gRetN := ⟨ps_retN, fits_retN⟩
theorem ds_if (hc : DT X x W c tt ft) (ha : DB X x W sts t g) (hb : DB X x W sts' u h) : DS X x W (.If c sts sts' pos) (tIfS tt t u) (gIf ft g h) := ⟨ps_if hc.pt ha.ps hb.ps, fits_if hc.fit ha.fit hb.fit⟩
/-- a, b = x, y stored from the right -/
theorem ds_par (i j : Nat) {y z : Str} {px py q : Pos} {kt k2 : Nat} {pt2 : Pos} (hc : X.calm = true) (hN : X.N.Nodup) (ha : DA X x W [a, b] ts fs 2) (hi : X.N[i]? = some y := by rfl) (hj : X.N[j]? = some z := by rfl) (hij : i ≠ j := by decide)
    (hx : X.env.scope.names.lookup y = some .local := by rfl) (hy : X.env.scope.names.lookup z = some .local := by rfl)
    (hw : swappedStores [.Tuple [.Name y px, .Name z py] kt q] (.Tuple [a, b] k2 pt2) X.env = pure (some [y, z]) := by rfl)
    (hs : swapsWithSole [.Tuple [.Name y px, .Name z py] kt q] (.Tuple [a, b] k2 pt2) pos.line X.env = pure false := by rfl) :
    DS X x W (.Assign [.Tuple [.Name y px, .Name z py] kt q] (.Tuple [a, b] k2 pt2) pos) (tPar i j ts) (gPar i j fs) := ⟨ps_par hc hN hi hj hij hx hy ha.pa hw hs, fits_par i j ha.fit⟩
/-! ### targets -/
theorem dg_name (i : Nat) {y : Str} (hN : X.N.Nodup) (hi : X.N[i]? = some y := by rfl) (hx : Loc X.env.scope y := by first | exact Or.inl rfl | exact Or.inr rfl) (hf : X.fn y = true ∨ X.env.scope.names.lookup y = some .local := by first | exact .inl rfl | exact .inr rfl) :
    DG X x (.Name y pos) (gName i) (aName i) := ⟨pg_name hN hi hx hf, fitg_name i⟩
theorem dgs_nil : DGs X x [] gNil aNil := ⟨pgs_nil, fitg_nil⟩
theorem dgs_cons {tg : TG} {tgs : TGs} {a1 : U → Vr → Option Vr} {b1 : List D → Vr → Option Vr} (h1 : DG X x e tg a1) (h2 : DGs X x es tgs b1) (hs : (assignEach (e :: es) X.env).map (·.2) = assign e X.env :: (assignEach es X.env).map (·.2) := by rfl) : DGs X x (e :: es) (gCons tg tgs) (aCons a1 b1) :=
  ⟨pgs_cons h1.pg h2.pg hs, fitg_cons h1.fit h2.fit⟩
theorem dg_tup {k : Nat} {tgs : TGs} {b1 : List D → Vr → Option Vr} (hK : x.K = X.K) (hc : X.calm = true) (h1 : DGs X x es tgs b1) (hn : (assignEach es X.env).length = n := by rfl) (hst : (assignEach es X.env).findIdx? (·.1) = none := by rfl) : DG X x (.Tuple es k pos) (gTup X.K n tgs) (aTup n b1) :=
  ⟨pg_tup hc h1.pg hn hst, hK ▸ fitg_tup h1.fit⟩
theorem ds_asg {tg : Expr} {gg : TG} {a1 : U → Vr → Option Vr} (he : DE X x W e te fe) (hg : DG X x tg gg a1) (hs : swapsWithSole [tg] e pos.line X.env = pure false := by rfl) (hw : swappedStores [tg] e X.env = pure none := by rfl)
    (h1 : (assignEach [tg] X.env).map (·.2) = [assign tg X.env] := by rfl) : DS X x W (.Assign [tg] e pos) (tAsg te gg) (gAsg fe a1) := ⟨ps_asg he.pe hg.pg hs hw h1, fits_asg he.fit hg.fit⟩
/-! ### what is walked -/
/-- a list, a tuple: the list stops changing -/
def seqD (u : U) (S : Store) : R (List D) := match u with
  | .rd xs => .ok xs S
  | .d (.tuple xs) => .ok xs S
  | u => (match frz u S with
    | some (.list xs, S1) => .ok xs S1
    | _ => .bad)
def sSeq (fe : Vr → Store → R U) : Vr → Store → R (List D) := fun ρ S => (fe ρ S).bind seqD
def iSeq (K : PySem.W.Frag) (tl : TE) : TI := fun σ H Q => tl σ H fun v H1 => ∃ a, v = .ref a ∧ (((∃ xs, SqL K H1 a xs) ∧ Q (Itl K a) H1) ∨ ((∃ xs, SqT K H1 a xs) ∧ Q (Itt K a) H1))
theorem pi_seq {tg l : Expr} {tl : TE} (hl : PE X l tl) : PI X tg l (iSeq X.K tl) := by
  refine ⟨fun pins s σ H Q I h => ?_⟩
  refine thn (hl.run pins s σ H _ I h) fun v s1 ⟨y, H1, I1, r1, q1⟩ => ?_
  obtain ⟨A, e, ⟨⟨xs, hq⟩, q⟩ | ⟨⟨xs, hq⟩, q⟩⟩ := q1
  · subst e
    cases r1
    obtain ⟨its, rv, pl, hz⟩ := I1.list hq
    refine wpAny_pyIter_list pl.isList ?_
    refine ⟨s1.heap.objs.size, [s1.heap.objs.size], _, _, H1, rfl, I1.kept (t' := s1.toks) fun b o e => Heap.get?_push_of_some _ e, turn_list A _, ⟨_, Heap.get?_push_size _ rfl, rfl, rfl⟩, fun b hb => ?_, q⟩
    have e : b = s1.heap.objs.size := by simpa using hb
    subst e
    exact I1.fpOk (Nat.le_refl _) (I1.hok.fresh (Nat.le_refl _))
  · subst e
    cases r1
    obtain ⟨its, rv, pl, hz⟩ := I1.tuple hq
    refine wpAny_pyIter_tuple (show s1.heap.IsTuple A its.toArray from pl) ?_
    refine ⟨s1.heap.objs.size, [s1.heap.objs.size], _, _, H1, rfl, I1.kept (t' := s1.toks) fun b o e => Heap.get?_push_of_some _ e, turn_tuple A _, ⟨_, Heap.get?_push_size _ rfl, rfl, rfl⟩, fun b hb => ?_, q⟩
    have e : b = s1.heap.objs.size := by simpa using hb
    subst e
    exact I1.fpOk (Nat.le_refl _) (I1.hok.fresh (Nat.le_refl _))

end
def rngD : Int → Nat → List D
  | _, 0 => []
  | lo, n + 1 => .int lo :: rngD (lo + 1) n
def rngC : Int → Int → Nat → List D
  | _, _, 0 => []
  | lo, c, n + 1 => .int lo :: rngC (lo + c) c n
def enumD : Nat → List D → List D
  | _, [] => []
  | k, y :: ys => .tuple [.int (k : Int), y] :: enumD (k + 1) ys
def zipD : List D → List D → List D
  | y :: ys, z :: zs => .tuple [y, z] :: zipD ys zs
  | _, _ => []
theorem rngD_len : ∀ (n : Nat) (lo : Int), (rngD lo n).length = n
  | 0, _ => rfl
  | n + 1, lo => by rw [rngD, List.length_cons, rngD_len n]
theorem rngC_len : ∀ (n : Nat) (lo c : Int), (rngC lo c n).length = n
  | 0, _, _ => rfl
  | n + 1, lo, c => by rw [rngC, List.length_cons, rngC_len n]
theorem rngD_get : ∀ (n : Nat) (lo : Int) (i : Nat) (d : D), (rngD lo n)[i]? = some d → i < n ∧ d = .int (lo + i)
  | 0, _, _, _, h => by simp [rngD] at h
  | n + 1, lo, 0, d, h => by
    simp [rngD] at h
    exact ⟨Nat.succ_pos _, by rw [← h]; simp⟩
  | n + 1, lo, i + 1, d, h => by
    rw [rngD, List.getElem?_cons_succ] at h
    obtain ⟨h1, h2⟩ := rngD_get n (lo + 1) i d h
    refine ⟨by omega, ?_⟩
    rw [h2]
    congr 1
    omega
theorem rngC_get : ∀ (n : Nat) (lo c : Int) (i : Nat) (d : D), (rngC lo c n)[i]? = some d → i < n ∧ d = .int (lo + (i : Nat) * c)
  | 0, _, _, _, _, h => by simp [rngC] at h
  | n + 1, lo, c, 0, d, h => by
    simp [rngC] at h
    exact ⟨Nat.succ_pos _, by rw [← h]; simp⟩
  | n + 1, lo, c, i + 1, d, h => by
    rw [rngC, List.getElem?_cons_succ] at h
    obtain ⟨h1, h2⟩ := rngC_get n (lo + c) c i d h
    refine ⟨by omega, ?_⟩
    rw [h2]
    congr 1
    rw [Int.natCast_succ, Int.add_mul, Int.one_mul]
    omega
theorem enumD_len : ∀ (xs : List D) (k : Nat), (enumD k xs).length = xs.length
  | [], _ => rfl
  | _ :: xs, k => by rw [enumD, List.length_cons, List.length_cons, enumD_len xs]
theorem enumD_get : ∀ (xs : List D) (k i : Nat) (d : D), (enumD k xs)[i]? = some d → ∃ y, xs[i]? = some y ∧ d = .tuple [.int ((k + i : Nat) : Int), y]
  | [], _, _, _, h => by simp [enumD] at h
  | y :: xs, k, 0, d, h => by
    simp [enumD] at h
    exact ⟨y, rfl, by rw [← h]; simp⟩
  | y :: xs, k, i + 1, d, h => by
    rw [enumD, List.getElem?_cons_succ] at h
    obtain ⟨z, h1, h2⟩ := enumD_get xs (k + 1) i d h
    exact ⟨z, by rw [List.getElem?_cons_succ]; exact h1, by rw [h2, Nat.add_right_comm, Nat.add_assoc]⟩
theorem zipD_len : ∀ (xs ys : List D), (zipD xs ys).length = min xs.length ys.length
  | [], _ => by simp [zipD]
  | _ :: _, [] => by simp [zipD]
  | _ :: xs, _ :: ys => by
    rw [zipD, List.length_cons, List.length_cons, List.length_cons, zipD_len xs ys]
    omega
theorem zipD_get : ∀ (xs ys : List D) (i : Nat) (d : D), (zipD xs ys)[i]? = some d → ∃ y z, xs[i]? = some y ∧ ys[i]? = some z ∧ d = .tuple [y, z]
  | [], _, _, _, h => by simp [zipD] at h
  | _ :: _, [], _, _, h => by simp [zipD] at h
  | y :: xs, z :: ys, 0, d, h => by
    simp [zipD] at h
    exact ⟨y, z, rfl, rfl, h.symm⟩
  | y :: xs, z :: ys, i + 1, d, h => by
    rw [zipD, List.getElem?_cons_succ] at h
    obtain ⟨y', z', h1, h2, h3⟩ := zipD_get xs ys i d h
    exact ⟨y', z', by rw [List.getElem?_cons_succ]; exact h1, by rw [List.getElem?_cons_succ]; exact h2, h3⟩
theorem get_lt {ds : List D} {i : Nat} {d : D} (h : ds[i]? = some d) : i < ds.length := (List.getElem?_eq_some_iff.mp h).1
section
variable {x : Fx} {F : Hp} {A A2 : Addr} {vs ws : List V} {ds es : List D}
theorem wk_list (h : SqL x.K F A vs) (hi : IsAll x.K F vs ds) : Wk x F (Itl x.K A) ds := by
  intro α F' S H le r i
  have hq : SqL x.K H A vs := le_l (le.trans r.le) h
  refine ⟨fun d hd => ?_, fun hl => ⟨vs, hq, by rw [hi.length]; exact hl⟩⟩
  obtain ⟨v, h1, h2⟩ := hi.get hd
  refine ⟨⟨vs, v, hq, h1⟩, fun w H' y => ?_⟩
  obtain ⟨rfl, y⟩ := y
  have e := y vs hq
  rw [h1] at e
  cases e
  exact ⟨F', r, Ext.refl _ _ _, Is.mono le _ _ h2⟩
theorem wk_tup (h : SqT x.K F A vs) (hi : IsAll x.K F vs ds) : Wk x F (Itt x.K A) ds := by
  intro α F' S H le r i
  have hq : SqT x.K H A vs := le_t (le.trans r.le) h
  refine ⟨fun d hd => ?_, fun hl => ⟨vs, hq, by rw [hi.length]; exact hl⟩⟩
  obtain ⟨v, h1, h2⟩ := hi.get hd
  refine ⟨⟨vs, v, hq, h1⟩, fun w H' y => ?_⟩
  obtain ⟨rfl, y⟩ := y
  have e := y vs hq
  rw [h1] at e
  cases e
  exact ⟨F', r, Ext.refl _ _ _, Is.mono le _ _ h2⟩
theorem wk_rng {lo : Int} {n : Nat} : Wk x F (Itr lo n) (rngD lo n) := by
  intro α F' S H le r i
  refine ⟨fun d hd => ?_, fun hl => by rw [rngD_len] at hl; exact hl⟩
  obtain ⟨h1, rfl⟩ := rngD_get n lo i d hd
  refine ⟨h1, fun w H' y => ?_⟩
  obtain ⟨rfl, rfl⟩ := y
  exact ⟨F', r, Ext.refl _ _ _, .int _⟩
theorem wk_rngC {lo c : Int} {n : Nat} : Wk x F (Itc lo c n) (rngC lo c n) := by
  intro α F' S H le r i
  refine ⟨fun d hd => ?_, fun hl => by rw [rngC_len] at hl; exact hl⟩
  obtain ⟨h1, rfl⟩ := rngC_get n lo c i d hd
  refine ⟨h1, fun w H' y => ?_⟩
  obtain ⟨rfl, rfl⟩ := y
  exact ⟨F', r, Ext.refl _ _ _, .int _⟩
theorem wk_enum (h : SqL x.K F A vs) (hi : IsAll x.K F vs ds) : Wk x F (Ite x.K A) (enumD 0 ds) := by
  intro α F' S H le r i
  have hq : SqL x.K H A vs := le_l (le.trans r.le) h
  refine ⟨fun d hd => ?_, fun hl => ⟨vs, hq, by rw [enumD_len] at hl; rw [hi.length]; exact hl⟩⟩
  obtain ⟨z, hz, rfl⟩ := enumD_get ds 0 i d hd
  obtain ⟨v, h1, h2⟩ := hi.get hz
  refine ⟨⟨vs, v, hq, h1⟩, fun w H' y => ?_⟩
  obtain ⟨T, y0, rfl, hT, rfl, y⟩ := y
  have e := y vs hq
  rw [h1] at e
  cases e
  obtain ⟨r3, e3⟩ := r.frozen (o := .tup [.int (i : Nat), v]) hT
  refine ⟨_, r3, e3, .tup (SqT.of upd_same) (.cons ?_ (.cons (Is.mono (le.trans e3.fr) _ _ h2) .nil))⟩
  rw [Nat.zero_add]
  exact .int _
theorem wk_zip (h : SqL x.K F A vs) (hi : IsAll x.K F vs ds) (h' : SqL x.K F A2 ws) (hi' : IsAll x.K F ws es) : Wk x F (Itz x.K A A2) (zipD ds es) := by
  intro α F' S H le r i
  have hq : SqL x.K H A vs := le_l (le.trans r.le) h
  have hq' : SqL x.K H A2 ws := le_l (le.trans r.le) h'
  refine ⟨fun d hd => ?_, fun hl => ⟨vs, ws, hq, hq', by rw [zipD_len] at hl; rw [hi.length, hi'.length]; omega⟩⟩
  obtain ⟨y, z, hy, hz, rfl⟩ := zipD_get ds es i d hd
  obtain ⟨v, h1, h2⟩ := hi.get hy
  obtain ⟨v', h1', h2'⟩ := hi'.get hz
  refine ⟨⟨vs, ws, v, v', hq, hq', h1, h1'⟩, fun w H' y => ?_⟩
  obtain ⟨T, y0, z0, rfl, hT, rfl, y1, y2⟩ := y
  have e := y1 vs hq
  rw [h1] at e
  cases e
  have e := y2 ws hq'
  rw [h1'] at e
  cases e
  obtain ⟨r3, e3⟩ := r.frozen (o := .tup [v, v']) hT
  exact ⟨_, r3, e3, .tup (SqT.of upd_same) (.cons (Is.mono (le.trans e3.fr) _ _ h2) (.cons (Is.mono (le.trans e3.fr) _ _ h2') .nil))⟩
end
/-! ### sources -/
def Fit1D (x : Fx) (u : U) (S : Store) (v : V) (α : Nat → Addr) (F : Hp) (H : Hp) (ds : List D) (S' : Store) : Prop := True
/-- what a value gives that is walked: a list's items -/
theorem seqD_ok {x : Fx} {α : Nat → Addr} {F : Hp} {S S' : Store} {H : Hp} {v : V} {u : U} {ds : List D} (r : Rep x α F S H) (i : IsU x α F S.length v u) (e : seqD u S = .ok ds S') :
    ∃ F' A vs, Rep x α F' S' H ∧ Ext α α F F' S S' ∧ v = .ref A ∧ IsAll x.K F' vs ds ∧ (SqL x.K F' A vs ∨ SqT x.K F' A vs) := by
  unfold seqD at e
  split at e
  · rename_i xs
    cases e
    obtain ⟨A, vs, h1, h2, h3⟩ := i
    exact ⟨F, A, vs, r, Ext.refl _ _ _, h1, h3, .inl h2⟩
  · rename_i xs
    cases e
    have i' : Is x.K F v (.tuple ds) := i
    cases i' with
    | tup h1 h2 => exact ⟨F, _, _, r, Ext.refl _ _ _, rfl, h2, .inr h1⟩
  · split at e
    · rename_i xs S1 hf
      cases e
      obtain ⟨F1, r1, e1, j1⟩ := frz_ok r i hf
      cases j1 with
      | lst h1 h2 => exact ⟨F1, _, _, r1, e1, rfl, h2, .inl (SqL.of h1)⟩
    · cases e
theorem seqD_bad {u : U} {S : Store} {c : Str} {y : D} {S' : Store} : seqD u S ≠ .exc c y S' := by
  unfold seqD
  intro h
  split at h
  · cases h
  · cases h
  · split at h <;> cases h
/-- a list alone -/
def lstD (u : U) (S : Store) : R (List D) := match u with
  | .d (.tuple _) => .bad
  | u => seqD u S
theorem lstD_ok {x : Fx} {α : Nat → Addr} {F : Hp} {S S' : Store} {H : Hp} {v : V} {u : U} {ds : List D} (r : Rep x α F S H) (i : IsU x α F S.length v u) (e : lstD u S = .ok ds S') :
    ∃ F' A vs, Rep x α F' S' H ∧ Ext α α F F' S S' ∧ v = .ref A ∧ IsAll x.K F' vs ds ∧ SqL x.K F' A vs := by
  unfold lstD at e
  split at e
  · cases e
  · rename_i hn
    unfold seqD at e
    split at e
    · rename_i xs
      cases e
      obtain ⟨A, vs, h1, h2, h3⟩ := i
      exact ⟨F, A, vs, r, Ext.refl _ _ _, h1, h3, h2⟩
    · rename_i xs
      exact absurd rfl (hn xs)
    · split at e
      · rename_i xs S1 hf
        cases e
        obtain ⟨F1, r1, e1, j1⟩ := frz_ok r i hf
        cases j1 with
        | lst h1 h2 => exact ⟨F1, _, _, r1, e1, rfl, h2, SqL.of h1⟩
      · cases e
def sRng1 (us : List U) (S : Store) : R (List D) := match us with
  | [.d (.int j)] => if -(2 ^ 62) ≤ j ∧ j < 2 ^ 62 then .ok (rngD 0 j.toNat) S else .bad
  | _ => .bad
def sRng2 (us : List U) (S : Store) : R (List D) := match us with
  | [.d (.int i), .d (.int j)] => if (-(2 ^ 62) ≤ i ∧ i < 2 ^ 62) ∧ -(2 ^ 62) ≤ j ∧ j < 2 ^ 62 then .ok (rngD i (j - i).toNat) S else .bad
  | _ => .bad
def sRng3 (us : List U) (S : Store) : R (List D) := match us with
  | [.d (.int i), .d (.int j), .d (.int c)] => if c = -1 ∧ (-(2 ^ 62) ≤ i ∧ i < 2 ^ 62) ∧ -(2 ^ 62) ≤ j ∧ j < 2 ^ 62 then .ok (rngC i (-1) (i - j).toNat) S else .bad
  | _ => .bad
def sN (g : List U → Store → R (List D)) (fs : Vr → Store → R (List U)) : Vr → Store → R (List D) := fun ρ S => (fs ρ S).bind g
def sEnum (us : List U) (S : Store) : R (List D) := match us with
  | [u] => (lstD u S).bind fun ds S1 => .ok (enumD 0 ds) S1
  | _ => .bad
def sZip (us : List U) (S : Store) : R (List D) := match us with
  | [u, w] => (match frz u S with
    | some (.list xs, S1) => (match frz w S1 with
      | some (.list ys, S2) => .ok (zipD xs ys) S2
      | _ => .bad)
    | _ => .bad)
  | _ => .bad
section
variable {X : Cx} {x : Fx} {W : WX} {tg e a b c : Expr} {te : TE} {fe : Vr → Store → R U} {ts : TA} {fs : Vr → Store → R (List U)} {n : Nat} {p pos : Pos}
theorem fit_seq (h : FitE x W te fe) : FitI x W (iSeq x.K te) (sSeq fe) := by
  intro α F ρ S σ H r0 s Q q
  refine h.bind r0 s q fun α1 F1 S1 H1 v u e1 r1 s1 i1 p1 => ?_
  cases hs : seqD u S1 with
  | ok ds S2 =>
    rw [hs] at p1
    obtain ⟨F2, A, vs, r2, e2, rfl, h1, h2⟩ := seqD_ok r1 i1 hs
    rcases h2 with h2 | h2
    · exact ⟨A, rfl, .inl ⟨⟨vs, le_l r2.le h2⟩, p1 α1 F2 H1 _ e2 r2 (wk_list h2 h1)⟩⟩
    · exact ⟨A, rfl, .inr ⟨⟨vs, le_t r2.le h2⟩, p1 α1 F2 H1 _ e2 r2 (wk_tup h2 h1)⟩⟩
  | exc _ _ _ => exact absurd hs seqD_bad
  | bad => rw [hs] at p1; exact p1.elim
theorem di_seq (hK : x.K = X.K) (h : DE X x W e te fe) : DI X x W tg e (iSeq X.K te) (sSeq fe) := ⟨pi_seq h.pe, hK ▸ fit_seq h.fit⟩
theorem us3 {α : Nat → Addr} {F : Hp} {n : Nat} {vs : List V} {u u' u'' : U} (h : IsUs x α F n vs [u, u', u'']) : ∃ v w z, vs = [v, w, z] ∧ IsU x α F n v u ∧ IsU x α F n w u' ∧ IsU x α F n z u'' := by
  cases h with
  | cons h1 h2 =>
    obtain ⟨w, z, e, h3, h4⟩ := us2 h2
    subst e
    exact ⟨_, _, _, rfl, h1, h3, h4⟩
theorem fit_rng1 (h : FitA x W ts fs) : FitI x W (iRng1 ts) (sN sRng1 fs) := by
  intro α F ρ S σ H r0 s Q q
  refine h.bind r0 s q fun α1 F1 S1 H1 vs us e1 r1 s1 i1 p1 => ?_
  unfold sRng1 at p1
  split at p1
  · rename_i j
    obtain ⟨v, rfl, i2⟩ := us1 i1
    rw [is_int i2]
    split at p1
    · rename_i hb
      exact ⟨j, rfl, hb.1, hb.2, p1 _ _ _ _ (Ext.refl _ _ _) r1 wk_rng⟩
    · exact p1.elim
  · exact p1.elim
theorem fit_rng2 (h : FitA x W ts fs) : FitI x W (iRng2 ts) (sN sRng2 fs) := by
  intro α F ρ S σ H r0 s Q q
  refine h.bind r0 s q fun α1 F1 S1 H1 vs us e1 r1 s1 i1 p1 => ?_
  unfold sRng2 at p1
  split at p1
  · rename_i i j
    obtain ⟨v, w, rfl, i2, i3⟩ := us2 i1
    rw [is_int i2, is_int i3]
    split at p1
    · rename_i hb
      exact ⟨i, j, rfl, ⟨hb.1.1, hb.1.2, hb.2.1, hb.2.2⟩, p1 _ _ _ _ (Ext.refl _ _ _) r1 wk_rng⟩
    · exact p1.elim
  · exact p1.elim
theorem fit_rng3 (h : FitA x W ts fs) : FitI x W (iRng3 ts) (sN sRng3 fs) := by
  intro α F ρ S σ H r0 s Q q
  refine h.bind r0 s q fun α1 F1 S1 H1 vs us e1 r1 s1 i1 p1 => ?_
  unfold sRng3 at p1
  split at p1
  · rename_i i j c
    obtain ⟨v, w, z, rfl, i2, i3, i4⟩ := us3 i1
    rw [is_int i2, is_int i3, is_int i4]
    split at p1
    · rename_i hb
      obtain ⟨rfl, hb⟩ := hb
      exact ⟨i, j, -1, (i - j).toNat, rfl, RgC.neg hb.1.1 hb.1.2 hb.2.1 hb.2.2, p1 _ _ _ _ (Ext.refl _ _ _) r1 wk_rngC⟩
    · exact p1.elim
  · exact p1.elim
theorem fit_enum (h : FitA x W ts fs) : FitI x W (iEnum x.K ts) (sN sEnum fs) := by
  intro α F ρ S σ H r0 s Q q
  refine h.bind r0 s q fun α1 F1 S1 H1 vs us e1 r1 s1 i1 p1 => ?_
  unfold sEnum at p1
  split at p1
  · rename_i u
    obtain ⟨v, rfl, i2⟩ := us1 i1
    cases hs : lstD u S1 with
    | ok ds S2 =>
      rw [hs] at p1
      obtain ⟨F2, A, ws, r2, e2, rfl, h1, h2⟩ := lstD_ok r1 i2 hs
      exact ⟨A, ws, rfl, le_l r2.le h2, p1 α1 F2 H1 _ e2 r2 (wk_enum h2 h1)⟩
    | exc _ _ _ =>
      unfold lstD at hs
      split at hs
      · cases hs
      · exact absurd hs seqD_bad
    | bad => rw [hs] at p1; exact p1.elim
  · exact p1.elim
theorem fit_zip (h : FitA x W ts fs) : FitI x W (iZip x.K ts) (sN sZip fs) := by
  intro α F ρ S σ H r0 s Q q
  refine h.bind r0 s q fun α1 F1 S1 H1 vs us e1 r1 s1 i1 p1 => ?_
  unfold sZip at p1
  split at p1
  · rename_i u w
    obtain ⟨v, v', rfl, i2, i3⟩ := us2 i1
    split at p1
    · rename_i xs S2 hf
      obtain ⟨F2, r2, e2, j1⟩ := frz_ok r1 i2 hf
      split at p1
      · rename_i ys S3 hf'
        obtain ⟨F3, r3, e3, j2⟩ := frz_ok r2 (i3.ext e2) hf'
        have j1' := Is.mono e3.fr _ _ j1
        cases j1' with
        | lst a1 a2 =>
          cases j2 with
          | lst b1 b2 => exact ⟨_, _, _, _, rfl, SqL.of (r3.le _ _ a1), SqL.of (r3.le _ _ b1), p1 α1 F3 H1 _ (e2.trans e3) r3 (wk_zip (SqL.of a1) a2 (SqL.of b1) b2)⟩
      · exact p1.elim
    · exact p1.elim
  · exact p1.elim
theorem di_rng1 (hm : X.mg "range" = none) (h : DA X x W [a] ts fs n) (hg : Gl X "range" := by rfl) (hs : starEach [a] X.env = [(false, eval a X.env)] := by rfl) : DI X x W tg (.Call (.Name "range" p) [a] [] pos) (iRng1 ts) (sN sRng1 fs) := ⟨pi_range1 hg hm h.pa hs, fit_rng1 h.fit⟩
theorem di_rng2 (hm : X.mg "range" = none) (h : DA X x W [a, b] ts fs n) (hg : Gl X "range" := by rfl) (hs : starEach [a, b] X.env = [(false, eval a X.env), (false, eval b X.env)] := by rfl) (hs2 : starEach [b] X.env = [(false, eval b X.env)] := by rfl) :
    DI X x W tg (.Call (.Name "range" p) [a, b] [] pos) (iRng2 ts) (sN sRng2 fs) := ⟨pi_range2 hg hm h.pa hs hs2, fit_rng2 h.fit⟩
theorem di_rng3 (hm : X.mg "range" = none) (h : DA X x W [a, b, c] ts fs n) (hg : Gl X "range" := by rfl) (hs : starEach [a, b, c] X.env = (false, eval a X.env) :: starEach [b, c] X.env := by rfl) (hpl : (backTo pos (starEach [b, c] X.env)).any (·.1) = false := by rfl) :
    DI X x W tg (.Call (.Name "range" p) [a, b, c] [] pos) (iRng3 ts) (sN sRng3 fs) := ⟨pi_range3 hg hm h.pa hs hpl, fit_rng3 h.fit⟩
theorem di_enum {elts : List Expr} {kk : Nat} {tpos : Pos} (hK : x.K = X.K) (hm : X.mg "enumerate" = none) (h : DA X x W [a] ts fs n) (hg : Gl X "enumerate" := by rfl) (hs : starEach [a] X.env = [(false, eval a X.env)] := by rfl) :
    DI X x W (.Tuple elts kk tpos) (.Call (.Name "enumerate" p) [a] [] pos) (iEnum X.K ts) (sN sEnum fs) := ⟨pi_enum hg hm h.pa hs, hK ▸ fit_enum h.fit⟩
theorem di_zip {elts : List Expr} {kk : Nat} {tpos : Pos} (hK : x.K = X.K) (hm : X.mg "zip" = none) (h : DA X x W [a, b] ts fs n) (hg : Gl X "zip" := by rfl) (hs : starEach [a, b] X.env = (false, eval a X.env) :: starEach [b] X.env := by rfl) (hpl : (backTo pos (starEach [b] X.env)).any (·.1) = false := by rfl) :
    DI X x W (.Tuple elts kk tpos) (.Call (.Name "zip" p) [a, b] [] pos) (iZip X.K ts) (sN sZip fs) := ⟨pi_zip hg hm h.pa hs hpl, hK ▸ fit_zip h.fit⟩
/-! ### for, while -/
theorem ds_for {tg iter : Expr} {body : List Stmt} {wi : TI} {src : Vr → Store → R (List D)} {gg : TG} {a1 : U → Vr → Option Vr} {tb : TS} {g : Vr → Store → O} (hp : PassesOwn (model X.prog X.w) X.A X.env X.xe) (hc : X.calm = true) (hi : DI X x W tg iter wi src) (hg : DG X x tg gg a1) (hb : DB X x W body tb g)
    (hs : ∀ y, foldedSetIterable iter X.env y = pure y := by intro _; rfl) : DS X x W (.For tg iter body [] pos) (tFor wi gg tb) (gFor src a1 g) := ⟨ps_for hp hc hi.pi hg.pg hb.ps hs, fits_for hi.fit hg.fit hb.fit⟩
theorem ds_wh {c : Expr} {body : List Stmt} {tc : TT} {ft : Vr → Store → R Bool} {tb : TS} {g : Vr → Store → O} (hp : PassesOwn (model X.prog X.w) X.A X.env X.xe) (h : DT X x W c tc ft) (hb : DB X x W body tb g) : DS X x W (.While c body [] pos) (tWhile tc tb) (gWh ft g) :=
  ⟨ps_while hp h.pt hb.ps, fits_wh h.fit hb.fit⟩
end
end Z

/-! Z8: comprehensions; calls, raises, defs. -/
namespace Z
open PySem PySem.Spec PyProof.Rows L2
/-! ### comprehensions -/
def R.bnd0 {A C : Type} (r : R A) (k : A → Store → R C) : R C := match r with
  | .ok a S => k a S
  | _ => .bad
def wipeU (ρ : Vr) : List Nat → Vr
  | [] => ρ
  | v :: vs => (wipeU ρ vs).set v none
def lcLoop (m : Nat) (tg : U → Vr → Option Vr) (ft : Vr → Store → R Bool) (fe : Vr → Store → R U) (ρ : Vr) : List D → Store → R Unit
  | [], S => .ok () S
  | d :: ds, S => match tg (.d d) ρ with
    | none => .bad
    | some ρ1 => (ft ρ1 S).bnd0 fun b S1 => if b = true then (fe ρ1 S1).bnd0 fun u S2 => (match frz u S2 with
        | some (y, S3) => (match S3[m]? with
          | some (some acc) => if acc.length < 1000000 then lcLoop m tg ft fe ρ ds (S3.set m (some (acc ++ [y]))) else .bad
          | _ => .bad)
        | none => .bad) else lcLoop m tg ft fe ρ ds S1
def lcRun (src : Vr → Store → R (List D)) (tg : U → Vr → Option Vr) (ft : Vr → Store → R Bool) (fe : Vr → Store → R U) (vs : List Nat) (k : List D → Store → Store → R U) : Vr → Store → R U := fun ρ S =>
  (src ρ S).bind fun ds S1 => (lcLoop S1.length tg ft fe (wipeU ρ vs) ds (S1 ++ [some []])).bnd0 fun _ S2 => match S2[S1.length]? with
    | some (some acc) => k acc S1 S2
    | _ => .bad
/-- the new list stays as it is | may change -/
def fLc (src : Vr → Store → R (List D)) (tg : U → Vr → Option Vr) (ft : Vr → Store → R Bool) (fe : Vr → Store → R U) (vs : List Nat) : Vr → Store → R U := lcRun src tg ft fe vs fun acc S1 S2 => .ok (.d (.list acc)) (S2.take S1.length)
def fLcL (src : Vr → Store → R (List D)) (tg : U → Vr → Option Vr) (ft : Vr → Store → R Bool) (fe : Vr → Store → R U) (vs : List Nat) : Vr → Store → R U := lcRun src tg ft fe vs fun acc S1 S2 => .ok (.loc S1.length) (S2.take (S1.length + 1))
abbrev W0 : WX := fun _ _ _ _ => False
/-- a target that stores in the places vs alone -/
def GW (g : TG) (vs : List Nat) : Prop := ∀ v σ H Q, g v σ H Q → g v σ H fun σ' H' => wipe σ' vs = wipe σ vs ∧ Q σ' H'
def GWs (g : TGs) (vs : List Nat) : Prop := ∀ v σ H Q, g v σ H Q → g v σ H fun σ' H' => wipe σ' vs = wipe σ vs ∧ Q σ' H'
theorem wipe_get : ∀ (vs : List Nat) (σ : L2.St) (j : Nat), (wipe σ vs)[j]? = if j ∈ vs ∧ j < σ.length then some none else σ[j]?
  | [], σ, j => by simp [wipe]
  | v :: vs, σ, j => by
    rw [wipe]
    by_cases e : v = j
    · subst e
      by_cases hl : v < σ.length
      · rw [List.getElem?_set_self (by rw [wipe_length]; exact hl), if_pos ⟨List.mem_cons_self, hl⟩]
      · rw [List.getElem?_eq_none (by rw [List.length_set, wipe_length]; omega), if_neg (fun z => hl z.2), List.getElem?_eq_none (by omega)]
    · rw [List.getElem?_set_ne e, wipe_get vs σ j]
      have ej : j ≠ v := fun z => e z.symm
      by_cases h : j ∈ vs ∧ j < σ.length
      · rw [if_pos h, if_pos ⟨List.mem_cons_of_mem _ h.1, h.2⟩]
      · rw [if_neg h, if_neg fun z => h ⟨(List.mem_cons.mp z.1).resolve_left ej, z.2⟩]
theorem wipe_set {vs : List Nat} {σ : L2.St} {i : Nat} {y : Option V} (h : i ∈ vs) : wipe (σ.set i y) vs = wipe σ vs := by
  apply List.ext_getElem?
  intro j
  rw [wipe_get, wipe_get, List.length_set]
  by_cases hj : j ∈ vs ∧ j < σ.length
  · rw [if_pos hj, if_pos hj]
  · rw [if_neg hj, if_neg hj]
    by_cases e : i = j
    · subst e
      have hl : ¬ i < σ.length := fun z => hj ⟨h, z⟩
      rw [List.getElem?_eq_none (by rw [List.length_set]; omega), List.getElem?_eq_none (by omega)]
    · rw [List.getElem?_set_ne e]
theorem wipe_wipe {vs : List Nat} {σ : L2.St} : wipe (wipe σ vs) vs = wipe σ vs := by
  apply List.ext_getElem?
  intro j
  rw [wipe_get, wipe_length]
  by_cases hj : j ∈ vs ∧ j < σ.length
  · rw [if_pos hj, wipe_get, if_pos hj]
  · rw [if_neg hj]
theorem gw_name {i : Nat} {vs : List Nat} (h : i ∈ vs) : GW (gName i) vs := fun v σ H Q q => ⟨wipe_set h, q⟩
theorem gw_nil {vs : List Nat} : GWs gNil vs := fun v σ H Q q => ⟨q.1, rfl, q.2⟩
theorem TG.mono' : True := trivial
theorem gw_cons {g : TG} {gs : TGs} {vs : List Nat} (h : GW g vs) (hs : GWs gs vs) (hm : ∀ v σ H (Q Q' : L2.St → Hp → Prop), (∀ σ H, Q σ H → Q' σ H) → g v σ H Q → g v σ H Q') (hm2 : ∀ v σ H (Q Q' : L2.St → Hp → Prop), (∀ σ H, Q σ H → Q' σ H) → gs v σ H Q → gs v σ H Q') : GWs (gCons g gs) vs := by
  rintro ws σ H Q ⟨v, r, rfl, q⟩
  refine ⟨v, r, rfl, hm v σ H _ _ ?_ (h v σ H _ q)⟩
  rintro σ1 H1 ⟨e1, q1⟩
  refine hm2 r σ1 H1 _ _ ?_ (hs r σ1 H1 _ q1)
  rintro σ2 H2 ⟨e2, q2⟩
  exact ⟨e2.trans e1, q2⟩
structure GM (g : TG) (vs : List Nat) : Prop where
  w : GW g vs
  m : ∀ v σ H (Q Q' : L2.St → Hp → Prop), (∀ σ H, Q σ H → Q' σ H) → g v σ H Q → g v σ H Q'
structure GMs (g : TGs) (vs : List Nat) : Prop where
  w : GWs g vs
  m : ∀ v σ H (Q Q' : L2.St → Hp → Prop), (∀ σ H, Q σ H → Q' σ H) → g v σ H Q → g v σ H Q'
theorem gm_name {i : Nat} {vs : List Nat} (h : i ∈ vs := by decide) : GM (gName i) vs := ⟨gw_name h, fun _ _ _ _ _ k q => k _ _ q⟩
theorem gm_nil {vs : List Nat} : GMs gNil vs := ⟨gw_nil, fun _ _ _ _ _ k q => ⟨q.1, k _ _ q.2⟩⟩
theorem gm_cons {g : TG} {gs : TGs} {vs : List Nat} (h : GM g vs) (hs : GMs gs vs) : GMs (gCons g gs) vs := ⟨gw_cons h.w hs.w h.m hs.m, fun _ _ _ _ _ k ⟨v, r, e, q⟩ => ⟨v, r, e, h.m _ _ _ _ _ (fun _ _ z => hs.m _ _ _ _ _ k z) q⟩⟩
theorem gm_tup {K : PySem.W.Frag} {n : Nat} {gs : TGs} {vs : List Nat} (h : GMs gs vs) : GM (gTup K n gs) vs :=
  ⟨fun _ _ _ _ ⟨a, xs, e, q1, q2, q⟩ => ⟨a, xs, e, q1, q2, h.w _ _ _ _ q⟩, fun _ _ _ _ _ k ⟨a, xs, e, q1, q2, q⟩ => ⟨a, xs, e, q1, q2, h.m _ _ _ _ _ k q⟩⟩
theorem sl_wipe {x : Fx} {α : Nat → Addr} {F : Hp} {n : Nat} {σ : L2.St} {ρ : Vr} (h : Sl x α F n σ ρ) : ∀ vs : List Nat, Sl x α F n (wipe σ vs) (wipeU ρ vs)
  | [] => h
  | v :: vs => by
    have ih := sl_wipe h vs
    rw [wipe, wipeU]
    refine ⟨by rw [List.length_set, List.length_set, ih.len], fun i u e => ?_⟩
    by_cases z : v = i
    · subst z
      by_cases hl : v < (wipeU ρ vs).length
      · rw [List.getElem?_set_self hl] at e
        cases e
      · rw [List.getElem?_eq_none (by rw [List.length_set]; omega)] at e
        cases e
    · rw [List.getElem?_set_ne z] at e ⊢
      exact ih.get i u e
section
variable {x : Fx} {W : WX} {wi : TI} {src : Vr → Store → R (List D)} {g : TG} {tg : U → Vr → Option Vr} {tt : TT} {ft : Vr → Store → R Bool} {te : TE} {fe : Vr → Store → R U} {vs : List Nat}
/-- behind the loop -/
def LcEnd (x : Fx) (α : Nat → Addr) (F : Hp) (S : Store) (m : Nat) (H : Hp) (ds : List D) (ρ : Vr) (tg : U → Vr → Option Vr) (ft : Vr → Store → R Bool) (fe : Vr → Store → R U) (Qe : Hp → Prop) : Prop :=
  ∃ S2, lcLoop m tg ft fe ρ ds S = .ok () S2 ∧ ∀ α' F' H', Ext α α' F F' S S2 → Rep x α' F' S2 H' → Qe H'
theorem fit_lcRun {k : List D → Store → Store → R U} (hk : ∀ α α' F F' S1 S2 H' acc (Dl : Addr) σ Q, α' S1.length = Dl → Ext α α' F F' S1 S2 → S1.length < S2.length → Rep x α' F' S2 H' → S2[S1.length]? = some (some acc) → Post zU x W α F S1 σ Q (k acc S1 S2) → Q (.ref Dl) H')
    (hi : FitI x W wi src) (hg : FitG x g tg) (hw : GM g vs) (ht : FitT x W0 tt ft) (he : FitE x W0 te fe) : FitE x W (tLc wi g tt te vs) (lcRun src tg ft fe vs k) := by
  intro α F ρ S σ H r0 s0 Q q
  refine hi.bind r0 s0 q fun α1 F1 S1 H1 J ds e1 r1 s1 wk p1 => ?_
  intro Dl hD
  obtain ⟨r2, e2⟩ := r1.fresh (vs := []) (ds := []) hD .nil
  have aD : (fun i => if i = S1.length then Dl else α1 i) S1.length = Dl := if_pos rfl
  generalize hα : (fun i => if i = S1.length then Dl else α1 i) = α2 at r2 e2 aD
  cases hl : lcLoop S1.length tg ft fe (wipeU ρ vs) ds (S1 ++ [some []]) with
  | exc _ _ _ => rw [hl] at p1; exact p1.elim
  | bad => rw [hl] at p1; exact p1.elim
  | ok u S2 =>
    rw [hl] at p1
    have p2 : Post zU x W α1 F1 S1 σ Q (match S2[S1.length]? with
      | some (some acc) => k acc S1 S2
      | _ => .bad) := p1
    have sw := sl_wipe s1 vs
    have ln : (S1 ++ [some ([] : List D)]).length = S1.length + 1 := by rw [List.length_append, List.length_singleton]
    refine ⟨fun i m H' => m = ds.length - i ∧ i ≤ ds.length ∧ ∃ α' F' S', Ext α2 α' F1 F' (S1 ++ [some []]) S' ∧ Rep x α' F' S' H' ∧ lcLoop S1.length tg ft fe (wipeU ρ vs) (ds.drop i) S' = .ok u S2, ⟨ds.length, rfl, Nat.zero_le _, α2, F1, S1 ++ [some []], Ext.refl _ _ _, r2, hl⟩, ?_⟩
    rintro i m H' ⟨hm, hile, α', F', S', e3, r3, l3⟩
    obtain ⟨w1, w2⟩ := wk α' F' S' H' e3.fr r3 i
    by_cases hlt : i < ds.length
    · have hd : ds[i]? = some ds[i] := List.getElem?_eq_getElem hlt
      obtain ⟨go, yl⟩ := w1 _ hd
      refine .inr ⟨go, fun H3 => i + 1 ≤ ds.length ∧ ∃ α' F' S', Ext α2 α' F1 F' (S1 ++ [some []]) S' ∧ Rep x α' F' S' H3 ∧ lcLoop S1.length tg ft fe (wipeU ρ vs) (ds.drop (i + 1)) S' = .ok u S2,
        fun H3 n => ⟨ds.length - (i + 1), by omega, rfl, n⟩, fun v H3 y => ?_⟩
      obtain ⟨F3, r4, e4, i4⟩ := yl v H3 y
      rw [drop_cons hd] at l3
      unfold lcLoop at l3
      split at l3
      · cases l3
      · rename_i ρ1 et
        have sw3 : Sl x α' F3 S'.length (wipe σ vs) (wipeU ρ vs) := ((sw.ext e2).ext e3).ext e4
        have step := hw.w v (wipe σ vs) H3 _ (hg α' F3 (wipeU ρ vs) S' (wipe σ vs) H3 v (.d ds[i]) ρ1 r4 sw3 (show Is x.K F3 v ds[i] from i4) et (fun σ' H' => H' = H3 ∧ Sl x α' F3 S'.length σ' ρ1) fun σ' s' => ⟨rfl, s'⟩)
        refine hw.m v _ H3 _ _ ?_ step
        rintro σ4 H4 ⟨e5, rfl, s4⟩
        refine ⟨by rw [e5, wipe_wipe], ?_⟩
        refine ht α' F3 ρ1 S' σ4 H4 r4 s4 _ ?_
        cases eb : ft ρ1 S' with
        | exc _ _ _ => rw [eb] at l3; cases l3
        | bad => rw [eb] at l3; cases l3
        | ok b S5 =>
          rw [eb] at l3
          intro α5 F5 H5 b' e6 r5 hb
          have hb' : b' = b := hb
          subst hb'
          cases b' with
          | false => exact ⟨hlt, α5, F5, S5, (e3.trans e4).trans e6, r5, l3⟩
          | true =>
            simp only [if_true]
            refine he α5 F5 ρ1 S5 σ4 H5 r5 (s4.ext e6) _ ?_
            have l4 : (fe ρ1 S5).bnd0 (fun u S2 => (match frz u S2 with
              | some (y, S3) => (match S3[S1.length]? with
                | some (some acc) => if acc.length < 1000000 then lcLoop S1.length tg ft fe (wipeU ρ vs) (ds.drop (i + 1)) (S3.set S1.length (some (acc ++ [y]))) else .bad
                | _ => .bad)
              | none => .bad)) = .ok u S2 := l3
            cases ee : fe ρ1 S5 with
            | exc _ _ _ => rw [ee] at l4; cases l4
            | bad => rw [ee] at l4; cases l4
            | ok w S6 =>
              rw [ee] at l4
              intro α6 F6 H6 v6 e7 r6 i6
              simp only [R.bnd0] at l4
              split at l4
              · rename_i y6 S7 hf
                obtain ⟨F7, r7, e8, j7⟩ := frz_ok r6 i6 hf
                split at l4
                · rename_i acc hacc
                  obtain ⟨c1, ws, c2, c3⟩ := r7.cell _ _ hacc
                  split at l4
                  · rename_i hz
                    have eall : Ext α2 α6 F1 F7 (S1 ++ [some []]) S7 := ((((e3.trans e4).trans e6).trans e7).trans e8)
                    have a6 : α6 S1.length = Dl := (eall.al _ (by rw [ln]; omega)).trans aD
                    obtain ⟨r8, e9⟩ := r7.write hacc (c3.append (.one j7))
                    rw [a6] at c2 r8
                    exact ⟨ws, c2, lt_line (by rw [c3.length]; exact hz), hlt, α6, F7, _, eall.trans e9, r8, l4⟩
                  · cases l4
                · cases l4
              · cases l4
    · have ei : i = ds.length := by omega
      subst ei
      rw [List.drop_length] at l3
      cases l3
      refine .inl ⟨w2 (Nat.le_refl _), ?_⟩
      have ex := e2.trans e3
      have a3 : α' S1.length = Dl := (e3.al _ (by rw [ln]; omega)).trans aD
      split at p2
      · rename_i acc hacc
        exact hk α1 α' F1 F' S1 S2 H' acc Dl σ Q a3 ex (by have := e3.len; rw [ln] at this; omega) r3 hacc p2
      · exact p2.elim
theorem take_ext {α α' : Nat → Addr} {F F' : Hp} {S S' : Store} (e : Ext α α' F F' S S') : Ext α α' F F' S (S'.take S.length) := e.cut.1
theorem fit_lc (hi : FitI x W wi src) (hg : FitG x g tg) (hw : GM g vs) (ht : FitT x W0 tt ft) (he : FitE x W0 te fe) : FitE x W (tLc wi g tt te vs) (fLc src tg ft fe vs) := by
  refine fit_lcRun (fun α α' F F' S1 S2 H' acc Dl σ Q a ex hlt r hacc p => ?_) hi hg hw ht he
  obtain ⟨F2, ws, r2, e2, h1, h2⟩ := r.freeze hacc
  have r3 := r2.cut S1.length
  have et : (S2.set S1.length none).take S1.length = S2.take S1.length := by
    rw [List.take_set_of_le (Nat.le_refl _)]
  rw [et] at r3
  have ext : Ext α α' F F2 S1 (S2.take S1.length) := by
    have e3 := ex.trans e2
    have e4 := e3.cut.1
    rw [et] at e4
    exact e4
  rw [a] at h1
  exact p α' F2 H' _ ext r3 (.lst h1 h2)
theorem fit_lcL (hi : FitI x W wi src) (hg : FitG x g tg) (hw : GM g vs) (ht : FitT x W0 tt ft) (he : FitE x W0 te fe) : FitE x W (tLc wi g tt te vs) (fLcL src tg ft fe vs) := by
  refine fit_lcRun (fun α α' F F' S1 S2 H' acc Dl σ Q a ex hlt r hacc p => ?_) hi hg hw ht he
  have r3 := r.cut (S1.length + 1)
  have ln : (S2.take (S1.length + 1)).length = S1.length + 1 := by rw [List.length_take]; omega
  exact p α' F' H' _ ⟨by rw [ln]; omega, ex.al, ex.fr⟩ r3 ⟨by rw [a], by rw [ln]; omega⟩
end

abbrev st0 : Shared := {}
structure DTs (X : Cx) (x : Fx) (W : WX) (ifs : List Expr) (t : TT) (f : Vr → Store → R Bool) : Prop where
  pt : PTs X ifs t
  fit : FitT x W t f
def fYes : Vr → Store → R Bool := fun _ S => .ok true S
section
variable {X : Cx} {x : Fx} {W : WX} {c : Expr} {t : TT} {f : Vr → Store → R Bool}
theorem dts_nil : DTs X x W [] tYes fYes := ⟨pts_nil, fun α F ρ S σ H r s Q q => q α F H true (Ext.refl _ _ _) r rfl⟩
theorem dts_one (h : DT X x W c t f) : DTs X x W [c] t f := ⟨pts_one h.pt, h.fit⟩
end
section
variable {X : Cx} {x : Fx} {W : WX} {elt tg iter : Expr} {ifs : List Expr} {scope : Scope} {own : List (Str × Nat)} {pos : Pos} {wi : TI} {src : Vr → Store → R (List D)} {g : TG} {a1 : U → Vr → Option Vr} {tt : TT} {ft : Vr → Store → R Bool} {te : TE} {fe : Vr → Store → R U}
theorem de_lc (hc : X.calm = true) (hN : X.N.Nodup) (hi : DI X x W tg iter wi src) (ok : BlkOk X.N X.env.scope scope own)
    (hg : ∀ (s : Shared) (H : Hp) (C : Addr) (cl : List (Str × Addr)) (fp : List Addr), DG (X.blk s H scope (compEnvC scope cl C X.env) fp) x tg g a1) (hw : GM g (own.map (·.2)))
    (ht : ∀ (s : Shared) (H : Hp) (C : Addr) (cl : List (Str × Addr)) (fp : List Addr), DTs (X.blk s H scope (compEnvC scope cl C X.env) fp) x W0 ifs tt ft)
    (he : ∀ (s : Shared) (H : Hp) (C : Addr) (cl : List (Str × Addr)) (fp : List Addr), DE (X.blk s H scope (compEnvC scope cl C X.env) fp) x W0 elt te fe) (hs : ∀ y, foldedSetIterable iter X.env y = pure y := by intro _; rfl) :
    DE X x W (.ListComp elt [⟨tg, iter, ifs, 0⟩] scope pos) (tLc wi g tt te (own.map (·.2))) (fLc src a1 ft fe (own.map (·.2))) :=
  ⟨pe_lc hc hN hi.pi ok (fun s H C cl fp => (hg s H C cl fp).pg) (fun s H C cl fp => (ht s H C cl fp).pt) (fun s H C cl fp => (he s H C cl fp).pe) hs, fit_lc hi.fit (hg st0 (fun _ => none) 0 [] []).fit hw (ht st0 (fun _ => none) 0 [] []).fit (he st0 (fun _ => none) 0 [] []).fit⟩
theorem de_lcL (hc : X.calm = true) (hN : X.N.Nodup) (hi : DI X x W tg iter wi src) (ok : BlkOk X.N X.env.scope scope own)
    (hg : ∀ (s : Shared) (H : Hp) (C : Addr) (cl : List (Str × Addr)) (fp : List Addr), DG (X.blk s H scope (compEnvC scope cl C X.env) fp) x tg g a1) (hw : GM g (own.map (·.2)))
    (ht : ∀ (s : Shared) (H : Hp) (C : Addr) (cl : List (Str × Addr)) (fp : List Addr), DTs (X.blk s H scope (compEnvC scope cl C X.env) fp) x W0 ifs tt ft)
    (he : ∀ (s : Shared) (H : Hp) (C : Addr) (cl : List (Str × Addr)) (fp : List Addr), DE (X.blk s H scope (compEnvC scope cl C X.env) fp) x W0 elt te fe) (hs : ∀ y, foldedSetIterable iter X.env y = pure y := by intro _; rfl) :
    DE X x W (.ListComp elt [⟨tg, iter, ifs, 0⟩] scope pos) (tLc wi g tt te (own.map (·.2))) (fLcL src a1 ft fe (own.map (·.2))) :=
  ⟨pe_lc hc hN hi.pi ok (fun s H C cl fp => (hg s H C cl fp).pg) (fun s H C cl fp => (ht s H C cl fp).pt) (fun s H C cl fp => (he s H C cl fp).pe) hs, fit_lcL hi.fit (hg st0 (fun _ => none) 0 [] []).fit hw (ht st0 (fun _ => none) 0 [] []).fit (he st0 (fun _ => none) 0 [] []).fit⟩
/-- y = [..], y a local, on one line -/
theorem ds_setLc {i : Nat} {y : Str} {py spos : Pos} (hc : X.calm = true) (hN : X.N.Nodup) (hi : DI X x W tg iter wi src) (ok : BlkOk X.N X.env.scope scope own)
    (hg : ∀ (s : Shared) (H : Hp) (C : Addr) (cl : List (Str × Addr)) (fp : List Addr), DG (X.blk s H scope (compEnvC scope cl C X.env) fp) x tg g a1) (hw : GM g (own.map (·.2)))
    (ht : ∀ (s : Shared) (H : Hp) (C : Addr) (cl : List (Str × Addr)) (fp : List Addr), DTs (X.blk s H scope (compEnvC scope cl C X.env) fp) x W0 ifs tt ft)
    (he : ∀ (s : Shared) (H : Hp) (C : Addr) (cl : List (Str × Addr)) (fp : List Addr), DE (X.blk s H scope (compEnvC scope cl C X.env) fp) x W0 elt te fe)
    (hy : X.N[i]? = some y := by rfl) (hyl : X.env.scope.names.lookup y = some .local := by rfl) (hsw : swapsWith (.ListComp elt [⟨tg, iter, ifs, 0⟩] scope pos) (some (.Name y py)) spos.line X.env = pure true := by exact sw_true rfl rfl rfl (by decide +kernel))
    (hs : ∀ y, foldedSetIterable iter X.env y = pure y := by intro _; rfl) :
    DS X x W (.Assign [.Name y py] (.ListComp elt [⟨tg, iter, ifs, 0⟩] scope pos) spos) (tAsg (tLc wi g tt te (own.map (·.2))) (gName i)) (gSet i (fLc src a1 ft fe (own.map (·.2)))) :=
  ⟨ps_setLc hc hN hy hyl hsw hi.pi ok (fun s H C cl fp => (hg s H C cl fp).pg) (fun s H C cl fp => (ht s H C cl fp).pt) (fun s H C cl fp => (he s H C cl fp).pe) hs, fits_set i (fit_lc hi.fit (hg st0 (fun _ => none) 0 [] []).fit hw (ht st0 (fun _ => none) 0 [] []).fit (he st0 (fun _ => none) 0 [] []).fit)⟩
theorem ds_setLcL {i : Nat} {y : Str} {py spos : Pos} (hc : X.calm = true) (hN : X.N.Nodup) (hi : DI X x W tg iter wi src) (ok : BlkOk X.N X.env.scope scope own)
    (hg : ∀ (s : Shared) (H : Hp) (C : Addr) (cl : List (Str × Addr)) (fp : List Addr), DG (X.blk s H scope (compEnvC scope cl C X.env) fp) x tg g a1) (hw : GM g (own.map (·.2)))
    (ht : ∀ (s : Shared) (H : Hp) (C : Addr) (cl : List (Str × Addr)) (fp : List Addr), DTs (X.blk s H scope (compEnvC scope cl C X.env) fp) x W0 ifs tt ft)
    (he : ∀ (s : Shared) (H : Hp) (C : Addr) (cl : List (Str × Addr)) (fp : List Addr), DE (X.blk s H scope (compEnvC scope cl C X.env) fp) x W0 elt te fe)
    (hy : X.N[i]? = some y := by rfl) (hyl : X.env.scope.names.lookup y = some .local := by rfl) (hsw : swapsWith (.ListComp elt [⟨tg, iter, ifs, 0⟩] scope pos) (some (.Name y py)) spos.line X.env = pure true := by exact sw_true rfl rfl rfl (by decide +kernel))
    (hs : ∀ y, foldedSetIterable iter X.env y = pure y := by intro _; rfl) :
    DS X x W (.Assign [.Name y py] (.ListComp elt [⟨tg, iter, ifs, 0⟩] scope pos) spos) (tAsg (tLc wi g tt te (own.map (·.2))) (gName i)) (gSet i (fLcL src a1 ft fe (own.map (·.2)))) :=
  ⟨ps_setLc hc hN hy hyl hsw hi.pi ok (fun s H C cl fp => (hg s H C cl fp).pg) (fun s H C cl fp => (ht s H C cl fp).pt) (fun s H C cl fp => (he s H C cl fp).pe) hs, fits_set i (fit_lcL hi.fit (hg st0 (fun _ => none) 0 [] []).fit hw (ht st0 (fun _ => none) 0 [] []).fit (he st0 (fun _ => none) 0 [] []).fit)⟩
end
/-! ### stores into a list -/
def uSetL (u w z : U) (S : Store) : Option Store := match u, w with
  | .loc l, .d (.int i) => (match frz z S with
    | some (y, S1) => (match S1[l]? with
      | some (some ds) => (match ixN ds.length i with
        | some j => some (S1.set l (some (ds.set j y)))
        | none => none)
      | _ => none)
    | none => none)
  | _, _ => none
@[simp] def gSetIx (fo fi fe : Vr → Store → R U) : Vr → Store → O := fun ρ S => (fe ρ S).st ρ fun z S1 => (fo ρ S1).st ρ fun u S2 => (fi ρ S2).st ρ fun w S3 => match uSetL u w z S3 with
  | some S4 => .nx ρ S4
  | none => .bad
section
variable {X : Cx} {x : Fx} {W : WX} {o i e : Expr} {to ti te : TE} {fo fi fe : Vr → Store → R U} {p pos : Pos}
theorem fits_setIx (he : FitE x W te fe) (ho : FitE x W to fo) (hi : FitE x W ti fi) : FitS x W (tAsg te (gSub to ti rSetL)) (gSetIx fo fi fe) := by
  intro α F ρ S σ H r s D q
  refine he.st r s q fun α1 F1 S1 H1 v z e1 r1 s1 i1 p1 => ?_
  refine ho.st r1 s1 p1 fun α2 F2 S2 H2 vo u e2 r2 s2 i2 p2 => ?_
  refine hi.st r2 s2 p2 fun α3 F3 S3 H3 vi w e3 r3 s3 i3 p3 => ?_
  split at p3
  · rename_i S4 hs
    unfold uSetL at hs
    split at hs
    · rename_i l j
      split at hs
      · rename_i y S5 hf
        obtain ⟨F5, r5, e5, j5⟩ := frz_ok r3 (IsU.ext e3 (IsU.ext e2 i1)) hf
        split at hs
        · rename_i ds hl
          split at hs
          · rename_i k hk
            cases hs
            obtain ⟨c1, ws, c2, c3⟩ := r5.cell l ds hl
            obtain ⟨rfl, _⟩ := is_loc i2
            obtain ⟨r6, e6⟩ := r5.write hl (c3.set k j5)
            have al : α3 l = α2 l := e3.al l (by have := (is_loc i2).2; exact this)
            rw [is_int i3]
            rw [al] at c2 r6
            exact ⟨_, ws, j, k, rfl, rfl, c2, by rw [c3.length]; exact hk, p3 _ _ _ _ (e5.trans e6) r6 (s3.ext (e5.trans e6))⟩
          · cases hs
        · cases hs
      · cases hs
    · cases hs
  · exact p3.elim
theorem ds_setIx (he : DE X x W e te fe) (ho : DE X x W o to fo) (hi : DE X x W i ti fi) (hs : swapsWithSole [.Subscript o i p] e pos.line X.env = pure false := by rfl) (hw : swappedStores [.Subscript o i p] e X.env = pure none := by rfl)
    (h1 : (assignEach [.Subscript o i p] X.env).map (·.2) = [assign (.Subscript o i p) X.env] := by rfl)
    (ha : ∀ v, assign (.Subscript o i p) X.env v = (do
      let ov ← holding [v] (eval o X.env)
      let iv ← holding [v, ov] (eval i X.env)
      standAt p
      holding [v, ov, iv] (setItem ov iv v)
      release [v, ov, iv] []) := by intro _; rfl) : DS X x W (.Assign [.Subscript o i p] e pos) (tAsg te (gSub to ti rSetL)) (gSetIx fo fi fe) :=
  ⟨ps_asg he.pe (pg_sub ho.pe hi.pe set_list ha) hs hw h1, fits_setIx he.fit ho.fit hi.fit⟩
end
/-! ### defs, calls, raises -/
/-- the def x keeps the mirror m, by at most k calls, one in another -/
structure Def (P : Program) (w : World) (K : PySem.W.Frag) (mg : Str → Option Value) (base : Heap) (x : Fx) (f : Str) (np k : Nat) (m : List U → Store → R U) : Prop where
  ok : ∃ (a : Addr) (fd : FuncData) (ps : List Str), FnOk P w K mg base (L2N.CX P w) k a fd ps (spOf x np m) ∧ ps.length = np ∧ Binds K fd ps [] ∧ PySem.W.keepIn K (.ref a) = true ∧ mg f = some (.ref a)
theorem spOf_len {x : Fx} {np : Nat} {m : List U → Store → R U} (vs : List V) (H : Hp) (Q : VK) (E : XK) (h : spOf x np m vs H Q E) : vs.length = np := by
  obtain ⟨_, _, _, _, h, _⟩ := h
  exact h
theorem spOf_fx {x y : Fx} {np : Nat} {m : List U → Store → R U} (h : x = y) : spOf x np m = spOf y np m := by rw [h]
section
variable {X : Cx} {x : Fx} {W : WX} {e : Expr} {es : List Expr} {ts : TA} {fs : Vr → Store → R (List U)} {n k j : Nat} {m : List U → Store → R U} {y : Str} {p pos : Pos}
theorem de_call (G : Def X.prog X.w X.K X.mg X.base x y n k m) (hr : Room j X.A) (hkj : k ≤ j) (tk : L2N.Takes X W) (ha : DA X x W (e :: es) ts fs n) (hg : Gl X y := by rfl) (hdb : (y == ("__debug__" : Str)) = false := by decide)
    (he : starEach (e :: es) X.env = (false, eval e X.env) :: starEach es X.env := by rfl) (hpl : (backTo pos (starEach es X.env)).any (·.1) = false := by rfl) : DE X x W (.Call (.Name y p) (e :: es) [] pos) (tCallSD (spOf x n m) [] (WE W) ts) (fCall m fs) := by
  obtain ⟨a, fd, ps, F, hl, hb, hk, hm⟩ := G.ok
  exact ⟨pe_callSD F (hr.mono hkj) hg hm hk hb .nil (fun σ => L2N.passAt tk σ) ha.pa hdb he hpl, fit_call ha.fit ha.len⟩
end
section
variable {P : Program} {w : World} {K : PySem.W.Frag} {mg : Str → Option Value} {base : Heap}
theorem takesF {P : Program} {w : World} {K : PySem.W.Frag} {mg : Str → Option Value} {base : Heap} {N : List Str} {qual : Str} {scope : Scope} {f : Addr} {cd : Value} {A : Around} {outer : List Env} {s : Shared} {H : Hp} {E : XK} :
    L2N.Takes (cxOf (L2N.CX P w) P w K mg base N qual scope f cd A outer s H E) (fun c d _ H => E c d H) := L2N.takes_of rfl rfl rfl rfl
/-- THE RULE for a def -/
theorem def_ok {f : Str} {params : Arguments} {body : List Stmt} {scope : Scope} {a : Addr} {fd : FuncData} {N ps : List Str} {k : Nat} {g : Vr → Store → O} {T : Tb} (F : FunD K f f params body scope [] [] a fd) (hm : mg f = some (.ref a)) (S : FnScope N ps scope)
    (hb : ∀ (kV doc pm : Value) (an : Option Addr) (cdv ct : Value) (us : List Value), us.length = ps.length → bindArgs (PySem.W.fnOf f f params body scope .none kV doc pm an cdv ct) ⟨us, []⟩ = pure (ps.zip us))
    (hbody : ∀ (cdv : Value) (A : Around) (outer : List Env) (s : Shared) (H : Hp) (E : XK), Room k (A.deeper (envOfC f scope s.heap.objs.size a cdv)) →
      ∃ t, DB (cxOf (L2N.CX P w) P w K mg base N f scope a cdv A outer s H E) { K := K, mg := mg, T := T } (fun c d _ H => E c d H) body t g) :
    Def P w K mg base { K := K, mg := mg, T := T } f ps.length (k + 1) (runD N.length g) := by
  refine ⟨a, fd, ps, F.ok S (fun vs H Q E h => spOf_len vs H Q E h) (fun cdv A outer s H vs Q E hr h => ?_), rfl, F.bindsN hb, F.kp, hm⟩
  obtain ⟨t, d⟩ := hbody cdv A outer s H E hr
  exact ⟨t, d.ps, body_ok d.fit h⟩
theorem Def.mono {x : Fx} {f : Str} {np j k : Nat} {m : List U → Store → R U} (h : Def P w K mg base x f np j m) (l : j ≤ k) : Def P w K mg base x f np k m := by
  obtain ⟨a, fd, ps, F, h1, h2, h3, h4⟩ := h.ok
  exact ⟨a, fd, ps, F.mono l, h1, h2, h3, h4⟩
end
end Z

/-! Z9: raise; try .. except as; a lambda handed to a def. -/
namespace Z
open PySem PySem.Spec PyProof.Rows L2
/-! ### raise -/
def spInit (K : PySem.W.Frag) : Sp := fun vs H Q _ => ∃ (a C : Addr) (v : V), vs = [.ref a, v] ∧ H a = some (exo a C none) ∧ (OexC K C ∧ PySem.W.findIn K (.ref C) "what" = some none) ∧ ∀ d, H d = none → d ≠ a → Q .non (upd (upd H d (exd d [(("what" : Str), v)])) a (exo a C (some d)))
/-- a class whose exceptions are made by an __init__ that stores what alone -/
structure Raiser (P : Program) (w : World) (K : PySem.W.Frag) (mg : Str → Option Value) (base : Heap) (c : Str) (C : Addr) : Prop where
  hm : mg c = some (.ref C)
  T : OexC K C
  hw : PySem.W.findIn K (.ref C) "what" = some none
  F : ∃ (fI : Addr) (fd : FuncData), PySem.W.findIn K (.ref C) "__init__" = some (some (.ref fI)) ∧ PySem.W.typeIn K (.ref fI) = some (.type "function") ∧ FnOk P w K mg base CX0 1 fI fd ["self", "what"] (spInit K) ∧ Binds K fd ["self", "what"] []
@[simp] def gRaise (c : Str) (fs : Vr → Store → R (List U)) : Vr → Store → O := fun ρ S => (fs ρ S).st ρ fun us S1 => match us with
  | [u] => (match frz u S1 with
    | some (y, S2) => .exc c y ρ S2
    | none => .bad)
  | _ => .bad
theorem pmk_oexN {X : Cx} {CX : CXT} {y : Str} {e : Expr} {es : List Expr} {ta : TA} {p pos : Pos} {C fI : Addr} {k : Nat} {fd : FuncData} {ps : List Str} {sp : Sp} (T : OexC X.K C) (iC : PySem.W.findIn X.K (.ref C) "__init__" = some (some (.ref fI))) (tI : PySem.W.typeIn X.K (.ref fI) = some (.type "function"))
    (F1 : FnOk X.prog X.w X.K X.mg X.base CX k fI fd ps sp) (hr : Room (k + 1) X.A) (hb : Binds X.K fd ps []) (hx : Passes CX X (fun _ _ _ => False)) (hg : Gl X y) (hm : X.mg y = some (.ref C)) (ha : PA X (e :: es) ta)
    (hdb : (y == ("__debug__" : Str)) = false) (he : starEach (e :: es) X.env = (false, eval e X.env) :: starEach es X.env) (hpl : (backTo pos (starEach es X.env)).any (·.1) = false) :
    L2N.PMk X (.Call (.Name y p) (e :: es) [] pos) (tMkO C sp [] ta) := by
  intro pins s σ H Q I h
  obtain ⟨nm, q, N, bs, bm, sn, sub, ab, col, dd, k0, k1, k2, k3, k5, hC, hbm⟩ := T.cls
  refine wpAny_Call_Name_kw (ld_glob I hg hm ?_ hdb)
  refine PySem.W.callWith_K (h₀ := X.base) I.ok.mod.kin T.kC (thn (ha.run pos pins s σ H _ I h) fun us s1 ⟨vs, H1, I1, r1, hz, q1⟩ => ⟨I1.kIn, ?_⟩) he hpl
  show wpAny _ _ (call (.ref C) us) _ _ _
  obtain ⟨hp, g, dr, tk, os⟩ := s1
  have hsz : hp.objs.size ≤ hp.objs.size + 1 := Nat.le_succ _
  have hn : H1 (hp.objs.size + 1) = none := I1.hok.fresh hsz
  have hq := q1 (hp.objs.size + 1) hn
  rw [List.append_nil] at hq
  have kk : ∀ b o, hp.get? b = some o → ((hp.push (PySem.W.kdv_tup us)).push (PySem.HandSPX.excO C hp.objs.size)).get? b = some o := fun b o e => Heap.get?_push_of_some _ (Heap.get?_push_of_some _ e)
  have hget : ((hp.push (PySem.W.kdv_tup us)).push (PySem.HandSPX.excO C hp.objs.size)).get? (hp.objs.size + 1) = some (PySem.HandSPX.excO C hp.objs.size) := by heap_get
  have I2 : Inv X pins σ (upd H1 (hp.objs.size + 1) (exo (hp.objs.size + 1) C none)) ⟨(hp.push (PySem.W.kdv_tup us)).push (PySem.HandSPX.excO C hp.objs.size), g, dr, tk, os⟩ :=
    I1.laid (t' := tk) (a := hp.objs.size + 1) (o := exo (hp.objs.size + 1) C none) (h' := (hp.push (PySem.W.kdv_tup us)).push (PySem.HandSPX.excO C hp.objs.size)) kk hsz (exo_ok hget)
  have r2 : Vals (V.ref (hp.objs.size + 1) :: vs) (Value.ref (hp.objs.size + 1) :: us) := .cons rfl r1
  have hl : (Value.ref (hp.objs.size + 1) :: us ++ []).length = ps.length := by
    have e := r2.length
    rw [F1.len _ _ _ _ hq] at e
    rw [List.append_nil]
    exact e.symm
  have hus : us.length ≤ sizeLine := by
    rw [← Paired.length r1, sizeLine_eq]
    omega
  have b2 := hb _ (Value.ref (hp.objs.size + 1) :: us) I2.kIn hl
  rw [List.append_nil] at b2
  refine wpAny_call (PySem.HandSPX.call_own F.excBase_ValueError (fun Y => PySem.HandSPX.refsVE_contains Y bm hbm) (I1.kIn _ _ hC) (PySem.W.looks_findIn I1.kIn iC) (fun self => PySem.W.bind_fn I1.kIn self tI) hus
    (codeAny_mono (F1.run _ X.stack _ _ ⟨Value.ref (hp.objs.size + 1) :: us, []⟩ (Value.ref (hp.objs.size + 1) :: us) _ _ (fun _ _ _ => False) (hr.make C us []) (I2.env0.make C us []) b2 r2 hq) fun r s' hq' => ?_))
  cases r with
  | error er => exact hx pins σ _ _ er s' I2 hq'
  | ok fl =>
    cases fl with
    | ret u =>
      obtain ⟨v, H2, os2, bare2, un2, hok2, rv, ev, d, fs, ea, ed, hd1, q2⟩ := hq'
      subst ev
      obtain ⟨h2, g2, d2, t2, os'⟩ := s'
      obtain ⟨t0, G, J, kG, ge, hoe, na⟩ := mk_end0 (d2 := d2) (t2 := t2) I1 hsz kk un2 hok2 os2 bare2 ea ed hd1
      refine ⟨rv, ⟨hp.objs.size + 1, _, _, ⟨G, g2, d2, t2, os'⟩, _, .ref C, some d, rfl, J, kG, ge, hoe, ⟨rfl, rfl, fun vs hv => ?_⟩, rfl, rfl, na, rfl, bare2, raises_own T.exC T.tyC, q2⟩⟩
      cases hv
      rfl
    | next => exact False.elim hq'
    | brk => exact False.elim hq'
    | cont => exact False.elim hq'
section
variable {X : Cx} {x : Fx} {W : WX} {e : Expr} {ts : TA} {fs : Vr → Store → R (List U)} {c : Str} {p pos pos' : Pos}
theorem ds_raise {C : Addr} (hx : x.mg = X.mg) (hK : x.K = X.K) (R : Raiser X.prog X.w X.K X.mg X.base c C) (hr : Room 2 X.A) (hc : X.calm = true) (tk : L2N.Takes X W) (ha : DA X x W [e] ts fs 1) (hg : Gl X c := by rfl) (hdb : (c == ("__debug__" : Str)) = false := by decide)
    (he : starEach (e :: []) X.env = (false, eval e X.env) :: starEach [] X.env := by rfl) (hpl : (backTo pos' (starEach [] X.env)).any (·.1) = false := by rfl) : DS X x W (.Raise (some (.Call (.Name c p) [e] [] pos')) none pos) (fun _ σ H => tMkO C (spInit X.K) [] ts σ H fun cls d H' => W cls d σ H') (gRaise c fs) := by
  obtain ⟨hm, T, hw, fI, fd, iC, tI, F, hb⟩ := R
  refine ⟨L2N.ps_raise hc tk (pmk_oexN T iC tI F hr hb pass0 hg hm ha.pa hdb he hpl), ?_⟩
  intro α F ρ S σ H r s D q
  refine ha.fit.st r s q fun α1 F1 S1 H1 vs us e1 r1 s1 i1 p1 => ?_
  split at p1
  · rename_i u
    obtain ⟨v, rfl, i2⟩ := us1 i1
    split at p1
    · rename_i y S2 hf
      obtain ⟨F2, r2, e2, j2⟩ := frz_ok r1 i2 hf
      refine ⟨by show 1 ≤ 1000; decide, fun a hna => ⟨a, C, v, rfl, upd_same, ⟨T, hw⟩, fun d hd hda => ⟨rfl, d, _, upd_same, by rw [upd_ne hda, upd_same], ?_, ?_⟩⟩⟩
      · rw [upd_ne hda] at hd
        exact hd
      · rw [upd_ne hda] at hd
        have eH : upd (del (upd (upd (upd H1 a (exo a C none)) d (exd d [(("what" : Str), v)])) a (exo a C (some d))) a) d (.xd [(("what" : Str), v)]) = upd H1 d (.xd [(("what" : Str), v)]) := by
          funext b
          by_cases hbd : b = d
          · rw [hbd, upd_same, upd_same]
          · rw [upd_ne hbd, upd_ne hbd]
            by_cases hba : b = a
            · rw [hba, del_same, hna]
            · rw [del_ne hba, upd_ne hba, upd_ne hbd, upd_ne hba]
        rw [eH]
        obtain ⟨r3, e3⟩ := r2.frozen (o := .xd [(("what" : Str), v)]) hd
        exact p1 α1 _ _ σ C d v _ (e2.trans e3) r3 (s1.ext (e2.trans e3)) (by rw [hx]; exact hm) upd_same (by simp [List.lookup]) (Is.mono e3.fr _ _ j2)
    · exact p1.elim
  · exact p1.elim
/-- __init__(self, what): ValueError.__init__(self, what); self.what = what -/
theorem init_body {P : Program} {w : World} {K : PySem.W.Frag} {mg : Str → Option Value} {base : Heap} {params : Arguments} {body : List Stmt} {scope : Scope} {a : Addr} {fd : FuncData} {q : Str} (F : FunD K "__init__" q params body scope [] [] a fd) (S : FnScope ["self", "what"] ["self", "what"] scope)
    (hb : ∀ (cdv : Value) (A : Around) (outer : List Env) (s : Shared) (H : Hp) (E : XK), PSs (cxOf CX0 P w K mg base ["self", "what"] q scope a cdv A outer s H E) body (tSeq (tDrop (tVeI K (tCons (tVar 0) (tCons (tVar 1) tNil)))) (tOst K "what" (tVar 0) (tVar 1)))) :
    FnOk P w K mg base CX0 1 a fd ["self", "what"] (spInit K) := by
  refine F.ok S (fun vs H Q E h => ?_) (fun cdv A outer s H vs Q E hr h => ⟨_, hb cdv A outer s H E, ?_⟩)
  · obtain ⟨a, C, v, rfl, _⟩ := h
    rfl
  · obtain ⟨b, C, v, rfl, h1, ⟨T, hw⟩, h2⟩ := h
    exact ⟨.ref b, rfl, v, rfl, b, C, [v], rfl, by show 1 ≤ 1000; decide, T, h1, v, rfl, .ref b, rfl, b, C, rfl, T, hw, .inl ⟨h1, fun dx n ne => h2 dx n ne⟩⟩
end
/-! ### try .. except .. as -/
def xS (x : Fx) (a : Addr) (c : Str) (dd : Addr) : Fx := { x with exc := fun a' c' d' => a' = a ∧ c' = c ∧ d' = dd }
section
variable {x : Fx} {α : Nat → Addr} {F : Hp} {S : Store} {H : Hp} {σ : L2.St} {ρ : Vr} {n : Nat} {a dd : Addr} {c : Str} {v : V} {u : U}
theorem Rep.xS (r : Rep x α F S H) : Rep (Z.xS x a c dd) α F S H := ⟨r.le, r.inj, r.cell, r.old, r.tabs, r.tabF⟩
theorem Rep.unxS (r : Rep (Z.xS x a c dd) α F S H) : Rep x α F S H := ⟨r.le, r.inj, r.cell, r.old, r.tabs, r.tabF⟩
theorem IsV.xS (h0 : ∀ a c d, ¬ x.exc a c d) (h : IsV x α F n v u) : IsV (Z.xS x a c dd) α F n v u := by
  cases u with
  | ex c y =>
    obtain ⟨a', d', fs, w, e1, e2, _⟩ := h
    exact (h0 _ _ _ e2).elim
  | _ => exact h
theorem IsU.xS (h0 : ∀ a c d, ¬ x.exc a c d) (h : IsU x α F n v u) : IsU (Z.xS x a c dd) α F n v u := by
  cases u with
  | thk =>
    obtain ⟨h1, h2, h3, h4⟩ := h
    exact ⟨h1, h2, h3, fun i u e => by
      obtain ⟨v', e1, e2⟩ := h4 i u e
      exact ⟨v', e1, IsV.xS h0 e2⟩⟩
  | d y => exact h
  | loc l => exact h
  | rd ds => exact h
  | adr b => exact h
  | ty T => exact h
  | cls k => exact h
  | ex k y => exact IsV.xS (x := x) (α := α) (F := F) (n := n) (a := a) (c := c) (dd := dd) (u := .ex k y) h0 h
theorem Sl.xS (h0 : ∀ a c d, ¬ x.exc a c d) (s : Sl x α F n σ ρ) : Sl (Z.xS x a c dd) α F n σ ρ := ⟨s.len, fun i u e => by
  obtain ⟨v, e1, e2⟩ := s.get i u e
  exact ⟨v, e1, e2.xS h0⟩⟩
end
def gTry (cs : List Str) (i : Nat) (gb gs : Vr → Store → O) : Vr → Store → O := fun ρ S => match gb ρ S with
  | .exc c y ρ1 S1 => if c ∈ cs then (match gs (ρ1.set i (some (.ex c y))) S1 with
      | .rt (.d u) S2 => .rt (.d u) S2
      | _ => .bad) else .bad
  | o => o
def tsA (mg : Str → Option Value) (cs : List Str) (ts : Addr → Str → Addr → Addr → TS) : Addr → Value → Option Addr → TS := fun a cls d D σ H =>
  ∃ c C dd, cls = .ref C ∧ d = some dd ∧ c ∈ cs ∧ mg c = some (.ref C) ∧ ts a c C dd D σ H
section
variable {X : Cx} {x : Fx} {W : WX} {R n : Str} {cv : Value} {i : Nat} {body suite : List Stmt} {b₀ : Stmt} {np pos pos' : Pos} {tb : WX → TS} {ts : Addr → Str → Addr → Addr → TS} {gb gs : Vr → Store → O} {cs : List Str}
/-- a wish that is met whatever comes -/
theorem takes_look (hs : X.stack = X.env :: X.outer) (hf : X.env.frame = some X.env.locals) (W' : WX) :
    L2N.Takes (X.tr [] fun e s₁ => wpAny (model X.prog X.w) X.A (noteFrame e X.env) (fun _ s₂ => wpAny (model X.prog X.w) X.A (setFlight e none) (fun _ _ => True) (fun _ _ => True) s₂) (fun _ _ => True) s₁) W' := fun u s' xx => by
  obtain ⟨a, B, sI, pins', σ', H', cls, d, rfl, J', nb, up, sky, na, os, ag, w⟩ := xx
  have hfr : X.A.frames = some (X.env :: X.outer) := by
    have := J'.ok.frames
    rw [show (X.tr [] _).stack = X.env :: X.outer from hs] at this
    exact this
  have sky' : Sky B (X.env :: X.outer) a (L2N.Zn cls d) X.env.locals s'.heap := by rw [← hs]; exact sky
  exact L2N.Sky.land L2N.Zn.steady hfr hf sky' fun _ _ _ => True.intro
theorem ds_try_as (hK : x.mg = X.mg) (h0 : ∀ a c d, ¬ x.exc a c d) (hs : X.stack = X.env :: X.outer) (hf : X.env.frame = some X.env.locals) (hN : X.N.Nodup) (hc : Names X R cv) (tk : L2N.Takes X W)
    (hcs : ∀ c ∈ cs, ∀ C, x.mg c = some (.ref C) → PySem.W.exmOne X.K (.ref C) cv = some true)
    (hb : ∀ (W' : WX) (pn : List (Addr × Obj)) (xe : Value → Shared → Prop), L2N.Takes (X.tr pn xe) W' → PassesOwn (model X.prog X.w) X.A X.env xe → DB (X.tr pn xe) x W' body (tb W') gb)
    (hsu : ∀ (a : Addr) (oe : Obj) (c : Str) (C dd : Addr) (pn : List (Addr × Obj)), L2N.Zn (.ref C) (some dd) oe → (∃ vs, oe.data = .fields vs) → c ∈ cs → x.mg c = some (.ref C) → DB (X.suite a ((a, oe) :: pn)) (xS x a c dd) W0 (b₀ :: suite) (ts a c C dd) gs)
    (hi : X.N[i]? = some n := by rfl) (hln : X.env.kindOf n = some .local := by rfl) :
    DS X x W (.Try body [.ExceptHandler (some (.Name R np)) (some n) (b₀ :: suite) pos'] [] [] pos) (fun D σ H => tb (wAs X.K cv i (tsA x.mg cs ts) W D) D σ H) (gTry cs i gb gs) := by
  refine ⟨L2N.ps_try_as hs hf hN hi hln hc tk (fun W' pn xe t1 t2 => (hb W' pn xe t1 t2).ps) fun a oe cls d pn hz hfl => ?_, ?_⟩
  · refine ⟨fun pins s σ H D I h => ?_⟩
    obtain ⟨c, C, dd, rfl, rfl, hcs', hm, h⟩ := h
    exact (hsu a oe c C dd pn hz hfl hcs' hm).ps.run pins s σ H D I h
  · intro α F ρ S σ H r s D p
    have fb := (hb (wAs X.K cv i (tsA x.mg cs ts) W D) [] _ (takes_look hs hf _) PassesOwn.looking).fit
    refine fb α F ρ S σ H r s D ?_
    unfold gTry at p
    cases e : gb ρ S with
    | exc c y ρ1 S1 =>
      rw [e] at p
      dsimp only at p
      split at p
      · rename_i hcc
        intro α' F' H' σ' C dd v fs e1 r1 s1 hm hd hl hv
        refine ⟨true, hcs c hcc C hm, fun _ a ha => ?_, fun z => nomatch z⟩
        refine ⟨c, C, dd, rfl, rfl, hcc, hm, ?_⟩
        have fs' := (hsu a { cls := .ref C, dict := some dd, data := .fields #[.none, .none, .none] } c C dd [] ⟨rfl, rfl, fun vs e => by cases e; rfl⟩ ⟨_, rfl⟩ hcc hm).fit
        refine fs' α' F' (ρ1.set i (some (.ex c y))) S1 (σ'.set i (some (.ref a))) H' r1.xS ((s1.xS h0).set i (u := .ex c y) ⟨a, dd, fs, v, rfl, ⟨rfl, rfl, rfl⟩, hd, hl, hv⟩) _ ?_
        cases e2 : gs (ρ1.set i (some (.ex c y))) S1 with
        | rt u S2 =>
          rw [e2] at p
          cases u with
          | d u => exact fun α2 F2 H2 v2 e3 r3 q => p α2 F2 H2 v2 (e1.trans e3) r3.unxS q
          | _ => exact p.elim
        | _ => rw [e2] at p; exact p.elim
      · exact p.elim
    | _ => rw [e] at p; exact p
end
/-- a try whose body never raises -/
@[simp] def gTry0 (gb : Vr → Store → O) : Vr → Store → O := fun ρ S => match gb ρ S with
  | .exc _ _ _ _ => .bad
  | o => o
section
variable {X : Cx} {x : Fx} {W : WX} {R : Str} {cv : Value} {body suite : List Stmt} {b₀ : Stmt} {np pos pos' : Pos} {tb : TS} {gb gs : Vr → Store → O} {ts : TS}
theorem takes0N {X : Cx} : L2N.Takes X (fun _ _ _ _ => False) := fun _ _ x => by
  obtain ⟨_, _, _, _, _, _, _, _, _, _, _, _, _, _, _, _, z⟩ := x
  exact z.elim
theorem ds_try0 (hs : X.stack = X.env :: X.outer) (hf : X.env.frame = some X.env.locals) (hc : Names X R cv)
    (hb : ∀ (pn : List (Addr × Obj)) (xe : Value → Shared → Prop), PassesOwn (model X.prog X.w) X.A X.env xe → DB (X.tr pn xe) x W0 body tb gb)
    (hsu : ∀ (a : Addr) (oe : Obj) (pn : List (Addr × Obj)), PSs (X.suite a ((a, oe) :: pn)) (b₀ :: suite) ts) :
    DS X x W (.Try body [.ExceptHandler (some (.Name R np)) none (b₀ :: suite) pos'] [] [] pos) tb (gTry0 gb) := by
  refine ⟨ps_try_only (tb := fun W' D σ H => tb D σ H) (ts := fun _ _ _ => ts) (Wout := W0) hs hf hc LamX.takes0 (fun W' pn xe t1 t2 => (hb pn xe t2).ps) (fun a oe cls d pn _ _ => hsu a oe pn), ?_⟩
  intro α F ρ S σ H r s D p
  have fb := (hb [] _ (PassesOwn.looking (K := fun _ _ => True) (E₁ := fun _ _ => True))).fit
  refine fb α F ρ S σ H r s D ?_
  unfold gTry0 at p
  cases e : gb ρ S with
  | exc c y ρ1 S1 => rw [e] at p; exact p.elim
  | _ => rw [e] at p; exact p
end
/-! ### within the suite -/
def rIsD (K : PySem.W.Frag) (D a dd : Addr) : List V → Hp → VK → Prop := fun xs H Q => ∃ (c : V) (cv : Value) (b : Bool) (fs : List (Str × V)), H dd = some (.xd fs) ∧ xs = [.ref a, c] ∧ (∀ u, RelV c u → u = cv) ∧ PySem.W.kitOne K (.ref D) cv = some b ∧ Q (.bl b) H
theorem call_isD {X : Cx} {a D dd : Addr} {oe : Obj} {pn : List (Addr × Obj)} (C : ExcC X.K D) (hz : Zc (.ref D) (some dd) oe) (hf : ∃ vs, oe.data = .fields vs) : CallR (X.suite a ((a, oe) :: pn)) (.builtin "isinstance") (rIsD X.K D a dd) := by
  intro pins s σ H xs us Q I r h
  obtain ⟨c, cv, b, fs, ed, rfl, hcv, e, q⟩ := h
  cases r with
  | cons rx rr =>
    cases rr with
    | cons rt rr =>
      cases rr
      cases rx
      have ec := hcv _ rt
      subst ec
      obtain ⟨hget, _⟩ := I.pin (a, oe) (List.mem_append.mpr (.inl List.mem_cons_self))
      obtain ⟨vs, hv⟩ := hf
      have hx : ObjOk X.prog X.w H s.heap dd (.xd fs) := I.hok dd _ ed
      obtain ⟨mA, hns, _⟩ := hx
      obtain ⟨od, ho, _⟩ := lookIn_ns hns
      have J : PySem.W.InstAt s.heap a oe D (some od) := ⟨hget, hz.1, by unfold PySem.W.notCls; rw [hv] <;> rfl, by rw [hz.2]; exact ho⟩
      have hcl : (PySem.W.clsIn X.K D).isSome = true := by
        obtain ⟨cd, hc, _⟩ := PySem.W.any_some C.hd
        rw [hc]
        rfl
      exact PySem.W.kia_one (PySem.W.kitx_exc (x := a) (ox := oe) (od := some od) hcl C.hg C.hk C.hs C.ha C.hn C.ht C.hm) I.kIn J e (fun z => nomatch z) fun tk => ⟨.bl b, H, I.kept (t' := tk) fun _ _ z => z, rfl, q⟩
def uIsE (ns : List Str) (us : List U) (S : Store) : R U := match us with
  | [.ex c _, .cls n] => if n ∈ ns then .ok (.d (.bool (c == n))) S else .bad
  | _ => .bad
/-- what the suite asks of the classes that come -/
structure ExcK (K : PySem.W.Frag) (mg : Str → Option Value) (C : Addr) : Prop where
  c : ExcC K C
  f : XfC K C
  w : PySem.W.findIn K (.ref C) "what" = some none
section
variable {X : Cx} {x : Fx} {W : WX} {a C dd : Addr} {c : Str} {oe : Obj} {pn : List (Addr × Obj)} {e : Expr} {es : List Expr} {ts : TA} {fs : Vr → Store → R (List U)} {k : Nat} {te : TE} {fe : Vr → Store → R U} {p pos : Pos} {ns : List Str}
theorem fit_isE (hK : x.K = X.K) (hm : x.mg c = some (.ref C)) (hk : ∀ n ∈ ns, ∀ N, x.mg n = some (.ref N) → PySem.W.kitOne X.K (.ref C) (.ref N) = some (c == n)) : FitN (xS x a c dd) (rIsD X.K C a dd) (uIsE ns) := by
  intro W α F S σ H vs us r i1 Q p
  unfold uIsE at p
  split at p
  · rename_i c' y n
    obtain ⟨v, w, rfl, h, h'⟩ := us2 i1
    obtain ⟨a', d', fs, w', rfl, ⟨rfl, rfl, rfl⟩, e3, _⟩ := h
    obtain ⟨N, rfl, e4⟩ := h'
    split at p
    · rename_i hn
      exact ⟨.ref N, .ref N, _, fs, r.le _ _ e3, rfl, fun u z => z, hk n hn N e4, ok_here r p (.bl _)⟩
    · exact p.elim
  · exact p.elim
theorem de_isE (hK : x.K = X.K) (E : ExcC X.K C) (hz : L2N.Zn (.ref C) (some dd) oe) (hf : ∃ vs, oe.data = .fields vs) (hmc : x.mg c = some (.ref C)) (hk : ∀ n ∈ ns, ∀ N, x.mg n = some (.ref N) → PySem.W.kitOne X.K (.ref C) (.ref N) = some (c == n))
    (hm : X.mg "isinstance" = none) (ha : DA (X.suite a ((a, oe) :: pn)) (xS x a c dd) W (e :: es) ts fs k) (hg : Gl X "isinstance" := by rfl) (he : starEach (e :: es) X.env = (false, eval e X.env) :: starEach es X.env := by rfl) (hpl : (backTo pos (starEach es X.env)).any (·.1) = false := by rfl) :
    DE (X.suite a ((a, oe) :: pn)) (xS x a c dd) W (.Call (.Name "isinstance" p) (e :: es) [] pos) (tCB (rIsD X.K C a dd) ts) (fN (uIsE ns) fs) :=
  de_callB (X := X.suite a ((a, oe) :: pn)) (call_isD E hz.zc hf) (fit_isE hK hmc hk) hm boot_isinstance ha hg (by decide) (by decide) he hpl
def uWhat (u : U) (S : Store) : R U := match u with
  | .ex _ y => .ok (.d y) S
  | _ => .bad
theorem de_what (hK : x.K = X.K) (E : XfC X.K C) (hw : PySem.W.findIn X.K (.ref C) "what" = some none) (hz : L2N.Zn (.ref C) (some dd) oe) (hf : ∃ vs, oe.data = .fields vs) (he : DE (X.suite a ((a, oe) :: pn)) (xS x a c dd) W e te fe) (hb : attributeBase e "what" X.env (eval e X.env) = eval e X.env := by rfl) :
    DE (X.suite a ((a, oe) :: pn)) (xS x a c dd) W (.Attribute e "what" pos) (tXf a (.ref C) (some dd) C "what" te) (f1 uWhat fe) := by
  refine ⟨pe_xf E hw hz.zc hf he.pe hb, ?_⟩
  intro α F ρ S σ H r0 s Q p
  refine he.fit.bind r0 s p fun α1 F1 S1 H1 v u e1 r1 s1 i1 p1 => ?_
  unfold uWhat at p1
  split at p1
  · rename_i c' y
    obtain ⟨a', d', fs, w', rfl, ⟨rfl, rfl, rfl⟩, e3, e4, e5⟩ := i1
    exact ⟨rfl, rfl, _, fs, w', rfl, r1.le _ _ e3, e4, p1 α1 F1 H1 w' (Ext.refl _ _ _) r1 e5⟩
  · exact p1.elim
end
theorem hot_suite {X : Cx} {a : Addr} {oe : Obj} {pn : List (Addr × Obj)} {C : Value} {d : Option Addr} (hz : L2N.Zn C d oe) (hf : ∃ vs : Array Value, oe.data = .fields vs) : L2H.HotC (X.suite a ((a, oe) :: pn)) := by
  obtain ⟨vs, hv⟩ := hf
  exact ⟨(a, oe), ⟨rfl, vs, hv, hz.2.2 vs hv⟩, List.mem_cons_self⟩
def sLst (fe : Vr → Store → R U) : Vr → Store → R (List D) := fun ρ S => (fe ρ S).bind lstD
theorem lstD_bad {u : U} {S : Store} {c : Str} {y : D} {S' : Store} : lstD u S ≠ .exc c y S' := by
  unfold lstD
  intro h
  split at h
  · cases h
  · exact seqD_bad h
theorem fit_lst' {x : Fx} {W : WX} {te : TE} {fe : Vr → Store → R U} (h : FitE x W te fe) : FitI x W (iList x.K te) (sLst fe) := by
  intro α F ρ S σ H r0 s Q q
  refine h.bind r0 s q fun α1 F1 S1 H1 v u e1 r1 s1 i1 p1 => ?_
  cases hs : lstD u S1 with
  | ok ds S2 =>
    rw [hs] at p1
    obtain ⟨F2, A, vs, r2, e2, rfl, h1, h2⟩ := lstD_ok r1 i1 hs
    exact ⟨A, rfl, ⟨vs, le_l r2.le h2⟩, p1 α1 F2 H1 _ e2 r2 (wk_list h2 h1)⟩
  | exc _ _ _ => exact absurd hs lstD_bad
  | bad => rw [hs] at p1; exact p1.elim
structure DGH (X : Cx) (x : Fx) (tg : Expr) (g : TG) (a : U → Vr → Option Vr) : Prop where
  pg : PGH X tg g
  fit : FitG x g a
section
variable {X : Cx} {x : Fx} {W : WX} {elt tg iter : Expr} {ifs es : List Expr} {scope : Scope} {own : List (Str × Nat)} {pos : Pos} {g : TG} {a1 : U → Vr → Option Vr} {tt : TT} {ft : Vr → Store → R Bool} {te : TE} {fe : Vr → Store → R U} {tl : TE} {fl : Vr → Store → R U} {tgs : TGs} {b1 : List D → Vr → Option Vr} {n : Nat}
theorem dgh_tup {k : Nat} (hK : x.K = X.K) (h1 : DGs X x es tgs b1) (hn : (assignEach es X.env).length = n := by rfl) (hst : (assignEach es X.env).findIdx? (·.1) = none := by rfl) : DGH X x (.Tuple es k pos) (gTup X.K n tgs) (aTup n b1) :=
  ⟨pgH_tup h1.pg hn hst, hK ▸ fitg_tup h1.fit⟩
theorem de_lcH (hK : x.K = X.K) (hc : L2H.HotC X) (hN : X.N.Nodup) (hi : DE X x W iter tl fl) (ok : BlkOk X.N X.env.scope scope own)
    (hg : ∀ (s : Shared) (H : Hp) (C : Addr) (cl : List (Str × Addr)) (fp : List Addr), DGH (X.blk s H scope (compEnvC scope cl C X.env) fp) x tg g a1) (hw : GM g (own.map (·.2)))
    (ht : ∀ (s : Shared) (H : Hp) (C : Addr) (cl : List (Str × Addr)) (fp : List Addr), DTs (X.blk s H scope (compEnvC scope cl C X.env) fp) x W0 ifs tt ft)
    (he : ∀ (s : Shared) (H : Hp) (C : Addr) (cl : List (Str × Addr)) (fp : List Addr), DE (X.blk s H scope (compEnvC scope cl C X.env) fp) x W0 elt te fe) (hs : ∀ y, foldedSetIterable iter X.env y = pure y := by intro _; rfl) :
    DE X x W (.ListComp elt [⟨tg, iter, ifs, 0⟩] scope pos) (tLc (iList X.K tl) g tt te (own.map (·.2))) (fLc (sLst fl) a1 ft fe (own.map (·.2))) :=
  ⟨pe_lcH hc hN hi.pe ok (fun s H C cl fp => (hg s H C cl fp).pg) (fun s H C cl fp => (ht s H C cl fp).pt) (fun s H C cl fp => (he s H C cl fp).pe) hs, fit_lc (hK ▸ fit_lst' hi.fit) (hg st0 (fun _ => none) 0 [] []).fit hw (ht st0 (fun _ => none) 0 [] []).fit (he st0 (fun _ => none) 0 [] []).fit⟩
end
/-! ### a lambda handed to a def -/
/-- the context of the lambda's body; what it lets out as L2N has it -/
def lamN (X : Cx) (A : Around) (outer : List Env) (s : Shared) (H : Hp) (E : XK) (scope : Scope) (f c' : Addr) : Cx :=
  (LamX.lamCx X A outer s H E scope f c').wish fun e s' => wpAny (model X.prog X.w) (A.deeper (LamX.lamEnv X scope s.heap.objs.size f c')) (leaving (LamX.lamEnv X scope s.heap.objs.size f c') e) (fun _ s'' => L2N.CX X.prog X.w outer H s E e s'') (fun e' s'' => L2N.CX X.prog X.w outer H s E e' s'') s'
theorem takesL {X : Cx} {A : Around} {outer : List Env} {s : Shared} {H : Hp} {E : XK} {scope : Scope} {f c' : Addr} : L2N.Takes (lamN X A outer s H E scope f c') (fun c d _ H => E c d H) := L2N.takes_of rfl rfl rfl rfl
section
variable {X : Cx} {pins : List (Addr × Obj)} {σ : L2.St} {H : Hp} {s : Shared}
theorem pe_actN {Eg : XK} {Ng : List Str} {qg : Str} {sg : Scope} {g f c' : Addr} {cdg pm ctv : Value} {params : Arguments} {body : Expr} {scope : Scope} {k i : Nat} {a : Str} {pn : List (Addr × Obj)} {xe : Value → Shared → Prop} {W : WX} {tb : XK → TE} {p1 p2 : Pos}
    (I : Inv X pins σ H s) (L : LamX.LamS X.env.scope scope) (hf : s.heap.get? f = some (PySem.W.kla_obj "<lambda>" (X.env.qual ++ "<lambda>") params body scope (cloFrom X.env.cells scope.names []) pm c' ctv)) (hfn : H f = none) (hfr : f ∉ frs X.stack)
    (hbind : bindArgs (PySem.W.kla_fn "<lambda>" (X.env.qual ++ "<lambda>") params body scope (cloFrom X.env.cells scope.names []) pm (.ref c') ctv) ⟨[], []⟩ = pure [])
    (tk : L2N.Takes ((cxOf (L2N.CX X.prog X.w) X.prog X.w X.K X.mg X.base Ng qg sg g cdg X.A X.stack s H Eg).tr pn xe) W) (hr : Room (k + 1) (X.A.deeper (envOfC qg sg s.heap.objs.size g cdg)))
    (hbody : ∀ (A : Around) (outer : List Env) (s : Shared) (H : Hp) (E : XK), Room k (A.deeper (LamX.lamEnv X scope s.heap.objs.size f c')) → PE (lamN X A outer s H E scope f c') body (tb E))
    (hN : Ng[i]? = some a) (hv : Vis sg a) (hd : (a == ("__debug__" : Str)) = false) (hcd : (a == ("__classdict__" : Str)) = false) :
    PE ((cxOf (L2N.CX X.prog X.w) X.prog X.w X.K X.mg X.base Ng qg sg g cdg X.A X.stack s H Eg).tr pn xe) (.Call (.Name a p1) [] [] p2)
      (fun σZ HZ Q => σZ[i]? = some (some (.ref f)) ∧ HZ c' = some (LamX.CodeO c' (X.env.qual ++ "<lambda>")) ∧ tb (WE W σZ) σ HZ Q) := by
  refine ⟨fun pinsZ sZ σZ HZ Q IZ h => ?_⟩
  obtain ⟨hs, hc, ht⟩ := h
  refine wpAny_Call_Name_kw (thn ((pe_var (pos := p1) (i := i) hN hv hd hcd).run pinsZ sZ σZ HZ (fun v H1 => v = .ref f ∧ H1 = HZ) IZ ⟨.ref f, hs, rfl, rfl⟩) fun u s1 ⟨v, H1, I1, r1, q1⟩ => ?_)
  obtain ⟨ev, eH⟩ := q1
  subst ev
  rw [eH] at I1
  obtain rfl : u = Value.ref f := r1
  have of1 := I1.base.keep f _ hf hfn hfr (fun z => nomatch (show f ∈ ([] : List Addr) from z))
  refine PySem.W.callWith_F0 ⟨_, _, _, _, of1⟩ ?_
  have un : Un (frs X.stack) [] H HZ s.heap s1.heap := I1.base
  obtain ⟨⟨oc, vs, t, hoc, hdc, hvc⟩, _, _⟩ := I1.hok c' _ hc
  have rc : codeAny (model X.prog X.w) (X.A.deeper (envOfC qg sg s.heap.objs.size g cdg)) (.call (.ref f) ⟨[], []⟩) (CR (L2N.CX X.prog X.w) (envOfC qg sg s.heap.objs.size g cdg :: X.stack) X.prog X.w HZ s1 Q (WE W σZ)) s1 := by
    refine PySem.W.kla_callFunE hr.depth of1 rfl L.co L.gen rfl ⟨c', oc, vs, t, rfl, hoc, hdc, hvc⟩ ?_
    rw [hbind]
    refine wpAny_pure (wpAny_newFunctionEnv (fun y hy => (L.own y hy).2) (fun y hy => absurd hy (by simp)) (fun h₁ hns hsb => ⟨I1.nolimit.fresh _ hsb, ?_⟩) L.kind)
    show codeAny _ _ (.expr body (LamX.lamEnv X scope s1.heap.objs.size f c')) _ _
    have kp : ∀ b o, s1.heap.get? b = some o → h₁.get? b = some o := fun b o e => hsb.extBut b o (Nat.ne_of_lt (Heap.lt_size e)) (Heap.get?_push_of_some _ e)
    have J := LamX.lam_start2 (E := WE W σZ) (tk := s1.toks + ([] : List (Str × Value)).length) (c' := c') (f := f) I L I1.env0 hr.hd un hns kp
    refine PySem.W.kla_codeExpr (wpAny_mono ((hbody _ _ s1 HZ (WE W σZ) (hr.deeper _)).run [] _ _ HZ Q (J.wish _) ht) (fun v s' hq => ?_) fun e s' hq => hq)
    obtain ⟨w', H', J', rv, q⟩ := hq
    exact ⟨w', H', J'.os, J'.bare, J'.base, J'.hok, rv, q⟩
  refine wpAny_call (codeAny_mono rc fun r s' hq => ?_)
  cases r with
  | error e => exact L2N.passAt tk σZ pinsZ HZ s1 e s' I1 hq
  | ok fl =>
    cases fl with
    | ret u => exact I1.after hq
    | next => exact False.elim hq
    | brk => exact False.elim hq
    | cont => exact False.elim hq
end
def thkR (i : Nat) (ρ : Vr) (r : R U) : R U := match ρ[i]? with
  | some (some .thk) => (match r with
    | .ok .thk _ => .bad
    | r => r)
  | _ => .bad
def fThk (i : Nat) (th : Store → R U) : Vr → Store → R U := fun ρ S => thkR i ρ (th S)
def thkX (x : Fx) (f c' : Addr) (q : Str) (ρ : Vr) (σ : L2.St) : Fx := { x with tf := f, tc := c', tq := q, enc := ρ, encσ := σ }
section
variable {x : Fx} {f c' : Addr} {q : Str} {ρ : Vr} {σ : L2.St} {α : Nat → Addr} {F : Hp} {S : Store} {H : Hp} {n : Nat} {v : V} {u : U}
theorem Rep.thkX (r : Rep x α F S H) : Rep (Z.thkX x f c' q ρ σ) α F S H := ⟨r.le, r.inj, r.cell, r.old, r.tabs, r.tabF⟩
theorem Rep.unthkX (r : Rep (Z.thkX x f c' q ρ σ) α F S H) : Rep x α F S H := ⟨r.le, r.inj, r.cell, r.old, r.tabs, r.tabF⟩
theorem isV_thkX : IsV (Z.thkX x f c' q ρ σ) α F n v u ↔ IsV x α F n v u := by cases u <;> exact Iff.rfl
theorem isU_of {x : Fx} (h : IsV x α F n v u) : IsU x α F n v u := by
  cases u <;> first | exact h | exact h.elim
theorem isV_of {x : Fx} (hn : u ≠ .thk) (h : IsU x α F n v u) : IsV x α F n v u := by
  cases u <;> first | exact h | exact (hn rfl).elim
theorem fit_thk {W : WX} {tb : XK → TE} {fb : Vr → Store → R U} {i : Nat} (hfb : ∀ E : XK, FitE x (fun c d _ H => E c d H) (tb E) fb) :
    FitE (Z.thkX x f c' q ρ σ) W (fun σZ HZ Q => σZ[i]? = some (some (.ref f)) ∧ HZ c' = some (LamX.CodeO c' q) ∧ tb (WE W σZ) σ HZ Q) (fThk i fun S => fb ρ S) := by
  intro α F ρZ S σZ H r s Q p
  unfold fThk thkR at p
  split at p
  · rename_i ht
    obtain ⟨v, hv, e1, e2, e3, e4⟩ := s.get i _ ht
    have e1' : v = .ref f := e1
    subst e1'
    refine ⟨hv, r.le _ _ e2, hfb (WE W σZ) α F ρ S σ H r.unthkX ⟨e3, fun j u hu => ?_⟩ Q ?_⟩
    · obtain ⟨v', h5, h6⟩ := e4 j u hu
      exact ⟨v', h5, isU_of (isV_thkX.mp h6)⟩
    · dsimp only at p
      cases e : fb ρ S with
      | ok a S1 =>
        rw [e] at p
        have hn : a ≠ .thk := fun z => by rw [z] at p; exact p
        have p' : Post zU (Z.thkX x f c' q ρ σ) W α F S σZ Q (R.ok a S1) := by
          cases a <;> first | exact p | exact p.elim
        exact fun α' F' H' b e1 r1 i1 => p' α' F' H' b e1 r1.thkX (isU_of (isV_thkX.mpr (isV_of hn i1)))
      | exc c d S1 =>
        rw [e] at p
        exact fun α' F' H' C pp v fs e1 r1 => p α' F' H' C pp v fs e1 r1.thkX
      | bad => rw [e] at p; exact p.elim
  · exact p.elim
end
/-- a def with one parameter, called without arguments in it; th: what it got -/
structure HDef (P : Program) (w : World) (K : PySem.W.Frag) (mg : Str → Option Value) (base : Heap) (T : Tb) (y : Str) (k : Nat) (nN : Nat) (gh : (Store → R U) → Vr → Store → O) : Prop where
  ok : ∃ (g : Addr) (fd : FuncData) (pg : Arguments) (bg : List Stmt) (sg : Scope) (Ng : List Str) (a : Str), FunD K y y pg bg sg [] [] g fd ∧ nN = Ng.length ∧ Ng[0]? = some a ∧ Vis sg a ∧ (a == ("__debug__" : Str)) = false ∧ (a == ("__classdict__" : Str)) = false ∧ FnScope Ng [a] sg ∧ Binds K fd [a] [] ∧ mg y = some (.ref g) ∧
    ∀ (x : Fx), x.K = K → x.mg = mg → x.T = T → (∀ a c d, ¬ x.exc a c d) → ∀ (cdv : Value) (A : Around) (outer : List Env) (s : Shared) (H : Hp) (E : XK) (th : Store → R U) (tt : WX → TE), Room k (A.deeper (envOfC y sg s.heap.objs.size g cdv)) →
      (∀ (W : WX) (pn : List (Addr × Obj)) (xe : Value → Shared → Prop) (p1 p2 : Pos), L2N.Takes ((cxOf (L2N.CX P w) P w K mg base Ng y sg g cdv A outer s H E).tr pn xe) W → DE ((cxOf (L2N.CX P w) P w K mg base Ng y sg g cdv A outer s H E).tr pn xe) x W (.Call (.Name a p1) [] [] p2) (tt W) (fThk 0 th)) →
      ∃ t, DB (cxOf (L2N.CX P w) P w K mg base Ng y sg g cdv A outer s H E) x (fun c d _ H => E c d H) bg t (gh th)
def okE : Option U → Bool
  | some .thk => false
  | _ => true
def fLam (nN : Nat) (gh : (Store → R U) → Vr → Store → O) (fb : Vr → Store → R U) : Vr → Store → R U := fun ρ S => if ρ.all okE = true then runD nN (gh fun S' => fb ρ S') [.thk] S else .bad
def tLamZ (x : Fx) (W : WX) (f : Vr → Store → R U) : TE := fun σ H Q => ∃ α F ρ S, Rep x α F S H ∧ Sl x α F S.length σ ρ ∧ Post zU x W α F S σ Q (f ρ S)
theorem runD_no {k : Nat} {g : Vr → Store → O} {us : List U} {S S' : Store} {u : U} (h : runD k g us S = .ok u S') : u ≠ .thk := by
  unfold runD at h
  intro z
  subst z
  cases e : g (slots k us) S with
  | rt u S1 =>
    rw [e] at h
    have h' : retn S.length u S1 = .ok .thk S' := h
    unfold retn at h'
    split at h'
    · cases h'
    · split at h'
      · cases h'
      · split at h' <;> cases h'
    · cases h'
  | nx _ _ => rw [e] at h; cases h
  | exc _ _ _ _ => rw [e] at h; cases h
  | bk _ _ => rw [e] at h; cases h
  | ct _ _ => rw [e] at h; cases h
  | bad => rw [e] at h; cases h
section
variable {X : Cx} {x : Fx} {W : WX} {y : Str} {k nN : Nat} {gh : (Store → R U) → Vr → Store → O} {c P : Addr} {params : Arguments} {body : Expr} {scope : Scope} {tb : XK → TE} {fb : Vr → Store → R U} {p lpos pos : Pos}
theorem de_lam (hxK : x.K = X.K) (hxm : x.mg = X.mg) (h0 : ∀ a c d, ¬ x.exc a c d) (G : HDef X.prog X.w X.K X.mg X.base x.T y (k + 1) nN gh) (hr : Room (k + 2) X.A) (tk : L2N.Takes X W) (TB : LamX.TabB X.base X.mg c P) (hcode : X.env.code = .ref c)
    (hmT : (P, X.env.qual ++ "<lambda>") ∈ x.T) (hu : ∀ p ∈ x.T, p.1 = P → p.2 = X.env.qual ++ "<lambda>") (L : LamX.LamS X.env.scope scope)
    (hbody : ∀ (A : Around) (outer : List Env) (s : Shared) (H : Hp) (E : XK) (f c' : Addr), Room k (A.deeper (LamX.lamEnv X scope s.heap.objs.size f c')) → DE (lamN X A outer s H E scope f c') x (fun c d _ H => E c d H) body (tb E) fb)
    (hbind : ∀ (q : Str) (cl : List (Str × Addr)) (pm cv ctv : Value), bindArgs (PySem.W.kla_fn "<lambda>" q params body scope cl pm cv ctv) ⟨[], []⟩ = pure [] := by intros; rfl)
    (hdef : defaultsOf params X.env = ([], []) := by rfl) (hg : Gl X y := by rfl) (hdb : (y == ("__debug__" : Str)) = false := by decide) :
    DE X x W (.Call (.Name y p) [.Lambda params body scope lpos] [] pos) (tLamZ x W (fLam nN gh fb)) (fLam nN gh fb) := by
  refine ⟨⟨fun pins s σ H Q I h => ?_⟩, fun α F ρ S σ H r s Q p => ⟨α, F, ρ, S, r, s, p⟩⟩
  obtain ⟨α, F, ρ, S, r, sl, pp⟩ := h
  obtain ⟨g, fd, pg, bg, sg, Ng, a, FD, hnN, hNg, hva, hda, hcda, Sg, hb, hm, hbg⟩ := G.ok
  obtain ⟨oc, od, dV, kV, doc, pm, an, cdv, ct, osl, rfl, lk, hcg, _, _⟩ := FD.ex
  refine wpAny_Call_Name_kw (ld_glob I hg hm ?_ hdb)
  refine PySem.W.callWith_K (h₀ := X.base) I.ok.mod.kin FD.kp ?_ (by rfl) (by rfl)
  show wpAny _ _ (spliced ((false, eval (.Lambda params body scope lpos) X.env) :: backTo pos (starEach [] X.env))) _ _ s
  refine Calls.spliced_cons (LamX.lam_make2 I TB hcode hmT hu r.tabs hdef (L.has I.ok) fun f c' pm' ctv H1 s' I1 eN T1 hf hfn hfr hco => ?_)
  refine Calls.spliced_nil ⟨I1.kIn, ?_⟩
  have r1 := r.extN eN T1
  obtain ⟨F1, r2, e2, hF⟩ := r1.knows hco LamX.codeO_ne (fun vs z => by unfold LamX.CodeO at z; cases z)
  have okρ : ρ.all okE = true := by
    unfold fLam at pp
    split at pp
    · assumption
    · exact pp.elim
  have pq : Post zU x W α F1 S σ Q (runD nN (gh fun S' => fb ρ S') [.thk] S) := by
    unfold fLam at pp
    rw [if_pos okρ] at pp
    exact Post.ext e2 pp
  have nt : ∀ (i : Nat) (u : U), ρ[i]? = some (some u) → u ≠ .thk := fun i u hu z => by
    subst z
    have := List.all_eq_true.mp okρ _ (List.mem_of_getElem? hu)
    cases this
  have sl2 := sl.ext e2
  have rc : codeAny (model X.prog X.w) X.A (.call (.ref g) ⟨[.ref f], []⟩) (CR (L2N.CX X.prog X.w) X.stack X.prog X.w H1 s' Q (WE W σ)) s' := by
    refine LamX.run_ofS (N := Ng) (ps := [a]) (us := [.ref f]) (vs := [.ref f]) lk hcg Sg hr I1.env0 (hb s' [.ref f] I1.kIn rfl) (.cons rfl .nil) rfl fun hr' => ?_
    obtain ⟨t, d⟩ := hbg (thkX x f c' (X.env.qual ++ "<lambda>") ρ σ) hxK hxm rfl h0 cdv X.A X.stack s' H1 (WE W σ) (fun S' => fb ρ S') (fun W' σZ HZ Q => σZ[0]? = some (some (.ref f)) ∧ HZ c' = some (LamX.CodeO c' (X.env.qual ++ "<lambda>")) ∧ tb (WE W' σZ) σ HZ Q) hr' fun W' pn xe p1 p2 tk' =>
      ⟨pe_actN (i := 0) I1 L hf hfn hfr (hbind _ _ _ _ _) tk' hr' (fun A outer s H E hr2 => (hbody A outer s H E f c' hr2).pe) hNg hva hda hcda, fit_thk fun E => (hbody X.A X.stack s' H1 E f c' ((hr.mono (Nat.le_succ _)).deeper _)).fit⟩
    refine ⟨t, d.ps, body_ok (E := WE W σ) (np := 1) d.fit ⟨α, F1, S, [.thk], rfl, r2.thkX, .cons ⟨rfl, hF, sl.len, fun i u hu => ?_⟩ .nil, ?_⟩⟩
    · obtain ⟨v, h1, h2⟩ := sl2.get i u hu
      exact ⟨v, h1, isV_thkX.mpr (isV_of (nt i u hu) h2)⟩
    · rw [← hnN]
      cases e : runD nN (gh fun S' => fb ρ S') [.thk] S with
      | ok u S1 =>
        rw [e] at pq
        exact fun α' F' H' b e1 r1 i1 => pq α' F' H' b e1 r1.unthkX (isU_of (isV_thkX.mp (isV_of (runD_no e) i1)))
      | exc c d S1 =>
        rw [e] at pq
        exact fun α' F' H' C q v fs e1 r1 => pq α' F' H' C q v fs e1 r1.unthkX
      | bad => rw [e] at pq; exact pq.elim
  refine wpAny_call (codeAny_mono rc fun r s2 hq => ?_)
  cases r with
  | error e => exact L2N.passAt tk σ pins H1 s' e s2 I1 hq
  | ok fl =>
    cases fl with
    | ret u => exact I1.after hq
    | next => exact False.elim hq
    | brk => exact False.elim hq
    | cont => exact False.elim hq
end
end Z

/-! Z10: the head's facts, the law's end. -/
namespace Z
open PySem PySem.Spec PyProof.Rows L2
/-! ### the reading that the mirror alone fixes -/
def tZT (x : Fx) (W : WX) (f : Vr → Store → R Bool) : TT := fun σ H Q => ∃ α F ρ S, Rep x α F S H ∧ Sl x α F S.length σ ρ ∧ Post zB x W α F S σ Q (f ρ S)
def tZS (x : Fx) (W : WX) (g : Vr → Store → O) : TS := fun D σ H => ∃ α F ρ S, Rep x α F S H ∧ Sl x α F S.length σ ρ ∧ PostS x W α F S D (g ρ S)
section
variable {X : Cx} {x : Fx} {W : WX} {e : Expr} {es : List Expr} {te : TE} {fe : Vr → Store → R U} {tt : TT} {ft : Vr → Store → R Bool} {sts : List Stmt} {t : TS} {g : Vr → Store → O}
theorem cE (h : DE X x W e te fe) : DE X x W e (tLamZ x W fe) fe :=
  ⟨⟨fun pins s σ H Q I ⟨α, F, ρ, S, r, sl, p⟩ => h.pe.run pins s σ H Q I (h.fit α F ρ S σ H r sl Q p)⟩, fun α F ρ S σ H r s Q p => ⟨α, F, ρ, S, r, s, p⟩⟩
theorem cTs (h : DTs X x W es tt ft) : DTs X x W es (tZT x W ft) ft :=
  ⟨⟨fun pins s σ H Q I ⟨α, F, ρ, S, r, sl, p⟩ => h.pt.run pins s σ H Q I (h.fit α F ρ S σ H r sl Q p)⟩, fun α F ρ S σ H r s Q p => ⟨α, F, ρ, S, r, s, p⟩⟩
theorem cB (h : DB X x W sts t g) : DB X x W sts (tZS x W g) g :=
  ⟨⟨fun pins s σ H D I ⟨α, F, ρ, S, r, sl, p⟩ => h.ps.run pins s σ H D I (h.fit α F ρ S σ H r sl D p)⟩, fun α F ρ S σ H r s D p => ⟨α, F, ρ, S, r, s, p⟩⟩
end
/-! ### an exception class -/
def oexB (K : PySem.W.Frag) (C : Addr) : Bool := match K.lookup C with
  | some ⟨.type "type", _, .cls cd, sl⟩ => (match cd.mro, sl.toList with
    | .ref C' :: bm, [_, _, _, _, some (.builtin n), _] => decide (C' = C) && (decide (n = "ValueError.__new__") && (!cd.hasDel && (cd.hasDict && PySem.HandSPX.refsVE bm)))
    | _, _ => false)
  | _ => false
theorem oex_cls {K : PySem.W.Frag} {C : Addr} (q : oexB K C = true) : ∃ nm q N bs bm sn sub ab col dd k0 k1 k2 k3 k5, K.lookup C = some (excClassObj nm q C N bs bm true sn sub ab col dd k0 k1 k2 k3 k5 "ValueError.__new__") ∧ PySem.HandSPX.refsVE bm = true := by
  unfold oexB at q
  split at q
  · rename_i dd cd sl ho
    split at q
    · rename_i C' bm k0 k1 k2 k3 n k5 hm hs
      simp only [Bool.and_eq_true, decide_eq_true_eq, Bool.not_eq_true'] at q
      obtain ⟨rfl, rfl, hdel, hdict, hok⟩ := q
      obtain ⟨nm, bs, mro, ns, qn, hd, sn, sub, ab, col, del⟩ := cd
      dsimp only at hm hdel hdict
      subst hm hdel hdict
      have hsl : sl = #[k0, k1, k2, k3, some (.builtin "ValueError.__new__"), k5] := by
        obtain ⟨l⟩ := sl
        simp only at hs
        rw [hs]
      subst hsl
      exact ⟨nm, qn, ns, bs, bm, sn, sub, ab, col, dd, k0, k1, k2, k3, k5, ho, hok⟩
    · cases q
  · cases q
/-- r: the class that has the __init__ -/
def excB (K : PySem.W.Frag) (x r : Str) : Bool :=
  let C := He.ga K x
  let f := He.fAd K (r, some "__init__")
  oexB K C && (decide (PySem.W.findIn K (.ref C) "__setattr__" = some (some (.builtin "object.__setattr__"))) && (decide (PySem.W.subIn K (.ref C) (.type "BaseException") = some true) && (decide (PySem.W.typeIn K (.ref C) = some (.type "type")) &&
    (PySem.W.keepIn K (.ref C) && (decide (PySem.W.findIn K (.ref C) "__init__" = some (some (.ref f))) && (decide (PySem.W.typeIn K (.ref f) = some (.type "function")) && (decide (PySem.W.findIn K (.ref C) "what" = some none) &&
    (decide (PySem.W.findIn K (.ref C) "__getattribute__" = some (some (.builtin "BaseException.__getattribute__"))) && (decide (PySem.W.findIn K (.ref C) "__getattr__" = some none) && (PySem.W.hasDictIn K C && (decide (PySem.W.findIn K (.ref C) "__class__" = some (some (.builtin "object.__class__"))) &&
    (decide (PySem.W.specialIn K (.builtin "object.__class__") "__get__" = some (some (.builtin "getset_descriptor.__get__"))) && (decide (PySem.W.takesIn K (.builtin "object.__class__") = some true) && decide (PySem.W.mroIn K C (.type "object") = some true))))))))))))))
structure ExcA (K : PySem.W.Frag) (x r : Str) : Prop where
  o : OexC K (He.ga K x)
  k : ExcK K (fun _ => none) (He.ga K x)
  i : PySem.W.findIn K (.ref (He.ga K x)) "__init__" = some (some (.ref (He.fAd K (r, some "__init__"))))
  t : PySem.W.typeIn K (.ref (He.fAd K (r, some "__init__"))) = some (.type "function")
theorem excA_ok {K : PySem.W.Frag} {x r : Str} (h : excB K x r = true) : ExcA K x r := by
  unfold excB at h
  simp only [Bool.and_eq_true, decide_eq_true_eq] at h
  obtain ⟨h1, h2, h3, h4, h5, h6, h7, h8, h9, h10, h11, h12, h13, h14, h15⟩ := h
  exact ⟨⟨oex_cls h1, h2, h3, h4, h5⟩, ⟨⟨h9, h10, h3, h11, h12, h13, h14, h15⟩, ⟨h9, h10, h3, h11⟩, h8⟩, h6, h7⟩
def suiteB (K : PySem.W.Frag) (cs : List Str) (r cv : Str) : Bool := cs.all fun c => decide (PySem.W.nsIn K mainGlobals c = some (some (.ref (He.ga K c)))) && (excB K c r && (decide (PySem.W.exmOne K (.ref (He.ga K c)) (.ref (He.ga K cv)) = some true) &&
  cs.all fun n => decide (PySem.W.kitOne K (.ref (He.ga K c)) (.ref (He.ga K n)) = some (c == n))))
structure SuiteA (K : PySem.W.Frag) (mg : Str → Option Value) (cs : List Str) (r cv : Str) : Prop where
  mg : ∀ c ∈ cs, mg c = some (.ref (He.ga K c))
  exc : ∀ c ∈ cs, ExcA K c r
  exm : ∀ c ∈ cs, PySem.W.exmOne K (.ref (He.ga K c)) (.ref (He.ga K cv)) = some true
  kit : ∀ c ∈ cs, ∀ n ∈ cs, PySem.W.kitOne K (.ref (He.ga K c)) (.ref (He.ga K n)) = some (c == n)
theorem suiteA_ok {K : PySem.W.Frag} {h : Heap} {mg : Str → Option Value} {cs : List Str} {r cv : Str} (X : K.In h) (G : h.Ns mainGlobals mg) (q : suiteB K cs r cv = true) : SuiteA K mg cs r cv := by
  have key : ∀ c ∈ cs, (PySem.W.nsIn K mainGlobals c = some (some (.ref (He.ga K c))) ∧ excB K c r = true ∧ PySem.W.exmOne K (.ref (He.ga K c)) (.ref (He.ga K cv)) = some true ∧ ∀ n ∈ cs, PySem.W.kitOne K (.ref (He.ga K c)) (.ref (He.ga K n)) = some (c == n)) := fun c hc => by
    have z := List.all_eq_true.mp q c hc
    simp only [Bool.and_eq_true, decide_eq_true_eq, List.all_eq_true] at z
    exact z
  exact ⟨fun c hc => PySem.W.mg_of X G (key c hc).1, fun c hc => excA_ok (key c hc).2.1, fun c hc => (key c hc).2.2.1, fun c hc => (key c hc).2.2.2⟩
section
variable {K : PySem.W.Frag} {mg : Str → Option Value} {cs : List Str} {r cv c : Str} {C : Addr}
theorem SuiteA.at (s : SuiteA K mg cs r cv) (hc : c ∈ cs) (hm : mg c = some (.ref C)) : C = He.ga K c := Value.ref.inj (Option.some.inj (hm.symm.trans (s.mg c hc)))
theorem SuiteA.hcs (s : SuiteA K mg cs r cv) : ∀ c ∈ cs, ∀ C, mg c = some (.ref C) → PySem.W.exmOne K (.ref C) (.ref (He.ga K cv)) = some true := fun c hc C hm => by
  rw [s.at hc hm]
  exact s.exm c hc
theorem SuiteA.hk (s : SuiteA K mg cs r cv) (hc : c ∈ cs) (hm : mg c = some (.ref C)) : ∀ n ∈ cs, ∀ N, mg n = some (.ref N) → PySem.W.kitOne K (.ref C) (.ref N) = some (c == n) := fun n hn N hN => by
  rw [s.at hc hm, s.at hn hN]
  exact s.kit c hc n hn
theorem SuiteA.ek (s : SuiteA K mg cs r cv) (hc : c ∈ cs) (hm : mg c = some (.ref C)) : ExcK K (fun _ => none) C := by
  rw [s.at hc hm]
  exact (s.exc c hc).k
/-- the class raises -/
theorem SuiteA.raiser {P : Program} {w : World} {base : Heap} {fd : FuncData} (s : SuiteA K mg cs r cv) (hc : c ∈ cs) (F : FnOk P w K mg base CX0 1 (He.fAd K (r, some "__init__")) fd ["self", "what"] (spInit K)) (hb : Binds K fd ["self", "what"] []) : Raiser P w K mg base c (He.ga K c) :=
  ⟨s.mg c hc, (s.exc c hc).o, (s.exc c hc).k.w, _, fd, (s.exc c hc).i, (s.exc c hc).t, F, hb⟩
end
/-! ### a tuple of the module -/
def isIntB : List Int → List Value → Bool
  | [], [] => true
  | i :: is, .int j _ :: us => decide (j = i) && isIntB is us
  | _, _ => false
theorem isIntB_ok : ∀ {is : List Int} {us : List Value}, isIntB is us = true → Vals (is.map V.int) us
  | [], [], _ => .nil
  | i :: is, .int j t :: us, h => by
    unfold isIntB at h
    simp only [Bool.and_eq_true, decide_eq_true_eq] at h
    obtain ⟨rfl, h2⟩ := h
    exact .cons ⟨t, rfl⟩ (isIntB_ok h2)
def tupB (K : PySem.W.Frag) (x : Str) (is : List Int) : Bool := match K.lookup (He.ga K x) with
  | some ⟨.type c, _, .seq its _, _⟩ => decide (c = "tuple") && (decide (its.size ≤ sizeLine) && isIntB is its.toList)
  | _ => false
theorem tupB_ok {K : PySem.W.Frag} {x : Str} {is : List Int} (h : tupB K x is = true) (F : Hp) : Is K F (.ref (He.ga K x)) (.tuple (is.map PyData.int)) := by
  unfold tupB at h
  split at h
  · rename_i c d its n sl ho
    simp only [Bool.and_eq_true, decide_eq_true_eq] at h
    obtain ⟨rfl, h2, h3⟩ := h
    exact .tup (vs := is.map V.int) (.inr ⟨_, its, n, ho, rfl, rfl, h2, isIntB_ok h3⟩) (IsAll.int is)
  · cases h
theorem ve_init (K : PySem.W.Frag) : PySem.W.findCls K (.type "ValueError") (.type "type") "__init__" = some (.val (.builtin "ValueError.__init__")) := by kernel_rfl
/-! ### further facts -/
inductive Xf where
  | blt (x : Str) (id : String)
  | tup (x : Str) (is : List Int)
  | exc (x r : Str)
  | suite (cs : List Str) (r cv : Str)
  | tabs (tf : List He.Defn)
def Xf.ok (K : PySem.W.Frag) : Xf → Bool
  | .blt x id => decide (PySem.W.nsIn K mainGlobals x = some (some (.builtin id)))
  | .tup x is => tupB K x is
  | .exc x r => excB K x r
  | .suite cs r cv => suiteB K cs r cv
  | .tabs tf => decide (tf.map fun p => (He.cT K p).2).Nodup
/-- what the head tells -/
structure Kn (fa : List He.Fa) (fn : List He.DefD) (xf : List Xf) (K : PySem.W.Frag) (mg : Str → Option Value) : Prop where
  h : ∃ h, K.In h ∧ h.Ns mainGlobals mg
  d : He.SaysD fa fn K
  x : (xf.all fun f => f.ok K) = true
section
variable {fa : List He.Fa} {fn : List He.DefD} {xf : List Xf} {K : PySem.W.Frag} {mg : Str → Option Value}
theorem Kn.glo (c : Kn fa fn xf K mg) (i : Nat) {x : Str} (e : fa[i]? = some (.glo x) := by rfl) : mg x = some (.ref (He.ga K x)) := by
  obtain ⟨h, X, G⟩ := c.h
  exact He.glo_ok X G (c.d.fact i e)
theorem Kn.free (c : Kn fa fn xf K mg) (i : Nat) {x : Str} (e : fa[i]? = some (.free x) := by rfl) : mg x = none := by
  obtain ⟨h, X, G⟩ := c.h
  exact He.free_ok X G (c.d.fact i e)
theorem Kn.int (c : Kn fa fn xf K mg) (i : Nat) {x : Str} {j : Int} (e : fa[i]? = some (.int x j) := by rfl) : ∃ t, mg x = some (.int j t) := by
  obtain ⟨h, X, G⟩ := c.h
  exact He.int_ok X G (c.d.fact i e)
theorem Kn.xo (c : Kn fa fn xf K mg) (i : Nat) {f : Xf} (e : xf[i]? = some f := by rfl) : f.ok K = true := List.all_eq_true.mp c.x f (List.mem_of_getElem? e)
theorem Kn.blt (c : Kn fa fn xf K mg) (i : Nat) {x : Str} {id : String} (e : xf[i]? = some (.blt x id) := by rfl) : mg x = some (.builtin id) := by
  obtain ⟨h, X, G⟩ := c.h
  exact PySem.W.mg_of X G (of_decide_eq_true (c.xo i e))
theorem Kn.tup (c : Kn fa fn xf K mg) (i : Nat) {x : Str} {is : List Int} (e : xf[i]? = some (.tup x is) := by rfl) (F : Hp) : Is K F (.ref (He.ga K x)) (.tuple (is.map PyData.int)) := tupB_ok (c.xo i e) F
theorem Kn.exc (c : Kn fa fn xf K mg) (i : Nat) {x r : Str} (e : xf[i]? = some (.exc x r) := by rfl) : ExcA K x r := excA_ok (c.xo i e)
theorem Kn.suite (c : Kn fa fn xf K mg) (i : Nat) {cs : List Str} {r cv : Str} (e : xf[i]? = some (.suite cs r cv) := by rfl) : SuiteA K mg cs r cv := by
  have q := c.xo i e
  obtain ⟨h, X, G⟩ := c.h
  exact suiteA_ok X G q
theorem Kn.tabs (c : Kn fa fn xf K mg) (i : Nat) {tf : List He.Defn} (e : xf[i]? = some (.tabs tf) := by rfl) : (tf.map fun p => (He.cT K p).2).Nodup := of_decide_eq_true (c.xo i e)
end
/-! ### defs that make lambdas; defs that get them -/
section
variable {P : Program} {w : World} {K : PySem.W.Frag} {mg : Str → Option Value} {base : Heap}
theorem def_fn {f : Str} {params : Arguments} {body : List Stmt} {scope : Scope} {a : Addr} {fd : FuncData} {N ps : List Str} {k : Nat} {g : Vr → Store → O} {T : Tb} (F : FunD K f f params body scope [] [] a fd) (S : FnScope N ps scope)
    (hbody : ∀ (cdv : Value) (A : Around) (outer : List Env) (s : Shared) (H : Hp) (E : XK), Room k (A.deeper (envOfC f scope s.heap.objs.size a cdv)) →
      ∃ t, DB (cxOf (L2N.CX P w) P w K mg base N f scope a cdv A outer s H E) { K := K, mg := mg, T := T } (fun c d _ H => E c d H) body t g) :
    FnOk P w K mg base (L2N.CX P w) (k + 1) a fd ps (spOf { K := K, mg := mg, T := T } ps.length (runD N.length g)) :=
  F.ok S (fun vs H Q E h => spOf_len vs H Q E h) fun cdv A outer s H vs Q E hr h => by
    obtain ⟨t, d⟩ := hbody cdv A outer s H E hr
    exact ⟨t, d.ps, body_ok d.fit h⟩
theorem def_okC {f : Str} {params : Arguments} {body : List Stmt} {scope : Scope} {fd : FuncData} {N ps : List Str} {k : Nat} {g : Vr → Store → O} {T : Tb} (F : FunD K f f params body scope [] [] (He.fAd K (f, none)) fd) (hm : mg f = some (.ref (He.fAd K (f, none)))) (S : FnScope N ps scope)
    (hb : ∀ (kV doc pm : Value) (an : Option Addr) (cdv ct : Value) (us : List Value), us.length = ps.length → bindArgs (PySem.W.fnOf f f params body scope .none kV doc pm an cdv ct) ⟨us, []⟩ = pure (ps.zip us))
    (hbody : ∀ (cdv : Value) (A : Around) (outer : List Env) (s : Shared) (H : Hp) (E : XK), cdv = .ref (He.codeOf K (f, none)) → Room k (A.deeper (envOfC f scope s.heap.objs.size (He.fAd K (f, none)) cdv)) →
      ∃ t, DB (cxOf (L2N.CX P w) P w K mg base N f scope (He.fAd K (f, none)) cdv A outer s H E) { K := K, mg := mg, T := T } (fun c d _ H => E c d H) body t g) :
    Def P w K mg base { K := K, mg := mg, T := T } f ps.length (k + 1) (runD N.length g) := by
  refine ⟨_, fd, ps, ?_, rfl, F.bindsN hb, F.kp, hm⟩
  obtain ⟨oc, od, dV, kV, doc, pm, an, cdv, ct, osl, rfl, lk, hcd, _, _⟩ := F.ex
  obtain ⟨c, rfl⟩ := He.codeIn_ref hcd
  have ec := He.codeOf_eq (c := c) lk rfl
  refine fn_of lk hcd S (fun vs H Q E h => spOf_len vs H Q E h) fun A outer s H vs Q E hr h => ?_
  obtain ⟨t, d⟩ := hbody (.ref c) A outer s H E (by rw [ec]) hr
  exact ⟨t, d.ps, body_ok d.fit h⟩
theorem hdef_ok {f a : Str} {pg : Arguments} {body : List Stmt} {scope : Scope} {g : Addr} {fd : FuncData} {N : List Str} {k : Nat} {gh : (Store → R U) → Vr → Store → O} {T : Tb} (F : FunD K f f pg body scope [] [] g fd) (hm : mg f = some (.ref g)) (S : FnScope N [a] scope)
    (hb : ∀ (kV doc pm : Value) (an : Option Addr) (cdv ct : Value) (us : List Value), us.length = [a].length → bindArgs (PySem.W.fnOf f f pg body scope .none kV doc pm an cdv ct) ⟨us, []⟩ = pure ([a].zip us)) (hN : N[0]? = some a) (hv : Vis scope a) (hd : (a == ("__debug__" : Str)) = false) (hcd : (a == ("__classdict__" : Str)) = false)
    (hbody : ∀ (x : Fx), x.K = K → x.mg = mg → x.T = T → (∀ a c d, ¬ x.exc a c d) → ∀ (cdv : Value) (A : Around) (outer : List Env) (s : Shared) (H : Hp) (E : XK) (th : Store → R U) (tt : WX → TE), Room k (A.deeper (envOfC f scope s.heap.objs.size g cdv)) →
      (∀ (W : WX) (pn : List (Addr × Obj)) (xe : Value → Shared → Prop) (p1 p2 : Pos), L2N.Takes ((cxOf (L2N.CX P w) P w K mg base N f scope g cdv A outer s H E).tr pn xe) W → DE ((cxOf (L2N.CX P w) P w K mg base N f scope g cdv A outer s H E).tr pn xe) x W (.Call (.Name a p1) [] [] p2) (tt W) (fThk 0 th)) →
      ∃ t, DB (cxOf (L2N.CX P w) P w K mg base N f scope g cdv A outer s H E) x (fun c d _ H => E c d H) body t (gh th)) : HDef P w K mg base T f k N.length gh :=
  ⟨⟨g, fd, pg, body, scope, N, a, F, rfl, hN, hv, hd, hcd, S, F.bindsN hb, hm, hbody⟩⟩
/-- the tables of the defs tf -/
def tabsT (K : PySem.W.Frag) (tf : List He.Defn) : Tb := tf.map fun p => ((He.cT K p).2, (p.1 ++ ".<locals>.") ++ "<lambda>")
theorem tabs_mem {tf : List He.Defn} {p : He.Defn} (h : p ∈ tf) : ((He.cT K p).2, (p.1 ++ ".<locals>.") ++ "<lambda>") ∈ tabsT K tf := List.mem_map.mpr ⟨p, h, rfl⟩
theorem sp_law {x : Fx} {m : List U → Store → R U} {H : Hp} {a : Addr} {ns : List Int} (hS : SqL x.K H a (ns.map V.int)) (hT : ∀ p ∈ x.T, H p.1 = some (.tbl #[])) (h : ∃ S', m [.rd (ns.map PyData.int)] [] = .ok (.d (.bool true)) S') : spOf x 1 m [.ref a] H (fun v _ => v = .bl true) fun _ _ _ => False := by
  obtain ⟨S', e⟩ := h
  have fin : ∀ F : Hp, Le F H → (∀ b ps, F b ≠ some (.tbl ps)) → SqL x.K F a (ns.map V.int) → spOf x 1 m [.ref a] H (fun v _ => v = .bl true) fun _ _ _ => False := fun F hle hnt hsq => by
    refine ⟨fun _ => 0, F, [], [.rd (ns.map PyData.int)], rfl, ⟨hle, fun i j hi => absurd hi (Nat.not_lt_zero _), fun i ds e => by simp at e, fun i hi => absurd hi (Nat.not_lt_zero _), fun p hp => .nil (hT p hp), hnt⟩, .cons ⟨a, _, rfl, hsq, IsAll.int ns⟩ .nil, ?_⟩
    rw [e]
    exact fun α' F' H' b _ _ i => is_bool i
  rcases hS with h1 | h1
  · rcases h1 with h1 | ⟨o, h1⟩
    · refine fin (fun b => if b = a then some (.lst (ns.map V.int)) else none) (fun b o e => ?_) (fun b ps e => ?_) (.inl (.inl (if_pos rfl)))
      · dsimp only at e
        split at e
        · rename_i hb
          rw [hb, h1, e]
        · cases e
      · split at e <;> cases e
    · refine fin (fun b => if b = a then some (.frz o (.lst (ns.map V.int))) else none) (fun b o e => ?_) (fun b ps e => ?_) (.inl (.inr ⟨o, if_pos rfl⟩))
      · dsimp only at e
        split at e
        · rename_i hb
          rw [hb, h1, e]
        · cases e
      · split at e <;> cases e
  · exact fin (fun _ => none) (fun _ _ e => nomatch e) (fun _ _ e => nomatch e) (.inr h1)
theorem map_inj {α β : Type} {f : α → β} : ∀ {l : List α}, (l.map f).Nodup → ∀ a ∈ l, ∀ b ∈ l, f a = f b → a = b
  | [], _, _, h, _, _, _ => nomatch h
  | x :: l, hn, a, ha, b, hb, e => by
    obtain ⟨h1, h2⟩ := List.nodup_cons.mp hn
    rcases List.mem_cons.mp ha with e1 | k1
    · rcases List.mem_cons.mp hb with e2 | k2
      · rw [e1, e2]
      · exact absurd (List.mem_map.mpr ⟨b, k2, by rw [← e, e1]⟩) h1
    · rcases List.mem_cons.mp hb with e2 | k2
      · exact absurd (List.mem_map.mpr ⟨a, k1, by rw [e, e2]⟩) h1
      · exact map_inj h2 a k1 b k2 e
theorem tabs_u {tf : List He.Defn} {p : He.Defn} (hn : (tf.map fun p => (He.cT K p).2).Nodup) (h : p ∈ tf) : ∀ q ∈ tabsT K tf, q.1 = (He.cT K p).2 → q.2 = (p.1 ++ ".<locals>.") ++ "<lambda>" := by
  intro q hq e
  obtain ⟨p', hp', rfl⟩ := List.mem_map.mp hq
  have e' : (He.cT K p').2 = (He.cT K p).2 := e
  have : p' = p := map_inj hn p' hp' p h e'
  rw [this]
theorem units_ok {A : Around} {k : Nat} (hr : Room k A) : A.units + 64 < cLine := by
  have := hr.un
  omega
/-- the law, at the head's heap -/
theorem law_at {l : PySem.W.OpenLaw} {h : Heap} {fa : List He.Fa} {fn : List He.DefD} {tf : List He.Defn} {xf : List Xf} {k n : Nat} {p : Str} {m : List U → Store → R U} {f : Addr} {fd : FuncData} (X : K.In h) (c : He.SaysX fa fn [] tf (fun K => xf.all fun f => f.ok K) w h K)
    (hb : ∀ (s : Shared) (u : Value), BindsTo s fd ⟨[u], []⟩ [(p, u)]) (hm : ∀ ns : List Int, ns.length ≤ n → (∀ z ∈ ns, Builtin.Int.intBits z ≤ 1048576) → ∃ S', m [.rd (ns.map PyData.int)] [] = .ok (.d (.bool true)) S')
    (hF : ∀ base : Heap, (∀ p ∈ tf, LamX.TabB base mg (He.cT K p).1 (He.cT K p).2) → FnOk l.prog w K mg base (L2N.CX l.prog w) k f fd [p] (spOf { K := K, mg := mg, T := tabsT K tf } 1 m)) :
    LamX.LawAtS l w K (L2N.CX l.prog w) k n p mg f h := by
  refine ⟨fd, tf.map (He.cT K), _, fun q hq => ?_, fun q hq => ?_, fun q hq => ?_, hb, fun H a ns hl hz hT hS => ?_, fun base _ _ hT => hF base fun q hq => hT _ (List.mem_map.mpr ⟨q, hq, rfl⟩)⟩
  · obtain ⟨q', hq', rfl⟩ := List.mem_map.mp hq
    exact c.empty q' hq'
  · obtain ⟨q', hq', rfl⟩ := List.mem_map.mp hq
    exact c.out q' hq'
  · obtain ⟨q', hq', rfl⟩ := List.mem_map.mp hq
    exact PySem.W.codeHd_of_K X (c.hd q' hq')
  · refine sp_law hS (fun q hq => ?_) (hm ns hl hz)
    obtain ⟨q', hq', rfl⟩ := List.mem_map.mp hq
    exact hT _ (List.mem_map.mpr ⟨q', hq', rfl⟩)
theorem cx_never (P : Program) (w : World) (H : Hp) (s : Shared) (e : Value) (s' : Shared) (h : L2N.CX P w [] H s (fun _ _ _ => False) e s') : False := by
  obtain ⟨_, _, _, _, _, _, _, _, _, _, _, _, z⟩ := h
  exact z
end
end Z

/-! M1: mirrors of the defs that laws share. -/
namespace M
open PySem Z
noncomputable section
/-! _law_op_is_whole: 0 thing -/
def g__law_op_is_whole : Vr → Store → O :=
  gRet (fAndV (fN uIsi (fCons (fVar 0) (fCons (fC (.ty "int")) (fNil)))) (fNotV (fN uIsi (fCons (fVar 0) (fCons (fC (.ty "bool")) (fNil))))))
def m__law_op_is_whole : List U → Store → R U := runD 1 g__law_op_is_whole
/-! _law_op_same: 0 got, 1 owed, 2 todo, 3 one, 4 due_now, 5 is_so, 6 at -/
def e1__law_op_same : Vr → Store → R U :=
  fN mkTup (fCons (f2 uIx (fVar 3) (fVar 6)) (fCons (f2 uIx (fVar 4) (fVar 6)) (fNil)))
def t2__law_op_same : Vr → Store → R Bool :=
  fTst (f2 uNe (fVar 2) (fN mkLst (fNil)))
def b3__law_op_same : Vr → Store → O :=
  gSeq (gAsg (fML uPop (fVar 2) fNil) (aTup 2 (aCons (aName 3) (aCons (aName 4) (aNil)))))
  (gSeq (gIf (fTst (f1 uIsN1 (fVar 4))) (gSet 5 (f1 uIsN1 (fVar 3))) (gIf (fTst (fN uIsi (fCons (fVar 4) (fCons (fC (.ty "bool")) (fNil))))) (gSet 5 (fAndV (fN uIsi (fCons (fVar 3) (fCons (fC (.ty "bool")) (fNil)))) (f2 uEq (fVar 3) (fVar 4)))) (gIf (fTst (fN uIsi (fCons (fVar 4) (fCons (fC (.ty "int")) (fNil))))) (gSet 5 (fAndV (fCall m__law_op_is_whole (fCons (fVar 3) (fNil))) (f2 uEq (fVar 3) (fVar 4)))) (gIf (fTst (fN uIsi (fCons (fVar 4) (fCons (fC (.ty "str")) (fNil))))) (gSet 5 (fAndV (fN uIsi (fCons (fVar 3) (fCons (fC (.ty "str")) (fNil)))) (f2 uEq (fVar 3) (fVar 4)))) (gSeq (gSet 5 (fIf (fTst (fN uIsi (fCons (fVar 4) (fCons (fC (.ty "tuple")) (fNil))))) (fN uIsi (fCons (fVar 3) (fCons (fC (.ty "tuple")) (fNil)))) (fN uIsi (fCons (fVar 3) (fCons (fC (.ty "list")) (fNil))))))
  (gSeq (gSet 5 (fAndV (fVar 5) (f2 uEq (fN uLen (fCons (fVar 3) (fNil))) (fN uLen (fCons (fVar 4) (fNil))))))
  (gDrop (fML uExt (fVar 2) (fCons (fIf (fTst (fVar 5)) (fLc (sN sRng1 (fCons (fN uLen (fCons (fVar 4) (fNil))) (fNil))) (aName 6) (fYes) (e1__law_op_same) [6]) (fN mkLst (fNil))) (fNil))))))))))
  (gIf (fNotT (fTst (fVar 5))) (gRet (fC (.d (.bool false)))) (gNx)))
def g__law_op_same : Vr → Store → O :=
  gSeq (gSet 2 (fN mkLoc (fCons (fN mkTup (fCons (fVar 0) (fCons (fVar 1) (fNil)))) (fNil))))
  (gSeq (gWh (t2__law_op_same) (b3__law_op_same))
  (gRet (fC (.d (.bool true)))))
def m__law_op_same : List U → Store → R U := runD 7 g__law_op_same
/-! _law_take: 0 jar, 1 many, 2 made -/
def g__law_take : Vr → Store → O :=
  gSeq (gIf (fTst (f2 uGt (f2 uIx (fVar 0) (fC (.d (.int 0)))) (fC (.d (.int 0))))) (gSeq (gSet 2 (f2 uMod (fN uInt (fCons (f2 uIx (fVar 0) (fC (.d (.int 0)))) (fNil))) (fVar 1)))
  (gSeq (gSetIx (fVar 0) (fC (.d (.int 0))) (f2 uDiv (f2 uIx (fVar 0) (fC (.d (.int 0)))) (fVar 1)))
  (gRet (fVar 2)))) (gNx))
  (gSeq (gSetIx (fVar 0) (fC (.d (.int 2))) (f2 uAdd (f2 uIx (fVar 0) (fC (.d (.int 2)))) (fC (.d (.int 1)))))
  (gSeq (gSetIx (fVar 0) (fC (.d (.int 1))) (f2 uMod (fN uInt (fCons (f2 uAdd (f2 uAdd (f2 uMul (f2 uIx (fVar 0) (fC (.d (.int 1)))) (fC (.d (.int 39373)))) (f2 uMul (fC (.d (.int 7919))) (f2 uIx (fVar 0) (fC (.d (.int 2)))))) (fC (.d (.int 7)))) (fNil))) (fC (.d (.int 2147483647)))))
  (gRet (f2 uMod (fN uInt (fCons (f2 uDiv (f2 uMod (fN uInt (fCons (f2 uMul (f2 uIx (fVar 0) (fC (.d (.int 1)))) (f2 uIx (fVar 0) (fC (.d (.int 1))))) (fNil))) (fC (.d (.int 2147483629)))) (fC (.d (.int 32)))) (fNil))) (fVar 1)))))
def m__law_take : List U → Store → R U := runD 3 g__law_take
/-! _law_op_frac: 0 top, 1 bottom, 2 one, 3 two -/
def t1__law_op_frac : Vr → Store → R Bool :=
  fTst (f2 uGt (fVar 3) (fC (.d (.int 0))))
def b2__law_op_frac : Vr → Store → O :=
  gPar 2 3 (fCons (fVar 3) (fCons (f2 uMod (fVar 2) (fVar 3)) (fNil)))
def g__law_op_frac : Vr → Store → O :=
  gSeq (gPar 2 3 (fCons (fN uMax (fCons (fVar 0) (fCons (f1 uNeg (fVar 0)) (fNil)))) (fCons (fVar 1) (fNil))))
  (gSeq (gWh (t1__law_op_frac) (b2__law_op_frac))
  (gRet (fN mkTup (fCons (f2 uDiv (fVar 0) (fVar 2)) (fCons (f2 uDiv (fVar 1) (fVar 2)) (fNil))))))
def m__law_op_frac : List U → Store → R U := runD 4 g__law_op_frac
/-! _law_one: 0 jar, 1 things -/
def g__law_one : Vr → Store → O :=
  gRet (f2 uIx (fVar 1) (fCall m__law_take (fCons (fVar 0) (fCons (fN uLen (fCons (fVar 1) (fNil))) (fNil)))))
def m__law_one : List U → Store → R U := runD 2 g__law_one
/-! _law_op_plus: 0 a, 1 b -/
def g__law_op_plus : Vr → Store → O :=
  gRet (fCall m__law_op_frac (fCons (f2 uAdd (f2 uMul (f2 uIx (fVar 0) (fC (.d (.int 0)))) (f2 uIx (fVar 1) (fC (.d (.int 1))))) (f2 uMul (f2 uIx (fVar 1) (fC (.d (.int 0)))) (f2 uIx (fVar 0) (fC (.d (.int 1)))))) (fCons (f2 uMul (f2 uIx (fVar 0) (fC (.d (.int 1)))) (f2 uIx (fVar 1) (fC (.d (.int 1))))) (fNil))))
def m__law_op_plus : List U → Store → R U := runD 2 g__law_op_plus
/-! _law_op_times: 0 a, 1 top, 2 bottom -/
def g__law_op_times : Vr → Store → O :=
  gRet (fCall m__law_op_frac (fCons (f2 uMul (f2 uIx (fVar 0) (fC (.d (.int 0)))) (fVar 1)) (fCons (f2 uMul (f2 uIx (fVar 0) (fC (.d (.int 1)))) (fVar 2)) (fNil))))
def m__law_op_times : List U → Store → R U := runD 3 g__law_op_times
/-! fr: 0 top, 1 bottom, 2 part -/
def g_fr : Vr → Store → O :=
  gSeq (gSet 2 (fN uGcd (fCons (fVar 0) (fCons (fVar 1) (fNil)))))
  (gSeq (gSet 2 (fIf (fTst (f2 uLt (fVar 1) (fC (.d (.int 0))))) (f1 uNeg (fVar 2)) (fVar 2)))
  (gRet (fN mkTup (fCons (f2 uDiv (fVar 0) (fVar 2)) (fCons (f2 uDiv (fVar 1) (fVar 2)) (fNil))))))
def m_fr : List U → Store → R U := runD 3 g_fr
/-! fadd: 0 a, 1 b -/
def g_fadd : Vr → Store → O :=
  gRet (fCall m_fr (fCons (f2 uAdd (f2 uMul (f2 uIx (fVar 0) (fC (.d (.int 0)))) (f2 uIx (fVar 1) (fC (.d (.int 1))))) (f2 uMul (f2 uIx (fVar 1) (fC (.d (.int 0)))) (f2 uIx (fVar 0) (fC (.d (.int 1)))))) (fCons (f2 uMul (f2 uIx (fVar 0) (fC (.d (.int 1)))) (f2 uIx (fVar 1) (fC (.d (.int 1))))) (fNil))))
def m_fadd : List U → Store → R U := runD 2 g_fadd
/-! harmonic_of: 0 k, 1 total, 2 bottom -/
def b1_harmonic_of : Vr → Store → O :=
  gSet 1 (fCall m_fadd (fCons (fVar 1) (fCons (fN mkTup (fCons (fC (.d (.int 1))) (fCons (fVar 2) (fNil)))) (fNil))))
def g_harmonic_of : Vr → Store → O :=
  gSeq (gSet 1 (fC (.d (.tuple ([0, 1].map PyData.int)))))
  (gSeq (gFor (sN sRng2 (fCons (fC (.d (.int 1))) (fCons (f2 uAdd (fVar 0) (fC (.d (.int 1)))) (fNil)))) (aName 2) (b1_harmonic_of))
  (gRet (fVar 1)))
def m_harmonic_of : List U → Store → R U := runD 3 g_harmonic_of
/-! whole: 0 thing, 1 low, 2 high -/
def g_whole : Vr → Store → O :=
  gRet (fAndV (fN uIsi (fCons (fVar 0) (fCons (fC (.ty "int")) (fNil)))) (fAndV (fNotV (fN uIsi (fCons (fVar 0) (fCons (fC (.ty "bool")) (fNil))))) (fChain uLe uLe (fVar 1) (fVar 0) (fVar 2))))
def m_whole : List U → Store → R U := runD 3 g_whole
/-! harmonic: 0 k -/
def g_harmonic : Vr → Store → O :=
  gSeq (gIf (fNotT (fTst (fCall m_whole (fCons (fVar 0) (fCons (fC (.d (.int 0))) (fCons (fC (.d (.int 200))) (fNil))))))) (gRaise "BadMany" (fCons (fVar 0) (fNil))) (gNx))
  (gRet (fCall m_harmonic_of (fCons (fVar 0) (fNil))))
def m_harmonic : List U → Store → R U := runD 1 g_harmonic
/-! is_number: 0 thing -/
def g_is_number : Vr → Store → O :=
  gRet (fAndV (fN uIsi (fCons (fVar 0) (fCons (fC (.ty "int")) (fNil)))) (fNotV (fN uIsi (fCons (fVar 0) (fCons (fC (.ty "bool")) (fNil))))))
def m_is_number : List U → Store → R U := runD 1 g_is_number
/-! is_fraction: 0 thing -/
def g_is_fraction : Vr → Store → O :=
  gSeq (gIf (fOrT (fNotT (fTst (fN uIsi (fCons (fVar 0) (fCons (fC (.ty "tuple")) (fNil)))))) (fOrT (fTst (f2 uNe (fN uLen (fCons (fVar 0) (fNil))) (fC (.d (.int 2))))) (fOrT (fNotT (fTst (fCall m_is_number (fCons (f2 uIx (fVar 0) (fC (.d (.int 0)))) (fNil))))) (fNotT (fTst (fCall m_is_number (fCons (f2 uIx (fVar 0) (fC (.d (.int 1)))) (fNil)))))))) (gRet (fC (.d (.bool false)))) (gNx))
  (gRet (fAndV (f2 uGt (f2 uIx (fVar 0) (fC (.d (.int 1)))) (fC (.d (.int 0)))) (f2 uEq (fN uGcd (fCons (f2 uIx (fVar 0) (fC (.d (.int 0)))) (fCons (f2 uIx (fVar 0) (fC (.d (.int 1)))) (fNil)))) (fC (.d (.int 1))))))
def m_is_fraction : List U → Store → R U := runD 1 g_is_fraction
/-! is_size: 0 thing -/
def g_is_size : Vr → Store → O :=
  gRet (fAndV (fCall m_is_fraction (fCons (fVar 0) (fNil))) (fAndV (fCall m_whole (fCons (f2 uIx (fVar 0) (fC (.d (.int 0)))) (fCons (fC (.d (.int 1))) (fCons (fC (.d (.int 1000000))) (fNil))))) (fCall m_whole (fCons (f2 uIx (fVar 0) (fC (.d (.int 1)))) (fCons (fC (.d (.int 1))) (fCons (fC (.d (.int 1000))) (fNil)))))))
def m_is_size : List U → Store → R U := runD 1 g_is_size
/-! made_size: 0 thing -/
def g_made_size : Vr → Store → O :=
  gSeq (gIf (fNotT (fTst (fCall m_is_size (fCons (fVar 0) (fNil))))) (gRaise "BadSize" (fCons (fVar 0) (fNil))) (gNx))
  (gRet (fVar 0))
def m_made_size : List U → Store → R U := runD 1 g_made_size
/-! fmul: 0 a, 1 b -/
def g_fmul : Vr → Store → O :=
  gRet (fCall m_fr (fCons (f2 uMul (f2 uIx (fVar 0) (fC (.d (.int 0)))) (f2 uIx (fVar 1) (fC (.d (.int 0))))) (fCons (f2 uMul (f2 uIx (fVar 0) (fC (.d (.int 1)))) (f2 uIx (fVar 1) (fC (.d (.int 1))))) (fNil))))
def m_fmul : List U → Store → R U := runD 2 g_fmul
/-! even_of: 0 n, 1 rate -/
def g_even_of : Vr → Store → O :=
  gRet (fCall m_fmul (fCons (fVar 1) (fCons (fCall m_fadd (fCons (fN mkTup (fCons (fC (.d (.int 1))) (fCons (fC (.d (.int 1))) (fNil)))) (fCons (fCall m_harmonic_of (fCons (f2 uSub (fVar 0) (fC (.d (.int 1)))) (fNil))) (fNil)))) (fNil))))
def m_even_of : List U → Store → R U := runD 2 g_even_of
/-! even_size: 0 n, 1 rate -/
def g_even_size : Vr → Store → O :=
  gSeq (gIf (fNotT (fTst (fCall m_whole (fCons (fVar 0) (fCons (fC (.d (.int 1))) (fCons (fC (.d (.int 40))) (fNil))))))) (gRaise "BadMany" (fCons (fVar 0) (fNil))) (gNx))
  (gSeq (gDrop (fCall m_made_size (fCons (fVar 1) (fNil))))
  (gRet (fCall m_even_of (fCons (fVar 0) (fCons (fVar 1) (fNil))))))
def m_even_size : List U → Store → R U := runD 2 g_even_size
/-! even_sum: 0 n, 1 rate -/
def g_even_sum : Vr → Store → O :=
  gRet (fCall m_fmul (fCons (fN mkTup (fCons (fVar 0) (fCons (fC (.d (.int 1))) (fNil)))) (fCons (fCall m_even_size (fCons (fVar 0) (fCons (fVar 1) (fNil)))) (fNil))))
def m_even_sum : List U → Store → R U := runD 2 g_even_sum
/-! _law_pool: 0 script, 1 digits, 2 stirred, 3 at, 4 cell -/
def b1__law_pool : Vr → Store → O :=
  gSeq (gSet 4 (fN uInt (fCons (fN uMax (fCons (f2 uIx (fVar 0) (fVar 3)) (fCons (f2 uSub (f1 uNeg (fC (.d (.int 1)))) (f2 uIx (fVar 0) (fVar 3))) (fNil)))) (fNil))))
  (gSeq (gSet 2 (f2 uMod (fN uInt (fCons (f2 uAdd (f2 uAdd (f2 uMul (fVar 2) (fC (.d (.int 48271)))) (f2 uMod (fVar 4) (fC (.d (.int 2147483629))))) (fC (.d (.int 11)))) (fNil))) (fC (.d (.int 2147483647)))))
  (gSet 1 (fIf (fAndT (fTst (f2 uGe (fVar 4) (f2 uPow (fC (.d (.int 10))) (fC (.d (.int 12)))))) (fTst (f2 uLt (fVar 1) (f2 uPow (fC (.d (.int 10))) (fC (.d (.int 60))))))) (fN uInt (fCons (f2 uAdd (f2 uMul (fVar 1) (f2 uPow (fC (.d (.int 10))) (fC (.d (.int 60))))) (f2 uMod (fVar 4) (f2 uPow (fC (.d (.int 10))) (fC (.d (.int 60)))))) (fNil))) (fVar 1))))
def g__law_pool : Vr → Store → O :=
  gSeq (gAsg (fN mkTup (fCons (fC (.d (.int 0))) (fCons (fC (.d (.int 7))) (fNil)))) (aTup 2 (aCons (aName 1) (aCons (aName 2) (aNil)))))
  (gSeq (gFor (sN sRng1 (fCons (fN uLen (fCons (fVar 0) (fNil))) (fNil))) (aName 3) (b1__law_pool))
  (gRet (fN mkLoc (fCons (fVar 1) (fCons (fVar 2) (fCons (fC (.d (.int 0))) (fNil)))))))
def m__law_pool : List U → Store → R U := runD 5 g__law_pool
/-! _law_op_is_fraction: 0 thing, 1 x -/
def e1__law_op_is_fraction : Vr → Store → R U :=
  fVar 1
def t2__law_op_is_fraction : Vr → Store → R Bool :=
  fNotT (fTst (fCall m__law_op_is_whole (fCons (fVar 1) (fNil))))
def g__law_op_is_fraction : Vr → Store → O :=
  gSeq (gIf (fOrT (fNotT (fTst (fN uIsi (fCons (fVar 0) (fCons (fC (.ty "tuple")) (fNil)))))) (fOrT (fTst (f2 uNe (fN uLen (fCons (fVar 0) (fNil))) (fC (.d (.int 2))))) (fTst (f2 uNe (fLc (sSeq (fVar 0)) (aName 1) (t2__law_op_is_fraction) (e1__law_op_is_fraction) [1]) (fN mkLst (fNil)))))) (gRet (fC (.d (.bool false)))) (gNx))
  (gRet (fAndV (f2 uGt (f2 uIx (fVar 0) (fC (.d (.int 1)))) (fC (.d (.int 0)))) (f2 uEq (fCall m__law_op_frac (fCons (f2 uIx (fVar 0) (fC (.d (.int 0)))) (fCons (f2 uIx (fVar 0) (fC (.d (.int 1)))) (fNil)))) (fVar 0))))
def m__law_op_is_fraction : List U → Store → R U := runD 2 g__law_op_is_fraction
/-! _law_op_is_amount: 0 thing -/
def g__law_op_is_amount : Vr → Store → O :=
  gRet (fAndV (fCall m__law_op_is_fraction (fCons (fVar 0) (fNil))) (fAndV (fChain uLe uLe (fC (.d (.int 0))) (f2 uIx (fVar 0) (fC (.d (.int 0)))) (f2 uPow (fC (.d (.int 10))) (fC (.d (.int 60))))) (f2 uLe (f2 uIx (fVar 0) (fC (.d (.int 1)))) (f2 uPow (fC (.d (.int 10))) (fC (.d (.int 60)))))))
def m__law_op_is_amount : List U → Store → R U := runD 1 g__law_op_is_amount
/-! _law_op_is_size: 0 thing -/
def g__law_op_is_size : Vr → Store → O :=
  gRet (fAndV (fCall m__law_op_is_fraction (fCons (fVar 0) (fNil))) (fAndV (fChain uLe uLe (fC (.d (.int 1))) (f2 uIx (fVar 0) (fC (.d (.int 0)))) (f2 uPow (fC (.d (.int 10))) (fC (.d (.int 6))))) (f2 uLe (f2 uIx (fVar 0) (fC (.d (.int 1)))) (fC (.d (.int 1000))))))
def m__law_op_is_size : List U → Store → R U := runD 1 g__law_op_is_size
/-! made_fraction: 0 thing -/
def g_made_fraction : Vr → Store → O :=
  gSeq (gIf (fNotT (fTst (fCall m_is_fraction (fCons (fVar 0) (fNil))))) (gRaise "BadFraction" (fCons (fVar 0) (fNil))) (gNx))
  (gRet (fVar 0))
def m_made_fraction : List U → Store → R U := runD 1 g_made_fraction
/-! is_amount: 0 thing -/
def g_is_amount : Vr → Store → O :=
  gRet (fAndV (fCall m_is_fraction (fCons (fVar 0) (fNil))) (fAndV (fCall m_whole (fCons (f2 uIx (fVar 0) (fC (.d (.int 0)))) (fCons (fC (.d (.int 0))) (fCons (fC (.d (.int 1000000000000000000000000000000000000000000000000000000000000))) (fNil))))) (fCall m_whole (fCons (f2 uIx (fVar 0) (fC (.d (.int 1)))) (fCons (fC (.d (.int 1))) (fCons (fC (.d (.int 1000000000000000000000000000000000000000000000000000000000000))) (fNil)))))))
def m_is_amount : List U → Store → R U := runD 1 g_is_amount
/-! made_amount: 0 thing -/
def g_made_amount : Vr → Store → O :=
  gSeq (gIf (fNotT (fTst (fCall m_is_amount (fCons (fVar 0) (fNil))))) (gRaise "BadAmount" (fCons (fVar 0) (fNil))) (gNx))
  (gRet (fVar 0))
def m_made_amount : List U → Store → R U := runD 1 g_made_amount
/-! plus: 0 a, 1 b -/
def g_plus : Vr → Store → O :=
  gSeq (gDrop (fCall m_made_fraction (fCons (fVar 0) (fNil))))
  (gSeq (gDrop (fCall m_made_fraction (fCons (fVar 1) (fNil))))
  (gRet (fCall m_fadd (fCons (fVar 0) (fCons (fVar 1) (fNil))))))
def m_plus : List U → Store → R U := runD 2 g_plus
/-! fsub: 0 a, 1 b -/
def g_fsub : Vr → Store → O :=
  gRet (fCall m_fr (fCons (f2 uSub (f2 uMul (f2 uIx (fVar 0) (fC (.d (.int 0)))) (f2 uIx (fVar 1) (fC (.d (.int 1))))) (f2 uMul (f2 uIx (fVar 1) (fC (.d (.int 0)))) (f2 uIx (fVar 0) (fC (.d (.int 1)))))) (fCons (f2 uMul (f2 uIx (fVar 0) (fC (.d (.int 1)))) (f2 uIx (fVar 1) (fC (.d (.int 1))))) (fNil))))
def m_fsub : List U → Store → R U := runD 2 g_fsub
/-! minus: 0 a, 1 b -/
def g_minus : Vr → Store → O :=
  gSeq (gDrop (fCall m_made_fraction (fCons (fVar 0) (fNil))))
  (gSeq (gDrop (fCall m_made_fraction (fCons (fVar 1) (fNil))))
  (gRet (fCall m_fsub (fCons (fVar 0) (fCons (fVar 1) (fNil))))))
def m_minus : List U → Store → R U := runD 2 g_minus
/-! fless: 0 a, 1 b -/
def g_fless : Vr → Store → O :=
  gRet (f2 uLt (f2 uMul (f2 uIx (fVar 0) (fC (.d (.int 0)))) (f2 uIx (fVar 1) (fC (.d (.int 1))))) (f2 uMul (f2 uIx (fVar 1) (fC (.d (.int 0)))) (f2 uIx (fVar 0) (fC (.d (.int 1))))))
def m_fless : List U → Store → R U := runD 2 g_fless
/-! at_most: 0 a, 1 b -/
def g_at_most : Vr → Store → O :=
  gSeq (gDrop (fCall m_made_fraction (fCons (fVar 0) (fNil))))
  (gSeq (gDrop (fCall m_made_fraction (fCons (fVar 1) (fNil))))
  (gRet (fNotV (fCall m_fless (fCons (fVar 1) (fCons (fVar 0) (fNil)))))))
def m_at_most : List U → Store → R U := runD 2 g_at_most
end
end M

/-! Z11: reckoning with mirrors. -/
namespace Z
open PySem
section
variable {A B C : Type} {a : A} {S S1 : Store} {c : Str} {x : D} {ρ ρ1 : Vr} {u : U} {p : Prop} [Decidable p]
@[simp] theorem bind_ok {k : A → Store → R B} : (R.ok a S).bind k = k a S := (rfl)
@[simp] theorem bind_exc {k : A → Store → R B} : (R.exc c x S : R A).bind k = .exc c x S := (rfl)
@[simp] theorem bind_bad {k : A → Store → R B} : (R.bad : R A).bind k = .bad := (rfl)
@[simp] theorem bind_ite {k : A → Store → R B} {r s : R A} : (if p then r else s).bind k = if p then r.bind k else s.bind k := by split <;> rfl
@[simp] theorem st_ok {k : A → Store → O} : (R.ok a S).st ρ k = k a S := (rfl)
@[simp] theorem st_exc {k : A → Store → O} : (R.exc c x S : R A).st ρ k = .exc c x ρ S := (rfl)
@[simp] theorem st_bad {k : A → Store → O} : (R.bad : R A).st ρ k = .bad := (rfl)
@[simp] theorem st_ite {k : A → Store → O} {r s : R A} : (if p then r else s).st ρ k = if p then r.st ρ k else s.st ρ k := by split <;> rfl
@[simp] theorem seq_nx {k : Vr → Store → O} : (O.nx ρ S).seq k = k ρ S := (rfl)
@[simp] theorem seq_rt {k : Vr → Store → O} : (O.rt u S).seq k = .rt u S := (rfl)
@[simp] theorem seq_bk {k : Vr → Store → O} : (O.bk ρ S).seq k = .bk ρ S := (rfl)
@[simp] theorem seq_ct {k : Vr → Store → O} : (O.ct ρ S).seq k = .ct ρ S := (rfl)
@[simp] theorem seq_exc {k : Vr → Store → O} : (O.exc c x ρ S).seq k = .exc c x ρ S := (rfl)
@[simp] theorem seq_bad {k : Vr → Store → O} : (O.bad).seq k = .bad := (rfl)
@[simp] theorem seq_ite {k : Vr → Store → O} {r s : O} : (if p then r else s).seq k = if p then r.seq k else s.seq k := by split <;> rfl
theorem e_var {i : Nat} (h : ρ[i]? = some (some u)) : fVar i ρ S = .ok u S := by unfold fVar; rw [h]
@[simp] theorem e_var0 {ρ : Vr} : fVar 0 (some u :: ρ) S = .ok u S := (rfl)
@[simp] theorem e_varS {i : Nat} {o : Option U} {ρ : Vr} : fVar (i + 1) (o :: ρ) S = fVar i ρ S := (rfl)
@[simp] theorem fin_nx {n : Nat} : fin n (.nx ρ S) = .ok (.d .none) (S.take n) := (rfl)
@[simp] theorem fin_rtd {n : Nat} {y : D} : fin n (.rt (.d y) S) = .ok (.d y) (S.take n) := (rfl)
@[simp] theorem fin_rtl {n : Nat} {l : Nat} : fin n (.rt (.loc l) S) = (if l < n then .ok (.loc l) (S.take n) else (match S[l]? with
    | some (some ds) => .ok (.loc n) (S.take n ++ [some ds])
    | _ => .bad)) := (rfl)
@[simp] theorem fin_exc {n : Nat} : fin n (.exc c x ρ S) = .exc c x (S.take n) := (rfl)
@[simp] theorem fin_bad {n : Nat} : fin n .bad = .bad := (rfl)
@[simp] theorem fin_ite {n : Nat} {r s : O} : fin n (if p then r else s) = if p then fin n r else fin n s := by split <;> rfl
@[simp] theorem tru_b {b : Bool} : tru (.d (.bool b)) S = .ok b S := (rfl)
@[simp] theorem add_i {i j : Int} : uAdd (.d (.int i)) (.d (.int j)) S = .ok (.d (.int (i + j))) S := (rfl)
@[simp] theorem sub_i {i j : Int} : uSub (.d (.int i)) (.d (.int j)) S = .ok (.d (.int (i - j))) S := (rfl)
@[simp] theorem neg_i {i : Int} : uNeg (.d (.int i)) S = .ok (.d (.int (-i))) S := (rfl)
@[simp] theorem lt_i {i j : Int} : uLt (.d (.int i)) (.d (.int j)) S = .ok (.d (.bool (decide (i < j)))) S := (rfl)
@[simp] theorem le_i {i j : Int} : uLe (.d (.int i)) (.d (.int j)) S = .ok (.d (.bool (decide (i ≤ j)))) S := (rfl)
@[simp] theorem gt_i {i j : Int} : uGt (.d (.int i)) (.d (.int j)) S = .ok (.d (.bool (decide (j < i)))) S := (rfl)
@[simp] theorem ge_i {i j : Int} : uGe (.d (.int i)) (.d (.int j)) S = .ok (.d (.bool (decide (j ≤ i)))) S := (rfl)
@[simp] theorem int_i {i : Int} : uInt [.d (.int i)] S = .ok (.d (.int i)) S := (rfl)
theorem mul_i {i j : Int} (h : i.natAbs.log2 + j.natAbs.log2 < 1000000) : uMul (.d (.int i)) (.d (.int j)) S = .ok (.d (.int (i * j))) S := by
  show (if i.natAbs.log2 + j.natAbs.log2 < 1000000 then _ else _) = _
  rw [if_pos h]
theorem eq_d {y z : D} (h1 : SeqAt.shaped y = true) (h2 : SeqAt.shaped z = true) : uEq (.d y) (.d z) S = .ok (.d (.bool (PyData.eqv y z))) S := by
  show (if (SeqAt.shaped y && SeqAt.shaped z) = true then _ else _) = _
  rw [h1, h2]; rfl
@[simp] theorem eq_i {i j : Int} : uEq (.d (.int i)) (.d (.int j)) S = .ok (.d (.bool (decide (i = j)))) S := (rfl)
@[simp] theorem frz_d {y : D} : frz (.d y) S = some (y, S) := (rfl)
@[simp] theorem frzs_n : frzs [] S = some ([], S) := (rfl)
@[simp] theorem frzs_d {y : D} {us : List U} : frzs (.d y :: us) S = (match frzs us S with
  | some (ys, S2) => some (y :: ys, S2)
  | none => none) := (rfl)
end
def isWhole (d : D) (lo hi : Int) : Bool := match d with
  | .int i => decide (lo ≤ i) && decide (i ≤ hi)
  | _ => false
theorem s_whole (d : D) (lo hi : Int) (S : Store) : M.m_whole [.d d, .d (.int lo), .d (.int hi)] S = .ok (.d (.bool (isWhole d lo hi))) S := by
  cases d <;> simp [M.m_whole, M.g_whole, uIsi, okTy, isTy, tyOf, isWhole]
  split <;> simp [*]
def isInt (d : D) : Bool := match d with
  | .int _ => true
  | _ => false
theorem s_isnum (d : D) (S : Store) : M.m_is_number [.d d] S = .ok (.d (.bool (isInt d))) S := by
  cases d <;> simp [M.m_is_number, M.g_is_number, uIsi, okTy, isTy, tyOf, isInt]
theorem s_iswhole (d : D) (S : Store) : M.m__law_op_is_whole [.d d] S = .ok (.d (.bool (isInt d))) S := by
  cases d <;> simp [M.m__law_op_is_whole, M.g__law_op_is_whole, uIsi, okTy, isTy, tyOf, isInt]
end Z

/-! Z12: fractions. -/
namespace Z
open PySem
/-- a fraction's data -/
def pq (q : Rat) : D := .tuple [.int q.num, .int (q.den : Int)]
/-- small: bits of both parts -/
structure Bd (n : Nat) (q : Rat) : Prop where
  num : q.num.natAbs < 2 ^ n
  den : q.den < 2 ^ n
theorem log2_le {x n : Nat} (h : x < 2 ^ n) : x.log2 ≤ n := by
  by_cases h0 : x = 0
  · subst h0; exact Nat.zero_le _
  · exact Nat.le_of_lt ((Nat.log2_lt h0).mpr h)
section
variable {S : Store}
theorem div_i {i j : Int} (h0 : j ≠ 0) (h : j.natAbs.log2 < 9000) : uDiv (.d (.int i)) (.d (.int j)) S = .ok (.d (.int (i.fdiv j))) S := by
  show (if j ≠ 0 ∧ j.natAbs.log2 < 9000 then _ else _) = _
  rw [if_pos ⟨h0, h⟩]
theorem mod_i {i j : Int} (h0 : j ≠ 0) : uMod (.d (.int i)) (.d (.int j)) S = .ok (.d (.int (i.fmod j))) S := by
  show (if j ≠ 0 then _ else _) = _
  rw [if_pos h0]
theorem gcd_i {i j : Int} : uGcd [.d (.int i), .d (.int j)] S = .ok (.d (.int ((Nat.gcd i.natAbs j.natAbs : Nat) : Int))) S := rfl
theorem gcd_pos' {N D : Int} (hD : D ≠ 0) : 0 < Nat.gcd N.natAbs D.natAbs := Nat.gcd_pos_of_pos_right _ (Int.natAbs_pos.mpr hD)
theorem gcd_small {N D : Int} {n : Nat} (hD : D ≠ 0) (hb : D.natAbs < 2 ^ n) : Nat.gcd N.natAbs D.natAbs < 2 ^ n :=
  Nat.lt_of_le_of_lt (Nat.gcd_le_right _ (Int.natAbs_pos.mpr hD)) hb
theorem num_pos {N D : Int} (hD : 0 < D) : N.fdiv ((Nat.gcd N.natAbs D.natAbs : Nat) : Int) = (Rat.divInt N D).num := by
  rw [Rat.num_divInt, Int.sign_eq_one_of_pos hD, Int.one_mul, Int.fdiv_eq_ediv_of_nonneg _ (Int.natCast_nonneg _)]
  rw [show D.gcd N = Nat.gcd N.natAbs D.natAbs from Nat.gcd_comm _ _]
theorem den_pos {N D : Int} (hD : 0 < D) : D.fdiv ((Nat.gcd N.natAbs D.natAbs : Nat) : Int) = ((Rat.divInt N D).den : Int) := by
  rw [Rat.den_divInt, if_neg (by omega), Int.fdiv_eq_ediv_of_nonneg _ (Int.natCast_nonneg _)]
  rw [show D.gcd N = Nat.gcd N.natAbs D.natAbs from Nat.gcd_comm _ _]
  rw [Int.natCast_ediv]
  congr 1
  omega
theorem divInt_neg' {N D : Int} (hD : D ≠ 0) : Rat.divInt N D = Rat.divInt (-N) (-D) :=
  (Rat.divInt_eq_divInt_iff hD (by omega)).mpr (by rw [Int.mul_neg, Int.neg_mul])
theorem s_fr {N D : Int} {n : Nat} (hD : D ≠ 0) (hb : D.natAbs < 2 ^ n) (hn : n < 9000) : M.m_fr [.d (.int N), .d (.int D)] S = .ok (.d (pq (Rat.divInt N D))) S := by
  have hg := gcd_pos' (N := N) hD
  have hs := log2_le (gcd_small (N := N) hD hb)
  by_cases h : D < 0
  · have e1 := num_pos (N := -N) (D := -D) (by omega)
    have e2 := den_pos (N := -N) (D := -D) (by omega)
    rw [← divInt_neg' hD, Int.natAbs_neg, Int.natAbs_neg] at e1 e2
    have f1 : N.fdiv (-((Nat.gcd N.natAbs D.natAbs : Nat) : Int)) = (Rat.divInt N D).num := by rw [← e1, ← Int.neg_fdiv_neg, Int.neg_neg]
    have f2 : D.fdiv (-((Nat.gcd N.natAbs D.natAbs : Nat) : Int)) = ((Rat.divInt N D).den : Int) := by rw [← e2, ← Int.neg_fdiv_neg, Int.neg_neg]
    simp [M.m_fr, M.g_fr, gcd_i, h, pq]
    rw [div_i (by omega) (by rw [Int.natAbs_neg, Int.natAbs_natCast]; omega), f1]
    simp
    rw [div_i (by omega) (by rw [Int.natAbs_neg, Int.natAbs_natCast]; omega), f2]
    simp
  · have e1 := num_pos (N := N) (D := D) (by omega)
    have e2 := den_pos (N := N) (D := D) (by omega)
    simp [M.m_fr, M.g_fr, gcd_i, h, pq]
    rw [div_i (by omega) (by rw [Int.natAbs_natCast]; omega), e1]
    simp
    rw [div_i (by omega) (by rw [Int.natAbs_natCast]; omega), e2]
    simp
theorem ix_p0 {a b : Int} : uIx (.d (.tuple [.int a, .int b])) (.d (.int 0)) S = .ok (.d (.int a)) S := rfl
theorem ix_p1 {a b : Int} : uIx (.d (.tuple [.int a, .int b])) (.d (.int 1)) S = .ok (.d (.int b)) S := rfl
/-- the loop of Euclid -/
def eucT : Vr → Store → R Bool := fTst (f2 uGt (fVar 3) (fC (.d (.int 0))))
def eucB : Vr → Store → O := gPar 2 3 (fCons (fVar 3) (fCons (f2 uMod (fVar 2) (fVar 3)) (fNil)))
theorem euc {A B : U} : ∀ (two one : Nat), gWh eucT eucB [some A, some B, some (.d (.int (one : Int))), some (.d (.int (two : Int)))] S = .nx [some A, some B, some (.d (.int ((Nat.gcd one two : Nat) : Int))), some (.d (.int 0))] S := by
  intro two
  induction two using Nat.strongRecOn with
  | _ two ih =>
    intro one
    by_cases h : two = 0
    · subst h
      rw [gWh_end (S1 := S) (by simp [eucT]), Nat.gcd_zero_right]
      rfl
    · have hlt : one % two < two := Nat.mod_lt _ (Nat.pos_of_ne_zero h)
      have step := ih (one % two) hlt two
      have hb : eucB [some A, some B, some (.d (.int (one : Int))), some (.d (.int (two : Int)))] S = .nx [some A, some B, some (.d (.int (two : Int))), some (.d (.int ((one % two : Nat) : Int)))] S := by
        simp [eucB]
        rw [mod_i (by omega), Int.fmod_eq_emod_of_nonneg _ (by omega)]
        simp
      rw [gWh_go (S1 := S) (by simp [eucT]; omega) hb (by rw [step]; exact fun z => nomatch z), step]
      rw [Nat.gcd_comm two, ← Nat.gcd_rec, Nat.gcd_comm]
theorem s_frac {N D : Int} {n : Nat} (hD : 0 < D) (hb : D.natAbs < 2 ^ n) (hn : n < 9000) : M.m__law_op_frac [.d (.int N), .d (.int D)] S = .ok (.d (pq (Rat.divInt N D))) S := by
  have e1 := num_pos (N := N) hD
  have e2 := den_pos (N := N) hD
  have hg := gcd_pos' (N := N) (D := D) (by omega)
  have hs := log2_le (gcd_small (N := N) (by omega) hb)
  have e0 : uMax [.d (.int N), .d (.int (-N))] S = .ok (.d (.int (N.natAbs : Int))) S := by
    show R.ok (U.d (.int (if -N > N then -N else N))) S = _
    congr 3
    split <;> omega
  obtain ⟨d, rfl⟩ := Int.eq_ofNat_of_zero_le (Int.le_of_lt hD)
  have E := euc (S := S) (A := .d (.int N)) (B := .d (.int (d : Int))) d N.natAbs
  simp [M.m__law_op_frac, M.g__law_op_frac, e0]
  change fin _ ((gWh eucT eucB _ S).seq _) = _
  rw [E]
  rw [Int.natAbs_natCast] at e1 e2 hg hs
  simp
  rw [div_i (by omega) (by rw [Int.natAbs_natCast]; omega), e1]
  simp
  rw [div_i (by omega) (by rw [Int.natAbs_natCast]; omega), e2]
  simp [pq]
/-! ### sums, products -/
theorem Bd.mono {m n : Nat} {q : Rat} (h : Bd m q) (l : m ≤ n) : Bd n q := ⟨Nat.lt_of_lt_of_le h.num (Nat.pow_le_pow_right (by omega) l), Nat.lt_of_lt_of_le h.den (Nat.pow_le_pow_right (by omega) l)⟩
theorem divInt_bd {N D : Int} {n : Nat} (hD : D ≠ 0) (h1 : N.natAbs < 2 ^ n) (h2 : D.natAbs < 2 ^ n) : Bd n (Rat.divInt N D) := by
  refine ⟨?_, ?_⟩
  · rw [Rat.num_divInt]
    refine Nat.lt_of_le_of_lt ?_ h1
    have : (D.sign * N / (D.gcd N : Int)).natAbs ≤ (D.sign * N).natAbs := by
      exact Int.natAbs_ediv_le_natAbs _ _
    refine Nat.le_trans this ?_
    rw [Int.natAbs_mul]
    have : D.sign.natAbs ≤ 1 := by
      rcases Int.lt_trichotomy D 0 with h | h | h
      · rw [Int.sign_eq_neg_one_of_neg h]; decide
      · exact absurd h hD
      · rw [Int.sign_eq_one_of_pos h]; decide
    calc D.sign.natAbs * N.natAbs ≤ 1 * N.natAbs := Nat.mul_le_mul_right _ this
      _ = N.natAbs := Nat.one_mul _
  · rw [Rat.den_divInt, if_neg hD]
    exact Nat.lt_of_le_of_lt (Nat.div_le_self _ _) h2
theorem mul_lt {a b m n : Nat} (h : a < 2 ^ m) (k : b < 2 ^ n) : a * b < 2 ^ (m + n) := by
  rw [Nat.pow_add]
  exact Nat.mul_lt_mul'' h k
theorem mul_ij {i j : Int} {m n : Nat} {S : Store} (h1 : i.natAbs < 2 ^ m) (h2 : j.natAbs < 2 ^ n) (h : m + n < 1000000) : uMul (.d (.int i)) (.d (.int j)) S = .ok (.d (.int (i * j))) S := mul_i (by have := log2_le h1; have := log2_le h2; omega)
section
variable {a b : Rat} {m n : Nat} (ha : Bd m a) (hb : Bd n b)
include ha hb
theorem add_bd : Bd (m + n + 1) (a + b) := by
  have e : a + b = Rat.divInt (a.num * b.den + b.num * a.den) (a.den * b.den) := by
    have := Rat.divInt_add_divInt a.num b.num (d₁ := a.den) (d₂ := b.den) (by have := a.den_pos; omega) (by have := b.den_pos; omega)
    rw [Rat.num_divInt_den, Rat.num_divInt_den] at this
    exact this
  rw [e]
  have h1 := mul_lt ha.num hb.den
  have h2 := mul_lt hb.num ha.den
  have h3 := mul_lt ha.den hb.den
  rw [Nat.add_comm n m] at h2
  have k1 := a.den_pos
  have k2 := b.den_pos
  refine divInt_bd (by exact Int.mul_ne_zero (by omega) (by omega)) ?_ ?_
  · refine Nat.lt_of_le_of_lt (Int.natAbs_add_le _ _) ?_
    rw [Int.natAbs_mul, Int.natAbs_mul, Int.natAbs_natCast, Int.natAbs_natCast, Nat.pow_succ]
    omega
  · rw [Int.natAbs_mul, Int.natAbs_natCast, Int.natAbs_natCast, Nat.pow_succ]
    omega
theorem mul_bd : Bd (m + n) (a * b) := by
  have e : a * b = Rat.divInt (a.num * b.num) (a.den * b.den) := by
    have := Rat.divInt_mul_divInt a.num b.num (d₁ := a.den) (d₂ := b.den)
    rw [Rat.num_divInt_den, Rat.num_divInt_den] at this
    exact this
  rw [e]
  have k1 := a.den_pos
  have k2 := b.den_pos
  refine divInt_bd (by exact Int.mul_ne_zero (by omega) (by omega)) ?_ ?_
  · rw [Int.natAbs_mul]
    exact mul_lt ha.num hb.num
  · rw [Int.natAbs_mul, Int.natAbs_natCast, Int.natAbs_natCast]
    exact mul_lt ha.den hb.den
theorem s_plus (h : m + n < 8000) : M.m__law_op_plus [.d (pq a), .d (pq b)] S = .ok (.d (pq (a + b))) S := by
  have e : a + b = Rat.divInt (a.num * b.den + b.num * a.den) (a.den * b.den) := by
    have := Rat.divInt_add_divInt a.num b.num (d₁ := a.den) (d₂ := b.den) (by have := a.den_pos; omega) (by have := b.den_pos; omega)
    rw [Rat.num_divInt_den, Rat.num_divInt_den] at this
    exact this
  have k1 := a.den_pos
  have k2 := b.den_pos
  have k3 : (0 : Int) < a.den * b.den := Int.mul_pos (by omega) (by omega)
  have h3 : ((a.den : Int) * b.den).natAbs < 2 ^ (m + n) := by
    rw [Int.natAbs_mul, Int.natAbs_natCast, Int.natAbs_natCast]
    exact mul_lt ha.den hb.den
  have f := s_frac (S := S) (N := a.num * b.den + b.num * a.den) k3 h3 (by omega)
  rw [e, ← f]
  have m1 := mul_ij (S := S) (i := a.num) (j := b.den) ha.num hb.den (by omega)
  have m2 := mul_ij (S := S) (i := b.num) (j := a.den) hb.num ha.den (by omega)
  have m3 := mul_ij (S := S) (i := a.den) (j := b.den) ha.den hb.den (by omega)
  simp [M.m__law_op_plus, M.g__law_op_plus, pq, ix_p0, ix_p1, m1, m2, m3, f]
theorem s_times (h : m + n < 8000) : M.m__law_op_times [.d (pq a), .d (.int b.num), .d (.int b.den)] S = .ok (.d (pq (a * b))) S := by
  have e : a * b = Rat.divInt (a.num * b.num) (a.den * b.den) := by
    have := Rat.divInt_mul_divInt a.num b.num (d₁ := a.den) (d₂ := b.den)
    rw [Rat.num_divInt_den, Rat.num_divInt_den] at this
    exact this
  have k1 := a.den_pos
  have k2 := b.den_pos
  have k3 : (0 : Int) < a.den * b.den := Int.mul_pos (by omega) (by omega)
  have h3 : ((a.den : Int) * b.den).natAbs < 2 ^ (m + n) := by
    rw [Int.natAbs_mul, Int.natAbs_natCast, Int.natAbs_natCast]
    exact mul_lt ha.den hb.den
  have f := s_frac (S := S) (N := a.num * b.num) k3 h3 (by omega)
  rw [e, ← f]
  have m1 := mul_ij (S := S) (i := a.num) (j := b.num) ha.num hb.num (by omega)
  have m3 := mul_ij (S := S) (i := a.den) (j := b.den) ha.den hb.den (by omega)
  simp [M.m__law_op_times, M.g__law_op_times, pq, ix_p0, ix_p1, m1, m3, f]
theorem s_fadd (h : m + n < 8000) : M.m_fadd [.d (pq a), .d (pq b)] S = .ok (.d (pq (a + b))) S := by
  have e : a + b = Rat.divInt (a.num * b.den + b.num * a.den) (a.den * b.den) := by
    have := Rat.divInt_add_divInt a.num b.num (d₁ := a.den) (d₂ := b.den) (by have := a.den_pos; omega) (by have := b.den_pos; omega)
    rw [Rat.num_divInt_den, Rat.num_divInt_den] at this
    exact this
  have k1 := a.den_pos
  have k2 := b.den_pos
  have k3 : (0 : Int) < a.den * b.den := Int.mul_pos (by omega) (by omega)
  have h3 : ((a.den : Int) * b.den).natAbs < 2 ^ (m + n) := by
    rw [Int.natAbs_mul, Int.natAbs_natCast, Int.natAbs_natCast]
    exact mul_lt ha.den hb.den
  have f := s_fr (S := S) (N := a.num * b.den + b.num * a.den) (by omega) h3 (by omega)
  rw [e, ← f]
  have m1 := mul_ij (S := S) (i := a.num) (j := b.den) ha.num hb.den (by omega)
  have m2 := mul_ij (S := S) (i := b.num) (j := a.den) hb.num ha.den (by omega)
  have m3 := mul_ij (S := S) (i := a.den) (j := b.den) ha.den hb.den (by omega)
  simp [M.m_fadd, M.g_fadd, pq, ix_p0, ix_p1, m1, m2, m3, f]
theorem s_fmul (h : m + n < 8000) : M.m_fmul [.d (pq a), .d (pq b)] S = .ok (.d (pq (a * b))) S := by
  have e : a * b = Rat.divInt (a.num * b.num) (a.den * b.den) := by
    have := Rat.divInt_mul_divInt a.num b.num (d₁ := a.den) (d₂ := b.den)
    rw [Rat.num_divInt_den, Rat.num_divInt_den] at this
    exact this
  have k1 := a.den_pos
  have k2 := b.den_pos
  have k3 : (0 : Int) < a.den * b.den := Int.mul_pos (by omega) (by omega)
  have h3 : ((a.den : Int) * b.den).natAbs < 2 ^ (m + n) := by
    rw [Int.natAbs_mul, Int.natAbs_natCast, Int.natAbs_natCast]
    exact mul_lt ha.den hb.den
  have f := s_fr (S := S) (N := a.num * b.num) (by omega) h3 (by omega)
  rw [e, ← f]
  have m1 := mul_ij (S := S) (i := a.num) (j := b.num) ha.num hb.num (by omega)
  have m3 := mul_ij (S := S) (i := a.den) (j := b.den) ha.den hb.den (by omega)
  simp [M.m_fmul, M.g_fmul, pq, ix_p0, ix_p1, m1, m3, f]
end
end
end Z

/-! Z13: the jar of drawn numbers. -/
namespace Z
open PySem
section
variable {S S1 S2 : Store} {l n : Nat} {xs : List D} {i : Int} {y : D}
theorem ix_loc (h : S[l]? = some (some xs)) (h2 : L2.atI xs i = some y) : uIx (.loc l) (.d (.int i)) S = .ok (.d y) S := by
  unfold uIx
  simp [viewL, h, h2]
theorem set_loc {j : Nat} (h : S[l]? = some (some xs)) (h2 : L2.ixN xs.length i = some j) : uSetL (.loc l) (.d (.int i)) (.d y) S = some (S.set l (some (xs.set j y))) := by
  unfold uSetL
  simp [h, h2]
theorem get_set (h : S[l]? = some (some xs)) {zs : List D} : (S.set l (some zs))[l]? = some (some zs) := List.getElem?_set_self (List.getElem?_eq_some_iff.mp h).1
theorem take_set {o : Option (List D)} : (S.set l o).take S.length = S.set l o := List.take_of_length_le (by rw [List.length_set]; exact Nat.le_refl _)
/-- the same but at l -/
structure Kp (l : Nat) (S S' : Store) : Prop where
  len : S'.length = S.length
  get : ∀ i, i ≠ l → S'[i]? = S[i]?
theorem Kp.refl : Kp l S S := ⟨rfl, fun _ _ => rfl⟩
theorem Kp.trans (a : Kp l S S1) (b : Kp l S1 S2) : Kp l S S2 := ⟨b.len.trans a.len, fun i h => (b.get i h).trans (a.get i h)⟩
theorem Kp.set {o : Option (List D)} : Kp l S (S.set l o) := ⟨List.length_set .., fun i h => List.getElem?_set_ne (Ne.symm h)⟩
def Jar (S : Store) (l n : Nat) : Prop := ∃ a b c : Int, S[l]? = some (some [.int a, .int b, .int c]) ∧ 0 ≤ a ∧ 0 ≤ b ∧ b < 2147483647 ∧ 0 ≤ c ∧ c ≤ n
theorem Jar.mono {m : Nat} (h : Jar S l n) (k : n ≤ m) : Jar S l m := by
  obtain ⟨a, b, c, h1, h2, h3, h4, h5, h6⟩ := h
  exact ⟨a, b, c, h1, h2, h3, h4, h5, by omega⟩
theorem int_small {i : Int} {k : Nat} (h0 : 0 ≤ i) (h : i < 2 ^ k) : i.natAbs < 2 ^ k := by
  have := Int.natAbs_of_nonneg h0
  have h' : ((i.natAbs : Nat) : Int) < ((2 ^ k : Nat) : Int) := by rw [this]; simpa using h
  exact Int.ofNat_lt.mp h'
theorem s_take {many : Int} (hj : Jar S l n) (hm : 0 < many) (hb : many < 2 ^ 60) (hn : n < 1000000000) :
    ∃ r S', M.m__law_take [.loc l, .d (.int many)] S = .ok (.d (.int r)) S' ∧ 0 ≤ r ∧ r < many ∧ Jar S' l (n + 1) ∧ Kp l S S' := by
  obtain ⟨a, b, c, h1, h2, h3, h4, h5, h6⟩ := hj
  have hml := log2_le (int_small (k := 60) (by omega) hb)
  by_cases ha : 0 < a
  · refine ⟨a.fmod many, S.set l (some [.int (a.fdiv many), .int b, .int c]), ?_, Int.fmod_nonneg_of_pos _ hm, Int.fmod_lt_of_pos _ hm, ⟨a.fdiv many, b, c, get_set h1, Int.fdiv_nonneg (by omega) (by omega), h3, h4, h5, by omega⟩, Kp.set⟩
    simp [M.m__law_take, M.g__law_take, ix_loc h1 (show L2.atI _ 0 = some _ from rfl), ha, mod_i (show many ≠ 0 by omega), div_i (show many ≠ 0 by omega) (by omega), set_loc h1 (show L2.ixN _ 0 = some 0 from rfl), take_set]
  · have e1 : ∀ S : Store, uMul (.d (.int b)) (.d (.int 39373)) S = .ok (.d (.int (b * 39373))) S := fun S => mul_ij (m := 31) (n := 16) (int_small h3 (by omega)) (by decide) (by decide)
    have e2 : ∀ S : Store, uMul (.d (.int 7919)) (.d (.int (c + 1))) S = .ok (.d (.int (7919 * (c + 1)))) S := fun S => mul_ij (m := 13) (n := 40) (by decide) (int_small (by omega) (by omega)) (by decide)
    have hb0 : 0 ≤ (b * 39373 + 7919 * (c + 1) + 7).fmod 2147483647 := Int.fmod_nonneg_of_pos _ (by decide)
    have hb1 : (b * 39373 + 7919 * (c + 1) + 7).fmod 2147483647 < 2147483647 := Int.fmod_lt_of_pos _ (by decide)
    generalize hB : (b * 39373 + 7919 * (c + 1) + 7).fmod 2147483647 = B at hb0 hb1
    have e3 : ∀ S : Store, uMul (.d (.int B)) (.d (.int B)) S = .ok (.d (.int (B * B))) S := fun S => mul_ij (m := 31) (n := 31) (int_small hb0 (by omega)) (int_small hb0 (by omega)) (by decide)
    have g1 := get_set h1 (zs := [.int a, .int b, .int (c + 1)])
    have g2 := get_set h1 (zs := [.int a, .int B, .int (c + 1)])
    refine ⟨(((B * B).fmod 2147483629).fdiv 32).fmod many, S.set l (some [.int a, .int B, .int (c + 1)]), ?_, Int.fmod_nonneg_of_pos _ hm, Int.fmod_lt_of_pos _ hm, ⟨a, B, c + 1, get_set h1, h2, hb0, hb1, by omega, by omega⟩, Kp.set⟩
    simp [M.m__law_take, M.g__law_take, ix_loc h1 (show L2.atI _ 0 = some _ from rfl), ha, ix_loc h1 (show L2.atI _ 2 = some _ from rfl), set_loc h1 (show L2.ixN _ 2 = some 2 from rfl), ix_loc g1 (show L2.atI _ 1 = some _ from rfl), ix_loc g1 (show L2.atI _ 2 = some _ from rfl), e1, e2,
      mod_i (show (2147483647 : Int) ≠ 0 by decide), hB, set_loc g1 (show L2.ixN _ 1 = some 1 from rfl), ix_loc g2 (show L2.atI _ 1 = some _ from rfl), e3, mod_i (show (2147483629 : Int) ≠ 0 by decide), div_i (show (32 : Int) ≠ 0 by decide) (by decide), mod_i (show many ≠ 0 by omega), take_set]
end
/-! ### loops -/
theorem forO_inv {P : Nat → Vr → Store → Prop} {tg : U → Vr → Option Vr} {body : Vr → Store → O} : ∀ (ds : List D) (k : Nat) (ρ : Vr) (S : Store),
    (∀ i d ρ S, ds[i]? = some d → P (k + i) ρ S → ∃ ρ1 ρ2 S2, tg (.d d) ρ = some ρ1 ∧ body ρ1 S = .nx ρ2 S2 ∧ P (k + i + 1) ρ2 S2) → P k ρ S → ∃ ρ' S', forO tg body ds ρ S = .nx ρ' S' ∧ P (k + ds.length) ρ' S'
  | [], k, ρ, S, _, h => ⟨ρ, S, rfl, h⟩
  | d :: ds, k, ρ, S, st, h => by
    obtain ⟨ρ1, ρ2, S2, e1, e2, h2⟩ := st 0 d ρ S rfl h
    obtain ⟨ρ', S', e3, h3⟩ := forO_inv (P := P) (tg := tg) (body := body) ds (k + 1) ρ2 S2 (fun i d' ρ S hd hp => by
      have := st (i + 1) d' ρ S (by simpa using hd) (by rw [show k + (i + 1) = k + 1 + i by omega]; exact hp)
      rw [show k + (i + 1) + 1 = k + 1 + i + 1 by omega] at this
      exact this) h2
    refine ⟨ρ', S', ?_, by rw [List.length_cons, show k + (ds.length + 1) = k + 1 + ds.length by omega]; exact h3⟩
    rw [forO, e1]
    dsimp only
    rw [e2]
    exact e3
theorem atI_nat {xs : List D} {i : Nat} {y : D} (h : xs[i]? = some y) : L2.atI xs (i : Int) = some y := by
  have hi := (List.getElem?_eq_some_iff.mp h).1
  unfold L2.atI L2.ixN
  rw [if_pos (by omega), if_pos (by omega)]
  simpa using h
theorem ix_rd {S : Store} {xs : List D} {i : Nat} {y : D} (h : xs[i]? = some y) : uIx (.rd xs) (.d (.int (i : Int))) S = .ok (.d y) S := by
  unfold uIx
  simp [viewL, atI_nat h]
section
variable {S : Store}
theorem pow_i {i j : Int} (h0 : 0 ≤ j) (h : j ≤ 1000000) (hi : i.natAbs < 2 ^ 64) : uPow (.d (.int i)) (.d (.int j)) S = .ok (.d (.int (i ^ j.toNat))) S := by
  show (if 0 ≤ j ∧ j ≤ 1000000 ∧ i.natAbs < 2 ^ 64 then _ else _) = _
  rw [if_pos ⟨h0, h, hi⟩]
theorem max_i {i j : Int} : uMax [.d (.int i), .d (.int j)] S = .ok (.d (.int (if j > i then j else i))) S := (rfl)
theorem rng1_i {j : Int} (h : -(2 ^ 62) ≤ j) (h' : j < 2 ^ 62) : sRng1 [.d (.int j)] S = .ok (rngD 0 j.toNat) S := by
  unfold sRng1
  exact if_pos ⟨h, h'⟩
theorem pool_step {ns : List Int} {i : Nat} {z dg st : Int} {r1 r2 : Option U} (hx : (ns.map PyData.int)[i]? = some (.int z)) (h1 : 0 ≤ dg) (h2 : 0 ≤ st) (h3 : st < 2147483647) :
    ∃ dg' st' r, M.b1__law_pool [some (.rd (ns.map PyData.int)), some (.d (.int dg)), some (.d (.int st)), some (.d (.int (i : Int))), r2] S = .nx [some (.rd (ns.map PyData.int)), some (.d (.int dg')), some (.d (.int st')), some (.d (.int (i : Int))), r] S ∧ 0 ≤ dg' ∧ 0 ≤ st' ∧ st' < 2147483647 := by
  have p12 : ∀ S : Store, uPow (.d (.int 10)) (.d (.int 12)) S = .ok (.d (.int (10 ^ 12))) S := fun S => pow_i (by decide) (by decide) (by decide)
  have p60 : ∀ S : Store, uPow (.d (.int 10)) (.d (.int 60)) S = .ok (.d (.int (10 ^ 60))) S := fun S => pow_i (by decide) (by decide) (by decide)
  have m1 : ∀ S : Store, uMul (.d (.int st)) (.d (.int 48271)) S = .ok (.d (.int (st * 48271))) S := fun S => mul_ij (m := 31) (n := 16) (int_small h2 (by omega)) (by decide) (by decide)
  generalize hc : (if -1 - z > z then -1 - z else z) = cell
  have hs0 : 0 ≤ (st * 48271 + cell.fmod 2147483629 + 11).fmod 2147483647 := Int.fmod_nonneg_of_pos _ (by decide)
  have hs1 : (st * 48271 + cell.fmod 2147483629 + 11).fmod 2147483647 < 2147483647 := Int.fmod_lt_of_pos _ (by decide)
  by_cases c1 : 10 ^ 12 ≤ cell
  · by_cases c2 : dg < 10 ^ 60
    · have m2 : uMul (.d (.int dg)) (.d (.int (10 ^ 60))) S = .ok (.d (.int (dg * 10 ^ 60))) S := mul_ij (m := 200) (n := 200) (int_small h1 (Int.lt_trans c2 (by decide))) (by decide) (by decide)
      refine ⟨dg * 10 ^ 60 + cell.fmod (10 ^ 60), _, some (.d (.int cell)), ?_, Int.add_nonneg (Int.mul_nonneg h1 (by decide)) (Int.fmod_nonneg_of_pos _ (by decide)), hs0, hs1⟩
      simp only [M.b1__law_pool, gSeq, gSet, fN, fCons, f2, f1, e_var0, e_varS, bind_ok, ix_rd hx, fC, neg_i, sub_i, fNil, max_i, st_ok, int_i, seq_nx, List.set_cons_succ, List.set_cons_zero, fIf, fAndT, fTst, add_i, mod_i (show (2147483629 : Int) ≠ 0 by decide), mod_i (show (2147483647 : Int) ≠ 0 by decide), p12, p60, m1, ge_i, lt_i, tru_b, m2, mod_i (show (10 ^ 60 : Int) ≠ 0 by decide), hc, c1, c2, decide_true, if_true]
    · refine ⟨dg, _, some (.d (.int cell)), ?_, h1, hs0, hs1⟩
      simp only [M.b1__law_pool, gSeq, gSet, fN, fCons, f2, f1, e_var0, e_varS, bind_ok, ix_rd hx, fC, neg_i, sub_i, fNil, max_i, st_ok, int_i, seq_nx, List.set_cons_succ, List.set_cons_zero, fIf, fAndT, fTst, add_i, mod_i (show (2147483629 : Int) ≠ 0 by decide), mod_i (show (2147483647 : Int) ≠ 0 by decide), p12, p60, m1, ge_i, lt_i, tru_b, hc, c1, c2, decide_true, decide_false, if_true, if_false, Bool.false_eq_true]
  · refine ⟨dg, _, some (.d (.int cell)), ?_, h1, hs0, hs1⟩
    simp only [M.b1__law_pool, gSeq, gSet, fN, fCons, f2, f1, e_var0, e_varS, bind_ok, ix_rd hx, fC, neg_i, sub_i, fNil, max_i, st_ok, int_i, seq_nx, List.set_cons_succ, List.set_cons_zero, fIf, fAndT, fTst, add_i, mod_i (show (2147483629 : Int) ≠ 0 by decide), mod_i (show (2147483647 : Int) ≠ 0 by decide), p12, p60, m1, ge_i, lt_i, tru_b, hc, c1, decide_true, decide_false, if_true, if_false, Bool.false_eq_true]
theorem s_pool (ns : List Int) (hl : ns.length ≤ 63) : ∃ S', M.m__law_pool [.rd (ns.map PyData.int)] S = .ok (.loc S.length) S' ∧ Jar S' S.length 0 ∧ S'.length = S.length + 1 ∧ ∀ i, i < S.length → S'[i]? = S[i]? := by
  obtain ⟨ρ', S', e, rfl, dg, st, r1, r2, rfl, h1, h2, h3⟩ := forO_inv (P := fun _ ρ T => T = S ∧ ∃ (dg st : Int) (r1 r2 : Option U), ρ = [some (.rd (ns.map PyData.int)), some (.d (.int dg)), some (.d (.int st)), r1, r2] ∧ 0 ≤ dg ∧ 0 ≤ st ∧ st < 2147483647)
    (tg := aName 3) (body := M.b1__law_pool) (rngD 0 ns.length) 0 [some (.rd (ns.map PyData.int)), some (.d (.int 0)), some (.d (.int 7)), none, none] S (fun i d ρ T hd ⟨hT, dg, st, r1, r2, hρ, h1, h2, h3⟩ => by
      subst hT hρ
      obtain ⟨hi, rfl⟩ := rngD_get _ _ _ _ hd
      have hx : (ns.map PyData.int)[i]? = some (.int ns[i]) := by simp [hi]
      obtain ⟨dg', st', r, e, k1, k2, k3⟩ := pool_step (S := T) (r1 := r1) (r2 := r2) hx h1 h2 h3
      exact ⟨_, _, _, rfl, by rw [Int.zero_add]; exact e, rfl, dg', st', _, _, rfl, k1, k2, k3⟩) ⟨rfl, 0, 7, none, none, rfl, by decide, by decide, by decide⟩
  refine ⟨S' ++ [some [.int dg, .int st, .int 0]], ?_, ⟨dg, st, 0, by simp, h1, h2, h3, by decide, by decide⟩, by simp, fun i hi => by rw [List.getElem?_append_left hi]⟩
  have e0 : sRng1 [.d (.int (ns.length : Int))] S' = .ok (rngD 0 ns.length) S' := by
    rw [rng1_i (by omega) (by omega), Int.toNat_natCast]
  simp [M.m__law_pool, M.g__law_pool, gFor, sN, uLen, viewL, e0, e]
end
end Z

/-! Z14: one thing of a list, comprehensions, what is the same. -/
namespace Z
open PySem
section
variable {S : Store} {l n : Nat} {xs : List D} {i : Nat} {y : D}
theorem ix_lst (h : xs[i]? = some y) : uIx (.d (.list xs)) (.d (.int (i : Int))) S = .ok (.d y) S := by
  unfold uIx
  simp [viewL, atI_nat h]
theorem ix_tup (h : xs[i]? = some y) : uIx (.d (.tuple xs)) (.d (.int (i : Int))) S = .ok (.d y) S := by
  unfold uIx
  simp [atI_nat h]
theorem len_lst : uLen [.d (.list xs)] S = .ok (.d (.int (xs.length : Int))) S := (rfl)
theorem len_tup : uLen [.d (.tuple xs)] S = .ok (.d (.int (xs.length : Int))) S := (rfl)
theorem s_one (hj : Jar S l n) (h0 : xs ≠ []) (hl : xs.length < 2 ^ 60) (hn : n < 1000000000) :
    ∃ (i : Nat) (hi : i < xs.length) (S' : Store), M.m__law_one [.loc l, .d (.list xs)] S = .ok (.d xs[i]) S' ∧ Jar S' l (n + 1) ∧ Kp l S S' := by
  have hp : 0 < xs.length := List.length_pos_iff.mpr h0
  obtain ⟨r, S', e, h1, h2, h3, h4⟩ := s_take (many := (xs.length : Int)) hj (by omega) (by omega) hn
  obtain ⟨k, rfl⟩ := Int.eq_ofNat_of_zero_le h1
  have hk : k < xs.length := by omega
  refine ⟨k, hk, S', ?_, h3, h4⟩
  have ei := ix_lst (S := S') (xs := xs) (i := k) (y := xs[k]) (List.getElem?_eq_getElem hk)
  have et : S'.take S.length = S' := List.take_of_length_le (by rw [h4.len]; exact Nat.le_refl _)
  simp [M.m__law_one, M.g__law_one, len_lst, e, ei, et]
end
/-! ### comprehensions -/
theorem lc_loop {tg : U → Vr → Option Vr} {fe : Vr → Store → R U} {ρ : Vr} {S : Store} {f : D → D} : ∀ (ds acc : List D), acc.length + ds.length ≤ 1000000 →
    (∀ d ∈ ds, ∃ ρ1, tg (.d d) ρ = some ρ1 ∧ ∀ acc, fe ρ1 (S ++ [some acc]) = .ok (.d (f d)) (S ++ [some acc])) → lcLoop S.length tg fYes fe ρ ds (S ++ [some acc]) = .ok () (S ++ [some (acc ++ ds.map f)])
  | [], acc, _, _ => by rw [List.map_nil, List.append_nil]; rfl
  | d :: ds, acc, hl, h => by
    rw [List.length_cons] at hl
    obtain ⟨ρ1, e1, e2⟩ := h d List.mem_cons_self
    have ih := lc_loop (tg := tg) (fe := fe) (ρ := ρ) (S := S) (f := f) ds (acc ++ [f d]) (by rw [List.length_append, List.length_singleton]; omega) fun d' hd => h d' (List.mem_cons_of_mem _ hd)
    have hg : (S ++ [some acc])[S.length]? = some (some acc) := by rw [List.getElem?_append_right (Nat.le_refl _), Nat.sub_self]; rfl
    have hs : (S ++ [some acc]).set S.length (some (acc ++ [f d])) = S ++ [some (acc ++ [f d])] := by
      rw [List.set_append_right _ _ (Nat.le_refl _), Nat.sub_self]; rfl
    have e2' := e2 acc
    unfold lcLoop
    simp only [e1, fYes, R.bnd0, if_true, e2', frz, hg]
    rw [if_pos (by omega), hs, ih, List.map_cons, List.append_assoc]
    rfl
theorem lc_pure {src : Vr → Store → R (List D)} {tg : U → Vr → Option Vr} {fe : Vr → Store → R U} {vs : List Nat} {ρ : Vr} {S S1 : Store} {ds : List D} {f : D → D} (h : src ρ S = .ok ds S1) (hl : ds.length ≤ 1000000)
    (hf : ∀ d ∈ ds, ∃ ρ1, tg (.d d) (wipeU ρ vs) = some ρ1 ∧ ∀ acc, fe ρ1 (S1 ++ [some acc]) = .ok (.d (f d)) (S1 ++ [some acc])) : fLc src tg fYes fe vs ρ S = .ok (.d (.list (ds.map f))) S1 := by
  unfold fLc lcRun
  have e := lc_loop (S := S1) (ρ := wipeU ρ vs) ds [] (by simpa using hl) hf
  have hg : (S1 ++ [some ([] ++ ds.map f)])[S1.length]? = some (some (ds.map f)) := by rw [List.getElem?_append_right (Nat.le_refl _), Nat.sub_self]; rfl
  rw [h]
  simp only [R.bind, e, R.bnd0, hg, List.take_left]
/-! ### the same -/
mutual
def sz : D → Nat
  | .list xs => szs xs + 1
  | .tuple xs => szs xs + 1
  | _ => 1
def szs : List D → Nat
  | [] => 0
  | x :: xs => sz x + szs xs
end
theorem szs_app : ∀ xs ys : List D, szs (xs ++ ys) = szs xs + szs ys
  | [], ys => by simp [szs]
  | x :: xs, ys => by rw [List.cons_append, szs, szs, szs_app xs ys, Nat.add_assoc]
theorem sz_pos (y : D) : 0 < sz y := by cases y <;> simp [sz]
theorem len_szs : ∀ xs : List D, xs.length ≤ szs xs
  | [] => by simp
  | x :: xs => by
    have := len_szs xs
    have := sz_pos x
    rw [List.length_cons, szs]
    omega
/-- plain data, not deep -/
structure Nice (y : D) : Prop where
  lay : y.canLay0 = true
  dep : y.depth ≤ 60
def dup (y : D) : D := .tuple [y, y]
theorem shp (y : D) (h : Nice y) : SeqAt.shaped y = true := by
  unfold SeqAt.shaped
  rw [h.lay, decide_eq_true (by have := h.dep; omega)]
  rfl
theorem lay_all : ∀ xs : List D, (∀ x ∈ xs, x.canLay0 = true) → PyData.canLayAll0 xs = true
  | [], _ => rfl
  | x :: xs, h => by
    rw [PyData.canLayAll0, h x List.mem_cons_self, lay_all xs fun y hy => h y (List.mem_cons_of_mem _ hy)]
    rfl
theorem lay_mem : ∀ xs : List D, PyData.canLayAll0 xs = true → ∀ x ∈ xs, x.canLay0 = true
  | x :: xs, h, y, hy => by
    rw [PyData.canLayAll0, Bool.and_eq_true] at h
    rcases List.mem_cons.mp hy with e | k
    · rw [e]; exact h.1
    · exact lay_mem xs h.2 y k
theorem dep_all : ∀ (xs : List D) (n : Nat), (∀ x ∈ xs, x.depth ≤ n) → PyData.depthAll xs ≤ n
  | [], n, _ => by rw [PyData.depthAll]; exact Nat.zero_le _
  | x :: xs, n, h => by
    rw [PyData.depthAll]
    exact Nat.max_le.mpr ⟨h x List.mem_cons_self, dep_all xs n fun y hy => h y (List.mem_cons_of_mem _ hy)⟩
theorem dep_mem : ∀ (xs : List D), ∀ x ∈ xs, x.depth ≤ PyData.depthAll xs
  | x :: xs, y, hy => by
    rw [PyData.depthAll]
    rcases List.mem_cons.mp hy with e | k
    · rw [e]; exact Nat.le_max_left _ _
    · exact Nat.le_trans (dep_mem xs y k) (Nat.le_max_right _ _)
theorem nice_list {xs : List D} (h : Nice (.list xs)) : ∀ x ∈ xs, Nice x := fun x hx => ⟨lay_mem xs (by have := h.lay; rwa [PyData.canLay0] at this) x hx, by
  have h1 := dep_mem xs x hx
  have h2 := h.dep
  rw [PyData.depth] at h2
  omega⟩
theorem nice_tup {xs : List D} (h : Nice (.tuple xs)) : ∀ x ∈ xs, Nice x := fun x hx => ⟨lay_mem xs (by have := h.lay; rwa [PyData.canLay0] at this) x hx, by
  have h1 := dep_mem xs x hx
  have h2 := h.dep
  rw [PyData.depth] at h2
  omega⟩
theorem shp_todo {ys : List D} (h : ∀ y ∈ ys, Nice y) : SeqAt.shaped (.list (ys.map dup)) = true := by
  have h1 : (PyData.list (ys.map dup)).canLay0 = true := by
    rw [PyData.canLay0]
    refine lay_all _ fun x hx => ?_
    obtain ⟨y, hy, rfl⟩ := List.mem_map.mp hx
    have hl := (h y hy).lay
    simp [dup, PyData.canLay0, PyData.canLayAll0, hl]
  have h2 : (PyData.list (ys.map dup)).depth ≤ 64 := by
    rw [PyData.depth]
    have := dep_all (ys.map dup) 61 fun x hx => by
      obtain ⟨y, hy, rfl⟩ := List.mem_map.mp hx
      have hd := (h y hy).dep
      simp [dup, PyData.depth, PyData.depthAll]
      exact hd
    omega
  unfold SeqAt.shaped
  rw [h1, decide_eq_true h2]
  rfl
end Z

/-! Z15: _law_op_same of equal things. -/
namespace Z
open PySem
section
variable {S : Store} {u w : U} {r3 r4 r5 r6 : Option U} {ys : List D} {y : D}
theorem at_end {o : Option (List D)} : (S ++ [o])[S.length]? = some o := by rw [List.getElem?_append_right (Nat.le_refl _), Nat.sub_self]; rfl
theorem set_end {o o' : Option (List D)} : (S ++ [o]).set S.length o' = S ++ [o'] := by rw [List.set_append_right _ _ (Nat.le_refl _), Nat.sub_self]; rfl
theorem same_t (h : ∀ y ∈ ys, Nice y) : M.t2__law_op_same [some u, some w, some (.loc S.length), r3, r4, r5, r6] (S ++ [some (ys.map dup)]) = .ok (decide (ys ≠ [])) (S ++ [some (ys.map dup)]) := by
  have hs := shp_todo h
  have he : PyData.eqv (.list (ys.map dup)) (.list []) = decide (ys = []) := by
    cases ys with
    | nil => rfl
    | cons a b => rfl
  simp [M.t2__law_op_same, uNe, viewD, at_end, hs, he, show SeqAt.shaped (.list []) = true from rfl]
theorem isi {T : String} (hT : okTy T = true) : uIsi [.d y, .ty T] S = .ok (.d (.bool (isTy T (tyOf y)))) S := by
  show (if okTy T = true then _ else _) = _
  rw [if_pos hT]
theorem eqv_self (h : Nice y) : uEq (.d y) (.d y) S = .ok (.d (.bool true)) S := by
  rw [eq_d (shp y h) (shp y h), PySem.SeqAt.eqv_refl y h.lay]
/-- what is put on the pile for y -/
def kids : D → List D
  | .list xs => xs
  | .tuple xs => xs
  | _ => []
theorem lc_same {T : Store} (y : D) (xs : List D) (hy : y = .list xs ∨ y = .tuple xs) (hk : xs.length ≤ 1000000) :
    fLc (sN sRng1 (fCons (fN uLen (fCons (fVar 4) fNil)) fNil)) (aName 6) fYes M.e1__law_op_same [6] [some u, some w, some (.loc S.length), some (.d y), some (.d y), r5, r6] T = .ok (.d (.list (xs.map dup))) T := by
  have hlen : uLen [.d y] T = .ok (.d (.int (xs.length : Int))) T := by rcases hy with rfl | rfl <;> rfl
  have hsrc : sN sRng1 (fCons (fN uLen (fCons (fVar 4) fNil)) fNil) [some u, some w, some (.loc S.length), some (.d y), some (.d y), r5, r6] T = .ok (rngD 0 xs.length) T := by
    simp only [sN, fCons, fN, e_varS, e_var0, bind_ok, fNil, hlen]
    rw [rng1_i (by omega) (by omega), Int.toNat_natCast]
  have := lc_pure (tg := aName 6) (fe := M.e1__law_op_same) (vs := [6]) (f := fun d => match d with | .int i => dup (xs.getD i.toNat .none) | d => d) hsrc (by rw [rngD_len]; exact hk) fun d hd => by
    obtain ⟨i, hi⟩ := List.mem_iff_getElem?.mp hd
    obtain ⟨h1, rfl⟩ := rngD_get _ _ _ _ hi
    refine ⟨_, rfl, fun acc => ?_⟩
    have hx : xs[i]? = some xs[i] := List.getElem?_eq_getElem h1
    have ei : uIx (.d y) (.d (.int (i : Int))) (T ++ [some acc]) = .ok (.d xs[i]) (T ++ [some acc]) := by
      rcases hy with rfl | rfl
      · exact ix_lst hx
      · exact ix_tup hx
    simp [M.e1__law_op_same, ei, wipeU, dup, hx]
  rw [this]
  congr 3
  refine List.ext_getElem? fun i => ?_
  rw [List.getElem?_map, List.getElem?_map]
  cases hi : (rngD 0 xs.length)[i]? with
  | none =>
    have := List.getElem?_eq_none_iff.mp hi
    rw [rngD_len] at this
    rw [List.getElem?_eq_none this]
    rfl
  | some d =>
    obtain ⟨h1, rfl⟩ := rngD_get _ _ _ _ hi
    simp [h1]
theorem same_b (h : Nice y) (hl : (ys ++ kids y).length ≤ 1000000) (hk : (kids y).length ≤ 1000000) : ∃ r6', M.b3__law_op_same [some u, some w, some (.loc S.length), r3, r4, r5, r6] (S ++ [some ((ys ++ [y]).map dup)]) =
    .nx [some u, some w, some (.loc S.length), some (.d y), some (.d y), some (.d (.bool true)), r6'] (S ++ [some ((ys ++ kids y).map dup)]) := by
  have hp : uPop (.loc S.length) [] (S ++ [some (ys.map dup ++ [dup y])]) = .ok (.d (dup y)) (S ++ [some (ys.map dup)]) := by
    unfold uPop
    simp [at_end, set_end]
  have hl1 : isL (.loc S.length) (S ++ [some (ys.map dup ++ [dup y])]) = true := by simp [isL, viewL, at_end]
  have hl2 : isL (.loc S.length) (S ++ [some (ys.map dup)]) = true := by simp [isL, viewL, at_end]
  have h0 : gAsg (fML uPop (fVar 2) fNil) (aTup 2 (aCons (aName 3) (aCons (aName 4) aNil))) [some u, some w, some (.loc S.length), r3, r4, r5, r6] (S ++ [some (ys.map dup ++ [dup y])]) = .nx [some u, some w, some (.loc S.length), some (.d y), some (.d y), r5, r6] (S ++ [some (ys.map dup)]) := by
    unfold gAsg fML
    simp only [e_varS, e_var0, bind_ok, hl1, if_true, fNil, hp, st_ok]
    rfl
  have ev := eqv_self (S := S ++ [some (ys.map dup)]) h
  refine ⟨r6, ?_⟩
  simp only [List.map_append, List.map_cons, List.map_nil]
  unfold M.b3__law_op_same
  rw [gSeq, h0, seq_nx]
  cases y with
  | none => simp [kids]
  | bool b => simp [kids, isi (show okTy "bool" = true from rfl), isTy, tyOf, ev]
  | int i => simp [kids, isi (show okTy "bool" = true from rfl), isi (show okTy "int" = true from rfl), isTy, tyOf, ev, s_iswhole, isInt]
  | str x => simp [kids, isi (show okTy "bool" = true from rfl), isi (show okTy "int" = true from rfl), isi (show okTy "str" = true from rfl), isTy, tyOf, ev]
  | dict kv => have := h.lay; simp [PyData.canLay0] at this
  | list xs =>
    have hx := lc_same (u := u) (w := w) (S := S) (r5 := some (.d (.bool true))) (r6 := r6) (.list xs) xs (.inl rfl) hk (T := S ++ [some (ys.map dup)])
    have hE : uExt (.loc S.length) [.d (.list (xs.map dup))] (S ++ [some (ys.map dup)]) = .ok (.d .none) (S ++ [some (ys.map dup ++ xs.map dup)]) := by
      unfold uExt
      simp [viewM, at_end, set_end]
      simp [kids] at hl
      omega
    simp [kids, isi (show okTy "bool" = true from rfl), isi (show okTy "int" = true from rfl), isi (show okTy "str" = true from rfl), isi (show okTy "tuple" = true from rfl), isi (show okTy "list" = true from rfl), isTy, tyOf, len_lst, hl2, hx, hE]
  | tuple xs =>
    have hx := lc_same (u := u) (w := w) (S := S) (r5 := some (.d (.bool true))) (r6 := r6) (.tuple xs) xs (.inr rfl) hk (T := S ++ [some (ys.map dup)])
    have hE : uExt (.loc S.length) [.d (.list (xs.map dup))] (S ++ [some (ys.map dup)]) = .ok (.d .none) (S ++ [some (ys.map dup ++ xs.map dup)]) := by
      unfold uExt
      simp [viewM, at_end, set_end]
      simp [kids] at hl
      omega
    simp [kids, isi (show okTy "bool" = true from rfl), isi (show okTy "int" = true from rfl), isi (show okTy "str" = true from rfl), isi (show okTy "tuple" = true from rfl), isi (show okTy "list" = true from rfl), isTy, tyOf, len_tup, hl2, hx, hE]
theorem rev_cases {α : Type} (l : List α) : l = [] ∨ ∃ ys y, l = ys ++ [y] := by
  cases h : l.reverse with
  | nil => exact .inl (List.reverse_eq_nil_iff.mp h)
  | cons y ys => exact .inr ⟨ys.reverse, y, by rw [← List.reverse_reverse l, h, List.reverse_cons]⟩
theorem szs_kids (y : D) : szs (kids y) < sz y := by cases y <;> simp [kids, sz, szs]
theorem nice_kids {y : D} (h : Nice y) : ∀ x ∈ kids y, Nice x := by
  cases y with
  | list xs => exact nice_list h
  | tuple xs => exact nice_tup h
  | _ => intro x hx; cases hx
theorem same_loop : ∀ (k : Nat) (ys : List D) (r3 r4 r5 r6 : Option U), szs ys ≤ k → (∀ y ∈ ys, Nice y) → szs ys ≤ 1000000 →
    ∃ r3' r4' r5' r6', gWh M.t2__law_op_same M.b3__law_op_same [some u, some w, some (.loc S.length), r3, r4, r5, r6] (S ++ [some (ys.map dup)]) = .nx [some u, some w, some (.loc S.length), r3', r4', r5', r6'] (S ++ [some []]) := by
  intro k
  induction k with
  | zero =>
    intro ys r3 r4 r5 r6 h1 h2 h3
    have := len_szs ys
    obtain rfl : ys = [] := List.eq_nil_of_length_eq_zero (by omega)
    exact ⟨r3, r4, r5, r6, gWh_end (same_t h2)⟩
  | succ k ih =>
    intro ys r3 r4 r5 r6 h1 h2 h3
    rcases rev_cases ys with rfl | ⟨zs, y, rfl⟩
    · exact ⟨r3, r4, r5, r6, gWh_end (same_t h2)⟩
    · have hy : Nice y := h2 y (List.mem_append_right _ List.mem_cons_self)
      have hk := szs_kids y
      rw [szs_app] at h1 h3
      have e1 : szs [y] = sz y := by simp [szs]
      rw [e1] at h1 h3
      have l1 := len_szs (zs ++ kids y)
      have l2 := len_szs (kids y)
      rw [szs_app] at l1
      obtain ⟨r6', hb⟩ := same_b (S := S) (u := u) (w := w) (r3 := r3) (r4 := r4) (r5 := r5) (r6 := r6) (ys := zs) hy (by omega) (by omega)
      obtain ⟨a1, a2, a3, a4, he⟩ := ih (zs ++ kids y) (some (.d y)) (some (.d y)) (some (.d (.bool true))) r6' (by rw [szs_app]; omega) (fun x hx => by
        rcases List.mem_append.mp hx with hx | hx
        · exact h2 x (List.mem_append_left _ hx)
        · exact nice_kids hy x hx) (by rw [szs_app]; omega)
      refine ⟨a1, a2, a3, a4, ?_⟩
      have ht := same_t (S := S) (u := u) (w := w) (r3 := r3) (r4 := r4) (r5 := r5) (r6 := r6) h2
      rw [decide_eq_true (by simp)] at ht
      rw [gWh_go ht hb (by rw [he]; exact fun z => nomatch z)]
      exact he
/-- equal things are the same -/
theorem s_same {S1 : Store} (h : frzs [u, w] S = some ([y, y], S1)) (hl : S1.length = S.length) (hy : Nice y) (hz : sz y ≤ 1000000) : M.m__law_op_same [u, w] S = .ok (.d (.bool true)) S1 := by
  obtain ⟨a1, a2, a3, a4, he⟩ := same_loop (S := S1) (u := u) (w := w) (sz y) [y] none none none none (by simp [szs]) (fun x hx => by
    obtain rfl := List.mem_singleton.mp hx
    exact hy) (by simpa [szs] using hz)
  have k1 : mkTup [u, w] S = .ok (.d (dup y)) S1 := by
    unfold mkTup
    rw [h]
    rfl
  have k2 : mkLoc [.d (dup y)] S1 = .ok (.loc S1.length) (S1 ++ [some [dup y]]) := rfl
  have et : (S1 ++ [some ([] : List D)]).take S.length = S1 := by rw [← hl, List.take_left]
  have he' : gWh M.t2__law_op_same M.b3__law_op_same [some u, some w, some (.loc S1.length), none, none, none, none] (S1 ++ [some [dup y]]) = _ := he
  simp [M.m__law_op_same, M.g__law_op_same, -mkTup, -mkLoc, k1, k2, he', et]
end
end Z

/-! Z16: fractions and sizes told by their form. -/
namespace Z
open PySem
section
variable {S : Store}
def isFr : D → Bool
  | .tuple [.int a, .int b] => decide (0 < b) && decide (Nat.gcd a.natAbs b.natAbs = 1)
  | _ => false
theorem ne_i {i j : Int} : uNe (.d (.int i)) (.d (.int j)) S = .ok (.d (.bool (!decide (i = j)))) S := (rfl)
theorem ix0 {x : D} {r : List D} : uIx (.d (.tuple (x :: r))) (.d (.int 0)) S = .ok (.d x) S := ix_tup (i := 0) rfl
theorem ix1 {x y : D} {r : List D} : uIx (.d (.tuple (x :: y :: r))) (.d (.int 1)) S = .ok (.d y) S := ix_tup (i := 1) rfl
theorem isi_d {y : D} {T : String} (hT : okTy T = true) : uIsi [.d y, .ty T] S = .ok (.d (.bool (isTy T (tyOf y)))) S := isi hT
theorem s_isfrac (d : D) : M.m_is_fraction [.d d] S = .ok (.d (.bool (isFr d))) S := by
  have ht := isi_d (S := S) (y := d) (show okTy "tuple" = true from rfl)
  cases d with
  | tuple xs =>
    match xs with
    | [] => simp [M.m_is_fraction, M.g_is_fraction, ht, isTy, tyOf, len_tup, ne_i, isFr]
    | [a] => simp [M.m_is_fraction, M.g_is_fraction, ht, isTy, tyOf, len_tup, ne_i, isFr]
    | [a, b] =>
      cases a <;> cases b <;> simp [M.m_is_fraction, M.g_is_fraction, ht, isTy, tyOf, len_tup, ne_i, isFr, ix0, ix1, s_isnum, isInt, gcd_i]
      split <;> simp_all
      all_goals first | omega | (intro h; omega)
    | a :: b :: c :: r =>
      have : ((r.length : Int) + 1 + 1 + 1 = 2) = False := by simp; omega
      simp [M.m_is_fraction, M.g_is_fraction, ht, isTy, tyOf, len_tup, ne_i, isFr, this]
  | _ => simp [M.m_is_fraction, M.g_is_fraction, ht, isTy, tyOf, isFr]
def isSz : D → Bool
  | .tuple [.int a, .int b] => (decide (0 < b) && decide (Nat.gcd a.natAbs b.natAbs = 1)) && (decide (1 ≤ a) && decide (a ≤ 1000000)) && (decide (1 ≤ b) && decide (b ≤ 1000))
  | _ => false
theorem s_issize (d : D) : M.m_is_size [.d d] S = .ok (.d (.bool (isSz d))) S := by
  have h := s_isfrac (S := S) d
  cases hf : isFr d with
  | false =>
    rw [hf] at h
    have : isSz d = false := by
      unfold isFr at hf
      unfold isSz
      split at hf
      · simp only [hf, Bool.false_and]
      · rfl
    simp [M.m_is_size, M.g_is_size, h, this]
  | true =>
    rw [hf] at h
    unfold isFr at hf
    split at hf
    · rename_i a b
      simp [M.m_is_size, M.g_is_size, h, ix0, ix1, s_whole, isWhole, isSz, hf]
      simp only [Bool.and_eq_true, decide_eq_true_eq] at hf
      split
      · simp_all
      · rename_i h2
        simp_all
        intro h3 h4
        have := h2 h3
        omega
    · cases hf
theorem s_made_size (d : D) (h : isSz d = true) : M.m_made_size [.d d] S = .ok (.d d) S := by
  simp [M.m_made_size, M.g_made_size, s_issize, h]
theorem s_made_size_no (d : D) (h : isSz d = false) : M.m_made_size [.d d] S = .exc "BadSize" d S := by
  simp [M.m_made_size, M.g_made_size, s_issize, h]
theorem pq_sz {q : Rat} (h1 : 1 ≤ q.num) (h2 : q.num ≤ 1000000) (h3 : q.den ≤ 1000) : isSz (pq q) = true := by
  have k1 := q.den_pos
  have k2 := q.reduced
  simp only [pq, isSz, Bool.and_eq_true, decide_eq_true_eq, Int.natAbs_natCast]
  exact ⟨⟨⟨by omega, k2⟩, h1, h2⟩, by omega, by omega⟩
end
end Z

/-! Z17: harmonic sums. -/
namespace Z
open PySem
theorem one_div {b : Int} (h : 0 < b) : PyData.tuple [.int 1, .int b] = pq (Rat.divInt 1 b) := by
  have e1 : (Rat.divInt 1 b).num = 1 := by
    rw [Rat.num_divInt, Int.sign_eq_one_of_pos h]; simp
  have e2 : ((Rat.divInt 1 b).den : Int) = b := by
    rw [Rat.den_divInt, if_neg (by omega)]
    simp
    omega
  rw [pq, e1, e2]
theorem pq_int (n : Int) : PyData.tuple [.int n, .int 1] = pq (n : Rat) := rfl
theorem pq_zero : PyData.tuple ([0, 1].map PyData.int) = pq 0 := rfl
def Hs : Nat → Rat
  | 0 => 0
  | k + 1 => Hs k + Rat.divInt 1 ((k : Int) + 1)
theorem bd_one {b : Int} {n : Nat} (h : 0 < b) (hb : b.natAbs < 2 ^ n) : Bd n (Rat.divInt 1 b) := divInt_bd (by omega) (Nat.lt_of_le_of_lt (by show 1 ≤ b.natAbs; omega) hb) hb
theorem bd_zero : Bd 1 0 := ⟨by decide, by decide⟩
theorem bd_Hs : ∀ k : Nat, k ≤ 200 → Bd (9 * k + 1) (Hs k)
  | 0, _ => bd_zero
  | k + 1, h => by
    have := add_bd (bd_Hs k (by omega)) (bd_one (b := (k : Int) + 1) (n := 8) (by omega) (by omega))
    exact this.mono (by omega)
section
variable {S : Store}
theorem rng2_i {i j : Int} (h1 : -(2 ^ 62) ≤ i) (h2 : i < 2 ^ 62) (h3 : -(2 ^ 62) ≤ j) (h4 : j < 2 ^ 62) : sRng2 [.d (.int i), .d (.int j)] S = .ok (rngD i (j - i).toNat) S := by
  unfold sRng2
  exact if_pos ⟨⟨h1, h2⟩, h3, h4⟩
theorem rng3_i {i j : Int} (h1 : -(2 ^ 62) ≤ i) (h2 : i < 2 ^ 62) (h3 : -(2 ^ 62) ≤ j) (h4 : j < 2 ^ 62) : sRng3 [.d (.int i), .d (.int j), .d (.int (-1))] S = .ok (rngC i (-1) (i - j).toNat) S := by
  unfold sRng3
  exact if_pos ⟨rfl, ⟨h1, h2⟩, h3, h4⟩
theorem s_harm_of {k : Nat} (hk : k ≤ 200) : M.m_harmonic_of [.d (.int (k : Int))] S = .ok (.d (pq (Hs k))) S := by
  obtain ⟨ρ', S', e, rfl, r, hρ⟩ := forO_inv (P := fun i ρ T => T = S ∧ ∃ r, ρ = [some (.d (.int (k : Int))), some (.d (pq (Hs i))), r])
    (tg := aName 2) (body := M.b1_harmonic_of) (rngD 1 k) 0 [some (.d (.int (k : Int))), some (.d (pq 0)), none] S (fun i d ρ T hd ⟨hT, r, hρ⟩ => by
      subst hT hρ
      obtain ⟨hi, rfl⟩ := rngD_get _ _ _ _ hd
      rw [Nat.zero_add]
      have e := s_fadd (S := T) (bd_Hs i (by omega)) (bd_one (b := 1 + (i : Int)) (n := 8) (by omega) (by omega)) (by omega)
      have e3 : Hs (i + 1) = Hs i + Rat.divInt 1 (1 + (i : Int)) := by rw [Hs, Int.add_comm]
      refine ⟨_, [some (.d (.int (k : Int))), some (.d (pq (Hs (i + 1)))), some (.d (.int (1 + (i : Int))))], T, rfl, ?_, rfl, _, rfl⟩
      have e2 := one_div (b := 1 + (i : Int)) (by omega)
      simp [M.b1_harmonic_of, e2, e, e3]) ⟨rfl, none, rfl⟩
  rw [Nat.zero_add, rngD_len] at hρ
  subst hρ
  have e2 : sRng2 [.d (.int 1), .d (.int ((k : Int) + 1))] S' = .ok (rngD 1 k) S' := by
    rw [rng2_i (by decide) (by decide) (by omega) (by omega)]
    congr 2
    omega
  have ez : (PyData.tuple [.int 0, .int 1]) = pq 0 := rfl
  simp [M.m_harmonic_of, M.g_harmonic_of, gFor, sN, e2, ez, -aName]
  rw [e]
  simp
theorem s_harm {d : D} (h : isWhole d 0 200 = true) : ∃ k : Nat, d = .int (k : Int) ∧ k ≤ 200 ∧ M.m_harmonic [.d d] S = .ok (.d (pq (Hs k))) S := by
  cases d with
  | int i =>
    simp only [isWhole, Bool.and_eq_true, decide_eq_true_eq] at h
    obtain ⟨k, rfl⟩ := Int.eq_ofNat_of_zero_le h.1
    refine ⟨k, rfl, by omega, ?_⟩
    have := s_harm_of (S := S) (k := k) (by omega)
    have h2 : isWhole (.int (k : Int)) 0 200 = true := by simp [isWhole]; omega
    simp [M.m_harmonic, M.g_harmonic, s_whole, h2, this]
  | _ => cases h
theorem s_harm_no {d : D} (h : isWhole d 0 200 = false) : M.m_harmonic [.d d] S = .exc "BadMany" d S := by
  simp [M.m_harmonic, M.g_harmonic, s_whole, h]
/-- a size's rate -/
structure Rt (q : Rat) : Prop where
  n1 : 1 ≤ q.num
  n2 : q.num ≤ 1000000
  d : q.den ≤ 1000
theorem Rt.bd {q : Rat} (h : Rt q) : Bd 21 q := ⟨by have := h.n1; have := h.n2; omega, by have := h.d; omega⟩
def Ev (n : Nat) (q : Rat) : Rat := q * (1 + Hs (n - 1))
theorem bd_1 : Bd 1 1 := ⟨by decide, by decide⟩
theorem bd_Ev {n : Nat} {q : Rat} (h : Rt q) (hn : n ≤ 40) : Bd 500 (Ev n q) := (mul_bd h.bd (add_bd bd_1 (bd_Hs (n - 1) (by omega)))).mono (by omega)
theorem s_even_of {n : Nat} {q : Rat} (h : Rt q) (h1 : 1 ≤ n) (hn : n ≤ 40) : M.m_even_of [.d (.int (n : Int)), .d (pq q)] S = .ok (.d (pq (Ev n q))) S := by
  have e1 := s_harm_of (S := S) (k := n - 1) (by omega)
  have e2 := s_fadd (S := S) bd_1 (bd_Hs (n - 1) (by omega)) (by omega)
  have e3 := s_fmul (S := S) h.bd (add_bd bd_1 (bd_Hs (n - 1) (by omega))) (by omega)
  have ec : ((n - 1 : Nat) : Int) = (n : Int) - 1 := by omega
  rw [ec] at e1
  have e4 : (PyData.tuple [.int 1, .int 1]) = pq 1 := rfl
  simp [M.m_even_of, M.g_even_of, e1, e4, e2, e3, Ev]
theorem s_even_size {n : Nat} {q : Rat} (h : Rt q) (h1 : 1 ≤ n) (hn : n ≤ 40) : M.m_even_size [.d (.int (n : Int)), .d (pq q)] S = .ok (.d (pq (Ev n q))) S := by
  have e1 := s_even_of (S := S) h h1 hn
  have e2 : isWhole (.int (n : Int)) 1 40 = true := by simp [isWhole]; omega
  have e3 := s_made_size (S := S) (pq q) (pq_sz h.n1 h.n2 h.d)
  simp [M.m_even_size, M.g_even_size, s_whole, e2, e3, e1]
theorem s_even_size_many {d x : D} (h : isWhole d 1 40 = false) : M.m_even_size [.d d, .d x] S = .exc "BadMany" d S := by
  simp [M.m_even_size, M.g_even_size, s_whole, h]
theorem s_even_size_size {d x : D} (h : isWhole d 1 40 = true) (hx : isSz x = false) : M.m_even_size [.d d, .d x] S = .exc "BadSize" x S := by
  simp [M.m_even_size, M.g_even_size, s_whole, h, s_made_size_no x hx]
theorem bd_int {n k : Nat} (h : n < 2 ^ k) (hk : 0 < k) : Bd k ((n : Int) : Rat) := ⟨by simpa using h, by show 1 < 2 ^ k; exact Nat.one_lt_two_pow (by omega)⟩
theorem s_even_sum {n : Nat} {q : Rat} (h : Rt q) (h1 : 1 ≤ n) (hn : n ≤ 40) : M.m_even_sum [.d (.int (n : Int)), .d (pq q)] S = .ok (.d (pq (((n : Int) : Rat) * Ev n q))) S := by
  have e1 := s_even_size (S := S) h h1 hn
  have e2 := s_fmul (S := S) (bd_int (n := n) (k := 8) (by omega) (by decide)) (bd_Ev h hn) (by omega)
  have e3 := pq_int (n : Int)
  simp [M.m_even_sum, M.g_even_sum, e1, e3, e2]
theorem s_even_sum_many {d x : D} (h : isWhole d 1 40 = false) : M.m_even_sum [.d d, .d x] S = .exc "BadMany" d S := by
  simp [M.m_even_sum, M.g_even_sum, s_even_size_many h]
theorem s_even_sum_size {d x : D} (h : isWhole d 1 40 = true) (hx : isSz x = false) : M.m_even_sum [.d d, .d x] S = .exc "BadSize" x S := by
  simp [M.m_even_sum, M.g_even_sum, s_even_size_size h hx]
end
end Z

/-! Z18: comprehensions with a test; amounts, plus, minus, at_most; the laws' own tests of form. -/
namespace Z
open PySem
theorem lc_loopF {tg : U → Vr → Option Vr} {ft : Vr → Store → R Bool} {fe : Vr → Store → R U} {ρ : Vr} {S : Store} {p : D → Bool} {f : D → D} : ∀ (ds acc : List D), acc.length + ds.length ≤ 1000000 →
    (∀ d ∈ ds, ∃ ρ1, tg (.d d) ρ = some ρ1 ∧ ∀ acc, ft ρ1 (S ++ [some acc]) = .ok (p d) (S ++ [some acc]) ∧ (p d = true → fe ρ1 (S ++ [some acc]) = .ok (.d (f d)) (S ++ [some acc]))) →
    lcLoop S.length tg ft fe ρ ds (S ++ [some acc]) = .ok () (S ++ [some (acc ++ (ds.filter p).map f)])
  | [], acc, _, _ => by rw [List.filter_nil, List.map_nil, List.append_nil]; rfl
  | d :: ds, acc, hl, h => by
    rw [List.length_cons] at hl
    obtain ⟨ρ1, e1, e2⟩ := h d List.mem_cons_self
    have hd := fun d' hd => h d' (List.mem_cons_of_mem _ hd)
    have hg : (S ++ [some acc])[S.length]? = some (some acc) := by rw [List.getElem?_append_right (Nat.le_refl _), Nat.sub_self]; rfl
    have hs : (S ++ [some acc]).set S.length (some (acc ++ [f d])) = S ++ [some (acc ++ [f d])] := by
      rw [List.set_append_right _ _ (Nat.le_refl _), Nat.sub_self]; rfl
    obtain ⟨e3, e4⟩ := e2 acc
    unfold lcLoop
    cases hp : p d with
    | false =>
      rw [hp] at e3
      simp only [e1, e3, R.bnd0, Bool.false_eq_true, if_false]
      rw [lc_loopF (p := p) (f := f) ds acc (by omega) hd, List.filter_cons_of_neg (by rw [hp]; exact Bool.false_ne_true)]
    | true =>
      rw [hp] at e3
      simp only [e1, e3, R.bnd0, if_true, e4 hp, frz, hg]
      rw [if_pos (by omega), hs, lc_loopF (p := p) (f := f) ds (acc ++ [f d]) (by rw [List.length_append, List.length_singleton]; omega) hd, List.filter_cons_of_pos hp, List.map_cons, List.append_assoc]
      rfl
theorem lc_test {src : Vr → Store → R (List D)} {tg : U → Vr → Option Vr} {ft : Vr → Store → R Bool} {fe : Vr → Store → R U} {vs : List Nat} {ρ : Vr} {S S1 : Store} {ds : List D} {p : D → Bool} {f : D → D} (h : src ρ S = .ok ds S1) (hl : ds.length ≤ 1000000)
    (hf : ∀ d ∈ ds, ∃ ρ1, tg (.d d) (wipeU ρ vs) = some ρ1 ∧ ∀ acc, ft ρ1 (S1 ++ [some acc]) = .ok (p d) (S1 ++ [some acc]) ∧ (p d = true → fe ρ1 (S1 ++ [some acc]) = .ok (.d (f d)) (S1 ++ [some acc]))) : fLc src tg ft fe vs ρ S = .ok (.d (.list ((ds.filter p).map f))) S1 := by
  unfold fLc lcRun
  have e := lc_loopF (S := S1) (ρ := wipeU ρ vs) ds [] (by simpa using hl) hf
  have hg : (S1 ++ [some ([] ++ (ds.filter p).map f)])[S1.length]? = some (some ((ds.filter p).map f)) := by rw [List.getElem?_append_right (Nat.le_refl _), Nat.sub_self]; rfl
  rw [h]
  simp only [R.bind, e, R.bnd0, hg, List.take_left]
section
variable {S : Store} {a b : Rat} {m n : Nat}
theorem sub_eq' (a b : Rat) : a - b = Rat.divInt (a.num * b.den - b.num * a.den) (a.den * b.den) := by
  have := Rat.divInt_sub_divInt a.num b.num (d₁ := a.den) (d₂ := b.den) (by have := a.den_pos; omega) (by have := b.den_pos; omega)
  rw [Rat.num_divInt_den, Rat.num_divInt_den] at this
  exact this
theorem sub_bd (ha : Bd m a) (hb : Bd n b) : Bd (m + n + 1) (a - b) := by
  rw [sub_eq']
  have h1 := mul_lt ha.num hb.den
  have h2 := mul_lt hb.num ha.den
  have h3 := mul_lt ha.den hb.den
  rw [Nat.add_comm n m] at h2
  have k1 := a.den_pos
  have k2 := b.den_pos
  refine divInt_bd (by exact Int.mul_ne_zero (by omega) (by omega)) ?_ ?_
  · rw [Int.sub_eq_add_neg]
    refine Nat.lt_of_le_of_lt (Int.natAbs_add_le _ _) ?_
    rw [Int.natAbs_neg, Int.natAbs_mul, Int.natAbs_mul, Int.natAbs_natCast, Int.natAbs_natCast, Nat.pow_succ]
    omega
  · rw [Int.natAbs_mul, Int.natAbs_natCast, Int.natAbs_natCast, Nat.pow_succ]
    omega
theorem s_fsub (ha : Bd m a) (hb : Bd n b) (h : m + n < 8000) : M.m_fsub [.d (pq a), .d (pq b)] S = .ok (.d (pq (a - b))) S := by
  have k1 := a.den_pos
  have k2 := b.den_pos
  have k3 : (0 : Int) < a.den * b.den := Int.mul_pos (by omega) (by omega)
  have h3 : ((a.den : Int) * b.den).natAbs < 2 ^ (m + n) := by
    rw [Int.natAbs_mul, Int.natAbs_natCast, Int.natAbs_natCast]
    exact mul_lt ha.den hb.den
  have f := s_fr (S := S) (N := a.num * b.den - b.num * a.den) (by omega) h3 (by omega)
  rw [sub_eq', ← f]
  have m1 := mul_ij (S := S) (i := a.num) (j := b.den) ha.num hb.den (by omega)
  have m2 := mul_ij (S := S) (i := b.num) (j := a.den) hb.num ha.den (by omega)
  have m3 := mul_ij (S := S) (i := a.den) (j := b.den) ha.den hb.den (by omega)
  simp [M.m_fsub, M.g_fsub, pq, ix_p0, ix_p1, m1, m2, m3, f]
theorem s_fless (ha : Bd m a) (hb : Bd n b) (h : m + n < 8000) : M.m_fless [.d (pq a), .d (pq b)] S = .ok (.d (.bool (decide (a < b)))) S := by
  have m1 := mul_ij (S := S) (i := a.num) (j := b.den) ha.num hb.den (by omega)
  have m2 := mul_ij (S := S) (i := b.num) (j := a.den) hb.num ha.den (by omega)
  simp [M.m_fless, M.g_fless, pq, ix_p0, ix_p1, m1, m2, Rat.lt_iff]
theorem isFr_pq (a : Rat) : isFr (pq a) = true := by
  have k1 := a.den_pos
  have k2 := a.reduced
  simp only [pq, isFr, Bool.and_eq_true, decide_eq_true_eq, Int.natAbs_natCast]
  exact ⟨by omega, k2⟩
theorem s_made_frac {d : D} (h : isFr d = true) : M.m_made_fraction [.d d] S = .ok (.d d) S := by
  simp [M.m_made_fraction, M.g_made_fraction, s_isfrac, h]
theorem s_made_frac_no {d : D} (h : isFr d = false) : M.m_made_fraction [.d d] S = .exc "BadFraction" d S := by
  simp [M.m_made_fraction, M.g_made_fraction, s_isfrac, h]
theorem s_fplus (ha : Bd m a) (hb : Bd n b) (h : m + n < 8000) : M.m_plus [.d (pq a), .d (pq b)] S = .ok (.d (pq (a + b))) S := by
  simp [M.m_plus, M.g_plus, s_made_frac (isFr_pq a), s_made_frac (isFr_pq b), s_fadd ha hb h]
theorem s_minus (ha : Bd m a) (hb : Bd n b) (h : m + n < 8000) : M.m_minus [.d (pq a), .d (pq b)] S = .ok (.d (pq (a - b))) S := by
  simp [M.m_minus, M.g_minus, s_made_frac (isFr_pq a), s_made_frac (isFr_pq b), s_fsub ha hb h]
theorem s_at_most (ha : Bd m a) (hb : Bd n b) (h : m + n < 8000) : M.m_at_most [.d (pq a), .d (pq b)] S = .ok (.d (.bool (decide (a ≤ b)))) S := by
  have e := s_fless (S := S) hb ha (by omega)
  have e2 : (!decide (b < a)) = decide (a ≤ b) := by
    by_cases h : a ≤ b
    · have : ¬ b < a := Rat.not_lt.mpr h
      simp [h, this]
    · have : b < a := Rat.not_le.mp h
      simp [h, this]
  simp [M.m_at_most, M.g_at_most, s_made_frac (isFr_pq a), s_made_frac (isFr_pq b), e, e2]
theorem s_plus_no1 {d e : D} (h : isFr d = false) : M.m_plus [.d d, .d e] S = .exc "BadFraction" d S := by simp [M.m_plus, M.g_plus, s_made_frac_no h]
theorem s_minus_no1 {d e : D} (h : isFr d = false) : M.m_minus [.d d, .d e] S = .exc "BadFraction" d S := by simp [M.m_minus, M.g_minus, s_made_frac_no h]
theorem s_at_most_no1 {d e : D} (h : isFr d = false) : M.m_at_most [.d d, .d e] S = .exc "BadFraction" d S := by simp [M.m_at_most, M.g_at_most, s_made_frac_no h]
theorem s_plus_no2 {d e : D} (h : isFr d = true) (k : isFr e = false) : M.m_plus [.d d, .d e] S = .exc "BadFraction" e S := by simp [M.m_plus, M.g_plus, s_made_frac h, s_made_frac_no k]
theorem s_minus_no2 {d e : D} (h : isFr d = true) (k : isFr e = false) : M.m_minus [.d d, .d e] S = .exc "BadFraction" e S := by simp [M.m_minus, M.g_minus, s_made_frac h, s_made_frac_no k]
theorem s_at_most_no2 {d e : D} (h : isFr d = true) (k : isFr e = false) : M.m_at_most [.d d, .d e] S = .exc "BadFraction" e S := by simp [M.m_at_most, M.g_at_most, s_made_frac h, s_made_frac_no k]
def isAm : D → Bool
  | .tuple [.int a, .int b] => (decide (0 < b) && decide (Nat.gcd a.natAbs b.natAbs = 1)) && (decide (0 ≤ a) && decide (a ≤ 10 ^ 60)) && (decide (1 ≤ b) && decide (b ≤ 10 ^ 60))
  | _ => false
theorem s_isam (d : D) : M.m_is_amount [.d d] S = .ok (.d (.bool (isAm d))) S := by
  have h := s_isfrac (S := S) d
  cases hf : isFr d with
  | false =>
    rw [hf] at h
    have : isAm d = false := by
      unfold isFr at hf
      unfold isAm
      split at hf
      · simp only [hf, Bool.false_and]
      · first
        | rfl
        | (rename_i hn
           split
           · exact absurd rfl (hn _ _)
           · rfl)
    simp [M.m_is_amount, M.g_is_amount, h, this]
  | true =>
    rw [hf] at h
    unfold isFr at hf
    split at hf
    · rename_i a b
      have e : (10 ^ 60 : Int) = 1000000000000000000000000000000000000000000000000000000000000 := by decide
      simp only [isAm, hf, Bool.true_and, e]
      simp [M.m_is_amount, M.g_is_amount, h, ix0, ix1, s_whole, isWhole]
      split
      · simp_all
      · rename_i h2
        simp_all
        intro h3 h4
        have := h2 h3
        omega
    · cases hf
theorem s_made_am {d : D} (h : isAm d = true) : M.m_made_amount [.d d] S = .ok (.d d) S := by
  simp [M.m_made_amount, M.g_made_amount, s_isam, h]
theorem s_made_am_no {d : D} (h : isAm d = false) : M.m_made_amount [.d d] S = .exc "BadAmount" d S := by
  simp [M.m_made_amount, M.g_made_amount, s_isam, h]
/-! ### the laws' own tests of form -/
/-- small numbers within a pair -/
def Sm (d : D) : Prop := ∀ a b : Int, d = .tuple [.int a, .int b] → b.natAbs < 2 ^ 300
theorem eqv_pair {a b c d : Int} : PyData.eqv (.tuple [.int a, .int b]) (.tuple [.int c, .int d]) = (decide (a = c) && decide (b = d)) := by
  simp [PyData.eqv, PyData.eqvAll]
  rfl
theorem nice_pair (a b : Int) : Nice (.tuple [.int a, .int b]) := ⟨by simp [PyData.canLay0, PyData.canLayAll0], by simp [PyData.depth, PyData.depthAll]⟩
theorem low_iff {a b : Int} (hb : 0 < b) : (decide ((Rat.divInt a b).num = a) && decide (((Rat.divInt a b).den : Int) = b)) = decide (Nat.gcd a.natAbs b.natAbs = 1) := by
  have e1 : (Rat.divInt a b).num = a / (b.gcd a : Int) := by rw [Rat.num_divInt, Int.sign_eq_one_of_pos (by omega), Int.one_mul]
  have e2 : (Rat.divInt a b).den = b.natAbs / b.gcd a := by rw [Rat.den_divInt, if_neg (by omega)]
  have eg : b.gcd a = Nat.gcd a.natAbs b.natAbs := Nat.gcd_comm _ _
  rw [e1, e2, eg]
  by_cases h : Nat.gcd a.natAbs b.natAbs = 1
  · simp [h]
    omega
  · have hb' : 0 < b.natAbs := by omega
    have : b.natAbs / Nat.gcd a.natAbs b.natAbs ≠ b.natAbs := by
      intro z
      have hg : 0 < Nat.gcd a.natAbs b.natAbs := Nat.gcd_pos_of_pos_right _ hb'
      have h2 : 1 < Nat.gcd a.natAbs b.natAbs := by omega
      have := Nat.div_lt_self hb' h2
      omega
    have h3 : ¬ ((b.natAbs / Nat.gcd a.natAbs b.natAbs : Nat) : Int) = b := by omega
    rw [decide_eq_false h3, Bool.and_false]
    simp [h]
theorem s_lisfr {d : D} (hn : Nice d) (hs : Sm d) : M.m__law_op_is_fraction [.d d] S = .ok (.d (.bool (isFr d))) S := by
  have ht := isi_d (S := S) (y := d) (show okTy "tuple" = true from rfl)
  cases d with
  | tuple xs =>
    have hlc : fLc (sSeq (fVar 0)) (aName 1) M.t2__law_op_is_fraction M.e1__law_op_is_fraction [1] [some (.d (.tuple xs)), none] S = .ok (.d (.list (xs.filter fun d => !isInt d))) S ∨ 1000000 < xs.length := by
      by_cases hl : xs.length ≤ 1000000
      · left
        have := lc_test (ρ := [some (.d (.tuple xs)), none]) (S := S) (tg := aName 1) (ft := M.t2__law_op_is_fraction) (fe := M.e1__law_op_is_fraction) (vs := [1]) (p := fun d => !isInt d) (f := id) (show sSeq (fVar 0) _ _ = .ok xs S from rfl) hl fun d hd => ⟨_, rfl, fun acc => ⟨by simp [M.t2__law_op_is_fraction, s_iswhole, wipeU], fun _ => by simp [M.e1__law_op_is_fraction, wipeU]⟩⟩
        rwa [List.map_id] at this
      · right; omega
    match xs, hlc with
    | [], _ => simp [M.m__law_op_is_fraction, M.g__law_op_is_fraction, ht, isTy, tyOf, len_tup, ne_i, isFr]
    | [a], _ => simp [M.m__law_op_is_fraction, M.g__law_op_is_fraction, ht, isTy, tyOf, len_tup, ne_i, isFr]
    | [a, b], hlc =>
      have hlc := hlc.resolve_right (by simp)
      have hna := nice_tup hn a (by simp)
      have hnb := nice_tup hn b (by simp)
      have hne : ∀ (L : List D), (∀ x ∈ L, x = a ∨ x = b) → uNe (.d (.list L)) (.d (.list [])) S = .ok (.d (.bool (decide (L ≠ [])))) S := fun L hL => by
        have h1 : SeqAt.shaped (.list L) = true := by
          unfold SeqAt.shaped
          have k1 : (PyData.list L).canLay0 = true := by
            rw [PyData.canLay0]
            refine lay_all _ fun x hx => ?_
            rcases hL x hx with rfl | rfl
            · exact hna.lay
            · exact hnb.lay
          have k2 : (PyData.list L).depth ≤ 64 := by
            rw [PyData.depth]
            have := dep_all L 60 fun x hx => by
              rcases hL x hx with rfl | rfl
              · exact hna.dep
              · exact hnb.dep
            omega
          rw [k1, decide_eq_true k2]
          rfl
        have h2 : PyData.eqv (.list L) (.list []) = decide (L = []) := by cases L <;> rfl
        unfold uNe
        simp [viewD, h1, h2, show SeqAt.shaped (.list []) = true from rfl]
      have hf : ∀ x ∈ [a, b].filter (fun d => !isInt d), x = a ∨ x = b := fun x hx => by
        have := (List.mem_filter.mp hx).1
        simpa using this
      have hN := hne _ hf
      cases ha : isInt a with
      | false =>
        have hz : isFr (.tuple [a, b]) = false := by
          cases a <;> first | (simp [isInt] at ha; done) | rfl
        have hfe : [a, b].filter (fun d => !isInt d) = a :: ([b].filter fun d => !isInt d) := by simp [List.filter_cons, ha]
        rw [hfe] at hlc hN
        generalize ([b].filter fun d => !isInt d) = L at hlc hN
        simp [M.m__law_op_is_fraction, M.g__law_op_is_fraction, ht, isTy, tyOf, len_tup, ne_i, hz, hlc, hN]
      | true =>
        cases hb : isInt b with
        | false =>
          have hz : isFr (.tuple [a, b]) = false := by
            cases b <;> first | (simp [isInt] at hb; done) | (cases a <;> rfl)
          simp only [List.filter_cons, List.filter_nil, ha, hb, Bool.not_false, Bool.not_true, if_true, Bool.false_eq_true, if_false] at hlc hN
          simp [M.m__law_op_is_fraction, M.g__law_op_is_fraction, ht, isTy, tyOf, len_tup, ne_i, hz, hlc, hN]
        | true =>
          simp only [List.filter_cons, List.filter_nil, ha, hb, Bool.not_true, Bool.false_eq_true, if_false] at hlc hN
          obtain ⟨i, rfl⟩ : ∃ i, a = .int i := by cases a <;> simp [isInt] at ha; exact ⟨_, rfl⟩
          obtain ⟨j, rfl⟩ : ∃ j, b = .int j := by cases b <;> simp [isInt] at hb; exact ⟨_, rfl⟩
          by_cases hj : 0 < j
          · have hsj := hs i j rfl
            have ef := s_frac (S := S) (N := i) hj hsj (by decide)
            have ee : uEq (.d (pq (Rat.divInt i j))) (.d (.tuple [.int i, .int j])) S = .ok (.d (.bool (decide (Nat.gcd i.natAbs j.natAbs = 1)))) S := by
              rw [pq, eq_d (shp _ (nice_pair _ _)) (shp _ (nice_pair _ _)), eqv_pair, low_iff hj]
            simp [M.m__law_op_is_fraction, M.g__law_op_is_fraction, ht, isTy, tyOf, len_tup, ne_i, hlc, hN, ix0, ix1, hj, ef, ee, isFr]
          · simp [M.m__law_op_is_fraction, M.g__law_op_is_fraction, ht, isTy, tyOf, len_tup, ne_i, hlc, hN, ix0, ix1, hj, isFr]
    | a :: b :: c :: r, _ =>
      have : ((r.length : Int) + 1 + 1 + 1 = 2) = False := by simp; omega
      simp [M.m__law_op_is_fraction, M.g__law_op_is_fraction, ht, isTy, tyOf, len_tup, ne_i, isFr, this]
  | _ => simp [M.m__law_op_is_fraction, M.g__law_op_is_fraction, ht, isTy, tyOf, isFr]
end
end Z

/-! Z19: steps through a law's body; draws; what is nice. -/
namespace Z
open PySem
section
variable {S : Store}
theorem set_step {i : Nat} {fe : Vr → Store → R U} {b : Vr → Store → O} {ρ : Vr} {S S1 : Store} {u : U} {r : O} (h : fe ρ S = .ok u S1) (k : b (ρ.set i (some u)) S1 = r) : gSeq (gSet i fe) b ρ S = r := by
  unfold gSeq gSet
  rw [h]
  exact k
theorem drop_step {fe : Vr → Store → R U} {b : Vr → Store → O} {ρ : Vr} {S S1 : Store} {u : U} {r : O} (h : fe ρ S = .ok u S1) (k : b ρ S1 = r) : gSeq (gDrop fe) b ρ S = r := by
  unfold gSeq gDrop
  rw [h]
  exact k
theorem asg_step {fe : Vr → Store → R U} {a : U → Vr → Option Vr} {b : Vr → Store → O} {ρ ρ1 : Vr} {S S1 : Store} {u : U} {r : O} (h : fe ρ S = .ok u S1) (h2 : a u ρ = some ρ1) (k : b ρ1 S1 = r) : gSeq (gAsg fe a) b ρ S = r := by
  unfold gSeq gAsg
  rw [h]
  dsimp only [R.st]
  rw [h2]
  exact k
theorem Jar.app {l n : Nat} {o : Option (List D)} (h : Jar S l n) (hl : l < S.length) : Jar (S ++ [o]) l n := by
  obtain ⟨a, b, c, h1, h2⟩ := h
  exact ⟨a, b, c, by rw [List.getElem?_append_left hl]; exact h1, h2⟩
theorem Jar.put {l n t : Nat} {o : Option (List D)} (h : Jar S l n) (hl : t ≠ l) : Jar (S.set t o) l n := by
  obtain ⟨a, b, c, h1, h2⟩ := h
  exact ⟨a, b, c, by rw [List.getElem?_set_ne hl]; exact h1, h2⟩
theorem Jar.lt {l n : Nat} (h : Jar S l n) : l < S.length := by
  obtain ⟨a, b, c, h1, h2⟩ := h
  exact (List.getElem?_eq_some_iff.mp h1).1
theorem app_t {t : Nat} {xs : List D} {x : D} (h : S[t]? = some (some xs)) (hl : xs.length < 1000) : uApp (.loc t) [.d x] S = .ok (.d .none) (S.set t (some (xs ++ [x]))) := by
  unfold uApp
  simp [h]
  omega
theorem isL_t {t : Nat} {xs : List D} (h : S[t]? = some (some xs)) : isL (.loc t) S = true := by simp [isL, viewL, h]
theorem Kp.at {l t : Nat} {S' : Store} {o : Option (List D)} (h : Kp l S S') (ht : t ≠ l) (e : S[t]? = some o) : S'[t]? = some o := by rw [h.get t ht]; exact e
theorem s_draw {l n : Nat} {xs : List D} {p : D → Prop} (hp : ∀ x ∈ xs, p x) (hj : Jar S l n) (h0 : xs ≠ []) (hl : xs.length < 2 ^ 60) (hn : n < 1000000000) :
    ∃ (x : D) (S' : Store), p x ∧ M.m__law_one [.loc l, .d (.list xs)] S = .ok (.d x) S' ∧ Jar S' l (n + 1) ∧ Kp l S S' := by
  obtain ⟨i, hi, S', e, h1, h2⟩ := s_one hj h0 hl hn
  exact ⟨xs[i], S', hp _ (List.getElem_mem hi), e, h1, h2⟩
theorem lay_pq (x : Rat) : (pq x).canLay0 = true := by simp [pq, PyData.canLay0, PyData.canLayAll0]
theorem dep_pq (x : Rat) : (pq x).depth = 1 := by simp [pq, PyData.depth, PyData.depthAll]
theorem sz_pq (x : Rat) : sz (pq x) = 3 := by simp [pq, sz, szs]
theorem lay_told : PyData.strOk "told" = true := by decide +kernel
theorem lay_many : PyData.strOk "BadMany" = true := by decide +kernel
theorem lay_size : PyData.strOk "BadSize" = true := by decide +kernel
theorem ifN_step {t : Vr → Store → R Bool} {a b : Vr → Store → O} {ρ : Vr} {S S1 : Store} {r : O} (h : t ρ S = .ok false S1) (k : b ρ S1 = r) : gSeq (gIf t a gNx) b ρ S = r := by
  unfold gSeq gIf
  rw [h]
  exact k
theorem for_step {src : Vr → Store → R (List D)} {tg : U → Vr → Option Vr} {body b : Vr → Store → O} {ρ ρ1 : Vr} {S S1 S2 : Store} {ds : List D} {r : O} (h : src ρ S = .ok ds S1) (h2 : forO tg body ds ρ S1 = .nx ρ1 S2) (k : b ρ1 S2 = r) : gSeq (gFor src tg body) b ρ S = r := by
  unfold gSeq gFor
  rw [h]
  dsimp only [R.st]
  rw [h2]
  exact k
theorem seq_l {fe : Vr → Store → R U} {ρ : Vr} {xs : List D} {S1 : Store} (h : fe ρ S = .ok (.d (.list xs)) S1) : sSeq fe ρ S = .ok xs S1 := by
  unfold sSeq
  rw [h]
  rfl
theorem try0_rt {gb : Vr → Store → O} {ρ : Vr} {S S1 : Store} {u : U} (h : gb ρ S = .rt u S1) : gTry0 gb ρ S = .rt u S1 := by
  unfold gTry0
  rw [h]
theorem ret_ok {fe : Vr → Store → R U} {ρ : Vr} {S S1 : Store} {u : U} (h : fe ρ S = .ok u S1) : gRet fe ρ S = .rt u S1 := by
  unfold gRet
  rw [h]
  rfl
theorem call1 {m : List U → Store → R U} {fe : Vr → Store → R U} {ρ : Vr} {S S1 S2 : Store} {u v : U} (h : fe ρ S = .ok u S1) (k : m [u] S1 = .ok v S2) : fCall m (fCons fe fNil) ρ S = .ok v S2 := by
  unfold fCall fN fCons fNil
  rw [h]
  exact k
theorem run_rtd {n : Nat} {g : Vr → Store → O} {us : List U} {S S1 : Store} {y : D} (h : g (slots n us) S = .rt (.d y) S1) : runD n g us S = .ok (.d y) (S1.take S.length) := by
  unfold runD
  rw [h]
  rfl
theorem ret_step {fe : Vr → Store → R U} {ρ : Vr} {S S1 : Store} {u : U} {n : Nat} {g : Vr → Store → O} {us : List U} (h : fe ρ S = .ok u S1) : gRet fe ρ S = .rt u S1 := ret_ok h
theorem p10 {i : Int} {j : Nat} (hi : i = 10) (hj : j ≤ 1000) : uPow (.d (.int i)) (.d (.int (j : Int))) S = .ok (.d (.int (10 ^ j))) S := by
  subst hi
  rw [pow_i (by omega) (by omega) (by decide)]
  simp
/-- nice and small -/
structure Fine (k s : Nat) (d : D) : Prop where
  lay : d.canLay0 = true
  dep : d.depth ≤ k
  sz : sz d ≤ s
theorem Fine.mono {k s k' s' : Nat} {d : D} (h : Fine k s d) (h1 : k ≤ k') (h2 : s ≤ s') : Fine k' s' d := ⟨h.lay, Nat.le_trans h.dep h1, Nat.le_trans h.sz h2⟩
theorem Fine.nice {k s : Nat} {d : D} (h : Fine k s d) (hk : k ≤ 60) : Nice d := ⟨h.lay, Nat.le_trans h.dep hk⟩
theorem fine_pq (q : Rat) : Fine 1 3 (pq q) := ⟨lay_pq q, by rw [dep_pq]; exact Nat.le_refl _, by rw [sz_pq]; exact Nat.le_refl _⟩
theorem szs_le : ∀ (xs : List D) (s : Nat), (∀ x ∈ xs, sz x ≤ s) → szs xs ≤ xs.length * s
  | [], s, _ => by simp [szs]
  | x :: xs, s, h => by
    have h1 := h x List.mem_cons_self
    have h2 := szs_le xs s fun y hy => h y (List.mem_cons_of_mem _ hy)
    rw [szs, List.length_cons, Nat.succ_mul]
    omega
theorem fine_list {k s : Nat} {xs : List D} (h : ∀ x ∈ xs, Fine k s x) : Fine (k + 1) (xs.length * s + 1) (.list xs) := ⟨by
  rw [PyData.canLay0]
  exact lay_all xs fun x hx => (h x hx).lay, by
  rw [PyData.depth]
  have := dep_all xs k fun x hx => (h x hx).dep
  omega, by
  rw [sz]
  have := szs_le xs s fun x hx => (h x hx).sz
  omega⟩
theorem fine_tup {k s : Nat} {xs : List D} (h : ∀ x ∈ xs, Fine k s x) : Fine (k + 1) (xs.length * s + 1) (.tuple xs) := ⟨by
  rw [PyData.canLay0]
  exact lay_all xs fun x hx => (h x hx).lay, by
  rw [PyData.depth]
  have := dep_all xs k fun x hx => (h x hx).dep
  omega, by
  rw [sz]
  have := szs_le xs s fun x hx => (h x hx).sz
  omega⟩
/-- a pair of a text and a thing -/
theorem fine_said {k s : Nat} {x : Str} {d : D} (hx : PyData.strOk x = true) (h : Fine k s d) : Fine (k + 1) (s + 2) (.tuple [.str x, d]) := ⟨by
  simp [PyData.canLay0, PyData.canLayAll0, hx, h.lay], by
  simp [PyData.depth, PyData.depthAll]
  exact h.dep, by
  have := h.sz
  simp [Z.sz, szs]
  omega⟩
theorem s_one_loc {l f n : Nat} {xs : List D} (hj : Jar S l n) (hf : S[f]? = some (some xs)) (hne : f ≠ l) (h0 : xs ≠ []) (hl : xs.length < 2 ^ 60) (hn : n < 1000000000) :
    ∃ (i : Nat) (hi : i < xs.length) (S' : Store), M.m__law_one [.loc l, .loc f] S = .ok (.d xs[i]) S' ∧ Jar S' l (n + 1) ∧ Kp l S S' := by
  have hp : 0 < xs.length := List.length_pos_iff.mpr h0
  obtain ⟨r, S', e, h1, h2, h3, h4⟩ := s_take (many := (xs.length : Int)) hj (by omega) (by omega) hn
  obtain ⟨k, rfl⟩ := Int.eq_ofNat_of_zero_le h1
  have hk : k < xs.length := by omega
  refine ⟨k, hk, S', ?_, h3, h4⟩
  have ei := ix_loc (S := S') (l := f) (xs := xs) (i := (k : Int)) (y := xs[k]) (h4.at hne hf) (atI_nat (List.getElem?_eq_getElem hk))
  have el : uLen [.loc f] S = .ok (.d (.int (xs.length : Int))) S := by simp [uLen, viewL, hf]
  have et : S'.take S.length = S' := List.take_of_length_le (by rw [h4.len]; exact Nat.le_refl _)
  simp [M.m__law_one, M.g__law_one, el, e, ei, et]
end
/-! ### the laws' own tests, on -/
section
variable {S : Store}
theorem s_lisam {d : D} (hn : Nice d) (hs : Sm d) : M.m__law_op_is_amount [.d d] S = .ok (.d (.bool (isAm d))) S := by
  have h := s_lisfr (S := S) hn hs
  have hp : ∀ S : Store, uPow (.d (.int 10)) (.d (.int 60)) S = .ok (.d (.int (10 ^ 60))) S := fun S => pow_i (by decide) (by decide) (by decide)
  cases hf : isFr d with
  | false =>
    rw [hf] at h
    have : isAm d = false := by
      unfold isFr at hf
      unfold isAm
      split at hf
      · simp only [hf, Bool.false_and]
      · first
        | rfl
        | (rename_i hn
           split
           · exact absurd rfl (hn _ _)
           · rfl)
    simp [M.m__law_op_is_amount, M.g__law_op_is_amount, h, this]
  | true =>
    rw [hf] at h
    unfold isFr at hf
    split at hf
    · rename_i a b
      have hb : 0 < b := by
        simp only [Bool.and_eq_true, decide_eq_true_eq] at hf
        exact hf.1
      have h1 : (1 ≤ b) = True := by simp; omega
      simp only [isAm, hf, Bool.true_and, h1, decide_true]
      generalize (10 ^ 60 : Int) = z at hp
      simp [M.m__law_op_is_amount, M.g__law_op_is_amount, h, ix0, ix1, hp]
      split
      · split <;> simp_all <;> (intros; omega)
      · simp_all <;> (intros; omega)
    · cases hf
theorem s_lissz {d : D} (hn : Nice d) (hs : Sm d) : M.m__law_op_is_size [.d d] S = .ok (.d (.bool (isSz d))) S := by
  have h := s_lisfr (S := S) hn hs
  have hp : ∀ S : Store, uPow (.d (.int 10)) (.d (.int 6)) S = .ok (.d (.int 1000000)) S := fun S => by
    rw [pow_i (by decide) (by decide) (by decide)]; rfl
  cases hf : isFr d with
  | false =>
    rw [hf] at h
    have : isSz d = false := by
      unfold isFr at hf
      unfold isSz
      split at hf
      · simp only [hf, Bool.false_and]
      · first
        | rfl
        | (rename_i hn
           split
           · exact absurd rfl (hn _ _)
           · rfl)
    simp [M.m__law_op_is_size, M.g__law_op_is_size, h, this]
  | true =>
    rw [hf] at h
    unfold isFr at hf
    split at hf
    · rename_i a b
      have hb : 0 < b := by
        simp only [Bool.and_eq_true, decide_eq_true_eq] at hf
        exact hf.1
      have h1 : (1 ≤ b) = True := by simp; omega
      simp only [isSz, hf, Bool.true_and, h1, decide_true]
      simp [M.m__law_op_is_size, M.g__law_op_is_size, h, ix0, ix1, hp]
      split
      · split <;> simp_all <;> (intros; omega)
      · simp_all <;> (intros; omega)
    · cases hf
end
end Z

namespace K01
open PySem PySem.Spec PyProof.Rows L2 Z M
noncomputable section
abbrev Pg : Program := PySem.Challenge.pw_oneemptied_k01_fractions_and_their_worth
def top (i : Nat) : Stmt := Pg.main.body.getD i (.Pass ⟨0, 0, 0, 0⟩)
def d0 : He.DefD := ⟨("_law_n01_heard", none), "_law_n01_heard", "_law_n01_heard", defArgs (top 36), defBody (top 36), defScope (top 36), [], []⟩
def d1 : He.DefD := ⟨("_law_op_is_whole", none), "_law_op_is_whole", "_law_op_is_whole", defArgs (top 30), defBody (top 30), defScope (top 30), [], []⟩
def d2 : He.DefD := ⟨("_law_op_same", none), "_law_op_same", "_law_op_same", defArgs (top 31), defBody (top 31), defScope (top 31), [], []⟩
def d3 : He.DefD := ⟨("_law_take", none), "_law_take", "_law_take", defArgs (top 28), defBody (top 28), defScope (top 28), [], []⟩
def d4 : He.DefD := ⟨("_law_one", none), "_law_one", "_law_one", defArgs (top 29), defBody (top 29), defScope (top 29), [], []⟩
def d5 : He.DefD := ⟨("_law_op_frac", none), "_law_op_frac", "_law_op_frac", defArgs (top 32), defBody (top 32), defScope (top 32), [], []⟩
def d6 : He.DefD := ⟨("_law_n01_fraction", none), "_law_n01_fraction", "_law_n01_fraction", defArgs (top 37), defBody (top 37), defScope (top 37), [], []⟩
def d7 : He.DefD := ⟨("_law_n01_odd", none), "_law_n01_odd", "_law_n01_odd", defArgs (top 40), defBody (top 40), defScope (top 40), [], []⟩
def d8 : He.DefD := ⟨("_law_op_is_fraction", none), "_law_op_is_fraction", "_law_op_is_fraction", defArgs (top 33), defBody (top 33), defScope (top 33), [], []⟩
def d9 : He.DefD := ⟨("_law_op_is_amount", none), "_law_op_is_amount", "_law_op_is_amount", defArgs (top 34), defBody (top 34), defScope (top 34), [], []⟩
def d10 : He.DefD := ⟨("_law_op_is_size", none), "_law_op_is_size", "_law_op_is_size", defArgs (top 35), defBody (top 35), defScope (top 35), [], []⟩
def d11 : He.DefD := ⟨("is_number", none), "is_number", "is_number", defArgs (top 16), defBody (top 16), defScope (top 16), [], []⟩
def d12 : He.DefD := ⟨("is_fraction", none), "is_fraction", "is_fraction", defArgs (top 17), defBody (top 17), defScope (top 17), [], []⟩
def d13 : He.DefD := ⟨("made_fraction", none), "made_fraction", "made_fraction", defArgs (top 20), defBody (top 20), defScope (top 20), [], []⟩
def d14 : He.DefD := ⟨("whole", none), "whole", "whole", defArgs (top 6), defBody (top 6), defScope (top 6), [], []⟩
def d15 : He.DefD := ⟨("is_amount", none), "is_amount", "is_amount", defArgs (top 18), defBody (top 18), defScope (top 18), [], []⟩
def d16 : He.DefD := ⟨("made_amount", none), "made_amount", "made_amount", defArgs (top 21), defBody (top 21), defScope (top 21), [], []⟩
def d17 : He.DefD := ⟨("is_size", none), "is_size", "is_size", defArgs (top 19), defBody (top 19), defScope (top 19), [], []⟩
def d18 : He.DefD := ⟨("made_size", none), "made_size", "made_size", defArgs (top 22), defBody (top 22), defScope (top 22), [], []⟩
def d19 : He.DefD := ⟨("_law_n01_forms_right", none), "_law_n01_forms_right", "_law_n01_forms_right", defArgs (top 42), defBody (top 42), defScope (top 42), [], []⟩
def d20 : He.DefD := ⟨("_law_n01_greatest_common", none), "_law_n01_greatest_common", "_law_n01_greatest_common", defArgs (top 38), defBody (top 38), defScope (top 38), [], []⟩
def d21 : He.DefD := ⟨("_law_n01_in_terms", none), "_law_n01_in_terms", "_law_n01_in_terms", defArgs (top 39), defBody (top 39), defScope (top 39), [], []⟩
def d22 : He.DefD := ⟨("fr", none), "fr", "fr", defArgs (top 12), defBody (top 12), defScope (top 12), [], []⟩
def d23 : He.DefD := ⟨("fadd", none), "fadd", "fadd", defArgs (top 13), defBody (top 13), defScope (top 13), [], []⟩
def d24 : He.DefD := ⟨("plus", none), "plus", "plus", defArgs (top 23), defBody (top 23), defScope (top 23), [], []⟩
def d25 : He.DefD := ⟨("fsub", none), "fsub", "fsub", defArgs (top 14), defBody (top 14), defScope (top 14), [], []⟩
def d26 : He.DefD := ⟨("minus", none), "minus", "minus", defArgs (top 24), defBody (top 24), defScope (top 24), [], []⟩
def d27 : He.DefD := ⟨("fless", none), "fless", "fless", defArgs (top 15), defBody (top 15), defScope (top 15), [], []⟩
def d28 : He.DefD := ⟨("at_most", none), "at_most", "at_most", defArgs (top 25), defBody (top 25), defScope (top 25), [], []⟩
def d29 : He.DefD := ⟨("_law_n01_sums_right", none), "_law_n01_sums_right", "_law_n01_sums_right", defArgs (top 41), defBody (top 41), defScope (top 41), [], []⟩
def d30 : He.DefD := ⟨("_law_n01_refused_right", none), "_law_n01_refused_right", "_law_n01_refused_right", defArgs (top 43), defBody (top 43), defScope (top 43), [], []⟩
def d31 : He.DefD := ⟨("_law_n01_whole", none), "_law_n01_whole", "_law_n01_whole", defArgs (top 44), defBody (top 44), defScope (top 44), [], []⟩
def d32 : He.DefD := ⟨("_law_pool", none), "_law_pool", "_law_pool", defArgs (top 27), defBody (top 27), defScope (top 27), [], []⟩
def d33 : He.DefD := ⟨("law", none), "law", "law", defArgs (top 45), defBody (top 45), defScope (top 45), [], []⟩
def iniS : Stmt := match top 2 with
  | .ClassDef (body := b) .. => b.getD 0 (.Pass ⟨0, 0, 0, 0⟩)
  | s => s
def dI : He.DefD := ⟨("Refused", some "__init__"), "__init__", "Refused.__init__", defArgs iniS, defBody iniS, defScope iniS, [], []⟩
def fn : List He.DefD := [d0, d1, d2, d3, d4, d5, d6, d7, d8, d9, d10, d11, d12, d13, d14, d15, d16, d17, d18, d19, d20, d21, d22, d23, d24, d25, d26, d27, d28, d29, d30, d31, d32, d33, dI]
def tf : List He.Defn := [("_law_n01_forms_right", none), ("_law_n01_sums_right", none), ("_law_n01_refused_right", none), ("_law_n01_whole", none)]
def excs : List Str := ["BadFraction", "BadAmount", "BadSize"]
def fa0 : List He.Fa := [.glo "BadAmount", .free "isinstance", .glo "BadFraction", .glo "BadSize", .glo "Refused", .glo "_law_n01_heard", .free "int", .free "bool", .glo "_law_op_is_whole", .free "str", .free "tuple", .free "list", .free "len", .free "range", .glo "_law_op_same", .glo "_law_take", .glo "_law_one", .free "max", .glo "_law_op_frac", .glo "_law_n01_fraction", .glo "_law_n01_odd", .glo "_law_op_is_fraction", .glo "_law_op_is_amount", .glo "_law_op_is_size", .glo "is_number", .int "PAIR" 2, .glo "is_fraction", .glo "made_fraction", .glo "whole", .int "MOST_AMOUNT" 1000000000000000000000000000000000000000000000000000000000000]
def fa1 : List He.Fa := [.glo "is_amount", .glo "made_amount", .int "MOST_SIZE" 1000000, .int "MOST_BOTTOM" 1000, .glo "is_size", .glo "made_size", .glo "_law_n01_forms_right", .glo "_law_n01_greatest_common", .glo "_law_n01_in_terms", .glo "fr", .glo "fadd", .glo "plus", .glo "fsub", .glo "minus", .glo "fless", .glo "at_most", .glo "_law_n01_sums_right", .glo "_law_n01_refused_right", .glo "_law_n01_whole", .glo "_law_pool", .free "ValueError", .glo "law"]
def fa : List He.Fa := fa0 ++ fa1
def xf0 : List Xf := [.suite excs "Refused" "Refused", .blt "gcd" "math.gcd", .tabs tf]
def xf : List Xf := xf0
abbrev C (K : PySem.W.Frag) (mg : Str → Option Value) : Prop := Kn fa fn xf K mg
abbrev xx (K : PySem.W.Frag) (mg : Str → Option Value) : Fx := { K := K, mg := mg, T := tabsT K tf }
section
variable {P : Program} {w : World} {K : PySem.W.Frag} {mg : Str → Option Value} {base : Heap}
theorem scI : FnScope ["self", "what"] ["self", "what"] (defScope iniS) := ⟨rfl, rfl, rfl, by decide +kernel, rfl, by decide +kernel, by decide +kernel⟩
theorem R_ok (c : C K mg) {e : Str} (he : e ∈ excs) : Raiser P w K mg base e (He.ga K e) := by
  obtain ⟨fd, F⟩ := c.d.def_ 34
  exact (c.suite 0).raiser he (init_body F scI fun cdv A outer s H E => pss_cons (ps_expr (pe_veinit rfl (c.free 50) (ve_init K) (pa_cons (pv 0) (pa_cons (pv 1) pa_nil)))) (pss_one (ps_ost (pv 0) (pv 1)))) (F.bindsN fun _ _ _ _ _ _ us hl => match us, hl with | [_, _], _ => rfl)
/-! _law_n01_heard: 0 deed, 1 refused_one, 2 found, 3 name, 4 is_one -/
abbrev N__law_n01_heard : List Str := ["deed", "refused_one", "found", "name", "is_one"]
theorem sc__law_n01_heard : FnScope N__law_n01_heard ["deed"] (defScope (top 36)) := ⟨rfl, rfl, rfl, by decide +kernel, rfl, by decide +kernel, by decide +kernel⟩
def gh__law_n01_heard (th : Store → R U) : Vr → Store → O :=
  gTry excs 1 (gRet (fN mkTup (fCons (fC (.d (.str "told"))) (fCons (fThk 0 th) (fNil))))) (gSeq (gSet 2 (fN mkLoc (fNil)))
  (gSeq (gDrop (fML uApp (fVar 2) (fCons (fN mkTup (fCons (fC (.d (.str "BadAmount"))) (fCons (fN (uIsE excs) (fCons (fVar 1) (fCons (fC (.cls "BadAmount")) (fNil)))) (fNil)))) (fNil))))
  (gSeq (gDrop (fML uApp (fVar 2) (fCons (fN mkTup (fCons (fC (.d (.str "BadFraction"))) (fCons (fN (uIsE excs) (fCons (fVar 1) (fCons (fC (.cls "BadFraction")) (fNil)))) (fNil)))) (fNil))))
  (gSeq (gDrop (fML uApp (fVar 2) (fCons (fN mkTup (fCons (fC (.d (.str "BadSize"))) (fCons (fN (uIsE excs) (fCons (fVar 1) (fCons (fC (.cls "BadSize")) (fNil)))) (fNil)))) (fNil))))
  (gRet (fN mkTup (fCons (fMS uJoin (fC (.d (.str " "))) (fCons (fLc (sLst (fVar 2)) (aTup 2 (aCons (aName 3) (aCons (aName 4) (aNil)))) (fTst (fVar 4)) (fVar 3) [3, 4]) (fNil))) (fCons (f1 uWhat (fVar 1)) (fNil)))))))))
theorem H__law_n01_heard {k : Nat} (c : C K mg) : HDef P w K mg base (tabsT K tf) "_law_n01_heard" k 5 gh__law_n01_heard := by
  obtain ⟨fd, F⟩ := c.d.def_ 0
  exact hdef_ok F (c.glo 5) sc__law_n01_heard (fun _ _ _ _ _ _ us hl => match us, hl with | [_], _ => rfl) rfl (by first | exact Or.inl rfl | exact Or.inr (Or.inl rfl)) (by decide) (by decide) (fun x hxK hxm hxT h0 cdv A outer s H E th tt hr act => ⟨_, db_one ((have s0 := c.suite 0; ds_try_as (i := 1) hxm h0 rfl rfl sc__law_n01_heard.nd ⟨rfl, by decide, .inl (c.glo 4)⟩ takesF (by rw [hxm]; exact s0.hcs) (fun _ _ _ tk' ho => cB (db_one (ds_ret (de_tup (da_cons (de_str) (da_cons (act _ _ _ _ _ tk') (da_nil))))))) (fun _ _ _ _ _ _ hz hf hcm hm0 => have hm := hxm ▸ hm0; cB (db_cons (ds_set 2 sc__law_n01_heard.nd (de_loc (da_nil)))
  (db_cons (ds_expr (de_append hxK (de_var 2) (da_cons (de_tup (da_cons (de_str) (da_cons (de_isE hxK (s0.ek hcm hm).c hz hf hm0 (by rw [hxm]; exact s0.hk hcm hm) (c.free 1) (da_cons (de_var 1) (da_cons (de_gcls hxm (c.glo 0)) (da_nil)))) (da_nil)))) (da_nil))))
  (db_cons (ds_expr (de_append hxK (de_var 2) (da_cons (de_tup (da_cons (de_str) (da_cons (de_isE hxK (s0.ek hcm hm).c hz hf hm0 (by rw [hxm]; exact s0.hk hcm hm) (c.free 1) (da_cons (de_var 1) (da_cons (de_gcls hxm (c.glo 2)) (da_nil)))) (da_nil)))) (da_nil))))
  (db_cons (ds_expr (de_append hxK (de_var 2) (da_cons (de_tup (da_cons (de_str) (da_cons (de_isE hxK (s0.ek hcm hm).c hz hf hm0 (by rw [hxm]; exact s0.hk hcm hm) (c.free 1) (da_cons (de_var 1) (da_cons (de_gcls hxm (c.glo 3)) (da_nil)))) (da_nil)))) (da_nil))))
  (db_one (ds_ret (de_tup (da_cons (de_join hxK (de_str) (da_cons (de_lcH (own := [("name", 3), ("is_one", 4)]) hxK (hot_suite hz hf) sc__law_n01_heard.nd (de_var 2) (blkOk_by (by kernel_rfl)) (fun _ _ _ _ _ => dgh_tup hxK (dgs_cons (dg_name 3 sc__law_n01_heard.nd) (dgs_cons (dg_name 4 sc__law_n01_heard.nd) (dgs_nil)))) (gm_tup (gm_cons (gm_name) (gm_cons (gm_name) (gm_nil)))) (fun _ _ _ _ _ => cTs (dts_one (dt_val (de_var 4)))) (fun _ _ _ _ _ => cE (de_var 3))) (da_nil))) (da_cons (de_what hxK (s0.ek hcm hm).f (s0.ek hcm hm).w hz hf (de_var 1)) (da_nil)))))))))))))⟩)
/-! _law_op_is_whole: 0 thing -/
abbrev N__law_op_is_whole : List Str := ["thing"]
theorem sc__law_op_is_whole : FnScope N__law_op_is_whole ["thing"] (defScope (top 30)) := ⟨rfl, rfl, rfl, by decide +kernel, rfl, by decide +kernel, by decide +kernel⟩
theorem D__law_op_is_whole (c : C K mg) : Def P w K mg base (xx K mg) "_law_op_is_whole" 1 1 m__law_op_is_whole := by
  obtain ⟨fd, F⟩ := c.d.def_ 1
  exact def_ok F (c.glo 8) sc__law_op_is_whole (fun _ _ _ _ _ _ us hl => match us, hl with | [_], _ => rfl) (fun cdv A outer s H E hr => ⟨_, db_one (ds_ret (de_and (de_isi rfl (c.free 1) (da_cons (de_var 0) (da_cons (de_ty (c.free 6)) (da_nil)))) (de_one (de_not (de_isi rfl (c.free 1) (da_cons (de_var 0) (da_cons (de_ty (c.free 7)) (da_nil))))))))⟩)
/-! _law_op_same: 0 got, 1 owed, 2 todo, 3 one, 4 due_now, 5 is_so, 6 at -/
abbrev N__law_op_same : List Str := ["got", "owed", "todo", "one", "due_now", "is_so", "at"]
theorem sc__law_op_same : FnScope N__law_op_same ["got", "owed"] (defScope (top 31)) := ⟨rfl, rfl, rfl, by decide +kernel, rfl, by decide +kernel, by decide +kernel⟩
theorem D__law_op_same (c : C K mg) : Def P w K mg base (xx K mg) "_law_op_same" 2 2 m__law_op_same := by
  obtain ⟨fd, F⟩ := c.d.def_ 2
  exact def_ok F (c.glo 14) sc__law_op_same (fun _ _ _ _ _ _ us hl => match us, hl with | [_, _], _ => rfl) (fun cdv A outer s H E hr => ⟨_, db_cons (ds_set 2 sc__law_op_same.nd (de_loc (da_cons (de_tup (da_cons (de_var 0) (da_cons (de_var 1) (da_nil)))) (da_nil))))
  (db_cons (ds_wh (L2.passes_of rfl) (dt_cmp (c_ne rfl (units_ok hr)) (de_var 2) (de_lst (da_nil))) (db_cons (ds_asg (de_pop rfl (de_var 2)) (dg_tup rfl rfl (dgs_cons (dg_name 3 sc__law_op_same.nd) (dgs_cons (dg_name 4 sc__law_op_same.nd) (dgs_nil)))))
  (db_cons (ds_if (dt_isN (de_var 4)) (db_one (ds_set 5 sc__law_op_same.nd (de_isN (de_var 3)))) (db_one (ds_if (dt_val (de_isi rfl (c.free 1) (da_cons (de_var 4) (da_cons (de_ty (c.free 7)) (da_nil))))) (db_one (ds_set 5 sc__law_op_same.nd (de_and (de_isi rfl (c.free 1) (da_cons (de_var 3) (da_cons (de_ty (c.free 7)) (da_nil)))) (de_one (de_cmp (c_eq rfl (units_ok hr)) (de_var 3) (de_var 4)))))) (db_one (ds_if (dt_val (de_isi rfl (c.free 1) (da_cons (de_var 4) (da_cons (de_ty (c.free 6)) (da_nil))))) (db_one (ds_set 5 sc__law_op_same.nd (de_and (de_call (D__law_op_is_whole c) hr (by decide) takesF (da_cons (de_var 3) (da_nil))) (de_one (de_cmp (c_eq rfl (units_ok hr)) (de_var 3) (de_var 4)))))) (db_one (ds_if (dt_val (de_isi rfl (c.free 1) (da_cons (de_var 4) (da_cons (de_ty (c.free 9)) (da_nil))))) (db_one (ds_set 5 sc__law_op_same.nd (de_and (de_isi rfl (c.free 1) (da_cons (de_var 3) (da_cons (de_ty (c.free 9)) (da_nil)))) (de_one (de_cmp (c_eq rfl (units_ok hr)) (de_var 3) (de_var 4)))))) (db_cons (ds_set 5 sc__law_op_same.nd (de_if (dt_val (de_isi rfl (c.free 1) (da_cons (de_var 4) (da_cons (de_ty (c.free 10)) (da_nil))))) (de_isi rfl (c.free 1) (da_cons (de_var 3) (da_cons (de_ty (c.free 10)) (da_nil)))) (de_isi rfl (c.free 1) (da_cons (de_var 3) (da_cons (de_ty (c.free 11)) (da_nil))))))
  (db_cons (ds_set 5 sc__law_op_same.nd (de_and (de_var 5) (de_one (de_cmp (c_eq rfl (units_ok hr)) (de_len rfl (c.free 12) (da_cons (de_var 3) (da_nil))) (de_len rfl (c.free 12) (da_cons (de_var 4) (da_nil)))))))
  (db_one (ds_expr (de_extend rfl (de_var 2) (da_cons (de_if (dt_val (de_var 5)) (de_lc (own := [("at", 6)]) rfl sc__law_op_same.nd (di_rng1 (c.free 13) (da_cons (de_len rfl (c.free 12) (da_cons (de_var 4) (da_nil))) (da_nil))) (blkOk_by (by kernel_rfl)) (fun _ _ _ _ _ => dg_name 6 sc__law_op_same.nd) (gm_name) (fun _ _ _ _ _ => cTs (dts_nil)) (fun _ _ _ _ _ => cE (de_tup (da_cons (de_ix rfl (de_var 3) (de_var 6)) (da_cons (de_ix rfl (de_var 4) (de_var 6)) (da_nil)))))) (de_lst (da_nil))) (da_nil))))))))))))))
  (db_one (ds_if (dt_not (dt_val (de_var 5))) (db_one (ds_ret (de_bl))) (db_nil))))))
  (db_one (ds_ret (de_bl))))⟩)
/-! _law_take: 0 jar, 1 many, 2 made -/
abbrev N__law_take : List Str := ["jar", "many", "made"]
theorem sc__law_take : FnScope N__law_take ["jar", "many"] (defScope (top 28)) := ⟨rfl, rfl, rfl, by decide +kernel, rfl, by decide +kernel, by decide +kernel⟩
theorem D__law_take (c : C K mg) : Def P w K mg base (xx K mg) "_law_take" 2 1 m__law_take := by
  obtain ⟨fd, F⟩ := c.d.def_ 3
  exact def_ok F (c.glo 15) sc__law_take (fun _ _ _ _ _ _ us hl => match us, hl with | [_, _], _ => rfl) (fun cdv A outer s H E hr => ⟨_, db_cons (ds_if (dt_cmp c_gt (de_ix rfl (de_var 0) (de_int)) (de_int)) (db_cons (ds_set 2 sc__law_take.nd (de_mod (de_intc (c.free 6) (da_cons (de_ix rfl (de_var 0) (de_int)) (da_nil))) (de_var 1)))
  (db_cons (ds_setIx (de_div (de_ix rfl (de_var 0) (de_int)) (de_var 1)) (de_var 0) (de_int))
  (db_one (ds_ret (de_var 2))))) (db_nil))
  (db_cons (ds_setIx (de_add rfl (de_ix rfl (de_var 0) (de_int)) (de_int)) (de_var 0) (de_int))
  (db_cons (ds_setIx (de_mod (de_intc (c.free 6) (da_cons (de_add rfl (de_add rfl (de_mul (de_ix rfl (de_var 0) (de_int)) (de_int)) (de_mul (de_int) (de_ix rfl (de_var 0) (de_int)))) (de_int)) (da_nil))) (de_int)) (de_var 0) (de_int))
  (db_one (ds_ret (de_mod (de_intc (c.free 6) (da_cons (de_div (de_mod (de_intc (c.free 6) (da_cons (de_mul (de_ix rfl (de_var 0) (de_int)) (de_ix rfl (de_var 0) (de_int))) (da_nil))) (de_int)) (de_int)) (da_nil))) (de_var 1))))))⟩)
/-! _law_one: 0 jar, 1 things -/
abbrev N__law_one : List Str := ["jar", "things"]
theorem sc__law_one : FnScope N__law_one ["jar", "things"] (defScope (top 29)) := ⟨rfl, rfl, rfl, by decide +kernel, rfl, by decide +kernel, by decide +kernel⟩
theorem D__law_one (c : C K mg) : Def P w K mg base (xx K mg) "_law_one" 2 2 m__law_one := by
  obtain ⟨fd, F⟩ := c.d.def_ 4
  exact def_ok F (c.glo 16) sc__law_one (fun _ _ _ _ _ _ us hl => match us, hl with | [_, _], _ => rfl) (fun cdv A outer s H E hr => ⟨_, db_one (ds_ret (de_ix rfl (de_var 1) (de_call (D__law_take c) hr (by decide) takesF (da_cons (de_var 0) (da_cons (de_len rfl (c.free 12) (da_cons (de_var 1) (da_nil))) (da_nil))))))⟩)
/-! _law_op_frac: 0 top, 1 bottom, 2 one, 3 two -/
abbrev N__law_op_frac : List Str := ["top", "bottom", "one", "two"]
theorem sc__law_op_frac : FnScope N__law_op_frac ["top", "bottom"] (defScope (top 32)) := ⟨rfl, rfl, rfl, by decide +kernel, rfl, by decide +kernel, by decide +kernel⟩
theorem D__law_op_frac (c : C K mg) : Def P w K mg base (xx K mg) "_law_op_frac" 2 1 m__law_op_frac := by
  obtain ⟨fd, F⟩ := c.d.def_ 5
  exact def_ok F (c.glo 18) sc__law_op_frac (fun _ _ _ _ _ _ us hl => match us, hl with | [_, _], _ => rfl) (fun cdv A outer s H E hr => ⟨_, db_cons (ds_par 2 3 rfl sc__law_op_frac.nd (da_cons (de_max2 rfl (c.free 17) (da_cons (de_var 0) (da_cons (de_neg (de_var 0)) (da_nil)))) (da_cons (de_var 1) (da_nil))))
  (db_cons (ds_wh (L2.passes_of rfl) (dt_cmp c_gt (de_var 3) (de_int)) (db_one (ds_par 2 3 rfl sc__law_op_frac.nd (da_cons (de_var 3) (da_cons (de_mod (de_var 2) (de_var 3)) (da_nil))))))
  (db_one (ds_ret (de_tup (da_cons (de_div (de_var 0) (de_var 2)) (da_cons (de_div (de_var 1) (de_var 2)) (da_nil)))))))⟩)
/-! _law_n01_fraction: 0 jar, 1 bottom, 2 top -/
abbrev N__law_n01_fraction : List Str := ["jar", "bottom", "top"]
theorem sc__law_n01_fraction : FnScope N__law_n01_fraction ["jar"] (defScope (top 37)) := ⟨rfl, rfl, rfl, by decide +kernel, rfl, by decide +kernel, by decide +kernel⟩
/-! _law_n01_fraction: 0 jar, 1 bottom, 2 top -/
def g__law_n01_fraction : Vr → Store → O :=
  gSeq (gSet 1 (fCall m__law_one (fCons (fVar 0) (fCons (fN mkLst (fCons (fC (.d (.int 1))) (fCons (fC (.d (.int 1))) (fCons (fC (.d (.int 2))) (fCons (fC (.d (.int 3))) (fCons (fC (.d (.int 7))) (fCons (fC (.d (.int 12))) (fCons (fC (.d (.int 1000))) (fCons (f2 uAdd (fC (.d (.int 1))) (fCall m__law_take (fCons (fVar 0) (fCons (f2 uPow (fC (.d (.int 10))) (fC (.d (.int 6)))) (fNil))))) (fNil)))))))))) (fNil)))))
  (gSeq (gSet 2 (fCall m__law_one (fCons (fVar 0) (fCons (fN mkLst (fCons (fC (.d (.int 0))) (fCons (fC (.d (.int 1))) (fCons (fVar 1) (fCons (fCall m__law_take (fCons (fVar 0) (fCons (fC (.d (.int 50))) (fNil)))) (fCons (fCall m__law_take (fCons (fVar 0) (fCons (f2 uPow (fC (.d (.int 10))) (fC (.d (.int 9)))) (fNil)))) (fCons (f2 uPow (fC (.d (.int 10))) (fC (.d (.int 20)))) (fNil)))))))) (fNil)))))
  (gRet (fCall m__law_op_frac (fCons (fIf (fTst (f2 uGt (fCall m__law_take (fCons (fVar 0) (fCons (fC (.d (.int 3))) (fNil)))) (fC (.d (.int 0))))) (fVar 2) (f1 uNeg (fVar 2))) (fCons (fVar 1) (fNil))))))
def m__law_n01_fraction : List U → Store → R U := runD 3 g__law_n01_fraction
theorem D__law_n01_fraction (c : C K mg) : Def P w K mg base (xx K mg) "_law_n01_fraction" 1 3 m__law_n01_fraction := by
  obtain ⟨fd, F⟩ := c.d.def_ 6
  exact def_ok F (c.glo 19) sc__law_n01_fraction (fun _ _ _ _ _ _ us hl => match us, hl with | [_], _ => rfl) (fun cdv A outer s H E hr => ⟨_, db_cons (ds_set 1 sc__law_n01_fraction.nd (de_call (D__law_one c) hr (by decide) takesF (da_cons (de_var 0) (da_cons (de_lst (da_cons (de_int) (da_cons (de_int) (da_cons (de_int) (da_cons (de_int) (da_cons (de_int) (da_cons (de_int) (da_cons (de_int) (da_cons (de_add rfl (de_int) (de_call (D__law_take c) hr (by decide) takesF (da_cons (de_var 0) (da_cons (de_pow (de_int) (de_int)) (da_nil))))) (da_nil)))))))))) (da_nil)))))
  (db_cons (ds_set 2 sc__law_n01_fraction.nd (de_call (D__law_one c) hr (by decide) takesF (da_cons (de_var 0) (da_cons (de_lst (da_cons (de_int) (da_cons (de_int) (da_cons (de_var 1) (da_cons (de_call (D__law_take c) hr (by decide) takesF (da_cons (de_var 0) (da_cons (de_int) (da_nil)))) (da_cons (de_call (D__law_take c) hr (by decide) takesF (da_cons (de_var 0) (da_cons (de_pow (de_int) (de_int)) (da_nil)))) (da_cons (de_pow (de_int) (de_int)) (da_nil)))))))) (da_nil)))))
  (db_one (ds_ret (de_call (D__law_op_frac c) hr (by decide) takesF (da_cons (de_if (dt_cmp c_gt (de_call (D__law_take c) hr (by decide) takesF (da_cons (de_var 0) (da_cons (de_int) (da_nil)))) (de_int)) (de_var 2) (de_neg (de_var 2))) (da_cons (de_var 1) (da_nil)))))))⟩)
/-! _law_n01_odd: 0 jar, 1 found -/
abbrev N__law_n01_odd : List Str := ["jar", "found"]
theorem sc__law_n01_odd : FnScope N__law_n01_odd ["jar"] (defScope (top 40)) := ⟨rfl, rfl, rfl, by decide +kernel, rfl, by decide +kernel, by decide +kernel⟩
/-! _law_n01_odd: 0 jar, 1 found -/
def g__law_n01_odd : Vr → Store → O :=
  gSeq (gSet 1 (fN mkLoc (fCons (fC (.d .none)) (fCons (fC (.d (.int 0))) (fCons (fC (.d (.int 1))) (fCons (fC (.d (.str "1/2"))) (fCons (fN mkTup (fCons (fC (.d (.int 1))) (fNil))) (fCons (fN mkTup (fCons (fC (.d (.int 1))) (fCons (fC (.d (.int 2))) (fCons (fC (.d (.int 3))) (fNil))))) (fCons (fN mkLst (fCons (fC (.d (.int 1))) (fCons (fC (.d (.int 2))) (fNil)))) (fCons (fN mkTup (fCons (fC (.d (.int 2))) (fCons (fC (.d (.int 4))) (fNil)))) (fCons (fN mkTup (fCons (fC (.d (.int 0))) (fCons (fC (.d (.int 2))) (fNil)))) (fCons (fN mkTup (fCons (f1 uNeg (fC (.d (.int 2)))) (fCons (fC (.d (.int 4))) (fNil)))) (fCons (fN mkTup (fCons (fC (.d (.int 1))) (fCons (fC (.d (.int 0))) (fNil)))) (fCons (fN mkTup (fCons (fC (.d (.int 0))) (fCons (fC (.d (.int 0))) (fNil)))) (fCons (fN mkTup (fCons (fC (.d (.int 1))) (fCons (f1 uNeg (fC (.d (.int 2)))) (fNil)))) (fNil))))))))))))))))
  (gSeq (gDrop (fML uExt (fVar 1) (fCons (fN mkLst (fCons (fN mkTup (fCons (fC (.d (.bool true))) (fCons (fC (.d (.int 1))) (fNil)))) (fCons (fN mkTup (fCons (fC (.d (.int 1))) (fCons (fC (.d (.bool true))) (fNil)))) (fCons (fN mkTup (fCons (fC (.d (.bool false))) (fCons (fC (.d (.int 1))) (fNil)))) (fCons (fN mkTup (fCons (fC (.d (.str "1"))) (fCons (fC (.d (.int 2))) (fNil)))) (fCons (fN mkTup (fCons (fC (.d (.int 1))) (fCons (fC (.d .none)) (fNil)))) (fCons (fN mkTup (fCons (fN mkTup (fCons (fC (.d (.int 1))) (fCons (fC (.d (.int 2))) (fNil)))) (fCons (fC (.d (.int 1))) (fNil)))) (fCons (fN mkTup (fCons (f2 uPow (fC (.d (.int 10))) (fC (.d (.int 30)))) (fCons (f2 uPow (fC (.d (.int 10))) (fC (.d (.int 30)))) (fNil)))) (fCons (fN mkTup (fNil)) (fNil)))))))))) (fNil))))
  (gRet (fCall m__law_one (fCons (fVar 0) (fCons (fVar 1) (fNil))))))
def m__law_n01_odd : List U → Store → R U := runD 2 g__law_n01_odd
theorem D__law_n01_odd (c : C K mg) : Def P w K mg base (xx K mg) "_law_n01_odd" 1 3 m__law_n01_odd := by
  obtain ⟨fd, F⟩ := c.d.def_ 7
  exact def_ok F (c.glo 20) sc__law_n01_odd (fun _ _ _ _ _ _ us hl => match us, hl with | [_], _ => rfl) (fun cdv A outer s H E hr => ⟨_, db_cons (ds_set 1 sc__law_n01_odd.nd (de_loc (da_cons (de_non) (da_cons (de_int) (da_cons (de_int) (da_cons (de_str) (da_cons (de_tup (da_cons (de_int) (da_nil))) (da_cons (de_tup (da_cons (de_int) (da_cons (de_int) (da_cons (de_int) (da_nil))))) (da_cons (de_lst (da_cons (de_int) (da_cons (de_int) (da_nil)))) (da_cons (de_tup (da_cons (de_int) (da_cons (de_int) (da_nil)))) (da_cons (de_tup (da_cons (de_int) (da_cons (de_int) (da_nil)))) (da_cons (de_tup (da_cons (de_neg (de_int)) (da_cons (de_int) (da_nil)))) (da_cons (de_tup (da_cons (de_int) (da_cons (de_int) (da_nil)))) (da_cons (de_tup (da_cons (de_int) (da_cons (de_int) (da_nil)))) (da_cons (de_tup (da_cons (de_int) (da_cons (de_neg (de_int)) (da_nil)))) (da_nil))))))))))))))))
  (db_cons (ds_expr (de_extend rfl (de_var 1) (da_cons (de_lst (da_cons (de_tup (da_cons (de_bl) (da_cons (de_int) (da_nil)))) (da_cons (de_tup (da_cons (de_int) (da_cons (de_bl) (da_nil)))) (da_cons (de_tup (da_cons (de_bl) (da_cons (de_int) (da_nil)))) (da_cons (de_tup (da_cons (de_str) (da_cons (de_int) (da_nil)))) (da_cons (de_tup (da_cons (de_int) (da_cons (de_non) (da_nil)))) (da_cons (de_tup (da_cons (de_tup (da_cons (de_int) (da_cons (de_int) (da_nil)))) (da_cons (de_int) (da_nil)))) (da_cons (de_tup (da_cons (de_pow (de_int) (de_int)) (da_cons (de_pow (de_int) (de_int)) (da_nil)))) (da_cons (de_tup (da_nil)) (da_nil)))))))))) (da_nil))))
  (db_one (ds_ret (de_call (D__law_one c) hr (by decide) takesF (da_cons (de_var 0) (da_cons (de_var 1) (da_nil)))))))⟩)
/-! _law_op_is_fraction: 0 thing, 1 x -/
abbrev N__law_op_is_fraction : List Str := ["thing", "x"]
theorem sc__law_op_is_fraction : FnScope N__law_op_is_fraction ["thing"] (defScope (top 33)) := ⟨rfl, rfl, rfl, by decide +kernel, rfl, by decide +kernel, by decide +kernel⟩
theorem D__law_op_is_fraction (c : C K mg) : Def P w K mg base (xx K mg) "_law_op_is_fraction" 1 2 m__law_op_is_fraction := by
  obtain ⟨fd, F⟩ := c.d.def_ 8
  exact def_ok F (c.glo 21) sc__law_op_is_fraction (fun _ _ _ _ _ _ us hl => match us, hl with | [_], _ => rfl) (fun cdv A outer s H E hr => ⟨_, db_cons (ds_if (dt_w (dw_or (dt_not (dt_val (de_isi rfl (c.free 1) (da_cons (de_var 0) (da_cons (de_ty (c.free 10)) (da_nil)))))) (dw_or (dt_cmp (c_ne rfl (units_ok hr)) (de_len rfl (c.free 12) (da_cons (de_var 0) (da_nil))) (de_int)) (dw_or1 (dt_cmp (c_ne rfl (units_ok hr)) (de_lc (own := [("x", 1)]) rfl sc__law_op_is_fraction.nd (di_seq rfl (de_var 0)) (blkOk_by (by kernel_rfl)) (fun _ _ _ _ _ => dg_name 1 sc__law_op_is_fraction.nd) (gm_name) (fun _ _ _ _ _ => cTs (dts_one (dt_not (dt_val (de_call (D__law_op_is_whole c) hr (by decide) takes0N (da_cons (de_var 1) (da_nil))))))) (fun _ _ _ _ _ => cE (de_var 1))) (de_lst (da_nil))))))) (db_one (ds_ret (de_bl))) (db_nil))
  (db_one (ds_ret (de_and (de_cmp c_gt (de_ix rfl (de_var 0) (de_int)) (de_int)) (de_one (de_cmp (c_eq rfl (units_ok hr)) (de_call (D__law_op_frac c) hr (by decide) takesF (da_cons (de_ix rfl (de_var 0) (de_int)) (da_cons (de_ix rfl (de_var 0) (de_int)) (da_nil)))) (de_var 0))))))⟩)
/-! _law_op_is_amount: 0 thing -/
abbrev N__law_op_is_amount : List Str := ["thing"]
theorem sc__law_op_is_amount : FnScope N__law_op_is_amount ["thing"] (defScope (top 34)) := ⟨rfl, rfl, rfl, by decide +kernel, rfl, by decide +kernel, by decide +kernel⟩
theorem D__law_op_is_amount (c : C K mg) : Def P w K mg base (xx K mg) "_law_op_is_amount" 1 3 m__law_op_is_amount := by
  obtain ⟨fd, F⟩ := c.d.def_ 9
  exact def_ok F (c.glo 22) sc__law_op_is_amount (fun _ _ _ _ _ _ us hl => match us, hl with | [_], _ => rfl) (fun cdv A outer s H E hr => ⟨_, db_one (ds_ret (de_and (de_call (D__law_op_is_fraction c) hr (by decide) takesF (da_cons (de_var 0) (da_nil))) (de_and (de_chain c_le c_le (de_int) (de_ix rfl (de_var 0) (de_int)) (de_pow (de_int) (de_int))) (de_one (de_cmp c_le (de_ix rfl (de_var 0) (de_int)) (de_pow (de_int) (de_int)))))))⟩)
/-! _law_op_is_size: 0 thing -/
abbrev N__law_op_is_size : List Str := ["thing"]
theorem sc__law_op_is_size : FnScope N__law_op_is_size ["thing"] (defScope (top 35)) := ⟨rfl, rfl, rfl, by decide +kernel, rfl, by decide +kernel, by decide +kernel⟩
theorem D__law_op_is_size (c : C K mg) : Def P w K mg base (xx K mg) "_law_op_is_size" 1 3 m__law_op_is_size := by
  obtain ⟨fd, F⟩ := c.d.def_ 10
  exact def_ok F (c.glo 23) sc__law_op_is_size (fun _ _ _ _ _ _ us hl => match us, hl with | [_], _ => rfl) (fun cdv A outer s H E hr => ⟨_, db_one (ds_ret (de_and (de_call (D__law_op_is_fraction c) hr (by decide) takesF (da_cons (de_var 0) (da_nil))) (de_and (de_chain c_le c_le (de_int) (de_ix rfl (de_var 0) (de_int)) (de_pow (de_int) (de_int))) (de_one (de_cmp c_le (de_ix rfl (de_var 0) (de_int)) (de_int))))))⟩)
/-! is_number: 0 thing -/
abbrev N_is_number : List Str := ["thing"]
theorem sc_is_number : FnScope N_is_number ["thing"] (defScope (top 16)) := ⟨rfl, rfl, rfl, by decide +kernel, rfl, by decide +kernel, by decide +kernel⟩
theorem D_is_number (c : C K mg) : Def P w K mg base (xx K mg) "is_number" 1 1 m_is_number := by
  obtain ⟨fd, F⟩ := c.d.def_ 11
  exact def_ok F (c.glo 24) sc_is_number (fun _ _ _ _ _ _ us hl => match us, hl with | [_], _ => rfl) (fun cdv A outer s H E hr => ⟨_, db_one (ds_ret (de_and (de_isi rfl (c.free 1) (da_cons (de_var 0) (da_cons (de_ty (c.free 6)) (da_nil)))) (de_one (de_not (de_isi rfl (c.free 1) (da_cons (de_var 0) (da_cons (de_ty (c.free 7)) (da_nil))))))))⟩)
/-! is_fraction: 0 thing -/
abbrev N_is_fraction : List Str := ["thing"]
theorem sc_is_fraction : FnScope N_is_fraction ["thing"] (defScope (top 17)) := ⟨rfl, rfl, rfl, by decide +kernel, rfl, by decide +kernel, by decide +kernel⟩
theorem D_is_fraction (c : C K mg) : Def P w K mg base (xx K mg) "is_fraction" 1 2 m_is_fraction := by
  obtain ⟨fd, F⟩ := c.d.def_ 12
  exact def_ok F (c.glo 26) sc_is_fraction (fun _ _ _ _ _ _ us hl => match us, hl with | [_], _ => rfl) (fun cdv A outer s H E hr => ⟨_, db_cons (ds_if (dt_w (dw_or (dt_not (dt_val (de_isi rfl (c.free 1) (da_cons (de_var 0) (da_cons (de_ty (c.free 10)) (da_nil)))))) (dw_or (dt_cmp (c_ne rfl (units_ok hr)) (de_len rfl (c.free 12) (da_cons (de_var 0) (da_nil))) (de_gint (c.int 25))) (dw_or (dt_not (dt_val (de_call (D_is_number c) hr (by decide) takesF (da_cons (de_ix rfl (de_var 0) (de_int)) (da_nil))))) (dw_or1 (dt_not (dt_val (de_call (D_is_number c) hr (by decide) takesF (da_cons (de_ix rfl (de_var 0) (de_int)) (da_nil)))))))))) (db_one (ds_ret (de_bl))) (db_nil))
  (db_one (ds_ret (de_and (de_cmp c_gt (de_ix rfl (de_var 0) (de_int)) (de_int)) (de_one (de_cmp (c_eq rfl (units_ok hr)) (de_gcd (c.blt 1) (da_cons (de_ix rfl (de_var 0) (de_int)) (da_cons (de_ix rfl (de_var 0) (de_int)) (da_nil)))) (de_int))))))⟩)
/-! made_fraction: 0 thing -/
abbrev N_made_fraction : List Str := ["thing"]
theorem sc_made_fraction : FnScope N_made_fraction ["thing"] (defScope (top 20)) := ⟨rfl, rfl, rfl, by decide +kernel, rfl, by decide +kernel, by decide +kernel⟩
theorem D_made_fraction (c : C K mg) : Def P w K mg base (xx K mg) "made_fraction" 1 3 m_made_fraction := by
  obtain ⟨fd, F⟩ := c.d.def_ 13
  exact def_ok F (c.glo 27) sc_made_fraction (fun _ _ _ _ _ _ us hl => match us, hl with | [_], _ => rfl) (fun cdv A outer s H E hr => ⟨_, db_cons (ds_if (dt_not (dt_val (de_call (D_is_fraction c) hr (by decide) takesF (da_cons (de_var 0) (da_nil))))) (db_one (ds_raise rfl rfl (R_ok c (by decide)) (hr.mono (by decide)) rfl takesF (da_cons (de_var 0) (da_nil)))) (db_nil))
  (db_one (ds_ret (de_var 0)))⟩)
/-! whole: 0 thing, 1 low, 2 high -/
abbrev N_whole : List Str := ["thing", "low", "high"]
theorem sc_whole : FnScope N_whole ["thing", "low", "high"] (defScope (top 6)) := ⟨rfl, rfl, rfl, by decide +kernel, rfl, by decide +kernel, by decide +kernel⟩
theorem D_whole (c : C K mg) : Def P w K mg base (xx K mg) "whole" 3 1 m_whole := by
  obtain ⟨fd, F⟩ := c.d.def_ 14
  exact def_ok F (c.glo 28) sc_whole (fun _ _ _ _ _ _ us hl => match us, hl with | [_, _, _], _ => rfl) (fun cdv A outer s H E hr => ⟨_, db_one (ds_ret (de_and (de_isi rfl (c.free 1) (da_cons (de_var 0) (da_cons (de_ty (c.free 6)) (da_nil)))) (de_and (de_not (de_isi rfl (c.free 1) (da_cons (de_var 0) (da_cons (de_ty (c.free 7)) (da_nil))))) (de_one (de_chain c_le c_le (de_var 1) (de_var 0) (de_var 2))))))⟩)
/-! is_amount: 0 thing -/
abbrev N_is_amount : List Str := ["thing"]
theorem sc_is_amount : FnScope N_is_amount ["thing"] (defScope (top 18)) := ⟨rfl, rfl, rfl, by decide +kernel, rfl, by decide +kernel, by decide +kernel⟩
theorem D_is_amount (c : C K mg) : Def P w K mg base (xx K mg) "is_amount" 1 3 m_is_amount := by
  obtain ⟨fd, F⟩ := c.d.def_ 15
  exact def_ok F (c.glo 30) sc_is_amount (fun _ _ _ _ _ _ us hl => match us, hl with | [_], _ => rfl) (fun cdv A outer s H E hr => ⟨_, db_one (ds_ret (de_and (de_call (D_is_fraction c) hr (by decide) takesF (da_cons (de_var 0) (da_nil))) (de_and (de_call (D_whole c) hr (by decide) takesF (da_cons (de_ix rfl (de_var 0) (de_int)) (da_cons (de_int) (da_cons (de_gint (c.int 29)) (da_nil))))) (de_one (de_call (D_whole c) hr (by decide) takesF (da_cons (de_ix rfl (de_var 0) (de_int)) (da_cons (de_int) (da_cons (de_gint (c.int 29)) (da_nil)))))))))⟩)
/-! made_amount: 0 thing -/
abbrev N_made_amount : List Str := ["thing"]
theorem sc_made_amount : FnScope N_made_amount ["thing"] (defScope (top 21)) := ⟨rfl, rfl, rfl, by decide +kernel, rfl, by decide +kernel, by decide +kernel⟩
theorem D_made_amount (c : C K mg) : Def P w K mg base (xx K mg) "made_amount" 1 4 m_made_amount := by
  obtain ⟨fd, F⟩ := c.d.def_ 16
  exact def_ok F (c.glo 31) sc_made_amount (fun _ _ _ _ _ _ us hl => match us, hl with | [_], _ => rfl) (fun cdv A outer s H E hr => ⟨_, db_cons (ds_if (dt_not (dt_val (de_call (D_is_amount c) hr (by decide) takesF (da_cons (de_var 0) (da_nil))))) (db_one (ds_raise rfl rfl (R_ok c (by decide)) (hr.mono (by decide)) rfl takesF (da_cons (de_var 0) (da_nil)))) (db_nil))
  (db_one (ds_ret (de_var 0)))⟩)
/-! is_size: 0 thing -/
abbrev N_is_size : List Str := ["thing"]
theorem sc_is_size : FnScope N_is_size ["thing"] (defScope (top 19)) := ⟨rfl, rfl, rfl, by decide +kernel, rfl, by decide +kernel, by decide +kernel⟩
theorem D_is_size (c : C K mg) : Def P w K mg base (xx K mg) "is_size" 1 3 m_is_size := by
  obtain ⟨fd, F⟩ := c.d.def_ 17
  exact def_ok F (c.glo 34) sc_is_size (fun _ _ _ _ _ _ us hl => match us, hl with | [_], _ => rfl) (fun cdv A outer s H E hr => ⟨_, db_one (ds_ret (de_and (de_call (D_is_fraction c) hr (by decide) takesF (da_cons (de_var 0) (da_nil))) (de_and (de_call (D_whole c) hr (by decide) takesF (da_cons (de_ix rfl (de_var 0) (de_int)) (da_cons (de_int) (da_cons (de_gint (c.int 32)) (da_nil))))) (de_one (de_call (D_whole c) hr (by decide) takesF (da_cons (de_ix rfl (de_var 0) (de_int)) (da_cons (de_int) (da_cons (de_gint (c.int 33)) (da_nil)))))))))⟩)
/-! made_size: 0 thing -/
abbrev N_made_size : List Str := ["thing"]
theorem sc_made_size : FnScope N_made_size ["thing"] (defScope (top 22)) := ⟨rfl, rfl, rfl, by decide +kernel, rfl, by decide +kernel, by decide +kernel⟩
theorem D_made_size (c : C K mg) : Def P w K mg base (xx K mg) "made_size" 1 4 m_made_size := by
  obtain ⟨fd, F⟩ := c.d.def_ 18
  exact def_ok F (c.glo 35) sc_made_size (fun _ _ _ _ _ _ us hl => match us, hl with | [_], _ => rfl) (fun cdv A outer s H E hr => ⟨_, db_cons (ds_if (dt_not (dt_val (de_call (D_is_size c) hr (by decide) takesF (da_cons (de_var 0) (da_nil))))) (db_one (ds_raise rfl rfl (R_ok c (by decide)) (hr.mono (by decide)) rfl takesF (da_cons (de_var 0) (da_nil)))) (db_nil))
  (db_one (ds_ret (de_var 0)))⟩)
/-! _law_n01_forms_right: 0 jar, 1 edges_now, 2 things, 3 thing, 4 told_now, 5 fits_now, 6 names_now, 7 owed, 8 k -/
abbrev N__law_n01_forms_right : List Str := ["jar", "edges_now", "things", "thing", "told_now", "fits_now", "names_now", "owed", "k"]
theorem sc__law_n01_forms_right : FnScope N__law_n01_forms_right ["jar"] (defScope (top 42)) := ⟨rfl, rfl, rfl, by decide +kernel, rfl, by decide +kernel, by decide +kernel⟩
/-! _law_n01_forms_right: 0 jar, 1 edges_now, 2 things, 3 thing, 4 told_now, 5 fits_now, 6 names_now, 7 owed, 8 k -/
def e1__law_n01_forms_right : Vr → Store → R U :=
  fIf (fTst (f2 uIx (fVar 5) (fVar 8))) (fN mkTup (fCons (fC (.d (.str "told"))) (fCons (fVar 3) (fNil)))) (fN mkTup (fCons (f2 uIx (fVar 6) (fVar 8)) (fCons (fVar 3) (fNil))))
def b2__law_n01_forms_right : Vr → Store → O :=
  gSeq (gSet 4 (fN mkLoc (fCons (fLam 5 gh__law_n01_heard (fCall m_made_fraction (fCons (fVar 3) (fNil)))) (fNil))))
  (gSeq (gDrop (fML uApp (fVar 4) (fCons (fLam 5 gh__law_n01_heard (fCall m_made_amount (fCons (fVar 3) (fNil)))) (fNil))))
  (gSeq (gDrop (fML uApp (fVar 4) (fCons (fLam 5 gh__law_n01_heard (fCall m_made_size (fCons (fVar 3) (fNil)))) (fNil))))
  (gSeq (gSet 5 (fN mkLst (fCons (fCall m__law_op_is_fraction (fCons (fVar 3) (fNil))) (fCons (fCall m__law_op_is_amount (fCons (fVar 3) (fNil))) (fCons (fCall m__law_op_is_size (fCons (fVar 3) (fNil))) (fNil))))))
  (gSeq (gSet 6 (fN mkLst (fCons (fC (.d (.str "BadFraction"))) (fCons (fC (.d (.str "BadAmount"))) (fCons (fC (.d (.str "BadSize"))) (fNil))))))
  (gSeq (gSet 7 (fLc (sN sRng1 (fCons (fC (.d (.int 3))) (fNil))) (aName 8) (fYes) (e1__law_n01_forms_right) [8]))
  (gIf (fNotT (fTst (fCall m__law_op_same (fCons (fVar 4) (fCons (fVar 7) (fNil)))))) (gRet (fC (.d (.bool false)))) (gNx)))))))
def g__law_n01_forms_right : Vr → Store → O :=
  gSeq (gSet 1 (fN mkLoc (fCons (fN mkTup (fCons (fC (.d (.int 0))) (fCons (fC (.d (.int 1))) (fNil)))) (fCons (fN mkTup (fCons (fC (.d (.int 1))) (fCons (fC (.d (.int 1))) (fNil)))) (fCons (fN mkTup (fCons (f2 uPow (fC (.d (.int 10))) (fC (.d (.int 60)))) (fCons (fC (.d (.int 1))) (fNil)))) (fCons (fN mkTup (fCons (f2 uAdd (f2 uPow (fC (.d (.int 10))) (fC (.d (.int 60)))) (fC (.d (.int 1)))) (fCons (fC (.d (.int 1))) (fNil)))) (fCons (fN mkTup (fCons (fC (.d (.int 1))) (fCons (f2 uPow (fC (.d (.int 10))) (fC (.d (.int 60)))) (fNil)))) (fCons (fN mkTup (fCons (fC (.d (.int 1))) (fCons (f2 uAdd (f2 uPow (fC (.d (.int 10))) (fC (.d (.int 60)))) (fC (.d (.int 1)))) (fNil)))) (fCons (fN mkTup (fCons (f1 uNeg (fC (.d (.int 1)))) (fCons (fC (.d (.int 1))) (fNil)))) (fNil))))))))))
  (gSeq (gDrop (fML uExt (fVar 1) (fCons (fN mkLst (fCons (fN mkTup (fCons (f2 uPow (fC (.d (.int 10))) (fC (.d (.int 6)))) (fCons (fC (.d (.int 1))) (fNil)))) (fCons (fN mkTup (fCons (f2 uAdd (f2 uPow (fC (.d (.int 10))) (fC (.d (.int 6)))) (fC (.d (.int 1)))) (fCons (fC (.d (.int 1))) (fNil)))) (fCons (fN mkTup (fCons (fC (.d (.int 1))) (fCons (fC (.d (.int 1000))) (fNil)))) (fCons (fN mkTup (fCons (fC (.d (.int 1))) (fCons (fC (.d (.int 1001))) (fNil)))) (fCons (fN mkTup (fCons (f2 uPow (fC (.d (.int 10))) (fC (.d (.int 6)))) (fCons (fC (.d (.int 999))) (fNil)))) (fCons (fN mkTup (fCons (fC (.d (.int 999999))) (fCons (fC (.d (.int 1000))) (fNil)))) (fNil)))))))) (fNil))))
  (gSeq (gDrop (fML uApp (fVar 1) (fCons (fN mkTup (fCons (f1 uNeg (fC (.d (.int 1)))) (fCons (fC (.d (.int 1000))) (fNil)))) (fNil))))
  (gSeq (gSet 2 (f2 uAdd (fVar 1) (fN mkLst (fCons (fCall m__law_n01_fraction (fCons (fVar 0) (fNil))) (fCons (fCall m__law_n01_odd (fCons (fVar 0) (fNil))) (fCons (fCall m__law_n01_odd (fCons (fVar 0) (fNil))) (fNil)))))))
  (gSeq (gFor (sSeq (fVar 2)) (aName 3) (b2__law_n01_forms_right))
  (gRet (fC (.d (.bool true))))))))
def m__law_n01_forms_right : List U → Store → R U := runD 9 g__law_n01_forms_right
theorem D__law_n01_forms_right (c : C K mg) (hT : ∀ p ∈ tf, LamX.TabB base mg (He.cT K p).1 (He.cT K p).2) : Def P w K mg base (xx K mg) "_law_n01_forms_right" 1 7 m__law_n01_forms_right := by
  obtain ⟨fd, F⟩ := c.d.def_ 19
  exact def_okC F (c.glo 36) sc__law_n01_forms_right (fun _ _ _ _ _ _ us hl => match us, hl with | [_], _ => rfl) (fun cdv A outer s H E hcd hr => ⟨_, db_cons (ds_set 1 sc__law_n01_forms_right.nd (de_loc (da_cons (de_tup (da_cons (de_int) (da_cons (de_int) (da_nil)))) (da_cons (de_tup (da_cons (de_int) (da_cons (de_int) (da_nil)))) (da_cons (de_tup (da_cons (de_pow (de_int) (de_int)) (da_cons (de_int) (da_nil)))) (da_cons (de_tup (da_cons (de_add rfl (de_pow (de_int) (de_int)) (de_int)) (da_cons (de_int) (da_nil)))) (da_cons (de_tup (da_cons (de_int) (da_cons (de_pow (de_int) (de_int)) (da_nil)))) (da_cons (de_tup (da_cons (de_int) (da_cons (de_add rfl (de_pow (de_int) (de_int)) (de_int)) (da_nil)))) (da_cons (de_tup (da_cons (de_neg (de_int)) (da_cons (de_int) (da_nil)))) (da_nil))))))))))
  (db_cons (ds_expr (de_extend rfl (de_var 1) (da_cons (de_lst (da_cons (de_tup (da_cons (de_pow (de_int) (de_int)) (da_cons (de_int) (da_nil)))) (da_cons (de_tup (da_cons (de_add rfl (de_pow (de_int) (de_int)) (de_int)) (da_cons (de_int) (da_nil)))) (da_cons (de_tup (da_cons (de_int) (da_cons (de_int) (da_nil)))) (da_cons (de_tup (da_cons (de_int) (da_cons (de_int) (da_nil)))) (da_cons (de_tup (da_cons (de_pow (de_int) (de_int)) (da_cons (de_int) (da_nil)))) (da_cons (de_tup (da_cons (de_int) (da_cons (de_int) (da_nil)))) (da_nil)))))))) (da_nil))))
  (db_cons (ds_expr (de_append rfl (de_var 1) (da_cons (de_tup (da_cons (de_neg (de_int)) (da_cons (de_int) (da_nil)))) (da_nil))))
  (db_cons (ds_set 2 sc__law_n01_forms_right.nd (de_add rfl (de_var 1) (de_lst (da_cons (de_call (D__law_n01_fraction c) hr (by decide) takesF (da_cons (de_var 0) (da_nil))) (da_cons (de_call (D__law_n01_odd c) hr (by decide) takesF (da_cons (de_var 0) (da_nil))) (da_cons (de_call (D__law_n01_odd c) hr (by decide) takesF (da_cons (de_var 0) (da_nil))) (da_nil)))))))
  (db_cons (ds_for (L2.passes_of rfl) rfl (di_seq rfl (de_var 2)) (dg_name 3 sc__law_n01_forms_right.nd) (db_cons (ds_set 4 sc__law_n01_forms_right.nd (de_loc (da_cons (de_lam (k := 3) rfl rfl (fun _ _ _ z => z) (H__law_n01_heard c) (hr.mono (by decide)) takesF (hT _ (by decide +kernel : (("_law_n01_forms_right", none) : He.Defn) ∈ tf)) hcd (tabs_mem (by decide +kernel : (("_law_n01_forms_right", none) : He.Defn) ∈ tf)) (tabs_u (c.tabs 2) (by decide +kernel : (("_law_n01_forms_right", none) : He.Defn) ∈ tf)) (LamX.lamS_by (by kernel_rfl)) (fun _ _ _ _ _ _ _ hr => cE (de_call (D_made_fraction c) hr (by decide) takesL (da_cons (de_var 3) (da_nil))))) (da_nil))))
  (db_cons (ds_expr (de_append rfl (de_var 4) (da_cons (de_lam (k := 4) rfl rfl (fun _ _ _ z => z) (H__law_n01_heard c) (hr.mono (by decide)) takesF (hT _ (by decide +kernel : (("_law_n01_forms_right", none) : He.Defn) ∈ tf)) hcd (tabs_mem (by decide +kernel : (("_law_n01_forms_right", none) : He.Defn) ∈ tf)) (tabs_u (c.tabs 2) (by decide +kernel : (("_law_n01_forms_right", none) : He.Defn) ∈ tf)) (LamX.lamS_by (by kernel_rfl)) (fun _ _ _ _ _ _ _ hr => cE (de_call (D_made_amount c) hr (by decide) takesL (da_cons (de_var 3) (da_nil))))) (da_nil))))
  (db_cons (ds_expr (de_append rfl (de_var 4) (da_cons (de_lam (k := 4) rfl rfl (fun _ _ _ z => z) (H__law_n01_heard c) (hr.mono (by decide)) takesF (hT _ (by decide +kernel : (("_law_n01_forms_right", none) : He.Defn) ∈ tf)) hcd (tabs_mem (by decide +kernel : (("_law_n01_forms_right", none) : He.Defn) ∈ tf)) (tabs_u (c.tabs 2) (by decide +kernel : (("_law_n01_forms_right", none) : He.Defn) ∈ tf)) (LamX.lamS_by (by kernel_rfl)) (fun _ _ _ _ _ _ _ hr => cE (de_call (D_made_size c) hr (by decide) takesL (da_cons (de_var 3) (da_nil))))) (da_nil))))
  (db_cons (ds_set 5 sc__law_n01_forms_right.nd (de_lst (da_cons (de_call (D__law_op_is_fraction c) hr (by decide) takesF (da_cons (de_var 3) (da_nil))) (da_cons (de_call (D__law_op_is_amount c) hr (by decide) takesF (da_cons (de_var 3) (da_nil))) (da_cons (de_call (D__law_op_is_size c) hr (by decide) takesF (da_cons (de_var 3) (da_nil))) (da_nil))))))
  (db_cons (ds_set 6 sc__law_n01_forms_right.nd (de_lst (da_cons (de_str) (da_cons (de_str) (da_cons (de_str) (da_nil))))))
  (db_cons (ds_setLc (i := 7) (own := [("k", 8)]) rfl sc__law_n01_forms_right.nd (di_rng1 (c.free 13) (da_cons (de_int) (da_nil))) (blkOk_by (by kernel_rfl)) (fun _ _ _ _ _ => dg_name 8 sc__law_n01_forms_right.nd) (gm_name) (fun _ _ _ _ _ => cTs (dts_nil)) (fun _ _ _ _ _ => cE (de_if (dt_val (de_ix rfl (de_var 5) (de_var 8))) (de_tup (da_cons (de_str) (da_cons (de_var 3) (da_nil)))) (de_tup (da_cons (de_ix rfl (de_var 6) (de_var 8)) (da_cons (de_var 3) (da_nil)))))))
  (db_one (ds_if (dt_not (dt_val (de_call (D__law_op_same c) hr (by decide) takesF (da_cons (de_var 4) (da_cons (de_var 7) (da_nil)))))) (db_one (ds_ret (de_bl))) (db_nil))))))))))
  (db_one (ds_ret (de_bl)))))))⟩)
/-! _law_n01_greatest_common: 0 one, 1 two -/
abbrev N__law_n01_greatest_common : List Str := ["one", "two"]
theorem sc__law_n01_greatest_common : FnScope N__law_n01_greatest_common ["one", "two"] (defScope (top 38)) := ⟨rfl, rfl, rfl, by decide +kernel, rfl, by decide +kernel, by decide +kernel⟩
/-! _law_n01_greatest_common: 0 one, 1 two -/
def t1__law_n01_greatest_common : Vr → Store → R Bool :=
  fTst (f2 uNe (fVar 1) (fC (.d (.int 0))))
def b2__law_n01_greatest_common : Vr → Store → O :=
  gPar 0 1 (fCons (fVar 1) (fCons (f2 uSub (fVar 0) (f2 uMul (f2 uDiv (fVar 0) (fVar 1)) (fVar 1))) (fNil)))
def g__law_n01_greatest_common : Vr → Store → O :=
  gSeq (gWh (t1__law_n01_greatest_common) (b2__law_n01_greatest_common))
  (gRet (fVar 0))
def m__law_n01_greatest_common : List U → Store → R U := runD 2 g__law_n01_greatest_common
theorem D__law_n01_greatest_common (c : C K mg) : Def P w K mg base (xx K mg) "_law_n01_greatest_common" 2 1 m__law_n01_greatest_common := by
  obtain ⟨fd, F⟩ := c.d.def_ 20
  exact def_ok F (c.glo 37) sc__law_n01_greatest_common (fun _ _ _ _ _ _ us hl => match us, hl with | [_, _], _ => rfl) (fun cdv A outer s H E hr => ⟨_, db_cons (ds_wh (L2.passes_of rfl) (dt_cmp (c_ne rfl (units_ok hr)) (de_var 1) (de_int)) (db_one (ds_par 0 1 rfl sc__law_n01_greatest_common.nd (da_cons (de_var 1) (da_cons (de_sub (de_var 0) (de_mul (de_div (de_var 0) (de_var 1)) (de_var 1))) (da_nil))))))
  (db_one (ds_ret (de_var 0)))⟩)
/-! _law_n01_in_terms: 0 top, 1 bottom, 2 much -/
abbrev N__law_n01_in_terms : List Str := ["top", "bottom", "much"]
theorem sc__law_n01_in_terms : FnScope N__law_n01_in_terms ["top", "bottom"] (defScope (top 39)) := ⟨rfl, rfl, rfl, by decide +kernel, rfl, by decide +kernel, by decide +kernel⟩
/-! _law_n01_in_terms: 0 top, 1 bottom, 2 much -/
def g__law_n01_in_terms : Vr → Store → O :=
  gSeq (gSet 2 (fCall m__law_n01_greatest_common (fCons (fIf (fTst (f2 uGt (fVar 0) (fC (.d (.int 0))))) (fVar 0) (f1 uNeg (fVar 0))) (fCons (fVar 1) (fNil)))))
  (gRet (fN mkTup (fCons (f2 uDiv (fVar 0) (fVar 2)) (fCons (f2 uDiv (fVar 1) (fVar 2)) (fNil)))))
def m__law_n01_in_terms : List U → Store → R U := runD 3 g__law_n01_in_terms
theorem D__law_n01_in_terms (c : C K mg) : Def P w K mg base (xx K mg) "_law_n01_in_terms" 2 2 m__law_n01_in_terms := by
  obtain ⟨fd, F⟩ := c.d.def_ 21
  exact def_ok F (c.glo 38) sc__law_n01_in_terms (fun _ _ _ _ _ _ us hl => match us, hl with | [_, _], _ => rfl) (fun cdv A outer s H E hr => ⟨_, db_cons (ds_set 2 sc__law_n01_in_terms.nd (de_call (D__law_n01_greatest_common c) hr (by decide) takesF (da_cons (de_if (dt_cmp c_gt (de_var 0) (de_int)) (de_var 0) (de_neg (de_var 0))) (da_cons (de_var 1) (da_nil)))))
  (db_one (ds_ret (de_tup (da_cons (de_div (de_var 0) (de_var 2)) (da_cons (de_div (de_var 1) (de_var 2)) (da_nil))))))⟩)
/-! fr: 0 top, 1 bottom, 2 part -/
abbrev N_fr : List Str := ["top", "bottom", "part"]
theorem sc_fr : FnScope N_fr ["top", "bottom"] (defScope (top 12)) := ⟨rfl, rfl, rfl, by decide +kernel, rfl, by decide +kernel, by decide +kernel⟩
theorem D_fr (c : C K mg) : Def P w K mg base (xx K mg) "fr" 2 1 m_fr := by
  obtain ⟨fd, F⟩ := c.d.def_ 22
  exact def_ok F (c.glo 39) sc_fr (fun _ _ _ _ _ _ us hl => match us, hl with | [_, _], _ => rfl) (fun cdv A outer s H E hr => ⟨_, db_cons (ds_set 2 sc_fr.nd (de_gcd (c.blt 1) (da_cons (de_var 0) (da_cons (de_var 1) (da_nil)))))
  (db_cons (ds_set 2 sc_fr.nd (de_if (dt_cmp c_lt (de_var 1) (de_int)) (de_neg (de_var 2)) (de_var 2)))
  (db_one (ds_ret (de_tup (da_cons (de_div (de_var 0) (de_var 2)) (da_cons (de_div (de_var 1) (de_var 2)) (da_nil)))))))⟩)
/-! fadd: 0 a, 1 b -/
abbrev N_fadd : List Str := ["a", "b"]
theorem sc_fadd : FnScope N_fadd ["a", "b"] (defScope (top 13)) := ⟨rfl, rfl, rfl, by decide +kernel, rfl, by decide +kernel, by decide +kernel⟩
theorem D_fadd (c : C K mg) : Def P w K mg base (xx K mg) "fadd" 2 2 m_fadd := by
  obtain ⟨fd, F⟩ := c.d.def_ 23
  exact def_ok F (c.glo 40) sc_fadd (fun _ _ _ _ _ _ us hl => match us, hl with | [_, _], _ => rfl) (fun cdv A outer s H E hr => ⟨_, db_one (ds_ret (de_call (D_fr c) hr (by decide) takesF (da_cons (de_add rfl (de_mul (de_ix rfl (de_var 0) (de_int)) (de_ix rfl (de_var 1) (de_int))) (de_mul (de_ix rfl (de_var 1) (de_int)) (de_ix rfl (de_var 0) (de_int)))) (da_cons (de_mul (de_ix rfl (de_var 0) (de_int)) (de_ix rfl (de_var 1) (de_int))) (da_nil)))))⟩)
/-! plus: 0 a, 1 b -/
abbrev N_plus : List Str := ["a", "b"]
theorem sc_plus : FnScope N_plus ["a", "b"] (defScope (top 23)) := ⟨rfl, rfl, rfl, by decide +kernel, rfl, by decide +kernel, by decide +kernel⟩
theorem D_plus (c : C K mg) : Def P w K mg base (xx K mg) "plus" 2 4 m_plus := by
  obtain ⟨fd, F⟩ := c.d.def_ 24
  exact def_ok F (c.glo 41) sc_plus (fun _ _ _ _ _ _ us hl => match us, hl with | [_, _], _ => rfl) (fun cdv A outer s H E hr => ⟨_, db_cons (ds_expr (de_call (D_made_fraction c) hr (by decide) takesF (da_cons (de_var 0) (da_nil))))
  (db_cons (ds_expr (de_call (D_made_fraction c) hr (by decide) takesF (da_cons (de_var 1) (da_nil))))
  (db_one (ds_ret (de_call (D_fadd c) hr (by decide) takesF (da_cons (de_var 0) (da_cons (de_var 1) (da_nil)))))))⟩)
/-! fsub: 0 a, 1 b -/
abbrev N_fsub : List Str := ["a", "b"]
theorem sc_fsub : FnScope N_fsub ["a", "b"] (defScope (top 14)) := ⟨rfl, rfl, rfl, by decide +kernel, rfl, by decide +kernel, by decide +kernel⟩
theorem D_fsub (c : C K mg) : Def P w K mg base (xx K mg) "fsub" 2 2 m_fsub := by
  obtain ⟨fd, F⟩ := c.d.def_ 25
  exact def_ok F (c.glo 42) sc_fsub (fun _ _ _ _ _ _ us hl => match us, hl with | [_, _], _ => rfl) (fun cdv A outer s H E hr => ⟨_, db_one (ds_ret (de_call (D_fr c) hr (by decide) takesF (da_cons (de_sub (de_mul (de_ix rfl (de_var 0) (de_int)) (de_ix rfl (de_var 1) (de_int))) (de_mul (de_ix rfl (de_var 1) (de_int)) (de_ix rfl (de_var 0) (de_int)))) (da_cons (de_mul (de_ix rfl (de_var 0) (de_int)) (de_ix rfl (de_var 1) (de_int))) (da_nil)))))⟩)
/-! minus: 0 a, 1 b -/
abbrev N_minus : List Str := ["a", "b"]
theorem sc_minus : FnScope N_minus ["a", "b"] (defScope (top 24)) := ⟨rfl, rfl, rfl, by decide +kernel, rfl, by decide +kernel, by decide +kernel⟩
theorem D_minus (c : C K mg) : Def P w K mg base (xx K mg) "minus" 2 4 m_minus := by
  obtain ⟨fd, F⟩ := c.d.def_ 26
  exact def_ok F (c.glo 43) sc_minus (fun _ _ _ _ _ _ us hl => match us, hl with | [_, _], _ => rfl) (fun cdv A outer s H E hr => ⟨_, db_cons (ds_expr (de_call (D_made_fraction c) hr (by decide) takesF (da_cons (de_var 0) (da_nil))))
  (db_cons (ds_expr (de_call (D_made_fraction c) hr (by decide) takesF (da_cons (de_var 1) (da_nil))))
  (db_one (ds_ret (de_call (D_fsub c) hr (by decide) takesF (da_cons (de_var 0) (da_cons (de_var 1) (da_nil)))))))⟩)
/-! fless: 0 a, 1 b -/
abbrev N_fless : List Str := ["a", "b"]
theorem sc_fless : FnScope N_fless ["a", "b"] (defScope (top 15)) := ⟨rfl, rfl, rfl, by decide +kernel, rfl, by decide +kernel, by decide +kernel⟩
theorem D_fless (c : C K mg) : Def P w K mg base (xx K mg) "fless" 2 1 m_fless := by
  obtain ⟨fd, F⟩ := c.d.def_ 27
  exact def_ok F (c.glo 44) sc_fless (fun _ _ _ _ _ _ us hl => match us, hl with | [_, _], _ => rfl) (fun cdv A outer s H E hr => ⟨_, db_one (ds_ret (de_cmp c_lt (de_mul (de_ix rfl (de_var 0) (de_int)) (de_ix rfl (de_var 1) (de_int))) (de_mul (de_ix rfl (de_var 1) (de_int)) (de_ix rfl (de_var 0) (de_int)))))⟩)
/-! at_most: 0 a, 1 b -/
abbrev N_at_most : List Str := ["a", "b"]
theorem sc_at_most : FnScope N_at_most ["a", "b"] (defScope (top 25)) := ⟨rfl, rfl, rfl, by decide +kernel, rfl, by decide +kernel, by decide +kernel⟩
theorem D_at_most (c : C K mg) : Def P w K mg base (xx K mg) "at_most" 2 4 m_at_most := by
  obtain ⟨fd, F⟩ := c.d.def_ 28
  exact def_ok F (c.glo 45) sc_at_most (fun _ _ _ _ _ _ us hl => match us, hl with | [_, _], _ => rfl) (fun cdv A outer s H E hr => ⟨_, db_cons (ds_expr (de_call (D_made_fraction c) hr (by decide) takesF (da_cons (de_var 0) (da_nil))))
  (db_cons (ds_expr (de_call (D_made_fraction c) hr (by decide) takesF (da_cons (de_var 1) (da_nil))))
  (db_one (ds_ret (de_not (de_call (D_fless c) hr (by decide) takesF (da_cons (de_var 1) (da_cons (de_var 0) (da_nil))))))))⟩)
/-! _law_n01_sums_right: 0 jar, 1 a, 2 b, 3 owed, 4 told_now, 5 back -/
abbrev N__law_n01_sums_right : List Str := ["jar", "a", "b", "owed", "told_now", "back"]
theorem sc__law_n01_sums_right : FnScope N__law_n01_sums_right ["jar"] (defScope (top 41)) := ⟨rfl, rfl, rfl, by decide +kernel, rfl, by decide +kernel, by decide +kernel⟩
/-! _law_n01_sums_right: 0 jar, 1 a, 2 b, 3 owed, 4 told_now, 5 back -/
def g__law_n01_sums_right : Vr → Store → O :=
  gSeq (gAsg (fN mkTup (fCons (fCall m__law_n01_fraction (fCons (fVar 0) (fNil))) (fCons (fCall m__law_n01_fraction (fCons (fVar 0) (fNil))) (fNil)))) (aTup 2 (aCons (aName 1) (aCons (aName 2) (aNil)))))
  (gSeq (gSet 3 (fN mkLoc (fCons (fCall m__law_n01_in_terms (fCons (f2 uAdd (f2 uMul (f2 uIx (fVar 1) (fC (.d (.int 0)))) (f2 uIx (fVar 2) (fC (.d (.int 1))))) (f2 uMul (f2 uIx (fVar 2) (fC (.d (.int 0)))) (f2 uIx (fVar 1) (fC (.d (.int 1)))))) (fCons (f2 uMul (f2 uIx (fVar 1) (fC (.d (.int 1)))) (f2 uIx (fVar 2) (fC (.d (.int 1))))) (fNil)))) (fNil))))
  (gSeq (gDrop (fML uApp (fVar 3) (fCons (fCall m__law_n01_in_terms (fCons (f2 uSub (f2 uMul (f2 uIx (fVar 1) (fC (.d (.int 0)))) (f2 uIx (fVar 2) (fC (.d (.int 1))))) (f2 uMul (f2 uIx (fVar 2) (fC (.d (.int 0)))) (f2 uIx (fVar 1) (fC (.d (.int 1)))))) (fCons (f2 uMul (f2 uIx (fVar 1) (fC (.d (.int 1)))) (f2 uIx (fVar 2) (fC (.d (.int 1))))) (fNil)))) (fNil))))
  (gSeq (gDrop (fML uApp (fVar 3) (fCons (f2 uLe (f2 uMul (f2 uIx (fVar 1) (fC (.d (.int 0)))) (f2 uIx (fVar 2) (fC (.d (.int 1))))) (f2 uMul (f2 uIx (fVar 2) (fC (.d (.int 0)))) (f2 uIx (fVar 1) (fC (.d (.int 1)))))) (fNil))))
  (gSeq (gSet 4 (fN mkLoc (fCons (fLam 5 gh__law_n01_heard (fN mkLst (fCons (fCall m_plus (fCons (fVar 1) (fCons (fVar 2) (fNil)))) (fCons (fCall m_minus (fCons (fVar 1) (fCons (fVar 2) (fNil)))) (fCons (fCall m_at_most (fCons (fVar 1) (fCons (fVar 2) (fNil)))) (fNil)))))) (fNil))))
  (gSeq (gDrop (fML uApp (fVar 4) (fCons (fLam 5 gh__law_n01_heard (fN mkLst (fCons (fCall m_plus (fCons (fVar 2) (fCons (fVar 1) (fNil)))) (fCons (fCall m_minus (fCons (fVar 1) (fCons (fVar 1) (fNil)))) (fCons (fCall m_at_most (fCons (fVar 1) (fCons (fVar 1) (fNil)))) (fCons (fCall m_plus (fCons (fCall m_minus (fCons (fVar 1) (fCons (fVar 2) (fNil)))) (fCons (fVar 2) (fNil)))) (fNil))))))) (fNil))))
  (gSeq (gDrop (fML uApp (fVar 4) (fCons (fLam 5 gh__law_n01_heard (fN mkLst (fCons (fCall m_made_fraction (fCons (fVar 1) (fNil))) (fCons (fCall m_minus (fCons (fCall m_minus (fCons (fVar 1) (fCons (fVar 2) (fNil)))) (fCons (fVar 1) (fNil)))) (fNil))))) (fNil))))
  (gSeq (gSet 5 (fN mkLst (fCons (f2 uIx (fVar 3) (fC (.d (.int 0)))) (fCons (fN mkTup (fCons (fC (.d (.int 0))) (fCons (fC (.d (.int 1))) (fNil)))) (fCons (fC (.d (.bool true))) (fCons (fVar 1) (fNil)))))))
  (gRet (fCall m__law_op_same (fCons (fVar 4) (fCons (fN mkLst (fCons (fN mkTup (fCons (fC (.d (.str "told"))) (fCons (fVar 3) (fNil)))) (fCons (fN mkTup (fCons (fC (.d (.str "told"))) (fCons (fVar 5) (fNil)))) (fCons (fN mkTup (fCons (fC (.d (.str "told"))) (fCons (fN mkLst (fCons (fVar 1) (fCons (fN mkTup (fCons (f1 uNeg (f2 uIx (fVar 2) (fC (.d (.int 0))))) (fCons (f2 uIx (fVar 2) (fC (.d (.int 1)))) (fNil)))) (fNil)))) (fNil)))) (fNil))))) (fNil))))))))))))
def m__law_n01_sums_right : List U → Store → R U := runD 6 g__law_n01_sums_right
theorem D__law_n01_sums_right (c : C K mg) (hT : ∀ p ∈ tf, LamX.TabB base mg (He.cT K p).1 (He.cT K p).2) : Def P w K mg base (xx K mg) "_law_n01_sums_right" 1 7 m__law_n01_sums_right := by
  obtain ⟨fd, F⟩ := c.d.def_ 29
  exact def_okC F (c.glo 46) sc__law_n01_sums_right (fun _ _ _ _ _ _ us hl => match us, hl with | [_], _ => rfl) (fun cdv A outer s H E hcd hr => ⟨_, db_cons (ds_asg (de_tup (da_cons (de_call (D__law_n01_fraction c) hr (by decide) takesF (da_cons (de_var 0) (da_nil))) (da_cons (de_call (D__law_n01_fraction c) hr (by decide) takesF (da_cons (de_var 0) (da_nil))) (da_nil)))) (dg_tup rfl rfl (dgs_cons (dg_name 1 sc__law_n01_sums_right.nd) (dgs_cons (dg_name 2 sc__law_n01_sums_right.nd) (dgs_nil)))))
  (db_cons (ds_set 3 sc__law_n01_sums_right.nd (de_loc (da_cons (de_call (D__law_n01_in_terms c) hr (by decide) takesF (da_cons (de_add rfl (de_mul (de_ix rfl (de_var 1) (de_int)) (de_ix rfl (de_var 2) (de_int))) (de_mul (de_ix rfl (de_var 2) (de_int)) (de_ix rfl (de_var 1) (de_int)))) (da_cons (de_mul (de_ix rfl (de_var 1) (de_int)) (de_ix rfl (de_var 2) (de_int))) (da_nil)))) (da_nil))))
  (db_cons (ds_expr (de_append rfl (de_var 3) (da_cons (de_call (D__law_n01_in_terms c) hr (by decide) takesF (da_cons (de_sub (de_mul (de_ix rfl (de_var 1) (de_int)) (de_ix rfl (de_var 2) (de_int))) (de_mul (de_ix rfl (de_var 2) (de_int)) (de_ix rfl (de_var 1) (de_int)))) (da_cons (de_mul (de_ix rfl (de_var 1) (de_int)) (de_ix rfl (de_var 2) (de_int))) (da_nil)))) (da_nil))))
  (db_cons (ds_expr (de_append rfl (de_var 3) (da_cons (de_cmp c_le (de_mul (de_ix rfl (de_var 1) (de_int)) (de_ix rfl (de_var 2) (de_int))) (de_mul (de_ix rfl (de_var 2) (de_int)) (de_ix rfl (de_var 1) (de_int)))) (da_nil))))
  (db_cons (ds_set 4 sc__law_n01_sums_right.nd (de_loc (da_cons (de_lam (k := 4) rfl rfl (fun _ _ _ z => z) (H__law_n01_heard c) (hr.mono (by decide)) takesF (hT _ (by decide +kernel : (("_law_n01_sums_right", none) : He.Defn) ∈ tf)) hcd (tabs_mem (by decide +kernel : (("_law_n01_sums_right", none) : He.Defn) ∈ tf)) (tabs_u (c.tabs 2) (by decide +kernel : (("_law_n01_sums_right", none) : He.Defn) ∈ tf)) (LamX.lamS_by (by kernel_rfl)) (fun _ _ _ _ _ _ _ hr => cE (de_lst (da_cons (de_call (D_plus c) hr (by decide) takesL (da_cons (de_var 1) (da_cons (de_var 2) (da_nil)))) (da_cons (de_call (D_minus c) hr (by decide) takesL (da_cons (de_var 1) (da_cons (de_var 2) (da_nil)))) (da_cons (de_call (D_at_most c) hr (by decide) takesL (da_cons (de_var 1) (da_cons (de_var 2) (da_nil)))) (da_nil))))))) (da_nil))))
  (db_cons (ds_expr (de_append rfl (de_var 4) (da_cons (de_lam (k := 4) rfl rfl (fun _ _ _ z => z) (H__law_n01_heard c) (hr.mono (by decide)) takesF (hT _ (by decide +kernel : (("_law_n01_sums_right", none) : He.Defn) ∈ tf)) hcd (tabs_mem (by decide +kernel : (("_law_n01_sums_right", none) : He.Defn) ∈ tf)) (tabs_u (c.tabs 2) (by decide +kernel : (("_law_n01_sums_right", none) : He.Defn) ∈ tf)) (LamX.lamS_by (by kernel_rfl)) (fun _ _ _ _ _ _ _ hr => cE (de_lst (da_cons (de_call (D_plus c) hr (by decide) takesL (da_cons (de_var 2) (da_cons (de_var 1) (da_nil)))) (da_cons (de_call (D_minus c) hr (by decide) takesL (da_cons (de_var 1) (da_cons (de_var 1) (da_nil)))) (da_cons (de_call (D_at_most c) hr (by decide) takesL (da_cons (de_var 1) (da_cons (de_var 1) (da_nil)))) (da_cons (de_call (D_plus c) hr (by decide) takesL (da_cons (de_call (D_minus c) hr (by decide) takesL (da_cons (de_var 1) (da_cons (de_var 2) (da_nil)))) (da_cons (de_var 2) (da_nil)))) (da_nil)))))))) (da_nil))))
  (db_cons (ds_expr (de_append rfl (de_var 4) (da_cons (de_lam (k := 4) rfl rfl (fun _ _ _ z => z) (H__law_n01_heard c) (hr.mono (by decide)) takesF (hT _ (by decide +kernel : (("_law_n01_sums_right", none) : He.Defn) ∈ tf)) hcd (tabs_mem (by decide +kernel : (("_law_n01_sums_right", none) : He.Defn) ∈ tf)) (tabs_u (c.tabs 2) (by decide +kernel : (("_law_n01_sums_right", none) : He.Defn) ∈ tf)) (LamX.lamS_by (by kernel_rfl)) (fun _ _ _ _ _ _ _ hr => cE (de_lst (da_cons (de_call (D_made_fraction c) hr (by decide) takesL (da_cons (de_var 1) (da_nil))) (da_cons (de_call (D_minus c) hr (by decide) takesL (da_cons (de_call (D_minus c) hr (by decide) takesL (da_cons (de_var 1) (da_cons (de_var 2) (da_nil)))) (da_cons (de_var 1) (da_nil)))) (da_nil)))))) (da_nil))))
  (db_cons (ds_set 5 sc__law_n01_sums_right.nd (de_lst (da_cons (de_ix rfl (de_var 3) (de_int)) (da_cons (de_tup (da_cons (de_int) (da_cons (de_int) (da_nil)))) (da_cons (de_bl) (da_cons (de_var 1) (da_nil)))))))
  (db_one (ds_ret (de_call (D__law_op_same c) hr (by decide) takesF (da_cons (de_var 4) (da_cons (de_lst (da_cons (de_tup (da_cons (de_str) (da_cons (de_var 3) (da_nil)))) (da_cons (de_tup (da_cons (de_str) (da_cons (de_var 5) (da_nil)))) (da_cons (de_tup (da_cons (de_str) (da_cons (de_lst (da_cons (de_var 1) (da_cons (de_tup (da_cons (de_neg (de_ix rfl (de_var 2) (de_int))) (da_cons (de_ix rfl (de_var 2) (de_int)) (da_nil)))) (da_nil)))) (da_nil)))) (da_nil))))) (da_nil)))))))))))))⟩)
/-! _law_n01_refused_right: 0 jar, 1 odd, 2 other, 3 right, 4 told_now -/
abbrev N__law_n01_refused_right : List Str := ["jar", "odd", "other", "right", "told_now"]
theorem sc__law_n01_refused_right : FnScope N__law_n01_refused_right ["jar"] (defScope (top 43)) := ⟨rfl, rfl, rfl, by decide +kernel, rfl, by decide +kernel, by decide +kernel⟩
/-! _law_n01_refused_right: 0 jar, 1 odd, 2 other, 3 right, 4 told_now -/
def g__law_n01_refused_right : Vr → Store → O :=
  gSeq (gAsg (fN mkTup (fCons (fCall m__law_n01_odd (fCons (fVar 0) (fNil))) (fCons (fCall m__law_n01_odd (fCons (fVar 0) (fNil))) (fCons (fCall m__law_n01_fraction (fCons (fVar 0) (fNil))) (fNil))))) (aTup 3 (aCons (aName 1) (aCons (aName 2) (aCons (aName 3) (aNil))))))
  (gSeq (gSet 4 (fN mkLoc (fCons (fLam 5 gh__law_n01_heard (fCall m_plus (fCons (fVar 1) (fCons (fVar 2) (fNil))))) (fNil))))
  (gSeq (gDrop (fML uApp (fVar 4) (fCons (fLam 5 gh__law_n01_heard (fCall m_minus (fCons (fVar 1) (fCons (fVar 2) (fNil))))) (fNil))))
  (gSeq (gDrop (fML uApp (fVar 4) (fCons (fLam 5 gh__law_n01_heard (fCall m_at_most (fCons (fVar 1) (fCons (fVar 2) (fNil))))) (fNil))))
  (gSeq (gDrop (fML uApp (fVar 4) (fCons (fLam 5 gh__law_n01_heard (fCall m_plus (fCons (fVar 3) (fCons (fVar 2) (fNil))))) (fNil))))
  (gSeq (gDrop (fML uApp (fVar 4) (fCons (fLam 5 gh__law_n01_heard (fCall m_minus (fCons (fVar 3) (fCons (fVar 2) (fNil))))) (fNil))))
  (gSeq (gDrop (fML uApp (fVar 4) (fCons (fLam 5 gh__law_n01_heard (fCall m_at_most (fCons (fVar 3) (fCons (fVar 2) (fNil))))) (fNil))))
  (gRet (fCall m__law_op_same (fCons (fVar 4) (fCons (f2 uAdd (f2 uMul (fN mkLst (fCons (fN mkTup (fCons (fC (.d (.str "BadFraction"))) (fCons (fVar 1) (fNil)))) (fNil))) (fC (.d (.int 3)))) (f2 uMul (fN mkLst (fCons (fN mkTup (fCons (fC (.d (.str "BadFraction"))) (fCons (fVar 2) (fNil)))) (fNil))) (fC (.d (.int 3))))) (fNil)))))))))))
def m__law_n01_refused_right : List U → Store → R U := runD 5 g__law_n01_refused_right
theorem D__law_n01_refused_right (c : C K mg) (hT : ∀ p ∈ tf, LamX.TabB base mg (He.cT K p).1 (He.cT K p).2) : Def P w K mg base (xx K mg) "_law_n01_refused_right" 1 7 m__law_n01_refused_right := by
  obtain ⟨fd, F⟩ := c.d.def_ 30
  exact def_okC F (c.glo 47) sc__law_n01_refused_right (fun _ _ _ _ _ _ us hl => match us, hl with | [_], _ => rfl) (fun cdv A outer s H E hcd hr => ⟨_, db_cons (ds_asg (de_tup (da_cons (de_call (D__law_n01_odd c) hr (by decide) takesF (da_cons (de_var 0) (da_nil))) (da_cons (de_call (D__law_n01_odd c) hr (by decide) takesF (da_cons (de_var 0) (da_nil))) (da_cons (de_call (D__law_n01_fraction c) hr (by decide) takesF (da_cons (de_var 0) (da_nil))) (da_nil))))) (dg_tup rfl rfl (dgs_cons (dg_name 1 sc__law_n01_refused_right.nd) (dgs_cons (dg_name 2 sc__law_n01_refused_right.nd) (dgs_cons (dg_name 3 sc__law_n01_refused_right.nd) (dgs_nil))))))
  (db_cons (ds_set 4 sc__law_n01_refused_right.nd (de_loc (da_cons (de_lam (k := 4) rfl rfl (fun _ _ _ z => z) (H__law_n01_heard c) (hr.mono (by decide)) takesF (hT _ (by decide +kernel : (("_law_n01_refused_right", none) : He.Defn) ∈ tf)) hcd (tabs_mem (by decide +kernel : (("_law_n01_refused_right", none) : He.Defn) ∈ tf)) (tabs_u (c.tabs 2) (by decide +kernel : (("_law_n01_refused_right", none) : He.Defn) ∈ tf)) (LamX.lamS_by (by kernel_rfl)) (fun _ _ _ _ _ _ _ hr => cE (de_call (D_plus c) hr (by decide) takesL (da_cons (de_var 1) (da_cons (de_var 2) (da_nil)))))) (da_nil))))
  (db_cons (ds_expr (de_append rfl (de_var 4) (da_cons (de_lam (k := 4) rfl rfl (fun _ _ _ z => z) (H__law_n01_heard c) (hr.mono (by decide)) takesF (hT _ (by decide +kernel : (("_law_n01_refused_right", none) : He.Defn) ∈ tf)) hcd (tabs_mem (by decide +kernel : (("_law_n01_refused_right", none) : He.Defn) ∈ tf)) (tabs_u (c.tabs 2) (by decide +kernel : (("_law_n01_refused_right", none) : He.Defn) ∈ tf)) (LamX.lamS_by (by kernel_rfl)) (fun _ _ _ _ _ _ _ hr => cE (de_call (D_minus c) hr (by decide) takesL (da_cons (de_var 1) (da_cons (de_var 2) (da_nil)))))) (da_nil))))
  (db_cons (ds_expr (de_append rfl (de_var 4) (da_cons (de_lam (k := 4) rfl rfl (fun _ _ _ z => z) (H__law_n01_heard c) (hr.mono (by decide)) takesF (hT _ (by decide +kernel : (("_law_n01_refused_right", none) : He.Defn) ∈ tf)) hcd (tabs_mem (by decide +kernel : (("_law_n01_refused_right", none) : He.Defn) ∈ tf)) (tabs_u (c.tabs 2) (by decide +kernel : (("_law_n01_refused_right", none) : He.Defn) ∈ tf)) (LamX.lamS_by (by kernel_rfl)) (fun _ _ _ _ _ _ _ hr => cE (de_call (D_at_most c) hr (by decide) takesL (da_cons (de_var 1) (da_cons (de_var 2) (da_nil)))))) (da_nil))))
  (db_cons (ds_expr (de_append rfl (de_var 4) (da_cons (de_lam (k := 4) rfl rfl (fun _ _ _ z => z) (H__law_n01_heard c) (hr.mono (by decide)) takesF (hT _ (by decide +kernel : (("_law_n01_refused_right", none) : He.Defn) ∈ tf)) hcd (tabs_mem (by decide +kernel : (("_law_n01_refused_right", none) : He.Defn) ∈ tf)) (tabs_u (c.tabs 2) (by decide +kernel : (("_law_n01_refused_right", none) : He.Defn) ∈ tf)) (LamX.lamS_by (by kernel_rfl)) (fun _ _ _ _ _ _ _ hr => cE (de_call (D_plus c) hr (by decide) takesL (da_cons (de_var 3) (da_cons (de_var 2) (da_nil)))))) (da_nil))))
  (db_cons (ds_expr (de_append rfl (de_var 4) (da_cons (de_lam (k := 4) rfl rfl (fun _ _ _ z => z) (H__law_n01_heard c) (hr.mono (by decide)) takesF (hT _ (by decide +kernel : (("_law_n01_refused_right", none) : He.Defn) ∈ tf)) hcd (tabs_mem (by decide +kernel : (("_law_n01_refused_right", none) : He.Defn) ∈ tf)) (tabs_u (c.tabs 2) (by decide +kernel : (("_law_n01_refused_right", none) : He.Defn) ∈ tf)) (LamX.lamS_by (by kernel_rfl)) (fun _ _ _ _ _ _ _ hr => cE (de_call (D_minus c) hr (by decide) takesL (da_cons (de_var 3) (da_cons (de_var 2) (da_nil)))))) (da_nil))))
  (db_cons (ds_expr (de_append rfl (de_var 4) (da_cons (de_lam (k := 4) rfl rfl (fun _ _ _ z => z) (H__law_n01_heard c) (hr.mono (by decide)) takesF (hT _ (by decide +kernel : (("_law_n01_refused_right", none) : He.Defn) ∈ tf)) hcd (tabs_mem (by decide +kernel : (("_law_n01_refused_right", none) : He.Defn) ∈ tf)) (tabs_u (c.tabs 2) (by decide +kernel : (("_law_n01_refused_right", none) : He.Defn) ∈ tf)) (LamX.lamS_by (by kernel_rfl)) (fun _ _ _ _ _ _ _ hr => cE (de_call (D_at_most c) hr (by decide) takesL (da_cons (de_var 3) (da_cons (de_var 2) (da_nil)))))) (da_nil))))
  (db_one (ds_ret (de_call (D__law_op_same c) hr (by decide) takesF (da_cons (de_var 4) (da_cons (de_add rfl (de_mul (de_lst (da_cons (de_tup (da_cons (de_str) (da_cons (de_var 1) (da_nil)))) (da_nil))) (de_int)) (de_mul (de_lst (da_cons (de_tup (da_cons (de_str) (da_cons (de_var 2) (da_nil)))) (da_nil))) (de_int))) (da_nil))))))))))))⟩)
/-! _law_n01_whole: 0 jar, 1 go, 2 told_now, 3 owed, 4 one -/
abbrev N__law_n01_whole : List Str := ["jar", "go", "told_now", "owed", "one"]
theorem sc__law_n01_whole : FnScope N__law_n01_whole ["jar"] (defScope (top 44)) := ⟨rfl, rfl, rfl, by decide +kernel, rfl, by decide +kernel, by decide +kernel⟩
/-! _law_n01_whole: 0 jar, 1 go, 2 told_now, 3 owed, 4 one -/
def b1__law_n01_whole : Vr → Store → O :=
  gIf (fOrT (fNotT (fTst (fCall m__law_n01_sums_right (fCons (fVar 0) (fNil))))) (fNotT (fTst (fCall m__law_n01_refused_right (fCons (fVar 0) (fNil)))))) (gRet (fC (.d (.bool false)))) (gNx)
def e2__law_n01_whole : Vr → Store → R U :=
  fN mkTup (fCons (fC (.d (.str "told"))) (fCons (fVar 4) (fNil)))
def g__law_n01_whole : Vr → Store → O :=
  gSeq (gFor (sN sRng1 (fCons (fC (.d (.int 12))) (fNil))) (aName 1) (b1__law_n01_whole))
  (gSeq (gSet 2 (fN mkLoc (fCons (fLam 5 gh__law_n01_heard (fN mkLst (fCons (fCall m_plus (fCons (fN mkTup (fCons (fC (.d (.int 1))) (fCons (fC (.d (.int 2))) (fNil)))) (fCons (fN mkTup (fCons (fC (.d (.int 1))) (fCons (fC (.d (.int 3))) (fNil)))) (fNil)))) (fCons (fCall m_plus (fCons (fN mkTup (fCons (fC (.d (.int 1))) (fCons (fC (.d (.int 2))) (fNil)))) (fCons (fN mkTup (fCons (f1 uNeg (fC (.d (.int 1)))) (fCons (fC (.d (.int 2))) (fNil)))) (fNil)))) (fCons (fCall m_minus (fCons (fN mkTup (fCons (fC (.d (.int 1))) (fCons (fC (.d (.int 6))) (fNil)))) (fCons (fN mkTup (fCons (fC (.d (.int 2))) (fCons (fC (.d (.int 3))) (fNil)))) (fNil)))) (fNil)))))) (fNil))))
  (gSeq (gDrop (fML uApp (fVar 2) (fCons (fLam 5 gh__law_n01_heard (fN mkLst (fCons (fCall m_at_most (fCons (fN mkTup (fCons (fC (.d (.int 0))) (fCons (fC (.d (.int 1))) (fNil)))) (fCons (fN mkTup (fCons (f1 uNeg (fC (.d (.int 1)))) (fCons (fC (.d (.int 5))) (fNil)))) (fNil)))) (fCons (fCall m_plus (fCons (fN mkTup (fCons (fC (.d (.int 5))) (fCons (fC (.d (.int 6))) (fNil)))) (fCons (fN mkTup (fCons (fC (.d (.int 1))) (fCons (fC (.d (.int 6))) (fNil)))) (fNil)))) (fCons (fCall m_minus (fCons (fN mkTup (fCons (fC (.d (.int 0))) (fCons (fC (.d (.int 1))) (fNil)))) (fCons (fN mkTup (fCons (fC (.d (.int 3))) (fCons (fC (.d (.int 4))) (fNil)))) (fNil)))) (fNil)))))) (fNil))))
  (gSeq (gSet 3 (fN mkLst (fCons (fN mkLst (fCons (fN mkTup (fCons (fC (.d (.int 5))) (fCons (fC (.d (.int 6))) (fNil)))) (fCons (fN mkTup (fCons (fC (.d (.int 0))) (fCons (fC (.d (.int 1))) (fNil)))) (fCons (fN mkTup (fCons (f1 uNeg (fC (.d (.int 1)))) (fCons (fC (.d (.int 2))) (fNil)))) (fNil))))) (fCons (fN mkLst (fCons (fC (.d (.bool false))) (fCons (fN mkTup (fCons (fC (.d (.int 1))) (fCons (fC (.d (.int 1))) (fNil)))) (fCons (fN mkTup (fCons (f1 uNeg (fC (.d (.int 3)))) (fCons (fC (.d (.int 4))) (fNil)))) (fNil))))) (fNil)))))
  (gRet (fAndV (fCall m__law_op_same (fCons (fVar 2) (fCons (fLc (sSeq (fVar 3)) (aName 4) (fYes) (e2__law_n01_whole) [4]) (fNil)))) (fCall m__law_n01_forms_right (fCons (fVar 0) (fNil))))))))
def m__law_n01_whole : List U → Store → R U := runD 5 g__law_n01_whole
theorem D__law_n01_whole (c : C K mg) (hT : ∀ p ∈ tf, LamX.TabB base mg (He.cT K p).1 (He.cT K p).2) : Def P w K mg base (xx K mg) "_law_n01_whole" 1 8 m__law_n01_whole := by
  obtain ⟨fd, F⟩ := c.d.def_ 31
  exact def_okC F (c.glo 48) sc__law_n01_whole (fun _ _ _ _ _ _ us hl => match us, hl with | [_], _ => rfl) (fun cdv A outer s H E hcd hr => ⟨_, db_cons (ds_for (L2.passes_of rfl) rfl (di_rng1 (c.free 13) (da_cons (de_int) (da_nil))) (dg_name 1 sc__law_n01_whole.nd) (db_one (ds_if (dt_w (dw_or (dt_not (dt_val (de_call (D__law_n01_sums_right c hT) hr (by decide) takesF (da_cons (de_var 0) (da_nil))))) (dw_or1 (dt_not (dt_val (de_call (D__law_n01_refused_right c hT) hr (by decide) takesF (da_cons (de_var 0) (da_nil)))))))) (db_one (ds_ret (de_bl))) (db_nil))))
  (db_cons (ds_set 2 sc__law_n01_whole.nd (de_loc (da_cons (de_lam (k := 4) rfl rfl (fun _ _ _ z => z) (H__law_n01_heard c) (hr.mono (by decide)) takesF (hT _ (by decide +kernel : (("_law_n01_whole", none) : He.Defn) ∈ tf)) hcd (tabs_mem (by decide +kernel : (("_law_n01_whole", none) : He.Defn) ∈ tf)) (tabs_u (c.tabs 2) (by decide +kernel : (("_law_n01_whole", none) : He.Defn) ∈ tf)) (LamX.lamS_by (by kernel_rfl)) (fun _ _ _ _ _ _ _ hr => cE (de_lst (da_cons (de_call (D_plus c) hr (by decide) takesL (da_cons (de_tup (da_cons (de_int) (da_cons (de_int) (da_nil)))) (da_cons (de_tup (da_cons (de_int) (da_cons (de_int) (da_nil)))) (da_nil)))) (da_cons (de_call (D_plus c) hr (by decide) takesL (da_cons (de_tup (da_cons (de_int) (da_cons (de_int) (da_nil)))) (da_cons (de_tup (da_cons (de_neg (de_int)) (da_cons (de_int) (da_nil)))) (da_nil)))) (da_cons (de_call (D_minus c) hr (by decide) takesL (da_cons (de_tup (da_cons (de_int) (da_cons (de_int) (da_nil)))) (da_cons (de_tup (da_cons (de_int) (da_cons (de_int) (da_nil)))) (da_nil)))) (da_nil))))))) (da_nil))))
  (db_cons (ds_expr (de_append rfl (de_var 2) (da_cons (de_lam (k := 4) rfl rfl (fun _ _ _ z => z) (H__law_n01_heard c) (hr.mono (by decide)) takesF (hT _ (by decide +kernel : (("_law_n01_whole", none) : He.Defn) ∈ tf)) hcd (tabs_mem (by decide +kernel : (("_law_n01_whole", none) : He.Defn) ∈ tf)) (tabs_u (c.tabs 2) (by decide +kernel : (("_law_n01_whole", none) : He.Defn) ∈ tf)) (LamX.lamS_by (by kernel_rfl)) (fun _ _ _ _ _ _ _ hr => cE (de_lst (da_cons (de_call (D_at_most c) hr (by decide) takesL (da_cons (de_tup (da_cons (de_int) (da_cons (de_int) (da_nil)))) (da_cons (de_tup (da_cons (de_neg (de_int)) (da_cons (de_int) (da_nil)))) (da_nil)))) (da_cons (de_call (D_plus c) hr (by decide) takesL (da_cons (de_tup (da_cons (de_int) (da_cons (de_int) (da_nil)))) (da_cons (de_tup (da_cons (de_int) (da_cons (de_int) (da_nil)))) (da_nil)))) (da_cons (de_call (D_minus c) hr (by decide) takesL (da_cons (de_tup (da_cons (de_int) (da_cons (de_int) (da_nil)))) (da_cons (de_tup (da_cons (de_int) (da_cons (de_int) (da_nil)))) (da_nil)))) (da_nil))))))) (da_nil))))
  (db_cons (ds_set 3 sc__law_n01_whole.nd (de_lst (da_cons (de_lst (da_cons (de_tup (da_cons (de_int) (da_cons (de_int) (da_nil)))) (da_cons (de_tup (da_cons (de_int) (da_cons (de_int) (da_nil)))) (da_cons (de_tup (da_cons (de_neg (de_int)) (da_cons (de_int) (da_nil)))) (da_nil))))) (da_cons (de_lst (da_cons (de_bl) (da_cons (de_tup (da_cons (de_int) (da_cons (de_int) (da_nil)))) (da_cons (de_tup (da_cons (de_neg (de_int)) (da_cons (de_int) (da_nil)))) (da_nil))))) (da_nil)))))
  (db_one (ds_ret (de_and (de_call (D__law_op_same c) hr (by decide) takesF (da_cons (de_var 2) (da_cons (de_lc (own := [("one", 4)]) rfl sc__law_n01_whole.nd (di_seq rfl (de_var 3)) (blkOk_by (by kernel_rfl)) (fun _ _ _ _ _ => dg_name 4 sc__law_n01_whole.nd) (gm_name) (fun _ _ _ _ _ => cTs (dts_nil)) (fun _ _ _ _ _ => cE (de_tup (da_cons (de_str) (da_cons (de_var 4) (da_nil)))))) (da_nil)))) (de_one (de_call (D__law_n01_forms_right c hT) hr (by decide) takesF (da_cons (de_var 0) (da_nil))))))))))⟩)
/-! _law_pool: 0 script, 1 digits, 2 stirred, 3 at, 4 cell -/
abbrev N__law_pool : List Str := ["script", "digits", "stirred", "at", "cell"]
theorem sc__law_pool : FnScope N__law_pool ["script"] (defScope (top 27)) := ⟨rfl, rfl, rfl, by decide +kernel, rfl, by decide +kernel, by decide +kernel⟩
theorem D__law_pool (c : C K mg) : Def P w K mg base (xx K mg) "_law_pool" 1 1 m__law_pool := by
  obtain ⟨fd, F⟩ := c.d.def_ 32
  exact def_ok F (c.glo 49) sc__law_pool (fun _ _ _ _ _ _ us hl => match us, hl with | [_], _ => rfl) (fun cdv A outer s H E hr => ⟨_, db_cons (ds_asg (de_tup (da_cons (de_int) (da_cons (de_int) (da_nil)))) (dg_tup rfl rfl (dgs_cons (dg_name 1 sc__law_pool.nd) (dgs_cons (dg_name 2 sc__law_pool.nd) (dgs_nil)))))
  (db_cons (ds_for (L2.passes_of rfl) rfl (di_rng1 (c.free 13) (da_cons (de_len rfl (c.free 12) (da_cons (de_var 0) (da_nil))) (da_nil))) (dg_name 3 sc__law_pool.nd) (db_cons (ds_set 4 sc__law_pool.nd (de_intc (c.free 6) (da_cons (de_max2 rfl (c.free 17) (da_cons (de_ix rfl (de_var 0) (de_var 3)) (da_cons (de_sub (de_neg (de_int)) (de_ix rfl (de_var 0) (de_var 3))) (da_nil)))) (da_nil))))
  (db_cons (ds_set 2 sc__law_pool.nd (de_mod (de_intc (c.free 6) (da_cons (de_add rfl (de_add rfl (de_mul (de_var 2) (de_int)) (de_mod (de_var 4) (de_int))) (de_int)) (da_nil))) (de_int)))
  (db_one (ds_set 1 sc__law_pool.nd (de_if (dt_w (dw_and (dt_cmp c_ge (de_var 4) (de_pow (de_int) (de_int))) (dw_and1 (dt_cmp c_lt (de_var 1) (de_pow (de_int) (de_int)))))) (de_intc (c.free 6) (da_cons (de_add rfl (de_mul (de_var 1) (de_pow (de_int) (de_int))) (de_mod (de_var 4) (de_pow (de_int) (de_int)))) (da_nil))) (de_var 1)))))))
  (db_one (ds_ret (de_loc (da_cons (de_var 1) (da_cons (de_var 2) (da_cons (de_int) (da_nil))))))))⟩)
/-! law: 0 script -/
abbrev N_law : List Str := ["script"]
theorem sc_law : FnScope N_law ["script"] (defScope (top 45)) := ⟨rfl, rfl, rfl, by decide +kernel, rfl, by decide +kernel, by decide +kernel⟩
/-! law: 0 script -/
def g_law : Vr → Store → O :=
  gTry0 (gRet (fCall m__law_n01_whole (fCons (fCall m__law_pool (fCons (fVar 0) (fNil))) (fNil))))
def m_law : List U → Store → R U := runD 1 g_law
theorem F_law (c : C K mg) (hT : ∀ p ∈ tf, LamX.TabB base mg (He.cT K p).1 (He.cT K p).2) {a : Addr} {fd : FuncData} (F : FunD K "law" "law" (defArgs (top 45)) (defBody (top 45)) (defScope (top 45)) [] [] a fd) : FnOk P w K mg base (L2N.CX P w) 9 a fd ["script"] (spOf (xx K mg) 1 m_law) :=
  def_fn F sc_law (fun cdv A outer s H E hr => ⟨_, db_one (ds_try0 rfl rfl ⟨rfl, by decide, .inl (c.glo 4)⟩ (fun _ _ ho => cB (db_one (ds_ret (de_call (D__law_n01_whole c hT) hr (by decide) takes0N (da_cons (de_call (D__law_pool c) hr (by decide) takes0N (da_cons (de_var 0) (da_nil))) (da_nil)))))) (fun _ _ _ => pss_one (ps_ret pe_bl)))⟩)
end
def loose0 : List Str := ["gcd", "__name__", "Refused", "BadFraction", "BadAmount", "BadSize", "whole", "PAIR", "MOST_AMOUNT", "MOST_SIZE", "MOST_BOTTOM", "fr", "fadd", "fsub", "fless", "is_number", "is_fraction", "is_amount", "is_size", "made_fraction", "made_amount", "made_size", "plus", "minus", "at_most", "_law_pool", "_law_take", "_law_one", "_law_op_is_whole", "_law_op_same"]
def loose1 : List Str := ["_law_op_frac", "_law_op_is_fraction", "_law_op_is_amount", "_law_op_is_size", "_law_n01_heard", "_law_n01_fraction", "_law_n01_greatest_common", "_law_n01_in_terms", "_law_n01_odd", "_law_n01_sums_right", "_law_n01_forms_right", "_law_n01_refused_right", "_law_n01_whole"]
def loose : List Str := loose0 ++ loose1
abbrev Rw : PySem.W.OpenRow := PySem.W.OpenLaw.row PySem.Challenge.rw_oneemptied_k01_fractions_and_their_worth
def exB (K : PySem.W.Frag) : Bool := xf.all fun f => f.ok K
abbrev hk : PySem.W.Hook := He.hookX 5 fa fn [] tf exB
def ob (s : PySem.W.SharedT) : He.AlX := He.obsX 5 fa fn [] tf exB (HandSHeadRun.getT s)
theorem ob_eq (s : PySem.W.SharedT) : ob s = hk.obs s.abs := He.obsX_eq (HandSHeadRun.getT_eq s)
theorem runs (w : World) : HandSHeadRun.RunEqI Rw (PySem.W.view Rw.prog [0, 45]) hk ob 6000 loose w := by
  unfold HandSHeadRun.RunEqI
  kernel_rfl
theorem at_law {w : World} {K : PySem.W.Frag} {h : Heap} {mg : Str → Option Value} {f : Addr} (X : K.In h) (G : h.Ns mainGlobals mg) (hf : mg ("law" : Str) = some (.ref f)) (c : He.SaysX fa fn [] tf exB w h K)
    (hm : ∀ ns : List Int, ns.length ≤ 63 → (∀ z ∈ ns, Builtin.Int.intBits z ≤ 1048576) → ∃ S', m_law [.rd (ns.map PyData.int)] [] = .ok (.d (.bool true)) S') :
    LamX.LawAtS PySem.Challenge.rw_oneemptied_k01_fractions_and_their_worth w K (L2N.CX (PySem.Challenge.rw_oneemptied_k01_fractions_and_their_worth).prog w) 9 63 "script" mg f h := by
  have k : C K mg := ⟨⟨h, X, G⟩, c.t.d, c.more⟩
  have e := hf.symm.trans (k.glo 51)
  cases e
  obtain ⟨fd, F⟩ := k.d.def_ 33
  have hb := FunD.bindsA (ps := ["script"]) F fun _ _ _ _ _ _ us hl => match us, hl with | [_], _ => rfl
  exact law_at X c (fun s v => hb s [v] rfl) hm fun base hT => F_law k hT F
end
end K01
section
open PySem PySem.W PySem.Calls PyProof.Rows
theorem K01.holds (hm : ∀ ns : List Int, ns.length ≤ 63 → (∀ z ∈ ns, Builtin.Int.intBits z ≤ 1048576) → ∃ S', K01.m_law [.rd (ns.map PyData.int)] [] = .ok (.d (.bool true)) S') : PySem.Challenge.rw_oneemptied_k01_fractions_and_their_worth.Holds := by
  w_on; o_law
  refine HandSHeadRun.head_imp (r := OpenLaw.row PySem.Challenge.rw_oneemptied_k01_fractions_and_their_worth) (q := view (OpenLaw.row PySem.Challenge.rw_oneemptied_k01_fractions_and_their_worth).prog [0, 45]) (H := K01.hk) (ob := K01.ob) (M := 6000) (loose := K01.loose) (d := HandSHeadRun.topDef (OpenLaw.row PySem.Challenge.rw_oneemptied_k01_fractions_and_their_worth).prog 45) (kwd := []) K01.ob_eq
    K01.runs (by kernel_rfl) (by kernel_rfl) (by kernel_rfl) (by rfl) (by first | assumption | decide +kernel) (by decide +kernel) ⟨rfl, rfl, rfl, rfl, rfl, by decide +kernel⟩ ?hw ?hc
  case hw => w_witness2
  case hc =>
    refine LamX.walk_ofTsE (l := PySem.Challenge.rw_oneemptied_k01_fractions_and_their_worth) (n := 63) (k := 9) (x := "script") (CX := fun w => L2N.CX (PySem.Challenge.rw_oneemptied_k01_fractions_and_their_worth).prog w) rfl (by decide) (by kernel_rfl) ⟨rfl, by decide, by decide⟩ ?F (fun w H s e s' z => Z.cx_never _ _ _ _ _ _ z)
    intro w mg fa h Y G hmg0
    obtain ⟨K, KX, c⟩ := Y
    have hmg : mg ("law" : PySem.Str) = some (.ref fa) := by
      have e : (HandSHeadRun.topDef (OpenLaw.row PySem.Challenge.rw_oneemptied_k01_fractions_and_their_worth).prog 45).name = ("law" : PySem.Str) := by kernel_rfl
      rw [← e]
      exact hmg0
    exact ⟨K, KX, K01.at_law KX G hmg c hm⟩
end


namespace K01
open PySem Z M
section
variable {S : Store} {th : Store → R U} {y : D} {c : Str}
theorem heard_ok (e : th S = .ok (.d y) S) : runD 5 (gh__law_n01_heard th) [.thk] S = .ok (.d (.tuple [.str "told", y])) S := by
  have h : fThk 0 th [some .thk, none, none, none, none] S = .ok (.d y) S := by
    unfold fThk thkR
    rw [e]
    rfl
  simp [gh__law_n01_heard, gTry, h]
theorem heard_BadAmount (e : th S = .exc "BadAmount" y S) : runD 5 (gh__law_n01_heard th) [.thk] S = .ok (.d (.tuple [.str "BadAmount", y])) S := by
  have h : fThk 0 th [some .thk, none, none, none, none] S = .exc "BadAmount" y S := by
    unfold fThk thkR
    rw [e]
    rfl
  have m0 : (("BadAmount" : Str) ∈ excs) = True := by simp [excs]
  have m1 : (("BadFraction" : Str) ∈ excs) = True := by simp [excs]
  have n1 : (("BadAmount" : Str) == ("BadFraction" : Str)) = false := by decide
  have m2 : (("BadSize" : Str) ∈ excs) = True := by simp [excs]
  have n2 : (("BadAmount" : Str) == ("BadSize" : Str)) = false := by decide
  have hj : ∀ S : Store, uJoin (.d (.str " ")) [.d (.list [.str "BadAmount"])] S = .ok (.d (.str "BadAmount")) S := fun S => rfl
  simp [gh__law_n01_heard, gTry, h, m0, m1, n1, m2, n2, uIsE, fML, fMS, isS, isL, viewL, uApp, uExt, viewM, f1, uWhat]
  simp [fLc, lcRun, lcLoop, sLst, lstD, seqD, frz, wipeU, R.bnd0, at_end, hj]
  rw [List.take_take]
  simp
theorem heard_BadFraction (e : th S = .exc "BadFraction" y S) : runD 5 (gh__law_n01_heard th) [.thk] S = .ok (.d (.tuple [.str "BadFraction", y])) S := by
  have h : fThk 0 th [some .thk, none, none, none, none] S = .exc "BadFraction" y S := by
    unfold fThk thkR
    rw [e]
    rfl
  have m0 : (("BadAmount" : Str) ∈ excs) = True := by simp [excs]
  have n0 : (("BadFraction" : Str) == ("BadAmount" : Str)) = false := by decide
  have m1 : (("BadFraction" : Str) ∈ excs) = True := by simp [excs]
  have m2 : (("BadSize" : Str) ∈ excs) = True := by simp [excs]
  have n2 : (("BadFraction" : Str) == ("BadSize" : Str)) = false := by decide
  have hj : ∀ S : Store, uJoin (.d (.str " ")) [.d (.list [.str "BadFraction"])] S = .ok (.d (.str "BadFraction")) S := fun S => rfl
  simp [gh__law_n01_heard, gTry, h, m0, n0, m1, m2, n2, uIsE, fML, fMS, isS, isL, viewL, uApp, uExt, viewM, f1, uWhat]
  simp [fLc, lcRun, lcLoop, sLst, lstD, seqD, frz, wipeU, R.bnd0, at_end, hj]
  rw [List.take_take]
  simp
theorem heard_BadSize (e : th S = .exc "BadSize" y S) : runD 5 (gh__law_n01_heard th) [.thk] S = .ok (.d (.tuple [.str "BadSize", y])) S := by
  have h : fThk 0 th [some .thk, none, none, none, none] S = .exc "BadSize" y S := by
    unfold fThk thkR
    rw [e]
    rfl
  have m0 : (("BadAmount" : Str) ∈ excs) = True := by simp [excs]
  have n0 : (("BadSize" : Str) == ("BadAmount" : Str)) = false := by decide
  have m1 : (("BadFraction" : Str) ∈ excs) = True := by simp [excs]
  have n1 : (("BadSize" : Str) == ("BadFraction" : Str)) = false := by decide
  have m2 : (("BadSize" : Str) ∈ excs) = True := by simp [excs]
  have hj : ∀ S : Store, uJoin (.d (.str " ")) [.d (.list [.str "BadSize"])] S = .ok (.d (.str "BadSize")) S := fun S => rfl
  simp [gh__law_n01_heard, gTry, h, m0, n0, m1, n1, m2, uIsE, fML, fMS, isS, isL, viewL, uApp, uExt, viewM, f1, uWhat]
  simp [fLc, lcRun, lcLoop, sLst, lstD, seqD, frz, wipeU, R.bnd0, at_end, hj]
  rw [List.take_take]
  simp
@[simp] theorem okE_d {y : D} : okE (some (.d y)) = true := rfl
@[simp] theorem okE_l {l : Nat} : okE (some (.loc l)) = true := rfl
@[simp] theorem okE_n : okE none = true := rfl
theorem lam_ok {fb : Vr → Store → R U} {ρ : Vr} (h : ρ.all okE = true) (e : fb ρ S = .ok (.d y) S) : fLam 5 gh__law_n01_heard fb ρ S = .ok (.d (.tuple [.str "told", y])) S := by
  unfold fLam
  rw [if_pos h]
  exact heard_ok e
theorem lam_BadAmount {fb : Vr → Store → R U} {ρ : Vr} (h : ρ.all okE = true) (e : fb ρ S = .exc "BadAmount" y S) : fLam 5 gh__law_n01_heard fb ρ S = .ok (.d (.tuple [.str "BadAmount", y])) S := by
  unfold fLam
  rw [if_pos h]
  exact heard_BadAmount e
theorem lam_BadFraction {fb : Vr → Store → R U} {ρ : Vr} (h : ρ.all okE = true) (e : fb ρ S = .exc "BadFraction" y S) : fLam 5 gh__law_n01_heard fb ρ S = .ok (.d (.tuple [.str "BadFraction", y])) S := by
  unfold fLam
  rw [if_pos h]
  exact heard_BadFraction e
theorem lam_BadSize {fb : Vr → Store → R U} {ρ : Vr} (h : ρ.all okE = true) (e : fb ρ S = .exc "BadSize" y S) : fLam 5 gh__law_n01_heard fb ρ S = .ok (.d (.tuple [.str "BadSize", y])) S := by
  unfold fLam
  rw [if_pos h]
  exact heard_BadSize e
/-! ### what is drawn -/
theorem bottoms {a : Int} (h1 : 1 ≤ a) (h2 : a ≤ 1000000) : ∀ x ∈ [PyData.int 1, .int 1, .int 2, .int 3, .int 7, .int 12, .int 1000, .int a], ∃ b : Int, x = .int b ∧ 1 ≤ b ∧ b ≤ 1000000 := by
  intro x hx
  simp only [List.mem_cons, List.not_mem_nil, or_false] at hx
  rcases hx with rfl | rfl | rfl | rfl | rfl | rfl | rfl | rfl
  all_goals exact ⟨_, rfl, by omega, by omega⟩
theorem tops {a b c : Int} (h1 : 1 ≤ a) (h2 : a ≤ 1000000) (h3 : 0 ≤ b) (h4 : b < 50) (h5 : 0 ≤ c) (h6 : c < 1000000000) : ∀ x ∈ [PyData.int 0, .int 1, .int a, .int b, .int c, .int 100000000000000000000], ∃ b : Int, x = .int b ∧ 0 ≤ b ∧ b ≤ 100000000000000000000 := by
  intro x hx
  simp only [List.mem_cons, List.not_mem_nil, or_false] at hx
  rcases hx with rfl | rfl | rfl | rfl | rfl | rfl
  all_goals exact ⟨_, rfl, by omega, by omega⟩
theorem s_fraction {l n : Nat} (hj : Jar S l n) (hn : n < 1000000) : ∃ (q : Rat) (S' : Store), Bd 80 q ∧ m__law_n01_fraction [.loc l] S = .ok (.d (pq q)) S' ∧ Jar S' l (n + 6) ∧ Kp l S S' := by
  obtain ⟨a, S1, e1, a1, a2, j1, k1⟩ := s_take (many := 1000000) hj (by decide) (by decide) (by omega)
  obtain ⟨x, S2, ⟨b, rfl, b1, b2⟩, e2, j2, k2⟩ := s_draw (bottoms (a := 1 + a) (by omega) (by omega)) j1 (by simp) (by simp) (by omega)
  obtain ⟨c, S3, e3, c1, c2, j3, k3⟩ := s_take (many := 50) j2 (by decide) (by decide) (by omega)
  obtain ⟨d, S4, e4, d1, d2, j4, k4⟩ := s_take (many := 1000000000) j3 (by decide) (by decide) (by omega)
  obtain ⟨x, S5, ⟨t, rfl, t1, t2⟩, e5, j5, k5⟩ := s_draw (tops b1 b2 c1 c2 d1 d2) j4 (by simp) (by simp) (by omega)
  obtain ⟨r, S6, e6, r1, r2, j6, k6⟩ := s_take (many := 3) j5 (by decide) (by decide) (by omega)
  have p6 : ∀ S : Store, uPow (.d (.int 10)) (.d (.int 6)) S = .ok (.d (.int 1000000)) S := fun S => by
    rw [pow_i (by decide) (by decide) (by decide)]; rfl
  have p9 : ∀ S : Store, uPow (.d (.int 10)) (.d (.int 9)) S = .ok (.d (.int 1000000000)) S := fun S => by
    rw [pow_i (by decide) (by decide) (by decide)]; rfl
  have p20 : ∀ S : Store, uPow (.d (.int 10)) (.d (.int 20)) S = .ok (.d (.int 100000000000000000000)) S := fun S => by
    rw [pow_i (by decide) (by decide) (by decide)]; rfl
  have kk := k1.trans (k2.trans (k3.trans (k4.trans (k5.trans k6))))
  have et : S6.take S.length = S6 := List.take_of_length_le (by rw [kk.len]; exact Nat.le_refl _)
  have fr : ∀ z : Int, z.natAbs ≤ 100000000000000000000 → M.m__law_op_frac [.d (.int z), .d (.int b)] S6 = .ok (.d (pq (Rat.divInt z b))) S6 ∧ Bd 80 (Rat.divInt z b) := fun z hz =>
    ⟨s_frac (n := 20) (by omega) (by omega) (by decide), divInt_bd (by omega) (by omega) (by omega)⟩
  by_cases hr : 0 < r
  · obtain ⟨f, hb⟩ := fr t (by omega)
    refine ⟨_, S6, hb, ?_, j6, kk⟩
    simp [m__law_n01_fraction, g__law_n01_fraction, p6, p9, p20, e1, e2, e3, e4, e5, e6, hr, f, et]
  · obtain ⟨f, hb⟩ := fr (-t) (by omega)
    refine ⟨_, S6, hb, ?_, j6, kk⟩
    simp [m__law_n01_fraction, g__law_n01_fraction, p6, p9, p20, e1, e2, e3, e4, e5, e6, hr, f, et]
theorem euc2 : ∀ (two one : Nat), one < 2 ^ 400 → two < 2 ^ 400 → gWh t1__law_n01_greatest_common b2__law_n01_greatest_common [some (.d (.int (one : Int))), some (.d (.int (two : Int)))] S = .nx [some (.d (.int ((Nat.gcd one two : Nat) : Int))), some (.d (.int 0))] S := by
  intro two
  induction two using Nat.strongRecOn with
  | _ two ih =>
    intro one h1 h2
    by_cases h : two = 0
    · subst h
      rw [gWh_end (S1 := S) (by simp [t1__law_n01_greatest_common, ne_i]), Nat.gcd_zero_right]
      rfl
    · have hlt : one % two < two := Nat.mod_lt _ (Nat.pos_of_ne_zero h)
      have step := ih (one % two) hlt two h2 (Nat.lt_trans hlt h2)
      have hq : one / two < 2 ^ 400 := Nat.lt_of_le_of_lt (Nat.div_le_self _ _) h1
      have e1 : uDiv (.d (.int (one : Int))) (.d (.int (two : Int))) S = .ok (.d (.int ((one / two : Nat) : Int))) S := by
        rw [div_i (by omega) (by have := log2_le (x := ((two : Int)).natAbs) (n := 400) (by rw [Int.natAbs_natCast]; exact h2); omega), Int.fdiv_eq_ediv_of_nonneg _ (by omega)]
        simp
      have e2 : uMul (.d (.int ((one / two : Nat) : Int))) (.d (.int (two : Int))) S = .ok (.d (.int (((one / two : Nat) : Int) * two))) S := mul_ij (m := 400) (n := 400) (by rw [Int.natAbs_natCast]; exact hq) (by rw [Int.natAbs_natCast]; exact h2) (by decide)
      have e3 : (one : Int) - ((one / two : Nat) : Int) * two = ((one % two : Nat) : Int) := by
        have := Nat.div_add_mod one two
        have h3 : ((two * (one / two) + one % two : Nat) : Int) = (one : Int) := by rw [this]
        rw [Int.natCast_add, Int.natCast_mul] at h3
        rw [← h3, Int.mul_comm]
        omega
      have hb : b2__law_n01_greatest_common [some (.d (.int (one : Int))), some (.d (.int (two : Int)))] S = .nx [some (.d (.int (two : Int))), some (.d (.int ((one % two : Nat) : Int)))] S := by
        simp only [b2__law_n01_greatest_common, gPar, fCons, f2, e_varS, e_var0, bind_ok, e1, e2, sub_i, e3, fNil, st_ok, List.set_cons_succ, List.set_cons_zero]
      rw [gWh_go (S1 := S) (by simp [t1__law_n01_greatest_common, ne_i]; omega) hb (by rw [step]; exact fun z => nomatch z), step]
      rw [Nat.gcd_comm two, ← Nat.gcd_rec, Nat.gcd_comm]
theorem s_gcd {one two : Nat} (h1 : one < 2 ^ 400) (h2 : two < 2 ^ 400) : m__law_n01_greatest_common [.d (.int (one : Int)), .d (.int (two : Int))] S = .ok (.d (.int ((Nat.gcd one two : Nat) : Int))) S := by
  have e := euc2 (S := S) two one h1 h2
  unfold m__law_n01_greatest_common runD g__law_n01_greatest_common
  rw [show slots 2 [U.d (.int (one : Int)), .d (.int (two : Int))] = [some (.d (.int (one : Int))), some (.d (.int (two : Int)))] from rfl]
  rw [gSeq, e]
  simp
theorem s_terms {N D : Int} (hD : 0 < D) (h1 : N.natAbs < 2 ^ 400) (h2 : D.natAbs < 2 ^ 400) : m__law_n01_in_terms [.d (.int N), .d (.int D)] S = .ok (.d (pq (Rat.divInt N D))) S := by
  have e1 := num_pos (N := N) hD
  have e2 := den_pos (N := N) hD
  have hg := gcd_pos' (N := N) (D := D) (by omega)
  have hs := log2_le (gcd_small (N := N) (by omega) h2)
  have eg := s_gcd (S := S) h1 h2
  rw [Int.natAbs_of_nonneg (a := D) (by omega)] at eg
  have d1 : uDiv (.d (.int N)) (.d (.int ((Nat.gcd N.natAbs D.natAbs : Nat) : Int))) S = .ok (.d (.int (Rat.divInt N D).num)) S := by
    rw [div_i (by omega) (by rw [Int.natAbs_natCast]; omega), e1]
  have d2 : uDiv (.d (.int D)) (.d (.int ((Nat.gcd N.natAbs D.natAbs : Nat) : Int))) S = .ok (.d (.int ((Rat.divInt N D).den : Int))) S := by
    rw [div_i (by omega) (by rw [Int.natAbs_natCast]; omega), e2]
  by_cases hN : 0 < N
  · rw [Int.natAbs_of_nonneg (a := N) (by omega)] at eg
    simp only [m__law_n01_in_terms, g__law_n01_in_terms, runD]
    rw [show slots 3 [U.d (.int N), .d (.int D)] = [some (.d (.int N)), some (.d (.int D)), none] from rfl]
    refine Eq.trans (congrArg _ (set_step (u := .d (.int ((Nat.gcd N.natAbs D.natAbs : Nat) : Int))) (S1 := S) (r := .rt (.d (pq (Rat.divInt N D))) S) (by simp [hN, eg]) (by simp [d1, d2, pq]))) (by simp)
  · have en : ((N.natAbs : Nat) : Int) = -N := by omega
    rw [en] at eg
    simp only [m__law_n01_in_terms, g__law_n01_in_terms, runD]
    rw [show slots 3 [U.d (.int N), .d (.int D)] = [some (.d (.int N)), some (.d (.int D)), none] from rfl]
    refine Eq.trans (congrArg _ (set_step (u := .d (.int ((Nat.gcd N.natAbs D.natAbs : Nat) : Int))) (S1 := S) (r := .rt (.d (pq (Rat.divInt N D))) S) (by simp [hN, eg]) (by simp [d1, d2, pq]))) (by simp)
theorem jar_take {l n k : Nat} (h : Jar S l n) (hl : l < k) : Jar (S.take k) l n := by
  obtain ⟨a, b, c, h1, h2⟩ := h
  exact ⟨a, b, c, by rw [List.getElem?_take_of_lt hl]; exact h1, h2⟩
theorem kp_cut {l : Nat} {S1 : Store} {o : List (Option (List D))} (h : Kp l (S ++ o) S1) : Kp l S (S1.take S.length) := by
  have h1 := h.len
  rw [List.length_append] at h1
  refine ⟨by rw [List.length_take]; omega, fun i hi => ?_⟩
  by_cases hl : i < S.length
  · rw [List.getElem?_take_of_lt hl, h.get i hi, List.getElem?_append_left hl]
  · rw [List.getElem?_eq_none (by rw [List.length_take]; omega), List.getElem?_eq_none (by omega)]
def oddL : List D := [.none, .int 0, .int 1, .str "1/2", .tuple [.int 1], .tuple [.int 1, .int 2, .int 3], .list [.int 1, .int 2], .tuple [.int 2, .int 4], .tuple [.int 0, .int 2], .tuple [.int (-2), .int 4], .tuple [.int 1, .int 0], .tuple [.int 0, .int 0], .tuple [.int 1, .int (-2)],
  .tuple [.bool true, .int 1], .tuple [.int 1, .bool true], .tuple [.bool false, .int 1], .tuple [.str "1", .int 2], .tuple [.int 1, .none], .tuple [.tuple [.int 1, .int 2], .int 1], .tuple [.int 1000000000000000000000000000000, .int 1000000000000000000000000000000], .tuple []]
structure OddP (x : D) : Prop where
  fr : isFr x = false
  fine : Fine 3 12 x
  sm : Sm x
theorem odd_all : ∀ x ∈ oddL, OddP x := by
  intro x hx
  simp only [oddL, List.mem_cons, List.not_mem_nil, or_false] at hx
  rcases hx with rfl | rfl | rfl | rfl | rfl | rfl | rfl | rfl | rfl | rfl | rfl | rfl | rfl | rfl | rfl | rfl | rfl | rfl | rfl | rfl | rfl
  all_goals exact ⟨by decide +kernel, ⟨by decide +kernel, by decide +kernel, by decide +kernel⟩, fun a b h => by first | (cases h; done) | (cases h; decide +kernel)⟩
theorem s_odd {l n : Nat} (hj : Jar S l n) (hn : n < 1000000) : ∃ (x : D) (S' : Store), OddP x ∧ m__law_n01_odd [.loc l] S = .ok (.d x) S' ∧ Jar S' l (n + 1) ∧ Kp l S S' := by
  have hl := hj.lt
  have c : (S ++ [some oddL])[S.length]? = some (some oddL) := at_end
  obtain ⟨i, hi, S1, e, j1, k1⟩ := s_one_loc (f := S.length) (hj.app (o := some oddL) hl) c (by omega) (by simp [oddL]) (by simp [oddL]) (by omega)
  refine ⟨oddL[i], S1.take S.length, odd_all _ (List.getElem_mem hi), ?_, jar_take j1 hl, kp_cut k1⟩
  have p30 : ∀ S : Store, uPow (.d (.int 10)) (.d (.int 30)) S = .ok (.d (.int 1000000000000000000000000000000)) S := fun S => by
    rw [pow_i (by decide) (by decide) (by decide)]; rfl
  generalize oddL[i] = x at e
  have hL : isL (.loc S.length) (S ++ [some [.none, .int 0, .int 1, .str "1/2", .tuple [.int 1], .tuple [.int 1, .int 2, .int 3], .list [.int 1, .int 2], .tuple [.int 2, .int 4], .tuple [.int 0, .int 2], .tuple [.int (-2), .int 4], .tuple [.int 1, .int 0], .tuple [.int 0, .int 0], .tuple [.int 1, .int (-2)]]]) = true := isL_t at_end
  have hE : uExt (.loc S.length) [.d (.list [.tuple [.bool true, .int 1], .tuple [.int 1, .bool true], .tuple [.bool false, .int 1], .tuple [.str "1", .int 2], .tuple [.int 1, .none], .tuple [.tuple [.int 1, .int 2], .int 1], .tuple [.int 1000000000000000000000000000000, .int 1000000000000000000000000000000], .tuple []])]
      (S ++ [some [.none, .int 0, .int 1, .str "1/2", .tuple [.int 1], .tuple [.int 1, .int 2, .int 3], .list [.int 1, .int 2], .tuple [.int 2, .int 4], .tuple [.int 0, .int 2], .tuple [.int (-2), .int 4], .tuple [.int 1, .int 0], .tuple [.int 0, .int 0], .tuple [.int 1, .int (-2)]]]) = .ok (.d .none) (S ++ [some oddL]) := by
    unfold uExt
    simp [viewM, at_end, set_end, oddL]
  have key : g__law_n01_odd [some (.loc l), none] S = .rt (.d x) S1 := by
    unfold g__law_n01_odd
    refine set_step (u := .loc S.length) (S1 := S ++ [some [.none, .int 0, .int 1, .str "1/2", .tuple [.int 1], .tuple [.int 1, .int 2, .int 3], .list [.int 1, .int 2], .tuple [.int 2, .int 4], .tuple [.int 0, .int 2], .tuple [.int (-2), .int 4], .tuple [.int 1, .int 0], .tuple [.int 0, .int 0], .tuple [.int 1, .int (-2)]]]) (by simp) ?_
    simp only [List.set_cons_succ, List.set_cons_zero]
    refine drop_step (u := .d .none) (S1 := S ++ [some oddL]) (by
      simp only [fML, e_varS, e_var0, bind_ok, hL, if_true]
      simp [p30, hE]) ?_
    simp [e]
  unfold m__law_n01_odd runD
  rw [show slots 2 [U.loc l] = [some (.loc l), none] from rfl, key]
  rfl
end
end K01

namespace K01
open PySem Z M
section
variable {S : Store}
theorem ix_q0 {q : Rat} : uIx (.d (pq q)) (.d (.int 0)) S = .ok (.d (.int q.num)) S := (rfl)
theorem ix_q1 {q : Rat} : uIx (.d (pq q)) (.d (.int 1)) S = .ok (.d (.int (q.den : Int))) S := (rfl)
theorem mid_get {o o' : Option (List D)} : (S ++ [o] ++ [o'])[S.length]? = some o := by
  rw [List.getElem?_append_left (by simp)]; exact at_end
theorem mid_set {o o' o2 : Option (List D)} : (S ++ [o] ++ [o']).set S.length o2 = S ++ [o2] ++ [o'] := by
  rw [List.set_append_left _ _ (by simp), set_end]
theorem app_end {xs : List D} {x : D} (hl : xs.length < 1000) : uApp (.loc S.length) [.d x] (S ++ [some xs]) = .ok (.d .none) (S ++ [some (xs ++ [x])]) := by
  rw [app_t at_end hl, set_end]
theorem isL_end {xs : List D} : isL (.loc S.length) (S ++ [some xs]) = true := isL_t at_end
theorem lay_frac : PyData.strOk "BadFraction" = true := by decide +kernel
theorem lay_amount : PyData.strOk "BadAmount" = true := by decide +kernel
theorem s_sums {l n : Nat} (hj : Jar S l n) (hn : n < 900000) : ∃ S', m__law_n01_sums_right [.loc l] S = .ok (.d (.bool true)) S' ∧ Jar S' l (n + 12) ∧ Kp l S S' := by
  obtain ⟨q, S1, bq, e1, j1, k1⟩ := s_fraction hj (by omega)
  obtain ⟨r, S2, br, e2, j2, k2⟩ := s_fraction j1 (by omega)
  refine ⟨S2, ?_, j2.mono (by omega), k1.trans k2⟩
  have dq := q.den_pos
  have dr := r.den_pos
  have mm : ∀ {i j : Int}, i.natAbs < 2 ^ 80 → j.natAbs < 2 ^ 80 → ∀ S : Store, uMul (.d (.int i)) (.d (.int j)) S = .ok (.d (.int (i * j))) S := fun h1 h2 S => mul_ij (m := 80) (n := 80) h1 h2 (by decide)
  have m1 := mm (i := q.num) (j := r.den) bq.num br.den
  have m2 := mm (i := r.num) (j := q.den) br.num bq.den
  have m3 := mm (i := q.den) (j := r.den) bq.den br.den
  have hD : (0 : Int) < q.den * r.den := Int.mul_pos (by omega) (by omega)
  have hDb : ((q.den : Int) * r.den).natAbs < 2 ^ 400 := by
    rw [Int.natAbs_mul, Int.natAbs_natCast, Int.natAbs_natCast]
    exact Nat.lt_of_lt_of_le (mul_lt bq.den br.den) (Nat.pow_le_pow_right (by decide) (by decide))
  have n1 : (q.num * r.den).natAbs < 2 ^ 160 := by rw [Int.natAbs_mul]; exact mul_lt bq.num br.den
  have n2 : (r.num * q.den).natAbs < 2 ^ 160 := by rw [Int.natAbs_mul]; exact mul_lt br.num bq.den
  have hpow : 2 ^ 160 + 2 ^ 160 ≤ 2 ^ 400 := by decide
  have t1 : ∀ S : Store, m__law_n01_in_terms [.d (.int (q.num * r.den + r.num * q.den)), .d (.int (q.den * r.den))] S = .ok (.d (pq (q + r))) S := fun S => by
    have := s_terms (S := S) (N := q.num * r.den + r.num * q.den) hD (by have := Int.natAbs_add_le (q.num * r.den) (r.num * q.den); omega) hDb
    rw [← Rat.divInt_add_divInt _ _ (by omega) (by omega), Rat.num_divInt_den, Rat.num_divInt_den] at this
    exact this
  have t2 : ∀ S : Store, m__law_n01_in_terms [.d (.int (q.num * r.den - r.num * q.den)), .d (.int (q.den * r.den))] S = .ok (.d (pq (q - r))) S := fun S => by
    have := s_terms (S := S) (N := q.num * r.den - r.num * q.den) hD (by have := Int.natAbs_sub_le (q.num * r.den) (r.num * q.den); omega) hDb
    rw [← sub_eq'] at this
    exact this
  have hle : decide (q.num * r.den ≤ r.num * q.den) = decide (q ≤ r) := by simp [Rat.le_iff]
  have g1 : ∀ S : Store, m_plus [.d (pq q), .d (pq r)] S = .ok (.d (pq (q + r))) S := fun S => s_fplus bq br (by decide)
  have f2' : ∀ S : Store, m_minus [.d (pq q), .d (pq r)] S = .ok (.d (pq (q - r))) S := fun S => s_minus bq br (by decide)
  have f3 : ∀ S : Store, m_at_most [.d (pq q), .d (pq r)] S = .ok (.d (.bool (decide (q ≤ r)))) S := fun S => s_at_most bq br (by decide)
  have f4 : ∀ S : Store, m_plus [.d (pq r), .d (pq q)] S = .ok (.d (pq (q + r))) S := fun S => by rw [s_fplus br bq (by decide), Rat.add_comm]
  have f5 : ∀ S : Store, m_minus [.d (pq q), .d (pq q)] S = .ok (.d (.tuple [.int 0, .int 1])) S := fun S => by
    rw [s_minus bq bq (by decide), show q - q = 0 by grind]
    rfl
  have f6 : ∀ S : Store, m_at_most [.d (pq q), .d (pq q)] S = .ok (.d (.bool true)) S := fun S => by rw [s_at_most bq bq (by decide), decide_eq_true (Rat.le_refl)]
  have f7 : ∀ S : Store, m_plus [.d (pq (q - r)), .d (pq r)] S = .ok (.d (pq q)) S := fun S => by rw [s_fplus (sub_bd bq br) br (by decide), show q - r + r = q by grind]
  have f8 : ∀ S : Store, m_minus [.d (pq (q - r)), .d (pq q)] S = .ok (.d (.tuple [.int (-r.num), .int r.den])) S := fun S => by
    rw [s_minus (sub_bd bq br) bq (by decide), show q - r - q = -r by grind]
    rfl
  have f9 : ∀ S : Store, m_made_fraction [.d (pq q)] S = .ok (.d (pq q)) S := fun S => s_made_frac (isFr_pq q)
  generalize hbo : decide (q ≤ r) = bo at *
  have hF : ∀ x ∈ [PyData.tuple [.str "told", .list [pq (q + r), pq (q - r), .bool bo]], .tuple [.str "told", .list [pq (q + r), .tuple [.int 0, .int 1], .bool true, pq q]], .tuple [.str "told", .list [pq q, .tuple [.int (-r.num), .int r.den]]]], Fine 3 20 x := by
    intro x hx
    simp only [List.mem_cons, List.not_mem_nil, or_false] at hx
    rcases hx with rfl | rfl | rfl
    all_goals exact ⟨by simp [PyData.canLay0, PyData.canLayAll0, lay_told, lay_pq], by simp [PyData.depth, PyData.depthAll, dep_pq], by simp [sz, szs, sz_pq]⟩
  have hN := fine_list hF
  have key : g__law_n01_sums_right [some (.loc l), none, none, none, none, none] S = .rt (.d (.bool true)) (S2 ++ [none] ++ [none]) := by
    unfold g__law_n01_sums_right
    refine asg_step (u := .d (.tuple [pq q, pq r])) (S1 := S2) (by simp [e1, e2]) rfl ?_
    simp only [List.set_cons_succ, List.set_cons_zero]
    refine set_step (u := .loc S2.length) (S1 := S2 ++ [some [pq (q + r)]]) (by simp [ix_q0, ix_q1, m1, m2, m3, t1]) ?_
    simp only [List.set_cons_succ, List.set_cons_zero]
    refine drop_step (u := .d .none) (S1 := S2 ++ [some [pq (q + r), pq (q - r)]]) (by
      simp only [fML, e_varS, e_var0, bind_ok, isL_end, if_true]
      simp [ix_q0, ix_q1, m1, m2, m3, t2]
      exact app_end (by simp)) ?_
    refine drop_step (u := .d .none) (S1 := S2 ++ [some [pq (q + r), pq (q - r), .bool bo]]) (by
      simp only [fML, e_varS, e_var0, bind_ok, isL_end, if_true]
      simp only [fCons, f2, e_varS, e_var0, bind_ok, fC, ix_q0, ix_q1, m1, m2, le_i, fNil, hle]
      exact app_end (by simp)) ?_
    generalize hT : S2 ++ [some [pq (q + r), pq (q - r), PyData.bool bo]] = T
    refine set_step (u := .loc T.length) (S1 := T ++ [some [.tuple [.str "told", .list [pq (q + r), pq (q - r), .bool bo]]]]) (by
      have := lam_ok (S := T) (y := .list [pq (q + r), pq (q - r), .bool bo]) (fb := fN mkLst (fCons (fCall m_plus (fCons (fVar 1) (fCons (fVar 2) (fNil)))) (fCons (fCall m_minus (fCons (fVar 1) (fCons (fVar 2) (fNil)))) (fCons (fCall m_at_most (fCons (fVar 1) (fCons (fVar 2) (fNil)))) (fNil))))) (ρ := [some (.loc l), some (.d (pq q)), some (.d (pq r)), some (.loc S2.length), none, none]) (by simp) (by simp [g1, f2', f3])
      simp only [fN, fCons, fNil, fCall, f2] at this ⊢
      simp only [this, bind_ok]
      rfl) ?_
    simp only [List.set_cons_succ, List.set_cons_zero]
    refine drop_step (u := .d .none) (S1 := T ++ [some [.tuple [.str "told", .list [pq (q + r), pq (q - r), .bool bo]], .tuple [.str "told", .list [pq (q + r), .tuple [.int 0, .int 1], .bool true, pq q]]]]) (by
      have := lam_ok (S := T ++ [some [.tuple [.str "told", .list [pq (q + r), pq (q - r), .bool bo]]]]) (y := .list [pq (q + r), .tuple [.int 0, .int 1], .bool true, pq q]) (fb := fN mkLst (fCons (fCall m_plus (fCons (fVar 2) (fCons (fVar 1) (fNil)))) (fCons (fCall m_minus (fCons (fVar 1) (fCons (fVar 1) (fNil)))) (fCons (fCall m_at_most (fCons (fVar 1) (fCons (fVar 1) (fNil)))) (fCons (fCall m_plus (fCons (fCall m_minus (fCons (fVar 1) (fCons (fVar 2) (fNil)))) (fCons (fVar 2) (fNil)))) (fNil)))))) (ρ := [some (.loc l), some (.d (pq q)), some (.d (pq r)), some (.loc S2.length), some (.loc T.length), none]) (by simp) (by simp [f4, f5, f6, f2', f7])
      simp only [fML, e_varS, e_var0, bind_ok, isL_end, if_true]
      simp only [fN, fCons, fNil, fCall, f2] at this ⊢
      simp only [this, bind_ok]
      exact app_end (by simp)) ?_
    refine drop_step (u := .d .none) (S1 := T ++ [some [.tuple [.str "told", .list [pq (q + r), pq (q - r), .bool bo]], .tuple [.str "told", .list [pq (q + r), .tuple [.int 0, .int 1], .bool true, pq q]], .tuple [.str "told", .list [pq q, .tuple [.int (-r.num), .int r.den]]]]]) (by
      have := lam_ok (S := T ++ [some [.tuple [.str "told", .list [pq (q + r), pq (q - r), .bool bo]], .tuple [.str "told", .list [pq (q + r), .tuple [.int 0, .int 1], .bool true, pq q]]]]) (y := .list [pq q, .tuple [.int (-r.num), .int r.den]]) (fb := fN mkLst (fCons (fCall m_made_fraction (fCons (fVar 1) (fNil))) (fCons (fCall m_minus (fCons (fCall m_minus (fCons (fVar 1) (fCons (fVar 2) (fNil)))) (fCons (fVar 1) (fNil)))) (fNil)))) (ρ := [some (.loc l), some (.d (pq q)), some (.d (pq r)), some (.loc S2.length), some (.loc T.length), none]) (by simp) (by simp [f9, f2', f8])
      simp only [fML, e_varS, e_var0, bind_ok, isL_end, if_true]
      simp only [fN, fCons, fNil, fCall, f2] at this ⊢
      simp only [this, bind_ok]
      exact app_end (by simp)) ?_
    subst hT
    have gx : ∀ o' : Option (List D), uIx (.loc S2.length) (.d (.int 0)) (S2 ++ [some [pq (q + r), pq (q - r), PyData.bool bo]] ++ [o']) = .ok (.d (pq (q + r))) (S2 ++ [some [pq (q + r), pq (q - r), PyData.bool bo]] ++ [o']) := fun o' => ix_loc mid_get rfl
    refine set_step (u := .d (.list [pq (q + r), .tuple [.int 0, .int 1], .bool true, pq q])) (S1 := _) (by
      simp only [fN, fCons, fNil, f2, e_varS, e_var0, fC, bind_ok, gx]
      rfl) ?_
    simp only [List.set_cons_succ, List.set_cons_zero]
    have hTl : (S2 ++ [some [pq (q + r), pq (q - r), PyData.bool bo]]).length = (S2 ++ [(none : Option (List D))]).length := by simp
    have hz1 : ∀ told : List D, mkTup [.d (.str "told"), .loc S2.length] (S2 ++ [some [pq (q + r), pq (q - r), PyData.bool bo]] ++ [some told]) = .ok (.d (.tuple [.str "told", .list [pq (q + r), pq (q - r), PyData.bool bo]])) (S2 ++ [none] ++ [some told]) := fun told => by
      unfold mkTup
      simp only [frzs, frz, mid_get, mid_set]
      rfl
    have hz2 : ∀ (a b : D) (S : Store), mkTup [.d a, .d b] S = .ok (.d (.tuple [a, b])) S := fun _ _ _ => rfl
    have hz3 : ∀ (a b c : D) (S : Store), mkLst [.d a, .d b, .d c] S = .ok (.d (.list [a, b, c])) S := fun _ _ _ _ => rfl
    have hz4 : ∀ (a b : D) (S : Store), mkLst [.d a, .d b] S = .ok (.d (.list [a, b])) S := fun _ _ _ => rfl
    have hs := s_same (S := S2 ++ [none] ++ [some [.tuple [.str "told", .list [pq (q + r), pq (q - r), .bool bo]], .tuple [.str "told", .list [pq (q + r), .tuple [.int 0, .int 1], .bool true, pq q]], .tuple [.str "told", .list [pq q, .tuple [.int (-r.num), .int r.den]]]]]) (u := .loc (S2 ++ [(none : Option (List D))]).length)
      (w := .d (.list [.tuple [.str "told", .list [pq (q + r), pq (q - r), .bool bo]], .tuple [.str "told", .list [pq (q + r), .tuple [.int 0, .int 1], .bool true, pq q]], .tuple [.str "told", .list [pq q, .tuple [.int (-r.num), .int r.den]]]]))
      (S1 := S2 ++ [none] ++ [none]) (by simp only [frzs, frz, at_end, set_end]) (by simp) (hN.nice (by decide)) (Nat.le_trans hN.sz (by simp))
    rw [hTl]
    refine ret_ok ?_
    simp only [fCall, fN, fCons, fNil, f2, f1, e_varS, e_var0, fC, bind_ok, hz1, hz2, hz3, hz4, ix_q0, ix_q1, neg_i, hs]
  unfold m__law_n01_sums_right runD
  rw [show slots 6 [U.loc l] = [some (.loc l), none, none, none, none, none] from rfl, key]
  have hlen := (k1.trans k2).len
  rw [fin_rtd, ← hlen, List.append_assoc, List.take_left]
theorem s_refused {l n : Nat} (hj : Jar S l n) (hn : n < 900000) : ∃ S', m__law_n01_refused_right [.loc l] S = .ok (.d (.bool true)) S' ∧ Jar S' l (n + 12) ∧ Kp l S S' := by
  obtain ⟨od, S1, o1, e1, j1, k1⟩ := s_odd hj (by omega)
  obtain ⟨ot, S2, o2, e2, j2, k2⟩ := s_odd j1 (by omega)
  obtain ⟨q, S3, bq, e3, j3, k3⟩ := s_fraction j2 (by omega)
  refine ⟨S3, ?_, j3.mono (by omega), k1.trans (k2.trans k3)⟩
  have hF : ∀ x ∈ ([.tuple [.str "BadFraction", od], .tuple [.str "BadFraction", od], .tuple [.str "BadFraction", od], .tuple [.str "BadFraction", ot], .tuple [.str "BadFraction", ot], .tuple [.str "BadFraction", ot]] : List D), Fine 4 14 x := by
    intro x hx
    simp only [List.mem_cons, List.not_mem_nil, or_false] at hx
    rcases hx with rfl | rfl | rfl | rfl | rfl | rfl
    all_goals first | exact fine_said lay_frac o1.fine | exact fine_said lay_frac o2.fine
  have hN := fine_list hF
  have key : g__law_n01_refused_right [some (.loc l), none, none, none, none] S = .rt (.d (.bool true)) (S3 ++ [none]) := by
    unfold g__law_n01_refused_right
    refine asg_step (u := .d (.tuple [od, ot, pq q])) (S1 := S3) (by simp [e1, e2, e3]) rfl ?_
    simp only [List.set_cons_succ, List.set_cons_zero]
    refine set_step (u := .loc S3.length) (S1 := S3 ++ [some [.tuple [.str "BadFraction", od]]]) (by
      have := lam_BadFraction (S := S3) (y := od) (fb := fCall m_plus (fCons (fVar 1) (fCons (fVar 2) (fNil)))) (ρ := [some (.loc l), some (.d od), some (.d ot), some (.d (pq q)), none]) (by simp) (by simp [s_plus_no1 o1.fr])
      simp only [fN, fCons, fNil, fCall, f2] at this ⊢
      simp only [this, bind_ok]
      rfl) ?_
    simp only [List.set_cons_succ, List.set_cons_zero]
    refine drop_step (u := .d .none) (S1 := S3 ++ [some [.tuple [.str "BadFraction", od], .tuple [.str "BadFraction", od]]]) (by
      have := lam_BadFraction (S := S3 ++ [some [.tuple [.str "BadFraction", od]]]) (y := od) (fb := fCall m_minus (fCons (fVar 1) (fCons (fVar 2) (fNil)))) (ρ := [some (.loc l), some (.d od), some (.d ot), some (.d (pq q)), some (.loc S3.length)]) (by simp) (by simp [s_minus_no1 o1.fr])
      simp only [fML, e_varS, e_var0, bind_ok, isL_end, if_true]
      simp only [fN, fCons, fNil, fCall, f2] at this ⊢
      simp only [this, bind_ok]
      exact app_end (by simp)) ?_
    refine drop_step (u := .d .none) (S1 := S3 ++ [some [.tuple [.str "BadFraction", od], .tuple [.str "BadFraction", od], .tuple [.str "BadFraction", od]]]) (by
      have := lam_BadFraction (S := S3 ++ [some [.tuple [.str "BadFraction", od], .tuple [.str "BadFraction", od]]]) (y := od) (fb := fCall m_at_most (fCons (fVar 1) (fCons (fVar 2) (fNil)))) (ρ := [some (.loc l), some (.d od), some (.d ot), some (.d (pq q)), some (.loc S3.length)]) (by simp) (by simp [s_at_most_no1 o1.fr])
      simp only [fML, e_varS, e_var0, bind_ok, isL_end, if_true]
      simp only [fN, fCons, fNil, fCall, f2] at this ⊢
      simp only [this, bind_ok]
      exact app_end (by simp)) ?_
    refine drop_step (u := .d .none) (S1 := S3 ++ [some [.tuple [.str "BadFraction", od], .tuple [.str "BadFraction", od], .tuple [.str "BadFraction", od], .tuple [.str "BadFraction", ot]]]) (by
      have := lam_BadFraction (S := S3 ++ [some [.tuple [.str "BadFraction", od], .tuple [.str "BadFraction", od], .tuple [.str "BadFraction", od]]]) (y := ot) (fb := fCall m_plus (fCons (fVar 3) (fCons (fVar 2) (fNil)))) (ρ := [some (.loc l), some (.d od), some (.d ot), some (.d (pq q)), some (.loc S3.length)]) (by simp) (by simp [s_plus_no2 (isFr_pq q) o2.fr])
      simp only [fML, e_varS, e_var0, bind_ok, isL_end, if_true]
      simp only [fN, fCons, fNil, fCall, f2] at this ⊢
      simp only [this, bind_ok]
      exact app_end (by simp)) ?_
    refine drop_step (u := .d .none) (S1 := S3 ++ [some [.tuple [.str "BadFraction", od], .tuple [.str "BadFraction", od], .tuple [.str "BadFraction", od], .tuple [.str "BadFraction", ot], .tuple [.str "BadFraction", ot]]]) (by
      have := lam_BadFraction (S := S3 ++ [some [.tuple [.str "BadFraction", od], .tuple [.str "BadFraction", od], .tuple [.str "BadFraction", od], .tuple [.str "BadFraction", ot]]]) (y := ot) (fb := fCall m_minus (fCons (fVar 3) (fCons (fVar 2) (fNil)))) (ρ := [some (.loc l), some (.d od), some (.d ot), some (.d (pq q)), some (.loc S3.length)]) (by simp) (by simp [s_minus_no2 (isFr_pq q) o2.fr])
      simp only [fML, e_varS, e_var0, bind_ok, isL_end, if_true]
      simp only [fN, fCons, fNil, fCall, f2] at this ⊢
      simp only [this, bind_ok]
      exact app_end (by simp)) ?_
    refine drop_step (u := .d .none) (S1 := S3 ++ [some [.tuple [.str "BadFraction", od], .tuple [.str "BadFraction", od], .tuple [.str "BadFraction", od], .tuple [.str "BadFraction", ot], .tuple [.str "BadFraction", ot], .tuple [.str "BadFraction", ot]]]) (by
      have := lam_BadFraction (S := S3 ++ [some [.tuple [.str "BadFraction", od], .tuple [.str "BadFraction", od], .tuple [.str "BadFraction", od], .tuple [.str "BadFraction", ot], .tuple [.str "BadFraction", ot]]]) (y := ot) (fb := fCall m_at_most (fCons (fVar 3) (fCons (fVar 2) (fNil)))) (ρ := [some (.loc l), some (.d od), some (.d ot), some (.d (pq q)), some (.loc S3.length)]) (by simp) (by simp [s_at_most_no2 (isFr_pq q) o2.fr])
      simp only [fML, e_varS, e_var0, bind_ok, isL_end, if_true]
      simp only [fN, fCons, fNil, fCall, f2] at this ⊢
      simp only [this, bind_ok]
      exact app_end (by simp)) ?_
    have hz2 : ∀ (a b : D) (S : Store), mkTup [.d a, .d b] S = .ok (.d (.tuple [a, b])) S := fun _ _ _ => rfl
    have hz3 : ∀ (a : D) (S : Store), mkLst [.d a] S = .ok (.d (.list [a])) S := fun _ _ => rfl
    have hm : ∀ (a : D) (S : Store), uMul (.d (.list [a])) (.d (.int 3)) S = .ok (.d (.list [a, a, a])) S := fun _ _ => rfl
    have ha : ∀ (a b : D) (S : Store), uAdd (.d (.list [a, a, a])) (.d (.list [b, b, b])) S = .ok (.d (.list [a, a, a, b, b, b])) S := fun _ _ _ => rfl
    have hs := s_same (S := S3 ++ [some [.tuple [.str "BadFraction", od], .tuple [.str "BadFraction", od], .tuple [.str "BadFraction", od], .tuple [.str "BadFraction", ot], .tuple [.str "BadFraction", ot], .tuple [.str "BadFraction", ot]]]) (u := .loc S3.length) (w := .d (.list [.tuple [.str "BadFraction", od], .tuple [.str "BadFraction", od], .tuple [.str "BadFraction", od], .tuple [.str "BadFraction", ot], .tuple [.str "BadFraction", ot], .tuple [.str "BadFraction", ot]])) (S1 := S3 ++ [none]) (by simp only [frzs, frz, at_end, set_end]) (by simp) (hN.nice (by decide)) (Nat.le_trans hN.sz (by simp))
    refine ret_ok ?_
    simp only [fCall, fN, fCons, fNil, f2, e_varS, e_var0, fC, bind_ok, hz2, hz3, hm, ha, hs]
  unfold m__law_n01_refused_right runD
  rw [show slots 5 [U.loc l] = [some (.loc l), none, none, none, none] from rfl, key]
  have hlen := (k1.trans (k2.trans k3)).len
  rw [fin_rtd, ← hlen, List.take_left]
end
end K01

namespace K01
open PySem Z M
section
variable {S : Store}
/-- what is said of a thing by a test of form -/
def said (b : Bool) (c : Str) (x : D) : D := .tuple [.str (if b = true then "told" else c), x]
structure Form (x : D) : Prop where
  fine : Fine 3 12 x
  sm : Sm x
theorem lam_fr {ρ : Vr} {x : D} (h : ρ.all okE = true) (h3 : ρ[3]? = some (some (.d x))) : fLam 5 gh__law_n01_heard (fCall m_made_fraction (fCons (fVar 3) (fNil))) ρ S = .ok (.d (said (isFr x) "BadFraction" x)) S := by
  cases hx : isFr x with
  | true => exact lam_ok h (by simp [e_var h3, s_made_frac hx])
  | false => exact lam_BadFraction h (by simp [e_var h3, s_made_frac_no hx])
theorem lam_am {ρ : Vr} {x : D} (h : ρ.all okE = true) (h3 : ρ[3]? = some (some (.d x))) : fLam 5 gh__law_n01_heard (fCall m_made_amount (fCons (fVar 3) (fNil))) ρ S = .ok (.d (said (isAm x) "BadAmount" x)) S := by
  cases hx : isAm x with
  | true => exact lam_ok h (by simp [e_var h3, s_made_am hx])
  | false => exact lam_BadAmount h (by simp [e_var h3, s_made_am_no hx])
theorem lam_sz {ρ : Vr} {x : D} (h : ρ.all okE = true) (h3 : ρ[3]? = some (some (.d x))) : fLam 5 gh__law_n01_heard (fCall m_made_size (fCons (fVar 3) (fNil))) ρ S = .ok (.d (said (isSz x) "BadSize" x)) S := by
  cases hx : isSz x with
  | true => exact lam_ok h (by simp [e_var h3, s_made_size x hx])
  | false => exact lam_BadSize h (by simp [e_var h3, s_made_size_no x hx])
theorem fine_sd {x : D} {b : Bool} {c : Str} (hc : PyData.strOk c = true) (h : Fine 3 12 x) : Fine 4 14 (said b c x) := by
  unfold said
  cases b with
  | true => exact fine_said lay_told h
  | false => exact fine_said hc h
theorem form_round {a1 a2 : U} {l : Nat} {x : D} {r4 r5 r6 r7 r8 : Option U} (hx : Form x) (h1 : okE (some a1) = true) (h2 : okE (some a2) = true) (ho : [r4, r5, r6, r7, r8].all okE = true) :
    ∃ r4' r5' r6' r7', b2__law_n01_forms_right [some (.loc l), some a1, some a2, some (.d x), r4, r5, r6, r7, r8] S = .nx [some (.loc l), some a1, some a2, some (.d x), r4', r5', r6', r7', r8] (S ++ [none]) ∧ [r4', r5', r6', r7', r8].all okE = true := by
  simp only [List.all_cons, List.all_nil, Bool.and_true, Bool.and_eq_true] at ho
  obtain ⟨ho4, ho5, ho6, ho7, ho8⟩ := ho
  have hn := hx.fine.nice (by decide)
  refine ⟨some (.loc S.length), some (.d (.list [.bool (isFr x), .bool (isAm x), .bool (isSz x)])), some (.d (.list [.str "BadFraction", .str "BadAmount", .str "BadSize"])), some (.d (.list [said (isFr x) "BadFraction" x, said (isAm x) "BadAmount" x, said (isSz x) "BadSize" x])), ?_, by simp [ho8]⟩
  have hF : ∀ y ∈ [said (isFr x) "BadFraction" x, said (isAm x) "BadAmount" x, said (isSz x) "BadSize" x], Fine 4 14 y := by
    intro y hy
    simp only [List.mem_cons, List.not_mem_nil, or_false] at hy
    rcases hy with rfl | rfl | rfl
    · exact fine_sd lay_frac hx.fine
    · exact fine_sd lay_amount hx.fine
    · exact fine_sd lay_size hx.fine
  have hN := fine_list hF
  unfold b2__law_n01_forms_right
  refine set_step (u := .loc S.length) (S1 := S ++ [some [said (isFr x) "BadFraction" x]]) (by
    have := lam_fr (S := S) (x := x) (ρ := [some (.loc l), some a1, some a2, some (.d x), r4, r5, r6, r7, r8]) (by simp [*]) rfl
    simp only [fN, fCons, fNil, fCall] at this ⊢
    simp only [this, bind_ok]
    rfl) ?_
  simp only [List.set_cons_succ, List.set_cons_zero]
  refine drop_step (u := .d .none) (S1 := S ++ [some [said (isFr x) "BadFraction" x, said (isAm x) "BadAmount" x]]) (by
    have := lam_am (S := S ++ [some [said (isFr x) "BadFraction" x]]) (x := x) (ρ := [some (.loc l), some a1, some a2, some (.d x), some (.loc S.length), r5, r6, r7, r8]) (by simp [*]) rfl
    simp only [fML, e_varS, e_var0, bind_ok, isL_end, if_true]
    simp only [fN, fCons, fNil, fCall] at this ⊢
    simp only [this, bind_ok]
    exact app_end (by simp)) ?_
  refine drop_step (u := .d .none) (S1 := S ++ [some [said (isFr x) "BadFraction" x, said (isAm x) "BadAmount" x, said (isSz x) "BadSize" x]]) (by
    have := lam_sz (S := S ++ [some [said (isFr x) "BadFraction" x, said (isAm x) "BadAmount" x]]) (x := x) (ρ := [some (.loc l), some a1, some a2, some (.d x), some (.loc S.length), r5, r6, r7, r8]) (by simp [*]) rfl
    simp only [fML, e_varS, e_var0, bind_ok, isL_end, if_true]
    simp only [fN, fCons, fNil, fCall] at this ⊢
    simp only [this, bind_ok]
    exact app_end (by simp)) ?_
  generalize hT : S ++ [some [said (isFr x) "BadFraction" x, said (isAm x) "BadAmount" x, said (isSz x) "BadSize" x]] = T
  refine set_step (u := .d (.list [.bool (isFr x), .bool (isAm x), .bool (isSz x)])) (S1 := T) (by simp [s_lisfr hn hx.sm, s_lisam hn hx.sm, s_lissz hn hx.sm]) ?_
  refine set_step (u := .d (.list [.str "BadFraction", .str "BadAmount", .str "BadSize"])) (S1 := T) (by simp) ?_
  simp only [List.set_cons_succ, List.set_cons_zero]
  have hlc : fLc (sN sRng1 (fCons (fC (.d (.int 3))) (fNil))) (aName 8) (fYes) (e1__law_n01_forms_right) [8] [some (.loc l), some a1, some a2, some (.d x), some (.loc S.length), some (.d (.list [.bool (isFr x), .bool (isAm x), .bool (isSz x)])), some (.d (.list [.str "BadFraction", .str "BadAmount", .str "BadSize"])), r7, r8] T =
      .ok (.d (.list [said (isFr x) "BadFraction" x, said (isAm x) "BadAmount" x, said (isSz x) "BadSize" x])) T := by
    have hs : sN sRng1 (fCons (fC (.d (.int 3))) (fNil)) [some (.loc l), some a1, some a2, some (.d x), some (.loc S.length), some (.d (.list [.bool (isFr x), .bool (isAm x), .bool (isSz x)])), some (.d (.list [.str "BadFraction", .str "BadAmount", .str "BadSize"])), r7, r8] T = .ok [.int 0, .int 1, .int 2] T := by
      simp only [sN, fCons, fC, fNil, bind_ok, rng1_i (show -(2 ^ 62) ≤ (3 : Int) by decide) (by decide)]
      rfl
    have := lc_pure (tg := aName 8) (fe := e1__law_n01_forms_right) (vs := [8]) (f := fun d => match d with
      | .int 0 => said (isFr x) "BadFraction" x
      | .int 1 => said (isAm x) "BadAmount" x
      | _ => said (isSz x) "BadSize" x) hs (by decide) fun d hd => by
        simp only [List.mem_cons, List.not_mem_nil, or_false] at hd
        refine ⟨_, rfl, fun acc => ?_⟩
        rcases hd with rfl | rfl | rfl
        · have i1 := ix_lst (S := T ++ [some acc]) (xs := [.bool (isFr x), .bool (isAm x), .bool (isSz x)]) (i := 0) (y := .bool (isFr x)) rfl
          have i2 := ix_lst (S := T ++ [some acc]) (xs := [.str "BadFraction", .str "BadAmount", .str "BadSize"]) (i := 0) (y := .str "BadFraction") rfl
          have i1' : uIx (.d (.list [.bool (isFr x), .bool (isAm x), .bool (isSz x)])) (.d (.int 0)) (T ++ [some acc]) = _ := i1
          have i2' : uIx (.d (.list [.str "BadFraction", .str "BadAmount", .str "BadSize"])) (.d (.int 0)) (T ++ [some acc]) = _ := i2
          cases hb : isFr x <;> simp [hb] at i1' <;> simp [e1__law_n01_forms_right, wipeU, i1', i2', hb, said]
        · have i1 := ix_lst (S := T ++ [some acc]) (xs := [.bool (isFr x), .bool (isAm x), .bool (isSz x)]) (i := 1) (y := .bool (isAm x)) rfl
          have i2 := ix_lst (S := T ++ [some acc]) (xs := [.str "BadFraction", .str "BadAmount", .str "BadSize"]) (i := 1) (y := .str "BadAmount") rfl
          have i1' : uIx (.d (.list [.bool (isFr x), .bool (isAm x), .bool (isSz x)])) (.d (.int 1)) (T ++ [some acc]) = _ := i1
          have i2' : uIx (.d (.list [.str "BadFraction", .str "BadAmount", .str "BadSize"])) (.d (.int 1)) (T ++ [some acc]) = _ := i2
          cases hb : isAm x <;> simp [hb] at i1' <;> simp [e1__law_n01_forms_right, wipeU, i1', i2', hb, said]
        · have i1 := ix_lst (S := T ++ [some acc]) (xs := [.bool (isFr x), .bool (isAm x), .bool (isSz x)]) (i := 2) (y := .bool (isSz x)) rfl
          have i2 := ix_lst (S := T ++ [some acc]) (xs := [.str "BadFraction", .str "BadAmount", .str "BadSize"]) (i := 2) (y := .str "BadSize") rfl
          have i1' : uIx (.d (.list [.bool (isFr x), .bool (isAm x), .bool (isSz x)])) (.d (.int 2)) (T ++ [some acc]) = _ := i1
          have i2' : uIx (.d (.list [.str "BadFraction", .str "BadAmount", .str "BadSize"])) (.d (.int 2)) (T ++ [some acc]) = _ := i2
          cases hb : isSz x <;> simp [hb] at i1' <;> simp [e1__law_n01_forms_right, wipeU, i1', i2', hb, said]
    rw [this]
    rfl
  refine set_step hlc ?_
  simp only [List.set_cons_succ, List.set_cons_zero]
  subst hT
  have hs := s_same (S := S ++ [some [said (isFr x) "BadFraction" x, said (isAm x) "BadAmount" x, said (isSz x) "BadSize" x]]) (u := .loc S.length) (w := .d (.list [said (isFr x) "BadFraction" x, said (isAm x) "BadAmount" x, said (isSz x) "BadSize" x])) (S1 := S ++ [none]) (by simp only [frzs, frz, at_end, set_end]) (by simp) (hN.nice (by decide)) (Nat.le_trans hN.sz (by simp))
  simp only [gIf, fNotT, fTst, fCall, fN, fCons, fNil, e_varS, e_var0, bind_ok, hs, tru_b, st_ok, Bool.not_true, Bool.false_eq_true, if_false, gNx]
end
end K01

namespace K01
open PySem Z M
section
variable {S : Store}
def e7 : List D := [.tuple [.int 0, .int 1], .tuple [.int 1, .int 1], .tuple [.int 1000000000000000000000000000000000000000000000000000000000000, .int 1], .tuple [.int 1000000000000000000000000000000000000000000000000000000000001, .int 1], .tuple [.int 1, .int 1000000000000000000000000000000000000000000000000000000000000], .tuple [.int 1, .int 1000000000000000000000000000000000000000000000000000000000001], .tuple [.int (-1), .int 1]]
def e6 : List D := [.tuple [.int 1000000, .int 1], .tuple [.int 1000001, .int 1], .tuple [.int 1, .int 1000], .tuple [.int 1, .int 1001], .tuple [.int 1000000, .int 999], .tuple [.int 999999, .int 1000]]
def e14 : List D := (e7 ++ e6) ++ [.tuple [.int (-1), .int 1000]]
theorem form_pair (a b : Int) (h : b.natAbs < 2 ^ 300) : Form (.tuple [.int a, .int b]) := ⟨⟨by simp [PyData.canLay0, PyData.canLayAll0], by simp [PyData.depth, PyData.depthAll], by simp [sz, szs]⟩, fun a' b' e => by cases e; exact h⟩
theorem form_edges : ∀ x ∈ e14, Form x := by
  intro x hx
  simp only [e14, e7, e6, List.cons_append, List.nil_append, List.mem_cons, List.not_mem_nil, or_false] at hx
  rcases hx with rfl | rfl | rfl | rfl | rfl | rfl | rfl | rfl | rfl | rfl | rfl | rfl | rfl | rfl
  all_goals exact form_pair _ _ (by decide +kernel)
theorem form_pq {q : Rat} (h : Bd 80 q) : Form (pq q) := form_pair _ _ (Nat.lt_of_lt_of_le (by rw [Int.natAbs_natCast]; exact h.den) (Nat.pow_le_pow_right (by decide) (by decide)))
theorem s_forms {l n : Nat} (hj : Jar S l n) (hn : n < 800000) : ∃ S', m__law_n01_forms_right [.loc l] S = .ok (.d (.bool true)) S' := by
  have p60 : ∀ S : Store, uPow (.d (.int 10)) (.d (.int 60)) S = .ok (.d (.int 1000000000000000000000000000000000000000000000000000000000000)) S := fun S => by
    rw [pow_i (by decide) (by decide) (by decide)]; rfl
  have p6 : ∀ S : Store, uPow (.d (.int 10)) (.d (.int 6)) S = .ok (.d (.int 1000000)) S := fun S => by
    rw [pow_i (by decide) (by decide) (by decide)]; rfl
  have hl := hj.lt
  obtain ⟨q, S1, bq, e1, j1, k1⟩ := s_fraction (hj.app (o := some e14) hl) (by omega)
  obtain ⟨o, S2, o1, e2, j2, k2⟩ := s_odd j1 (by omega)
  obtain ⟨p, S3, o2, e3, j3, k3⟩ := s_odd j2 (by omega)
  have kk := k1.trans (k2.trans k3)
  have ce : S3[S.length]? = some (some e14) := kk.at (by omega) at_end
  have hform : ∀ x ∈ e14 ++ [pq q, o, p], Form x := by
    intro x hx
    rcases List.mem_append.mp hx with hx | hx
    · exact form_edges x hx
    · simp only [List.mem_cons, List.not_mem_nil, or_false] at hx
      rcases hx with rfl | rfl | rfl
      · exact form_pq bq
      · exact ⟨o1.fine, o1.sm⟩
      · exact ⟨o2.fine, o2.sm⟩
  have hadd : uAdd (.loc S.length) (.d (.list [pq q, o, p])) S3 = .ok (.d (.list (e14 ++ [pq q, o, p]))) S3 := by
    show (match viewM (.loc S.length) S3, viewM (.d (.list [pq q, o, p])) S3 with
      | some xs, some ys => if xs.length + ys.length ≤ 1000000 then _ else _
      | _, _ => _) = _
    have h1 : viewM (.loc S.length) S3 = some e14 := by simp [viewM, ce]
    rw [h1]
    rfl
  generalize hth : e14 ++ [pq q, o, p] = th at hform hadd
  obtain ⟨ρ', S', e, r3, r4, r5, r6, r7, r8, hρ, ho⟩ := forO_inv (P := fun i ρ T => ∃ r3 r4 r5 r6 r7 r8, ρ = [some (.loc l), some (.loc S.length), some (.d (.list th)), r3, r4, r5, r6, r7, r8] ∧ [r4, r5, r6, r7, r8].all okE = true)
    (tg := aName 3) (body := b2__law_n01_forms_right) th 0 [some (.loc l), some (.loc S.length), some (.d (.list th)), none, none, none, none, none, none] S3 (fun i d ρ T hd ⟨r3, r4, r5, r6, r7, r8, hρ, ho⟩ => by
      subst hρ
      obtain ⟨r4', r5', r6', r7', e, ho'⟩ := form_round (S := T) (a1 := .loc S.length) (a2 := .d (.list th)) (l := l) (hform d (List.mem_of_getElem? hd)) rfl rfl ho
      exact ⟨_, _, _, rfl, e, _, _, _, _, _, _, rfl, ho'⟩) ⟨_, _, _, _, _, _, rfl, by simp⟩
  subst hρ
  have hL : isL (.loc S.length) (S ++ [some e7]) = true := isL_end
  have hL2 : isL (.loc S.length) (S ++ [some (e7 ++ e6)]) = true := isL_end
  have hE : uExt (.loc S.length) [.d (.list e6)] (S ++ [some e7]) = .ok (.d .none) (S ++ [some (e7 ++ e6)]) := by
    unfold uExt
    simp only [viewM, at_end, set_end]
    rfl
  have key : g__law_n01_forms_right [some (.loc l), none, none, none, none, none, none, none, none] S = .rt (.d (.bool true)) S' := by
    unfold g__law_n01_forms_right
    refine set_step (u := .loc S.length) (S1 := S ++ [some e7]) (by simp [p60, e7]) ?_
    simp only [List.set_cons_succ, List.set_cons_zero]
    refine drop_step (u := .d .none) (S1 := S ++ [some (e7 ++ e6)]) (by
      simp only [fML, e_varS, e_var0, bind_ok, hL, if_true]
      rw [e6] at hE ⊢
      simp [p6]
      simpa using hE) ?_
    refine drop_step (u := .d .none) (S1 := S ++ [some e14]) (by
      simp only [fML, e_varS, e_var0, bind_ok, hL2, if_true]
      have := app_end (S := S) (xs := e7 ++ e6) (x := .tuple [.int (-1), .int 1000]) (by decide)
      simp only [fN, fCons, f1, fC, fNil, bind_ok, neg_i]
      exact this) ?_
    refine set_step (u := .d (.list th)) (S1 := S3) (by
      simp only [f2, e_varS, e_var0, bind_ok, fN, fCons, fNil, fCall, e1, e2, e3]
      exact hadd) ?_
    simp only [List.set_cons_succ, List.set_cons_zero]
    refine for_step (S1 := S3) (ds := th) rfl e ?_
    rfl
  refine ⟨S'.take S.length, ?_⟩
  unfold m__law_n01_forms_right runD
  rw [show slots 9 [U.loc l] = [some (.loc l), none, none, none, none, none, none, none, none] from rfl, key]
  rfl
end
end K01

namespace K01
open PySem Z M
section
variable {S : Store}
theorem plus_at {a b : Int} {c d : Int} {q r : Rat} {y : D} (hq : PyData.tuple [.int a, .int b] = pq q) (hr : PyData.tuple [.int c, .int d] = pq r) (bq : Bd 10 q) (br : Bd 10 r) (hy : pq (q + r) = y) : m_plus [.d (.tuple [.int a, .int b]), .d (.tuple [.int c, .int d])] S = .ok (.d y) S := by
  rw [hq, hr, s_fplus bq br (by decide), hy]
theorem minus_at {a b : Int} {c d : Int} {q r : Rat} {y : D} (hq : PyData.tuple [.int a, .int b] = pq q) (hr : PyData.tuple [.int c, .int d] = pq r) (bq : Bd 10 q) (br : Bd 10 r) (hy : pq (q - r) = y) : m_minus [.d (.tuple [.int a, .int b]), .d (.tuple [.int c, .int d])] S = .ok (.d y) S := by
  rw [hq, hr, s_minus bq br (by decide), hy]
theorem most_at {a b : Int} {c d : Int} {q r : Rat} {y : Bool} (hq : PyData.tuple [.int a, .int b] = pq q) (hr : PyData.tuple [.int c, .int d] = pq r) (bq : Bd 10 q) (br : Bd 10 r) (hy : decide (q ≤ r) = y) : m_at_most [.d (.tuple [.int a, .int b]), .d (.tuple [.int c, .int d])] S = .ok (.d (.bool y)) S := by
  rw [hq, hr, s_at_most bq br (by decide), hy]
abbrev F1 : Vr → Store → R U := fN mkLst (fCons (fCall m_plus (fCons (fN mkTup (fCons (fC (.d (.int 1))) (fCons (fC (.d (.int 2))) (fNil)))) (fCons (fN mkTup (fCons (fC (.d (.int 1))) (fCons (fC (.d (.int 3))) (fNil)))) (fNil)))) (fCons (fCall m_plus (fCons (fN mkTup (fCons (fC (.d (.int 1))) (fCons (fC (.d (.int 2))) (fNil)))) (fCons (fN mkTup (fCons (f1 uNeg (fC (.d (.int 1)))) (fCons (fC (.d (.int 2))) (fNil)))) (fNil)))) (fCons (fCall m_minus (fCons (fN mkTup (fCons (fC (.d (.int 1))) (fCons (fC (.d (.int 6))) (fNil)))) (fCons (fN mkTup (fCons (fC (.d (.int 2))) (fCons (fC (.d (.int 3))) (fNil)))) (fNil)))) (fNil))))
abbrev F2 : Vr → Store → R U := fN mkLst (fCons (fCall m_at_most (fCons (fN mkTup (fCons (fC (.d (.int 0))) (fCons (fC (.d (.int 1))) (fNil)))) (fCons (fN mkTup (fCons (f1 uNeg (fC (.d (.int 1)))) (fCons (fC (.d (.int 5))) (fNil)))) (fNil)))) (fCons (fCall m_plus (fCons (fN mkTup (fCons (fC (.d (.int 5))) (fCons (fC (.d (.int 6))) (fNil)))) (fCons (fN mkTup (fCons (fC (.d (.int 1))) (fCons (fC (.d (.int 6))) (fNil)))) (fNil)))) (fCons (fCall m_minus (fCons (fN mkTup (fCons (fC (.d (.int 0))) (fCons (fC (.d (.int 1))) (fNil)))) (fCons (fN mkTup (fCons (fC (.d (.int 3))) (fCons (fC (.d (.int 4))) (fNil)))) (fNil)))) (fNil))))
abbrev Y1 : D := .list [.tuple [.int 5, .int 6], .tuple [.int 0, .int 1], .tuple [.int (-1), .int 2]]
abbrev Y2 : D := .list [.bool false, .tuple [.int 1, .int 1], .tuple [.int (-3), .int 4]]
theorem bd10 {a b : Int} (h1 : a.natAbs < 2 ^ 10) (h2 : b.natAbs < 2 ^ 10) (hb : b ≠ 0) : Bd 10 (Rat.divInt a b) := divInt_bd hb h1 h2
theorem F1_ok {ρ : Vr} : F1 ρ S = .ok (.d Y1) S := by
  have a1 : m_plus [.d (.tuple [.int 1, .int 2]), .d (.tuple [.int 1, .int 3])] S = .ok (.d (.tuple [.int 5, .int 6])) S := plus_at (q := Rat.divInt 1 2) (r := Rat.divInt 1 3) (by kernel_rfl) (by kernel_rfl) (bd10 (by decide) (by decide) (by decide)) (bd10 (by decide) (by decide) (by decide)) (by kernel_rfl)
  have a2 : m_plus [.d (.tuple [.int 1, .int 2]), .d (.tuple [.int (-1), .int 2])] S = .ok (.d (.tuple [.int 0, .int 1])) S := plus_at (q := Rat.divInt 1 2) (r := Rat.divInt (-1) 2) (by kernel_rfl) (by kernel_rfl) (bd10 (by decide) (by decide) (by decide)) (bd10 (by decide) (by decide) (by decide)) (by kernel_rfl)
  have a3 : m_minus [.d (.tuple [.int 1, .int 6]), .d (.tuple [.int 2, .int 3])] S = .ok (.d (.tuple [.int (-1), .int 2])) S := minus_at (q := Rat.divInt 1 6) (r := Rat.divInt 2 3) (by kernel_rfl) (by kernel_rfl) (bd10 (by decide) (by decide) (by decide)) (bd10 (by decide) (by decide) (by decide)) (by kernel_rfl)
  simp [F1, a1, a2, a3]
theorem F2_ok {ρ : Vr} : F2 ρ S = .ok (.d Y2) S := by
  have a1 : m_at_most [.d (.tuple [.int 0, .int 1]), .d (.tuple [.int (-1), .int 5])] S = .ok (.d (.bool false)) S := most_at (q := Rat.divInt 0 1) (r := Rat.divInt (-1) 5) (by kernel_rfl) (by kernel_rfl) (bd10 (by decide) (by decide) (by decide)) (bd10 (by decide) (by decide) (by decide)) (by kernel_rfl)
  have a2 : m_plus [.d (.tuple [.int 5, .int 6]), .d (.tuple [.int 1, .int 6])] S = .ok (.d (.tuple [.int 1, .int 1])) S := plus_at (q := Rat.divInt 5 6) (r := Rat.divInt 1 6) (by kernel_rfl) (by kernel_rfl) (bd10 (by decide) (by decide) (by decide)) (bd10 (by decide) (by decide) (by decide)) (by kernel_rfl)
  have a3 : m_minus [.d (.tuple [.int 0, .int 1]), .d (.tuple [.int 3, .int 4])] S = .ok (.d (.tuple [.int (-3), .int 4])) S := minus_at (q := Rat.divInt 0 1) (r := Rat.divInt 3 4) (by kernel_rfl) (by kernel_rfl) (bd10 (by decide) (by decide) (by decide)) (bd10 (by decide) (by decide) (by decide)) (by kernel_rfl)
  simp [F2, a1, a2, a3]
theorem whole_ok {l : Nat} (hj : Jar S l 0) : ∃ S', m__law_n01_whole [.loc l] S = .ok (.d (.bool true)) S' := by
  obtain ⟨ρ', T, e, r1, hρ, hT⟩ := forO_inv (P := fun i ρ T => ∃ r1, ρ = [some (.loc l), r1, none, none, none] ∧ Jar T l (24 * i) ∧ (∀ d, r1 = some (.d d) ∨ okE r1 = true))
    (tg := aName 1) (body := b1__law_n01_whole) (rngD 0 12) 0 [some (.loc l), none, none, none, none] S (fun i d ρ T hd ⟨r1, hρ, hT, _⟩ => by
      subst hρ
      obtain ⟨hi, rfl⟩ := rngD_get _ _ _ _ hd
      rw [Nat.zero_add] at hT ⊢
      obtain ⟨T1, e1, j1, k1⟩ := s_sums hT (by omega)
      obtain ⟨T2, e2, j2, k2⟩ := s_refused j1 (by omega)
      refine ⟨_, [some (.loc l), some (.d (.int (0 + (i : Int)))), none, none, none], T2, rfl, ?_, _, rfl, j2.mono (by omega), fun d => .inr rfl⟩
      simp only [b1__law_n01_whole, gIf, fOrT, fNotT, fTst, fCall, fN, fCons, fNil, e_var0, bind_ok, e1, e2, tru_b, st_ok, Bool.not_true, Bool.false_eq_true, if_false, gNx, List.set_cons_succ, List.set_cons_zero]) ⟨none, rfl, hj.mono (by omega), fun d => .inr rfl⟩
  subst hρ
  obtain ⟨hT, hr1⟩ := hT
  have hr := (hr1 .none).elim (fun h => by rw [h]; rfl) id
  have jF : Jar (T ++ [none]) l 300 := (hT.app hT.lt).mono (by rw [Nat.zero_add, rngD_len]; omega)
  obtain ⟨S', eF⟩ := s_forms jF (by omega)
  have nL : Nice (.list [.tuple [.str "told", Y1], .tuple [.str "told", Y2]]) := ⟨by decide +kernel, by decide +kernel⟩
  have zL : sz (.list [.tuple [.str "told", Y1], .tuple [.str "told", Y2]]) ≤ 1000000 := by decide +kernel
  have key : g__law_n01_whole [some (.loc l), none, none, none, none] S = .rt (.d (.bool true)) S' := by
    unfold g__law_n01_whole
    refine for_step (S1 := S) (ds := rngD 0 12) (by simp only [sN, fCons, fC, fNil, bind_ok, rng1_i (show -(2 ^ 62) ≤ (12 : Int) by decide) (by decide)]; rfl) e ?_
    refine set_step (u := .loc T.length) (S1 := T ++ [some [.tuple [.str "told", Y1]]]) (by
      have := lam_ok (S := T) (y := Y1) (fb := F1) (ρ := [some (.loc l), r1, none, none, none]) (by simp [hr]) F1_ok
      show (fCons (fLam 5 gh__law_n01_heard F1) fNil _ T).bind mkLoc = _
      unfold fCons
      rw [this]
      rfl) ?_
    simp only [List.set_cons_succ, List.set_cons_zero]
    refine drop_step (u := .d .none) (S1 := T ++ [some [.tuple [.str "told", Y1], .tuple [.str "told", Y2]]]) (by
      have := lam_ok (S := T ++ [some [.tuple [.str "told", Y1]]]) (y := Y2) (fb := F2) (ρ := [some (.loc l), r1, some (.loc T.length), none, none]) (by simp [hr]) F2_ok
      have h2 : fCons (fLam 5 gh__law_n01_heard F2) fNil [some (.loc l), r1, some (.loc T.length), none, none] (T ++ [some [.tuple [.str "told", Y1]]]) = .ok [.d (.tuple [.str "told", Y2])] (T ++ [some [.tuple [.str "told", Y1]]]) := by
        unfold fCons
        rw [this]
        rfl
      unfold fML
      rw [show fVar 2 [some (.loc l), r1, some (.loc T.length), none, none] (T ++ [some [.tuple [.str "told", Y1]]]) = .ok (.loc T.length) (T ++ [some [.tuple [.str "told", Y1]]]) from rfl, bind_ok, if_pos isL_end, h2, bind_ok]
      exact app_end (by simp)) ?_
    refine set_step (u := .d (.list [Y1, Y2])) (S1 := T ++ [some [.tuple [.str "told", Y1], .tuple [.str "told", Y2]]]) (by simp) ?_
    simp only [List.set_cons_succ, List.set_cons_zero]
    have hlc : fLc (sSeq (fVar 3)) (aName 4) (fYes) (e2__law_n01_whole) [4] [some (.loc l), r1, some (.loc T.length), some (.d (.list [Y1, Y2])), none] (T ++ [some [.tuple [.str "told", Y1], .tuple [.str "told", Y2]]]) = .ok (.d (.list [.tuple [.str "told", Y1], .tuple [.str "told", Y2]])) (T ++ [some [.tuple [.str "told", Y1], .tuple [.str "told", Y2]]]) := by
      have hs : sSeq (fVar 3) [some (.loc l), r1, some (.loc T.length), some (.d (.list [Y1, Y2])), none] (T ++ [some [.tuple [.str "told", Y1], .tuple [.str "told", Y2]]]) = .ok [Y1, Y2] (T ++ [some [.tuple [.str "told", Y1], .tuple [.str "told", Y2]]]) := seq_l rfl
      exact lc_pure (f := fun d => .tuple [.str "told", d]) hs (by simp) fun d hd => ⟨_, rfl, fun acc => by simp [e2__law_n01_whole, wipeU]⟩
    have hs2 := s_same (S := T ++ [some [.tuple [.str "told", Y1], .tuple [.str "told", Y2]]]) (u := .loc T.length) (w := .d (.list [.tuple [.str "told", Y1], .tuple [.str "told", Y2]])) (S1 := T ++ [none]) (by simp only [frzs, frz, at_end, set_end]) (by simp) nL zL
    refine ret_ok ?_
    simp only [fAndV, fTst, fCall, fN, fCons, fNil, e_varS, e_var0, bind_ok, hlc, hs2, tru_b, if_true, eF]
  refine ⟨S'.take S.length, ?_⟩
  unfold m__law_n01_whole runD
  rw [show slots 5 [U.loc l] = [some (.loc l), none, none, none, none] from rfl, key]
  rfl
/-- the law -/
theorem law_ok (ns : List Int) (hl : ns.length ≤ 63) : ∃ S', m_law [.rd (ns.map PyData.int)] [] = .ok (.d (.bool true)) S' := by
  obtain ⟨S1, e1, j1, _, _⟩ := s_pool (S := []) ns hl
  rw [List.length_nil] at e1 j1
  obtain ⟨S2, e2⟩ := whole_ok j1
  have h3 : slots 1 [U.rd (ns.map PyData.int)] = [some (.rd (ns.map PyData.int))] := rfl
  refine ⟨S2.take 0, run_rtd (n := 1) (g := g_law) (S1 := S2) ?_⟩
  rw [h3]
  exact try0_rt (ret_ok (call1 (call1 e_var0 e1) e2))
end
end K01

theorem PySem.Challenge.cw_oneemptied_k01_fractions_and_their_worth_holds : PySem.Challenge.rw_oneemptied_k01_fractions_and_their_worth.Holds :=
  K01.holds fun ns hl _ => K01.law_ok ns hl
