import PyProof.Rows.All
import Wide.All
import OpenK.AllK
import Wide.FinOn
import HandS.ForMost
import HandS.Exc
import HandS.TryOnly
import HandS.ExcOwn
import HandS.WordsExc
import HandS.CallSlots
import HandS.ExcInit
import HandS.ExcIs
import HandS.ExcField
import HandS.Gcd
import HandS.Wide
import HandS.IsInst
import HandS.Lambda
import HandS.TupAny
import HandS.TupMul
import HandS.Steps
import HandS.HotCalls
import HandS.ExcCtx
import HandS.Defaults
import KE.KExcIs
import HandS.HeadHook4
import HandS.HeadWalk
import HandS.EndTab
import HandS.Head2
import KE.GoesEnum
import HandS.Deep
import PyProof.P3In
import HandS.More
import HandS.TupSets
import KE.SortCalls
import HandS.Conv
import HandS.Style
import HandS.Head3
import PySem.Challenge.RW_oneemptied_k05_lots_and_their_sizes
set_option Elab.async false
set_option linter.all false
set_option maxRecDepth 100000
set_option maxHeartbeats 4000000
/-! Z1: a value-level mirror over the hand layer: data, stores, what fits a reading. -/
namespace Z
open PySem PySem.Spec PyProof.Rows L2

abbrev D := PyData
/-- a value: data that never changes; a list that may change, by its place in the store; some object -/
inductive U where
  | d (x : D)
  | loc (l : Nat)
  | rd (xs : List D)
  | adr (a : Addr)
  | ty (n : String)
  | cls (n : Str)
  | ex (c : Str) (y : D)
  | thk
abbrev Store := List (Option (List D))
abbrev Vr := List (Option U)
inductive R (A : Type) where
  | ok (a : A) (S : Store)
  | exc (c : Str) (x : D) (S : Store)
  | bad
inductive O where
  | nx (r : Vr) (S : Store)
  | rt (u : U) (S : Store)
  | bk (r : Vr) (S : Store)
  | ct (r : Vr) (S : Store)
  | exc (c : Str) (x : D) (r : Vr) (S : Store)
  | bad

/-! ### data in the heap -/
mutual
inductive Is (K : PySem.W.Frag) (F : Hp) : V → D → Prop
  | non : Is K F .non .none
  | bl (b : Bool) : Is K F (.bl b) (.bool b)
  | int (i : Int) : Is K F (.int i) (.int i)
  | str (x : Str) : Is K F (.str x) (.str x)
  | lst {a : Addr} {vs : List V} {ds : List D} : F a = some (.lst vs) → IsAll K F vs ds → Is K F (.ref a) (.list ds)
  | tup {a : Addr} {vs : List V} {ds : List D} : SqT K F a vs → IsAll K F vs ds → Is K F (.ref a) (.tuple ds)
inductive IsAll (K : PySem.W.Frag) (F : Hp) : List V → List D → Prop
  | nil : IsAll K F [] []
  | cons {v : V} {vs : List V} {d : D} {ds : List D} : Is K F v d → IsAll K F vs ds → IsAll K F (v :: vs) (d :: ds)
end
def Le (F F' : Hp) : Prop := ∀ a o, F a = some o → F' a = some o
theorem Le.refl (F : Hp) : Le F F := fun _ _ h => h
theorem Le.trans {F G H : Hp} (a : Le F G) (b : Le G H) : Le F H := fun x o h => b x o (a x o h)
theorem Le.new {F : Hp} {p : Addr} {o : HO} (h : F p = none) : Le F (upd F p o) := fun a u e => by
  rw [upd_ne (ne_of_none e h)]
  exact e
theorem le_rd {F F' : Hp} {a : Addr} {u : HO} (e : Le F F') (h : Rd F a u) : Rd F' a u := by
  rcases h with h | ⟨o, h⟩
  · exact .inl (e a _ h)
  · exact .inr ⟨o, e a _ h⟩
theorem le_t {K : PySem.W.Frag} {F F' : Hp} {a : Addr} {xs : List V} (e : Le F F') (h : SqT K F a xs) : SqT K F' a xs := by
  rcases h with h | h
  · exact .inl (le_rd e h)
  · exact .inr h
theorem le_l {K : PySem.W.Frag} {F F' : Hp} {a : Addr} {xs : List V} (e : Le F F') (h : SqL K F a xs) : SqL K F' a xs := by
  rcases h with h | h
  · exact .inl (le_rd e h)
  · exact .inr h
section
variable {K : PySem.W.Frag} {F F' : Hp}
mutual
theorem Is.mono (e : Le F F') : ∀ (d : D) (v : V), Is K F v d → Is K F' v d
  | .none, _, h => by cases h; exact .non
  | .bool b, _, h => by cases h; exact .bl b
  | .int i, _, h => by cases h; exact .int i
  | .str x, _, h => by cases h; exact .str x
  | .list ds, _, h => by
    cases h with
    | lst a b => exact .lst (e _ _ a) (IsAll.mono e ds _ b)
  | .tuple ds, _, h => by
    cases h with
    | tup a b => exact .tup (le_t e a) (IsAll.mono e ds _ b)
  | .dict _, _, h => by cases h
theorem IsAll.mono (e : Le F F') : ∀ (ds : List D) (vs : List V), IsAll K F vs ds → IsAll K F' vs ds
  | [], _, h => by cases h; exact .nil
  | d :: ds, _, h => by
    cases h with
    | cons a b => exact .cons (Is.mono e d _ a) (IsAll.mono e ds _ b)
end
mutual
theorem Is.dp (e : Le F F') : ∀ (d : D) (v : V), Is K F v d → Dp K F' v d
  | .none, _, h => by cases h; exact .non
  | .bool b, _, h => by cases h; exact .bl b
  | .int i, _, h => by cases h; exact .int i
  | .str x, _, h => by cases h; exact .str x
  | .list ds, _, h => by
    cases h with
    | lst a b => exact .lst (SqL.of (e _ _ a)) (IsAll.dp e ds _ b)
  | .tuple ds, _, h => by
    cases h with
    | tup a b => exact .tup (le_t e a) (IsAll.dp e ds _ b)
  | .dict _, _, h => by cases h
theorem IsAll.dp (e : Le F F') : ∀ (ds : List D) (vs : List V), IsAll K F vs ds → DpAll K F' vs ds
  | [], _, h => by cases h; exact .nil
  | d :: ds, _, h => by
    cases h with
    | cons a b => exact .cons (Is.dp e d _ a) (IsAll.dp e ds _ b)
end
theorem IsAll.length : ∀ {ds : List D} {vs : List V}, IsAll K F vs ds → vs.length = ds.length
  | [], _, h => by cases h; rfl
  | d :: ds, _, h => by
    cases h with
    | cons a b => rw [List.length_cons, List.length_cons, IsAll.length b]
theorem IsAll.get : ∀ {ds : List D} {vs : List V} {i : Nat} {d : D}, IsAll K F vs ds → ds[i]? = some d → ∃ v, vs[i]? = some v ∧ Is K F v d
  | [], _, _, _, h, e => by simp at e
  | x :: ds, _, 0, d, h, e => by
    cases h with
    | cons a b => simp at e; subst e; exact ⟨_, rfl, a⟩
  | x :: ds, _, i + 1, d, h, e => by
    cases h with
    | cons a b =>
      obtain ⟨v, h1, h2⟩ := IsAll.get (i := i) b (by simpa using e)
      exact ⟨v, by simpa using h1, h2⟩
theorem IsAll.append : ∀ {ds es : List D} {vs ws : List V}, IsAll K F vs ds → IsAll K F ws es → IsAll K F (vs ++ ws) (ds ++ es)
  | [], _, _, _, h, k => by cases h; exact k
  | d :: ds, _, _, _, h, k => by
    cases h with
    | cons a b => exact .cons a (IsAll.append b k)
theorem IsAll.take : ∀ (n : Nat) {ds : List D} {vs : List V}, IsAll K F vs ds → IsAll K F (vs.take n) (ds.take n)
  | 0, _, _, _ => by rw [List.take_zero, List.take_zero]; exact .nil
  | n + 1, [], _, h => by cases h; exact .nil
  | n + 1, d :: ds, _, h => by
    cases h with
    | cons a b => exact .cons a (IsAll.take n b)
theorem IsAll.drop : ∀ (n : Nat) {ds : List D} {vs : List V}, IsAll K F vs ds → IsAll K F (vs.drop n) (ds.drop n)
  | 0, _, _, h => h
  | n + 1, [], _, h => by cases h; exact .nil
  | n + 1, d :: ds, _, h => by
    cases h with
    | cons a b => exact IsAll.drop n b
theorem IsAll.set : ∀ {ds : List D} {vs : List V} (i : Nat) {v : V} {d : D}, IsAll K F vs ds → Is K F v d → IsAll K F (vs.set i v) (ds.set i d)
  | [], _, _, _, _, h, _ => by cases h; exact .nil
  | x :: ds, _, 0, _, _, h, k => by
    cases h with
    | cons a b => exact .cons k b
  | x :: ds, _, i + 1, _, _, h, k => by
    cases h with
    | cons a b => exact .cons a (IsAll.set i b k)
theorem IsAll.int : ∀ (ns : List Int), IsAll K F (ns.map V.int) (ns.map PyData.int)
  | [] => .nil
  | n :: ns => .cons (.int n) (IsAll.int ns)
end

/-! ### the state -/
/-- what stays as it is: the written part, the module's names, the code tables; the exception that is handled (its class, its dict); the thunk that was handed in (where it stands, its code, the frame around it) -/
structure Fx where
  K : PySem.W.Frag
  mg : Str → Option Value
  T : List (Addr × Str)
  exc : Addr → Str → Addr → Prop := fun _ _ _ => False
  tf : Addr := 0
  tc : Addr := 0
  tq : Str := Str.empty
  enc : Vr := []
  encσ : L2.St := []
structure Rep (x : Fx) (α : Nat → Addr) (F : Hp) (S : Store) (H : Hp) : Prop where
  le : Le F H
  inj : ∀ i j, i < S.length → j < S.length → α i = α j → i = j
  cell : ∀ (i : Nat) (ds : List D), S[i]? = some (some ds) → F (α i) = none ∧ ∃ vs, H (α i) = some (.lst vs) ∧ IsAll x.K F vs ds
  old : ∀ i, i < S.length → ∃ vs, H (α i) = some (.lst vs)
  tabs : LamX.Tabs x.T H
  tabF : ∀ b ps, F b ≠ some (.tbl ps)
structure Ext (α α' : Nat → Addr) (F F' : Hp) (S S' : Store) : Prop where
  len : S.length ≤ S'.length
  al : ∀ i, i < S.length → α' i = α i
  fr : Le F F'
def IsV (x : Fx) (α : Nat → Addr) (F : Hp) (n : Nat) (v : V) : U → Prop
  | .d y => Is x.K F v y
  | .loc l => v = .ref (α l) ∧ l < n
  | .rd ds => ∃ a vs, v = .ref a ∧ SqL x.K F a vs ∧ IsAll x.K F vs ds
  | .adr a => v = .ref a
  | .ty n => v = .ty n
  | .cls c => ∃ C, v = .ref C ∧ x.mg c = some (.ref C)
  | .ex c y => ∃ a dd fs w, v = .ref a ∧ x.exc a c dd ∧ F dd = some (.xd fs) ∧ fs.lookup ("what" : Str) = some w ∧ Is x.K F w y
  | .thk => False
def IsU (x : Fx) (α : Nat → Addr) (F : Hp) (n : Nat) (v : V) (u : U) : Prop := match u with
  | .thk => v = .ref x.tf ∧ F x.tc = some (LamX.CodeO x.tc x.tq) ∧ x.encσ.length = x.enc.length ∧ ∀ (i : Nat) (u : U), x.enc[i]? = some (some u) → ∃ v', x.encσ[i]? = some (some v') ∧ IsV x α F n v' u
  | u => IsV x α F n v u
structure Sl (x : Fx) (α : Nat → Addr) (F : Hp) (n : Nat) (σ : L2.St) (ρ : Vr) : Prop where
  len : σ.length = ρ.length
  get : ∀ (i : Nat) (u : U), ρ[i]? = some (some u) → ∃ v, σ[i]? = some (some v) ∧ IsU x α F n v u
theorem Ext.refl (α : Nat → Addr) (F : Hp) (S : Store) : Ext α α F F S S := ⟨Nat.le_refl _, fun _ _ => rfl, Le.refl F⟩
theorem Ext.trans {α α1 α2 : Nat → Addr} {F F1 F2 : Hp} {S S1 S2 : Store} (a : Ext α α1 F F1 S S1) (b : Ext α1 α2 F1 F2 S1 S2) : Ext α α2 F F2 S S2 :=
  ⟨Nat.le_trans a.len b.len, fun i h => (b.al i (Nat.lt_of_lt_of_le h a.len)).trans (a.al i h), a.fr.trans b.fr⟩
section
variable {x : Fx} {α α' α1 : Nat → Addr} {F F' F1 : Hp} {S S' S1 : Store} {H H' : Hp} {σ : L2.St} {ρ : Vr} {v : V} {u : U}
theorem IsV.ext (e : Ext α α' F F' S S') (h : IsV x α F S.length v u) : IsV x α' F' S'.length v u := by
  cases u with
  | d y => exact Is.mono e.fr y v h
  | loc l => exact ⟨by rw [e.al l h.2]; exact h.1, Nat.lt_of_lt_of_le h.2 e.len⟩
  | rd ds =>
    obtain ⟨a, vs, h1, h2, h3⟩ := h
    exact ⟨a, vs, h1, le_l e.fr h2, IsAll.mono e.fr _ _ h3⟩
  | adr a => exact h
  | ty n => exact h
  | cls c => exact h
  | ex c y =>
    obtain ⟨a, dd, fs, w, h1, h2, h3, h4, h5⟩ := h
    exact ⟨a, dd, fs, w, h1, h2, e.fr _ _ h3, h4, Is.mono e.fr y w h5⟩
  | thk => exact h
theorem IsU.of (h : IsV x α F S.length v u) : IsU x α F S.length v u := by
  cases u <;> first | exact h | exact h.elim
theorem IsU.ext (e : Ext α α' F F' S S') (h : IsU x α F S.length v u) : IsU x α' F' S'.length v u := by
  cases u with
  | thk =>
    obtain ⟨h1, h2, h3, h4⟩ := h
    refine ⟨h1, e.fr _ _ h2, h3, fun i u hu => ?_⟩
    obtain ⟨v', h5, h6⟩ := h4 i u hu
    exact ⟨v', h5, h6.ext e⟩
  | d y => exact IsV.ext (x := x) (u := .d y) e h
  | loc l => exact IsV.ext (x := x) (u := .loc l) e h
  | rd ds => exact IsV.ext (x := x) (u := .rd ds) e h
  | adr a => exact h
  | ty n => exact h
  | cls c => exact h
  | ex c y => exact IsV.ext (x := x) (u := .ex c y) e h
theorem Sl.ext (e : Ext α α' F F' S S') (h : Sl x α F S.length σ ρ) : Sl x α' F' S'.length σ ρ := ⟨h.len, fun i u hu => by
  obtain ⟨v, h1, h2⟩ := h.get i u hu
  exact ⟨v, h1, h2.ext e⟩⟩
theorem Sl.set (i : Nat) (h : Sl x α F S.length σ ρ) (hu : IsU x α F S.length v u) : Sl x α F S.length (σ.set i (some v)) (ρ.set i (some u)) := by
  refine ⟨by rw [List.length_set, List.length_set, h.len], fun j w hw => ?_⟩
  by_cases e : i = j
  · subst e
    have hl : i < ρ.length := by
      have := List.getElem?_eq_some_iff.mp hw
      obtain ⟨q, _⟩ := this
      rw [List.length_set] at q
      exact q
    rw [List.getElem?_set_self hl] at hw
    cases hw
    exact ⟨v, List.getElem?_set_self (by rw [h.len]; exact hl), hu⟩
  · rw [List.getElem?_set_ne e] at hw ⊢
    exact h.get j w hw
/-- a new frozen object -/
theorem Rep.frozen (r : Rep x α F S H) {p : Addr} {o : HO} (hp : H p = none) (ho : ∀ ps, o ≠ .tbl ps := by intro _ h; cases h) : Rep x α (upd F p o) S (upd H p o) ∧ Ext α α F (upd F p o) S S := by
  have hF : F p = none := by
    cases e : F p with
    | none => rfl
    | some q => rw [r.le _ _ e] at hp; cases hp
  have ne : ∀ i, i < S.length → α i ≠ p := fun i h z => by
    obtain ⟨vs, q⟩ := r.old i h
    rw [z, hp] at q
    cases q
  refine ⟨⟨fun a u e => ?_, r.inj, fun i ds e => ?_, fun i h => ?_, r.tabs.ext fun b o e => ?_, fun q ps hq => ?_⟩, ⟨Nat.le_refl _, fun _ _ => rfl, Le.new hF⟩⟩
  · by_cases z : a = p
    · subst z
      rw [upd_same] at e ⊢
      exact e
    · rw [upd_ne z] at e ⊢
      exact r.le _ _ e
  · have hi : i < S.length := (List.getElem?_eq_some_iff.mp e).1
    obtain ⟨h1, vs, h2, h3⟩ := r.cell i ds e
    exact ⟨by rw [upd_ne (ne i hi)]; exact h1, vs, by rw [upd_ne (ne i hi)]; exact h2, IsAll.mono (Le.new hF) _ _ h3⟩
  · rw [upd_ne (ne i h)]
    exact r.old i h
  · rw [upd_ne (ne_of_none e hp)]
    exact e
  · by_cases z : q = p
    · rw [z, upd_same] at hq
      exact ho ps (Option.some.inj hq)
    · rw [upd_ne z] at hq
      exact r.tabF q ps hq
/-- a new list that may change -/
theorem Rep.fresh (r : Rep x α F S H) {p : Addr} {vs : List V} {ds : List D} (hp : H p = none) (hv : IsAll x.K F vs ds) :
    Rep x (fun i => if i = S.length then p else α i) F (S ++ [some ds]) (upd H p (.lst vs)) ∧ Ext α (fun i => if i = S.length then p else α i) F F S (S ++ [some ds]) := by
  have hF : F p = none := by
    cases e : F p with
    | none => rfl
    | some q => rw [r.le _ _ e] at hp; cases hp
  have ne : ∀ i, i < S.length → α i ≠ p := fun i h z => by
    obtain ⟨vs, q⟩ := r.old i h
    rw [z, hp] at q
    cases q
  have al : ∀ i, i < S.length → (if i = S.length then p else α i) = α i := fun i h => if_neg (Nat.ne_of_lt h)
  have aln : (if S.length = S.length then p else α S.length) = p := if_pos rfl
  have lt : ∀ i, i < (S ++ [some ds]).length → i < S.length ∨ i = S.length := fun i h => by
    rw [List.length_append, List.length_singleton] at h
    omega
  refine ⟨⟨fun a u e => ?_, fun i j hi hj e => ?_, fun i es e => ?_, fun i h => ?_, r.tabs.ext fun b o e => ?_, r.tabF⟩, ⟨by rw [List.length_append]; omega, al, Le.refl F⟩⟩
  · rw [upd_ne (ne_of_none (r.le _ _ e) hp)]
    exact r.le _ _ e
  · rcases lt i hi with h1 | h1 <;> rcases lt j hj with h2 | h2
    · have e' : (if i = S.length then p else α i) = (if j = S.length then p else α j) := e
      rw [al i h1, al j h2] at e'
      exact r.inj i j h1 h2 e'
    · have e' : (if i = S.length then p else α i) = (if j = S.length then p else α j) := e
      rw [al i h1, if_pos h2] at e'
      exact absurd e' (ne i h1)
    · have e' : (if i = S.length then p else α i) = (if j = S.length then p else α j) := e
      rw [al j h2, if_pos h1] at e'
      exact absurd e'.symm (ne j h2)
    · rw [h1, h2]
  · show F (if i = S.length then p else α i) = none ∧ ∃ vs', upd H p (.lst vs) (if i = S.length then p else α i) = some (.lst vs') ∧ _
    by_cases hi : i < S.length
    · rw [al i hi]
      rw [List.getElem?_append_left hi] at e
      obtain ⟨h1, ws, h2, h3⟩ := r.cell i es e
      exact ⟨h1, ws, by rw [upd_ne (ne i hi)]; exact h2, h3⟩
    · have hl := (List.getElem?_eq_some_iff.mp e).1
      have h1 : i = S.length := by
        rcases lt i hl with z | z
        · exact absurd z hi
        · exact z
      subst h1
      rw [List.getElem?_append_right (Nat.le_refl _)] at e
      simp at e
      subst e
      rw [aln]
      exact ⟨hF, vs, upd_same, hv⟩
  · show ∃ ws, upd H p (.lst vs) (if i = S.length then p else α i) = some (.lst ws)
    rcases lt i h with h1 | h1
    · rw [al i h1, upd_ne (ne i h1)]
      exact r.old i h1
    · rw [if_pos h1, upd_same]
      exact ⟨_, rfl⟩
  · rw [upd_ne (ne_of_none e hp)]
    exact e
/-- a list that may change is changed -/
theorem Rep.write (r : Rep x α F S H) {l : Nat} {ds es : List D} {ws : List V} (h : S[l]? = some (some ds)) (hw : IsAll x.K F ws es) :
    Rep x α F (S.set l (some es)) (upd H (α l) (.lst ws)) ∧ Ext α α F F S (S.set l (some es)) := by
  have hl : l < S.length := (List.getElem?_eq_some_iff.mp h).1
  obtain ⟨c1, vs, c2, c3⟩ := r.cell l ds h
  refine ⟨⟨fun a u e => ?_, fun i j hi hj => r.inj i j (by simpa using hi) (by simpa using hj), fun i fs e => ?_, fun i hi => ?_, fun q hq => ?_, r.tabF⟩, ⟨by rw [List.length_set]; exact Nat.le_refl _, fun _ _ => rfl, Le.refl F⟩⟩
  · rw [upd_ne (ne_of_none e c1)]
    exact r.le _ _ e
  · by_cases z : l = i
    · subst z
      rw [List.getElem?_set_self hl] at e
      cases e
      exact ⟨c1, ws, upd_same, hw⟩
    · rw [List.getElem?_set_ne z] at e
      have hi : i < S.length := (List.getElem?_eq_some_iff.mp e).1
      obtain ⟨h1, ts, h2, h3⟩ := r.cell i fs e
      exact ⟨h1, ts, by rw [upd_ne (fun y => z (r.inj l i hl hi y.symm))]; exact h2, h3⟩
  · by_cases z : α i = α l
    · rw [z, upd_same]
      exact ⟨_, rfl⟩
    · rw [upd_ne z]
      exact r.old i (by simpa using hi)
  · obtain ⟨ps, h1, h2, h3⟩ := r.tabs q hq
    have n1 : q.1 ≠ α l := fun z => by rw [z, c2] at h1; cases h1
    refine ⟨ps, by rw [upd_ne n1]; exact h1, h2, fun pos cv hc => ?_⟩
    obtain ⟨c, e1, e2⟩ := h3 pos cv hc
    refine ⟨c, e1, ?_⟩
    have n2 : c ≠ α l := fun z => by
      rw [z, c2] at e2
      unfold LamX.CodeO at e2
      cases e2
    rw [upd_ne n2]
    exact e2
/-- a list stops changing -/
theorem Rep.freeze (r : Rep x α F S H) {l : Nat} {ds : List D} (h : S[l]? = some (some ds)) :
    ∃ F' vs, Rep x α F' (S.set l none) H ∧ Ext α α F F' S (S.set l none) ∧ F' (α l) = some (.lst vs) ∧ IsAll x.K F' vs ds := by
  have hl : l < S.length := (List.getElem?_eq_some_iff.mp h).1
  obtain ⟨c1, vs, c2, c3⟩ := r.cell l ds h
  have le1 : Le F (upd F (α l) (.lst vs)) := Le.new c1
  refine ⟨upd F (α l) (.lst vs), vs, ⟨fun a u e => ?_, fun i j hi hj => r.inj i j (by simpa using hi) (by simpa using hj), fun i fs e => ?_, fun i hi => r.old i (by simpa using hi), r.tabs, fun q ps hq => ?_⟩,
    ⟨by rw [List.length_set]; exact Nat.le_refl _, fun _ _ => rfl, le1⟩, upd_same, IsAll.mono le1 _ _ c3⟩
  · by_cases z : a = α l
    · subst z
      rw [upd_same] at e
      rw [← e]
      exact c2
    · rw [upd_ne z] at e
      exact r.le _ _ e
  · have z : l ≠ i := fun z => by
      subst z
      rw [List.getElem?_set_self hl] at e
      cases e
    rw [List.getElem?_set_ne z] at e
    have hi : i < S.length := (List.getElem?_eq_some_iff.mp e).1
    obtain ⟨h1, ts, h2, h3⟩ := r.cell i fs e
    exact ⟨by rw [upd_ne (fun y => z (r.inj l i hl hi y.symm))]; exact h1, ts, h2, IsAll.mono le1 _ _ h3⟩
  · by_cases z : q = α l
    · rw [z, upd_same] at hq
      cases hq
    · rw [upd_ne z] at hq
      exact r.tabF q ps hq
/-- tables of code objects grow, new objects come -/
theorem Rep.extN {H1 : Hp} (r : Rep x α F S H) (e : LamX.ExtN H H1) (t : LamX.Tabs x.T H1) : Rep x α F S H1 := by
  refine ⟨fun a u h => e _ _ (r.le a u h) fun ps z => r.tabF a ps (by rw [← z]; exact h), r.inj, fun i ds h => ?_, fun i h => ?_, t, r.tabF⟩
  · obtain ⟨h1, vs, h2, h3⟩ := r.cell i ds h
    exact ⟨h1, vs, e _ _ h2 (fun ps z => by cases z), h3⟩
  · obtain ⟨vs, h2⟩ := r.old i h
    exact ⟨vs, e _ _ h2 (fun ps z => by cases z)⟩
/-- an object that is there is known -/
theorem Rep.knows (r : Rep x α F S H) {c : Addr} {o : HO} (h : H c = some o) (h1 : ∀ ps, o ≠ .tbl ps) (h2 : ∀ vs, o ≠ .lst vs) : ∃ F', Rep x α F' S H ∧ Ext α α F F' S S ∧ F' c = some o := by
  refine ⟨upd F c o, ⟨fun a u e => ?_, r.inj, fun i ds e => ?_, r.old, r.tabs, fun q ps hq => ?_⟩, ⟨Nat.le_refl _, fun _ _ => rfl, fun a u e => ?_⟩, upd_same⟩
  · by_cases z : a = c
    · rw [z, upd_same] at e
      rw [z, h, e]
    · rw [upd_ne z] at e
      exact r.le _ _ e
  · obtain ⟨c1, vs, c2, c3⟩ := r.cell i ds e
    refine ⟨?_, vs, c2, IsAll.mono (fun a u e => ?_) _ _ c3⟩
    · rw [upd_ne (fun z => by rw [z, h] at c2; exact h2 _ (Option.some.inj c2))]
      exact c1
    · by_cases z : a = c
      · rw [z, upd_same, ← h, ← r.le _ _ e, z]
      · rw [upd_ne z]
        exact e
  · by_cases z : q = c
    · rw [z, upd_same] at hq
      exact h1 ps (Option.some.inj hq)
    · rw [upd_ne z] at hq
      exact r.tabF q ps hq
  · by_cases z : a = c
    · rw [z, upd_same, ← h, ← r.le _ _ e, z]
    · rw [upd_ne z]
      exact e
/-- the last places are forgotten -/
theorem Rep.cut (r : Rep x α F S H) (n : Nat) : Rep x α F (S.take n) H := by
  have lt : ∀ i, i < (S.take n).length → i < S.length := fun i h => by rw [List.length_take] at h; omega
  refine ⟨r.le, fun i j hi hj => r.inj i j (lt i hi) (lt j hj), fun i ds e => r.cell i ds ?_, fun i h => r.old i (lt i h), r.tabs, r.tabF⟩
  have hi := (List.getElem?_eq_some_iff.mp e).1
  rw [List.length_take] at hi
  rw [List.getElem?_take_of_lt (by omega)] at e
  exact e
end
end Z

namespace Z
open PySem PySem.Spec PyProof.Rows L2

def R.bind {A C : Type} (r : R A) (k : A → Store → R C) : R C := match r with
  | .ok a S => k a S
  | .exc c x S => .exc c x S
  | .bad => .bad
def R.st {A : Type} (r : R A) (ρ : Vr) (k : A → Store → O) : O := match r with
  | .ok a S => k a S
  | .exc c x S => .exc c x ρ S
  | .bad => .bad
def O.seq (o : O) (k : Vr → Store → O) : O := match o with
  | .nx ρ S => k ρ S
  | o => o
/-! ### what is wanted behind -/
abbrev Rl (A B : Type) := Fx → (Nat → Addr) → Hp → Nat → B → A → Prop
def Post {A B : Type} (rel : Rl A B) (x : Fx) (W : WX) (α : Nat → Addr) (F : Hp) (S : Store) (σ : L2.St) (Q : B → Hp → Prop) : R A → Prop
  | .ok a S' => ∀ α' F' H' b, Ext α α' F F' S S' → Rep x α' F' S' H' → rel x α' F' S'.length b a → Q b H'
  | .exc c d S' => ∀ α' F' H' (C p : Addr) v fs, Ext α α' F F' S S' → Rep x α' F' S' H' → x.mg c = some (.ref C) → F' p = some (.xd fs) → fs.lookup ("what" : Str) = some v → Is x.K F' v d → W (.ref C) (some p) σ H'
  | .bad => False
def Fit {A B : Type} (rel : Rl A B) (x : Fx) (W : WX) (t : L2.St → Hp → (B → Hp → Prop) → Prop) (f : Vr → Store → R A) : Prop :=
  ∀ α F ρ S σ H, Rep x α F S H → Sl x α F S.length σ ρ → ∀ Q, Post rel x W α F S σ Q (f ρ S) → t σ H Q
def zU : Rl U V := fun x α F n v u => IsU x α F n v u
def zB : Rl Bool Bool := fun _ _ _ _ b a => b = a
def zO : Rl (Option Int) (Option Int) := fun _ _ _ _ b a => b = a
inductive IsUs (x : Fx) (α : Nat → Addr) (F : Hp) (n : Nat) : List V → List U → Prop
  | nil : IsUs x α F n [] []
  | cons {v : V} {vs : List V} {u : U} {us : List U} : IsU x α F n v u → IsUs x α F n vs us → IsUs x α F n (v :: vs) (u :: us)
def zUs : Rl (List U) (List V) := fun x α F n vs us => IsUs x α F n vs us
abbrev FitE := Fit zU
abbrev FitT := Fit zB
abbrev FitA := Fit zUs
abbrev FitP := Fit zO
section
variable {A B A' B' : Type} {rel : Rl A B} {rel' : Rl A' B'} {x : Fx} {W : WX} {α α1 : Nat → Addr} {F F1 : Hp} {S S1 : Store} {H H1 : Hp} {σ : L2.St} {ρ : Vr}
theorem Post.ext (e : Ext α α1 F F1 S S1) {Q : B → Hp → Prop} {r : R A} (p : Post rel x W α F S σ Q r) : Post rel x W α1 F1 S1 σ Q r := by
  cases r with
  | ok a S' => exact fun α' F' H' b e1 => p α' F' H' b (e.trans e1)
  | exc c d S' => exact fun α' F' H' C p' v fs e1 => p α' F' H' C p' v fs (e.trans e1)
  | bad => exact p
theorem Post.imp {Q Q' : B → Hp → Prop} {r : R A} (p : Post rel x W α F S σ Q r) (h : ∀ b H, Q b H → Q' b H) : Post rel x W α F S σ Q' r := by
  cases r with
  | ok a S' => exact fun α' F' H' b e1 e2 e3 => h _ _ (p α' F' H' b e1 e2 e3)
  | exc c d S' => exact p
  | bad => exact p
theorem Fit.bind {t : L2.St → Hp → (B → Hp → Prop) → Prop} {f : Vr → Store → R A} {k : A → Store → R A'} {Q : B' → Hp → Prop} {Q1 : B → Hp → Prop} (h : Fit rel x W t f) (r : Rep x α F S H) (s : Sl x α F S.length σ ρ)
    (p : Post rel' x W α F S σ Q ((f ρ S).bind k))
    (c : ∀ α1 F1 S1 H1 b a, Ext α α1 F F1 S S1 → Rep x α1 F1 S1 H1 → Sl x α1 F1 S1.length σ ρ → rel x α1 F1 S1.length b a → Post rel' x W α1 F1 S1 σ Q (k a S1) → Q1 b H1) : t σ H Q1 := by
  refine h α F ρ S σ H r s Q1 ?_
  cases e : f ρ S with
  | ok a S1 =>
    rw [e] at p
    exact fun α1 F1 H1 b e1 r1 q => c α1 F1 S1 H1 b a e1 r1 (s.ext e1) q (Post.ext e1 p)
  | exc cc d S1 =>
    rw [e] at p
    exact p
  | bad =>
    rw [e] at p
    exact p
end
theorem IsUs.length {x : Fx} {α : Nat → Addr} {F : Hp} {n : Nat} : ∀ {vs : List V} {us : List U}, IsUs x α F n vs us → vs.length = us.length
  | _, _, .nil => rfl
  | _, _, .cons _ t => by rw [List.length_cons, List.length_cons, IsUs.length t]
theorem IsUs.ext {x : Fx} {α α' : Nat → Addr} {F F' : Hp} {S S' : Store} (e : Ext α α' F F' S S') : ∀ {vs : List V} {us : List U}, IsUs x α F S.length vs us → IsUs x α' F' S'.length vs us
  | _, _, .nil => .nil
  | _, _, .cons h t => .cons (h.ext e) (IsUs.ext e t)

/-! ### freezing -/
def frz (u : U) (S : Store) : Option (D × Store) := match u with
  | .d y => some (y, S)
  | .loc l => match S[l]? with
    | some (some ds) => some (.list ds, S.set l none)
    | _ => none
  | _ => none
def frzs : List U → Store → Option (List D × Store)
  | [], S => some ([], S)
  | u :: us, S => match frz u S with
    | some (y, S1) => (match frzs us S1 with
      | some (ys, S2) => some (y :: ys, S2)
      | none => none)
    | none => none
section
variable {x : Fx} {α : Nat → Addr} {F : Hp} {S S' : Store} {H : Hp}
theorem frz_ok {v : V} {u : U} {y : D} (r : Rep x α F S H) (h : IsU x α F S.length v u) (e : frz u S = some (y, S')) : ∃ F', Rep x α F' S' H ∧ Ext α α F F' S S' ∧ Is x.K F' v y := by
  unfold frz at e
  cases u with
  | d z =>
    cases e
    exact ⟨F, r, Ext.refl _ _ _, h⟩
  | loc l =>
    dsimp only at e
    split at e
    · rename_i ds q
      cases e
      obtain ⟨F', vs, r1, e1, h1, h2⟩ := r.freeze q
      refine ⟨F', r1, e1, ?_⟩
      obtain ⟨hv, _⟩ := h
      subst hv
      exact .lst h1 h2
    · cases e
  | rd _ => cases e
  | adr _ => cases e
  | ty _ => cases e
  | cls _ => cases e
  | ex _ _ => cases e
  | thk => cases e
theorem frzs_ok : ∀ {us : List U} {vs : List V} {S S' : Store} {F : Hp} {ys : List D}, Rep x α F S H → IsUs x α F S.length vs us → frzs us S = some (ys, S') → ∃ F', Rep x α F' S' H ∧ Ext α α F F' S S' ∧ IsAll x.K F' vs ys
  | [], _, S, S', F, ys, r, h, e => by
    cases h
    cases e
    exact ⟨F, r, Ext.refl _ _ _, .nil⟩
  | u :: us, _, S, S', F, ys, r, h, e => by
    cases h with
    | cons h1 h2 =>
      unfold frzs at e
      split at e
      · rename_i y S1 q1
        split at e
        · rename_i zs S2 q2
          cases e
          obtain ⟨F1, r1, e1, i1⟩ := frz_ok r h1 q1
          obtain ⟨F2, r2, e2, i2⟩ := frzs_ok r1 (h2.ext e1) q2
          exact ⟨F2, r2, e1.trans e2, .cons (Is.mono e2.fr _ _ i1) i2⟩
        · cases e
      · cases e
end
/-! ### expressions: values -/
def fVar (i : Nat) : Vr → Store → R U := fun ρ S => match ρ[i]? with
  | some (some u) => .ok u S
  | _ => .bad
@[simp] def fC (u : U) : Vr → Store → R U := fun _ S => .ok u S
@[simp] def fNil : Vr → Store → R (List U) := fun _ S => .ok [] S
@[simp] def fCons (f : Vr → Store → R U) (g : Vr → Store → R (List U)) : Vr → Store → R (List U) := fun ρ S => (f ρ S).bind fun u S1 => (g ρ S1).bind fun us S2 => .ok (u :: us) S2
@[simp] def mkTup (us : List U) (S : Store) : R U := match frzs us S with
  | some (ds, S1) => if ds.length ≤ 1000000 then .ok (.d (.tuple ds)) S1 else .bad
  | none => .bad
@[simp] def mkLst (us : List U) (S : Store) : R U := match frzs us S with
  | some (ds, S1) => if ds.length ≤ 1000000 then .ok (.d (.list ds)) S1 else .bad
  | none => .bad
@[simp] def mkLoc (us : List U) (S : Store) : R U := match frzs us S with
  | some (ds, S1) => if ds.length ≤ 1000000 then .ok (.loc S1.length) (S1 ++ [some ds]) else .bad
  | none => .bad
@[simp] def f1 (g : U → Store → R U) (fa : Vr → Store → R U) : Vr → Store → R U := fun ρ S => (fa ρ S).bind g
@[simp] def f2 (g : U → U → Store → R U) (fa fb : Vr → Store → R U) : Vr → Store → R U := fun ρ S => (fa ρ S).bind fun u S1 => (fb ρ S1).bind fun w S2 => g u w S2
@[simp] def fN (g : List U → Store → R U) (fa : Vr → Store → R (List U)) : Vr → Store → R U := fun ρ S => (fa ρ S).bind g
def tru (u : U) (S : Store) : R Bool := match u with
  | .d (.bool b) => .ok b S
  | _ => .bad
@[simp] def fTst (fe : Vr → Store → R U) : Vr → Store → R Bool := fun ρ S => (fe ρ S).bind tru
@[simp] def fAndT (a b : Vr → Store → R Bool) : Vr → Store → R Bool := fun ρ S => (a ρ S).bind fun c S1 => if c = true then b ρ S1 else .ok false S1
@[simp] def fOrT (a b : Vr → Store → R Bool) : Vr → Store → R Bool := fun ρ S => (a ρ S).bind fun c S1 => if c = true then .ok true S1 else b ρ S1
@[simp] def fNotT (a : Vr → Store → R Bool) : Vr → Store → R Bool := fun ρ S => (a ρ S).bind fun c S1 => .ok (!c) S1
@[simp] def fAndV (a b : Vr → Store → R U) : Vr → Store → R U := fun ρ S => (fTst a ρ S).bind fun c S1 => if c = true then b ρ S1 else .ok (.d (.bool false)) S1
@[simp] def fOrV (a b : Vr → Store → R U) : Vr → Store → R U := fun ρ S => (fTst a ρ S).bind fun c S1 => if c = true then .ok (.d (.bool true)) S1 else b ρ S1
@[simp] def fNotV (a : Vr → Store → R U) : Vr → Store → R U := fun ρ S => (fTst a ρ S).bind fun c S1 => .ok (.d (.bool !c)) S1
@[simp] def fIf (t : Vr → Store → R Bool) (a b : Vr → Store → R U) : Vr → Store → R U := fun ρ S => (t ρ S).bind fun c S1 => if c = true then a ρ S1 else b ρ S1
@[simp] def fChain (g g' : U → U → Store → R U) (fa fb fc : Vr → Store → R U) : Vr → Store → R U := fun ρ S => (fa ρ S).bind fun u S1 => (fb ρ S1).bind fun w S2 => ((g u w S2).bind tru).bind fun c S3 =>
  if c = true then (fc ρ S3).bind fun z S4 => g' w z S4 else .ok (.d (.bool false)) S3
/-- an operation on values -/
def Fit2 (x : Fx) (r : R2) (g : U → U → Store → R U) : Prop := ∀ W α F S σ H v w u u', Rep x α F S H → IsU x α F S.length v u → IsU x α F S.length w u' → ∀ Q, Post zU x W α F S σ Q (g u u' S) → r v w H Q
def Fit1 (x : Fx) (r : V → Hp → VK → Prop) (g : U → Store → R U) : Prop := ∀ W α F S σ H v u, Rep x α F S H → IsU x α F S.length v u → ∀ Q, Post zU x W α F S σ Q (g u S) → r v H Q
def FitN (x : Fx) (r : List V → Hp → VK → Prop) (g : List U → Store → R U) : Prop := ∀ W α F S σ H vs us, Rep x α F S H → IsUs x α F S.length vs us → ∀ Q, Post zU x W α F S σ Q (g us S) → r vs H Q
section
variable {x : Fx} {W : WX} {ta tb tc : TE} {t t' : TT} {ts : TA} {fa fb fc : Vr → Store → R U} {f f' : Vr → Store → R Bool} {fs : Vr → Store → R (List U)}
theorem is_bool {α : Nat → Addr} {F : Hp} {n : Nat} {v : V} {b : Bool} (h : IsU x α F n v (.d (.bool b))) : v = .bl b := by
  have h' : Is x.K F v (.bool b) := h
  cases h'
  rfl
theorem is_int {α : Nat → Addr} {F : Hp} {n : Nat} {v : V} {i : Int} (h : IsU x α F n v (.d (.int i))) : v = .int i := by
  have h' : Is x.K F v (.int i) := h
  cases h'
  rfl
theorem fit_var (i : Nat) : FitE x W (tVar i) (fVar i) := by
  intro α F ρ S σ H r s Q p
  unfold fVar at p
  split at p
  · rename_i u e
    obtain ⟨v, h1, h2⟩ := s.get i u e
    exact ⟨v, h1, p α F H v (Ext.refl _ _ _) r h2⟩
  · exact p.elim
theorem fit_c {v : V} {u : U} (h : ∀ α F n, IsU x α F n v u) : FitE x W (tC v) (fC u) := fun α F ρ S σ H r s Q p => p α F H v (Ext.refl _ _ _) r (h α F _)
theorem fit_int (i : Int) : FitE x W (tC (.int i)) (fC (.d (.int i))) := fit_c fun _ _ _ => .int i
theorem fit_str (i : Str) : FitE x W (tC (.str i)) (fC (.d (.str i))) := fit_c fun _ _ _ => .str i
theorem fit_bl (i : Bool) : FitE x W (tC (.bl i)) (fC (.d (.bool i))) := fit_c fun _ _ _ => .bl i
theorem fit_non : FitE x W (tC .non) (fC (.d .none)) := fit_c fun _ _ _ => .non
theorem fit_nil : FitA x W tNil fNil := fun α F ρ S σ H r s Q p => p α F H [] (Ext.refl _ _ _) r .nil
theorem fit_cons (h : FitE x W ta fa) (hs : FitA x W ts fs) : FitA x W (tCons ta ts) (fCons fa fs) := by
  intro α F ρ S σ H r s Q p
  refine h.bind r s p fun α1 F1 S1 H1 v u e1 r1 s1 i1 p1 => ?_
  refine hs.bind r1 s1 p1 fun α2 F2 S2 H2 vs us e2 r2 s2 i2 p2 => ?_
  exact p2 α2 F2 H2 (v :: vs) (Ext.refl _ _ _) r2 (.cons (IsU.ext e2 i1) i2)
theorem le_line {n : Nat} (h : n ≤ 1000000) : n ≤ sizeLine := Nat.le_trans h (by decide)
theorem lt_line {n : Nat} (h : n < 1000000) : n < sizeLine := Nat.lt_of_lt_of_le h (by decide)
theorem fit_tup (h : FitA x W ts fs) : FitE x W (tTup ts) (fN mkTup fs) := by
  intro α F ρ S σ H r s Q p
  refine h.bind r s p fun α1 F1 S1 H1 vs us e1 r1 s1 i1 p1 => ?_
  unfold mkTup at p1
  split at p1
  · rename_i ds S2 q
    split at p1
    · rename_i hl
      obtain ⟨F2, r2, e2, i2⟩ := frzs_ok r1 i1 q
      refine ⟨le_line (by rw [i2.length]; exact hl), fun q hq => ?_⟩
      obtain ⟨r3, e3⟩ := r2.frozen (o := .tup vs) hq
      exact p1 _ _ _ _ (e2.trans e3) r3 (.tup (SqT.of upd_same) (IsAll.mono e3.fr _ _ i2))
    · exact p1.elim
  · exact p1.elim
theorem fit_lst (h : FitA x W ts fs) : FitE x W (tLst ts) (fN mkLst fs) := by
  intro α F ρ S σ H r s Q p
  refine h.bind r s p fun α1 F1 S1 H1 vs us e1 r1 s1 i1 p1 => ?_
  unfold mkLst at p1
  split at p1
  · rename_i ds S2 q
    split at p1
    · rename_i hl
      obtain ⟨F2, r2, e2, i2⟩ := frzs_ok r1 i1 q
      refine ⟨le_line (by rw [i2.length]; exact hl), fun q hq => ?_⟩
      obtain ⟨r3, e3⟩ := r2.frozen (o := .lst vs) hq
      exact p1 _ _ _ _ (e2.trans e3) r3 (.lst upd_same (IsAll.mono e3.fr _ _ i2))
    · exact p1.elim
  · exact p1.elim
theorem fit_loc (h : FitA x W ts fs) : FitE x W (tLst ts) (fN mkLoc fs) := by
  intro α F ρ S σ H r s Q p
  refine h.bind r s p fun α1 F1 S1 H1 vs us e1 r1 s1 i1 p1 => ?_
  unfold mkLoc at p1
  split at p1
  · rename_i ds S2 q
    split at p1
    · rename_i hl
      obtain ⟨F2, r2, e2, i2⟩ := frzs_ok r1 i1 q
      refine ⟨le_line (by rw [i2.length]; exact hl), fun q hq => ?_⟩
      obtain ⟨r3, e3⟩ := r2.fresh (vs := vs) hq i2
      refine p1 _ _ _ _ (e2.trans e3) r3 ⟨?_, ?_⟩
      · show V.ref q = V.ref (if S2.length = S2.length then q else α1 S2.length)
        rw [if_pos rfl]
      · rw [List.length_append, List.length_singleton]
        exact Nat.lt_succ_self _
    · exact p1.elim
  · exact p1.elim
theorem fit_op {r : R2} {g : U → U → Store → R U} (hr : Fit2 x r g) (ha : FitE x W ta fa) (hb : FitE x W tb fb) : FitE x W (tOp r ta tb) (f2 g fa fb) := by
  intro α F ρ S σ H r0 s Q p
  refine ha.bind r0 s p fun α1 F1 S1 H1 v u e1 r1 s1 i1 p1 => ?_
  refine hb.bind r1 s1 p1 fun α2 F2 S2 H2 w u' e2 r2 s2 i2 p2 => ?_
  exact hr W α2 F2 S2 σ H2 v w u u' r2 (IsU.ext e2 i1) i2 Q p2
theorem fit_un {r : V → Hp → VK → Prop} {g : U → Store → R U} (hr : Fit1 x r g) (ha : FitE x W ta fa) : FitE x W (tUn r ta) (f1 g fa) := by
  intro α F ρ S σ H r0 s Q p
  refine ha.bind r0 s p fun α1 F1 S1 H1 v u e1 r1 s1 i1 p1 => ?_
  exact hr W α1 F1 S1 σ H1 v u r1 i1 Q p1
theorem fit_cb {r : List V → Hp → VK → Prop} {g : List U → Store → R U} (hr : FitN x r g) (ha : FitA x W ts fs) : FitE x W (tCB r ts) (fN g fs) := by
  intro α F ρ S σ H r0 s Q p
  refine ha.bind r0 s p fun α1 F1 S1 H1 v u e1 r1 s1 i1 p1 => ?_
  exact hr W α1 F1 S1 σ H1 v u r1 i1 Q p1
theorem tru_ok {α : Nat → Addr} {F : Hp} {S : Store} {σ : L2.St} {H : Hp} {v : V} {u : U} {Q : Bool → Hp → Prop} (r : Rep x α F S H) (i : IsU x α F S.length v u) (p : Post zB x W α F S σ Q (tru u S)) : ∃ b, v = .bl b ∧ Q b H := by
  unfold tru at p
  split at p
  · rename_i b
    exact ⟨b, is_bool i, p α F H b (Ext.refl _ _ _) r rfl⟩
  · exact p.elim
theorem fit_tst (h : FitE x W ta fa) : FitT x W (tTest ta) (fTst fa) := by
  intro α F ρ S σ H r0 s Q p
  exact h.bind r0 s p fun α1 F1 S1 H1 v u e1 r1 s1 i1 p1 => tru_ok r1 i1 p1
theorem fit_tB (h : FitE x W ta fa) : FitT x W (tB ta) (fTst fa) := fit_tst h
theorem fit_and (h : FitT x W t f) (h' : FitT x W t' f') : FitT x W (tAnd t t') (fAndT f f') := by
  intro α F ρ S σ H r0 s Q p
  refine h.bind r0 s p fun α1 F1 S1 H1 b a e1 r1 s1 i1 p1 => ?_
  have i1' : b = a := i1
  subst i1'
  cases b with
  | true => exact h' _ _ _ _ _ _ r1 s1 Q p1
  | false => exact p1 _ _ _ _ (Ext.refl _ _ _) r1 rfl
theorem fit_or (h : FitT x W t f) (h' : FitT x W t' f') : FitT x W (tOr t t') (fOrT f f') := by
  intro α F ρ S σ H r0 s Q p
  refine h.bind r0 s p fun α1 F1 S1 H1 b a e1 r1 s1 i1 p1 => ?_
  have i1' : b = a := i1
  subst i1'
  cases b with
  | false => exact h' _ _ _ _ _ _ r1 s1 Q p1
  | true => exact p1 _ _ _ _ (Ext.refl _ _ _) r1 rfl
theorem fit_not (h : FitT x W t f) : FitT x W (tNot t) (fNotT f) := by
  intro α F ρ S σ H r0 s Q p
  refine h.bind r0 s p fun α1 F1 S1 H1 b a e1 r1 s1 i1 p1 => ?_
  have i1' : b = a := i1
  subst i1'
  exact p1 _ _ _ _ (Ext.refl _ _ _) r1 rfl
theorem fit_andV (h : FitE x W ta fa) (h' : FitE x W tb fb) : FitE x W (tAndV ta tb) (fAndV fa fb) := by
  intro α F ρ S σ H r0 s Q p
  refine (fit_tst h).bind r0 s p fun α1 F1 S1 H1 b a e1 r1 s1 i1 p1 => ?_
  have i1' : b = a := i1
  subst i1'
  cases b with
  | true => exact h' _ _ _ _ _ _ r1 s1 Q p1
  | false => exact p1 _ _ _ _ (Ext.refl _ _ _) r1 (.bl false)
theorem fit_orV (h : FitE x W ta fa) (h' : FitE x W tb fb) : FitE x W (tOrV ta tb) (fOrV fa fb) := by
  intro α F ρ S σ H r0 s Q p
  refine (fit_tst h).bind r0 s p fun α1 F1 S1 H1 b a e1 r1 s1 i1 p1 => ?_
  have i1' : b = a := i1
  subst i1'
  cases b with
  | false => exact h' _ _ _ _ _ _ r1 s1 Q p1
  | true => exact p1 _ _ _ _ (Ext.refl _ _ _) r1 (.bl true)
theorem fit_notV (h : FitE x W ta fa) : FitE x W (tNotV ta) (fNotV fa) := by
  intro α F ρ S σ H r0 s Q p
  refine (fit_tst h).bind r0 s p fun α1 F1 S1 H1 b a e1 r1 s1 i1 p1 => ?_
  have i1' : b = a := i1
  subst i1'
  exact p1 _ _ _ _ (Ext.refl _ _ _) r1 (.bl _)
theorem fit_if (h : FitT x W t f) (ha : FitE x W ta fa) (hb : FitE x W tb fb) : FitE x W (tIf t ta tb) (fIf f fa fb) := by
  intro α F ρ S σ H r0 s Q p
  refine h.bind r0 s p fun α1 F1 S1 H1 b a e1 r1 s1 i1 p1 => ?_
  have i1' : b = a := i1
  subst i1'
  cases b with
  | true => exact ha _ _ _ _ _ _ r1 s1 Q p1
  | false => exact hb _ _ _ _ _ _ r1 s1 Q p1
theorem Post.binds {A B A' B' : Type} {rel : Rl A B} {rel' : Rl A' B'} {α : Nat → Addr} {F : Hp} {S : Store} {σ : L2.St} {r : R A} {k : A → Store → R A'} {Q : B' → Hp → Prop} {Q1 : B → Hp → Prop} (p : Post rel' x W α F S σ Q (r.bind k))
    (c : ∀ α1 F1 S1 H1 b a, Ext α α1 F F1 S S1 → Rep x α1 F1 S1 H1 → rel x α1 F1 S1.length b a → Post rel' x W α1 F1 S1 σ Q (k a S1) → Q1 b H1) : Post rel x W α F S σ Q1 r := by
  cases r with
  | ok a S' => exact fun α' F' H' b e1 r1 i1 => c _ _ _ _ _ _ e1 r1 i1 (Post.ext e1 p)
  | exc c d S' => exact p
  | bad => exact p
theorem fit_chain {r r' : R2} {g g' : U → U → Store → R U} (hr : Fit2 x r g) (hr' : Fit2 x r' g') (ha : FitE x W ta fa) (hb : FitE x W tb fb) (hc : FitE x W tc fc) : FitE x W (tChain r r' ta tb tc) (fChain g g' fa fb fc) := by
  intro α F ρ S σ H r0 s Q p
  refine ha.bind r0 s p fun α1 F1 S1 H1 v u e1 r1 s1 i1 p1 => ?_
  refine hb.bind r1 s1 p1 fun α2 F2 S2 H2 w u' e2 r2 s2 i2 p2 => ?_
  have p2' := p2
  refine hr W α2 F2 S2 σ H2 v w u u' r2 (IsU.ext e2 i1) i2 _ ?_
  have asc : ((g u u' S2).bind tru).bind (fun c S3 => if c = true then (fc ρ S3).bind fun z S4 => g' u' z S4 else .ok (.d (.bool false)) S3) = (g u u' S2).bind fun y S3 => (tru y S3).bind fun c S3 => if c = true then (fc ρ S3).bind fun z S4 => g' u' z S4 else .ok (.d (.bool false)) S3 := by
    cases g u u' S2 <;> rfl
  rw [asc] at p2'
  refine p2'.binds fun α3 F3 S3 H3 z y e3 r3 i3 p3 => ?_
  cases hy : y with
  | d q =>
    rw [hy] at p3 i3
    cases q with
    | bool c =>
      refine ⟨c, is_bool i3, ?_⟩
      cases c with
      | true =>
        refine hc.bind r3 (s2.ext e3) p3 fun α4 F4 S4 H4 z2 y2 e4 r4 s4 i4 p4 => ?_
        exact hr' W α4 F4 S4 σ H4 w z2 u' y2 r4 (IsU.ext e4 (IsU.ext e3 i2)) i4 Q p4
      | false => exact p3 _ _ _ _ (Ext.refl _ _ _) r3 (.bl false)
    | _ => exact p3.elim
  | _ => rw [hy] at p3; exact p3.elim
end
end Z

namespace Z
open PySem PySem.Spec PyProof.Rows L2
/-! ### statements -/
def PostS (x : Fx) (W : WX) (α : Nat → Addr) (F : Hp) (S : Store) (D : Ends) : O → Prop
  | .nx ρ' S' => ∀ α' F' H' σ', Ext α α' F F' S S' → Rep x α' F' S' H' → Sl x α' F' S'.length σ' ρ' → D.nx σ' H'
  | .bk ρ' S' => ∀ α' F' H' σ', Ext α α' F F' S S' → Rep x α' F' S' H' → Sl x α' F' S'.length σ' ρ' → D.bk σ' H'
  | .ct ρ' S' => ∀ α' F' H' σ', Ext α α' F F' S S' → Rep x α' F' S' H' → Sl x α' F' S'.length σ' ρ' → D.ct σ' H'
  | .rt u S' => ∀ α' F' H' v, Ext α α' F F' S S' → Rep x α' F' S' H' → IsU x α' F' S'.length v u → D.rt v H'
  | .exc c d ρ' S' => ∀ α' F' H' σ' (C p : Addr) v fs, Ext α α' F F' S S' → Rep x α' F' S' H' → Sl x α' F' S'.length σ' ρ' → x.mg c = some (.ref C) → F' p = some (.xd fs) → fs.lookup ("what" : Str) = some v → Is x.K F' v d → W (.ref C) (some p) σ' H'
  | .bad => False
def FitS (x : Fx) (W : WX) (t : TS) (g : Vr → Store → O) : Prop := ∀ α F ρ S σ H, Rep x α F S H → Sl x α F S.length σ ρ → ∀ D, PostS x W α F S D (g ρ S) → t D σ H
section
variable {A B : Type} {rel : Rl A B} {x : Fx} {W : WX} {α α1 : Nat → Addr} {F F1 : Hp} {S S1 : Store} {H H1 : Hp} {σ : L2.St} {ρ : Vr} {D : Ends}
theorem PostS.ext (e : Ext α α1 F F1 S S1) {o : O} (p : PostS x W α F S D o) : PostS x W α1 F1 S1 D o := by
  cases o with
  | nx ρ' S' => exact fun α' F' H' σ' e1 => p α' F' H' σ' (e.trans e1)
  | bk ρ' S' => exact fun α' F' H' σ' e1 => p α' F' H' σ' (e.trans e1)
  | ct ρ' S' => exact fun α' F' H' σ' e1 => p α' F' H' σ' (e.trans e1)
  | rt u S' => exact fun α' F' H' σ' e1 => p α' F' H' σ' (e.trans e1)
  | exc c d ρ' S' => exact fun α' F' H' σ' C q v fs e1 => p α' F' H' σ' C q v fs (e.trans e1)
  | bad => exact p
/-- an expression ahead -/
theorem Fit.st {t : L2.St → Hp → (B → Hp → Prop) → Prop} {f : Vr → Store → R A} {k : A → Store → O} {Q1 : B → Hp → Prop} (h : Fit rel x W t f) (r : Rep x α F S H) (s : Sl x α F S.length σ ρ) (p : PostS x W α F S D ((f ρ S).st ρ k))
    (c : ∀ α1 F1 S1 H1 b a, Ext α α1 F F1 S S1 → Rep x α1 F1 S1 H1 → Sl x α1 F1 S1.length σ ρ → rel x α1 F1 S1.length b a → PostS x W α1 F1 S1 D (k a S1) → Q1 b H1) : t σ H Q1 := by
  refine h α F ρ S σ H r s Q1 ?_
  cases e : f ρ S with
  | ok a S1 =>
    rw [e] at p
    exact fun α1 F1 H1 b e1 r1 q => c α1 F1 S1 H1 b a e1 r1 (s.ext e1) q (PostS.ext e1 p)
  | exc cc d S1 =>
    rw [e] at p
    exact fun α' F' H' C q v fs e1 r1 => p α' F' H' σ C q v fs e1 r1 (s.ext e1)
  | bad =>
    rw [e] at p
    exact p
end
@[simp] def gNx : Vr → Store → O := .nx
@[simp] def gSeq (a b : Vr → Store → O) : Vr → Store → O := fun ρ S => (a ρ S).seq b
@[simp] def gSet (i : Nat) (fe : Vr → Store → R U) : Vr → Store → O := fun ρ S => (fe ρ S).st ρ fun u S1 => .nx (ρ.set i (some u)) S1
@[simp] def gDrop (fe : Vr → Store → R U) : Vr → Store → O := fun ρ S => (fe ρ S).st ρ fun _ S1 => .nx ρ S1
@[simp] def gRet (fe : Vr → Store → R U) : Vr → Store → O := fun ρ S => (fe ρ S).st ρ fun u S1 => .rt u S1
@[simp] def gRetN : Vr → Store → O := fun _ S => .rt (.d .none) S
@[simp] def gIf (t : Vr → Store → R Bool) (a b : Vr → Store → O) : Vr → Store → O := fun ρ S => (t ρ S).st ρ fun c S1 => if c = true then a ρ S1 else b ρ S1
@[simp] def gPar (i j : Nat) (fs : Vr → Store → R (List U)) : Vr → Store → O := fun ρ S => (fs ρ S).st ρ fun us S1 => match us with
  | [u, w] => .nx ((ρ.set i (some u)).set j (some w)) S1
  | _ => .bad
@[simp] def gBrk : Vr → Store → O := .bk
@[simp] def gCnt : Vr → Store → O := .ct
def Flow' (D : Ends) (nx : L2.St → Hp → Prop) : Ends := { D with nx := nx }
section
variable {x : Fx} {W : WX} {t u : TS} {a b : Vr → Store → O} {te : TE} {fe : Vr → Store → R U} {tt : TT} {f : Vr → Store → R Bool} {ts : TA} {fs : Vr → Store → R (List U)}
theorem fits_nx : FitS x W tNext gNx := fun α F ρ S σ H r s D p => p α F H σ (Ext.refl _ _ _) r s
theorem fits_brk : FitS x W tBreak gBrk := fun α F ρ S σ H r s D p => p α F H σ (Ext.refl _ _ _) r s
theorem fits_cnt : FitS x W tCont gCnt := fun α F ρ S σ H r s D p => p α F H σ (Ext.refl _ _ _) r s
theorem fits_seq (h : FitS x W t a) (h' : FitS x W u b) : FitS x W (tSeq t u) (gSeq a b) := by
  intro α F ρ S σ H r s D p
  refine h α F ρ S σ H r s { D with nx := u D } ?_
  unfold gSeq at p
  cases e : a ρ S with
  | nx ρ' S' =>
    rw [e] at p
    exact fun α' F' H' σ' e1 r1 s1 => h' α' F' ρ' S' σ' H' r1 s1 D (PostS.ext e1 p)
  | rt u' S' => rw [e] at p; exact p
  | bk ρ' S' => rw [e] at p; exact p
  | ct ρ' S' => rw [e] at p; exact p
  | exc c d ρ' S' => rw [e] at p; exact p
  | bad => rw [e] at p; exact p
theorem fits_set (i : Nat) (h : FitE x W te fe) : FitS x W (tAsg te (gName i)) (gSet i fe) := by
  intro α F ρ S σ H r s D p
  exact h.st r s p fun α1 F1 S1 H1 v w e1 r1 s1 i1 p1 => p1 α1 F1 H1 _ (Ext.refl _ _ _) r1 (s1.set i i1)
theorem fits_drop (h : FitE x W te fe) : FitS x W (tDrop te) (gDrop fe) := by
  intro α F ρ S σ H r s D p
  exact h.st r s p fun α1 F1 S1 H1 v w e1 r1 s1 i1 p1 => p1 α1 F1 H1 _ (Ext.refl _ _ _) r1 s1
theorem fits_ret (h : FitE x W te fe) : FitS x W (tRet te) (gRet fe) := by
  intro α F ρ S σ H r s D p
  exact h.st r s p fun α1 F1 S1 H1 v w e1 r1 s1 i1 p1 => p1 α1 F1 H1 v (Ext.refl _ _ _) r1 i1
theorem fits_retN : FitS x W tRetN gRetN := fun α F ρ S σ H r s D p => p α F H .non (Ext.refl _ _ _) r .non
theorem fits_if (h : FitT x W tt f) (ha : FitS x W t a) (hb : FitS x W u b) : FitS x W (tIfS tt t u) (gIf f a b) := by
  intro α F ρ S σ H r s D p
  refine h.st r s p fun α1 F1 S1 H1 c c' e1 r1 s1 i1 p1 => ?_
  have i1' : c = c' := i1
  subst i1'
  cases c with
  | true => exact ha α1 F1 ρ S1 σ H1 r1 s1 D p1
  | false => exact hb α1 F1 ρ S1 σ H1 r1 s1 D p1
theorem fits_par (i j : Nat) (h : FitA x W ts fs) : FitS x W (tPar i j ts) (gPar i j fs) := by
  intro α F ρ S σ H r s D p
  refine h.st r s p fun α1 F1 S1 H1 vs us e1 r1 s1 i1 p1 => ?_
  split at p1
  · rename_i u' w'
    have i1' : IsUs x α1 F1 S1.length vs [u', w'] := i1
    cases i1' with
    | cons h1 h2 =>
      cases h2 with
      | cons h3 h4 =>
        cases h4
        exact ⟨_, _, rfl, p1 α1 F1 H1 _ (Ext.refl _ _ _) r1 ((s1.set i h1).set j h3)⟩
  · exact p1.elim
end
/-! ### targets -/
def FitG (x : Fx) (g : TG) (a : U → Vr → Option Vr) : Prop := ∀ α F ρ S σ H v u ρ', Rep x α F S H → Sl x α F S.length σ ρ → IsU x α F S.length v u → a u ρ = some ρ' → ∀ Q : L2.St → Hp → Prop, (∀ σ', Sl x α F S.length σ' ρ' → Q σ' H) → g v σ H Q
def FitGs (x : Fx) (g : TGs) (a : List D → Vr → Option Vr) : Prop := ∀ α F ρ S σ H vs us ρ', Rep x α F S H → Sl x α F S.length σ ρ → IsAll x.K F vs us → a us ρ = some ρ' → ∀ Q : L2.St → Hp → Prop, (∀ σ', Sl x α F S.length σ' ρ' → Q σ' H) → g vs σ H Q
@[simp] def aName (i : Nat) : U → Vr → Option Vr := fun u ρ => some (ρ.set i (some u))
@[simp] def aTup (n : Nat) (a : List D → Vr → Option Vr) : U → Vr → Option Vr := fun u ρ => match u with
  | .d (.tuple ds) => if ds.length = n then a ds ρ else none
  | _ => none
@[simp] def aNil : List D → Vr → Option Vr := fun ds ρ => match ds with
  | [] => some ρ
  | _ => none
@[simp] def aCons (a : U → Vr → Option Vr) (b : List D → Vr → Option Vr) : List D → Vr → Option Vr := fun ds ρ => match ds with
  | d :: ds => (a (.d d) ρ).bind (b ds)
  | [] => none
@[simp] def gAsg (fe : Vr → Store → R U) (a : U → Vr → Option Vr) : Vr → Store → O := fun ρ S => (fe ρ S).st ρ fun u S1 => match a u ρ with
  | some ρ' => .nx ρ' S1
  | none => .bad
section
variable {x : Fx} {W : WX} {g : TG} {gs : TGs} {a : U → Vr → Option Vr} {b : List D → Vr → Option Vr} {te : TE} {fe : Vr → Store → R U}
theorem fitg_name (i : Nat) : FitG x (gName i) (aName i) := by
  intro α F ρ S σ H v u ρ' r s i1 e Q q
  cases e
  exact q _ (s.set i i1)
theorem fitg_nil : FitGs x gNil aNil := by
  intro α F ρ S σ H vs us ρ' r s i1 e Q q
  unfold aNil at e
  split at e
  · cases e
    cases i1
    exact ⟨rfl, q _ s⟩
  · cases e
theorem fitg_cons (h : FitG x g a) (h' : FitGs x gs b) : FitGs x (gCons g gs) (aCons a b) := by
  intro α F ρ S σ H vs us ρ' r s i1 e Q q
  unfold aCons at e
  split at e
  · rename_i d ds
    cases i1 with
    | cons h1 h2 =>
      cases e1 : a (.d d) ρ with
      | none => rw [e1] at e; cases e
      | some ρ1 =>
        rw [e1] at e
        exact ⟨_, _, rfl, h α F ρ S σ H _ (.d d) ρ1 r s h1 e1 _ fun σ1 s1 => h' α F ρ1 S σ1 H _ ds ρ' r s1 h2 e Q q⟩
  · cases e
theorem fitg_tup {n : Nat} (h : FitGs x gs b) : FitG x (gTup x.K n gs) (aTup n b) := by
  intro α F ρ S σ H v u ρ' r s i1 e Q q
  unfold aTup at e
  split at e
  · rename_i ds
    have i1' : Is x.K F v (.tuple ds) := i1
    cases i1' with
    | tup h1 h2 =>
      split at e
      · rename_i hl
        exact ⟨_, _, rfl, le_t r.le h1, by rw [h2.length]; exact hl, h α F ρ S σ H _ ds ρ' r s h2 e Q q⟩
      · cases e
  · cases e
theorem fits_asg (h : FitE x W te fe) (hg : FitG x g a) : FitS x W (tAsg te g) (gAsg fe a) := by
  intro α F ρ S σ H r s D p
  refine h.st r s p fun α1 F1 S1 H1 v w e1 r1 s1 i1 p1 => ?_
  split at p1
  · rename_i ρ' e
    exact hg α1 F1 ρ S1 σ H1 v w ρ' r1 s1 i1 e D.nx fun σ' s' => p1 α1 F1 H1 σ' (Ext.refl _ _ _) r1 s'
  · exact p1.elim
end
/-! ### what is walked -/
def Wk (x : Fx) (F : Hp) (J : It) (ds : List D) : Prop := ∀ α F' S H, Le F F' → Rep x α F' S H → ∀ i : Nat,
  (∀ d, ds[i]? = some d → J.go i H ∧ ∀ v H', J.yld i H v H' → ∃ F'', Rep x α F'' S H' ∧ Ext α α F' F'' S S ∧ Is x.K F'' v d) ∧ (ds.length ≤ i → J.stop i H)
def zI : Rl (List D) It := fun x _ F _ J ds => Wk x F J ds
abbrev FitI := Fit zI
def forO (tg : U → Vr → Option Vr) (body : Vr → Store → O) : List D → Vr → Store → O
  | [], ρ, S => .nx ρ S
  | d :: ds, ρ, S => match tg (.d d) ρ with
    | none => .bad
    | some ρ1 => match body ρ1 S with
      | .nx ρ2 S2 => forO tg body ds ρ2 S2
      | .ct ρ2 S2 => forO tg body ds ρ2 S2
      | .bk ρ2 S2 => .nx ρ2 S2
      | o => o
def gFor (src : Vr → Store → R (List D)) (tg : U → Vr → Option Vr) (body : Vr → Store → O) : Vr → Store → O := fun ρ S => (src ρ S).st ρ fun ds S1 => forO tg body ds ρ S1
theorem drop_cons {ds : List D} {i : Nat} {d : D} (h : ds[i]? = some d) : ds.drop i = d :: ds.drop (i + 1) := by
  obtain ⟨hi, e⟩ := List.getElem?_eq_some_iff.mp h
  rw [← e]
  exact List.drop_eq_getElem_cons hi
section
variable {x : Fx} {W : WX} {wi : TI} {src : Vr → Store → R (List D)} {g : TG} {tg : U → Vr → Option Vr} {tb : TS} {body : Vr → Store → O}
theorem fits_for (h : FitI x W wi src) (hg : FitG x g tg) (hb : FitS x W tb body) : FitS x W (tFor wi g tb) (gFor src tg body) := by
  intro α F ρ S σ H r s D p
  refine h.st r s p fun α1 F1 S1 H1 J ds e1 r1 s1 wk p1 => ?_
  refine ⟨fun i m σ' H' => m = ds.length - i ∧ i ≤ ds.length ∧ ∃ α' F' ρ' S', Ext α1 α' F1 F' S1 S' ∧ Rep x α' F' S' H' ∧ Sl x α' F' S'.length σ' ρ' ∧ PostS x W α' F' S' D (forO tg body (ds.drop i) ρ' S'),
    ⟨ds.length, rfl, Nat.zero_le _, α1, F1, ρ, S1, Ext.refl _ _ _, r1, s1, p1⟩, ?_⟩
  rintro i m σ' H' ⟨hm, hi, α', F', ρ', S', e2, r2, s2, p2⟩
  obtain ⟨w1, w2⟩ := wk α' F' S' H' e2.fr r2 i
  by_cases hlt : i < ds.length
  · have hd : ds[i]? = some ds[i] := List.getElem?_eq_getElem hlt
    obtain ⟨go, yl⟩ := w1 _ hd
    refine .inr ⟨go, fun σ3 H3 => i + 1 ≤ ds.length ∧ ∃ α' F' ρ' S', Ext α1 α' F1 F' S1 S' ∧ Rep x α' F' S' H3 ∧ Sl x α' F' S'.length σ3 ρ' ∧ PostS x W α' F' S' D (forO tg body (ds.drop (i + 1)) ρ' S'),
      fun σ3 H3 n => ⟨ds.length - (i + 1), by omega, rfl, n⟩, fun v H3 y => ?_⟩
    obtain ⟨F3, r3, e3, i3⟩ := yl v H3 y
    rw [drop_cons hd] at p2
    unfold forO at p2
    split at p2
    · exact p2.elim
    · rename_i ρ1 et
      refine hg α' F3 ρ' S' σ' H3 v (.d ds[i]) ρ1 r3 (s2.ext e3) i3 et _ fun σ4 s4 => ?_
      refine hb α' F3 ρ1 S' σ4 H3 r3 s4 _ ?_
      have p3 := PostS.ext e3 p2
      cases eb : body ρ1 S' with
      | nx ρ2 S2 =>
        rw [eb] at p3
        exact fun α5 F5 H5 σ5 e5 r5 s5 => ⟨hlt, α5, F5, ρ2, S2, (e2.trans e3).trans e5, r5, s5, PostS.ext e5 p3⟩
      | ct ρ2 S2 =>
        rw [eb] at p3
        exact fun α5 F5 H5 σ5 e5 r5 s5 => ⟨hlt, α5, F5, ρ2, S2, (e2.trans e3).trans e5, r5, s5, PostS.ext e5 p3⟩
      | bk ρ2 S2 => rw [eb] at p3; exact p3
      | rt u S2 => rw [eb] at p3; exact p3
      | exc c d ρ2 S2 => rw [eb] at p3; exact p3
      | bad => rw [eb] at p3; exact p3
  · have e : i = ds.length := by omega
    subst e
    rw [List.drop_length] at p2
    exact .inl ⟨w2 (Nat.le_refl _), p2 α' F' H' σ' (Ext.refl _ _ _) r2 s2⟩
end
/-! ### while -/
def whN (t : Vr → Store → R Bool) (body : Vr → Store → O) : Nat → Vr → Store → O
  | 0, _, _ => .bad
  | n + 1, ρ, S => (t ρ S).st ρ fun b S1 => if b = true then (match body ρ S1 with
      | .nx ρ2 S2 => whN t body n ρ2 S2
      | .ct ρ2 S2 => whN t body n ρ2 S2
      | .bk ρ2 S2 => .nx ρ2 S2
      | o => o) else .nx ρ S1
theorem whN_mono (t : Vr → Store → R Bool) (body : Vr → Store → O) : ∀ (n : Nat) (ρ : Vr) (S : Store), whN t body n ρ S ≠ .bad → whN t body (n + 1) ρ S = whN t body n ρ S
  | 0, _, _, h => absurd rfl h
  | n + 1, ρ, S, h => by
    rw [whN] at h ⊢
    rw [whN]
    cases e : t ρ S with
    | exc c d S1 => rfl
    | bad => rfl
    | ok b S1 =>
      rw [e] at h
      cases b with
      | false => rfl
      | true =>
        simp only [R.st, if_true] at h ⊢
        cases eb : body ρ S1 with
        | nx ρ2 S2 => rw [eb] at h; exact whN_mono t body n ρ2 S2 h
        | ct ρ2 S2 => rw [eb] at h; exact whN_mono t body n ρ2 S2 h
        | _ => rfl
theorem whN_le {t : Vr → Store → R Bool} {body : Vr → Store → O} {ρ : Vr} {S : Store} {n : Nat} (h : whN t body n ρ S ≠ .bad) : ∀ m, whN t body (n + m) ρ S = whN t body n ρ S
  | 0 => rfl
  | m + 1 => by
    have ih := whN_le h m
    rw [← Nat.add_assoc, whN_mono t body (n + m) ρ S (by rw [ih]; exact h), ih]
theorem whN_det {t : Vr → Store → R Bool} {body : Vr → Store → O} {ρ : Vr} {S : Store} {n m : Nat} (h : whN t body n ρ S ≠ .bad) (h' : whN t body m ρ S ≠ .bad) : whN t body n ρ S = whN t body m ρ S := by
  rcases Nat.le_total n m with l | l
  · obtain ⟨k, rfl⟩ := Nat.exists_eq_add_of_le l
    exact (whN_le h k).symm
  · obtain ⟨k, rfl⟩ := Nat.exists_eq_add_of_le l
    exact whN_le h' k
open Classical in
noncomputable def gWh (t : Vr → Store → R Bool) (body : Vr → Store → O) : Vr → Store → O := fun ρ S => if h : ∃ n, whN t body n ρ S ≠ .bad then whN t body (Classical.choose h) ρ S else .bad
theorem gWh_of {t : Vr → Store → R Bool} {body : Vr → Store → O} {ρ : Vr} {S : Store} {n : Nat} (h : whN t body n ρ S ≠ .bad) : gWh t body ρ S = whN t body n ρ S := by
  have hx : ∃ n, whN t body n ρ S ≠ .bad := ⟨n, h⟩
  unfold gWh
  rw [dif_pos hx]
  exact whN_det (Classical.choose_spec hx) h
theorem gWh_ex {t : Vr → Store → R Bool} {body : Vr → Store → O} {ρ : Vr} {S : Store} (h : gWh t body ρ S ≠ .bad) : ∃ n, gWh t body ρ S = whN t body n ρ S := by
  unfold gWh at h ⊢
  split at h
  · rename_i hx
    rw [dif_pos hx]
    exact ⟨_, rfl⟩
  · exact absurd rfl h
/-- the one-turn equation, where a turn goes on -/
theorem gWh_go {t : Vr → Store → R Bool} {body : Vr → Store → O} {ρ : Vr} {S S1 : Store} {ρ2 : Vr} {S2 : Store} (h1 : t ρ S = .ok true S1) (h2 : body ρ S1 = .nx ρ2 S2) (h3 : gWh t body ρ2 S2 ≠ .bad) : gWh t body ρ S = gWh t body ρ2 S2 := by
  obtain ⟨n, hn⟩ := gWh_ex h3
  have e : whN t body (n + 1) ρ S = whN t body n ρ2 S2 := by
    rw [whN, h1]
    simp only [R.st, if_true]
    rw [h2]
  rw [hn, ← e]
  exact gWh_of (by rw [e, ← hn]; exact h3)
theorem gWh_end {t : Vr → Store → R Bool} {body : Vr → Store → O} {ρ : Vr} {S S1 : Store} (h1 : t ρ S = .ok false S1) : gWh t body ρ S = .nx ρ S1 := by
  have e : whN t body 1 ρ S = .nx ρ S1 := by
    rw [whN, h1]
    rfl
  rw [← e]
  exact gWh_of (by rw [e]; exact fun z => nomatch z)
theorem gWh_rt {t : Vr → Store → R Bool} {body : Vr → Store → O} {ρ : Vr} {S S1 S2 : Store} {u : U} (h1 : t ρ S = .ok true S1) (h2 : body ρ S1 = .rt u S2) : gWh t body ρ S = .rt u S2 := by
  have e : whN t body 1 ρ S = .rt u S2 := by
    rw [whN, h1]
    simp only [R.st, if_true]
    rw [h2]
  rw [← e]
  exact gWh_of (by rw [e]; exact fun z => nomatch z)
section
variable {x : Fx} {W : WX} {tt : TT} {f : Vr → Store → R Bool} {tb : TS} {body : Vr → Store → O}
theorem fits_wh (h : FitT x W tt f) (hb : FitS x W tb body) : FitS x W (tWhile tt tb) (gWh f body) := by
  intro α F ρ S σ H r s D p
  have nb : gWh f body ρ S ≠ .bad := fun z => by rw [z] at p; exact p
  obtain ⟨n, hn⟩ := gWh_ex nb
  rw [hn] at p
  refine ⟨fun m σ' H' => ∃ α' F' ρ' S', Ext α α' F F' S S' ∧ Rep x α' F' S' H' ∧ Sl x α' F' S'.length σ' ρ' ∧ PostS x W α' F' S' D (whN f body m ρ' S'), ⟨n, α, F, ρ, S, Ext.refl _ _ _, r, s, p⟩, ?_⟩
  rintro m σ' H' ⟨α', F', ρ', S', e2, r2, s2, p2⟩
  cases m with
  | zero => exact p2.elim
  | succ m =>
    rw [whN] at p2
    refine h.st r2 s2 p2 fun α3 F3 S3 H3 b b' e3 r3 s3 i3 p3 => ?_
    have i3' : b = b' := i3
    subst i3'
    cases b with
    | false => exact p3 α3 F3 H3 σ' (Ext.refl _ _ _) r3 s3
    | true =>
      refine ⟨fun σ4 H4 => ∃ α' F' ρ' S', Ext α α' F F' S S' ∧ Rep x α' F' S' H4 ∧ Sl x α' F' S'.length σ4 ρ' ∧ PostS x W α' F' S' D (whN f body m ρ' S'), fun σ4 H4 w => ⟨m, Nat.lt_succ_self m, w⟩, ?_⟩
      refine hb α3 F3 ρ' S3 σ' H3 r3 s3 _ ?_
      simp only [if_true] at p3
      cases eb : body ρ' S3 with
      | nx ρ2 S2 =>
        rw [eb] at p3
        exact fun α5 F5 H5 σ5 e5 r5 s5 => ⟨α5, F5, ρ2, S2, (e2.trans e3).trans e5, r5, s5, PostS.ext e5 p3⟩
      | ct ρ2 S2 =>
        rw [eb] at p3
        exact fun α5 F5 H5 σ5 e5 r5 s5 => ⟨α5, F5, ρ2, S2, (e2.trans e3).trans e5, r5, s5, PostS.ext e5 p3⟩
      | bk ρ2 S2 => rw [eb] at p3; exact p3
      | rt u S2 => rw [eb] at p3; exact p3
      | exc c d ρ2 S2 => rw [eb] at p3; exact p3
      | bad => rw [eb] at p3; exact p3
end
/-! ### defs -/
def retn (n : Nat) (u : U) (S : Store) : R U := match u with
  | .d y => .ok (.d y) (S.take n)
  | .loc l => if l < n then .ok (.loc l) (S.take n) else (match S[l]? with
    | some (some ds) => .ok (.loc n) (S.take n ++ [some ds])
    | _ => .bad)
  | _ => .bad
def fin (n : Nat) : O → R U
  | .nx _ S => .ok (.d .none) (S.take n)
  | .rt u S => retn n u S
  | .exc c d _ S => .exc c d (S.take n)
  | _ => .bad
/-- a def's own slots at its entry -/
@[simp] def slots (k : Nat) (us : List U) : Vr := us.map some ++ List.replicate (k - us.length) none
@[simp] def runD (k : Nat) (g : Vr → Store → O) : List U → Store → R U := fun us S => fin S.length (g (slots k us) S)
def spOf (x : Fx) (np : Nat) (m : List U → Store → R U) : Sp := fun vs H Q E => ∃ α F S us, vs.length = np ∧ Rep x α F S H ∧ IsUs x α F S.length vs us ∧ Post zU x (fun c d _ H => E c d H) α F S [] Q (m us S)
section
variable {x : Fx}
theorem sl_start {α : Nat → Addr} {F : Hp} {n : Nat} {N : List Str} : ∀ {vs : List V} {us : List U}, IsUs x α F n vs us → Sl x α F n (L2.start N vs) (slots N.length us) := by
  intro vs us h
  have hl := h.length
  have key : ∀ {vs : List V} {us : List U}, IsUs x α F n vs us → ∀ (m : Nat) (i : Nat) (u : U), (us.map some ++ List.replicate m none)[i]? = some (some u) → ∃ v, (vs.map some ++ List.replicate m none)[i]? = some (some v) ∧ IsU x α F n v u := by
    intro vs us h
    induction h with
    | nil =>
      intro m i u e
      simp only [List.map_nil, List.nil_append, List.getElem?_replicate] at e
      split at e <;> cases e
    | cons h1 h2 ih =>
      intro m i u e
      cases i with
      | zero =>
        simp at e
        subst e
        exact ⟨_, rfl, h1⟩
      | succ i =>
        obtain ⟨v, q1, q2⟩ := ih m i u (by simpa using e)
        exact ⟨v, by simpa using q1, q2⟩
  refine ⟨?_, fun i u e => ?_⟩
  · unfold L2.start slots
    simp only [List.length_append, List.length_map, List.length_replicate, hl]
  · unfold slots at e
    unfold L2.start
    rw [hl]
    exact key h _ i u e
theorem Ext.cut {α α' : Nat → Addr} {F F' : Hp} {S S' : Store} (e : Ext α α' F F' S S') : Ext α α' F F' S (S'.take S.length) ∧ (S'.take S.length).length = S.length := by
  have h : (S'.take S.length).length = S.length := by
    rw [List.length_take]
    have := e.len
    omega
  exact ⟨⟨by rw [h]; exact Nat.le_refl _, e.al, e.fr⟩, h⟩
theorem retn_ok {W : WX} {α α1 : Nat → Addr} {F F1 : Hp} {S S1 : Store} {H1 : Hp} {v : V} {u : U} {Q : VK} {σ : L2.St} (e1 : Ext α α1 F F1 S S1) (r1 : Rep x α1 F1 S1 H1) (i1 : IsU x α1 F1 S1.length v u) (p : Post zU x W α F S σ Q (retn S.length u S1)) : Q v H1 := by
  obtain ⟨ec, lc⟩ := e1.cut
  have rc := r1.cut S.length
  unfold retn at p
  cases u with
  | d y => exact p α1 F1 H1 v ec rc i1
  | rd _ => exact p.elim
  | adr _ => exact p.elim
  | ty _ => exact p.elim
  | cls _ => exact p.elim
  | ex _ _ => exact p.elim
  | thk => exact p.elim
  | loc l =>
    obtain ⟨hv, hl⟩ := i1
    dsimp only at p
    split at p
    · rename_i hlt
      exact p α1 F1 H1 v ec rc ⟨hv, by rw [lc]; exact hlt⟩
    · rename_i hge
      split at p
      · rename_i ds q
        obtain ⟨c1, ws, c2, c3⟩ := r1.cell l ds q
        have al : ∀ i, i < S.length → (if i = S.length then α1 l else α1 i) = α1 i := fun i h => if_neg (Nat.ne_of_lt h)
        have ll : (S1.take S.length ++ [some ds]).length = S.length + 1 := by rw [List.length_append, lc, List.length_singleton]
        have up : ∀ i, i < S.length → i < S1.length := fun i h => Nat.lt_of_lt_of_le h e1.len
        refine p (fun i => if i = S.length then α1 l else α1 i) F1 H1 v ⟨by rw [ll]; omega, fun i h => (al i h).trans (e1.al i h), e1.fr⟩ ⟨r1.le, fun i j hi hj z => ?_, fun i es ei => ?_, fun i hi => ?_, r1.tabs, r1.tabF⟩ ⟨?_, by rw [ll]; omega⟩
        · rw [ll] at hi hj
          have z' : (if i = S.length then α1 l else α1 i) = (if j = S.length then α1 l else α1 j) := z
          by_cases hi2 : i < S.length <;> by_cases hj2 : j < S.length
          · rw [al i hi2, al j hj2] at z'
            exact r1.inj i j (up i hi2) (up j hj2) z'
          · rw [al i hi2, if_pos (by omega)] at z'
            have := r1.inj i l (up i hi2) hl z'
            omega
          · rw [al j hj2, if_pos (by omega)] at z'
            have := r1.inj l j hl (up j hj2) z'
            omega
          · omega
        · show F1 (if i = S.length then α1 l else α1 i) = none ∧ ∃ vs, H1 (if i = S.length then α1 l else α1 i) = some (.lst vs) ∧ _
          by_cases hi2 : i < S.length
          · rw [al i hi2]
            rw [List.getElem?_append_left (by rw [lc]; exact hi2), List.getElem?_take_of_lt hi2] at ei
            exact r1.cell i es ei
          · have hi3 := (List.getElem?_eq_some_iff.mp ei).1
            rw [ll] at hi3
            have hi4 : i = S.length := by omega
            subst hi4
            rw [List.getElem?_append_right (by rw [lc]; exact Nat.le_refl _), lc, Nat.sub_self] at ei
            simp at ei
            subst ei
            rw [if_pos rfl]
            exact ⟨c1, ws, c2, c3⟩
        · show ∃ vs, H1 (if i = S.length then α1 l else α1 i) = some (.lst vs)
          rw [ll] at hi
          by_cases hi2 : i < S.length
          · rw [al i hi2]
            exact r1.old i (up i hi2)
          · rw [if_pos (by omega)]
            exact r1.old l hl
        · show v = V.ref (if S.length = S.length then α1 l else α1 S.length)
          rw [if_pos rfl]
          exact hv
      · exact p.elim
theorem Post.sig {A B : Type} {rel : Rl A B} {E : XK} {α : Nat → Addr} {F : Hp} {S : Store} {σ σ' : L2.St} {Q : B → Hp → Prop} {r : R A} (p : Post rel x (fun c d _ H => E c d H) α F S σ Q r) : Post rel x (fun c d _ H => E c d H) α F S σ' Q r := by
  cases r <;> exact p
/-- a def's body -/
theorem body_ok {E : XK} {N : List Str} {np : Nat} {t : TS} {g : Vr → Store → O} (h : FitS x (fun c d _ H => E c d H) t g) {vs : List V} {H : Hp} {Q : VK} (hs : spOf x np (runD N.length g) vs H Q E) : t { nx := fun _ H' => Q .non H', rt := Q } (L2.start N vs) H := by
  obtain ⟨α, F, S, us, _, r, iu, p⟩ := hs
  refine h α F _ S _ H r (sl_start iu) _ ?_
  unfold runD at p
  cases e : g (slots N.length us) S with
  | nx ρ' S' =>
    rw [e] at p
    exact fun α' F' H' σ' e1 r1 s1 => p α' F' H' .non e1.cut.1 (r1.cut _) .non
  | rt u S' =>
    rw [e] at p
    exact fun α' F' H' v e1 r1 i1 => retn_ok e1 r1 i1 p
  | exc c d ρ' S' =>
    rw [e] at p
    exact fun α' F' H' σ' C q v fs e1 r1 s1 m1 => p α' F' H' C q v fs e1.cut.1 (r1.cut _) m1
  | bk ρ' S' => rw [e] at p; exact p.elim
  | ct ρ' S' => rw [e] at p; exact p.elim
  | bad => rw [e] at p; exact p.elim
/-- a call -/
@[simp] def fCall (m : List U → Store → R U) (fs : Vr → Store → R (List U)) : Vr → Store → R U := fN m fs
theorem fit_call {W : WX} {ts : TA} {fs : Vr → Store → R (List U)} {np : Nat} {m : List U → Store → R U} (h : FitA x W ts fs) (hl : ∀ ρ S us S', fs ρ S = .ok us S' → us.length = np) : FitE x W (tCallSD (spOf x np m) [] (WE W) ts) (fCall m fs) := by
  intro α F ρ S σ H r s Q p
  have h' := h α F ρ S σ H r s
  refine h' _ ?_
  unfold fCall fN at p
  cases e : fs ρ S with
  | exc c d S1 => rw [e] at p; exact p
  | bad => rw [e] at p; exact p
  | ok us S1 =>
    rw [e] at p
    intro α1 F1 H1 vs e1 r1 i1
    have i1' : IsUs x α1 F1 S1.length vs us := i1
    refine ⟨α1, F1, S1, us, ?_, r1, by rw [List.append_nil]; exact i1', ?_⟩
    · rw [List.append_nil, i1'.length]
      exact hl ρ S us S1 e
    · have p1 := Post.ext e1 p
      cases em : m us S1 with
      | ok u S2 => rw [show (R.ok us S1).bind m = R.ok u S2 from em] at p1; exact p1
      | exc c d S2 => rw [show (R.ok us S1).bind m = R.exc c d S2 from em] at p1; exact p1
      | bad => rw [show (R.ok us S1).bind m = R.bad from em] at p1; exact p1
theorem fl_nil : ∀ ρ S us S', fNil ρ S = .ok us S' → us.length = 0 := fun ρ S us S' e => by cases e; rfl
theorem fl_cons {f : Vr → Store → R U} {fs : Vr → Store → R (List U)} {n : Nat} (h : ∀ ρ S us S', fs ρ S = .ok us S' → us.length = n) : ∀ ρ S us S', fCons f fs ρ S = .ok us S' → us.length = n + 1 := fun ρ S us S' e => by
  unfold fCons at e
  cases e1 : f ρ S with
  | ok u S1 =>
    rw [e1] at e
    simp only [R.bind] at e
    cases e2 : fs ρ S1 with
    | ok ws S2 =>
      rw [e2] at e
      cases e
      rw [List.length_cons, h _ _ _ _ e2]
    | exc _ _ _ => rw [e2] at e; cases e
    | bad => rw [e2] at e; cases e
  | exc _ _ _ => rw [e1] at e; cases e
  | bad => rw [e1] at e; cases e
end
end Z

namespace Z
open PySem PySem.Spec PyProof.Rows L2
/-! ### views -/
/-- the items of a list that may be read | of one that is tracked -/
def viewL (u : U) (S : Store) : Option (List D) := match u with
  | .d (.list xs) => some xs
  | .loc l => (match S[l]? with
    | some (some xs) => some xs
    | _ => none)
  | .rd xs => some xs
  | _ => none
def viewM (u : U) (S : Store) : Option (List D) := match u with
  | .d (.list xs) => some xs
  | .loc l => (match S[l]? with
    | some (some xs) => some xs
    | _ => none)
  | _ => none
def viewD (u : U) (S : Store) : Option D := match u with
  | .d x => some x
  | .loc l => (match S[l]? with
    | some (some xs) => some (.list xs)
    | _ => none)
  | _ => none
section
variable {x : Fx} {α : Nat → Addr} {F : Hp} {S : Store} {H : Hp} {v : V} {u : U} {xs : List D}
theorem viewM_ok (r : Rep x α F S H) (i : IsU x α F S.length v u) (e : viewM u S = some xs) : ∃ a vs, v = .ref a ∧ H a = some (.lst vs) ∧ IsAll x.K F vs xs := by
  unfold viewM at e
  cases u with
  | d y =>
    cases y with
    | list ys =>
      cases e
      have i' : Is x.K F v (.list xs) := i
      cases i' with
      | lst h1 h2 => exact ⟨_, _, rfl, r.le _ _ h1, h2⟩
    | _ => cases e
  | loc l =>
    dsimp only at e
    split at e
    · rename_i ds q
      have e' := Option.some.inj e
      subst e'
      obtain ⟨_, vs, h2, h3⟩ := r.cell l _ q
      obtain ⟨h1, _⟩ := i
      exact ⟨_, vs, h1, h2, h3⟩
    · cases e
  | _ => cases e
theorem viewL_ok (r : Rep x α F S H) (i : IsU x α F S.length v u) (e : viewL u S = some xs) : ∃ a vs, v = .ref a ∧ SqL x.K H a vs ∧ IsAll x.K F vs xs := by
  cases u with
  | rd ys =>
    cases e
    obtain ⟨a, vs, h1, h2, h3⟩ := i
    exact ⟨a, vs, h1, le_l r.le h2, h3⟩
  | d y =>
    obtain ⟨a, vs, h1, h2, h3⟩ := viewM_ok (xs := xs) r i (by cases y <;> exact e)
    exact ⟨a, vs, h1, SqL.of h2, h3⟩
  | loc l =>
    obtain ⟨a, vs, h1, h2, h3⟩ := viewM_ok (xs := xs) r i e
    exact ⟨a, vs, h1, SqL.of h2, h3⟩
  | _ => cases e
theorem viewD_ok {y : D} (r : Rep x α F S H) (i : IsU x α F S.length v u) (e : viewD u S = some y) : Dp x.K H v y := by
  cases u with
  | d z =>
    cases e
    exact Is.dp r.le _ _ i
  | loc l =>
    unfold viewD at e
    dsimp only at e
    split at e
    · rename_i ds q
      have e' := Option.some.inj e
      subst e'
      obtain ⟨_, vs, h2, h3⟩ := r.cell l _ q
      obtain ⟨h1, _⟩ := i
      subst h1
      exact .lst (SqL.of h2) (IsAll.dp r.le _ _ h3)
    · cases e
  | _ => cases e
end
/-! ### operations -/
def uAdd (u w : U) (S : Store) : R U := match u, w with
  | .d (.int i), .d (.int j) => .ok (.d (.int (i + j))) S
  | .d (.str a), .d (.str b) => if a.length + b.length ≤ 1000000 then .ok (.d (.str (a ++ b))) S else .bad
  | .d (.tuple xs), .d (.tuple ys) => if xs.length + ys.length ≤ 1000000 then .ok (.d (.tuple (xs ++ ys))) S else .bad
  | u, w => match viewM u S, viewM w S with
    | some xs, some ys => if xs.length + ys.length ≤ 1000000 then .ok (.d (.list (xs ++ ys))) S else .bad
    | _, _ => .bad
def uSub (u w : U) (S : Store) : R U := match u, w with
  | .d (.int i), .d (.int j) => .ok (.d (.int (i - j))) S
  | _, _ => .bad
def uMul (u w : U) (S : Store) : R U := match u, w with
  | .d (.int i), .d (.int j) => if i.natAbs.log2 + j.natAbs.log2 < 1000000 then .ok (.d (.int (i * j))) S else .bad
  | .d (.tuple xs), .d (.int k) => if xs ≠ [] ∧ 2 ≤ k ∧ k ≤ 1000 ∧ xs.length ≤ 1000 then .ok (.d (.tuple (List.replicate k.toNat xs).flatten)) S else .bad
  | u, .d (.int k) => match viewM u S with
    | some xs => if 0 ≤ k ∧ k ≤ 1000 ∧ xs.length ≤ 1000 then .ok (.d (.list (List.replicate k.toNat xs).flatten)) S else .bad
    | none => .bad
  | _, _ => .bad
def uDiv (u w : U) (S : Store) : R U := match u, w with
  | .d (.int i), .d (.int j) => if j ≠ 0 ∧ j.natAbs.log2 < 9000 then .ok (.d (.int (i.fdiv j))) S else .bad
  | _, _ => .bad
def uMod (u w : U) (S : Store) : R U := match u, w with
  | .d (.int i), .d (.int j) => if j ≠ 0 then .ok (.d (.int (i.fmod j))) S else .bad
  | _, _ => .bad
def uPow (u w : U) (S : Store) : R U := match u, w with
  | .d (.int i), .d (.int j) => if 0 ≤ j ∧ j ≤ 1000000 ∧ i.natAbs < 2 ^ 64 then .ok (.d (.int (i ^ j.toNat))) S else .bad
  | _, _ => .bad
def uNeg (u : U) (S : Store) : R U := match u with
  | .d (.int i) => .ok (.d (.int (-i))) S
  | _ => .bad
def uEq (u w : U) (S : Store) : R U := match viewD u S, viewD w S with
  | some a, some b => if (SeqAt.shaped a && SeqAt.shaped b) = true then .ok (.d (.bool (PyData.eqv a b))) S else .bad
  | _, _ => .bad
def uNe (u w : U) (S : Store) : R U := match viewD u S, viewD w S with
  | some a, some b => if (SeqAt.shaped a && SeqAt.shaped b) = true then .ok (.d (.bool (!PyData.eqv a b))) S else .bad
  | _, _ => .bad
def uLt (u w : U) (S : Store) : R U := match u, w with
  | .d (.int i), .d (.int j) => .ok (.d (.bool (decide (i < j)))) S
  | _, _ => .bad
def uLe (u w : U) (S : Store) : R U := match u, w with
  | .d (.int i), .d (.int j) => .ok (.d (.bool (decide (i ≤ j)))) S
  | _, _ => .bad
def uGt (u w : U) (S : Store) : R U := match u, w with
  | .d (.int i), .d (.int j) => .ok (.d (.bool (decide (j < i)))) S
  | _, _ => .bad
def uGe (u w : U) (S : Store) : R U := match u, w with
  | .d (.int i), .d (.int j) => .ok (.d (.bool (decide (j ≤ i)))) S
  | _, _ => .bad
@[simp] def isNone : U → Bool
  | .d .none => true
  | _ => false
def uIsN (u w : U) (S : Store) : R U := .ok (.d (.bool (isNone u))) S
def uNotN (u w : U) (S : Store) : R U := .ok (.d (.bool (!isNone u))) S
def uIx (u w : U) (S : Store) : R U := match w with
  | .d (.int i) => (match u with
    | .d (.tuple xs) => (match atI xs i with
      | some y => .ok (.d y) S
      | none => .bad)
    | .d (.str z) => if z.length ≤ 1000000 then (match atI z.cps.toList i with
      | some c => .ok (.d (.str ⟨#[c]⟩)) S
      | none => .bad) else .bad
    | u => (match viewL u S with
      | some xs => (match atI xs i with
        | some y => .ok (.d y) S
        | none => .bad)
      | none => .bad))
  | _ => .bad
section
variable {x : Fx} {α : Nat → Addr} {F : Hp} {S : Store} {H : Hp} {v : V}
theorem shp_int (i : Int) : SeqAt.shaped (.int i) = true := rfl
theorem fit_ii {g : U → U → Store → R U} {r : R2} (h : ∀ W α F S σ H i j Q, Rep x α F S H → Post zU x W α F S σ Q (g (.d (.int i)) (.d (.int j)) S) → r (.int i) (.int j) H Q)
    (hn : ∀ u w S, (∀ i j, ¬ (u = .d (.int i) ∧ w = .d (.int j))) → g u w S = .bad) : Fit2 x r g := by
  intro W α F S σ H v w u u' r0 i1 i2 Q p
  by_cases e : ∃ i j, u = .d (.int i) ∧ u' = .d (.int j)
  · obtain ⟨i, j, rfl, rfl⟩ := e
    rw [is_int i1, is_int i2]
    exact h W α F S σ H i j Q r0 p
  · rw [hn u u' S fun i j z => e ⟨i, j, z⟩] at p
    exact p.elim
theorem ok_here {W : WX} {σ : L2.St} {Q : VK} {y : D} {v : V} (r : Rep x α F S H) (p : Post zU x W α F S σ Q (.ok (.d y) S)) (i : Is x.K F v y) : Q v H := p α F H v (Ext.refl _ _ _) r i
theorem atI_ok {K : PySem.W.Frag} {vs : List V} {xs : List D} {i : Int} {y : D} (h : IsAll K F vs xs) (e : atI xs i = some y) : ∃ v, atI vs i = some v ∧ Is K F v y := by
  unfold atI at e ⊢
  rw [h.length]
  cases q : ixN xs.length i with
  | none => rw [q] at e; cases e
  | some j =>
    rw [q] at e
    exact h.get (i := j) e
end
/-- the readings -/
def rAddU : R2 := fun x y H Q => (∃ i j, x = .int i ∧ y = .int j ∧ Q (.int (i + j)) H) ∨ (∃ i j, x = .str i ∧ y = .str j ∧ i.length + j.length ≤ sizeLine ∧ Q (.str (i ++ j)) H) ∨ rCat x y H Q
def rAddA (K : PySem.W.Frag) : R2 := fun x y H Q => rAddU x y H Q ∨ rCatA K x y H Q
def rMulU : R2 := fun x y H Q => rI CMulW (fun i j => .int (i * j)) x y H Q ∨ rRep x y H Q
def rMulA (K : PySem.W.Frag) : R2 := fun x y H Q => rMulU x y H Q ∨ rRepT K x y H Q
def CDivA (_ j : Int) : Prop := j ≠ 0 ∧ j.natAbs.log2 < 9000
def rDivU : R2 := rI CDivA fun i j => .int (i.fdiv j)
def rModU : R2 := rI (fun _ j => j ≠ 0) fun i j => .int (i.fmod j)
section
variable {X : Cx}
theorem op_addA : OpR X (binaryOp .Add) (rAddA X.K) := (op_add.or (op_add_str.or op_cat)).or op_catA
theorem op_mulU : OpR X (binaryOp .Mult) rMulU := op_mulW.or op_rep
theorem op_mulA : OpR X (binaryOp .Mult) (rMulA X.K) := op_mulU.or op_repT
theorem op_divU : OpR X (binaryOp .FloorDiv) rDivU := opI fun _ _ _ _ _ _ _ hc q => floordiv_int hc.1 q (.inl (PyProof.noPylong_of_log2 hc.2))
theorem op_modU : OpR X (binaryOp .Mod) rModU := op_modN
end
section
variable {x : Fx}
theorem fit_addA : Fit2 x (rAddA x.K) uAdd := by
  intro W α F S σ H v w u u' r i1 i2 Q p
  have lists : (∀ xs ys, viewM u S = some xs → viewM u' S = some ys → Post zU x W α F S σ Q (if xs.length + ys.length ≤ 1000000 then .ok (.d (.list (xs ++ ys))) S else .bad) → rAddA x.K v w H Q) := by
    intro xs ys h1 h2 p
    obtain ⟨a, vs, rfl, ha, ia⟩ := viewM_ok r i1 h1
    obtain ⟨b, ws, rfl, hb, ib⟩ := viewM_ok r i2 h2
    split at p
    · rename_i hl
      refine .inl (.inr (.inr ⟨a, b, vs, ws, rfl, rfl, ha, hb, le_line (by rw [ia.length, ib.length]; exact hl), fun q hq => ?_⟩))
      obtain ⟨r3, e3⟩ := r.frozen (o := .lst (vs ++ ws)) hq
      exact p _ _ _ _ e3 r3 (.lst upd_same (IsAll.mono e3.fr _ _ (ia.append ib)))
    · exact p.elim
  unfold uAdd at p
  split at p
  · rename_i i j
    rw [is_int i1, is_int i2]
    exact .inl (.inl ⟨i, j, rfl, rfl, ok_here r p (.int _)⟩)
  · rename_i a b
    have j1 : Is x.K F v (.str a) := i1
    have j2 : Is x.K F w (.str b) := i2
    cases j1
    cases j2
    split at p
    · rename_i hl
      exact .inl (.inr (.inl ⟨a, b, rfl, rfl, le_line hl, ok_here r p (.str _)⟩))
    · exact p.elim
  · rename_i xs ys
    have j1 : Is x.K F v (.tuple xs) := i1
    have j2 : Is x.K F w (.tuple ys) := i2
    cases j1 with
    | @tup a vs _ a1 a2 =>
      cases j2 with
      | @tup b ws _ b1 b2 =>
        split at p
        · rename_i hl
          refine .inr ⟨a, b, vs, ws, rfl, rfl, le_t r.le a1, le_t r.le b1, le_line (by rw [a2.length, b2.length]; exact hl), fun e => ?_, fun e e' => ?_, fun e e' q hq => ?_⟩
          · subst e
            cases a2
            exact ok_here r p (.tup b1 b2)
          · subst e'
            cases b2
            rw [List.append_nil] at p
            exact ok_here r p (.tup a1 a2)
          · obtain ⟨r3, e3⟩ := r.frozen (o := .tup (vs ++ ws)) hq
            exact p _ _ _ _ e3 r3 (.tup (SqT.of upd_same) (IsAll.mono e3.fr _ _ (a2.append b2)))
        · exact p.elim
  · split at p
    · rename_i xs ys h1 h2
      exact lists xs ys h1 h2 p
    · exact p.elim
theorem fit_sub : Fit2 x (rI0 fun i j => .int (i - j)) uSub := fit_ii (fun W α F S σ H i j Q r p => ⟨i, j, rfl, rfl, ok_here r p (.int _)⟩) fun u w S h => by
  unfold uSub
  split
  · rename_i i j
    exact absurd ⟨rfl, rfl⟩ (h i j)
  · rfl
theorem IsAll.reps {K : PySem.W.Frag} {F : Hp} {vs : List V} {xs : List D} (h : IsAll K F vs xs) : ∀ n : Nat, IsAll K F (List.replicate n vs).flatten (List.replicate n xs).flatten
  | 0 => .nil
  | n + 1 => by
    rw [List.replicate_succ, List.replicate_succ, List.flatten_cons, List.flatten_cons]
    exact h.append (IsAll.reps h n)
theorem fit_mulU : Fit2 x (rMulA x.K) uMul := by
  intro W α F S σ H v w u u' r i1 i2 Q p
  unfold uMul at p
  split at p
  · rename_i i j
    rw [is_int i1, is_int i2]
    split at p
    · rename_i hl
      exact .inl (.inl ⟨i, j, rfl, rfl, hl, ok_here r p (.int _)⟩)
    · exact p.elim
  · rename_i xs k
    rw [is_int i2]
    have j1 : Is x.K F v (.tuple xs) := i1
    cases j1 with
    | @tup a vs _ a1 a2 =>
      split at p
      · rename_i hl
        refine .inr ⟨a, k, vs, rfl, rfl, le_t r.le a1, fun z => hl.1 (List.eq_nil_of_length_eq_zero (by rw [← a2.length, z]; rfl)), hl.2.1, hl.2.2.1, by rw [a2.length]; exact hl.2.2.2, fun q hq => ?_⟩
        obtain ⟨r3, e3⟩ := r.frozen (o := .tup (List.replicate k.toNat vs).flatten) hq
        exact p _ _ _ _ e3 r3 (.tup (SqT.of upd_same) (IsAll.mono e3.fr _ _ (a2.reps _)))
      · exact p.elim
  · rename_i k hk hk2
    rw [is_int i2]
    split at p
    · rename_i xs hx
      obtain ⟨a, vs, rfl, ha, ia⟩ := viewM_ok r i1 hx
      split at p
      · rename_i hl
        have hz : vs.length * k.toNat ≤ 1000 * 1000 := Nat.mul_le_mul (by rw [ia.length]; exact hl.2.2) (by omega)
        refine .inl (.inr ⟨a, k, vs, rfl, rfl, ha, by omega, by omega, le_line hz, fun q hq => ?_⟩)
        obtain ⟨r3, e3⟩ := r.frozen (o := .lst (List.replicate k.toNat vs).flatten) hq
        refine p _ _ _ _ e3 r3 (.lst upd_same (IsAll.mono e3.fr _ _ ?_))
        exact ia.reps _
      · exact p.elim
    · exact p.elim
  · exact p.elim
theorem fit_divU : Fit2 x rDivU uDiv := fit_ii (fun W α F S σ H i j Q r p => by
    unfold uDiv at p
    dsimp only at p
    split at p
    · rename_i hl
      exact ⟨i, j, rfl, rfl, hl, ok_here r p (.int _)⟩
    · exact p.elim) fun u w S h => by
  unfold uDiv
  split
  · rename_i i j
    exact absurd ⟨rfl, rfl⟩ (h i j)
  · rfl
theorem fit_modU : Fit2 x rModU uMod := fit_ii (fun W α F S σ H i j Q r p => by
    unfold uMod at p
    dsimp only at p
    split at p
    · rename_i hl
      exact ⟨i, j, rfl, rfl, hl, ok_here r p (.int _)⟩
    · exact p.elim) fun u w S h => by
  unfold uMod
  split
  · rename_i i j
    exact absurd ⟨rfl, rfl⟩ (h i j)
  · rfl
theorem fit_powU : Fit2 x (L2.rI CPow fun i j => .int (i ^ j.toNat)) uPow := fit_ii (fun W α F S σ H i j Q r p => by
    unfold uPow at p
    dsimp only at p
    split at p
    · rename_i hl
      exact ⟨i, j, rfl, rfl, hl, ok_here r p (.int _)⟩
    · exact p.elim) fun u w S h => by
  unfold uPow
  split
  · rename_i i j
    exact absurd ⟨rfl, rfl⟩ (h i j)
  · rfl
theorem fit_negU : Fit1 x (L2.rU fun i => .int (-i)) uNeg := by
  intro W α F S σ H v u r i1 Q p
  unfold uNeg at p
  split at p
  · rename_i i
    rw [is_int i1]
    exact ⟨i, rfl, ok_here r p (.int _)⟩
  · exact p.elim
theorem fit_eqU : Fit2 x (rEqD x.K) uEq := by
  intro W α F S σ H v w u u' r i1 i2 Q p
  unfold uEq at p
  split at p
  · rename_i a b h1 h2
    split at p
    · rename_i hs
      rw [Bool.and_eq_true] at hs
      exact ⟨a, b, viewD_ok r i1 h1, viewD_ok r i2 h2, hs.1, hs.2, ok_here r p (.bl _)⟩
    · exact p.elim
  · exact p.elim
theorem fit_neU : Fit2 x (rNeD x.K) uNe := by
  intro W α F S σ H v w u u' r i1 i2 Q p
  unfold uNe at p
  split at p
  · rename_i a b h1 h2
    split at p
    · rename_i hs
      rw [Bool.and_eq_true] at hs
      exact ⟨a, b, viewD_ok r i1 h1, viewD_ok r i2 h2, hs.1, hs.2, ok_here r p (.bl _)⟩
    · exact p.elim
  · exact p.elim
theorem fit_ltU : Fit2 x (rI0 fun i j => .bl (decide (i < j))) uLt := fit_ii (fun W α F S σ H i j Q r p => ⟨i, j, rfl, rfl, ok_here r p (.bl _)⟩) fun u w S h => by
  unfold uLt
  split
  · rename_i i j
    exact absurd ⟨rfl, rfl⟩ (h i j)
  · rfl
theorem fit_leU : Fit2 x (rI0 fun i j => .bl (decide (i ≤ j))) uLe := fit_ii (fun W α F S σ H i j Q r p => ⟨i, j, rfl, rfl, ok_here r p (.bl _)⟩) fun u w S h => by
  unfold uLe
  split
  · rename_i i j
    exact absurd ⟨rfl, rfl⟩ (h i j)
  · rfl
theorem fit_gtU : Fit2 x (rI0 fun i j => .bl (decide (j < i))) uGt := fit_ii (fun W α F S σ H i j Q r p => ⟨i, j, rfl, rfl, ok_here r p (.bl _)⟩) fun u w S h => by
  unfold uGt
  split
  · rename_i i j
    exact absurd ⟨rfl, rfl⟩ (h i j)
  · rfl
theorem fit_geU : Fit2 x (rI0 fun i j => .bl (decide (j ≤ i))) uGe := fit_ii (fun W α F S σ H i j Q r p => ⟨i, j, rfl, rfl, ok_here r p (.bl _)⟩) fun u w S h => by
  unfold uGe
  split
  · rename_i i j
    exact absurd ⟨rfl, rfl⟩ (h i j)
  · rfl
theorem isNone_ok {α : Nat → Addr} {F : Hp} {n : Nat} {v : V} {u : U} (i : IsU x α F n v u) : decide (v = .non) = isNone u := by
  cases u with
  | d y =>
    have i' : Is x.K F v y := i
    cases i' <;> rfl
  | loc l => rw [i.1]; rfl
  | rd ys =>
    obtain ⟨a, vs, h1, _⟩ := i
    rw [h1]; rfl
  | adr a =>
    have i' : v = .ref a := i
    rw [i']; rfl
  | ty a =>
    have i' : v = .ty a := i
    rw [i']; rfl
  | cls c =>
    obtain ⟨C, h1, _⟩ := i
    rw [h1]; rfl
  | ex c y =>
    obtain ⟨a, _, _, _, h1, _⟩ := i
    rw [h1]; rfl
  | thk =>
    rw [i.1]; rfl
def rIsN' : R2 := fun x y H Q => y = .non ∧ Q (.bl (decide (x = .non))) H
def rNotN' : R2 := fun x y H Q => y = .non ∧ Q (.bl (!decide (x = .non))) H
theorem fit_ixU : Fit2 x (rIx x.K) uIx := by
  intro W α F S σ H v w u u' r i1 i2 Q p
  unfold uIx at p
  split at p
  · rename_i i
    rw [is_int i2]
    split at p
    · rename_i xs
      have j1 : Is x.K F v (.tuple xs) := i1
      cases j1 with
      | tup a1 a2 =>
        split at p
        · rename_i y hy
          obtain ⟨z, h1, h2⟩ := atI_ok a2 hy
          exact .inr (.inl ⟨_, _, i, z, rfl, rfl, le_t r.le a1, h1, ok_here r p h2⟩)
        · exact p.elim
    · rename_i z
      have j1 : Is x.K F v (.str z) := i1
      cases j1
      split at p
      · rename_i hl
        split at p
        · rename_i c hc
          exact .inr (.inr ⟨z, i, c, rfl, rfl, le_line hl, hc, ok_here r p (.str _)⟩)
        · exact p.elim
      · exact p.elim
    · split at p
      · rename_i xs hx
        split at p
        · rename_i y hy
          obtain ⟨a, vs, rfl, ha, ia⟩ := viewL_ok r i1 hx
          obtain ⟨z, h1, h2⟩ := atI_ok ia hy
          exact .inl ⟨_, _, i, z, rfl, rfl, ha, h1, ok_here r p h2⟩
        · exact p.elim
      · exact p.elim
  · exact p.elim
end
/-! ### calls of built-ins -/
def uLen (us : List U) (S : Store) : R U := match us with
  | [.d (.tuple xs)] => .ok (.d (.int (xs.length : Int))) S
  | [.d (.str z)] => if z.length ≤ 1000000 then .ok (.d (.int (z.length : Int))) S else .bad
  | [u] => (match viewL u S with
    | some xs => .ok (.d (.int (xs.length : Int))) S
    | none => .bad)
  | _ => .bad
def uInt (us : List U) (S : Store) : R U := match us with
  | [.d (.int i)] => .ok (.d (.int i)) S
  | [.d (.bool b)] => .ok (.d (.int (if b then 1 else 0))) S
  | _ => .bad
def uMax (us : List U) (S : Store) : R U := match us with
  | [.d (.int i), .d (.int j)] => .ok (.d (.int (if j > i then j else i))) S
  | _ => .bad
def uMin (us : List U) (S : Store) : R U := match us with
  | [.d (.int i), .d (.int j)] => .ok (.d (.int (if j < i then j else i))) S
  | _ => .bad
def uAbs (us : List U) (S : Store) : R U := match us with
  | [.d (.int i)] => .ok (.d (.int (if i < 0 then -i else i))) S
  | _ => .bad
def uGcd (us : List U) (S : Store) : R U := match us with
  | [.d (.int i), .d (.int j)] => .ok (.d (.int ((Nat.gcd i.natAbs j.natAbs : Nat) : Int))) S
  | _ => .bad
def tyOf : D → String
  | .none => "NoneType"
  | .bool _ => "bool"
  | .int _ => "int"
  | .str _ => "str"
  | .list _ => "list"
  | .tuple _ => "tuple"
  | .dict _ => "dict"
def isTy (T : String) (k : String) : Bool := if T = "int" then (k == "int" || k == "bool") else k == T
def okTy (T : String) : Bool := T == "int" || T == "bool" || T == "str" || T == "tuple" || T == "list"
def uIsi (us : List U) (S : Store) : R U := match us with
  | [.d y, .ty T] => if okTy T = true then .ok (.d (.bool (isTy T (tyOf y)))) S else .bad
  | [.loc l, .ty T] => if okTy T = true then (match S[l]? with
    | some (some _) => .ok (.d (.bool (isTy T "list"))) S
    | _ => .bad) else .bad
  | _ => .bad
theorem kit_all (T k : String) (hT : okTy T = true) (hk : k = "NoneType" ∨ k = "bool" ∨ k = "int" ∨ k = "str" ∨ k = "list" ∨ k = "tuple") : kitB k T = some (isTy T k) := by
  have hT' : T = "int" ∨ T = "bool" ∨ T = "str" ∨ T = "tuple" ∨ T = "list" := by
    unfold okTy at hT
    simp only [Bool.or_eq_true, beq_iff_eq] at hT
    rcases hT with (((h | h) | h) | h) | h
    · exact .inl h
    · exact .inr (.inl h)
    · exact .inr (.inr (.inl h))
    · exact .inr (.inr (.inr (.inl h)))
    · exact .inr (.inr (.inr (.inr h)))
  rcases hT' with rfl | rfl | rfl | rfl | rfl <;> rcases hk with rfl | rfl | rfl | rfl | rfl | rfl <;> decide +kernel
section
variable {x : Fx}
theorem is_ty {α : Nat → Addr} {F : Hp} {n : Nat} {v : V} {T : String} (h : IsU x α F n v (.ty T)) : v = .ty T := h
theorem us1 {α : Nat → Addr} {F : Hp} {n : Nat} {vs : List V} {u : U} (h : IsUs x α F n vs [u]) : ∃ v, vs = [v] ∧ IsU x α F n v u := by
  cases h with
  | cons h1 h2 =>
    cases h2
    exact ⟨_, rfl, h1⟩
theorem us2 {α : Nat → Addr} {F : Hp} {n : Nat} {vs : List V} {u u' : U} (h : IsUs x α F n vs [u, u']) : ∃ v w, vs = [v, w] ∧ IsU x α F n v u ∧ IsU x α F n w u' := by
  cases h with
  | cons h1 h2 =>
    obtain ⟨w, e, h3⟩ := us1 h2
    subst e
    exact ⟨_, _, rfl, h1, h3⟩
theorem fit_lenU : FitN x (fun xs H Q => ∃ y n, xs = [y] ∧ LenV x.K y H n ∧ Q (.int n) H) uLen := by
  intro W α F S σ H vs us r i1 Q p
  unfold uLen at p
  split at p
  · rename_i xs
    obtain ⟨v, rfl, h⟩ := us1 i1
    have j1 : Is x.K F v (.tuple xs) := h
    cases j1 with
    | tup a1 a2 => exact ⟨_, xs.length, rfl, .inr ⟨_, le_t r.le a1, a2.length.symm⟩, ok_here r p (.int _)⟩
  · rename_i z
    obtain ⟨v, rfl, h⟩ := us1 i1
    have j1 : Is x.K F v (.str z) := h
    cases j1
    split at p
    · rename_i hl
      exact ⟨_, z.length, rfl, ⟨le_line hl, rfl⟩, ok_here r p (.int _)⟩
    · exact p.elim
  · obtain ⟨v, rfl, h⟩ := us1 i1
    split at p
    · rename_i xs hx
      obtain ⟨a, ws, rfl, ha, ia⟩ := viewL_ok r h hx
      exact ⟨_, xs.length, rfl, .inl ⟨_, ha, ia.length.symm⟩, ok_here r p (.int _)⟩
    · exact p.elim
  · exact p.elim
theorem fit_intU : FitN x (fun xs H Q => (∃ i, xs = [.int i] ∧ Q (.int i) H) ∨ ∃ k, xs = [.bl k] ∧ Q (.int (if k then 1 else 0)) H) uInt := by
  intro W α F S σ H vs us r i1 Q p
  unfold uInt at p
  split at p
  · rename_i i
    obtain ⟨v, rfl, h⟩ := us1 i1
    rw [is_int h]
    exact .inl ⟨i, rfl, ok_here r p (.int _)⟩
  · rename_i b
    obtain ⟨v, rfl, h⟩ := us1 i1
    rw [is_bool h]
    exact .inr ⟨b, rfl, ok_here r p (.int _)⟩
  · exact p.elim
theorem fit_maxU : FitN x (fun xs H Q => ∃ i j, xs = [.int i, .int j] ∧ Q (.int (if j > i then j else i)) H) uMax := by
  intro W α F S σ H vs us r i1 Q p
  unfold uMax at p
  split at p
  · rename_i i j
    obtain ⟨v, w, rfl, h, h'⟩ := us2 i1
    rw [is_int h, is_int h']
    exact ⟨i, j, rfl, ok_here r p (.int _)⟩
  · exact p.elim
theorem fit_minU : FitN x (fun xs H Q => ∃ i j, xs = [.int i, .int j] ∧ Q (.int (if j < i then j else i)) H) uMin := by
  intro W α F S σ H vs us r i1 Q p
  unfold uMin at p
  split at p
  · rename_i i j
    obtain ⟨v, w, rfl, h, h'⟩ := us2 i1
    rw [is_int h, is_int h']
    exact ⟨i, j, rfl, ok_here r p (.int _)⟩
  · exact p.elim
theorem fit_absU : FitN x (fun xs H Q => ∃ i, xs = [.int i] ∧ Q (.int (if i < 0 then -i else i)) H) uAbs := by
  intro W α F S σ H vs us r i1 Q p
  unfold uAbs at p
  split at p
  · rename_i i
    obtain ⟨v, rfl, h⟩ := us1 i1
    rw [is_int h]
    exact ⟨i, rfl, ok_here r p (.int _)⟩
  · exact p.elim
theorem fit_gcdU : FitN x rGcd uGcd := by
  intro W α F S σ H vs us r i1 Q p
  unfold uGcd at p
  split at p
  · rename_i i j
    obtain ⟨v, w, rfl, h, h'⟩ := us2 i1
    rw [is_int h, is_int h']
    exact ⟨i, j, rfl, ok_here r p (.int _)⟩
  · exact p.elim
theorem tyX_of {F H : Hp} {v : V} {y : D} (le : Le F H) (h : Is x.K F v y) : TyX x.K H v (.type (tyOf y)) ∧ (tyOf y = "NoneType" ∨ tyOf y = "bool" ∨ tyOf y = "int" ∨ tyOf y = "str" ∨ tyOf y = "list" ∨ tyOf y = "tuple") := by
  cases h with
  | non => exact ⟨.base .non, by simp [tyOf]⟩
  | bl b => exact ⟨.base (.bl b), by simp [tyOf]⟩
  | int i => exact ⟨.base (.int i), by simp [tyOf]⟩
  | str z => exact ⟨.base (.str z), by simp [tyOf]⟩
  | lst a b => exact ⟨.base (.lst (le _ _ a)), by simp [tyOf]⟩
  | tup a b =>
    refine ⟨?_, by simp [tyOf]⟩
    rcases a with (a | ⟨o, a⟩) | ⟨o, its, n, k, c, _⟩
    · exact .base (.tup (le _ _ a))
    · exact .fTuple (le _ _ a)
    · exact .kTuple k c
theorem fit_isiU : FitN x (rIsi x.K) uIsi := by
  intro W α F S σ H vs us r i1 Q p
  unfold uIsi at p
  split at p
  · rename_i y T
    obtain ⟨v, w, rfl, h, h'⟩ := us2 i1
    rw [is_ty h']
    split at p
    · rename_i hT
      obtain ⟨t1, t2⟩ := tyX_of r.le h
      exact ⟨v, .ty T, _, _, _, rfl, .ty T, t1, kit_ty (kit_all T (tyOf y) hT t2), ok_here r p (.bl _)⟩
    · exact p.elim
  · rename_i l T
    obtain ⟨v, w, rfl, h, h'⟩ := us2 i1
    rw [is_ty h']
    split at p
    · rename_i hT
      split at p
      · rename_i ds e
        obtain ⟨_, ws, c2, _⟩ := r.cell l ds e
        obtain ⟨h1, _⟩ := h
        subst h1
        exact ⟨_, .ty T, _, _, _, rfl, .ty T, .base (.lst c2), kit_ty (kit_all T "list" hT (by simp)), ok_here r p (.bl _)⟩
      · exact p.elim
    · exact p.elim
  · exact p.elim
end
end Z

/-! Z5: a comprehension over a list, its target a tuple of names, while an exception is handled. -/
namespace Z
open PySem PySem.Spec PyProof.Rows L2 HotX
section
variable {prog : Program} {w : World} {A : Around} {E : Value → Shared → Prop} {s : Shared}
theorem hot_upd {x1 it : Addr} {h : Heap} {o : Obj} {vs : Array Value} {f : Obj → Obj} (hot : HotAt A x1 h) (ho : h.get? it = some o) (hd : o.data = .fields vs) (hs : vs.size ≤ 2) : HotAt A x1 (h.update it f) := by
  obtain ⟨hh, o1, v1, h1, d1, c1⟩ := hot
  have ne : it ≠ x1 := fun z => by
    rw [z, h1] at ho
    cases ho
    rw [d1] at hd
    injection hd with hd
    subst hd
    have := (Array.getElem?_eq_some_iff.mp c1).1
    omega
  exact ⟨hh, o1, v1, by rw [Heap.get?_update_other _ _ ne]; exact h1, d1, c1⟩
theorem hot_push {x1 : Addr} {h : Heap} {o : Obj} (hot : HotAt A x1 h) : HotAt A x1 (h.push o) := by
  obtain ⟨hh, o1, v1, h1, d1, c1⟩ := hot
  exact ⟨hh, o1, v1, Heap.get?_push_of_some _ h1, d1, c1⟩
theorem hot_lt {x1 : Addr} {h : Heap} (hot : HotAt A x1 h) : x1 < h.objs.size := by
  obtain ⟨_, o1, v1, h1, _⟩ := hot
  exact Heap.lt_size h1
theorem hot_same {x1 it : Addr} {h h' : Heap} (hot : HotAt A x1 h) (hs : ∀ b o, b ≠ it → h.get? b = some o → h'.get? b = some o) (ne : x1 ≠ it) : HotAt A x1 h' := by
  obtain ⟨hh, o1, v1, h1, d1, c1⟩ := hot
  exact ⟨hh, o1, v1, hs _ _ ne h1, d1, c1⟩
theorem ext_stop {it : Addr} {h0 h1 : Heap} {o1 o2 : Obj} {f : Obj → Obj} (x : Heap.ExtBut it h0 h1) : Heap.ExtBut it h0 (((h1.push o1).push o2).update (h1.push o1).objs.size f) := fun b o hb e => by
  have e1 := x b o hb e
  have e2 := Heap.get?_push_of_some o1 e1
  rw [Heap.get?_update_other _ _ (Nat.ne_of_gt (Heap.lt_size e2))]
  exact Heap.get?_push_of_some o2 e2
theorem list_end_hot {it l x1 : Addr} {i : Nat} {items : Array Value} {Q : Option Value → Shared → Prop} (hot : HotAt A x1 s.heap) (hit : s.heap.IsListIter it l i) (hl : s.heap.IsList l items) (hx : items[i]? = none)
    (hQ : ∀ h', Heap.ExtBut it s.heap h' → Q none { s with heap := h' }) : wpAny (model prog w) A (pyNext (.ref it)) Q E s := by
  obtain ⟨o, ho, hc, hd⟩ := id hit
  obtain ⟨ol, hol, _, nl, hdl⟩ := hl
  unfold pyNext
  refine wpAny_bind (wpAny_attempt (wpAny_callSpecial?_slot (name := Str.ofString "__next__") hit.typeIs slot_listiter_next (wpAny_call_entry slot_listiter_next hit.typeIs entry_listiter_next ?_ (args_listiter_next _))))
  show wpAny _ _ (field (.ref it) 0 >>= _) _ _ s
  refine wpAny_bind (wpAny_field ho hd (x := .ref l) rfl ?_)
  show wpAny _ _ (if (Value.ref l == Value.none) = true then _ else _) _ _ s
  rw [if_neg (show ¬ ((Value.ref l == Value.none) = true) from Bool.false_ne_true)]
  show wpAny _ _ (field (.ref it) 1 >>= _) _ _ s
  refine wpAny_bind (wpAny_field ho hd (x := .int i 0) rfl ?_)
  show wpAny _ _ (seqItems? (.ref l) >>= _) _ _ s
  refine wpAny_bind (wpAny_seqItems hol hdl ?_)
  simp only [Int.toNat_natCast, hx]
  refine wpAny_bind (wpAny_rule (wpAny_bind (wpAny_setField ho hd (by simp) ?_)))
  show wpAny _ _ (newExc (.type "StopIteration") [] >>= _) _ _ _
  refine wpAny_bind ?_
  simp only [newExc, newTuple]
  refine wpAny_bind (wpAny_newObj_type ?_ (by size_fits))
  refine wpAny_bind (m := firstArgMember _ _) (wpAny_of_eq (a := Value.none) (by first | rfl | (simp only [firstArgMember]; rfl)) ?_)
  refine wpAny_newObj_type ?_ (by size_fits)
  have hot1 := hot_upd (f := Obj.mapFields (·.setIfInBounds 0 .none)) hot ho hd (by simp)
  refine raiseNew_hot (x1 := x1) (hot_push (hot_push ⟨hot1.1, hot1.2⟩)) (Nat.ne_of_lt (hot_lt (hot_push hot1))) (Heap.get?_push_size _ rfl) rfl (by first | (simp; done) | (simp; omega) | (simp only [Array.size_append]; simp; omega)) ?_
  refine wpAny_bind (wpAny_isInstance (T := "StopIteration") (b := true) ⟨_, Heap.get?_update_self _ (Heap.get?_push_size _ rfl) rfl, rfl⟩ isSubtype_stop ?_)
  exact wpAny_pure (hQ _ (ext_stop (Heap.SameBut.update ..).extBut))
theorem tup_end_hot {it t x1 : Addr} {i : Nat} {items : Array Value} {Q : Option Value → Shared → Prop} (hot : HotAt A x1 s.heap) (hit : IsTupIter s.heap it t i) (ht : IsTup s.heap t items) (hx : items[i]? = none)
    (hQ : ∀ h', Heap.ExtBut it s.heap h' → Q none { s with heap := h' }) : wpAny (model prog w) A (pyNext (.ref it)) Q E s := by
  obtain ⟨o, ho, hc, hd⟩ := id hit
  obtain ⟨ol, hol, _, nl, hdl⟩ := ht
  unfold pyNext
  refine wpAny_bind (wpAny_attempt (wpAny_callSpecial?_slot (name := Str.ofString "__next__") hit.typeIs slot_tupleiter_next (wpAny_call_entry slot_tupleiter_next hit.typeIs entry_tupleiter_next ?_ (args_tupleiter_next _))))
  show wpAny _ _ (field (.ref it) 0 >>= _) _ _ s
  refine wpAny_bind (wpAny_field ho hd (x := .ref t) rfl ?_)
  show wpAny _ _ (if (Value.ref t == Value.none) = true then _ else _) _ _ s
  rw [if_neg (show ¬ ((Value.ref t == Value.none) = true) from Bool.false_ne_true)]
  show wpAny _ _ (field (.ref it) 1 >>= _) _ _ s
  refine wpAny_bind (wpAny_field ho hd (x := .int i 0) rfl ?_)
  show wpAny _ _ (seqItems? (.ref t) >>= _) _ _ s
  refine wpAny_bind (wpAny_seqItems hol hdl ?_)
  simp only [Int.toNat_natCast, hx]
  refine wpAny_bind (wpAny_rule (wpAny_bind (wpAny_setField ho hd (by simp) ?_)))
  show wpAny _ _ (newExc (.type "StopIteration") [] >>= _) _ _ _
  refine wpAny_bind ?_
  simp only [newExc, newTuple]
  refine wpAny_bind (wpAny_newObj_type ?_ (by size_fits))
  refine wpAny_bind (m := firstArgMember _ _) (wpAny_of_eq (a := Value.none) (by first | rfl | (simp only [firstArgMember]; rfl)) ?_)
  refine wpAny_newObj_type ?_ (by size_fits)
  have hot1 := hot_upd (f := Obj.mapFields (·.setIfInBounds 0 .none)) hot ho hd (by simp)
  refine raiseNew_hot (x1 := x1) (hot_push (hot_push ⟨hot1.1, hot1.2⟩)) (Nat.ne_of_lt (hot_lt (hot_push hot1))) (Heap.get?_push_size _ rfl) rfl (by first | (simp; done) | (simp; omega) | (simp only [Array.size_append]; simp; omega)) ?_
  refine wpAny_bind (wpAny_isInstance (T := "StopIteration") (b := true) ⟨_, Heap.get?_update_self _ (Heap.get?_push_size _ rfl) rfl, rfl⟩ isSubtype_stop ?_)
  exact wpAny_pure (hQ _ (ext_stop (Heap.SameBut.update ..).extBut))
theorem unpack_hot {t x1 : Addr} {items : Array Value} {Q : List Value → Shared → Prop} (hot : HotAt A x1 s.heap) (ht : IsTup s.heap t items)
    (hQ : ∀ h', Heap.ExtBut s.heap.objs.size s.heap h' → Q items.toList { s with heap := h' }) : wpAny (model prog w) A (unpackItems (.ref t) items.size none) Q E s := by
  have hlt : t ≠ s.heap.objs.size := by obtain ⟨o, ho, _⟩ := ht; exact Nat.ne_of_lt (Heap.lt_size ho)
  unfold unpackItems
  refine wpAny_bind ?_
  unfold notIterableAtAll
  refine wpAny_bind (wpAny_specialOf ht.typeIs slot_tuple_iter.lookup ?_)
  refine wpAny_pure ?_
  simp only [Bool.false_eq_true, if_false]
  refine wpAny_bind (wpAny_holding (iter_tuple ht ?_))
  refine wpAny_bind (wpAny_holding (draw_tuple hlt items.size 0 _ _ ⟨_, Heap.get?_push_size _ rfl, rfl, rfl⟩ (ht.push _) (by omega) fun h₁ hit₁ hs₁ => ?_))
  have hall : List.take items.size (List.drop 0 items.toList) = items.toList := by
    rw [List.drop_zero]; exact List.take_of_length_le (by simp)
  rw [hall]
  rw [if_neg (by simp)]
  have ht₁ : IsTup h₁ t items := (ht.push _).extBut hs₁.extBut hlt
  have hot₁ : HotAt A x1 h₁ := hot_same (hot_push (o := { cls := .type "tuple_iterator", data := .fields #[.ref t, .int 0 0] }) hot) hs₁.extBut (Nat.ne_of_lt (hot_lt hot))
  refine wpAny_bind (wpAny_holding (tup_end_hot (s := { s with heap := h₁ }) hot₁ hit₁ ht₁ (by simp) fun h₂ he₂ => ?_))
  simp only [Option.isSome_none, Bool.false_eq_true, if_false]
  exact wpAny_pure (hQ h₂ fun b o hb e => he₂ b o hb (hs₁.extBut b o hb (Heap.get?_push_of_some _ e)))
end
/-- a target met while an exception is handled -/
structure PGH (X : Cx) (target : Expr) (t : TG) : Prop where
  run : ∀ (pins : List (Addr × Obj)) (s : Shared) (σ : L2.St) (H : Hp) (v : V) (u : Value) (Q : L2.St → Hp → Prop) (x1 : Addr), HotAt X.A x1 s.heap → Inv X pins σ H s → RelV v u → t v σ H Q →
    wpAny (model X.prog X.w) X.A (assign target X.env u) (fun _ s' => ∃ σ' H', Inv X pins σ' H' s' ∧ Q σ' H') X.xe s
theorem pgH_tup {X : Cx} {es : List Expr} {k : Nat} {t : TGs} {n : Nat} {pos : Pos} (h : PGs X es t) (hn : (assignEach es X.env).length = n := by rfl) (hst : (assignEach es X.env).findIdx? (·.1) = none := by rfl) : PGH X (.Tuple es k pos) (gTup X.K n t) := by
  refine ⟨fun pins s σ H v u Q x1 hot I r hw => ?_⟩
  obtain ⟨a, xs, e1, hq, hl, hw⟩ := hw
  subst e1
  cases r
  obtain ⟨its, rv, ht, hz⟩ := I.tuple hq
  rw [assign_Tuple]
  refine wpAny_bind (wpAny_standAt ?_)
  unfold unpack
  rw [show (assignEach es X.env).length = its.toArray.size by simp [hn, ← hl, rv.length], hst]
  refine wpAny_bind (wpAny_holding (unpack_hot hot ht fun h' hx => ?_))
  have I1 : Inv X pins σ H { s with heap := h' } := I.kept (t' := s.toks) fun b o e => hx b o (Nat.ne_of_lt (Heap.lt_size e)) e
  exact h.run pins _ σ H xs _ Q I1 (by simpa using rv) hw
section
variable {X : Cx}
/-- [elt for (a, b, ..) in xs if ..] while an exception is handled -/
theorem pe_lcH {elt tg iter : Expr} {ifs : List Expr} {scope : Scope} {own : List (Str × Nat)} {pos : Pos} {tl : TE} {g : TG} {tt : TT} {te : TE} (hc : L2H.HotC X) (hN : X.N.Nodup) (hl : PE X iter tl) (ok : BlkOk X.N X.env.scope scope own)
    (hg : ∀ (s : Shared) (H : Hp) (C : Addr) (cl : List (Str × Addr)) (fp : List Addr), PGH (X.blk s H scope (compEnvC scope cl C X.env) fp) tg g) (ht : ∀ (s : Shared) (H : Hp) (C : Addr) (cl : List (Str × Addr)) (fp : List Addr), PTs (X.blk s H scope (compEnvC scope cl C X.env) fp) ifs tt)
    (he : ∀ (s : Shared) (H : Hp) (C : Addr) (cl : List (Str × Addr)) (fp : List Addr), PE (X.blk s H scope (compEnvC scope cl C X.env) fp) elt te) (hs : ∀ x, foldedSetIterable iter X.env x = pure x := by intro _; rfl) :
    PE X (.ListComp elt [⟨tg, iter, ifs, 0⟩] scope pos) (tLc (iList X.K tl) g tt te (own.map (·.2))) := by
  refine ⟨fun pins s σ H Q I h => ?_⟩
  rw [eval_ListComp]
  obtain ⟨pq, ⟨hh, vq, dq, cq⟩, hpq⟩ := hc
  have hfree : ∀ y ∈ scope.names, y.2 = .free → ∃ c, X.env.cells.lookup y.1 = some c := fun y hy e => (ok.free y hy e).elim (fun k => I.ok.has _ (.inl k)) fun k => I.ok.has _ (.inr k)
  refine wpAny_comprehension_free (use := none) rfl hs (closure_ok hfree) ok.kind (fun y hy e => by rw [ok.uniq y hy, e]) (thn (hl.run pins s σ H _ I h) fun xv s1 hx => ?_)
  obtain ⟨x0, H1, I1, r1, a, e0, ⟨xs0, hq0⟩, q⟩ := hx
  subst e0
  cases r1
  obtain ⟨its0, rv0, pl0, hz0⟩ := I1.list hq0
  refine wpAny_pyIter_list pl0.isList ?_
  generalize hs2 : ({ s1 with heap := s1.heap.push { cls := .type "list_iterator", data := .fields #[.ref a, .int 0 0] } } : Shared) = s2
  generalize hit : s1.heap.objs.size = it
  have I2 : Inv X pins σ H1 s2 := by
    rw [← hs2]
    exact I1.kept (t' := s1.toks) fun b o e => Heap.get?_push_of_some _ e
  have st2 : s2.heap.IsListIter it a 0 := by
    rw [← hs2, ← hit]
    exact ⟨_, Heap.get?_push_size _ rfl, rfl, rfl⟩
  have f2 : FpOk X pins H1 it := by
    rw [← hit]
    exact I1.fpOk (Nat.le_refl _) (I1.hok.fresh (Nat.le_refl _))
  refine wpAny_newObj_type (newEnv_comp ?_) (by show 0 ≤ sizeLine; decide)
  generalize hD : s2.heap.objs.size = D
  have hDn : H1 D = none := I2.hok.fresh (Nat.le_of_eq hD)
  obtain ⟨W, ⟨m0, w0⟩, turn⟩ := q D hDn
  generalize hs3 : ({ s2 with heap := s2.heap.push { cls := .type "list", data := .seq ([] : List Value).toArray } } : Shared) = s3
  have I3 : Inv X pins σ (upd H1 D (.lst [])) s3 := by
    rw [← hs3]
    refine I2.laid (t' := s2.toks) (fun b o e => Heap.get?_push_of_some _ e) (Nat.le_of_eq hD) ⟨Nat.zero_le _, [], 0, .nil, ?_⟩
    rw [← hD]
    exact Heap.get?_push_size _ rfl
  have h3 : s3.heap = s2.heap.push { cls := .type "list", data := .seq ([] : List Value).toArray } := by rw [← hs3]
  have lit : it < s2.heap.objs.size := by
    obtain ⟨o, e, _⟩ := st2
    exact Heap.lt_size e
  have f3 : ∀ b ∈ [it], FpOk X pins (upd H1 D (.lst [])) b ∧ b < s3.heap.objs.size := fun b hb => by
    have eb : b = it := by simpa using hb
    subst eb
    refine ⟨⟨?_, f2.2⟩, by rw [h3, Heap.size_push]; exact Nat.lt_succ_of_lt lit⟩
    rw [upd_ne (by rw [← hD]; exact Nat.ne_of_lt lit)]
    exact f2.1
  have st3 : s3.heap.IsListIter it a 0 := st2.at fun o e => by rw [h3]; exact Heap.get?_push_of_some _ e
  have I4 := block_start I3 ok hN f3
  have pg := hg s3 (upd H1 D (.lst [])) s3.heap.objs.size (cellsFrom (s3.heap.objs.size + 1) scope.names (cloFrom X.env.cells scope.names [])) [it]
  have pt := ht s3 (upd H1 D (.lst [])) s3.heap.objs.size (cellsFrom (s3.heap.objs.size + 1) scope.names (cloFrom X.env.cells scope.names [])) [it]
  have pe := he s3 (upd H1 D (.lst [])) s3.heap.objs.size (cellsFrom (s3.heap.objs.size + 1) scope.names (cloFrom X.env.cells scope.names [])) [it]
  show codeAny _ _ (.compStart (.ListComp elt [⟨tg, iter, ifs, 0⟩] scope pos) 0 (.ref it) (.ref D) (compEnvC scope (cellsFrom (s3.heap.objs.size + 1) scope.names (cloFrom X.env.cells scope.names [])) s3.heap.objs.size X.env)) (compPost (model X.prog X.w) X.A X.xe none _ (.ref D) s3.heap.objs.size) { s3 with heap := pushCells (s3.heap.push { cls := .type "dict", data := .dict #[] }) scope.names }
  have nfp : upd H1 D (.lst []) it = none := (f3 it (by simp)).1.1
  generalize hce : compEnvC scope (cellsFrom (s3.heap.objs.size + 1) scope.names (cloFrom X.env.cells scope.names [])) s3.heap.objs.size X.env = ce at I4 pg pt pe ⊢
  have cL : ce.locals = s3.heap.objs.size := by subst hce; rfl
  generalize hH3 : upd H1 D (.lst []) = H3 at I3 I4 pg pt pe w0 nfp f3
  generalize hs4 : ({ s3 with heap := pushCells (s3.heap.push { cls := .type "dict", data := .dict #[] }) scope.names } : Shared) = s4 at I4 ⊢
  have st4 : s4.heap.IsListIter it a 0 := st3.at fun o e => by rw [← hs4]; exact pushCells_keeps _ _ _ _ (Heap.get?_push_of_some _ e)
  have P3 := I3.pin pq (List.mem_append_left _ hpq)
  have npq : pq.1 ≠ it := ((f3 it (by simp)).1.2.2.2.2.2 pq (List.mem_append_left _ hpq))
  have hotAt : ∀ {σ' : L2.St} {H' : Hp} {s' : Shared} {pp : List (Addr × Obj)}, Inv (X.blk s3 H3 scope ce [it]) pp σ' H' s' → HotAt X.A pq.1 s'.heap := fun {σ' H' s' pp} I' =>
    ⟨hh, pq.2, vq, I'.base.keep pq.1 pq.2 P3.1 P3.2.1 (fun hmm => (List.mem_cons.mp (I3.stkSub pq.1 hmm)).elim P3.2.2.1 P3.2.2.2.1) (by simpa using npq), dq, cq⟩
  have stat : ∀ {σ' : L2.St} {H' : Hp} {s' : Shared}, Inv (X.blk s3 H3 scope ce [it]) [] σ' H' s' → H' it = none → FpOk (X.blk s3 H3 scope ce [it]) [] H' it := fun {σ' H' s'} I' hn =>
    ⟨hn, (I'.ok.exf it (by simp)).1, I'.ok.exfs it (by simp), .inl (by simp), fun x c e => (I'.ok.exf it (by simp)).2 x c e, fun p hp => absurd (show p ∈ ([] : List (Addr × Obj)) ++ [] from hp) (by simp)⟩
  have loop : codeAny (model X.prog X.w) X.A (.compLoop (.ListComp elt [⟨tg, iter, ifs, 0⟩] scope pos) 0 (.ref it) (.ref D) ce) (compPost (model X.prog X.w) X.A X.xe none (EP X pins σ Q) (.ref D) s3.heap.objs.size) s4 := by
    refine compLoop_any (fun n s' => ∃ i H', Inv (X.blk s3 H3 scope ce [it]) [] (wipe σ (own.map (·.2))) H' s' ∧ s'.heap.IsListIter it a i ∧ H' it = none ∧ W i n H') ?_ m0 ⟨0, H3, I4, st4, nfp, w0⟩
    rintro n s5 ⟨i, H5, I5, st5, n5, w5⟩
    rcases turn i n H5 w5 with ⟨⟨xs, hq, hx⟩, qq⟩ | ⟨⟨xs, x, hq, hx⟩, Nx, hNx, step⟩
    · obtain ⟨its, rv, pl, hz⟩ := I5.list hq
      have hlen := rv.length
      refine list_end_hot (hotAt I5) st5 pl.isList (by simp; omega) fun h' eb => ?_
      obtain ⟨g0, g1, g2, g3, g4, g5⟩ := stat I5 n5
      have I6 : Inv (X.blk s3 H3 scope ce [it]) [] (wipe σ (own.map (·.2))) H5 { s5 with heap := h' } := I5.turned (t' := s5.toks) (fun b o hb e => eb b o hb e) g0 g1 g3 g4 g5
      have I7 : Inv X pins σ H5 { s5 with heap := h' } := I3.call' (ch := [it]) I6.os I6.base I6.hok I6.bare fun b hb => ⟨(f3 b hb).1.2.2.2.1, (f3 b hb).1.2.1, (f3 b hb).1.2.2.2.2.1, (f3 b hb).1.2.2.2.2.2⟩
      have nC : H5 s3.heap.objs.size = none := by
        have z : H5 ce.locals = none := I6.free
        rw [cL] at z
        exact z
      obtain ⟨m, hn, _⟩ := I6.loc
      have hn : ({ s5 with heap := h' } : Shared).heap.Ns ce.locals m := hn
      rw [cL] at hn
      obtain ⟨k0, k1, k2, k3, k4, k5⟩ := I3.fpOk (Nat.le_refl _) nC
      exact ⟨m, hn, fun h'' sb => ⟨.ref D, H5, I7.turned (t' := s5.toks) (fun b o hb e => (sb.2 b hb).trans e) k0 k1 k3 k4 k5, rfl, qq⟩⟩
    · obtain ⟨its, rv, pl, hz⟩ := I5.list hq
      obtain ⟨u, hu, ru⟩ := rv.get hx
      refine wpAny_pyNext_list_item st5 pl.isList (x := u) (by simpa using hu) fun h' st7 sb => ?_
      obtain ⟨g0, g1, g2, g3, g4, g5⟩ := stat I5 n5
      have I7 : Inv (X.blk s3 H3 scope ce [it]) [] (wipe σ (own.map (·.2))) H5 { s5 with heap := h' } := I5.turned (t' := s5.toks) (fun b o hb e => (sb.2 b hb).trans e) g0 g1 g3 g4 g5
      obtain ⟨oi, ei, ci, di⟩ := id st7
      refine go_of (s := { s5 with heap := h' }) ei ci di (by decide) ?_
      have I7' := I7.pinned (fp := [it]) (fun b hb => by
        have eb : b = it := by simpa using hb
        subst eb
        exact stat I7 n5) fun b hb => by
          have eb : b = it := by simpa using hb
          subst eb
          exact ⟨oi, ei, fun v z => by rw [di] at z; cases z⟩
      refine thnF (pg.run _ _ _ H5 x u _ pq.1 (hotAt I7) I7' ru (step x H5 ⟨rfl, fun ys hy => by rw [I5.list_inj hy hq]; exact hx⟩)) fun _ s8 ⟨σ8, H8, I8, hw8, q8⟩ => ?_
      refine thnF (pt.run _ s8 σ8 H8 _ I8 q8) fun b s9 ⟨H9, I9, q9⟩ => ?_
      have fin : ∀ {s' : Shared} {H' : Hp}, Inv (X.blk s3 H3 scope ce [it]) ([] ++ pinsAt [it] h') σ8 H' s' → Nx H' → ∃ m, m < n ∧ ∃ i H', Inv (X.blk s3 H3 scope ce [it]) [] (wipe σ (own.map (·.2))) H' s' ∧ s'.heap.IsListIter it a i ∧ H' it = none ∧ W i m H' := fun {s' H'} I' nx => by
        obtain ⟨m', hm, w'⟩ := hNx H' nx
        have pin' := I'.pin (it, oi) (List.mem_append_right _ (List.mem_append_right _ (mem_pinsAt (by simp) ei)))
        have hll : (wipe σ (own.map (·.2))).length = σ8.length := by rw [← hw8, wipe_length]
        refine ⟨m', hm, i + 1, H', (I'.unpinned (pins := [])).weak hll (fun j v e => ?_), st7.at fun o e => ?_, pin'.2.1, w'⟩
        · rw [← hw8] at e
          exact (wipe_some e).1
        · rw [ei] at e
          cases e
          exact pin'.1
      cases b with
      | false =>
        simp only [Bool.false_eq_true, if_false] at q9 ⊢
        exact fin I9 q9
      | true =>
        simp only [if_true] at q9 ⊢
        refine thnF (pe.run _ s9 σ8 H9 _ I9 q9) fun z s10 ⟨yv, H10, I10, r10, acc, hD10, hz10, nx⟩ => ?_
        exact app_ok (X := X.blk s3 H3 scope ce [it]) I10 hD10 hz10 r10 fun s11 I11 => fin I11 nx
  exact codeAny_compStart_list loop (wpAny_pyIter_listiter st4 loop)
end
end Z

/-! Z6: the hand layer's rules and what fits, at once. -/
namespace Z
open PySem PySem.Spec PyProof.Rows L2
abbrev Tb := List (Addr × Str)
/-- the class names that may be raised, the data of a context that a mirror needs -/
def fx (X : Cx) (T : Tb) : Fx := { K := X.K, mg := X.mg, T := T }
structure DE (X : Cx) (x : Fx) (W : WX) (e : Expr) (t : TE) (f : Vr → Store → R U) : Prop where
  pe : PE X e t
  fit : FitE x W t f
structure DT (X : Cx) (x : Fx) (W : WX) (e : Expr) (t : TT) (f : Vr → Store → R Bool) : Prop where
  pt : PT X e t
  fit : FitT x W t f
structure DW (X : Cx) (x : Fx) (W : WX) (e : Expr) (t : TT) (f : Vr → Store → R Bool) : Prop where
  pw : PW X e t
  fit : FitT x W t f
structure DA (X : Cx) (x : Fx) (W : WX) (es : List Expr) (t : TA) (f : Vr → Store → R (List U)) (n : Nat) : Prop where
  pa : PA X es t
  fit : FitA x W t f
  len : ∀ ρ S us S', f ρ S = .ok us S' → us.length = n
structure DS (X : Cx) (x : Fx) (W : WX) (st : Stmt) (t : TS) (g : Vr → Store → O) : Prop where
  ps : PS X st t
  fit : FitS x W t g
structure DB (X : Cx) (x : Fx) (W : WX) (st : List Stmt) (t : TS) (g : Vr → Store → O) : Prop where
  ps : PSs X st t
  fit : FitS x W t g
structure DG (X : Cx) (x : Fx) (tg : Expr) (t : TG) (a : U → Vr → Option Vr) : Prop where
  pg : PG X tg t
  fit : FitG x t a
structure DGs (X : Cx) (x : Fx) (tgs : List Expr) (t : TGs) (a : List D → Vr → Option Vr) : Prop where
  pg : PGs X tgs t
  fit : FitGs x t a
structure DI (X : Cx) (x : Fx) (W : WX) (tg iter : Expr) (t : TI) (f : Vr → Store → R (List D)) : Prop where
  pi : PI X tg iter t
  fit : FitI x W t f
section
variable {X : Cx} {x : Fx} {W : WX} {a b c e : Expr} {es : List Expr} {ta tb tc te : TE} {fa fb fc fe : Vr → Store → R U} {ts : TA} {fs : Vr → Store → R (List U)} {n : Nat} {pos p : Pos} {tt tu : TT} {ft fu : Vr → Store → R Bool}
/-! ### names, constants -/
theorem de_var (i : Nat) {y : Str} (hN : X.N[i]? = some y := by rfl) (hv : Vis X.env.scope y := by first | exact Or.inl rfl | exact Or.inr (Or.inl rfl) | exact Or.inr (Or.inr rfl)) (hd : (y == ("__debug__" : Str)) = false := by decide)
    (hcd : (y == ("__classdict__" : Str)) = false := by decide) : DE X x W (.Name y pos) (tVar i) (fVar i) := ⟨pe_var hN hv hd hcd, fit_var i⟩
theorem de_int {i : Int} {j : Nat} : DE X x W (.Constant (.int i) j pos) (tC (.int i)) (fC (.d (.int i))) := ⟨pe_int, fit_int i⟩
theorem de_bl {i : Bool} {j : Nat} : DE X x W (.Constant (.bool i) j pos) (tC (.bl i)) (fC (.d (.bool i))) := ⟨pe_bl, fit_bl i⟩
theorem de_non {j : Nat} : DE X x W (.Constant .none j pos) (tC .non) (fC (.d .none)) := ⟨pe_non, fit_non⟩
theorem de_str {z : Str} {j : Nat} : DE X x W (.Constant (.str z) j pos) (tC (.str z)) (fC (.d (.str z))) := ⟨pe_str, fit_str z⟩
/-- a module's constant -/
theorem de_gint {y : Str} {i : Int} (hm : ∃ t, X.mg y = some (.int i t)) (hg : Gl X y := by rfl) (hd : (y == ("__debug__" : Str)) = false := by decide) : DE X x W (.Name y pos) (tC (.int i)) (fC (.d (.int i))) := by
  obtain ⟨t, h⟩ := hm
  exact ⟨pe_glob hg h ⟨t, rfl⟩ hd, fit_int i⟩
theorem de_gtup {y : Str} {A : Addr} {ds : List D} (hm : X.mg y = some (.ref A)) (hi : ∀ F, Is x.K F (.ref A) (.tuple ds)) (hg : Gl X y := by rfl) (hd : (y == ("__debug__" : Str)) = false := by decide) : DE X x W (.Name y pos) (tC (.ref A)) (fC (.d (.tuple ds))) :=
  ⟨pe_glob hg hm rfl hd, fit_c fun _ F _ => hi F⟩
theorem de_gcls {y : Str} {A : Addr} (hx : x.mg = X.mg) (hm : X.mg y = some (.ref A)) (hg : Gl X y := by rfl) (hd : (y == ("__debug__" : Str)) = false := by decide) : DE X x W (.Name y pos) (tC (.ref A)) (fC (.cls y)) :=
  ⟨pe_glob hg hm rfl hd, fit_c fun _ _ _ => ⟨A, rfl, by rw [hx]; exact hm⟩⟩
theorem de_ty {y : Str} {T : String} (hm : X.mg y = none) (hv : bootBuiltins y = some (.type T) := by decide +kernel) (hg : Gl X y := by rfl) (hn : y ≠ "__name__" := by decide) (hd : (y == ("__debug__" : Str)) = false := by decide) : DE X x W (.Name y pos) (tC (.ty T)) (fC (.ty T)) :=
  ⟨pe_bltn hg hm hv rfl hn hd, fit_c fun _ _ _ => rfl⟩
/-! ### argument lists, displays -/
theorem da_nil : DA X x W [] tNil fNil 0 := ⟨pa_nil, fit_nil, fl_nil⟩
theorem da_cons (h : DE X x W e te fe) (hs : DA X x W es ts fs n) (he : starEach (e :: es) X.env = (false, eval e X.env) :: starEach es X.env := by rfl) : DA X x W (e :: es) (tCons te ts) (fCons fe fs) (n + 1) :=
  ⟨pa_cons h.pe hs.pa he, fit_cons h.fit hs.fit, fl_cons hs.len⟩
theorem de_tup {k : Nat} (h : DA X x W es ts fs n) : DE X x W (.Tuple es k pos) (tTup ts) (fN mkTup fs) := ⟨pe_tup h.pa, fit_tup h.fit⟩
theorem de_lst (h : DA X x W es ts fs n) : DE X x W (.List es pos) (tLst ts) (fN mkLst fs) := ⟨pe_lst h.pa, fit_lst h.fit⟩
theorem de_loc (h : DA X x W es ts fs n) : DE X x W (.List es pos) (tLst ts) (fN mkLoc fs) := ⟨pe_lst h.pa, fit_loc h.fit⟩
/-! ### operators -/
theorem de_op {op : Operator} {r : R2} {g : U → U → Store → R U} (ho : OpR X (binaryOp op) r) (hr : Fit2 x r g) (ha : DE X x W a ta fa) (hb : DE X x W b tb fb) : DE X x W (.BinOp a op b pos) (tOp r ta tb) (f2 g fa fb) := ⟨pe_op ho ha.pe hb.pe, fit_op hr ha.fit hb.fit⟩
theorem de_add (hK : x.K = X.K) (ha : DE X x W a ta fa) (hb : DE X x W b tb fb) : DE X x W (.BinOp a .Add b pos) (tOp (rAddA X.K) ta tb) (f2 uAdd fa fb) := de_op op_addA (hK ▸ fit_addA) ha hb
theorem de_sub (ha : DE X x W a ta fa) (hb : DE X x W b tb fb) : DE X x W (.BinOp a .Sub b pos) (tOp (rI0 fun i j => .int (i - j)) ta tb) (f2 uSub fa fb) := de_op op_sub fit_sub ha hb
theorem de_mul (hK : x.K = X.K) (ha : DE X x W a ta fa) (hb : DE X x W b tb fb) : DE X x W (.BinOp a .Mult b pos) (tOp (rMulA X.K) ta tb) (f2 uMul fa fb) := de_op op_mulA (hK ▸ fit_mulU) ha hb
theorem de_div (ha : DE X x W a ta fa) (hb : DE X x W b tb fb) : DE X x W (.BinOp a .FloorDiv b pos) (tOp rDivU ta tb) (f2 uDiv fa fb) := de_op op_divU fit_divU ha hb
theorem de_mod (ha : DE X x W a ta fa) (hb : DE X x W b tb fb) : DE X x W (.BinOp a .Mod b pos) (tOp rModU ta tb) (f2 uMod fa fb) := de_op op_modU fit_modU ha hb
theorem de_pow (ha : DE X x W a ta fa) (hb : DE X x W b tb fb) : DE X x W (.BinOp a .Pow b pos) (tOp (L2.rI CPow fun i j => .int (i ^ j.toNat)) ta tb) (f2 uPow fa fb) := de_op op_pow fit_powU ha hb
theorem de_neg (ha : DE X x W a ta fa) : DE X x W (.UnaryOp .USub a pos) (tUn (L2.rU fun i => .int (-i)) ta) (f1 uNeg fa) := ⟨pe_un un_neg ha.pe, fit_un fit_negU ha.fit⟩
/-! ### comparisons -/
structure CmpOk (X : Cx) (x : Fx) (op : CmpOp) (r : R2) (g : U → U → Store → R U) : Prop where
  op : OpR X (compareOp op) r
  fit : Fit2 x r g
theorem c_eq (hK : x.K = X.K) (hu : X.A.units + 64 < cLine) : CmpOk X x .Eq (rEqD X.K) uEq := ⟨op_eqD hu, hK ▸ fit_eqU⟩
theorem c_ne (hK : x.K = X.K) (hu : X.A.units + 64 < cLine) : CmpOk X x .NotEq (rNeD X.K) uNe := ⟨op_neD hu, hK ▸ fit_neU⟩
theorem c_lt : CmpOk X x .Lt (rI0 fun i j => .bl (decide (i < j))) uLt := ⟨op_lt, fit_ltU⟩
theorem c_le : CmpOk X x .LtE (rI0 fun i j => .bl (decide (i ≤ j))) uLe := ⟨op_le, fit_leU⟩
theorem c_gt : CmpOk X x .Gt (rI0 fun i j => .bl (decide (j < i))) uGt := ⟨op_gt, fit_gtU⟩
theorem c_ge : CmpOk X x .GtE (rI0 fun i j => .bl (decide (j ≤ i))) uGe := ⟨op_ge, fit_geU⟩
theorem de_cmp {op : CmpOp} {r : R2} {g : U → U → Store → R U} (h : CmpOk X x op r g) (ha : DE X x W a ta fa) (hb : DE X x W b tb fb) (hm : behindInMarks op b = false := by first | exact nomark _ | rfl) : DE X x W (.Compare a [op] [b] pos) (tOp r ta tb) (f2 g fa fb) :=
  ⟨pe_cmpR h.op ha.pe hb.pe hm, fit_op h.fit ha.fit hb.fit⟩
theorem dt_cmp {op : CmpOp} {r : R2} {g : U → U → Store → R U} (h : CmpOk X x op r g) (ha : DE X x W a ta fa) (hb : DE X x W b tb fb) (hm : behindInMarks op b = false := by first | exact nomark _ | rfl) : DT X x W (.Compare a [op] [b] pos) (tTest (tOp r ta tb)) (fTst (f2 g fa fb)) :=
  ⟨pt_cmpR h.op ha.pe hb.pe hm, fit_tst (fit_op h.fit ha.fit hb.fit)⟩
theorem de_chain {op op' : CmpOp} {r r' : R2} {g g' : U → U → Store → R U} (h : CmpOk X x op r g) (h' : CmpOk X x op' r' g') (ha : DE X x W a ta fa) (hb : DE X x W b tb fb) (hc : DE X x W c tc fc) (hm : lastMarks [op, op'] [b, c] = false := by with_unfolding_all rfl) :
    DE X x W (.Compare a [op, op'] [b, c] pos) (tChain r r' ta tb tc) (fChain g g' fa fb fc) := ⟨pe_chain h.op h'.op ha.pe hb.pe hc.pe hm, fit_chain h.fit h'.fit ha.fit hb.fit hc.fit⟩
theorem dt_chain {op op' : CmpOp} {r r' : R2} {g g' : U → U → Store → R U} (h : CmpOk X x op r g) (h' : CmpOk X x op' r' g') (ha : DE X x W a ta fa) (hb : DE X x W b tb fb) (hc : DE X x W c tc fc) (hm : lastMarks [op, op'] [b, c] = false := by with_unfolding_all rfl) :
    DT X x W (.Compare a [op, op'] [b, c] pos) (tTest (tChain r r' ta tb tc)) (fTst (fChain g g' fa fb fc)) := ⟨pt_chain h.op h'.op ha.pe hb.pe hc.pe hm, fit_tst (fit_chain h.fit h'.fit ha.fit hb.fit hc.fit)⟩
@[simp] def uIsN1 (u : U) (S : Store) : R U := .ok (.d (.bool (isNone u))) S
@[simp] def uNotN1 (u : U) (S : Store) : R U := .ok (.d (.bool (!isNone u))) S
theorem fit_isN (ha : FitE x W ta fa) : FitE x W (tIsN ta) (f1 uIsN1 fa) := by
  intro α F ρ S σ H r0 s Q q
  refine ha.bind r0 s q fun α1 F1 S1 H1 v u e1 r1 s1 i1 p1 => ?_
  rw [show decide (v = .non) = isNone u from isNone_ok i1]
  exact ok_here r1 p1 (.bl _)
theorem fit_notN (ha : FitE x W ta fa) : FitE x W (tNotN ta) (f1 uNotN1 fa) := by
  intro α F ρ S σ H r0 s Q q
  refine ha.bind r0 s q fun α1 F1 S1 H1 v u e1 r1 s1 i1 p1 => ?_
  rw [show decide (v = .non) = isNone u from isNone_ok i1]
  exact ok_here r1 p1 (.bl _)
theorem de_isN {j : Nat} (ha : DE X x W a ta fa) : DE X x W (.Compare a [.Is] [.Constant .none j p] pos) (tIsN ta) (f1 uIsN1 fa) := ⟨pe_cmp (pc_isN ha.pe), fit_isN ha.fit⟩
theorem de_notN {j : Nat} (ha : DE X x W a ta fa) : DE X x W (.Compare a [.IsNot] [.Constant .none j p] pos) (tNotN ta) (f1 uNotN1 fa) := ⟨pe_cmp (pc_notN ha.pe), fit_notN ha.fit⟩
theorem dt_isN {j : Nat} (ha : DE X x W a ta fa) : DT X x W (.Compare a [.Is] [.Constant .none j p] pos) (tB (tIsN ta)) (fTst (f1 uIsN1 fa)) := ⟨pt_cmp (pc_isN ha.pe), fit_tB (fit_isN ha.fit)⟩
theorem dt_notN {j : Nat} (ha : DE X x W a ta fa) : DT X x W (.Compare a [.IsNot] [.Constant .none j p] pos) (tB (tNotN ta)) (fTst (f1 uNotN1 fa)) := ⟨pt_cmp (pc_notN ha.pe), fit_tB (fit_notN ha.fit)⟩
/-! ### and, or, not; conditional -/
theorem de_one {op : BoolOp} (h : DE X x W a ta fa) : DE X x W (.BoolOp op [a] pos) ta fa := ⟨pe_one h.pe, h.fit⟩
theorem de_and (ha : DE X x W a ta fa) (hb : DE X x W (.BoolOp .And (b :: es) pos) tb fb) : DE X x W (.BoolOp .And (a :: b :: es) pos) (tAndV ta tb) (fAndV fa fb) := ⟨pe_and ha.pe hb.pe, fit_andV ha.fit hb.fit⟩
theorem de_or (ha : DE X x W a ta fa) (hb : DE X x W (.BoolOp .Or (b :: es) pos) tb fb) : DE X x W (.BoolOp .Or (a :: b :: es) pos) (tOrV ta tb) (fOrV fa fb) := ⟨pe_or ha.pe hb.pe, fit_orV ha.fit hb.fit⟩
theorem de_not (ha : DE X x W a ta fa) : DE X x W (.UnaryOp .Not a pos) (tNotV ta) (fNotV fa) := ⟨pe_not ha.pe, fit_notV ha.fit⟩
theorem dw_and1 (h : DT X x W a tt ft) : DW X x W (.BoolOp .And [a] pos) tt ft := ⟨pw_and1 h.pt, h.fit⟩
theorem dw_or1 (h : DT X x W a tt ft) : DW X x W (.BoolOp .Or [a] pos) tt ft := ⟨pw_or1 h.pt, h.fit⟩
theorem dw_and (ha : DT X x W a tt ft) (hb : DW X x W (.BoolOp .And (b :: es) pos) tu fu) : DW X x W (.BoolOp .And (a :: b :: es) pos) (tAnd tt tu) (fAndT ft fu) := ⟨pw_and ha.pt hb.pw, fit_and ha.fit hb.fit⟩
theorem dw_or (ha : DT X x W a tt ft) (hb : DW X x W (.BoolOp .Or (b :: es) pos) tu fu) : DW X x W (.BoolOp .Or (a :: b :: es) pos) (tOr tt tu) (fOrT ft fu) := ⟨pw_or ha.pt hb.pw, fit_or ha.fit hb.fit⟩
theorem dt_w (h : DW X x W a tt ft) : DT X x W a tt ft := ⟨h.pw.pt, h.fit⟩
theorem dt_not (h : DT X x W a tt ft) : DT X x W (.UnaryOp .Not a pos) (tNot tt) (fNotT ft) := ⟨pt_not h.pt, fit_not h.fit⟩
theorem dt_val (h : DE X x W e te fe) (he : ∀ whole, isTrue e X.env whole = (do let v ← whole; standAt e.pos; holding [v] (truthy v)) := by intro _; rfl) : DT X x W e (tB te) (fTst fe) := ⟨pt_val h.pe he, fit_tB h.fit⟩
theorem de_if (hc : DT X x W c tt ft) (ha : DE X x W a ta fa) (hb : DE X x W b tb fb) : DE X x W (.IfExp c a b pos) (tIf tt ta tb) (fIf ft fa fb) := ⟨pe_ifExp hc.pt ha.pe hb.pe, fit_if hc.fit ha.fit hb.fit⟩
/-! ### subscripts, calls of built-ins -/
theorem de_ix (hK : x.K = X.K) (ha : DE X x W a ta fa) (hb : DE X x W b tb fb) (hs : PlainIx b := by exact fun _ _ => rfl) : DE X x W (.Subscript a b pos) (tOp (rIx X.K) ta tb) (f2 uIx fa fb) := ⟨pe_ix ix_seq ha.pe hb.pe hs, fit_op (hK ▸ fit_ixU) ha.fit hb.fit⟩
theorem de_callB {y : Str} {id : String} {r : List V → Hp → VK → Prop} {g : List U → Store → R U} (hc : CallR X (.builtin id) r) (hr : FitN x r g) (hm : X.mg y = none) (hv : bootBuiltins y = some (.builtin id)) (ha : DA X x W (e :: es) ts fs n) (hg : Gl X y := by rfl) (hn : y ≠ "__name__" := by decide)
    (hdb : (y == ("__debug__" : Str)) = false := by decide) (he : starEach (e :: es) X.env = (false, eval e X.env) :: starEach es X.env := by rfl) (hpl : (backTo pos (starEach es X.env)).any (·.1) = false := by rfl) : DE X x W (.Call (.Name y p) (e :: es) [] pos) (tCB r ts) (fN g fs) :=
  ⟨pe_callB hc hg hm hv ha.pa hn hdb he hpl, fit_cb hr ha.fit⟩
theorem de_callTy {y : Str} {T : String} {r : List V → Hp → VK → Prop} {g : List U → Store → R U} (hc : CallR X (.type T) r) (hr : FitN x r g) (hm : X.mg y = none) (hv : bootBuiltins y = some (.type T)) (ha : DA X x W (e :: es) ts fs n) (hg : Gl X y := by rfl) (hn : y ≠ "__name__" := by decide)
    (hdb : (y == ("__debug__" : Str)) = false := by decide) (he : starEach (e :: es) X.env = (false, eval e X.env) :: starEach es X.env := by rfl) (hpl : (backTo pos (starEach es X.env)).any (·.1) = false := by rfl) : DE X x W (.Call (.Name y p) (e :: es) [] pos) (tCB r ts) (fN g fs) :=
  ⟨pe_callTy hc hg hm hv ha.pa hn hdb he hpl, fit_cb hr ha.fit⟩
theorem de_len (hK : x.K = X.K) (hm : X.mg "len" = none) (ha : DA X x W (e :: es) ts fs n) (hg : Gl X "len" := by rfl) (he : starEach (e :: es) X.env = (false, eval e X.env) :: starEach es X.env := by rfl) (hpl : (backTo pos (starEach es X.env)).any (·.1) = false := by rfl) :
    DE X x W (.Call (.Name "len" p) (e :: es) [] pos) (tCB (fun xs H Q => ∃ y n, xs = [y] ∧ LenV X.K y H n ∧ Q (.int n) H) ts) (fN uLen fs) := de_callB call_len (hK ▸ fit_lenU) hm PySem.boot_len ha hg (by decide) (by decide) he hpl
theorem de_intc (hm : X.mg "int" = none) (ha : DA X x W (e :: es) ts fs n) (hg : Gl X "int" := by rfl) (he : starEach (e :: es) X.env = (false, eval e X.env) :: starEach es X.env := by rfl) (hpl : (backTo pos (starEach es X.env)).any (·.1) = false := by rfl) :
    DE X x W (.Call (.Name "int" p) (e :: es) [] pos) (tCB (fun xs H Q => (∃ i, xs = [.int i] ∧ Q (.int i) H) ∨ ∃ k, xs = [.bl k] ∧ Q (.int (if k then 1 else 0)) H) ts) (fN uInt fs) := de_callTy call_int1 fit_intU hm boot_int ha hg (by decide) (by decide) he hpl
theorem de_max2 (hc : X.calm = true) (hm : X.mg "max" = none) (ha : DA X x W (e :: es) ts fs n) (hg : Gl X "max" := by rfl) (he : starEach (e :: es) X.env = (false, eval e X.env) :: starEach es X.env := by rfl) (hpl : (backTo pos (starEach es X.env)).any (·.1) = false := by rfl) :
    DE X x W (.Call (.Name "max" p) (e :: es) [] pos) (tCB (fun xs H Q => ∃ i j, xs = [.int i, .int j] ∧ Q (.int (if j > i then j else i)) H) ts) (fN uMax fs) := de_callB (call_max2 hc) fit_maxU hm boot_max ha hg (by decide) (by decide) he hpl
theorem de_min2 (hc : X.calm = true) (hm : X.mg "min" = none) (ha : DA X x W (e :: es) ts fs n) (hg : Gl X "min" := by rfl) (he : starEach (e :: es) X.env = (false, eval e X.env) :: starEach es X.env := by rfl) (hpl : (backTo pos (starEach es X.env)).any (·.1) = false := by rfl) :
    DE X x W (.Call (.Name "min" p) (e :: es) [] pos) (tCB (fun xs H Q => ∃ i j, xs = [.int i, .int j] ∧ Q (.int (if j < i then j else i)) H) ts) (fN uMin fs) := de_callB (call_min2 hc) fit_minU hm boot_min ha hg (by decide) (by decide) he hpl
theorem de_isi (hK : x.K = X.K) (hm : X.mg "isinstance" = none) (ha : DA X x W (e :: es) ts fs n) (hg : Gl X "isinstance" := by rfl) (he : starEach (e :: es) X.env = (false, eval e X.env) :: starEach es X.env := by rfl) (hpl : (backTo pos (starEach es X.env)).any (·.1) = false := by rfl) :
    DE X x W (.Call (.Name "isinstance" p) (e :: es) [] pos) (tCB (rIsi X.K) ts) (fN uIsi fs) := de_callB call_isi (hK ▸ fit_isiU) hm boot_isinstance ha hg (by decide) (by decide) he hpl
theorem de_gcd (hm : X.mg "gcd" = some (.builtin "math.gcd")) (ha : DA X x W (e :: es) ts fs n) (hg : Gl X "gcd" := by rfl) (he : starEach (e :: es) X.env = (false, eval e X.env) :: starEach es X.env := by rfl) (hpl : (backTo pos (starEach es X.env)).any (·.1) = false := by rfl) :
    DE X x W (.Call (.Name "gcd" p) (e :: es) [] pos) (tCB rGcd ts) (fN uGcd fs) := ⟨pe_callBfun cr_gcd hg hm ha.pa (by decide) he hpl, fit_cb fit_gcdU ha.fit⟩
/-! ### methods of lists and texts -/
def fM (g : U → List U → Store → R U) (fo : Vr → Store → R U) (fs : Vr → Store → R (List U)) : Vr → Store → R U := fun ρ S => (fo ρ S).bind fun u S1 => (fs ρ S1).bind fun us S2 => g u us S2
/-- a list whose method is asked -/
def isL (u : U) (S : Store) : Bool := (viewL u S).isSome
@[simp] def fML (g : U → List U → Store → R U) (fo : Vr → Store → R U) (fs : Vr → Store → R (List U)) : Vr → Store → R U := fun ρ S => (fo ρ S).bind fun u S1 => if isL u S1 = true then (fs ρ S1).bind fun us S2 => g u us S2 else .bad
def isS : U → Bool
  | .d (.str _) => true
  | _ => false
def fMS (g : U → List U → Store → R U) (fo : Vr → Store → R U) (fs : Vr → Store → R (List U)) : Vr → Store → R U := fun ρ S => (fo ρ S).bind fun u S1 => if isS u = true then (fs ρ S1).bind fun us S2 => g u us S2 else .bad
def FitM (x : Fx) (r : V → List V → Hp → VK → Prop) (g : U → List U → Store → R U) : Prop := ∀ W α F S σ H v u vs us, Rep x α F S H → IsU x α F S.length v u → IsUs x α F S.length vs us → ∀ Q, Post zU x W α F S σ Q (g u us S) → r v vs H Q
theorem fit_mL {r : V → List V → Hp → VK → Prop} {g : U → List U → Store → R U} (hr : FitM x r g) (ho : FitE x W te fe) (hs : FitA x W ts fs) : FitE x W (tBM x.K "list" r te ts) (fML g fe fs) := by
  intro α F ρ S σ H r0 s Q q
  refine ho.bind r0 s q fun α1 F1 S1 H1 v u e1 r1 s1 i1 p1 => ?_
  split at p1
  · rename_i hl
    unfold isL at hl
    cases ev : viewL u S1 with
    | none => rw [ev] at hl; cases hl
    | some xs =>
      obtain ⟨A, vs, rfl, h1, _⟩ := viewL_ok r1 i1 ev
      refine ⟨.inl ⟨rfl, vs, h1⟩, hs.bind r1 s1 p1 fun α2 F2 S2 H2 ws us e2 r2 s2 i2 p2 => ?_⟩
      exact hr W α2 F2 S2 σ H2 _ u ws us r2 (IsU.ext e2 i1) i2 Q p2
  · exact p1.elim
theorem fit_mL0 {r : V → List V → Hp → VK → Prop} {g : U → List U → Store → R U} (hr : FitM x r g) (ho : FitE x W te fe) : FitE x W (tBM0 x.K "list" r te) (fML g fe fNil) := by
  intro α F ρ S σ H r0 s Q q
  refine ho.bind r0 s q fun α1 F1 S1 H1 v u e1 r1 s1 i1 p1 => ?_
  split at p1
  · rename_i hl
    unfold isL at hl
    cases ev : viewL u S1 with
    | none => rw [ev] at hl; cases hl
    | some xs =>
      obtain ⟨A, vs, rfl, h1, _⟩ := viewL_ok r1 i1 ev
      exact ⟨.inl ⟨rfl, vs, h1⟩, hr W α1 F1 S1 σ H1 _ u [] [] r1 i1 .nil Q p1⟩
  · exact p1.elim
theorem fit_mS {r : V → List V → Hp → VK → Prop} {g : U → List U → Store → R U} (hr : FitM x r g) (ho : FitE x W te fe) (hs : FitA x W ts fs) : FitE x W (tBM x.K "str" r te ts) (fMS g fe fs) := by
  intro α F ρ S σ H r0 s Q q
  refine ho.bind r0 s q fun α1 F1 S1 H1 v u e1 r1 s1 i1 p1 => ?_
  split at p1
  · rename_i hl
    unfold isS at hl
    split at hl
    · rename_i z
      have j1 : Is x.K F1 v (.str z) := i1
      cases j1
      refine ⟨rfl, hs.bind r1 s1 p1 fun α2 F2 S2 H2 ws us e2 r2 s2 i2 p2 => ?_⟩
      exact hr W α2 F2 S2 σ H2 _ _ ws us r2 (IsU.ext (u := .d (.str z)) e2 i1) i2 Q p2
    · cases hl
  · exact p1.elim
def uApp (u : U) (us : List U) (S : Store) : R U := match u, us with
  | .loc l, [w] => (match frz w S with
    | some (y, S1) => (match S1[l]? with
      | some (some ds) => if ds.length < 1000000 then .ok (.d .none) (S1.set l (some (ds ++ [y]))) else .bad
      | _ => .bad)
    | none => .bad)
  | _, _ => .bad
def uExt (u : U) (us : List U) (S : Store) : R U := match u, us with
  | .loc l, [w] => (match viewM w S with
    | some ys => (match S[l]? with
      | some (some ds) => if ds.length + ys.length ≤ 1000000 then .ok (.d .none) (S.set l (some (ds ++ ys))) else .bad
      | _ => .bad)
    | none => .bad)
  | _, _ => .bad
def uPop (u : U) (us : List U) (S : Store) : R U := match u, us with
  | .loc l, [] => (match S[l]? with
    | some (some ds) => (match ds[ds.length - 1]? with
      | some y => .ok (.d y) (S.set l (some ds.dropLast))
      | none => .bad)
    | _ => .bad)
  | _, _ => .bad
def strsD : List D → Option (List Str)
  | [] => some []
  | .str z :: ds => (strsD ds).map (z :: ·)
  | _ => none
def uJoin (u : U) (us : List U) (S : Store) : R U := match u, us with
  | .d (.str a), [w] => (match viewM w S with
    | some ys => (match strsD ys with
      | some zs => if (zs.map (·.length)).sum + zs.length * a.length ≤ 16777216 then .ok (.d (.str (Txt.join a zs))) S else .bad
      | none => .bad)
    | none => .bad)
  | _, _ => .bad
theorem is_loc {α : Nat → Addr} {F : Hp} {m : Nat} {v : V} {l : Nat} (h : IsU x α F m v (.loc l)) : v = .ref (α l) ∧ l < m := h
theorem IsAll.one {K : PySem.W.Frag} {F : Hp} {v : V} {y : D} (h : Is K F v y) : IsAll K F [v] [y] := .cons h .nil
theorem fit_app : FitM x rAppend uApp := by
  intro W α F S σ H v u vs us r i1 i2 Q q
  unfold uApp at q
  split at q
  · rename_i l w
    obtain ⟨v2, rfl, i3⟩ := us1 i2
    split at q
    · rename_i y S1 hf
      obtain ⟨F1, r1, e1, j1⟩ := frz_ok r i3 hf
      split at q
      · rename_i ds hl
        obtain ⟨c1, ws, c2, c3⟩ := r1.cell l ds hl
        split at q
        · rename_i hz
          obtain ⟨rfl, _⟩ := is_loc i1
          obtain ⟨r2, e2⟩ := r1.write hl (c3.append (.one j1))
          exact ⟨_, ws, v2, rfl, rfl, c2, lt_line (by rw [c3.length]; exact hz), q _ _ _ _ (e1.trans e2) r2 .non⟩
        · exact q.elim
      · exact q.elim
    · exact q.elim
  · exact q.elim
theorem fit_ext : FitM x rExtend uExt := by
  intro W α F S σ H v u vs us r i1 i2 Q q
  unfold uExt at q
  split at q
  · rename_i l w
    obtain ⟨v2, rfl, i3⟩ := us1 i2
    split at q
    · rename_i ys hy
      obtain ⟨A, zs, rfl, h1, h2⟩ := viewM_ok r i3 hy
      split at q
      · rename_i ds hl
        obtain ⟨c1, ws, c2, c3⟩ := r.cell l ds hl
        split at q
        · rename_i hz
          obtain ⟨rfl, _⟩ := is_loc i1
          obtain ⟨r2, e2⟩ := r.write hl (c3.append h2)
          exact ⟨_, A, ws, zs, rfl, rfl, c2, h1, le_line (by rw [c3.length, h2.length]; exact hz), q _ _ _ _ e2 r2 .non⟩
        · exact q.elim
      · exact q.elim
    · exact q.elim
  · exact q.elim
theorem IsAll.dropLast {K : PySem.W.Frag} {F : Hp} {vs : List V} {ds : List D} (h : IsAll K F vs ds) : IsAll K F vs.dropLast ds.dropLast := by
  rw [List.dropLast_eq_take, List.dropLast_eq_take, h.length]
  exact h.take _
theorem fit_pop : FitM x rPop uPop := by
  intro W α F S σ H v u vs us r i1 i2 Q q
  unfold uPop at q
  split at q
  · rename_i l
    cases i2
    split at q
    · rename_i ds hl
      obtain ⟨c1, ws, c2, c3⟩ := r.cell l ds hl
      split at q
      · rename_i y hy
        obtain ⟨z, h1, h2⟩ := c3.get hy
        obtain ⟨rfl, _⟩ := is_loc i1
        obtain ⟨r2, e2⟩ := r.write hl c3.dropLast
        exact ⟨_, ws, z, rfl, rfl, c2, by rw [c3.length]; exact h1, q _ _ _ _ e2 r2 h2⟩
      · exact q.elim
    · exact q.elim
  · exact q.elim
theorem strsD_ok {K : PySem.W.Frag} {F : Hp} : ∀ {ds : List D} {vs : List V} {zs : List Str}, IsAll K F vs ds → strsD ds = some zs → vs = zs.map V.str
  | [], _, _, h, e => by
    cases h
    cases e
    rfl
  | .str z :: ds, _, _, h, e => by
    cases h with
    | cons h1 h2 =>
      cases h1
      unfold strsD at e
      cases q : strsD ds with
      | none => rw [q] at e; cases e
      | some ws =>
        rw [q] at e
        cases e
        rw [strsD_ok h2 q, List.map_cons]
  | .none :: _, _, _, _, e => by cases e
  | .bool _ :: _, _, _, _, e => by cases e
  | .int _ :: _, _, _, _, e => by cases e
  | .list _ :: _, _, _, _, e => by cases e
  | .tuple _ :: _, _, _, _, e => by cases e
  | .dict _ :: _, _, _, _, e => by cases e
theorem fit_join : FitM x (fun y xs H Q => ∃ a p, ∃ ys : List Str, y = .str a ∧ xs = [.ref p] ∧ (SqL x.K H p (ys.map V.str) ∨ SqT x.K H p (ys.map V.str)) ∧ (ys.map (·.length)).sum + ys.length * a.length ≤ 16777216 ∧ Q (.str (Txt.join a ys)) H) uJoin := by
  intro W α F S σ H v u vs us r i1 i2 Q q
  unfold uJoin at q
  split at q
  · rename_i a w
    have j1 : Is x.K F v (.str a) := i1
    cases j1
    obtain ⟨v2, rfl, i3⟩ := us1 i2
    split at q
    · rename_i ys hy
      obtain ⟨A, zs, rfl, h1, h2⟩ := viewM_ok r i3 hy
      split at q
      · rename_i ws hs
        split at q
        · rename_i hz
          have e := strsD_ok h2 hs
          subst e
          exact ⟨a, A, ws, rfl, rfl, .inl (SqL.of h1), hz, ok_here r q (.str _)⟩
        · exact q.elim
      · exact q.elim
    · exact q.elim
  · exact q.elim
section
variable {o : Expr} {apos cpos : Pos}
theorem de_append (hK : x.K = X.K) (ho : DE X x W o te fe) (ha : DA X x W (e :: es) ts fs n) (hbase : attributeBase o "append" X.env (eval o X.env) = eval o X.env := by rfl)
    (hfew : ((backTo cpos (starEach (e :: es) X.env)).all (fun x => !x.1) && (backToKw cpos (keywordEach [] X.env)).all (fun x => x.1.isSome) && decide ((e :: es).length + ([] : List Keyword).length + (if ([] : List Keyword).isEmpty then 0 else 1) < 30)) = true := by rfl)
    (hline : (apos.endLine == cpos.line) = true := by rfl) (hs : starEach (e :: es) X.env = (false, eval e X.env) :: starEach es X.env := by rfl) (hplain : (backTo cpos (starEach es X.env)).any (·.1) = false := by rfl) :
    DE X x W (.Call (.Attribute o "append" apos) (e :: es) [] cpos) (tBM x.K "list" rAppend te ts) (fML uApp fe fs) :=
  ⟨hK ▸ pe_bm PySem.F.plainAttrs_list PySem.F.slot_list_append PySem.F.type_list_append mt_append ho.pe ha.pa hbase hfew hline hs hplain, fit_mL fit_app ho.fit ha.fit⟩
theorem de_extend (hK : x.K = X.K) (ho : DE X x W o te fe) (ha : DA X x W (e :: es) ts fs n) (hbase : attributeBase o "extend" X.env (eval o X.env) = eval o X.env := by rfl)
    (hfew : ((backTo cpos (starEach (e :: es) X.env)).all (fun x => !x.1) && (backToKw cpos (keywordEach [] X.env)).all (fun x => x.1.isSome) && decide ((e :: es).length + ([] : List Keyword).length + (if ([] : List Keyword).isEmpty then 0 else 1) < 30)) = true := by rfl)
    (hline : (apos.endLine == cpos.line) = true := by rfl) (hs : starEach (e :: es) X.env = (false, eval e X.env) :: starEach es X.env := by rfl) (hplain : (backTo cpos (starEach es X.env)).any (·.1) = false := by rfl) :
    DE X x W (.Call (.Attribute o "extend" apos) (e :: es) [] cpos) (tBM x.K "list" rExtend te ts) (fML uExt fe fs) :=
  ⟨hK ▸ pe_bm PySem.F.plainAttrs_list PySem.F.slot_list_extend PySem.F.type_list_extend mt_extend ho.pe ha.pa hbase hfew hline hs hplain, fit_mL fit_ext ho.fit ha.fit⟩
theorem de_pop (hK : x.K = X.K) (ho : DE X x W o te fe) (hbase : attributeBase o "pop" X.env (eval o X.env) = eval o X.env := by rfl) (hline : (apos.endLine == cpos.line) = true := by rfl) :
    DE X x W (.Call (.Attribute o "pop" apos) [] [] cpos) (tBM0 x.K "list" rPop te) (fML uPop fe fNil) :=
  ⟨hK ▸ pe_bm0 PySem.F.plainAttrs_list PySem.F.slot_list_pop PySem.F.type_list_pop mt_pop ho.pe hbase hline, fit_mL0 fit_pop ho.fit⟩
theorem de_join (hK : x.K = X.K) (ho : DE X x W o te fe) (ha : DA X x W (e :: es) ts fs n) (hbase : attributeBase o "join" X.env (eval o X.env) = eval o X.env := by rfl)
    (hfew : ((backTo cpos (starEach (e :: es) X.env)).all (fun x => !x.1) && (backToKw cpos (keywordEach [] X.env)).all (fun x => x.1.isSome) && decide ((e :: es).length + ([] : List Keyword).length + (if ([] : List Keyword).isEmpty then 0 else 1) < 30)) = true := by rfl)
    (hline : (apos.endLine == cpos.line) = true := by rfl) (hs : starEach (e :: es) X.env = (false, eval e X.env) :: starEach es X.env := by rfl) (hplain : (backTo cpos (starEach es X.env)).any (·.1) = false := by rfl) :
    DE X x W (.Call (.Attribute o "join" apos) (e :: es) [] cpos) (tBM x.K "str" (fun y xs H Q => ∃ a p, ∃ ys : List Str, y = .str a ∧ xs = [.ref p] ∧ (SqL x.K H p (ys.map V.str) ∨ SqT x.K H p (ys.map V.str)) ∧ (ys.map (·.length)).sum + ys.length * a.length ≤ 16777216 ∧ Q (.str (Txt.join a ys)) H) te ts) (fMS uJoin fe fs) :=
  ⟨hK ▸ pe_bm PySem.F.plainAttrs_str PySem.F.slot_str_join PySem.F.type_str_join mt_join ho.pe ha.pa hbase hfew hline hs hplain, fit_mS fit_join ho.fit ha.fit⟩
end
end
end Z

/-! Z7: statements, loops, comprehensions, calls, defs. -/
namespace Z
open PySem PySem.Spec PyProof.Rows L2
section
variable {X : Cx} {x : Fx} {W : WX} {a b c e : Expr} {es : List Expr} {ta tb tc te : TE} {fa fb fc fe : Vr → Store → R U} {ts : TA} {fs : Vr → Store → R (List U)} {n : Nat} {pos p : Pos} {tt tu : TT} {ft fu : Vr → Store → R Bool}
variable {st : Stmt} {sts sts' : List Stmt} {t u : TS} {g h : Vr → Store → O}
theorem db_nil : DB X x W [] tNext gNx := ⟨pss_nil, fits_nx⟩
theorem db_cons (h1 : DS X x W st t g) (h2 : DB X x W sts u h) : DB X x W (st :: sts) (tSeq t u) (gSeq g h) := ⟨pss_cons h1.ps h2.ps, fits_seq h1.fit h2.fit⟩
theorem db_one (h1 : DS X x W st t g) : DB X x W [st] t g := ⟨pss_one h1.ps, h1.fit⟩
theorem ds_pass : DS X x W (.Pass pos) tNext gNx := ⟨ps_pass, fits_nx⟩
theorem ds_brk : DS X x W (.Break pos) tBreak gBrk := ⟨ps_break, fits_brk⟩
theorem ds_cnt : DS X x W (.Continue pos) tCont gCnt := ⟨ps_continue, fits_cnt⟩
theorem ds_set (i : Nat) {y : Str} (hN : X.N.Nodup) (he : DE X x W e te fe) (hi : X.N[i]? = some y := by rfl) (hx : Loc X.env.scope y := by first | exact Or.inl rfl | exact Or.inr rfl) (hs : swapsWith e (some (.Name y p)) pos.line X.env = pure false := by rfl)
    (hf : X.fn y = true ∨ X.env.scope.names.lookup y = some .local := by first | exact .inl rfl | exact .inr rfl) : DS X x W (.Assign [.Name y p] e pos) (tAsg te (gName i)) (gSet i fe) := ⟨ps_set hN hi hx he.pe hs hf, fits_set i he.fit⟩
theorem ds_expr (he : DE X x W e te fe) (hs : swapsWith e none pos.line X.env = pure false := by rfl) : DS X x W (.Expr e pos) (tDrop te) (gDrop fe) := ⟨ps_expr he.pe hs, fits_drop he.fit⟩
theorem ds_ret (he : DE X x W e te fe) : DS X x W (.Return (some e) pos) (tRet te) (gRet fe) := ⟨ps_ret he.pe, fits_ret he.fit⟩
theorem ds_retN : DS X x W (.Return none pos) tRetN gRetN := ⟨ps_retN, fits_retN⟩
theorem ds_if (hc : DT X x W c tt ft) (ha : DB X x W sts t g) (hb : DB X x W sts' u h) : DS X x W (.If c sts sts' pos) (tIfS tt t u) (gIf ft g h) := ⟨ps_if hc.pt ha.ps hb.ps, fits_if hc.fit ha.fit hb.fit⟩
/-- a, b = x, y stored from the right -/
theorem ds_par (i j : Nat) {y z : Str} {px py q : Pos} {kt k2 : Nat} {pt2 : Pos} (hc : X.calm = true) (hN : X.N.Nodup) (ha : DA X x W [a, b] ts fs 2) (hi : X.N[i]? = some y := by rfl) (hj : X.N[j]? = some z := by rfl) (hij : i ≠ j := by decide)
    (hx : X.env.scope.names.lookup y = some .local := by rfl) (hy : X.env.scope.names.lookup z = some .local := by rfl)
    (hw : swappedStores [.Tuple [.Name y px, .Name z py] kt q] (.Tuple [a, b] k2 pt2) X.env = pure (some [y, z]) := by rfl)
    (hs : swapsWithSole [.Tuple [.Name y px, .Name z py] kt q] (.Tuple [a, b] k2 pt2) pos.line X.env = pure false := by rfl) :
    DS X x W (.Assign [.Tuple [.Name y px, .Name z py] kt q] (.Tuple [a, b] k2 pt2) pos) (tPar i j ts) (gPar i j fs) := ⟨ps_par hc hN hi hj hij hx hy ha.pa hw hs, fits_par i j ha.fit⟩
/-! ### targets -/
theorem dg_name (i : Nat) {y : Str} (hN : X.N.Nodup) (hi : X.N[i]? = some y := by rfl) (hx : Loc X.env.scope y := by first | exact Or.inl rfl | exact Or.inr rfl) (hf : X.fn y = true ∨ X.env.scope.names.lookup y = some .local := by first | exact .inl rfl | exact .inr rfl) :
    DG X x (.Name y pos) (gName i) (aName i) := ⟨pg_name hN hi hx hf, fitg_name i⟩
theorem dgs_nil : DGs X x [] gNil aNil := ⟨pgs_nil, fitg_nil⟩
theorem dgs_cons {tg : TG} {tgs : TGs} {a1 : U → Vr → Option Vr} {b1 : List D → Vr → Option Vr} (h1 : DG X x e tg a1) (h2 : DGs X x es tgs b1) (hs : (assignEach (e :: es) X.env).map (·.2) = assign e X.env :: (assignEach es X.env).map (·.2) := by rfl) : DGs X x (e :: es) (gCons tg tgs) (aCons a1 b1) :=
  ⟨pgs_cons h1.pg h2.pg hs, fitg_cons h1.fit h2.fit⟩
theorem dg_tup {k : Nat} {tgs : TGs} {b1 : List D → Vr → Option Vr} (hK : x.K = X.K) (hc : X.calm = true) (h1 : DGs X x es tgs b1) (hn : (assignEach es X.env).length = n := by rfl) (hst : (assignEach es X.env).findIdx? (·.1) = none := by rfl) : DG X x (.Tuple es k pos) (gTup X.K n tgs) (aTup n b1) :=
  ⟨pg_tup hc h1.pg hn hst, hK ▸ fitg_tup h1.fit⟩
theorem ds_asg {tg : Expr} {gg : TG} {a1 : U → Vr → Option Vr} (he : DE X x W e te fe) (hg : DG X x tg gg a1) (hs : swapsWithSole [tg] e pos.line X.env = pure false := by rfl) (hw : swappedStores [tg] e X.env = pure none := by rfl)
    (h1 : (assignEach [tg] X.env).map (·.2) = [assign tg X.env] := by rfl) : DS X x W (.Assign [tg] e pos) (tAsg te gg) (gAsg fe a1) := ⟨ps_asg he.pe hg.pg hs hw h1, fits_asg he.fit hg.fit⟩
/-! ### what is walked -/
/-- a list, a tuple: the list stops changing -/
def seqD (u : U) (S : Store) : R (List D) := match u with
  | .rd xs => .ok xs S
  | .d (.tuple xs) => .ok xs S
  | u => (match frz u S with
    | some (.list xs, S1) => .ok xs S1
    | _ => .bad)
def sSeq (fe : Vr → Store → R U) : Vr → Store → R (List D) := fun ρ S => (fe ρ S).bind seqD
def iSeq (K : PySem.W.Frag) (tl : TE) : TI := fun σ H Q => tl σ H fun v H1 => ∃ a, v = .ref a ∧ (((∃ xs, SqL K H1 a xs) ∧ Q (Itl K a) H1) ∨ ((∃ xs, SqT K H1 a xs) ∧ Q (Itt K a) H1))
theorem pi_seq {tg l : Expr} {tl : TE} (hl : PE X l tl) : PI X tg l (iSeq X.K tl) := by
  refine ⟨fun pins s σ H Q I h => ?_⟩
  refine thn (hl.run pins s σ H _ I h) fun v s1 ⟨y, H1, I1, r1, q1⟩ => ?_
  obtain ⟨A, e, ⟨⟨xs, hq⟩, q⟩ | ⟨⟨xs, hq⟩, q⟩⟩ := q1
  · subst e
    cases r1
    obtain ⟨its, rv, pl, hz⟩ := I1.list hq
    refine wpAny_pyIter_list pl.isList ?_
    refine ⟨s1.heap.objs.size, [s1.heap.objs.size], _, _, H1, rfl, I1.kept (t' := s1.toks) fun b o e => Heap.get?_push_of_some _ e, turn_list A _, ⟨_, Heap.get?_push_size _ rfl, rfl, rfl⟩, fun b hb => ?_, q⟩
    have e : b = s1.heap.objs.size := by simpa using hb
    subst e
    exact I1.fpOk (Nat.le_refl _) (I1.hok.fresh (Nat.le_refl _))
  · subst e
    cases r1
    obtain ⟨its, rv, pl, hz⟩ := I1.tuple hq
    refine wpAny_pyIter_tuple (show s1.heap.IsTuple A its.toArray from pl) ?_
    refine ⟨s1.heap.objs.size, [s1.heap.objs.size], _, _, H1, rfl, I1.kept (t' := s1.toks) fun b o e => Heap.get?_push_of_some _ e, turn_tuple A _, ⟨_, Heap.get?_push_size _ rfl, rfl, rfl⟩, fun b hb => ?_, q⟩
    have e : b = s1.heap.objs.size := by simpa using hb
    subst e
    exact I1.fpOk (Nat.le_refl _) (I1.hok.fresh (Nat.le_refl _))

end
def rngD : Int → Nat → List D
  | _, 0 => []
  | lo, n + 1 => .int lo :: rngD (lo + 1) n
def rngC : Int → Int → Nat → List D
  | _, _, 0 => []
  | lo, c, n + 1 => .int lo :: rngC (lo + c) c n
def enumD : Nat → List D → List D
  | _, [] => []
  | k, y :: ys => .tuple [.int (k : Int), y] :: enumD (k + 1) ys
def zipD : List D → List D → List D
  | y :: ys, z :: zs => .tuple [y, z] :: zipD ys zs
  | _, _ => []
theorem rngD_len : ∀ (n : Nat) (lo : Int), (rngD lo n).length = n
  | 0, _ => rfl
  | n + 1, lo => by rw [rngD, List.length_cons, rngD_len n]
theorem rngC_len : ∀ (n : Nat) (lo c : Int), (rngC lo c n).length = n
  | 0, _, _ => rfl
  | n + 1, lo, c => by rw [rngC, List.length_cons, rngC_len n]
theorem rngD_get : ∀ (n : Nat) (lo : Int) (i : Nat) (d : D), (rngD lo n)[i]? = some d → i < n ∧ d = .int (lo + i)
  | 0, _, _, _, h => by simp [rngD] at h
  | n + 1, lo, 0, d, h => by
    simp [rngD] at h
    exact ⟨Nat.succ_pos _, by rw [← h]; simp⟩
  | n + 1, lo, i + 1, d, h => by
    rw [rngD, List.getElem?_cons_succ] at h
    obtain ⟨h1, h2⟩ := rngD_get n (lo + 1) i d h
    refine ⟨by omega, ?_⟩
    rw [h2]
    congr 1
    omega
theorem rngC_get : ∀ (n : Nat) (lo c : Int) (i : Nat) (d : D), (rngC lo c n)[i]? = some d → i < n ∧ d = .int (lo + (i : Nat) * c)
  | 0, _, _, _, _, h => by simp [rngC] at h
  | n + 1, lo, c, 0, d, h => by
    simp [rngC] at h
    exact ⟨Nat.succ_pos _, by rw [← h]; simp⟩
  | n + 1, lo, c, i + 1, d, h => by
    rw [rngC, List.getElem?_cons_succ] at h
    obtain ⟨h1, h2⟩ := rngC_get n (lo + c) c i d h
    refine ⟨by omega, ?_⟩
    rw [h2]
    congr 1
    rw [Int.natCast_succ, Int.add_mul, Int.one_mul]
    omega
theorem enumD_len : ∀ (xs : List D) (k : Nat), (enumD k xs).length = xs.length
  | [], _ => rfl
  | _ :: xs, k => by rw [enumD, List.length_cons, List.length_cons, enumD_len xs]
theorem enumD_get : ∀ (xs : List D) (k i : Nat) (d : D), (enumD k xs)[i]? = some d → ∃ y, xs[i]? = some y ∧ d = .tuple [.int ((k + i : Nat) : Int), y]
  | [], _, _, _, h => by simp [enumD] at h
  | y :: xs, k, 0, d, h => by
    simp [enumD] at h
    exact ⟨y, rfl, by rw [← h]; simp⟩
  | y :: xs, k, i + 1, d, h => by
    rw [enumD, List.getElem?_cons_succ] at h
    obtain ⟨z, h1, h2⟩ := enumD_get xs (k + 1) i d h
    exact ⟨z, by rw [List.getElem?_cons_succ]; exact h1, by rw [h2, Nat.add_right_comm, Nat.add_assoc]⟩
theorem zipD_len : ∀ (xs ys : List D), (zipD xs ys).length = min xs.length ys.length
  | [], _ => by simp [zipD]
  | _ :: _, [] => by simp [zipD]
  | _ :: xs, _ :: ys => by
    rw [zipD, List.length_cons, List.length_cons, List.length_cons, zipD_len xs ys]
    omega
theorem zipD_get : ∀ (xs ys : List D) (i : Nat) (d : D), (zipD xs ys)[i]? = some d → ∃ y z, xs[i]? = some y ∧ ys[i]? = some z ∧ d = .tuple [y, z]
  | [], _, _, _, h => by simp [zipD] at h
  | _ :: _, [], _, _, h => by simp [zipD] at h
  | y :: xs, z :: ys, 0, d, h => by
    simp [zipD] at h
    exact ⟨y, z, rfl, rfl, h.symm⟩
  | y :: xs, z :: ys, i + 1, d, h => by
    rw [zipD, List.getElem?_cons_succ] at h
    obtain ⟨y', z', h1, h2, h3⟩ := zipD_get xs ys i d h
    exact ⟨y', z', by rw [List.getElem?_cons_succ]; exact h1, by rw [List.getElem?_cons_succ]; exact h2, h3⟩
theorem get_lt {ds : List D} {i : Nat} {d : D} (h : ds[i]? = some d) : i < ds.length := (List.getElem?_eq_some_iff.mp h).1
section
variable {x : Fx} {F : Hp} {A A2 : Addr} {vs ws : List V} {ds es : List D}
theorem wk_list (h : SqL x.K F A vs) (hi : IsAll x.K F vs ds) : Wk x F (Itl x.K A) ds := by
  intro α F' S H le r i
  have hq : SqL x.K H A vs := le_l (le.trans r.le) h
  refine ⟨fun d hd => ?_, fun hl => ⟨vs, hq, by rw [hi.length]; exact hl⟩⟩
  obtain ⟨v, h1, h2⟩ := hi.get hd
  refine ⟨⟨vs, v, hq, h1⟩, fun w H' y => ?_⟩
  obtain ⟨rfl, y⟩ := y
  have e := y vs hq
  rw [h1] at e
  cases e
  exact ⟨F', r, Ext.refl _ _ _, Is.mono le _ _ h2⟩
theorem wk_tup (h : SqT x.K F A vs) (hi : IsAll x.K F vs ds) : Wk x F (Itt x.K A) ds := by
  intro α F' S H le r i
  have hq : SqT x.K H A vs := le_t (le.trans r.le) h
  refine ⟨fun d hd => ?_, fun hl => ⟨vs, hq, by rw [hi.length]; exact hl⟩⟩
  obtain ⟨v, h1, h2⟩ := hi.get hd
  refine ⟨⟨vs, v, hq, h1⟩, fun w H' y => ?_⟩
  obtain ⟨rfl, y⟩ := y
  have e := y vs hq
  rw [h1] at e
  cases e
  exact ⟨F', r, Ext.refl _ _ _, Is.mono le _ _ h2⟩
theorem wk_rng {lo : Int} {n : Nat} : Wk x F (Itr lo n) (rngD lo n) := by
  intro α F' S H le r i
  refine ⟨fun d hd => ?_, fun hl => by rw [rngD_len] at hl; exact hl⟩
  obtain ⟨h1, rfl⟩ := rngD_get n lo i d hd
  refine ⟨h1, fun w H' y => ?_⟩
  obtain ⟨rfl, rfl⟩ := y
  exact ⟨F', r, Ext.refl _ _ _, .int _⟩
theorem wk_rngC {lo c : Int} {n : Nat} : Wk x F (Itc lo c n) (rngC lo c n) := by
  intro α F' S H le r i
  refine ⟨fun d hd => ?_, fun hl => by rw [rngC_len] at hl; exact hl⟩
  obtain ⟨h1, rfl⟩ := rngC_get n lo c i d hd
  refine ⟨h1, fun w H' y => ?_⟩
  obtain ⟨rfl, rfl⟩ := y
  exact ⟨F', r, Ext.refl _ _ _, .int _⟩
theorem wk_enum (h : SqL x.K F A vs) (hi : IsAll x.K F vs ds) : Wk x F (Ite x.K A) (enumD 0 ds) := by
  intro α F' S H le r i
  have hq : SqL x.K H A vs := le_l (le.trans r.le) h
  refine ⟨fun d hd => ?_, fun hl => ⟨vs, hq, by rw [enumD_len] at hl; rw [hi.length]; exact hl⟩⟩
  obtain ⟨z, hz, rfl⟩ := enumD_get ds 0 i d hd
  obtain ⟨v, h1, h2⟩ := hi.get hz
  refine ⟨⟨vs, v, hq, h1⟩, fun w H' y => ?_⟩
  obtain ⟨T, y0, rfl, hT, rfl, y⟩ := y
  have e := y vs hq
  rw [h1] at e
  cases e
  obtain ⟨r3, e3⟩ := r.frozen (o := .tup [.int (i : Nat), v]) hT
  refine ⟨_, r3, e3, .tup (SqT.of upd_same) (.cons ?_ (.cons (Is.mono (le.trans e3.fr) _ _ h2) .nil))⟩
  rw [Nat.zero_add]
  exact .int _
theorem wk_zip (h : SqL x.K F A vs) (hi : IsAll x.K F vs ds) (h' : SqL x.K F A2 ws) (hi' : IsAll x.K F ws es) : Wk x F (Itz x.K A A2) (zipD ds es) := by
  intro α F' S H le r i
  have hq : SqL x.K H A vs := le_l (le.trans r.le) h
  have hq' : SqL x.K H A2 ws := le_l (le.trans r.le) h'
  refine ⟨fun d hd => ?_, fun hl => ⟨vs, ws, hq, hq', by rw [zipD_len] at hl; rw [hi.length, hi'.length]; omega⟩⟩
  obtain ⟨y, z, hy, hz, rfl⟩ := zipD_get ds es i d hd
  obtain ⟨v, h1, h2⟩ := hi.get hy
  obtain ⟨v', h1', h2'⟩ := hi'.get hz
  refine ⟨⟨vs, ws, v, v', hq, hq', h1, h1'⟩, fun w H' y => ?_⟩
  obtain ⟨T, y0, z0, rfl, hT, rfl, y1, y2⟩ := y
  have e := y1 vs hq
  rw [h1] at e
  cases e
  have e := y2 ws hq'
  rw [h1'] at e
  cases e
  obtain ⟨r3, e3⟩ := r.frozen (o := .tup [v, v']) hT
  exact ⟨_, r3, e3, .tup (SqT.of upd_same) (.cons (Is.mono (le.trans e3.fr) _ _ h2) (.cons (Is.mono (le.trans e3.fr) _ _ h2') .nil))⟩
end
/-! ### sources -/
def Fit1D (x : Fx) (u : U) (S : Store) (v : V) (α : Nat → Addr) (F : Hp) (H : Hp) (ds : List D) (S' : Store) : Prop := True
/-- what a value gives that is walked: a list's items -/
theorem seqD_ok {x : Fx} {α : Nat → Addr} {F : Hp} {S S' : Store} {H : Hp} {v : V} {u : U} {ds : List D} (r : Rep x α F S H) (i : IsU x α F S.length v u) (e : seqD u S = .ok ds S') :
    ∃ F' A vs, Rep x α F' S' H ∧ Ext α α F F' S S' ∧ v = .ref A ∧ IsAll x.K F' vs ds ∧ (SqL x.K F' A vs ∨ SqT x.K F' A vs) := by
  unfold seqD at e
  split at e
  · rename_i xs
    cases e
    obtain ⟨A, vs, h1, h2, h3⟩ := i
    exact ⟨F, A, vs, r, Ext.refl _ _ _, h1, h3, .inl h2⟩
  · rename_i xs
    cases e
    have i' : Is x.K F v (.tuple ds) := i
    cases i' with
    | tup h1 h2 => exact ⟨F, _, _, r, Ext.refl _ _ _, rfl, h2, .inr h1⟩
  · split at e
    · rename_i xs S1 hf
      cases e
      obtain ⟨F1, r1, e1, j1⟩ := frz_ok r i hf
      cases j1 with
      | lst h1 h2 => exact ⟨F1, _, _, r1, e1, rfl, h2, .inl (SqL.of h1)⟩
    · cases e
theorem seqD_bad {u : U} {S : Store} {c : Str} {y : D} {S' : Store} : seqD u S ≠ .exc c y S' := by
  unfold seqD
  intro h
  split at h
  · cases h
  · cases h
  · split at h <;> cases h
/-- a list alone -/
def lstD (u : U) (S : Store) : R (List D) := match u with
  | .d (.tuple _) => .bad
  | u => seqD u S
theorem lstD_ok {x : Fx} {α : Nat → Addr} {F : Hp} {S S' : Store} {H : Hp} {v : V} {u : U} {ds : List D} (r : Rep x α F S H) (i : IsU x α F S.length v u) (e : lstD u S = .ok ds S') :
    ∃ F' A vs, Rep x α F' S' H ∧ Ext α α F F' S S' ∧ v = .ref A ∧ IsAll x.K F' vs ds ∧ SqL x.K F' A vs := by
  unfold lstD at e
  split at e
  · cases e
  · rename_i hn
    unfold seqD at e
    split at e
    · rename_i xs
      cases e
      obtain ⟨A, vs, h1, h2, h3⟩ := i
      exact ⟨F, A, vs, r, Ext.refl _ _ _, h1, h3, h2⟩
    · rename_i xs
      exact absurd rfl (hn xs)
    · split at e
      · rename_i xs S1 hf
        cases e
        obtain ⟨F1, r1, e1, j1⟩ := frz_ok r i hf
        cases j1 with
        | lst h1 h2 => exact ⟨F1, _, _, r1, e1, rfl, h2, SqL.of h1⟩
      · cases e
def sRng1 (us : List U) (S : Store) : R (List D) := match us with
  | [.d (.int j)] => if -(2 ^ 62) ≤ j ∧ j < 2 ^ 62 then .ok (rngD 0 j.toNat) S else .bad
  | _ => .bad
def sRng2 (us : List U) (S : Store) : R (List D) := match us with
  | [.d (.int i), .d (.int j)] => if (-(2 ^ 62) ≤ i ∧ i < 2 ^ 62) ∧ -(2 ^ 62) ≤ j ∧ j < 2 ^ 62 then .ok (rngD i (j - i).toNat) S else .bad
  | _ => .bad
def sRng3 (us : List U) (S : Store) : R (List D) := match us with
  | [.d (.int i), .d (.int j), .d (.int c)] => if c = -1 ∧ (-(2 ^ 62) ≤ i ∧ i < 2 ^ 62) ∧ -(2 ^ 62) ≤ j ∧ j < 2 ^ 62 then .ok (rngC i (-1) (i - j).toNat) S else .bad
  | _ => .bad
def sN (g : List U → Store → R (List D)) (fs : Vr → Store → R (List U)) : Vr → Store → R (List D) := fun ρ S => (fs ρ S).bind g
def sEnum (us : List U) (S : Store) : R (List D) := match us with
  | [u] => (lstD u S).bind fun ds S1 => .ok (enumD 0 ds) S1
  | _ => .bad
def sZip (us : List U) (S : Store) : R (List D) := match us with
  | [u, w] => (match frz u S with
    | some (.list xs, S1) => (match frz w S1 with
      | some (.list ys, S2) => .ok (zipD xs ys) S2
      | _ => .bad)
    | _ => .bad)
  | _ => .bad
section
variable {X : Cx} {x : Fx} {W : WX} {tg e a b c : Expr} {te : TE} {fe : Vr → Store → R U} {ts : TA} {fs : Vr → Store → R (List U)} {n : Nat} {p pos : Pos}
theorem fit_seq (h : FitE x W te fe) : FitI x W (iSeq x.K te) (sSeq fe) := by
  intro α F ρ S σ H r0 s Q q
  refine h.bind r0 s q fun α1 F1 S1 H1 v u e1 r1 s1 i1 p1 => ?_
  cases hs : seqD u S1 with
  | ok ds S2 =>
    rw [hs] at p1
    obtain ⟨F2, A, vs, r2, e2, rfl, h1, h2⟩ := seqD_ok r1 i1 hs
    rcases h2 with h2 | h2
    · exact ⟨A, rfl, .inl ⟨⟨vs, le_l r2.le h2⟩, p1 α1 F2 H1 _ e2 r2 (wk_list h2 h1)⟩⟩
    · exact ⟨A, rfl, .inr ⟨⟨vs, le_t r2.le h2⟩, p1 α1 F2 H1 _ e2 r2 (wk_tup h2 h1)⟩⟩
  | exc _ _ _ => exact absurd hs seqD_bad
  | bad => rw [hs] at p1; exact p1.elim
theorem di_seq (hK : x.K = X.K) (h : DE X x W e te fe) : DI X x W tg e (iSeq X.K te) (sSeq fe) := ⟨pi_seq h.pe, hK ▸ fit_seq h.fit⟩
theorem us3 {α : Nat → Addr} {F : Hp} {n : Nat} {vs : List V} {u u' u'' : U} (h : IsUs x α F n vs [u, u', u'']) : ∃ v w z, vs = [v, w, z] ∧ IsU x α F n v u ∧ IsU x α F n w u' ∧ IsU x α F n z u'' := by
  cases h with
  | cons h1 h2 =>
    obtain ⟨w, z, e, h3, h4⟩ := us2 h2
    subst e
    exact ⟨_, _, _, rfl, h1, h3, h4⟩
theorem fit_rng1 (h : FitA x W ts fs) : FitI x W (iRng1 ts) (sN sRng1 fs) := by
  intro α F ρ S σ H r0 s Q q
  refine h.bind r0 s q fun α1 F1 S1 H1 vs us e1 r1 s1 i1 p1 => ?_
  unfold sRng1 at p1
  split at p1
  · rename_i j
    obtain ⟨v, rfl, i2⟩ := us1 i1
    rw [is_int i2]
    split at p1
    · rename_i hb
      exact ⟨j, rfl, hb.1, hb.2, p1 _ _ _ _ (Ext.refl _ _ _) r1 wk_rng⟩
    · exact p1.elim
  · exact p1.elim
theorem fit_rng2 (h : FitA x W ts fs) : FitI x W (iRng2 ts) (sN sRng2 fs) := by
  intro α F ρ S σ H r0 s Q q
  refine h.bind r0 s q fun α1 F1 S1 H1 vs us e1 r1 s1 i1 p1 => ?_
  unfold sRng2 at p1
  split at p1
  · rename_i i j
    obtain ⟨v, w, rfl, i2, i3⟩ := us2 i1
    rw [is_int i2, is_int i3]
    split at p1
    · rename_i hb
      exact ⟨i, j, rfl, ⟨hb.1.1, hb.1.2, hb.2.1, hb.2.2⟩, p1 _ _ _ _ (Ext.refl _ _ _) r1 wk_rng⟩
    · exact p1.elim
  · exact p1.elim
theorem fit_rng3 (h : FitA x W ts fs) : FitI x W (iRng3 ts) (sN sRng3 fs) := by
  intro α F ρ S σ H r0 s Q q
  refine h.bind r0 s q fun α1 F1 S1 H1 vs us e1 r1 s1 i1 p1 => ?_
  unfold sRng3 at p1
  split at p1
  · rename_i i j c
    obtain ⟨v, w, z, rfl, i2, i3, i4⟩ := us3 i1
    rw [is_int i2, is_int i3, is_int i4]
    split at p1
    · rename_i hb
      obtain ⟨rfl, hb⟩ := hb
      exact ⟨i, j, -1, (i - j).toNat, rfl, RgC.neg hb.1.1 hb.1.2 hb.2.1 hb.2.2, p1 _ _ _ _ (Ext.refl _ _ _) r1 wk_rngC⟩
    · exact p1.elim
  · exact p1.elim
theorem fit_enum (h : FitA x W ts fs) : FitI x W (iEnum x.K ts) (sN sEnum fs) := by
  intro α F ρ S σ H r0 s Q q
  refine h.bind r0 s q fun α1 F1 S1 H1 vs us e1 r1 s1 i1 p1 => ?_
  unfold sEnum at p1
  split at p1
  · rename_i u
    obtain ⟨v, rfl, i2⟩ := us1 i1
    cases hs : lstD u S1 with
    | ok ds S2 =>
      rw [hs] at p1
      obtain ⟨F2, A, ws, r2, e2, rfl, h1, h2⟩ := lstD_ok r1 i2 hs
      exact ⟨A, ws, rfl, le_l r2.le h2, p1 α1 F2 H1 _ e2 r2 (wk_enum h2 h1)⟩
    | exc _ _ _ =>
      unfold lstD at hs
      split at hs
      · cases hs
      · exact absurd hs seqD_bad
    | bad => rw [hs] at p1; exact p1.elim
  · exact p1.elim
theorem fit_zip (h : FitA x W ts fs) : FitI x W (iZip x.K ts) (sN sZip fs) := by
  intro α F ρ S σ H r0 s Q q
  refine h.bind r0 s q fun α1 F1 S1 H1 vs us e1 r1 s1 i1 p1 => ?_
  unfold sZip at p1
  split at p1
  · rename_i u w
    obtain ⟨v, v', rfl, i2, i3⟩ := us2 i1
    split at p1
    · rename_i xs S2 hf
      obtain ⟨F2, r2, e2, j1⟩ := frz_ok r1 i2 hf
      split at p1
      · rename_i ys S3 hf'
        obtain ⟨F3, r3, e3, j2⟩ := frz_ok r2 (i3.ext e2) hf'
        have j1' := Is.mono e3.fr _ _ j1
        cases j1' with
        | lst a1 a2 =>
          cases j2 with
          | lst b1 b2 => exact ⟨_, _, _, _, rfl, SqL.of (r3.le _ _ a1), SqL.of (r3.le _ _ b1), p1 α1 F3 H1 _ (e2.trans e3) r3 (wk_zip (SqL.of a1) a2 (SqL.of b1) b2)⟩
      · exact p1.elim
    · exact p1.elim
  · exact p1.elim
theorem di_rng1 (hm : X.mg "range" = none) (h : DA X x W [a] ts fs n) (hg : Gl X "range" := by rfl) (hs : starEach [a] X.env = [(false, eval a X.env)] := by rfl) : DI X x W tg (.Call (.Name "range" p) [a] [] pos) (iRng1 ts) (sN sRng1 fs) := ⟨pi_range1 hg hm h.pa hs, fit_rng1 h.fit⟩
theorem di_rng2 (hm : X.mg "range" = none) (h : DA X x W [a, b] ts fs n) (hg : Gl X "range" := by rfl) (hs : starEach [a, b] X.env = [(false, eval a X.env), (false, eval b X.env)] := by rfl) (hs2 : starEach [b] X.env = [(false, eval b X.env)] := by rfl) :
    DI X x W tg (.Call (.Name "range" p) [a, b] [] pos) (iRng2 ts) (sN sRng2 fs) := ⟨pi_range2 hg hm h.pa hs hs2, fit_rng2 h.fit⟩
theorem di_rng3 (hm : X.mg "range" = none) (h : DA X x W [a, b, c] ts fs n) (hg : Gl X "range" := by rfl) (hs : starEach [a, b, c] X.env = (false, eval a X.env) :: starEach [b, c] X.env := by rfl) (hpl : (backTo pos (starEach [b, c] X.env)).any (·.1) = false := by rfl) :
    DI X x W tg (.Call (.Name "range" p) [a, b, c] [] pos) (iRng3 ts) (sN sRng3 fs) := ⟨pi_range3 hg hm h.pa hs hpl, fit_rng3 h.fit⟩
theorem di_enum {elts : List Expr} {kk : Nat} {tpos : Pos} (hK : x.K = X.K) (hm : X.mg "enumerate" = none) (h : DA X x W [a] ts fs n) (hg : Gl X "enumerate" := by rfl) (hs : starEach [a] X.env = [(false, eval a X.env)] := by rfl) :
    DI X x W (.Tuple elts kk tpos) (.Call (.Name "enumerate" p) [a] [] pos) (iEnum X.K ts) (sN sEnum fs) := ⟨pi_enum hg hm h.pa hs, hK ▸ fit_enum h.fit⟩
theorem di_zip {elts : List Expr} {kk : Nat} {tpos : Pos} (hK : x.K = X.K) (hm : X.mg "zip" = none) (h : DA X x W [a, b] ts fs n) (hg : Gl X "zip" := by rfl) (hs : starEach [a, b] X.env = (false, eval a X.env) :: starEach [b] X.env := by rfl) (hpl : (backTo pos (starEach [b] X.env)).any (·.1) = false := by rfl) :
    DI X x W (.Tuple elts kk tpos) (.Call (.Name "zip" p) [a, b] [] pos) (iZip X.K ts) (sN sZip fs) := ⟨pi_zip hg hm h.pa hs hpl, hK ▸ fit_zip h.fit⟩
/-! ### for, while -/
theorem ds_for {tg iter : Expr} {body : List Stmt} {wi : TI} {src : Vr → Store → R (List D)} {gg : TG} {a1 : U → Vr → Option Vr} {tb : TS} {g : Vr → Store → O} (hp : PassesOwn (model X.prog X.w) X.A X.env X.xe) (hc : X.calm = true) (hi : DI X x W tg iter wi src) (hg : DG X x tg gg a1) (hb : DB X x W body tb g)
    (hs : ∀ y, foldedSetIterable iter X.env y = pure y := by intro _; rfl) : DS X x W (.For tg iter body [] pos) (tFor wi gg tb) (gFor src a1 g) := ⟨ps_for hp hc hi.pi hg.pg hb.ps hs, fits_for hi.fit hg.fit hb.fit⟩
theorem ds_wh {c : Expr} {body : List Stmt} {tc : TT} {ft : Vr → Store → R Bool} {tb : TS} {g : Vr → Store → O} (hp : PassesOwn (model X.prog X.w) X.A X.env X.xe) (h : DT X x W c tc ft) (hb : DB X x W body tb g) : DS X x W (.While c body [] pos) (tWhile tc tb) (gWh ft g) :=
  ⟨ps_while hp h.pt hb.ps, fits_wh h.fit hb.fit⟩
end
end Z

/-! Z8: comprehensions; calls, raises, defs. -/
namespace Z
open PySem PySem.Spec PyProof.Rows L2
/-! ### comprehensions -/
def R.bnd0 {A C : Type} (r : R A) (k : A → Store → R C) : R C := match r with
  | .ok a S => k a S
  | _ => .bad
def wipeU (ρ : Vr) : List Nat → Vr
  | [] => ρ
  | v :: vs => (wipeU ρ vs).set v none
def lcLoop (m : Nat) (tg : U → Vr → Option Vr) (ft : Vr → Store → R Bool) (fe : Vr → Store → R U) (ρ : Vr) : List D → Store → R Unit
  | [], S => .ok () S
  | d :: ds, S => match tg (.d d) ρ with
    | none => .bad
    | some ρ1 => (ft ρ1 S).bnd0 fun b S1 => if b = true then (fe ρ1 S1).bnd0 fun u S2 => (match frz u S2 with
        | some (y, S3) => (match S3[m]? with
          | some (some acc) => if acc.length < 1000000 then lcLoop m tg ft fe ρ ds (S3.set m (some (acc ++ [y]))) else .bad
          | _ => .bad)
        | none => .bad) else lcLoop m tg ft fe ρ ds S1
def lcRun (src : Vr → Store → R (List D)) (tg : U → Vr → Option Vr) (ft : Vr → Store → R Bool) (fe : Vr → Store → R U) (vs : List Nat) (k : List D → Store → Store → R U) : Vr → Store → R U := fun ρ S =>
  (src ρ S).bind fun ds S1 => (lcLoop S1.length tg ft fe (wipeU ρ vs) ds (S1 ++ [some []])).bnd0 fun _ S2 => match S2[S1.length]? with
    | some (some acc) => k acc S1 S2
    | _ => .bad
/-- the new list stays as it is | may change -/
def fLc (src : Vr → Store → R (List D)) (tg : U → Vr → Option Vr) (ft : Vr → Store → R Bool) (fe : Vr → Store → R U) (vs : List Nat) : Vr → Store → R U := lcRun src tg ft fe vs fun acc S1 S2 => .ok (.d (.list acc)) (S2.take S1.length)
def fLcL (src : Vr → Store → R (List D)) (tg : U → Vr → Option Vr) (ft : Vr → Store → R Bool) (fe : Vr → Store → R U) (vs : List Nat) : Vr → Store → R U := lcRun src tg ft fe vs fun acc S1 S2 => .ok (.loc S1.length) (S2.take (S1.length + 1))
abbrev W0 : WX := fun _ _ _ _ => False
/-- a target that stores in the places vs alone -/
def GW (g : TG) (vs : List Nat) : Prop := ∀ v σ H Q, g v σ H Q → g v σ H fun σ' H' => wipe σ' vs = wipe σ vs ∧ Q σ' H'
def GWs (g : TGs) (vs : List Nat) : Prop := ∀ v σ H Q, g v σ H Q → g v σ H fun σ' H' => wipe σ' vs = wipe σ vs ∧ Q σ' H'
theorem wipe_get : ∀ (vs : List Nat) (σ : L2.St) (j : Nat), (wipe σ vs)[j]? = if j ∈ vs ∧ j < σ.length then some none else σ[j]?
  | [], σ, j => by simp [wipe]
  | v :: vs, σ, j => by
    rw [wipe]
    by_cases e : v = j
    · subst e
      by_cases hl : v < σ.length
      · rw [List.getElem?_set_self (by rw [wipe_length]; exact hl), if_pos ⟨List.mem_cons_self, hl⟩]
      · rw [List.getElem?_eq_none (by rw [List.length_set, wipe_length]; omega), if_neg (fun z => hl z.2), List.getElem?_eq_none (by omega)]
    · rw [List.getElem?_set_ne e, wipe_get vs σ j]
      have ej : j ≠ v := fun z => e z.symm
      by_cases h : j ∈ vs ∧ j < σ.length
      · rw [if_pos h, if_pos ⟨List.mem_cons_of_mem _ h.1, h.2⟩]
      · rw [if_neg h, if_neg fun z => h ⟨(List.mem_cons.mp z.1).resolve_left ej, z.2⟩]
theorem wipe_set {vs : List Nat} {σ : L2.St} {i : Nat} {y : Option V} (h : i ∈ vs) : wipe (σ.set i y) vs = wipe σ vs := by
  apply List.ext_getElem?
  intro j
  rw [wipe_get, wipe_get, List.length_set]
  by_cases hj : j ∈ vs ∧ j < σ.length
  · rw [if_pos hj, if_pos hj]
  · rw [if_neg hj, if_neg hj]
    by_cases e : i = j
    · subst e
      have hl : ¬ i < σ.length := fun z => hj ⟨h, z⟩
      rw [List.getElem?_eq_none (by rw [List.length_set]; omega), List.getElem?_eq_none (by omega)]
    · rw [List.getElem?_set_ne e]
theorem wipe_wipe {vs : List Nat} {σ : L2.St} : wipe (wipe σ vs) vs = wipe σ vs := by
  apply List.ext_getElem?
  intro j
  rw [wipe_get, wipe_length]
  by_cases hj : j ∈ vs ∧ j < σ.length
  · rw [if_pos hj, wipe_get, if_pos hj]
  · rw [if_neg hj]
theorem gw_name {i : Nat} {vs : List Nat} (h : i ∈ vs) : GW (gName i) vs := fun v σ H Q q => ⟨wipe_set h, q⟩
theorem gw_nil {vs : List Nat} : GWs gNil vs := fun v σ H Q q => ⟨q.1, rfl, q.2⟩
theorem TG.mono' : True := trivial
theorem gw_cons {g : TG} {gs : TGs} {vs : List Nat} (h : GW g vs) (hs : GWs gs vs) (hm : ∀ v σ H (Q Q' : L2.St → Hp → Prop), (∀ σ H, Q σ H → Q' σ H) → g v σ H Q → g v σ H Q') (hm2 : ∀ v σ H (Q Q' : L2.St → Hp → Prop), (∀ σ H, Q σ H → Q' σ H) → gs v σ H Q → gs v σ H Q') : GWs (gCons g gs) vs := by
  rintro ws σ H Q ⟨v, r, rfl, q⟩
  refine ⟨v, r, rfl, hm v σ H _ _ ?_ (h v σ H _ q)⟩
  rintro σ1 H1 ⟨e1, q1⟩
  refine hm2 r σ1 H1 _ _ ?_ (hs r σ1 H1 _ q1)
  rintro σ2 H2 ⟨e2, q2⟩
  exact ⟨e2.trans e1, q2⟩
structure GM (g : TG) (vs : List Nat) : Prop where
  w : GW g vs
  m : ∀ v σ H (Q Q' : L2.St → Hp → Prop), (∀ σ H, Q σ H → Q' σ H) → g v σ H Q → g v σ H Q'
structure GMs (g : TGs) (vs : List Nat) : Prop where
  w : GWs g vs
  m : ∀ v σ H (Q Q' : L2.St → Hp → Prop), (∀ σ H, Q σ H → Q' σ H) → g v σ H Q → g v σ H Q'
theorem gm_name {i : Nat} {vs : List Nat} (h : i ∈ vs := by decide) : GM (gName i) vs := ⟨gw_name h, fun _ _ _ _ _ k q => k _ _ q⟩
theorem gm_nil {vs : List Nat} : GMs gNil vs := ⟨gw_nil, fun _ _ _ _ _ k q => ⟨q.1, k _ _ q.2⟩⟩
theorem gm_cons {g : TG} {gs : TGs} {vs : List Nat} (h : GM g vs) (hs : GMs gs vs) : GMs (gCons g gs) vs := ⟨gw_cons h.w hs.w h.m hs.m, fun _ _ _ _ _ k ⟨v, r, e, q⟩ => ⟨v, r, e, h.m _ _ _ _ _ (fun _ _ z => hs.m _ _ _ _ _ k z) q⟩⟩
theorem gm_tup {K : PySem.W.Frag} {n : Nat} {gs : TGs} {vs : List Nat} (h : GMs gs vs) : GM (gTup K n gs) vs :=
  ⟨fun _ _ _ _ ⟨a, xs, e, q1, q2, q⟩ => ⟨a, xs, e, q1, q2, h.w _ _ _ _ q⟩, fun _ _ _ _ _ k ⟨a, xs, e, q1, q2, q⟩ => ⟨a, xs, e, q1, q2, h.m _ _ _ _ _ k q⟩⟩
theorem sl_wipe {x : Fx} {α : Nat → Addr} {F : Hp} {n : Nat} {σ : L2.St} {ρ : Vr} (h : Sl x α F n σ ρ) : ∀ vs : List Nat, Sl x α F n (wipe σ vs) (wipeU ρ vs)
  | [] => h
  | v :: vs => by
    have ih := sl_wipe h vs
    rw [wipe, wipeU]
    refine ⟨by rw [List.length_set, List.length_set, ih.len], fun i u e => ?_⟩
    by_cases z : v = i
    · subst z
      by_cases hl : v < (wipeU ρ vs).length
      · rw [List.getElem?_set_self hl] at e
        cases e
      · rw [List.getElem?_eq_none (by rw [List.length_set]; omega)] at e
        cases e
    · rw [List.getElem?_set_ne z] at e ⊢
      exact ih.get i u e
section
variable {x : Fx} {W : WX} {wi : TI} {src : Vr → Store → R (List D)} {g : TG} {tg : U → Vr → Option Vr} {tt : TT} {ft : Vr → Store → R Bool} {te : TE} {fe : Vr → Store → R U} {vs : List Nat}
/-- behind the loop -/
def LcEnd (x : Fx) (α : Nat → Addr) (F : Hp) (S : Store) (m : Nat) (H : Hp) (ds : List D) (ρ : Vr) (tg : U → Vr → Option Vr) (ft : Vr → Store → R Bool) (fe : Vr → Store → R U) (Qe : Hp → Prop) : Prop :=
  ∃ S2, lcLoop m tg ft fe ρ ds S = .ok () S2 ∧ ∀ α' F' H', Ext α α' F F' S S2 → Rep x α' F' S2 H' → Qe H'
theorem fit_lcRun {k : List D → Store → Store → R U} (hk : ∀ α α' F F' S1 S2 H' acc (Dl : Addr) σ Q, α' S1.length = Dl → Ext α α' F F' S1 S2 → S1.length < S2.length → Rep x α' F' S2 H' → S2[S1.length]? = some (some acc) → Post zU x W α F S1 σ Q (k acc S1 S2) → Q (.ref Dl) H')
    (hi : FitI x W wi src) (hg : FitG x g tg) (hw : GM g vs) (ht : FitT x W0 tt ft) (he : FitE x W0 te fe) : FitE x W (tLc wi g tt te vs) (lcRun src tg ft fe vs k) := by
  intro α F ρ S σ H r0 s0 Q q
  refine hi.bind r0 s0 q fun α1 F1 S1 H1 J ds e1 r1 s1 wk p1 => ?_
  intro Dl hD
  obtain ⟨r2, e2⟩ := r1.fresh (vs := []) (ds := []) hD .nil
  have aD : (fun i => if i = S1.length then Dl else α1 i) S1.length = Dl := if_pos rfl
  generalize hα : (fun i => if i = S1.length then Dl else α1 i) = α2 at r2 e2 aD
  cases hl : lcLoop S1.length tg ft fe (wipeU ρ vs) ds (S1 ++ [some []]) with
  | exc _ _ _ => rw [hl] at p1; exact p1.elim
  | bad => rw [hl] at p1; exact p1.elim
  | ok u S2 =>
    rw [hl] at p1
    have p2 : Post zU x W α1 F1 S1 σ Q (match S2[S1.length]? with
      | some (some acc) => k acc S1 S2
      | _ => .bad) := p1
    have sw := sl_wipe s1 vs
    have ln : (S1 ++ [some ([] : List D)]).length = S1.length + 1 := by rw [List.length_append, List.length_singleton]
    refine ⟨fun i m H' => m = ds.length - i ∧ i ≤ ds.length ∧ ∃ α' F' S', Ext α2 α' F1 F' (S1 ++ [some []]) S' ∧ Rep x α' F' S' H' ∧ lcLoop S1.length tg ft fe (wipeU ρ vs) (ds.drop i) S' = .ok u S2, ⟨ds.length, rfl, Nat.zero_le _, α2, F1, S1 ++ [some []], Ext.refl _ _ _, r2, hl⟩, ?_⟩
    rintro i m H' ⟨hm, hile, α', F', S', e3, r3, l3⟩
    obtain ⟨w1, w2⟩ := wk α' F' S' H' e3.fr r3 i
    by_cases hlt : i < ds.length
    · have hd : ds[i]? = some ds[i] := List.getElem?_eq_getElem hlt
      obtain ⟨go, yl⟩ := w1 _ hd
      refine .inr ⟨go, fun H3 => i + 1 ≤ ds.length ∧ ∃ α' F' S', Ext α2 α' F1 F' (S1 ++ [some []]) S' ∧ Rep x α' F' S' H3 ∧ lcLoop S1.length tg ft fe (wipeU ρ vs) (ds.drop (i + 1)) S' = .ok u S2,
        fun H3 n => ⟨ds.length - (i + 1), by omega, rfl, n⟩, fun v H3 y => ?_⟩
      obtain ⟨F3, r4, e4, i4⟩ := yl v H3 y
      rw [drop_cons hd] at l3
      unfold lcLoop at l3
      split at l3
      · cases l3
      · rename_i ρ1 et
        have sw3 : Sl x α' F3 S'.length (wipe σ vs) (wipeU ρ vs) := ((sw.ext e2).ext e3).ext e4
        have step := hw.w v (wipe σ vs) H3 _ (hg α' F3 (wipeU ρ vs) S' (wipe σ vs) H3 v (.d ds[i]) ρ1 r4 sw3 (show Is x.K F3 v ds[i] from i4) et (fun σ' H' => H' = H3 ∧ Sl x α' F3 S'.length σ' ρ1) fun σ' s' => ⟨rfl, s'⟩)
        refine hw.m v _ H3 _ _ ?_ step
        rintro σ4 H4 ⟨e5, rfl, s4⟩
        refine ⟨by rw [e5, wipe_wipe], ?_⟩
        refine ht α' F3 ρ1 S' σ4 H4 r4 s4 _ ?_
        cases eb : ft ρ1 S' with
        | exc _ _ _ => rw [eb] at l3; cases l3
        | bad => rw [eb] at l3; cases l3
        | ok b S5 =>
          rw [eb] at l3
          intro α5 F5 H5 b' e6 r5 hb
          have hb' : b' = b := hb
          subst hb'
          cases b' with
          | false => exact ⟨hlt, α5, F5, S5, (e3.trans e4).trans e6, r5, l3⟩
          | true =>
            simp only [if_true]
            refine he α5 F5 ρ1 S5 σ4 H5 r5 (s4.ext e6) _ ?_
            have l4 : (fe ρ1 S5).bnd0 (fun u S2 => (match frz u S2 with
              | some (y, S3) => (match S3[S1.length]? with
                | some (some acc) => if acc.length < 1000000 then lcLoop S1.length tg ft fe (wipeU ρ vs) (ds.drop (i + 1)) (S3.set S1.length (some (acc ++ [y]))) else .bad
                | _ => .bad)
              | none => .bad)) = .ok u S2 := l3
            cases ee : fe ρ1 S5 with
            | exc _ _ _ => rw [ee] at l4; cases l4
            | bad => rw [ee] at l4; cases l4
            | ok w S6 =>
              rw [ee] at l4
              intro α6 F6 H6 v6 e7 r6 i6
              simp only [R.bnd0] at l4
              split at l4
              · rename_i y6 S7 hf
                obtain ⟨F7, r7, e8, j7⟩ := frz_ok r6 i6 hf
                split at l4
                · rename_i acc hacc
                  obtain ⟨c1, ws, c2, c3⟩ := r7.cell _ _ hacc
                  split at l4
                  · rename_i hz
                    have eall : Ext α2 α6 F1 F7 (S1 ++ [some []]) S7 := ((((e3.trans e4).trans e6).trans e7).trans e8)
                    have a6 : α6 S1.length = Dl := (eall.al _ (by rw [ln]; omega)).trans aD
                    obtain ⟨r8, e9⟩ := r7.write hacc (c3.append (.one j7))
                    rw [a6] at c2 r8
                    exact ⟨ws, c2, lt_line (by rw [c3.length]; exact hz), hlt, α6, F7, _, eall.trans e9, r8, l4⟩
                  · cases l4
                · cases l4
              · cases l4
    · have ei : i = ds.length := by omega
      subst ei
      rw [List.drop_length] at l3
      cases l3
      refine .inl ⟨w2 (Nat.le_refl _), ?_⟩
      have ex := e2.trans e3
      have a3 : α' S1.length = Dl := (e3.al _ (by rw [ln]; omega)).trans aD
      split at p2
      · rename_i acc hacc
        exact hk α1 α' F1 F' S1 S2 H' acc Dl σ Q a3 ex (by have := e3.len; rw [ln] at this; omega) r3 hacc p2
      · exact p2.elim
theorem take_ext {α α' : Nat → Addr} {F F' : Hp} {S S' : Store} (e : Ext α α' F F' S S') : Ext α α' F F' S (S'.take S.length) := e.cut.1
theorem fit_lc (hi : FitI x W wi src) (hg : FitG x g tg) (hw : GM g vs) (ht : FitT x W0 tt ft) (he : FitE x W0 te fe) : FitE x W (tLc wi g tt te vs) (fLc src tg ft fe vs) := by
  refine fit_lcRun (fun α α' F F' S1 S2 H' acc Dl σ Q a ex hlt r hacc p => ?_) hi hg hw ht he
  obtain ⟨F2, ws, r2, e2, h1, h2⟩ := r.freeze hacc
  have r3 := r2.cut S1.length
  have et : (S2.set S1.length none).take S1.length = S2.take S1.length := by
    rw [List.take_set_of_le (Nat.le_refl _)]
  rw [et] at r3
  have ext : Ext α α' F F2 S1 (S2.take S1.length) := by
    have e3 := ex.trans e2
    have e4 := e3.cut.1
    rw [et] at e4
    exact e4
  rw [a] at h1
  exact p α' F2 H' _ ext r3 (.lst h1 h2)
theorem fit_lcL (hi : FitI x W wi src) (hg : FitG x g tg) (hw : GM g vs) (ht : FitT x W0 tt ft) (he : FitE x W0 te fe) : FitE x W (tLc wi g tt te vs) (fLcL src tg ft fe vs) := by
  refine fit_lcRun (fun α α' F F' S1 S2 H' acc Dl σ Q a ex hlt r hacc p => ?_) hi hg hw ht he
  have r3 := r.cut (S1.length + 1)
  have ln : (S2.take (S1.length + 1)).length = S1.length + 1 := by rw [List.length_take]; omega
  exact p α' F' H' _ ⟨by rw [ln]; omega, ex.al, ex.fr⟩ r3 ⟨by rw [a], by rw [ln]; omega⟩
end

abbrev st0 : Shared := {}
structure DTs (X : Cx) (x : Fx) (W : WX) (ifs : List Expr) (t : TT) (f : Vr → Store → R Bool) : Prop where
  pt : PTs X ifs t
  fit : FitT x W t f
def fYes : Vr → Store → R Bool := fun _ S => .ok true S
section
variable {X : Cx} {x : Fx} {W : WX} {c : Expr} {t : TT} {f : Vr → Store → R Bool}
theorem dts_nil : DTs X x W [] tYes fYes := ⟨pts_nil, fun α F ρ S σ H r s Q q => q α F H true (Ext.refl _ _ _) r rfl⟩
theorem dts_one (h : DT X x W c t f) : DTs X x W [c] t f := ⟨pts_one h.pt, h.fit⟩
end
section
variable {X : Cx} {x : Fx} {W : WX} {elt tg iter : Expr} {ifs : List Expr} {scope : Scope} {own : List (Str × Nat)} {pos : Pos} {wi : TI} {src : Vr → Store → R (List D)} {g : TG} {a1 : U → Vr → Option Vr} {tt : TT} {ft : Vr → Store → R Bool} {te : TE} {fe : Vr → Store → R U}
theorem de_lc (hc : X.calm = true) (hN : X.N.Nodup) (hi : DI X x W tg iter wi src) (ok : BlkOk X.N X.env.scope scope own)
    (hg : ∀ (s : Shared) (H : Hp) (C : Addr) (cl : List (Str × Addr)) (fp : List Addr), DG (X.blk s H scope (compEnvC scope cl C X.env) fp) x tg g a1) (hw : GM g (own.map (·.2)))
    (ht : ∀ (s : Shared) (H : Hp) (C : Addr) (cl : List (Str × Addr)) (fp : List Addr), DTs (X.blk s H scope (compEnvC scope cl C X.env) fp) x W0 ifs tt ft)
    (he : ∀ (s : Shared) (H : Hp) (C : Addr) (cl : List (Str × Addr)) (fp : List Addr), DE (X.blk s H scope (compEnvC scope cl C X.env) fp) x W0 elt te fe) (hs : ∀ y, foldedSetIterable iter X.env y = pure y := by intro _; rfl) :
    DE X x W (.ListComp elt [⟨tg, iter, ifs, 0⟩] scope pos) (tLc wi g tt te (own.map (·.2))) (fLc src a1 ft fe (own.map (·.2))) :=
  ⟨pe_lc hc hN hi.pi ok (fun s H C cl fp => (hg s H C cl fp).pg) (fun s H C cl fp => (ht s H C cl fp).pt) (fun s H C cl fp => (he s H C cl fp).pe) hs, fit_lc hi.fit (hg st0 (fun _ => none) 0 [] []).fit hw (ht st0 (fun _ => none) 0 [] []).fit (he st0 (fun _ => none) 0 [] []).fit⟩
theorem de_lcL (hc : X.calm = true) (hN : X.N.Nodup) (hi : DI X x W tg iter wi src) (ok : BlkOk X.N X.env.scope scope own)
    (hg : ∀ (s : Shared) (H : Hp) (C : Addr) (cl : List (Str × Addr)) (fp : List Addr), DG (X.blk s H scope (compEnvC scope cl C X.env) fp) x tg g a1) (hw : GM g (own.map (·.2)))
    (ht : ∀ (s : Shared) (H : Hp) (C : Addr) (cl : List (Str × Addr)) (fp : List Addr), DTs (X.blk s H scope (compEnvC scope cl C X.env) fp) x W0 ifs tt ft)
    (he : ∀ (s : Shared) (H : Hp) (C : Addr) (cl : List (Str × Addr)) (fp : List Addr), DE (X.blk s H scope (compEnvC scope cl C X.env) fp) x W0 elt te fe) (hs : ∀ y, foldedSetIterable iter X.env y = pure y := by intro _; rfl) :
    DE X x W (.ListComp elt [⟨tg, iter, ifs, 0⟩] scope pos) (tLc wi g tt te (own.map (·.2))) (fLcL src a1 ft fe (own.map (·.2))) :=
  ⟨pe_lc hc hN hi.pi ok (fun s H C cl fp => (hg s H C cl fp).pg) (fun s H C cl fp => (ht s H C cl fp).pt) (fun s H C cl fp => (he s H C cl fp).pe) hs, fit_lcL hi.fit (hg st0 (fun _ => none) 0 [] []).fit hw (ht st0 (fun _ => none) 0 [] []).fit (he st0 (fun _ => none) 0 [] []).fit⟩
/-- y = [..], y a local, on one line -/
theorem ds_setLc {i : Nat} {y : Str} {py spos : Pos} (hc : X.calm = true) (hN : X.N.Nodup) (hi : DI X x W tg iter wi src) (ok : BlkOk X.N X.env.scope scope own)
    (hg : ∀ (s : Shared) (H : Hp) (C : Addr) (cl : List (Str × Addr)) (fp : List Addr), DG (X.blk s H scope (compEnvC scope cl C X.env) fp) x tg g a1) (hw : GM g (own.map (·.2)))
    (ht : ∀ (s : Shared) (H : Hp) (C : Addr) (cl : List (Str × Addr)) (fp : List Addr), DTs (X.blk s H scope (compEnvC scope cl C X.env) fp) x W0 ifs tt ft)
    (he : ∀ (s : Shared) (H : Hp) (C : Addr) (cl : List (Str × Addr)) (fp : List Addr), DE (X.blk s H scope (compEnvC scope cl C X.env) fp) x W0 elt te fe)
    (hy : X.N[i]? = some y := by rfl) (hyl : X.env.scope.names.lookup y = some .local := by rfl) (hsw : swapsWith (.ListComp elt [⟨tg, iter, ifs, 0⟩] scope pos) (some (.Name y py)) spos.line X.env = pure true := by exact sw_true rfl rfl rfl (by decide +kernel))
    (hs : ∀ y, foldedSetIterable iter X.env y = pure y := by intro _; rfl) :
    DS X x W (.Assign [.Name y py] (.ListComp elt [⟨tg, iter, ifs, 0⟩] scope pos) spos) (tAsg (tLc wi g tt te (own.map (·.2))) (gName i)) (gSet i (fLc src a1 ft fe (own.map (·.2)))) :=
  ⟨ps_setLc hc hN hy hyl hsw hi.pi ok (fun s H C cl fp => (hg s H C cl fp).pg) (fun s H C cl fp => (ht s H C cl fp).pt) (fun s H C cl fp => (he s H C cl fp).pe) hs, fits_set i (fit_lc hi.fit (hg st0 (fun _ => none) 0 [] []).fit hw (ht st0 (fun _ => none) 0 [] []).fit (he st0 (fun _ => none) 0 [] []).fit)⟩
theorem ds_setLcL {i : Nat} {y : Str} {py spos : Pos} (hc : X.calm = true) (hN : X.N.Nodup) (hi : DI X x W tg iter wi src) (ok : BlkOk X.N X.env.scope scope own)
    (hg : ∀ (s : Shared) (H : Hp) (C : Addr) (cl : List (Str × Addr)) (fp : List Addr), DG (X.blk s H scope (compEnvC scope cl C X.env) fp) x tg g a1) (hw : GM g (own.map (·.2)))
    (ht : ∀ (s : Shared) (H : Hp) (C : Addr) (cl : List (Str × Addr)) (fp : List Addr), DTs (X.blk s H scope (compEnvC scope cl C X.env) fp) x W0 ifs tt ft)
    (he : ∀ (s : Shared) (H : Hp) (C : Addr) (cl : List (Str × Addr)) (fp : List Addr), DE (X.blk s H scope (compEnvC scope cl C X.env) fp) x W0 elt te fe)
    (hy : X.N[i]? = some y := by rfl) (hyl : X.env.scope.names.lookup y = some .local := by rfl) (hsw : swapsWith (.ListComp elt [⟨tg, iter, ifs, 0⟩] scope pos) (some (.Name y py)) spos.line X.env = pure true := by exact sw_true rfl rfl rfl (by decide +kernel))
    (hs : ∀ y, foldedSetIterable iter X.env y = pure y := by intro _; rfl) :
    DS X x W (.Assign [.Name y py] (.ListComp elt [⟨tg, iter, ifs, 0⟩] scope pos) spos) (tAsg (tLc wi g tt te (own.map (·.2))) (gName i)) (gSet i (fLcL src a1 ft fe (own.map (·.2)))) :=
  ⟨ps_setLc hc hN hy hyl hsw hi.pi ok (fun s H C cl fp => (hg s H C cl fp).pg) (fun s H C cl fp => (ht s H C cl fp).pt) (fun s H C cl fp => (he s H C cl fp).pe) hs, fits_set i (fit_lcL hi.fit (hg st0 (fun _ => none) 0 [] []).fit hw (ht st0 (fun _ => none) 0 [] []).fit (he st0 (fun _ => none) 0 [] []).fit)⟩
end
/-! ### stores into a list -/
def uSetL (u w z : U) (S : Store) : Option Store := match u, w with
  | .loc l, .d (.int i) => (match frz z S with
    | some (y, S1) => (match S1[l]? with
      | some (some ds) => (match ixN ds.length i with
        | some j => some (S1.set l (some (ds.set j y)))
        | none => none)
      | _ => none)
    | none => none)
  | _, _ => none
@[simp] def gSetIx (fo fi fe : Vr → Store → R U) : Vr → Store → O := fun ρ S => (fe ρ S).st ρ fun z S1 => (fo ρ S1).st ρ fun u S2 => (fi ρ S2).st ρ fun w S3 => match uSetL u w z S3 with
  | some S4 => .nx ρ S4
  | none => .bad
section
variable {X : Cx} {x : Fx} {W : WX} {o i e : Expr} {to ti te : TE} {fo fi fe : Vr → Store → R U} {p pos : Pos}
theorem fits_setIx (he : FitE x W te fe) (ho : FitE x W to fo) (hi : FitE x W ti fi) : FitS x W (tAsg te (gSub to ti rSetL)) (gSetIx fo fi fe) := by
  intro α F ρ S σ H r s D q
  refine he.st r s q fun α1 F1 S1 H1 v z e1 r1 s1 i1 p1 => ?_
  refine ho.st r1 s1 p1 fun α2 F2 S2 H2 vo u e2 r2 s2 i2 p2 => ?_
  refine hi.st r2 s2 p2 fun α3 F3 S3 H3 vi w e3 r3 s3 i3 p3 => ?_
  split at p3
  · rename_i S4 hs
    unfold uSetL at hs
    split at hs
    · rename_i l j
      split at hs
      · rename_i y S5 hf
        obtain ⟨F5, r5, e5, j5⟩ := frz_ok r3 (IsU.ext e3 (IsU.ext e2 i1)) hf
        split at hs
        · rename_i ds hl
          split at hs
          · rename_i k hk
            cases hs
            obtain ⟨c1, ws, c2, c3⟩ := r5.cell l ds hl
            obtain ⟨rfl, _⟩ := is_loc i2
            obtain ⟨r6, e6⟩ := r5.write hl (c3.set k j5)
            have al : α3 l = α2 l := e3.al l (by have := (is_loc i2).2; exact this)
            rw [is_int i3]
            rw [al] at c2 r6
            exact ⟨_, ws, j, k, rfl, rfl, c2, by rw [c3.length]; exact hk, p3 _ _ _ _ (e5.trans e6) r6 (s3.ext (e5.trans e6))⟩
          · cases hs
        · cases hs
      · cases hs
    · cases hs
  · exact p3.elim
theorem ds_setIx (he : DE X x W e te fe) (ho : DE X x W o to fo) (hi : DE X x W i ti fi) (hs : swapsWithSole [.Subscript o i p] e pos.line X.env = pure false := by rfl) (hw : swappedStores [.Subscript o i p] e X.env = pure none := by rfl)
    (h1 : (assignEach [.Subscript o i p] X.env).map (·.2) = [assign (.Subscript o i p) X.env] := by rfl)
    (ha : ∀ v, assign (.Subscript o i p) X.env v = (do
      let ov ← holding [v] (eval o X.env)
      let iv ← holding [v, ov] (eval i X.env)
      standAt p
      holding [v, ov, iv] (setItem ov iv v)
      release [v, ov, iv] []) := by intro _; rfl) : DS X x W (.Assign [.Subscript o i p] e pos) (tAsg te (gSub to ti rSetL)) (gSetIx fo fi fe) :=
  ⟨ps_asg he.pe (pg_sub ho.pe hi.pe set_list ha) hs hw h1, fits_setIx he.fit ho.fit hi.fit⟩
end
/-! ### defs, calls, raises -/
/-- the def x keeps the mirror m, by at most k calls, one in another -/
structure Def (P : Program) (w : World) (K : PySem.W.Frag) (mg : Str → Option Value) (base : Heap) (x : Fx) (f : Str) (np k : Nat) (m : List U → Store → R U) : Prop where
  ok : ∃ (a : Addr) (fd : FuncData) (ps : List Str), FnOk P w K mg base (L2N.CX P w) k a fd ps (spOf x np m) ∧ ps.length = np ∧ Binds K fd ps [] ∧ PySem.W.keepIn K (.ref a) = true ∧ mg f = some (.ref a)
theorem spOf_len {x : Fx} {np : Nat} {m : List U → Store → R U} (vs : List V) (H : Hp) (Q : VK) (E : XK) (h : spOf x np m vs H Q E) : vs.length = np := by
  obtain ⟨_, _, _, _, h, _⟩ := h
  exact h
theorem spOf_fx {x y : Fx} {np : Nat} {m : List U → Store → R U} (h : x = y) : spOf x np m = spOf y np m := by rw [h]
section
variable {X : Cx} {x : Fx} {W : WX} {e : Expr} {es : List Expr} {ts : TA} {fs : Vr → Store → R (List U)} {n k j : Nat} {m : List U → Store → R U} {y : Str} {p pos : Pos}
theorem de_call (G : Def X.prog X.w X.K X.mg X.base x y n k m) (hr : Room j X.A) (hkj : k ≤ j) (tk : L2N.Takes X W) (ha : DA X x W (e :: es) ts fs n) (hg : Gl X y := by rfl) (hdb : (y == ("__debug__" : Str)) = false := by decide)
    (he : starEach (e :: es) X.env = (false, eval e X.env) :: starEach es X.env := by rfl) (hpl : (backTo pos (starEach es X.env)).any (·.1) = false := by rfl) : DE X x W (.Call (.Name y p) (e :: es) [] pos) (tCallSD (spOf x n m) [] (WE W) ts) (fCall m fs) := by
  obtain ⟨a, fd, ps, F, hl, hb, hk, hm⟩ := G.ok
  exact ⟨pe_callSD F (hr.mono hkj) hg hm hk hb .nil (fun σ => L2N.passAt tk σ) ha.pa hdb he hpl, fit_call ha.fit ha.len⟩
end
section
variable {P : Program} {w : World} {K : PySem.W.Frag} {mg : Str → Option Value} {base : Heap}
theorem takesF {P : Program} {w : World} {K : PySem.W.Frag} {mg : Str → Option Value} {base : Heap} {N : List Str} {qual : Str} {scope : Scope} {f : Addr} {cd : Value} {A : Around} {outer : List Env} {s : Shared} {H : Hp} {E : XK} :
    L2N.Takes (cxOf (L2N.CX P w) P w K mg base N qual scope f cd A outer s H E) (fun c d _ H => E c d H) := L2N.takes_of rfl rfl rfl rfl
/-- THE RULE for a def -/
theorem def_ok {f : Str} {params : Arguments} {body : List Stmt} {scope : Scope} {a : Addr} {fd : FuncData} {N ps : List Str} {k : Nat} {g : Vr → Store → O} {T : Tb} (F : FunD K f f params body scope [] [] a fd) (hm : mg f = some (.ref a)) (S : FnScope N ps scope)
    (hb : ∀ (kV doc pm : Value) (an : Option Addr) (cdv ct : Value) (us : List Value), us.length = ps.length → bindArgs (PySem.W.fnOf f f params body scope .none kV doc pm an cdv ct) ⟨us, []⟩ = pure (ps.zip us))
    (hbody : ∀ (cdv : Value) (A : Around) (outer : List Env) (s : Shared) (H : Hp) (E : XK), Room k (A.deeper (envOfC f scope s.heap.objs.size a cdv)) →
      ∃ t, DB (cxOf (L2N.CX P w) P w K mg base N f scope a cdv A outer s H E) { K := K, mg := mg, T := T } (fun c d _ H => E c d H) body t g) :
    Def P w K mg base { K := K, mg := mg, T := T } f ps.length (k + 1) (runD N.length g) := by
  refine ⟨a, fd, ps, F.ok S (fun vs H Q E h => spOf_len vs H Q E h) (fun cdv A outer s H vs Q E hr h => ?_), rfl, F.bindsN hb, F.kp, hm⟩
  obtain ⟨t, d⟩ := hbody cdv A outer s H E hr
  exact ⟨t, d.ps, body_ok d.fit h⟩
theorem Def.mono {x : Fx} {f : Str} {np j k : Nat} {m : List U → Store → R U} (h : Def P w K mg base x f np j m) (l : j ≤ k) : Def P w K mg base x f np k m := by
  obtain ⟨a, fd, ps, F, h1, h2, h3, h4⟩ := h.ok
  exact ⟨a, fd, ps, F.mono l, h1, h2, h3, h4⟩
end
end Z

/-! Z9: raise; try .. except as; a lambda handed to a def. -/
namespace Z
open PySem PySem.Spec PyProof.Rows L2
/-! ### raise -/
def spInit (K : PySem.W.Frag) : Sp := fun vs H Q _ => ∃ (a C : Addr) (v : V), vs = [.ref a, v] ∧ H a = some (exo a C none) ∧ (OexC K C ∧ PySem.W.findIn K (.ref C) "what" = some none) ∧ ∀ d, H d = none → d ≠ a → Q .non (upd (upd H d (exd d [(("what" : Str), v)])) a (exo a C (some d)))
/-- a class whose exceptions are made by an __init__ that stores what alone -/
structure Raiser (P : Program) (w : World) (K : PySem.W.Frag) (mg : Str → Option Value) (base : Heap) (c : Str) (C : Addr) : Prop where
  hm : mg c = some (.ref C)
  T : OexC K C
  hw : PySem.W.findIn K (.ref C) "what" = some none
  F : ∃ (fI : Addr) (fd : FuncData), PySem.W.findIn K (.ref C) "__init__" = some (some (.ref fI)) ∧ PySem.W.typeIn K (.ref fI) = some (.type "function") ∧ FnOk P w K mg base CX0 1 fI fd ["self", "what"] (spInit K) ∧ Binds K fd ["self", "what"] []
@[simp] def gRaise (c : Str) (fs : Vr → Store → R (List U)) : Vr → Store → O := fun ρ S => (fs ρ S).st ρ fun us S1 => match us with
  | [u] => (match frz u S1 with
    | some (y, S2) => .exc c y ρ S2
    | none => .bad)
  | _ => .bad
theorem pmk_oexN {X : Cx} {CX : CXT} {y : Str} {e : Expr} {es : List Expr} {ta : TA} {p pos : Pos} {C fI : Addr} {k : Nat} {fd : FuncData} {ps : List Str} {sp : Sp} (T : OexC X.K C) (iC : PySem.W.findIn X.K (.ref C) "__init__" = some (some (.ref fI))) (tI : PySem.W.typeIn X.K (.ref fI) = some (.type "function"))
    (F1 : FnOk X.prog X.w X.K X.mg X.base CX k fI fd ps sp) (hr : Room (k + 1) X.A) (hb : Binds X.K fd ps []) (hx : Passes CX X (fun _ _ _ => False)) (hg : Gl X y) (hm : X.mg y = some (.ref C)) (ha : PA X (e :: es) ta)
    (hdb : (y == ("__debug__" : Str)) = false) (he : starEach (e :: es) X.env = (false, eval e X.env) :: starEach es X.env) (hpl : (backTo pos (starEach es X.env)).any (·.1) = false) :
    L2N.PMk X (.Call (.Name y p) (e :: es) [] pos) (tMkO C sp [] ta) := by
  intro pins s σ H Q I h
  obtain ⟨nm, q, N, bs, bm, sn, sub, ab, col, dd, k0, k1, k2, k3, k5, hC, hbm⟩ := T.cls
  refine wpAny_Call_Name_kw (ld_glob I hg hm ?_ hdb)
  refine PySem.W.callWith_K (h₀ := X.base) I.ok.mod.kin T.kC (thn (ha.run pos pins s σ H _ I h) fun us s1 ⟨vs, H1, I1, r1, hz, q1⟩ => ⟨I1.kIn, ?_⟩) he hpl
  show wpAny _ _ (call (.ref C) us) _ _ _
  obtain ⟨hp, g, dr, tk, os⟩ := s1
  have hsz : hp.objs.size ≤ hp.objs.size + 1 := Nat.le_succ _
  have hn : H1 (hp.objs.size + 1) = none := I1.hok.fresh hsz
  have hq := q1 (hp.objs.size + 1) hn
  rw [List.append_nil] at hq
  have kk : ∀ b o, hp.get? b = some o → ((hp.push (PySem.W.kdv_tup us)).push (PySem.HandSPX.excO C hp.objs.size)).get? b = some o := fun b o e => Heap.get?_push_of_some _ (Heap.get?_push_of_some _ e)
  have hget : ((hp.push (PySem.W.kdv_tup us)).push (PySem.HandSPX.excO C hp.objs.size)).get? (hp.objs.size + 1) = some (PySem.HandSPX.excO C hp.objs.size) := by heap_get
  have I2 : Inv X pins σ (upd H1 (hp.objs.size + 1) (exo (hp.objs.size + 1) C none)) ⟨(hp.push (PySem.W.kdv_tup us)).push (PySem.HandSPX.excO C hp.objs.size), g, dr, tk, os⟩ :=
    I1.laid (t' := tk) (a := hp.objs.size + 1) (o := exo (hp.objs.size + 1) C none) (h' := (hp.push (PySem.W.kdv_tup us)).push (PySem.HandSPX.excO C hp.objs.size)) kk hsz (exo_ok hget)
  have r2 : Vals (V.ref (hp.objs.size + 1) :: vs) (Value.ref (hp.objs.size + 1) :: us) := .cons rfl r1
  have hl : (Value.ref (hp.objs.size + 1) :: us ++ []).length = ps.length := by
    have e := r2.length
    rw [F1.len _ _ _ _ hq] at e
    rw [List.append_nil]
    exact e.symm
  have hus : us.length ≤ sizeLine := by
    rw [← Paired.length r1, sizeLine_eq]
    omega
  have b2 := hb _ (Value.ref (hp.objs.size + 1) :: us) I2.kIn hl
  rw [List.append_nil] at b2
  refine wpAny_call (PySem.HandSPX.call_own F.excBase_ValueError (fun Y => PySem.HandSPX.refsVE_contains Y bm hbm) (I1.kIn _ _ hC) (PySem.W.looks_findIn I1.kIn iC) (fun self => PySem.W.bind_fn I1.kIn self tI) hus
    (codeAny_mono (F1.run _ X.stack _ _ ⟨Value.ref (hp.objs.size + 1) :: us, []⟩ (Value.ref (hp.objs.size + 1) :: us) _ _ (fun _ _ _ => False) (hr.make C us []) (I2.env0.make C us []) b2 r2 hq) fun r s' hq' => ?_))
  cases r with
  | error er => exact hx pins σ _ _ er s' I2 hq'
  | ok fl =>
    cases fl with
    | ret u =>
      obtain ⟨v, H2, os2, bare2, un2, hok2, rv, ev, d, fs, ea, ed, hd1, q2⟩ := hq'
      subst ev
      obtain ⟨h2, g2, d2, t2, os'⟩ := s'
      obtain ⟨t0, G, J, kG, ge, hoe, na⟩ := mk_end0 (d2 := d2) (t2 := t2) I1 hsz kk un2 hok2 os2 bare2 ea ed hd1
      refine ⟨rv, ⟨hp.objs.size + 1, _, _, ⟨G, g2, d2, t2, os'⟩, _, .ref C, some d, rfl, J, kG, ge, hoe, ⟨rfl, rfl, fun vs hv => ?_⟩, rfl, rfl, na, rfl, bare2, raises_own T.exC T.tyC, q2⟩⟩
      cases hv
      rfl
    | next => exact False.elim hq'
    | brk => exact False.elim hq'
    | cont => exact False.elim hq'
section
variable {X : Cx} {x : Fx} {W : WX} {e : Expr} {ts : TA} {fs : Vr → Store → R (List U)} {c : Str} {p pos pos' : Pos}
theorem ds_raise {C : Addr} (hx : x.mg = X.mg) (hK : x.K = X.K) (R : Raiser X.prog X.w X.K X.mg X.base c C) (hr : Room 2 X.A) (hc : X.calm = true) (tk : L2N.Takes X W) (ha : DA X x W [e] ts fs 1) (hg : Gl X c := by rfl) (hdb : (c == ("__debug__" : Str)) = false := by decide)
    (he : starEach (e :: []) X.env = (false, eval e X.env) :: starEach [] X.env := by rfl) (hpl : (backTo pos' (starEach [] X.env)).any (·.1) = false := by rfl) : DS X x W (.Raise (some (.Call (.Name c p) [e] [] pos')) none pos) (fun _ σ H => tMkO C (spInit X.K) [] ts σ H fun cls d H' => W cls d σ H') (gRaise c fs) := by
  obtain ⟨hm, T, hw, fI, fd, iC, tI, F, hb⟩ := R
  refine ⟨L2N.ps_raise hc tk (pmk_oexN T iC tI F hr hb pass0 hg hm ha.pa hdb he hpl), ?_⟩
  intro α F ρ S σ H r s D q
  refine ha.fit.st r s q fun α1 F1 S1 H1 vs us e1 r1 s1 i1 p1 => ?_
  split at p1
  · rename_i u
    obtain ⟨v, rfl, i2⟩ := us1 i1
    split at p1
    · rename_i y S2 hf
      obtain ⟨F2, r2, e2, j2⟩ := frz_ok r1 i2 hf
      refine ⟨by show 1 ≤ 1000; decide, fun a hna => ⟨a, C, v, rfl, upd_same, ⟨T, hw⟩, fun d hd hda => ⟨rfl, d, _, upd_same, by rw [upd_ne hda, upd_same], ?_, ?_⟩⟩⟩
      · rw [upd_ne hda] at hd
        exact hd
      · rw [upd_ne hda] at hd
        have eH : upd (del (upd (upd (upd H1 a (exo a C none)) d (exd d [(("what" : Str), v)])) a (exo a C (some d))) a) d (.xd [(("what" : Str), v)]) = upd H1 d (.xd [(("what" : Str), v)]) := by
          funext b
          by_cases hbd : b = d
          · rw [hbd, upd_same, upd_same]
          · rw [upd_ne hbd, upd_ne hbd]
            by_cases hba : b = a
            · rw [hba, del_same, hna]
            · rw [del_ne hba, upd_ne hba, upd_ne hbd, upd_ne hba]
        rw [eH]
        obtain ⟨r3, e3⟩ := r2.frozen (o := .xd [(("what" : Str), v)]) hd
        exact p1 α1 _ _ σ C d v _ (e2.trans e3) r3 (s1.ext (e2.trans e3)) (by rw [hx]; exact hm) upd_same (by simp [List.lookup]) (Is.mono e3.fr _ _ j2)
    · exact p1.elim
  · exact p1.elim
/-- __init__(self, what): ValueError.__init__(self, what); self.what = what -/
theorem init_body {P : Program} {w : World} {K : PySem.W.Frag} {mg : Str → Option Value} {base : Heap} {params : Arguments} {body : List Stmt} {scope : Scope} {a : Addr} {fd : FuncData} {q : Str} (F : FunD K "__init__" q params body scope [] [] a fd) (S : FnScope ["self", "what"] ["self", "what"] scope)
    (hb : ∀ (cdv : Value) (A : Around) (outer : List Env) (s : Shared) (H : Hp) (E : XK), PSs (cxOf CX0 P w K mg base ["self", "what"] q scope a cdv A outer s H E) body (tSeq (tDrop (tVeI K (tCons (tVar 0) (tCons (tVar 1) tNil)))) (tOst K "what" (tVar 0) (tVar 1)))) :
    FnOk P w K mg base CX0 1 a fd ["self", "what"] (spInit K) := by
  refine F.ok S (fun vs H Q E h => ?_) (fun cdv A outer s H vs Q E hr h => ⟨_, hb cdv A outer s H E, ?_⟩)
  · obtain ⟨a, C, v, rfl, _⟩ := h
    rfl
  · obtain ⟨b, C, v, rfl, h1, ⟨T, hw⟩, h2⟩ := h
    exact ⟨.ref b, rfl, v, rfl, b, C, [v], rfl, by show 1 ≤ 1000; decide, T, h1, v, rfl, .ref b, rfl, b, C, rfl, T, hw, .inl ⟨h1, fun dx n ne => h2 dx n ne⟩⟩
end
/-! ### try .. except .. as -/
def xS (x : Fx) (a : Addr) (c : Str) (dd : Addr) : Fx := { x with exc := fun a' c' d' => a' = a ∧ c' = c ∧ d' = dd }
section
variable {x : Fx} {α : Nat → Addr} {F : Hp} {S : Store} {H : Hp} {σ : L2.St} {ρ : Vr} {n : Nat} {a dd : Addr} {c : Str} {v : V} {u : U}
theorem Rep.xS (r : Rep x α F S H) : Rep (Z.xS x a c dd) α F S H := ⟨r.le, r.inj, r.cell, r.old, r.tabs, r.tabF⟩
theorem Rep.unxS (r : Rep (Z.xS x a c dd) α F S H) : Rep x α F S H := ⟨r.le, r.inj, r.cell, r.old, r.tabs, r.tabF⟩
theorem IsV.xS (h0 : ∀ a c d, ¬ x.exc a c d) (h : IsV x α F n v u) : IsV (Z.xS x a c dd) α F n v u := by
  cases u with
  | ex c y =>
    obtain ⟨a', d', fs, w, e1, e2, _⟩ := h
    exact (h0 _ _ _ e2).elim
  | _ => exact h
theorem IsU.xS (h0 : ∀ a c d, ¬ x.exc a c d) (h : IsU x α F n v u) : IsU (Z.xS x a c dd) α F n v u := by
  cases u with
  | thk =>
    obtain ⟨h1, h2, h3, h4⟩ := h
    exact ⟨h1, h2, h3, fun i u e => by
      obtain ⟨v', e1, e2⟩ := h4 i u e
      exact ⟨v', e1, IsV.xS h0 e2⟩⟩
  | d y => exact h
  | loc l => exact h
  | rd ds => exact h
  | adr b => exact h
  | ty T => exact h
  | cls k => exact h
  | ex k y => exact IsV.xS (x := x) (α := α) (F := F) (n := n) (a := a) (c := c) (dd := dd) (u := .ex k y) h0 h
theorem Sl.xS (h0 : ∀ a c d, ¬ x.exc a c d) (s : Sl x α F n σ ρ) : Sl (Z.xS x a c dd) α F n σ ρ := ⟨s.len, fun i u e => by
  obtain ⟨v, e1, e2⟩ := s.get i u e
  exact ⟨v, e1, e2.xS h0⟩⟩
end
def gTry (cs : List Str) (i : Nat) (gb gs : Vr → Store → O) : Vr → Store → O := fun ρ S => match gb ρ S with
  | .exc c y ρ1 S1 => if c ∈ cs then (match gs (ρ1.set i (some (.ex c y))) S1 with
      | .rt (.d u) S2 => .rt (.d u) S2
      | _ => .bad) else .bad
  | o => o
def tsA (mg : Str → Option Value) (cs : List Str) (ts : Addr → Str → Addr → Addr → TS) : Addr → Value → Option Addr → TS := fun a cls d D σ H =>
  ∃ c C dd, cls = .ref C ∧ d = some dd ∧ c ∈ cs ∧ mg c = some (.ref C) ∧ ts a c C dd D σ H
section
variable {X : Cx} {x : Fx} {W : WX} {R n : Str} {cv : Value} {i : Nat} {body suite : List Stmt} {b₀ : Stmt} {np pos pos' : Pos} {tb : WX → TS} {ts : Addr → Str → Addr → Addr → TS} {gb gs : Vr → Store → O} {cs : List Str}
/-- a wish that is met whatever comes -/
theorem takes_look (hs : X.stack = X.env :: X.outer) (hf : X.env.frame = some X.env.locals) (W' : WX) :
    L2N.Takes (X.tr [] fun e s₁ => wpAny (model X.prog X.w) X.A (noteFrame e X.env) (fun _ s₂ => wpAny (model X.prog X.w) X.A (setFlight e none) (fun _ _ => True) (fun _ _ => True) s₂) (fun _ _ => True) s₁) W' := fun u s' xx => by
  obtain ⟨a, B, sI, pins', σ', H', cls, d, rfl, J', nb, up, sky, na, os, ag, w⟩ := xx
  have hfr : X.A.frames = some (X.env :: X.outer) := by
    have := J'.ok.frames
    rw [show (X.tr [] _).stack = X.env :: X.outer from hs] at this
    exact this
  have sky' : Sky B (X.env :: X.outer) a (L2N.Zn cls d) X.env.locals s'.heap := by rw [← hs]; exact sky
  exact L2N.Sky.land L2N.Zn.steady hfr hf sky' fun _ _ _ => True.intro
theorem ds_try_as (hK : x.mg = X.mg) (h0 : ∀ a c d, ¬ x.exc a c d) (hs : X.stack = X.env :: X.outer) (hf : X.env.frame = some X.env.locals) (hN : X.N.Nodup) (hc : Names X R cv) (tk : L2N.Takes X W)
    (hcs : ∀ c ∈ cs, ∀ C, x.mg c = some (.ref C) → PySem.W.exmOne X.K (.ref C) cv = some true)
    (hb : ∀ (W' : WX) (pn : List (Addr × Obj)) (xe : Value → Shared → Prop), L2N.Takes (X.tr pn xe) W' → PassesOwn (model X.prog X.w) X.A X.env xe → DB (X.tr pn xe) x W' body (tb W') gb)
    (hsu : ∀ (a : Addr) (oe : Obj) (c : Str) (C dd : Addr) (pn : List (Addr × Obj)), L2N.Zn (.ref C) (some dd) oe → (∃ vs, oe.data = .fields vs) → c ∈ cs → x.mg c = some (.ref C) → DB (X.suite a ((a, oe) :: pn)) (xS x a c dd) W0 (b₀ :: suite) (ts a c C dd) gs)
    (hi : X.N[i]? = some n := by rfl) (hln : X.env.kindOf n = some .local := by rfl) :
    DS X x W (.Try body [.ExceptHandler (some (.Name R np)) (some n) (b₀ :: suite) pos'] [] [] pos) (fun D σ H => tb (wAs X.K cv i (tsA x.mg cs ts) W D) D σ H) (gTry cs i gb gs) := by
  refine ⟨L2N.ps_try_as hs hf hN hi hln hc tk (fun W' pn xe t1 t2 => (hb W' pn xe t1 t2).ps) fun a oe cls d pn hz hfl => ?_, ?_⟩
  · refine ⟨fun pins s σ H D I h => ?_⟩
    obtain ⟨c, C, dd, rfl, rfl, hcs', hm, h⟩ := h
    exact (hsu a oe c C dd pn hz hfl hcs' hm).ps.run pins s σ H D I h
  · intro α F ρ S σ H r s D p
    have fb := (hb (wAs X.K cv i (tsA x.mg cs ts) W D) [] _ (takes_look hs hf _) PassesOwn.looking).fit
    refine fb α F ρ S σ H r s D ?_
    unfold gTry at p
    cases e : gb ρ S with
    | exc c y ρ1 S1 =>
      rw [e] at p
      dsimp only at p
      split at p
      · rename_i hcc
        intro α' F' H' σ' C dd v fs e1 r1 s1 hm hd hl hv
        refine ⟨true, hcs c hcc C hm, fun _ a ha => ?_, fun z => nomatch z⟩
        refine ⟨c, C, dd, rfl, rfl, hcc, hm, ?_⟩
        have fs' := (hsu a { cls := .ref C, dict := some dd, data := .fields #[.none, .none, .none] } c C dd [] ⟨rfl, rfl, fun vs e => by cases e; rfl⟩ ⟨_, rfl⟩ hcc hm).fit
        refine fs' α' F' (ρ1.set i (some (.ex c y))) S1 (σ'.set i (some (.ref a))) H' r1.xS ((s1.xS h0).set i (u := .ex c y) ⟨a, dd, fs, v, rfl, ⟨rfl, rfl, rfl⟩, hd, hl, hv⟩) _ ?_
        cases e2 : gs (ρ1.set i (some (.ex c y))) S1 with
        | rt u S2 =>
          rw [e2] at p
          cases u with
          | d u => exact fun α2 F2 H2 v2 e3 r3 q => p α2 F2 H2 v2 (e1.trans e3) r3.unxS q
          | _ => exact p.elim
        | _ => rw [e2] at p; exact p.elim
      · exact p.elim
    | _ => rw [e] at p; exact p
end
/-- a try whose body never raises -/
@[simp] def gTry0 (gb : Vr → Store → O) : Vr → Store → O := fun ρ S => match gb ρ S with
  | .exc _ _ _ _ => .bad
  | o => o
section
variable {X : Cx} {x : Fx} {W : WX} {R : Str} {cv : Value} {body suite : List Stmt} {b₀ : Stmt} {np pos pos' : Pos} {tb : TS} {gb gs : Vr → Store → O} {ts : TS}
theorem takes0N {X : Cx} : L2N.Takes X (fun _ _ _ _ => False) := fun _ _ x => by
  obtain ⟨_, _, _, _, _, _, _, _, _, _, _, _, _, _, _, _, z⟩ := x
  exact z.elim
theorem ds_try0 (hs : X.stack = X.env :: X.outer) (hf : X.env.frame = some X.env.locals) (hc : Names X R cv)
    (hb : ∀ (pn : List (Addr × Obj)) (xe : Value → Shared → Prop), PassesOwn (model X.prog X.w) X.A X.env xe → DB (X.tr pn xe) x W0 body tb gb)
    (hsu : ∀ (a : Addr) (oe : Obj) (pn : List (Addr × Obj)), PSs (X.suite a ((a, oe) :: pn)) (b₀ :: suite) ts) :
    DS X x W (.Try body [.ExceptHandler (some (.Name R np)) none (b₀ :: suite) pos'] [] [] pos) tb (gTry0 gb) := by
  refine ⟨ps_try_only (tb := fun W' D σ H => tb D σ H) (ts := fun _ _ _ => ts) (Wout := W0) hs hf hc LamX.takes0 (fun W' pn xe t1 t2 => (hb pn xe t2).ps) (fun a oe cls d pn _ _ => hsu a oe pn), ?_⟩
  intro α F ρ S σ H r s D p
  have fb := (hb [] _ (PassesOwn.looking (K := fun _ _ => True) (E₁ := fun _ _ => True))).fit
  refine fb α F ρ S σ H r s D ?_
  unfold gTry0 at p
  cases e : gb ρ S with
  | exc c y ρ1 S1 => rw [e] at p; exact p.elim
  | _ => rw [e] at p; exact p
end
/-! ### within the suite -/
def rIsD (K : PySem.W.Frag) (D a dd : Addr) : List V → Hp → VK → Prop := fun xs H Q => ∃ (c : V) (cv : Value) (b : Bool) (fs : List (Str × V)), H dd = some (.xd fs) ∧ xs = [.ref a, c] ∧ (∀ u, RelV c u → u = cv) ∧ PySem.W.kitOne K (.ref D) cv = some b ∧ Q (.bl b) H
theorem call_isD {X : Cx} {a D dd : Addr} {oe : Obj} {pn : List (Addr × Obj)} (C : ExcC X.K D) (hz : Zc (.ref D) (some dd) oe) (hf : ∃ vs, oe.data = .fields vs) : CallR (X.suite a ((a, oe) :: pn)) (.builtin "isinstance") (rIsD X.K D a dd) := by
  intro pins s σ H xs us Q I r h
  obtain ⟨c, cv, b, fs, ed, rfl, hcv, e, q⟩ := h
  cases r with
  | cons rx rr =>
    cases rr with
    | cons rt rr =>
      cases rr
      cases rx
      have ec := hcv _ rt
      subst ec
      obtain ⟨hget, _⟩ := I.pin (a, oe) (List.mem_append.mpr (.inl List.mem_cons_self))
      obtain ⟨vs, hv⟩ := hf
      have hx : ObjOk X.prog X.w H s.heap dd (.xd fs) := I.hok dd _ ed
      obtain ⟨mA, hns, _⟩ := hx
      obtain ⟨od, ho, _⟩ := lookIn_ns hns
      have J : PySem.W.InstAt s.heap a oe D (some od) := ⟨hget, hz.1, by unfold PySem.W.notCls; rw [hv] <;> rfl, by rw [hz.2]; exact ho⟩
      have hcl : (PySem.W.clsIn X.K D).isSome = true := by
        obtain ⟨cd, hc, _⟩ := PySem.W.any_some C.hd
        rw [hc]
        rfl
      exact PySem.W.kia_one (PySem.W.kitx_exc (x := a) (ox := oe) (od := some od) hcl C.hg C.hk C.hs C.ha C.hn C.ht C.hm) I.kIn J e (fun z => nomatch z) fun tk => ⟨.bl b, H, I.kept (t' := tk) fun _ _ z => z, rfl, q⟩
def uIsE (ns : List Str) (us : List U) (S : Store) : R U := match us with
  | [.ex c _, .cls n] => if n ∈ ns then .ok (.d (.bool (c == n))) S else .bad
  | _ => .bad
/-- what the suite asks of the classes that come -/
structure ExcK (K : PySem.W.Frag) (mg : Str → Option Value) (C : Addr) : Prop where
  c : ExcC K C
  f : XfC K C
  w : PySem.W.findIn K (.ref C) "what" = some none
section
variable {X : Cx} {x : Fx} {W : WX} {a C dd : Addr} {c : Str} {oe : Obj} {pn : List (Addr × Obj)} {e : Expr} {es : List Expr} {ts : TA} {fs : Vr → Store → R (List U)} {k : Nat} {te : TE} {fe : Vr → Store → R U} {p pos : Pos} {ns : List Str}
theorem fit_isE (hK : x.K = X.K) (hm : x.mg c = some (.ref C)) (hk : ∀ n ∈ ns, ∀ N, x.mg n = some (.ref N) → PySem.W.kitOne X.K (.ref C) (.ref N) = some (c == n)) : FitN (xS x a c dd) (rIsD X.K C a dd) (uIsE ns) := by
  intro W α F S σ H vs us r i1 Q p
  unfold uIsE at p
  split at p
  · rename_i c' y n
    obtain ⟨v, w, rfl, h, h'⟩ := us2 i1
    obtain ⟨a', d', fs, w', rfl, ⟨rfl, rfl, rfl⟩, e3, _⟩ := h
    obtain ⟨N, rfl, e4⟩ := h'
    split at p
    · rename_i hn
      exact ⟨.ref N, .ref N, _, fs, r.le _ _ e3, rfl, fun u z => z, hk n hn N e4, ok_here r p (.bl _)⟩
    · exact p.elim
  · exact p.elim
theorem de_isE (hK : x.K = X.K) (E : ExcC X.K C) (hz : L2N.Zn (.ref C) (some dd) oe) (hf : ∃ vs, oe.data = .fields vs) (hmc : x.mg c = some (.ref C)) (hk : ∀ n ∈ ns, ∀ N, x.mg n = some (.ref N) → PySem.W.kitOne X.K (.ref C) (.ref N) = some (c == n))
    (hm : X.mg "isinstance" = none) (ha : DA (X.suite a ((a, oe) :: pn)) (xS x a c dd) W (e :: es) ts fs k) (hg : Gl X "isinstance" := by rfl) (he : starEach (e :: es) X.env = (false, eval e X.env) :: starEach es X.env := by rfl) (hpl : (backTo pos (starEach es X.env)).any (·.1) = false := by rfl) :
    DE (X.suite a ((a, oe) :: pn)) (xS x a c dd) W (.Call (.Name "isinstance" p) (e :: es) [] pos) (tCB (rIsD X.K C a dd) ts) (fN (uIsE ns) fs) :=
  de_callB (X := X.suite a ((a, oe) :: pn)) (call_isD E hz.zc hf) (fit_isE hK hmc hk) hm boot_isinstance ha hg (by decide) (by decide) he hpl
def uWhat (u : U) (S : Store) : R U := match u with
  | .ex _ y => .ok (.d y) S
  | _ => .bad
theorem de_what (hK : x.K = X.K) (E : XfC X.K C) (hw : PySem.W.findIn X.K (.ref C) "what" = some none) (hz : L2N.Zn (.ref C) (some dd) oe) (hf : ∃ vs, oe.data = .fields vs) (he : DE (X.suite a ((a, oe) :: pn)) (xS x a c dd) W e te fe) (hb : attributeBase e "what" X.env (eval e X.env) = eval e X.env := by rfl) :
    DE (X.suite a ((a, oe) :: pn)) (xS x a c dd) W (.Attribute e "what" pos) (tXf a (.ref C) (some dd) C "what" te) (f1 uWhat fe) := by
  refine ⟨pe_xf E hw hz.zc hf he.pe hb, ?_⟩
  intro α F ρ S σ H r0 s Q p
  refine he.fit.bind r0 s p fun α1 F1 S1 H1 v u e1 r1 s1 i1 p1 => ?_
  unfold uWhat at p1
  split at p1
  · rename_i c' y
    obtain ⟨a', d', fs, w', rfl, ⟨rfl, rfl, rfl⟩, e3, e4, e5⟩ := i1
    exact ⟨rfl, rfl, _, fs, w', rfl, r1.le _ _ e3, e4, p1 α1 F1 H1 w' (Ext.refl _ _ _) r1 e5⟩
  · exact p1.elim
end
theorem hot_suite {X : Cx} {a : Addr} {oe : Obj} {pn : List (Addr × Obj)} {C : Value} {d : Option Addr} (hz : L2N.Zn C d oe) (hf : ∃ vs : Array Value, oe.data = .fields vs) : L2H.HotC (X.suite a ((a, oe) :: pn)) := by
  obtain ⟨vs, hv⟩ := hf
  exact ⟨(a, oe), ⟨rfl, vs, hv, hz.2.2 vs hv⟩, List.mem_cons_self⟩
def sLst (fe : Vr → Store → R U) : Vr → Store → R (List D) := fun ρ S => (fe ρ S).bind lstD
theorem lstD_bad {u : U} {S : Store} {c : Str} {y : D} {S' : Store} : lstD u S ≠ .exc c y S' := by
  unfold lstD
  intro h
  split at h
  · cases h
  · exact seqD_bad h
theorem fit_lst' {x : Fx} {W : WX} {te : TE} {fe : Vr → Store → R U} (h : FitE x W te fe) : FitI x W (iList x.K te) (sLst fe) := by
  intro α F ρ S σ H r0 s Q q
  refine h.bind r0 s q fun α1 F1 S1 H1 v u e1 r1 s1 i1 p1 => ?_
  cases hs : lstD u S1 with
  | ok ds S2 =>
    rw [hs] at p1
    obtain ⟨F2, A, vs, r2, e2, rfl, h1, h2⟩ := lstD_ok r1 i1 hs
    exact ⟨A, rfl, ⟨vs, le_l r2.le h2⟩, p1 α1 F2 H1 _ e2 r2 (wk_list h2 h1)⟩
  | exc _ _ _ => exact absurd hs lstD_bad
  | bad => rw [hs] at p1; exact p1.elim
structure DGH (X : Cx) (x : Fx) (tg : Expr) (g : TG) (a : U → Vr → Option Vr) : Prop where
  pg : PGH X tg g
  fit : FitG x g a
section
variable {X : Cx} {x : Fx} {W : WX} {elt tg iter : Expr} {ifs es : List Expr} {scope : Scope} {own : List (Str × Nat)} {pos : Pos} {g : TG} {a1 : U → Vr → Option Vr} {tt : TT} {ft : Vr → Store → R Bool} {te : TE} {fe : Vr → Store → R U} {tl : TE} {fl : Vr → Store → R U} {tgs : TGs} {b1 : List D → Vr → Option Vr} {n : Nat}
theorem dgh_tup {k : Nat} (hK : x.K = X.K) (h1 : DGs X x es tgs b1) (hn : (assignEach es X.env).length = n := by rfl) (hst : (assignEach es X.env).findIdx? (·.1) = none := by rfl) : DGH X x (.Tuple es k pos) (gTup X.K n tgs) (aTup n b1) :=
  ⟨pgH_tup h1.pg hn hst, hK ▸ fitg_tup h1.fit⟩
theorem de_lcH (hK : x.K = X.K) (hc : L2H.HotC X) (hN : X.N.Nodup) (hi : DE X x W iter tl fl) (ok : BlkOk X.N X.env.scope scope own)
    (hg : ∀ (s : Shared) (H : Hp) (C : Addr) (cl : List (Str × Addr)) (fp : List Addr), DGH (X.blk s H scope (compEnvC scope cl C X.env) fp) x tg g a1) (hw : GM g (own.map (·.2)))
    (ht : ∀ (s : Shared) (H : Hp) (C : Addr) (cl : List (Str × Addr)) (fp : List Addr), DTs (X.blk s H scope (compEnvC scope cl C X.env) fp) x W0 ifs tt ft)
    (he : ∀ (s : Shared) (H : Hp) (C : Addr) (cl : List (Str × Addr)) (fp : List Addr), DE (X.blk s H scope (compEnvC scope cl C X.env) fp) x W0 elt te fe) (hs : ∀ y, foldedSetIterable iter X.env y = pure y := by intro _; rfl) :
    DE X x W (.ListComp elt [⟨tg, iter, ifs, 0⟩] scope pos) (tLc (iList X.K tl) g tt te (own.map (·.2))) (fLc (sLst fl) a1 ft fe (own.map (·.2))) :=
  ⟨pe_lcH hc hN hi.pe ok (fun s H C cl fp => (hg s H C cl fp).pg) (fun s H C cl fp => (ht s H C cl fp).pt) (fun s H C cl fp => (he s H C cl fp).pe) hs, fit_lc (hK ▸ fit_lst' hi.fit) (hg st0 (fun _ => none) 0 [] []).fit hw (ht st0 (fun _ => none) 0 [] []).fit (he st0 (fun _ => none) 0 [] []).fit⟩
end
/-! ### a lambda handed to a def -/
/-- the context of the lambda's body; what it lets out as L2N has it -/
def lamN (X : Cx) (A : Around) (outer : List Env) (s : Shared) (H : Hp) (E : XK) (scope : Scope) (f c' : Addr) : Cx :=
  (LamX.lamCx X A outer s H E scope f c').wish fun e s' => wpAny (model X.prog X.w) (A.deeper (LamX.lamEnv X scope s.heap.objs.size f c')) (leaving (LamX.lamEnv X scope s.heap.objs.size f c') e) (fun _ s'' => L2N.CX X.prog X.w outer H s E e s'') (fun e' s'' => L2N.CX X.prog X.w outer H s E e' s'') s'
theorem takesL {X : Cx} {A : Around} {outer : List Env} {s : Shared} {H : Hp} {E : XK} {scope : Scope} {f c' : Addr} : L2N.Takes (lamN X A outer s H E scope f c') (fun c d _ H => E c d H) := L2N.takes_of rfl rfl rfl rfl
section
variable {X : Cx} {pins : List (Addr × Obj)} {σ : L2.St} {H : Hp} {s : Shared}
theorem pe_actN {Eg : XK} {Ng : List Str} {qg : Str} {sg : Scope} {g f c' : Addr} {cdg pm ctv : Value} {params : Arguments} {body : Expr} {scope : Scope} {k i : Nat} {a : Str} {pn : List (Addr × Obj)} {xe : Value → Shared → Prop} {W : WX} {tb : XK → TE} {p1 p2 : Pos}
    (I : Inv X pins σ H s) (L : LamX.LamS X.env.scope scope) (hf : s.heap.get? f = some (PySem.W.kla_obj "<lambda>" (X.env.qual ++ "<lambda>") params body scope (cloFrom X.env.cells scope.names []) pm c' ctv)) (hfn : H f = none) (hfr : f ∉ frs X.stack)
    (hbind : bindArgs (PySem.W.kla_fn "<lambda>" (X.env.qual ++ "<lambda>") params body scope (cloFrom X.env.cells scope.names []) pm (.ref c') ctv) ⟨[], []⟩ = pure [])
    (tk : L2N.Takes ((cxOf (L2N.CX X.prog X.w) X.prog X.w X.K X.mg X.base Ng qg sg g cdg X.A X.stack s H Eg).tr pn xe) W) (hr : Room (k + 1) (X.A.deeper (envOfC qg sg s.heap.objs.size g cdg)))
    (hbody : ∀ (A : Around) (outer : List Env) (s : Shared) (H : Hp) (E : XK), Room k (A.deeper (LamX.lamEnv X scope s.heap.objs.size f c')) → PE (lamN X A outer s H E scope f c') body (tb E))
    (hN : Ng[i]? = some a) (hv : Vis sg a) (hd : (a == ("__debug__" : Str)) = false) (hcd : (a == ("__classdict__" : Str)) = false) :
    PE ((cxOf (L2N.CX X.prog X.w) X.prog X.w X.K X.mg X.base Ng qg sg g cdg X.A X.stack s H Eg).tr pn xe) (.Call (.Name a p1) [] [] p2)
      (fun σZ HZ Q => σZ[i]? = some (some (.ref f)) ∧ HZ c' = some (LamX.CodeO c' (X.env.qual ++ "<lambda>")) ∧ tb (WE W σZ) σ HZ Q) := by
  refine ⟨fun pinsZ sZ σZ HZ Q IZ h => ?_⟩
  obtain ⟨hs, hc, ht⟩ := h
  refine wpAny_Call_Name_kw (thn ((pe_var (pos := p1) (i := i) hN hv hd hcd).run pinsZ sZ σZ HZ (fun v H1 => v = .ref f ∧ H1 = HZ) IZ ⟨.ref f, hs, rfl, rfl⟩) fun u s1 ⟨v, H1, I1, r1, q1⟩ => ?_)
  obtain ⟨ev, eH⟩ := q1
  subst ev
  rw [eH] at I1
  obtain rfl : u = Value.ref f := r1
  have of1 := I1.base.keep f _ hf hfn hfr (fun z => nomatch (show f ∈ ([] : List Addr) from z))
  refine PySem.W.callWith_F0 ⟨_, _, _, _, of1⟩ ?_
  have un : Un (frs X.stack) [] H HZ s.heap s1.heap := I1.base
  obtain ⟨⟨oc, vs, t, hoc, hdc, hvc⟩, _, _⟩ := I1.hok c' _ hc
  have rc : codeAny (model X.prog X.w) (X.A.deeper (envOfC qg sg s.heap.objs.size g cdg)) (.call (.ref f) ⟨[], []⟩) (CR (L2N.CX X.prog X.w) (envOfC qg sg s.heap.objs.size g cdg :: X.stack) X.prog X.w HZ s1 Q (WE W σZ)) s1 := by
    refine PySem.W.kla_callFunE hr.depth of1 rfl L.co L.gen rfl ⟨c', oc, vs, t, rfl, hoc, hdc, hvc⟩ ?_
    rw [hbind]
    refine wpAny_pure (wpAny_newFunctionEnv (fun y hy => (L.own y hy).2) (fun y hy => absurd hy (by simp)) (fun h₁ hns hsb => ⟨I1.nolimit.fresh _ hsb, ?_⟩) L.kind)
    show codeAny _ _ (.expr body (LamX.lamEnv X scope s1.heap.objs.size f c')) _ _
    have kp : ∀ b o, s1.heap.get? b = some o → h₁.get? b = some o := fun b o e => hsb.extBut b o (Nat.ne_of_lt (Heap.lt_size e)) (Heap.get?_push_of_some _ e)
    have J := LamX.lam_start2 (E := WE W σZ) (tk := s1.toks + ([] : List (Str × Value)).length) (c' := c') (f := f) I L I1.env0 hr.hd un hns kp
    refine PySem.W.kla_codeExpr (wpAny_mono ((hbody _ _ s1 HZ (WE W σZ) (hr.deeper _)).run [] _ _ HZ Q (J.wish _) ht) (fun v s' hq => ?_) fun e s' hq => hq)
    obtain ⟨w', H', J', rv, q⟩ := hq
    exact ⟨w', H', J'.os, J'.bare, J'.base, J'.hok, rv, q⟩
  refine wpAny_call (codeAny_mono rc fun r s' hq => ?_)
  cases r with
  | error e => exact L2N.passAt tk σZ pinsZ HZ s1 e s' I1 hq
  | ok fl =>
    cases fl with
    | ret u => exact I1.after hq
    | next => exact False.elim hq
    | brk => exact False.elim hq
    | cont => exact False.elim hq
end
def thkR (i : Nat) (ρ : Vr) (r : R U) : R U := match ρ[i]? with
  | some (some .thk) => (match r with
    | .ok .thk _ => .bad
    | r => r)
  | _ => .bad
def fThk (i : Nat) (th : Store → R U) : Vr → Store → R U := fun ρ S => thkR i ρ (th S)
def thkX (x : Fx) (f c' : Addr) (q : Str) (ρ : Vr) (σ : L2.St) : Fx := { x with tf := f, tc := c', tq := q, enc := ρ, encσ := σ }
section
variable {x : Fx} {f c' : Addr} {q : Str} {ρ : Vr} {σ : L2.St} {α : Nat → Addr} {F : Hp} {S : Store} {H : Hp} {n : Nat} {v : V} {u : U}
theorem Rep.thkX (r : Rep x α F S H) : Rep (Z.thkX x f c' q ρ σ) α F S H := ⟨r.le, r.inj, r.cell, r.old, r.tabs, r.tabF⟩
theorem Rep.unthkX (r : Rep (Z.thkX x f c' q ρ σ) α F S H) : Rep x α F S H := ⟨r.le, r.inj, r.cell, r.old, r.tabs, r.tabF⟩
theorem isV_thkX : IsV (Z.thkX x f c' q ρ σ) α F n v u ↔ IsV x α F n v u := by cases u <;> exact Iff.rfl
theorem isU_of {x : Fx} (h : IsV x α F n v u) : IsU x α F n v u := by
  cases u <;> first | exact h | exact h.elim
theorem isV_of {x : Fx} (hn : u ≠ .thk) (h : IsU x α F n v u) : IsV x α F n v u := by
  cases u <;> first | exact h | exact (hn rfl).elim
theorem fit_thk {W : WX} {tb : XK → TE} {fb : Vr → Store → R U} {i : Nat} (hfb : ∀ E : XK, FitE x (fun c d _ H => E c d H) (tb E) fb) :
    FitE (Z.thkX x f c' q ρ σ) W (fun σZ HZ Q => σZ[i]? = some (some (.ref f)) ∧ HZ c' = some (LamX.CodeO c' q) ∧ tb (WE W σZ) σ HZ Q) (fThk i fun S => fb ρ S) := by
  intro α F ρZ S σZ H r s Q p
  unfold fThk thkR at p
  split at p
  · rename_i ht
    obtain ⟨v, hv, e1, e2, e3, e4⟩ := s.get i _ ht
    have e1' : v = .ref f := e1
    subst e1'
    refine ⟨hv, r.le _ _ e2, hfb (WE W σZ) α F ρ S σ H r.unthkX ⟨e3, fun j u hu => ?_⟩ Q ?_⟩
    · obtain ⟨v', h5, h6⟩ := e4 j u hu
      exact ⟨v', h5, isU_of (isV_thkX.mp h6)⟩
    · dsimp only at p
      cases e : fb ρ S with
      | ok a S1 =>
        rw [e] at p
        have hn : a ≠ .thk := fun z => by rw [z] at p; exact p
        have p' : Post zU (Z.thkX x f c' q ρ σ) W α F S σZ Q (R.ok a S1) := by
          cases a <;> first | exact p | exact p.elim
        exact fun α' F' H' b e1 r1 i1 => p' α' F' H' b e1 r1.thkX (isU_of (isV_thkX.mpr (isV_of hn i1)))
      | exc c d S1 =>
        rw [e] at p
        exact fun α' F' H' C pp v fs e1 r1 => p α' F' H' C pp v fs e1 r1.thkX
      | bad => rw [e] at p; exact p.elim
  · exact p.elim
end
/-- a def with one parameter, called without arguments in it; th: what it got -/
structure HDef (P : Program) (w : World) (K : PySem.W.Frag) (mg : Str → Option Value) (base : Heap) (T : Tb) (y : Str) (k : Nat) (nN : Nat) (gh : (Store → R U) → Vr → Store → O) : Prop where
  ok : ∃ (g : Addr) (fd : FuncData) (pg : Arguments) (bg : List Stmt) (sg : Scope) (Ng : List Str) (a : Str), FunD K y y pg bg sg [] [] g fd ∧ nN = Ng.length ∧ Ng[0]? = some a ∧ Vis sg a ∧ (a == ("__debug__" : Str)) = false ∧ (a == ("__classdict__" : Str)) = false ∧ FnScope Ng [a] sg ∧ Binds K fd [a] [] ∧ mg y = some (.ref g) ∧
    ∀ (x : Fx), x.K = K → x.mg = mg → x.T = T → (∀ a c d, ¬ x.exc a c d) → ∀ (cdv : Value) (A : Around) (outer : List Env) (s : Shared) (H : Hp) (E : XK) (th : Store → R U) (tt : WX → TE), Room k (A.deeper (envOfC y sg s.heap.objs.size g cdv)) →
      (∀ (W : WX) (pn : List (Addr × Obj)) (xe : Value → Shared → Prop) (p1 p2 : Pos), L2N.Takes ((cxOf (L2N.CX P w) P w K mg base Ng y sg g cdv A outer s H E).tr pn xe) W → DE ((cxOf (L2N.CX P w) P w K mg base Ng y sg g cdv A outer s H E).tr pn xe) x W (.Call (.Name a p1) [] [] p2) (tt W) (fThk 0 th)) →
      ∃ t, DB (cxOf (L2N.CX P w) P w K mg base Ng y sg g cdv A outer s H E) x (fun c d _ H => E c d H) bg t (gh th)
def okE : Option U → Bool
  | some .thk => false
  | _ => true
def fLam (nN : Nat) (gh : (Store → R U) → Vr → Store → O) (fb : Vr → Store → R U) : Vr → Store → R U := fun ρ S => if ρ.all okE = true then runD nN (gh fun S' => fb ρ S') [.thk] S else .bad
def tLamZ (x : Fx) (W : WX) (f : Vr → Store → R U) : TE := fun σ H Q => ∃ α F ρ S, Rep x α F S H ∧ Sl x α F S.length σ ρ ∧ Post zU x W α F S σ Q (f ρ S)
theorem runD_no {k : Nat} {g : Vr → Store → O} {us : List U} {S S' : Store} {u : U} (h : runD k g us S = .ok u S') : u ≠ .thk := by
  unfold runD at h
  intro z
  subst z
  cases e : g (slots k us) S with
  | rt u S1 =>
    rw [e] at h
    have h' : retn S.length u S1 = .ok .thk S' := h
    unfold retn at h'
    split at h'
    · cases h'
    · split at h'
      · cases h'
      · split at h' <;> cases h'
    · cases h'
  | nx _ _ => rw [e] at h; cases h
  | exc _ _ _ _ => rw [e] at h; cases h
  | bk _ _ => rw [e] at h; cases h
  | ct _ _ => rw [e] at h; cases h
  | bad => rw [e] at h; cases h
section
variable {X : Cx} {x : Fx} {W : WX} {y : Str} {k nN : Nat} {gh : (Store → R U) → Vr → Store → O} {c P : Addr} {params : Arguments} {body : Expr} {scope : Scope} {tb : XK → TE} {fb : Vr → Store → R U} {p lpos pos : Pos}
theorem de_lam (hxK : x.K = X.K) (hxm : x.mg = X.mg) (h0 : ∀ a c d, ¬ x.exc a c d) (G : HDef X.prog X.w X.K X.mg X.base x.T y (k + 1) nN gh) (hr : Room (k + 2) X.A) (tk : L2N.Takes X W) (TB : LamX.TabB X.base X.mg c P) (hcode : X.env.code = .ref c)
    (hmT : (P, X.env.qual ++ "<lambda>") ∈ x.T) (hu : ∀ p ∈ x.T, p.1 = P → p.2 = X.env.qual ++ "<lambda>") (L : LamX.LamS X.env.scope scope)
    (hbody : ∀ (A : Around) (outer : List Env) (s : Shared) (H : Hp) (E : XK) (f c' : Addr), Room k (A.deeper (LamX.lamEnv X scope s.heap.objs.size f c')) → DE (lamN X A outer s H E scope f c') x (fun c d _ H => E c d H) body (tb E) fb)
    (hbind : ∀ (q : Str) (cl : List (Str × Addr)) (pm cv ctv : Value), bindArgs (PySem.W.kla_fn "<lambda>" q params body scope cl pm cv ctv) ⟨[], []⟩ = pure [] := by intros; rfl)
    (hdef : defaultsOf params X.env = ([], []) := by rfl) (hg : Gl X y := by rfl) (hdb : (y == ("__debug__" : Str)) = false := by decide) :
    DE X x W (.Call (.Name y p) [.Lambda params body scope lpos] [] pos) (tLamZ x W (fLam nN gh fb)) (fLam nN gh fb) := by
  refine ⟨⟨fun pins s σ H Q I h => ?_⟩, fun α F ρ S σ H r s Q p => ⟨α, F, ρ, S, r, s, p⟩⟩
  obtain ⟨α, F, ρ, S, r, sl, pp⟩ := h
  obtain ⟨g, fd, pg, bg, sg, Ng, a, FD, hnN, hNg, hva, hda, hcda, Sg, hb, hm, hbg⟩ := G.ok
  obtain ⟨oc, od, dV, kV, doc, pm, an, cdv, ct, osl, rfl, lk, hcg, _, _⟩ := FD.ex
  refine wpAny_Call_Name_kw (ld_glob I hg hm ?_ hdb)
  refine PySem.W.callWith_K (h₀ := X.base) I.ok.mod.kin FD.kp ?_ (by rfl) (by rfl)
  show wpAny _ _ (spliced ((false, eval (.Lambda params body scope lpos) X.env) :: backTo pos (starEach [] X.env))) _ _ s
  refine Calls.spliced_cons (LamX.lam_make2 I TB hcode hmT hu r.tabs hdef (L.has I.ok) fun f c' pm' ctv H1 s' I1 eN T1 hf hfn hfr hco => ?_)
  refine Calls.spliced_nil ⟨I1.kIn, ?_⟩
  have r1 := r.extN eN T1
  obtain ⟨F1, r2, e2, hF⟩ := r1.knows hco LamX.codeO_ne (fun vs z => by unfold LamX.CodeO at z; cases z)
  have okρ : ρ.all okE = true := by
    unfold fLam at pp
    split at pp
    · assumption
    · exact pp.elim
  have pq : Post zU x W α F1 S σ Q (runD nN (gh fun S' => fb ρ S') [.thk] S) := by
    unfold fLam at pp
    rw [if_pos okρ] at pp
    exact Post.ext e2 pp
  have nt : ∀ (i : Nat) (u : U), ρ[i]? = some (some u) → u ≠ .thk := fun i u hu z => by
    subst z
    have := List.all_eq_true.mp okρ _ (List.mem_of_getElem? hu)
    cases this
  have sl2 := sl.ext e2
  have rc : codeAny (model X.prog X.w) X.A (.call (.ref g) ⟨[.ref f], []⟩) (CR (L2N.CX X.prog X.w) X.stack X.prog X.w H1 s' Q (WE W σ)) s' := by
    refine LamX.run_ofS (N := Ng) (ps := [a]) (us := [.ref f]) (vs := [.ref f]) lk hcg Sg hr I1.env0 (hb s' [.ref f] I1.kIn rfl) (.cons rfl .nil) rfl fun hr' => ?_
    obtain ⟨t, d⟩ := hbg (thkX x f c' (X.env.qual ++ "<lambda>") ρ σ) hxK hxm rfl h0 cdv X.A X.stack s' H1 (WE W σ) (fun S' => fb ρ S') (fun W' σZ HZ Q => σZ[0]? = some (some (.ref f)) ∧ HZ c' = some (LamX.CodeO c' (X.env.qual ++ "<lambda>")) ∧ tb (WE W' σZ) σ HZ Q) hr' fun W' pn xe p1 p2 tk' =>
      ⟨pe_actN (i := 0) I1 L hf hfn hfr (hbind _ _ _ _ _) tk' hr' (fun A outer s H E hr2 => (hbody A outer s H E f c' hr2).pe) hNg hva hda hcda, fit_thk fun E => (hbody X.A X.stack s' H1 E f c' ((hr.mono (Nat.le_succ _)).deeper _)).fit⟩
    refine ⟨t, d.ps, body_ok (E := WE W σ) (np := 1) d.fit ⟨α, F1, S, [.thk], rfl, r2.thkX, .cons ⟨rfl, hF, sl.len, fun i u hu => ?_⟩ .nil, ?_⟩⟩
    · obtain ⟨v, h1, h2⟩ := sl2.get i u hu
      exact ⟨v, h1, isV_thkX.mpr (isV_of (nt i u hu) h2)⟩
    · rw [← hnN]
      cases e : runD nN (gh fun S' => fb ρ S') [.thk] S with
      | ok u S1 =>
        rw [e] at pq
        exact fun α' F' H' b e1 r1 i1 => pq α' F' H' b e1 r1.unthkX (isU_of (isV_thkX.mp (isV_of (runD_no e) i1)))
      | exc c d S1 =>
        rw [e] at pq
        exact fun α' F' H' C q v fs e1 r1 => pq α' F' H' C q v fs e1 r1.unthkX
      | bad => rw [e] at pq; exact pq.elim
  refine wpAny_call (codeAny_mono rc fun r s2 hq => ?_)
  cases r with
  | error e => exact L2N.passAt tk σ pins H1 s' e s2 I1 hq
  | ok fl =>
    cases fl with
    | ret u => exact I1.after hq
    | next => exact False.elim hq
    | brk => exact False.elim hq
    | cont => exact False.elim hq
end
end Z

/-! Z10: the head's facts, the law's end. -/
namespace Z
open PySem PySem.Spec PyProof.Rows L2
/-! ### the reading that the mirror alone fixes -/
def tZT (x : Fx) (W : WX) (f : Vr → Store → R Bool) : TT := fun σ H Q => ∃ α F ρ S, Rep x α F S H ∧ Sl x α F S.length σ ρ ∧ Post zB x W α F S σ Q (f ρ S)
def tZS (x : Fx) (W : WX) (g : Vr → Store → O) : TS := fun D σ H => ∃ α F ρ S, Rep x α F S H ∧ Sl x α F S.length σ ρ ∧ PostS x W α F S D (g ρ S)
section
variable {X : Cx} {x : Fx} {W : WX} {e : Expr} {es : List Expr} {te : TE} {fe : Vr → Store → R U} {tt : TT} {ft : Vr → Store → R Bool} {sts : List Stmt} {t : TS} {g : Vr → Store → O}
theorem cE (h : DE X x W e te fe) : DE X x W e (tLamZ x W fe) fe :=
  ⟨⟨fun pins s σ H Q I ⟨α, F, ρ, S, r, sl, p⟩ => h.pe.run pins s σ H Q I (h.fit α F ρ S σ H r sl Q p)⟩, fun α F ρ S σ H r s Q p => ⟨α, F, ρ, S, r, s, p⟩⟩
theorem cTs (h : DTs X x W es tt ft) : DTs X x W es (tZT x W ft) ft :=
  ⟨⟨fun pins s σ H Q I ⟨α, F, ρ, S, r, sl, p⟩ => h.pt.run pins s σ H Q I (h.fit α F ρ S σ H r sl Q p)⟩, fun α F ρ S σ H r s Q p => ⟨α, F, ρ, S, r, s, p⟩⟩
theorem cB (h : DB X x W sts t g) : DB X x W sts (tZS x W g) g :=
  ⟨⟨fun pins s σ H D I ⟨α, F, ρ, S, r, sl, p⟩ => h.ps.run pins s σ H D I (h.fit α F ρ S σ H r sl D p)⟩, fun α F ρ S σ H r s D p => ⟨α, F, ρ, S, r, s, p⟩⟩
end
/-! ### an exception class -/
def oexB (K : PySem.W.Frag) (C : Addr) : Bool := match K.lookup C with
  | some ⟨.type "type", _, .cls cd, sl⟩ => (match cd.mro, sl.toList with
    | .ref C' :: bm, [_, _, _, _, some (.builtin n), _] => decide (C' = C) && (decide (n = "ValueError.__new__") && (!cd.hasDel && (cd.hasDict && PySem.HandSPX.refsVE bm)))
    | _, _ => false)
  | _ => false
theorem oex_cls {K : PySem.W.Frag} {C : Addr} (q : oexB K C = true) : ∃ nm q N bs bm sn sub ab col dd k0 k1 k2 k3 k5, K.lookup C = some (excClassObj nm q C N bs bm true sn sub ab col dd k0 k1 k2 k3 k5 "ValueError.__new__") ∧ PySem.HandSPX.refsVE bm = true := by
  unfold oexB at q
  split at q
  · rename_i dd cd sl ho
    split at q
    · rename_i C' bm k0 k1 k2 k3 n k5 hm hs
      simp only [Bool.and_eq_true, decide_eq_true_eq, Bool.not_eq_true'] at q
      obtain ⟨rfl, rfl, hdel, hdict, hok⟩ := q
      obtain ⟨nm, bs, mro, ns, qn, hd, sn, sub, ab, col, del⟩ := cd
      dsimp only at hm hdel hdict
      subst hm hdel hdict
      have hsl : sl = #[k0, k1, k2, k3, some (.builtin "ValueError.__new__"), k5] := by
        obtain ⟨l⟩ := sl
        simp only at hs
        rw [hs]
      subst hsl
      exact ⟨nm, qn, ns, bs, bm, sn, sub, ab, col, dd, k0, k1, k2, k3, k5, ho, hok⟩
    · cases q
  · cases q
/-- r: the class that has the __init__ -/
def excB (K : PySem.W.Frag) (x r : Str) : Bool :=
  let C := He.ga K x
  let f := He.fAd K (r, some "__init__")
  oexB K C && (decide (PySem.W.findIn K (.ref C) "__setattr__" = some (some (.builtin "object.__setattr__"))) && (decide (PySem.W.subIn K (.ref C) (.type "BaseException") = some true) && (decide (PySem.W.typeIn K (.ref C) = some (.type "type")) &&
    (PySem.W.keepIn K (.ref C) && (decide (PySem.W.findIn K (.ref C) "__init__" = some (some (.ref f))) && (decide (PySem.W.typeIn K (.ref f) = some (.type "function")) && (decide (PySem.W.findIn K (.ref C) "what" = some none) &&
    (decide (PySem.W.findIn K (.ref C) "__getattribute__" = some (some (.builtin "BaseException.__getattribute__"))) && (decide (PySem.W.findIn K (.ref C) "__getattr__" = some none) && (PySem.W.hasDictIn K C && (decide (PySem.W.findIn K (.ref C) "__class__" = some (some (.builtin "object.__class__"))) &&
    (decide (PySem.W.specialIn K (.builtin "object.__class__") "__get__" = some (some (.builtin "getset_descriptor.__get__"))) && (decide (PySem.W.takesIn K (.builtin "object.__class__") = some true) && decide (PySem.W.mroIn K C (.type "object") = some true))))))))))))))
structure ExcA (K : PySem.W.Frag) (x r : Str) : Prop where
  o : OexC K (He.ga K x)
  k : ExcK K (fun _ => none) (He.ga K x)
  i : PySem.W.findIn K (.ref (He.ga K x)) "__init__" = some (some (.ref (He.fAd K (r, some "__init__"))))
  t : PySem.W.typeIn K (.ref (He.fAd K (r, some "__init__"))) = some (.type "function")
theorem excA_ok {K : PySem.W.Frag} {x r : Str} (h : excB K x r = true) : ExcA K x r := by
  unfold excB at h
  simp only [Bool.and_eq_true, decide_eq_true_eq] at h
  obtain ⟨h1, h2, h3, h4, h5, h6, h7, h8, h9, h10, h11, h12, h13, h14, h15⟩ := h
  exact ⟨⟨oex_cls h1, h2, h3, h4, h5⟩, ⟨⟨h9, h10, h3, h11, h12, h13, h14, h15⟩, ⟨h9, h10, h3, h11⟩, h8⟩, h6, h7⟩
def suiteB (K : PySem.W.Frag) (cs : List Str) (r cv : Str) : Bool := cs.all fun c => decide (PySem.W.nsIn K mainGlobals c = some (some (.ref (He.ga K c)))) && (excB K c r && (decide (PySem.W.exmOne K (.ref (He.ga K c)) (.ref (He.ga K cv)) = some true) &&
  cs.all fun n => decide (PySem.W.kitOne K (.ref (He.ga K c)) (.ref (He.ga K n)) = some (c == n))))
structure SuiteA (K : PySem.W.Frag) (mg : Str → Option Value) (cs : List Str) (r cv : Str) : Prop where
  mg : ∀ c ∈ cs, mg c = some (.ref (He.ga K c))
  exc : ∀ c ∈ cs, ExcA K c r
  exm : ∀ c ∈ cs, PySem.W.exmOne K (.ref (He.ga K c)) (.ref (He.ga K cv)) = some true
  kit : ∀ c ∈ cs, ∀ n ∈ cs, PySem.W.kitOne K (.ref (He.ga K c)) (.ref (He.ga K n)) = some (c == n)
theorem suiteA_ok {K : PySem.W.Frag} {h : Heap} {mg : Str → Option Value} {cs : List Str} {r cv : Str} (X : K.In h) (G : h.Ns mainGlobals mg) (q : suiteB K cs r cv = true) : SuiteA K mg cs r cv := by
  have key : ∀ c ∈ cs, (PySem.W.nsIn K mainGlobals c = some (some (.ref (He.ga K c))) ∧ excB K c r = true ∧ PySem.W.exmOne K (.ref (He.ga K c)) (.ref (He.ga K cv)) = some true ∧ ∀ n ∈ cs, PySem.W.kitOne K (.ref (He.ga K c)) (.ref (He.ga K n)) = some (c == n)) := fun c hc => by
    have z := List.all_eq_true.mp q c hc
    simp only [Bool.and_eq_true, decide_eq_true_eq, List.all_eq_true] at z
    exact z
  exact ⟨fun c hc => PySem.W.mg_of X G (key c hc).1, fun c hc => excA_ok (key c hc).2.1, fun c hc => (key c hc).2.2.1, fun c hc => (key c hc).2.2.2⟩
section
variable {K : PySem.W.Frag} {mg : Str → Option Value} {cs : List Str} {r cv c : Str} {C : Addr}
theorem SuiteA.at (s : SuiteA K mg cs r cv) (hc : c ∈ cs) (hm : mg c = some (.ref C)) : C = He.ga K c := Value.ref.inj (Option.some.inj (hm.symm.trans (s.mg c hc)))
theorem SuiteA.hcs (s : SuiteA K mg cs r cv) : ∀ c ∈ cs, ∀ C, mg c = some (.ref C) → PySem.W.exmOne K (.ref C) (.ref (He.ga K cv)) = some true := fun c hc C hm => by
  rw [s.at hc hm]
  exact s.exm c hc
theorem SuiteA.hk (s : SuiteA K mg cs r cv) (hc : c ∈ cs) (hm : mg c = some (.ref C)) : ∀ n ∈ cs, ∀ N, mg n = some (.ref N) → PySem.W.kitOne K (.ref C) (.ref N) = some (c == n) := fun n hn N hN => by
  rw [s.at hc hm, s.at hn hN]
  exact s.kit c hc n hn
theorem SuiteA.ek (s : SuiteA K mg cs r cv) (hc : c ∈ cs) (hm : mg c = some (.ref C)) : ExcK K (fun _ => none) C := by
  rw [s.at hc hm]
  exact (s.exc c hc).k
/-- the class raises -/
theorem SuiteA.raiser {P : Program} {w : World} {base : Heap} {fd : FuncData} (s : SuiteA K mg cs r cv) (hc : c ∈ cs) (F : FnOk P w K mg base CX0 1 (He.fAd K (r, some "__init__")) fd ["self", "what"] (spInit K)) (hb : Binds K fd ["self", "what"] []) : Raiser P w K mg base c (He.ga K c) :=
  ⟨s.mg c hc, (s.exc c hc).o, (s.exc c hc).k.w, _, fd, (s.exc c hc).i, (s.exc c hc).t, F, hb⟩
end
/-! ### a tuple of the module -/
def isIntB : List Int → List Value → Bool
  | [], [] => true
  | i :: is, .int j _ :: us => decide (j = i) && isIntB is us
  | _, _ => false
theorem isIntB_ok : ∀ {is : List Int} {us : List Value}, isIntB is us = true → Vals (is.map V.int) us
  | [], [], _ => .nil
  | i :: is, .int j t :: us, h => by
    unfold isIntB at h
    simp only [Bool.and_eq_true, decide_eq_true_eq] at h
    obtain ⟨rfl, h2⟩ := h
    exact .cons ⟨t, rfl⟩ (isIntB_ok h2)
def tupB (K : PySem.W.Frag) (x : Str) (is : List Int) : Bool := match K.lookup (He.ga K x) with
  | some ⟨.type c, _, .seq its _, _⟩ => decide (c = "tuple") && (decide (its.size ≤ sizeLine) && isIntB is its.toList)
  | _ => false
theorem tupB_ok {K : PySem.W.Frag} {x : Str} {is : List Int} (h : tupB K x is = true) (F : Hp) : Is K F (.ref (He.ga K x)) (.tuple (is.map PyData.int)) := by
  unfold tupB at h
  split at h
  · rename_i c d its n sl ho
    simp only [Bool.and_eq_true, decide_eq_true_eq] at h
    obtain ⟨rfl, h2, h3⟩ := h
    exact .tup (vs := is.map V.int) (.inr ⟨_, its, n, ho, rfl, rfl, h2, isIntB_ok h3⟩) (IsAll.int is)
  · cases h
theorem ve_init (K : PySem.W.Frag) : PySem.W.findCls K (.type "ValueError") (.type "type") "__init__" = some (.val (.builtin "ValueError.__init__")) := by kernel_rfl
/-! ### further facts -/
inductive Xf where
  | blt (x : Str) (id : String)
  | tup (x : Str) (is : List Int)
  | exc (x r : Str)
  | suite (cs : List Str) (r cv : Str)
  | tabs (tf : List He.Defn)
def Xf.ok (K : PySem.W.Frag) : Xf → Bool
  | .blt x id => decide (PySem.W.nsIn K mainGlobals x = some (some (.builtin id)))
  | .tup x is => tupB K x is
  | .exc x r => excB K x r
  | .suite cs r cv => suiteB K cs r cv
  | .tabs tf => decide (tf.map fun p => (He.cT K p).2).Nodup
/-- what the head tells -/
structure Kn (fa : List He.Fa) (fn : List He.DefD) (xf : List Xf) (K : PySem.W.Frag) (mg : Str → Option Value) : Prop where
  h : ∃ h, K.In h ∧ h.Ns mainGlobals mg
  d : He.SaysD fa fn K
  x : (xf.all fun f => f.ok K) = true
section
variable {fa : List He.Fa} {fn : List He.DefD} {xf : List Xf} {K : PySem.W.Frag} {mg : Str → Option Value}
theorem Kn.glo (c : Kn fa fn xf K mg) (i : Nat) {x : Str} (e : fa[i]? = some (.glo x) := by rfl) : mg x = some (.ref (He.ga K x)) := by
  obtain ⟨h, X, G⟩ := c.h
  exact He.glo_ok X G (c.d.fact i e)
theorem Kn.free (c : Kn fa fn xf K mg) (i : Nat) {x : Str} (e : fa[i]? = some (.free x) := by rfl) : mg x = none := by
  obtain ⟨h, X, G⟩ := c.h
  exact He.free_ok X G (c.d.fact i e)
theorem Kn.int (c : Kn fa fn xf K mg) (i : Nat) {x : Str} {j : Int} (e : fa[i]? = some (.int x j) := by rfl) : ∃ t, mg x = some (.int j t) := by
  obtain ⟨h, X, G⟩ := c.h
  exact He.int_ok X G (c.d.fact i e)
theorem Kn.xo (c : Kn fa fn xf K mg) (i : Nat) {f : Xf} (e : xf[i]? = some f := by rfl) : f.ok K = true := List.all_eq_true.mp c.x f (List.mem_of_getElem? e)
theorem Kn.blt (c : Kn fa fn xf K mg) (i : Nat) {x : Str} {id : String} (e : xf[i]? = some (.blt x id) := by rfl) : mg x = some (.builtin id) := by
  obtain ⟨h, X, G⟩ := c.h
  exact PySem.W.mg_of X G (of_decide_eq_true (c.xo i e))
theorem Kn.tup (c : Kn fa fn xf K mg) (i : Nat) {x : Str} {is : List Int} (e : xf[i]? = some (.tup x is) := by rfl) (F : Hp) : Is K F (.ref (He.ga K x)) (.tuple (is.map PyData.int)) := tupB_ok (c.xo i e) F
theorem Kn.exc (c : Kn fa fn xf K mg) (i : Nat) {x r : Str} (e : xf[i]? = some (.exc x r) := by rfl) : ExcA K x r := excA_ok (c.xo i e)
theorem Kn.suite (c : Kn fa fn xf K mg) (i : Nat) {cs : List Str} {r cv : Str} (e : xf[i]? = some (.suite cs r cv) := by rfl) : SuiteA K mg cs r cv := by
  have q := c.xo i e
  obtain ⟨h, X, G⟩ := c.h
  exact suiteA_ok X G q
theorem Kn.tabs (c : Kn fa fn xf K mg) (i : Nat) {tf : List He.Defn} (e : xf[i]? = some (.tabs tf) := by rfl) : (tf.map fun p => (He.cT K p).2).Nodup := of_decide_eq_true (c.xo i e)
end
/-! ### defs that make lambdas; defs that get them -/
section
variable {P : Program} {w : World} {K : PySem.W.Frag} {mg : Str → Option Value} {base : Heap}
theorem def_fn {f : Str} {params : Arguments} {body : List Stmt} {scope : Scope} {a : Addr} {fd : FuncData} {N ps : List Str} {k : Nat} {g : Vr → Store → O} {T : Tb} (F : FunD K f f params body scope [] [] a fd) (S : FnScope N ps scope)
    (hbody : ∀ (cdv : Value) (A : Around) (outer : List Env) (s : Shared) (H : Hp) (E : XK), Room k (A.deeper (envOfC f scope s.heap.objs.size a cdv)) →
      ∃ t, DB (cxOf (L2N.CX P w) P w K mg base N f scope a cdv A outer s H E) { K := K, mg := mg, T := T } (fun c d _ H => E c d H) body t g) :
    FnOk P w K mg base (L2N.CX P w) (k + 1) a fd ps (spOf { K := K, mg := mg, T := T } ps.length (runD N.length g)) :=
  F.ok S (fun vs H Q E h => spOf_len vs H Q E h) fun cdv A outer s H vs Q E hr h => by
    obtain ⟨t, d⟩ := hbody cdv A outer s H E hr
    exact ⟨t, d.ps, body_ok d.fit h⟩
theorem def_okC {f : Str} {params : Arguments} {body : List Stmt} {scope : Scope} {fd : FuncData} {N ps : List Str} {k : Nat} {g : Vr → Store → O} {T : Tb} (F : FunD K f f params body scope [] [] (He.fAd K (f, none)) fd) (hm : mg f = some (.ref (He.fAd K (f, none)))) (S : FnScope N ps scope)
    (hb : ∀ (kV doc pm : Value) (an : Option Addr) (cdv ct : Value) (us : List Value), us.length = ps.length → bindArgs (PySem.W.fnOf f f params body scope .none kV doc pm an cdv ct) ⟨us, []⟩ = pure (ps.zip us))
    (hbody : ∀ (cdv : Value) (A : Around) (outer : List Env) (s : Shared) (H : Hp) (E : XK), cdv = .ref (He.codeOf K (f, none)) → Room k (A.deeper (envOfC f scope s.heap.objs.size (He.fAd K (f, none)) cdv)) →
      ∃ t, DB (cxOf (L2N.CX P w) P w K mg base N f scope (He.fAd K (f, none)) cdv A outer s H E) { K := K, mg := mg, T := T } (fun c d _ H => E c d H) body t g) :
    Def P w K mg base { K := K, mg := mg, T := T } f ps.length (k + 1) (runD N.length g) := by
  refine ⟨_, fd, ps, ?_, rfl, F.bindsN hb, F.kp, hm⟩
  obtain ⟨oc, od, dV, kV, doc, pm, an, cdv, ct, osl, rfl, lk, hcd, _, _⟩ := F.ex
  obtain ⟨c, rfl⟩ := He.codeIn_ref hcd
  have ec := He.codeOf_eq (c := c) lk rfl
  refine fn_of lk hcd S (fun vs H Q E h => spOf_len vs H Q E h) fun A outer s H vs Q E hr h => ?_
  obtain ⟨t, d⟩ := hbody (.ref c) A outer s H E (by rw [ec]) hr
  exact ⟨t, d.ps, body_ok d.fit h⟩
theorem hdef_ok {f a : Str} {pg : Arguments} {body : List Stmt} {scope : Scope} {g : Addr} {fd : FuncData} {N : List Str} {k : Nat} {gh : (Store → R U) → Vr → Store → O} {T : Tb} (F : FunD K f f pg body scope [] [] g fd) (hm : mg f = some (.ref g)) (S : FnScope N [a] scope)
    (hb : ∀ (kV doc pm : Value) (an : Option Addr) (cdv ct : Value) (us : List Value), us.length = [a].length → bindArgs (PySem.W.fnOf f f pg body scope .none kV doc pm an cdv ct) ⟨us, []⟩ = pure ([a].zip us)) (hN : N[0]? = some a) (hv : Vis scope a) (hd : (a == ("__debug__" : Str)) = false) (hcd : (a == ("__classdict__" : Str)) = false)
    (hbody : ∀ (x : Fx), x.K = K → x.mg = mg → x.T = T → (∀ a c d, ¬ x.exc a c d) → ∀ (cdv : Value) (A : Around) (outer : List Env) (s : Shared) (H : Hp) (E : XK) (th : Store → R U) (tt : WX → TE), Room k (A.deeper (envOfC f scope s.heap.objs.size g cdv)) →
      (∀ (W : WX) (pn : List (Addr × Obj)) (xe : Value → Shared → Prop) (p1 p2 : Pos), L2N.Takes ((cxOf (L2N.CX P w) P w K mg base N f scope g cdv A outer s H E).tr pn xe) W → DE ((cxOf (L2N.CX P w) P w K mg base N f scope g cdv A outer s H E).tr pn xe) x W (.Call (.Name a p1) [] [] p2) (tt W) (fThk 0 th)) →
      ∃ t, DB (cxOf (L2N.CX P w) P w K mg base N f scope g cdv A outer s H E) x (fun c d _ H => E c d H) body t (gh th)) : HDef P w K mg base T f k N.length gh :=
  ⟨⟨g, fd, pg, body, scope, N, a, F, rfl, hN, hv, hd, hcd, S, F.bindsN hb, hm, hbody⟩⟩
/-- the tables of the defs tf -/
def tabsT (K : PySem.W.Frag) (tf : List He.Defn) : Tb := tf.map fun p => ((He.cT K p).2, (p.1 ++ ".<locals>.") ++ "<lambda>")
theorem tabs_mem {tf : List He.Defn} {p : He.Defn} (h : p ∈ tf) : ((He.cT K p).2, (p.1 ++ ".<locals>.") ++ "<lambda>") ∈ tabsT K tf := List.mem_map.mpr ⟨p, h, rfl⟩
theorem sp_law {x : Fx} {m : List U → Store → R U} {H : Hp} {a : Addr} {ns : List Int} (hS : SqL x.K H a (ns.map V.int)) (hT : ∀ p ∈ x.T, H p.1 = some (.tbl #[])) (h : ∃ S', m [.rd (ns.map PyData.int)] [] = .ok (.d (.bool true)) S') : spOf x 1 m [.ref a] H (fun v _ => v = .bl true) fun _ _ _ => False := by
  obtain ⟨S', e⟩ := h
  have fin : ∀ F : Hp, Le F H → (∀ b ps, F b ≠ some (.tbl ps)) → SqL x.K F a (ns.map V.int) → spOf x 1 m [.ref a] H (fun v _ => v = .bl true) fun _ _ _ => False := fun F hle hnt hsq => by
    refine ⟨fun _ => 0, F, [], [.rd (ns.map PyData.int)], rfl, ⟨hle, fun i j hi => absurd hi (Nat.not_lt_zero _), fun i ds e => by simp at e, fun i hi => absurd hi (Nat.not_lt_zero _), fun p hp => .nil (hT p hp), hnt⟩, .cons ⟨a, _, rfl, hsq, IsAll.int ns⟩ .nil, ?_⟩
    rw [e]
    exact fun α' F' H' b _ _ i => is_bool i
  rcases hS with h1 | h1
  · rcases h1 with h1 | ⟨o, h1⟩
    · refine fin (fun b => if b = a then some (.lst (ns.map V.int)) else none) (fun b o e => ?_) (fun b ps e => ?_) (.inl (.inl (if_pos rfl)))
      · dsimp only at e
        split at e
        · rename_i hb
          rw [hb, h1, e]
        · cases e
      · split at e <;> cases e
    · refine fin (fun b => if b = a then some (.frz o (.lst (ns.map V.int))) else none) (fun b o e => ?_) (fun b ps e => ?_) (.inl (.inr ⟨o, if_pos rfl⟩))
      · dsimp only at e
        split at e
        · rename_i hb
          rw [hb, h1, e]
        · cases e
      · split at e <;> cases e
  · exact fin (fun _ => none) (fun _ _ e => nomatch e) (fun _ _ e => nomatch e) (.inr h1)
theorem map_inj {α β : Type} {f : α → β} : ∀ {l : List α}, (l.map f).Nodup → ∀ a ∈ l, ∀ b ∈ l, f a = f b → a = b
  | [], _, _, h, _, _, _ => nomatch h
  | x :: l, hn, a, ha, b, hb, e => by
    obtain ⟨h1, h2⟩ := List.nodup_cons.mp hn
    rcases List.mem_cons.mp ha with e1 | k1
    · rcases List.mem_cons.mp hb with e2 | k2
      · rw [e1, e2]
      · exact absurd (List.mem_map.mpr ⟨b, k2, by rw [← e, e1]⟩) h1
    · rcases List.mem_cons.mp hb with e2 | k2
      · exact absurd (List.mem_map.mpr ⟨a, k1, by rw [e, e2]⟩) h1
      · exact map_inj h2 a k1 b k2 e
theorem tabs_u {tf : List He.Defn} {p : He.Defn} (hn : (tf.map fun p => (He.cT K p).2).Nodup) (h : p ∈ tf) : ∀ q ∈ tabsT K tf, q.1 = (He.cT K p).2 → q.2 = (p.1 ++ ".<locals>.") ++ "<lambda>" := by
  intro q hq e
  obtain ⟨p', hp', rfl⟩ := List.mem_map.mp hq
  have e' : (He.cT K p').2 = (He.cT K p).2 := e
  have : p' = p := map_inj hn p' hp' p h e'
  rw [this]
theorem units_ok {A : Around} {k : Nat} (hr : Room k A) : A.units + 64 < cLine := by
  have := hr.un
  omega
/-- the law, at the head's heap -/
theorem law_at {l : PySem.W.OpenLaw} {h : Heap} {fa : List He.Fa} {fn : List He.DefD} {tf : List He.Defn} {xf : List Xf} {k n : Nat} {p : Str} {m : List U → Store → R U} {f : Addr} {fd : FuncData} (X : K.In h) (c : He.SaysX fa fn [] tf (fun K => xf.all fun f => f.ok K) w h K)
    (hb : ∀ (s : Shared) (u : Value), BindsTo s fd ⟨[u], []⟩ [(p, u)]) (hm : ∀ ns : List Int, ns.length ≤ n → (∀ z ∈ ns, Builtin.Int.intBits z ≤ 1048576) → ∃ S', m [.rd (ns.map PyData.int)] [] = .ok (.d (.bool true)) S')
    (hF : ∀ base : Heap, (∀ p ∈ tf, LamX.TabB base mg (He.cT K p).1 (He.cT K p).2) → FnOk l.prog w K mg base (L2N.CX l.prog w) k f fd [p] (spOf { K := K, mg := mg, T := tabsT K tf } 1 m)) :
    LamX.LawAtS l w K (L2N.CX l.prog w) k n p mg f h := by
  refine ⟨fd, tf.map (He.cT K), _, fun q hq => ?_, fun q hq => ?_, fun q hq => ?_, hb, fun H a ns hl hz hT hS => ?_, fun base _ _ hT => hF base fun q hq => hT _ (List.mem_map.mpr ⟨q, hq, rfl⟩)⟩
  · obtain ⟨q', hq', rfl⟩ := List.mem_map.mp hq
    exact c.empty q' hq'
  · obtain ⟨q', hq', rfl⟩ := List.mem_map.mp hq
    exact c.out q' hq'
  · obtain ⟨q', hq', rfl⟩ := List.mem_map.mp hq
    exact PySem.W.codeHd_of_K X (c.hd q' hq')
  · refine sp_law hS (fun q hq => ?_) (hm ns hl hz)
    obtain ⟨q', hq', rfl⟩ := List.mem_map.mp hq
    exact hT _ (List.mem_map.mpr ⟨q', hq', rfl⟩)
theorem cx_never (P : Program) (w : World) (H : Hp) (s : Shared) (e : Value) (s' : Shared) (h : L2N.CX P w [] H s (fun _ _ _ => False) e s') : False := by
  obtain ⟨_, _, _, _, _, _, _, _, _, _, _, _, z⟩ := h
  exact z
end
end Z

/-! Z20: enumerate over a tuple. -/
namespace Z
open PySem PySem.Spec PyProof.Rows L2
open Sem (wp)
theorem meets_enumB1 {v : Value} {o : Obj} {H : Heap → Prop} (B : Begins v o H) :
    Meets (Builtin.«enumerate.__new__» ⟨[.type "enumerate", v], []⟩) (fun _ R s => H s.heap ∧
      R (.ok (.ret (.ref (s.heap.push o).objs.size))) { s with heap := (s.heap.push o).push { cls := .type "enumerate", data := .fields #[.none, .bool false, .ref s.heap.objs.size, rawInt 0, .none, .none] } }) :=
  .of_wp fun prog w A R s h => by
    obtain ⟨hp, g, d, tk, os⟩ := s; obtain ⟨h1, h⟩ := h
    have hsub := sub_enumerate
    have q1 : ∀ {A' : Around} {E : Value → Shared → Prop} {Q : Value → Shared → Prop}, Q (.ref hp.objs.size) ⟨hp.push o, g, d, tk, os⟩ → wpAny (model prog w) A' (pyIter v) Q E ⟨hp, g, d, tk, os⟩ :=
      fun q => B.iter prog w _ _ ⟨hp, g, d, tk, os⟩ _ h1 q
    wp_walk using q1
    refine wpAny_stack_any fun st => wpAny_pure ?_
    split
    · rename_i c _ _ _ _ _
      cases (c == Value.type "enumerate")
      · wp_walk using q1
        exact ⟨_, rfl, h⟩
      · wp_walk using q1
        exact ⟨_, rfl, h⟩
    · wp_walk using q1
      exact ⟨_, rfl, h⟩
theorem call_enum1 {prog : Program} {w : World} {A : Around} {E : Value → Shared → Prop} {s : Shared} {v : Value} {o : Obj} {H : Heap → Prop} {Q : Value → Shared → Prop} (B : Begins v o H) (h1 : H s.heap)
    (h : ∀ h', IsEnum h' (s.heap.objs.size + 1) s.heap.objs.size 0 .none → h'.get? s.heap.objs.size = some o → h'.objs.size = s.heap.objs.size + 2 →
      (∀ b o, s.heap.get? b = some o → h'.get? b = some o) → Q (.ref (s.heap.objs.size + 1)) { s with heap := h' }) :
    wpAny (model prog w) A (call (.type "enumerate") [v]) Q E s := by
  refine callType_new F.called_enumerate (by decide) (F.typeCall_enumerate_1 _) (F.newCall_enumerate_1 _) (fun obj => F.args_object_init_2 obj _) F.entry_enumerate_new
    (meets_enumB1 B) ⟨h1, ?_⟩
  have hz : (s.heap.push o).objs.size = s.heap.objs.size + 1 := Heap.size_push ..
  show _ ∧ _
  rw [hz]
  have he : IsEnum ((s.heap.push o).push { cls := .type "enumerate", data := .fields #[.none, .bool false, .ref s.heap.objs.size, rawInt 0, .none, .none] }) (s.heap.objs.size + 1) s.heap.objs.size 0 .none := by
    have := Heap.get?_push_size (s.heap.push o) (o := { cls := .type "enumerate", data := .fields #[.none, .bool false, .ref s.heap.objs.size, rawInt 0, .none, .none] }) rfl
    rw [hz] at this; exact this
  refine ⟨⟨_, he, rfl⟩, h _ he (Heap.get?_push_of_some _ (Heap.get?_push_size _ B.free)) (by rw [Heap.size_push, hz]) fun b o x => Heap.get?_push_of_some _ (Heap.get?_push_of_some _ x)⟩
/-- the tuple at a, each item in a new pair -/
def IteT (K : PySem.W.Frag) (a : Addr) : It :=
  ⟨fun i H => ∃ (xs : List V) (x : V), SqT K H a xs ∧ xs[i]? = some x, fun i H v H' => ∃ T x, v = .ref T ∧ H T = none ∧ H' = upd H T (.tup [.int (i : Nat), x]) ∧ ∀ xs, SqT K H a xs → xs[i]? = some x, fun i H => ∃ xs : List V, SqT K H a xs ∧ xs.length ≤ i⟩
theorem turn_enumT {P : Program} {w : World} {K : PySem.W.Frag} {elts : List Expr} {kk : Nat} {tpos : Pos} (a e it : Addr) :
    Turn P w K (.Tuple elts kk tpos) (IteT K a) [e, it] e (fun i h => (∃ old, IsEnum h e it ((i : Nat) : Int) old) ∧ h.IsTupleIter it a i ∧ e ≠ it ∧ a ≠ it ∧ a ≠ e) where
  mem := by simp
  obj := fun i h st b hb => by
    obtain ⟨⟨old, he⟩, ⟨o, ho, hc, hd⟩, _⟩ := st
    have e' : b = e ∨ b = it := by simpa using hb
    rcases e' with z | z
    · rw [z]; exact ⟨_, he, fun v q => nomatch q⟩
    · rw [z]; exact ⟨o, ho, fun v q => by rw [hd] at q; cases q⟩
  keep := fun i h h' st k => let ⟨⟨old, he⟩, hi, hne⟩ := st; ⟨⟨old, k e (by simp) _ he⟩, hi.at fun o q => k it (by simp) o q, hne⟩
  item := by
    intro X hP hw hK hc i pins s σ H E I hf st hg
    subst hP hw hK
    obtain ⟨⟨old, he⟩, hit, hne, hai, hae⟩ := st
    obtain ⟨xs, x, hq, hx⟩ := hg
    obtain ⟨its, rv, p, hz⟩ := I.tuple hq
    obtain ⟨u, hu, ru⟩ := rv.get hx
    have pt : s.heap.IsTuple a its.toArray := p
    have hel : e < s.heap.objs.size := Heap.lt_size he
    have hil : it < s.heap.objs.size := by obtain ⟨_, q, _⟩ := hit; exact Heap.lt_size q
    have hlt : i < its.toArray.size := by
      have := (List.getElem?_eq_some_iff.mp hu).1
      simpa using this
    have hnf : e ∉ [it, a] := by
      intro q
      rcases List.mem_cons.mp q with z | z
      · exact hne z
      · exact hae (List.mem_singleton.mp z).symm
    have D := Draws.tuple (prog := X.prog) (w := X.w) (A := X.A.in1) (show X.A.in1.handled = none from I.ok.hd hc) it a hai its.toArray
    refine wpAny_pyNext_enum_itemD D he ⟨hit, pt⟩ hlt hne hnf fun x' h' tk hP ho hst' hT hsz hk => ?_
    have exu : x' = u := by
      have z : its[i]? = some x' := by simpa using hP
      rw [hu] at z; exact (Option.some.inj z).symm
    subst exu
    refine ⟨_, rfl, wpAny_letOwnedTupleGo_enum (s := { s with heap := h', toks := tk + 1 }) ho fun h'' he' sb => ?_⟩
    have hT2 : h''.get? s.heap.objs.size = some { cls := .type "tuple", data := .seq #[.int i tk, x'] } := (sb.2 _ (Nat.ne_of_gt hel)).trans hT
    have new : ObjOk X.prog X.w (upd H s.heap.objs.size (.tup [.int (i : Nat), x])) h'' s.heap.objs.size (.tup [.int (i : Nat), x]) :=
      ⟨by show 2 ≤ sizeLine; decide, [.int i tk, x'], .cons ⟨_, rfl⟩ (.cons ru .nil), ⟨_, hT2, rfl, _, rfl⟩⟩
    have I1 : Inv X pins σ (upd H s.heap.objs.size (.tup [.int (i : Nat), x])) { s with heap := h'', toks := tk + 1 } :=
      I.turnedNew (ch := [e, it]) (fun b ob hb q => (sb.2 b (fun z => hb (by simp [z]))).trans (hk b ob (fun z => hb (by simp [z])) (fun z => hb (by simp [z])) q)) hf (Nat.le_refl _) new
    refine ⟨.ref s.heap.objs.size, _, I1, rfl, ⟨_, x, rfl, I.hok.fresh (Nat.le_refl _), rfl, fun ys hy => by rw [I.tuple_inj hy hq]; exact hx⟩, ⟨⟨x', ?_⟩, hst'.1.at fun o q => (sb.2 it (Ne.symm hne)).trans q, hne, hai, hae⟩, fun b hb => ?_⟩
    · have e1 : ((i + 1 : Nat) : Int) = (i : Int) + 1 := by omega
      rw [e1]; exact he'
    · have hb' : b < s.heap.objs.size := by
        have e' : b = e ∨ b = it := by simpa using hb
        rcases e' with z | z
        · rw [z]; exact hel
        · rw [z]; exact hil
      rw [upd_ne (Nat.ne_of_lt hb')]
      exact (hf b hb).1
  done := by
    intro X hP hw hK hc i pins s σ H E I hf st hg
    subst hP hw hK
    obtain ⟨⟨old, he⟩, hit, hne, hai, hae⟩ := st
    obtain ⟨xs, hq, hx⟩ := hg
    obtain ⟨its, rv, p, hz⟩ := I.tuple hq
    have pt : s.heap.IsTuple a its.toArray := p
    obtain ⟨f0, f1, f2, f3, f4, f5⟩ := hf it (by simp)
    have hl := rv.length
    have hT : s.TypeIs (.ref e) "enumerate" := ⟨_, he, rfl⟩
    unfold pyNext
    refine wpAny_bind (wpAny_attempt (wpAny_callSpecial?_slot (name := Str.ofString "__next__") hT F.slot_enumerate_next
      (wpAny_call_entry F.slot_enumerate_next hT F.entry_enumerate_next ?_ (F.args_enumerate_next_1 _))))
    show wpAny _ _ (field (.ref e) 2 >>= _) _ _ _
    refine wpAny_bind (wpAny_field he rfl (x := .ref it) rfl ?_)
    refine wpAny_bind (wpAny_nextOf_tuple_end (I.ok.hd hc) hit pt (by simp; omega) fun h' x he' hx' => ?_)
    obtain ⟨o, ho, hc'⟩ := hx'
    refine wpAny_bind (wpAny_isInstance (T := "StopIteration") (b := true) ⟨o, ho, hc'⟩ isSubtype_stop ?_)
    exact wpAny_pure ⟨rfl, I.turned (t' := s.toks) (fun b o hb q => he' b o hb q) f0 f1 f3 f4 f5⟩
  self := fun A i s Q E st h => let ⟨⟨_, he⟩, _⟩ := st; wpAny_pyIter_enum he h
def iEnumT (K : PySem.W.Frag) (ta : TA) : TI := fun σ H R => ta σ H fun vs H1 => ∃ a xs, vs = [.ref a] ∧ SqT K H1 a xs ∧ R (IteT K a) H1
theorem pi_enumT {X : Cx} {e : Expr} {ta : TA} {p pos tpos : Pos} {elts : List Expr} {kk : Nat} (hg : Gl X "enumerate") (hm : X.mg "enumerate" = none) (ha : PA X [e] ta) (hs : starEach [e] X.env = [(false, eval e X.env)] := by rfl) :
    PI X (.Tuple elts kk tpos) (.Call (.Name "enumerate" p) [e] [] pos) (iEnumT X.K ta) := by
  refine ⟨fun pins s σ H R I h => ?_⟩
  refine Call_ (ld_blt I hg hm boot_enumerate (PyProof.Rows.callWith_type1 (thn (ha.run pos pins s σ H _ I h) fun us s1 ⟨vs, H1, I1, r1, q1⟩ => ?_) hs rfl))
  obtain ⟨a, xs, ex, hq, q⟩ := q1
  subst ex
  cases r1 with
  | cons r rr =>
    cases rr
    cases r
    obtain ⟨its, rv, p', hz⟩ := I1.tuple hq
    have pt : s1.heap.IsTuple a its.toArray := p'
    have hal : a < s1.heap.objs.size := by obtain ⟨_, q, _⟩ := pt; exact Heap.lt_size q
    refine call_enum1 (begins_tuple a its.toArray) pt fun h' he hit hsz hk => wpAny_pyIter_enum he ?_
    have I2 : Inv X pins σ H1 { s1 with heap := h' } := I1.kept (t' := s1.toks) hk
    refine ⟨s1.heap.objs.size + 1, [s1.heap.objs.size + 1, s1.heap.objs.size], _, _, H1, rfl, I2, turn_enumT a (s1.heap.objs.size + 1) s1.heap.objs.size, ⟨⟨.none, he⟩, ⟨_, hit, rfl, rfl⟩, Nat.succ_ne_self _, Nat.ne_of_lt hal, Nat.ne_of_lt (Nat.lt_succ_of_lt hal)⟩, fun b hb => ?_, q⟩
    have e' : b = s1.heap.objs.size + 1 ∨ b = s1.heap.objs.size := by simpa using hb
    have hle : s1.heap.objs.size ≤ b := by
      rcases e' with z | z
      · rw [z]; exact Nat.le_add_right _ _
      · rw [z]; exact Nat.le_refl _
    exact I1.fpOk hle (I1.hok.fresh hle)
theorem wk_enumT {x : Fx} {F : Hp} {A : Addr} {vs : List V} {ds : List D} (h : SqT x.K F A vs) (hi : IsAll x.K F vs ds) : Wk x F (IteT x.K A) (enumD 0 ds) := by
  intro α F' S H le r i
  have hq : SqT x.K H A vs := le_t (le.trans r.le) h
  refine ⟨fun d hd => ?_, fun hl => ⟨vs, hq, by rw [enumD_len] at hl; rw [hi.length]; exact hl⟩⟩
  obtain ⟨z, hz, rfl⟩ := enumD_get ds 0 i d hd
  obtain ⟨v, h1, h2⟩ := hi.get hz
  refine ⟨⟨vs, v, hq, h1⟩, fun w H' y => ?_⟩
  obtain ⟨T, y0, rfl, hT, rfl, y⟩ := y
  have e := y vs hq
  rw [h1] at e
  cases e
  obtain ⟨r3, e3⟩ := r.frozen (o := .tup [.int (i : Nat), v]) hT
  refine ⟨_, r3, e3, .tup (SqT.of upd_same) (.cons ?_ (.cons (Is.mono (le.trans e3.fr) _ _ h2) .nil))⟩
  rw [Nat.zero_add]
  exact .int _
/-- enumerate over a list or a tuple -/
def iEnumA (K : PySem.W.Frag) (ta : TA) : TI := fun σ H R => ta σ H fun vs H1 => ∃ a, vs = [.ref a] ∧ ((∃ xs, SqL K H1 a xs ∧ R (Ite K a) H1) ∨ (∃ xs, SqT K H1 a xs ∧ R (IteT K a) H1))
theorem pi_enumA {X : Cx} {e : Expr} {ta : TA} {p pos tpos : Pos} {elts : List Expr} {kk : Nat} (hg : Gl X "enumerate") (hm : X.mg "enumerate" = none) (ha : PA X [e] ta) (hs : starEach [e] X.env = [(false, eval e X.env)] := by rfl) :
    PI X (.Tuple elts kk tpos) (.Call (.Name "enumerate" p) [e] [] pos) (iEnumA X.K ta) := by
  refine ⟨fun pins s σ H R I h => ?_⟩
  refine Call_ (ld_blt I hg hm boot_enumerate (PyProof.Rows.callWith_type1 (thn (ha.run pos pins s σ H _ I h) fun us s1 ⟨vs, H1, I1, r1, q1⟩ => ?_) hs rfl))
  obtain ⟨a, ex, q1⟩ := q1
  subst ex
  cases r1 with
  | cons r rr =>
    cases rr
    cases r
    rcases q1 with ⟨xs, hq, q⟩ | ⟨xs, hq, q⟩
    · obtain ⟨its, rv, p', hz⟩ := I1.list hq
      refine call_enumerate_list p'.isList fun h' he hit hsz hk => wpAny_pyIter_enum he ?_
      have I2 : Inv X pins σ H1 { s1 with heap := h' } := I1.kept (t' := s1.toks) hk
      refine ⟨s1.heap.objs.size + 1, [s1.heap.objs.size + 1, s1.heap.objs.size], _, _, H1, rfl, I2, turn_enum a (s1.heap.objs.size + 1) s1.heap.objs.size, ⟨⟨.none, he⟩, hit, Nat.succ_ne_self _⟩, fun b hb => ?_, q⟩
      have e' : b = s1.heap.objs.size + 1 ∨ b = s1.heap.objs.size := by simpa using hb
      have hle : s1.heap.objs.size ≤ b := by
        rcases e' with z | z
        · rw [z]; exact Nat.le_add_right _ _
        · rw [z]; exact Nat.le_refl _
      exact I1.fpOk hle (I1.hok.fresh hle)
    · obtain ⟨its, rv, p', hz⟩ := I1.tuple hq
      have pt : s1.heap.IsTuple a its.toArray := p'
      have hal : a < s1.heap.objs.size := by obtain ⟨_, q, _⟩ := pt; exact Heap.lt_size q
      refine call_enum1 (begins_tuple a its.toArray) pt fun h' he hit hsz hk => wpAny_pyIter_enum he ?_
      have I2 : Inv X pins σ H1 { s1 with heap := h' } := I1.kept (t' := s1.toks) hk
      refine ⟨s1.heap.objs.size + 1, [s1.heap.objs.size + 1, s1.heap.objs.size], _, _, H1, rfl, I2, turn_enumT a (s1.heap.objs.size + 1) s1.heap.objs.size, ⟨⟨.none, he⟩, ⟨_, hit, rfl, rfl⟩, Nat.succ_ne_self _, Nat.ne_of_lt hal, Nat.ne_of_lt (Nat.lt_succ_of_lt hal)⟩, fun b hb => ?_, q⟩
      have e' : b = s1.heap.objs.size + 1 ∨ b = s1.heap.objs.size := by simpa using hb
      have hle : s1.heap.objs.size ≤ b := by
        rcases e' with z | z
        · rw [z]; exact Nat.le_add_right _ _
        · rw [z]; exact Nat.le_refl _
      exact I1.fpOk hle (I1.hok.fresh hle)
def sEnumA (us : List U) (S : Store) : R (List D) := match us with
  | [u] => (seqD u S).bind fun ds S1 => .ok (enumD 0 ds) S1
  | _ => .bad
theorem fit_enumA {x : Fx} {W : WX} {ts : TA} {fs : Vr → Store → R (List U)} (h : FitA x W ts fs) : FitI x W (iEnumA x.K ts) (sN sEnumA fs) := by
  intro α F ρ S σ H r0 s Q q
  refine h.bind r0 s q fun α1 F1 S1 H1 vs us e1 r1 s1 i1 p1 => ?_
  unfold sEnumA at p1
  split at p1
  · rename_i u
    obtain ⟨v, rfl, i2⟩ := us1 i1
    cases hs : seqD u S1 with
    | ok ds S2 =>
      rw [hs] at p1
      obtain ⟨F2, A, ws, r2, e2, rfl, h1, h2⟩ := seqD_ok r1 i2 hs
      rcases h2 with h2 | h2
      · exact ⟨A, rfl, .inl ⟨ws, le_l r2.le h2, p1 α1 F2 H1 _ e2 r2 (wk_enum h2 h1)⟩⟩
      · exact ⟨A, rfl, .inr ⟨ws, le_t r2.le h2, p1 α1 F2 H1 _ e2 r2 (wk_enumT h2 h1)⟩⟩
    | exc _ _ _ => exact absurd hs seqD_bad
    | bad => rw [hs] at p1; exact p1.elim
  · exact p1.elim
theorem di_enumA {X : Cx} {x : Fx} {W : WX} {a : Expr} {ts : TA} {fs : Vr → Store → R (List U)} {n : Nat} {p pos : Pos} {elts : List Expr} {kk : Nat} {tpos : Pos} (hK : x.K = X.K) (hm : X.mg "enumerate" = none) (h : DA X x W [a] ts fs n) (hg : Gl X "enumerate" := by rfl) (hs : starEach [a] X.env = [(false, eval a X.env)] := by rfl) :
    DI X x W (.Tuple elts kk tpos) (.Call (.Name "enumerate" p) [a] [] pos) (iEnumA X.K ts) (sN sEnumA fs) := ⟨pi_enumA hg hm h.pa hs, hK ▸ fit_enumA h.fit⟩
end Z

/-! Z21: lists apart from the store: made, changed, adopted at the end. -/
namespace Z
open PySem PySem.Spec PyProof.Rows L2
section
variable {x : Fx} {α : Nat → Addr} {F : Hp} {S : Store} {H : Hp}
/-- a list lies apart: not frozen, no cell of the store -/
structure Apart (α : Nat → Addr) (F : Hp) (n : Nat) (p : Addr) : Prop where
  fr : F p = none
  st : ∀ i, i < n → α i ≠ p
theorem Rep.apartNew (r : Rep x α F S H) {p : Addr} (hp : H p = none) : Apart α F S.length p := by
  refine ⟨?_, fun i h z => ?_⟩
  · cases e : F p with
    | none => rfl
    | some q => rw [r.le _ _ e] at hp; cases hp
  · obtain ⟨vs, q⟩ := r.old i h
    rw [z, hp] at q
    cases q
/-- a new list apart -/
theorem Rep.newApart (r : Rep x α F S H) {p : Addr} {o : HO} (hp : H p = none) : Rep x α F S (upd H p o) := by
  have a := r.apartNew hp
  refine ⟨fun b u e => ?_, r.inj, fun i ds e => ?_, fun i h => ?_, r.tabs.ext fun b o e => ?_, r.tabF⟩
  · rw [upd_ne (ne_of_none e a.fr)]; exact r.le _ _ e
  · have hi : i < S.length := (List.getElem?_eq_some_iff.mp e).1
    obtain ⟨h1, vs, h2, h3⟩ := r.cell i ds e
    exact ⟨h1, vs, by rw [upd_ne (a.st i hi)]; exact h2, h3⟩
  · rw [upd_ne (a.st i h)]; exact r.old i h
  · rw [upd_ne (ne_of_none e hp)]; exact e
/-- a list apart changes -/
theorem Rep.setApart (r : Rep x α F S H) {p : Addr} {vs ws : List V} (hp : H p = some (.lst vs)) (a : Apart α F S.length p) : Rep x α F S (upd H p (.lst ws)) := by
  refine ⟨fun b u e => ?_, r.inj, fun i ds e => ?_, fun i h => ?_, fun q hq => ?_, r.tabF⟩
  · rw [upd_ne (ne_of_none e a.fr)]; exact r.le _ _ e
  · have hi : i < S.length := (List.getElem?_eq_some_iff.mp e).1
    obtain ⟨h1, us, h2, h3⟩ := r.cell i ds e
    exact ⟨h1, us, by rw [upd_ne (a.st i hi)]; exact h2, h3⟩
  · rw [upd_ne (a.st i h)]; exact r.old i h
  · obtain ⟨ps, h1, h2, h3⟩ := r.tabs q hq
    have n1 : q.1 ≠ p := fun z => by rw [z, hp] at h1; cases h1
    refine ⟨ps, by rw [upd_ne n1]; exact h1, h2, fun pos cv hc => ?_⟩
    obtain ⟨c, e1, e2⟩ := h3 pos cv hc
    refine ⟨c, e1, ?_⟩
    have n2 : c ≠ p := fun z => by
      rw [z, hp] at e2
      unfold LamX.CodeO at e2
      cases e2
    rw [upd_ne n2]
    exact e2
/-- a list apart stops changing -/
theorem Rep.adopt (r : Rep x α F S H) {p : Addr} {vs : List V} (hp : H p = some (.lst vs)) (a : Apart α F S.length p) : Rep x α (upd F p (.lst vs)) S H ∧ Ext α α F (upd F p (.lst vs)) S S := by
  refine ⟨⟨fun b u e => ?_, r.inj, fun i ds e => ?_, r.old, r.tabs, fun q ps hq => ?_⟩, ⟨Nat.le_refl _, fun _ _ => rfl, Le.new a.fr⟩⟩
  · by_cases z : b = p
    · subst z
      rw [upd_same] at e
      rw [← e]; exact hp
    · rw [upd_ne z] at e
      exact r.le _ _ e
  · have hi : i < S.length := (List.getElem?_eq_some_iff.mp e).1
    obtain ⟨h1, us, h2, h3⟩ := r.cell i ds e
    exact ⟨by rw [upd_ne (a.st i hi)]; exact h1, us, h2, IsAll.mono (Le.new a.fr) _ _ h3⟩
  · by_cases z : q = p
    · rw [z, upd_same] at hq
      cases hq
    · rw [upd_ne z] at hq
      exact r.tabF q ps hq
theorem Apart.upd {p q : Addr} {n : Nat} {o : HO} (a : Apart α F n p) (h : q ≠ p) : Apart α (L2.upd F q o) n p := ⟨by rw [upd_ne (Ne.symm h)]; exact a.fr, a.st⟩
end
end Z

/-! Z22: list(..), tuple(..) of a list or a tuple. -/
namespace Z
open PySem PySem.Spec PyProof.Rows L2
/-- the items of a list or tuple as it stands -/
def viewS (u : U) (S : Store) : Option (List D) := match u with
  | .d (.tuple xs) => some xs
  | u => viewL u S
/-- list(..), a list that may change -/
def uListL (us : List U) (S : Store) : R U := match us with
  | [u] => (match viewS u S with
    | some ds => .ok (.loc S.length) (S ++ [some ds])
    | none => .bad)
  | _ => .bad
/-- list(..), a list that stays -/
def uListD (us : List U) (S : Store) : R U := match us with
  | [u] => (match viewS u S with
    | some ds => .ok (.d (.list ds)) S
    | none => .bad)
  | _ => .bad
def uTupleOf (us : List U) (S : Store) : R U := match us with
  | [u] => (match viewS u S with
    | some ds => .ok (.d (.tuple ds)) S
    | none => .bad)
  | _ => .bad
section
variable {x : Fx}
theorem viewS_ok {α : Nat → Addr} {F : Hp} {S : Store} {H : Hp} {v : V} {u : U} {ds : List D} (r : Rep x α F S H) (i : IsU x α F S.length v u) (e : viewS u S = some ds) :
    ∃ A vs, v = .ref A ∧ IsAll x.K F vs ds ∧ (SqL x.K H A vs ∨ (SqT x.K H A vs ∧ SqT x.K F A vs)) := by
  unfold viewS at e
  split at e
  · rename_i xs
    cases e
    have i' : Is x.K F v (.tuple ds) := i
    cases i' with
    | tup h1 h2 => exact ⟨_, _, rfl, h2, .inr ⟨le_t r.le h1, h1⟩⟩
  · obtain ⟨a, ws, rfl, ha, ia⟩ := viewL_ok r i e
    exact ⟨a, ws, rfl, ia, .inl ha⟩
abbrev rListOf (K : PySem.W.Frag) : List V → Hp → VK → Prop := fun xs H Q => ∃ p ys, xs = [.ref p] ∧ (SqL K H p ys ∨ SqT K H p ys) ∧ ∀ l, H l = none → Q (.ref l) (upd H l (.lst ys))
abbrev rTupOf (K : PySem.W.Frag) : List V → Hp → VK → Prop := fun xs H Q => ∃ p ys, xs = [.ref p] ∧ ((SqL K H p ys ∧ ∀ l, H l = none → Q (.ref l) (upd H l (.tup ys))) ∨ (SqT K H p ys ∧ Q (.ref p) H))
theorem fit_listL : FitN x (rListOf x.K) uListL := by
  intro W α F S σ H vs us r i1 Q p
  unfold uListL at p
  split at p
  · rename_i u
    obtain ⟨v, rfl, h⟩ := us1 i1
    split at p
    · rename_i ds hv
      obtain ⟨A, ws, rfl, h1, h2⟩ := viewS_ok r h hv
      refine ⟨A, ws, rfl, h2.imp id (·.1), fun q hq => ?_⟩
      obtain ⟨r3, e3⟩ := r.fresh (vs := ws) hq h1
      refine p _ _ _ _ e3 r3 ⟨?_, ?_⟩
      · show V.ref q = V.ref (if S.length = S.length then q else α S.length)
        rw [if_pos rfl]
      · rw [List.length_append, List.length_singleton]
        exact Nat.lt_succ_self _
    · exact p.elim
  · exact p.elim
theorem fit_listD : FitN x (rListOf x.K) uListD := by
  intro W α F S σ H vs us r i1 Q p
  unfold uListD at p
  split at p
  · rename_i u
    obtain ⟨v, rfl, h⟩ := us1 i1
    split at p
    · rename_i ds hv
      obtain ⟨A, ws, rfl, h1, h2⟩ := viewS_ok r h hv
      refine ⟨A, ws, rfl, h2.imp id (·.1), fun q hq => ?_⟩
      obtain ⟨r3, e3⟩ := r.frozen (o := .lst ws) hq
      exact p _ _ _ _ e3 r3 (.lst upd_same (IsAll.mono e3.fr _ _ h1))
    · exact p.elim
  · exact p.elim
theorem fit_tupleOf : FitN x (rTupOf x.K) uTupleOf := by
  intro W α F S σ H vs us r i1 Q p
  unfold uTupleOf at p
  split at p
  · rename_i u
    obtain ⟨v, rfl, h⟩ := us1 i1
    split at p
    · rename_i ds hv
      obtain ⟨A, ws, rfl, h1, h2⟩ := viewS_ok r h hv
      rcases h2 with h2 | h2
      · refine ⟨A, ws, rfl, .inl ⟨h2, fun q hq => ?_⟩⟩
        obtain ⟨r3, e3⟩ := r.frozen (o := .tup ws) hq
        exact p _ _ _ _ e3 r3 (.tup (SqT.of upd_same) (IsAll.mono e3.fr _ _ h1))
      · exact ⟨A, ws, rfl, .inr ⟨h2.1, p _ _ _ _ (Ext.refl _ _ _) r (.tup h2.2 h1)⟩⟩
    · exact p.elim
  · exact p.elim
end
section
variable {X : Cx} {x : Fx} {W : WX} {e : Expr} {es : List Expr} {ts : TA} {fs : Vr → Store → R (List U)} {n : Nat} {pos p : Pos}
theorem de_listL (hK : x.K = X.K) (hm : X.mg "list" = none) (ha : DA X x W (e :: es) ts fs n) (hg : Gl X "list" := by rfl) (he : starEach (e :: es) X.env = (false, eval e X.env) :: starEach es X.env := by rfl) (hpl : (backTo pos (starEach es X.env)).any (·.1) = false := by rfl) :
    DE X x W (.Call (.Name "list" p) (e :: es) [] pos) (tCB (rListOf X.K) ts) (fN uListL fs) := de_callTy call_list_of (hK ▸ fit_listL) hm (by decide +kernel) ha hg (by decide) (by decide) he hpl
theorem de_listD (hK : x.K = X.K) (hm : X.mg "list" = none) (ha : DA X x W (e :: es) ts fs n) (hg : Gl X "list" := by rfl) (he : starEach (e :: es) X.env = (false, eval e X.env) :: starEach es X.env := by rfl) (hpl : (backTo pos (starEach es X.env)).any (·.1) = false := by rfl) :
    DE X x W (.Call (.Name "list" p) (e :: es) [] pos) (tCB (rListOf X.K) ts) (fN uListD fs) := de_callTy call_list_of (hK ▸ fit_listD) hm (by decide +kernel) ha hg (by decide) (by decide) he hpl
theorem de_tupleOf (hK : x.K = X.K) (hm : X.mg "tuple" = none) (ha : DA X x W (e :: es) ts fs n) (hg : Gl X "tuple" := by rfl) (he : starEach (e :: es) X.env = (false, eval e X.env) :: starEach es X.env := by rfl) (hpl : (backTo pos (starEach es X.env)).any (·.1) = false := by rfl) :
    DE X x W (.Call (.Name "tuple" p) (e :: es) [] pos) (tCB (rTupOf X.K) ts) (fN uTupleOf fs) := de_callTy call_tuple_of (hK ▸ fit_tupleOf) hm (by decide +kernel) ha hg (by decide) (by decide) he hpl
end
end Z

/-! Z23: in, not in, over a list or tuple of data. -/
namespace Z
open PySem PySem.Spec PyProof.Rows L2
def rInA (K : PySem.W.Frag) (f : Bool → Bool) : R2 := fun x y H Q => ∃ d ds, Dp K H x d ∧ (Dp K H y (.list ds) ∨ Dp K H y (.tuple ds)) ∧ SeqAt.shaped d = true ∧ SeqAt.shaped (.list ds) = true ∧ Q (.bl (f (ds.any fun z => PyData.eqv z d))) H
theorem op_inA {X : Cx} (hu : X.A.units + 65 < cLine) : OpR X (compareOp .In) (rInA X.K id) := by
  intro pins s σ H x y v u Q I rx ry h
  obtain ⟨d, ds, hd, he, sd, se, q⟩ := h
  obtain ⟨as, r1⟩ := Dp.reads I d x v hd rx
  rcases he with he | he
  · obtain ⟨bs, r2⟩ := Dp.reads I (.list ds) y u he ry
    exact SeqAt.in_list_reads r2 r1 (SeqAt.canLay_of_shaped se) (SeqAt.canLay_of_shaped sd) (room_in_shaped sd hu) ⟨.bl _, H, I, rfl, q⟩
  · obtain ⟨bs, r2⟩ := Dp.reads I (.tuple ds) y u he ry
    exact SeqAt.in_tuple_reads r2 r1 (SeqAt.canLay_of_shaped se) (SeqAt.canLay_of_shaped sd) (room_in_shaped sd hu) ⟨.bl _, H, I, rfl, q⟩
theorem op_notInA {X : Cx} (hu : X.A.units + 65 < cLine) : OpR X (compareOp .NotIn) (rInA X.K not) := by
  intro pins s σ H x y v u Q I rx ry h
  obtain ⟨d, ds, hd, he, sd, se, q⟩ := h
  obtain ⟨as, r1⟩ := Dp.reads I d x v hd rx
  rcases he with he | he
  · obtain ⟨bs, r2⟩ := Dp.reads I (.list ds) y u he ry
    exact SeqAt.notIn_list_reads r2 r1 (SeqAt.canLay_of_shaped se) (SeqAt.canLay_of_shaped sd) (room_in_shaped sd hu) ⟨.bl _, H, I, rfl, q⟩
  · obtain ⟨bs, r2⟩ := Dp.reads I (.tuple ds) y u he ry
    exact SeqAt.notIn_tuple_reads r2 r1 (SeqAt.canLay_of_shaped se) (SeqAt.canLay_of_shaped sd) (room_in_shaped sd hu) ⟨.bl _, H, I, rfl, q⟩
def uInF (f : Bool → Bool) (u w : U) (S : Store) : R U := match viewD u S, viewD w S with
  | some a, some (.list ds) => if (SeqAt.shaped a && SeqAt.shaped (.list ds)) = true then .ok (.d (.bool (f (ds.any fun z => PyData.eqv z a)))) S else .bad
  | some a, some (.tuple ds) => if (SeqAt.shaped a && SeqAt.shaped (.list ds)) = true then .ok (.d (.bool (f (ds.any fun z => PyData.eqv z a)))) S else .bad
  | _, _ => .bad
theorem fit_inF {x : Fx} (f : Bool → Bool) : Fit2 x (rInA x.K f) (uInF f) := by
  intro W α F S σ H v w u u' r i1 i2 Q p
  unfold uInF at p
  split at p
  · rename_i a ds h1 h2
    split at p
    · rename_i hs
      rw [Bool.and_eq_true] at hs
      exact ⟨a, ds, viewD_ok r i1 h1, .inl (viewD_ok r i2 h2), hs.1, hs.2, ok_here r p (.bl _)⟩
    · exact p.elim
  · rename_i a ds h1 h2
    split at p
    · rename_i hs
      rw [Bool.and_eq_true] at hs
      exact ⟨a, ds, viewD_ok r i1 h1, .inr (viewD_ok r i2 h2), hs.1, hs.2, ok_here r p (.bl _)⟩
    · exact p.elim
  · exact p.elim
theorem c_in {X : Cx} {x : Fx} (hK : x.K = X.K) (hu : X.A.units + 65 < cLine) : CmpOk X x .In (rInA X.K id) (uInF id) := ⟨op_inA hu, hK ▸ fit_inF id⟩
theorem c_notIn {X : Cx} {x : Fx} (hK : x.K = X.K) (hu : X.A.units + 65 < cLine) : CmpOk X x .NotIn (rInA X.K not) (uInF not) := ⟨op_notInA hu, hK ▸ fit_inF not⟩
theorem units_ok1 {A : Around} {k : Nat} (hr : Room k A) : A.units + 65 < cLine := by
  have := hr.un
  omega
end Z

/-! Z24: pop(i), insert(i, x). -/
namespace Z
open PySem PySem.Spec PyProof.Rows L2
def uPopAt (u : U) (us : List U) (S : Store) : R U := match u, us with
  | .loc l, [.d (.int i)] => (match S[l]? with
    | some (some ds) => if -(2 ^ 63) ≤ i ∧ i < 2 ^ 63 then (match seqIndex? i ds.length with
      | some k => (match ds[k]? with
        | some y => .ok (.d y) (S.set l (some (ds.eraseIdx k)))
        | none => .bad)
      | none => .bad) else .bad
    | _ => .bad)
  | _, _ => .bad
def uIns (u : U) (us : List U) (S : Store) : R U := match u, us with
  | .loc l, [.d (.int i), w] => (match frz w S with
    | some (y, S1) => (match S1[l]? with
      | some (some ds) => if ds.length < 1000000 ∧ 0 ≤ i ∧ i < 2 ^ 63 then .ok (.d .none) (S1.set l (some (ds.take i.toNat ++ [y] ++ ds.drop i.toNat))) else .bad
      | _ => .bad)
    | none => .bad)
  | _, _ => .bad
abbrev rInsert : V → List V → Hp → VK → Prop := fun x vs H Q => ∃ (l : Addr) (xs : List V) (i : Int) (y : V), x = .ref l ∧ vs = [.int i, y] ∧ H l = some (.lst xs) ∧ xs.length < sizeLine ∧ 0 ≤ i ∧ i < 2 ^ 63 ∧
    Q .non (upd H l (.lst (xs.take i.toNat ++ [y] ++ xs.drop i.toNat)))
section
variable {x : Fx}
theorem IsAll.eraseIdx {K : PySem.W.Frag} {F : Hp} {vs : List V} {ds : List D} (k : Nat) (h : IsAll K F vs ds) : IsAll K F (vs.eraseIdx k) (ds.eraseIdx k) := by
  rw [List.eraseIdx_eq_take_drop_succ, List.eraseIdx_eq_take_drop_succ]
  exact (h.take k).append (h.drop (k + 1))
theorem fit_popAt : FitM x rPopAt uPopAt := by
  intro W α F S σ H v u vs us r i1 i2 Q q
  unfold uPopAt at q
  split at q
  · rename_i l i
    obtain ⟨v2, rfl, i3⟩ := us1 i2
    rw [is_int i3]
    split at q
    · rename_i ds hl
      obtain ⟨c1, ws, c2, c3⟩ := r.cell l ds hl
      split at q
      · rename_i hb
        split at q
        · rename_i k hk
          split at q
          · rename_i y hy
            obtain ⟨z, h1, h2⟩ := c3.get hy
            obtain ⟨rfl, _⟩ := is_loc i1
            obtain ⟨r2, e2⟩ := r.write hl (c3.eraseIdx k)
            exact ⟨_, ws, i, k, z, rfl, rfl, c2, hb.1, hb.2, by rw [c3.length]; exact hk, h1, q _ _ _ _ e2 r2 h2⟩
          · exact q.elim
        · exact q.elim
      · exact q.elim
    · exact q.elim
  · exact q.elim
theorem fit_ins : FitM x rInsert uIns := by
  intro W α F S σ H v u vs us r i1 i2 Q q
  unfold uIns at q
  split at q
  · rename_i l i w
    obtain ⟨v2, v3, rfl, i3, i4⟩ := us2 i2
    rw [is_int i3]
    split at q
    · rename_i y S1 hf
      obtain ⟨F1, r1, e1, j1⟩ := frz_ok r i4 hf
      split at q
      · rename_i ds hl
        obtain ⟨c1, ws, c2, c3⟩ := r1.cell l ds hl
        split at q
        · rename_i hz
          obtain ⟨rfl, _⟩ := is_loc i1
          obtain ⟨r2, e2⟩ := r1.write hl (((c3.take i.toNat).append (IsAll.one j1)).append (c3.drop i.toNat))
          exact ⟨_, ws, i, v3, rfl, rfl, c2, lt_line (by rw [c3.length]; exact hz.1), hz.2.1, hz.2.2, q _ _ _ _ (e1.trans e2) r2 .non⟩
        · exact q.elim
      · exact q.elim
    · exact q.elim
  · exact q.elim
end
section
variable {X : Cx} {x : Fx} {W : WX} {e o : Expr} {es : List Expr} {te : TE} {fe : Vr → Store → R U} {ts : TA} {fs : Vr → Store → R (List U)} {n : Nat} {apos cpos : Pos}
theorem de_popAt (hK : x.K = X.K) (ho : DE X x W o te fe) (ha : DA X x W (e :: es) ts fs n) (hbase : attributeBase o "pop" X.env (eval o X.env) = eval o X.env := by rfl)
    (hfew : ((backTo cpos (starEach (e :: es) X.env)).all (fun x => !x.1) && (backToKw cpos (keywordEach [] X.env)).all (fun x => x.1.isSome) && decide ((e :: es).length + ([] : List Keyword).length + (if ([] : List Keyword).isEmpty then 0 else 1) < 30)) = true := by rfl)
    (hline : (apos.endLine == cpos.line) = true := by rfl) (hs : starEach (e :: es) X.env = (false, eval e X.env) :: starEach es X.env := by rfl) (hplain : (backTo cpos (starEach es X.env)).any (·.1) = false := by rfl) :
    DE X x W (.Call (.Attribute o "pop" apos) (e :: es) [] cpos) (tBM x.K "list" rPopAt te ts) (fML uPopAt fe fs) :=
  ⟨hK ▸ pe_bm PySem.F.plainAttrs_list PySem.F.slot_list_pop PySem.F.type_list_pop mt_popAt ho.pe ha.pa hbase hfew hline hs hplain, fit_mL fit_popAt ho.fit ha.fit⟩
theorem de_insert (hK : x.K = X.K) (ho : DE X x W o te fe) (ha : DA X x W (e :: es) ts fs n) (hbase : attributeBase o "insert" X.env (eval o X.env) = eval o X.env := by rfl)
    (hfew : ((backTo cpos (starEach (e :: es) X.env)).all (fun x => !x.1) && (backToKw cpos (keywordEach [] X.env)).all (fun x => x.1.isSome) && decide ((e :: es).length + ([] : List Keyword).length + (if ([] : List Keyword).isEmpty then 0 else 1) < 30)) = true := by rfl)
    (hline : (apos.endLine == cpos.line) = true := by rfl) (hs : starEach (e :: es) X.env = (false, eval e X.env) :: starEach es X.env := by rfl) (hplain : (backTo cpos (starEach es X.env)).any (·.1) = false := by rfl) :
    DE X x W (.Call (.Attribute o "insert" apos) (e :: es) [] cpos) (tBM x.K "list" rInsert te ts) (fML uIns fe fs) :=
  ⟨hK ▸ pe_bm PySem.F.plainAttrs_list PySem.F.slot_list_insert PySem.F.type_list_insert mt_insert ho.pe ha.pa hbase hfew hline hs hplain, fit_mL fit_ins ho.fit ha.fit⟩
end
end Z

/-! Z25: slices a[lo:hi] of lists and tuples. -/
namespace Z
open PySem PySem.Spec PyProof.Rows L2
def cutD (xs : List D) (lo hi : Option Int) : List D := (xs.drop (HT.sIx xs.length 0 lo)).take (HT.sIx xs.length xs.length hi - HT.sIx xs.length 0 lo)
def fNoP : Vr → Store → R (Option Int) := fun _ S => .ok none S
def intP (u : U) (S : Store) : R (Option Int) := match u with
  | .d (.int i) => .ok (some i) S
  | _ => .bad
def fPart (f : Vr → Store → R U) : Vr → Store → R (Option Int) := fun ρ S => (f ρ S).bind intP
def uSl (u : U) (lo hi : Option Int) (S : Store) : R U := match u with
  | .d (.tuple xs) => .ok (.d (.tuple (cutD xs lo hi))) S
  | u => (match viewL u S with
    | some xs => .ok (.d (.list (cutD xs lo hi))) S
    | none => .bad)
def fSl (fe : Vr → Store → R U) (fl fh : Vr → Store → R (Option Int)) : Vr → Store → R U := fun ρ S => (fe ρ S).bind fun u S1 => (fl ρ S1).bind fun l S2 => (fh ρ S2).bind fun h S3 => uSl u l h S3
structure DP (X : Cx) (x : Fx) (W : WX) (e : Option Expr) (t : TO) (f : Vr → Store → R (Option Int)) : Prop where
  po : PO X e t
  fit : FitP x W t f
abbrev rSl (K : PySem.W.Frag) : V → Option Int → Option Int → Hp → VK → Prop := fun x lo hi H Q => rSlA K x lo hi H Q ∨ rSlL K x lo hi H Q
section
variable {X : Cx} {x : Fx} {W : WX} {e : Expr} {lo hi : Option Expr} {te : TE} {fe : Vr → Store → R U} {tl th : TO} {fl fh : Vr → Store → R (Option Int)} {p2 pos : Pos}
theorem IsAll.cut {K : PySem.W.Frag} {F : Hp} {vs : List V} {ds : List D} (l h : Option Int) (i : IsAll K F vs ds) : IsAll K F (cutV vs l h) (cutD ds l h) := by
  unfold cutV cutD
  rw [i.length]
  exact (i.drop _).take _
theorem fit_noP : FitP x W tNoPart fNoP := by
  intro α F ρ S σ H r s Q p
  exact p _ _ _ _ (Ext.refl _ _ _) r rfl
theorem fit_part (h : FitE x W te fe) : FitP x W (tPart te) (fPart fe) := by
  intro α F ρ S σ H r s Q p
  refine h.bind r s p fun α1 F1 S1 H1 v u e1 r1 s1 i1 p1 => ?_
  unfold intP at p1
  split at p1
  · rename_i i
    rw [is_int i1]
    exact ⟨i, rfl, p1 _ _ _ _ (Ext.refl _ _ _) r1 rfl⟩
  · exact p1.elim
theorem dp_none : DP X x W none tNoPart fNoP := ⟨po_none, fit_noP⟩
theorem dp_some (h : DE X x W e te fe) : DP X x W (some e) (tPart te) (fPart fe) := ⟨po_some h.pe, fit_part h.fit⟩
theorem fit_sl (he : FitE x W te fe) (hl : FitP x W tl fl) (hh : FitP x W th fh) : FitE x W (tSl (rSl x.K) te tl th) (fSl fe fl fh) := by
  intro α F ρ S σ H r s Q p
  refine he.bind r s p fun α1 F1 S1 H1 v u e1 r1 s1 i1 p1 => ?_
  refine hl.bind r1 s1 p1 fun α2 F2 S2 H2 a l e2 r2 s2 i2 p2 => ?_
  refine hh.bind r2 s2 p2 fun α3 F3 S3 H3 b h e3 r3 s3 i3 p3 => ?_
  have ea : a = l := i2
  have eb : b = h := i3
  subst ea eb
  have i4 := (i1.ext e2).ext e3
  unfold uSl at p3
  split at p3
  · rename_i xs
    have i' : Is x.K F3 v (.tuple xs) := i4
    cases i' with
    | tup h1 h2 =>
      refine .inl ⟨_, _, rfl, le_t r3.le h1, fun hw => ?_, fun hw q hq => ?_⟩
      · refine p3 _ _ _ _ (Ext.refl _ _ _) r3 (.tup h1 ?_)
        have ew : cutD xs a b = xs := by
          unfold cutD
          rw [h2.length] at hw
          rw [hw.1, hw.2]
          simp
        rw [ew]
        exact h2
      · obtain ⟨r5, e5⟩ := r3.frozen (o := .tup (cutV _ a b)) hq
        exact p3 _ _ _ _ e5 r5 (.tup (SqT.of upd_same) (IsAll.mono e5.fr _ _ (IsAll.cut a b h2)))
  · split at p3
    · rename_i xs hx
      obtain ⟨A, ws, rfl, ha, ia⟩ := viewL_ok r3 i4 hx
      refine .inr ⟨A, ws, rfl, ha, fun q hq => ?_⟩
      obtain ⟨r5, e5⟩ := r3.frozen (o := .lst (cutV ws a b)) hq
      exact p3 _ _ _ _ e5 r5 (.lst upd_same (IsAll.mono e5.fr _ _ (IsAll.cut a b ia)))
    · exact p3.elim
theorem de_sl (hK : x.K = X.K) (he : DE X x W e te fe) (hl : DP X x W lo tl fl) (hh : DP X x W hi th fh) : DE X x W (.Subscript e (.Slice lo hi none p2) pos) (tSl (rSl x.K) te tl th) (fSl fe fl fh) :=
  ⟨hK ▸ pe_slice (sl_tupA.or sl_list) he.pe hl.po hh.po, fit_sl he.fit hl.fit hh.fit⟩
end
end Z

/-! Z26: class_rows, by hand: tuples that hold lists which change. -/
namespace Z
open PySem PySem.Spec PyProof.Rows L2
/-! ### what it tells -/
def okSize : D → Bool
  | .tuple [.int a, .int b] => decide (a.natAbs.log2 < 400000 ∧ b.natAbs.log2 < 400000)
  | _ => false
def dless : D → D → Bool
  | .tuple [.int a, .int b], .tuple [.int c, .int e] => decide (a * e < c * b)
  | _, _ => false
/-- a size and its bins -/
abbrev PRow := D × List Int
def crPut (d : D) (v : Int) : List PRow → List PRow
  | [] => []
  | r :: rs => if PyData.eqv r.1 d = true then (r.1, r.2 ++ [v]) :: rs else r :: crPut d v rs
def crStep (rows : List PRow) (v : Int) (d : D) : List PRow :=
  if rows.any (fun r => PyData.eqv r.1 d) = true then crPut d v rows
  else rows.take (rows.filter fun r => dless r.1 d).length ++ [(d, [v])] ++ rows.drop (rows.filter fun r => dless r.1 d).length
def crFrom (rows : List PRow) : Nat → List D → List PRow
  | _, [] => rows
  | i, d :: ds => crFrom (crStep rows (i : Int) d) (i + 1) ds
def crRows (ds : List D) : List PRow := crFrom [] 0 ds
def crD (r : PRow) : D := .tuple [r.1, .list (r.2.map PyData.int)]
theorem okSize_shaped {d : D} (h : okSize d = true) : SeqAt.shaped d = true := by
  unfold okSize at h
  split at h
  · rfl
  · cases h
/-! ### at the heap -/
structure CRow where
  T : Addr
  b : Addr
  s : V
  d : D
  bins : List Int
def CRow.p (r : CRow) : PRow := (r.d, r.bins)
structure CR (x : Fx) (α : Nat → Addr) (F : Hp) (S : Store) (A : Addr) (rs : List CRow) (H : Hp) : Prop where
  rep : Rep x α F S H
  rows : H A = some (.lst (rs.map fun r => V.ref r.T))
  tup : ∀ r ∈ rs, H r.T = some (.tup [r.s, .ref r.b])
  bin : ∀ r ∈ rs, H r.b = some (.lst (r.bins.map V.int))
  isz : ∀ r ∈ rs, Is x.K F r.s r.d
  oks : ∀ r ∈ rs, okSize r.d = true
  nd : (A :: rs.map (·.b)).Nodup
  apA : Apart α F S.length A
  apB : ∀ r ∈ rs, Apart α F S.length r.b
section
variable {x : Fx} {α : Nat → Addr} {F : Hp} {S : Store} {A : Addr} {rs : List CRow} {H H' : Hp}
theorem Rep.ext2 (r : Rep x α F S H) (e : LamX.ExtN H H') (t : LamX.Tabs x.T H') : Rep x α F S H' := r.extN e t
theorem CR.keep (c : CR x α F S A rs H) (e : LamX.ExtN H H') (t : LamX.Tabs x.T H') : CR x α F S A rs H' :=
  ⟨c.rep.extN e t, e _ _ c.rows (fun _ z => by cases z), fun r h => e _ _ (c.tup r h) (fun _ z => by cases z), fun r h => e _ _ (c.bin r h) (fun _ z => by cases z), c.isz, c.oks, c.nd, c.apA, c.apB⟩
theorem extN_new {p : Addr} {o : HO} (h : H p = none) : LamX.ExtN H (upd H p o) := fun a u e _ => by
  rw [upd_ne (ne_of_none e h)]
  exact e
theorem tabs_new {p : Addr} {o : HO} (r : Rep x α F S H) (h : H p = none) : LamX.Tabs x.T (upd H p o) := r.tabs.ext fun b o e => by
  rw [upd_ne (ne_of_none e h)]
  exact e
/-- a call that tells a truth and leaves what is known -/
theorem spOf_plain {m : List U → Store → R U} {np : Nat} {vs : List V} {us : List U} {Q : VK} {E : XK} {b : Bool} (r : Rep x α F S H) (hl : vs.length = np) (hv : IsUs x α F S.length vs us) (hp : ∀ u ∈ us, ∃ y, u = .d y) (hm : m us [] = .ok (.d (.bool b)) [])
    (q : ∀ H', LamX.ExtN H H' → LamX.Tabs x.T H' → Q (.bl b) H') : spOf x np m vs H Q E := by
  classical
  let G : Hp := fun a => match H a with
    | some (.tbl _) => none
    | o => o
  have g1 : ∀ a o, H a = some o → (∀ ps, o ≠ .tbl ps) → G a = some o := fun a o e n => by
    show (match H a with
      | some (.tbl _) => none
      | o => o) = some o
    rw [e]
    cases o <;> first | rfl | exact absurd rfl (n _)
  have g2 : Le G H := fun a o e => by
    have e' : (match H a with
      | some (.tbl _) => none
      | o => o) = some o := e
    split at e'
    · cases e'
    · exact e'
  have g3 : ∀ a ps, G a ≠ some (.tbl ps) := fun a ps e => by
    have e' : (match H a with
      | some (.tbl _) => none
      | o => o) = some (.tbl ps) := e
    split at e'
    · cases e'
    · rename_i n
      exact n _ e'
  have le : Le F G := fun a o e => g1 a o (r.le _ _ e) fun ps z => r.tabF a ps (by rw [e, z])
  have hv' : ∀ {vs : List V} {us : List U}, IsUs x α F S.length vs us → (∀ u ∈ us, ∃ y, u = .d y) → IsUs x α G 0 vs us := by
    intro vs us h
    induction h with
    | nil => intro _; exact .nil
    | cons h1 h2 ih =>
      intro hp
      obtain ⟨y, rfl⟩ := hp _ List.mem_cons_self
      exact .cons (show Is x.K G _ y from Is.mono le _ _ h1) (ih fun u hu => hp u (List.mem_cons_of_mem _ hu))
  refine ⟨α, G, [], us, hl, ⟨g2, fun i j hi => absurd hi (Nat.not_lt_zero _), fun i ds e => by simp at e, fun i hi => absurd hi (Nat.not_lt_zero _), r.tabs, g3⟩, hv' hv hp, ?_⟩
  rw [hm]
  intro α' F' H' v e1 r1 i1
  have hb : v = .bl b := is_bool i1
  subst hb
  exact q H' (fun a o e n => r1.le _ _ (e1.fr _ _ (g1 a o e n))) r1.tabs
end
section
variable {x : Fx} {α : Nat → Addr} {F : Hp} {S : Store} {A : Addr} {rs : List CRow} {H H0 H' : Hp} {s0 s2 s3 s4 s5 s6 : Option V}
/-- another list changes -/
theorem CR.side (c : CR x α F S A rs H) {p : Addr} {vs ws : List V} (hp : H p = some (.lst vs)) (a : Apart α F S.length p) (hA : p ≠ A) (hb : ∀ r ∈ rs, p ≠ r.b) : CR x α F S A rs (upd H p (.lst ws)) := by
  refine ⟨c.rep.setApart hp a, by rw [upd_ne (Ne.symm hA)]; exact c.rows, fun r h => ?_, fun r h => by rw [upd_ne (Ne.symm (hb r h))]; exact c.bin r h, c.isz, c.oks, c.nd, c.apA, c.apB⟩
  rw [upd_ne]
  · exact c.tup r h
  · intro z
    have := c.tup r h
    rw [z, hp] at this
    cases this
/-- a comprehension over the rows -/
theorem lc_rows {tt : TT} {te : TE} {keep : CRow → Option V} (c : CR x α F S A rs H)
    (ht : ∀ r ∈ rs, ∀ H1, CR x α F S A rs H1 → ∀ Q : Bool → Hp → Prop, (∀ H2, LamX.ExtN H1 H2 → LamX.Tabs x.T H2 → Q (keep r).isSome H2) → tt [s0, some (.ref A), s2, s3, s4, some r.s, some (.ref r.b)] H1 Q)
    (he : ∀ r v, keep r = some v → ∀ H1 (Q : VK), Q v H1 → te [s0, some (.ref A), s2, s3, s4, some r.s, some (.ref r.b)] H1 Q)
    (hl : rs.length < 1000000) {Q : VK} (q : ∀ Dl H2, CR x α F S A rs H2 → LamX.ExtN H H2 → H2 Dl = some (.lst (rs.filterMap keep)) → H Dl = none → Q (.ref Dl) H2) :
    tLc (iSeq x.K (tVar 1)) (gTup x.K 2 (gCons (gName 5) (gCons (gName 6) gNil))) tt te [5, 6] [s0, some (.ref A), s2, s3, s4, s5, s6] H Q := by
  refine ⟨.ref A, rfl, A, rfl, .inl ⟨⟨_, SqL.of c.rows⟩, fun Dl hD => ?_⟩⟩
  have cl : ∀ i : Nat, (rs.map fun r => V.ref r.T)[i]? = (rs[i]?).map fun (r : CRow) => V.ref r.T := fun i => List.getElem?_map ..
  have apD := c.rep.apartNew hD
  have nA : Dl ≠ A := fun z => by have := c.rows; rw [← z, hD] at this; cases this
  have nb : ∀ r ∈ rs, Dl ≠ r.b := fun r h z => by have := c.bin r h; rw [← z, hD] at this; cases this
  refine ⟨fun i m H1 => m = rs.length - i ∧ i ≤ rs.length ∧ CR x α F S A rs H1 ∧ LamX.ExtN H H1 ∧ H1 Dl = some (.lst ((rs.take i).filterMap keep)), ⟨rs.length, rfl, Nat.zero_le _, c.keep (extN_new hD) (tabs_new c.rep hD), extN_new hD, upd_same⟩, ?_⟩
  rintro i m H1 ⟨hm, hi, c1, e1, d1⟩
  have hA : SqL x.K H1 A (rs.map fun r => V.ref r.T) := SqL.of c1.rows
  by_cases hlt : i < rs.length
  · have hr : rs[i]? = some rs[i] := List.getElem?_eq_getElem hlt
    have hmem : rs[i] ∈ rs := List.getElem_mem hlt
    have hg : (rs.map fun r => V.ref r.T)[i]? = some (V.ref rs[i].T) := by rw [cl, hr]; rfl
    refine .inr ⟨⟨_, _, hA, hg⟩, fun H2 => CR x α F S A rs H2 ∧ LamX.ExtN H H2 ∧ H2 Dl = some (.lst ((rs.take (i + 1)).filterMap keep)), fun H2 z => ⟨rs.length - (i + 1), by omega, rfl, hlt, z⟩, ?_⟩
    rintro v H2 ⟨rfl, hv⟩
    have e := hv _ hA
    rw [hg] at e
    cases e
    refine ⟨_, _, rfl, SqT.of (c1.tup _ hmem), rfl, _, _, rfl, _, _, rfl, rfl, rfl, ?_⟩
    have tk : (rs.take (i + 1)).filterMap keep = (rs.take i).filterMap keep ++ (keep rs[i]).toList := by
      rw [List.take_succ, List.filterMap_append, hr]
      cases hk : keep rs[i] <;> simp [hk]
    refine ht _ hmem _ c1 _ fun H3 e3 t3 => ?_
    have c3 := c1.keep e3 t3
    have d3 := e3 _ _ d1 (fun _ z => by cases z)
    have e13 : LamX.ExtN H H3 := fun a o ha hn => e3 _ _ (e1 a o ha hn) hn
    cases hk : keep rs[i] with
    | none =>
      rw [hk] at tk
      simp only [Option.isSome_none, Bool.false_eq_true, if_false]
      exact ⟨c3, e13, by rw [tk, Option.toList_none, List.append_nil]; exact d3⟩
    | some w =>
      rw [hk] at tk
      simp only [Option.isSome_some, if_true]
      refine he _ w hk _ _ ⟨_, d3, ?_, ?_⟩
      · refine lt_line (Nat.lt_of_le_of_lt (List.length_filterMap_le _ _) ?_)
        rw [List.length_take]
        omega
      · refine ⟨c3.side d3 apD nA nb, fun a o ha hn => ?_, ?_⟩
        · rw [upd_ne (fun z => by rw [z, hD] at ha; cases ha)]
          exact e13 a o ha hn
        · rw [upd_same, tk]
          rfl
  · have e : i = rs.length := by omega
    subst e
    rw [List.take_length] at d1
    exact .inl ⟨⟨_, hA, by rw [List.length_map]; exact Nat.le_refl _⟩, q _ _ c1 e1 d1 hD⟩
end
/-! ### one turn -/
theorem any_split {d : D} : ∀ {rs : List CRow}, rs.any (fun r => PyData.eqv r.d d) = true → ∃ l1 r0 l2, rs = l1 ++ r0 :: l2 ∧ (∀ r ∈ l1, PyData.eqv r.d d = false) ∧ PyData.eqv r0.d d = true
  | [], h => by cases h
  | r :: rs, h => by
    cases hr : PyData.eqv r.d d with
    | true => exact ⟨[], r, rs, rfl, fun r h => (by cases h), hr⟩
    | false =>
      rw [List.any_cons, hr, Bool.false_or] at h
      obtain ⟨l1, r0, l2, e, h1, h2⟩ := any_split h
      refine ⟨r :: l1, r0, l2, by rw [e]; rfl, fun q hq => ?_, h2⟩
      rcases List.mem_cons.mp hq with z | z
      · rw [z]; exact hr
      · exact h1 q z
theorem crPut_split {d : D} {v : Int} {r0 : CRow} {l2 : List CRow} (h2 : PyData.eqv r0.d d = true) : ∀ {l1 : List CRow}, (∀ r ∈ l1, PyData.eqv r.d d = false) → crPut d v ((l1 ++ r0 :: l2).map CRow.p) = (l1 ++ { r0 with bins := r0.bins ++ [v] } :: l2).map CRow.p
  | [], _ => by
    show (if PyData.eqv r0.d d = true then _ else _) = _
    rw [if_pos h2]
    rfl
  | r :: l1, h => by
    have ih := crPut_split (v := v) (l2 := l2) h2 (l1 := l1) fun q hq => h q (List.mem_cons_of_mem _ hq)
    have hr := h r List.mem_cons_self
    show (if PyData.eqv r.d d = true then _ else _) = _
    rw [hr, if_neg (by decide)]
    show r.p :: crPut d v ((l1 ++ r0 :: l2).map CRow.p) = _
    rw [ih]
    rfl
section
variable {x : Fx} {α : Nat → Addr} {F : Hp} {S : Store} {A : Addr} {rs l1 l2 : List CRow} {r0 : CRow} {H : Hp} {v : Int}
theorem CR.put (c : CR x α F S A (l1 ++ r0 :: l2) H) : CR x α F S A (l1 ++ { r0 with bins := r0.bins ++ [v] } :: l2) (upd H r0.b (.lst (r0.bins.map V.int ++ [.int v]))) := by
  have m0 : r0 ∈ l1 ++ r0 :: l2 := List.mem_append_right _ List.mem_cons_self
  have hb := c.bin r0 m0
  have nd := c.nd
  rw [List.nodup_cons] at nd
  obtain ⟨ndA, ndB⟩ := nd
  have nA : A ≠ r0.b := fun z => ndA (List.mem_map.mpr ⟨r0, m0, z.symm⟩)
  rw [List.map_append, List.map_cons, List.nodup_append] at ndB
  obtain ⟨_, n2, n3⟩ := ndB
  rw [List.nodup_cons] at n2
  have ne : ∀ r, r ∈ l1 ∨ r ∈ l2 → r.b ≠ r0.b := fun r h z => by
    rcases h with h | h
    · exact n3 r.b (List.mem_map.mpr ⟨r, h, rfl⟩) r0.b List.mem_cons_self z
    · exact n2.1 (List.mem_map.mpr ⟨r, h, z⟩)
  have mem : ∀ r, r ∈ l1 ++ { r0 with bins := r0.bins ++ [v] } :: l2 → (r ∈ l1 ∨ r ∈ l2) ∧ r ∈ l1 ++ r0 :: l2 ∨ r = { r0 with bins := r0.bins ++ [v] } := fun r h => by
    rcases List.mem_append.mp h with h | h
    · exact .inl ⟨.inl h, List.mem_append_left _ h⟩
    · rcases List.mem_cons.mp h with h | h
      · exact .inr h
      · exact .inl ⟨.inr h, List.mem_append_right _ (List.mem_cons_of_mem _ h)⟩
  have nT : ∀ r ∈ l1 ++ r0 :: l2, r.T ≠ r0.b := fun r h z => by
    have := c.tup r h
    rw [z, hb] at this
    cases this
  refine ⟨c.rep.setApart hb (c.apB r0 m0), ?_, fun r h => ?_, fun r h => ?_, fun r h => ?_, fun r h => ?_, ?_, c.apA, fun r h => ?_⟩
  · rw [upd_ne nA, c.rows, List.map_append, List.map_cons, List.map_append, List.map_cons]
  · rcases mem r h with ⟨_, h⟩ | rfl
    · rw [upd_ne (nT r h)]; exact c.tup r h
    · show upd H r0.b _ r0.T = _
      rw [upd_ne (nT r0 m0)]; exact c.tup r0 m0
  · rcases mem r h with ⟨h', h⟩ | rfl
    · rw [upd_ne (ne r h')]; exact c.bin r h
    · show upd H r0.b _ r0.b = _
      rw [upd_same, List.map_append]
      rfl
  · rcases mem r h with ⟨_, h⟩ | rfl
    · exact c.isz r h
    · exact c.isz r0 m0
  · rcases mem r h with ⟨_, h⟩ | rfl
    · exact c.oks r h
    · exact c.oks r0 m0
  · have := c.nd
    rw [List.map_append, List.map_cons] at this ⊢
    exact this
  · rcases mem r h with ⟨_, h⟩ | rfl
    · exact c.apB r h
    · exact c.apB r0 m0
theorem CR.ins (c : CR x α F S A rs H) {s : V} {d : D} {n : Nat} {b T : Addr} (hb : H b = none) (hT : upd H b (.lst [.int v]) T = none) (i : Is x.K F s d) (o : okSize d = true) :
    CR x α F S A (rs.take n ++ [⟨T, b, s, d, [v]⟩] ++ rs.drop n) (upd (upd (upd H b (.lst [.int v])) T (.tup [s, .ref b])) A (.lst ((rs.map fun r => V.ref r.T).take n ++ [.ref T] ++ (rs.map fun r => V.ref r.T).drop n))) := by
  have nTb : T ≠ b := fun z => by rw [z, upd_same] at hT; cases hT
  have hT' : H T = none := by rw [upd_ne nTb] at hT; exact hT
  have nA : A ≠ b := fun z => by have := c.rows; rw [z, hb] at this; cases this
  have nAT : A ≠ T := fun z => by have := c.rows; rw [z, hT'] at this; cases this
  have nb : ∀ r ∈ rs, r.b ≠ b := fun r h z => by have := c.bin r h; rw [z, hb] at this; cases this
  have nbT : ∀ r ∈ rs, r.b ≠ T := fun r h z => by have := c.bin r h; rw [z, hT'] at this; cases this
  have ntb : ∀ r ∈ rs, r.T ≠ b := fun r h z => by have := c.tup r h; rw [z, hb] at this; cases this
  have ntT : ∀ r ∈ rs, r.T ≠ T := fun r h z => by have := c.tup r h; rw [z, hT'] at this; cases this
  have nbA : ∀ r ∈ rs, r.b ≠ A := fun r h z => by
    have := c.nd
    rw [List.nodup_cons] at this
    exact this.1 (List.mem_map.mpr ⟨r, h, z⟩)
  have ntA : ∀ r ∈ rs, r.T ≠ A := fun r h z => by have := c.tup r h; rw [z, c.rows] at this; cases this
  have mem : ∀ r, r ∈ rs.take n ++ [⟨T, b, s, d, [v]⟩] ++ rs.drop n → r ∈ rs ∨ r = ⟨T, b, s, d, [v]⟩ := fun r h => by
    rcases List.mem_append.mp h with h | h
    · rcases List.mem_append.mp h with h | h
      · exact .inl (List.mem_of_mem_take h)
      · exact .inr (List.mem_singleton.mp h)
    · exact .inl (List.mem_of_mem_drop h)
  have r1 := c.rep.newApart (o := .lst [.int v]) hb
  have r2 := r1.newApart (o := .tup [s, .ref b]) hT
  have hA2 : upd (upd H b (.lst [.int v])) T (.tup [s, .ref b]) A = some (.lst (rs.map fun r => V.ref r.T)) := by rw [upd_ne nAT, upd_ne nA]; exact c.rows
  refine ⟨r2.setApart hA2 c.apA, ?_, fun r h => ?_, fun r h => ?_, fun r h => ?_, fun r h => ?_, ?_, c.apA, fun r h => ?_⟩
  · rw [upd_same, List.map_append, List.map_append, List.map_take, List.map_drop]
    rfl
  · rcases mem r h with h | rfl
    · rw [upd_ne (ntA r h), upd_ne (ntT r h), upd_ne (ntb r h)]; exact c.tup r h
    · show upd _ A _ T = _
      rw [upd_ne (Ne.symm nAT), upd_same]
  · rcases mem r h with h | rfl
    · rw [upd_ne (nbA r h), upd_ne (nbT r h), upd_ne (nb r h)]; exact c.bin r h
    · show upd _ A _ b = _
      rw [upd_ne (Ne.symm nA), upd_ne (Ne.symm nTb), upd_same]
      rfl
  · rcases mem r h with h | rfl
    · exact c.isz r h
    · exact i
  · rcases mem r h with h | rfl
    · exact c.oks r h
    · exact o
  · have nd := c.nd
    have perm : (A :: (rs.take n ++ [(⟨T, b, s, d, [v]⟩ : CRow)] ++ rs.drop n).map (·.b)).Perm (b :: A :: rs.map (·.b)) := by
      have e : (rs.take n ++ [(⟨T, b, s, d, [v]⟩ : CRow)] ++ rs.drop n).map (·.b) = (rs.take n).map (·.b) ++ b :: (rs.drop n).map (·.b) := by
        rw [List.map_append, List.map_append, List.append_assoc]
        rfl
      rw [e]
      refine (List.Perm.cons A List.perm_middle).trans ((List.Perm.swap b A _).trans ?_)
      rw [← List.map_append, List.take_append_drop]
    refine perm.nodup_iff.mpr (List.nodup_cons.mpr ⟨fun h => ?_, nd⟩)
    rcases List.mem_cons.mp h with h | h
    · exact nA h.symm
    · obtain ⟨r, h1, h2⟩ := List.mem_map.mp h
      exact nb r h1 h2
  · rcases mem r h with h | rfl
    · exact c.apB r h
    · exact c.rep.apartNew hb
end
theorem shaped_bins (ls : List (List Int)) : SeqAt.shaped (.list (ls.map fun l => PyData.list (l.map PyData.int))) = true := by
  have lay : ∀ l : List Int, (PyData.list (l.map PyData.int)).canLay0 = true ∧ (PyData.list (l.map PyData.int)).depth ≤ 2 := fun l => by
    induction l with
    | nil => exact ⟨rfl, by decide⟩
    | cons a l ih =>
      obtain ⟨h1, h2⟩ := ih
      rw [PyData.canLay0] at h1
      rw [PyData.depth] at h2
      refine ⟨?_, ?_⟩
      · rw [List.map_cons, PyData.canLay0, PyData.canLayAll0, h1]
        rfl
      · rw [List.map_cons, PyData.depth, PyData.depthAll]
        have : PyData.depth (PyData.int a) ≤ 1 := by simp [PyData.depth]
        omega
  have key : PyData.canLayAll0 (ls.map fun l => PyData.list (l.map PyData.int)) = true ∧ PyData.depthAll (ls.map fun l => PyData.list (l.map PyData.int)) ≤ 2 := by
    induction ls with
    | nil => exact ⟨rfl, by decide⟩
    | cons l ls ih =>
      obtain ⟨h1, h2⟩ := ih
      obtain ⟨k1, k2⟩ := lay l
      refine ⟨?_, ?_⟩
      · rw [List.map_cons, PyData.canLayAll0, h1, k1]
        rfl
      · rw [List.map_cons, PyData.depthAll]
        omega
  unfold SeqAt.shaped
  rw [PyData.canLay0, key.1, PyData.depth, decide_eq_true (by omega)]
  rfl
/-! ### the walk -/
abbrev crLen (K : PySem.W.Frag) : List V → Hp → VK → Prop := fun xs H Q => ∃ y n, xs = [y] ∧ LenV K y H n ∧ Q (.int n) H
abbrev crG (K : PySem.W.Frag) (i j : Nat) : TG := gTup K 2 (gCons (gName i) (gCons (gName j) gNil))
abbrev crBody (x : Fx) (m : List U → Store → R U) : TS :=
  tSeq (tAsg (tLc (iSeq x.K (tVar 1)) (crG x.K 5 6) (tTest (tOp (rEqD x.K) (tVar 5) (tVar 3))) (tVar 6) [5, 6]) (gName 4))
    (tIfS (tTest (tOp (rNeD x.K) (tVar 4) (tLst tNil)))
      (tDrop (tBM x.K "list" rAppend (tOp (rIx x.K) (tVar 4) (tC (.int 0))) (tCons (tVar 2) tNil)))
      (tDrop (tBM x.K "list" rInsert (tVar 1) (tCons (tCB (crLen x.K) (tCons (tLc (iSeq x.K (tVar 1)) (crG x.K 5 6) (tB (tCallSD (spOf x 2 m) [] (WE W0) (tCons (tVar 5) (tCons (tVar 3) tNil)))) (tVar 5) [5, 6]) tNil)) (tCons (tTup (tCons (tVar 3) (tCons (tLst (tCons (tVar 2) tNil)) tNil))) tNil)))))
abbrev crT (x : Fx) (m : List U → Store → R U) : TS :=
  tSeq (tAsg (tLst tNil) (gName 1)) (tSeq (tFor (iEnumA x.K (tCons (tVar 0) tNil)) (crG x.K 2 3) (crBody x m)) (tRet (tVar 1)))
def crM (u : U) (S : Store) : R U := match seqD u S with
  | .ok ds S1 => if ds.all okSize = true ∧ ds.length ≤ 1000 then .ok (.d (.list ((crRows ds).map crD))) S1 else .bad
  | _ => .bad
def g_class_rows : Vr → Store → O := fun ρ S => match ρ with
  | [some u, _, _, _, _, _, _] => (match crM u S with
    | .ok v S1 => .rt v S1
    | _ => .bad)
  | _ => .bad
theorem is_shaped {d : D} (h : okSize d = true) : SeqAt.shaped d = true := okSize_shaped h
section
variable {x : Fx} {W : WX} {α : Nat → Addr} {F : Hp} {S : Store} {A B : Addr} {rs : List CRow} {H : Hp} {m : List U → Store → R U}
theorem dpBins (c : CR x α F S A rs H) : ∀ (qs : List CRow), (∀ r ∈ qs, r ∈ rs) → DpAll x.K H (qs.map fun r => V.ref r.b) ((qs.map (·.bins)).map fun l => PyData.list (l.map PyData.int))
  | [], _ => .nil
  | r :: qs, h => by
    have hns : ∀ ns : List Int, DpAll x.K H (ns.map V.int) (ns.map PyData.int) := fun ns => by
      induction ns with
      | nil => exact .nil
      | cons a ns ih => exact .cons (.int a) ih
    exact .cons (.lst (SqL.of (c.bin r (h r List.mem_cons_self))) (hns _)) (dpBins c qs fun q hq => h q (List.mem_cons_of_mem _ hq))
theorem filterMap_ite (p : CRow → Bool) (f : CRow → V) : ∀ qs : List CRow, (qs.filterMap fun r => if p r = true then some (f r) else none) = (qs.filter p).map f
  | [] => rfl
  | r :: qs => by
    rw [List.filterMap_cons, List.filter_cons]
    cases h : p r with
    | true => simp [filterMap_ite p f qs]
    | false => simp [filterMap_ite p f qs]
theorem atI0 {β : Type} {y : β} {ys : List β} : atI (y :: ys) 0 = some y := by
  unfold atI ixN
  simp
theorem body_cr (hm : ∀ d e, okSize d = true → okSize e = true → m [.d d, .d e] [] = .ok (.d (.bool (dless d e))) []) (c : CR x α F S A rs H) {i : Int} {s : V} {d : D} {s4 s5 s6 : Option V} (hi : Is x.K F s d) (ho : okSize d = true) (hl : rs.length < 100000) {k : Nat} (hk : k < 100000) (hb : ∀ r ∈ rs, r.bins.length ≤ k) {D : Ends}
    (q : ∀ rs' H' s4' s5' s6', CR x α F S A rs' H' → rs'.map CRow.p = crStep (rs.map CRow.p) i d → rs'.length ≤ rs.length + 1 → (∀ r ∈ rs', r.bins.length ≤ k + 1) → D.nx [some (.ref B), some (.ref A), some (.int i), some s, s4', s5', s6'] H') :
    crBody x m D [some (.ref B), some (.ref A), some (.int i), some s, s4, s5, s6] H := by
  have hb' := hb
  have anyp : (rs.map CRow.p).any (fun r => PyData.eqv r.1 d) = rs.any fun r => PyData.eqv r.d d := by rw [List.any_map]; rfl
  show tLc (iSeq x.K (tVar 1)) (crG x.K 5 6) (tTest (tOp (rEqD x.K) (tVar 5) (tVar 3))) (tVar 6) [5, 6] _ H fun v H1 => gName 4 v _ H1 _
  refine lc_rows (keep := fun r => if PyData.eqv r.d d = true then some (V.ref r.b) else none) c (fun r hr H1 c1 Q k => ?_) (fun r v hv H1 Q k => ?_) (by omega) fun Dl H2 c2 e2 d2 hD => ?_
  · refine ⟨_, rfl, _, rfl, r.d, d, Is.dp c1.rep.le _ _ (c1.isz r hr), Is.dp c1.rep.le _ _ hi, okSize_shaped (c1.oks r hr), okSize_shaped ho, _, rfl, ?_⟩
    have := k H1 (fun _ _ h _ => h) c1.rep.tabs
    cases h : PyData.eqv r.d d with
    | true => simpa [h] using this
    | false => simpa [h] using this
  · split at hv
    · cases hv
      exact ⟨_, rfl, k⟩
    · cases hv
  · rw [filterMap_ite (fun r => PyData.eqv r.d d) (fun r => V.ref r.b)] at d2
    have sub : ∀ r ∈ rs.filter fun r => PyData.eqv r.d d, r ∈ rs := fun r h => (List.mem_filter.mp h).1
    refine ⟨.ref Dl, rfl, Nat.zero_le _, fun p hp => ?_⟩
    have e3 : LamX.ExtN H2 (upd H2 p (.lst [])) := extN_new hp
    have c3 := c2.keep e3 (tabs_new c2.rep hp)
    have d3 := e3 _ _ d2 (fun _ z => by cases z)
    refine ⟨_, _, .lst (SqL.of d3) (dpBins c3 _ sub), .lst (SqL.of upd_same) .nil, shaped_bins _, rfl, _, rfl, ?_⟩
    cases hany : rs.any fun r => PyData.eqv r.d d with
    | true =>
      obtain ⟨l1, r0, l2, rfl, h1, h2⟩ := any_split hany
      have hf : (l1 ++ r0 :: l2).filter (fun r => PyData.eqv r.d d) = r0 :: l2.filter fun r => PyData.eqv r.d d := by
        rw [List.filter_append, List.filter_cons, h2]
        have : l1.filter (fun r => PyData.eqv r.d d) = [] := List.filter_eq_nil_iff.mpr fun r hr => by rw [h1 r hr]; decide
        rw [this]
        rfl
      rw [hf] at d3 ⊢
      have hne : (!PyData.eqv (.list (((r0 :: l2.filter fun r => PyData.eqv r.d d).map (·.bins)).map fun l => PyData.list (l.map PyData.int))) (.list [])) = true := rfl
      rw [hne, if_pos rfl]
      have m0 : r0 ∈ l1 ++ r0 :: l2 := List.mem_append_right _ List.mem_cons_self
      have hb0 := c3.bin r0 m0
      refine ⟨.ref Dl, rfl, .inl ⟨_, _, 0, .ref r0.b, rfl, rfl, SqL.of d3, atI0, .inl ⟨rfl, _, SqL.of hb0⟩, .int i, rfl, _, _, _, rfl, rfl, hb0, ?_, ?_⟩⟩
      · rw [List.length_map]
        exact lt_line (by have := hb r0 m0; omega)
      · refine q (l1 ++ { r0 with bins := r0.bins ++ [i] } :: l2) _ _ _ _ c3.put ?_ (by simp) (fun r hr => ?_)
        rotate_left
        · rcases List.mem_append.mp hr with z | z
          · have := hb r (List.mem_append_left _ z); omega
          · rcases List.mem_cons.mp z with z | z
            · have := hb r0 m0
              rw [z]
              simp
              omega
            · have := hb r (List.mem_append_right _ (List.mem_cons_of_mem _ z)); omega
        unfold crStep
        rw [anyp, hany, if_pos rfl, crPut_split h2 h1]
    | false =>
      have hf : rs.filter (fun r => PyData.eqv r.d d) = [] := List.filter_eq_nil_iff.mpr fun r hr => by
        have := List.any_eq_false.mp hany r hr
        exact this
      rw [hf]
      have hne : (!PyData.eqv (.list ((([] : List CRow).map (·.bins)).map fun l => PyData.list (l.map PyData.int))) (.list [])) = false := rfl
      rw [hne, if_neg (by decide)]
      refine ⟨.ref A, rfl, .inl ⟨rfl, _, SqL.of c3.rows⟩, ?_⟩
      dsimp only [tCons, tCB, tNil, List.set]
      refine lc_rows (keep := fun r => if dless r.d d = true then some r.s else none) c3 (fun r hr H1 c1 Q k => ?_) (fun r v hv H1 Q k => ?_) (by omega) fun D2 H4 c4 e4 d4 hD2 => ?_
      · refine ⟨_, rfl, _, rfl, ?_⟩
        show spOf x 2 m [r.s, s] H1 _ _
        refine spOf_plain c1.rep rfl (.cons (u := .d r.d) (c1.isz r hr) (.cons (u := .d d) hi .nil)) (fun u hu => ?_) (hm _ _ (c1.oks r hr) ho) fun H5 e5 t5 => ⟨_, rfl, ?_⟩
        · simp only [List.mem_cons, List.not_mem_nil, or_false] at hu
          rcases hu with rfl | rfl <;> exact ⟨_, rfl⟩
        · have := k H5 e5 t5
          cases h : dless r.d d with
          | true => simpa [h] using this
          | false => simpa [h] using this
      · split at hv
        · cases hv
          exact ⟨_, rfl, k⟩
        · cases hv
      · rw [filterMap_ite (fun r => dless r.d d) (fun r => r.s)] at d4
        refine ⟨_, _, rfl, .inl ⟨_, SqL.of d4, rfl⟩, ?_⟩
        refine ⟨s, rfl, .int i, rfl, by show 1 ≤ sizeLine; decide, fun b hb => ⟨by show 2 ≤ sizeLine; decide, fun T hT => ?_⟩⟩
        have nAb : A ≠ b := fun z => by have := c4.rows; rw [z, hb] at this; cases this
        have nAT : A ≠ T := fun z => by
          rw [← z, upd_ne nAb, c4.rows] at hT
          cases hT
        refine ⟨A, rs.map fun r => V.ref r.T, _, .ref T, rfl, rfl, by rw [upd_ne nAT, upd_ne nAb]; exact c4.rows, by rw [List.length_map]; exact lt_line (by omega), Int.natCast_nonneg _, ?_, ?_⟩
        · have := List.length_filter_le (fun r => dless r.d d) rs
          rw [List.length_map]
          omega
        · rw [Int.toNat_natCast]
          refine q _ _ _ _ _ (c4.ins hb hT hi ho) ?_ ?_ (fun r hr => ?_)
          · unfold crStep
            rw [anyp, hany, if_neg (by decide)]
            have hlen : ((rs.filter fun r => dless r.d d).map fun r => r.s).length = ((rs.map CRow.p).filter fun r => dless r.1 d).length := by
              rw [List.length_map, List.filter_map, List.length_map]
              rfl
            rw [List.map_append, List.map_append, List.map_take, List.map_drop, hlen]
            rfl
          · simp only [List.length_append, List.length_take, List.length_drop, List.length_singleton]
            omega
          · rcases List.mem_append.mp hr with z | z
            · rcases List.mem_append.mp z with z | z
              · have := hb' r (List.mem_of_mem_take z); omega
              · rw [List.mem_singleton.mp z]
                simp
            · have := hb' r (List.mem_of_mem_drop z); omega
end
section
variable {x : Fx} {W : WX} {α : Nat → Addr} {F : Hp} {S : Store} {A B : Addr} {rs : List CRow} {H : Hp} {m : List U → Store → R U}
/-- the rows as they stand become data -/
theorem CR.done (c : CR x α F S A rs H) : ∃ F', Rep x α F' S H ∧ Ext α α F F' S S ∧ Is x.K F' (.ref A) (.list ((rs.map CRow.p).map crD)) := by
  classical
  let F' : Hp := fun a => if a = A ∨ a ∈ rs.map (·.T) ∨ a ∈ rs.map (·.b) then H a else F a
  have f1 : ∀ a, a = A ∨ a ∈ rs.map (·.T) ∨ a ∈ rs.map (·.b) → F' a = H a := fun a h => if_pos h
  have f2 : ∀ a, ¬ (a = A ∨ a ∈ rs.map (·.T) ∨ a ∈ rs.map (·.b)) → F' a = F a := fun a h => if_neg h
  have le : Le F F' := fun a o e => by
    by_cases h : a = A ∨ a ∈ rs.map (·.T) ∨ a ∈ rs.map (·.b)
    · rw [f1 a h]; exact c.rep.le _ _ e
    · rw [f2 a h]; exact e
  have le2 : Le F' H := fun a o e => by
    by_cases h : a = A ∨ a ∈ rs.map (·.T) ∨ a ∈ rs.map (·.b)
    · rw [f1 a h] at e; exact e
    · rw [f2 a h] at e; exact c.rep.le _ _ e
  refine ⟨F', ⟨le2, c.rep.inj, fun i ds e => ?_, c.rep.old, c.rep.tabs, fun q ps e => ?_⟩, ⟨Nat.le_refl _, fun _ _ => rfl, le⟩, .lst ((f1 A (.inl rfl)).trans c.rows) ?_⟩
  · obtain ⟨h1, vs, h2, h3⟩ := c.rep.cell i ds e
    have hi : i < S.length := (List.getElem?_eq_some_iff.mp e).1
    refine ⟨?_, vs, h2, IsAll.mono le _ _ h3⟩
    rw [f2 _ ?_]
    · exact h1
    · rintro (h | h | h)
      · exact c.apA.st i hi h
      · obtain ⟨r, hr, z⟩ := List.mem_map.mp h
        have := c.tup r hr
        rw [z, h2] at this
        cases this
      · obtain ⟨r, hr, z⟩ := List.mem_map.mp h
        exact (c.apB r hr).st i hi z.symm
  · by_cases h : q = A ∨ q ∈ rs.map (·.T) ∨ q ∈ rs.map (·.b)
    · rw [f1 q h] at e
      rcases h with h | h | h
      · rw [h, c.rows] at e; cases e
      · obtain ⟨r, hr, z⟩ := List.mem_map.mp h
        rw [← z, c.tup r hr] at e; cases e
      · obtain ⟨r, hr, z⟩ := List.mem_map.mp h
        rw [← z, c.bin r hr] at e; cases e
    · rw [f2 q h] at e
      exact c.rep.tabF q ps e
  · have key : ∀ qs : List CRow, (∀ r ∈ qs, r ∈ rs) → IsAll x.K F' (qs.map fun r => V.ref r.T) ((qs.map CRow.p).map crD) := fun qs => by
      induction qs with
      | nil => intro _; exact .nil
      | cons r qs ih =>
        intro h
        have hr := h r List.mem_cons_self
        refine .cons (.tup (SqT.of ((f1 _ (.inr (.inl (List.mem_map.mpr ⟨r, hr, rfl⟩)))).trans (c.tup r hr))) (.cons (Is.mono le _ _ (c.isz r hr)) (.cons (.lst ((f1 _ (.inr (.inr (List.mem_map.mpr ⟨r, hr, rfl⟩)))).trans (c.bin r hr)) (IsAll.int _)) .nil))) (ih fun q hq => h q (List.mem_cons_of_mem _ hq))
    exact key rs fun _ h => h
theorem crFrom_drop {ds : List D} {rows : List PRow} {i : Nat} {d : D} (h : ds[i]? = some d) : crFrom rows i (ds.drop i) = crFrom (crStep rows (i : Int) d) (i + 1) (ds.drop (i + 1)) := by
  rw [drop_cons h]
  rfl
/-- what enumerate gives at each turn -/
def Gives (J : It) (K : PySem.W.Frag) (B : Addr) (vs : List V) : Prop := ∀ H, (SqL K H B vs ∨ SqT K H B vs) → ∀ i : Nat, (∀ v, vs[i]? = some v → J.go i H ∧ ∀ w H', J.yld i H w H' → ∃ T, w = .ref T ∧ H T = none ∧ H' = upd H T (.tup [.int (i : Nat), v])) ∧ (vs.length ≤ i → J.stop i H)
theorem fits_cr (hm : ∀ d e, okSize d = true → okSize e = true → m [.d d, .d e] [] = .ok (.d (.bool (dless d e))) []) : FitS x W (crT x m) g_class_rows := by
  intro α F ρ S σ H r0 sl D p
  unfold g_class_rows at p
  split at p
  · rename_i u u1 u2 u3 u4 u5 u6
    have hlen := sl.len
    obtain ⟨v0, g0, i0⟩ := sl.get 0 u rfl
    match σ, hlen, g0 with
    | [s0, s1, s2, s3, s4, s5, s6], _, g0 =>
    obtain rfl : s0 = some v0 := by simpa using g0
    unfold crM at p
    cases hs : seqD u S with
    | exc _ _ _ => rw [hs] at p; exact p.elim
    | bad => rw [hs] at p; exact p.elim
    | ok ds S1 =>
      rw [hs] at p
      by_cases hok : ds.all okSize = true ∧ ds.length ≤ 1000
      · simp only [if_pos hok] at p
        obtain ⟨hok, hln⟩ := hok
        obtain ⟨F1, B, vs, r1, e1, rfl, h1, h2⟩ := seqD_ok r0 i0 hs
        -- rows = []
        refine ⟨Nat.zero_le _, fun A hA => ?_⟩
        have c0 : CR x α F1 S1 A [] (upd H A (.lst [])) := ⟨r1.newApart hA, upd_same, fun r h => absurd h (by simp), fun r h => absurd h (by simp), fun r h => absurd h (by simp), fun r h => absurd h (by simp), by simp, r1.apartNew hA, fun r h => absurd h (by simp)⟩
        -- the loop, over any source
        have loop : ∀ J : It, (∀ H rs, CR x α F1 S1 A rs H → ∀ i : Nat, (∀ v, vs[i]? = some v → J.go i H ∧ ∀ w H', J.yld i H w H' → ∃ T, w = .ref T ∧ H T = none ∧ H' = upd H T (.tup [.int (i : Nat), v])) ∧ (vs.length ≤ i → J.stop i H)) →
            ∃ Wv : Nat → Nat → L2.St → Hp → Prop, (∃ m', Wv 0 m' [some (.ref B), some (.ref A), s2, s3, s4, s5, s6] (upd H A (.lst []))) ∧ ∀ i m' σ H, Wv i m' σ H →
              (J.stop i H ∧ tRet (tVar 1) D σ H) ∨ (J.go i H ∧ ∃ N : L2.St → Hp → Prop, (∀ σ' H', N σ' H' → ∃ m'', m'' < m' ∧ Wv (i + 1) m'' σ' H') ∧ ∀ w H', J.yld i H w H' → crG x.K 2 3 w σ H' fun σ2 H2 => crBody x m { D with nx := N, ct := N, bk := tRet (tVar 1) D } σ2 H2) := by
          intro J hJ
          refine ⟨fun i k σ H => k = ds.length - i ∧ i ≤ ds.length ∧ ∃ rs s2 s3 s4 s5 s6, σ = [some (.ref B), some (.ref A), s2, s3, s4, s5, s6] ∧ CR x α F1 S1 A rs H ∧ crFrom (rs.map CRow.p) i (ds.drop i) = crRows ds ∧ rs.length ≤ i ∧ ∀ r ∈ rs, r.bins.length ≤ i,
            ⟨ds.length, rfl, Nat.zero_le _, [], s2, s3, s4, s5, s6, rfl, c0, rfl, Nat.le_refl _, fun r h => absurd h (by simp)⟩, ?_⟩
          rintro i k σ H ⟨hk, hi, rs, s2, s3, s4, s5, s6, rfl, c, hc, hl, hbl⟩
          obtain ⟨j1, j2⟩ := hJ H rs c i
          by_cases hlt : i < ds.length
          · have hd : ds[i]? = some ds[i] := List.getElem?_eq_getElem hlt
            obtain ⟨s, hv, his⟩ := h1.get hd
            obtain ⟨go, yl⟩ := j1 s hv
            refine .inr ⟨go, fun σ' H' => i + 1 ≤ ds.length ∧ ∃ rs s2 s3 s4 s5 s6, σ' = [some (.ref B), some (.ref A), s2, s3, s4, s5, s6] ∧ CR x α F1 S1 A rs H' ∧ crFrom (rs.map CRow.p) (i + 1) (ds.drop (i + 1)) = crRows ds ∧ rs.length ≤ i + 1 ∧ ∀ r ∈ rs, r.bins.length ≤ i + 1,
              fun σ' H' z => ⟨ds.length - (i + 1), by omega, rfl, z⟩, fun w H' y => ?_⟩
            obtain ⟨T, rfl, hT, rfl⟩ := yl w H' y
            have c1 := c.keep (extN_new (o := .tup [.int (i : Nat), s]) hT) (tabs_new c.rep hT)
            refine ⟨_, _, rfl, SqT.of upd_same, rfl, _, _, rfl, _, _, rfl, rfl, ?_⟩
            have hsz : okSize ds[i] = true := List.all_eq_true.mp hok _ (List.getElem_mem hlt)
            refine body_cr hm c1 his hsz (by omega) (k := i) (by omega) hbl fun rs' H4 a4 a5 a6 c4 hc4 hl4 hb4 => ⟨hlt, rs', _, _, _, _, _, rfl, c4, ?_, by omega, hb4⟩
            rw [hc4, ← crFrom_drop hd]
            exact hc
          · have e : i = ds.length := by omega
            subst e
            refine .inl ⟨j2 (by rw [h1.length]; exact Nat.le_refl _), .ref A, rfl, ?_⟩
            rw [List.drop_length] at hc
            have hc' : rs.map CRow.p = crRows ds := hc
            obtain ⟨F', r5, e5, i5⟩ := c.done
            rw [hc'] at i5
            exact p α F' H _ (e1.trans e5) r5 i5
        refine ⟨.ref B, rfl, B, rfl, ?_⟩
        rcases h2 with h2 | h2
        · refine .inl ⟨vs, le_l c0.rep.le h2, loop _ fun H rs c i => ?_⟩
          have hq : SqL x.K H B vs := le_l c.rep.le h2
          refine ⟨fun v hv => ⟨⟨vs, v, hq, hv⟩, fun w H' y => ?_⟩, fun hl => ⟨vs, hq, hl⟩⟩
          obtain ⟨T, y0, rfl, hT, rfl, y⟩ := y
          have e := y vs hq
          rw [hv] at e
          cases e
          exact ⟨T, rfl, hT, rfl⟩
        · refine .inr ⟨vs, le_t c0.rep.le h2, loop _ fun H rs c i => ?_⟩
          have hq : SqT x.K H B vs := le_t c.rep.le h2
          refine ⟨fun v hv => ⟨⟨vs, v, hq, hv⟩, fun w H' y => ?_⟩, fun hl => ⟨vs, hq, hl⟩⟩
          obtain ⟨T, y0, rfl, hT, rfl, y⟩ := y
          have e := y vs hq
          rw [hv] at e
          cases e
          exact ⟨T, rfl, hT, rfl⟩
      · simp only [if_neg hok] at p
        exact p.elim
  · exact p.elim
end
def m_class_rows : List U → Store → R U := runD 7 g_class_rows
theorem s_class_rows {ds : List D} {S : Store} (h : ds.all okSize = true) (hl : ds.length ≤ 1000) : m_class_rows [.d (.tuple ds)] S = .ok (.d (.list ((crRows ds).map crD))) S := by
  show fin S.length (match crM (.d (.tuple ds)) S with
    | .ok v S1 => .rt v S1
    | _ => .bad) = _
  unfold crM
  rw [show seqD (.d (.tuple ds)) S = .ok ds S from rfl]
  simp only [if_pos (And.intro h hl)]
  show R.ok _ (S.take S.length) = _
  rw [List.take_length]
theorem db_ps {X : Cx} {x : Fx} {W : WX} {st : List Stmt} {t : TS} {g g' : Vr → Store → O} (h : DB X x W st t g) (f : FitS x W t g') : DB X x W st t g' := ⟨h.ps, f⟩
end Z

/-! Z27: set(t), t a tuple of pairs of ints; sorted(set(t)). -/
namespace Z
open PySem PySem.Spec PyProof.Rows L2
section
variable {P : Program} {w : World} {A : Around} {E : Value → Shared → Prop} {s : Shared}
/-- a set without elements, as it is made -/
abbrev bare (w : World) : Obj := { cls := .type "set", dict := none, data := .set #[] 0 (.fresh 0 0 (!w.params.followText "set-order")) }
abbrev withSet (w : World) (s : Shared) : Shared := { s with heap := s.heap.push (bare w) }
/-- what stands behind the filling -/
def Filled (P : Program) (w : World) (s : Shared) (ks : List (Addr × List Int)) (t : Shared) : Prop :=
  ∃ h' tk L es ep tb, t = { s with heap := h', toks := tk } ∧ SetTR P w h' s.heap.objs.size L es ep tb ∧ Got ks ks.length L ∧ ∀ b o, s.heap.get? b = some o → h'.get? b = some o
theorem absent {b : Addr} (hb : s.heap.objs.size ≤ b) : s.heap.get? b = none := by
  cases q : s.heap.get? b with
  | none => rfl
  | some o => exact absurd (Heap.lt_size q) (Nat.not_lt.mpr hb)
/-- the filling of a new set from a tuple -/
theorem fill_ok {l : Addr} {items : Array Value} (ks : List (Addr × List Int)) (hh : A.in1.handled = none) (hl : s.heap.IsTuple l items) (hit : items.toList = ks.map fun p => Value.ref p.1)
    (hk : ∀ p ∈ ks, IsT P w s.heap p.2 p.1) (hfew : ks.length < 64) (hu : A.in1.units < cLine) {R : Result → Shared → Prop} (hR : ∀ t, Filled P w s ks t → R (.ok (.ret .none)) t) :
    codeAny (model P w) A (.builtin "set.update.loop" ⟨[.ref s.heap.objs.size, .ref (s.heap.objs.size + 1)], []⟩) R
      { s with heap := (s.heap.push (bare w)).push { cls := .type "tuple_iterator", data := .fields #[.ref l, .int 0 0] } } := by
  have many : items.size = ks.length := by rw [← Array.length_toList, hit, List.length_map]
  have sz : (s.heap.push (bare w)).objs.size = s.heap.objs.size + 1 := Heap.size_push ..
  have hlt : l < s.heap.objs.size := by obtain ⟨o, q, _⟩ := hl; exact Heap.lt_size q
  have up : ∀ b o, s.heap.get? b = some o → ((s.heap.push (bare w)).push { cls := .type "tuple_iterator", data := .fields #[.ref l, .int 0 0] }).get? b = some o := fun b o e => Heap.get?_push_of_some _ (Heap.get?_push_of_some _ e)
  have hs : ((s.heap.push (bare w)).push { cls := .type "tuple_iterator", data := .fields #[.ref l, .int 0 0] }).get? s.heap.objs.size = some (bare w) := Heap.get?_push_of_some _ (Heap.get?_push_size _ rfl)
  have hi : ((s.heap.push (bare w)).push { cls := .type "tuple_iterator", data := .fields #[.ref l, .int 0 0] }).get? (s.heap.objs.size + 1) = some { cls := .type "tuple_iterator", data := .fields #[.ref l, .int 0 0] } := by
    rw [← sz]
    exact Heap.get?_push_size _ rfl
  have ne1 : l ≠ s.heap.objs.size + 1 := Nat.ne_of_lt (Nat.lt_succ_of_lt hlt)
  have at_ : ∀ (i : Nat) (v : Value), items[i]? = some v → ∃ p, ks[i]? = some p ∧ v = .ref p.1 := fun i v hv => by
    rw [← Array.getElem?_toList, hit, List.getElem?_map] at hv
    cases q : ks[i]? with
    | none => rw [q] at hv; cases hv
    | some p => rw [q] at hv; exact ⟨p, rfl, (Option.some.inj hv).symm⟩
  have wk := (Walks.tuple (prog := P) (w := w) hh (s.heap.objs.size + 1) l ne1 items).toS
  refine set_update_tups wk s.heap.objs.size ?_ ks many hfew at_ s.heap hk (absent (Nat.le_refl _)) ?_ hu items.size 0 _ (Nat.sub_zero _) (Nat.zero_le _) ⟨⟨_, hi, rfl, rfl⟩, ?_⟩ up ⟨[], #[], 0, _, setTR_fresh hs, Got.zero ks⟩ ?_
  · intro z
    rcases List.mem_cons.mp z with z | z
    · exact absurd z (Nat.ne_of_lt (Nat.lt_succ_self _))
    · exact absurd (List.mem_singleton.mp z) (Nat.ne_of_gt hlt)
  · intro b hb
    rw [List.mem_singleton.mp hb]
    exact absent (Nat.le_succ _)
  · obtain ⟨o, q, r⟩ := hl
    exact ⟨o, up _ _ q, r⟩
  · intro t L es ep tb mv hS g kp
    refine hR t ⟨t.heap, t.toks, L, es, ep, tb, ?_, hS, many ▸ g, kp⟩
    have e1 := mv.gens
    have e2 := mv.drawn
    have e3 := mv.os
    cases t
    cases s
    cases e1
    cases e2
    cases e3
    rfl
/-- set.__init__ of the new set and the tuple -/
theorem init_ok {l : Addr} {items : Array Value} (ks : List (Addr × List Int)) (hh : A.handled = none) (hl : s.heap.IsTuple l items) (hit : items.toList = ks.map fun p => Value.ref p.1)
    (hk : ∀ p ∈ ks, IsT P w s.heap p.2 p.1) (hfew : ks.length < 64) (hu : A.units + 1 < cLine) :
    wpAny (model P w) A (Builtin.«set.__init__» ⟨[.ref s.heap.objs.size, .ref l], []⟩) (fun r t => r = .done (.ret .none) ∧ Filled P w s ks t) E (withSet w s) := by
  obtain ⟨o, ho, hc, n, hd⟩ := hl
  obtain ⟨oc, od, oda, os⟩ := o
  dsimp only at hc hd
  subst hc hd
  have h1 : (s.heap.push (bare w)).get? l = some { cls := .type "tuple", dict := od, data := .seq items n, slots := os } := Heap.get?_push_of_some _ ho
  have s1 := F.sub_tuple_set
  have s2 := F.sub_tuple_frozenset
  have s3 : (Value.type "tuple" == Value.type "dict") = false := by decide
  have i1 : (s.heap.push (bare w)).IsTuple l items := ⟨_, h1, rfl, n, rfl⟩
  have ho0 : s.heap.IsTuple l items := ⟨_, ho, rfl, n, rfl⟩
  unfold Builtin.«set.__init__» noKeywords Builtin.Frozenset.updateFrom
  generalize hPI : pyIter = PI
  wp_walk
  subst hPI
  refine wpAny_pyIter_tuple i1 (wpAny_bind (wpAny_runValue ?_))
  have sz : (s.heap.push (bare w)).objs.size = s.heap.objs.size + 1 := Heap.size_push ..
  rw [sz]
  refine fill_ok ks (by simp [hh]) ho0 hit hk hfew ?_ fun t ft => ?_
  · show A.units + 1 < cLine
    omega
  · refine wpAny_pure ?_
    exact wpAny_pure ⟨rfl, ft⟩
/-- set(t) -/
theorem call_set_tupsT {l : Addr} {items : Array Value} (ks : List (Addr × List Int)) {Q : Value → Shared → Prop} (hh : A.handled = none) (hl : s.heap.IsTuple l items) (hit : items.toList = ks.map fun p => Value.ref p.1)
    (hk : ∀ p ∈ ks, IsT P w s.heap p.2 p.1) (hfew : ks.length < 64) (hu : A.units + 3 < cLine) (h : ∀ t, Filled P w s ks t → Q (.ref s.heap.objs.size) t) :
    wpAny (model P w) A (call (.type "set") [.ref l]) Q E s := by
  have ⟨_, _, hmro⟩ := F.called_set.mro
  have a1 := F.called_set.made
  have a2 := F.called_set.sub
  have a3 := F.called_set.notType
  have a4 := F.called_set.canCreate
  have a5 := F.typeCall_set_1 (.ref l)
  refine wpAny_call (codeAny_of_tree ?_)
  show wpAny _ _ (callAny (.type "set") _) _ _ _
  refine wpAny_pure ⟨Code.quiet_builtin _ (by decide +kernel), codeAny_builtin F.entry_type_call ?_⟩
  rw [Around.under_plain (weight_type_call_type "set" [.ref l] []) rfl]
  repeat (any_goals (first | assumption | wp_step))
  refine codeAny_mono (code_set_led1 (.ref l) (E := E) (Q₁ := fun v t => v = .ref s.heap.objs.size ∧ t = withSet w s) ⟨rfl, rfl⟩) fun r t hr => ?_
  match r, hr with
  | .ok (.ret v), hr =>
    obtain ⟨rfl, rfl⟩ := hr
    have hS : (s.heap.push (bare w)).get? s.heap.objs.size = some (bare w) := Heap.get?_push_size _ rfl
    have hT : Shared.TypeIs (withSet w s) (.ref s.heap.objs.size) "set" := ⟨_, hS, rfl⟩
    have b1 := F.called_set.init.lookup
    have b2 := F.called_set.init.bind (.ref s.heap.objs.size)
    repeat (any_goals (first | assumption | wp_step))
    refine codeAny_mono (codeAny_call_builtin (R := wants (fun v t => v = .none ∧ Filled P w s ks t) E) F.called_set.init.plain F.entry_set_init (check_set_init_1 hT ?_)) fun r2 t2 hr2 => ?_
    · exact thn (init_ok (E := E) ks (show A.in1.in1.handled = none by simp [hh]) hl hit hk hfew (by show A.units + 1 + 1 + 1 < cLine; omega)) fun v t ⟨e, f⟩ => by subst e; exact ⟨rfl, f⟩
    · match r2, hr2 with
      | .error e, hr2 => exact hr2
      | .ok (.ret v2), hr2 =>
        obtain ⟨rfl, ft⟩ := hr2
        repeat (any_goals (first | assumption | wp_step))
        exact h _ ft
  | .error e, hr => exact hr
end
/-! ### the different ones, ascending -/
def dd : List (List Int) → List (List Int)
  | [] => []
  | x :: xs => if x ∈ xs then dd xs else x :: dd xs
theorem mem_dd {y : List Int} : ∀ {xs : List (List Int)}, y ∈ dd xs ↔ y ∈ xs
  | [] => Iff.rfl
  | x :: xs => by
    rw [dd]
    split
    · rename_i h
      rw [mem_dd, List.mem_cons]
      exact ⟨.inr, fun z => z.elim (fun e => e ▸ h) id⟩
    · rw [List.mem_cons, List.mem_cons, mem_dd]
theorem nodup_dd : ∀ xs : List (List Int), (dd xs).Nodup
  | [] => List.nodup_nil
  | x :: xs => by
    rw [dd]
    split
    · exact nodup_dd xs
    · rename_i h
      exact List.nodup_cons.mpr ⟨fun z => h (mem_dd.mp z), nodup_dd xs⟩
abbrev topB : Int := 1099511627776
def sortSet (ks : List (List Int)) : List (List Int) := (dd ks).mergeSort fun a b => decide (TS.code topB a ≤ TS.code topB b)
def isPair (k : List Int) : Prop := ∃ a b, k = [a, b] ∧ (0 ≤ a ∧ a < topB) ∧ 0 ≤ b ∧ b < topB
theorem code_inj {k l : List Int} (h : isPair k) (h' : isPair l) (e1 : TS.code topB k ≤ TS.code topB l) (e2 : TS.code topB l ≤ TS.code topB k) : k = l := by
  obtain ⟨a, b, rfl, ⟨a1, a2⟩, b1, b2⟩ := h
  obtain ⟨c, d, rfl, ⟨c1, c2⟩, d1, d2⟩ := h'
  have e : ∀ x y : Int, TS.code topB [x, y] = x * topB + y := fun x y => by
    show x * topB ^ 1 + (y * topB ^ 0 + 0) = _
    rw [Int.pow_succ, Int.pow_zero, Int.one_mul, Int.mul_one, Int.add_zero]
  rw [e, e] at e1 e2
  unfold topB at *
  have : a = c ∧ b = d := by constructor <;> omega
  rw [this.1, this.2]
theorem sortSet_of {ks L : List (List Int)} (hk : ∀ k ∈ ks, isPair k) (nd : L.Nodup) (m : ∀ k, k ∈ L ↔ k ∈ ks) (pw : L.Pairwise fun a b => TS.code topB a ≤ TS.code topB b) : L = sortSet ks := by
  have pm : L.Perm (dd ks) := (List.perm_ext_iff_of_nodup nd (nodup_dd ks)).mpr fun k => by rw [m, mem_dd]
  have p2 : (sortSet ks).Perm (dd ks) := List.mergeSort_perm _ _
  have s2 : (sortSet ks).Pairwise fun a b => TS.code topB a ≤ TS.code topB b := by
    refine List.Pairwise.imp (fun h => of_decide_eq_true h) (List.pairwise_mergeSort (fun a b c h1 h2 => ?_) (fun a b => ?_) (dd ks))
    · rw [decide_eq_true_eq] at h1 h2 ⊢
      exact Int.le_trans h1 h2
    · rw [Bool.or_eq_true, decide_eq_true_eq, decide_eq_true_eq]
      exact Int.le_total _ _
  refine List.Perm.eq_of_pairwise (fun a b ha hb h1 h2 => ?_) pw s2 (pm.trans p2.symm)
  exact code_inj (hk _ ((m _).mp ha)) (hk _ (mem_dd.mp (p2.mem_iff.mp hb))) h1 h2
def pairsD : List D → Option (List (List Int))
  | [] => some []
  | .tuple [.int a, .int b] :: ds => if (0 ≤ a ∧ a < topB) ∧ 0 ≤ b ∧ b < topB then (pairsD ds).map ([a, b] :: ·) else none
  | _ => none
def pairD (k : List Int) : D := .tuple (k.map PyData.int)
def uSS (us : List U) (S : Store) : R U := match us with
  | [u] => (match (match u with
      | .d (.tuple ds) => some ds
      | u => viewL u S) with
    | some ds => (match pairsD ds with
      | some ks => if ks.length < 64 then .ok (.d (.list ((sortSet ks).map pairD))) S else .bad
      | none => .bad)
    | none => .bad)
  | _ => .bad
/-- set(xs), xs a list or a tuple of tuples of ints -/
def rSetTT (K : PySem.W.Frag) (P : Program) (w : World) : List V → Hp → VK → Prop := fun xs H Q => ∃ (l : Addr) (ks : List (Addr × List Int)), xs = [V.ref l] ∧ (SqL K H l (ks.map fun p => V.ref p.1) ∨ SqT K H l (ks.map fun p => V.ref p.1)) ∧ (∀ p ∈ ks, SqT K H p.1 (p.2.map V.int)) ∧ ks.length < 64 ∧
  ∀ a L, H a = none → (∀ p ∈ L, p ∈ ks) → (∀ p ∈ ks, p.2 ∈ L.map (·.2)) → Q (.ref a) (upd H a (SetTO P w a L))
section
variable {X : Cx}
theorem cr_setTT (hc : X.calm = true) (hu : X.A.units + 64 < cLine) : CallR X (.type "set") (rSetTT X.K X.prog X.w) := by
  intro pins s σ H xs us Q I r h
  obtain ⟨l, ks, rfl, hl, hk, hf, q⟩ := h
  rcases hl with hl | hl
  · exact cr_setOfT hc hu pins s σ H _ us Q I r ⟨l, ks, rfl, hl, hk, hf, q⟩
  · rw [Vals.ref1 r]
    obtain ⟨its, rv, pl, _⟩ := I.tuple hl
    have hn : H s.heap.objs.size = none := I.hok.fresh (Nat.le_refl _)
    refine call_set_tupsT (P := X.prog) (w := X.w) ks (I.ok.hd hc) (show s.heap.IsTuple l its.toArray from pl) (by simpa using refs_of_vals rv) (fun p hp => I.isT (hk p hp)) hf (by omega) fun t ft => ?_
    obtain ⟨h', tk, L, es, ep, tb, rfl, R, g, k⟩ := ft
    exact ⟨.ref s.heap.objs.size, _, I.laid (t' := tk) k (Nat.le_refl _) (setTO_new R.t0), rfl, q _ L hn (fun p hp => List.mem_of_mem_take (g.sub p hp)) fun p hp => g.all p (by rw [List.take_length]; exact hp)⟩
/-- sorted(set(xs)) -/
def tSS (K : PySem.W.Frag) (P : Program) (w : World) (t : TA) : TE := tCB (rSortedT K P w) (tCons (tCB (rSetTT K P w) t) tNil)
theorem pairs_ok {K : PySem.W.Frag} {F : Hp} : ∀ {ds : List D} {vs : List V} {ks : List (List Int)}, IsAll K F vs ds → pairsD ds = some ks → ∃ as : List (Addr × List Int), vs = as.map (fun p => V.ref p.1) ∧ as.map (·.2) = ks ∧ ∀ p ∈ as, SqT K F p.1 (p.2.map V.int) ∧ isPair p.2
  | [], _, _, h, e => by
    cases h
    cases e
    exact ⟨[], rfl, rfl, fun p hp => by cases hp⟩
  | d :: ds, _, ks, h, e => by
    unfold pairsD at e
    split at e
    · rename_i heq
      cases heq
    · rename_i a b ds' heq
      cases heq
      split at e
      · rename_i hb
        cases q : pairsD ds with
        | none => rw [q] at e; cases e
        | some l =>
          rw [q] at e
          cases e
          cases h with
          | cons h1 h2 =>
            obtain ⟨as, e1, e2, e3⟩ := pairs_ok h2 q
            cases h1 with
            | @tup t xs _ t1 t2 =>
              cases t2 with
              | cons i1 t3 =>
                cases t3 with
                | cons i2 t4 =>
                  cases t4
                  cases i1
                  cases i2
                  refine ⟨(t, [a, b]) :: as, by rw [List.map_cons, e1], by rw [List.map_cons, e2], fun p hp => ?_⟩
                  rcases List.mem_cons.mp hp with z | z
                  · rw [z]
                    exact ⟨t1, a, b, rfl, hb⟩
                  · exact e3 p z
      · cases e
    · cases e
theorem fit_SS {x : Fx} {W : WX} {P : Program} {w : World} {ts : TA} {fs : Vr → Store → R (List U)} (hs : FitA x W ts fs) : FitE x W (tSS x.K P w ts) (fN uSS fs) := by
  intro α F ρ S σ H r0 s Q q
  refine hs.bind r0 s q fun α1 F1 S1 H1 vs us e1 r1 s1 i1 p1 => ?_
  unfold uSS at p1
  split at p1
  · rename_i u
    obtain ⟨v, rfl, i2⟩ := us1 i1
    split at p1
    · rename_i ds hd
      have src : ∃ A vs, v = .ref A ∧ IsAll x.K F1 vs ds ∧ (SqL x.K H1 A vs ∨ SqT x.K H1 A vs) := by
        split at hd
        · cases hd
          have j : Is x.K F1 v (.tuple ds) := i2
          cases j with
          | tup a b => exact ⟨_, _, rfl, b, .inr (le_t r1.le a)⟩
        · obtain ⟨A, vs, h1, h2, h3⟩ := viewL_ok r1 i2 hd
          exact ⟨A, vs, h1, h3, .inl h2⟩
      obtain ⟨A, vs, rfl, ia, sq⟩ := src
      split at p1
      · rename_i ks hp
        split at p1
        · rename_i hl
          obtain ⟨as, rfl, rfl, ha⟩ := pairs_ok ia hp
          rw [List.length_map] at hl
          refine ⟨A, as, rfl, sq, fun p hp => le_t r1.le (ha p hp).1, hl, fun a L hn hs1 hs2 => ?_⟩
          have eL : ∀ p ∈ L, SqT x.K F1 p.1 (p.2.map V.int) ∧ isPair p.2 := fun p hp => ha p (hs1 p hp)
          obtain ⟨r2, e2⟩ := r1.frozen (o := SetTO P w a L) hn (fun ps z => by cases z)
          refine ⟨a, L, 2, topB, rfl, upd_same, fun p hp => le_t r2.le (le_t e2.fr (eL p hp).1), by decide, fun p hp => ?_, fun L' p pm nd few pw hn2 => ?_⟩
          · obtain ⟨x1, y1, e, b1, b2⟩ := (eL p hp).2
            rw [e]
            refine ⟨rfl, fun m hm => ?_⟩
            simp only [List.mem_cons, List.not_mem_nil, or_false] at hm
            rcases hm with rfl | rfl
            · exact b1
            · exact b2
          · obtain ⟨r3, e3⟩ := r2.frozen (o := .lst (L'.map fun q => V.ref q.1)) hn2
            have key : L'.map (·.2) = sortSet (as.map (·.2)) := sortSet_of (fun k hk => by
                obtain ⟨p, hp, rfl⟩ := List.mem_map.mp hk
                exact (ha p hp).2) nd (fun k => by
                constructor
                · intro h
                  obtain ⟨p, hp, rfl⟩ := List.mem_map.mp h
                  exact List.mem_map.mpr ⟨p, hs1 p (pm.mem_iff.mp hp), rfl⟩
                · intro h
                  obtain ⟨p, hp, rfl⟩ := List.mem_map.mp h
                  obtain ⟨p', hp', e⟩ := List.mem_map.mp (hs2 p hp)
                  exact List.mem_map.mpr ⟨p', pm.mem_iff.mpr hp', e⟩) (List.pairwise_map.mpr pw)
            refine p1 α1 _ _ _ (e2.trans e3) r3 (.lst upd_same ?_)
            rw [← key, List.map_map]
            have all : ∀ M : List (Addr × List Int), (∀ p ∈ M, p ∈ L) → IsAll x.K (upd (upd F1 a (SetTO P w a L)) p (.lst (L'.map fun q => V.ref q.1))) (M.map fun q => V.ref q.1) (M.map (pairD ∘ fun q => q.2)) := fun M => by
              induction M with
              | nil => intro _; exact .nil
              | cons q M ih =>
                intro hM
                exact .cons (.tup (le_t e3.fr (le_t e2.fr (eL q (hM q List.mem_cons_self)).1)) (IsAll.int _)) (ih fun z hz => hM z (List.mem_cons_of_mem _ hz))
            exact all L' fun p hp => pm.mem_iff.mp hp
        · exact p1.elim
      · exact p1.elim
    · exact p1.elim
  · exact p1.elim
theorem de_sortedSet {x : Fx} {W : WX} {a : Expr} {ts : TA} {fs : Vr → Store → R (List U)} {n : Nat} {p p2 q pos : Pos} (hK : x.K = X.K) (hc : X.calm = true) (hu : X.A.units + 64 < cLine) (hm : X.mg "sorted" = none) (hm2 : X.mg "set" = none) (ha : DA X x W [a] ts fs n) (hg : Gl X "sorted" := by rfl) (hg2 : Gl X "set" := by rfl)
    (he : starEach [a] X.env = (false, eval a X.env) :: starEach [] X.env := by rfl) (hpl : (backTo q (starEach [] X.env)).any (·.1) = false := by rfl)
    (he2 : starEach [.Call (.Name "set" p2) [a] [] q] X.env = (false, eval (.Call (.Name "set" p2) [a] [] q) X.env) :: starEach [] X.env := by rfl) (hpl2 : (backTo pos (starEach [] X.env)).any (·.1) = false := by rfl) :
    DE X x W (.Call (.Name "sorted" p) [.Call (.Name "set" p2) [a] [] q] [] pos) (tSS X.K X.prog X.w ts) (fN uSS fs) :=
  ⟨pe_callB (cr_sortedT hc) hg hm boot_sorted (pa_cons (pe_callTy (cr_setTT hc hu) hg2 hm2 PyProof.Rows.boot_set ha.pa (by decide) (by decide) he hpl) pa_nil he2) (by decide) (by decide) he2 hpl2, hK ▸ fit_SS ha.fit⟩
end
end Z

/-! Z28: a list that may change is walked and stays what it is: each turn asks that it does. -/
namespace Z
open PySem PySem.Spec PyProof.Rows L2
open Classical in
noncomputable def forK (l : Nat) (all : List D) (tg : U → Vr → Option Vr) (body : Vr → Store → O) : List D → Vr → Store → O
  | [], ρ, S => if S[l]? = some (some all) then .nx ρ S else .bad
  | d :: ds, ρ, S => if S[l]? = some (some all) then (match tg (.d d) ρ with
    | none => .bad
    | some ρ1 => match body ρ1 S with
      | .nx ρ2 S2 => forK l all tg body ds ρ2 S2
      | .ct ρ2 S2 => forK l all tg body ds ρ2 S2
      | .bk ρ2 S2 => .nx ρ2 S2
      | o => o) else .bad
noncomputable def gForK (fe : Vr → Store → R U) (tg : U → Vr → Option Vr) (body : Vr → Store → O) : Vr → Store → O := fun ρ S => (fe ρ S).st ρ fun u S1 => match u with
  | .loc l => (match S1[l]? with
    | some (some ds) => forK l ds tg body ds ρ S1
    | _ => .bad)
  | _ => .bad
/-- the cell l as it stands -/
theorem cell_at {x : Fx} {α : Nat → Addr} {F : Hp} {S : Store} {H : Hp} {l : Nat} {ds : List D} {i : Nat} {d : D} (r : Rep x α F S H) (h : S[l]? = some (some ds)) (hd : ds[i]? = some d) : (Itl x.K (α l)).go i H ∧ ∀ v H', (Itl x.K (α l)).yld i H v H' → H' = H ∧ Is x.K F v d := by
  obtain ⟨_, vs, h2, h3⟩ := r.cell l ds h
  obtain ⟨v, hv, iv⟩ := h3.get hd
  refine ⟨⟨vs, v, SqL.of h2, hv⟩, fun w H' y => ?_⟩
  obtain ⟨rfl, y⟩ := y
  have e := y vs (SqL.of h2)
  rw [hv] at e
  cases e
  exact ⟨rfl, iv⟩
theorem cell_end {x : Fx} {α : Nat → Addr} {F : Hp} {S : Store} {H : Hp} {l : Nat} {ds : List D} {i : Nat} (r : Rep x α F S H) (h : S[l]? = some (some ds)) (hi : ds.length ≤ i) : (Itl x.K (α l)).stop i H := by
  obtain ⟨_, vs, h2, h3⟩ := r.cell l ds h
  exact ⟨vs, SqL.of h2, by rw [h3.length]; exact hi⟩
section
variable {x : Fx} {W : WX} {te : TE} {fe : Vr → Store → R U} {g : TG} {tg : U → Vr → Option Vr} {tb : TS} {body : Vr → Store → O}
theorem fits_forK (h : FitE x W te fe) (hg : FitG x g tg) (hb : FitS x W tb body) : FitS x W (tFor (iSeq x.K te) g tb) (gForK fe tg body) := by
  intro α F ρ S σ H r s D p
  refine h.st r s p fun α1 F1 S1 H1 v u e1 r1 s1 i1 p1 => ?_
  split at p1
  · rename_i l
    split at p1
    · rename_i ds hl
      obtain ⟨rfl, hlt⟩ := is_loc i1
      obtain ⟨_, vs, c2, c3⟩ := r1.cell l ds hl
      refine ⟨_, rfl, .inl ⟨⟨vs, SqL.of c2⟩, fun i m σ' H' => m = ds.length - i ∧ i ≤ ds.length ∧ ∃ α' F' ρ' S', Ext α1 α' F1 F' S1 S' ∧ Rep x α' F' S' H' ∧ Sl x α' F' S'.length σ' ρ' ∧ PostS x W α' F' S' D (forK l ds tg body (ds.drop i) ρ' S'),
        ⟨ds.length, rfl, Nat.zero_le _, α1, F1, ρ, S1, Ext.refl _ _ _, r1, s1, p1⟩, ?_⟩⟩
      rintro i m σ' H' ⟨hm, hi, α', F', ρ', S', e2, r2, s2, p2⟩
      have al : α' l = α1 l := e2.al l hlt
      by_cases hlt : i < ds.length
      · have hd : ds[i]? = some ds[i] := List.getElem?_eq_getElem hlt
        rw [drop_cons hd] at p2
        unfold forK at p2
        split at p2
        · rename_i hc
          obtain ⟨go, yl⟩ := cell_at r2 hc hd
          rw [al] at go yl
          refine .inr ⟨go, fun σ3 H3 => i + 1 ≤ ds.length ∧ ∃ α' F' ρ' S', Ext α1 α' F1 F' S1 S' ∧ Rep x α' F' S' H3 ∧ Sl x α' F' S'.length σ3 ρ' ∧ PostS x W α' F' S' D (forK l ds tg body (ds.drop (i + 1)) ρ' S'),
            fun σ3 H3 n => ⟨ds.length - (i + 1), by omega, rfl, n⟩, fun v H3 y => ?_⟩
          obtain ⟨rfl, i3⟩ := yl v H3 y
          split at p2
          · exact p2.elim
          · rename_i ρ1 et
            refine hg α' F' ρ' S' σ' H3 v (.d ds[i]) ρ1 r2 s2 i3 et _ fun σ4 s4 => ?_
            refine hb α' F' ρ1 S' σ4 H3 r2 s4 _ ?_
            cases eb : body ρ1 S' with
            | nx ρ2 S2 =>
              rw [eb] at p2
              exact fun α5 F5 H5 σ5 e5 r5 s5 => ⟨hlt, α5, F5, ρ2, S2, e2.trans e5, r5, s5, PostS.ext e5 p2⟩
            | ct ρ2 S2 =>
              rw [eb] at p2
              exact fun α5 F5 H5 σ5 e5 r5 s5 => ⟨hlt, α5, F5, ρ2, S2, e2.trans e5, r5, s5, PostS.ext e5 p2⟩
            | bk ρ2 S2 => rw [eb] at p2; exact p2
            | rt u S2 => rw [eb] at p2; exact p2
            | exc c d ρ2 S2 => rw [eb] at p2; exact p2
            | bad => rw [eb] at p2; exact p2
        · exact p2.elim
      · have e : i = ds.length := by omega
        subst e
        rw [List.drop_length] at p2
        unfold forK at p2
        split at p2
        · rename_i hc
          have st := cell_end (i := ds.length) r2 hc (Nat.le_refl _)
          rw [al] at st
          exact .inl ⟨st, p2 α' F' H' σ' (Ext.refl _ _ _) r2 s2⟩
        · exact p2.elim
    · exact p1.elim
  · exact p1.elim
end
section
variable {X : Cx} {x : Fx} {W : WX} {tg iter : Expr} {body : List Stmt} {te : TE} {fe : Vr → Store → R U} {gg : TG} {a1 : U → Vr → Option Vr} {tb : TS} {g : Vr → Store → O} {pos : Pos}
theorem ds_forK (hp : PassesOwn (model X.prog X.w) X.A X.env X.xe) (hc : X.calm = true) (hK : x.K = X.K) (hi : DE X x W iter te fe) (hg : DG X x tg gg a1) (hb : DB X x W body tb g)
    (hs : ∀ y, foldedSetIterable iter X.env y = pure y := by intro _; rfl) : DS X x W (.For tg iter body [] pos) (tFor (iSeq X.K te) gg tb) (gForK fe a1 g) := ⟨ps_for hp hc (pi_seq hi.pe) hg.pg hb.ps hs, hK ▸ fits_forK hi.fit hg.fit hb.fit⟩
end
/-! ### comprehensions -/
open Classical in
/-- the walk over the cell l into the cell m -/
noncomputable def lcLoopK (l : Nat) (all : List D) (m : Nat) (tg : U → Vr → Option Vr) (ft : Vr → Store → R Bool) (fe : Vr → Store → R U) (ρ : Vr) : List D → Store → R Unit
  | [], S => if S[l]? = some (some all) then .ok () S else .bad
  | d :: ds, S => if S[l]? = some (some all) then (match tg (.d d) ρ with
    | none => .bad
    | some ρ1 => (ft ρ1 S).bnd0 fun b S1 => if b = true then (fe ρ1 S1).bnd0 fun u S2 => (match frz u S2 with
        | some (y, S3) => (match S3[m]? with
          | some (some acc) => if acc.length < 1000000 then lcLoopK l all m tg ft fe ρ ds (S3.set m (some (acc ++ [y]))) else .bad
          | _ => .bad)
        | none => .bad) else lcLoopK l all m tg ft fe ρ ds S1) else .bad
noncomputable def lcRunK (fs : Vr → Store → R U) (tg : U → Vr → Option Vr) (ft : Vr → Store → R Bool) (fe : Vr → Store → R U) (vs : List Nat) (k : List D → Store → Store → R U) : Vr → Store → R U := fun ρ S =>
  (fs ρ S).bind fun u S1 => match u with
    | .loc l => (match S1[l]? with
      | some (some ds) => (lcLoopK l ds S1.length tg ft fe (wipeU ρ vs) ds (S1 ++ [some []])).bnd0 fun _ S2 => (match S2[S1.length]? with
        | some (some acc) => k acc S1 S2
        | _ => .bad)
      | _ => .bad)
    | _ => .bad
noncomputable def fLcK (fs : Vr → Store → R U) (tg : U → Vr → Option Vr) (ft : Vr → Store → R Bool) (fe : Vr → Store → R U) (vs : List Nat) : Vr → Store → R U := lcRunK fs tg ft fe vs fun acc S1 S2 => .ok (.d (.list acc)) (S2.take S1.length)
noncomputable def fLcKL (fs : Vr → Store → R U) (tg : U → Vr → Option Vr) (ft : Vr → Store → R Bool) (fe : Vr → Store → R U) (vs : List Nat) : Vr → Store → R U := lcRunK fs tg ft fe vs fun acc S1 S2 => .ok (.loc S1.length) (S2.take (S1.length + 1))
section
variable {x : Fx} {W : WX} {tl : TE} {fs : Vr → Store → R U} {g : TG} {tg : U → Vr → Option Vr} {tt : TT} {ft : Vr → Store → R Bool} {te : TE} {fe : Vr → Store → R U} {vs : List Nat}
theorem fit_lcRunK {k : List D → Store → Store → R U} (hk : ∀ α α' F F' S1 S2 H' acc (Dl : Addr) σ Q, α' S1.length = Dl → Ext α α' F F' S1 S2 → S1.length < S2.length → Rep x α' F' S2 H' → S2[S1.length]? = some (some acc) → Post zU x W α F S1 σ Q (k acc S1 S2) → Q (.ref Dl) H')
    (hi : FitE x W tl fs) (hg : FitG x g tg) (hw : GM g vs) (ht : FitT x W0 tt ft) (he : FitE x W0 te fe) : FitE x W (tLc (iSeq x.K tl) g tt te vs) (lcRunK fs tg ft fe vs k) := by
  intro α F ρ S σ H r0 s0 Q q
  refine hi.bind r0 s0 q fun α1 F1 S1 H1 v u e1 r1 s1 i1 p1 => ?_
  split at p1
  · rename_i l
    split at p1
    · rename_i ds hcell
      obtain ⟨rfl, hlt⟩ := is_loc i1
      obtain ⟨_, vs0, c2, c3⟩ := r1.cell l ds hcell
      refine ⟨_, rfl, .inl ⟨⟨vs0, SqL.of c2⟩, fun Dl hD => ?_⟩⟩
      obtain ⟨r2, e2⟩ := r1.fresh (vs := []) (ds := []) hD .nil
      have aD : (fun i => if i = S1.length then Dl else α1 i) S1.length = Dl := if_pos rfl
      generalize hα : (fun i => if i = S1.length then Dl else α1 i) = α2 at r2 e2 aD
      cases hl : lcLoopK l ds S1.length tg ft fe (wipeU ρ vs) ds (S1 ++ [some []]) with
      | exc _ _ _ => rw [hl] at p1; exact p1.elim
      | bad => rw [hl] at p1; exact p1.elim
      | ok u S2 =>
        rw [hl] at p1
        have p2 : Post zU x W α1 F1 S1 σ Q (match S2[S1.length]? with
          | some (some acc) => k acc S1 S2
          | _ => .bad) := p1
        have sw := sl_wipe s1 vs
        have ln : (S1 ++ [some ([] : List D)]).length = S1.length + 1 := by rw [List.length_append, List.length_singleton]
        have a2l : α2 l = α1 l := e2.al l hlt
        refine ⟨fun i m H' => m = ds.length - i ∧ i ≤ ds.length ∧ ∃ α' F' S', Ext α2 α' F1 F' (S1 ++ [some []]) S' ∧ Rep x α' F' S' H' ∧ lcLoopK l ds S1.length tg ft fe (wipeU ρ vs) (ds.drop i) S' = .ok u S2, ⟨ds.length, rfl, Nat.zero_le _, α2, F1, S1 ++ [some []], Ext.refl _ _ _, r2, hl⟩, ?_⟩
        rintro i m H' ⟨hm, hile, α', F', S', e3, r3, l3⟩
        have al : α' l = α1 l := (e3.al l (by rw [ln]; omega)).trans a2l
        by_cases hlt : i < ds.length
        · have hd : ds[i]? = some ds[i] := List.getElem?_eq_getElem hlt
          rw [drop_cons hd] at l3
          unfold lcLoopK at l3
          split at l3
          · rename_i hc
            obtain ⟨go, yl⟩ := cell_at r3 hc hd
            rw [al] at go yl
            refine .inr ⟨go, fun H3 => i + 1 ≤ ds.length ∧ ∃ α' F' S', Ext α2 α' F1 F' (S1 ++ [some []]) S' ∧ Rep x α' F' S' H3 ∧ lcLoopK l ds S1.length tg ft fe (wipeU ρ vs) (ds.drop (i + 1)) S' = .ok u S2,
              fun H3 n => ⟨ds.length - (i + 1), by omega, rfl, n⟩, fun v H3 y => ?_⟩
            obtain ⟨rfl, i4⟩ := yl v H3 y
            split at l3
            · cases l3
            · rename_i ρ1 et
              have sw3 : Sl x α' F' S'.length (wipe σ vs) (wipeU ρ vs) := (sw.ext e2).ext e3
              have step := hw.w v (wipe σ vs) H3 _ (hg α' F' (wipeU ρ vs) S' (wipe σ vs) H3 v (.d ds[i]) ρ1 r3 sw3 (show Is x.K F' v ds[i] from i4) et (fun σ' H' => H' = H3 ∧ Sl x α' F' S'.length σ' ρ1) fun σ' s' => ⟨rfl, s'⟩)
              refine hw.m v _ H3 _ _ ?_ step
              rintro σ4 H4 ⟨e5, rfl, s4⟩
              refine ⟨by rw [e5, wipe_wipe], ?_⟩
              refine ht α' F' ρ1 S' σ4 H4 r3 s4 _ ?_
              cases eb : ft ρ1 S' with
              | exc _ _ _ => rw [eb] at l3; cases l3
              | bad => rw [eb] at l3; cases l3
              | ok b S5 =>
                rw [eb] at l3
                intro α5 F5 H5 b' e6 r5 hb
                have hb' : b' = b := hb
                subst hb'
                cases b' with
                | false => exact ⟨hlt, α5, F5, S5, e3.trans e6, r5, l3⟩
                | true =>
                  simp only [if_true]
                  refine he α5 F5 ρ1 S5 σ4 H5 r5 (s4.ext e6) _ ?_
                  have l4 : (fe ρ1 S5).bnd0 (fun u S2 => (match frz u S2 with
                    | some (y, S3) => (match S3[S1.length]? with
                      | some (some acc) => if acc.length < 1000000 then lcLoopK l ds S1.length tg ft fe (wipeU ρ vs) (ds.drop (i + 1)) (S3.set S1.length (some (acc ++ [y]))) else .bad
                      | _ => .bad)
                    | none => .bad)) = .ok u S2 := l3
                  cases ee : fe ρ1 S5 with
                  | exc _ _ _ => rw [ee] at l4; cases l4
                  | bad => rw [ee] at l4; cases l4
                  | ok w S6 =>
                    rw [ee] at l4
                    intro α6 F6 H6 v6 e7 r6 i6
                    simp only [R.bnd0] at l4
                    split at l4
                    · rename_i y6 S7 hf
                      obtain ⟨F7, r7, e8, j7⟩ := frz_ok r6 i6 hf
                      split at l4
                      · rename_i acc hacc
                        obtain ⟨c1, ws, c2, c3⟩ := r7.cell _ _ hacc
                        split at l4
                        · rename_i hz
                          have eall : Ext α2 α6 F1 F7 (S1 ++ [some []]) S7 := ((e3.trans e6).trans e7).trans e8
                          have a6 : α6 S1.length = Dl := (eall.al _ (by rw [ln]; omega)).trans aD
                          obtain ⟨r8, e9⟩ := r7.write hacc (c3.append (.one j7))
                          rw [a6] at c2 r8
                          exact ⟨ws, c2, lt_line (by rw [c3.length]; exact hz), hlt, α6, F7, _, eall.trans e9, r8, l4⟩
                        · cases l4
                      · cases l4
                    · cases l4
          · cases l3
        · have ei : i = ds.length := by omega
          subst ei
          rw [List.drop_length] at l3
          unfold lcLoopK at l3
          split at l3
          · rename_i hc
            have st := cell_end (i := ds.length) r3 hc (Nat.le_refl _)
            rw [al] at st
            cases l3
            refine .inl ⟨st, ?_⟩
            have ex := e2.trans e3
            have a3 : α' S1.length = Dl := (e3.al _ (by rw [ln]; omega)).trans aD
            split at p2
            · rename_i acc hacc
              exact hk α1 α' F1 F' S1 S2 H' acc Dl σ Q a3 ex (by have := e3.len; rw [ln] at this; omega) r3 hacc p2
            · exact p2.elim
          · cases l3
    · exact p1.elim
  · exact p1.elim
theorem fit_lcK (hi : FitE x W tl fs) (hg : FitG x g tg) (hw : GM g vs) (ht : FitT x W0 tt ft) (he : FitE x W0 te fe) : FitE x W (tLc (iSeq x.K tl) g tt te vs) (fLcK fs tg ft fe vs) := by
  refine fit_lcRunK (fun α α' F F' S1 S2 H' acc Dl σ Q a ex hlt r hacc p => ?_) hi hg hw ht he
  obtain ⟨F2, ws, r2, e2, h1, h2⟩ := r.freeze hacc
  have r3 := r2.cut S1.length
  have et : (S2.set S1.length none).take S1.length = S2.take S1.length := List.take_set_of_le (Nat.le_refl _)
  rw [et] at r3
  have e4 := (ex.trans e2).cut.1
  rw [et] at e4
  rw [a] at h1
  exact p α' F2 H' _ e4 r3 (.lst h1 h2)
theorem fit_lcKL (hi : FitE x W tl fs) (hg : FitG x g tg) (hw : GM g vs) (ht : FitT x W0 tt ft) (he : FitE x W0 te fe) : FitE x W (tLc (iSeq x.K tl) g tt te vs) (fLcKL fs tg ft fe vs) := by
  refine fit_lcRunK (fun α α' F F' S1 S2 H' acc Dl σ Q a ex hlt r hacc p => ?_) hi hg hw ht he
  have r3 := r.cut (S1.length + 1)
  have ln : (S2.take (S1.length + 1)).length = S1.length + 1 := by rw [List.length_take]; omega
  exact p α' F' H' _ ⟨by rw [ln]; omega, ex.al, ex.fr⟩ r3 ⟨by rw [a], by rw [ln]; omega⟩
end
section
variable {X : Cx} {x : Fx} {W : WX} {elt tg iter : Expr} {ifs : List Expr} {scope : Scope} {own : List (Str × Nat)} {pos : Pos} {tl : TE} {fs : Vr → Store → R U} {g : TG} {a1 : U → Vr → Option Vr} {tt : TT} {ft : Vr → Store → R Bool} {te : TE} {fe : Vr → Store → R U}
theorem de_lcK (hK : x.K = X.K) (hc : X.calm = true) (hN : X.N.Nodup) (hi : DE X x W iter tl fs) (ok : BlkOk X.N X.env.scope scope own)
    (hg : ∀ (s : Shared) (H : Hp) (C : Addr) (cl : List (Str × Addr)) (fp : List Addr), DG (X.blk s H scope (compEnvC scope cl C X.env) fp) x tg g a1) (hw : GM g (own.map (·.2)))
    (ht : ∀ (s : Shared) (H : Hp) (C : Addr) (cl : List (Str × Addr)) (fp : List Addr), DTs (X.blk s H scope (compEnvC scope cl C X.env) fp) x W0 ifs tt ft)
    (he : ∀ (s : Shared) (H : Hp) (C : Addr) (cl : List (Str × Addr)) (fp : List Addr), DE (X.blk s H scope (compEnvC scope cl C X.env) fp) x W0 elt te fe) (hs : ∀ y, foldedSetIterable iter X.env y = pure y := by intro _; rfl) :
    DE X x W (.ListComp elt [⟨tg, iter, ifs, 0⟩] scope pos) (tLc (iSeq X.K tl) g tt te (own.map (·.2))) (fLcK fs a1 ft fe (own.map (·.2))) :=
  ⟨pe_lc hc hN (pi_seq hi.pe) ok (fun s H C cl fp => (hg s H C cl fp).pg) (fun s H C cl fp => (ht s H C cl fp).pt) (fun s H C cl fp => (he s H C cl fp).pe) hs, hK ▸ fit_lcK hi.fit (hg st0 (fun _ => none) 0 [] []).fit hw (ht st0 (fun _ => none) 0 [] []).fit (he st0 (fun _ => none) 0 [] []).fit⟩
theorem de_lcKL (hK : x.K = X.K) (hc : X.calm = true) (hN : X.N.Nodup) (hi : DE X x W iter tl fs) (ok : BlkOk X.N X.env.scope scope own)
    (hg : ∀ (s : Shared) (H : Hp) (C : Addr) (cl : List (Str × Addr)) (fp : List Addr), DG (X.blk s H scope (compEnvC scope cl C X.env) fp) x tg g a1) (hw : GM g (own.map (·.2)))
    (ht : ∀ (s : Shared) (H : Hp) (C : Addr) (cl : List (Str × Addr)) (fp : List Addr), DTs (X.blk s H scope (compEnvC scope cl C X.env) fp) x W0 ifs tt ft)
    (he : ∀ (s : Shared) (H : Hp) (C : Addr) (cl : List (Str × Addr)) (fp : List Addr), DE (X.blk s H scope (compEnvC scope cl C X.env) fp) x W0 elt te fe) (hs : ∀ y, foldedSetIterable iter X.env y = pure y := by intro _; rfl) :
    DE X x W (.ListComp elt [⟨tg, iter, ifs, 0⟩] scope pos) (tLc (iSeq X.K tl) g tt te (own.map (·.2))) (fLcKL fs a1 ft fe (own.map (·.2))) :=
  ⟨pe_lc hc hN (pi_seq hi.pe) ok (fun s H C cl fp => (hg s H C cl fp).pg) (fun s H C cl fp => (ht s H C cl fp).pt) (fun s H C cl fp => (he s H C cl fp).pe) hs, hK ▸ fit_lcKL hi.fit (hg st0 (fun _ => none) 0 [] []).fit hw (ht st0 (fun _ => none) 0 [] []).fit (he st0 (fun _ => none) 0 [] []).fit⟩
theorem ds_setLcK {i : Nat} {y : Str} {py spos : Pos} (hK : x.K = X.K) (hc : X.calm = true) (hN : X.N.Nodup) (hi : DE X x W iter tl fs) (ok : BlkOk X.N X.env.scope scope own)
    (hg : ∀ (s : Shared) (H : Hp) (C : Addr) (cl : List (Str × Addr)) (fp : List Addr), DG (X.blk s H scope (compEnvC scope cl C X.env) fp) x tg g a1) (hw : GM g (own.map (·.2)))
    (ht : ∀ (s : Shared) (H : Hp) (C : Addr) (cl : List (Str × Addr)) (fp : List Addr), DTs (X.blk s H scope (compEnvC scope cl C X.env) fp) x W0 ifs tt ft)
    (he : ∀ (s : Shared) (H : Hp) (C : Addr) (cl : List (Str × Addr)) (fp : List Addr), DE (X.blk s H scope (compEnvC scope cl C X.env) fp) x W0 elt te fe)
    (hy : X.N[i]? = some y := by rfl) (hyl : X.env.scope.names.lookup y = some .local := by rfl) (hsw : swapsWith (.ListComp elt [⟨tg, iter, ifs, 0⟩] scope pos) (some (.Name y py)) spos.line X.env = pure true := by exact sw_true rfl rfl rfl (by decide +kernel))
    (hs : ∀ y, foldedSetIterable iter X.env y = pure y := by intro _; rfl) :
    DS X x W (.Assign [.Name y py] (.ListComp elt [⟨tg, iter, ifs, 0⟩] scope pos) spos) (tAsg (tLc (iSeq X.K tl) g tt te (own.map (·.2))) (gName i)) (gSet i (fLcK fs a1 ft fe (own.map (·.2)))) :=
  ⟨ps_setLc hc hN hy hyl hsw (pi_seq hi.pe) ok (fun s H C cl fp => (hg s H C cl fp).pg) (fun s H C cl fp => (ht s H C cl fp).pt) (fun s H C cl fp => (he s H C cl fp).pe) hs, fits_set i (hK ▸ fit_lcK hi.fit (hg st0 (fun _ => none) 0 [] []).fit hw (ht st0 (fun _ => none) 0 [] []).fit (he st0 (fun _ => none) 0 [] []).fit)⟩
theorem ds_setLcKL {i : Nat} {y : Str} {py spos : Pos} (hK : x.K = X.K) (hc : X.calm = true) (hN : X.N.Nodup) (hi : DE X x W iter tl fs) (ok : BlkOk X.N X.env.scope scope own)
    (hg : ∀ (s : Shared) (H : Hp) (C : Addr) (cl : List (Str × Addr)) (fp : List Addr), DG (X.blk s H scope (compEnvC scope cl C X.env) fp) x tg g a1) (hw : GM g (own.map (·.2)))
    (ht : ∀ (s : Shared) (H : Hp) (C : Addr) (cl : List (Str × Addr)) (fp : List Addr), DTs (X.blk s H scope (compEnvC scope cl C X.env) fp) x W0 ifs tt ft)
    (he : ∀ (s : Shared) (H : Hp) (C : Addr) (cl : List (Str × Addr)) (fp : List Addr), DE (X.blk s H scope (compEnvC scope cl C X.env) fp) x W0 elt te fe)
    (hy : X.N[i]? = some y := by rfl) (hyl : X.env.scope.names.lookup y = some .local := by rfl) (hsw : swapsWith (.ListComp elt [⟨tg, iter, ifs, 0⟩] scope pos) (some (.Name y py)) spos.line X.env = pure true := by exact sw_true rfl rfl rfl (by decide +kernel))
    (hs : ∀ y, foldedSetIterable iter X.env y = pure y := by intro _; rfl) :
    DS X x W (.Assign [.Name y py] (.ListComp elt [⟨tg, iter, ifs, 0⟩] scope pos) spos) (tAsg (tLc (iSeq X.K tl) g tt te (own.map (·.2))) (gName i)) (gSet i (fLcKL fs a1 ft fe (own.map (·.2)))) :=
  ⟨ps_setLc hc hN hy hyl hsw (pi_seq hi.pe) ok (fun s H C cl fp => (hg s H C cl fp).pg) (fun s H C cl fp => (ht s H C cl fp).pt) (fun s H C cl fp => (he s H C cl fp).pe) hs, fits_set i (hK ▸ fit_lcKL hi.fit (hg st0 (fun _ => none) 0 [] []).fit hw (ht st0 (fun _ => none) 0 [] []).fit (he st0 (fun _ => none) 0 [] []).fit)⟩
end
end Z

/-! Z40: sorted(xs) of a list of alike data (numbers, texts, tuples and lists of these). -/
namespace Z
open PySem PySem.Spec PyProof.Rows L2
abbrev dLe : D → D → Bool := PySem.W.sortLe (listOrd itemOrd) false PySem.W.keyToks
def sortD (ds : List D) : List D := ds.mergeSort dLe
/-- may be sorted -/
def okSort (ds : List D) : Bool := (ds.all fun d => (ds.all fun e => PySem.W.alike d e) && decide (d.depth ≤ 60)) &&
  ((ds.all fun d => match d with
    | .tuple (_ :: _) => true
    | _ => false) || ds.all fun d => match d with
    | .none => false
    | .tuple _ => false
    | _ => true)
theorem okSort_alike {ds : List D} (h : okSort ds = true) : PySem.W.AllAlike ds := fun d hd e he => by
  unfold okSort at h
  rw [Bool.and_eq_true] at h
  have := List.all_eq_true.mp h.1 d hd
  rw [Bool.and_eq_true] at this
  exact List.all_eq_true.mp this.1 e he
theorem okSort_depth {ds : List D} (h : okSort ds = true) : ∀ d ∈ ds, d.depth ≤ 60 := fun d hd => by
  unfold okSort at h
  rw [Bool.and_eq_true] at h
  have := List.all_eq_true.mp h.1 d hd
  rw [Bool.and_eq_true, decide_eq_true_eq] at this
  exact this.2
theorem okSort_kind {ds : List D} (h : okSort ds = true) : PySem.W.Sortable ds := by
  unfold okSort at h
  rw [Bool.and_eq_true, Bool.or_eq_true] at h
  rcases h.2 with h | h
  · refine .inl fun d hd => ?_
    have := List.all_eq_true.mp h d hd
    split at this
    · exact ⟨_, _, rfl⟩
    · cases this
  · refine .inr fun d hd => ?_
    have := List.all_eq_true.mp h d hd
    refine ⟨fun z => ?_, fun xs z => ?_⟩
    · rw [z] at this; cases this
    · rw [z] at this; cases this
abbrev zLe : V × D → V × D → Bool := PySem.W.sortLe (listOrd itemOrd) false fun z => PySem.W.keyToks z.2
def rSortedA (K : PySem.W.Frag) : List V → Hp → VK → Prop := fun xs H Q => ∃ (a : Addr) (zs : List (V × D)), xs = [V.ref a] ∧ SqL K H a (zs.map (·.1)) ∧ (∀ z ∈ zs, Dp K H z.1 z.2) ∧ okSort (zs.map (·.2)) = true ∧
  ∀ p, H p = none → Q (.ref p) (upd H p (.lst ((zs.mergeSort zLe).map (·.1))))
section
variable {X : Cx}
theorem each_vals {h : Heap} : ∀ {zs : List (V × D)} {us : List Value}, Vals (zs.map (·.1)) us → (∀ z ∈ zs, ∀ u, RelV z.1 u → ∃ as, PySem.Reads h u z.2 as) → PySem.W.EachIs (fun u z => RelV z.1 u ∧ ∃ as, PySem.Reads h u z.2 as) us zs
  | [], us, r, _ => by
    rw [List.map_nil] at r
    cases r
    exact .nil
  | z :: zs, us, r, hz => by
    rw [List.map_cons] at r
    cases r with
    | cons h q => exact .cons ⟨h, hz z List.mem_cons_self _ h⟩ (each_vals q fun y hy => hz y (List.mem_cons_of_mem _ hy))

theorem vals_each : ∀ {zs : List (V × D)} {us : List Value} {R : Value → V × D → Prop}, PySem.W.EachIs R us zs → (∀ u z, R u z → RelV z.1 u) → Vals (zs.map (·.1)) us
  | _, _, _, .nil, _ => .nil
  | _, _, _, .cons h q, k => .cons (k _ _ h) (vals_each q k)
theorem each_snd {h : Heap} : ∀ {zs : List (V × D)} {us : List Value}, PySem.W.EachIs (fun u z => RelV z.1 u ∧ ∃ as, PySem.Reads h u z.2 as) us zs → PySem.W.EachIs (fun u d => ∃ as, PySem.Reads h u d as) us (zs.map (·.2))
  | _, _, .nil => .nil
  | _, _, .cons h q => .cons h.2 (each_snd q)
theorem each_in {α β : Type} {R : α → β → Prop} : ∀ {as : List α} {bs : List β}, PySem.W.EachIs R as bs → PySem.W.EachIs (fun a b => R a b ∧ b ∈ bs) as bs
  | _, _, .nil => .nil
  | _, _, .cons h q => .cons ⟨h, List.mem_cons_self⟩ ((each_in q).mono fun _ _ z => ⟨z.1, List.mem_cons_of_mem _ z.2⟩)
theorem cr_sortedA (hu : X.A.units + 65 < cLine) : CallR X (.builtin "sorted") (rSortedA X.K) := by
  intro pins s σ H vs us Q I r h
  obtain ⟨a, zs, rfl, hs, hd, ok, q⟩ := h
  obtain ⟨its, rv, hl, hz⟩ := I.list hs
  obtain ⟨u, rfl, ru⟩ := vals1 r
  obtain rfl : u = Value.ref a := ru
  have hzi : its.length ≤ sizeLine := by rw [← rv.length]; exact hz
  let h2 := PySem.W.sortingHeap (PySem.W.copyHeap s.heap its) (s.heap.objs.size + 1) its
  have kp : ∀ b o, s.heap.get? b = some o → h2.get? b = some o := fun b o e => PySem.W.sorting_copy_old e
  have ev := each_vals (h := h2) rv fun z hz u ru => by
    obtain ⟨as, rd⟩ := Dp.reads I z.2 z.1 u (hd z hz) ru
    exact ⟨as, PyProof.Rows.Reads.keeps kp rd⟩
  have al := okSort_alike ok
  have S : PySem.W.SortsAt X.prog X.w X.A.in1.in1 { s with heap := h2 } (PySem.W.dataKind h2 (zs.map (·.2))) its :=
    PySem.W.SortsAt.data (s := { s with heap := h2 }) (each_snd ev) al (okSort_kind ok) fun d hd => by
      have := okSort_depth ok d hd
      show X.A.units + 1 + 1 + d.depth < cLine
      omega
  refine PySem.W.sorted_vals hl.isList S hzi ?_
  have es := PySem.W.sortVals_each (κ := PySem.W.dataKind h2 (zs.map (·.2))) (rev := false) (k := fun z : V × D => PySem.W.keyToks z.2) ev ((each_in ev).mono fun u z hu => by
    obtain ⟨as, rd⟩ := hu.1.2
    exact PySem.W.dataKind_some al (List.mem_map.mpr ⟨z, hu.2, rfl⟩) rd)
  have vo := vals_each es fun u z h => h.1
  have len : ((zs.mergeSort zLe).map (·.1)).length ≤ sizeLine := by
    rw [List.length_map, (List.mergeSort_perm _ _).length_eq, ← List.length_map (f := (·.1))]
    exact hz
  obtain ⟨n, hn⟩ := sortedAll_at s.heap its (PySem.W.sortVals (PySem.W.dataKind h2 (zs.map (·.2))) false its its).toArray
  refine ⟨.ref (s.heap.objs.size + 1), upd H (s.heap.objs.size + 1) (.lst ((zs.mergeSort zLe).map (·.1))), I.laid (t' := s.toks) (fun b o e => sortedAll_old e) (Nat.le_succ _) ⟨len, _, n, vo, hn⟩, rfl, q _ (I.hok.fresh (Nat.le_succ _))⟩
end

/-- sorted(..), a list that stays -/
def uSorted (us : List U) (S : Store) : R U := match us with
  | [u] => (match viewL u S with
    | some ds => if okSort ds = true then .ok (.d (.list (sortD ds))) S else .bad
    | none => .bad)
  | _ => .bad
theorem isAll_zip {K : PySem.W.Frag} {F : Hp} : ∀ {vs : List V} {ds : List D}, IsAll K F vs ds → ∃ zs : List (V × D), vs = zs.map (·.1) ∧ ds = zs.map (·.2) ∧ ∀ z ∈ zs, Is K F z.1 z.2
  | [], [], _ => ⟨[], rfl, rfl, fun z h => by cases h⟩
  | v :: vs, d :: ds, h => by
    cases h with
    | cons h1 h2 =>
      obtain ⟨zs, rfl, rfl, h3⟩ := isAll_zip h2
      exact ⟨(v, d) :: zs, rfl, rfl, fun z hz => (List.mem_cons.mp hz).elim (fun e => e ▸ h1) (h3 z)⟩
  | [], _ :: _, h => by cases h
  | _ :: _, [], h => by cases h
theorem isAll_of {K : PySem.W.Frag} {F : Hp} : ∀ {zs : List (V × D)}, (∀ z ∈ zs, Is K F z.1 z.2) → IsAll K F (zs.map (·.1)) (zs.map (·.2))
  | [], _ => .nil
  | _ :: _, h => .cons (h _ List.mem_cons_self) (isAll_of fun z hz => h z (List.mem_cons_of_mem _ hz))
section
variable {x : Fx}
theorem fit_sorted : FitN x (rSortedA x.K) uSorted := by
  intro W α F S σ H vs us r i1 Q p
  unfold uSorted at p
  split at p
  · rename_i u
    obtain ⟨v, rfl, h⟩ := us1 i1
    split at p
    · rename_i ds hv
      split at p
      · rename_i ok
        obtain ⟨A, ws, rfl, h1, h2⟩ := viewL_ok r h hv
        obtain ⟨zs, rfl, rfl, hz⟩ := isAll_zip h2
        refine ⟨A, zs, rfl, h1, fun z hm => Is.dp r.le _ _ (hz z hm), ok, fun q hq => ?_⟩
        obtain ⟨r3, e3⟩ := r.frozen (o := .lst ((zs.mergeSort zLe).map (·.1))) hq
        refine p _ _ _ _ e3 r3 (.lst upd_same ?_)
        have e : sortD (zs.map (·.2)) = (zs.mergeSort zLe).map (·.2) := (PySem.W.sort_maps (fun z : V × D => z.2) fun a _ b _ => rfl).symm
        rw [e]
        exact isAll_of fun z hm => Is.mono e3.fr _ _ (hz z ((List.mergeSort_perm _ _).mem_iff.mp hm))
      · exact p.elim
    · exact p.elim
  · exact p.elim
end
section
variable {X : Cx} {x : Fx} {W : WX} {e : Expr} {es : List Expr} {ts : TA} {fs : Vr → Store → R (List U)} {n : Nat} {pos p : Pos}
theorem de_sorted (hK : x.K = X.K) (hu : X.A.units + 65 < cLine) (hm : X.mg "sorted" = none) (ha : DA X x W (e :: es) ts fs n) (hg : Gl X "sorted" := by rfl) (he : starEach (e :: es) X.env = (false, eval e X.env) :: starEach es X.env := by rfl) (hpl : (backTo pos (starEach es X.env)).any (·.1) = false := by rfl) :
    DE X x W (.Call (.Name "sorted" p) (e :: es) [] pos) (tCB (rSortedA X.K) ts) (fN uSorted fs) :=
  de_callB (cr_sortedA hu) (hK ▸ fit_sorted) hm boot_sorted ha hg (by decide) (by decide) he hpl
end
end Z

/-! Z41: tuple(range(..)), list(range(..)). -/
namespace Z
open PySem PySem.Spec PyProof.Rows L2
def rgI (a b : Int) : List Int := (List.range (b - a).toNat).map fun i : Nat => a + (i : Int)
def rgD (a b : Int) : List D := (rgI a b).map PyData.int
theorem rgV_int (a b : Int) : rgV a b = (rgI a b).map V.int := by
  unfold rgV rgI
  rw [List.map_map]
  rfl
def rgFit (a b : Int) : Bool := decide (-1000000 ≤ a ∧ a ≤ 1000000 ∧ -1000000 ≤ b ∧ b ≤ 1000000)
theorem rgFit_ok {a b : Int} (h : rgFit a b = true) : RgOk a b := by
  unfold rgFit at h
  rw [decide_eq_true_eq] at h
  refine ⟨by omega, by omega, by omega, by omega, by omega⟩
/-- the range's ends -/
def uEnds (u w : U) (k : Int → Int → R U) : R U := match u, w with
  | .d (.int a), .d (.int b) => if rgFit a b = true then k a b else .bad
  | _, _ => .bad
def uTupRg (u w : U) (S : Store) : R U := uEnds u w fun a b => .ok (.d (.tuple (rgD a b))) S
def uLstRgD (u w : U) (S : Store) : R U := uEnds u w fun a b => .ok (.d (.list (rgD a b))) S
def uLstRgL (u w : U) (S : Store) : R U := uEnds u w fun a b => .ok (.loc S.length) (S ++ [some (rgD a b)])
abbrev zero : U := .d (.int 0)
section
variable {x : Fx} {W : WX} {ta tb : TE} {fa fb : Vr → Store → R U}
theorem ends_ok {α : Nat → Addr} {F : Hp} {S : Store} {σ : L2.St} {v w : V} {u u' : U} {k : Int → Int → R U} {Q : VK} (i1 : IsU x α F S.length v u) (i2 : IsU x α F S.length w u')
    (p : Post zU x W α F S σ Q (uEnds u u' k)) : ∃ a b : Int, v = .int a ∧ w = .int b ∧ RgOk a b ∧ Post zU x W α F S σ Q (k a b) := by
  unfold uEnds at p
  split at p
  · rename_i a b
    split at p
    · rename_i h
      have e1 : Is x.K F v (.int a) := i1
      have e2 : Is x.K F w (.int b) := i2
      cases e1
      cases e2
      exact ⟨a, b, rfl, rfl, rgFit_ok h, p⟩
    · exact p.elim
  · exact p.elim
/-- what is made of the range -/
theorem mk_tup {α : Nat → Addr} {F : Hp} {S : Store} {H : Hp} {σ : L2.St} {a b : Int} {Q : VK} (r : Rep x α F S H) (p : Post zU x W α F S σ Q (.ok (.d (.tuple (rgD a b))) S)) : ∀ q, H q = none → Q (.ref q) (upd H q (.tup (rgV a b))) := fun q hq => by
  obtain ⟨r3, e3⟩ := r.frozen (o := .tup (rgV a b)) hq
  exact p _ _ _ _ e3 r3 (.tup (SqT.of upd_same) (by rw [rgV_int]; exact IsAll.int _))
theorem mk_lstD {α : Nat → Addr} {F : Hp} {S : Store} {H : Hp} {σ : L2.St} {a b : Int} {Q : VK} (r : Rep x α F S H) (p : Post zU x W α F S σ Q (.ok (.d (.list (rgD a b))) S)) : ∀ q, H q = none → Q (.ref q) (upd H q (.lst (rgV a b))) := fun q hq => by
  obtain ⟨r3, e3⟩ := r.frozen (o := .lst (rgV a b)) hq
  exact p _ _ _ _ e3 r3 (.lst upd_same (by rw [rgV_int]; exact IsAll.int _))
theorem mk_lstL {α : Nat → Addr} {F : Hp} {S : Store} {H : Hp} {σ : L2.St} {a b : Int} {Q : VK} (r : Rep x α F S H) (p : Post zU x W α F S σ Q (.ok (.loc S.length) (S ++ [some (rgD a b)]))) : ∀ q, H q = none → Q (.ref q) (upd H q (.lst (rgV a b))) := fun q hq => by
  have ia : IsAll x.K F (rgV a b) (rgD a b) := by rw [rgV_int]; exact IsAll.int _
  obtain ⟨r3, e3⟩ := r.fresh (vs := rgV a b) hq ia
  refine p _ _ _ _ e3 r3 ⟨?_, ?_⟩
  · show V.ref q = V.ref (if S.length = S.length then q else α S.length)
    rw [if_pos rfl]
  · rw [List.length_append, List.length_singleton]
    exact Nat.lt_succ_self _
theorem fit_tupRg1 (ha : FitE x W ta fa) : FitE x W (tTupRg (tRg1 ta)) (f1 (uTupRg zero) fa) := by
  intro α F ρ S σ H r0 s Q p
  refine ha.bind r0 s p fun α1 F1 S1 H1 v u e1 r1 s1 i1 p1 => ?_
  obtain ⟨a, b, e, rfl, ok, p2⟩ := ends_ok (u := zero) (v := .int 0) (.int 0) i1 p1
  cases e
  exact ⟨b, rfl, ok, mk_tup r1 p2⟩
theorem fit_lstRgD1 (ha : FitE x W ta fa) : FitE x W (tLstRg (tRg1 ta)) (f1 (uLstRgD zero) fa) := by
  intro α F ρ S σ H r0 s Q p
  refine ha.bind r0 s p fun α1 F1 S1 H1 v u e1 r1 s1 i1 p1 => ?_
  obtain ⟨a, b, e, rfl, ok, p2⟩ := ends_ok (u := zero) (v := .int 0) (.int 0) i1 p1
  cases e
  exact ⟨b, rfl, ok, mk_lstD r1 p2⟩
theorem fit_lstRgL1 (ha : FitE x W ta fa) : FitE x W (tLstRg (tRg1 ta)) (f1 (uLstRgL zero) fa) := by
  intro α F ρ S σ H r0 s Q p
  refine ha.bind r0 s p fun α1 F1 S1 H1 v u e1 r1 s1 i1 p1 => ?_
  obtain ⟨a, b, e, rfl, ok, p2⟩ := ends_ok (u := zero) (v := .int 0) (.int 0) i1 p1
  cases e
  exact ⟨b, rfl, ok, mk_lstL r1 p2⟩
theorem fit_tupRg2 (ha : FitE x W ta fa) (hb : FitE x W tb fb) : FitE x W (tTupRg (tRg2 ta tb)) (f2 uTupRg fa fb) := by
  intro α F ρ S σ H r0 s Q p
  refine ha.bind r0 s p fun α1 F1 S1 H1 v u e1 r1 s1 i1 p1 => ?_
  refine hb.bind r1 s1 p1 fun α2 F2 S2 H2 w u' e2 r2 s2 i2 p2 => ?_
  obtain ⟨a, b, rfl, rfl, ok, p3⟩ := ends_ok (IsU.ext e2 i1) i2 p2
  exact ⟨a, b, rfl, rfl, ok, mk_tup r2 p3⟩
theorem fit_lstRgD2 (ha : FitE x W ta fa) (hb : FitE x W tb fb) : FitE x W (tLstRg (tRg2 ta tb)) (f2 uLstRgD fa fb) := by
  intro α F ρ S σ H r0 s Q p
  refine ha.bind r0 s p fun α1 F1 S1 H1 v u e1 r1 s1 i1 p1 => ?_
  refine hb.bind r1 s1 p1 fun α2 F2 S2 H2 w u' e2 r2 s2 i2 p2 => ?_
  obtain ⟨a, b, rfl, rfl, ok, p3⟩ := ends_ok (IsU.ext e2 i1) i2 p2
  exact ⟨a, b, rfl, rfl, ok, mk_lstD r2 p3⟩
theorem fit_lstRgL2 (ha : FitE x W ta fa) (hb : FitE x W tb fb) : FitE x W (tLstRg (tRg2 ta tb)) (f2 uLstRgL fa fb) := by
  intro α F ρ S σ H r0 s Q p
  refine ha.bind r0 s p fun α1 F1 S1 H1 v u e1 r1 s1 i1 p1 => ?_
  refine hb.bind r1 s1 p1 fun α2 F2 S2 H2 w u' e2 r2 s2 i2 p2 => ?_
  obtain ⟨a, b, rfl, rfl, ok, p3⟩ := ends_ok (IsU.ext e2 i1) i2 p2
  exact ⟨a, b, rfl, rfl, ok, mk_lstL r2 p3⟩
end
section
variable {X : Cx} {x : Fx} {W : WX} {a b : Expr} {ta tb : TE} {fa fb : Vr → Store → R U} {p p2 q pos : Pos}
theorem de_tupRg1 (hc : X.calm = true) (hm : X.mg "tuple" = none) (hm2 : X.mg "range" = none) (ha : DE X x W a ta fa) (hg : Gl X "tuple" := by rfl) (hg2 : Gl X "range" := by rfl) (na : starEach [a] X.env = (false, eval a X.env) :: starEach [] X.env := by rfl)
    (na2 : starEach [.Call (.Name "range" p2) [a] [] q] X.env = (false, eval (.Call (.Name "range" p2) [a] [] q) X.env) :: starEach [] X.env := by rfl) : DE X x W (.Call (.Name "tuple" p) [.Call (.Name "range" p2) [a] [] q] [] pos) (tTupRg (tRg1 ta)) (f1 (uTupRg zero) fa) :=
  ⟨pe_tupRg hc hg hm (prg_1 hg2 hm2 ha.pe na) na2, fit_tupRg1 ha.fit⟩
theorem de_lstRgD1 (hc : X.calm = true) (hm : X.mg "list" = none) (hm2 : X.mg "range" = none) (ha : DE X x W a ta fa) (hg : Gl X "list" := by rfl) (hg2 : Gl X "range" := by rfl) (na : starEach [a] X.env = (false, eval a X.env) :: starEach [] X.env := by rfl)
    (na2 : starEach [.Call (.Name "range" p2) [a] [] q] X.env = (false, eval (.Call (.Name "range" p2) [a] [] q) X.env) :: starEach [] X.env := by rfl) : DE X x W (.Call (.Name "list" p) [.Call (.Name "range" p2) [a] [] q] [] pos) (tLstRg (tRg1 ta)) (f1 (uLstRgD zero) fa) :=
  ⟨pe_listRg hc hg hm (prg_1 hg2 hm2 ha.pe na) na2, fit_lstRgD1 ha.fit⟩
theorem de_lstRgL1 (hc : X.calm = true) (hm : X.mg "list" = none) (hm2 : X.mg "range" = none) (ha : DE X x W a ta fa) (hg : Gl X "list" := by rfl) (hg2 : Gl X "range" := by rfl) (na : starEach [a] X.env = (false, eval a X.env) :: starEach [] X.env := by rfl)
    (na2 : starEach [.Call (.Name "range" p2) [a] [] q] X.env = (false, eval (.Call (.Name "range" p2) [a] [] q) X.env) :: starEach [] X.env := by rfl) : DE X x W (.Call (.Name "list" p) [.Call (.Name "range" p2) [a] [] q] [] pos) (tLstRg (tRg1 ta)) (f1 (uLstRgL zero) fa) :=
  ⟨pe_listRg hc hg hm (prg_1 hg2 hm2 ha.pe na) na2, fit_lstRgL1 ha.fit⟩
theorem de_tupRg2 (hc : X.calm = true) (hm : X.mg "tuple" = none) (hm2 : X.mg "range" = none) (ha : DE X x W a ta fa) (hb : DE X x W b tb fb) (hg : Gl X "tuple" := by rfl) (hg2 : Gl X "range" := by rfl) (na : starEach [a, b] X.env = (false, eval a X.env) :: starEach [b] X.env := by rfl) (nb : starEach [b] X.env = (false, eval b X.env) :: starEach [] X.env := by rfl) (hp : (backTo q (starEach [b] X.env)).any (·.1) = false := by rfl)
    (na2 : starEach [.Call (.Name "range" p2) [a, b] [] q] X.env = (false, eval (.Call (.Name "range" p2) [a, b] [] q) X.env) :: starEach [] X.env := by rfl) : DE X x W (.Call (.Name "tuple" p) [.Call (.Name "range" p2) [a, b] [] q] [] pos) (tTupRg (tRg2 ta tb)) (f2 uTupRg fa fb) :=
  ⟨pe_tupRg hc hg hm (prg_2 hg2 hm2 ha.pe hb.pe na nb hp) na2, fit_tupRg2 ha.fit hb.fit⟩
theorem de_lstRgD2 (hc : X.calm = true) (hm : X.mg "list" = none) (hm2 : X.mg "range" = none) (ha : DE X x W a ta fa) (hb : DE X x W b tb fb) (hg : Gl X "list" := by rfl) (hg2 : Gl X "range" := by rfl) (na : starEach [a, b] X.env = (false, eval a X.env) :: starEach [b] X.env := by rfl) (nb : starEach [b] X.env = (false, eval b X.env) :: starEach [] X.env := by rfl) (hp : (backTo q (starEach [b] X.env)).any (·.1) = false := by rfl)
    (na2 : starEach [.Call (.Name "range" p2) [a, b] [] q] X.env = (false, eval (.Call (.Name "range" p2) [a, b] [] q) X.env) :: starEach [] X.env := by rfl) : DE X x W (.Call (.Name "list" p) [.Call (.Name "range" p2) [a, b] [] q] [] pos) (tLstRg (tRg2 ta tb)) (f2 uLstRgD fa fb) :=
  ⟨pe_listRg hc hg hm (prg_2 hg2 hm2 ha.pe hb.pe na nb hp) na2, fit_lstRgD2 ha.fit hb.fit⟩
theorem de_lstRgL2 (hc : X.calm = true) (hm : X.mg "list" = none) (hm2 : X.mg "range" = none) (ha : DE X x W a ta fa) (hb : DE X x W b tb fb) (hg : Gl X "list" := by rfl) (hg2 : Gl X "range" := by rfl) (na : starEach [a, b] X.env = (false, eval a X.env) :: starEach [b] X.env := by rfl) (nb : starEach [b] X.env = (false, eval b X.env) :: starEach [] X.env := by rfl) (hp : (backTo q (starEach [b] X.env)).any (·.1) = false := by rfl)
    (na2 : starEach [.Call (.Name "range" p2) [a, b] [] q] X.env = (false, eval (.Call (.Name "range" p2) [a, b] [] q) X.env) :: starEach [] X.env := by rfl) : DE X x W (.Call (.Name "list" p) [.Call (.Name "range" p2) [a, b] [] q] [] pos) (tLstRg (tRg2 ta tb)) (f2 uLstRgL fa fb) :=
  ⟨pe_listRg hc hg hm (prg_2 hg2 hm2 ha.pe hb.pe na nb hp) na2, fit_lstRgL2 ha.fit hb.fit⟩
end
end Z

/-! Z42: xs[::-1] of lists and tuples. -/
namespace Z
open PySem PySem.Spec PyProof.Rows L2 HT
section
variable {prog : Program} {w : World} {A : Around} {E : Value → Shared → Prop} {s : Shared}
theorem sliceApplied_rev {sl : Addr} {k : Tok} {n : Nat} {Q : Int × Int × Nat → Shared → Prop} (hs : s.heap.IsSliceOf sl .none .none (.int (-1) k)) (h : Q ((n : Int) - 1, -1, n) s) :
    wpAny (model prog w) A (Builtin.Slice.sliceApplied (.ref sl) (pure (n : Int))) Q E s := by
  obtain ⟨os, hos, hcs, hds⟩ := id hs
  unfold Builtin.Slice.sliceApplied Builtin.Slice.sliceFields
  refine wpAny_bind (wpAny_bind (wpAny_field hos hds (x := .none) rfl (wpAny_bind (wpAny_field hos hds (x := .none) rfl (wpAny_bind (wpAny_field hos hds (x := .int (-1) k) rfl (wpAny_pure ?_)))))))
  refine wpAny_bind (slicePart_ (.int (-1) k) ?_)
  show wpAny _ _ (if ((-1 : Int) == 0) = true then _ else _) _ _ s
  rw [if_neg (by decide)]
  refine wpAny_bind (slicePart_ .none (wpAny_bind (slicePart_ .none (wpAny_bind (wpAny_pure ?_)))))
  show wpAny _ _ (pure ((n : Int) - 1, (-1 : Int), Builtin.Slice.slicePlaces ((n : Int) - 1) (-1) (-1))) _ _ s
  have e : Builtin.Slice.slicePlaces ((n : Int) - 1) (-1) (-1) = n := by
    unfold Builtin.Slice.slicePlaces
    have h1 : ¬ ((-1 : Int) > 0) := by decide
    simp only [h1, if_false]
    rw [show (- -1 : Int) = 1 by decide, Int.ediv_one]
    split <;> omega
  rw [e]
  exact wpAny_pure h
theorem pick_rev (xs : Array Value) : ((List.range xs.size).filterMap fun (m : Nat) => xs[(((xs.size : Int) - 1) + (m : Int) * (-1)).toNat]?).toArray = xs.toList.reverse.toArray := by
  have e0 : (fun (m : Nat) => xs[(((xs.size : Int) - 1) + (m : Int) * (-1)).toNat]?) = fun m => xs[xs.size - 1 - m]? := by
    funext m
    have : (((xs.size : Int) - 1) + (m : Int) * (-1)).toNat = xs.size - 1 - m := by omega
    rw [this]
  have e : (List.range xs.size).filterMap (fun (m : Nat) => xs[(((xs.size : Int) - 1) + (m : Int) * (-1)).toNat]?) = ((List.range xs.size).map fun k => xs.size - 1 - k).filterMap (xs[·]?) := by
    rw [List.filterMap_map, e0]
    rfl
  rw [e, PySem.W.krv_range, List.filterMap_reverse, PySem.W.krv_all]
theorem getItem_tuple_rev {t sl : Addr} {items : Array Value} {k : Tok} {Q : Value → Shared → Prop} (ht : IsTup s.heap t items) (hs : s.heap.IsSliceOf sl .none .none (.int (-1) k))
    (h : Q (.ref s.heap.objs.size) { s with heap := s.heap.push { cls := .type "tuple", data := .seq items.toList.reverse.toArray } })
    (hsz : items.size ≤ sizeLine) : wpAny (model prog w) A (getItem (.ref t) (.ref sl)) Q E s := by
  have htake : sizeOk (.seq items.toList.reverse.toArray) := by
    show items.toList.reverse.toArray.size ≤ sizeLine
    rw [List.size_toArray, List.length_reverse, Array.length_toList]
    exact hsz
  obtain ⟨os, hos, hcs, hds⟩ := id hs
  have hTs : s.TypeIs (.ref sl) "slice" := ⟨os, hos, hcs⟩
  unfold getItem
  try with_reducible refine wpAny_holding ?_
  first | refine wpAny_bind (wpAny_pure ?_) | skip
  refine wpAny_bind (wpAny_sequenceKey ht.typeIs (by decide) ?_)
  refine wpAny_bind (wpAny_callSpecial?_slot (name := Str.ofString "__getitem__") ht.typeIs PyProof.Rows.slot_tuple_getitem
    (wpAny_call_entry PyProof.Rows.slot_tuple_getitem ht.typeIs entry_tuple_getitem ?_ (args_tuple_getitem _ _)))
  show wpAny _ _ (Builtin.Tuple.tupleItemsOf (.ref t) >>= _) _ _ s
  refine wpAny_bind (tupleItemsOf_ ht ?_)
  refine wpAny_bind (wpAny_typeOf hTs ?_)
  rw [if_pos (by decide)]
  refine wpAny_bind (sliceApplied_rev hs ?_)
  have hno : ¬ ((((items.size : Int) - 1) == 0 && (-1 : Int) == 1 && items.size == items.size) = true) := by
    intro q
    rw [Bool.and_eq_true, Bool.and_eq_true] at q
    exact absurd q.1.2 (by decide)
  show wpAny _ _ (if ((((items.size : Int) - 1) == 0 && (-1 : Int) == 1 && items.size == items.size)) = true then _ else _) _ _ s
  rw [if_neg hno, pick_rev]
  first
    | exact wpAny_bind (m := Builtin.Tuple.tupleExact _) (wpAny_newObj_type (wpAny_pure ⟨_, rfl, wpAny_pure h⟩) htake)
    | exact wpAny_bind (m := Builtin.Tuple.tupleExact _) (wpAny_newObj_type (wpAny_bind (wpAny_pure (wpAny_pure ⟨_, rfl, wpAny_pure h⟩))) htake)
    | exact wpAny_bind (wpAny_bind (m := Builtin.Tuple.tupleExact _) (wpAny_newObj_type (wpAny_pure (wpAny_pure ⟨_, rfl, wpAny_pure h⟩)) htake))
    | exact wpAny_bind (wpAny_bind (m := Builtin.Tuple.tupleExact _) (wpAny_newObj_type (wpAny_pure ⟨_, rfl, wpAny_pure h⟩) htake))
end
/-- xs[::-1] -/
def tRevA (K : PySem.W.Frag) (te : TE) : TE := fun σ H Q => te σ H fun x H1 => ∃ a xs, x = .ref a ∧ ((SqL K H1 a xs ∧ ∀ p, H1 p = none → Q (.ref p) (upd H1 p (.lst xs.reverse))) ∨ (SqT K H1 a xs ∧ ∀ p, H1 p = none → Q (.ref p) (upd H1 p (.tup xs.reverse))))
theorem pe_revA {X : Cx} {e : Expr} {te : TE} {k : Nat} {p1 p2 p3 pos : Pos} (he : PE X e te) : PE X (.Subscript e (.Slice none none (some (.UnaryOp .USub (.Constant (.int 1) k p1) p2)) p3) pos) (tRevA X.K te) := by
  refine ⟨fun pins s σ H Q I h => ?_⟩
  refine Subscript_ (thn (he.run pins s σ H _ I h) fun v s1 ⟨x, H1, I1, r1, q1⟩ => ?_)
  obtain ⟨a, xs, ex, q1⟩ := q1
  subst ex
  cases r1
  have hst : PO X (some (.UnaryOp .USub (.Constant (.int 1) k p1) p2)) (tPart (tUn (rU fun i => .int (-i)) (tC (.int 1)))) := po_some (pe_un un_neg pe_int)
  refine wpAny_Slice (thn (po_none.run pins s1 σ H1 (fun o H2 => o = none ∧ H2 = H1) I1 ⟨rfl, rfl⟩) fun vl s2 ⟨l, H2, I2, pl, el, e2⟩ => ?_)
  subst el e2
  refine thn (po_none.run pins s2 σ H2 (fun o H3 => o = none ∧ H3 = H2) I2 ⟨rfl, rfl⟩) fun vu s3 ⟨u, H3, I3, pu, eu, e3⟩ => ?_
  subst eu e3
  refine thn (hst.run pins s3 σ H3 (fun o H4 => o = some (-1) ∧ H4 = H3) I3 ⟨1, rfl, -1, rfl, rfl, rfl⟩) fun vs s4 ⟨o, H4, I4, ps, eo, e4⟩ => ?_
  subst eo e4
  have I5 : Inv X pins σ H4 { s4 with heap := s4.heap.push { cls := .type "slice", data := .fields #[vl, vu, vs] } } := I4.kept (t' := s4.toks) fun b ob q => Heap.get?_push_of_some _ q
  show wpAny (model X.prog X.w) X.A (subscriptTail e (.Slice none none (some (.UnaryOp .USub (.Constant (.int 1) k p1) p2)) p3) (.ref a) (.ref s4.heap.objs.size)) (EP X pins σ Q) X.xe { s4 with heap := s4.heap.push { cls := .type "slice", data := .fields #[vl, vu, vs] } }
  rcases q1 with ⟨hx, q⟩ | ⟨hx, q⟩
  · obtain ⟨its, r, ht, hz⟩ := I5.list hx
    have hlen := r.length
    refine tail_any (ops := [.ref a, .ref s4.heap.objs.size]) ht.isList.typeIs (PySem.slot_list_getitem.lookup) ?_ (by with_unfolding_all rfl)
    refine wpAny_getItem_list_slice ht.isList (Heap.IsSliceOf.new _ vl vu vs) pl pu ps (by decide) ?_ (by rw [List.size_toArray]; omega)
    rw [PySem.W.krv_pick]
    refine ⟨.ref _, _, I5.laid (t' := s4.toks) (o := .lst xs.reverse) (fun b ob q => Heap.get?_push_of_some _ q) (Nat.le_refl _) ?_, rfl, q _ (I5.hok.fresh (Nat.le_refl _))⟩
    exact ⟨by rw [List.length_reverse]; exact hz, _, 0, r.reverse, Heap.get?_push_size _ rfl⟩
  · obtain ⟨its, r, ht, hz⟩ := I5.tuple hx
    have hlen := r.length
    cases pl
    cases pu
    cases ps with
    | int _ tk =>
      refine tail_any (ops := [.ref a, .ref s4.heap.objs.size]) ht.typeIs (PyProof.Rows.slot_tuple_getitem.lookup) ?_ (by with_unfolding_all rfl)
      refine getItem_tuple_rev ht (Heap.IsSliceOf.new _ _ _ _) ?_ (by rw [List.size_toArray]; omega)
      refine ⟨.ref _, _, I5.laid (t' := s4.toks) (o := .tup xs.reverse) (fun b ob q => Heap.get?_push_of_some _ q) (Nat.le_refl _) ?_, rfl, q _ (I5.hok.fresh (Nat.le_refl _))⟩
      have e : its.toArray.toList.reverse.toArray = its.reverse.toArray := by simp
      rw [e]
      exact ⟨by rw [List.length_reverse]; exact hz, _, r.reverse, IsTup.new _ _⟩
/-- xs[::-1] of data, what comes stays -/
def uRev (u : U) (S : Store) : R U := match u with
  | .d (.tuple xs) => .ok (.d (.tuple xs.reverse)) S
  | u => (match viewL u S with
    | some xs => .ok (.d (.list xs.reverse)) S
    | none => .bad)
theorem IsAll.rev {K : PySem.W.Frag} {F : Hp} {vs : List V} {ds : List D} (h : IsAll K F vs ds) : IsAll K F vs.reverse ds.reverse := by
  obtain ⟨zs, rfl, rfl, hz⟩ := isAll_zip h
  rw [← List.map_reverse, ← List.map_reverse]
  exact isAll_of fun z hm => hz z (List.mem_reverse.mp hm)
section
variable {X : Cx} {x : Fx} {W : WX} {e : Expr} {te : TE} {fe : Vr → Store → R U}
theorem fit_revA (he : FitE x W te fe) : FitE x W (tRevA x.K te) (f1 uRev fe) := by
  intro α F ρ S σ H r0 s Q p
  refine he.bind r0 s p fun α1 F1 S1 H1 v u e1 r1 s1 i1 p1 => ?_
  unfold uRev at p1
  split at p1
  · rename_i xs
    have i' : Is x.K F1 v (.tuple xs) := i1
    cases i' with
    | tup h1 h2 =>
      refine ⟨_, _, rfl, .inr ⟨le_t r1.le h1, fun q hq => ?_⟩⟩
      obtain ⟨r3, e3⟩ := r1.frozen (o := .tup _) hq
      exact p1 _ _ _ _ e3 r3 (.tup (SqT.of upd_same) (IsAll.mono e3.fr _ _ (IsAll.rev h2)))
  · split at p1
    · rename_i ds hv
      obtain ⟨A, ws, rfl, h1, h2⟩ := viewL_ok r1 i1 hv
      refine ⟨_, _, rfl, .inl ⟨h1, fun q hq => ?_⟩⟩
      obtain ⟨r3, e3⟩ := r1.frozen (o := .lst ws.reverse) hq
      exact p1 _ _ _ _ e3 r3 (.lst upd_same (IsAll.mono e3.fr _ _ (IsAll.rev h2)))
    · exact p1.elim
theorem de_rev {k : Nat} {p1 p2 p3 pos : Pos} (hK : x.K = X.K) (he : DE X x W e te fe) : DE X x W (.Subscript e (.Slice none none (some (.UnaryOp .USub (.Constant (.int 1) k p1) p2)) p3) pos) (tRevA X.K te) (f1 uRev fe) := ⟨pe_revA he.pe, hK ▸ fit_revA he.fit⟩
end
end Z

/-! M1: mirrors of the defs that laws share. -/
namespace M
open PySem Z
noncomputable section
/-! _law_op_is_whole: 0 thing -/
def g__law_op_is_whole : Vr → Store → O :=
  gRet (fAndV (fN uIsi (fCons (fVar 0) (fCons (fC (.ty "int")) (fNil)))) (fNotV (fN uIsi (fCons (fVar 0) (fCons (fC (.ty "bool")) (fNil))))))
def m__law_op_is_whole : List U → Store → R U := runD 1 g__law_op_is_whole
/-! _law_op_same: 0 got, 1 owed, 2 todo, 3 one, 4 due_now, 5 is_so, 6 at -/
def e1__law_op_same : Vr → Store → R U :=
  fN mkTup (fCons (f2 uIx (fVar 3) (fVar 6)) (fCons (f2 uIx (fVar 4) (fVar 6)) (fNil)))
def t2__law_op_same : Vr → Store → R Bool :=
  fTst (f2 uNe (fVar 2) (fN mkLst (fNil)))
def b3__law_op_same : Vr → Store → O :=
  gSeq (gAsg (fML uPop (fVar 2) fNil) (aTup 2 (aCons (aName 3) (aCons (aName 4) (aNil)))))
  (gSeq (gIf (fTst (f1 uIsN1 (fVar 4))) (gSet 5 (f1 uIsN1 (fVar 3))) (gIf (fTst (fN uIsi (fCons (fVar 4) (fCons (fC (.ty "bool")) (fNil))))) (gSet 5 (fAndV (fN uIsi (fCons (fVar 3) (fCons (fC (.ty "bool")) (fNil)))) (f2 uEq (fVar 3) (fVar 4)))) (gIf (fTst (fN uIsi (fCons (fVar 4) (fCons (fC (.ty "int")) (fNil))))) (gSet 5 (fAndV (fCall m__law_op_is_whole (fCons (fVar 3) (fNil))) (f2 uEq (fVar 3) (fVar 4)))) (gIf (fTst (fN uIsi (fCons (fVar 4) (fCons (fC (.ty "str")) (fNil))))) (gSet 5 (fAndV (fN uIsi (fCons (fVar 3) (fCons (fC (.ty "str")) (fNil)))) (f2 uEq (fVar 3) (fVar 4)))) (gSeq (gSet 5 (fIf (fTst (fN uIsi (fCons (fVar 4) (fCons (fC (.ty "tuple")) (fNil))))) (fN uIsi (fCons (fVar 3) (fCons (fC (.ty "tuple")) (fNil)))) (fN uIsi (fCons (fVar 3) (fCons (fC (.ty "list")) (fNil))))))
  (gSeq (gSet 5 (fAndV (fVar 5) (f2 uEq (fN uLen (fCons (fVar 3) (fNil))) (fN uLen (fCons (fVar 4) (fNil))))))
  (gDrop (fML uExt (fVar 2) (fCons (fIf (fTst (fVar 5)) (fLc (sN sRng1 (fCons (fN uLen (fCons (fVar 4) (fNil))) (fNil))) (aName 6) (fYes) (e1__law_op_same) [6]) (fN mkLst (fNil))) (fNil))))))))))
  (gIf (fNotT (fTst (fVar 5))) (gRet (fC (.d (.bool false)))) (gNx)))
def g__law_op_same : Vr → Store → O :=
  gSeq (gSet 2 (fN mkLoc (fCons (fN mkTup (fCons (fVar 0) (fCons (fVar 1) (fNil)))) (fNil))))
  (gSeq (gWh (t2__law_op_same) (b3__law_op_same))
  (gRet (fC (.d (.bool true)))))
def m__law_op_same : List U → Store → R U := runD 7 g__law_op_same
/-! _law_take: 0 jar, 1 many, 2 made -/
def g__law_take : Vr → Store → O :=
  gSeq (gIf (fTst (f2 uGt (f2 uIx (fVar 0) (fC (.d (.int 0)))) (fC (.d (.int 0))))) (gSeq (gSet 2 (f2 uMod (fN uInt (fCons (f2 uIx (fVar 0) (fC (.d (.int 0)))) (fNil))) (fVar 1)))
  (gSeq (gSetIx (fVar 0) (fC (.d (.int 0))) (f2 uDiv (f2 uIx (fVar 0) (fC (.d (.int 0)))) (fVar 1)))
  (gRet (fVar 2)))) (gNx))
  (gSeq (gSetIx (fVar 0) (fC (.d (.int 2))) (f2 uAdd (f2 uIx (fVar 0) (fC (.d (.int 2)))) (fC (.d (.int 1)))))
  (gSeq (gSetIx (fVar 0) (fC (.d (.int 1))) (f2 uMod (fN uInt (fCons (f2 uAdd (f2 uAdd (f2 uMul (f2 uIx (fVar 0) (fC (.d (.int 1)))) (fC (.d (.int 39373)))) (f2 uMul (fC (.d (.int 7919))) (f2 uIx (fVar 0) (fC (.d (.int 2)))))) (fC (.d (.int 7)))) (fNil))) (fC (.d (.int 2147483647)))))
  (gRet (f2 uMod (fN uInt (fCons (f2 uDiv (f2 uMod (fN uInt (fCons (f2 uMul (f2 uIx (fVar 0) (fC (.d (.int 1)))) (f2 uIx (fVar 0) (fC (.d (.int 1))))) (fNil))) (fC (.d (.int 2147483629)))) (fC (.d (.int 32)))) (fNil))) (fVar 1)))))
def m__law_take : List U → Store → R U := runD 3 g__law_take
/-! _law_op_frac: 0 top, 1 bottom, 2 one, 3 two -/
def t1__law_op_frac : Vr → Store → R Bool :=
  fTst (f2 uGt (fVar 3) (fC (.d (.int 0))))
def b2__law_op_frac : Vr → Store → O :=
  gPar 2 3 (fCons (fVar 3) (fCons (f2 uMod (fVar 2) (fVar 3)) (fNil)))
def g__law_op_frac : Vr → Store → O :=
  gSeq (gPar 2 3 (fCons (fN uMax (fCons (fVar 0) (fCons (f1 uNeg (fVar 0)) (fNil)))) (fCons (fVar 1) (fNil))))
  (gSeq (gWh (t1__law_op_frac) (b2__law_op_frac))
  (gRet (fN mkTup (fCons (f2 uDiv (fVar 0) (fVar 2)) (fCons (f2 uDiv (fVar 1) (fVar 2)) (fNil))))))
def m__law_op_frac : List U → Store → R U := runD 4 g__law_op_frac
/-! _law_one: 0 jar, 1 things -/
def g__law_one : Vr → Store → O :=
  gRet (f2 uIx (fVar 1) (fCall m__law_take (fCons (fVar 0) (fCons (fN uLen (fCons (fVar 1) (fNil))) (fNil)))))
def m__law_one : List U → Store → R U := runD 2 g__law_one
/-! _law_op_plus: 0 a, 1 b -/
def g__law_op_plus : Vr → Store → O :=
  gRet (fCall m__law_op_frac (fCons (f2 uAdd (f2 uMul (f2 uIx (fVar 0) (fC (.d (.int 0)))) (f2 uIx (fVar 1) (fC (.d (.int 1))))) (f2 uMul (f2 uIx (fVar 1) (fC (.d (.int 0)))) (f2 uIx (fVar 0) (fC (.d (.int 1)))))) (fCons (f2 uMul (f2 uIx (fVar 0) (fC (.d (.int 1)))) (f2 uIx (fVar 1) (fC (.d (.int 1))))) (fNil))))
def m__law_op_plus : List U → Store → R U := runD 2 g__law_op_plus
/-! _law_op_times: 0 a, 1 top, 2 bottom -/
def g__law_op_times : Vr → Store → O :=
  gRet (fCall m__law_op_frac (fCons (f2 uMul (f2 uIx (fVar 0) (fC (.d (.int 0)))) (fVar 1)) (fCons (f2 uMul (f2 uIx (fVar 0) (fC (.d (.int 1)))) (fVar 2)) (fNil))))
def m__law_op_times : List U → Store → R U := runD 3 g__law_op_times
/-! fr: 0 top, 1 bottom, 2 part -/
def g_fr : Vr → Store → O :=
  gSeq (gSet 2 (fN uGcd (fCons (fVar 0) (fCons (fVar 1) (fNil)))))
  (gSeq (gSet 2 (fIf (fTst (f2 uLt (fVar 1) (fC (.d (.int 0))))) (f1 uNeg (fVar 2)) (fVar 2)))
  (gRet (fN mkTup (fCons (f2 uDiv (fVar 0) (fVar 2)) (fCons (f2 uDiv (fVar 1) (fVar 2)) (fNil))))))
def m_fr : List U → Store → R U := runD 3 g_fr
/-! fadd: 0 a, 1 b -/
def g_fadd : Vr → Store → O :=
  gRet (fCall m_fr (fCons (f2 uAdd (f2 uMul (f2 uIx (fVar 0) (fC (.d (.int 0)))) (f2 uIx (fVar 1) (fC (.d (.int 1))))) (f2 uMul (f2 uIx (fVar 1) (fC (.d (.int 0)))) (f2 uIx (fVar 0) (fC (.d (.int 1)))))) (fCons (f2 uMul (f2 uIx (fVar 0) (fC (.d (.int 1)))) (f2 uIx (fVar 1) (fC (.d (.int 1))))) (fNil))))
def m_fadd : List U → Store → R U := runD 2 g_fadd
/-! harmonic_of: 0 k, 1 total, 2 bottom -/
def b1_harmonic_of : Vr → Store → O :=
  gSet 1 (fCall m_fadd (fCons (fVar 1) (fCons (fN mkTup (fCons (fC (.d (.int 1))) (fCons (fVar 2) (fNil)))) (fNil))))
def g_harmonic_of : Vr → Store → O :=
  gSeq (gSet 1 (fC (.d (.tuple ([0, 1].map PyData.int)))))
  (gSeq (gFor (sN sRng2 (fCons (fC (.d (.int 1))) (fCons (f2 uAdd (fVar 0) (fC (.d (.int 1)))) (fNil)))) (aName 2) (b1_harmonic_of))
  (gRet (fVar 1)))
def m_harmonic_of : List U → Store → R U := runD 3 g_harmonic_of
/-! whole: 0 thing, 1 low, 2 high -/
def g_whole : Vr → Store → O :=
  gRet (fAndV (fN uIsi (fCons (fVar 0) (fCons (fC (.ty "int")) (fNil)))) (fAndV (fNotV (fN uIsi (fCons (fVar 0) (fCons (fC (.ty "bool")) (fNil))))) (fChain uLe uLe (fVar 1) (fVar 0) (fVar 2))))
def m_whole : List U → Store → R U := runD 3 g_whole
/-! harmonic: 0 k -/
def g_harmonic : Vr → Store → O :=
  gSeq (gIf (fNotT (fTst (fCall m_whole (fCons (fVar 0) (fCons (fC (.d (.int 0))) (fCons (fC (.d (.int 200))) (fNil))))))) (gRaise "BadMany" (fCons (fVar 0) (fNil))) (gNx))
  (gRet (fCall m_harmonic_of (fCons (fVar 0) (fNil))))
def m_harmonic : List U → Store → R U := runD 1 g_harmonic
/-! is_number: 0 thing -/
def g_is_number : Vr → Store → O :=
  gRet (fAndV (fN uIsi (fCons (fVar 0) (fCons (fC (.ty "int")) (fNil)))) (fNotV (fN uIsi (fCons (fVar 0) (fCons (fC (.ty "bool")) (fNil))))))
def m_is_number : List U → Store → R U := runD 1 g_is_number
/-! is_fraction: 0 thing -/
def g_is_fraction : Vr → Store → O :=
  gSeq (gIf (fOrT (fNotT (fTst (fN uIsi (fCons (fVar 0) (fCons (fC (.ty "tuple")) (fNil)))))) (fOrT (fTst (f2 uNe (fN uLen (fCons (fVar 0) (fNil))) (fC (.d (.int 2))))) (fOrT (fNotT (fTst (fCall m_is_number (fCons (f2 uIx (fVar 0) (fC (.d (.int 0)))) (fNil))))) (fNotT (fTst (fCall m_is_number (fCons (f2 uIx (fVar 0) (fC (.d (.int 1)))) (fNil)))))))) (gRet (fC (.d (.bool false)))) (gNx))
  (gRet (fAndV (f2 uGt (f2 uIx (fVar 0) (fC (.d (.int 1)))) (fC (.d (.int 0)))) (f2 uEq (fN uGcd (fCons (f2 uIx (fVar 0) (fC (.d (.int 0)))) (fCons (f2 uIx (fVar 0) (fC (.d (.int 1)))) (fNil)))) (fC (.d (.int 1))))))
def m_is_fraction : List U → Store → R U := runD 1 g_is_fraction
/-! is_size: 0 thing -/
def g_is_size : Vr → Store → O :=
  gRet (fAndV (fCall m_is_fraction (fCons (fVar 0) (fNil))) (fAndV (fCall m_whole (fCons (f2 uIx (fVar 0) (fC (.d (.int 0)))) (fCons (fC (.d (.int 1))) (fCons (fC (.d (.int 1000000))) (fNil))))) (fCall m_whole (fCons (f2 uIx (fVar 0) (fC (.d (.int 1)))) (fCons (fC (.d (.int 1))) (fCons (fC (.d (.int 1000))) (fNil)))))))
def m_is_size : List U → Store → R U := runD 1 g_is_size
/-! made_size: 0 thing -/
def g_made_size : Vr → Store → O :=
  gSeq (gIf (fNotT (fTst (fCall m_is_size (fCons (fVar 0) (fNil))))) (gRaise "BadSize" (fCons (fVar 0) (fNil))) (gNx))
  (gRet (fVar 0))
def m_made_size : List U → Store → R U := runD 1 g_made_size
/-! fmul: 0 a, 1 b -/
def g_fmul : Vr → Store → O :=
  gRet (fCall m_fr (fCons (f2 uMul (f2 uIx (fVar 0) (fC (.d (.int 0)))) (f2 uIx (fVar 1) (fC (.d (.int 0))))) (fCons (f2 uMul (f2 uIx (fVar 0) (fC (.d (.int 1)))) (f2 uIx (fVar 1) (fC (.d (.int 1))))) (fNil))))
def m_fmul : List U → Store → R U := runD 2 g_fmul
/-! even_of: 0 n, 1 rate -/
def g_even_of : Vr → Store → O :=
  gRet (fCall m_fmul (fCons (fVar 1) (fCons (fCall m_fadd (fCons (fN mkTup (fCons (fC (.d (.int 1))) (fCons (fC (.d (.int 1))) (fNil)))) (fCons (fCall m_harmonic_of (fCons (f2 uSub (fVar 0) (fC (.d (.int 1)))) (fNil))) (fNil)))) (fNil))))
def m_even_of : List U → Store → R U := runD 2 g_even_of
/-! even_size: 0 n, 1 rate -/
def g_even_size : Vr → Store → O :=
  gSeq (gIf (fNotT (fTst (fCall m_whole (fCons (fVar 0) (fCons (fC (.d (.int 1))) (fCons (fC (.d (.int 40))) (fNil))))))) (gRaise "BadMany" (fCons (fVar 0) (fNil))) (gNx))
  (gSeq (gDrop (fCall m_made_size (fCons (fVar 1) (fNil))))
  (gRet (fCall m_even_of (fCons (fVar 0) (fCons (fVar 1) (fNil))))))
def m_even_size : List U → Store → R U := runD 2 g_even_size
/-! even_sum: 0 n, 1 rate -/
def g_even_sum : Vr → Store → O :=
  gRet (fCall m_fmul (fCons (fN mkTup (fCons (fVar 0) (fCons (fC (.d (.int 1))) (fNil)))) (fCons (fCall m_even_size (fCons (fVar 0) (fCons (fVar 1) (fNil)))) (fNil))))
def m_even_sum : List U → Store → R U := runD 2 g_even_sum
/-! _law_pool: 0 script, 1 digits, 2 stirred, 3 at, 4 cell -/
def b1__law_pool : Vr → Store → O :=
  gSeq (gSet 4 (fN uInt (fCons (fN uMax (fCons (f2 uIx (fVar 0) (fVar 3)) (fCons (f2 uSub (f1 uNeg (fC (.d (.int 1)))) (f2 uIx (fVar 0) (fVar 3))) (fNil)))) (fNil))))
  (gSeq (gSet 2 (f2 uMod (fN uInt (fCons (f2 uAdd (f2 uAdd (f2 uMul (fVar 2) (fC (.d (.int 48271)))) (f2 uMod (fVar 4) (fC (.d (.int 2147483629))))) (fC (.d (.int 11)))) (fNil))) (fC (.d (.int 2147483647)))))
  (gSet 1 (fIf (fAndT (fTst (f2 uGe (fVar 4) (f2 uPow (fC (.d (.int 10))) (fC (.d (.int 12)))))) (fTst (f2 uLt (fVar 1) (f2 uPow (fC (.d (.int 10))) (fC (.d (.int 60))))))) (fN uInt (fCons (f2 uAdd (f2 uMul (fVar 1) (f2 uPow (fC (.d (.int 10))) (fC (.d (.int 60))))) (f2 uMod (fVar 4) (f2 uPow (fC (.d (.int 10))) (fC (.d (.int 60)))))) (fNil))) (fVar 1))))
def g__law_pool : Vr → Store → O :=
  gSeq (gAsg (fN mkTup (fCons (fC (.d (.int 0))) (fCons (fC (.d (.int 7))) (fNil)))) (aTup 2 (aCons (aName 1) (aCons (aName 2) (aNil)))))
  (gSeq (gFor (sN sRng1 (fCons (fN uLen (fCons (fVar 0) (fNil))) (fNil))) (aName 3) (b1__law_pool))
  (gRet (fN mkLoc (fCons (fVar 1) (fCons (fVar 2) (fCons (fC (.d (.int 0))) (fNil)))))))
def m__law_pool : List U → Store → R U := runD 5 g__law_pool
/-! _law_op_is_fraction: 0 thing, 1 x -/
def e1__law_op_is_fraction : Vr → Store → R U :=
  fVar 1
def t2__law_op_is_fraction : Vr → Store → R Bool :=
  fNotT (fTst (fCall m__law_op_is_whole (fCons (fVar 1) (fNil))))
def g__law_op_is_fraction : Vr → Store → O :=
  gSeq (gIf (fOrT (fNotT (fTst (fN uIsi (fCons (fVar 0) (fCons (fC (.ty "tuple")) (fNil)))))) (fOrT (fTst (f2 uNe (fN uLen (fCons (fVar 0) (fNil))) (fC (.d (.int 2))))) (fTst (f2 uNe (fLc (sSeq (fVar 0)) (aName 1) (t2__law_op_is_fraction) (e1__law_op_is_fraction) [1]) (fN mkLst (fNil)))))) (gRet (fC (.d (.bool false)))) (gNx))
  (gRet (fAndV (f2 uGt (f2 uIx (fVar 0) (fC (.d (.int 1)))) (fC (.d (.int 0)))) (f2 uEq (fCall m__law_op_frac (fCons (f2 uIx (fVar 0) (fC (.d (.int 0)))) (fCons (f2 uIx (fVar 0) (fC (.d (.int 1)))) (fNil)))) (fVar 0))))
def m__law_op_is_fraction : List U → Store → R U := runD 2 g__law_op_is_fraction
/-! _law_op_is_amount: 0 thing -/
def g__law_op_is_amount : Vr → Store → O :=
  gRet (fAndV (fCall m__law_op_is_fraction (fCons (fVar 0) (fNil))) (fAndV (fChain uLe uLe (fC (.d (.int 0))) (f2 uIx (fVar 0) (fC (.d (.int 0)))) (f2 uPow (fC (.d (.int 10))) (fC (.d (.int 60))))) (f2 uLe (f2 uIx (fVar 0) (fC (.d (.int 1)))) (f2 uPow (fC (.d (.int 10))) (fC (.d (.int 60)))))))
def m__law_op_is_amount : List U → Store → R U := runD 1 g__law_op_is_amount
/-! _law_op_is_size: 0 thing -/
def g__law_op_is_size : Vr → Store → O :=
  gRet (fAndV (fCall m__law_op_is_fraction (fCons (fVar 0) (fNil))) (fAndV (fChain uLe uLe (fC (.d (.int 1))) (f2 uIx (fVar 0) (fC (.d (.int 0)))) (f2 uPow (fC (.d (.int 10))) (fC (.d (.int 6))))) (f2 uLe (f2 uIx (fVar 0) (fC (.d (.int 1)))) (fC (.d (.int 1000))))))
def m__law_op_is_size : List U → Store → R U := runD 1 g__law_op_is_size
/-! made_fraction: 0 thing -/
def g_made_fraction : Vr → Store → O :=
  gSeq (gIf (fNotT (fTst (fCall m_is_fraction (fCons (fVar 0) (fNil))))) (gRaise "BadFraction" (fCons (fVar 0) (fNil))) (gNx))
  (gRet (fVar 0))
def m_made_fraction : List U → Store → R U := runD 1 g_made_fraction
/-! is_amount: 0 thing -/
def g_is_amount : Vr → Store → O :=
  gRet (fAndV (fCall m_is_fraction (fCons (fVar 0) (fNil))) (fAndV (fCall m_whole (fCons (f2 uIx (fVar 0) (fC (.d (.int 0)))) (fCons (fC (.d (.int 0))) (fCons (fC (.d (.int 1000000000000000000000000000000000000000000000000000000000000))) (fNil))))) (fCall m_whole (fCons (f2 uIx (fVar 0) (fC (.d (.int 1)))) (fCons (fC (.d (.int 1))) (fCons (fC (.d (.int 1000000000000000000000000000000000000000000000000000000000000))) (fNil)))))))
def m_is_amount : List U → Store → R U := runD 1 g_is_amount
/-! made_amount: 0 thing -/
def g_made_amount : Vr → Store → O :=
  gSeq (gIf (fNotT (fTst (fCall m_is_amount (fCons (fVar 0) (fNil))))) (gRaise "BadAmount" (fCons (fVar 0) (fNil))) (gNx))
  (gRet (fVar 0))
def m_made_amount : List U → Store → R U := runD 1 g_made_amount
/-! plus: 0 a, 1 b -/
def g_plus : Vr → Store → O :=
  gSeq (gDrop (fCall m_made_fraction (fCons (fVar 0) (fNil))))
  (gSeq (gDrop (fCall m_made_fraction (fCons (fVar 1) (fNil))))
  (gRet (fCall m_fadd (fCons (fVar 0) (fCons (fVar 1) (fNil))))))
def m_plus : List U → Store → R U := runD 2 g_plus
/-! fsub: 0 a, 1 b -/
def g_fsub : Vr → Store → O :=
  gRet (fCall m_fr (fCons (f2 uSub (f2 uMul (f2 uIx (fVar 0) (fC (.d (.int 0)))) (f2 uIx (fVar 1) (fC (.d (.int 1))))) (f2 uMul (f2 uIx (fVar 1) (fC (.d (.int 0)))) (f2 uIx (fVar 0) (fC (.d (.int 1)))))) (fCons (f2 uMul (f2 uIx (fVar 0) (fC (.d (.int 1)))) (f2 uIx (fVar 1) (fC (.d (.int 1))))) (fNil))))
def m_fsub : List U → Store → R U := runD 2 g_fsub
/-! minus: 0 a, 1 b -/
def g_minus : Vr → Store → O :=
  gSeq (gDrop (fCall m_made_fraction (fCons (fVar 0) (fNil))))
  (gSeq (gDrop (fCall m_made_fraction (fCons (fVar 1) (fNil))))
  (gRet (fCall m_fsub (fCons (fVar 0) (fCons (fVar 1) (fNil))))))
def m_minus : List U → Store → R U := runD 2 g_minus
/-! fless: 0 a, 1 b -/
def g_fless : Vr → Store → O :=
  gRet (f2 uLt (f2 uMul (f2 uIx (fVar 0) (fC (.d (.int 0)))) (f2 uIx (fVar 1) (fC (.d (.int 1))))) (f2 uMul (f2 uIx (fVar 1) (fC (.d (.int 0)))) (f2 uIx (fVar 0) (fC (.d (.int 1))))))
def m_fless : List U → Store → R U := runD 2 g_fless
/-! at_most: 0 a, 1 b -/
def g_at_most : Vr → Store → O :=
  gSeq (gDrop (fCall m_made_fraction (fCons (fVar 0) (fNil))))
  (gSeq (gDrop (fCall m_made_fraction (fCons (fVar 1) (fNil))))
  (gRet (fNotV (fCall m_fless (fCons (fVar 1) (fCons (fVar 0) (fNil)))))))
def m_at_most : List U → Store → R U := runD 2 g_at_most
/-! _law_mixed: 0 jar, 1 things, 2 left_now, 3 made, 4 go -/
def b1__law_mixed : Vr → Store → O :=
  gDrop (fML uApp (fVar 3) (fCons (fML uPopAt (fVar 2) (fCons (fCall m__law_take (fCons (fVar 0) (fCons (fN uLen (fCons (fVar 2) (fNil))) (fNil)))) (fNil))) (fNil)))
def g__law_mixed : Vr → Store → O :=
  gSeq (gPar 2 3 (fCons (fN uListL (fCons (fVar 1) (fNil))) (fCons (fN mkLoc (fNil)) (fNil))))
  (gSeq (gFor (sN sRng1 (fCons (fN uLen (fCons (fVar 1) (fNil))) (fNil))) (aName 4) (b1__law_mixed))
  (gRet (fVar 3)))
def m__law_mixed : List U → Store → R U := runD 5 g__law_mixed
/-! _law_op_corner: 0 jar, 1 many, 2 even, 3 at, 4 ladder, 5 sort_now, 6 row, 7 one -/
def b1__law_op_corner : Vr → Store → O :=
  gSet 2 (fCall m__law_op_plus (fCons (fVar 2) (fCons (fN mkTup (fCons (fC (.d (.int 1))) (fCons (fVar 3) (fNil)))) (fNil))))
def e2__law_op_corner : Vr → Store → R U :=
  fN mkTup (fCons (fN uMin (fCons (f2 uAdd (fVar 3) (fC (.d (.int 2)))) (fCons (fVar 1) (fNil)))) (fCons (fC (.d (.int 1))) (fNil)))
def e3__law_op_corner : Vr → Store → R U :=
  fCall m__law_op_times (fCons (fCall m__law_op_plus (fCons (fVar 2) (fCons (fVar 7) (fNil)))) (fCons (fC (.d (.int 1))) (fCons (fC (.d (.int 2))) (fNil))))
def g__law_op_corner : Vr → Store → O :=
  gSeq (gIf (fTst (f2 uEq (fVar 1) (fC (.d (.int 0))))) (gRet (fN mkLoc (fNil))) (gNx))
  (gSeq (gSet 2 (fN mkTup (fCons (fC (.d (.int 1))) (fCons (fC (.d (.int 1))) (fNil)))))
  (gSeq (gFor (sN sRng2 (fCons (fC (.d (.int 1))) (fCons (fVar 1) (fNil)))) (aName 3) (b1__law_op_corner))
  (gSeq (gSet 4 (fLc (sN sRng1 (fCons (fVar 1) (fNil))) (aName 3) (fYes) (e2__law_op_corner) [3]))
  (gSeq (gSet 5 (fCall m__law_take (fCons (fVar 0) (fCons (fC (.d (.int 3))) (fNil)))))
  (gSeq (gIf (fTst (f2 uEq (fVar 1) (fC (.d (.int 1))))) (gRet (fN mkLoc (fCons (fN mkTup (fCons (fC (.d (.int 1))) (fCons (fC (.d (.int 1))) (fNil)))) (fNil)))) (gNx))
  (gSeq (gSet 6 (fIf (fTst (f2 uEq (fVar 5) (fC (.d (.int 0))))) (f2 uMul (fN mkLst (fCons (fVar 2) (fNil))) (fVar 1)) (fVar 4)))
  (gSeq (gIf (fTst (f2 uEq (fVar 5) (fC (.d (.int 2))))) (gSet 6 (fLc (sSeq (fVar 4)) (aName 7) (fYes) (e3__law_op_corner) [7])) (gNx))
  (gRet (fCall m__law_mixed (fCons (fVar 0) (fCons (fVar 6) (fNil))))))))))))
def m__law_op_corner : List U → Store → R U := runD 8 g__law_op_corner
/-! _law_op_yard: 0 jar, 1 most_bins, 2 many, 3 rate, 4 sizes_now, 5 sort_now, 6 go, 7 v, 8 step, 9 one -/
def e1__law_op_yard : Vr → Store → R U :=
  fN mkTup (fCons (fCall m__law_one (fCons (fVar 0) (fCons (fN mkLst (fCons (fC (.d (.int 2))) (fCons (fC (.d (.int 3))) (fCons (fC (.d (.int 4))) (fCons (fC (.d (.int 5))) (fCons (fC (.d (.int 6))) (fCons (fC (.d (.int 7))) (fCons (fC (.d (.int 8))) (fNil))))))))) (fNil)))) (fCons (fC (.d (.int 2))) (fNil)))
def b2__law_op_yard : Vr → Store → O :=
  gSeq (gSet 7 (fCall m__law_take (fCons (fVar 0) (fCons (fVar 2) (fNil)))))
  (gSeq (gSet 8 (fCall m__law_one (fCons (fVar 0) (fCons (fN mkLst (fCons (fN mkTup (fCons (fC (.d (.int 1))) (fCons (fC (.d (.int 20))) (fNil)))) (fCons (fN mkTup (fCons (f1 uNeg (fC (.d (.int 1)))) (fCons (fC (.d (.int 20))) (fNil)))) (fCons (fN mkTup (fCons (fC (.d (.int 1))) (fCons (fC (.d (.int 2))) (fNil)))) (fCons (fN mkTup (fCons (fC (.d (.int 1))) (fCons (fC (.d (.int 1))) (fNil)))) (fCons (fN mkTup (fCons (f1 uNeg (fC (.d (.int 1)))) (fCons (fC (.d (.int 10))) (fNil)))) (fNil))))))) (fNil)))))
  (gSetIx (fVar 4) (fVar 7) (fCall m__law_op_plus (fCons (f2 uIx (fVar 4) (fVar 7)) (fCons (fIf (fTst (f2 uNe (fVar 5) (fC (.d (.int 3))))) (fVar 8) (fN mkTup (fCons (fC (.d (.int 1))) (fCons (fC (.d (.int 2))) (fNil))))) (fNil))))))
def e3__law_op_yard : Vr → Store → R U :=
  fCall m__law_op_frac (fCons (f2 uMul (f2 uIx (fVar 9) (fC (.d (.int 0)))) (f2 uIx (fVar 3) (fC (.d (.int 0))))) (fCons (f2 uMul (f2 uIx (fVar 9) (fC (.d (.int 1)))) (f2 uIx (fVar 3) (fC (.d (.int 1))))) (fNil)))
def g__law_op_yard : Vr → Store → O :=
  gSeq (gSet 2 (fN uMin (fCons (fVar 1) (fCons (fCall m__law_one (fCons (fVar 0) (fCons (fN mkLst (fCons (fC (.d (.int 0))) (fCons (fC (.d (.int 1))) (fCons (fC (.d (.int 2))) (fCons (fC (.d (.int 2))) (fCons (fC (.d (.int 3))) (fCons (fC (.d (.int 3))) (fCons (fC (.d (.int 3))) (fCons (fC (.d (.int 4))) (fCons (fC (.d (.int 4))) (fCons (fC (.d (.int 5))) (fNil)))))))))))) (fNil)))) (fNil)))))
  (gSeq (gSet 3 (fCall m__law_one (fCons (fVar 0) (fCons (fN mkLst (fCons (fN mkTup (fCons (fC (.d (.int 1))) (fCons (fC (.d (.int 1))) (fNil)))) (fCons (fN mkTup (fCons (fC (.d (.int 1))) (fCons (fC (.d (.int 1))) (fNil)))) (fCons (fN mkTup (fCons (fC (.d (.int 1))) (fCons (fC (.d (.int 2))) (fNil)))) (fCons (fN mkTup (fCons (fC (.d (.int 3))) (fCons (fC (.d (.int 2))) (fNil)))) (fCons (fN mkTup (fCons (fC (.d (.int 2))) (fCons (fC (.d (.int 1))) (fNil)))) (fCons (fN mkTup (fCons (fC (.d (.int 1))) (fCons (fC (.d (.int 3))) (fNil)))) (fNil)))))))) (fNil)))))
  (gSeq (gPar 4 5 (fCons (fCall m__law_op_corner (fCons (fVar 0) (fCons (fVar 2) (fNil)))) (fCons (fCall m__law_take (fCons (fVar 0) (fCons (fC (.d (.int 6))) (fNil)))) (fNil))))
  (gSeq (gIf (fTst (f2 uEq (fVar 5) (fC (.d (.int 5))))) (gSet 4 (fLcL (sN sRng1 (fCons (fVar 2) (fNil))) (aName 6) (fYes) (e1__law_op_yard) [6])) (gNx))
  (gSeq (gIf (fAndT (fTst (f2 (uInF id) (fVar 5) (fN mkLst (fCons (fC (.d (.int 1))) (fCons (fC (.d (.int 2))) (fCons (fC (.d (.int 3))) (fNil))))))) (fTst (f2 uGt (fVar 2) (fC (.d (.int 0)))))) (gFor (sN sRng1 (fCons (fCall m__law_one (fCons (fVar 0) (fCons (fN mkLst (fCons (fC (.d (.int 1))) (fCons (fC (.d (.int 1))) (fCons (fC (.d (.int 2))) (fNil))))) (fNil)))) (fNil))) (aName 6) (b2__law_op_yard)) (gNx))
  (gRet (fN mkTup (fCons (fVar 3) (fCons (fN uTupleOf (fCons (fLc (sSeq (fVar 4)) (aName 9) (fYes) (e3__law_op_yard) [9]) (fNil))) (fNil)))))))))
def m__law_op_yard : List U → Store → R U := runD 10 g__law_op_yard
/-! _law_op_kinds: 0 sizes_now, 1 made, 2 size_now, 3 one -/
def e1__law_op_kinds : Vr → Store → R U :=
  fVar 3
def t2__law_op_kinds : Vr → Store → R Bool :=
  fTst (f2 uEq (fVar 3) (fVar 2))
def b3__law_op_kinds : Vr → Store → O :=
  gSet 1 (f2 uMul (fVar 1) (f2 uAdd (fC (.d (.int 1))) (fN uLen (fCons (fLc (sSeq (fVar 0)) (aName 3) (t2__law_op_kinds) (e1__law_op_kinds) [3]) (fNil)))))
def g__law_op_kinds : Vr → Store → O :=
  gSeq (gSet 1 (fC (.d (.int 1))))
  (gSeq (gFor (sSeq (fN uSS (fCons (fVar 0) (fNil)))) (aName 2) (b3__law_op_kinds))
  (gRet (fVar 1)))
def m__law_op_kinds : List U → Store → R U := runD 4 g__law_op_kinds
/-! _law_op_yard_fault: 0 thing, 1 bad, 2 many, 3 at -/
def e1__law_op_yard_fault : Vr → Store → R U :=
  fVar 3
def t2__law_op_yard_fault : Vr → Store → R Bool :=
  fNotT (fTst (fCall m__law_op_is_size (fCons (f2 uIx (f2 uIx (fVar 0) (fC (.d (.int 1)))) (fVar 3)) (fNil))))
def g__law_op_yard_fault : Vr → Store → O :=
  gSeq (gIf (fOrT (fNotT (fTst (fN uIsi (fCons (fVar 0) (fCons (fC (.ty "tuple")) (fNil)))))) (fOrT (fTst (f2 uNe (fN uLen (fCons (fVar 0) (fNil))) (fC (.d (.int 2))))) (fNotT (fTst (fN uIsi (fCons (f2 uIx (fVar 0) (fC (.d (.int 1)))) (fCons (fC (.ty "tuple")) (fNil)))))))) (gRet (fN mkTup (fCons (fC (.d (.str "BadYard"))) (fCons (f1 uNeg (fC (.d (.int 1)))) (fNil))))) (gNx))
  (gSeq (gIf (fTst (f2 uGt (fN uLen (fCons (f2 uIx (fVar 0) (fC (.d (.int 1)))) (fNil))) (fC (.d (.int 40))))) (gRet (fN mkTup (fCons (fC (.d (.str "TooMany"))) (fCons (fN uLen (fCons (f2 uIx (fVar 0) (fC (.d (.int 1)))) (fNil))) (fNil))))) (gNx))
  (gSeq (gIf (fNotT (fTst (fCall m__law_op_is_size (fCons (f2 uIx (fVar 0) (fC (.d (.int 0)))) (fNil))))) (gRet (fN mkTup (fCons (fC (.d (.str "BadYard"))) (fCons (f1 uNeg (fC (.d (.int 2)))) (fNil))))) (gNx))
  (gSeq (gSet 1 (fLc (sN sRng1 (fCons (fN uLen (fCons (f2 uIx (fVar 0) (fC (.d (.int 1)))) (fNil))) (fNil))) (aName 3) (t2__law_op_yard_fault) (e1__law_op_yard_fault) [3]))
  (gSeq (gIf (fTst (f2 uNe (fVar 1) (fN mkLst (fNil)))) (gRet (fN mkTup (fCons (fC (.d (.str "BadYard"))) (fCons (f2 uIx (fVar 1) (fC (.d (.int 0)))) (fNil))))) (gNx))
  (gSeq (gSet 2 (fCall m__law_op_kinds (fCons (f2 uIx (fVar 0) (fC (.d (.int 1)))) (fNil))))
  (gRet (fIf (fTst (f2 uGt (fVar 2) (fC (.d (.int 600))))) (fN mkTup (fCons (fC (.d (.str "TooMany"))) (fCons (fVar 2) (fNil)))) (fC (.d .none)))))))))
def m__law_op_yard_fault : List U → Store → R U := runD 4 g__law_op_yard_fault
/-! _law_op_odd_yard: 0 jar, 1 yard, 2 rate, 3 sizes_now, 4 found, 5 odd, 6 thing, 7 at -/
def e1__law_op_odd_yard : Vr → Store → R U :=
  fN mkTup (fCons (fVar 5) (fCons (fN mkTup (fCons (fC (.d .none)) (fNil))) (fNil)))
def b2__law_op_odd_yard : Vr → Store → O :=
  gDrop (fML uExt (fVar 4) (fCons (fN mkLst (fCons (fN mkTup (fCons (fVar 2) (fCons (f2 uAdd (f2 uAdd (fSl (fVar 3) (fNoP) (fPart (fC (.d (.int 1))))) (fN mkTup (fCons (fVar 5) (fNil)))) (fSl (fVar 3) (fPart (fC (.d (.int 1)))) (fPart (fC (.d (.int 2)))))) (fNil)))) (fCons (fN mkTup (fCons (fVar 2) (fCons (fN mkTup (fCons (fVar 5) (fCons (fC (.d .none)) (fNil)))) (fNil)))) (fNil)))) (fNil)))
def e3__law_op_odd_yard : Vr → Store → R U :=
  fN mkTup (fCons (fVar 7) (fCons (fC (.d (.int 1))) (fNil)))
def g__law_op_odd_yard : Vr → Store → O :=
  gSeq (gAsg (fVar 1) (aTup 2 (aCons (aName 2) (aCons (aName 3) (aNil)))))
  (gSeq (gSet 4 (fN mkLoc (fCons (fC (.d .none)) (fCons (fN mkTup (fCons (fVar 2) (fNil))) (fCons (fN mkLst (fCons (fVar 2) (fCons (fVar 3) (fNil)))) (fCons (fN mkTup (fCons (fVar 2) (fCons (fN uListD (fCons (fVar 3) (fNil))) (fNil)))) (fCons (fN mkTup (fCons (fC (.d .none)) (fCons (fN mkLst (fCons (fN mkTup (fCons (fC (.d (.int 1))) (fCons (fC (.d (.int 1))) (fNil)))) (fNil))) (fNil)))) (fCons (fN mkTup (fCons (fC (.d .none)) (fCons (f2 uMul (fN mkTup (fCons (fC (.d .none)) (fNil))) (fC (.d (.int 41)))) (fNil)))) (fCons (fC (.d (.int 0))) (fNil))))))))))
  (gSeq (gDrop (fML uExt (fVar 4) (fCons (fLc (sSeq (fN mkLst (fCons (fN mkTup (fCons (fC (.d (.int 0))) (fCons (fC (.d (.int 1))) (fNil)))) (fCons (fN mkTup (fCons (fC (.d (.int 1))) (fCons (fC (.d (.int 1001))) (fNil)))) (fCons (fC (.d (.int 1))) (fCons (fC (.d .none)) (fCons (fN mkTup (fCons (fC (.d (.int 2))) (fCons (fC (.d (.int 2))) (fNil)))) (fCons (fN mkTup (fCons (f2 uAdd (f2 uPow (fC (.d (.int 10))) (fC (.d (.int 6)))) (fC (.d (.int 1)))) (fCons (fC (.d (.int 1))) (fNil)))) (fNil))))))))) (aName 5) (fYes) (e1__law_op_odd_yard) [5]) (fNil))))
  (gSeq (gFor (sSeq (fN mkLst (fCons (fN mkTup (fCons (fC (.d (.int 0))) (fCons (fC (.d (.int 1))) (fNil)))) (fCons (fN mkTup (fCons (fC (.d (.int 4))) (fCons (fC (.d (.int 2))) (fNil)))) (fCons (fN mkTup (fCons (fC (.d (.int 1))) (fCons (fC (.d (.int 1001))) (fNil)))) (fCons (fC (.d (.int 3))) (fCons (fC (.d .none)) (fCons (fN mkTup (fCons (f1 uNeg (fC (.d (.int 1)))) (fCons (fC (.d (.int 2))) (fNil)))) (fNil))))))))) (aName 5) (b2__law_op_odd_yard))
  (gSeq (gDrop (fML uApp (fVar 4) (fCons (fN mkTup (fCons (fN mkTup (fCons (fC (.d (.int 1))) (fCons (fC (.d (.int 1))) (fNil)))) (fCons (fN uTupleOf (fCons (fLc (sN sRng2 (fCons (fC (.d (.int 1))) (fCons (fC (.d (.int 11))) (fNil)))) (aName 7) (fYes) (e3__law_op_odd_yard) [7]) (fNil))) (fNil)))) (fNil))))
  (gSeq (gSet 6 (fCall m__law_one (fCons (fVar 0) (fCons (fVar 4) (fNil)))))
  (gRet (fN mkTup (fCons (fVar 6) (fCons (fCall m__law_op_yard_fault (fCons (fVar 6) (fNil))) (fNil))))))))))
def m__law_op_odd_yard : List U → Store → R U := runD 8 g__law_op_odd_yard
/-! kinds_in: 0 sizes, 1 many, 2 _, 3 bins -/
def b1_kinds_in : Vr → Store → O :=
  gSet 1 (f2 uMul (fVar 1) (f2 uAdd (fC (.d (.int 1))) (fN uLen (fCons (fVar 3) (fNil)))))
def g_kinds_in : Vr → Store → O :=
  gSeq (gSet 1 (fC (.d (.int 1))))
  (gSeq (gFor (sSeq (fCall m_class_rows (fCons (fVar 0) (fNil)))) (aTup 2 (aCons (aName 2) (aCons (aName 3) (aNil)))) (b1_kinds_in))
  (gRet (fVar 1)))
def m_kinds_in : List U → Store → R U := runD 4 g_kinds_in
/-! yard_fault: 0 thing, 1 rate, 2 sizes, 3 v, 4 size, 5 many -/
def b1_yard_fault : Vr → Store → O :=
  gIf (fNotT (fTst (fCall m_is_size (fCons (fVar 4) (fNil))))) (gRet (fN mkTup (fCons (fC (.d (.str "BadYard"))) (fCons (fVar 3) (fNil))))) (gNx)
def g_yard_fault : Vr → Store → O :=
  gSeq (gIf (fOrT (fNotT (fTst (fN uIsi (fCons (fVar 0) (fCons (fC (.ty "tuple")) (fNil)))))) (fOrT (fTst (f2 uNe (fN uLen (fCons (fVar 0) (fNil))) (fC (.d (.int 2))))) (fNotT (fTst (fN uIsi (fCons (f2 uIx (fVar 0) (fC (.d (.int 1)))) (fCons (fC (.ty "tuple")) (fNil)))))))) (gRet (fN mkTup (fCons (fC (.d (.str "BadYard"))) (fCons (f1 uNeg (fC (.d (.int 1)))) (fNil))))) (gNx))
  (gSeq (gAsg (fVar 0) (aTup 2 (aCons (aName 1) (aCons (aName 2) (aNil)))))
  (gSeq (gIf (fTst (f2 uGt (fN uLen (fCons (fVar 2) (fNil))) (fC (.d (.int 40))))) (gRet (fN mkTup (fCons (fC (.d (.str "TooMany"))) (fCons (fN uLen (fCons (fVar 2) (fNil))) (fNil))))) (gNx))
  (gSeq (gIf (fNotT (fTst (fCall m_is_size (fCons (fVar 1) (fNil))))) (gRet (fN mkTup (fCons (fC (.d (.str "BadYard"))) (fCons (fC (.d (.int (-2)))) (fNil))))) (gNx))
  (gSeq (gFor (sN sEnumA (fCons (fVar 2) (fNil))) (aTup 2 (aCons (aName 3) (aCons (aName 4) (aNil)))) (b1_yard_fault))
  (gSeq (gSet 5 (fCall m_kinds_in (fCons (fVar 2) (fNil))))
  (gRet (fIf (fTst (f2 uGt (fVar 5) (fC (.d (.int 600))))) (fN mkTup (fCons (fC (.d (.str "TooMany"))) (fCons (fVar 5) (fNil)))) (fC (.d .none)))))))))
def m_yard_fault : List U → Store → R U := runD 6 g_yard_fault
/-! made_yard: 0 thing, 1 fault -/
def g_made_yard : Vr → Store → O :=
  gSeq (gSet 1 (fCall m_yard_fault (fCons (fVar 0) (fNil))))
  (gSeq (gIf (fTst (f1 uIsN1 (fVar 1))) (gRet (fVar 0)) (gNx))
  (gSeq (gIf (fTst (f2 uEq (f2 uIx (fVar 1) (fC (.d (.int 0)))) (fC (.d (.str "TooMany"))))) (gRaise "TooMany" (fCons (f2 uIx (fVar 1) (fC (.d (.int 1)))) (fNil))) (gNx))
  (gRaise "BadYard" (fCons (f2 uIx (fVar 1) (fC (.d (.int 1)))) (fNil)))))
def m_made_yard : List U → Store → R U := runD 2 g_made_yard
/-! is_yard: 0 thing -/
def g_is_yard : Vr → Store → O :=
  gRet (f1 uIsN1 (fCall m_yard_fault (fCons (fVar 0) (fNil))))
def m_is_yard : List U → Store → R U := runD 1 g_is_yard
/-! _law_op_below: 0 a, 1 b -/
def g__law_op_below : Vr → Store → O :=
  gRet (f2 uLt (f2 uMul (f2 uIx (fVar 0) (fC (.d (.int 0)))) (f2 uIx (fVar 1) (fC (.d (.int 1))))) (f2 uMul (f2 uIx (fVar 1) (fC (.d (.int 0)))) (f2 uIx (fVar 0) (fC (.d (.int 1))))))
def m__law_op_below : List U → Store → R U := runD 2 g__law_op_below
/-! lot_kinds: 0 yard -/
def g_lot_kinds : Vr → Store → O :=
  gSeq (gDrop (fCall m_made_yard (fCons (fVar 0) (fNil))))
  (gRet (fCall m_kinds_in (fCons (f2 uIx (fVar 0) (fC (.d (.int 1)))) (fNil))))
def m_lot_kinds : List U → Store → R U := runD 1 g_lot_kinds
/-! classes: 0 yard, 1 size, 2 bins -/
def e1_classes : Vr → Store → R U :=
  fN mkTup (fCons (fVar 1) (fCons (fN uLen (fCons (fVar 2) (fNil))) (fNil)))
def g_classes : Vr → Store → O :=
  gSeq (gDrop (fCall m_made_yard (fCons (fVar 0) (fNil))))
  (gRet (fN uTupleOf (fCons (fLc (sSeq (fCall m_class_rows (fCons (f2 uIx (fVar 0) (fC (.d (.int 1)))) (fNil)))) (aTup 2 (aCons (aName 1) (aCons (aName 2) (aNil)))) (fYes) (e1_classes) [1, 2]) (fNil))))
def m_classes : List U → Store → R U := runD 3 g_classes
/-! _law_op_lots: 0 many, 1 made, 2 v, 3 much, 4 one -/
def e1__law_op_lots : Vr → Store → R U :=
  f2 uAdd (fVar 4) (fN mkTup (fCons (fVar 2) (fNil)))
def b2__law_op_lots : Vr → Store → O :=
  gDrop (fML uExt (fVar 1) (fCons (fLcK (fVar 1) (aName 4) (fYes) (e1__law_op_lots) [4]) (fNil)))
def e3__law_op_lots : Vr → Store → R U :=
  fVar 4
def e4__law_op_lots : Vr → Store → R U :=
  fN mkTup (fCons (fN uLen (fCons (fVar 4) (fNil))) (fCons (fVar 4) (fNil)))
def g__law_op_lots : Vr → Store → O :=
  gSeq (gSet 1 (fN mkLoc (fCons (fN mkTup (fNil)) (fNil))))
  (gSeq (gFor (sN sRng1 (fCons (fVar 0) (fNil))) (aName 2) (b2__law_op_lots))
  (gRet (fLc (sSeq (fN uSorted (fCons (fLc (sSeq (fVar 1)) (aName 4) (fYes) (e4__law_op_lots) [4]) (fNil)))) (aTup 2 (aCons (aName 3) (aCons (aName 4) (aNil)))) (fYes) (e3__law_op_lots) [3, 4])))
def m__law_op_lots : List U → Store → R U := runD 5 g__law_op_lots
/-! _law_op_minus: 0 a, 1 b -/
def g__law_op_minus : Vr → Store → O :=
  gRet (fCall m__law_op_frac (fCons (f2 uSub (f2 uMul (f2 uIx (fVar 0) (fC (.d (.int 0)))) (f2 uIx (fVar 1) (fC (.d (.int 1))))) (f2 uMul (f2 uIx (fVar 1) (fC (.d (.int 0)))) (f2 uIx (fVar 0) (fC (.d (.int 1)))))) (fCons (f2 uMul (f2 uIx (fVar 0) (fC (.d (.int 1)))) (f2 uIx (fVar 1) (fC (.d (.int 1))))) (fNil))))
def m__law_op_minus : List U → Store → R U := runD 2 g__law_op_minus
/-! _law_some: 0 jar, 1 things, 2 much, 3 made, 4 thing -/
def b1__law_some : Vr → Store → O :=
  gDrop (fML uExt (fVar 3) (fCons (fIf (fTst (f2 uEq (fCall m__law_take (fCons (fVar 0) (fCons (fVar 2) (fNil)))) (fC (.d (.int 0))))) (fN mkLst (fCons (fVar 4) (fNil))) (fN mkLst (fNil))) (fNil)))
def g__law_some : Vr → Store → O :=
  gSeq (gSet 3 (fN mkLoc (fNil)))
  (gSeq (gFor (sSeq (fVar 1)) (aName 4) (b1__law_some))
  (gRet (fN uTupleOf (fCons (fVar 3) (fNil)))))
def m__law_some : List U → Store → R U := runD 5 g__law_some
/-! lot_fault: 0 yard, 1 thing, 2 least, 3 at, 4 one -/
def b1_lot_fault : Vr → Store → O :=
  gSeq (gIf (fNotT (fTst (fCall m_whole (fCons (fVar 4) (fCons (fVar 2) (fCons (f2 uSub (fN uLen (fCons (f2 uIx (fVar 0) (fC (.d (.int 1)))) (fNil))) (fC (.d (.int 1)))) (fNil))))))) (gRet (fVar 3)) (gNx))
  (gSet 2 (f2 uAdd (fVar 4) (fC (.d (.int 1)))))
def g_lot_fault : Vr → Store → O :=
  gSeq (gIf (fNotT (fTst (fN uIsi (fCons (fVar 1) (fCons (fC (.ty "tuple")) (fNil)))))) (gRet (f1 uNeg (fC (.d (.int 1))))) (gNx))
  (gSeq (gSet 2 (fC (.d (.int 0))))
  (gSeq (gFor (sN sEnumA (fCons (fVar 1) (fNil))) (aTup 2 (aCons (aName 3) (aCons (aName 4) (aNil)))) (b1_lot_fault))
  (gRet (fC (.d .none)))))
def m_lot_fault : List U → Store → R U := runD 5 g_lot_fault
/-! made_lot: 0 yard, 1 thing, 2 fault -/
def g_made_lot : Vr → Store → O :=
  gSeq (gDrop (fCall m_made_yard (fCons (fVar 0) (fNil))))
  (gSeq (gSet 2 (fCall m_lot_fault (fCons (fVar 0) (fCons (fVar 1) (fNil)))))
  (gSeq (gIf (fTst (f1 uNotN1 (fVar 2))) (gRaise "BadLot" (fCons (fVar 2) (fNil))) (gNx))
  (gRet (fVar 1))))
def m_made_lot : List U → Store → R U := runD 3 g_made_lot
/-! fsum: 0 rows, 1 total, 2 one -/
def b1_fsum : Vr → Store → O :=
  gSet 1 (fCall m_fadd (fCons (fVar 1) (fCons (fVar 2) (fNil))))
def g_fsum : Vr → Store → O :=
  gSeq (gSet 1 (fC (.d (.tuple ([0, 1].map PyData.int)))))
  (gSeq (gFor (sSeq (fVar 0)) (aName 2) (b1_fsum))
  (gRet (fVar 1)))
def m_fsum : List U → Store → R U := runD 3 g_fsum
/-! size_of: 0 yard, 1 lot, 2 v -/
def e1_size_of : Vr → Store → R U :=
  f2 uIx (f2 uIx (fVar 0) (fC (.d (.int 1)))) (fVar 2)
def g_size_of : Vr → Store → O :=
  gRet (fCall m_fsum (fCons (fLc (sSeq (fVar 1)) (aName 2) (fYes) (e1_size_of) [2]) (fNil)))
def m_size_of : List U → Store → R U := runD 3 g_size_of
/-! size_sum: 0 yard, 1 lot -/
def g_size_sum : Vr → Store → O :=
  gSeq (gDrop (fCall m_made_lot (fCons (fVar 0) (fCons (fVar 1) (fNil)))))
  (gRet (fCall m_size_of (fCons (fVar 0) (fCons (fVar 1) (fNil)))))
def m_size_sum : List U → Store → R U := runD 2 g_size_sum
/-! _law_op_is_in: 0 thing, 1 low, 2 top -/
def g__law_op_is_in : Vr → Store → O :=
  gRet (fAndV (fCall m__law_op_is_whole (fCons (fVar 0) (fNil))) (fChain uLe uLe (fVar 1) (fVar 0) (fVar 2)))
def m__law_op_is_in : List U → Store → R U := runD 3 g__law_op_is_in
/-! _law_op_lot_fault: 0 thing, 1 many, 2 at -/
def b1__law_op_lot_fault : Vr → Store → O :=
  gIf (fNotT (fTst (fCall m__law_op_is_in (fCons (f2 uIx (fVar 0) (fVar 2)) (fCons (fIf (fTst (f2 uGt (fVar 2) (fC (.d (.int 0))))) (f2 uAdd (f2 uIx (fVar 0) (f2 uSub (fVar 2) (fC (.d (.int 1))))) (fC (.d (.int 1)))) (fC (.d (.int 0)))) (fCons (f2 uSub (fVar 1) (fC (.d (.int 1)))) (fNil))))))) (gRet (fVar 2)) (gNx)
def g__law_op_lot_fault : Vr → Store → O :=
  gSeq (gIf (fNotT (fTst (fN uIsi (fCons (fVar 0) (fCons (fC (.ty "tuple")) (fNil)))))) (gRet (f1 uNeg (fC (.d (.int 1))))) (gNx))
  (gSeq (gFor (sN sRng1 (fCons (fN uLen (fCons (fVar 0) (fNil))) (fNil))) (aName 2) (b1__law_op_lot_fault))
  (gRet (fC (.d .none))))
def m__law_op_lot_fault : List U → Store → R U := runD 3 g__law_op_lot_fault
/-! _law_op_sum: 0 some, 1 made, 2 one -/
def b1__law_op_sum : Vr → Store → O :=
  gSet 1 (fCall m__law_op_plus (fCons (fVar 1) (fCons (fVar 2) (fNil))))
def g__law_op_sum : Vr → Store → O :=
  gSeq (gSet 1 (fN mkTup (fCons (fC (.d (.int 0))) (fCons (fC (.d (.int 1))) (fNil)))))
  (gSeq (gFor (sSeq (fVar 0)) (aName 2) (b1__law_op_sum))
  (gRet (fVar 1)))
def m__law_op_sum : List U → Store → R U := runD 3 g__law_op_sum
/-! _law_op_size_sum: 0 yard, 1 lot, 2 v -/
def e1__law_op_size_sum : Vr → Store → R U :=
  f2 uIx (f2 uIx (fVar 0) (fC (.d (.int 1)))) (fVar 2)
def g__law_op_size_sum : Vr → Store → O :=
  gRet (fCall m__law_op_sum (fCons (fLc (sSeq (fVar 1)) (aName 2) (fYes) (e1__law_op_size_sum) [2]) (fNil)))
def m__law_op_size_sum : List U → Store → R U := runD 3 g__law_op_size_sum
end
end M

/-! Z11: reckoning with mirrors. -/
namespace Z
open PySem
section
variable {A B C : Type} {a : A} {S S1 : Store} {c : Str} {x : D} {ρ ρ1 : Vr} {u : U} {p : Prop} [Decidable p]
@[simp] theorem bind_ok {k : A → Store → R B} : (R.ok a S).bind k = k a S := (rfl)
@[simp] theorem bind_exc {k : A → Store → R B} : (R.exc c x S : R A).bind k = .exc c x S := (rfl)
@[simp] theorem bind_bad {k : A → Store → R B} : (R.bad : R A).bind k = .bad := (rfl)
@[simp] theorem bind_ite {k : A → Store → R B} {r s : R A} : (if p then r else s).bind k = if p then r.bind k else s.bind k := by split <;> rfl
@[simp] theorem st_ok {k : A → Store → O} : (R.ok a S).st ρ k = k a S := (rfl)
@[simp] theorem st_exc {k : A → Store → O} : (R.exc c x S : R A).st ρ k = .exc c x ρ S := (rfl)
@[simp] theorem st_bad {k : A → Store → O} : (R.bad : R A).st ρ k = .bad := (rfl)
@[simp] theorem st_ite {k : A → Store → O} {r s : R A} : (if p then r else s).st ρ k = if p then r.st ρ k else s.st ρ k := by split <;> rfl
@[simp] theorem seq_nx {k : Vr → Store → O} : (O.nx ρ S).seq k = k ρ S := (rfl)
@[simp] theorem seq_rt {k : Vr → Store → O} : (O.rt u S).seq k = .rt u S := (rfl)
@[simp] theorem seq_bk {k : Vr → Store → O} : (O.bk ρ S).seq k = .bk ρ S := (rfl)
@[simp] theorem seq_ct {k : Vr → Store → O} : (O.ct ρ S).seq k = .ct ρ S := (rfl)
@[simp] theorem seq_exc {k : Vr → Store → O} : (O.exc c x ρ S).seq k = .exc c x ρ S := (rfl)
@[simp] theorem seq_bad {k : Vr → Store → O} : (O.bad).seq k = .bad := (rfl)
@[simp] theorem seq_ite {k : Vr → Store → O} {r s : O} : (if p then r else s).seq k = if p then r.seq k else s.seq k := by split <;> rfl
theorem e_var {i : Nat} (h : ρ[i]? = some (some u)) : fVar i ρ S = .ok u S := by unfold fVar; rw [h]
@[simp] theorem e_var0 {ρ : Vr} : fVar 0 (some u :: ρ) S = .ok u S := (rfl)
@[simp] theorem e_varS {i : Nat} {o : Option U} {ρ : Vr} : fVar (i + 1) (o :: ρ) S = fVar i ρ S := (rfl)
@[simp] theorem fin_nx {n : Nat} : fin n (.nx ρ S) = .ok (.d .none) (S.take n) := (rfl)
@[simp] theorem fin_rtd {n : Nat} {y : D} : fin n (.rt (.d y) S) = .ok (.d y) (S.take n) := (rfl)
@[simp] theorem fin_rtl {n : Nat} {l : Nat} : fin n (.rt (.loc l) S) = (if l < n then .ok (.loc l) (S.take n) else (match S[l]? with
    | some (some ds) => .ok (.loc n) (S.take n ++ [some ds])
    | _ => .bad)) := (rfl)
@[simp] theorem fin_exc {n : Nat} : fin n (.exc c x ρ S) = .exc c x (S.take n) := (rfl)
@[simp] theorem fin_bad {n : Nat} : fin n .bad = .bad := (rfl)
@[simp] theorem fin_ite {n : Nat} {r s : O} : fin n (if p then r else s) = if p then fin n r else fin n s := by split <;> rfl
@[simp] theorem tru_b {b : Bool} : tru (.d (.bool b)) S = .ok b S := (rfl)
@[simp] theorem add_i {i j : Int} : uAdd (.d (.int i)) (.d (.int j)) S = .ok (.d (.int (i + j))) S := (rfl)
@[simp] theorem sub_i {i j : Int} : uSub (.d (.int i)) (.d (.int j)) S = .ok (.d (.int (i - j))) S := (rfl)
@[simp] theorem neg_i {i : Int} : uNeg (.d (.int i)) S = .ok (.d (.int (-i))) S := (rfl)
@[simp] theorem lt_i {i j : Int} : uLt (.d (.int i)) (.d (.int j)) S = .ok (.d (.bool (decide (i < j)))) S := (rfl)
@[simp] theorem le_i {i j : Int} : uLe (.d (.int i)) (.d (.int j)) S = .ok (.d (.bool (decide (i ≤ j)))) S := (rfl)
@[simp] theorem gt_i {i j : Int} : uGt (.d (.int i)) (.d (.int j)) S = .ok (.d (.bool (decide (j < i)))) S := (rfl)
@[simp] theorem ge_i {i j : Int} : uGe (.d (.int i)) (.d (.int j)) S = .ok (.d (.bool (decide (j ≤ i)))) S := (rfl)
@[simp] theorem int_i {i : Int} : uInt [.d (.int i)] S = .ok (.d (.int i)) S := (rfl)
theorem mul_i {i j : Int} (h : i.natAbs.log2 + j.natAbs.log2 < 1000000) : uMul (.d (.int i)) (.d (.int j)) S = .ok (.d (.int (i * j))) S := by
  show (if i.natAbs.log2 + j.natAbs.log2 < 1000000 then _ else _) = _
  rw [if_pos h]
theorem eq_d {y z : D} (h1 : SeqAt.shaped y = true) (h2 : SeqAt.shaped z = true) : uEq (.d y) (.d z) S = .ok (.d (.bool (PyData.eqv y z))) S := by
  show (if (SeqAt.shaped y && SeqAt.shaped z) = true then _ else _) = _
  rw [h1, h2]; rfl
@[simp] theorem eq_i {i j : Int} : uEq (.d (.int i)) (.d (.int j)) S = .ok (.d (.bool (decide (i = j)))) S := (rfl)
@[simp] theorem frz_d {y : D} : frz (.d y) S = some (y, S) := (rfl)
@[simp] theorem frzs_n : frzs [] S = some ([], S) := (rfl)
@[simp] theorem frzs_d {y : D} {us : List U} : frzs (.d y :: us) S = (match frzs us S with
  | some (ys, S2) => some (y :: ys, S2)
  | none => none) := (rfl)
end
def isWhole (d : D) (lo hi : Int) : Bool := match d with
  | .int i => decide (lo ≤ i) && decide (i ≤ hi)
  | _ => false
theorem s_whole (d : D) (lo hi : Int) (S : Store) : M.m_whole [.d d, .d (.int lo), .d (.int hi)] S = .ok (.d (.bool (isWhole d lo hi))) S := by
  cases d <;> simp [M.m_whole, M.g_whole, uIsi, okTy, isTy, tyOf, isWhole]
  split <;> simp [*]
def isInt (d : D) : Bool := match d with
  | .int _ => true
  | _ => false
theorem s_isnum (d : D) (S : Store) : M.m_is_number [.d d] S = .ok (.d (.bool (isInt d))) S := by
  cases d <;> simp [M.m_is_number, M.g_is_number, uIsi, okTy, isTy, tyOf, isInt]
theorem s_iswhole (d : D) (S : Store) : M.m__law_op_is_whole [.d d] S = .ok (.d (.bool (isInt d))) S := by
  cases d <;> simp [M.m__law_op_is_whole, M.g__law_op_is_whole, uIsi, okTy, isTy, tyOf, isInt]
theorem fless_ok (d e : D) (h : okSize d = true) (h' : okSize e = true) : M.m_fless [.d d, .d e] [] = .ok (.d (.bool (dless d e))) [] := by
  unfold okSize at h h'
  split at h
  · split at h'
    · rename_i a b _ c f
      rw [decide_eq_true_eq] at h h'
      have i0 : ∀ a b : Int, uIx (.d (.tuple [.int a, .int b])) (.d (.int 0)) [] = .ok (.d (.int a)) [] := fun _ _ => rfl
      have i1 : ∀ a b : Int, uIx (.d (.tuple [.int a, .int b])) (.d (.int 1)) [] = .ok (.d (.int b)) [] := fun _ _ => rfl
      have m1 : uMul (.d (.int a)) (.d (.int f)) [] = .ok (.d (.int (a * f))) [] := mul_i (by omega)
      have m2 : uMul (.d (.int c)) (.d (.int b)) [] = .ok (.d (.int (c * b))) [] := mul_i (by omega)
      simp [M.m_fless, M.g_fless, i0, i1, m1, m2, dless]
    · cases h'
  · cases h
end Z

/-! Z12: fractions. -/
namespace Z
open PySem
/-- a fraction's data -/
def pq (q : Rat) : D := .tuple [.int q.num, .int (q.den : Int)]
/-- small: bits of both parts -/
structure Bd (n : Nat) (q : Rat) : Prop where
  num : q.num.natAbs < 2 ^ n
  den : q.den < 2 ^ n
theorem log2_le {x n : Nat} (h : x < 2 ^ n) : x.log2 ≤ n := by
  by_cases h0 : x = 0
  · subst h0; exact Nat.zero_le _
  · exact Nat.le_of_lt ((Nat.log2_lt h0).mpr h)
section
variable {S : Store}
theorem div_i {i j : Int} (h0 : j ≠ 0) (h : j.natAbs.log2 < 9000) : uDiv (.d (.int i)) (.d (.int j)) S = .ok (.d (.int (i.fdiv j))) S := by
  show (if j ≠ 0 ∧ j.natAbs.log2 < 9000 then _ else _) = _
  rw [if_pos ⟨h0, h⟩]
theorem mod_i {i j : Int} (h0 : j ≠ 0) : uMod (.d (.int i)) (.d (.int j)) S = .ok (.d (.int (i.fmod j))) S := by
  show (if j ≠ 0 then _ else _) = _
  rw [if_pos h0]
theorem gcd_i {i j : Int} : uGcd [.d (.int i), .d (.int j)] S = .ok (.d (.int ((Nat.gcd i.natAbs j.natAbs : Nat) : Int))) S := rfl
theorem gcd_pos' {N D : Int} (hD : D ≠ 0) : 0 < Nat.gcd N.natAbs D.natAbs := Nat.gcd_pos_of_pos_right _ (Int.natAbs_pos.mpr hD)
theorem gcd_small {N D : Int} {n : Nat} (hD : D ≠ 0) (hb : D.natAbs < 2 ^ n) : Nat.gcd N.natAbs D.natAbs < 2 ^ n :=
  Nat.lt_of_le_of_lt (Nat.gcd_le_right _ (Int.natAbs_pos.mpr hD)) hb
theorem num_pos {N D : Int} (hD : 0 < D) : N.fdiv ((Nat.gcd N.natAbs D.natAbs : Nat) : Int) = (Rat.divInt N D).num := by
  rw [Rat.num_divInt, Int.sign_eq_one_of_pos hD, Int.one_mul, Int.fdiv_eq_ediv_of_nonneg _ (Int.natCast_nonneg _)]
  rw [show D.gcd N = Nat.gcd N.natAbs D.natAbs from Nat.gcd_comm _ _]
theorem den_pos {N D : Int} (hD : 0 < D) : D.fdiv ((Nat.gcd N.natAbs D.natAbs : Nat) : Int) = ((Rat.divInt N D).den : Int) := by
  rw [Rat.den_divInt, if_neg (by omega), Int.fdiv_eq_ediv_of_nonneg _ (Int.natCast_nonneg _)]
  rw [show D.gcd N = Nat.gcd N.natAbs D.natAbs from Nat.gcd_comm _ _]
  rw [Int.natCast_ediv]
  congr 1
  omega
theorem divInt_neg' {N D : Int} (hD : D ≠ 0) : Rat.divInt N D = Rat.divInt (-N) (-D) :=
  (Rat.divInt_eq_divInt_iff hD (by omega)).mpr (by rw [Int.mul_neg, Int.neg_mul])
theorem s_fr {N D : Int} {n : Nat} (hD : D ≠ 0) (hb : D.natAbs < 2 ^ n) (hn : n < 9000) : M.m_fr [.d (.int N), .d (.int D)] S = .ok (.d (pq (Rat.divInt N D))) S := by
  have hg := gcd_pos' (N := N) hD
  have hs := log2_le (gcd_small (N := N) hD hb)
  by_cases h : D < 0
  · have e1 := num_pos (N := -N) (D := -D) (by omega)
    have e2 := den_pos (N := -N) (D := -D) (by omega)
    rw [← divInt_neg' hD, Int.natAbs_neg, Int.natAbs_neg] at e1 e2
    have f1 : N.fdiv (-((Nat.gcd N.natAbs D.natAbs : Nat) : Int)) = (Rat.divInt N D).num := by rw [← e1, ← Int.neg_fdiv_neg, Int.neg_neg]
    have f2 : D.fdiv (-((Nat.gcd N.natAbs D.natAbs : Nat) : Int)) = ((Rat.divInt N D).den : Int) := by rw [← e2, ← Int.neg_fdiv_neg, Int.neg_neg]
    simp [M.m_fr, M.g_fr, gcd_i, h, pq]
    rw [div_i (by omega) (by rw [Int.natAbs_neg, Int.natAbs_natCast]; omega), f1]
    simp
    rw [div_i (by omega) (by rw [Int.natAbs_neg, Int.natAbs_natCast]; omega), f2]
    simp
  · have e1 := num_pos (N := N) (D := D) (by omega)
    have e2 := den_pos (N := N) (D := D) (by omega)
    simp [M.m_fr, M.g_fr, gcd_i, h, pq]
    rw [div_i (by omega) (by rw [Int.natAbs_natCast]; omega), e1]
    simp
    rw [div_i (by omega) (by rw [Int.natAbs_natCast]; omega), e2]
    simp
theorem ix_p0 {a b : Int} : uIx (.d (.tuple [.int a, .int b])) (.d (.int 0)) S = .ok (.d (.int a)) S := rfl
theorem ix_p1 {a b : Int} : uIx (.d (.tuple [.int a, .int b])) (.d (.int 1)) S = .ok (.d (.int b)) S := rfl
/-- the loop of Euclid -/
def eucT : Vr → Store → R Bool := fTst (f2 uGt (fVar 3) (fC (.d (.int 0))))
def eucB : Vr → Store → O := gPar 2 3 (fCons (fVar 3) (fCons (f2 uMod (fVar 2) (fVar 3)) (fNil)))
theorem euc {A B : U} : ∀ (two one : Nat), gWh eucT eucB [some A, some B, some (.d (.int (one : Int))), some (.d (.int (two : Int)))] S = .nx [some A, some B, some (.d (.int ((Nat.gcd one two : Nat) : Int))), some (.d (.int 0))] S := by
  intro two
  induction two using Nat.strongRecOn with
  | _ two ih =>
    intro one
    by_cases h : two = 0
    · subst h
      rw [gWh_end (S1 := S) (by simp [eucT]), Nat.gcd_zero_right]
      rfl
    · have hlt : one % two < two := Nat.mod_lt _ (Nat.pos_of_ne_zero h)
      have step := ih (one % two) hlt two
      have hb : eucB [some A, some B, some (.d (.int (one : Int))), some (.d (.int (two : Int)))] S = .nx [some A, some B, some (.d (.int (two : Int))), some (.d (.int ((one % two : Nat) : Int)))] S := by
        simp [eucB]
        rw [mod_i (by omega), Int.fmod_eq_emod_of_nonneg _ (by omega)]
        simp
      rw [gWh_go (S1 := S) (by simp [eucT]; omega) hb (by rw [step]; exact fun z => nomatch z), step]
      rw [Nat.gcd_comm two, ← Nat.gcd_rec, Nat.gcd_comm]
theorem s_frac {N D : Int} {n : Nat} (hD : 0 < D) (hb : D.natAbs < 2 ^ n) (hn : n < 9000) : M.m__law_op_frac [.d (.int N), .d (.int D)] S = .ok (.d (pq (Rat.divInt N D))) S := by
  have e1 := num_pos (N := N) hD
  have e2 := den_pos (N := N) hD
  have hg := gcd_pos' (N := N) (D := D) (by omega)
  have hs := log2_le (gcd_small (N := N) (by omega) hb)
  have e0 : uMax [.d (.int N), .d (.int (-N))] S = .ok (.d (.int (N.natAbs : Int))) S := by
    show R.ok (U.d (.int (if -N > N then -N else N))) S = _
    congr 3
    split <;> omega
  obtain ⟨d, rfl⟩ := Int.eq_ofNat_of_zero_le (Int.le_of_lt hD)
  have E := euc (S := S) (A := .d (.int N)) (B := .d (.int (d : Int))) d N.natAbs
  simp [M.m__law_op_frac, M.g__law_op_frac, e0]
  change fin _ ((gWh eucT eucB _ S).seq _) = _
  rw [E]
  rw [Int.natAbs_natCast] at e1 e2 hg hs
  simp
  rw [div_i (by omega) (by rw [Int.natAbs_natCast]; omega), e1]
  simp
  rw [div_i (by omega) (by rw [Int.natAbs_natCast]; omega), e2]
  simp [pq]
/-! ### sums, products -/
theorem Bd.mono {m n : Nat} {q : Rat} (h : Bd m q) (l : m ≤ n) : Bd n q := ⟨Nat.lt_of_lt_of_le h.num (Nat.pow_le_pow_right (by omega) l), Nat.lt_of_lt_of_le h.den (Nat.pow_le_pow_right (by omega) l)⟩
theorem divInt_bd {N D : Int} {n : Nat} (hD : D ≠ 0) (h1 : N.natAbs < 2 ^ n) (h2 : D.natAbs < 2 ^ n) : Bd n (Rat.divInt N D) := by
  refine ⟨?_, ?_⟩
  · rw [Rat.num_divInt]
    refine Nat.lt_of_le_of_lt ?_ h1
    have : (D.sign * N / (D.gcd N : Int)).natAbs ≤ (D.sign * N).natAbs := by
      exact Int.natAbs_ediv_le_natAbs _ _
    refine Nat.le_trans this ?_
    rw [Int.natAbs_mul]
    have : D.sign.natAbs ≤ 1 := by
      rcases Int.lt_trichotomy D 0 with h | h | h
      · rw [Int.sign_eq_neg_one_of_neg h]; decide
      · exact absurd h hD
      · rw [Int.sign_eq_one_of_pos h]; decide
    calc D.sign.natAbs * N.natAbs ≤ 1 * N.natAbs := Nat.mul_le_mul_right _ this
      _ = N.natAbs := Nat.one_mul _
  · rw [Rat.den_divInt, if_neg hD]
    exact Nat.lt_of_le_of_lt (Nat.div_le_self _ _) h2
theorem mul_lt {a b m n : Nat} (h : a < 2 ^ m) (k : b < 2 ^ n) : a * b < 2 ^ (m + n) := by
  rw [Nat.pow_add]
  exact Nat.mul_lt_mul'' h k
theorem mul_ij {i j : Int} {m n : Nat} {S : Store} (h1 : i.natAbs < 2 ^ m) (h2 : j.natAbs < 2 ^ n) (h : m + n < 1000000) : uMul (.d (.int i)) (.d (.int j)) S = .ok (.d (.int (i * j))) S := mul_i (by have := log2_le h1; have := log2_le h2; omega)
section
variable {a b : Rat} {m n : Nat} (ha : Bd m a) (hb : Bd n b)
include ha hb
theorem add_bd : Bd (m + n + 1) (a + b) := by
  have e : a + b = Rat.divInt (a.num * b.den + b.num * a.den) (a.den * b.den) := by
    have := Rat.divInt_add_divInt a.num b.num (d₁ := a.den) (d₂ := b.den) (by have := a.den_pos; omega) (by have := b.den_pos; omega)
    rw [Rat.num_divInt_den, Rat.num_divInt_den] at this
    exact this
  rw [e]
  have h1 := mul_lt ha.num hb.den
  have h2 := mul_lt hb.num ha.den
  have h3 := mul_lt ha.den hb.den
  rw [Nat.add_comm n m] at h2
  have k1 := a.den_pos
  have k2 := b.den_pos
  refine divInt_bd (by exact Int.mul_ne_zero (by omega) (by omega)) ?_ ?_
  · refine Nat.lt_of_le_of_lt (Int.natAbs_add_le _ _) ?_
    rw [Int.natAbs_mul, Int.natAbs_mul, Int.natAbs_natCast, Int.natAbs_natCast, Nat.pow_succ]
    omega
  · rw [Int.natAbs_mul, Int.natAbs_natCast, Int.natAbs_natCast, Nat.pow_succ]
    omega
theorem mul_bd : Bd (m + n) (a * b) := by
  have e : a * b = Rat.divInt (a.num * b.num) (a.den * b.den) := by
    have := Rat.divInt_mul_divInt a.num b.num (d₁ := a.den) (d₂ := b.den)
    rw [Rat.num_divInt_den, Rat.num_divInt_den] at this
    exact this
  rw [e]
  have k1 := a.den_pos
  have k2 := b.den_pos
  refine divInt_bd (by exact Int.mul_ne_zero (by omega) (by omega)) ?_ ?_
  · rw [Int.natAbs_mul]
    exact mul_lt ha.num hb.num
  · rw [Int.natAbs_mul, Int.natAbs_natCast, Int.natAbs_natCast]
    exact mul_lt ha.den hb.den
theorem s_plus (h : m + n < 8000) : M.m__law_op_plus [.d (pq a), .d (pq b)] S = .ok (.d (pq (a + b))) S := by
  have e : a + b = Rat.divInt (a.num * b.den + b.num * a.den) (a.den * b.den) := by
    have := Rat.divInt_add_divInt a.num b.num (d₁ := a.den) (d₂ := b.den) (by have := a.den_pos; omega) (by have := b.den_pos; omega)
    rw [Rat.num_divInt_den, Rat.num_divInt_den] at this
    exact this
  have k1 := a.den_pos
  have k2 := b.den_pos
  have k3 : (0 : Int) < a.den * b.den := Int.mul_pos (by omega) (by omega)
  have h3 : ((a.den : Int) * b.den).natAbs < 2 ^ (m + n) := by
    rw [Int.natAbs_mul, Int.natAbs_natCast, Int.natAbs_natCast]
    exact mul_lt ha.den hb.den
  have f := s_frac (S := S) (N := a.num * b.den + b.num * a.den) k3 h3 (by omega)
  rw [e, ← f]
  have m1 := mul_ij (S := S) (i := a.num) (j := b.den) ha.num hb.den (by omega)
  have m2 := mul_ij (S := S) (i := b.num) (j := a.den) hb.num ha.den (by omega)
  have m3 := mul_ij (S := S) (i := a.den) (j := b.den) ha.den hb.den (by omega)
  simp [M.m__law_op_plus, M.g__law_op_plus, pq, ix_p0, ix_p1, m1, m2, m3, f]
theorem s_times (h : m + n < 8000) : M.m__law_op_times [.d (pq a), .d (.int b.num), .d (.int b.den)] S = .ok (.d (pq (a * b))) S := by
  have e : a * b = Rat.divInt (a.num * b.num) (a.den * b.den) := by
    have := Rat.divInt_mul_divInt a.num b.num (d₁ := a.den) (d₂ := b.den)
    rw [Rat.num_divInt_den, Rat.num_divInt_den] at this
    exact this
  have k1 := a.den_pos
  have k2 := b.den_pos
  have k3 : (0 : Int) < a.den * b.den := Int.mul_pos (by omega) (by omega)
  have h3 : ((a.den : Int) * b.den).natAbs < 2 ^ (m + n) := by
    rw [Int.natAbs_mul, Int.natAbs_natCast, Int.natAbs_natCast]
    exact mul_lt ha.den hb.den
  have f := s_frac (S := S) (N := a.num * b.num) k3 h3 (by omega)
  rw [e, ← f]
  have m1 := mul_ij (S := S) (i := a.num) (j := b.num) ha.num hb.num (by omega)
  have m3 := mul_ij (S := S) (i := a.den) (j := b.den) ha.den hb.den (by omega)
  simp [M.m__law_op_times, M.g__law_op_times, pq, ix_p0, ix_p1, m1, m3, f]
theorem s_fadd (h : m + n < 8000) : M.m_fadd [.d (pq a), .d (pq b)] S = .ok (.d (pq (a + b))) S := by
  have e : a + b = Rat.divInt (a.num * b.den + b.num * a.den) (a.den * b.den) := by
    have := Rat.divInt_add_divInt a.num b.num (d₁ := a.den) (d₂ := b.den) (by have := a.den_pos; omega) (by have := b.den_pos; omega)
    rw [Rat.num_divInt_den, Rat.num_divInt_den] at this
    exact this
  have k1 := a.den_pos
  have k2 := b.den_pos
  have k3 : (0 : Int) < a.den * b.den := Int.mul_pos (by omega) (by omega)
  have h3 : ((a.den : Int) * b.den).natAbs < 2 ^ (m + n) := by
    rw [Int.natAbs_mul, Int.natAbs_natCast, Int.natAbs_natCast]
    exact mul_lt ha.den hb.den
  have f := s_fr (S := S) (N := a.num * b.den + b.num * a.den) (by omega) h3 (by omega)
  rw [e, ← f]
  have m1 := mul_ij (S := S) (i := a.num) (j := b.den) ha.num hb.den (by omega)
  have m2 := mul_ij (S := S) (i := b.num) (j := a.den) hb.num ha.den (by omega)
  have m3 := mul_ij (S := S) (i := a.den) (j := b.den) ha.den hb.den (by omega)
  simp [M.m_fadd, M.g_fadd, pq, ix_p0, ix_p1, m1, m2, m3, f]
theorem s_fmul (h : m + n < 8000) : M.m_fmul [.d (pq a), .d (pq b)] S = .ok (.d (pq (a * b))) S := by
  have e : a * b = Rat.divInt (a.num * b.num) (a.den * b.den) := by
    have := Rat.divInt_mul_divInt a.num b.num (d₁ := a.den) (d₂ := b.den)
    rw [Rat.num_divInt_den, Rat.num_divInt_den] at this
    exact this
  have k1 := a.den_pos
  have k2 := b.den_pos
  have k3 : (0 : Int) < a.den * b.den := Int.mul_pos (by omega) (by omega)
  have h3 : ((a.den : Int) * b.den).natAbs < 2 ^ (m + n) := by
    rw [Int.natAbs_mul, Int.natAbs_natCast, Int.natAbs_natCast]
    exact mul_lt ha.den hb.den
  have f := s_fr (S := S) (N := a.num * b.num) (by omega) h3 (by omega)
  rw [e, ← f]
  have m1 := mul_ij (S := S) (i := a.num) (j := b.num) ha.num hb.num (by omega)
  have m3 := mul_ij (S := S) (i := a.den) (j := b.den) ha.den hb.den (by omega)
  simp [M.m_fmul, M.g_fmul, pq, ix_p0, ix_p1, m1, m3, f]
end
end
end Z

/-! Z13: the jar of drawn numbers. -/
namespace Z
open PySem
section
variable {S S1 S2 : Store} {l n : Nat} {xs : List D} {i : Int} {y : D}
theorem ix_loc (h : S[l]? = some (some xs)) (h2 : L2.atI xs i = some y) : uIx (.loc l) (.d (.int i)) S = .ok (.d y) S := by
  unfold uIx
  simp [viewL, h, h2]
theorem set_loc {j : Nat} (h : S[l]? = some (some xs)) (h2 : L2.ixN xs.length i = some j) : uSetL (.loc l) (.d (.int i)) (.d y) S = some (S.set l (some (xs.set j y))) := by
  unfold uSetL
  simp [h, h2]
theorem get_set (h : S[l]? = some (some xs)) {zs : List D} : (S.set l (some zs))[l]? = some (some zs) := List.getElem?_set_self (List.getElem?_eq_some_iff.mp h).1
theorem take_set {o : Option (List D)} : (S.set l o).take S.length = S.set l o := List.take_of_length_le (by rw [List.length_set]; exact Nat.le_refl _)
/-- the same but at l -/
structure Kp (l : Nat) (S S' : Store) : Prop where
  len : S'.length = S.length
  get : ∀ i, i ≠ l → S'[i]? = S[i]?
theorem Kp.refl : Kp l S S := ⟨rfl, fun _ _ => rfl⟩
theorem Kp.trans (a : Kp l S S1) (b : Kp l S1 S2) : Kp l S S2 := ⟨b.len.trans a.len, fun i h => (b.get i h).trans (a.get i h)⟩
theorem Kp.set {o : Option (List D)} : Kp l S (S.set l o) := ⟨List.length_set .., fun i h => List.getElem?_set_ne (Ne.symm h)⟩
def Jar (S : Store) (l n : Nat) : Prop := ∃ a b c : Int, S[l]? = some (some [.int a, .int b, .int c]) ∧ 0 ≤ a ∧ 0 ≤ b ∧ b < 2147483647 ∧ 0 ≤ c ∧ c ≤ n
theorem Jar.mono {m : Nat} (h : Jar S l n) (k : n ≤ m) : Jar S l m := by
  obtain ⟨a, b, c, h1, h2, h3, h4, h5, h6⟩ := h
  exact ⟨a, b, c, h1, h2, h3, h4, h5, by omega⟩
theorem int_small {i : Int} {k : Nat} (h0 : 0 ≤ i) (h : i < 2 ^ k) : i.natAbs < 2 ^ k := by
  have := Int.natAbs_of_nonneg h0
  have h' : ((i.natAbs : Nat) : Int) < ((2 ^ k : Nat) : Int) := by rw [this]; simpa using h
  exact Int.ofNat_lt.mp h'
theorem s_take {many : Int} (hj : Jar S l n) (hm : 0 < many) (hb : many < 2 ^ 60) (hn : n < 1000000000) :
    ∃ r S', M.m__law_take [.loc l, .d (.int many)] S = .ok (.d (.int r)) S' ∧ 0 ≤ r ∧ r < many ∧ Jar S' l (n + 1) ∧ Kp l S S' := by
  obtain ⟨a, b, c, h1, h2, h3, h4, h5, h6⟩ := hj
  have hml := log2_le (int_small (k := 60) (by omega) hb)
  by_cases ha : 0 < a
  · refine ⟨a.fmod many, S.set l (some [.int (a.fdiv many), .int b, .int c]), ?_, Int.fmod_nonneg_of_pos _ hm, Int.fmod_lt_of_pos _ hm, ⟨a.fdiv many, b, c, get_set h1, Int.fdiv_nonneg (by omega) (by omega), h3, h4, h5, by omega⟩, Kp.set⟩
    simp [M.m__law_take, M.g__law_take, ix_loc h1 (show L2.atI _ 0 = some _ from rfl), ha, mod_i (show many ≠ 0 by omega), div_i (show many ≠ 0 by omega) (by omega), set_loc h1 (show L2.ixN _ 0 = some 0 from rfl), take_set]
  · have e1 : ∀ S : Store, uMul (.d (.int b)) (.d (.int 39373)) S = .ok (.d (.int (b * 39373))) S := fun S => mul_ij (m := 31) (n := 16) (int_small h3 (by omega)) (by decide) (by decide)
    have e2 : ∀ S : Store, uMul (.d (.int 7919)) (.d (.int (c + 1))) S = .ok (.d (.int (7919 * (c + 1)))) S := fun S => mul_ij (m := 13) (n := 40) (by decide) (int_small (by omega) (by omega)) (by decide)
    have hb0 : 0 ≤ (b * 39373 + 7919 * (c + 1) + 7).fmod 2147483647 := Int.fmod_nonneg_of_pos _ (by decide)
    have hb1 : (b * 39373 + 7919 * (c + 1) + 7).fmod 2147483647 < 2147483647 := Int.fmod_lt_of_pos _ (by decide)
    generalize hB : (b * 39373 + 7919 * (c + 1) + 7).fmod 2147483647 = B at hb0 hb1
    have e3 : ∀ S : Store, uMul (.d (.int B)) (.d (.int B)) S = .ok (.d (.int (B * B))) S := fun S => mul_ij (m := 31) (n := 31) (int_small hb0 (by omega)) (int_small hb0 (by omega)) (by decide)
    have g1 := get_set h1 (zs := [.int a, .int b, .int (c + 1)])
    have g2 := get_set h1 (zs := [.int a, .int B, .int (c + 1)])
    refine ⟨(((B * B).fmod 2147483629).fdiv 32).fmod many, S.set l (some [.int a, .int B, .int (c + 1)]), ?_, Int.fmod_nonneg_of_pos _ hm, Int.fmod_lt_of_pos _ hm, ⟨a, B, c + 1, get_set h1, h2, hb0, hb1, by omega, by omega⟩, Kp.set⟩
    simp [M.m__law_take, M.g__law_take, ix_loc h1 (show L2.atI _ 0 = some _ from rfl), ha, ix_loc h1 (show L2.atI _ 2 = some _ from rfl), set_loc h1 (show L2.ixN _ 2 = some 2 from rfl), ix_loc g1 (show L2.atI _ 1 = some _ from rfl), ix_loc g1 (show L2.atI _ 2 = some _ from rfl), e1, e2,
      mod_i (show (2147483647 : Int) ≠ 0 by decide), hB, set_loc g1 (show L2.ixN _ 1 = some 1 from rfl), ix_loc g2 (show L2.atI _ 1 = some _ from rfl), e3, mod_i (show (2147483629 : Int) ≠ 0 by decide), div_i (show (32 : Int) ≠ 0 by decide) (by decide), mod_i (show many ≠ 0 by omega), take_set]
end
/-! ### loops -/
theorem forO_inv {P : Nat → Vr → Store → Prop} {tg : U → Vr → Option Vr} {body : Vr → Store → O} : ∀ (ds : List D) (k : Nat) (ρ : Vr) (S : Store),
    (∀ i d ρ S, ds[i]? = some d → P (k + i) ρ S → ∃ ρ1 ρ2 S2, tg (.d d) ρ = some ρ1 ∧ body ρ1 S = .nx ρ2 S2 ∧ P (k + i + 1) ρ2 S2) → P k ρ S → ∃ ρ' S', forO tg body ds ρ S = .nx ρ' S' ∧ P (k + ds.length) ρ' S'
  | [], k, ρ, S, _, h => ⟨ρ, S, rfl, h⟩
  | d :: ds, k, ρ, S, st, h => by
    obtain ⟨ρ1, ρ2, S2, e1, e2, h2⟩ := st 0 d ρ S rfl h
    obtain ⟨ρ', S', e3, h3⟩ := forO_inv (P := P) (tg := tg) (body := body) ds (k + 1) ρ2 S2 (fun i d' ρ S hd hp => by
      have := st (i + 1) d' ρ S (by simpa using hd) (by rw [show k + (i + 1) = k + 1 + i by omega]; exact hp)
      rw [show k + (i + 1) + 1 = k + 1 + i + 1 by omega] at this
      exact this) h2
    refine ⟨ρ', S', ?_, by rw [List.length_cons, show k + (ds.length + 1) = k + 1 + ds.length by omega]; exact h3⟩
    rw [forO, e1]
    dsimp only
    rw [e2]
    exact e3
theorem atI_nat {xs : List D} {i : Nat} {y : D} (h : xs[i]? = some y) : L2.atI xs (i : Int) = some y := by
  have hi := (List.getElem?_eq_some_iff.mp h).1
  unfold L2.atI L2.ixN
  rw [if_pos (by omega), if_pos (by omega)]
  simpa using h
theorem ix_rd {S : Store} {xs : List D} {i : Nat} {y : D} (h : xs[i]? = some y) : uIx (.rd xs) (.d (.int (i : Int))) S = .ok (.d y) S := by
  unfold uIx
  simp [viewL, atI_nat h]
section
variable {S : Store}
theorem pow_i {i j : Int} (h0 : 0 ≤ j) (h : j ≤ 1000000) (hi : i.natAbs < 2 ^ 64) : uPow (.d (.int i)) (.d (.int j)) S = .ok (.d (.int (i ^ j.toNat))) S := by
  show (if 0 ≤ j ∧ j ≤ 1000000 ∧ i.natAbs < 2 ^ 64 then _ else _) = _
  rw [if_pos ⟨h0, h, hi⟩]
theorem max_i {i j : Int} : uMax [.d (.int i), .d (.int j)] S = .ok (.d (.int (if j > i then j else i))) S := (rfl)
theorem rng1_i {j : Int} (h : -(2 ^ 62) ≤ j) (h' : j < 2 ^ 62) : sRng1 [.d (.int j)] S = .ok (rngD 0 j.toNat) S := by
  unfold sRng1
  exact if_pos ⟨h, h'⟩
theorem pool_step {ns : List Int} {i : Nat} {z dg st : Int} {r1 r2 : Option U} (hx : (ns.map PyData.int)[i]? = some (.int z)) (h1 : 0 ≤ dg) (h2 : 0 ≤ st) (h3 : st < 2147483647) :
    ∃ dg' st' r, M.b1__law_pool [some (.rd (ns.map PyData.int)), some (.d (.int dg)), some (.d (.int st)), some (.d (.int (i : Int))), r2] S = .nx [some (.rd (ns.map PyData.int)), some (.d (.int dg')), some (.d (.int st')), some (.d (.int (i : Int))), r] S ∧ 0 ≤ dg' ∧ 0 ≤ st' ∧ st' < 2147483647 := by
  have p12 : ∀ S : Store, uPow (.d (.int 10)) (.d (.int 12)) S = .ok (.d (.int (10 ^ 12))) S := fun S => pow_i (by decide) (by decide) (by decide)
  have p60 : ∀ S : Store, uPow (.d (.int 10)) (.d (.int 60)) S = .ok (.d (.int (10 ^ 60))) S := fun S => pow_i (by decide) (by decide) (by decide)
  have m1 : ∀ S : Store, uMul (.d (.int st)) (.d (.int 48271)) S = .ok (.d (.int (st * 48271))) S := fun S => mul_ij (m := 31) (n := 16) (int_small h2 (by omega)) (by decide) (by decide)
  generalize hc : (if -1 - z > z then -1 - z else z) = cell
  have hs0 : 0 ≤ (st * 48271 + cell.fmod 2147483629 + 11).fmod 2147483647 := Int.fmod_nonneg_of_pos _ (by decide)
  have hs1 : (st * 48271 + cell.fmod 2147483629 + 11).fmod 2147483647 < 2147483647 := Int.fmod_lt_of_pos _ (by decide)
  by_cases c1 : 10 ^ 12 ≤ cell
  · by_cases c2 : dg < 10 ^ 60
    · have m2 : uMul (.d (.int dg)) (.d (.int (10 ^ 60))) S = .ok (.d (.int (dg * 10 ^ 60))) S := mul_ij (m := 200) (n := 200) (int_small h1 (Int.lt_trans c2 (by decide))) (by decide) (by decide)
      refine ⟨dg * 10 ^ 60 + cell.fmod (10 ^ 60), _, some (.d (.int cell)), ?_, Int.add_nonneg (Int.mul_nonneg h1 (by decide)) (Int.fmod_nonneg_of_pos _ (by decide)), hs0, hs1⟩
      simp only [M.b1__law_pool, gSeq, gSet, fN, fCons, f2, f1, e_var0, e_varS, bind_ok, ix_rd hx, fC, neg_i, sub_i, fNil, max_i, st_ok, int_i, seq_nx, List.set_cons_succ, List.set_cons_zero, fIf, fAndT, fTst, add_i, mod_i (show (2147483629 : Int) ≠ 0 by decide), mod_i (show (2147483647 : Int) ≠ 0 by decide), p12, p60, m1, ge_i, lt_i, tru_b, m2, mod_i (show (10 ^ 60 : Int) ≠ 0 by decide), hc, c1, c2, decide_true, if_true]
    · refine ⟨dg, _, some (.d (.int cell)), ?_, h1, hs0, hs1⟩
      simp only [M.b1__law_pool, gSeq, gSet, fN, fCons, f2, f1, e_var0, e_varS, bind_ok, ix_rd hx, fC, neg_i, sub_i, fNil, max_i, st_ok, int_i, seq_nx, List.set_cons_succ, List.set_cons_zero, fIf, fAndT, fTst, add_i, mod_i (show (2147483629 : Int) ≠ 0 by decide), mod_i (show (2147483647 : Int) ≠ 0 by decide), p12, p60, m1, ge_i, lt_i, tru_b, hc, c1, c2, decide_true, decide_false, if_true, if_false, Bool.false_eq_true]
  · refine ⟨dg, _, some (.d (.int cell)), ?_, h1, hs0, hs1⟩
    simp only [M.b1__law_pool, gSeq, gSet, fN, fCons, f2, f1, e_var0, e_varS, bind_ok, ix_rd hx, fC, neg_i, sub_i, fNil, max_i, st_ok, int_i, seq_nx, List.set_cons_succ, List.set_cons_zero, fIf, fAndT, fTst, add_i, mod_i (show (2147483629 : Int) ≠ 0 by decide), mod_i (show (2147483647 : Int) ≠ 0 by decide), p12, p60, m1, ge_i, lt_i, tru_b, hc, c1, decide_true, decide_false, if_true, if_false, Bool.false_eq_true]
theorem s_pool (ns : List Int) (hl : ns.length ≤ 63) : ∃ S', M.m__law_pool [.rd (ns.map PyData.int)] S = .ok (.loc S.length) S' ∧ Jar S' S.length 0 ∧ S'.length = S.length + 1 ∧ ∀ i, i < S.length → S'[i]? = S[i]? := by
  obtain ⟨ρ', S', e, rfl, dg, st, r1, r2, rfl, h1, h2, h3⟩ := forO_inv (P := fun _ ρ T => T = S ∧ ∃ (dg st : Int) (r1 r2 : Option U), ρ = [some (.rd (ns.map PyData.int)), some (.d (.int dg)), some (.d (.int st)), r1, r2] ∧ 0 ≤ dg ∧ 0 ≤ st ∧ st < 2147483647)
    (tg := aName 3) (body := M.b1__law_pool) (rngD 0 ns.length) 0 [some (.rd (ns.map PyData.int)), some (.d (.int 0)), some (.d (.int 7)), none, none] S (fun i d ρ T hd ⟨hT, dg, st, r1, r2, hρ, h1, h2, h3⟩ => by
      subst hT hρ
      obtain ⟨hi, rfl⟩ := rngD_get _ _ _ _ hd
      have hx : (ns.map PyData.int)[i]? = some (.int ns[i]) := by simp [hi]
      obtain ⟨dg', st', r, e, k1, k2, k3⟩ := pool_step (S := T) (r1 := r1) (r2 := r2) hx h1 h2 h3
      exact ⟨_, _, _, rfl, by rw [Int.zero_add]; exact e, rfl, dg', st', _, _, rfl, k1, k2, k3⟩) ⟨rfl, 0, 7, none, none, rfl, by decide, by decide, by decide⟩
  refine ⟨S' ++ [some [.int dg, .int st, .int 0]], ?_, ⟨dg, st, 0, by simp, h1, h2, h3, by decide, by decide⟩, by simp, fun i hi => by rw [List.getElem?_append_left hi]⟩
  have e0 : sRng1 [.d (.int (ns.length : Int))] S' = .ok (rngD 0 ns.length) S' := by
    rw [rng1_i (by omega) (by omega), Int.toNat_natCast]
  simp [M.m__law_pool, M.g__law_pool, gFor, sN, uLen, viewL, e0, e]
end
end Z

/-! Z14: one thing of a list, comprehensions, what is the same. -/
namespace Z
open PySem
section
variable {S : Store} {l n : Nat} {xs : List D} {i : Nat} {y : D}
theorem ix_lst (h : xs[i]? = some y) : uIx (.d (.list xs)) (.d (.int (i : Int))) S = .ok (.d y) S := by
  unfold uIx
  simp [viewL, atI_nat h]
theorem ix_tup (h : xs[i]? = some y) : uIx (.d (.tuple xs)) (.d (.int (i : Int))) S = .ok (.d y) S := by
  unfold uIx
  simp [atI_nat h]
theorem len_lst : uLen [.d (.list xs)] S = .ok (.d (.int (xs.length : Int))) S := (rfl)
theorem len_tup : uLen [.d (.tuple xs)] S = .ok (.d (.int (xs.length : Int))) S := (rfl)
theorem s_one (hj : Jar S l n) (h0 : xs ≠ []) (hl : xs.length < 2 ^ 60) (hn : n < 1000000000) :
    ∃ (i : Nat) (hi : i < xs.length) (S' : Store), M.m__law_one [.loc l, .d (.list xs)] S = .ok (.d xs[i]) S' ∧ Jar S' l (n + 1) ∧ Kp l S S' := by
  have hp : 0 < xs.length := List.length_pos_iff.mpr h0
  obtain ⟨r, S', e, h1, h2, h3, h4⟩ := s_take (many := (xs.length : Int)) hj (by omega) (by omega) hn
  obtain ⟨k, rfl⟩ := Int.eq_ofNat_of_zero_le h1
  have hk : k < xs.length := by omega
  refine ⟨k, hk, S', ?_, h3, h4⟩
  have ei := ix_lst (S := S') (xs := xs) (i := k) (y := xs[k]) (List.getElem?_eq_getElem hk)
  have et : S'.take S.length = S' := List.take_of_length_le (by rw [h4.len]; exact Nat.le_refl _)
  simp [M.m__law_one, M.g__law_one, len_lst, e, ei, et]
end
/-! ### comprehensions -/
theorem lc_loop {tg : U → Vr → Option Vr} {fe : Vr → Store → R U} {ρ : Vr} {S : Store} {f : D → D} : ∀ (ds acc : List D), acc.length + ds.length ≤ 1000000 →
    (∀ d ∈ ds, ∃ ρ1, tg (.d d) ρ = some ρ1 ∧ ∀ acc, fe ρ1 (S ++ [some acc]) = .ok (.d (f d)) (S ++ [some acc])) → lcLoop S.length tg fYes fe ρ ds (S ++ [some acc]) = .ok () (S ++ [some (acc ++ ds.map f)])
  | [], acc, _, _ => by rw [List.map_nil, List.append_nil]; rfl
  | d :: ds, acc, hl, h => by
    rw [List.length_cons] at hl
    obtain ⟨ρ1, e1, e2⟩ := h d List.mem_cons_self
    have ih := lc_loop (tg := tg) (fe := fe) (ρ := ρ) (S := S) (f := f) ds (acc ++ [f d]) (by rw [List.length_append, List.length_singleton]; omega) fun d' hd => h d' (List.mem_cons_of_mem _ hd)
    have hg : (S ++ [some acc])[S.length]? = some (some acc) := by rw [List.getElem?_append_right (Nat.le_refl _), Nat.sub_self]; rfl
    have hs : (S ++ [some acc]).set S.length (some (acc ++ [f d])) = S ++ [some (acc ++ [f d])] := by
      rw [List.set_append_right _ _ (Nat.le_refl _), Nat.sub_self]; rfl
    have e2' := e2 acc
    unfold lcLoop
    simp only [e1, fYes, R.bnd0, if_true, e2', frz, hg]
    rw [if_pos (by omega), hs, ih, List.map_cons, List.append_assoc]
    rfl
theorem lc_pure {src : Vr → Store → R (List D)} {tg : U → Vr → Option Vr} {fe : Vr → Store → R U} {vs : List Nat} {ρ : Vr} {S S1 : Store} {ds : List D} {f : D → D} (h : src ρ S = .ok ds S1) (hl : ds.length ≤ 1000000)
    (hf : ∀ d ∈ ds, ∃ ρ1, tg (.d d) (wipeU ρ vs) = some ρ1 ∧ ∀ acc, fe ρ1 (S1 ++ [some acc]) = .ok (.d (f d)) (S1 ++ [some acc])) : fLc src tg fYes fe vs ρ S = .ok (.d (.list (ds.map f))) S1 := by
  unfold fLc lcRun
  have e := lc_loop (S := S1) (ρ := wipeU ρ vs) ds [] (by simpa using hl) hf
  have hg : (S1 ++ [some ([] ++ ds.map f)])[S1.length]? = some (some (ds.map f)) := by rw [List.getElem?_append_right (Nat.le_refl _), Nat.sub_self]; rfl
  rw [h]
  simp only [R.bind, e, R.bnd0, hg, List.take_left]
/-! ### the same -/
mutual
def sz : D → Nat
  | .list xs => szs xs + 1
  | .tuple xs => szs xs + 1
  | _ => 1
def szs : List D → Nat
  | [] => 0
  | x :: xs => sz x + szs xs
end
theorem szs_app : ∀ xs ys : List D, szs (xs ++ ys) = szs xs + szs ys
  | [], ys => by simp [szs]
  | x :: xs, ys => by rw [List.cons_append, szs, szs, szs_app xs ys, Nat.add_assoc]
theorem sz_pos (y : D) : 0 < sz y := by cases y <;> simp [sz]
theorem len_szs : ∀ xs : List D, xs.length ≤ szs xs
  | [] => by simp
  | x :: xs => by
    have := len_szs xs
    have := sz_pos x
    rw [List.length_cons, szs]
    omega
/-- plain data, not deep -/
structure Nice (y : D) : Prop where
  lay : y.canLay0 = true
  dep : y.depth ≤ 60
def dup (y : D) : D := .tuple [y, y]
theorem shp (y : D) (h : Nice y) : SeqAt.shaped y = true := by
  unfold SeqAt.shaped
  rw [h.lay, decide_eq_true (by have := h.dep; omega)]
  rfl
theorem lay_all : ∀ xs : List D, (∀ x ∈ xs, x.canLay0 = true) → PyData.canLayAll0 xs = true
  | [], _ => rfl
  | x :: xs, h => by
    rw [PyData.canLayAll0, h x List.mem_cons_self, lay_all xs fun y hy => h y (List.mem_cons_of_mem _ hy)]
    rfl
theorem lay_mem : ∀ xs : List D, PyData.canLayAll0 xs = true → ∀ x ∈ xs, x.canLay0 = true
  | x :: xs, h, y, hy => by
    rw [PyData.canLayAll0, Bool.and_eq_true] at h
    rcases List.mem_cons.mp hy with e | k
    · rw [e]; exact h.1
    · exact lay_mem xs h.2 y k
theorem dep_all : ∀ (xs : List D) (n : Nat), (∀ x ∈ xs, x.depth ≤ n) → PyData.depthAll xs ≤ n
  | [], n, _ => by rw [PyData.depthAll]; exact Nat.zero_le _
  | x :: xs, n, h => by
    rw [PyData.depthAll]
    exact Nat.max_le.mpr ⟨h x List.mem_cons_self, dep_all xs n fun y hy => h y (List.mem_cons_of_mem _ hy)⟩
theorem dep_mem : ∀ (xs : List D), ∀ x ∈ xs, x.depth ≤ PyData.depthAll xs
  | x :: xs, y, hy => by
    rw [PyData.depthAll]
    rcases List.mem_cons.mp hy with e | k
    · rw [e]; exact Nat.le_max_left _ _
    · exact Nat.le_trans (dep_mem xs y k) (Nat.le_max_right _ _)
theorem nice_list {xs : List D} (h : Nice (.list xs)) : ∀ x ∈ xs, Nice x := fun x hx => ⟨lay_mem xs (by have := h.lay; rwa [PyData.canLay0] at this) x hx, by
  have h1 := dep_mem xs x hx
  have h2 := h.dep
  rw [PyData.depth] at h2
  omega⟩
theorem nice_tup {xs : List D} (h : Nice (.tuple xs)) : ∀ x ∈ xs, Nice x := fun x hx => ⟨lay_mem xs (by have := h.lay; rwa [PyData.canLay0] at this) x hx, by
  have h1 := dep_mem xs x hx
  have h2 := h.dep
  rw [PyData.depth] at h2
  omega⟩
theorem shp_todo {ys : List D} (h : ∀ y ∈ ys, Nice y) : SeqAt.shaped (.list (ys.map dup)) = true := by
  have h1 : (PyData.list (ys.map dup)).canLay0 = true := by
    rw [PyData.canLay0]
    refine lay_all _ fun x hx => ?_
    obtain ⟨y, hy, rfl⟩ := List.mem_map.mp hx
    have hl := (h y hy).lay
    simp [dup, PyData.canLay0, PyData.canLayAll0, hl]
  have h2 : (PyData.list (ys.map dup)).depth ≤ 64 := by
    rw [PyData.depth]
    have := dep_all (ys.map dup) 61 fun x hx => by
      obtain ⟨y, hy, rfl⟩ := List.mem_map.mp hx
      have hd := (h y hy).dep
      simp [dup, PyData.depth, PyData.depthAll]
      exact hd
    omega
  unfold SeqAt.shaped
  rw [h1, decide_eq_true h2]
  rfl
end Z

/-! Z15: _law_op_same of equal things. -/
namespace Z
open PySem
section
variable {S : Store} {u w : U} {r3 r4 r5 r6 : Option U} {ys : List D} {y : D}
theorem at_end {o : Option (List D)} : (S ++ [o])[S.length]? = some o := by rw [List.getElem?_append_right (Nat.le_refl _), Nat.sub_self]; rfl
theorem set_end {o o' : Option (List D)} : (S ++ [o]).set S.length o' = S ++ [o'] := by rw [List.set_append_right _ _ (Nat.le_refl _), Nat.sub_self]; rfl
theorem same_t (h : ∀ y ∈ ys, Nice y) : M.t2__law_op_same [some u, some w, some (.loc S.length), r3, r4, r5, r6] (S ++ [some (ys.map dup)]) = .ok (decide (ys ≠ [])) (S ++ [some (ys.map dup)]) := by
  have hs := shp_todo h
  have he : PyData.eqv (.list (ys.map dup)) (.list []) = decide (ys = []) := by
    cases ys with
    | nil => rfl
    | cons a b => rfl
  simp [M.t2__law_op_same, uNe, viewD, at_end, hs, he, show SeqAt.shaped (.list []) = true from rfl]
theorem isi {T : String} (hT : okTy T = true) : uIsi [.d y, .ty T] S = .ok (.d (.bool (isTy T (tyOf y)))) S := by
  show (if okTy T = true then _ else _) = _
  rw [if_pos hT]
theorem eqv_self (h : Nice y) : uEq (.d y) (.d y) S = .ok (.d (.bool true)) S := by
  rw [eq_d (shp y h) (shp y h), PySem.SeqAt.eqv_refl y h.lay]
/-- what is put on the pile for y -/
def kids : D → List D
  | .list xs => xs
  | .tuple xs => xs
  | _ => []
theorem lc_same {T : Store} (y : D) (xs : List D) (hy : y = .list xs ∨ y = .tuple xs) (hk : xs.length ≤ 1000000) :
    fLc (sN sRng1 (fCons (fN uLen (fCons (fVar 4) fNil)) fNil)) (aName 6) fYes M.e1__law_op_same [6] [some u, some w, some (.loc S.length), some (.d y), some (.d y), r5, r6] T = .ok (.d (.list (xs.map dup))) T := by
  have hlen : uLen [.d y] T = .ok (.d (.int (xs.length : Int))) T := by rcases hy with rfl | rfl <;> rfl
  have hsrc : sN sRng1 (fCons (fN uLen (fCons (fVar 4) fNil)) fNil) [some u, some w, some (.loc S.length), some (.d y), some (.d y), r5, r6] T = .ok (rngD 0 xs.length) T := by
    simp only [sN, fCons, fN, e_varS, e_var0, bind_ok, fNil, hlen]
    rw [rng1_i (by omega) (by omega), Int.toNat_natCast]
  have := lc_pure (tg := aName 6) (fe := M.e1__law_op_same) (vs := [6]) (f := fun d => match d with | .int i => dup (xs.getD i.toNat .none) | d => d) hsrc (by rw [rngD_len]; exact hk) fun d hd => by
    obtain ⟨i, hi⟩ := List.mem_iff_getElem?.mp hd
    obtain ⟨h1, rfl⟩ := rngD_get _ _ _ _ hi
    refine ⟨_, rfl, fun acc => ?_⟩
    have hx : xs[i]? = some xs[i] := List.getElem?_eq_getElem h1
    have ei : uIx (.d y) (.d (.int (i : Int))) (T ++ [some acc]) = .ok (.d xs[i]) (T ++ [some acc]) := by
      rcases hy with rfl | rfl
      · exact ix_lst hx
      · exact ix_tup hx
    simp [M.e1__law_op_same, ei, wipeU, dup, hx]
  rw [this]
  congr 3
  refine List.ext_getElem? fun i => ?_
  rw [List.getElem?_map, List.getElem?_map]
  cases hi : (rngD 0 xs.length)[i]? with
  | none =>
    have := List.getElem?_eq_none_iff.mp hi
    rw [rngD_len] at this
    rw [List.getElem?_eq_none this]
    rfl
  | some d =>
    obtain ⟨h1, rfl⟩ := rngD_get _ _ _ _ hi
    simp [h1]
theorem same_b (h : Nice y) (hl : (ys ++ kids y).length ≤ 1000000) (hk : (kids y).length ≤ 1000000) : ∃ r6', M.b3__law_op_same [some u, some w, some (.loc S.length), r3, r4, r5, r6] (S ++ [some ((ys ++ [y]).map dup)]) =
    .nx [some u, some w, some (.loc S.length), some (.d y), some (.d y), some (.d (.bool true)), r6'] (S ++ [some ((ys ++ kids y).map dup)]) := by
  have hp : uPop (.loc S.length) [] (S ++ [some (ys.map dup ++ [dup y])]) = .ok (.d (dup y)) (S ++ [some (ys.map dup)]) := by
    unfold uPop
    simp [at_end, set_end]
  have hl1 : isL (.loc S.length) (S ++ [some (ys.map dup ++ [dup y])]) = true := by simp [isL, viewL, at_end]
  have hl2 : isL (.loc S.length) (S ++ [some (ys.map dup)]) = true := by simp [isL, viewL, at_end]
  have h0 : gAsg (fML uPop (fVar 2) fNil) (aTup 2 (aCons (aName 3) (aCons (aName 4) aNil))) [some u, some w, some (.loc S.length), r3, r4, r5, r6] (S ++ [some (ys.map dup ++ [dup y])]) = .nx [some u, some w, some (.loc S.length), some (.d y), some (.d y), r5, r6] (S ++ [some (ys.map dup)]) := by
    unfold gAsg fML
    simp only [e_varS, e_var0, bind_ok, hl1, if_true, fNil, hp, st_ok]
    rfl
  have ev := eqv_self (S := S ++ [some (ys.map dup)]) h
  refine ⟨r6, ?_⟩
  simp only [List.map_append, List.map_cons, List.map_nil]
  unfold M.b3__law_op_same
  rw [gSeq, h0, seq_nx]
  cases y with
  | none => simp [kids]
  | bool b => simp [kids, isi (show okTy "bool" = true from rfl), isTy, tyOf, ev]
  | int i => simp [kids, isi (show okTy "bool" = true from rfl), isi (show okTy "int" = true from rfl), isTy, tyOf, ev, s_iswhole, isInt]
  | str x => simp [kids, isi (show okTy "bool" = true from rfl), isi (show okTy "int" = true from rfl), isi (show okTy "str" = true from rfl), isTy, tyOf, ev]
  | dict kv => have := h.lay; simp [PyData.canLay0] at this
  | list xs =>
    have hx := lc_same (u := u) (w := w) (S := S) (r5 := some (.d (.bool true))) (r6 := r6) (.list xs) xs (.inl rfl) hk (T := S ++ [some (ys.map dup)])
    have hE : uExt (.loc S.length) [.d (.list (xs.map dup))] (S ++ [some (ys.map dup)]) = .ok (.d .none) (S ++ [some (ys.map dup ++ xs.map dup)]) := by
      unfold uExt
      simp [viewM, at_end, set_end]
      simp [kids] at hl
      omega
    simp [kids, isi (show okTy "bool" = true from rfl), isi (show okTy "int" = true from rfl), isi (show okTy "str" = true from rfl), isi (show okTy "tuple" = true from rfl), isi (show okTy "list" = true from rfl), isTy, tyOf, len_lst, hl2, hx, hE]
  | tuple xs =>
    have hx := lc_same (u := u) (w := w) (S := S) (r5 := some (.d (.bool true))) (r6 := r6) (.tuple xs) xs (.inr rfl) hk (T := S ++ [some (ys.map dup)])
    have hE : uExt (.loc S.length) [.d (.list (xs.map dup))] (S ++ [some (ys.map dup)]) = .ok (.d .none) (S ++ [some (ys.map dup ++ xs.map dup)]) := by
      unfold uExt
      simp [viewM, at_end, set_end]
      simp [kids] at hl
      omega
    simp [kids, isi (show okTy "bool" = true from rfl), isi (show okTy "int" = true from rfl), isi (show okTy "str" = true from rfl), isi (show okTy "tuple" = true from rfl), isi (show okTy "list" = true from rfl), isTy, tyOf, len_tup, hl2, hx, hE]
theorem rev_cases {α : Type} (l : List α) : l = [] ∨ ∃ ys y, l = ys ++ [y] := by
  cases h : l.reverse with
  | nil => exact .inl (List.reverse_eq_nil_iff.mp h)
  | cons y ys => exact .inr ⟨ys.reverse, y, by rw [← List.reverse_reverse l, h, List.reverse_cons]⟩
theorem szs_kids (y : D) : szs (kids y) < sz y := by cases y <;> simp [kids, sz, szs]
theorem nice_kids {y : D} (h : Nice y) : ∀ x ∈ kids y, Nice x := by
  cases y with
  | list xs => exact nice_list h
  | tuple xs => exact nice_tup h
  | _ => intro x hx; cases hx
theorem same_loop : ∀ (k : Nat) (ys : List D) (r3 r4 r5 r6 : Option U), szs ys ≤ k → (∀ y ∈ ys, Nice y) → szs ys ≤ 1000000 →
    ∃ r3' r4' r5' r6', gWh M.t2__law_op_same M.b3__law_op_same [some u, some w, some (.loc S.length), r3, r4, r5, r6] (S ++ [some (ys.map dup)]) = .nx [some u, some w, some (.loc S.length), r3', r4', r5', r6'] (S ++ [some []]) := by
  intro k
  induction k with
  | zero =>
    intro ys r3 r4 r5 r6 h1 h2 h3
    have := len_szs ys
    obtain rfl : ys = [] := List.eq_nil_of_length_eq_zero (by omega)
    exact ⟨r3, r4, r5, r6, gWh_end (same_t h2)⟩
  | succ k ih =>
    intro ys r3 r4 r5 r6 h1 h2 h3
    rcases rev_cases ys with rfl | ⟨zs, y, rfl⟩
    · exact ⟨r3, r4, r5, r6, gWh_end (same_t h2)⟩
    · have hy : Nice y := h2 y (List.mem_append_right _ List.mem_cons_self)
      have hk := szs_kids y
      rw [szs_app] at h1 h3
      have e1 : szs [y] = sz y := by simp [szs]
      rw [e1] at h1 h3
      have l1 := len_szs (zs ++ kids y)
      have l2 := len_szs (kids y)
      rw [szs_app] at l1
      obtain ⟨r6', hb⟩ := same_b (S := S) (u := u) (w := w) (r3 := r3) (r4 := r4) (r5 := r5) (r6 := r6) (ys := zs) hy (by omega) (by omega)
      obtain ⟨a1, a2, a3, a4, he⟩ := ih (zs ++ kids y) (some (.d y)) (some (.d y)) (some (.d (.bool true))) r6' (by rw [szs_app]; omega) (fun x hx => by
        rcases List.mem_append.mp hx with hx | hx
        · exact h2 x (List.mem_append_left _ hx)
        · exact nice_kids hy x hx) (by rw [szs_app]; omega)
      refine ⟨a1, a2, a3, a4, ?_⟩
      have ht := same_t (S := S) (u := u) (w := w) (r3 := r3) (r4 := r4) (r5 := r5) (r6 := r6) h2
      rw [decide_eq_true (by simp)] at ht
      rw [gWh_go ht hb (by rw [he]; exact fun z => nomatch z)]
      exact he
/-- equal things are the same -/
theorem s_same {S1 : Store} (h : frzs [u, w] S = some ([y, y], S1)) (hl : S1.length = S.length) (hy : Nice y) (hz : sz y ≤ 1000000) : M.m__law_op_same [u, w] S = .ok (.d (.bool true)) S1 := by
  obtain ⟨a1, a2, a3, a4, he⟩ := same_loop (S := S1) (u := u) (w := w) (sz y) [y] none none none none (by simp [szs]) (fun x hx => by
    obtain rfl := List.mem_singleton.mp hx
    exact hy) (by simpa [szs] using hz)
  have k1 : mkTup [u, w] S = .ok (.d (dup y)) S1 := by
    unfold mkTup
    rw [h]
    rfl
  have k2 : mkLoc [.d (dup y)] S1 = .ok (.loc S1.length) (S1 ++ [some [dup y]]) := rfl
  have et : (S1 ++ [some ([] : List D)]).take S.length = S1 := by rw [← hl, List.take_left]
  have he' : gWh M.t2__law_op_same M.b3__law_op_same [some u, some w, some (.loc S1.length), none, none, none, none] (S1 ++ [some [dup y]]) = _ := he
  simp [M.m__law_op_same, M.g__law_op_same, -mkTup, -mkLoc, k1, k2, he', et]
end
end Z

/-! Z16: fractions and sizes told by their form. -/
namespace Z
open PySem
section
variable {S : Store}
def isFr : D → Bool
  | .tuple [.int a, .int b] => decide (0 < b) && decide (Nat.gcd a.natAbs b.natAbs = 1)
  | _ => false
theorem ne_i {i j : Int} : uNe (.d (.int i)) (.d (.int j)) S = .ok (.d (.bool (!decide (i = j)))) S := (rfl)
theorem ix0 {x : D} {r : List D} : uIx (.d (.tuple (x :: r))) (.d (.int 0)) S = .ok (.d x) S := ix_tup (i := 0) rfl
theorem ix1 {x y : D} {r : List D} : uIx (.d (.tuple (x :: y :: r))) (.d (.int 1)) S = .ok (.d y) S := ix_tup (i := 1) rfl
theorem isi_d {y : D} {T : String} (hT : okTy T = true) : uIsi [.d y, .ty T] S = .ok (.d (.bool (isTy T (tyOf y)))) S := isi hT
theorem s_isfrac (d : D) : M.m_is_fraction [.d d] S = .ok (.d (.bool (isFr d))) S := by
  have ht := isi_d (S := S) (y := d) (show okTy "tuple" = true from rfl)
  cases d with
  | tuple xs =>
    match xs with
    | [] => simp [M.m_is_fraction, M.g_is_fraction, ht, isTy, tyOf, len_tup, ne_i, isFr]
    | [a] => simp [M.m_is_fraction, M.g_is_fraction, ht, isTy, tyOf, len_tup, ne_i, isFr]
    | [a, b] =>
      cases a <;> cases b <;> simp [M.m_is_fraction, M.g_is_fraction, ht, isTy, tyOf, len_tup, ne_i, isFr, ix0, ix1, s_isnum, isInt, gcd_i]
      split <;> simp_all
      all_goals first | omega | (intro h; omega)
    | a :: b :: c :: r =>
      have : ((r.length : Int) + 1 + 1 + 1 = 2) = False := by simp; omega
      simp [M.m_is_fraction, M.g_is_fraction, ht, isTy, tyOf, len_tup, ne_i, isFr, this]
  | _ => simp [M.m_is_fraction, M.g_is_fraction, ht, isTy, tyOf, isFr]
def isSz : D → Bool
  | .tuple [.int a, .int b] => (decide (0 < b) && decide (Nat.gcd a.natAbs b.natAbs = 1)) && (decide (1 ≤ a) && decide (a ≤ 1000000)) && (decide (1 ≤ b) && decide (b ≤ 1000))
  | _ => false
theorem s_issize (d : D) : M.m_is_size [.d d] S = .ok (.d (.bool (isSz d))) S := by
  have h := s_isfrac (S := S) d
  cases hf : isFr d with
  | false =>
    rw [hf] at h
    have : isSz d = false := by
      unfold isFr at hf
      unfold isSz
      split at hf
      · simp only [hf, Bool.false_and]
      · rfl
    simp [M.m_is_size, M.g_is_size, h, this]
  | true =>
    rw [hf] at h
    unfold isFr at hf
    split at hf
    · rename_i a b
      simp [M.m_is_size, M.g_is_size, h, ix0, ix1, s_whole, isWhole, isSz, hf]
      simp only [Bool.and_eq_true, decide_eq_true_eq] at hf
      split
      · simp_all
      · rename_i h2
        simp_all
        intro h3 h4
        have := h2 h3
        omega
    · cases hf
theorem s_made_size (d : D) (h : isSz d = true) : M.m_made_size [.d d] S = .ok (.d d) S := by
  simp [M.m_made_size, M.g_made_size, s_issize, h]
theorem s_made_size_no (d : D) (h : isSz d = false) : M.m_made_size [.d d] S = .exc "BadSize" d S := by
  simp [M.m_made_size, M.g_made_size, s_issize, h]
theorem pq_sz {q : Rat} (h1 : 1 ≤ q.num) (h2 : q.num ≤ 1000000) (h3 : q.den ≤ 1000) : isSz (pq q) = true := by
  have k1 := q.den_pos
  have k2 := q.reduced
  simp only [pq, isSz, Bool.and_eq_true, decide_eq_true_eq, Int.natAbs_natCast]
  exact ⟨⟨⟨by omega, k2⟩, h1, h2⟩, by omega, by omega⟩
end
end Z

/-! Z17: harmonic sums. -/
namespace Z
open PySem
theorem one_div {b : Int} (h : 0 < b) : PyData.tuple [.int 1, .int b] = pq (Rat.divInt 1 b) := by
  have e1 : (Rat.divInt 1 b).num = 1 := by
    rw [Rat.num_divInt, Int.sign_eq_one_of_pos h]; simp
  have e2 : ((Rat.divInt 1 b).den : Int) = b := by
    rw [Rat.den_divInt, if_neg (by omega)]
    simp
    omega
  rw [pq, e1, e2]
theorem pq_int (n : Int) : PyData.tuple [.int n, .int 1] = pq (n : Rat) := rfl
theorem pq_zero : PyData.tuple ([0, 1].map PyData.int) = pq 0 := rfl
def Hs : Nat → Rat
  | 0 => 0
  | k + 1 => Hs k + Rat.divInt 1 ((k : Int) + 1)
theorem bd_one {b : Int} {n : Nat} (h : 0 < b) (hb : b.natAbs < 2 ^ n) : Bd n (Rat.divInt 1 b) := divInt_bd (by omega) (Nat.lt_of_le_of_lt (by show 1 ≤ b.natAbs; omega) hb) hb
theorem bd_zero : Bd 1 0 := ⟨by decide, by decide⟩
theorem bd_Hs : ∀ k : Nat, k ≤ 200 → Bd (9 * k + 1) (Hs k)
  | 0, _ => bd_zero
  | k + 1, h => by
    have := add_bd (bd_Hs k (by omega)) (bd_one (b := (k : Int) + 1) (n := 8) (by omega) (by omega))
    exact this.mono (by omega)
section
variable {S : Store}
theorem rng2_i {i j : Int} (h1 : -(2 ^ 62) ≤ i) (h2 : i < 2 ^ 62) (h3 : -(2 ^ 62) ≤ j) (h4 : j < 2 ^ 62) : sRng2 [.d (.int i), .d (.int j)] S = .ok (rngD i (j - i).toNat) S := by
  unfold sRng2
  exact if_pos ⟨⟨h1, h2⟩, h3, h4⟩
theorem rng3_i {i j : Int} (h1 : -(2 ^ 62) ≤ i) (h2 : i < 2 ^ 62) (h3 : -(2 ^ 62) ≤ j) (h4 : j < 2 ^ 62) : sRng3 [.d (.int i), .d (.int j), .d (.int (-1))] S = .ok (rngC i (-1) (i - j).toNat) S := by
  unfold sRng3
  exact if_pos ⟨rfl, ⟨h1, h2⟩, h3, h4⟩
theorem s_harm_of {k : Nat} (hk : k ≤ 200) : M.m_harmonic_of [.d (.int (k : Int))] S = .ok (.d (pq (Hs k))) S := by
  obtain ⟨ρ', S', e, rfl, r, hρ⟩ := forO_inv (P := fun i ρ T => T = S ∧ ∃ r, ρ = [some (.d (.int (k : Int))), some (.d (pq (Hs i))), r])
    (tg := aName 2) (body := M.b1_harmonic_of) (rngD 1 k) 0 [some (.d (.int (k : Int))), some (.d (pq 0)), none] S (fun i d ρ T hd ⟨hT, r, hρ⟩ => by
      subst hT hρ
      obtain ⟨hi, rfl⟩ := rngD_get _ _ _ _ hd
      rw [Nat.zero_add]
      have e := s_fadd (S := T) (bd_Hs i (by omega)) (bd_one (b := 1 + (i : Int)) (n := 8) (by omega) (by omega)) (by omega)
      have e3 : Hs (i + 1) = Hs i + Rat.divInt 1 (1 + (i : Int)) := by rw [Hs, Int.add_comm]
      refine ⟨_, [some (.d (.int (k : Int))), some (.d (pq (Hs (i + 1)))), some (.d (.int (1 + (i : Int))))], T, rfl, ?_, rfl, _, rfl⟩
      have e2 := one_div (b := 1 + (i : Int)) (by omega)
      simp [M.b1_harmonic_of, e2, e, e3]) ⟨rfl, none, rfl⟩
  rw [Nat.zero_add, rngD_len] at hρ
  subst hρ
  have e2 : sRng2 [.d (.int 1), .d (.int ((k : Int) + 1))] S' = .ok (rngD 1 k) S' := by
    rw [rng2_i (by decide) (by decide) (by omega) (by omega)]
    congr 2
    omega
  have ez : (PyData.tuple [.int 0, .int 1]) = pq 0 := rfl
  simp [M.m_harmonic_of, M.g_harmonic_of, gFor, sN, e2, ez, -aName]
  rw [e]
  simp
theorem s_harm {d : D} (h : isWhole d 0 200 = true) : ∃ k : Nat, d = .int (k : Int) ∧ k ≤ 200 ∧ M.m_harmonic [.d d] S = .ok (.d (pq (Hs k))) S := by
  cases d with
  | int i =>
    simp only [isWhole, Bool.and_eq_true, decide_eq_true_eq] at h
    obtain ⟨k, rfl⟩ := Int.eq_ofNat_of_zero_le h.1
    refine ⟨k, rfl, by omega, ?_⟩
    have := s_harm_of (S := S) (k := k) (by omega)
    have h2 : isWhole (.int (k : Int)) 0 200 = true := by simp [isWhole]; omega
    simp [M.m_harmonic, M.g_harmonic, s_whole, h2, this]
  | _ => cases h
theorem s_harm_no {d : D} (h : isWhole d 0 200 = false) : M.m_harmonic [.d d] S = .exc "BadMany" d S := by
  simp [M.m_harmonic, M.g_harmonic, s_whole, h]
/-- a size's rate -/
structure Rt (q : Rat) : Prop where
  n1 : 1 ≤ q.num
  n2 : q.num ≤ 1000000
  d : q.den ≤ 1000
theorem Rt.bd {q : Rat} (h : Rt q) : Bd 21 q := ⟨by have := h.n1; have := h.n2; omega, by have := h.d; omega⟩
def Ev (n : Nat) (q : Rat) : Rat := q * (1 + Hs (n - 1))
theorem bd_1 : Bd 1 1 := ⟨by decide, by decide⟩
theorem bd_Ev {n : Nat} {q : Rat} (h : Rt q) (hn : n ≤ 40) : Bd 500 (Ev n q) := (mul_bd h.bd (add_bd bd_1 (bd_Hs (n - 1) (by omega)))).mono (by omega)
theorem s_even_of {n : Nat} {q : Rat} (h : Rt q) (h1 : 1 ≤ n) (hn : n ≤ 40) : M.m_even_of [.d (.int (n : Int)), .d (pq q)] S = .ok (.d (pq (Ev n q))) S := by
  have e1 := s_harm_of (S := S) (k := n - 1) (by omega)
  have e2 := s_fadd (S := S) bd_1 (bd_Hs (n - 1) (by omega)) (by omega)
  have e3 := s_fmul (S := S) h.bd (add_bd bd_1 (bd_Hs (n - 1) (by omega))) (by omega)
  have ec : ((n - 1 : Nat) : Int) = (n : Int) - 1 := by omega
  rw [ec] at e1
  have e4 : (PyData.tuple [.int 1, .int 1]) = pq 1 := rfl
  simp [M.m_even_of, M.g_even_of, e1, e4, e2, e3, Ev]
theorem s_even_size {n : Nat} {q : Rat} (h : Rt q) (h1 : 1 ≤ n) (hn : n ≤ 40) : M.m_even_size [.d (.int (n : Int)), .d (pq q)] S = .ok (.d (pq (Ev n q))) S := by
  have e1 := s_even_of (S := S) h h1 hn
  have e2 : isWhole (.int (n : Int)) 1 40 = true := by simp [isWhole]; omega
  have e3 := s_made_size (S := S) (pq q) (pq_sz h.n1 h.n2 h.d)
  simp [M.m_even_size, M.g_even_size, s_whole, e2, e3, e1]
theorem s_even_size_many {d x : D} (h : isWhole d 1 40 = false) : M.m_even_size [.d d, .d x] S = .exc "BadMany" d S := by
  simp [M.m_even_size, M.g_even_size, s_whole, h]
theorem s_even_size_size {d x : D} (h : isWhole d 1 40 = true) (hx : isSz x = false) : M.m_even_size [.d d, .d x] S = .exc "BadSize" x S := by
  simp [M.m_even_size, M.g_even_size, s_whole, h, s_made_size_no x hx]
theorem bd_int {n k : Nat} (h : n < 2 ^ k) (hk : 0 < k) : Bd k ((n : Int) : Rat) := ⟨by simpa using h, by show 1 < 2 ^ k; exact Nat.one_lt_two_pow (by omega)⟩
theorem s_even_sum {n : Nat} {q : Rat} (h : Rt q) (h1 : 1 ≤ n) (hn : n ≤ 40) : M.m_even_sum [.d (.int (n : Int)), .d (pq q)] S = .ok (.d (pq (((n : Int) : Rat) * Ev n q))) S := by
  have e1 := s_even_size (S := S) h h1 hn
  have e2 := s_fmul (S := S) (bd_int (n := n) (k := 8) (by omega) (by decide)) (bd_Ev h hn) (by omega)
  have e3 := pq_int (n : Int)
  simp [M.m_even_sum, M.g_even_sum, e1, e3, e2]
theorem s_even_sum_many {d x : D} (h : isWhole d 1 40 = false) : M.m_even_sum [.d d, .d x] S = .exc "BadMany" d S := by
  simp [M.m_even_sum, M.g_even_sum, s_even_size_many h]
theorem s_even_sum_size {d x : D} (h : isWhole d 1 40 = true) (hx : isSz x = false) : M.m_even_sum [.d d, .d x] S = .exc "BadSize" x S := by
  simp [M.m_even_sum, M.g_even_sum, s_even_size_size h hx]
end
end Z

/-! Z18: comprehensions with a test; amounts, plus, minus, at_most; the laws' own tests of form. -/
namespace Z
open PySem
theorem lc_loopF {tg : U → Vr → Option Vr} {ft : Vr → Store → R Bool} {fe : Vr → Store → R U} {ρ : Vr} {S : Store} {p : D → Bool} {f : D → D} : ∀ (ds acc : List D), acc.length + ds.length ≤ 1000000 →
    (∀ d ∈ ds, ∃ ρ1, tg (.d d) ρ = some ρ1 ∧ ∀ acc, ft ρ1 (S ++ [some acc]) = .ok (p d) (S ++ [some acc]) ∧ (p d = true → fe ρ1 (S ++ [some acc]) = .ok (.d (f d)) (S ++ [some acc]))) →
    lcLoop S.length tg ft fe ρ ds (S ++ [some acc]) = .ok () (S ++ [some (acc ++ (ds.filter p).map f)])
  | [], acc, _, _ => by rw [List.filter_nil, List.map_nil, List.append_nil]; rfl
  | d :: ds, acc, hl, h => by
    rw [List.length_cons] at hl
    obtain ⟨ρ1, e1, e2⟩ := h d List.mem_cons_self
    have hd := fun d' hd => h d' (List.mem_cons_of_mem _ hd)
    have hg : (S ++ [some acc])[S.length]? = some (some acc) := by rw [List.getElem?_append_right (Nat.le_refl _), Nat.sub_self]; rfl
    have hs : (S ++ [some acc]).set S.length (some (acc ++ [f d])) = S ++ [some (acc ++ [f d])] := by
      rw [List.set_append_right _ _ (Nat.le_refl _), Nat.sub_self]; rfl
    obtain ⟨e3, e4⟩ := e2 acc
    unfold lcLoop
    cases hp : p d with
    | false =>
      rw [hp] at e3
      simp only [e1, e3, R.bnd0, Bool.false_eq_true, if_false]
      rw [lc_loopF (p := p) (f := f) ds acc (by omega) hd, List.filter_cons_of_neg (by rw [hp]; exact Bool.false_ne_true)]
    | true =>
      rw [hp] at e3
      simp only [e1, e3, R.bnd0, if_true, e4 hp, frz, hg]
      rw [if_pos (by omega), hs, lc_loopF (p := p) (f := f) ds (acc ++ [f d]) (by rw [List.length_append, List.length_singleton]; omega) hd, List.filter_cons_of_pos hp, List.map_cons, List.append_assoc]
      rfl
theorem lc_test {src : Vr → Store → R (List D)} {tg : U → Vr → Option Vr} {ft : Vr → Store → R Bool} {fe : Vr → Store → R U} {vs : List Nat} {ρ : Vr} {S S1 : Store} {ds : List D} {p : D → Bool} {f : D → D} (h : src ρ S = .ok ds S1) (hl : ds.length ≤ 1000000)
    (hf : ∀ d ∈ ds, ∃ ρ1, tg (.d d) (wipeU ρ vs) = some ρ1 ∧ ∀ acc, ft ρ1 (S1 ++ [some acc]) = .ok (p d) (S1 ++ [some acc]) ∧ (p d = true → fe ρ1 (S1 ++ [some acc]) = .ok (.d (f d)) (S1 ++ [some acc]))) : fLc src tg ft fe vs ρ S = .ok (.d (.list ((ds.filter p).map f))) S1 := by
  unfold fLc lcRun
  have e := lc_loopF (S := S1) (ρ := wipeU ρ vs) ds [] (by simpa using hl) hf
  have hg : (S1 ++ [some ([] ++ (ds.filter p).map f)])[S1.length]? = some (some ((ds.filter p).map f)) := by rw [List.getElem?_append_right (Nat.le_refl _), Nat.sub_self]; rfl
  rw [h]
  simp only [R.bind, e, R.bnd0, hg, List.take_left]
section
variable {S : Store} {a b : Rat} {m n : Nat}
theorem sub_eq' (a b : Rat) : a - b = Rat.divInt (a.num * b.den - b.num * a.den) (a.den * b.den) := by
  have := Rat.divInt_sub_divInt a.num b.num (d₁ := a.den) (d₂ := b.den) (by have := a.den_pos; omega) (by have := b.den_pos; omega)
  rw [Rat.num_divInt_den, Rat.num_divInt_den] at this
  exact this
theorem sub_bd (ha : Bd m a) (hb : Bd n b) : Bd (m + n + 1) (a - b) := by
  rw [sub_eq']
  have h1 := mul_lt ha.num hb.den
  have h2 := mul_lt hb.num ha.den
  have h3 := mul_lt ha.den hb.den
  rw [Nat.add_comm n m] at h2
  have k1 := a.den_pos
  have k2 := b.den_pos
  refine divInt_bd (by exact Int.mul_ne_zero (by omega) (by omega)) ?_ ?_
  · rw [Int.sub_eq_add_neg]
    refine Nat.lt_of_le_of_lt (Int.natAbs_add_le _ _) ?_
    rw [Int.natAbs_neg, Int.natAbs_mul, Int.natAbs_mul, Int.natAbs_natCast, Int.natAbs_natCast, Nat.pow_succ]
    omega
  · rw [Int.natAbs_mul, Int.natAbs_natCast, Int.natAbs_natCast, Nat.pow_succ]
    omega
theorem s_fsub (ha : Bd m a) (hb : Bd n b) (h : m + n < 8000) : M.m_fsub [.d (pq a), .d (pq b)] S = .ok (.d (pq (a - b))) S := by
  have k1 := a.den_pos
  have k2 := b.den_pos
  have k3 : (0 : Int) < a.den * b.den := Int.mul_pos (by omega) (by omega)
  have h3 : ((a.den : Int) * b.den).natAbs < 2 ^ (m + n) := by
    rw [Int.natAbs_mul, Int.natAbs_natCast, Int.natAbs_natCast]
    exact mul_lt ha.den hb.den
  have f := s_fr (S := S) (N := a.num * b.den - b.num * a.den) (by omega) h3 (by omega)
  rw [sub_eq', ← f]
  have m1 := mul_ij (S := S) (i := a.num) (j := b.den) ha.num hb.den (by omega)
  have m2 := mul_ij (S := S) (i := b.num) (j := a.den) hb.num ha.den (by omega)
  have m3 := mul_ij (S := S) (i := a.den) (j := b.den) ha.den hb.den (by omega)
  simp [M.m_fsub, M.g_fsub, pq, ix_p0, ix_p1, m1, m2, m3, f]
theorem s_fless (ha : Bd m a) (hb : Bd n b) (h : m + n < 8000) : M.m_fless [.d (pq a), .d (pq b)] S = .ok (.d (.bool (decide (a < b)))) S := by
  have m1 := mul_ij (S := S) (i := a.num) (j := b.den) ha.num hb.den (by omega)
  have m2 := mul_ij (S := S) (i := b.num) (j := a.den) hb.num ha.den (by omega)
  simp [M.m_fless, M.g_fless, pq, ix_p0, ix_p1, m1, m2, Rat.lt_iff]
theorem isFr_pq (a : Rat) : isFr (pq a) = true := by
  have k1 := a.den_pos
  have k2 := a.reduced
  simp only [pq, isFr, Bool.and_eq_true, decide_eq_true_eq, Int.natAbs_natCast]
  exact ⟨by omega, k2⟩
theorem s_made_frac {d : D} (h : isFr d = true) : M.m_made_fraction [.d d] S = .ok (.d d) S := by
  simp [M.m_made_fraction, M.g_made_fraction, s_isfrac, h]
theorem s_made_frac_no {d : D} (h : isFr d = false) : M.m_made_fraction [.d d] S = .exc "BadFraction" d S := by
  simp [M.m_made_fraction, M.g_made_fraction, s_isfrac, h]
theorem s_fplus (ha : Bd m a) (hb : Bd n b) (h : m + n < 8000) : M.m_plus [.d (pq a), .d (pq b)] S = .ok (.d (pq (a + b))) S := by
  simp [M.m_plus, M.g_plus, s_made_frac (isFr_pq a), s_made_frac (isFr_pq b), s_fadd ha hb h]
theorem s_minus (ha : Bd m a) (hb : Bd n b) (h : m + n < 8000) : M.m_minus [.d (pq a), .d (pq b)] S = .ok (.d (pq (a - b))) S := by
  simp [M.m_minus, M.g_minus, s_made_frac (isFr_pq a), s_made_frac (isFr_pq b), s_fsub ha hb h]
theorem s_at_most (ha : Bd m a) (hb : Bd n b) (h : m + n < 8000) : M.m_at_most [.d (pq a), .d (pq b)] S = .ok (.d (.bool (decide (a ≤ b)))) S := by
  have e := s_fless (S := S) hb ha (by omega)
  have e2 : (!decide (b < a)) = decide (a ≤ b) := by
    by_cases h : a ≤ b
    · have : ¬ b < a := Rat.not_lt.mpr h
      simp [h, this]
    · have : b < a := Rat.not_le.mp h
      simp [h, this]
  simp [M.m_at_most, M.g_at_most, s_made_frac (isFr_pq a), s_made_frac (isFr_pq b), e, e2]
theorem s_plus_no1 {d e : D} (h : isFr d = false) : M.m_plus [.d d, .d e] S = .exc "BadFraction" d S := by simp [M.m_plus, M.g_plus, s_made_frac_no h]
theorem s_minus_no1 {d e : D} (h : isFr d = false) : M.m_minus [.d d, .d e] S = .exc "BadFraction" d S := by simp [M.m_minus, M.g_minus, s_made_frac_no h]
theorem s_at_most_no1 {d e : D} (h : isFr d = false) : M.m_at_most [.d d, .d e] S = .exc "BadFraction" d S := by simp [M.m_at_most, M.g_at_most, s_made_frac_no h]
theorem s_plus_no2 {d e : D} (h : isFr d = true) (k : isFr e = false) : M.m_plus [.d d, .d e] S = .exc "BadFraction" e S := by simp [M.m_plus, M.g_plus, s_made_frac h, s_made_frac_no k]
theorem s_minus_no2 {d e : D} (h : isFr d = true) (k : isFr e = false) : M.m_minus [.d d, .d e] S = .exc "BadFraction" e S := by simp [M.m_minus, M.g_minus, s_made_frac h, s_made_frac_no k]
theorem s_at_most_no2 {d e : D} (h : isFr d = true) (k : isFr e = false) : M.m_at_most [.d d, .d e] S = .exc "BadFraction" e S := by simp [M.m_at_most, M.g_at_most, s_made_frac h, s_made_frac_no k]
def isAm : D → Bool
  | .tuple [.int a, .int b] => (decide (0 < b) && decide (Nat.gcd a.natAbs b.natAbs = 1)) && (decide (0 ≤ a) && decide (a ≤ 10 ^ 60)) && (decide (1 ≤ b) && decide (b ≤ 10 ^ 60))
  | _ => false
theorem s_isam (d : D) : M.m_is_amount [.d d] S = .ok (.d (.bool (isAm d))) S := by
  have h := s_isfrac (S := S) d
  cases hf : isFr d with
  | false =>
    rw [hf] at h
    have : isAm d = false := by
      unfold isFr at hf
      unfold isAm
      split at hf
      · simp only [hf, Bool.false_and]
      · first
        | rfl
        | (rename_i hn
           split
           · exact absurd rfl (hn _ _)
           · rfl)
    simp [M.m_is_amount, M.g_is_amount, h, this]
  | true =>
    rw [hf] at h
    unfold isFr at hf
    split at hf
    · rename_i a b
      have e : (10 ^ 60 : Int) = 1000000000000000000000000000000000000000000000000000000000000 := by decide
      simp only [isAm, hf, Bool.true_and, e]
      simp [M.m_is_amount, M.g_is_amount, h, ix0, ix1, s_whole, isWhole]
      split
      · simp_all
      · rename_i h2
        simp_all
        intro h3 h4
        have := h2 h3
        omega
    · cases hf
theorem s_made_am {d : D} (h : isAm d = true) : M.m_made_amount [.d d] S = .ok (.d d) S := by
  simp [M.m_made_amount, M.g_made_amount, s_isam, h]
theorem s_made_am_no {d : D} (h : isAm d = false) : M.m_made_amount [.d d] S = .exc "BadAmount" d S := by
  simp [M.m_made_amount, M.g_made_amount, s_isam, h]
/-! ### the laws' own tests of form -/
/-- small numbers within a pair -/
def Sm (d : D) : Prop := ∀ a b : Int, d = .tuple [.int a, .int b] → b.natAbs < 2 ^ 300
theorem eqv_pair {a b c d : Int} : PyData.eqv (.tuple [.int a, .int b]) (.tuple [.int c, .int d]) = (decide (a = c) && decide (b = d)) := by
  simp [PyData.eqv, PyData.eqvAll]
  rfl
theorem nice_pair (a b : Int) : Nice (.tuple [.int a, .int b]) := ⟨by simp [PyData.canLay0, PyData.canLayAll0], by simp [PyData.depth, PyData.depthAll]⟩
theorem low_iff {a b : Int} (hb : 0 < b) : (decide ((Rat.divInt a b).num = a) && decide (((Rat.divInt a b).den : Int) = b)) = decide (Nat.gcd a.natAbs b.natAbs = 1) := by
  have e1 : (Rat.divInt a b).num = a / (b.gcd a : Int) := by rw [Rat.num_divInt, Int.sign_eq_one_of_pos (by omega), Int.one_mul]
  have e2 : (Rat.divInt a b).den = b.natAbs / b.gcd a := by rw [Rat.den_divInt, if_neg (by omega)]
  have eg : b.gcd a = Nat.gcd a.natAbs b.natAbs := Nat.gcd_comm _ _
  rw [e1, e2, eg]
  by_cases h : Nat.gcd a.natAbs b.natAbs = 1
  · simp [h]
    omega
  · have hb' : 0 < b.natAbs := by omega
    have : b.natAbs / Nat.gcd a.natAbs b.natAbs ≠ b.natAbs := by
      intro z
      have hg : 0 < Nat.gcd a.natAbs b.natAbs := Nat.gcd_pos_of_pos_right _ hb'
      have h2 : 1 < Nat.gcd a.natAbs b.natAbs := by omega
      have := Nat.div_lt_self hb' h2
      omega
    have h3 : ¬ ((b.natAbs / Nat.gcd a.natAbs b.natAbs : Nat) : Int) = b := by omega
    rw [decide_eq_false h3, Bool.and_false]
    simp [h]
theorem s_lisfr {d : D} (hn : Nice d) (hs : Sm d) : M.m__law_op_is_fraction [.d d] S = .ok (.d (.bool (isFr d))) S := by
  have ht := isi_d (S := S) (y := d) (show okTy "tuple" = true from rfl)
  cases d with
  | tuple xs =>
    have hlc : fLc (sSeq (fVar 0)) (aName 1) M.t2__law_op_is_fraction M.e1__law_op_is_fraction [1] [some (.d (.tuple xs)), none] S = .ok (.d (.list (xs.filter fun d => !isInt d))) S ∨ 1000000 < xs.length := by
      by_cases hl : xs.length ≤ 1000000
      · left
        have := lc_test (ρ := [some (.d (.tuple xs)), none]) (S := S) (tg := aName 1) (ft := M.t2__law_op_is_fraction) (fe := M.e1__law_op_is_fraction) (vs := [1]) (p := fun d => !isInt d) (f := id) (show sSeq (fVar 0) _ _ = .ok xs S from rfl) hl fun d hd => ⟨_, rfl, fun acc => ⟨by simp [M.t2__law_op_is_fraction, s_iswhole, wipeU], fun _ => by simp [M.e1__law_op_is_fraction, wipeU]⟩⟩
        rwa [List.map_id] at this
      · right; omega
    match xs, hlc with
    | [], _ => simp [M.m__law_op_is_fraction, M.g__law_op_is_fraction, ht, isTy, tyOf, len_tup, ne_i, isFr]
    | [a], _ => simp [M.m__law_op_is_fraction, M.g__law_op_is_fraction, ht, isTy, tyOf, len_tup, ne_i, isFr]
    | [a, b], hlc =>
      have hlc := hlc.resolve_right (by simp)
      have hna := nice_tup hn a (by simp)
      have hnb := nice_tup hn b (by simp)
      have hne : ∀ (L : List D), (∀ x ∈ L, x = a ∨ x = b) → uNe (.d (.list L)) (.d (.list [])) S = .ok (.d (.bool (decide (L ≠ [])))) S := fun L hL => by
        have h1 : SeqAt.shaped (.list L) = true := by
          unfold SeqAt.shaped
          have k1 : (PyData.list L).canLay0 = true := by
            rw [PyData.canLay0]
            refine lay_all _ fun x hx => ?_
            rcases hL x hx with rfl | rfl
            · exact hna.lay
            · exact hnb.lay
          have k2 : (PyData.list L).depth ≤ 64 := by
            rw [PyData.depth]
            have := dep_all L 60 fun x hx => by
              rcases hL x hx with rfl | rfl
              · exact hna.dep
              · exact hnb.dep
            omega
          rw [k1, decide_eq_true k2]
          rfl
        have h2 : PyData.eqv (.list L) (.list []) = decide (L = []) := by cases L <;> rfl
        unfold uNe
        simp [viewD, h1, h2, show SeqAt.shaped (.list []) = true from rfl]
      have hf : ∀ x ∈ [a, b].filter (fun d => !isInt d), x = a ∨ x = b := fun x hx => by
        have := (List.mem_filter.mp hx).1
        simpa using this
      have hN := hne _ hf
      cases ha : isInt a with
      | false =>
        have hz : isFr (.tuple [a, b]) = false := by
          cases a <;> first | (simp [isInt] at ha; done) | rfl
        have hfe : [a, b].filter (fun d => !isInt d) = a :: ([b].filter fun d => !isInt d) := by simp [List.filter_cons, ha]
        rw [hfe] at hlc hN
        generalize ([b].filter fun d => !isInt d) = L at hlc hN
        simp [M.m__law_op_is_fraction, M.g__law_op_is_fraction, ht, isTy, tyOf, len_tup, ne_i, hz, hlc, hN]
      | true =>
        cases hb : isInt b with
        | false =>
          have hz : isFr (.tuple [a, b]) = false := by
            cases b <;> first | (simp [isInt] at hb; done) | (cases a <;> rfl)
          simp only [List.filter_cons, List.filter_nil, ha, hb, Bool.not_false, Bool.not_true, if_true, Bool.false_eq_true, if_false] at hlc hN
          simp [M.m__law_op_is_fraction, M.g__law_op_is_fraction, ht, isTy, tyOf, len_tup, ne_i, hz, hlc, hN]
        | true =>
          simp only [List.filter_cons, List.filter_nil, ha, hb, Bool.not_true, Bool.false_eq_true, if_false] at hlc hN
          obtain ⟨i, rfl⟩ : ∃ i, a = .int i := by cases a <;> simp [isInt] at ha; exact ⟨_, rfl⟩
          obtain ⟨j, rfl⟩ : ∃ j, b = .int j := by cases b <;> simp [isInt] at hb; exact ⟨_, rfl⟩
          by_cases hj : 0 < j
          · have hsj := hs i j rfl
            have ef := s_frac (S := S) (N := i) hj hsj (by decide)
            have ee : uEq (.d (pq (Rat.divInt i j))) (.d (.tuple [.int i, .int j])) S = .ok (.d (.bool (decide (Nat.gcd i.natAbs j.natAbs = 1)))) S := by
              rw [pq, eq_d (shp _ (nice_pair _ _)) (shp _ (nice_pair _ _)), eqv_pair, low_iff hj]
            simp [M.m__law_op_is_fraction, M.g__law_op_is_fraction, ht, isTy, tyOf, len_tup, ne_i, hlc, hN, ix0, ix1, hj, ef, ee, isFr]
          · simp [M.m__law_op_is_fraction, M.g__law_op_is_fraction, ht, isTy, tyOf, len_tup, ne_i, hlc, hN, ix0, ix1, hj, isFr]
    | a :: b :: c :: r, _ =>
      have : ((r.length : Int) + 1 + 1 + 1 = 2) = False := by simp; omega
      simp [M.m__law_op_is_fraction, M.g__law_op_is_fraction, ht, isTy, tyOf, len_tup, ne_i, isFr, this]
  | _ => simp [M.m__law_op_is_fraction, M.g__law_op_is_fraction, ht, isTy, tyOf, isFr]
end
end Z

/-! Z19: steps through a law's body; draws; what is nice. -/
namespace Z
open PySem
section
variable {S : Store}
theorem set_step {i : Nat} {fe : Vr → Store → R U} {b : Vr → Store → O} {ρ : Vr} {S S1 : Store} {u : U} {r : O} (h : fe ρ S = .ok u S1) (k : b (ρ.set i (some u)) S1 = r) : gSeq (gSet i fe) b ρ S = r := by
  unfold gSeq gSet
  rw [h]
  exact k
theorem drop_step {fe : Vr → Store → R U} {b : Vr → Store → O} {ρ : Vr} {S S1 : Store} {u : U} {r : O} (h : fe ρ S = .ok u S1) (k : b ρ S1 = r) : gSeq (gDrop fe) b ρ S = r := by
  unfold gSeq gDrop
  rw [h]
  exact k
theorem asg_step {fe : Vr → Store → R U} {a : U → Vr → Option Vr} {b : Vr → Store → O} {ρ ρ1 : Vr} {S S1 : Store} {u : U} {r : O} (h : fe ρ S = .ok u S1) (h2 : a u ρ = some ρ1) (k : b ρ1 S1 = r) : gSeq (gAsg fe a) b ρ S = r := by
  unfold gSeq gAsg
  rw [h]
  dsimp only [R.st]
  rw [h2]
  exact k
theorem Jar.app {l n : Nat} {o : Option (List D)} (h : Jar S l n) (hl : l < S.length) : Jar (S ++ [o]) l n := by
  obtain ⟨a, b, c, h1, h2⟩ := h
  exact ⟨a, b, c, by rw [List.getElem?_append_left hl]; exact h1, h2⟩
theorem Jar.put {l n t : Nat} {o : Option (List D)} (h : Jar S l n) (hl : t ≠ l) : Jar (S.set t o) l n := by
  obtain ⟨a, b, c, h1, h2⟩ := h
  exact ⟨a, b, c, by rw [List.getElem?_set_ne hl]; exact h1, h2⟩
theorem Jar.lt {l n : Nat} (h : Jar S l n) : l < S.length := by
  obtain ⟨a, b, c, h1, h2⟩ := h
  exact (List.getElem?_eq_some_iff.mp h1).1
theorem app_t {t : Nat} {xs : List D} {x : D} (h : S[t]? = some (some xs)) (hl : xs.length < 1000) : uApp (.loc t) [.d x] S = .ok (.d .none) (S.set t (some (xs ++ [x]))) := by
  unfold uApp
  simp [h]
  omega
theorem isL_t {t : Nat} {xs : List D} (h : S[t]? = some (some xs)) : isL (.loc t) S = true := by simp [isL, viewL, h]
theorem Kp.at {l t : Nat} {S' : Store} {o : Option (List D)} (h : Kp l S S') (ht : t ≠ l) (e : S[t]? = some o) : S'[t]? = some o := by rw [h.get t ht]; exact e
theorem s_draw {l n : Nat} {xs : List D} {p : D → Prop} (hp : ∀ x ∈ xs, p x) (hj : Jar S l n) (h0 : xs ≠ []) (hl : xs.length < 2 ^ 60) (hn : n < 1000000000) :
    ∃ (x : D) (S' : Store), p x ∧ M.m__law_one [.loc l, .d (.list xs)] S = .ok (.d x) S' ∧ Jar S' l (n + 1) ∧ Kp l S S' := by
  obtain ⟨i, hi, S', e, h1, h2⟩ := s_one hj h0 hl hn
  exact ⟨xs[i], S', hp _ (List.getElem_mem hi), e, h1, h2⟩
theorem lay_pq (x : Rat) : (pq x).canLay0 = true := by simp [pq, PyData.canLay0, PyData.canLayAll0]
theorem dep_pq (x : Rat) : (pq x).depth = 1 := by simp [pq, PyData.depth, PyData.depthAll]
theorem sz_pq (x : Rat) : sz (pq x) = 3 := by simp [pq, sz, szs]
theorem lay_told : PyData.strOk "told" = true := by decide +kernel
theorem lay_many : PyData.strOk "BadMany" = true := by decide +kernel
theorem lay_size : PyData.strOk "BadSize" = true := by decide +kernel
theorem ifN_step {t : Vr → Store → R Bool} {a b : Vr → Store → O} {ρ : Vr} {S S1 : Store} {r : O} (h : t ρ S = .ok false S1) (k : b ρ S1 = r) : gSeq (gIf t a gNx) b ρ S = r := by
  unfold gSeq gIf
  rw [h]
  exact k
theorem for_step {src : Vr → Store → R (List D)} {tg : U → Vr → Option Vr} {body b : Vr → Store → O} {ρ ρ1 : Vr} {S S1 S2 : Store} {ds : List D} {r : O} (h : src ρ S = .ok ds S1) (h2 : forO tg body ds ρ S1 = .nx ρ1 S2) (k : b ρ1 S2 = r) : gSeq (gFor src tg body) b ρ S = r := by
  unfold gSeq gFor
  rw [h]
  dsimp only [R.st]
  rw [h2]
  exact k
theorem seq_l {fe : Vr → Store → R U} {ρ : Vr} {xs : List D} {S1 : Store} (h : fe ρ S = .ok (.d (.list xs)) S1) : sSeq fe ρ S = .ok xs S1 := by
  unfold sSeq
  rw [h]
  rfl
theorem try0_rt {gb : Vr → Store → O} {ρ : Vr} {S S1 : Store} {u : U} (h : gb ρ S = .rt u S1) : gTry0 gb ρ S = .rt u S1 := by
  unfold gTry0
  rw [h]
theorem ret_ok {fe : Vr → Store → R U} {ρ : Vr} {S S1 : Store} {u : U} (h : fe ρ S = .ok u S1) : gRet fe ρ S = .rt u S1 := by
  unfold gRet
  rw [h]
  rfl
theorem call1 {m : List U → Store → R U} {fe : Vr → Store → R U} {ρ : Vr} {S S1 S2 : Store} {u v : U} (h : fe ρ S = .ok u S1) (k : m [u] S1 = .ok v S2) : fCall m (fCons fe fNil) ρ S = .ok v S2 := by
  unfold fCall fN fCons fNil
  rw [h]
  exact k
theorem run_rtd {n : Nat} {g : Vr → Store → O} {us : List U} {S S1 : Store} {y : D} (h : g (slots n us) S = .rt (.d y) S1) : runD n g us S = .ok (.d y) (S1.take S.length) := by
  unfold runD
  rw [h]
  rfl
theorem ret_step {fe : Vr → Store → R U} {ρ : Vr} {S S1 : Store} {u : U} {n : Nat} {g : Vr → Store → O} {us : List U} (h : fe ρ S = .ok u S1) : gRet fe ρ S = .rt u S1 := ret_ok h
theorem p10 {i : Int} {j : Nat} (hi : i = 10) (hj : j ≤ 1000) : uPow (.d (.int i)) (.d (.int (j : Int))) S = .ok (.d (.int (10 ^ j))) S := by
  subst hi
  rw [pow_i (by omega) (by omega) (by decide)]
  simp
/-- nice and small -/
structure Fine (k s : Nat) (d : D) : Prop where
  lay : d.canLay0 = true
  dep : d.depth ≤ k
  sz : sz d ≤ s
theorem Fine.mono {k s k' s' : Nat} {d : D} (h : Fine k s d) (h1 : k ≤ k') (h2 : s ≤ s') : Fine k' s' d := ⟨h.lay, Nat.le_trans h.dep h1, Nat.le_trans h.sz h2⟩
theorem Fine.nice {k s : Nat} {d : D} (h : Fine k s d) (hk : k ≤ 60) : Nice d := ⟨h.lay, Nat.le_trans h.dep hk⟩
theorem fine_pq (q : Rat) : Fine 1 3 (pq q) := ⟨lay_pq q, by rw [dep_pq]; exact Nat.le_refl _, by rw [sz_pq]; exact Nat.le_refl _⟩
theorem szs_le : ∀ (xs : List D) (s : Nat), (∀ x ∈ xs, sz x ≤ s) → szs xs ≤ xs.length * s
  | [], s, _ => by simp [szs]
  | x :: xs, s, h => by
    have h1 := h x List.mem_cons_self
    have h2 := szs_le xs s fun y hy => h y (List.mem_cons_of_mem _ hy)
    rw [szs, List.length_cons, Nat.succ_mul]
    omega
theorem fine_list {k s : Nat} {xs : List D} (h : ∀ x ∈ xs, Fine k s x) : Fine (k + 1) (xs.length * s + 1) (.list xs) := ⟨by
  rw [PyData.canLay0]
  exact lay_all xs fun x hx => (h x hx).lay, by
  rw [PyData.depth]
  have := dep_all xs k fun x hx => (h x hx).dep
  omega, by
  rw [sz]
  have := szs_le xs s fun x hx => (h x hx).sz
  omega⟩
theorem fine_tup {k s : Nat} {xs : List D} (h : ∀ x ∈ xs, Fine k s x) : Fine (k + 1) (xs.length * s + 1) (.tuple xs) := ⟨by
  rw [PyData.canLay0]
  exact lay_all xs fun x hx => (h x hx).lay, by
  rw [PyData.depth]
  have := dep_all xs k fun x hx => (h x hx).dep
  omega, by
  rw [sz]
  have := szs_le xs s fun x hx => (h x hx).sz
  omega⟩
/-- a pair of a text and a thing -/
theorem fine_said {k s : Nat} {x : Str} {d : D} (hx : PyData.strOk x = true) (h : Fine k s d) : Fine (k + 1) (s + 2) (.tuple [.str x, d]) := ⟨by
  simp [PyData.canLay0, PyData.canLayAll0, hx, h.lay], by
  simp [PyData.depth, PyData.depthAll]
  exact h.dep, by
  have := h.sz
  simp [Z.sz, szs]
  omega⟩
theorem s_one_loc {l f n : Nat} {xs : List D} (hj : Jar S l n) (hf : S[f]? = some (some xs)) (hne : f ≠ l) (h0 : xs ≠ []) (hl : xs.length < 2 ^ 60) (hn : n < 1000000000) :
    ∃ (i : Nat) (hi : i < xs.length) (S' : Store), M.m__law_one [.loc l, .loc f] S = .ok (.d xs[i]) S' ∧ Jar S' l (n + 1) ∧ Kp l S S' := by
  have hp : 0 < xs.length := List.length_pos_iff.mpr h0
  obtain ⟨r, S', e, h1, h2, h3, h4⟩ := s_take (many := (xs.length : Int)) hj (by omega) (by omega) hn
  obtain ⟨k, rfl⟩ := Int.eq_ofNat_of_zero_le h1
  have hk : k < xs.length := by omega
  refine ⟨k, hk, S', ?_, h3, h4⟩
  have ei := ix_loc (S := S') (l := f) (xs := xs) (i := (k : Int)) (y := xs[k]) (h4.at hne hf) (atI_nat (List.getElem?_eq_getElem hk))
  have el : uLen [.loc f] S = .ok (.d (.int (xs.length : Int))) S := by simp [uLen, viewL, hf]
  have et : S'.take S.length = S' := List.take_of_length_le (by rw [h4.len]; exact Nat.le_refl _)
  simp [M.m__law_one, M.g__law_one, el, e, ei, et]
end
/-! ### the laws' own tests, on -/
section
variable {S : Store}
theorem s_lisam {d : D} (hn : Nice d) (hs : Sm d) : M.m__law_op_is_amount [.d d] S = .ok (.d (.bool (isAm d))) S := by
  have h := s_lisfr (S := S) hn hs
  have hp : ∀ S : Store, uPow (.d (.int 10)) (.d (.int 60)) S = .ok (.d (.int (10 ^ 60))) S := fun S => pow_i (by decide) (by decide) (by decide)
  cases hf : isFr d with
  | false =>
    rw [hf] at h
    have : isAm d = false := by
      unfold isFr at hf
      unfold isAm
      split at hf
      · simp only [hf, Bool.false_and]
      · first
        | rfl
        | (rename_i hn
           split
           · exact absurd rfl (hn _ _)
           · rfl)
    simp [M.m__law_op_is_amount, M.g__law_op_is_amount, h, this]
  | true =>
    rw [hf] at h
    unfold isFr at hf
    split at hf
    · rename_i a b
      have hb : 0 < b := by
        simp only [Bool.and_eq_true, decide_eq_true_eq] at hf
        exact hf.1
      have h1 : (1 ≤ b) = True := by simp; omega
      simp only [isAm, hf, Bool.true_and, h1, decide_true]
      generalize (10 ^ 60 : Int) = z at hp
      simp [M.m__law_op_is_amount, M.g__law_op_is_amount, h, ix0, ix1, hp]
      split
      · split <;> simp_all <;> (intros; omega)
      · simp_all <;> (intros; omega)
    · cases hf
theorem s_lissz {d : D} (hn : Nice d) (hs : Sm d) : M.m__law_op_is_size [.d d] S = .ok (.d (.bool (isSz d))) S := by
  have h := s_lisfr (S := S) hn hs
  have hp : ∀ S : Store, uPow (.d (.int 10)) (.d (.int 6)) S = .ok (.d (.int 1000000)) S := fun S => by
    rw [pow_i (by decide) (by decide) (by decide)]; rfl
  cases hf : isFr d with
  | false =>
    rw [hf] at h
    have : isSz d = false := by
      unfold isFr at hf
      unfold isSz
      split at hf
      · simp only [hf, Bool.false_and]
      · first
        | rfl
        | (rename_i hn
           split
           · exact absurd rfl (hn _ _)
           · rfl)
    simp [M.m__law_op_is_size, M.g__law_op_is_size, h, this]
  | true =>
    rw [hf] at h
    unfold isFr at hf
    split at hf
    · rename_i a b
      have hb : 0 < b := by
        simp only [Bool.and_eq_true, decide_eq_true_eq] at hf
        exact hf.1
      have h1 : (1 ≤ b) = True := by simp; omega
      simp only [isSz, hf, Bool.true_and, h1, decide_true]
      simp [M.m__law_op_is_size, M.g__law_op_is_size, h, ix0, ix1, hp]
      split
      · split <;> simp_all <;> (intros; omega)
      · simp_all <;> (intros; omega)
    · cases hf
end
end Z

/-! Z30: what a mirror comes to, read forwards. -/
namespace Z
open PySem
def wp1 {A : Type} (r : R A) (Q : A → Store → Prop) : Prop := match r with
  | .ok a S => Q a S
  | _ => False
@[irreducible] def wp {A : Type} (r : R A) (Q : A → Store → Prop) : Prop := wp1 r Q
theorem wp_def {A : Type} (r : R A) (Q : A → Store → Prop) : wp r Q = wp1 r Q := by unfold wp; rfl
structure Po where
  nx : Vr → Store → Prop
  rt : U → Store → Prop
  bk : Vr → Store → Prop
  ct : Vr → Store → Prop
def wo1 (o : O) (K : Po) : Prop := match o with
  | .nx ρ S => K.nx ρ S
  | .rt u S => K.rt u S
  | .bk ρ S => K.bk ρ S
  | .ct ρ S => K.ct ρ S
  | _ => False
@[irreducible] def wo (o : O) (K : Po) : Prop := wo1 o K
theorem wo_def (o : O) (K : Po) : wo o K = wo1 o K := by unfold wo; rfl
section
variable {A B : Type} {a : A} {S S1 : Store} {ρ : Vr} {Q Q' : A → Store → Prop} {K : Po} {r : R A} {u : U} {p : Prop} [Decidable p]
@[simp] theorem wp_ok : wp (.ok a S) Q = Q a S := wp_def _ _
@[simp] theorem wp_bind {k : A → Store → R B} {Q : B → Store → Prop} : wp (r.bind k) Q = wp r fun a S => wp (k a S) Q := by simp only [wp_def]; cases r <;> rfl
@[simp] theorem wp_ite {r s : R A} : wp (if p then r else s) Q = if p then wp r Q else wp s Q := by split <;> rfl
@[simp] theorem wo_nx : wo (.nx ρ S) K = K.nx ρ S := wo_def _ _
@[simp] theorem wo_rt : wo (.rt u S) K = K.rt u S := wo_def _ _
@[simp] theorem wo_bk : wo (.bk ρ S) K = K.bk ρ S := wo_def _ _
@[simp] theorem wo_ct : wo (.ct ρ S) K = K.ct ρ S := wo_def _ _
@[simp] theorem wo_st {k : A → Store → O} : wo (r.st ρ k) K = wp r fun a S => wo (k a S) K := by simp only [wp_def, wo_def]; cases r <;> rfl
@[simp] theorem wo_seq {o : O} {k : Vr → Store → O} : wo (o.seq k) K = wo o { K with nx := fun ρ S => wo (k ρ S) K } := by simp only [wo_def]; cases o <;> rfl
@[simp] theorem wo_ite {r s : O} : wo (if p then r else s) K = if p then wo r K else wo s K := by split <;> rfl
@[simp] theorem wp_fin {n : Nat} {o : O} {Q : U → Store → Prop} : wp (fin n o) Q = wo o ⟨fun _ S => Q (.d .none) (S.take n), fun u S => wp (retn n u S) Q, fun _ _ => False, fun _ _ => False⟩ := by simp only [wp_def, wo_def]; cases o <;> rfl
@[simp] theorem retn_d {n : Nat} {y : D} : retn n (.d y) S = .ok (.d y) (S.take n) := (rfl)
theorem wp_mono (h : wp r Q) (k : ∀ a S, Q a S → Q' a S) : wp r Q' := by
  rw [wp_def] at h ⊢
  cases r with
  | ok a S => exact k _ _ h
  | _ => exact h
theorem wp_of (h : r = .ok a S) (k : Q a S) : wp r Q := by rw [h, wp_ok]; exact k
theorem wp_ex (h : wp r Q) : ∃ a S, r = .ok a S ∧ Q a S := by
  rw [wp_def] at h
  cases r with
  | ok a S => exact ⟨a, S, rfl, h⟩
  | _ => exact h.elim
theorem wo_mono {o : O} {K K' : Po} (h : wo o K) (k1 : ∀ ρ S, K.nx ρ S → K'.nx ρ S) (k2 : ∀ u S, K.rt u S → K'.rt u S) (k3 : ∀ ρ S, K.bk ρ S → K'.bk ρ S) (k4 : ∀ ρ S, K.ct ρ S → K'.ct ρ S) : wo o K' := by
  rw [wo_def] at h ⊢
  cases o with
  | nx _ _ => exact k1 _ _ h
  | rt _ _ => exact k2 _ _ h
  | bk _ _ => exact k3 _ _ h
  | ct _ _ => exact k4 _ _ h
  | exc _ _ _ _ => exact h
  | bad => exact h
end
/-! ### loops -/
theorem forO_wo {tg : U → Vr → Option Vr} {body : Vr → Store → O} {K : Po} {I : Nat → Vr → Store → Prop} : ∀ (ds : List D) (k : Nat) (ρ : Vr) (S : Store), I k ρ S →
    (∀ i d ρ S, ds[i]? = some d → I (k + i) ρ S → ∃ ρ1, tg (.d d) ρ = some ρ1 ∧ wo (body ρ1 S) ⟨I (k + i + 1), K.rt, K.nx, I (k + i + 1)⟩) → (∀ ρ S, I (k + ds.length) ρ S → K.nx ρ S) → wo (forO tg body ds ρ S) K
  | [], k, ρ, S, h, _, e => by rw [forO, wo_nx]; exact e ρ S h
  | d :: ds, k, ρ, S, h, st, e => by
    obtain ⟨ρ1, e1, w⟩ := st 0 d ρ S rfl h
    have go : ∀ ρ2 S2, I (k + 0 + 1) ρ2 S2 → wo (forO tg body ds ρ2 S2) K := fun ρ2 S2 h2 => forO_wo (I := I) ds (k + 1) ρ2 S2 h2 (fun i d' ρ S hd hp => by
      have := st (i + 1) d' ρ S (by simpa using hd) (by rw [show k + (i + 1) = k + 1 + i by omega]; exact hp)
      rw [show k + (i + 1) + 1 = k + 1 + i + 1 by omega] at this
      exact this) fun ρ S h => e ρ S (by rw [List.length_cons, show k + (ds.length + 1) = k + 1 + ds.length by omega]; exact h)
    rw [forO, e1]
    dsimp only
    cases hb : body ρ1 S with
    | nx ρ2 S2 => rw [hb, wo_def] at w; exact go ρ2 S2 w
    | ct ρ2 S2 => rw [hb, wo_def] at w; exact go ρ2 S2 w
    | bk ρ2 S2 => rw [hb, wo_def] at w; rw [wo_def]; exact w
    | rt u S2 => rw [hb, wo_def] at w; rw [wo_def]; exact w
    | exc _ _ _ _ => rw [hb, wo_def] at w; exact w.elim
    | bad => rw [hb, wo_def] at w; exact w.elim
/-- a loop told by what is so ahead of each turn -/
theorem wo_for {src : Vr → Store → R (List D)} {tg : U → Vr → Option Vr} {body : Vr → Store → O} {ρ : Vr} {S : Store} {K : Po} (I : List D → Nat → Vr → Store → Prop)
    (h : wp (src ρ S) fun ds S1 => I ds 0 ρ S1 ∧ (∀ i d ρ S, ds[i]? = some d → I ds i ρ S → ∃ ρ1, tg (.d d) ρ = some ρ1 ∧ wo (body ρ1 S) ⟨I ds (i + 1), K.rt, K.nx, I ds (i + 1)⟩) ∧ ∀ ρ S, I ds ds.length ρ S → K.nx ρ S) : wo (gFor src tg body ρ S) K := by
  unfold gFor
  rw [wo_st]
  refine wp_mono h fun ds S1 ⟨h1, h2, h3⟩ => ?_
  exact forO_wo (I := I ds) ds 0 ρ S1 h1 (fun i d ρ S hd hi => by
    have := h2 i d ρ S hd (by rw [Nat.zero_add] at hi; exact hi)
    rw [Nat.zero_add]
    exact this) fun ρ S h => h3 ρ S (by rw [Nat.zero_add] at h; exact h)
/-- a while loop: measure -/
theorem wo_wh {t : Vr → Store → R Bool} {body : Vr → Store → O} {K : Po} (I : Nat → Vr → Store → Prop)
    (st : ∀ n ρ S, I n ρ S → wp (t ρ S) fun b S1 => if b = true then wo (body ρ S1) ⟨fun ρ S => ∃ m, m < n ∧ I m ρ S, K.rt, K.nx, fun ρ S => ∃ m, m < n ∧ I m ρ S⟩ else K.nx ρ S1) : ∀ (n : Nat) (ρ : Vr) (S : Store), I n ρ S → wo (gWh t body ρ S) K := by
  have key : ∀ (n : Nat) (ρ : Vr) (S : Store), I n ρ S → ∃ k, wo (whN t body k ρ S) K := by
    intro n
    induction n using Nat.strongRecOn with
    | _ n ih =>
      intro ρ S h
      obtain ⟨b, S1, e, q⟩ := wp_ex (st n ρ S h)
      cases b with
      | false => exact ⟨1, by rw [whN, e]; simp only [st_ok, Bool.false_eq_true, if_false, wo_nx]; simpa using q⟩
      | true =>
        simp only [if_true] at q
        cases hb : body ρ S1 with
        | nx ρ2 S2 =>
          rw [hb, wo_def] at q
          obtain ⟨m, hm, hi⟩ := q
          obtain ⟨k, hk⟩ := ih m hm ρ2 S2 hi
          refine ⟨k + 1, ?_⟩
          rw [whN, e]
          simp only [st_ok, if_true]
          rw [hb]
          exact hk
        | ct ρ2 S2 =>
          rw [hb, wo_def] at q
          obtain ⟨m, hm, hi⟩ := q
          obtain ⟨k, hk⟩ := ih m hm ρ2 S2 hi
          refine ⟨k + 1, ?_⟩
          rw [whN, e]
          simp only [st_ok, if_true]
          rw [hb]
          exact hk
        | bk ρ2 S2 => rw [hb, wo_def] at q; exact ⟨1, by rw [whN, e]; simp only [st_ok, if_true]; rw [hb, wo_def]; exact q⟩
        | rt u S2 => rw [hb, wo_def] at q; exact ⟨1, by rw [whN, e]; simp only [st_ok, if_true]; rw [hb, wo_def]; exact q⟩
        | exc _ _ _ _ => rw [hb, wo_def] at q; exact q.elim
        | bad => rw [hb, wo_def] at q; exact q.elim
  intro n ρ S h
  obtain ⟨k, hk⟩ := key n ρ S h
  have : whN t body k ρ S ≠ .bad := fun z => by rw [z, wo_def] at hk; exact hk
  rw [gWh_of this]
  exact hk
/-! ### comprehensions -/
theorem lcLoop_wp {m : Nat} {tg : U → Vr → Option Vr} {ft : Vr → Store → R Bool} {fe : Vr → Store → R U} {ρ : Vr} {I : Nat → List D → Store → Prop} : ∀ (ds : List D) (k : Nat) (S : Store) (acc : List D), S[m]? = some (some acc) → acc.length + ds.length ≤ 1000000 → I k acc S →
    (∀ i d acc S, ds[i]? = some d → S[m]? = some (some acc) → I (k + i) acc S → ∃ ρ1, tg (.d d) ρ = some ρ1 ∧ wp (ft ρ1 S) fun b S1 => if b = true then wp (fe ρ1 S1) fun u S2 => ∃ y S3, frz u S2 = some (y, S3) ∧ S3[m]? = some (some acc) ∧ I (k + i + 1) (acc ++ [y]) (S3.set m (some (acc ++ [y]))) else S1[m]? = some (some acc) ∧ I (k + i + 1) acc S1) →
    ∃ S2 acc2, lcLoop m tg ft fe ρ ds S = .ok () S2 ∧ S2[m]? = some (some acc2) ∧ I (k + ds.length) acc2 S2
  | [], k, S, acc, hm, _, h, _ => ⟨S, acc, rfl, hm, h⟩
  | d :: ds, k, S, acc, hm, hl, h, st => by
    obtain ⟨ρ1, e1, w⟩ := st 0 d acc S rfl hm h
    rw [List.length_cons] at hl
    have go : ∀ S2 acc2, S2[m]? = some (some acc2) → acc2.length ≤ acc.length + 1 → I (k + 0 + 1) acc2 S2 → ∃ S3 acc3, lcLoop m tg ft fe ρ ds S2 = .ok () S3 ∧ S3[m]? = some (some acc3) ∧ I (k + (d :: ds).length) acc3 S3 := fun S2 acc2 h1 h2 h3 => by
      have := lcLoop_wp (I := I) (tg := tg) (ft := ft) (fe := fe) (ρ := ρ) ds (k + 1) S2 acc2 h1 (by omega) h3 fun i d' acc S hd hm hp => by
        have := st (i + 1) d' acc S (by simpa using hd) hm (by rw [show k + (i + 1) = k + 1 + i by omega]; exact hp)
        rw [show k + (i + 1) + 1 = k + 1 + i + 1 by omega] at this
        exact this
      rw [List.length_cons, show k + (ds.length + 1) = k + 1 + ds.length by omega]
      exact this
    obtain ⟨b, S1, e2, q⟩ := wp_ex w
    rw [lcLoop, e1]
    dsimp only
    rw [e2]
    simp only [R.bnd0]
    cases b with
    | false =>
      simp only [Bool.false_eq_true, if_false] at q ⊢
      exact go S1 acc q.1 (by omega) q.2
    | true =>
      simp only [if_true] at q ⊢
      obtain ⟨u, S2, e3, y, S3, e4, h4, h5⟩ := wp_ex q
      rw [e3]
      simp only [R.bnd0, e4, h4]
      rw [if_pos (by omega)]
      exact go _ _ (List.getElem?_set_self (List.getElem?_eq_some_iff.mp h4).1) (by simp) h5
theorem wp_lcRun {src : Vr → Store → R (List D)} {tg : U → Vr → Option Vr} {ft : Vr → Store → R Bool} {fe : Vr → Store → R U} {vs : List Nat} {ρ : Vr} {S : Store} {kk : List D → Store → Store → R U} {Q : U → Store → Prop} (I : List D → Store → Nat → List D → Store → Prop)
    (h : wp (src ρ S) fun ds S1 => ds.length ≤ 1000000 ∧ I ds S1 0 [] (S1 ++ [some []]) ∧
      (∀ i d acc S, ds[i]? = some d → S[S1.length]? = some (some acc) → I ds S1 i acc S → ∃ ρ1, tg (.d d) (wipeU ρ vs) = some ρ1 ∧ wp (ft ρ1 S) fun b S2 => if b = true then wp (fe ρ1 S2) fun u S3 => ∃ y S4, frz u S3 = some (y, S4) ∧ S4[S1.length]? = some (some acc) ∧ I ds S1 (i + 1) (acc ++ [y]) (S4.set S1.length (some (acc ++ [y]))) else S2[S1.length]? = some (some acc) ∧ I ds S1 (i + 1) acc S2) ∧
      ∀ acc S2, S2[S1.length]? = some (some acc) → I ds S1 ds.length acc S2 → wp (kk acc S1 S2) Q) : wp (lcRun src tg ft fe vs kk ρ S) Q := by
  unfold lcRun
  rw [wp_bind]
  refine wp_mono h fun ds S1 ⟨h1, h2, h3, h4⟩ => ?_
  obtain ⟨S2, acc2, e, g, i⟩ := lcLoop_wp (I := I ds S1) (tg := tg) (ft := ft) (fe := fe) (ρ := wipeU ρ vs) ds 0 (S1 ++ [some []]) [] at_end (by simpa using h1) h2 fun i d acc S hd hm hi => by
    rw [Nat.zero_add] at hi ⊢
    exact h3 i d acc S hd hm hi
  rw [e]
  simp only [R.bnd0, g]
  rw [Nat.zero_add] at i
  exact h4 acc2 S2 g i
/-! ### walks over a list that stays -/
theorem forK_wo {l : Nat} {all : List D} {tg : U → Vr → Option Vr} {body : Vr → Store → O} {K : Po} {I : Nat → Vr → Store → Prop} : ∀ (ds : List D) (k : Nat) (ρ : Vr) (S : Store), I k ρ S → (∀ i ρ S, I i ρ S → S[l]? = some (some all)) →
    (∀ i d ρ S, ds[i]? = some d → I (k + i) ρ S → ∃ ρ1, tg (.d d) ρ = some ρ1 ∧ wo (body ρ1 S) ⟨I (k + i + 1), K.rt, K.nx, I (k + i + 1)⟩) → (∀ ρ S, I (k + ds.length) ρ S → K.nx ρ S) → wo (forK l all tg body ds ρ S) K
  | [], k, ρ, S, h, hc, _, e => by
    unfold forK
    rw [if_pos (hc _ _ _ h), wo_nx]
    exact e ρ S h
  | d :: ds, k, ρ, S, h, hc, st, e => by
    obtain ⟨ρ1, e1, w⟩ := st 0 d ρ S rfl h
    have go : ∀ ρ2 S2, I (k + 0 + 1) ρ2 S2 → wo (forK l all tg body ds ρ2 S2) K := fun ρ2 S2 h2 => forK_wo (I := I) ds (k + 1) ρ2 S2 h2 hc (fun i d' ρ S hd hp => by
      have := st (i + 1) d' ρ S (by simpa using hd) (by rw [show k + (i + 1) = k + 1 + i by omega]; exact hp)
      rw [show k + (i + 1) + 1 = k + 1 + i + 1 by omega] at this
      exact this) fun ρ S h => e ρ S (by rw [List.length_cons, show k + (ds.length + 1) = k + 1 + ds.length by omega]; exact h)
    unfold forK
    rw [if_pos (hc _ _ _ h), e1]
    dsimp only
    cases hb : body ρ1 S with
    | nx ρ2 S2 => rw [hb, wo_def] at w; exact go ρ2 S2 w
    | ct ρ2 S2 => rw [hb, wo_def] at w; exact go ρ2 S2 w
    | bk ρ2 S2 => rw [hb, wo_def] at w; rw [wo_def]; exact w
    | rt u S2 => rw [hb, wo_def] at w; rw [wo_def]; exact w
    | exc _ _ _ _ => rw [hb, wo_def] at w; exact w.elim
    | bad => rw [hb, wo_def] at w; exact w.elim
theorem wo_forK {fe : Vr → Store → R U} {tg : U → Vr → Option Vr} {body : Vr → Store → O} {ρ : Vr} {S S1 : Store} {K : Po} {l : Nat} {ds : List D} (I : Nat → Vr → Store → Prop) (h : fe ρ S = .ok (.loc l) S1) (h1 : S1[l]? = some (some ds)) (h2 : I 0 ρ S1) (hc : ∀ i ρ S, I i ρ S → S[l]? = some (some ds))
    (st : ∀ i d ρ S, ds[i]? = some d → I i ρ S → ∃ ρ1, tg (.d d) ρ = some ρ1 ∧ wo (body ρ1 S) ⟨I (i + 1), K.rt, K.nx, I (i + 1)⟩) (e : ∀ ρ S, I ds.length ρ S → K.nx ρ S) : wo (gForK fe tg body ρ S) K := by
  unfold gForK
  rw [h]
  simp only [st_ok, h1]
  exact forK_wo (I := I) ds 0 ρ S1 h2 hc (fun i d ρ S hd hi => by
    have := st i d ρ S hd (by rw [Nat.zero_add] at hi; exact hi)
    rw [Nat.zero_add]
    exact this) fun ρ S h => e ρ S (by rw [Nat.zero_add] at h; exact h)
/-! ### steps -/
abbrev PoD (n : Nat) (Q : U → Store → Prop) : Po := ⟨fun _ S => Q (.d .none) (S.take n), fun u S => wp (retn n u S) Q, fun _ _ => False, fun _ _ => False⟩
section
variable {ρ ρ1 : Vr} {S S1 : Store} {u : U} {K : Po} {fe : Vr → Store → R U} {a b : Vr → Store → O} {t : Vr → Store → R Bool} {i : Nat}
theorem w_run {n : Nat} {g : Vr → Store → O} {us : List U} {Q : U → Store → Prop} (h : wo (g (slots n us) S) (PoD S.length Q)) : wp (runD n g us S) Q := by
  unfold runD
  rw [wp_fin]
  exact h
theorem w_set (h : fe ρ S = .ok u S1) (k : wo (b (ρ.set i (some u)) S1) K) : wo (gSeq (gSet i fe) b ρ S) K := by
  simp only [gSeq, gSet, h, st_ok, seq_nx]
  exact k
theorem w_setW (h : wp (fe ρ S) fun u S1 => wo (b (ρ.set i (some u)) S1) K) : wo (gSeq (gSet i fe) b ρ S) K := by
  obtain ⟨u, S1, e, k⟩ := wp_ex h
  exact w_set e k
theorem w_drop (h : fe ρ S = .ok u S1) (k : wo (b ρ S1) K) : wo (gSeq (gDrop fe) b ρ S) K := by
  simp only [gSeq, gDrop, h, st_ok, seq_nx]
  exact k
theorem w_asg {tg : U → Vr → Option Vr} (h : fe ρ S = .ok u S1) (h2 : tg u ρ = some ρ1) (k : wo (b ρ1 S1) K) : wo (gSeq (gAsg fe tg) b ρ S) K := by
  simp only [gSeq, gAsg, h, st_ok, h2, seq_nx]
  exact k
theorem w_ifN (h : t ρ S = .ok false S1) (k : wo (b ρ S1) K) : wo (gSeq (gIf t a gNx) b ρ S) K := by
  simp only [gSeq, gIf, h, st_ok, Bool.false_eq_true, if_false, gNx, seq_nx]
  exact k
theorem w_if (h : wp (t ρ S) fun c S1 => if c = true then wo (a ρ S1) { K with nx := fun ρ S => wo (b ρ S) K } else wo (b ρ S1) K) : wo (gSeq (gIf t a gNx) b ρ S) K := by
  obtain ⟨c, S1, e, k⟩ := wp_ex h
  simp only [gSeq, gIf, e, st_ok, wo_seq]
  cases c with
  | true => simpa using k
  | false => simpa using k
theorem w_for {src : Vr → Store → R (List D)} {tg : U → Vr → Option Vr} {body : Vr → Store → O} (h : wo (gFor src tg body ρ S) { K with nx := fun ρ S => wo (b ρ S) K }) : wo (gSeq (gFor src tg body) b ρ S) K := by
  rw [gSeq, wo_seq]
  exact h
theorem w_ret (h : wp (fe ρ S) fun u S1 => K.rt u S1) : wo (gRet fe ρ S) K := by
  rw [gRet, wo_st]
  exact wp_mono h fun u S1 k => by rw [wo_rt]; exact k
theorem w_seq (h : wo (a ρ S) { K with nx := fun ρ S => wo (b ρ S) K }) : wo (gSeq a b ρ S) K := by
  rw [gSeq, wo_seq]
  exact h
theorem w_e {A : Type} {r : R A} {x : A} {Q : A → Store → Prop} (h : r = .ok x S) (k : Q x S) : wp r Q := wp_of h k
theorem call2 {m : List U → Store → R U} {ge : Vr → Store → R U} {S2 S3 : Store} {v w : U} (h : fe ρ S = .ok u S1) (h2 : ge ρ S1 = .ok v S2) (k : m [u, v] S2 = .ok w S3) : fCall m (fCons fe (fCons ge fNil)) ρ S = .ok w S3 := by
  simp only [fCall, fN, fCons, fNil, h, h2, bind_ok]
  exact k
end
end Z

/-! Z31: classes of sizes, how many lot kinds. -/
namespace Z
open PySem
/-! ### sizes as numbers -/
theorem eqv_pq (a b : Rat) : PyData.eqv (pq a) (pq b) = decide (a = b) := by
  rw [pq, pq, eqv_pair]
  by_cases h : a = b
  · subst h; simp
  · rw [decide_eq_false h]
    by_cases h1 : a.num = b.num
    · have h2 : ¬ ((a.den : Int) = b.den) := fun z => h (Rat.ext h1 (by exact_mod_cast z))
      rw [decide_eq_false h2, Bool.and_false]
    · rw [decide_eq_false h1, Bool.false_and]
theorem dless_pq (a b : Rat) : dless (pq a) (pq b) = decide (a < b) := by
  show decide (a.num * b.den < b.num * a.den) = _
  exact decide_eq_decide.mpr (Rat.lt_iff a b).symm
theorem isSz_rt {d : D} (h : isSz d = true) : ∃ q, d = pq q ∧ Rt q := by
  unfold isSz at h
  split at h
  · rename_i a b
    simp only [Bool.and_eq_true, decide_eq_true_eq] at h
    obtain ⟨⟨⟨h1, h2⟩, h3, h4⟩, h5, h6⟩ := h
    obtain ⟨n, rfl⟩ := Int.eq_ofNat_of_zero_le (Int.le_of_lt h1)
    refine ⟨⟨a, n, by omega, by simpa [Nat.Coprime] using h2⟩, rfl, h3, h4, ?_⟩
    show n ≤ 1000
    omega
  · cases h
theorem isSz_all {ds : List D} (h : ds.all isSz = true) : ∃ qs : List Rat, ds = qs.map pq ∧ ∀ q ∈ qs, Rt q := by
  induction ds with
  | nil => exact ⟨[], rfl, fun q hq => by cases hq⟩
  | cons d ds ih =>
    rw [List.all_cons, Bool.and_eq_true] at h
    obtain ⟨q, rfl, hq⟩ := isSz_rt h.1
    obtain ⟨qs, rfl, hqs⟩ := ih h.2
    exact ⟨q :: qs, rfl, fun r hr => (List.mem_cons.mp hr).elim (fun e => e ▸ hq) (hqs r)⟩
theorem Rt.sz {q : Rat} (h : Rt q) : isSz (pq q) = true := pq_sz h.n1 h.n2 h.d
theorem Rt.ok {q : Rat} (h : Rt q) : okSize (pq q) = true := by
  show decide (q.num.natAbs.log2 < 400000 ∧ (q.den : Int).natAbs.log2 < 400000) = true
  rw [decide_eq_true_eq]
  have h1 := log2_le h.bd.num
  have h2 := log2_le h.bd.den
  rw [Int.natAbs_natCast]
  omega
theorem pq_inj {a b : Rat} (h : pq a = pq b) : a = b := by
  have := eqv_pq a b
  rw [h, eqv_pq] at this
  simpa using this.symm
/-! ### the rows -/
abbrev QRow := Rat × List Int
def qPut (d : Rat) (v : Int) : List QRow → List QRow
  | [] => []
  | r :: rs => if r.1 = d then (r.1, r.2 ++ [v]) :: rs else r :: qPut d v rs
def qStep (rows : List QRow) (v : Int) (d : Rat) : List QRow :=
  if rows.any (fun r => decide (r.1 = d)) = true then qPut d v rows
  else rows.take (rows.filter fun r => decide (r.1 < d)).length ++ [(d, [v])] ++ rows.drop (rows.filter fun r => decide (r.1 < d)).length
def qFrom (rows : List QRow) : Nat → List Rat → List QRow
  | _, [] => rows
  | i, d :: ds => qFrom (qStep rows (i : Int) d) (i + 1) ds
def qRows (qs : List Rat) : List QRow := qFrom [] 0 qs
def rowD (r : QRow) : PRow := (pq r.1, r.2)
theorem crPut_q (d : Rat) (v : Int) : ∀ rows : List QRow, crPut (pq d) v (rows.map rowD) = (qPut d v rows).map rowD
  | [] => rfl
  | r :: rs => by
    show (if PyData.eqv (pq r.1) (pq d) = true then _ else _) = ((if r.1 = d then _ else _ : List QRow)).map rowD
    rw [eqv_pq]
    by_cases h : r.1 = d
    · rw [if_pos h, if_pos (by simpa using h)]; rfl
    · rw [if_neg h, if_neg (by simpa using h), crPut_q d v rs]; rfl
theorem crStep_q (rows : List QRow) (v : Int) (d : Rat) : crStep (rows.map rowD) v (pq d) = (qStep rows v d).map rowD := by
  have h1 : (rows.map rowD).any (fun r => PyData.eqv r.1 (pq d)) = rows.any fun r => decide (r.1 = d) := by
    rw [List.any_map]
    congr 1
    funext r
    exact eqv_pq r.1 d
  have h2 : ((rows.map rowD).filter fun r => dless r.1 (pq d)).length = (rows.filter fun r => decide (r.1 < d)).length := by
    rw [List.filter_map, List.length_map]
    congr 2
    funext r
    exact dless_pq r.1 d
  unfold crStep qStep
  rw [h1, h2]
  split
  · exact crPut_q d v rows
  · rw [List.map_append, List.map_append, List.map_take, List.map_drop]; rfl
theorem crFrom_q : ∀ (qs : List Rat) (rows : List QRow) (i : Nat), crFrom (rows.map rowD) i (qs.map pq) = (qFrom rows i qs).map rowD
  | [], _, _ => rfl
  | q :: qs, rows, i => by
    rw [List.map_cons, crFrom, crStep_q, crFrom_q qs, qFrom]
theorem crRows_q (qs : List Rat) : crRows (qs.map pq) = (qRows qs).map rowD := crFrom_q qs [] 0
/-- the places of q in qs -/
def places (q : Rat) : Nat → List Rat → List Int
  | _, [] => []
  | i, x :: xs => if x = q then (i : Int) :: places q (i + 1) xs else places q (i + 1) xs
theorem places_app (q : Rat) : ∀ (xs ys : List Rat) (i : Nat), places q i (xs ++ ys) = places q i xs ++ places q (i + xs.length) ys
  | [], ys, i => rfl
  | x :: xs, ys, i => by
    rw [List.cons_append, places, places, places_app q xs ys, List.length_cons, show i + (xs.length + 1) = i + 1 + xs.length by omega]
    split <;> rfl
structure RowsOk (rows : List QRow) (xs : List Rat) : Prop where
  asc : rows.Pairwise fun a b => a.1 < b.1
  mem : ∀ q, q ∈ rows.map (·.1) ↔ q ∈ xs
  pl : ∀ r ∈ rows, r.2 = places r.1 0 xs
theorem places_none {q : Rat} : ∀ {xs : List Rat} {i : Nat}, q ∉ xs → places q i xs = []
  | [], _, _ => rfl
  | x :: xs, i, h => by
    rw [places, if_neg (fun z : x = q => h (by rw [z]; exact List.mem_cons_self)), places_none fun z => h (List.mem_cons_of_mem _ z)]
theorem qPut_keys (d : Rat) (v : Int) : ∀ rows : List QRow, (qPut d v rows).map (·.1) = rows.map (·.1)
  | [] => rfl
  | r :: rs => by
    rw [qPut]
    split
    · rfl
    · rw [List.map_cons, List.map_cons, qPut_keys d v rs]
theorem qPut_mem {d : Rat} {v : Int} : ∀ {rows : List QRow}, rows.Pairwise (fun a b => a.1 < b.1) → ∀ r ∈ qPut d v rows, (∃ r0 ∈ rows, r0.1 = d ∧ r = (d, r0.2 ++ [v])) ∨ (r ∈ rows ∧ r.1 ≠ d)
  | [], _, r, h => by cases h
  | x :: rs, pw, r, h => by
    rw [List.pairwise_cons] at pw
    rw [qPut] at h
    split at h
    · rename_i e
      rcases List.mem_cons.mp h with h | h
      · exact .inl ⟨x, List.mem_cons_self, e, by rw [h, e]⟩
      · refine .inr ⟨List.mem_cons_of_mem _ h, fun z => ?_⟩
        have := pw.1 r h
        rw [z, e] at this
        exact Rat.lt_irrefl this
    · rename_i e
      rcases List.mem_cons.mp h with h | h
      · exact .inr ⟨by rw [h]; exact List.mem_cons_self, by rw [h]; exact e⟩
      · rcases qPut_mem pw.2 r h with ⟨r0, h1, h2⟩ | ⟨h1, h2⟩
        · exact .inl ⟨r0, List.mem_cons_of_mem _ h1, h2⟩
        · exact .inr ⟨List.mem_cons_of_mem _ h1, h2⟩
theorem filter_take {d : Rat} : ∀ {rows : List QRow}, rows.Pairwise (fun a b => a.1 < b.1) → rows.take (rows.filter fun r => decide (r.1 < d)).length = rows.filter (fun r => decide (r.1 < d)) ∧ ∀ r ∈ rows.drop (rows.filter fun r => decide (r.1 < d)).length, ¬ r.1 < d
  | [], _ => ⟨rfl, fun r h => by cases h⟩
  | x :: rs, pw => by
    rw [List.pairwise_cons] at pw
    obtain ⟨i1, i2⟩ := filter_take (d := d) pw.2
    by_cases h : x.1 < d
    · rw [List.filter_cons_of_pos (by simpa using h), List.length_cons, List.take_succ_cons, List.drop_succ_cons, i1]
      exact ⟨rfl, i2⟩
    · have none : rs.filter (fun r => decide (r.1 < d)) = [] := List.filter_eq_nil_iff.mpr fun r hr => by
        have := pw.1 r hr
        simp only [decide_eq_true_eq]
        grind
      rw [List.filter_cons_of_neg (by simpa using h), none]
      refine ⟨rfl, fun r hr => ?_⟩
      rcases List.mem_cons.mp hr with z | z
      · rw [z]; exact h
      · have := pw.1 r z
        grind
theorem qStep_ok {rows : List QRow} {xs : List Rat} {d : Rat} (h : RowsOk rows xs) : RowsOk (qStep rows (xs.length : Int) d) (xs ++ [d]) := by
  have pla : ∀ q, places q 0 (xs ++ [d]) = places q 0 xs ++ (if d = q then [(xs.length : Int)] else []) := fun q => by
    rw [places_app, Nat.zero_add]
    congr 1
  unfold qStep
  split
  · rename_i ha
    obtain ⟨r1, hr1, e1⟩ := List.any_eq_true.mp ha
    have e1 : r1.1 = d := by simpa using e1
    refine ⟨?_, fun q => ?_, fun r hr => ?_⟩
    · have k := qPut_keys d (xs.length : Int) rows
      have a := List.pairwise_map.mpr h.asc
      rw [← k] at a
      exact List.pairwise_map.mp a
    · rw [qPut_keys, h.mem, List.mem_append, List.mem_singleton]
      refine ⟨.inl, fun z => z.elim id fun e => ?_⟩
      rw [e, ← h.mem]
      exact List.mem_map.mpr ⟨r1, hr1, e1⟩
    · rcases qPut_mem h.asc r hr with ⟨r0, h1, h2, rfl⟩ | ⟨h1, h2⟩
      · show r0.2 ++ [(xs.length : Int)] = places d 0 (xs ++ [d])
        rw [pla, if_pos rfl, h.pl r0 h1, h2]
      · rw [pla, if_neg (fun z => h2 z.symm), List.append_nil]
        exact h.pl r h1
  · rename_i ha
    have nd : d ∉ xs := fun z => by
      rw [← h.mem] at z
      obtain ⟨r, hr, e⟩ := List.mem_map.mp z
      exact ha (List.any_eq_true.mpr ⟨r, hr, by simpa using e⟩)
    obtain ⟨t1, t2⟩ := filter_take (d := d) h.asc
    have split := List.take_append_drop (rows.filter fun r => decide (r.1 < d)).length rows
    refine ⟨?_, fun q => ?_, fun r hr => ?_⟩
    · have a := h.asc
      rw [← split, List.pairwise_append] at a
      obtain ⟨a1, a2, a3⟩ := a
      rw [List.append_assoc, List.pairwise_append]
      refine ⟨a1, List.pairwise_cons.mpr ⟨fun r hr => ?_, a2⟩, fun r hr s hs => ?_⟩
      · have := t2 r hr
        have ne : r.1 ≠ d := fun z => nd (by
          rw [← h.mem, ← z]
          exact List.mem_map.mpr ⟨r, List.mem_of_mem_drop hr, rfl⟩)
        show d < r.1
        grind
      · rcases List.mem_cons.mp hs with z | z
        · rw [z]
          rw [t1] at hr
          simpa using (List.mem_filter.mp hr).2
        · exact a3 r hr s z
    · rw [List.append_assoc, List.map_append, List.mem_append, List.singleton_append, List.map_cons, List.mem_cons, List.mem_append, List.mem_singleton, ← h.mem]
      conv => rhs; rw [← split, List.map_append, List.mem_append]
      constructor
      · rintro (z | z | z)
        · exact .inl (.inl z)
        · exact .inr z
        · exact .inl (.inr z)
      · rintro ((z | z) | z)
        · exact .inl z
        · exact .inr (.inr z)
        · exact .inr (.inl z)
    · have old : ∀ r, r ∈ rows → r.2 = places r.1 0 (xs ++ [d]) := fun r hr => by
        rw [pla, if_neg (fun z => nd (by
          rw [← h.mem, z]
          exact List.mem_map.mpr ⟨r, hr, rfl⟩)), List.append_nil]
        exact h.pl r hr
      rw [List.append_assoc, List.mem_append, List.singleton_append, List.mem_cons] at hr
      rcases hr with z | z | z
      · exact old r (List.mem_of_mem_take z)
      · rw [z]
        show [(xs.length : Int)] = places d 0 (xs ++ [d])
        rw [pla, if_pos rfl, places_none nd]
        rfl
      · exact old r (List.mem_of_mem_drop z)
theorem qFrom_ok : ∀ (ys xs : List Rat) (rows : List QRow), RowsOk rows xs → RowsOk (qFrom rows xs.length ys) (xs ++ ys)
  | [], xs, rows, h => by rw [List.append_nil]; exact h
  | y :: ys, xs, rows, h => by
    have := qFrom_ok ys (xs ++ [y]) _ (qStep_ok (d := y) h)
    rw [List.length_append, List.length_singleton, List.append_assoc] at this
    exact this
theorem qRows_ok (qs : List Rat) : RowsOk (qRows qs) qs := qFrom_ok qs [] [] ⟨.nil, fun q => Iff.rfl, fun r h => by cases h⟩
/-! ### how many lot kinds -/
def prodI : List Int → Int
  | [] => 1
  | x :: xs => x * prodI xs
theorem prodI_app : ∀ xs ys : List Int, prodI (xs ++ ys) = prodI xs * prodI ys
  | [], ys => by rw [List.nil_append, prodI, Int.one_mul]
  | x :: xs, ys => by rw [List.cons_append, prodI, prodI, prodI_app xs ys, Int.mul_assoc]
theorem prodI_perm {xs ys : List Int} (h : xs.Perm ys) : prodI xs = prodI ys := by
  induction h with
  | nil => rfl
  | cons x _ ih => rw [prodI, prodI, ih]
  | swap x y l => rw [prodI, prodI, prodI, prodI, ← Int.mul_assoc, ← Int.mul_assoc, Int.mul_comm y x]
  | trans _ _ h1 h2 => exact h1.trans h2
theorem places_len (q : Rat) : ∀ (xs : List Rat) (i : Nat), (places q i xs).length = (xs.filter fun x => decide (x = q)).length
  | [], _ => rfl
  | x :: xs, i => by
    rw [places]
    by_cases h : x = q
    · rw [if_pos h, List.filter_cons_of_pos (by simpa using h), List.length_cons, List.length_cons, places_len q xs]
    · rw [if_neg h, List.filter_cons_of_neg (by simpa using h), places_len q xs]
def kindsQ (qs : List Rat) : Int := prodI ((qRows qs).map fun r => 1 + (r.2.length : Int))
def keyQ (q : Rat) : List Int := [q.num, (q.den : Int)]
theorem keyQ_inj {a b : Rat} (h : keyQ a = keyQ b) : a = b := by
  unfold keyQ at h
  simp only [List.cons.injEq, and_true] at h
  exact Rat.ext h.1 (by exact_mod_cast h.2)
theorem pairD_key (q : Rat) : pairD (keyQ q) = pq q := rfl
theorem pairsD_q : ∀ {qs : List Rat}, (∀ q ∈ qs, Rt q) → pairsD (qs.map pq) = some (qs.map keyQ)
  | [], _ => rfl
  | q :: qs, h => by
    have hq := h q List.mem_cons_self
    have h1 := hq.n1
    have h2 := hq.n2
    have h3 := hq.d
    show (if (0 ≤ q.num ∧ q.num < topB) ∧ 0 ≤ (q.den : Int) ∧ (q.den : Int) < topB then (pairsD (qs.map pq)).map ([q.num, (q.den : Int)] :: ·) else none) = _
    unfold topB
    rw [if_pos (by omega), pairsD_q fun r hr => h r (List.mem_cons_of_mem _ hr)]
    rfl
/-- the different sizes, as they come out of sorted(set(..)) -/
def setQ (qs : List Rat) : List (List Int) := sortSet (qs.map keyQ)
theorem setQ_perm (qs : List Rat) : (setQ qs).Perm (((qRows qs).map (·.1)).map keyQ) := by
  have p2 : (setQ qs).Perm (dd (qs.map keyQ)) := List.mergeSort_perm _ _
  refine p2.trans ((List.perm_ext_iff_of_nodup (nodup_dd _) ?_).mpr fun k => ?_)
  · have a := (qRows_ok qs).asc
    rw [List.map_map]
    refine List.pairwise_map.mpr (a.imp fun h z => ?_)
    have z' := keyQ_inj z
    simp only [z'] at h
    exact Rat.lt_irrefl h
  · rw [mem_dd, List.mem_map, List.mem_map]
    constructor
    · rintro ⟨q, hq, rfl⟩
      exact ⟨q, ((qRows_ok qs).mem q).mpr hq, rfl⟩
    · rintro ⟨q, hq, rfl⟩
      exact ⟨q, ((qRows_ok qs).mem q).mp hq, rfl⟩
def cnt (qs : List Rat) (k : List Int) : Nat := (qs.filter fun q => decide (keyQ q = k)).length
theorem kinds_set (qs : List Rat) : prodI ((setQ qs).map fun k => 1 + (cnt qs k : Int)) = kindsQ qs := by
  rw [prodI_perm ((setQ_perm qs).map _), List.map_map, List.map_map]
  unfold kindsQ
  congr 1
  refine List.map_congr_left fun r hr => ?_
  have h := (qRows_ok qs).pl r hr
  show 1 + ((cnt qs (keyQ r.1) : Nat) : Int) = 1 + (r.2.length : Int)
  rw [h, places_len]
  unfold cnt
  congr 3
  refine List.filter_congr fun q _ => ?_
  by_cases e : q = r.1
  · rw [e]; simp
  · rw [decide_eq_false e, decide_eq_false fun z => e (keyQ_inj z)]
theorem rows_few (qs : List Rat) : (qRows qs).length ≤ qs.length ∧ ∀ r ∈ qRows qs, r.2.length ≤ qs.length := by
  refine ⟨?_, fun r hr => ?_⟩
  · have nd : ((qRows qs).map (·.1)).Nodup := List.pairwise_map.mpr ((qRows_ok qs).asc.imp fun h z => by rw [z] at h; exact Rat.lt_irrefl h)
    have := nd.length_le_of_subset (l₂ := qs) fun q hq => ((qRows_ok qs).mem q).mp hq
    rw [List.length_map] at this
    exact this
  · rw [(qRows_ok qs).pl r hr, places_len]
    exact List.length_filter_le _ _
end Z

/-! Z32: what is wrong with a yard: the program's own way and the laws'. -/
namespace Z
open PySem
theorem prod_bd : ∀ {xs : List Int} {n : Nat}, (∀ x ∈ xs, 1 ≤ x ∧ x ≤ 64) → xs.length ≤ n → 1 ≤ prodI xs ∧ prodI xs ≤ 2 ^ (6 * n)
  | [], n, _, _ => ⟨by decide, by
    show (1 : Int) ≤ 2 ^ (6 * n)
    have : (1 : Nat) ≤ 2 ^ (6 * n) := Nat.one_le_two_pow
    exact_mod_cast this⟩
  | x :: xs, 0, _, h => by simp at h
  | x :: xs, n + 1, h, hl => by
    obtain ⟨h1, h2⟩ := prod_bd (n := n) (fun y hy => h y (List.mem_cons_of_mem _ hy)) (by simpa using hl)
    obtain ⟨k1, k2⟩ := h x List.mem_cons_self
    rw [prodI]
    refine ⟨?_, ?_⟩
    · have : 1 * 1 ≤ x * prodI xs := Int.mul_le_mul k1 h1 (by decide) (by omega)
      omega
    · have : x * prodI xs ≤ 64 * 2 ^ (6 * n) := Int.mul_le_mul k2 h2 (by omega) (by decide)
      rw [show 6 * (n + 1) = 6 + 6 * n by omega, Int.pow_add]
      exact this
theorem prod_take {xs : List Int} {i : Nat} {x : Int} (h : xs[i]? = some x) : prodI (xs.take (i + 1)) = prodI (xs.take i) * x := by
  rw [List.take_succ, prodI_app, h]
  show _ * prodI [x] = _
  rw [prodI, prodI, Int.mul_one]
theorem prod_small {xs : List Int} {n : Nat} (h : ∀ x ∈ xs, 1 ≤ x ∧ x ≤ 64) (hl : xs.length ≤ n) (hn : n ≤ 60) : (prodI xs).natAbs.log2 ≤ 361 := by
  obtain ⟨h1, h2⟩ := prod_bd h hl
  refine log2_le (Nat.lt_of_le_of_lt (m := 2 ^ 360) ?_ (by decide))
  have h3 : (2 : Int) ^ (6 * n) ≤ 2 ^ 360 := by
    have : (2 : Nat) ^ (6 * n) ≤ 2 ^ 360 := Nat.pow_le_pow_right (by decide) (by omega)
    exact_mod_cast this
  have h4 : prodI xs ≤ 2 ^ 360 := Int.le_trans h2 h3
  have h5 : ((prodI xs).natAbs : Int) ≤ ((2 ^ 360 : Nat) : Int) := by
    rw [Int.natAbs_of_nonneg (by omega)]
    exact_mod_cast h4
  exact_mod_cast h5
section
variable {S : Store}
theorem qs_ok {qs : List Rat} (h : ∀ q ∈ qs, Rt q) : (qs.map pq).all okSize = true := by
  rw [List.all_map, List.all_eq_true]
  exact fun q hq => (h q hq).ok
theorem s_rows {qs : List Rat} (h : ∀ q ∈ qs, Rt q) (hl : qs.length ≤ 40) : m_class_rows [.d (.tuple (qs.map pq))] S = .ok (.d (.list ((qRows qs).map fun r => .tuple [pq r.1, .list (r.2.map PyData.int)]))) S := by
  rw [s_class_rows (qs_ok h) (by rw [List.length_map]; omega), crRows_q, List.map_map]
  rfl
theorem facs {qs : List Rat} (hl : qs.length ≤ 40) : ∀ x ∈ (qRows qs).map fun r => 1 + (r.2.length : Int), 1 ≤ x ∧ x ≤ 64 := fun x hx => by
  obtain ⟨r, hr, rfl⟩ := List.mem_map.mp hx
  have := (rows_few qs).2 r hr
  omega
theorem s_kinds_in {qs : List Rat} (h : ∀ q ∈ qs, Rt q) (hl : qs.length ≤ 40) : M.m_kinds_in [.d (.tuple (qs.map pq))] S = .ok (.d (.int (kindsQ qs))) S := by
  have key : wp (M.m_kinds_in [.d (.tuple (qs.map pq))] S) fun u S' => u = .d (.int (kindsQ qs)) ∧ S' = S := by
    refine w_run ?_
    show wo (M.g_kinds_in [some (.d (.tuple (qs.map pq))), none, none, none] S) _
    unfold M.g_kinds_in
    refine w_set (S1 := S) rfl ?_
    refine w_for ?_
    refine wo_for (fun ds i ρ T => T = S ∧ ∃ a b, ρ = [some (.d (.tuple (qs.map pq))), some (.d (.int (prodI (((qRows qs).map fun r => 1 + (r.2.length : Int)).take i)))), a, b])
      (wp_of (a := (qRows qs).map fun r => .tuple [pq r.1, .list (r.2.map PyData.int)]) (S := S) (by simp [sSeq, s_rows h hl, seqD, frz]) ⟨⟨rfl, _, _, rfl⟩, fun i d ρ T hd ⟨hT, a, b, e⟩ => ?_, fun ρ T ⟨hT, a, b, e⟩ => ?_⟩)
    · subst hT e
      rw [List.getElem?_map] at hd
      obtain ⟨r, hr, rfl⟩ := Option.map_eq_some_iff.mp hd
      have hlen := (rows_few qs).1
      have hi := (List.getElem?_eq_some_iff.mp hr).1
      have hx : ((qRows qs).map fun r => 1 + (r.2.length : Int))[i]? = some (1 + (r.2.length : Int)) := by rw [List.getElem?_map, hr]; rfl
      have f := facs hl
      have b1 := prod_small (xs := ((qRows qs).map fun r => 1 + (r.2.length : Int)).take i) (n := 40) (fun x hx => f x (List.mem_of_mem_take hx)) (by rw [List.length_take, List.length_map]; omega) (by decide)
      have b2 := f _ (List.mem_of_getElem? hx)
      have b3 : (1 + (r.2.length : Int)).natAbs.log2 ≤ 7 := log2_le (by omega)
      refine ⟨_, rfl, ?_⟩
      have m := mul_i (S := T) (i := prodI (((qRows qs).map fun r => 1 + (r.2.length : Int)).take i)) (j := 1 + (r.2.length : Int)) (by omega)
      simp [M.b1_kinds_in, len_lst, m, prod_take hx]
    · subst hT e
      have hR : (((qRows qs).map fun r => 1 + (r.2.length : Int)).take ((qRows qs).map fun r => PyData.tuple [pq r.1, .list (r.2.map PyData.int)]).length) = (qRows qs).map fun r => 1 + (r.2.length : Int) := List.take_of_length_le (by rw [List.length_map, List.length_map]; exact Nat.le_refl _)
      rw [hR]
      simp [kindsQ]
  obtain ⟨u, S', e, rfl, rfl⟩ := wp_ex key
  exact e
theorem nice_pq (q : Rat) : Nice (pq q) := ⟨lay_pq q, by rw [dep_pq]; decide⟩
theorem eq_pq (a b : Rat) {T : Store} : uEq (.d (pq a)) (.d (pq b)) T = .ok (.d (.bool (decide (a = b)))) T := by
  rw [eq_d (shp _ (nice_pq a)) (shp _ (nice_pq b)), eqv_pq]
theorem s_lkinds {qs : List Rat} (h : ∀ q ∈ qs, Rt q) (hl : qs.length ≤ 40) : M.m__law_op_kinds [.d (.tuple (qs.map pq))] S = .ok (.d (.int (kindsQ qs))) S := by
  have key : wp (M.m__law_op_kinds [.d (.tuple (qs.map pq))] S) fun u S' => u = .d (.int (kindsQ qs)) ∧ S' = S := by
    have hss : uSS [.d (.tuple (qs.map pq))] S = .ok (.d (.list ((setQ qs).map pairD))) S := by
      show (match pairsD (qs.map pq) with
        | some ks => if ks.length < 64 then R.ok (U.d (.list ((sortSet ks).map pairD))) S else .bad
        | none => .bad) = _
      rw [pairsD_q h]
      simp only []
      rw [if_pos (by rw [List.length_map]; omega)]
      rfl
    have fl : (setQ qs).length ≤ 40 := by
      have := (setQ_perm qs).length_eq
      rw [List.length_map, List.length_map] at this
      have := (rows_few qs).1
      omega
    have fac : ∀ x ∈ (setQ qs).map fun k => 1 + (cnt qs k : Int), 1 ≤ x ∧ x ≤ 64 := fun x hx => by
      obtain ⟨k, _, rfl⟩ := List.mem_map.mp hx
      have : cnt qs k ≤ qs.length := List.length_filter_le _ _
      omega
    refine w_run ?_
    show wo (M.g__law_op_kinds [some (.d (.tuple (qs.map pq))), none, none, none] S) _
    unfold M.g__law_op_kinds
    refine w_set (S1 := S) rfl ?_
    refine w_for ?_
    refine wo_for (fun ds i ρ T => T = S ∧ ∃ a b, ρ = [some (.d (.tuple (qs.map pq))), some (.d (.int (prodI (((setQ qs).map fun k => 1 + (cnt qs k : Int)).take i)))), a, b])
      (wp_of (a := (setQ qs).map pairD) (S := S) (by simp [sSeq, hss, seqD, frz]) ⟨⟨rfl, _, _, rfl⟩, fun i d ρ T hd ⟨hT, a, b, e⟩ => ?_, fun ρ T ⟨hT, a, b, e⟩ => ?_⟩)
    · subst hT e
      rw [List.getElem?_map] at hd
      obtain ⟨k, hk, rfl⟩ := Option.map_eq_some_iff.mp hd
      have hx : ((setQ qs).map fun k => 1 + (cnt qs k : Int))[i]? = some (1 + (cnt qs k : Int)) := by rw [List.getElem?_map, hk]; rfl
      have b1 := prod_small (xs := ((setQ qs).map fun k => 1 + (cnt qs k : Int)).take i) (n := 40) (fun x hx => fac x (List.mem_of_mem_take hx)) (by rw [List.length_take, List.length_map]; omega) (by decide)
      have b2 := fac _ (List.mem_of_getElem? hx)
      have b3 : (1 + (cnt qs k : Int)).natAbs.log2 ≤ 7 := log2_le (by omega)
      have hm : k ∈ ((qRows qs).map (·.1)).map keyQ := (setQ_perm qs).mem_iff.mp (List.mem_of_getElem? hk)
      obtain ⟨q, _, rfl⟩ := List.mem_map.mp hm
      rw [pairD_key]
      refine ⟨_, rfl, ?_⟩
      have m := mul_i (S := T) (i := prodI (((setQ qs).map fun k => 1 + (cnt qs k : Int)).take i)) (j := 1 + (cnt qs (keyQ q) : Int)) (by omega)
      have lc := lc_test (src := sSeq (fVar 0)) (tg := aName 3) (ft := M.t2__law_op_kinds) (fe := M.e1__law_op_kinds) (vs := [3]) (ρ := [some (.d (.tuple (qs.map pq))), some (.d (.int (prodI (((setQ qs).map fun k => 1 + (cnt qs k : Int)).take i)))), some (.d (pq q)), b]) (S := T) (S1 := T) (ds := qs.map pq) (p := fun d => PyData.eqv d (pq q)) (f := fun d => d) rfl (by rw [List.length_map]; omega) fun d hd => by
        obtain ⟨r, _, rfl⟩ := List.mem_map.mp hd
        refine ⟨_, rfl, fun acc => ⟨?_, fun _ => rfl⟩⟩
        simp [M.t2__law_op_kinds, wipeU, eq_pq, eqv_pq]
      have hc : (((qs.map pq).filter fun d => PyData.eqv d (pq q)).map fun d => d).length = cnt qs (keyQ q) := by
        rw [List.length_map, List.filter_map, List.length_map]
        unfold cnt
        congr 1
        refine List.filter_congr fun x _ => ?_
        show PyData.eqv (pq x) (pq q) = _
        rw [eqv_pq]
        by_cases e : x = q
        · rw [e]; simp
        · rw [decide_eq_false e, decide_eq_false fun z => e (keyQ_inj z)]
      simp only [M.b3__law_op_kinds, gSet, f2, fN, fCons, fNil, lc, len_lst, hc, List.set_cons_succ, List.set_cons_zero, wo_st, wo_nx, wp_bind, wp_ok, e_varS, e_var0, fC, bind_ok, add_i, m, prod_take hx]
      exact ⟨trivial, _, _, rfl⟩
    · subst hT e
      have hR : (((setQ qs).map fun k => 1 + (cnt qs k : Int)).take ((setQ qs).map pairD).length) = (setQ qs).map fun k => 1 + (cnt qs k : Int) := List.take_of_length_le (by rw [List.length_map, List.length_map]; exact Nat.le_refl _)
      rw [hR, kinds_set]
      simp
  obtain ⟨u, S', e, rfl, rfl⟩ := wp_ex key
  exact e
/-! ### the fault -/
def yBad (i : Int) : D := .tuple [.str "BadYard", .int i]
def yMany (i : Int) : D := .tuple [.str "TooMany", .int i]
/-- what is wrong with a yard's sizes -/
def ysF (ss : List D) : D := match ss.findIdx? (fun x => !isSz x) with
  | some i => yBad i
  | none => if 600 < kindsQ (ss.map fun d => match d with
      | .tuple [.int a, .int b] => Rat.divInt a b
      | _ => 0) then yMany (kindsQ (ss.map fun d => match d with
      | .tuple [.int a, .int b] => Rat.divInt a b
      | _ => 0)) else .none
def yf : D → D
  | .tuple [r, .tuple ss] => if 40 < ss.length then yMany (ss.length : Int) else if isSz r = false then yBad (-2) else ysF ss
  | _ => yBad (-1)
theorem ysF_q {qs : List Rat} (h : ∀ q ∈ qs, Rt q) : ysF (qs.map pq) = if 600 < kindsQ qs then yMany (kindsQ qs) else .none := by
  have e1 : (qs.map pq).findIdx? (fun x => !isSz x) = none := List.findIdx?_eq_none_iff.mpr fun x hx => by
    obtain ⟨q, hq, rfl⟩ := List.mem_map.mp hx
    rw [(h q hq).sz]; rfl
  have e2 : ((qs.map pq).map fun d => match d with
      | .tuple [.int a, .int b] => Rat.divInt a b
      | _ => 0) = qs := by
    rw [List.map_map]
    conv => rhs; rw [← List.map_id qs]
    refine List.map_congr_left fun q _ => ?_
    show Rat.divInt q.num (q.den : Int) = q
    exact Rat.num_divInt_den q
  unfold ysF
  rw [e1, e2]
theorem find_none {ss : List D} (h : ss.findIdx? (fun x => !isSz x) = none) : ss.all isSz = true := by
  rw [List.findIdx?_eq_none_iff] at h
  refine List.all_eq_true.mpr fun x hx => ?_
  have := h x hx
  cases hz : isSz x with
  | true => rfl
  | false => rw [hz] at this; cases this
theorem yf_main {r : D} {ss : List D} (hl : ss.length ≤ 40) (hr : isSz r = true) : yf (.tuple [r, .tuple ss]) = ysF ss := by
  show (if 40 < ss.length then _ else if isSz r = false then _ else _) = _
  rw [if_neg (by omega), if_neg (by rw [hr]; decide)]
theorem s_yf (d : D) : M.m_yard_fault [.d d] S = .ok (.d (yf d)) S := by
  have ht := fun y => isi_d (S := S) (y := y) (show okTy "tuple" = true from rfl)
  match d with
  | .none => simp [M.m_yard_fault, M.g_yard_fault, ht, isTy, tyOf, yf, yBad]
  | .bool _ => simp [M.m_yard_fault, M.g_yard_fault, ht, isTy, tyOf, yf, yBad]
  | .int _ => simp [M.m_yard_fault, M.g_yard_fault, ht, isTy, tyOf, yf, yBad]
  | .str _ => simp [M.m_yard_fault, M.g_yard_fault, ht, isTy, tyOf, yf, yBad]
  | .list _ => simp [M.m_yard_fault, M.g_yard_fault, ht, isTy, tyOf, yf, yBad]
  | .dict _ => simp [M.m_yard_fault, M.g_yard_fault, ht, isTy, tyOf, yf, yBad]
  | .tuple [] => simp [M.m_yard_fault, M.g_yard_fault, ht, isTy, tyOf, len_tup, ne_i, yf, yBad]
  | .tuple [a] => simp [M.m_yard_fault, M.g_yard_fault, ht, isTy, tyOf, len_tup, ne_i, yf, yBad]
  | .tuple (a :: b :: c :: r) =>
    have h2 : ((r.length : Int) + 1 + 1 + 1 = 2) = False := by simp; omega
    simp [M.m_yard_fault, M.g_yard_fault, ht, isTy, tyOf, len_tup, ne_i, h2, yf, yBad]
  | .tuple [r, .none] => simp [M.m_yard_fault, M.g_yard_fault, ht, isTy, tyOf, len_tup, ne_i, ix1, yf, yBad]
  | .tuple [r, .bool _] => simp [M.m_yard_fault, M.g_yard_fault, ht, isTy, tyOf, len_tup, ne_i, ix1, yf, yBad]
  | .tuple [r, .int _] => simp [M.m_yard_fault, M.g_yard_fault, ht, isTy, tyOf, len_tup, ne_i, ix1, yf, yBad]
  | .tuple [r, .str _] => simp [M.m_yard_fault, M.g_yard_fault, ht, isTy, tyOf, len_tup, ne_i, ix1, yf, yBad]
  | .tuple [r, .list _] => simp [M.m_yard_fault, M.g_yard_fault, ht, isTy, tyOf, len_tup, ne_i, ix1, yf, yBad]
  | .tuple [r, .dict _] => simp [M.m_yard_fault, M.g_yard_fault, ht, isTy, tyOf, len_tup, ne_i, ix1, yf, yBad]
  | .tuple [r, .tuple ss] =>
    by_cases hl : 40 < ss.length
    · have hl' : (40 : Int) < (ss.length : Int) := by omega
      simp [M.m_yard_fault, M.g_yard_fault, ht, isTy, tyOf, len_tup, ne_i, ix1, hl, hl', yf, yMany]
    · have hl' : ¬ (40 : Int) < (ss.length : Int) := by omega
      cases hr : isSz r with
      | false => simp [M.m_yard_fault, M.g_yard_fault, ht, isTy, tyOf, len_tup, ne_i, ix1, hl, hl', s_issize, hr, yf, yBad]
      | true =>
        have key : wp (M.m_yard_fault [.d (.tuple [r, .tuple ss])] S) fun u S' => u = .d (ysF ss) ∧ S' = S := by
          simp [M.m_yard_fault, M.g_yard_fault, ht, isTy, tyOf, len_tup, ne_i, ix1, hl', s_issize, hr]
          refine wo_for (fun ds i ρ T => T = S ∧ (∀ j x, j < i → ss[j]? = some x → isSz x = true) ∧ ∃ a b, ρ = [some (.d (.tuple [r, .tuple ss])), some (.d r), some (.d (.tuple ss)), a, b, none])
            (wp_of (a := enumD 0 ss) (S := S) (by simp [sN, sEnumA, seqD]) ⟨⟨rfl, fun _ _ h => absurd h (Nat.not_lt_zero _), _, _, rfl⟩, fun i d ρ T hd ⟨hT, hall, a, b, e⟩ => ?_, fun ρ T ⟨hT, hall, a, b, e⟩ => ?_⟩)
          · subst hT e
            obtain ⟨y, hy, rfl⟩ := enumD_get _ _ _ _ hd
            refine ⟨_, rfl, ?_⟩
            cases hsy : isSz y with
            | false =>
              have hf : ss.findIdx? (fun x => !isSz x) = some i := by
                rw [List.findIdx?_eq_some_iff_getElem]
                obtain ⟨hi, e⟩ := List.getElem?_eq_some_iff.mp hy
                refine ⟨hi, by rw [e, hsy]; rfl, fun j hj => ?_⟩
                have := hall j ss[j] hj (List.getElem?_eq_getElem (by omega))
                rw [this]; decide
              simp [M.b1_yard_fault, s_issize, hsy, ysF, hf, yBad]
            | true =>
              simp [M.b1_yard_fault, s_issize, hsy]
              intro j x hj hx
              by_cases e : j = i
              · rw [e, hy] at hx
                cases hx
                exact hsy
              · exact hall j x (by omega) hx
          · subst hT e
            rw [enumD_len] at hall
            have hnone : ss.findIdx? (fun x => !isSz x) = none := List.findIdx?_eq_none_iff.mpr fun x hx => by
              obtain ⟨j, hj, e⟩ := List.getElem_of_mem hx
              have := hall j x hj (by rw [List.getElem?_eq_getElem hj, e])
              rw [this]; rfl
            obtain ⟨qs, rfl, hq⟩ := isSz_all (find_none hnone)
            have hk := s_kinds_in (S := T) hq (by rw [List.length_map] at hl; omega)
            rw [ysF_q hq]
            by_cases h6 : 600 < kindsQ qs
            · simp [hk, h6, yMany]
            · simp [hk, h6]
        obtain ⟨u, S', e, rfl, rfl⟩ := wp_ex key
        rw [e, yf_main (by omega) hr]
/-! ### plain data with small numbers -/
mutual
def small : D → Bool
  | .int i => decide (i.natAbs < 2 ^ 300)
  | .list xs => smalls xs
  | .tuple xs => smalls xs
  | .dict _ => false
  | _ => true
def smalls : List D → Bool
  | [] => true
  | x :: xs => small x && smalls xs
end
theorem smalls_mem : ∀ {xs : List D}, smalls xs = true ↔ ∀ x ∈ xs, small x = true
  | [] => by simp [smalls]
  | x :: xs => by
    rw [smalls, Bool.and_eq_true, smalls_mem]
    simp
/-- plain data: depth, parts, small numbers -/
structure Gd (k s : Nat) (d : D) : Prop extends Fine k s d where
  sm : small d = true
theorem Gd.mono {k s k' s' : Nat} {d : D} (h : Gd k s d) (h1 : k ≤ k' := by decide) (h2 : s ≤ s' := by decide) : Gd k' s' d := ⟨h.toFine.mono h1 h2, h.sm⟩
theorem Gd.sm2 {k s : Nat} {d : D} (h : Gd k s d) : Sm d := fun a b e => by
  have := h.sm
  rw [e, small, smalls, smalls, smalls, Bool.and_eq_true, Bool.and_eq_true] at this
  simpa [small] using this.2.1
theorem Gd.tup {k s : Nat} {xs : List D} (h : Gd (k + 1) s (.tuple xs)) : ∀ x ∈ xs, Gd k s x := fun x hx => by
  have l := h.lay
  rw [PyData.canLay0] at l
  have d := h.dep
  rw [PyData.depth] at d
  have z := h.sz
  rw [sz] at z
  have dm := dep_mem xs x hx
  have zm : sz x ≤ szs xs := by
    obtain ⟨as, bs, rfl⟩ := List.append_of_mem hx
    rw [szs_app, szs]
    omega
  exact ⟨⟨lay_mem xs l x hx, by omega, by omega⟩, smalls_mem.mp (by have := h.sm; rwa [small] at this) x hx⟩
theorem gd_tup {k s : Nat} {xs : List D} (h : ∀ x ∈ xs, Gd k s x) : Gd (k + 1) (xs.length * s + 1) (.tuple xs) := ⟨fine_tup fun x hx => (h x hx).toFine, by rw [small]; exact smalls_mem.mpr fun x hx => (h x hx).sm⟩
theorem gd_lst {k s : Nat} {xs : List D} (h : ∀ x ∈ xs, Gd k s x) : Gd (k + 1) (xs.length * s + 1) (.list xs) := ⟨fine_list fun x hx => (h x hx).toFine, by rw [small]; exact smalls_mem.mpr fun x hx => (h x hx).sm⟩
theorem gd_pq {q : Rat} {n : Nat} (h : Bd n q) (hn : n ≤ 300) : Gd 1 3 (pq q) := ⟨fine_pq q, by
  have h1 := Nat.lt_of_lt_of_le h.num (Nat.pow_le_pow_right (by decide) hn)
  have h2 := Nat.lt_of_lt_of_le h.den (Nat.pow_le_pow_right (by decide) hn)
  simp [pq, small, smalls, h1, h2]⟩
theorem gd_int {i : Int} (h : i.natAbs < 2 ^ 300) : Gd 0 1 (.int i) := ⟨⟨rfl, by simp [PyData.depth], by simp [sz]⟩, by simp [small, h]⟩
theorem filter_find {ss : List D} : ((rngD 0 ss.length).filter fun d => match d with | .int j => !isSz (ss[j.toNat]?.getD .none) | _ => false) = match ss.findIdx? (fun x => !isSz x) with
  | some i => .int (i : Int) :: ((rngD 0 ss.length).drop (i + 1)).filter fun d => match d with | .int j => !isSz (ss[j.toNat]?.getD .none) | _ => false
  | none => [] := by
  have at_ : ∀ i, i < ss.length → (rngD 0 ss.length)[i]? = some (.int (i : Int)) := fun i hi => by
    have hl : i < (rngD 0 ss.length).length := by rw [rngD_len]; exact hi
    have := rngD_get ss.length 0 i _ (List.getElem?_eq_getElem hl)
    rw [List.getElem?_eq_getElem hl, this.2, Int.zero_add]
  cases hf : ss.findIdx? (fun x => !isSz x) with
  | none =>
    refine List.filter_eq_nil_iff.mpr fun d hd => ?_
    obtain ⟨i, hi⟩ := List.mem_iff_getElem?.mp hd
    obtain ⟨h1, rfl⟩ := rngD_get _ _ _ _ hi
    have := List.findIdx?_eq_none_iff.mp hf ss[i] (List.getElem_mem h1)
    simp [h1] at this ⊢
    exact this
  | some i =>
    rw [List.findIdx?_eq_some_iff_getElem] at hf
    obtain ⟨h1, h2, h3⟩ := hf
    conv => lhs; rw [← List.take_append_drop i (rngD 0 ss.length)]
    have e1 : (rngD 0 ss.length).drop i = .int (i : Int) :: (rngD 0 ss.length).drop (i + 1) := drop_cons (at_ i h1)
    rw [List.filter_append, e1]
    have e2 : ((rngD 0 ss.length).take i).filter (fun d => match d with | .int j => !isSz (ss[j.toNat]?.getD .none) | _ => false) = [] := by
      refine List.filter_eq_nil_iff.mpr fun d hd => ?_
      obtain ⟨j, hj⟩ := List.mem_iff_getElem?.mp hd
      have hji : j < i := by
        have := (List.getElem?_eq_some_iff.mp hj).1
        rw [List.length_take] at this
        omega
      rw [List.getElem?_take_of_lt hji] at hj
      obtain ⟨k1, rfl⟩ := rngD_get _ _ _ _ hj
      have := h3 j hji
      simp [k1] at this ⊢
      exact this
    rw [e2, List.nil_append, List.filter_cons_of_pos]
    simp [h1]
    simpa using h2
theorem s_lyf {k s : Nat} {d : D} (h : Gd k s d) (hk : k ≤ 60) : M.m__law_op_yard_fault [.d d] S = .ok (.d (yf d)) S := by
  have ht := fun y => isi_d (S := S) (y := y) (show okTy "tuple" = true from rfl)
  match d, h with
  | .none, _ => simp [M.m__law_op_yard_fault, M.g__law_op_yard_fault, ht, isTy, tyOf, yf, yBad]
  | .bool _, _ => simp [M.m__law_op_yard_fault, M.g__law_op_yard_fault, ht, isTy, tyOf, yf, yBad]
  | .int _, _ => simp [M.m__law_op_yard_fault, M.g__law_op_yard_fault, ht, isTy, tyOf, yf, yBad]
  | .str _, _ => simp [M.m__law_op_yard_fault, M.g__law_op_yard_fault, ht, isTy, tyOf, yf, yBad]
  | .list _, _ => simp [M.m__law_op_yard_fault, M.g__law_op_yard_fault, ht, isTy, tyOf, yf, yBad]
  | .dict _, _ => simp [M.m__law_op_yard_fault, M.g__law_op_yard_fault, ht, isTy, tyOf, yf, yBad]
  | .tuple [], _ => simp [M.m__law_op_yard_fault, M.g__law_op_yard_fault, ht, isTy, tyOf, len_tup, ne_i, yf, yBad]
  | .tuple [a], _ => simp [M.m__law_op_yard_fault, M.g__law_op_yard_fault, ht, isTy, tyOf, len_tup, ne_i, yf, yBad]
  | .tuple (a :: b :: c :: r), _ =>
    have h2 : ((r.length : Int) + 1 + 1 + 1 = 2) = False := by simp; omega
    simp [M.m__law_op_yard_fault, M.g__law_op_yard_fault, ht, isTy, tyOf, len_tup, ne_i, h2, yf, yBad]
  | .tuple [r, .none], _ => simp [M.m__law_op_yard_fault, M.g__law_op_yard_fault, ht, isTy, tyOf, len_tup, ne_i, ix1, yf, yBad]
  | .tuple [r, .bool _], _ => simp [M.m__law_op_yard_fault, M.g__law_op_yard_fault, ht, isTy, tyOf, len_tup, ne_i, ix1, yf, yBad]
  | .tuple [r, .int _], _ => simp [M.m__law_op_yard_fault, M.g__law_op_yard_fault, ht, isTy, tyOf, len_tup, ne_i, ix1, yf, yBad]
  | .tuple [r, .str _], _ => simp [M.m__law_op_yard_fault, M.g__law_op_yard_fault, ht, isTy, tyOf, len_tup, ne_i, ix1, yf, yBad]
  | .tuple [r, .list _], _ => simp [M.m__law_op_yard_fault, M.g__law_op_yard_fault, ht, isTy, tyOf, len_tup, ne_i, ix1, yf, yBad]
  | .tuple [r, .dict _], _ => simp [M.m__law_op_yard_fault, M.g__law_op_yard_fault, ht, isTy, tyOf, len_tup, ne_i, ix1, yf, yBad]
  | .tuple [r, .tuple ss], h =>
    obtain ⟨k2, rfl⟩ : ∃ k2, k = k2 + 1 + 1 := by
      have := h.dep
      simp [PyData.depth, PyData.depthAll] at this
      exact ⟨k - 2, by omega⟩
    have hr' : Gd (k2 + 1) s r := h.tup r (by simp)
    have hss : ∀ x ∈ ss, Gd k2 s x := (h.tup (.tuple ss) (by simp)).tup
    by_cases hl : 40 < ss.length
    · have hl' : (40 : Int) < (ss.length : Int) := by omega
      simp [M.m__law_op_yard_fault, M.g__law_op_yard_fault, ht, isTy, tyOf, len_tup, ne_i, ix1, hl, hl', yf, yMany]
    · have hl' : ¬ (40 : Int) < (ss.length : Int) := by omega
      have sr := s_lissz (S := S) (hr'.nice (by omega)) hr'.sm2
      cases hr : isSz r with
      | false =>
        rw [hr] at sr
        simp [M.m__law_op_yard_fault, M.g__law_op_yard_fault, ht, isTy, tyOf, len_tup, ne_i, ix0, ix1, hl, hl', sr, hr, yf, yBad]
      | true =>
        rw [hr] at sr
        have e1 : sRng1 [.d (.int (ss.length : Int))] S = .ok (rngD 0 ss.length) S := by rw [rng1_i (by omega) (by omega), Int.toNat_natCast]
        have lc := lc_test (src := sN sRng1 (fCons (fN uLen (fCons (f2 uIx (fVar 0) (fC (.d (.int 1)))) fNil)) fNil)) (tg := aName 3) (ft := M.t2__law_op_yard_fault) (fe := M.e1__law_op_yard_fault) (vs := [3]) (ρ := [some (.d (.tuple [r, .tuple ss])), none, none, none]) (S := S) (S1 := S) (ds := rngD 0 ss.length) (p := fun d => match d with | .int j => !isSz (ss[j.toNat]?.getD .none) | _ => false) (f := fun d => d)
          (by simp [sN, ix1, len_tup, e1]) (by rw [rngD_len]; omega) fun d hd => by
          obtain ⟨i, hi⟩ := List.mem_iff_getElem?.mp hd
          obtain ⟨h1, rfl⟩ := rngD_get _ _ _ _ hi
          refine ⟨_, rfl, fun acc => ⟨?_, fun _ => rfl⟩⟩
          have hx : ss[i]? = some ss[i] := List.getElem?_eq_getElem h1
          have gx := hss _ (List.getElem_mem h1)
          have sx := s_lissz (S := S ++ [some acc]) (gx.nice (by omega)) gx.sm2
          simp [M.t2__law_op_yard_fault, wipeU, ix1, ix_tup hx, sx, hx]
        rw [filter_find, List.map_id'] at lc
        have h3 : fNotT (fTst (fCall M.m__law_op_is_size (fCons (f2 uIx (fVar 0) (fC (.d (.int 0)))) fNil))) [some (.d (.tuple [r, .tuple ss])), none, none, none] S = .ok false S := by simp [ix0, sr]
        have key : wp (M.m__law_op_yard_fault [.d (.tuple [r, .tuple ss])] S) fun u S' => u = .d (ysF ss) ∧ S' = S := by
          cases hf : ss.findIdx? (fun x => !isSz x) with
          | some i =>
            rw [hf] at lc
            have hne : ∀ (xs : List D) (T : Store), (∀ x ∈ xs, ∃ j : Int, x = .int j) → uNe (.d (.list (.int (i : Int) :: xs))) (.d (.list [])) T = .ok (.d (.bool true)) T := fun xs T hx => by
              have sh : SeqAt.shaped (.list (.int (i : Int) :: xs)) = true := by
                unfold SeqAt.shaped
                have l : (PyData.list (.int (i : Int) :: xs)).canLay0 = true := by
                  rw [PyData.canLay0]
                  refine lay_all _ fun x hx' => ?_
                  rcases List.mem_cons.mp hx' with z | z
                  · rw [z]; rfl
                  · obtain ⟨j, e⟩ := hx x z
                    rw [e]; rfl
                have d : (PyData.list (.int (i : Int) :: xs)).depth ≤ 64 := by
                  rw [PyData.depth]
                  have := dep_all (.int (i : Int) :: xs) 1 fun x hx' => by
                    rcases List.mem_cons.mp hx' with z | z
                    · rw [z]; simp [PyData.depth]
                    · obtain ⟨j, e⟩ := hx x z
                      rw [e]; simp [PyData.depth]
                  omega
                rw [l, decide_eq_true d]; rfl
              unfold uNe
              simp [viewD, sh, show SeqAt.shaped (.list []) = true from rfl, PyData.eqv, show PyData.eqvAll (.int (i : Int) :: xs) [] = false from rfl]
            have hint : ∀ x ∈ ((rngD 0 ss.length).drop (i + 1)).filter (fun d => match d with | .int j => !isSz (ss[j.toNat]?.getD .none) | _ => false), ∃ j : Int, x = .int j := fun x hx => by
              obtain ⟨j, hj⟩ := List.mem_iff_getElem?.mp (List.mem_of_mem_drop (List.mem_filter.mp hx).1)
              exact ⟨_, (rngD_get _ _ _ _ hj).2⟩
            have ix := ix_lst (S := S) (xs := .int (i : Int) :: ((rngD 0 ss.length).drop (i + 1)).filter (fun d => match d with | .int j => !isSz (ss[j.toNat]?.getD .none) | _ => false)) (i := 0) (y := .int (i : Int)) rfl
            simp only [Int.natCast_zero] at ix
            simp only [] at lc
            refine w_run ?_
            show wo (M.g__law_op_yard_fault [some (.d (.tuple [r, .tuple ss])), none, none, none] S) _
            unfold M.g__law_op_yard_fault
            refine w_ifN (S1 := S) (by simp [ht, isTy, tyOf, len_tup, ne_i, ix1]) ?_
            refine w_ifN (S1 := S) (by simp [len_tup, ix1, hl']) ?_
            refine w_ifN (S1 := S) h3 ?_
            refine w_set lc ?_
            simp [hne _ _ hint, ix, ysF, hf, yBad]
          | none =>
            rw [hf] at lc
            obtain ⟨qs, rfl, hq⟩ := isSz_all (find_none hf)
            have hk := s_lkinds (S := S) hq (by rw [List.length_map] at hl; omega)
            have hne : uNe (.d (.list [])) (.d (.list [])) S = .ok (.d (.bool false)) S := rfl
            rw [ysF_q hq]
            simp only [] at lc
            refine w_run ?_
            show wo (M.g__law_op_yard_fault [some (.d (.tuple [r, .tuple (qs.map pq)])), none, none, none] S) _
            unfold M.g__law_op_yard_fault
            refine w_ifN (S1 := S) (by simp [ht, isTy, tyOf, len_tup, ne_i, ix1]) ?_
            refine w_ifN (S1 := S) (by simp [len_tup, ix1]; simpa using hl') ?_
            refine w_ifN (S1 := S) h3 ?_
            refine w_set lc ?_
            by_cases h6 : 600 < kindsQ qs
            · simp [hne, hk, h6, ix1, yMany]
            · simp [hne, hk, h6, ix1]
        obtain ⟨u, S', e, rfl, rfl⟩ := wp_ex key
        rw [e, yf_main (by omega) hr]
end
end Z

/-! Z33: what is drawn, with own lists behind the store. -/
namespace Z
open PySem
section
variable {S T S' : Store} {l n k : Nat} {cs : Store} {u : U} {xs : List D}
/-- the store has own cells behind, the jar lies ahead of them -/
theorem Kp.split (h : Kp l (T ++ cs) S') (hl : l < T.length) : ∃ T', S' = T' ++ cs ∧ Kp l T T' := by
  have h1 := h.len
  rw [List.length_append] at h1
  refine ⟨S'.take T.length, ?_, ?_, fun i hi => ?_⟩
  · refine List.ext_getElem? fun i => ?_
    by_cases c : i < T.length
    · rw [List.getElem?_append_left (by rw [List.length_take]; omega), List.getElem?_take_of_lt c]
    · rw [List.getElem?_append_right (by rw [List.length_take]; omega), h.get i (by omega), List.getElem?_append_right (by omega), List.length_take]
      congr 1
      omega
  · rw [List.length_take]; omega
  · by_cases c : i < T.length
    · rw [List.getElem?_take_of_lt c, h.get i hi, List.getElem?_append_left c]
    · rw [List.getElem?_eq_none (by rw [List.length_take]; omega), List.getElem?_eq_none (by omega)]
theorem Jar.left (h : Jar (T ++ cs) l n) (hl : l < T.length) : Jar T l n := by
  obtain ⟨a, b, c, h1, h2⟩ := h
  rw [List.getElem?_append_left hl] at h1
  exact ⟨a, b, c, h1, h2⟩
theorem Jar.apps (h : Jar T l n) : Jar (T ++ cs) l n := by
  have hl := h.lt
  obtain ⟨a, b, c, h1, h2⟩ := h
  exact ⟨a, b, c, by rw [List.getElem?_append_left hl]; exact h1, h2⟩
/-- draws k times at most, tells P -/
def Draws (l n k : Nat) (f : Store → R U) (P : U → Prop) : Prop := ∀ S, Jar S l n → wp (f S) fun u S' => P u ∧ Jar S' l (n + k) ∧ Kp l S S'
theorem Draws.at {f : Store → R U} {P : U → Prop} (h : Draws l n k f P) (j : Jar T l n) (cs : Store) : wp (f (T ++ cs)) fun u S' => ∃ T', S' = T' ++ cs ∧ P u ∧ Jar T' l (n + k) ∧ Kp l T T' := by
  refine wp_mono (h (T ++ cs) j.apps) fun u S' ⟨h1, h2, h3⟩ => ?_
  obtain ⟨T', e, h4⟩ := h3.split j.lt
  subst e
  exact ⟨T', rfl, h1, h2.left (by rw [h4.len]; exact j.lt), h4⟩
theorem d_take {many : Int} (hm : 0 < many) (hb : many < 2 ^ 60) (hn : n < 1000000000) : Draws l n 1 (M.m__law_take [.loc l, .d (.int many)]) fun u => ∃ r : Int, u = .d (.int r) ∧ 0 ≤ r ∧ r < many := fun S j => by
  obtain ⟨r, S', e, h1, h2, h3, h4⟩ := s_take j hm hb hn
  exact wp_of e ⟨⟨r, rfl, h1, h2⟩, h3, h4⟩
theorem d_one {p : D → Prop} (hp : ∀ x ∈ xs, p x) (h0 : xs ≠ []) (hl : xs.length < 2 ^ 60) (hn : n < 1000000000) : Draws l n 1 (M.m__law_one [.loc l, .d (.list xs)]) fun u => ∃ x, u = .d x ∧ p x := fun S j => by
  obtain ⟨x, S', h1, e, h2, h3⟩ := s_draw hp j h0 hl hn
  exact wp_of e ⟨⟨x, rfl, h1⟩, h2, h3⟩
/-! ### a list in a drawn order -/
structure Sees (u : U) (S : Store) (xs : List D) : Prop where
  v : viewS u S = some xs
  n : ∀ cs, uLen [u] (S ++ cs) = .ok (.d (.int (xs.length : Int))) (S ++ cs)
theorem sees_lst : Sees (.d (.list xs)) S xs := ⟨rfl, fun _ => rfl⟩
theorem sees_tup : Sees (.d (.tuple xs)) S xs := ⟨rfl, fun _ => rfl⟩
theorem sees_loc {f : Nat} (h : S[f]? = some (some xs)) : Sees (.loc f) S xs := by
  have hf := (List.getElem?_eq_some_iff.mp h).1
  refine ⟨by simp [viewS, viewL, h], fun cs => ?_⟩
  simp [uLen, viewL, List.getElem?_append_left hf, h]
theorem c0 {a b : Option (List D)} : (T ++ [a, b])[T.length]? = some a := by simp
theorem c1 {a b : Option (List D)} : (T ++ [a, b])[T.length + 1]? = some b := by simp
theorem cs0 {a b a' : Option (List D)} : (T ++ [a, b]).set T.length a' = T ++ [a', b] := by simp
theorem cs1 {a b b' : Option (List D)} : (T ++ [a, b]).set (T.length + 1) b' = T ++ [a, b'] := by simp
theorem g0 {a b c : Option (List D)} : (T ++ [a, b, c])[T.length]? = some a := by simp
theorem g1 {a b c : Option (List D)} : (T ++ [a, b, c])[T.length + 1]? = some b := by simp
theorem g2 {a b c : Option (List D)} : (T ++ [a, b, c])[T.length + 1 + 1]? = some c := by
  rw [List.getElem?_append_right (by omega), show T.length + 1 + 1 - T.length = 2 by omega]; rfl
theorem gs0 {a b c z : Option (List D)} : (T ++ [a, b, c]).set T.length z = T ++ [z, b, c] := by simp
theorem gs1 {a b c z : Option (List D)} : (T ++ [a, b, c]).set (T.length + 1) z = T ++ [a, z, c] := by simp
theorem gs2 {a b c z : Option (List D)} : (T ++ [a, b, c]).set (T.length + 1 + 1) z = T ++ [a, b, z] := by
  rw [List.set_append_right _ _ (by omega), show T.length + 1 + 1 - T.length = 2 by omega]; rfl
theorem seqIx {r : Int} {m : Nat} (h0 : 0 ≤ r) (h : r < m) : seqIndex? r m = some r.toNat := by
  unfold seqIndex?
  simp
  omega
theorem erase_perm : ∀ (xs : List D) (k : Nat) (y : D), xs[k]? = some y → xs.Perm (y :: xs.eraseIdx k)
  | [], _, _, h => by simp at h
  | x :: xs, 0, y, h => by
    simp at h
    subst h
    exact List.Perm.refl _
  | x :: xs, k + 1, y, h => by
    rw [List.eraseIdx_cons_succ]
    exact (List.Perm.cons x (erase_perm xs k y (by simpa using h))).trans (List.Perm.swap y x _)
theorem s_mixed (hs : Sees u S xs) (hj : Jar S l n) (hl : xs.length < 1000) (hn : n + xs.length < 1000000000) :
    wp (M.m__law_mixed [.loc l, u] S) fun v S' => ∃ ys T, v = .loc S.length ∧ S' = T ++ [some ys] ∧ ys.Perm xs ∧ Jar T l (n + xs.length) ∧ Kp l S T := by
  refine w_run ?_
  show wo (M.g__law_mixed [some (.loc l), some u, none, none, none] S) _
  unfold M.g__law_mixed
  refine w_seq ?_
  have e1 : (fCons (fN uListL (fCons (fVar 1) (fNil))) (fCons (fN mkLoc (fNil)) (fNil))) [some (.loc l), some u, none, none, none] S = .ok [.loc S.length, .loc (S.length + 1)] (S ++ [some xs, some []]) := by
    simp [uListL, hs.v]
  simp only [gPar, e1, st_ok, wo_nx, List.set_cons_succ, List.set_cons_zero]
  refine w_for ?_
  have hn1 := hs.n [some xs, some []]
  have e2 : sRng1 [.d (.int (xs.length : Int))] (S ++ [some xs, some []]) = .ok (rngD 0 xs.length) (S ++ [some xs, some []]) := by rw [rng1_i (by omega) (by omega), Int.toNat_natCast]
  refine wo_for (fun ds i ρ S' => ∃ T left made r, S' = T ++ [some left, some made] ∧ Kp l S T ∧ Jar T l (n + i) ∧ (left ++ made).Perm xs ∧ made.length = i ∧ ρ = [some (.loc l), some u, some (.loc S.length), some (.loc (S.length + 1)), r])
    (wp_of (a := rngD 0 xs.length) (S := S ++ [some xs, some []]) (by simp [sN, hn1, e2]) ⟨⟨S, xs, [], none, rfl, Kp.refl, hj, by simp, rfl, rfl⟩, fun i d ρ S' hd ⟨T, left, made, r, e, h1, h2, h3, h4, h5⟩ => ?_, fun ρ S' ⟨T, left, made, r, e, h1, h2, h3, h4, h5⟩ => ?_⟩)
  · subst e h5
    obtain ⟨hi, rfl⟩ := rngD_get _ _ _ _ hd
    refine ⟨_, rfl, ?_⟩
    have tl : S.length = T.length := h1.len.symm
    rw [tl]
    have ll : left.length + made.length = xs.length := by rw [← List.length_append]; exact h3.length_eq
    have v0 : ∀ T : Store, isL (.loc T.length) (T ++ [some left, some made]) = true := fun T => by simp [isL, viewL]
    have v1 : isL (.loc (T.length + 1)) (T ++ [some left, some made]) = true := by simp [isL, viewL]
    have n0 : uLen [.loc T.length] (T ++ [some left, some made]) = .ok (.d (.int (left.length : Int))) (T ++ [some left, some made]) := by simp [uLen, viewL]
    simp only [List.set_cons_succ, List.set_cons_zero, M.b1__law_mixed, gDrop, fML, fCons, fNil, fCall, fN, e_varS, e_var0, bind_ok, v1, v0, n0, if_true, wo_st, wp_bind]
    refine wp_mono ((d_take (many := (left.length : Int)) (by omega) (by omega) (by omega)).at h2 [some left, some made]) fun w S2 ⟨T', e, ⟨q, hq, q0, q1⟩, j2, k2⟩ => ?_
    subst e hq
    have hk : q.toNat < left.length := by omega
    have ep : uPopAt (.loc T.length) [.d (.int q)] (T' ++ [some left, some made]) = .ok (.d left[q.toNat]) (T' ++ [some (left.eraseIdx q.toNat), some made]) := by
      unfold uPopAt
      rw [← k2.len]
      simp only [c0, cs0]
      rw [if_pos (by omega), seqIx q0 q1]
      simp [hk]
    have ea : uApp (.loc (T.length + 1)) [.d left[q.toNat]] (T' ++ [some (left.eraseIdx q.toNat), some made]) = .ok (.d .none) (T' ++ [some (left.eraseIdx q.toNat), some (made ++ [left[q.toNat]])]) := by
      unfold uApp
      rw [← k2.len]
      simp only [frz_d, c1, cs1]
      rw [if_pos (by omega)]
    simp only [ep, ea, wp_ok, wo_nx]
    refine ⟨T', _, _, _, rfl, h1.trans k2, by rw [show n + (i + 1) = n + i + 1 by omega]; exact j2, ?_, by simp [h4], by rw [k2.len.symm]⟩
    refine List.Perm.trans ?_ h3
    have pe := erase_perm left q.toNat _ (List.getElem?_eq_getElem hk)
    refine List.Perm.trans ?_ (pe.symm.append_right made)
    rw [List.cons_append, ← List.append_assoc]
    exact List.perm_append_comm
  · subst e h5
    rw [rngD_len] at h4 h2
    have ll : left.length + made.length = xs.length := by rw [← List.length_append]; exact h3.length_eq
    have l0 : left = [] := List.eq_nil_of_length_eq_zero (by omega)
    subst l0
    have tl : S.length = T.length := h1.len.symm
    rw [tl]
    refine w_ret ?_
    have er : retn T.length (.loc (T.length + 1)) (T ++ [some [], some made]) = .ok (.loc T.length) (T ++ [some made]) := by
      unfold retn
      simp
    simp only [e_varS, e_var0, wp_ok, er]
    exact ⟨made, T, trivial, rfl, by simpa using h3, h2, h1⟩
end
/-! ### comprehensions whose items are told by a property -/
theorem lc_loopE {tg : U → Vr → Option Vr} {fe : Vr → Store → R U} {ρ : Vr} {S : Store} {P : D → D → Prop} : ∀ (ds acc : List D), acc.length + ds.length ≤ 1000000 →
    (∀ d ∈ ds, ∃ ρ1, tg (.d d) ρ = some ρ1 ∧ ∀ acc, ∃ y, fe ρ1 (S ++ [some acc]) = .ok (.d y) (S ++ [some acc]) ∧ P d y) → ∃ ys : List D, lcLoop S.length tg fYes fe ρ ds (S ++ [some acc]) = .ok () (S ++ [some (acc ++ ys)]) ∧ ys.length = ds.length ∧ ∀ (i : Nat) (d y : D), ds[i]? = some d → ys[i]? = some y → P d y
  | [], acc, _, _ => ⟨[], by rw [List.append_nil]; rfl, rfl, fun i d y h => by simp at h⟩
  | d :: ds, acc, hl, h => by
    rw [List.length_cons] at hl
    obtain ⟨ρ1, e1, e2⟩ := h d List.mem_cons_self
    obtain ⟨y, e3, py⟩ := e2 acc
    obtain ⟨ys, ih, il, ip⟩ := lc_loopE (tg := tg) (fe := fe) (ρ := ρ) (S := S) (P := P) ds (acc ++ [y]) (by rw [List.length_append, List.length_singleton]; omega) fun d' hd => h d' (List.mem_cons_of_mem _ hd)
    refine ⟨y :: ys, ?_, by rw [List.length_cons, List.length_cons, il], fun i d' y' h1 h2 => ?_⟩
    · unfold lcLoop
      simp only [e1, fYes, R.bnd0, if_true, e3, frz, at_end]
      rw [if_pos (by omega), set_end, ih, List.append_assoc]
      rfl
    · cases i with
      | zero =>
        simp at h1 h2
        rw [← h1, ← h2]
        exact py
      | succ i => exact ip i d' y' (by simpa using h1) (by simpa using h2)
theorem lc_ex {src : Vr → Store → R (List D)} {tg : U → Vr → Option Vr} {fe : Vr → Store → R U} {vs : List Nat} {ρ : Vr} {S S1 : Store} {ds : List D} (P : D → D → Prop) (h : src ρ S = .ok ds S1) (hl : ds.length ≤ 1000000)
    (hf : ∀ d ∈ ds, ∃ ρ1, tg (.d d) (wipeU ρ vs) = some ρ1 ∧ ∀ acc, ∃ y, fe ρ1 (S1 ++ [some acc]) = .ok (.d y) (S1 ++ [some acc]) ∧ P d y) :
    ∃ ys, fLc src tg fYes fe vs ρ S = .ok (.d (.list ys)) S1 ∧ ys.length = ds.length ∧ ∀ (i : Nat) (d y : D), ds[i]? = some d → ys[i]? = some y → P d y := by
  obtain ⟨ys, e, el, ep⟩ := lc_loopE (S := S1) (ρ := wipeU ρ vs) ds [] (by simpa using hl) hf
  refine ⟨ys, ?_, el, ep⟩
  unfold fLc lcRun
  rw [h]
  simp only [R.bind, e, R.bnd0, at_end, List.take_left, List.nil_append]
theorem ex_mem {ds ys : List D} {P : D → D → Prop} (hl : ys.length = ds.length) (h : ∀ (i : Nat) (d y : D), ds[i]? = some d → ys[i]? = some y → P d y) : ∀ y ∈ ys, ∃ d ∈ ds, P d y := fun y hy => by
  obtain ⟨i, hi⟩ := List.mem_iff_getElem?.mp hy
  have := (List.getElem?_eq_some_iff.mp hi).1
  have hd : ds[i]? = some ds[i] := List.getElem?_eq_getElem (by omega)
  exact ⟨_, List.mem_of_getElem? hd, h i _ y hd hi⟩
end Z

/-! Z34: drawn yards. -/
namespace Z
open PySem
theorem rate_frac {a b : Int} (h1 : 1 ≤ a) (h2 : a ≤ 1000000) (h3 : 1 ≤ b) (h4 : b ≤ 1000) : Rt (Rat.divInt a b) := by
  have hg : 0 < b.gcd a := Nat.gcd_pos_of_pos_left _ (by omega)
  have hd : (b.gcd a : Int) ∣ a := Int.gcd_dvd_right ..
  have e1 : (Rat.divInt a b).num = a / (b.gcd a : Int) := by rw [Rat.num_divInt, Int.sign_eq_one_of_pos (by omega), Int.one_mul]
  have e2 : (Rat.divInt a b).den = b.natAbs / b.gcd a := by rw [Rat.den_divInt, if_neg (by omega)]
  refine ⟨?_, ?_, ?_⟩
  · rw [e1]
    exact (Int.le_ediv_iff_mul_le (by omega)).mpr (by rw [Int.one_mul]; exact Int.le_of_dvd (by omega) hd)
  · rw [e1]
    exact Int.le_trans (Int.ediv_le_self _ (by omega)) h2
  · rw [e2]
    exact Nat.le_trans (Nat.div_le_self _ _) (by omega)
/-- a pair of ints worth K / 120 -/
def RK (K : Int) (x : D) : Prop := ∃ a b : Int, x = .tuple [.int a, .int b] ∧ 0 < b ∧ b ≤ 120 ∧ a * 120 = K * b
def RP (lo hi : Int) (x : D) : Prop := ∃ K, RK K x ∧ lo ≤ K ∧ K ≤ hi
theorem rk_mk {a b K : Int} (h1 : 0 < b := by decide) (h2 : b ≤ 120 := by decide) (h : a * 120 = K * b := by decide) : RK K (.tuple [.int a, .int b]) := ⟨a, b, rfl, h1, h2, h⟩
theorem top_small {a b k : Int} (h1 : 0 < b) (h2 : b ≤ 120) (h : a * 120 = k * b) (h3 : -2000 ≤ k) (h4 : k ≤ 2000) : -2000 ≤ a ∧ a ≤ 2000 := by
  have u : k * b ≤ 2000 * b := Int.mul_le_mul_of_nonneg_right h4 (by omega)
  have v : -2000 * b ≤ k * b := Int.mul_le_mul_of_nonneg_right h3 (by omega)
  omega
section
variable {S : Store}
/-- a fraction of small parts worth K / 120 -/
theorem frac_rk {N D K : Int} (hD : 0 < D) (hb : D < 2 ^ 20) (h : N * 120 = K * D) : ∃ x, M.m__law_op_frac [.d (.int N), .d (.int D)] S = .ok (.d x) S ∧ RK K x := by
  refine ⟨_, s_frac (n := 20) hD (by omega) (by decide), (Rat.divInt N D).num, (Rat.divInt N D).den, rfl, ?_⟩
  have hp := (Rat.divInt N D).den_pos
  have e := Rat.num_divInt_den (Rat.divInt N D)
  rw [Rat.divInt_eq_divInt_iff (by omega) (by omega)] at e
  have cop := (Rat.divInt N D).reduced
  generalize (Rat.divInt N D).num = n at *
  generalize (Rat.divInt N D).den = d at *
  have key : n * 120 = K * d := by
    have : (n * 120) * D = (K * d) * D := by
      calc (n * 120) * D = (n * D) * 120 := by grind
        _ = (N * 120) * d := by rw [e]; grind
        _ = (K * d) * D := by rw [h]; grind
    exact Int.eq_of_mul_eq_mul_right (by omega) this
  have dv : d ∣ 120 := by
    have h3 : (d : Int) ∣ n * 120 := ⟨K, by rw [key, Int.mul_comm]⟩
    have h4 : d ∣ n.natAbs * 120 := by
      have := Int.natAbs_dvd_natAbs.mpr h3
      rwa [Int.natAbs_natCast, Int.natAbs_mul] at this
    exact Nat.Coprime.dvd_of_dvd_mul_left (Nat.Coprime.symm cop) h4
  have := Nat.le_of_dvd (by decide) dv
  exact ⟨by omega, by omega, key⟩
theorem plus_rk {x y : D} {k m : Int} (hx : RK k x) (hy : RK m y) (k1 : -1000 ≤ k) (k2 : k ≤ 1000) (m1 : -1000 ≤ m) (m2 : m ≤ 1000) : ∃ z, M.m__law_op_plus [.d x, .d y] S = .ok (.d z) S ∧ RK (k + m) z := by
  obtain ⟨a, b, rfl, b1, b2, e⟩ := hx
  obtain ⟨c, d, rfl, d1, d2, f⟩ := hy
  have ta := top_small b1 b2 e (by omega) (by omega)
  have tc := top_small d1 d2 f (by omega) (by omega)
  have u1 : uMul (.d (.int a)) (.d (.int d)) S = .ok (.d (.int (a * d))) S := mul_ij (m := 20) (n := 20) (by omega) (by omega) (by decide)
  have u2 : uMul (.d (.int c)) (.d (.int b)) S = .ok (.d (.int (c * b))) S := mul_ij (m := 20) (n := 20) (by omega) (by omega) (by decide)
  have u3 : uMul (.d (.int b)) (.d (.int d)) S = .ok (.d (.int (b * d))) S := mul_ij (m := 20) (n := 20) (by omega) (by omega) (by decide)
  have bd : b * d ≤ 120 * 120 := Int.mul_le_mul b2 d2 (by omega) (by decide)
  obtain ⟨z, ez, hz⟩ := frac_rk (S := S) (N := a * d + c * b) (D := b * d) (K := k + m) (Int.mul_pos b1 d1) (by omega) (by grind)
  exact ⟨z, by simp [M.m__law_op_plus, M.g__law_op_plus, ix_p0, ix_p1, u1, u2, u3, ez], hz⟩
/-- half of it -/
theorem half_rk {x : D} {k : Int} (hx : RK (2 * k) x) (k1 : -500 ≤ k) (k2 : k ≤ 500) : ∃ z, M.m__law_op_times [.d x, .d (.int 1), .d (.int 2)] S = .ok (.d z) S ∧ RK k z := by
  obtain ⟨a, b, rfl, b1, b2, e⟩ := hx
  have ta := top_small b1 b2 e (by omega) (by omega)
  have u1 : uMul (.d (.int a)) (.d (.int 1)) S = .ok (.d (.int a)) S := by
    rw [mul_ij (m := 20) (n := 20) (by omega) (by omega) (by decide), Int.mul_one]
  have u2 : uMul (.d (.int b)) (.d (.int 2)) S = .ok (.d (.int (b * 2))) S := mul_ij (m := 20) (n := 20) (by omega) (by omega) (by decide)
  obtain ⟨z, ez, hz⟩ := frac_rk (S := S) (N := a) (D := b * 2) (K := k) (by omega) (by omega) (by grind)
  exact ⟨z, by simp [M.m__law_op_times, M.g__law_op_times, ix_p0, ix_p1, u1, u2, ez], hz⟩
/-- even sizes: doubled, in hundred-twentieths -/
theorem Hs_small {m : Nat} (h : m ≤ 5) (hm : 0 < m) : ∃ e : Int, 60 ≤ e ∧ e ≤ 185 ∧ (1 + Hs (m - 1)).num * 120 = 2 * e * (1 + Hs (m - 1)).den ∧ (1 + Hs (m - 1)).den ≤ 120 := by
  have : m = 1 ∨ m = 2 ∨ m = 3 ∨ m = 4 ∨ m = 5 := by omega
  rcases this with rfl | rfl | rfl | rfl | rfl
  · exact ⟨60, by decide, by decide, by decide +kernel, by decide +kernel⟩
  · exact ⟨120, by decide, by decide, by decide +kernel, by decide +kernel⟩
  · exact ⟨150, by decide, by decide, by decide +kernel, by decide +kernel⟩
  · exact ⟨170, by decide, by decide, by decide +kernel, by decide +kernel⟩
  · exact ⟨185, by decide, by decide, by decide +kernel, by decide +kernel⟩
theorem pq_one : PyData.tuple [.int 1, .int 1] = pq 1 := rfl
theorem replicate_one (x : D) : ∀ n : Nat, (List.replicate n [x]).flatten = List.replicate n x
  | 0 => rfl
  | n + 1 => by rw [List.replicate_succ, List.flatten_cons, replicate_one x n]; rfl
/-- the loop that adds up -/
theorem corner_even {m : Nat} {K : Po} {b : Vr → Store → O} {l : Nat} (hm : m ≤ 5) (h0 : 0 < m)
    (k : ∀ x e r, RK (2 * e) x → 60 ≤ e → e ≤ 185 → wo (b [some (.loc l), some (.d (.int (m : Int))), some (.d x), r, none, none, none, none] S) K) :
    wo (gSeq (gFor (sN sRng2 (fCons (fC (.d (.int 1))) (fCons (fVar 1) (fNil)))) (aName 3) M.b1__law_op_corner) b [some (.loc l), some (.d (.int (m : Int))), some (.d (.tuple [.int 1, .int 1])), none, none, none, none, none] S) K := by
  refine w_for ?_
  have e1 : sRng2 [.d (.int 1), .d (.int (m : Int))] S = .ok (rngD 1 (m - 1)) S := by
    rw [rng2_i (by omega) (by omega) (by omega) (by omega)]
    congr 2
    omega
  refine wo_for (fun ds i ρ T => T = S ∧ ∃ r, ρ = [some (.loc l), some (.d (.int (m : Int))), some (.d (pq (1 + Hs i))), r, none, none, none, none])
    (wp_of (a := rngD 1 (m - 1)) (S := S) (by simp [sN, e1]) ⟨⟨rfl, none, by rw [pq_one, show (1 : Rat) + Hs 0 = 1 from Rat.add_zero 1]⟩, fun i d ρ T hd ⟨hT, r, e⟩ => ?_, fun ρ T ⟨hT, r, e⟩ => ?_⟩)
  · subst hT e
    obtain ⟨hi, rfl⟩ := rngD_get _ _ _ _ hd
    refine ⟨_, rfl, ?_⟩
    have eo : PyData.tuple [.int 1, .int (1 + (i : Int))] = pq (Rat.divInt 1 (1 + (i : Int))) := one_div (by omega)
    have hp := s_plus (S := T) (add_bd bd_1 (bd_Hs i (by omega))) (bd_one (b := 1 + (i : Int)) (n := 8) (by omega) (by omega)) (by omega)
    have eh : 1 + Hs i + Rat.divInt 1 (1 + (i : Int)) = 1 + Hs (i + 1) := by
      rw [Hs, Rat.add_assoc, Int.add_comm]
    rw [eh, ← eo] at hp
    simp [M.b1__law_op_corner, hp]
  · subst hT e
    rw [rngD_len]
    obtain ⟨e, h1, h2, h3, h4⟩ := Hs_small hm h0
    have hp := (1 + Hs (m - 1)).den_pos
    exact k _ e r ⟨_, _, rfl, by omega, by omega, h3⟩ h1 h2
/-- what stands in a corner's row -/
def Cor (ys : List D) : Prop := ∀ y ∈ ys, ∃ K, RK K y ∧ 120 ≤ K ∧ K ≤ 600
theorem s_corner {m l n : Nat} (hm : m ≤ 5) (hj : Jar S l n) (hn : n + 20 < 1000000) :
    wp (M.m__law_op_corner [.loc l, .d (.int (m : Int))] S) fun u S' => ∃ ys T, u = .loc S.length ∧ S' = T ++ [some ys] ∧ ys.length = m ∧ Cor ys ∧ Jar T l (n + 10) ∧ Kp l S T := by
  refine w_run ?_
  show wo (M.g__law_op_corner [some (.loc l), some (.d (.int (m : Int))), none, none, none, none, none, none] S) _
  unfold M.g__law_op_corner
  by_cases h0 : m = 0
  · subst h0
    refine w_if ?_
    simp [retn]
    exact ⟨[], S, ⟨rfl, rfl⟩, rfl, fun y h => (by cases h), hj.mono (by omega), Kp.refl⟩
  · have hne : ¬ ((m : Int) = 0) := by omega
    refine w_ifN (S1 := S) (by simp [h0]) ?_
    refine w_set (S1 := S) (u := .d (.tuple [.int 1, .int 1])) (by simp) ?_
    refine corner_even hm (by omega) fun x e r hx he1 he2 => ?_
    -- the ladder
    have e1 : sRng1 [.d (.int (m : Int))] S = .ok (rngD 0 m) S := by rw [rng1_i (by omega) (by omega), Int.toNat_natCast]
    have lad := lc_pure (src := sN sRng1 (fCons (fVar 1) (fNil))) (tg := aName 3) (fe := M.e2__law_op_corner) (vs := [3]) (ρ := [some (.loc l), some (.d (.int (m : Int))), some (.d x), r, none, none, none, none]) (S := S) (S1 := S) (ds := rngD 0 m)
      (f := fun d => match d with | .int i => .tuple [.int (if (m : Int) < i + 2 then (m : Int) else i + 2), .int 1] | d => d) (by simp [sN, e1]) (by rw [rngD_len]; omega) fun d hd => by
      obtain ⟨i, hi⟩ := List.mem_iff_getElem?.mp hd
      obtain ⟨h1, rfl⟩ := rngD_get _ _ _ _ hi
      refine ⟨_, rfl, fun acc => ?_⟩
      simp [M.e2__law_op_corner, wipeU, uMin]
    generalize hL : (rngD 0 m).map (fun d => match d with | .int i => PyData.tuple [.int (if (m : Int) < i + 2 then (m : Int) else i + 2), .int 1] | d => d) = L at lad
    have hLl : L.length = m := by rw [← hL, List.length_map, rngD_len]
    have hLr : ∀ y ∈ L, ∃ k : Int, RK (120 * k) y ∧ 1 ≤ k ∧ k ≤ 5 := fun y hy => by
      rw [← hL] at hy
      obtain ⟨d, hd, rfl⟩ := List.mem_map.mp hy
      obtain ⟨i, hi⟩ := List.mem_iff_getElem?.mp hd
      obtain ⟨h1, rfl⟩ := rngD_get _ _ _ _ hi
      refine ⟨if (m : Int) < 0 + (i : Int) + 2 then (m : Int) else 0 + (i : Int) + 2, ⟨_, _, rfl, by decide, by decide, by rw [Int.mul_comm, Int.mul_one]⟩, ?_, ?_⟩ <;> split <;> omega
    refine w_set lad ?_
    simp only [List.set_cons_succ, List.set_cons_zero]
    refine w_setW ?_
    simp only [fCall, fN, fCons, fNil, fC, e_varS, e_var0, bind_ok]
    refine wp_mono (d_take (many := 3) (by decide) (by decide) (by omega) S hj) fun u S1 ⟨⟨q, hq, q0, q3⟩, j1, k1⟩ => ?_
    subst hq
    simp only [List.set_cons_succ, List.set_cons_zero]
    by_cases h1 : m = 1
    · subst h1
      refine w_if ?_
      have ek : (S1 ++ [some [PyData.tuple [.int 1, .int 1]]]).take S.length = S1 := by rw [← k1.len, List.take_left]
      simp [retn, ← k1.len]
      refine ⟨_, S1, ⟨rfl, rfl⟩, rfl, fun y h => ?_, j1.mono (by omega), k1⟩
      rw [List.mem_singleton.mp h]
      exact ⟨120, rk_mk, by decide, by decide⟩
    · have hne1 : ¬ ((m : Int) = 1) := by omega
      refine w_ifN (S1 := S1) (by simp [hne1]) ?_
      have fin : ∀ (row : List D) (r7 : Option U), row.length = m → Cor row → wo (gRet (fCall M.m__law_mixed (fCons (fVar 0) (fCons (fVar 6) fNil))) [some (.loc l), some (.d (.int (m : Int))), some (.d x), r, some (.d (.list L)), some (.d (.int q)), some (.d (.list row)), r7] S1) (PoD S.length fun u S' => ∃ ys T, u = .loc S.length ∧ S' = T ++ [some ys] ∧ ys.length = m ∧ Cor ys ∧ Jar T l (n + 10) ∧ Kp l S T) := fun row r7 hl hc => by
        refine w_ret ?_
        simp only [fCall, fN, fCons, fNil, e_varS, e_var0, bind_ok]
        refine wp_mono (s_mixed (u := .d (.list row)) (xs := row) sees_lst j1 (by omega) (by omega)) fun v S' ⟨ys, T, hv, hS, hp, j2, k2⟩ => ?_
        subst hv hS
        have kl : S1.length = S.length := k1.len
        have kt : T.length = S.length := k2.len.trans kl
        have er : retn S.length (.loc S1.length) (T ++ [some ys]) = .ok (.loc S.length) (T ++ [some ys]) := by
          unfold retn
          rw [kl, ← kt]
          simp
        rw [er]
        simp only [wp_ok]
        refine ⟨ys, T, trivial, rfl, hp.length_eq.trans hl, fun y hy => hc y (hp.mem_iff.mp hy), j2.mono (by omega), k1.trans k2⟩
      by_cases hq0 : q = 0
      · subst hq0
        have em : f2 uMul (fN mkLst (fCons (fVar 2) (fNil))) (fVar 1) [some (.loc l), some (.d (.int (m : Int))), some (.d x), r, some (.d (.list L)), some (.d (.int 0)), none, none] S1 = .ok (.d (.list (List.replicate m x))) S1 := by
          simp [uMul, viewM, replicate_one]
          omega
        refine w_set (S1 := S1) (u := .d (.list (List.replicate m x))) (by simpa using em) ?_
        simp only [List.set_cons_succ, List.set_cons_zero]
        refine w_ifN (S1 := S1) (by simp) ?_
        exact fin _ _ (by simp) fun y hy => by
          rw [(List.mem_replicate.mp hy).2]
          exact ⟨2 * e, hx, by omega, by omega⟩
      · refine w_set (S1 := S1) (u := .d (.list L)) (by simp [hq0]) ?_
        simp only [List.set_cons_succ, List.set_cons_zero]
        by_cases hq2 : q = 2
        · subst hq2
          obtain ⟨ys, em, el, ep⟩ := lc_ex (src := sSeq (fVar 4)) (tg := aName 7) (fe := M.e3__law_op_corner) (vs := [7]) (ρ := [some (.loc l), some (.d (.int (m : Int))), some (.d x), r, some (.d (.list L)), some (.d (.int 2)), some (.d (.list L)), none]) (S := S1) (S1 := S1) (ds := L)
            (fun _ y => ∃ K, RK K y ∧ 120 ≤ K ∧ K ≤ 600) (by simp [sSeq, seqD, frz]) (by omega) fun d hd => by
            obtain ⟨k, hk, k1, k2⟩ := hLr d hd
            refine ⟨_, rfl, fun acc => ?_⟩
            obtain ⟨z, e1, hz⟩ := plus_rk (S := S1 ++ [some acc]) hx hk (by omega) (by omega) (by omega) (by omega)
            rw [show 2 * e + 120 * k = 2 * (e + 60 * k) by omega] at hz
            obtain ⟨w, e2, hw⟩ := half_rk (S := S1 ++ [some acc]) hz (by omega) (by omega)
            exact ⟨w, by simp [M.e3__law_op_corner, wipeU, e1, e2], _, hw, by omega, by omega⟩
          refine w_if ?_
          have ht : fTst (f2 uEq (fVar 5) (fC (.d (.int 2)))) [some (.loc l), some (.d (.int (m : Int))), some (.d x), r, some (.d (.list L)), some (.d (.int 2)), some (.d (.list L)), none] S1 = .ok true S1 := by simp
          refine wp_of ht ?_
          rw [if_pos rfl, gSet, wo_st]
          refine wp_of em ?_
          simp only [wo_nx, List.set_cons_succ, List.set_cons_zero]
          exact fin _ _ (el.trans hLl) fun y hy => by
            obtain ⟨_, _, h⟩ := ex_mem el ep y hy
            exact h
        · refine w_ifN (S1 := S1) (by simp [hq2]) ?_
          exact fin _ _ hLl fun y hy => by
            obtain ⟨k, hk, k1, k2⟩ := hLr y hy
            exact ⟨_, hk, by omega, by omega⟩
end
end Z

/-! Z35: _law_op_yard. -/
namespace Z
open PySem
section
variable {S T S' : Store} {l n : Nat}
theorem d1_at {a : Option (List D)} : (T ++ [a])[T.length]? = some a := by simp
/-- raw sizes: corners moved, drawn halves -/
def Raw (ys : List D) : Prop := ∀ y ∈ ys, ∃ K, RK K y ∧ 96 ≤ K ∧ K ≤ 840
theorem steps_rk : ∀ x ∈ [PyData.tuple [.int 1, .int 20], .tuple [.int (-1), .int 20], .tuple [.int 1, .int 2], .tuple [.int 1, .int 1], .tuple [.int (-1), .int 10]], ∃ K, RK K x ∧ -12 ≤ K ∧ K ≤ 120 := by
  intro x hx
  simp only [List.mem_cons, List.not_mem_nil, or_false] at hx
  rcases hx with rfl | rfl | rfl | rfl | rfl
  · exact ⟨6, rk_mk, by decide, by decide⟩
  · exact ⟨-6, rk_mk, by decide, by decide⟩
  · exact ⟨60, rk_mk, by decide, by decide⟩
  · exact ⟨120, rk_mk, by decide, by decide⟩
  · exact ⟨-12, rk_mk, by decide, by decide⟩
/-- the rates -/
def IsRate (x : D) : Prop := ∃ a b : Int, x = .tuple [.int a, .int b] ∧ 1 ≤ a ∧ a ≤ 3 ∧ 1 ≤ b ∧ b ≤ 3 ∧ x = pq (Rat.divInt a b)
theorem rates_ok : ∀ x ∈ [PyData.tuple [.int 1, .int 1], .tuple [.int 1, .int 1], .tuple [.int 1, .int 2], .tuple [.int 3, .int 2], .tuple [.int 2, .int 1], .tuple [.int 1, .int 3]], IsRate x := by
  intro x hx
  simp only [List.mem_cons, List.not_mem_nil, or_false] at hx
  rcases hx with rfl | rfl | rfl | rfl | rfl | rfl
  · exact ⟨1, 1, rfl, by decide, by decide, by decide, by decide, by kernel_rfl⟩
  · exact ⟨1, 1, rfl, by decide, by decide, by decide, by decide, by kernel_rfl⟩
  · exact ⟨1, 2, rfl, by decide, by decide, by decide, by decide, by kernel_rfl⟩
  · exact ⟨3, 2, rfl, by decide, by decide, by decide, by decide, by kernel_rfl⟩
  · exact ⟨2, 1, rfl, by decide, by decide, by decide, by decide, by kernel_rfl⟩
  · exact ⟨1, 3, rfl, by decide, by decide, by decide, by decide, by kernel_rfl⟩
theorem IsRate.rt {x : D} (h : IsRate x) : ∃ q, x = pq q ∧ Rt q := by
  obtain ⟨a, b, _, h1, h2, h3, h4, e⟩ := h
  exact ⟨_, e, rate_frac h1 (by omega) h3 (by omega)⟩
/-- a raw size times a rate -/
theorem frac_size {y x : D} {K : Int} (hy : RK K y) (h1 : 96 ≤ K) (h2 : K ≤ 840) (hx : IsRate x) : ∃ q, fCall M.m__law_op_frac (fCons (f2 uMul (f2 uIx (fC (.d y)) (fC (.d (.int 0)))) (f2 uIx (fC (.d x)) (fC (.d (.int 0))))) (fCons (f2 uMul (f2 uIx (fC (.d y)) (fC (.d (.int 1)))) (f2 uIx (fC (.d x)) (fC (.d (.int 1))))) (fNil))) [] S = .ok (.d (pq q)) S ∧ Rt q := by
  obtain ⟨a, b, rfl, b1, b2, e⟩ := hy
  obtain ⟨c, d, rfl, c1, c2, d1, d2, _⟩ := hx
  have ta := top_small b1 b2 e (by omega) (by omega)
  have u1 : uMul (.d (.int a)) (.d (.int c)) S = .ok (.d (.int (a * c))) S := mul_ij (m := 20) (n := 20) (by omega) (by omega) (by decide)
  have u2 : uMul (.d (.int b)) (.d (.int d)) S = .ok (.d (.int (b * d))) S := mul_ij (m := 20) (n := 20) (by omega) (by omega) (by decide)
  have bd : b * d ≤ 120 * 3 := Int.mul_le_mul b2 d2 (by omega) (by decide)
  have bp : 0 < b * d := Int.mul_pos b1 (by omega)
  have f := s_frac (S := S) (N := a * c) (D := b * d) (n := 20) bp (by omega) (by decide)
  refine ⟨Rat.divInt (a * c) (b * d), by simp [ix_p0, ix_p1, u1, u2, f], ?_⟩
  have ee : Rat.divInt (a * c) (b * d) = Rat.divInt (K * c) (120 * d) := (Rat.divInt_eq_divInt_iff (by omega) (by omega)).mpr (by grind)
  rw [ee]
  have kc : K * c ≤ 840 * 3 := Int.mul_le_mul h2 c2 (by omega) (by decide)
  have kp : 0 < K * c := Int.mul_pos (by omega) (by omega)
  exact rate_frac (by omega) (by omega) (by omega) (by omega)
theorem raw_set {ys : List D} {y : D} {i : Nat} (h : Raw ys) (hy : ∃ K, RK K y ∧ 96 ≤ K ∧ K ≤ 840) : Raw (ys.set i y) := fun z hz => by
  rcases List.mem_or_eq_of_mem_set hz with h1 | h1
  · exact h z h1
  · rw [h1]; exact hy
/-- bounds of a row that was moved k times -/
def Mv (k : Int) (ys : List D) : Prop := ∀ y ∈ ys, ∃ K, RK K y ∧ 120 - 12 * k ≤ K ∧ K ≤ 600 + 120 * k
theorem few_ints : ∀ x ∈ [PyData.int 0, .int 1, .int 2, .int 2, .int 3, .int 3, .int 3, .int 4, .int 4, .int 5], ∃ i : Nat, x = .int (i : Int) ∧ i ≤ 5 := by
  intro x hx
  simp only [List.mem_cons, List.not_mem_nil, or_false] at hx
  rcases hx with rfl | rfl | rfl | rfl | rfl | rfl | rfl | rfl | rfl | rfl
  · exact ⟨0, rfl, by decide⟩
  · exact ⟨1, rfl, by decide⟩
  · exact ⟨2, rfl, by decide⟩
  · exact ⟨2, rfl, by decide⟩
  · exact ⟨3, rfl, by decide⟩
  · exact ⟨3, rfl, by decide⟩
  · exact ⟨3, rfl, by decide⟩
  · exact ⟨4, rfl, by decide⟩
  · exact ⟨4, rfl, by decide⟩
  · exact ⟨5, rfl, by decide⟩
/-- the end: times the rate -/
theorem yard_end {x : D} {a0 a1 a2 a5 a6 a7 a8 a9 : Option U} {t : Nat} {ys : List D} {Q : U → Store → Prop} {m : Nat} (hx : IsRate x) (hr : Raw ys) (ht : S'[t]? = some (some ys)) (hl : ys.length ≤ 1000) (hs : m ≤ t)
    (k : ∀ (q : Rat) (qs : List Rat), x = pq q → Rt q → (∀ q ∈ qs, Rt q) → qs.length = ys.length → Q (.d (.tuple [pq q, .tuple (qs.map pq)])) (S'.take m)) :
    wo (gRet (fN mkTup (fCons (fVar 3) (fCons (fN uTupleOf (fCons (fLc (sSeq (fVar 4)) (aName 9) (fYes) (M.e3__law_op_yard) [9]) (fNil))) (fNil)))) [a0, a1, a2, some (.d x), some (.loc t), a5, a6, a7, a8, a9] S') (PoD m Q) := by
  refine w_ret ?_
  obtain ⟨zs, em, el, ep⟩ := lc_ex (src := sSeq (fVar 4)) (tg := aName 9) (fe := M.e3__law_op_yard) (vs := [9]) (ρ := [a0, a1, a2, some (.d x), some (.loc t), a5, a6, a7, a8, a9]) (S := S') (S1 := S'.set t none) (ds := ys)
    (fun _ y => ∃ q, y = pq q ∧ Rt q) (by simp [sSeq, seqD, frz, ht]) (by omega) fun d hd => by
    obtain ⟨K, hK, k1, k2⟩ := hr d hd
    refine ⟨_, rfl, fun acc => ?_⟩
    obtain ⟨q, e, hq⟩ := frac_size (S := S'.set t none ++ [some acc]) hK k1 k2 hx
    refine ⟨pq q, ?_, q, rfl, hq⟩
    simpa [M.e3__law_op_yard, wipeU] using e
  have hz : ∃ qs : List Rat, zs = qs.map pq ∧ ∀ q ∈ qs, Rt q := by
    have h : ∀ y ∈ zs, ∃ q, y = pq q ∧ Rt q := fun y hy => by
      obtain ⟨_, _, h⟩ := ex_mem el ep y hy
      exact h
    clear em ep el
    induction zs with
    | nil => exact ⟨[], rfl, fun q hq => (by cases hq)⟩
    | cons z zs ih =>
      obtain ⟨q, rfl, hq⟩ := h z List.mem_cons_self
      obtain ⟨qs, rfl, hqs⟩ := ih fun y hy => h y (List.mem_cons_of_mem _ hy)
      exact ⟨q :: qs, rfl, fun r hr => (List.mem_cons.mp hr).elim (fun e => e ▸ hq) (hqs r)⟩
  obtain ⟨qs, rfl, hqs⟩ := hz
  obtain ⟨q, rfl, hq⟩ := hx.rt
  have et : ((S'.set t none).take m) = S'.take m := by rw [List.take_set_of_le hs]
  have := k q qs rfl hq hqs (by simpa using el)
  rw [← et] at this
  simp only [fN, fCons, fNil, e_varS, e_var0, bind_ok, em, wp_bind, wp_ok, uTupleOf, viewS, viewL, mkTup, frzs_d, frzs_n, retn_d]
  simpa using this
theorem two8 : ∀ x ∈ [PyData.int 2, .int 3, .int 4, .int 5, .int 6, .int 7, .int 8], ∃ K, RK K (.tuple [x, .int 2]) ∧ 96 ≤ K ∧ K ≤ 840 := by
  intro x hx
  simp only [List.mem_cons, List.not_mem_nil, or_false] at hx
  rcases hx with rfl | rfl | rfl | rfl | rfl | rfl | rfl
  · exact ⟨120, rk_mk, by decide, by decide⟩
  · exact ⟨180, rk_mk, by decide, by decide⟩
  · exact ⟨240, rk_mk, by decide, by decide⟩
  · exact ⟨300, rk_mk, by decide, by decide⟩
  · exact ⟨360, rk_mk, by decide, by decide⟩
  · exact ⟨420, rk_mk, by decide, by decide⟩
  · exact ⟨480, rk_mk, by decide, by decide⟩
theorem one2 : ∀ x ∈ [PyData.int 1, .int 1, .int 2], ∃ i : Nat, x = .int (i : Int) ∧ i ≤ 2 := by
  intro x hx
  simp only [List.mem_cons, List.not_mem_nil, or_false] at hx
  rcases hx with rfl | rfl | rfl
  · exact ⟨1, rfl, by decide⟩
  · exact ⟨1, rfl, by decide⟩
  · exact ⟨2, rfl, by decide⟩
theorem in123 {s : Int} (s0 : 0 ≤ s) (s6 : s < 6) : uInF id (.d (.int s)) (.d (.list [.int 1, .int 2, .int 3])) S = .ok (.d (.bool (decide (1 ≤ s ∧ s ≤ 3)))) S := by
  have : s = 0 ∨ s = 1 ∨ s = 2 ∨ s = 3 ∨ s = 4 ∨ s = 5 := by omega
  rcases this with rfl | rfl | rfl | rfl | rfl | rfl <;> rfl
/-- a drawn yard -/
def Yd (most : Nat) (u : U) : Prop := ∃ (q : Rat) (qs : List Rat), u = .d (.tuple [pq q, .tuple (qs.map pq)]) ∧ Rt q ∧ (∀ q ∈ qs, Rt q) ∧ qs.length ≤ 5 ∧ qs.length ≤ most
theorem s_lyard {b n l : Nat} (hb : b ≤ 1000) (hn : n + 100 < 1000000) : Draws l n 40 (M.m__law_op_yard [.loc l, .d (.int (b : Int))]) (Yd b) := fun S hj => by
  refine w_run ?_
  show wo (M.g__law_op_yard [some (.loc l), some (.d (.int (b : Int))), none, none, none, none, none, none, none, none] S) _
  unfold M.g__law_op_yard
  refine w_setW ?_
  simp only [fCall, fN, fCons, fNil, fC, e_varS, e_var0, bind_ok, wp_bind, mkLst, frzs_d, frzs_n, wp_ok, List.length_cons, List.length_nil, Nat.reduceAdd, Nat.reduceLeDiff, if_true]
  refine wp_mono (d_one few_ints (by simp) (by simp) (by omega) S hj) fun u S1 ⟨⟨x, hx, i, hi, hi5⟩, j1, k1⟩ => ?_
  subst hx hi
  obtain ⟨m, hm, hm5, hmb⟩ : ∃ m : Nat, (if (i : Int) < (b : Int) then (i : Int) else (b : Int)) = (m : Int) ∧ m ≤ 5 ∧ m ≤ b := by
    by_cases c : (i : Int) < (b : Int)
    · exact ⟨i, by rw [if_pos c], hi5, by omega⟩
    · exact ⟨b, by rw [if_neg c], by omega, by omega⟩
  simp only [uMin, wp_ok, hm, List.set_cons_succ, List.set_cons_zero]
  refine w_setW ?_
  simp only [fCall, fN, fCons, fNil, fC, e_varS, e_var0, bind_ok, wp_bind, mkLst, mkTup, frzs_d, frzs_n, wp_ok, List.length_cons, List.length_nil, Nat.reduceAdd, Nat.reduceLeDiff, if_true]
  refine wp_mono (d_one rates_ok (by simp) (by simp) (by omega) S1 j1) fun u S2 ⟨⟨x, hx, hrate⟩, j2, k2⟩ => ?_
  subst hx
  simp only [List.set_cons_succ, List.set_cons_zero]
  refine w_seq ?_
  simp only [gPar, wo_st, fCall, fN, fCons, fNil, fC, e_varS, e_var0, bind_ok, wp_bind, wp_ok]
  refine wp_mono (s_corner hm5 j2 (by omega)) fun u S3 ⟨ys, T, hu, hS, hl, hc, j3, k3⟩ => ?_
  subst hu hS
  refine wp_mono ((d_take (many := 6) (by decide) (by decide) (by omega)).at j3 [some ys]) fun u S4 ⟨T4, hS, ⟨s, hs, s0, s6⟩, j4, k4⟩ => ?_
  subst hS hs
  simp only [wo_nx, List.set_cons_succ, List.set_cons_zero]
  have kk := k1.trans (k2.trans (k3.trans k4))
  have l4 : S2.length = T4.length := (k3.trans k4).len.symm
  have l0 : S.length = T4.length := kk.len.symm
  rw [l4]
  rw [show n + 1 + 1 + 10 + 1 = n + 13 by omega] at j4
  -- what is told at the end
  have fin : ∀ (T' : Store) (ys' : List D) (a5 a6 a7 a8 a9 : Option U) (w : Nat) (cs : Store), Raw ys' → ys'.length = m → Kp l S T' → Jar T' l (n + 40) → (T' ++ cs)[w]? = some (some ys') → T'.length ≤ w →
      wo (gRet (fN mkTup (fCons (fVar 3) (fCons (fN uTupleOf (fCons (fLc (sSeq (fVar 4)) (aName 9) (fYes) (M.e3__law_op_yard) [9]) (fNil))) (fNil)))) [some (.loc l), some (.d (.int (b : Int))), some (.d (.int (m : Int))), some (.d x), some (.loc w), a5, a6, a7, a8, a9] (T' ++ cs)) (PoD S.length fun u S' => Yd b u ∧ Jar S' l (n + 40) ∧ Kp l S S') := fun T' ys' a5 a6 a7 a8 a9 w cs h1 h2 h3 h4 h5 h6 => by
    refine yard_end hrate h1 h5 (by omega) (by rw [← h3.len]; exact h6) fun q qs e1 e2 e3 e4 => ?_
    rw [← h3.len, List.take_left]
    exact ⟨⟨q, qs, rfl, e2, e3, by omega, by omega⟩, h4, h3⟩
  have rawC : Raw ys := fun y hy => by
    obtain ⟨K, hK, h1, h2⟩ := hc y hy
    exact ⟨K, hK, by omega, by omega⟩
  by_cases h5 : s = 5
  · subst h5
    refine w_if ?_
    refine wp_of (a := true) (S := T4 ++ [some ys]) (by simp) ?_
    rw [if_pos rfl, gSet, wo_st]
    have e1 : sRng1 [.d (.int (m : Int))] (T4 ++ [some ys]) = .ok (rngD 0 m) (T4 ++ [some ys]) := by rw [rng1_i (by omega) (by omega), Int.toNat_natCast]
    have ln : (T4 ++ [some ys]).length = T4.length + 1 := by simp
    refine wp_lcRun (fun ds S1 i acc S' => ∃ T', S' = T' ++ [some ys, some acc] ∧ Kp l T4 T' ∧ Jar T' l (n + 13 + i) ∧ acc.length = i ∧ Raw acc) ?_
    refine wp_of (a := rngD 0 m) (S := T4 ++ [some ys]) (by simp [sN, e1]) ⟨by rw [rngD_len]; omega, ⟨T4, by simp, Kp.refl, j4, rfl, fun y h => (by cases h)⟩, fun i d acc S' hd ha ⟨T', hS, h1, h2, h3, h4⟩ => ?_, fun acc S2 ha ⟨T', hS, h1, h2, h3, h4⟩ => ?_⟩
    · subst hS
      obtain ⟨hi, rfl⟩ := rngD_get _ _ _ _ hd
      refine ⟨_, rfl, ?_⟩
      simp only [fYes, wp_ok, if_true, M.e1__law_op_yard, wipeU, List.set_cons_succ, List.set_cons_zero, fCall, fN, fCons, fNil, fC, e_varS, e_var0, bind_ok, wp_bind, mkLst, frzs_d, frzs_n, List.length_cons, List.length_nil, Nat.reduceAdd, Nat.reduceLeDiff]
      refine wp_mono ((d_one two8 (by simp) (by simp) (by omega)).at h2 [some ys, some acc]) fun u S5 ⟨T5, hS, ⟨y, hy, hk⟩, j5, k5⟩ => ?_
      subst hS hy
      have tl : T5.length = T4.length := (h1.trans k5).len
      simp only [wp_ok, mkTup, frzs_d, frzs_n, List.length_cons, List.length_nil, Nat.reduceAdd, Nat.reduceLeDiff, if_true]
      refine ⟨_, _, rfl, ?_, T5, ?_, h1.trans k5, by rw [show n + 13 + (i + 1) = n + 13 + i + 1 by omega]; exact j5, by simp [h3], fun z hz => ?_⟩
      · rw [ln, ← tl]; exact c1
      · rw [ln, ← tl]; exact cs1
      · rcases List.mem_append.mp hz with h | h
        · exact h4 z h
        · rw [List.mem_singleton.mp h]; exact hk
    · subst hS
      have tl : T'.length = T4.length := h1.len
      rw [rngD_len] at h3 h2
      have et : (T' ++ [some ys, some acc]).take ((T4 ++ [some ys]).length + 1) = T' ++ [some ys, some acc] := List.take_of_length_le (by simp [tl])
      rw [et]
      simp only [wp_ok, wo_nx, List.set_cons_succ, List.set_cons_zero]
      refine w_ifN (S1 := T' ++ [some ys, some acc]) (by simp [in123]) ?_
      rw [ln]
      exact fin T' acc _ _ _ _ _ _ _ h4 h3 (kk.trans h1) (h2.mono (by omega)) (by rw [← tl]; exact c1) (by omega)
  · refine w_ifN (S1 := T4 ++ [some ys]) (by simp [h5]) ?_
    refine w_if ?_
    by_cases hin : (1 ≤ s ∧ s ≤ 3) ∧ 0 < m
    · obtain ⟨⟨hs1, hs3⟩, hm0⟩ := hin
      have hm0' : (0 : Int) < (m : Int) := by omega
      refine wp_of (a := true) (S := T4 ++ [some ys]) (by simp [in123 s0 s6, hs1, hs3, hm0]) ?_
      rw [if_pos rfl]
      refine wo_for (fun ds i ρ S' => ds.length ≤ 2 ∧ ∃ T' ys' r6 r7 r8, S' = T' ++ [some ys'] ∧ Kp l S T' ∧ Jar T' l (n + 14 + 2 * i) ∧ ys'.length = m ∧ Mv (i : Int) ys' ∧ ρ = [some (.loc l), some (.d (.int (b : Int))), some (.d (.int (m : Int))), some (.d x), some (.loc T4.length), some (.d (.int s)), r6, r7, r8, none]) ?_
      simp only [sN, fCall, fN, fCons, fNil, fC, e_varS, e_var0, bind_ok, wp_bind, mkLst, frzs_d, frzs_n, wp_ok, List.length_cons, List.length_nil, Nat.reduceAdd, Nat.reduceLeDiff, if_true]
      refine wp_mono ((d_one one2 (by simp) (by simp) (by omega)).at j4 [some ys]) fun u S5 ⟨T5, hS, ⟨y, hy, c, hc1, hc2⟩, j5, k5⟩ => ?_
      subst hS hy hc1
      rw [show sRng1 [.d (.int (c : Int))] (T5 ++ [some ys]) = .ok (rngD 0 c) (T5 ++ [some ys]) by rw [rng1_i (by omega) (by omega), Int.toNat_natCast]]
      simp only [wp_ok]
      refine ⟨⟨by rw [rngD_len]; exact hc2, T5, ys, none, none, none, rfl, kk.trans k5, j5, hl, fun y hy => ?_, rfl⟩, fun i d ρ S' hd ⟨hl2, T', ys', r6, r7, r8, hS, h1, h2, h3, h4, hρ⟩ => ?_, fun ρ S' ⟨hl2, T', ys', r6, r7, r8, hS, h1, h2, h3, h4, hρ⟩ => ?_⟩
      · obtain ⟨K, hK, q1, q2⟩ := hc y hy
        exact ⟨K, hK, by omega, by omega⟩
      · subst hS hρ
        obtain ⟨hi, rfl⟩ := rngD_get _ _ _ _ hd
        rw [rngD_len] at hl2
        have tl : T'.length = T4.length := h1.len.trans l0
        refine ⟨_, rfl, ?_⟩
        unfold M.b2__law_op_yard
        refine w_setW ?_
        simp only [fCall, fN, fCons, fNil, fC, e_varS, e_var0, bind_ok, wp_bind, wp_ok, List.set_cons_succ, List.set_cons_zero]
        refine wp_mono ((d_take (many := (m : Int)) hm0' (by omega) (by omega)).at h2 [some ys']) fun u S6 ⟨T6, hS, ⟨v, hv, v0, vm⟩, j6, k6⟩ => ?_
        subst hS hv
        refine w_setW ?_
        simp only [fCall, fN, fCons, fNil, fC, f1, neg_i, e_varS, e_var0, bind_ok, wp_bind, wp_ok, List.set_cons_succ, List.set_cons_zero, mkLst, mkTup, frzs_d, frzs_n, List.length_cons, List.length_nil, Nat.reduceAdd, Nat.reduceLeDiff, if_true]
        refine wp_mono ((d_one steps_rk (by simp) (by simp) (by omega)).at j6 [some ys']) fun u S7 ⟨T7, hS, ⟨st, hst, Kst, hKst, hk1, hk2⟩, j7, k7⟩ => ?_
        subst hS hst
        have t7 : T7.length = T4.length := (k6.trans k7).len.trans tl
        obtain ⟨j, rfl⟩ := Int.eq_ofNat_of_zero_le v0
        have hj : j < ys'.length := by omega
        have ix : uIx (.loc T4.length) (.d (.int (j : Int))) (T7 ++ [some ys']) = .ok (.d ys'[j]) (T7 ++ [some ys']) := ix_loc (by rw [← t7]; exact d1_at) (atI_nat (List.getElem?_eq_getElem hj))
        obtain ⟨K0, hK0, q1, q2⟩ := h4 _ (List.getElem_mem hj)
        have step : ∃ st' Ks, fIf (fTst (f2 uNe (fVar 5) (fC (.d (.int 3))))) (fVar 8) (fN mkTup (fCons (fC (.d (.int 1))) (fCons (fC (.d (.int 2))) fNil))) [some (.loc l), some (.d (.int (b : Int))), some (.d (.int (m : Int))), some (.d x), some (.loc T4.length), some (.d (.int s)), some (.d (.int (0 + (i : Int)))), some (.d (.int (j : Int))), some (.d st), none] (T7 ++ [some ys']) = .ok (.d st') (T7 ++ [some ys']) ∧ RK Ks st' ∧ -12 ≤ Ks ∧ Ks ≤ 120 := by
          by_cases c3 : s = 3
          · subst c3
            exact ⟨.tuple [.int 1, .int 2], 60, by simp [ne_i], rk_mk, by decide, by decide⟩
          · exact ⟨st, Kst, by simp [ne_i, c3], hKst, hk1, hk2⟩
        obtain ⟨st', Ks, es, hKs, s1, s2⟩ := step
        obtain ⟨z, ez, hz⟩ := plus_rk (S := T7 ++ [some ys']) hK0 hKs (by omega) (by omega) (by omega) (by omega)
        have eset : uSetL (.loc T4.length) (.d (.int (j : Int))) (.d z) (T7 ++ [some ys']) = some (T7 ++ [some (ys'.set j z)]) := by
          rw [set_loc (xs := ys') (j := j) (by rw [← t7]; exact d1_at) (by unfold L2.ixN; rw [if_pos (by omega), if_pos (by omega)]; simp), ← t7, set_end]
        simp only [gSetIx, fCall, fN, fCons, fNil, f2, e_varS, e_var0, bind_ok, ix, wo_st, wp_bind, wp_ok]
        simp only [fIf, fTst, f2, fN, fCons, fNil, e_varS, e_var0, bind_ok, fC] at es
        refine wp_of es ?_
        refine wp_of ez ?_
        simp only [eset, wo_nx]
        refine ⟨by rw [rngD_len]; exact hl2, T7, _, _, _, _, rfl, h1.trans (k6.trans k7), by rw [show n + 14 + 2 * (i + 1) = n + 14 + 2 * i + 1 + 1 by omega]; exact j7, by rw [List.length_set]; exact h3, fun y hy => ?_, rfl⟩
        rcases List.mem_or_eq_of_mem_set hy with h | h
        · obtain ⟨K, hK, p1, p2⟩ := h4 y h
          exact ⟨K, hK, by omega, by omega⟩
        · rw [h]
          exact ⟨_, hz, by omega, by omega⟩
      · subst hS hρ
        rw [rngD_len] at hl2 h2 h4
        have tl : T'.length = T4.length := h1.len.trans l0
        refine fin T' ys' _ _ _ _ _ _ _ (fun y hy => ?_) h3 h1 (h2.mono (by omega)) (by rw [← tl]; exact d1_at) (by omega)
        obtain ⟨K, hK, q1, q2⟩ := h4 y hy
        exact ⟨K, hK, by omega, by omega⟩
    · refine wp_of (a := false) (S := T4 ++ [some ys]) ?_ ?_
      · by_cases c : 1 ≤ s ∧ s ≤ 3
        · have : ¬ 0 < m := fun z => hin ⟨c, z⟩
          simp [in123 s0 s6, c, this]
        · simp [in123 s0 s6, c]
      · rw [if_neg (by decide)]
        exact fin T4 ys _ _ _ _ _ _ _ rawC hl kk (j4.mono (by omega)) d1_at (Nat.le_refl _)
end
end Z

/-! Z36: _law_op_odd_yard. -/
namespace Z
open PySem
theorem gd_of {k s : Nat} {d : D} (h : (d.canLay0 && decide (d.depth ≤ k) && decide (sz d ≤ s) && small d) = true) : Gd k s d := by
  simp only [Bool.and_eq_true, decide_eq_true_eq] at h
  exact ⟨⟨h.1.1.1, h.1.1.2, h.1.2⟩, h.2⟩
theorem gd1 {k s : Nat} {a : D} (h : Gd k s a) : Gd (k + 1) (s + 1) (.tuple [a]) := (gd_tup (xs := [a]) fun x hx => by rw [List.mem_singleton.mp hx]; exact h).mono (Nat.le_refl _) (by simp)
theorem gd2 {k s : Nat} {a b : D} (h : Gd k s a) (h' : Gd k s b) : Gd (k + 1) (2 * s + 1) (.tuple [a, b]) := (gd_tup (xs := [a, b]) fun x hx => by
  rcases List.mem_cons.mp hx with z | z
  · rw [z]; exact h
  · rw [List.mem_singleton.mp z]; exact h').mono (Nat.le_refl _) (by simp)
theorem gd2l {k s : Nat} {a b : D} (h : Gd k s a) (h' : Gd k s b) : Gd (k + 1) (2 * s + 1) (.list [a, b]) := (gd_lst (xs := [a, b]) fun x hx => by
  rcases List.mem_cons.mp hx with z | z
  · rw [z]; exact h
  · rw [List.mem_singleton.mp z]; exact h').mono (Nat.le_refl _) (by simp)
theorem gd_sizes {qs : List Rat} (h : ∀ q ∈ qs, Rt q) : ∀ x ∈ qs.map pq, Gd 1 3 x := fun x hx => by
  obtain ⟨q, hq, rfl⟩ := List.mem_map.mp hx
  exact gd_pq (h q hq).bd (by decide)
theorem cut_mem {xs : List D} {lo hi : Option Int} : (∀ x ∈ cutD xs lo hi, x ∈ xs) ∧ (cutD xs lo hi).length ≤ xs.length := by
  unfold cutD
  refine ⟨fun x hx => List.mem_of_mem_drop (List.mem_of_mem_take hx), ?_⟩
  rw [List.length_take, List.length_drop]
  omega
section
variable {S T : Store} {l n : Nat}
theorem sl_t {xs : List D} {lo hi : Option Int} : uSl (.d (.tuple xs)) lo hi S = .ok (.d (.tuple (cutD xs lo hi))) S := rfl
theorem add_t {xs ys : List D} (h : xs.length + ys.length ≤ 1000000) : uAdd (.d (.tuple xs)) (.d (.tuple ys)) S = .ok (.d (.tuple (xs ++ ys))) S := by
  show (if xs.length + ys.length ≤ 1000000 then _ else _) = _
  rw [if_pos h]
theorem ext_l {t : Nat} {xs ys : List D} (h : S[t]? = some (some xs)) (hl : xs.length + ys.length ≤ 1000000) : uExt (.loc t) [.d (.list ys)] S = .ok (.d .none) (S.set t (some (xs ++ ys))) := by
  unfold uExt
  simp [viewM, h]
  omega
/-- a thing out of the odd ones, and what is wrong with it -/
def OddY (u : U) : Prop := ∃ d, u = .d (.tuple [d, yf d]) ∧ Gd 5 600 d ∧ yf d ≠ .none
theorem yBad_ne {i : Int} : yBad i ≠ .none := fun h => by cases h
theorem yMany_ne {i : Int} : yMany i ≠ .none := fun h => by cases h
theorem ysF_bad {ss : List D} {x : D} (hx : x ∈ ss) (h : isSz x = false) : ysF ss ≠ .none := by
  unfold ysF
  cases hf : ss.findIdx? (fun x => !isSz x) with
  | none =>
    have := List.findIdx?_eq_none_iff.mp hf x hx
    rw [h] at this
    cases this
  | some i => exact yBad_ne
theorem yf_bad {r x : D} {ss : List D} (hx : x ∈ ss) (h : isSz x = false) : yf (.tuple [r, .tuple ss]) ≠ .none := by
  show (if 40 < ss.length then _ else if isSz r = false then _ else _) ≠ _
  split
  · exact yMany_ne
  · split
    · exact yBad_ne
    · exact ysF_bad hx h
abbrev Od (x : D) : Prop := Gd 5 600 x ∧ yf x ≠ .none
/-- a yard's data, at most forty bins -/
def Y40 (u : U) : Prop := ∃ (q : Rat) (qs : List Rat), u = .d (.tuple [pq q, .tuple (qs.map pq)]) ∧ Rt q ∧ (∀ q ∈ qs, Rt q) ∧ qs.length ≤ 40
theorem Yd.y40 {b : Nat} {u : U} (h : Yd b u) : Y40 u := by
  obtain ⟨q, qs, e, h1, h2, h3, _⟩ := h
  exact ⟨q, qs, e, h1, h2, by omega⟩
theorem s_oddyard {y : U} (hy : Y40 y) (hn : n + 100 < 1000000) : Draws l n 1 (M.m__law_op_odd_yard [.loc l, y]) OddY := fun S hj => by
  obtain ⟨q, qs, rfl, hq, hqs, hl5⟩ := hy
  have gq : Gd 1 3 (pq q) := gd_pq hq.bd (by decide)
  have gs := gd_sizes hqs
  have gz : Gd 2 121 (.tuple (qs.map pq)) := (gd_tup gs).mono (by decide) (by rw [List.length_map]; omega)
  have gzl : Gd 2 121 (.list (qs.map pq)) := (gd_lst gs).mono (by decide) (by rw [List.length_map]; omega)
  refine w_run ?_
  show wo (M.g__law_op_odd_yard [some (.loc l), some (.d (.tuple [pq q, .tuple (qs.map pq)])), none, none, none, none, none, none] S) _
  unfold M.g__law_op_odd_yard
  refine w_asg (S1 := S) (u := .d (.tuple [pq q, .tuple (qs.map pq)])) (ρ1 := [some (.loc l), some (.d (.tuple [pq q, .tuple (qs.map pq)])), some (.d (pq q)), some (.d (.tuple (qs.map pq))), none, none, none, none]) (by simp) rfl ?_
  have e41 : uMul (.d (.tuple [.none])) (.d (.int 41)) S = .ok (.d (.tuple (List.replicate 41 .none))) S := rfl
  have eL : uListD [.d (.tuple (qs.map pq))] S = .ok (.d (.list (qs.map pq))) S := rfl
  refine w_set (S1 := S ++ [some [.none, .tuple [pq q], .list [pq q, .tuple (qs.map pq)], .tuple [pq q, .list (qs.map pq)], .tuple [.none, .list [.tuple [.int 1, .int 1]]], .tuple [.none, .tuple (List.replicate 41 .none)], .int 0]]) (u := .loc S.length) (by
    simp only [fN, fCons, fNil, f2, fC, e_varS, e_var0, bind_ok, mkTup, mkLst, mkLoc, frzs_d, frzs_n, e41, eL, List.length_cons, List.length_nil, Nat.reduceAdd, Nat.reduceLeDiff, if_true]) ?_
  have g0 : ∀ x ∈ [PyData.none, .tuple [pq q], .list [pq q, .tuple (qs.map pq)], .tuple [pq q, .list (qs.map pq)], .tuple [.none, .list [.tuple [.int 1, .int 1]]], .tuple [.none, .tuple (List.replicate 41 .none)], .int 0], Od x := by
    intro x hx
    simp only [List.mem_cons, List.not_mem_nil, or_false] at hx
    rcases hx with rfl | rfl | rfl | rfl | rfl | rfl | rfl
    · exact ⟨gd_of (by decide +kernel), yBad_ne⟩
    · exact ⟨(gd1 gq).mono, yBad_ne⟩
    · exact ⟨(gd2l (gq.mono (k' := 2) (s' := 121)) gz).mono, yBad_ne⟩
    · exact ⟨(gd2 (gq.mono (k' := 2) (s' := 121)) gzl).mono, yBad_ne⟩
    · exact ⟨gd_of (by decide +kernel), yBad_ne⟩
    · exact ⟨gd_of (by decide +kernel), yf_bad (x := .none) (List.mem_replicate.mpr ⟨by decide, rfl⟩) rfl⟩
    · exact ⟨gd_of (by decide +kernel), yBad_ne⟩
  generalize hX : [PyData.none, .tuple [pq q], .list [pq q, .tuple (qs.map pq)], .tuple [pq q, .list (qs.map pq)], .tuple [.none, .list [.tuple [.int 1, .int 1]]], .tuple [.none, .tuple (List.replicate 41 .none)], .int 0] = X at g0
  have lX : X.length = 7 := by rw [← hX]; rfl
  clear hX
  simp only [List.set_cons_succ, List.set_cons_zero]
  have p6 : ∀ T : Store, uPow (.d (.int 10)) (.d (.int 6)) T = .ok (.d (.int 1000000)) T := fun T => p10 (S := T) (i := 10) (j := 6) rfl (by decide)
  have lc := lc_pure (src := sSeq (fN mkLst (fCons (fN mkTup (fCons (fC (.d (.int 0))) (fCons (fC (.d (.int 1))) (fNil)))) (fCons (fN mkTup (fCons (fC (.d (.int 1))) (fCons (fC (.d (.int 1001))) (fNil)))) (fCons (fC (.d (.int 1))) (fCons (fC (.d .none)) (fCons (fN mkTup (fCons (fC (.d (.int 2))) (fCons (fC (.d (.int 2))) (fNil)))) (fCons (fN mkTup (fCons (f2 uAdd (f2 uPow (fC (.d (.int 10))) (fC (.d (.int 6)))) (fC (.d (.int 1)))) (fCons (fC (.d (.int 1))) (fNil)))) (fNil)))))))))
    (tg := aName 5) (fe := M.e1__law_op_odd_yard) (vs := [5]) (ρ := [some (.loc l), some (.d (.tuple [pq q, .tuple (qs.map pq)])), some (.d (pq q)), some (.d (.tuple (qs.map pq))), some (.loc S.length), none, none, none]) (S := S ++ [some X]) (S1 := S ++ [some X])
    (ds := [.tuple [.int 0, .int 1], .tuple [.int 1, .int 1001], .int 1, .none, .tuple [.int 2, .int 2], .tuple [.int 1000001, .int 1]]) (f := fun d => .tuple [d, .tuple [.none]]) (by simp [sSeq, seqD, frz, p6]) (by simp) fun d hd => ⟨_, rfl, fun acc => by simp [M.e1__law_op_odd_yard, wipeU]⟩
  have vL : ∀ (T : Store) (Y : List D), T.length = S.length → isL (.loc S.length) (T ++ [some Y]) = true := fun T Y h => by rw [← h]; simp [isL, viewL]
  refine w_drop (S1 := S ++ [some (X ++ [.tuple [.int 0, .int 1], .tuple [.int 1, .int 1001], .int 1, .none, .tuple [.int 2, .int 2], .tuple [.int 1000001, .int 1]].map fun d => .tuple [d, .tuple [.none]])]) (u := .d .none) (by
    have e := ext_l (S := S ++ [some X]) (t := S.length) (xs := X) (ys := [PyData.tuple [.int 0, .int 1], .tuple [.int 1, .int 1001], .int 1, .none, .tuple [.int 2, .int 2], .tuple [.int 1000001, .int 1]].map fun d => .tuple [d, .tuple [.none]]) at_end (by simp [lX])
    rw [set_end] at e
    simp only [fML, fCons, fNil, e_varS, e_var0, bind_ok, vL S X rfl, if_true, lc, e]) ?_
  have g1 : ∀ x ∈ X ++ [PyData.tuple [.int 0, .int 1], .tuple [.int 1, .int 1001], .int 1, .none, .tuple [.int 2, .int 2], .tuple [.int 1000001, .int 1]].map (fun d => PyData.tuple [d, .tuple [.none]]), Od x := by
    intro x hx
    rcases List.mem_append.mp hx with h | h
    · exact g0 x h
    · simp only [List.map_cons, List.map_nil, List.mem_cons, List.not_mem_nil, or_false] at h
      rcases h with rfl | rfl | rfl | rfl | rfl | rfl <;> exact ⟨gd_of (by decide +kernel), yf_bad (x := .none) (List.mem_singleton.mpr rfl) rfl⟩
  generalize hX1 : X ++ [PyData.tuple [.int 0, .int 1], .tuple [.int 1, .int 1001], .int 1, .none, .tuple [.int 2, .int 2], .tuple [.int 1000001, .int 1]].map (fun d => PyData.tuple [d, .tuple [.none]]) = X1 at g1
  have lX1 : X1.length = 13 := by rw [← hX1]; simp [lX]
  clear hX1 lc
  refine w_for ?_
  refine wo_for (fun ds i ρ S' => ds.length = 6 ∧ (∀ d ∈ ds, Gd 1 3 d ∧ isSz d = false) ∧ ∃ Y r5, S' = S ++ [some Y] ∧ Y.length = 13 + 2 * i ∧ (∀ x ∈ Y, Od x) ∧ ρ = [some (.loc l), some (.d (.tuple [pq q, .tuple (qs.map pq)])), some (.d (pq q)), some (.d (.tuple (qs.map pq))), some (.loc S.length), r5, none, none])
    (wp_of (a := [.tuple [.int 0, .int 1], .tuple [.int 4, .int 2], .tuple [.int 1, .int 1001], .int 3, .none, .tuple [.int (-1), .int 2]]) (S := S ++ [some X1]) (by simp [sSeq, seqD, frz]) ⟨⟨rfl, fun d hd => ?_, X1, none, rfl, lX1, g1, rfl⟩, fun i d ρ S' hd ⟨hl, hds, Y, r5, hS, hY, gY, hρ⟩ => ?_, fun ρ S' ⟨hl, hds, Y, r5, hS, hY, gY, hρ⟩ => ?_⟩)
  · simp only [List.mem_cons, List.not_mem_nil, or_false] at hd
    rcases hd with rfl | rfl | rfl | rfl | rfl | rfl <;> exact ⟨gd_of (by decide +kernel), by decide⟩
  · subst hS hρ
    have hi := (List.getElem?_eq_some_iff.mp hd).1
    obtain ⟨gd, bd⟩ := hds d (List.mem_of_getElem? hd)
    refine ⟨_, rfl, ?_⟩
    have a1 : ∀ T : Store, uAdd (.d (.tuple (cutD (qs.map pq) none (some 1)))) (.d (.tuple [d])) T = .ok (.d (.tuple (cutD (qs.map pq) none (some 1) ++ [d]))) T := fun T => add_t (by have := (cut_mem (xs := qs.map pq) (lo := none) (hi := some 1)).2; rw [List.length_map] at this; simp; omega)
    have a2 : ∀ T : Store, uAdd (.d (.tuple (cutD (qs.map pq) none (some 1) ++ [d]))) (.d (.tuple (cutD (qs.map pq) (some 1) (some 2)))) T = .ok (.d (.tuple (cutD (qs.map pq) none (some 1) ++ [d] ++ cutD (qs.map pq) (some 1) (some 2)))) T := fun T => add_t (by
      have h1 := (cut_mem (xs := qs.map pq) (lo := none) (hi := some 1)).2
      have h2 := (cut_mem (xs := qs.map pq) (lo := some 1) (hi := some 2)).2
      rw [List.length_map] at h1 h2
      simp
      omega)
    have e := ext_l (S := S ++ [some Y]) (t := S.length) (xs := Y) (ys := [.tuple [pq q, .tuple (cutD (qs.map pq) none (some 1) ++ [d] ++ cutD (qs.map pq) (some 1) (some 2))], .tuple [pq q, .tuple [d, .none]]]) at_end (by simp; omega)
    rw [set_end] at e
    have i1 : ∀ T : Store, intP (.d (.int 1)) T = .ok (some 1) T := fun _ => rfl
    have i2 : ∀ T : Store, intP (.d (.int 2)) T = .ok (some 2) T := fun _ => rfl
    simp only [M.b2__law_op_odd_yard, gDrop, fML, fCons, fNil, fN, f2, fC, fSl, fNoP, fPart, e_varS, e_var0, List.set_cons_succ, List.set_cons_zero, bind_ok, vL S Y rfl, if_true, sl_t, i1, i2, mkTup, mkLst, frzs_d, frzs_n, List.length_cons, List.length_nil, Nat.reduceAdd, Nat.reduceLeDiff, a1, a2, e, wo_st, wp_ok, wo_nx]
    refine ⟨trivial, hds, _, _, rfl, by simp [hY]; omega, fun x hx => ?_, rfl⟩
    rcases List.mem_append.mp hx with h | h
    · exact gY x h
    · rcases List.mem_cons.mp h with h | h
      · have gt : Gd 2 250 (.tuple (cutD (qs.map pq) none (some 1) ++ [d] ++ cutD (qs.map pq) (some 1) (some 2))) := by
          have h1 := (cut_mem (xs := qs.map pq) (lo := none) (hi := some 1)).2
          have h2 := (cut_mem (xs := qs.map pq) (lo := some 1) (hi := some 2)).2
          rw [List.length_map] at h1 h2
          refine (gd_tup (k := 1) (s := 3) fun y hy => ?_).mono (by decide) (by simp; omega)
          rcases List.mem_append.mp hy with z | z
          · rcases List.mem_append.mp z with z | z
            · exact gs y (cut_mem.1 y z)
            · rw [List.mem_singleton.mp z]; exact gd
          · exact gs y (cut_mem.1 y z)
        rw [h]
        exact ⟨(gd2 (gq.mono (k' := 2) (s' := 250)) gt).mono, yf_bad (x := d) (by simp) bd⟩
      · rw [List.mem_singleton.mp h]
        exact ⟨(gd2 (gq.mono (k' := 2) (s' := 7)) (gd2 gd (gd_of (by decide +kernel)))).mono, yf_bad (x := d) (by simp) bd⟩
  · subst hS hρ
    rw [hl] at hY
    have e10 : sRng2 [.d (.int 1), .d (.int 11)] (S ++ [some Y]) = .ok (rngD 1 10) (S ++ [some Y]) := by
      rw [rng2_i (by omega) (by omega) (by omega) (by omega)]
      rfl
    have lc2 := lc_pure (src := sN sRng2 (fCons (fC (.d (.int 1))) (fCons (fC (.d (.int 11))) (fNil)))) (tg := aName 7) (fe := M.e3__law_op_odd_yard) (vs := [7]) (ρ := [some (.loc l), some (.d (.tuple [pq q, .tuple (qs.map pq)])), some (.d (pq q)), some (.d (.tuple (qs.map pq))), some (.loc S.length), r5, none, none]) (S := S ++ [some Y]) (S1 := S ++ [some Y])
      (ds := rngD 1 10) (f := fun d => .tuple [d, .int 1]) (by simp [sN, e10]) (by decide) fun d hd => ⟨_, rfl, fun acc => by simp [M.e3__law_op_odd_yard, wipeU]⟩
    have gl : Od (.tuple [.tuple [.int 1, .int 1], .tuple ((rngD 1 10).map fun d => .tuple [d, .int 1])]) := ⟨gd_of (by decide +kernel), fun h => by
      have e : yf (.tuple [.tuple [.int 1, .int 1], .tuple ((rngD 1 10).map fun d => .tuple [d, .int 1])]) = yMany 1024 := by kernel_rfl
      rw [e] at h
      exact yMany_ne h⟩
    have eu : ∀ (xs : List D) (T : Store), uTupleOf [.d (.list xs)] T = .ok (.d (.tuple xs)) T := fun _ _ => rfl
    have ea := app_t (S := S ++ [some Y]) (t := S.length) (xs := Y) (x := .tuple [.tuple [.int 1, .int 1], .tuple ((rngD 1 10).map fun d => .tuple [d, .int 1])]) at_end (by omega)
    rw [set_end] at ea
    refine w_drop (S1 := S ++ [some (Y ++ [.tuple [.tuple [.int 1, .int 1], .tuple ((rngD 1 10).map fun d => .tuple [d, .int 1])]])]) (u := .d .none) (by
      simp only [fML, fCons, fNil, fN, fC, e_varS, e_var0, bind_ok, vL S Y rfl, if_true, lc2, eu, mkTup, mkLst, frzs_d, frzs_n, List.length_cons, List.length_nil, Nat.reduceAdd, Nat.reduceLeDiff, ea]) ?_
    have gY2 : ∀ x ∈ Y ++ [PyData.tuple [.tuple [.int 1, .int 1], .tuple ((rngD 1 10).map fun d => .tuple [d, .int 1])]], Od x := fun x hx => by
      rcases List.mem_append.mp hx with h | h
      · exact gY x h
      · rw [List.mem_singleton.mp h]; exact gl
    generalize hY2 : Y ++ [PyData.tuple [.tuple [.int 1, .int 1], .tuple ((rngD 1 10).map fun d => .tuple [d, .int 1])]] = Y2 at gY2
    have lY2 : Y2.length = 26 := by rw [← hY2]; simp [hY]
    have hlt := hj.lt
    obtain ⟨i, hi, S', e, j2, k2⟩ := s_one_loc (S := S ++ [some Y2]) (f := S.length) (xs := Y2) hj.apps at_end (by omega) (fun z => by rw [z] at lY2; cases lY2) (by omega) (by omega)
    refine w_set (S1 := S') (u := .d Y2[i]) (by simp [e]) ?_
    obtain ⟨T', hS', k3⟩ := k2.split hlt
    subst hS'
    have gi := gY2 _ (List.getElem_mem hi)
    have ef := s_lyf (S := T' ++ [some Y2]) gi.1 (by decide)
    refine w_ret ?_
    simp only [fCall, fN, fCons, fNil, e_varS, e_var0, List.set_cons_succ, List.set_cons_zero, bind_ok, ef, mkTup, frzs_d, frzs_n, List.length_cons, List.length_nil, Nat.reduceAdd, Nat.reduceLeDiff, if_true, wp_ok, retn_d]
    rw [← k3.len, List.take_left]
    exact ⟨⟨_, rfl, gi.1, gi.2⟩, j2.left (by rw [k3.len]; exact hlt), k3⟩
end
end Z

/-! Z37: classes of yards: in any order, one more, how many kinds at most. -/
namespace Z
open PySem
/-- how often -/
def cntQ (q : Rat) (qs : List Rat) : Nat := (qs.filter fun x => decide (x = q)).length
theorem row_cnt {qs : List Rat} {r : QRow} (h : r ∈ qRows qs) : r.2.length = cntQ r.1 qs := by
  rw [(qRows_ok qs).pl r h, places_len]; rfl
theorem cntQ_perm {q : Rat} {xs ys : List Rat} (h : xs.Perm ys) : cntQ q xs = cntQ q ys := (h.filter _).length_eq
/-- the different sizes, rising -/
def keysQ (qs : List Rat) : List Rat := (qRows qs).map (·.1)
theorem keys_asc (qs : List Rat) : (keysQ qs).Pairwise (· < ·) := List.pairwise_map.mpr (qRows_ok qs).asc
theorem keys_nodup (qs : List Rat) : (keysQ qs).Nodup := (keys_asc qs).imp fun h z => by rw [z] at h; exact Rat.lt_irrefl h
theorem mem_keys {q : Rat} {qs : List Rat} : q ∈ keysQ qs ↔ q ∈ qs := (qRows_ok qs).mem q
theorem keys_perm {xs ys : List Rat} (h : ∀ q, q ∈ xs ↔ q ∈ ys) : keysQ xs = keysQ ys := by
  refine List.Perm.eq_of_pairwise (le := (· < ·)) (fun a b _ _ h1 h2 => ?_) (keys_asc xs) (keys_asc ys) ((List.perm_ext_iff_of_nodup (keys_nodup xs) (keys_nodup ys)).mpr fun q => by rw [mem_keys, mem_keys, h])
  grind
/-- a class: its size, how many bins have it -/
def clsQ (qs : List Rat) : List (Rat × Nat) := (keysQ qs).map fun q => (q, cntQ q qs)
theorem cls_rows (qs : List Rat) : (qRows qs).map (fun r => (r.1, r.2.length)) = clsQ qs := by
  unfold clsQ keysQ
  rw [List.map_map]
  refine List.map_congr_left fun r hr => ?_
  show (r.1, r.2.length) = (r.1, cntQ r.1 qs)
  rw [row_cnt hr]
theorem cls_perm {xs ys : List Rat} (h : xs.Perm ys) : clsQ xs = clsQ ys := by
  unfold clsQ
  rw [keys_perm fun q => h.mem_iff]
  exact List.map_congr_left fun q _ => by rw [cntQ_perm h]
theorem kinds_cls (qs : List Rat) : kindsQ qs = prodI ((clsQ qs).map fun c => 1 + (c.2 : Int)) := by
  rw [← cls_rows, List.map_map]; rfl
theorem kinds_perm {xs ys : List Rat} (h : xs.Perm ys) : kindsQ xs = kindsQ ys := by rw [kinds_cls, kinds_cls, cls_perm h]
theorem cntQ_app (q : Rat) (xs ys : List Rat) : cntQ q (xs ++ ys) = cntQ q xs + cntQ q ys := by
  unfold cntQ
  rw [List.filter_append, List.length_append]
theorem cntQ_one (q x : Rat) : cntQ q [x] = if x = q then 1 else 0 := by
  unfold cntQ
  by_cases h : x = q
  · rw [if_pos h, List.filter_cons_of_pos (by simpa using h)]; rfl
  · rw [if_neg h, List.filter_cons_of_neg (by simpa using h)]; rfl
theorem cntQ_pos {q : Rat} {qs : List Rat} (h : q ∈ qs) : 0 < cntQ q qs := List.length_pos_of_mem (List.mem_filter.mpr ⟨h, by simp⟩)
/-- a product with one factor apart -/
theorem prod_apart {f : Rat → Int} {ks : List Rat} {q : Rat} (hn : ks.Nodup) (h : q ∈ ks) : prodI (ks.map f) = f q * prodI ((ks.filter fun k => decide (k ≠ q)).map f) := by
  induction ks with
  | nil => cases h
  | cons k ks ih =>
    rw [List.nodup_cons] at hn
    rw [List.map_cons, prodI]
    by_cases e : k = q
    · subst e
      rw [List.filter_cons_of_neg (by simp)]
      congr 2
      rw [List.filter_eq_self.mpr]
      intro x hx
      simp only [decide_eq_true_eq]
      intro z
      rw [z] at hx
      exact hn.1 hx
    · rw [List.filter_cons_of_pos (by simpa using e), List.map_cons, prodI, ih hn.2 ((List.mem_cons.mp h).resolve_left fun z => e z.symm)]
      rw [← Int.mul_assoc, ← Int.mul_assoc, Int.mul_comm (f k)]
/-- one more of a size that is there -/
theorem kinds_more {qs : List Rat} {q : Rat} (h : q ∈ qs) : ∃ R, kindsQ qs = (1 + (cntQ q qs : Int)) * R ∧ kindsQ (qs ++ [q]) = (2 + (cntQ q qs : Int)) * R := by
  have hk : keysQ (qs ++ [q]) = keysQ qs := keys_perm fun x => by
    rw [List.mem_append, List.mem_singleton]
    exact ⟨fun z => z.elim id fun e => e ▸ h, .inl⟩
  have hq : q ∈ keysQ qs := mem_keys.mpr h
  refine ⟨prodI (((keysQ qs).filter fun k => decide (k ≠ q)).map fun k => 1 + (cntQ k qs : Int)), ?_, ?_⟩
  · rw [kinds_cls, clsQ, List.map_map]
    exact prod_apart (f := fun k => 1 + (cntQ k qs : Int)) (keys_nodup qs) hq
  · rw [kinds_cls, clsQ, List.map_map, hk]
    have := prod_apart (f := fun k => 1 + (cntQ k (qs ++ [q]) : Int)) (keys_nodup qs) hq
    refine this.trans ?_
    congr 1
    · rw [cntQ_app, cntQ_one, if_pos rfl]; omega
    · congr 1
      refine List.map_congr_left fun k hk' => ?_
      have ne := (List.mem_filter.mp hk').2
      simp only [decide_eq_true_eq] at ne
      rw [cntQ_app, cntQ_one, if_neg (fun z => ne z.symm)]
      omega
theorem cnt_le (q : Rat) (qs : List Rat) : cntQ q qs ≤ qs.length := List.length_filter_le _ _
/-- sums of counts of different sizes -/
theorem cnt_sum : ∀ (ks : List Rat) (qs : List Rat), ks.Nodup → (ks.map fun k => cntQ k qs).sum ≤ qs.length
  | ks, [], _ => by
    have : ∀ l : List Rat, (l.map fun k => cntQ k []).sum = 0 := fun l => by
      induction l with
      | nil => rfl
      | cons a l ih => rw [List.map_cons, List.sum_cons, ih]; rfl
    rw [this]; exact Nat.zero_le _
  | ks, x :: qs, hn => by
    have ih := cnt_sum ks qs hn
    have step : ∀ l : List Rat, l.Nodup → (l.map fun k => cntQ k (x :: qs)).sum = (l.map fun k => cntQ k qs).sum + if x ∈ l then 1 else 0 := fun l => by
      induction l with
      | nil => intro _; simp
      | cons a l ih =>
        intro hl
        rw [List.nodup_cons] at hl
        have e : cntQ a (x :: qs) = cntQ a qs + if x = a then 1 else 0 := by
          have := cntQ_app a [x] qs
          rw [List.singleton_append, cntQ_one] at this
          omega
        rw [List.map_cons, List.map_cons, List.sum_cons, List.sum_cons, ih hl.2, e]
        by_cases h1 : x = a
        · have h2 : x ∉ l := fun z => hl.1 (h1 ▸ z)
          rw [if_pos h1, if_neg h2, if_pos (by rw [h1]; exact List.mem_cons_self)]
          omega
        · rw [if_neg h1]
          by_cases h2 : x ∈ l
          · rw [if_pos h2, if_pos (List.mem_cons_of_mem _ h2)]; omega
          · rw [if_neg h2, if_neg (fun z => (List.mem_cons.mp z).elim h1 h2)]; omega
    rw [step ks hn, List.length_cons]
    split <;> omega
theorem prod_pow2 : ∀ (cs : List Nat), prodI (cs.map fun c : Nat => 1 + (c : Int)) ≤ 2 ^ cs.sum ∧ 0 < prodI (cs.map fun c : Nat => 1 + (c : Int))
  | [] => ⟨by decide, by decide⟩
  | c :: cs => by
    obtain ⟨h1, h2⟩ := prod_pow2 cs
    rw [List.map_cons, prodI, List.sum_cons, Int.pow_add]
    have hc : (1 + (c : Int)) ≤ 2 ^ c := by
      have := @Nat.lt_two_pow_self c
      have h : (c : Int) + 1 ≤ 2 ^ c := by exact_mod_cast this
      omega
    exact ⟨Int.mul_le_mul hc h1 (by omega) (by
      have : (0 : Int) < 2 ^ c := Int.pow_pos (by decide)
      omega), Int.mul_pos (by omega) h2⟩
theorem kinds_nine {qs : List Rat} (h : qs.length ≤ 9) : kindsQ qs ≤ 512 := by
  have e : kindsQ qs = prodI (((keysQ qs).map fun k => cntQ k qs).map fun c : Nat => 1 + (c : Int)) := by rw [kinds_cls, clsQ, List.map_map, List.map_map]; rfl
  rw [e]
  refine Int.le_trans (prod_pow2 _).1 ?_
  have hs := cnt_sum (keysQ qs) qs (keys_nodup qs)
  have : (2 : Nat) ^ ((keysQ qs).map fun k => cntQ k qs).sum ≤ 2 ^ 9 := Nat.pow_le_pow_right (by decide) (by omega)
  exact_mod_cast this
theorem kinds_pos (qs : List Rat) : 0 < kindsQ qs := by
  have e : kindsQ qs = prodI (((keysQ qs).map fun k => cntQ k qs).map fun c : Nat => 1 + (c : Int)) := by rw [kinds_cls, clsQ, List.map_map, List.map_map]; rfl
  rw [e]
  exact (prod_pow2 _).2
theorem kinds_two {qs : List Rat} (h : qs.length ≤ 40) (hk : (keysQ qs).length ≤ 2) : kindsQ qs ≤ 441 := by
  have e : kindsQ qs = prodI (((keysQ qs).map fun k => cntQ k qs).map fun c : Nat => 1 + (c : Int)) := by rw [kinds_cls, clsQ, List.map_map, List.map_map]; rfl
  have hs := cnt_sum (keysQ qs) qs (keys_nodup qs)
  rw [e]
  generalize keysQ qs = ks at hk hs ⊢
  match ks, hk with
  | [], _ =>
    simp only [List.map_nil, prodI]
    omega
  | [a], _ =>
    simp only [List.map_cons, List.map_nil, List.sum_cons, List.sum_nil] at hs
    simp only [List.map_cons, List.map_nil, prodI]
    omega
  | [a, b], _ =>
    simp only [List.map_cons, List.map_nil, List.sum_cons, List.sum_nil] at hs
    simp only [List.map_cons, List.map_nil, prodI, Int.mul_one]
    generalize cntQ a qs = x at *
    generalize cntQ b qs = y at *
    have h1 : (1 + (x : Int)) * (1 + (y : Int)) ≤ (1 + (x : Int)) * (41 - (x : Int)) := Int.mul_le_mul_of_nonneg_left (by omega) (by omega)
    have h2 : (1 + (x : Int)) * (41 - (x : Int)) + ((x : Int) - 20) * ((x : Int) - 20) = 441 := by grind
    have h3 : 0 ≤ ((x : Int) - 20) * ((x : Int) - 20) := by
      rcases Int.le_total 0 ((x : Int) - 20) with z | z
      · exact Int.mul_nonneg z z
      · exact Int.mul_nonneg_of_nonpos_of_nonpos z z
    omega
end Z

/-! Z38: comprehensions over a list that stays. -/
namespace Z
open PySem
theorem lcK_loop {tg : U → Vr → Option Vr} {ft : Vr → Store → R Bool} {fe : Vr → Store → R U} {ρ : Vr} {S : Store} {l : Nat} {all : List D} {p : D → Bool} {f : D → D} (hc : S[l]? = some (some all)) : ∀ (ds acc : List D), acc.length + ds.length ≤ 1000000 →
    (∀ d ∈ ds, ∃ ρ1, tg (.d d) ρ = some ρ1 ∧ ∀ acc, ft ρ1 (S ++ [some acc]) = .ok (p d) (S ++ [some acc]) ∧ (p d = true → fe ρ1 (S ++ [some acc]) = .ok (.d (f d)) (S ++ [some acc]))) →
    lcLoopK l all S.length tg ft fe ρ ds (S ++ [some acc]) = .ok () (S ++ [some (acc ++ (ds.filter p).map f)])
  | [], acc, _, _ => by
    have hl := (List.getElem?_eq_some_iff.mp hc).1
    unfold lcLoopK
    rw [if_pos (by rw [List.getElem?_append_left hl]; exact hc), List.filter_nil, List.map_nil, List.append_nil]
  | d :: ds, acc, hl, h => by
    rw [List.length_cons] at hl
    obtain ⟨ρ1, e1, e2⟩ := h d List.mem_cons_self
    have hd := fun d' hd => h d' (List.mem_cons_of_mem _ hd)
    have hll := (List.getElem?_eq_some_iff.mp hc).1
    obtain ⟨e3, e4⟩ := e2 acc
    unfold lcLoopK
    rw [if_pos (by rw [List.getElem?_append_left hll]; exact hc), e1]
    cases hp : p d with
    | false =>
      rw [hp] at e3
      simp only [e3, R.bnd0, Bool.false_eq_true, if_false]
      rw [lcK_loop (p := p) (f := f) hc ds acc (by omega) hd, List.filter_cons_of_neg (by rw [hp]; exact Bool.false_ne_true)]
    | true =>
      rw [hp] at e3
      simp only [e3, R.bnd0, if_true, e4 hp, frz, at_end]
      rw [if_pos (by omega), set_end, lcK_loop (p := p) (f := f) hc ds (acc ++ [f d]) (by rw [List.length_append, List.length_singleton]; omega) hd, List.filter_cons_of_pos hp, List.map_cons, List.append_assoc]
      rfl
theorem lcK_test {fs : Vr → Store → R U} {tg : U → Vr → Option Vr} {ft : Vr → Store → R Bool} {fe : Vr → Store → R U} {vs : List Nat} {ρ : Vr} {S S1 : Store} {l : Nat} {ds : List D} {p : D → Bool} {f : D → D} (h : fs ρ S = .ok (.loc l) S1) (hc : S1[l]? = some (some ds)) (hl : ds.length ≤ 1000000)
    (hf : ∀ d ∈ ds, ∃ ρ1, tg (.d d) (wipeU ρ vs) = some ρ1 ∧ ∀ acc, ft ρ1 (S1 ++ [some acc]) = .ok (p d) (S1 ++ [some acc]) ∧ (p d = true → fe ρ1 (S1 ++ [some acc]) = .ok (.d (f d)) (S1 ++ [some acc]))) : fLcK fs tg ft fe vs ρ S = .ok (.d (.list ((ds.filter p).map f))) S1 := by
  unfold fLcK lcRunK
  have e := lcK_loop (ρ := wipeU ρ vs) hc ds [] (by simpa using hl) hf
  rw [h]
  simp only [R.bind, hc, e, R.bnd0, at_end, List.nil_append, List.take_left]
theorem lcK_pure {fs : Vr → Store → R U} {tg : U → Vr → Option Vr} {fe : Vr → Store → R U} {vs : List Nat} {ρ : Vr} {S S1 : Store} {l : Nat} {ds : List D} {f : D → D} (h : fs ρ S = .ok (.loc l) S1) (hc : S1[l]? = some (some ds)) (hl : ds.length ≤ 1000000)
    (hf : ∀ d ∈ ds, ∃ ρ1, tg (.d d) (wipeU ρ vs) = some ρ1 ∧ ∀ acc, fe ρ1 (S1 ++ [some acc]) = .ok (.d (f d)) (S1 ++ [some acc])) : fLcK fs tg fYes fe vs ρ S = .ok (.d (.list (ds.map f))) S1 := by
  have := lcK_test (ft := fYes) (p := fun _ => true) (f := f) (fe := fe) h hc hl fun d hd => by
    obtain ⟨ρ1, e1, e2⟩ := hf d hd
    exact ⟨ρ1, e1, fun acc => ⟨rfl, fun _ => e2 acc⟩⟩
  rw [List.filter_eq_self.mpr fun _ _ => rfl] at this
  exact this
end Z

/-! Z39: made_yard, classes, lot_kinds of the package. -/
namespace Z
open PySem M
section
variable {S : Store}
theorem rowsOk_cls {rows : List QRow} {xs : List Rat} (h : RowsOk rows xs) : rows.map (fun r => (r.1, r.2.length)) = clsQ xs := by
  have nd : (rows.map (·.1)).Nodup := List.pairwise_map.mpr (h.asc.imp fun h z => by rw [z] at h; exact Rat.lt_irrefl h)
  have hk : rows.map (·.1) = keysQ xs := by
    refine List.Perm.eq_of_pairwise (le := (· < ·)) (fun a b _ _ h1 h2 => ?_) (List.pairwise_map.mpr h.asc) (keys_asc xs) ((List.perm_ext_iff_of_nodup nd (keys_nodup xs)).mpr fun q => by rw [mem_keys, h.mem])
    grind
  unfold clsQ
  rw [← hk, List.map_map]
  refine List.map_congr_left fun r hr => ?_
  show (r.1, r.2.length) = (r.1, cntQ r.1 xs)
  rw [h.pl r hr, places_len]; rfl
def clD (c : Rat × Nat) : D := .tuple [pq c.1, .int (c.2 : Int)]
def rowC (r : QRow) : D := clD (r.1, r.2.length)
theorem qPut_set {d : Rat} {v : Int} : ∀ {rows : List QRow} {k : Nat} {r : QRow}, rows.Pairwise (fun a b => a.1 < b.1) → rows[k]? = some r → r.1 = d → qPut d v rows = rows.set k (d, r.2 ++ [v])
  | [], _, _, _, h, _ => by simp at h
  | x :: rs, 0, r, _, h, e => by
    simp at h
    subst h
    rw [qPut, if_pos e, List.set_cons_zero, e]
  | x :: rs, k + 1, r, pw, h, e => by
    rw [List.pairwise_cons] at pw
    have hr : rs[k]? = some r := by simpa using h
    have ne : ¬ x.1 = d := fun z => by
      have := pw.1 r (List.mem_of_getElem? hr)
      rw [z, e] at this
      exact Rat.lt_irrefl this
    rw [qPut, if_neg ne, List.set_cons_succ, qPut_set pw.2 hr e]
theorem rngD_range (n : Nat) : rngD 0 n = (List.range n).map fun i : Nat => PyData.int (i : Int) := by
  refine List.ext_getElem? fun i => ?_
  by_cases h : i < n
  · have hl : i < (rngD 0 n).length := by rw [rngD_len]; exact h
    have := (rngD_get n 0 i _ (List.getElem?_eq_getElem hl)).2
    rw [List.getElem?_eq_getElem hl, this]
    simp [h]
  · rw [List.getElem?_eq_none (by rw [rngD_len]; omega), List.getElem?_eq_none (by simp; omega)]
theorem ne_nil {k : Int} {xs : List D} (h : ∀ x ∈ xs, ∃ j : Int, x = .int j) (hl : xs.length ≤ 1000) : uNe (.d (.list xs)) (.d (.list [])) S = .ok (.d (.bool (!xs.isEmpty))) S := by
  have sh : SeqAt.shaped (.list xs) = true := by
    unfold SeqAt.shaped
    have l : (PyData.list xs).canLay0 = true := by
      rw [PyData.canLay0]
      exact lay_all _ fun x hx => by
        obtain ⟨j, rfl⟩ := h x hx
        rfl
    have d : (PyData.list xs).depth ≤ 64 := by
      rw [PyData.depth]
      have := dep_all xs 1 fun x hx => by
        obtain ⟨j, rfl⟩ := h x hx
        simp [PyData.depth]
      omega
    rw [l, decide_eq_true d]; rfl
  unfold uNe
  simp only [viewD, sh, show SeqAt.shaped (.list []) = true from rfl, Bool.and_self, if_true]
  cases xs <;> rfl
theorem s_below {m n : Nat} {a b : Rat} (ha : Bd m a) (hb : Bd n b) (h : m + n < 8000) : M.m__law_op_below [.d (pq a), .d (pq b)] S = .ok (.d (.bool (decide (a < b)))) S := by
  have e := s_fless (S := S) ha hb h
  simpa [M.m__law_op_below, M.g__law_op_below, M.m_fless, M.g_fless] using e
theorem ins_loc {l : Nat} {xs : List D} {i : Nat} {y : D} (h : S[l]? = some (some xs)) (hl : xs.length < 1000000) (hi : i < 1000000) : uIns (.loc l) [.d (.int (i : Int)), .d y] S = .ok (.d .none) (S.set l (some (xs.take i ++ [y] ++ xs.drop i))) := by
  unfold uIns
  simp only [frz_d, h]
  rw [if_pos ⟨hl, by omega, by omega⟩, Int.toNat_natCast]
/-! ### the package's own way -/
theorem eq_mm : uEq (.d (.str "TooMany")) (.d (.str "TooMany")) S = .ok (.d (.bool true)) S := by
  rw [eq_d (by decide +kernel) (by decide +kernel), show PyData.eqv (.str "TooMany") (.str "TooMany") = true by decide +kernel]
theorem eq_bm : uEq (.d (.str "BadYard")) (.d (.str "TooMany")) S = .ok (.d (.bool false)) S := by
  rw [eq_d (by decide +kernel) (by decide +kernel), show PyData.eqv (.str "BadYard") (.str "TooMany") = false by decide +kernel]
theorem s_made_ok {d : D} (h : yf d = .none) : m_made_yard [.d d] S = .ok (.d d) S := by
  have e := s_yf (S := S) d
  rw [h] at e
  simp [m_made_yard, g_made_yard, e]
theorem s_made_many {d : D} {n : Int} (h : yf d = yMany n) : m_made_yard [.d d] S = .exc "TooMany" (.int n) S := by
  have e := s_yf (S := S) d
  rw [h] at e
  simp [m_made_yard, g_made_yard, e, yMany, ix0, ix1, eq_mm]
theorem s_made_bad {d : D} {n : Int} (h : yf d = yBad n) : m_made_yard [.d d] S = .exc "BadYard" (.int n) S := by
  have e := s_yf (S := S) d
  rw [h] at e
  simp [m_made_yard, g_made_yard, e, yBad, ix0, ix1, eq_bm]
theorem yf_right {r : Rat} {qs : List Rat} (hr : Rt r) (h : ∀ q ∈ qs, Rt q) (hl : qs.length ≤ 40) : yf (.tuple [pq r, .tuple (qs.map pq)]) = if 600 < kindsQ qs then yMany (kindsQ qs) else .none := by
  rw [yf_main (by rw [List.length_map]; exact hl) hr.sz, ysF_q h]
theorem s_classes {r : Rat} {qs : List Rat} (hr : Rt r) (h : ∀ q ∈ qs, Rt q) (hl : qs.length ≤ 40) (hk : kindsQ qs ≤ 600) : m_classes [.d (.tuple [pq r, .tuple (qs.map pq)])] S = .ok (.d (.tuple ((clsQ qs).map clD))) S := by
  have hy : yf (.tuple [pq r, .tuple (qs.map pq)]) = .none := by rw [yf_right hr h hl, if_neg (by omega)]
  have em := s_made_ok (S := S) hy
  have key : wp (m_classes [.d (.tuple [pq r, .tuple (qs.map pq)])] S) fun u S' => u = .d (.tuple ((clsQ qs).map clD)) ∧ S' = S := by
    refine w_run ?_
    show wo (g_classes [some (.d (.tuple [pq r, .tuple (qs.map pq)])), none, none] S) _
    unfold g_classes
    refine w_drop (S1 := S) (u := .d (.tuple [pq r, .tuple (qs.map pq)])) (by simp [em]) ?_
    refine w_ret ?_
    have lc := lc_pure (src := sSeq (fCall m_class_rows (fCons (f2 uIx (fVar 0) (fC (.d (.int 1)))) (fNil)))) (tg := aTup 2 (aCons (aName 1) (aCons (aName 2) (aNil)))) (fe := e1_classes) (vs := [1, 2]) (ρ := [some (.d (.tuple [pq r, .tuple (qs.map pq)])), none, none]) (S := S) (S1 := S) (ds := (qRows qs).map fun r => .tuple [pq r.1, .list (r.2.map PyData.int)])
      (f := fun d => match d with | .tuple [a, .list b] => .tuple [a, .int (b.length : Int)] | d => d) (by simp [sSeq, ix1, s_rows h hl, seqD, frz]) (by rw [List.length_map]; have := (rows_few qs).1; omega) fun d hd => by
      obtain ⟨r, _, rfl⟩ := List.mem_map.mp hd
      exact ⟨_, rfl, fun acc => by simp [e1_classes, wipeU, len_lst]⟩
    simp only [fN, fCons, fNil, lc, bind_ok, uTupleOf, viewS, viewL, wp_ok, retn_d, List.take_length, List.map_map]
    refine ⟨?_, trivial⟩
    rw [← cls_rows, List.map_map]
    refine congrArg (fun L : List D => U.d (.tuple L)) (List.map_congr_left fun r _ => ?_)
    simp [clD]
  obtain ⟨u, S', e, rfl, rfl⟩ := wp_ex key
  exact e
theorem s_lot_kinds {r : Rat} {qs : List Rat} (hr : Rt r) (h : ∀ q ∈ qs, Rt q) (hl : qs.length ≤ 40) (hk : kindsQ qs ≤ 600) : m_lot_kinds [.d (.tuple [pq r, .tuple (qs.map pq)])] S = .ok (.d (.int (kindsQ qs))) S := by
  have hy : yf (.tuple [pq r, .tuple (qs.map pq)]) = .none := by rw [yf_right hr h hl, if_neg (by omega)]
  simp [m_lot_kinds, g_lot_kinds, s_made_ok hy, ix1, s_kinds_in h hl]
theorem s_lot_kinds_no {d : D} {c : Str} {x : D} (e : m_made_yard [.d d] S = .exc c x S) : m_lot_kinds [.d d] S = .exc c x S := by simp [m_lot_kinds, g_lot_kinds, e]
theorem s_classes_no {d : D} {c : Str} {x : D} (e : m_made_yard [.d d] S = .exc c x S) : m_classes [.d d] S = .exc c x S := by simp [m_classes, g_classes, e]
theorem perm_q {ys : List D} {qs : List Rat} (h : ys.Perm (qs.map pq)) : ∃ ps : List Rat, ys = ps.map pq ∧ ps.Perm qs := by
  let un : D → Rat := fun d => match d with
    | .tuple [.int a, .int b] => Rat.divInt a b
    | _ => 0
  have hu : ∀ q, un (pq q) = q := fun q => Rat.num_divInt_den q
  refine ⟨ys.map un, ?_, ?_⟩
  · rw [List.map_map]
    conv => lhs; rw [← List.map_id ys]
    refine List.map_congr_left fun y hy => ?_
    obtain ⟨q, _, rfl⟩ := List.mem_map.mp (h.mem_iff.mp hy)
    show pq q = pq (un (pq q))
    rw [hu]
  · have := h.map un
    rw [List.map_map, show un ∘ pq = id from funext hu, List.map_id] at this
    exact this
theorem mk_loc1 {fe : Vr → Store → R U} {ρ : Vr} {S1 : Store} {y : D} (h : fe ρ S = .ok (.d y) S1) : fN mkLoc (fCons fe fNil) ρ S = .ok (.loc S1.length) (S1 ++ [some [y]]) := by
  simp only [fN, fCons, fNil, h, bind_ok, mkLoc, frzs_d, frzs_n, List.length_cons, List.length_nil, Nat.reduceAdd, Nat.reduceLeDiff, if_true]
theorem app_1 {fo fe : Vr → Store → R U} {ρ : Vr} {S1 : Store} {t : Nat} {xs ys : List D} {y : D} (h0 : fo ρ S = .ok (.loc t) S) (hx : S[t]? = some (some ys)) (h : fe ρ S = .ok (.d y) S1) (hx1 : S1[t]? = some (some xs)) (hl : xs.length < 1000) :
    fML uApp fo (fCons fe fNil) ρ S = .ok (.d .none) (S1.set t (some (xs ++ [y]))) := by
  simp only [fML, fCons, fNil, h0, bind_ok, isL_t hx, if_true, h, app_t hx1 hl]
theorem not_test {fe : Vr → Store → R U} {ρ : Vr} {S1 : Store} {b : Bool} (h : fe ρ S = .ok (.d (.bool b)) S1) : fNotT (fTst fe) ρ S = .ok (!b) S1 := by
  simp only [fNotT, fTst, h, bind_ok, tru_b]
theorem tst_ok {fe : Vr → Store → R U} {ρ : Vr} {S1 : Store} {b : Bool} (h : fe ρ S = .ok (.d (.bool b)) S1) : fTst fe ρ S = .ok b S1 := by
  simp only [fTst, h, bind_ok, tru_b]
end
end Z

/-! Z43: sums of sizes; lots and what is wrong with one. -/
namespace Z
open PySem M
section
variable {S : Store}
/-! ### sums -/
def sumQ (xs : List Rat) : Rat := xs.foldr (· + ·) 0
theorem sumQ_nil : sumQ [] = 0 := rfl
theorem sumQ_cons (x : Rat) (xs : List Rat) : sumQ (x :: xs) = x + sumQ xs := rfl
theorem sumQ_app : ∀ xs ys : List Rat, sumQ (xs ++ ys) = sumQ xs + sumQ ys
  | [], ys => by rw [List.nil_append, sumQ_nil, Rat.zero_add]
  | x :: xs, ys => by rw [List.cons_append, sumQ_cons, sumQ_cons, sumQ_app xs ys, Rat.add_assoc]
theorem sumQ_perm {xs ys : List Rat} (h : xs.Perm ys) : sumQ xs = sumQ ys := by
  induction h with
  | nil => rfl
  | cons x _ ih => rw [sumQ_cons, sumQ_cons, ih]
  | swap x y l => rw [sumQ_cons, sumQ_cons, sumQ_cons, sumQ_cons, ← Rat.add_assoc, ← Rat.add_assoc, Rat.add_comm x y]
  | trans _ _ h1 h2 => rw [h1, h2]
theorem sumQ_bd : ∀ {xs : List Rat}, (∀ x ∈ xs, Bd 21 x) → Bd (22 * xs.length + 1) (sumQ xs)
  | [], _ => (⟨by decide, by decide⟩ : Bd 1 0)
  | x :: xs, h => by
    rw [sumQ_cons, List.length_cons]
    exact (add_bd (h x List.mem_cons_self) (sumQ_bd fun y hy => h y (List.mem_cons_of_mem _ hy))).mono (by omega)
theorem pq_0 : U.d (pq 0) = .d (.tuple [.int 0, .int 1]) := by kernel_rfl
theorem s_fsum {qs : List Rat} (h : ∀ q ∈ qs, Bd 21 q) (hl : qs.length ≤ 60) : m_fsum [.d (.list (qs.map pq))] S = .ok (.d (pq (sumQ qs))) S := by
  have key : wp (m_fsum [.d (.list (qs.map pq))] S) fun u S' => u = .d (pq (sumQ qs)) ∧ S' = S := by
    refine w_run ?_
    show wo (g_fsum [some (.d (.list (qs.map pq))), none, none] S) _
    unfold g_fsum
    refine w_set (S1 := S) (u := .d (pq 0)) (by rw [pq_0]; rfl) ?_
    simp only [List.set_cons_succ, List.set_cons_zero]
    refine w_for ?_
    refine wo_for (fun ds i ρ T => T = S ∧ ∃ r2, ρ = [some (.d (.list (qs.map pq))), some (.d (pq (sumQ (qs.take i)))), r2])
      (wp_of (a := qs.map pq) (S := S) (by simp [sSeq, seqD, frz]) ⟨⟨rfl, none, rfl⟩, fun i d ρ T hd ⟨hT, r2, hρ⟩ => ?_, fun ρ T ⟨hT, r2, hρ⟩ => ?_⟩)
    · subst hT hρ
      rw [List.getElem?_map] at hd
      obtain ⟨q, hq, rfl⟩ := Option.map_eq_some_iff.mp hd
      refine ⟨_, rfl, ?_⟩
      have hi := (List.getElem?_eq_some_iff.mp hq).1
      have bt := sumQ_bd (xs := qs.take i) fun x hx => h x (List.mem_of_mem_take hx)
      have e := s_fadd (S := T) bt (h q (List.mem_of_getElem? hq)) (by rw [List.length_take]; omega)
      simp only [b1_fsum, gSet, fCall, fN, fCons, fNil, List.set_cons_succ, List.set_cons_zero, e_varS, e_var0, bind_ok, e, st_ok, wo_nx]
      refine ⟨trivial, some (.d (pq q)), ?_⟩
      rw [List.take_succ, hq, sumQ_app]
      simp only [Option.toList_some, sumQ_cons, sumQ_nil, Rat.add_zero]
    · subst hT hρ
      refine w_ret ?_
      simp only [e_varS, e_var0, wp_ok, retn_d, List.take_length, List.length_map, and_self]
  obtain ⟨u, S', e, rfl, rfl⟩ := wp_ex key
  exact e
theorem s_lsum {qs : List Rat} (h : ∀ q ∈ qs, Bd 21 q) (hl : qs.length ≤ 60) : m__law_op_sum [.d (.list (qs.map pq))] S = .ok (.d (pq (sumQ qs))) S := by
  have key : wp (m__law_op_sum [.d (.list (qs.map pq))] S) fun u S' => u = .d (pq (sumQ qs)) ∧ S' = S := by
    refine w_run ?_
    show wo (g__law_op_sum [some (.d (.list (qs.map pq))), none, none] S) _
    unfold g__law_op_sum
    refine w_set (S1 := S) (u := .d (pq 0)) (by rw [pq_0]; rfl) ?_
    simp only [List.set_cons_succ, List.set_cons_zero]
    refine w_for ?_
    refine wo_for (fun ds i ρ T => T = S ∧ ∃ r2, ρ = [some (.d (.list (qs.map pq))), some (.d (pq (sumQ (qs.take i)))), r2])
      (wp_of (a := qs.map pq) (S := S) (by simp [sSeq, seqD, frz]) ⟨⟨rfl, none, rfl⟩, fun i d ρ T hd ⟨hT, r2, hρ⟩ => ?_, fun ρ T ⟨hT, r2, hρ⟩ => ?_⟩)
    · subst hT hρ
      rw [List.getElem?_map] at hd
      obtain ⟨q, hq, rfl⟩ := Option.map_eq_some_iff.mp hd
      refine ⟨_, rfl, ?_⟩
      have hi := (List.getElem?_eq_some_iff.mp hq).1
      have bt := sumQ_bd (xs := qs.take i) fun x hx => h x (List.mem_of_mem_take hx)
      have e := s_plus (S := T) bt (h q (List.mem_of_getElem? hq)) (by rw [List.length_take]; omega)
      simp only [b1__law_op_sum, gSet, fCall, fN, fCons, fNil, List.set_cons_succ, List.set_cons_zero, e_varS, e_var0, bind_ok, e, st_ok, wo_nx]
      refine ⟨trivial, some (.d (pq q)), ?_⟩
      rw [List.take_succ, hq, sumQ_app]
      simp only [Option.toList_some, sumQ_cons, sumQ_nil, Rat.add_zero]
    · subst hT hρ
      refine w_ret ?_
      simp only [e_varS, e_var0, wp_ok, retn_d, List.take_length, List.length_map, and_self]
  obtain ⟨u, S', e, rfl, rfl⟩ := wp_ex key
  exact e
/-- the sizes of a lot -/
def atQ (qs : List Rat) (i : Nat) : Rat := qs.getD i 0
def lotD (is : List Nat) : D := .tuple (is.map fun i : Nat => PyData.int (i : Int))
def lotQ (qs : List Rat) (is : List Nat) : List Rat := is.map (atQ qs)
theorem ix_atQ {qs : List Rat} {i : Nat} (h : i < qs.length) : uIx (.d (.tuple (qs.map pq))) (.d (.int (i : Int))) S = .ok (.d (pq (atQ qs i))) S := by
  refine ix_tup ?_
  rw [List.getElem?_map, List.getElem?_eq_getElem h]
  unfold atQ
  rw [List.getD_eq_getElem?_getD, List.getElem?_eq_getElem h]
  rfl
theorem atQ_mem {qs : List Rat} {i : Nat} (h : i < qs.length) : atQ qs i ∈ qs := by
  unfold atQ
  rw [List.getD_eq_getElem?_getD, List.getElem?_eq_getElem h]
  exact List.getElem_mem h

theorem lotQ_mem {qs : List Rat} {is : List Nat} (h : ∀ i ∈ is, i < qs.length) : ∀ q ∈ lotQ qs is, q ∈ qs := fun q hq => by
  obtain ⟨i, hi, rfl⟩ := List.mem_map.mp hq
  exact atQ_mem (h i hi)
theorem lotQ_bd {qs : List Rat} {is : List Nat} (hq : ∀ q ∈ qs, Rt q) (h : ∀ i ∈ is, i < qs.length) : ∀ q ∈ lotQ qs is, Bd 21 q := fun q hm => (hq q (lotQ_mem h q hm)).bd
/-- the comprehension of both -/
theorem sizes_lc {r : D} {qs : List Rat} {is : List Nat} {ρ : Vr} {fe : Vr → Store → R U} (h : ∀ i ∈ is, i < qs.length) (hl : is.length ≤ 60) (h1 : ρ[1]? = some (some (.d (lotD is)))) (h3 : ρ.length = 3)
    (he : ∀ (i : Nat) (T : Store), i < qs.length → fe ((wipeU ρ [2]).set 2 (some (.d (.int (i : Int))))) T = .ok (.d (pq (atQ qs i))) T) :
    fLc (sSeq (fVar 1)) (aName 2) fYes fe [2] ρ S = .ok (.d (.list ((lotQ qs is).map pq))) S := by
  have lc := lc_pure (src := sSeq (fVar 1)) (tg := aName 2) (fe := fe) (vs := [2]) (ρ := ρ) (S := S) (S1 := S) (ds := is.map fun i : Nat => PyData.int (i : Int)) (f := fun d => match d with | .int i => pq (atQ qs i.toNat) | d => d) (by
    simp only [sSeq, e_var h1, bind_ok, lotD, seqD]) (by rw [List.length_map]; omega) fun d hd => by
    obtain ⟨i, hi, rfl⟩ := List.mem_map.mp hd
    refine ⟨(wipeU ρ [2]).set 2 (some (.d (.int (i : Int)))), rfl, fun acc => ?_⟩
    rw [he i _ (h i hi)]
    simp only [Int.toNat_natCast]
  rw [lc]
  unfold lotQ
  rw [List.map_map, List.map_map]
  refine congrArg (fun L : List D => R.ok (U.d (.list L)) S) (List.map_congr_left fun i _ => ?_)
  simp only [Function.comp, Int.toNat_natCast]
theorem s_size_of {r : D} {qs : List Rat} {is : List Nat} (hq : ∀ q ∈ qs, Rt q) (h : ∀ i ∈ is, i < qs.length) (hl : is.length ≤ 60) : m_size_of [.d (.tuple [r, .tuple (qs.map pq)]), .d (lotD is)] S = .ok (.d (pq (sumQ (lotQ qs is)))) S := by
  have lc := sizes_lc (S := S) (r := r) (ρ := [some (.d (.tuple [r, .tuple (qs.map pq)])), some (.d (lotD is)), none]) (fe := e1_size_of) h hl rfl rfl fun i T hi => by
    simp only [e1_size_of, f2, fC, wipeU, List.set_cons_succ, List.set_cons_zero, e_varS, e_var0, bind_ok, ix1, ix_atQ hi]
  have e := s_fsum (S := S) (lotQ_bd hq h) (by unfold lotQ; rw [List.length_map]; exact hl)
  have key : wp (m_size_of [.d (.tuple [r, .tuple (qs.map pq)]), .d (lotD is)] S) fun u S' => u = .d (pq (sumQ (lotQ qs is))) ∧ S' = S := by
    refine w_run ?_
    show wo (g_size_of [some (.d (.tuple [r, .tuple (qs.map pq)])), some (.d (lotD is)), none] S) _
    unfold g_size_of
    refine w_ret ?_
    simp only [fCall, fN, fCons, fNil, lc, bind_ok, e, wp_ok, retn_d, List.take_length, and_self]
  obtain ⟨u, S', e, rfl, rfl⟩ := wp_ex key
  exact e
theorem s_lsize_sum {r : D} {qs : List Rat} {is : List Nat} (hq : ∀ q ∈ qs, Rt q) (h : ∀ i ∈ is, i < qs.length) (hl : is.length ≤ 60) : m__law_op_size_sum [.d (.tuple [r, .tuple (qs.map pq)]), .d (lotD is)] S = .ok (.d (pq (sumQ (lotQ qs is)))) S := by
  have lc := sizes_lc (S := S) (r := r) (ρ := [some (.d (.tuple [r, .tuple (qs.map pq)])), some (.d (lotD is)), none]) (fe := e1__law_op_size_sum) h hl rfl rfl fun i T hi => by
    simp only [e1__law_op_size_sum, f2, fC, wipeU, List.set_cons_succ, List.set_cons_zero, e_varS, e_var0, bind_ok, ix1, ix_atQ hi]
  have e := s_lsum (S := S) (lotQ_bd hq h) (by unfold lotQ; rw [List.length_map]; exact hl)
  have key : wp (m__law_op_size_sum [.d (.tuple [r, .tuple (qs.map pq)]), .d (lotD is)] S) fun u S' => u = .d (pq (sumQ (lotQ qs is))) ∧ S' = S := by
    refine w_run ?_
    show wo (g__law_op_size_sum [some (.d (.tuple [r, .tuple (qs.map pq)])), some (.d (lotD is)), none] S) _
    unfold g__law_op_size_sum
    refine w_ret ?_
    simp only [fCall, fN, fCons, fNil, lc, bind_ok, e, wp_ok, retn_d, List.take_length, and_self]
  obtain ⟨u, S', e, rfl, rfl⟩ := wp_ex key
  exact e
/-! ### what is wrong with a lot -/
def intOf (d : D) : Int := match d with
  | .int i => i
  | _ => 0
def lotGo (top : Int) : Int → Int → List D → D
  | _, _, [] => .none
  | least, at_, x :: xs => if isWhole x least top = true then lotGo top (intOf x + 1) (at_ + 1) xs else .int at_
def lotF (many : Nat) (d : D) : D := match d with
  | .tuple xs => lotGo ((many : Int) - 1) 0 0 xs
  | _ => .int (-1)
theorem isWhole_int {x : D} {lo hi : Int} (h : isWhole x lo hi = true) : x = .int (intOf x) ∧ lo ≤ intOf x ∧ intOf x ≤ hi := by
  unfold isWhole at h
  split at h
  · rw [Bool.and_eq_true, decide_eq_true_eq, decide_eq_true_eq] at h
    exact ⟨rfl, h⟩
  · cases h
theorem s_lot_fault {r d : D} {ss : List D} : m_lot_fault [.d (.tuple [r, .tuple ss]), .d d] S = .ok (.d (lotF ss.length d)) S := by
  have key : wp (m_lot_fault [.d (.tuple [r, .tuple ss]), .d d] S) fun u S' => u = .d (lotF ss.length d) ∧ S' = S := by
    refine w_run ?_
    show wo (g_lot_fault [some (.d (.tuple [r, .tuple ss])), some (.d d), none, none, none] S) _
    unfold g_lot_fault
    have ht := isi_d (S := S) (y := d) (show okTy "tuple" = true from rfl)
    cases hd : isTy "tuple" (tyOf d) with
    | false =>
      rw [hd] at ht
      refine w_if ?_
      simp only [fNotT, fTst, fN, fCons, fNil, fC, e_varS, e_var0, bind_ok, ht, tru_b, wp_ok, Bool.not_false, if_true]
      refine w_ret ?_
      simp only [f1, fC, bind_ok, neg_i, wp_ok, retn_d, List.take_length, and_true]
      cases d with
      | tuple xs => cases hd
      | _ => rfl
    | true =>
      rw [hd] at ht
      refine w_ifN (S1 := S) (by simp only [fNotT, fTst, fN, fCons, fNil, fC, e_varS, e_var0, bind_ok, ht, tru_b, Bool.not_true]) ?_
      obtain ⟨xs, rfl⟩ : ∃ xs, d = .tuple xs := by
        cases d with
        | tuple xs => exact ⟨xs, rfl⟩
        | _ => cases hd
      refine w_set (S1 := S) (u := .d (.int 0)) rfl ?_
      simp only [List.set_cons_succ, List.set_cons_zero]
      refine w_for ?_
      refine wo_for (fun ds i ρ T => T = S ∧ ∃ (least : Int) (r3 r4 : Option U), lotGo ((ss.length : Int) - 1) 0 0 xs = lotGo ((ss.length : Int) - 1) least (i : Int) (xs.drop i) ∧ ρ = [some (.d (.tuple [r, .tuple ss])), some (.d (.tuple xs)), some (.d (.int least)), r3, r4])
        (wp_of (a := enumD 0 xs) (S := S) (by simp [sN, sEnumA, seqD]) ⟨⟨rfl, 0, none, none, rfl, rfl⟩, fun i z ρ T hd ⟨hT, least, r3, r4, hg, hρ⟩ => ?_, fun ρ T ⟨hT, least, r3, r4, hg, hρ⟩ => ?_⟩)
      · subst hT hρ
        obtain ⟨x, hx, rfl⟩ := enumD_get xs 0 i z hd
        refine ⟨_, rfl, ?_⟩
        have hi := (List.getElem?_eq_some_iff.mp hx).1
        have hdrop : xs.drop i = x :: xs.drop (i + 1) := by
          rw [List.drop_eq_getElem_cons hi, (List.getElem?_eq_some_iff.mp hx).2]
        rw [hdrop, lotGo] at hg
        have ew := s_whole x least ((ss.length : Int) - 1) T
        unfold b1_lot_fault
        cases hw : isWhole x least ((ss.length : Int) - 1) with
        | false =>
          rw [hw] at ew hg
          refine w_if ?_
          simp only [fNotT, fTst, fCall, f2, fN, fCons, fNil, fC, List.set_cons_succ, List.set_cons_zero, e_varS, e_var0, bind_ok, ix1, len_tup, sub_i, ew, tru_b, wp_ok, Bool.not_false, if_true]
          refine w_ret ?_
          simp only [e_varS, e_var0, wp_ok, retn_d, List.take_length, and_true]
          show U.d (.int (0 + (i : Int))) = .d (lotGo _ 0 0 xs)
          rw [hg, Int.zero_add]
          rfl
        | true =>
          rw [hw] at ew hg
          obtain ⟨ex, _, _⟩ := isWhole_int hw
          refine w_ifN (S1 := T) (by simp only [fNotT, fTst, fCall, f2, fN, fCons, fNil, fC, List.set_cons_succ, List.set_cons_zero, e_varS, e_var0, bind_ok, ix1, len_tup, sub_i, ew, tru_b, Bool.not_true]) ?_
          have ea : uAdd (.d x) (.d (.int 1)) T = .ok (.d (.int (intOf x + 1))) T := by rw [ex]; rfl
          simp only [gSet, f2, fC, List.set_cons_succ, List.set_cons_zero, e_varS, e_var0, bind_ok, ea, st_ok, wo_nx]
          refine ⟨trivial, intOf x + 1, some (.d (.int (0 + (i : Int)))), some (.d x), ?_, rfl⟩
          rw [hg, if_pos rfl, Int.natCast_add, Int.natCast_one]
      · subst hT hρ
        refine w_ret ?_
        simp only [fC, wp_ok, retn_d, List.take_length, and_true]
        show U.d .none = .d (lotGo _ 0 0 xs)
        rw [hg, enumD_len, List.drop_length, lotGo]
  obtain ⟨u, S', e, rfl, rfl⟩ := wp_ex key
  exact e

theorem s_is_in (x : D) (lo hi : Int) : m__law_op_is_in [.d x, .d (.int lo), .d (.int hi)] S = .ok (.d (.bool (isWhole x lo hi))) S := by
  have e := s_iswhole x S
  cases x with
  | int i =>
    simp [m__law_op_is_in, g__law_op_is_in, e, isInt, isWhole]
    by_cases h : lo ≤ i <;> simp [h]
  | _ => simp [m__law_op_is_in, g__law_op_is_in, e, isInt, isWhole]
theorem s_llot_fault {d : D} {many : Nat} (hl : ∀ xs, d = .tuple xs → xs.length ≤ 1000) : m__law_op_lot_fault [.d d, .d (.int (many : Int))] S = .ok (.d (lotF many d)) S := by
  have key : wp (m__law_op_lot_fault [.d d, .d (.int (many : Int))] S) fun u S' => u = .d (lotF many d) ∧ S' = S := by
    refine w_run ?_
    show wo (g__law_op_lot_fault [some (.d d), some (.d (.int (many : Int))), none] S) _
    unfold g__law_op_lot_fault
    have ht := isi_d (S := S) (y := d) (show okTy "tuple" = true from rfl)
    cases hd : isTy "tuple" (tyOf d) with
    | false =>
      rw [hd] at ht
      refine w_if ?_
      simp only [fNotT, fTst, fN, fCons, fNil, fC, e_varS, e_var0, bind_ok, ht, tru_b, wp_ok, Bool.not_false, if_true]
      refine w_ret ?_
      simp only [f1, fC, bind_ok, neg_i, wp_ok, retn_d, List.take_length, and_true]
      cases d with
      | tuple xs => cases hd
      | _ => rfl
    | true =>
      rw [hd] at ht
      refine w_ifN (S1 := S) (by simp only [fNotT, fTst, fN, fCons, fNil, fC, e_varS, e_var0, bind_ok, ht, tru_b, Bool.not_true]) ?_
      obtain ⟨xs, rfl⟩ : ∃ xs, d = .tuple xs := by
        cases d with
        | tuple xs => exact ⟨xs, rfl⟩
        | _ => cases hd
      have hxl := hl xs rfl
      have er : sRng1 [.d (.int (xs.length : Int))] S = .ok (rngD 0 xs.length) S := by rw [rng1_i (by omega) (by omega), Int.toNat_natCast]
      refine w_for ?_
      refine wo_for (fun ds i ρ T => T = S ∧ ∃ (least : Int) (r2 : Option U), lotGo ((many : Int) - 1) 0 0 xs = lotGo ((many : Int) - 1) least (i : Int) (xs.drop i) ∧ ((i = 0 ∧ least = 0) ∨ ∃ (k : Nat) (j : Int), i = k + 1 ∧ xs[k]? = some (.int j) ∧ least = j + 1) ∧ ρ = [some (.d (.tuple xs)), some (.d (.int (many : Int))), r2])
        (wp_of (a := rngD 0 xs.length) (S := S) (by simp only [sN, fN, fCons, fNil, e_varS, e_var0, bind_ok, len_tup, er]) ⟨⟨rfl, 0, none, rfl, .inl ⟨rfl, rfl⟩, rfl⟩, fun i z ρ T hd ⟨hT, least, r2, hg, hp, hρ⟩ => ?_, fun ρ T ⟨hT, least, r2, hg, hp, hρ⟩ => ?_⟩)
      · subst hT hρ
        obtain ⟨hi, rfl⟩ := rngD_get _ _ _ _ hd
        refine ⟨_, rfl, ?_⟩
        rw [Int.zero_add]
        have hx : xs[i]? = some xs[i] := List.getElem?_eq_getElem hi
        generalize xs[i] = x at hx
        have hdrop : xs.drop i = x :: xs.drop (i + 1) := by
          rw [List.drop_eq_getElem_cons hi, (List.getElem?_eq_some_iff.mp hx).2]
        rw [hdrop, lotGo] at hg
        have ix := ix_tup (S := T) hx
        have eIf : fIf (fTst (f2 uGt (fVar 2) (fC (.d (.int 0))))) (f2 uAdd (f2 uIx (fVar 0) (f2 uSub (fVar 2) (fC (.d (.int 1))))) (fC (.d (.int 1)))) (fC (.d (.int 0))) [some (.d (.tuple xs)), some (.d (.int (many : Int))), some (.d (.int (i : Int)))] T = .ok (.d (.int least)) T := by
          rcases hp with ⟨rfl, rfl⟩ | ⟨k, j, rfl, hk, rfl⟩
          · rfl
          · have h0 : decide ((0 : Int) < ((k + 1 : Nat) : Int)) = true := decide_eq_true (by omega)
            have h1 : (((k + 1 : Nat) : Int) - 1) = (k : Int) := by omega
            have ixk := ix_tup (S := T) hk
            simp only [fIf, fTst, f2, fC, e_varS, e_var0, bind_ok, gt_i, h0, tru_b, if_true, sub_i, h1, ixk, add_i]
        have ew := s_is_in (S := T) x least ((many : Int) - 1)
        have et : fNotT (fTst (fCall m__law_op_is_in (fCons (f2 uIx (fVar 0) (fVar 2)) (fCons (fIf (fTst (f2 uGt (fVar 2) (fC (.d (.int 0))))) (f2 uAdd (f2 uIx (fVar 0) (f2 uSub (fVar 2) (fC (.d (.int 1))))) (fC (.d (.int 1)))) (fC (.d (.int 0)))) (fCons (f2 uSub (fVar 1) (fC (.d (.int 1)))) (fNil)))))) [some (.d (.tuple xs)), some (.d (.int (many : Int))), some (.d (.int (i : Int)))] T = .ok (!isWhole x least ((many : Int) - 1)) T := by
          refine not_test ?_
          have e1 : f2 uIx (fVar 0) (fVar 2) [some (.d (.tuple xs)), some (.d (.int (many : Int))), some (.d (.int (i : Int)))] T = .ok (.d x) T := by
            simp only [f2, e_varS, e_var0, bind_ok, ix]
          have e3 : f2 uSub (fVar 1) (fC (.d (.int 1))) [some (.d (.tuple xs)), some (.d (.int (many : Int))), some (.d (.int (i : Int)))] T = .ok (.d (.int ((many : Int) - 1))) T := by
            simp only [f2, fC, e_varS, e_var0, bind_ok, sub_i]
          unfold fCall fN fCons
          rw [e1]
          simp only [bind_ok]
          rw [eIf]
          simp only [bind_ok]
          rw [e3]
          simp only [bind_ok, fNil, ew]
        unfold b1__law_op_lot_fault
        simp only [gIf, wo_st, List.set_cons_succ, List.set_cons_zero]
        refine wp_of et ?_
        cases hw : isWhole x least ((many : Int) - 1) with
        | false =>
          rw [hw] at hg
          simp only [Bool.not_false, if_true]
          refine w_ret ?_
          simp only [e_varS, e_var0, wp_ok, retn_d, List.take_length, and_true]
          show U.d (.int (i : Int)) = .d (lotGo _ 0 0 xs)
          rw [hg]
          rfl
        | true =>
          rw [hw] at hg
          obtain ⟨ex, _, _⟩ := isWhole_int hw
          simp only [Bool.not_true, Bool.false_eq_true, if_false, gNx, wo_nx]
          refine ⟨trivial, intOf x + 1, some (.d (.int (i : Int))), ?_, .inr ⟨i, intOf x, rfl, by rw [← ex]; exact hx, rfl⟩, rfl⟩
          rw [hg, if_pos rfl, Int.natCast_add, Int.natCast_one]
      · subst hT hρ
        refine w_ret ?_
        simp only [fC, wp_ok, retn_d, List.take_length, and_true]
        show U.d .none = .d (lotGo _ 0 0 xs)
        rw [hg, rngD_len, List.drop_length, lotGo]
  obtain ⟨u, S', e, rfl, rfl⟩ := wp_ex key
  exact e
end
end Z

/-! Z44: right lots; made_lot, size_sum; _law_op_lots, _law_some. -/
namespace Z
open PySem M
def Lot (many : Nat) (is : List Nat) : Prop := is.Pairwise (· < ·) ∧ ∀ i ∈ is, i < many
theorem Lot.len {many : Nat} {is : List Nat} (h : Lot many is) : is.length ≤ many := by
  have nd : is.Nodup := h.1.imp fun h => Nat.ne_of_lt h
  have := nd.length_le_of_subset (l₂ := List.range many) fun i hi => List.mem_range.mpr (h.2 i hi)
  rwa [List.length_range] at this
theorem lotGo_ok {many : Nat} : ∀ (is : List Nat) (least a : Int), is.Pairwise (· < ·) → (∀ i ∈ is, least ≤ (i : Int) ∧ i < many) → lotGo ((many : Int) - 1) least a (is.map fun i : Nat => PyData.int (i : Int)) = .none
  | [], _, _, _, _ => rfl
  | i :: is, least, a, hp, h => by
    have hi := h i List.mem_cons_self
    have hw : isWhole (.int (i : Int)) least ((many : Int) - 1) = true := by
      unfold isWhole
      rw [Bool.and_eq_true, decide_eq_true_eq, decide_eq_true_eq]
      omega
    rw [List.map_cons, lotGo, if_pos hw]
    rw [List.pairwise_cons] at hp
    refine lotGo_ok is _ _ hp.2 fun j hj => ?_
    have h1 := hp.1 j hj
    have h2 := h j (List.mem_cons_of_mem _ hj)
    show ((i : Int) + 1 ≤ (j : Int)) ∧ j < many
    omega
theorem lotF_ok {many : Nat} {is : List Nat} (h : Lot many is) : lotF many (lotD is) = .none := lotGo_ok is 0 0 h.1 fun i hi => ⟨by omega, h.2 i hi⟩
theorem lotGo_inv {many : Nat} : ∀ (xs : List D) (least a : Int), 0 ≤ least → lotGo ((many : Int) - 1) least a xs = .none → ∃ is : List Nat, xs = is.map (fun i : Nat => PyData.int (i : Int)) ∧ is.Pairwise (· < ·) ∧ ∀ i ∈ is, least ≤ (i : Int) ∧ i < many
  | [], _, _, _, _ => ⟨[], rfl, .nil, fun i h => by cases h⟩
  | x :: xs, least, a, h0, h => by
    rw [lotGo] at h
    by_cases hw : isWhole x least ((many : Int) - 1) = true
    · rw [if_pos hw] at h
      obtain ⟨ex, h1, h2⟩ := isWhole_int hw
      obtain ⟨is, rfl, hp, hi⟩ := lotGo_inv xs _ _ (by omega) h
      obtain ⟨n, hn⟩ := Int.eq_ofNat_of_zero_le (show 0 ≤ intOf x by omega)
      refine ⟨n :: is, by rw [List.map_cons, ← hn, ← ex], List.pairwise_cons.mpr ⟨fun j hj => ?_, hp⟩, fun j hj => ?_⟩
      · have := (hi j hj).1
        omega
      · rcases List.mem_cons.mp hj with e | hj
        · subst e
          omega
        · have := hi j hj
          omega
    · rw [if_neg hw] at h
      cases h
theorem lotF_inv {many : Nat} {d : D} (h : lotF many d = .none) : ∃ is, d = lotD is ∧ Lot many is := by
  unfold lotF at h
  split at h
  · obtain ⟨is, rfl, hp, hi⟩ := lotGo_inv _ _ _ (by omega) h
    exact ⟨is, rfl, hp, fun i hm => (hi i hm).2⟩
  · cases h
theorem lotGo_cases {top : Int} : ∀ (xs : List D) (least a : Int), lotGo top least a xs = .none ∨ ∃ k, lotGo top least a xs = .int k
  | [], _, _ => .inl rfl
  | x :: xs, least, a => by
    rw [lotGo]
    split
    · exact lotGo_cases xs _ _
    · exact .inr ⟨_, rfl⟩
theorem lotF_cases (many : Nat) (d : D) : lotF many d = .none ∨ ∃ k, lotF many d = .int k := by
  unfold lotF
  split
  · exact lotGo_cases _ _ _
  · exact .inr ⟨_, rfl⟩
section
variable {S : Store} {r d : D} {qs : List Rat}
theorem s_made_lot (hy : yf (.tuple [r, .tuple (qs.map pq)]) = .none) (h : lotF qs.length d = .none) : m_made_lot [.d (.tuple [r, .tuple (qs.map pq)]), .d d] S = .ok (.d d) S := by
  have e := s_lot_fault (S := S) (r := r) (ss := qs.map pq) (d := d)
  rw [List.length_map, h] at e
  simp [m_made_lot, g_made_lot, s_made_ok hy, e]
theorem s_made_lot_bad (hy : yf (.tuple [r, .tuple (qs.map pq)]) = .none) {k : Int} (h : lotF qs.length d = .int k) : m_made_lot [.d (.tuple [r, .tuple (qs.map pq)]), .d d] S = .exc "BadLot" (.int k) S := by
  have e := s_lot_fault (S := S) (r := r) (ss := qs.map pq) (d := d)
  rw [List.length_map, h] at e
  simp [m_made_lot, g_made_lot, s_made_ok hy, e]
theorem s_made_lot_no {y : D} {c : Str} {x : D} (e : m_made_yard [.d y] S = .exc c x S) : m_made_lot [.d y, .d d] S = .exc c x S := by simp [m_made_lot, g_made_lot, e]
theorem s_size_sum {is : List Nat} (hy : yf (.tuple [r, .tuple (qs.map pq)]) = .none) (hq : ∀ q ∈ qs, Rt q) (hl : qs.length ≤ 40) (h : Lot qs.length is) : m_size_sum [.d (.tuple [r, .tuple (qs.map pq)]), .d (lotD is)] S = .ok (.d (pq (sumQ (lotQ qs is)))) S := by
  have e := s_made_lot (S := S) hy (lotF_ok h)
  have e2 := s_size_of (S := S) (r := r) hq h.2 (by have := h.len; omega)
  simp [m_size_sum, g_size_sum, e, e2]
theorem s_size_sum_no {y : D} {c : Str} {x : D} (e : m_made_lot [.d y, .d d] S = .exc c x S) : m_size_sum [.d y, .d d] S = .exc c x S := by simp [m_size_sum, g_size_sum, e]
end

/-! ### all lots -/
def lotsN : Nat → List (List Nat)
  | 0 => [[]]
  | v + 1 => lotsN v ++ (lotsN v).map fun is => is ++ [v]
theorem lotsN_len : ∀ v, (lotsN v).length = 2 ^ v
  | 0 => rfl
  | v + 1 => by rw [lotsN, List.length_append, List.length_map, lotsN_len v, Nat.pow_succ]; omega
theorem lotsN_ok : ∀ v, ∀ is ∈ lotsN v, Lot v is
  | 0, is, h => by
    rw [lotsN, List.mem_singleton] at h
    subst h
    exact ⟨.nil, fun i h => by cases h⟩
  | v + 1, is, h => by
    rw [lotsN] at h
    rcases List.mem_append.mp h with h | h
    · have := lotsN_ok v is h
      exact ⟨this.1, fun i hi => by have := this.2 i hi; omega⟩
    · obtain ⟨js, hj, rfl⟩ := List.mem_map.mp h
      have := lotsN_ok v js hj
      refine ⟨List.pairwise_append.mpr ⟨this.1, List.pairwise_singleton _ _, fun a ha b hb => ?_⟩, fun i hi => ?_⟩
      · rw [List.mem_singleton.mp hb]
        exact this.2 a ha
      · rcases List.mem_append.mp hi with hi | hi
        · have := this.2 i hi
          omega
        · rw [List.mem_singleton.mp hi]
          omega
def unLot (d : D) : List Nat := match d with
  | .tuple xs => xs.map fun x => (intOf x).toNat
  | _ => []
theorem unLot_lotD (is : List Nat) : unLot (lotD is) = is := by
  unfold lotD unLot
  simp only [List.map_map]
  conv => rhs; rw [← List.map_id is]
  exact List.map_congr_left fun i _ => by simp [intOf]
theorem gd_lot {is : List Nat} {m : Nat} (h : ∀ i ∈ is, i < 1000) (hl : is.length ≤ m) : Gd 1 (m + 1) (lotD is) := (gd_tup (k := 0) (s := 1) fun x hx => by
  obtain ⟨i, hi, rfl⟩ := List.mem_map.mp hx
  have := h i hi
  exact gd_int (by
    rw [Int.natAbs_natCast]
    exact Nat.lt_trans this (by decide))).mono (by decide) (by rw [List.length_map]; omega)
theorem alike_ints : ∀ (xs ys : List Nat), PySem.W.alikeAll (xs.map fun i : Nat => PyData.int (i : Int)) (ys.map fun i : Nat => PyData.int (i : Int)) = true
  | [], ys => by rw [List.map_nil, PySem.W.alikeAll]
  | x :: xs, [] => by rw [List.map_nil, List.map_cons, PySem.W.alikeAll]
  | x :: xs, y :: ys => by rw [List.map_cons, List.map_cons, PySem.W.alikeAll, alike_ints xs ys, PySem.W.alike]; rfl
/-- a lot behind its length -/
def keyed (is : List Nat) : D := .tuple [.int (is.length : Int), lotD is]
theorem keyed_ok {L : List (List Nat)} {m : Nat} (h : ∀ is ∈ L, Lot m is) (hm : m ≤ 40) : okSort (L.map keyed) = true := by
  unfold okSort
  rw [Bool.and_eq_true]
  refine ⟨List.all_eq_true.mpr fun d hd => ?_, ?_⟩
  · obtain ⟨is, hi, rfl⟩ := List.mem_map.mp hd
    rw [Bool.and_eq_true, decide_eq_true_eq]
    refine ⟨List.all_eq_true.mpr fun e he => ?_, ?_⟩
    · obtain ⟨js, hj, rfl⟩ := List.mem_map.mp he
      simp only [keyed, lotD, PySem.W.alike, PySem.W.alikeAll, alike_ints, Bool.and_self]
    · have hl := h is hi
      have g : Gd 2 100 (keyed is) := (gd2 ((gd_int (by have := hl.len; rw [Int.natAbs_natCast]; exact Nat.lt_of_le_of_lt this (Nat.lt_of_le_of_lt hm (by decide)))).mono (k' := 1) (s' := 41)) ((gd_lot (m := 40) (fun i hi => by have := hl.2 i hi; omega) (by have := hl.len; omega)).mono)).mono
      have := g.dep
      omega
  · rw [Bool.or_eq_true]
    refine .inl (List.all_eq_true.mpr fun d hd => ?_)
    obtain ⟨is, hi, rfl⟩ := List.mem_map.mp hd
    rfl
theorem s_lots {S : Store} {many : Nat} (h : many ≤ 6) : ∃ L : List (List Nat), m__law_op_lots [.d (.int (many : Int))] S = .ok (.d (.list (L.map lotD))) S ∧ L.length ≤ 64 ∧ ∀ is ∈ L, Lot many is := by
  have key : wp (m__law_op_lots [.d (.int (many : Int))] S) fun u S' => S' = S ∧ ∃ L : List (List Nat), u = .d (.list (L.map lotD)) ∧ L.length ≤ 64 ∧ ∀ is ∈ L, Lot many is := by
    refine w_run ?_
    show wo (g__law_op_lots [some (.d (.int (many : Int))), none, none, none, none] S) _
    unfold g__law_op_lots
    refine w_set (S1 := S ++ [some [.tuple []]]) (u := .loc S.length) (by
      simp only [fN, fCons, fNil, bind_ok, mkTup, mkLoc, frzs_d, frzs_n, List.length_cons, List.length_nil, Nat.reduceAdd, Nat.reduceLeDiff, Nat.zero_le, if_true]) ?_
    simp only [List.set_cons_succ, List.set_cons_zero]
    have er : sRng1 [.d (.int (many : Int))] (S ++ [some [.tuple []]]) = .ok (rngD 0 many) (S ++ [some [.tuple []]]) := by rw [rng1_i (by omega) (by omega), Int.toNat_natCast]
    refine w_for ?_
    refine wo_for (fun ds i ρ T => T = S ++ [some ((lotsN i).map lotD)] ∧ ∃ r2 : Option U, ρ = [some (.d (.int (many : Int))), some (.loc S.length), r2, none, none])
      (wp_of (a := rngD 0 many) (S := S ++ [some [.tuple []]]) (by simp only [sN, fCons, fNil, e_varS, e_var0, bind_ok, er]) ⟨⟨rfl, none, rfl⟩, fun i z ρ T hd ⟨hT, r2, hρ⟩ => ?_, fun ρ T ⟨hT, r2, hρ⟩ => ?_⟩)
    · subst hT hρ
      obtain ⟨hi, rfl⟩ := rngD_get _ _ _ _ hd
      refine ⟨_, rfl, ?_⟩
      rw [Int.zero_add]
      have p6 : 2 ^ i ≤ 2 ^ 6 := Nat.pow_le_pow_right (by decide) (by omega)
      have lc := lcK_pure (fs := fVar 1) (tg := aName 4) (fe := e1__law_op_lots) (vs := [4]) (ρ := [some (.d (.int (many : Int))), some (.loc S.length), some (.d (.int (i : Int))), none, none]) (S := S ++ [some ((lotsN i).map lotD)]) (S1 := S ++ [some ((lotsN i).map lotD)]) (l := S.length) (ds := (lotsN i).map lotD)
        (f := fun d => lotD (unLot d ++ [i])) rfl at_end (by rw [List.length_map, lotsN_len]; omega) fun d hd => by
        obtain ⟨is, hm, rfl⟩ := List.mem_map.mp hd
        refine ⟨_, rfl, fun acc => ?_⟩
        have hl := (lotsN_ok i is hm).len
        have ea : ∀ T : Store, uAdd (.d (lotD is)) (.d (.tuple [.int (i : Int)])) T = .ok (.d (lotD (is ++ [i]))) T := fun T => by
          unfold lotD
          rw [add_t (by rw [List.length_map]; simp; omega), List.map_append]
          rfl
        rw [unLot_lotD]
        simp only [e1__law_op_lots, f2, fN, fCons, fNil, wipeU, List.set_cons_succ, List.set_cons_zero, e_varS, e_var0, bind_ok, mkTup, frzs_d, frzs_n, List.length_cons, List.length_nil, Nat.reduceAdd, Nat.reduceLeDiff, if_true, ea]
      have em : ((lotsN i).map lotD).map (fun d => lotD (unLot d ++ [i])) = ((lotsN i).map fun is => is ++ [i]).map lotD := by
        rw [List.map_map, List.map_map]
        refine List.map_congr_left fun is _ => ?_
        show lotD (unLot (lotD is) ++ [i]) = lotD (is ++ [i])
        rw [unLot_lotD]
      rw [em] at lc
      have ee := ext_l (S := S ++ [some ((lotsN i).map lotD)]) (t := S.length) (xs := (lotsN i).map lotD) (ys := ((lotsN i).map fun is => is ++ [i]).map lotD) at_end (by rw [List.length_map, List.length_map, List.length_map, lotsN_len]; omega)
      rw [set_end, ← List.map_append] at ee
      simp only [b2__law_op_lots, gDrop, fML, fCons, fNil, List.set_cons_succ, List.set_cons_zero, e_varS, e_var0, bind_ok, isL_t (S := S ++ [some ((lotsN i).map lotD)]) (t := S.length) at_end, if_true, lc, ee, st_ok, wo_nx]
      exact ⟨rfl, _, rfl⟩
    · subst hT hρ
      rw [rngD_len]
      have p6 : 2 ^ many ≤ 2 ^ 6 := Nat.pow_le_pow_right (by decide) h
      have lc := lc_pure (src := sSeq (fVar 1)) (tg := aName 4) (fe := e4__law_op_lots) (vs := [4]) (ρ := [some (.d (.int (many : Int))), some (.loc S.length), r2, none, none]) (S := S ++ [some ((lotsN many).map lotD)]) (S1 := S ++ [none]) (ds := (lotsN many).map lotD)
        (f := fun d => keyed (unLot d)) (by simp [sSeq, seqD, frz]) (by rw [List.length_map, lotsN_len]; omega) fun d hd => by
        obtain ⟨is, hm, rfl⟩ := List.mem_map.mp hd
        refine ⟨_, rfl, fun acc => ?_⟩
        have el : ∀ T : Store, uLen [.d (lotD is)] T = .ok (.d (.int (is.length : Int))) T := fun T => by
          unfold lotD
          rw [len_tup, List.length_map]
        rw [unLot_lotD]
        simp only [e4__law_op_lots, fN, fCons, fNil, wipeU, List.set_cons_succ, List.set_cons_zero, e_varS, e_var0, bind_ok, el, mkTup, frzs_d, frzs_n, List.length_cons, List.length_nil, Nat.reduceAdd, Nat.reduceLeDiff, if_true]
        rfl
      have em : ((lotsN many).map lotD).map (fun d => keyed (unLot d)) = (lotsN many).map keyed := by
        rw [List.map_map]
        refine List.map_congr_left fun is _ => ?_
        show keyed (unLot (lotD is)) = keyed is
        rw [unLot_lotD]
      rw [em] at lc
      have es : uSorted [.d (.list ((lotsN many).map keyed))] (S ++ [none]) = .ok (.d (.list (sortD ((lotsN many).map keyed)))) (S ++ [none]) := by
        show (if okSort ((lotsN many).map keyed) = true then _ else _) = _
        rw [if_pos (keyed_ok (lotsN_ok many) (by omega))]
      have pm : (sortD ((lotsN many).map keyed)).Perm ((lotsN many).map keyed) := List.mergeSort_perm _ _
      have lc2 := lc_pure (src := sSeq (fN uSorted (fCons (fLc (sSeq (fVar 1)) (aName 4) (fYes) (e4__law_op_lots) [4]) (fNil)))) (tg := aTup 2 (aCons (aName 3) (aCons (aName 4) (aNil)))) (fe := e3__law_op_lots) (vs := [3, 4]) (ρ := [some (.d (.int (many : Int))), some (.loc S.length), r2, none, none]) (S := S ++ [some ((lotsN many).map lotD)]) (S1 := S ++ [none]) (ds := sortD ((lotsN many).map keyed))
        (f := fun d => match d with | .tuple [_, b] => b | d => d) (by simp only [sSeq, fN, fCons, fNil, lc, bind_ok, es, seqD, frz]) (by rw [pm.length_eq, List.length_map, lotsN_len]; omega) fun d hd => by
        obtain ⟨is, hm, rfl⟩ := List.mem_map.mp (pm.mem_iff.mp hd)
        exact ⟨_, rfl, fun acc => rfl⟩
      refine w_ret ?_
      rw [lc2]
      simp only [wp_ok, retn_d, List.take_left, true_and]
      refine ⟨(sortD ((lotsN many).map keyed)).map fun d => unLot (match d with | .tuple [_, b] => b | d => d), ?_, ?_, fun is hi => ?_⟩
      · rw [List.map_map]
        refine congrArg (fun L : List D => U.d (.list L)) (List.map_congr_left fun d hd => ?_)
        obtain ⟨is, hm, rfl⟩ := List.mem_map.mp (pm.mem_iff.mp hd)
        show lotD is = lotD (unLot (lotD is))
        rw [unLot_lotD]
      · rw [List.length_map, pm.length_eq, List.length_map, lotsN_len]
        exact p6
      · obtain ⟨d, hd, rfl⟩ := List.mem_map.mp hi
        obtain ⟨js, hm, rfl⟩ := List.mem_map.mp (pm.mem_iff.mp hd)
        show Lot many (unLot (lotD js))
        rw [unLot_lotD]
        exact lotsN_ok many js hm
  obtain ⟨u, S', e, rfl, L, rfl, h1, h2⟩ := wp_ex key
  exact ⟨L, e, h1, h2⟩
end Z

/-! Z45: _law_some; a yard of forty bins. -/
namespace Z
open PySem M
theorem rgD_get {many i : Nat} {d : D} (h : (rgD 0 (many : Int))[i]? = some d) : i < many ∧ d = .int (i : Int) := by
  unfold rgD rgI at h
  rw [Int.sub_zero, Int.toNat_natCast, List.map_map, List.getElem?_map] at h
  obtain ⟨j, hj, rfl⟩ := Option.map_eq_some_iff.mp h
  obtain ⟨h1, h2⟩ := List.getElem?_eq_some_iff.mp hj
  rw [List.length_range] at h1
  rw [List.getElem_range] at h2
  subst h2
  refine ⟨h1, ?_⟩
  show PyData.int (0 + (i : Int)) = _
  rw [Int.zero_add]
theorem rgD_len (many : Nat) : (rgD 0 (many : Int)).length = many := by
  unfold rgD rgI
  rw [List.length_map, List.length_map, List.length_range, Int.sub_zero, Int.toNat_natCast]
theorem rgD_lot (many : Nat) : PyData.tuple (rgD 0 (many : Int)) = lotD (List.range many) := by
  unfold rgD rgI lotD
  rw [Int.sub_zero, Int.toNat_natCast, List.map_map]
  refine congrArg PyData.tuple (List.map_congr_left fun i _ => ?_)
  show PyData.int (0 + (i : Int)) = _
  rw [Int.zero_add]
theorem lot_range (many : Nat) : Lot many (List.range many) := ⟨List.pairwise_lt_range, fun i hi => List.mem_range.mp hi⟩
theorem tupRg_ok {S : Store} {many : Nat} (h : many ≤ 1000) : uTupRg zero (.d (.int (many : Int))) S = .ok (.d (lotD (List.range many))) S := by
  rw [← rgD_lot]
  show (if rgFit 0 (many : Int) = true then _ else _) = _
  rw [if_pos (by unfold rgFit; rw [decide_eq_true_eq]; omega)]
theorem lstRg_ok {S : Store} {many : Nat} (h : many ≤ 1000) : uLstRgD zero (.d (.int (many : Int))) S = .ok (.d (.list (rgD 0 (many : Int)))) S := by
  show (if rgFit 0 (many : Int) = true then _ else _) = _
  rw [if_pos (by unfold rgFit; rw [decide_eq_true_eq]; omega)]
theorem s_some {l n many : Nat} (hm : many ≤ 40) (hn : n + 100 < 1000000) : Draws l n 40 (m__law_some [.loc l, .d (.list (rgD 0 (many : Int))), .d (.int 2)]) fun u => ∃ is, u = .d (lotD is) ∧ Lot many is := fun S hj => by
  refine w_run ?_
  show wo (g__law_some [some (.loc l), some (.d (.list (rgD 0 (many : Int)))), some (.d (.int 2)), none, none] S) _
  unfold g__law_some
  refine w_set (S1 := S ++ [some []]) (u := .loc S.length) (by
    simp only [fN, fCons, fNil, bind_ok, mkLoc, frzs_n, List.length_nil, Nat.zero_le, if_true]) ?_
  simp only [List.set_cons_succ, List.set_cons_zero]
  refine w_for ?_
  refine wo_for (fun ds i ρ T => ∃ (T' : Store) (is : List Nat) (r4 : Option U), T = T' ++ [some (is.map fun i : Nat => PyData.int (i : Int))] ∧ Kp l S T' ∧ Jar T' l (n + i) ∧ Lot i is ∧ ρ = [some (.loc l), some (.d (.list (rgD 0 (many : Int)))), some (.d (.int 2)), some (.loc S.length), r4])
    (wp_of (a := rgD 0 (many : Int)) (S := S ++ [some []]) (by simp [sSeq, seqD, frz]) ⟨⟨S, [], none, rfl, Kp.refl, hj, ⟨.nil, fun i h => by cases h⟩, rfl⟩, fun i z ρ T hd ⟨T', is, r4, hT, k1, j1, lo, hρ⟩ => ?_, fun ρ T ⟨T', is, r4, hT, k1, j1, lo, hρ⟩ => ?_⟩)
  · subst hT hρ
    obtain ⟨hi, rfl⟩ := rgD_get hd
    refine ⟨_, rfl, ?_⟩
    have hll := lo.len
    rw [← k1.len]
    have vL : isL (.loc T'.length) (T' ++ [some (is.map fun i : Nat => PyData.int (i : Int))]) = true := isL_t at_end
    simp only [b1__law_some, gDrop, fML, fCons, fNil, fIf, fTst, f2, fC, fCall, fN, List.set_cons_succ, List.set_cons_zero, e_varS, e_var0, bind_ok, vL, if_true, wo_st, wp_bind]
    refine wp_mono ((d_take (many := 2) (by decide) (by decide) (by omega)).at j1 [some (is.map fun i : Nat => PyData.int (i : Int))]) fun u S2 ⟨T2, hS, ⟨q, hq, q0, q1⟩, j2, k2⟩ => ?_
    subst hS hq
    simp only [eq_i, tru_b, wp_ok]
    have rest : ∀ (js : List Nat), Lot (i + 1) (is ++ js) → uExt (.loc T'.length) [.d (.list (js.map fun i : Nat => PyData.int (i : Int)))] (T2 ++ [some (is.map fun i : Nat => PyData.int (i : Int))]) = .ok (.d .none) (T2 ++ [some ((is ++ js).map fun i : Nat => PyData.int (i : Int))]) := fun js hl2 => by
      have := hl2.len
      rw [List.length_append] at this
      rw [← k2.len, ext_l at_end (by rw [List.length_map, List.length_map]; omega), set_end, ← List.map_append]
    by_cases h0 : q = 0
    · have l2 : Lot (i + 1) (is ++ [i]) := ⟨List.pairwise_append.mpr ⟨lo.1, List.pairwise_singleton _ _, fun a ha b hb => by rw [List.mem_singleton.mp hb]; exact lo.2 a ha⟩, fun j hj => by
        rcases List.mem_append.mp hj with hj | hj
        · have := lo.2 j hj
          omega
        · rw [List.mem_singleton.mp hj]
          omega⟩
      have e := rest [i] l2
      simp only [List.map_cons, List.map_nil] at e
      simp only [h0, decide_true, if_true, e_varS, e_var0, bind_ok, mkLst, frzs_d, frzs_n, List.length_cons, List.length_nil, Nat.reduceAdd, Nat.reduceLeDiff, wp_ok, e, wo_nx]
      exact ⟨T2, _, _, rfl, k1.trans k2, j2, l2, by rw [k1.len]⟩
    · have l2 : Lot (i + 1) (is ++ []) := by
        rw [List.append_nil]
        exact ⟨lo.1, fun j hj => by have := lo.2 j hj; omega⟩
      have e := rest [] l2
      simp only [List.map_nil] at e
      have hd0 : decide (q = 0) = false := decide_eq_false h0
      simp only [hd0, Bool.false_eq_true, if_false, mkLst, frzs_n, List.length_nil, Nat.zero_le, if_true, bind_ok, wp_ok, e, wo_nx]
      exact ⟨T2, _, _, rfl, k1.trans k2, j2, l2, by rw [k1.len]⟩
  · subst hT hρ
    rw [rgD_len] at j1 lo
    refine w_ret ?_
    rw [← k1.len]
    have et : uTupleOf [.loc T'.length] (T' ++ [some (is.map fun i : Nat => PyData.int (i : Int))]) = .ok (.d (lotD is)) (T' ++ [some (is.map fun i : Nat => PyData.int (i : Int))]) := by
      simp [uTupleOf, viewS, viewL, lotD]
    simp only [fN, fCons, fNil, e_varS, e_var0, bind_ok, et, wp_ok, retn_d, List.take_left]
    exact ⟨⟨is, rfl, lo⟩, j1.mono (by omega), k1⟩
end Z

namespace K05
open PySem PySem.Spec PyProof.Rows L2 Z M
noncomputable section
abbrev Pg : Program := PySem.Challenge.pw_oneemptied_k05_lots_and_their_sizes
def top (i : Nat) : Stmt := Pg.main.body.getD i (.Pass ⟨0, 0, 0, 0⟩)
def d0 : He.DefD := ⟨("_law_op_is_whole", none), "_law_op_is_whole", "_law_op_is_whole", defArgs (top 38), defBody (top 38), defScope (top 38), [], []⟩
def d1 : He.DefD := ⟨("_law_op_same", none), "_law_op_same", "_law_op_same", defArgs (top 40), defBody (top 40), defScope (top 40), [], []⟩
def d2 : He.DefD := ⟨("_law_take", none), "_law_take", "_law_take", defArgs (top 34), defBody (top 34), defScope (top 34), [], []⟩
def d3 : He.DefD := ⟨("_law_one", none), "_law_one", "_law_one", defArgs (top 35), defBody (top 35), defScope (top 35), [], []⟩
def d4 : He.DefD := ⟨("_law_mixed", none), "_law_mixed", "_law_mixed", defArgs (top 36), defBody (top 36), defScope (top 36), [], []⟩
def d5 : He.DefD := ⟨("_law_op_frac", none), "_law_op_frac", "_law_op_frac", defArgs (top 41), defBody (top 41), defScope (top 41), [], []⟩
def d6 : He.DefD := ⟨("_law_op_plus", none), "_law_op_plus", "_law_op_plus", defArgs (top 42), defBody (top 42), defScope (top 42), [], []⟩
def d7 : He.DefD := ⟨("_law_op_times", none), "_law_op_times", "_law_op_times", defArgs (top 44), defBody (top 44), defScope (top 44), [], []⟩
def d8 : He.DefD := ⟨("_law_op_corner", none), "_law_op_corner", "_law_op_corner", defArgs (top 53), defBody (top 53), defScope (top 53), [], []⟩
def d9 : He.DefD := ⟨("_law_op_yard", none), "_law_op_yard", "_law_op_yard", defArgs (top 54), defBody (top 54), defScope (top 54), [], []⟩
def d10 : He.DefD := ⟨("_law_op_lots", none), "_law_op_lots", "_law_op_lots", defArgs (top 48), defBody (top 48), defScope (top 48), [], []⟩
def d11 : He.DefD := ⟨("_law_n05_heard", none), "_law_n05_heard", "_law_n05_heard", defArgs (top 56), defBody (top 56), defScope (top 56), [], []⟩
def d12 : He.DefD := ⟨("_law_op_minus", none), "_law_op_minus", "_law_op_minus", defArgs (top 43), defBody (top 43), defScope (top 43), [], []⟩
def d13 : He.DefD := ⟨("_law_some", none), "_law_some", "_law_some", defArgs (top 37), defBody (top 37), defScope (top 37), [], []⟩
def d14 : He.DefD := ⟨("fless", none), "fless", "fless", defArgs (top 14), defBody (top 14), defScope (top 14), [], []⟩
def d15 : He.DefD := ⟨("class_rows", none), "class_rows", "class_rows", defArgs (top 23), defBody (top 23), defScope (top 23), [], []⟩
def d16 : He.DefD := ⟨("kinds_in", none), "kinds_in", "kinds_in", defArgs (top 24), defBody (top 24), defScope (top 24), [], []⟩
def d17 : He.DefD := ⟨("is_number", none), "is_number", "is_number", defArgs (top 16), defBody (top 16), defScope (top 16), [], []⟩
def d18 : He.DefD := ⟨("is_fraction", none), "is_fraction", "is_fraction", defArgs (top 17), defBody (top 17), defScope (top 17), [], []⟩
def d19 : He.DefD := ⟨("whole", none), "whole", "whole", defArgs (top 6), defBody (top 6), defScope (top 6), [], []⟩
def d20 : He.DefD := ⟨("is_size", none), "is_size", "is_size", defArgs (top 18), defBody (top 18), defScope (top 18), [], []⟩
def d21 : He.DefD := ⟨("yard_fault", none), "yard_fault", "yard_fault", defArgs (top 25), defBody (top 25), defScope (top 25), [], []⟩
def d22 : He.DefD := ⟨("made_yard", none), "made_yard", "made_yard", defArgs (top 26), defBody (top 26), defScope (top 26), [], []⟩
def d23 : He.DefD := ⟨("lot_fault", none), "lot_fault", "lot_fault", defArgs (top 28), defBody (top 28), defScope (top 28), [], []⟩
def d24 : He.DefD := ⟨("made_lot", none), "made_lot", "made_lot", defArgs (top 29), defBody (top 29), defScope (top 29), [], []⟩
def d25 : He.DefD := ⟨("fr", none), "fr", "fr", defArgs (top 12), defBody (top 12), defScope (top 12), [], []⟩
def d26 : He.DefD := ⟨("fadd", none), "fadd", "fadd", defArgs (top 13), defBody (top 13), defScope (top 13), [], []⟩
def d27 : He.DefD := ⟨("fsum", none), "fsum", "fsum", defArgs (top 15), defBody (top 15), defScope (top 15), [], []⟩
def d28 : He.DefD := ⟨("size_of", none), "size_of", "size_of", defArgs (top 30), defBody (top 30), defScope (top 30), [], []⟩
def d29 : He.DefD := ⟨("size_sum", none), "size_sum", "size_sum", defArgs (top 31), defBody (top 31), defScope (top 31), [], []⟩
def d30 : He.DefD := ⟨("_law_n05_lots_right", none), "_law_n05_lots_right", "_law_n05_lots_right", defArgs (top 58), defBody (top 58), defScope (top 58), [], []⟩
def d31 : He.DefD := ⟨("_law_op_kinds", none), "_law_op_kinds", "_law_op_kinds", defArgs (top 51), defBody (top 51), defScope (top 51), [], []⟩
def d32 : He.DefD := ⟨("_law_op_is_fraction", none), "_law_op_is_fraction", "_law_op_is_fraction", defArgs (top 46), defBody (top 46), defScope (top 46), [], []⟩
def d33 : He.DefD := ⟨("_law_op_is_size", none), "_law_op_is_size", "_law_op_is_size", defArgs (top 47), defBody (top 47), defScope (top 47), [], []⟩
def d34 : He.DefD := ⟨("_law_op_yard_fault", none), "_law_op_yard_fault", "_law_op_yard_fault", defArgs (top 52), defBody (top 52), defScope (top 52), [], []⟩
def d35 : He.DefD := ⟨("_law_op_odd_yard", none), "_law_op_odd_yard", "_law_op_odd_yard", defArgs (top 55), defBody (top 55), defScope (top 55), [], []⟩
def d36 : He.DefD := ⟨("_law_n05_odd", none), "_law_n05_odd", "_law_n05_odd", defArgs (top 57), defBody (top 57), defScope (top 57), [], []⟩
def d37 : He.DefD := ⟨("_law_op_is_in", none), "_law_op_is_in", "_law_op_is_in", defArgs (top 39), defBody (top 39), defScope (top 39), [], []⟩
def d38 : He.DefD := ⟨("_law_op_lot_fault", none), "_law_op_lot_fault", "_law_op_lot_fault", defArgs (top 50), defBody (top 50), defScope (top 50), [], []⟩
def d39 : He.DefD := ⟨("_law_op_sum", none), "_law_op_sum", "_law_op_sum", defArgs (top 45), defBody (top 45), defScope (top 45), [], []⟩
def d40 : He.DefD := ⟨("_law_op_size_sum", none), "_law_op_size_sum", "_law_op_size_sum", defArgs (top 49), defBody (top 49), defScope (top 49), [], []⟩
def d41 : He.DefD := ⟨("_law_n05_refused_right", none), "_law_n05_refused_right", "_law_n05_refused_right", defArgs (top 59), defBody (top 59), defScope (top 59), [], []⟩
def d42 : He.DefD := ⟨("_law_n05_whole", none), "_law_n05_whole", "_law_n05_whole", defArgs (top 60), defBody (top 60), defScope (top 60), [], []⟩
def d43 : He.DefD := ⟨("_law_pool", none), "_law_pool", "_law_pool", defArgs (top 33), defBody (top 33), defScope (top 33), [], []⟩
def d44 : He.DefD := ⟨("law", none), "law", "law", defArgs (top 61), defBody (top 61), defScope (top 61), [], []⟩
def iniS : Stmt := match top 2 with
  | .ClassDef (body := b) .. => b.getD 0 (.Pass ⟨0, 0, 0, 0⟩)
  | s => s
def dI : He.DefD := ⟨("Refused", some "__init__"), "__init__", "Refused.__init__", defArgs iniS, defBody iniS, defScope iniS, [], []⟩
def fn : List He.DefD := [d0, d1, d2, d3, d4, d5, d6, d7, d8, d9, d10, d11, d12, d13, d14, d15, d16, d17, d18, d19, d20, d21, d22, d23, d24, d25, d26, d27, d28, d29, d30, d31, d32, d33, d34, d35, d36, d37, d38, d39, d40, d41, d42, d43, d44, dI]
def tf : List He.Defn := [("_law_n05_lots_right", none), ("_law_n05_refused_right", none), ("_law_n05_whole", none)]
def excs : List Str := ["BadYard", "BadLot", "TooMany"]
def fa0 : List He.Fa := [.free "int", .free "isinstance", .free "bool", .glo "_law_op_is_whole", .free "str", .free "tuple", .free "list", .free "len", .free "range", .glo "_law_op_same", .glo "_law_take", .glo "_law_one", .glo "_law_mixed", .free "max", .glo "_law_op_frac", .glo "_law_op_plus", .glo "_law_op_times", .free "min", .glo "_law_op_corner", .glo "_law_op_yard", .free "sorted", .glo "_law_op_lots", .glo "BadLot", .glo "BadYard", .glo "TooMany", .glo "Refused", .glo "_law_n05_heard", .glo "_law_op_minus", .glo "_law_some", .glo "fless"]
def fa1 : List He.Fa := [.free "enumerate", .glo "class_rows", .glo "kinds_in", .glo "is_number", .int "PAIR" 2, .glo "is_fraction", .glo "whole", .int "MOST_SIZE" 1000000, .int "MOST_BOTTOM" 1000, .glo "is_size", .int "MOST_YARD" 40, .int "NO_RATE" (-2), .int "MOST_KINDS" 600, .glo "yard_fault", .glo "made_yard", .glo "lot_fault", .glo "made_lot", .glo "fr", .glo "fadd", .glo "NOTHING", .glo "fsum", .glo "size_of", .glo "size_sum", .glo "_law_n05_lots_right", .free "set", .glo "_law_op_kinds", .glo "_law_op_is_fraction", .glo "_law_op_is_size", .glo "_law_op_yard_fault", .glo "_law_op_odd_yard"]
def fa2 : List He.Fa := [.glo "_law_n05_odd", .glo "_law_op_is_in", .glo "_law_op_lot_fault", .glo "_law_op_sum", .glo "_law_op_size_sum", .glo "_law_n05_refused_right", .glo "_law_n05_whole", .glo "_law_pool", .free "ValueError", .glo "law"]
def fa : List He.Fa := fa0 ++ fa1 ++ fa2
def xf0 : List Xf := [.suite excs "Refused" "Refused", .blt "gcd" "math.gcd", .tup "NOTHING" [0, 1], .tabs tf]
def xf : List Xf := xf0
abbrev C (K : PySem.W.Frag) (mg : Str → Option Value) : Prop := Kn fa fn xf K mg
abbrev xx (K : PySem.W.Frag) (mg : Str → Option Value) : Fx := { K := K, mg := mg, T := tabsT K tf }
section
variable {P : Program} {w : World} {K : PySem.W.Frag} {mg : Str → Option Value} {base : Heap}
theorem scI : FnScope ["self", "what"] ["self", "what"] (defScope iniS) := ⟨rfl, rfl, rfl, by decide +kernel, rfl, by decide +kernel, by decide +kernel⟩
theorem R_ok (c : C K mg) {e : Str} (he : e ∈ excs) : Raiser P w K mg base e (He.ga K e) := by
  obtain ⟨fd, F⟩ := c.d.def_ 45
  exact (c.suite 0).raiser he (init_body F scI fun cdv A outer s H E => pss_cons (ps_expr (pe_veinit rfl (c.free 68) (ve_init K) (pa_cons (pv 0) (pa_cons (pv 1) pa_nil)))) (pss_one (ps_ost (pv 0) (pv 1)))) (F.bindsN fun _ _ _ _ _ _ us hl => match us, hl with | [_, _], _ => rfl)
/-! _law_op_is_whole: 0 thing -/
abbrev N__law_op_is_whole : List Str := ["thing"]
theorem sc__law_op_is_whole : FnScope N__law_op_is_whole ["thing"] (defScope (top 38)) := ⟨rfl, rfl, rfl, by decide +kernel, rfl, by decide +kernel, by decide +kernel⟩
theorem D__law_op_is_whole (c : C K mg) : Def P w K mg base (xx K mg) "_law_op_is_whole" 1 1 m__law_op_is_whole := by
  obtain ⟨fd, F⟩ := c.d.def_ 0
  exact def_ok F (c.glo 3) sc__law_op_is_whole (fun _ _ _ _ _ _ us hl => match us, hl with | [_], _ => rfl) (fun cdv A outer s H E hr => ⟨_, db_one (ds_ret (de_and (de_isi rfl (c.free 1) (da_cons (de_var 0) (da_cons (de_ty (c.free 0)) (da_nil)))) (de_one (de_not (de_isi rfl (c.free 1) (da_cons (de_var 0) (da_cons (de_ty (c.free 2)) (da_nil))))))))⟩)
/-! _law_op_same: 0 got, 1 owed, 2 todo, 3 one, 4 due_now, 5 is_so, 6 at -/
abbrev N__law_op_same : List Str := ["got", "owed", "todo", "one", "due_now", "is_so", "at"]
theorem sc__law_op_same : FnScope N__law_op_same ["got", "owed"] (defScope (top 40)) := ⟨rfl, rfl, rfl, by decide +kernel, rfl, by decide +kernel, by decide +kernel⟩
theorem D__law_op_same (c : C K mg) : Def P w K mg base (xx K mg) "_law_op_same" 2 2 m__law_op_same := by
  obtain ⟨fd, F⟩ := c.d.def_ 1
  exact def_ok F (c.glo 9) sc__law_op_same (fun _ _ _ _ _ _ us hl => match us, hl with | [_, _], _ => rfl) (fun cdv A outer s H E hr => ⟨_, db_cons (ds_set 2 sc__law_op_same.nd (de_loc (da_cons (de_tup (da_cons (de_var 0) (da_cons (de_var 1) (da_nil)))) (da_nil))))
  (db_cons (ds_wh (L2.passes_of rfl) (dt_cmp (c_ne rfl (units_ok hr)) (de_var 2) (de_lst (da_nil))) (db_cons (ds_asg (de_pop rfl (de_var 2)) (dg_tup rfl rfl (dgs_cons (dg_name 3 sc__law_op_same.nd) (dgs_cons (dg_name 4 sc__law_op_same.nd) (dgs_nil)))))
  (db_cons (ds_if (dt_isN (de_var 4)) (db_one (ds_set 5 sc__law_op_same.nd (de_isN (de_var 3)))) (db_one (ds_if (dt_val (de_isi rfl (c.free 1) (da_cons (de_var 4) (da_cons (de_ty (c.free 2)) (da_nil))))) (db_one (ds_set 5 sc__law_op_same.nd (de_and (de_isi rfl (c.free 1) (da_cons (de_var 3) (da_cons (de_ty (c.free 2)) (da_nil)))) (de_one (de_cmp (c_eq rfl (units_ok hr)) (de_var 3) (de_var 4)))))) (db_one (ds_if (dt_val (de_isi rfl (c.free 1) (da_cons (de_var 4) (da_cons (de_ty (c.free 0)) (da_nil))))) (db_one (ds_set 5 sc__law_op_same.nd (de_and (de_call (D__law_op_is_whole c) hr (by decide) takesF (da_cons (de_var 3) (da_nil))) (de_one (de_cmp (c_eq rfl (units_ok hr)) (de_var 3) (de_var 4)))))) (db_one (ds_if (dt_val (de_isi rfl (c.free 1) (da_cons (de_var 4) (da_cons (de_ty (c.free 4)) (da_nil))))) (db_one (ds_set 5 sc__law_op_same.nd (de_and (de_isi rfl (c.free 1) (da_cons (de_var 3) (da_cons (de_ty (c.free 4)) (da_nil)))) (de_one (de_cmp (c_eq rfl (units_ok hr)) (de_var 3) (de_var 4)))))) (db_cons (ds_set 5 sc__law_op_same.nd (de_if (dt_val (de_isi rfl (c.free 1) (da_cons (de_var 4) (da_cons (de_ty (c.free 5)) (da_nil))))) (de_isi rfl (c.free 1) (da_cons (de_var 3) (da_cons (de_ty (c.free 5)) (da_nil)))) (de_isi rfl (c.free 1) (da_cons (de_var 3) (da_cons (de_ty (c.free 6)) (da_nil))))))
  (db_cons (ds_set 5 sc__law_op_same.nd (de_and (de_var 5) (de_one (de_cmp (c_eq rfl (units_ok hr)) (de_len rfl (c.free 7) (da_cons (de_var 3) (da_nil))) (de_len rfl (c.free 7) (da_cons (de_var 4) (da_nil)))))))
  (db_one (ds_expr (de_extend rfl (de_var 2) (da_cons (de_if (dt_val (de_var 5)) (de_lc (own := [("at", 6)]) rfl sc__law_op_same.nd (di_rng1 (c.free 8) (da_cons (de_len rfl (c.free 7) (da_cons (de_var 4) (da_nil))) (da_nil))) (blkOk_by (by kernel_rfl)) (fun _ _ _ _ _ => dg_name 6 sc__law_op_same.nd) (gm_name) (fun _ _ _ _ _ => cTs (dts_nil)) (fun _ _ _ _ _ => cE (de_tup (da_cons (de_ix rfl (de_var 3) (de_var 6)) (da_cons (de_ix rfl (de_var 4) (de_var 6)) (da_nil)))))) (de_lst (da_nil))) (da_nil))))))))))))))
  (db_one (ds_if (dt_not (dt_val (de_var 5))) (db_one (ds_ret (de_bl))) (db_nil))))))
  (db_one (ds_ret (de_bl))))⟩)
/-! _law_take: 0 jar, 1 many, 2 made -/
abbrev N__law_take : List Str := ["jar", "many", "made"]
theorem sc__law_take : FnScope N__law_take ["jar", "many"] (defScope (top 34)) := ⟨rfl, rfl, rfl, by decide +kernel, rfl, by decide +kernel, by decide +kernel⟩
theorem D__law_take (c : C K mg) : Def P w K mg base (xx K mg) "_law_take" 2 1 m__law_take := by
  obtain ⟨fd, F⟩ := c.d.def_ 2
  exact def_ok F (c.glo 10) sc__law_take (fun _ _ _ _ _ _ us hl => match us, hl with | [_, _], _ => rfl) (fun cdv A outer s H E hr => ⟨_, db_cons (ds_if (dt_cmp c_gt (de_ix rfl (de_var 0) (de_int)) (de_int)) (db_cons (ds_set 2 sc__law_take.nd (de_mod (de_intc (c.free 0) (da_cons (de_ix rfl (de_var 0) (de_int)) (da_nil))) (de_var 1)))
  (db_cons (ds_setIx (de_div (de_ix rfl (de_var 0) (de_int)) (de_var 1)) (de_var 0) (de_int))
  (db_one (ds_ret (de_var 2))))) (db_nil))
  (db_cons (ds_setIx (de_add rfl (de_ix rfl (de_var 0) (de_int)) (de_int)) (de_var 0) (de_int))
  (db_cons (ds_setIx (de_mod (de_intc (c.free 0) (da_cons (de_add rfl (de_add rfl (de_mul rfl (de_ix rfl (de_var 0) (de_int)) (de_int)) (de_mul rfl (de_int) (de_ix rfl (de_var 0) (de_int)))) (de_int)) (da_nil))) (de_int)) (de_var 0) (de_int))
  (db_one (ds_ret (de_mod (de_intc (c.free 0) (da_cons (de_div (de_mod (de_intc (c.free 0) (da_cons (de_mul rfl (de_ix rfl (de_var 0) (de_int)) (de_ix rfl (de_var 0) (de_int))) (da_nil))) (de_int)) (de_int)) (da_nil))) (de_var 1))))))⟩)
/-! _law_one: 0 jar, 1 things -/
abbrev N__law_one : List Str := ["jar", "things"]
theorem sc__law_one : FnScope N__law_one ["jar", "things"] (defScope (top 35)) := ⟨rfl, rfl, rfl, by decide +kernel, rfl, by decide +kernel, by decide +kernel⟩
theorem D__law_one (c : C K mg) : Def P w K mg base (xx K mg) "_law_one" 2 2 m__law_one := by
  obtain ⟨fd, F⟩ := c.d.def_ 3
  exact def_ok F (c.glo 11) sc__law_one (fun _ _ _ _ _ _ us hl => match us, hl with | [_, _], _ => rfl) (fun cdv A outer s H E hr => ⟨_, db_one (ds_ret (de_ix rfl (de_var 1) (de_call (D__law_take c) hr (by decide) takesF (da_cons (de_var 0) (da_cons (de_len rfl (c.free 7) (da_cons (de_var 1) (da_nil))) (da_nil))))))⟩)
/-! _law_mixed: 0 jar, 1 things, 2 left_now, 3 made, 4 go -/
abbrev N__law_mixed : List Str := ["jar", "things", "left_now", "made", "go"]
theorem sc__law_mixed : FnScope N__law_mixed ["jar", "things"] (defScope (top 36)) := ⟨rfl, rfl, rfl, by decide +kernel, rfl, by decide +kernel, by decide +kernel⟩
theorem D__law_mixed (c : C K mg) : Def P w K mg base (xx K mg) "_law_mixed" 2 2 m__law_mixed := by
  obtain ⟨fd, F⟩ := c.d.def_ 4
  exact def_ok F (c.glo 12) sc__law_mixed (fun _ _ _ _ _ _ us hl => match us, hl with | [_, _], _ => rfl) (fun cdv A outer s H E hr => ⟨_, db_cons (ds_par 2 3 rfl sc__law_mixed.nd (da_cons (de_listL rfl (c.free 6) (da_cons (de_var 1) (da_nil))) (da_cons (de_loc (da_nil)) (da_nil))))
  (db_cons (ds_for (L2.passes_of rfl) rfl (di_rng1 (c.free 8) (da_cons (de_len rfl (c.free 7) (da_cons (de_var 1) (da_nil))) (da_nil))) (dg_name 4 sc__law_mixed.nd) (db_one (ds_expr (de_append rfl (de_var 3) (da_cons (de_popAt rfl (de_var 2) (da_cons (de_call (D__law_take c) hr (by decide) takesF (da_cons (de_var 0) (da_cons (de_len rfl (c.free 7) (da_cons (de_var 2) (da_nil))) (da_nil)))) (da_nil))) (da_nil))))))
  (db_one (ds_ret (de_var 3))))⟩)
/-! _law_op_frac: 0 top, 1 bottom, 2 one, 3 two -/
abbrev N__law_op_frac : List Str := ["top", "bottom", "one", "two"]
theorem sc__law_op_frac : FnScope N__law_op_frac ["top", "bottom"] (defScope (top 41)) := ⟨rfl, rfl, rfl, by decide +kernel, rfl, by decide +kernel, by decide +kernel⟩
theorem D__law_op_frac (c : C K mg) : Def P w K mg base (xx K mg) "_law_op_frac" 2 1 m__law_op_frac := by
  obtain ⟨fd, F⟩ := c.d.def_ 5
  exact def_ok F (c.glo 14) sc__law_op_frac (fun _ _ _ _ _ _ us hl => match us, hl with | [_, _], _ => rfl) (fun cdv A outer s H E hr => ⟨_, db_cons (ds_par 2 3 rfl sc__law_op_frac.nd (da_cons (de_max2 rfl (c.free 13) (da_cons (de_var 0) (da_cons (de_neg (de_var 0)) (da_nil)))) (da_cons (de_var 1) (da_nil))))
  (db_cons (ds_wh (L2.passes_of rfl) (dt_cmp c_gt (de_var 3) (de_int)) (db_one (ds_par 2 3 rfl sc__law_op_frac.nd (da_cons (de_var 3) (da_cons (de_mod (de_var 2) (de_var 3)) (da_nil))))))
  (db_one (ds_ret (de_tup (da_cons (de_div (de_var 0) (de_var 2)) (da_cons (de_div (de_var 1) (de_var 2)) (da_nil)))))))⟩)
/-! _law_op_plus: 0 a, 1 b -/
abbrev N__law_op_plus : List Str := ["a", "b"]
theorem sc__law_op_plus : FnScope N__law_op_plus ["a", "b"] (defScope (top 42)) := ⟨rfl, rfl, rfl, by decide +kernel, rfl, by decide +kernel, by decide +kernel⟩
theorem D__law_op_plus (c : C K mg) : Def P w K mg base (xx K mg) "_law_op_plus" 2 2 m__law_op_plus := by
  obtain ⟨fd, F⟩ := c.d.def_ 6
  exact def_ok F (c.glo 15) sc__law_op_plus (fun _ _ _ _ _ _ us hl => match us, hl with | [_, _], _ => rfl) (fun cdv A outer s H E hr => ⟨_, db_one (ds_ret (de_call (D__law_op_frac c) hr (by decide) takesF (da_cons (de_add rfl (de_mul rfl (de_ix rfl (de_var 0) (de_int)) (de_ix rfl (de_var 1) (de_int))) (de_mul rfl (de_ix rfl (de_var 1) (de_int)) (de_ix rfl (de_var 0) (de_int)))) (da_cons (de_mul rfl (de_ix rfl (de_var 0) (de_int)) (de_ix rfl (de_var 1) (de_int))) (da_nil)))))⟩)
/-! _law_op_times: 0 a, 1 top, 2 bottom -/
abbrev N__law_op_times : List Str := ["a", "top", "bottom"]
theorem sc__law_op_times : FnScope N__law_op_times ["a", "top", "bottom"] (defScope (top 44)) := ⟨rfl, rfl, rfl, by decide +kernel, rfl, by decide +kernel, by decide +kernel⟩
theorem D__law_op_times (c : C K mg) : Def P w K mg base (xx K mg) "_law_op_times" 3 2 m__law_op_times := by
  obtain ⟨fd, F⟩ := c.d.def_ 7
  exact def_ok F (c.glo 16) sc__law_op_times (fun _ _ _ _ _ _ us hl => match us, hl with | [_, _, _], _ => rfl) (fun cdv A outer s H E hr => ⟨_, db_one (ds_ret (de_call (D__law_op_frac c) hr (by decide) takesF (da_cons (de_mul rfl (de_ix rfl (de_var 0) (de_int)) (de_var 1)) (da_cons (de_mul rfl (de_ix rfl (de_var 0) (de_int)) (de_var 2)) (da_nil)))))⟩)
/-! _law_op_corner: 0 jar, 1 many, 2 even, 3 at, 4 ladder, 5 sort_now, 6 row, 7 one -/
abbrev N__law_op_corner : List Str := ["jar", "many", "even", "at", "ladder", "sort_now", "row", "one"]
theorem sc__law_op_corner : FnScope N__law_op_corner ["jar", "many"] (defScope (top 53)) := ⟨rfl, rfl, rfl, by decide +kernel, rfl, by decide +kernel, by decide +kernel⟩
theorem D__law_op_corner (c : C K mg) : Def P w K mg base (xx K mg) "_law_op_corner" 2 3 m__law_op_corner := by
  obtain ⟨fd, F⟩ := c.d.def_ 8
  exact def_ok F (c.glo 18) sc__law_op_corner (fun _ _ _ _ _ _ us hl => match us, hl with | [_, _], _ => rfl) (fun cdv A outer s H E hr => ⟨_, db_cons (ds_if (dt_cmp (c_eq rfl (units_ok hr)) (de_var 1) (de_int)) (db_one (ds_ret (de_loc (da_nil)))) (db_nil))
  (db_cons (ds_set 2 sc__law_op_corner.nd (de_tup (da_cons (de_int) (da_cons (de_int) (da_nil)))))
  (db_cons (ds_for (L2.passes_of rfl) rfl (di_rng2 (c.free 8) (da_cons (de_int) (da_cons (de_var 1) (da_nil)))) (dg_name 3 sc__law_op_corner.nd) (db_one (ds_set 2 sc__law_op_corner.nd (de_call (D__law_op_plus c) hr (by decide) takesF (da_cons (de_var 2) (da_cons (de_tup (da_cons (de_int) (da_cons (de_var 3) (da_nil)))) (da_nil)))))))
  (db_cons (ds_setLc (i := 4) (own := [("at", 3)]) rfl sc__law_op_corner.nd (di_rng1 (c.free 8) (da_cons (de_var 1) (da_nil))) (blkOk_by (by kernel_rfl)) (fun _ _ _ _ _ => dg_name 3 sc__law_op_corner.nd) (gm_name) (fun _ _ _ _ _ => cTs (dts_nil)) (fun _ _ _ _ _ => cE (de_tup (da_cons (de_min2 rfl (c.free 17) (da_cons (de_add rfl (de_var 3) (de_int)) (da_cons (de_var 1) (da_nil)))) (da_cons (de_int) (da_nil))))))
  (db_cons (ds_set 5 sc__law_op_corner.nd (de_call (D__law_take c) hr (by decide) takesF (da_cons (de_var 0) (da_cons (de_int) (da_nil)))))
  (db_cons (ds_if (dt_cmp (c_eq rfl (units_ok hr)) (de_var 1) (de_int)) (db_one (ds_ret (de_loc (da_cons (de_tup (da_cons (de_int) (da_cons (de_int) (da_nil)))) (da_nil))))) (db_nil))
  (db_cons (ds_set 6 sc__law_op_corner.nd (de_if (dt_cmp (c_eq rfl (units_ok hr)) (de_var 5) (de_int)) (de_mul rfl (de_lst (da_cons (de_var 2) (da_nil))) (de_var 1)) (de_var 4)))
  (db_cons (ds_if (dt_cmp (c_eq rfl (units_ok hr)) (de_var 5) (de_int)) (db_one (ds_setLc (i := 6) (own := [("one", 7)]) rfl sc__law_op_corner.nd (di_seq rfl (de_var 4)) (blkOk_by (by kernel_rfl)) (fun _ _ _ _ _ => dg_name 7 sc__law_op_corner.nd) (gm_name) (fun _ _ _ _ _ => cTs (dts_nil)) (fun _ _ _ _ _ => cE (de_call (D__law_op_times c) hr (by decide) takes0N (da_cons (de_call (D__law_op_plus c) hr (by decide) takes0N (da_cons (de_var 2) (da_cons (de_var 7) (da_nil)))) (da_cons (de_int) (da_cons (de_int) (da_nil)))))))) (db_nil))
  (db_one (ds_ret (de_call (D__law_mixed c) hr (by decide) takesF (da_cons (de_var 0) (da_cons (de_var 6) (da_nil)))))))))))))⟩)
/-! _law_op_yard: 0 jar, 1 most_bins, 2 many, 3 rate, 4 sizes_now, 5 sort_now, 6 go, 7 v, 8 step, 9 one -/
abbrev N__law_op_yard : List Str := ["jar", "most_bins", "many", "rate", "sizes_now", "sort_now", "go", "v", "step", "one"]
theorem sc__law_op_yard : FnScope N__law_op_yard ["jar", "most_bins"] (defScope (top 54)) := ⟨rfl, rfl, rfl, by decide +kernel, rfl, by decide +kernel, by decide +kernel⟩
theorem D__law_op_yard (c : C K mg) : Def P w K mg base (xx K mg) "_law_op_yard" 2 4 m__law_op_yard := by
  obtain ⟨fd, F⟩ := c.d.def_ 9
  exact def_ok F (c.glo 19) sc__law_op_yard (fun _ _ _ _ _ _ us hl => match us, hl with | [_, _], _ => rfl) (fun cdv A outer s H E hr => ⟨_, db_cons (ds_set 2 sc__law_op_yard.nd (de_min2 rfl (c.free 17) (da_cons (de_var 1) (da_cons (de_call (D__law_one c) hr (by decide) takesF (da_cons (de_var 0) (da_cons (de_lst (da_cons (de_int) (da_cons (de_int) (da_cons (de_int) (da_cons (de_int) (da_cons (de_int) (da_cons (de_int) (da_cons (de_int) (da_cons (de_int) (da_cons (de_int) (da_cons (de_int) (da_nil)))))))))))) (da_nil)))) (da_nil)))))
  (db_cons (ds_set 3 sc__law_op_yard.nd (de_call (D__law_one c) hr (by decide) takesF (da_cons (de_var 0) (da_cons (de_lst (da_cons (de_tup (da_cons (de_int) (da_cons (de_int) (da_nil)))) (da_cons (de_tup (da_cons (de_int) (da_cons (de_int) (da_nil)))) (da_cons (de_tup (da_cons (de_int) (da_cons (de_int) (da_nil)))) (da_cons (de_tup (da_cons (de_int) (da_cons (de_int) (da_nil)))) (da_cons (de_tup (da_cons (de_int) (da_cons (de_int) (da_nil)))) (da_cons (de_tup (da_cons (de_int) (da_cons (de_int) (da_nil)))) (da_nil)))))))) (da_nil)))))
  (db_cons (ds_par 4 5 rfl sc__law_op_yard.nd (da_cons (de_call (D__law_op_corner c) hr (by decide) takesF (da_cons (de_var 0) (da_cons (de_var 2) (da_nil)))) (da_cons (de_call (D__law_take c) hr (by decide) takesF (da_cons (de_var 0) (da_cons (de_int) (da_nil)))) (da_nil))))
  (db_cons (ds_if (dt_cmp (c_eq rfl (units_ok hr)) (de_var 5) (de_int)) (db_one (ds_setLcL (i := 4) (own := [("go", 6)]) rfl sc__law_op_yard.nd (di_rng1 (c.free 8) (da_cons (de_var 2) (da_nil))) (blkOk_by (by kernel_rfl)) (fun _ _ _ _ _ => dg_name 6 sc__law_op_yard.nd) (gm_name) (fun _ _ _ _ _ => cTs (dts_nil)) (fun _ _ _ _ _ => cE (de_tup (da_cons (de_call (D__law_one c) hr (by decide) takes0N (da_cons (de_var 0) (da_cons (de_lst (da_cons (de_int) (da_cons (de_int) (da_cons (de_int) (da_cons (de_int) (da_cons (de_int) (da_cons (de_int) (da_cons (de_int) (da_nil))))))))) (da_nil)))) (da_cons (de_int) (da_nil))))))) (db_nil))
  (db_cons (ds_if (dt_w (dw_and (dt_cmp (c_in rfl (units_ok1 hr)) (de_var 5) (de_lst (da_cons (de_int) (da_cons (de_int) (da_cons (de_int) (da_nil)))))) (dw_and1 (dt_cmp c_gt (de_var 2) (de_int))))) (db_one (ds_for (L2.passes_of rfl) rfl (di_rng1 (c.free 8) (da_cons (de_call (D__law_one c) hr (by decide) takesF (da_cons (de_var 0) (da_cons (de_lst (da_cons (de_int) (da_cons (de_int) (da_cons (de_int) (da_nil))))) (da_nil)))) (da_nil))) (dg_name 6 sc__law_op_yard.nd) (db_cons (ds_set 7 sc__law_op_yard.nd (de_call (D__law_take c) hr (by decide) takesF (da_cons (de_var 0) (da_cons (de_var 2) (da_nil)))))
  (db_cons (ds_set 8 sc__law_op_yard.nd (de_call (D__law_one c) hr (by decide) takesF (da_cons (de_var 0) (da_cons (de_lst (da_cons (de_tup (da_cons (de_int) (da_cons (de_int) (da_nil)))) (da_cons (de_tup (da_cons (de_neg (de_int)) (da_cons (de_int) (da_nil)))) (da_cons (de_tup (da_cons (de_int) (da_cons (de_int) (da_nil)))) (da_cons (de_tup (da_cons (de_int) (da_cons (de_int) (da_nil)))) (da_cons (de_tup (da_cons (de_neg (de_int)) (da_cons (de_int) (da_nil)))) (da_nil))))))) (da_nil)))))
  (db_one (ds_setIx (de_call (D__law_op_plus c) hr (by decide) takesF (da_cons (de_ix rfl (de_var 4) (de_var 7)) (da_cons (de_if (dt_cmp (c_ne rfl (units_ok hr)) (de_var 5) (de_int)) (de_var 8) (de_tup (da_cons (de_int) (da_cons (de_int) (da_nil))))) (da_nil)))) (de_var 4) (de_var 7))))))) (db_nil))
  (db_one (ds_ret (de_tup (da_cons (de_var 3) (da_cons (de_tupleOf rfl (c.free 5) (da_cons (de_lc (own := [("one", 9)]) rfl sc__law_op_yard.nd (di_seq rfl (de_var 4)) (blkOk_by (by kernel_rfl)) (fun _ _ _ _ _ => dg_name 9 sc__law_op_yard.nd) (gm_name) (fun _ _ _ _ _ => cTs (dts_nil)) (fun _ _ _ _ _ => cE (de_call (D__law_op_frac c) hr (by decide) takes0N (da_cons (de_mul rfl (de_ix rfl (de_var 9) (de_int)) (de_ix rfl (de_var 3) (de_int))) (da_cons (de_mul rfl (de_ix rfl (de_var 9) (de_int)) (de_ix rfl (de_var 3) (de_int))) (da_nil)))))) (da_nil))) (da_nil))))))))))⟩)
/-! _law_op_lots: 0 many, 1 made, 2 v, 3 much, 4 one -/
abbrev N__law_op_lots : List Str := ["many", "made", "v", "much", "one"]
theorem sc__law_op_lots : FnScope N__law_op_lots ["many"] (defScope (top 48)) := ⟨rfl, rfl, rfl, by decide +kernel, rfl, by decide +kernel, by decide +kernel⟩
theorem D__law_op_lots (c : C K mg) : Def P w K mg base (xx K mg) "_law_op_lots" 1 1 m__law_op_lots := by
  obtain ⟨fd, F⟩ := c.d.def_ 10
  exact def_ok F (c.glo 21) sc__law_op_lots (fun _ _ _ _ _ _ us hl => match us, hl with | [_], _ => rfl) (fun cdv A outer s H E hr => ⟨_, db_cons (ds_set 1 sc__law_op_lots.nd (de_loc (da_cons (de_tup (da_nil)) (da_nil))))
  (db_cons (ds_for (L2.passes_of rfl) rfl (di_rng1 (c.free 8) (da_cons (de_var 0) (da_nil))) (dg_name 2 sc__law_op_lots.nd) (db_one (ds_expr (de_extend rfl (de_var 1) (da_cons (de_lcK (own := [("one", 4)]) rfl rfl sc__law_op_lots.nd (de_var 1) (blkOk_by (by kernel_rfl)) (fun _ _ _ _ _ => dg_name 4 sc__law_op_lots.nd) (gm_name) (fun _ _ _ _ _ => cTs (dts_nil)) (fun _ _ _ _ _ => cE (de_add rfl (de_var 4) (de_tup (da_cons (de_var 2) (da_nil)))))) (da_nil))))))
  (db_one (ds_ret (de_lc (own := [("much", 3), ("one", 4)]) rfl sc__law_op_lots.nd (di_seq rfl (de_sorted rfl (units_ok1 hr) (c.free 20) (da_cons (de_lc (own := [("one", 4)]) rfl sc__law_op_lots.nd (di_seq rfl (de_var 1)) (blkOk_by (by kernel_rfl)) (fun _ _ _ _ _ => dg_name 4 sc__law_op_lots.nd) (gm_name) (fun _ _ _ _ _ => cTs (dts_nil)) (fun _ _ _ _ _ => cE (de_tup (da_cons (de_len rfl (c.free 7) (da_cons (de_var 4) (da_nil))) (da_cons (de_var 4) (da_nil)))))) (da_nil)))) (blkOk_by (by kernel_rfl)) (fun _ _ _ _ _ => dg_tup rfl rfl (dgs_cons (dg_name 3 sc__law_op_lots.nd) (dgs_cons (dg_name 4 sc__law_op_lots.nd) (dgs_nil)))) (gm_tup (gm_cons (gm_name) (gm_cons (gm_name) (gm_nil)))) (fun _ _ _ _ _ => cTs (dts_nil)) (fun _ _ _ _ _ => cE (de_var 4))))))⟩)
/-! _law_n05_heard: 0 deed, 1 refused_one, 2 found, 3 name, 4 is_one -/
abbrev N__law_n05_heard : List Str := ["deed", "refused_one", "found", "name", "is_one"]
theorem sc__law_n05_heard : FnScope N__law_n05_heard ["deed"] (defScope (top 56)) := ⟨rfl, rfl, rfl, by decide +kernel, rfl, by decide +kernel, by decide +kernel⟩
def gh__law_n05_heard (th : Store → R U) : Vr → Store → O :=
  gTry excs 1 (gRet (fN mkTup (fCons (fC (.d (.str "told"))) (fCons (fThk 0 th) (fNil))))) (gSeq (gSet 2 (fN mkLoc (fNil)))
  (gSeq (gDrop (fML uApp (fVar 2) (fCons (fN mkTup (fCons (fC (.d (.str "BadLot"))) (fCons (fN (uIsE excs) (fCons (fVar 1) (fCons (fC (.cls "BadLot")) (fNil)))) (fNil)))) (fNil))))
  (gSeq (gDrop (fML uApp (fVar 2) (fCons (fN mkTup (fCons (fC (.d (.str "BadYard"))) (fCons (fN (uIsE excs) (fCons (fVar 1) (fCons (fC (.cls "BadYard")) (fNil)))) (fNil)))) (fNil))))
  (gSeq (gDrop (fML uApp (fVar 2) (fCons (fN mkTup (fCons (fC (.d (.str "TooMany"))) (fCons (fN (uIsE excs) (fCons (fVar 1) (fCons (fC (.cls "TooMany")) (fNil)))) (fNil)))) (fNil))))
  (gRet (fN mkTup (fCons (fMS uJoin (fC (.d (.str " "))) (fCons (fLc (sLst (fVar 2)) (aTup 2 (aCons (aName 3) (aCons (aName 4) (aNil)))) (fTst (fVar 4)) (fVar 3) [3, 4]) (fNil))) (fCons (f1 uWhat (fVar 1)) (fNil)))))))))
theorem H__law_n05_heard {k : Nat} (c : C K mg) : HDef P w K mg base (tabsT K tf) "_law_n05_heard" k 5 gh__law_n05_heard := by
  obtain ⟨fd, F⟩ := c.d.def_ 11
  exact hdef_ok F (c.glo 26) sc__law_n05_heard (fun _ _ _ _ _ _ us hl => match us, hl with | [_], _ => rfl) rfl (by first | exact Or.inl rfl | exact Or.inr (Or.inl rfl)) (by decide) (by decide) (fun x hxK hxm hxT h0 cdv A outer s H E th tt hr act => ⟨_, db_one ((have s0 := c.suite 0; ds_try_as (i := 1) hxm h0 rfl rfl sc__law_n05_heard.nd ⟨rfl, by decide, .inl (c.glo 25)⟩ takesF (by rw [hxm]; exact s0.hcs) (fun _ _ _ tk' ho => cB (db_one (ds_ret (de_tup (da_cons (de_str) (da_cons (act _ _ _ _ _ tk') (da_nil))))))) (fun _ _ _ _ _ _ hz hf hcm hm0 => have hm := hxm ▸ hm0; cB (db_cons (ds_set 2 sc__law_n05_heard.nd (de_loc (da_nil)))
  (db_cons (ds_expr (de_append hxK (de_var 2) (da_cons (de_tup (da_cons (de_str) (da_cons (de_isE hxK (s0.ek hcm hm).c hz hf hm0 (by rw [hxm]; exact s0.hk hcm hm) (c.free 1) (da_cons (de_var 1) (da_cons (de_gcls hxm (c.glo 22)) (da_nil)))) (da_nil)))) (da_nil))))
  (db_cons (ds_expr (de_append hxK (de_var 2) (da_cons (de_tup (da_cons (de_str) (da_cons (de_isE hxK (s0.ek hcm hm).c hz hf hm0 (by rw [hxm]; exact s0.hk hcm hm) (c.free 1) (da_cons (de_var 1) (da_cons (de_gcls hxm (c.glo 23)) (da_nil)))) (da_nil)))) (da_nil))))
  (db_cons (ds_expr (de_append hxK (de_var 2) (da_cons (de_tup (da_cons (de_str) (da_cons (de_isE hxK (s0.ek hcm hm).c hz hf hm0 (by rw [hxm]; exact s0.hk hcm hm) (c.free 1) (da_cons (de_var 1) (da_cons (de_gcls hxm (c.glo 24)) (da_nil)))) (da_nil)))) (da_nil))))
  (db_one (ds_ret (de_tup (da_cons (de_join hxK (de_str) (da_cons (de_lcH (own := [("name", 3), ("is_one", 4)]) hxK (hot_suite hz hf) sc__law_n05_heard.nd (de_var 2) (blkOk_by (by kernel_rfl)) (fun _ _ _ _ _ => dgh_tup hxK (dgs_cons (dg_name 3 sc__law_n05_heard.nd) (dgs_cons (dg_name 4 sc__law_n05_heard.nd) (dgs_nil)))) (gm_tup (gm_cons (gm_name) (gm_cons (gm_name) (gm_nil)))) (fun _ _ _ _ _ => cTs (dts_one (dt_val (de_var 4)))) (fun _ _ _ _ _ => cE (de_var 3))) (da_nil))) (da_cons (de_what hxK (s0.ek hcm hm).f (s0.ek hcm hm).w hz hf (de_var 1)) (da_nil)))))))))))))⟩)
/-! _law_op_minus: 0 a, 1 b -/
abbrev N__law_op_minus : List Str := ["a", "b"]
theorem sc__law_op_minus : FnScope N__law_op_minus ["a", "b"] (defScope (top 43)) := ⟨rfl, rfl, rfl, by decide +kernel, rfl, by decide +kernel, by decide +kernel⟩
theorem D__law_op_minus (c : C K mg) : Def P w K mg base (xx K mg) "_law_op_minus" 2 2 m__law_op_minus := by
  obtain ⟨fd, F⟩ := c.d.def_ 12
  exact def_ok F (c.glo 27) sc__law_op_minus (fun _ _ _ _ _ _ us hl => match us, hl with | [_, _], _ => rfl) (fun cdv A outer s H E hr => ⟨_, db_one (ds_ret (de_call (D__law_op_frac c) hr (by decide) takesF (da_cons (de_sub (de_mul rfl (de_ix rfl (de_var 0) (de_int)) (de_ix rfl (de_var 1) (de_int))) (de_mul rfl (de_ix rfl (de_var 1) (de_int)) (de_ix rfl (de_var 0) (de_int)))) (da_cons (de_mul rfl (de_ix rfl (de_var 0) (de_int)) (de_ix rfl (de_var 1) (de_int))) (da_nil)))))⟩)
/-! _law_some: 0 jar, 1 things, 2 much, 3 made, 4 thing -/
abbrev N__law_some : List Str := ["jar", "things", "much", "made", "thing"]
theorem sc__law_some : FnScope N__law_some ["jar", "things", "much"] (defScope (top 37)) := ⟨rfl, rfl, rfl, by decide +kernel, rfl, by decide +kernel, by decide +kernel⟩
theorem D__law_some (c : C K mg) : Def P w K mg base (xx K mg) "_law_some" 3 2 m__law_some := by
  obtain ⟨fd, F⟩ := c.d.def_ 13
  exact def_ok F (c.glo 28) sc__law_some (fun _ _ _ _ _ _ us hl => match us, hl with | [_, _, _], _ => rfl) (fun cdv A outer s H E hr => ⟨_, db_cons (ds_set 3 sc__law_some.nd (de_loc (da_nil)))
  (db_cons (ds_for (L2.passes_of rfl) rfl (di_seq rfl (de_var 1)) (dg_name 4 sc__law_some.nd) (db_one (ds_expr (de_extend rfl (de_var 3) (da_cons (de_if (dt_cmp (c_eq rfl (units_ok hr)) (de_call (D__law_take c) hr (by decide) takesF (da_cons (de_var 0) (da_cons (de_var 2) (da_nil)))) (de_int)) (de_lst (da_cons (de_var 4) (da_nil))) (de_lst (da_nil))) (da_nil))))))
  (db_one (ds_ret (de_tupleOf rfl (c.free 5) (da_cons (de_var 3) (da_nil))))))⟩)
/-! fless: 0 a, 1 b -/
abbrev N_fless : List Str := ["a", "b"]
theorem sc_fless : FnScope N_fless ["a", "b"] (defScope (top 14)) := ⟨rfl, rfl, rfl, by decide +kernel, rfl, by decide +kernel, by decide +kernel⟩
theorem D_fless (c : C K mg) : Def P w K mg base (xx K mg) "fless" 2 1 m_fless := by
  obtain ⟨fd, F⟩ := c.d.def_ 14
  exact def_ok F (c.glo 29) sc_fless (fun _ _ _ _ _ _ us hl => match us, hl with | [_, _], _ => rfl) (fun cdv A outer s H E hr => ⟨_, db_one (ds_ret (de_cmp c_lt (de_mul rfl (de_ix rfl (de_var 0) (de_int)) (de_ix rfl (de_var 1) (de_int))) (de_mul rfl (de_ix rfl (de_var 1) (de_int)) (de_ix rfl (de_var 0) (de_int)))))⟩)
/-! class_rows: 0 sizes, 1 rows, 2 v, 3 size, 4 like, 5 other, 6 bins -/
abbrev N_class_rows : List Str := ["sizes", "rows", "v", "size", "like", "other", "bins"]
theorem sc_class_rows : FnScope N_class_rows ["sizes"] (defScope (top 23)) := ⟨rfl, rfl, rfl, by decide +kernel, rfl, by decide +kernel, by decide +kernel⟩
theorem D_class_rows (c : C K mg) : Def P w K mg base (xx K mg) "class_rows" 1 2 m_class_rows := by
  obtain ⟨fd, F⟩ := c.d.def_ 15
  exact def_ok F (c.glo 31) sc_class_rows (fun _ _ _ _ _ _ us hl => match us, hl with | [_], _ => rfl) (fun cdv A outer s H E hr => ⟨_, db_ps (t := crT (xx K mg) m_fless) (db_cons (ds_set 1 sc_class_rows.nd (de_loc (da_nil)))
  (db_cons (ds_for (L2.passes_of rfl) rfl (di_enumA rfl (c.free 30) (da_cons (de_var 0) (da_nil))) (dg_tup rfl rfl (dgs_cons (dg_name 2 sc_class_rows.nd) (dgs_cons (dg_name 3 sc_class_rows.nd) (dgs_nil)))) (db_cons (ds_setLcK (i := 4) (own := [("other", 5), ("bins", 6)]) rfl rfl sc_class_rows.nd (de_var 1) (blkOk_by (by kernel_rfl)) (fun _ _ _ _ _ => dg_tup rfl rfl (dgs_cons (dg_name 5 sc_class_rows.nd) (dgs_cons (dg_name 6 sc_class_rows.nd) (dgs_nil)))) (gm_tup (gm_cons (gm_name) (gm_cons (gm_name) (gm_nil)))) (fun _ _ _ _ _ => (dts_one (dt_cmp (c_eq rfl (units_ok hr)) (de_var 5) (de_var 3)))) (fun _ _ _ _ _ => (de_var 6)))
  (db_one (ds_if (dt_cmp (c_ne rfl (units_ok hr)) (de_var 4) (de_lst (da_nil))) (db_one (ds_expr (de_append rfl (de_ix rfl (de_var 4) (de_int)) (da_cons (de_var 2) (da_nil))))) (db_one (ds_expr (de_insert rfl (de_var 1) (da_cons (de_len rfl (c.free 7) (da_cons (de_lcK (own := [("other", 5), ("bins", 6)]) rfl rfl sc_class_rows.nd (de_var 1) (blkOk_by (by kernel_rfl)) (fun _ _ _ _ _ => dg_tup rfl rfl (dgs_cons (dg_name 5 sc_class_rows.nd) (dgs_cons (dg_name 6 sc_class_rows.nd) (dgs_nil)))) (gm_tup (gm_cons (gm_name) (gm_cons (gm_name) (gm_nil)))) (fun _ _ _ _ _ => (dts_one (dt_val (de_call (D_fless c) hr (by decide) takes0N (da_cons (de_var 5) (da_cons (de_var 3) (da_nil))))))) (fun _ _ _ _ _ => (de_var 5))) (da_nil))) (da_cons (de_tup (da_cons (de_var 3) (da_cons (de_lst (da_cons (de_var 2) (da_nil))) (da_nil)))) (da_nil))))))))))
  (db_one (ds_ret (de_var 1))))) (fits_cr fless_ok)⟩)
/-! kinds_in: 0 sizes, 1 many, 2 _, 3 bins -/
abbrev N_kinds_in : List Str := ["sizes", "many", "_", "bins"]
theorem sc_kinds_in : FnScope N_kinds_in ["sizes"] (defScope (top 24)) := ⟨rfl, rfl, rfl, by decide +kernel, rfl, by decide +kernel, by decide +kernel⟩
theorem D_kinds_in (c : C K mg) : Def P w K mg base (xx K mg) "kinds_in" 1 3 m_kinds_in := by
  obtain ⟨fd, F⟩ := c.d.def_ 16
  exact def_ok F (c.glo 32) sc_kinds_in (fun _ _ _ _ _ _ us hl => match us, hl with | [_], _ => rfl) (fun cdv A outer s H E hr => ⟨_, db_cons (ds_set 1 sc_kinds_in.nd (de_int))
  (db_cons (ds_for (L2.passes_of rfl) rfl (di_seq rfl (de_call (D_class_rows c) hr (by decide) takesF (da_cons (de_var 0) (da_nil)))) (dg_tup rfl rfl (dgs_cons (dg_name 2 sc_kinds_in.nd) (dgs_cons (dg_name 3 sc_kinds_in.nd) (dgs_nil)))) (db_one (ds_set 1 sc_kinds_in.nd (de_mul rfl (de_var 1) (de_add rfl (de_int) (de_len rfl (c.free 7) (da_cons (de_var 3) (da_nil))))))))
  (db_one (ds_ret (de_var 1))))⟩)
/-! is_number: 0 thing -/
abbrev N_is_number : List Str := ["thing"]
theorem sc_is_number : FnScope N_is_number ["thing"] (defScope (top 16)) := ⟨rfl, rfl, rfl, by decide +kernel, rfl, by decide +kernel, by decide +kernel⟩
theorem D_is_number (c : C K mg) : Def P w K mg base (xx K mg) "is_number" 1 1 m_is_number := by
  obtain ⟨fd, F⟩ := c.d.def_ 17
  exact def_ok F (c.glo 33) sc_is_number (fun _ _ _ _ _ _ us hl => match us, hl with | [_], _ => rfl) (fun cdv A outer s H E hr => ⟨_, db_one (ds_ret (de_and (de_isi rfl (c.free 1) (da_cons (de_var 0) (da_cons (de_ty (c.free 0)) (da_nil)))) (de_one (de_not (de_isi rfl (c.free 1) (da_cons (de_var 0) (da_cons (de_ty (c.free 2)) (da_nil))))))))⟩)
/-! is_fraction: 0 thing -/
abbrev N_is_fraction : List Str := ["thing"]
theorem sc_is_fraction : FnScope N_is_fraction ["thing"] (defScope (top 17)) := ⟨rfl, rfl, rfl, by decide +kernel, rfl, by decide +kernel, by decide +kernel⟩
theorem D_is_fraction (c : C K mg) : Def P w K mg base (xx K mg) "is_fraction" 1 2 m_is_fraction := by
  obtain ⟨fd, F⟩ := c.d.def_ 18
  exact def_ok F (c.glo 35) sc_is_fraction (fun _ _ _ _ _ _ us hl => match us, hl with | [_], _ => rfl) (fun cdv A outer s H E hr => ⟨_, db_cons (ds_if (dt_w (dw_or (dt_not (dt_val (de_isi rfl (c.free 1) (da_cons (de_var 0) (da_cons (de_ty (c.free 5)) (da_nil)))))) (dw_or (dt_cmp (c_ne rfl (units_ok hr)) (de_len rfl (c.free 7) (da_cons (de_var 0) (da_nil))) (de_gint (c.int 34))) (dw_or (dt_not (dt_val (de_call (D_is_number c) hr (by decide) takesF (da_cons (de_ix rfl (de_var 0) (de_int)) (da_nil))))) (dw_or1 (dt_not (dt_val (de_call (D_is_number c) hr (by decide) takesF (da_cons (de_ix rfl (de_var 0) (de_int)) (da_nil)))))))))) (db_one (ds_ret (de_bl))) (db_nil))
  (db_one (ds_ret (de_and (de_cmp c_gt (de_ix rfl (de_var 0) (de_int)) (de_int)) (de_one (de_cmp (c_eq rfl (units_ok hr)) (de_gcd (c.blt 1) (da_cons (de_ix rfl (de_var 0) (de_int)) (da_cons (de_ix rfl (de_var 0) (de_int)) (da_nil)))) (de_int))))))⟩)
/-! whole: 0 thing, 1 low, 2 high -/
abbrev N_whole : List Str := ["thing", "low", "high"]
theorem sc_whole : FnScope N_whole ["thing", "low", "high"] (defScope (top 6)) := ⟨rfl, rfl, rfl, by decide +kernel, rfl, by decide +kernel, by decide +kernel⟩
theorem D_whole (c : C K mg) : Def P w K mg base (xx K mg) "whole" 3 1 m_whole := by
  obtain ⟨fd, F⟩ := c.d.def_ 19
  exact def_ok F (c.glo 36) sc_whole (fun _ _ _ _ _ _ us hl => match us, hl with | [_, _, _], _ => rfl) (fun cdv A outer s H E hr => ⟨_, db_one (ds_ret (de_and (de_isi rfl (c.free 1) (da_cons (de_var 0) (da_cons (de_ty (c.free 0)) (da_nil)))) (de_and (de_not (de_isi rfl (c.free 1) (da_cons (de_var 0) (da_cons (de_ty (c.free 2)) (da_nil))))) (de_one (de_chain c_le c_le (de_var 1) (de_var 0) (de_var 2))))))⟩)
/-! is_size: 0 thing -/
abbrev N_is_size : List Str := ["thing"]
theorem sc_is_size : FnScope N_is_size ["thing"] (defScope (top 18)) := ⟨rfl, rfl, rfl, by decide +kernel, rfl, by decide +kernel, by decide +kernel⟩
theorem D_is_size (c : C K mg) : Def P w K mg base (xx K mg) "is_size" 1 3 m_is_size := by
  obtain ⟨fd, F⟩ := c.d.def_ 20
  exact def_ok F (c.glo 39) sc_is_size (fun _ _ _ _ _ _ us hl => match us, hl with | [_], _ => rfl) (fun cdv A outer s H E hr => ⟨_, db_one (ds_ret (de_and (de_call (D_is_fraction c) hr (by decide) takesF (da_cons (de_var 0) (da_nil))) (de_and (de_call (D_whole c) hr (by decide) takesF (da_cons (de_ix rfl (de_var 0) (de_int)) (da_cons (de_int) (da_cons (de_gint (c.int 37)) (da_nil))))) (de_one (de_call (D_whole c) hr (by decide) takesF (da_cons (de_ix rfl (de_var 0) (de_int)) (da_cons (de_int) (da_cons (de_gint (c.int 38)) (da_nil)))))))))⟩)
/-! yard_fault: 0 thing, 1 rate, 2 sizes, 3 v, 4 size, 5 many -/
abbrev N_yard_fault : List Str := ["thing", "rate", "sizes", "v", "size", "many"]
theorem sc_yard_fault : FnScope N_yard_fault ["thing"] (defScope (top 25)) := ⟨rfl, rfl, rfl, by decide +kernel, rfl, by decide +kernel, by decide +kernel⟩
theorem D_yard_fault (c : C K mg) : Def P w K mg base (xx K mg) "yard_fault" 1 4 m_yard_fault := by
  obtain ⟨fd, F⟩ := c.d.def_ 21
  exact def_ok F (c.glo 43) sc_yard_fault (fun _ _ _ _ _ _ us hl => match us, hl with | [_], _ => rfl) (fun cdv A outer s H E hr => ⟨_, db_cons (ds_if (dt_w (dw_or (dt_not (dt_val (de_isi rfl (c.free 1) (da_cons (de_var 0) (da_cons (de_ty (c.free 5)) (da_nil)))))) (dw_or (dt_cmp (c_ne rfl (units_ok hr)) (de_len rfl (c.free 7) (da_cons (de_var 0) (da_nil))) (de_gint (c.int 34))) (dw_or1 (dt_not (dt_val (de_isi rfl (c.free 1) (da_cons (de_ix rfl (de_var 0) (de_int)) (da_cons (de_ty (c.free 5)) (da_nil)))))))))) (db_one (ds_ret (de_tup (da_cons (de_str) (da_cons (de_neg (de_int)) (da_nil)))))) (db_nil))
  (db_cons (ds_asg (de_var 0) (dg_tup rfl rfl (dgs_cons (dg_name 1 sc_yard_fault.nd) (dgs_cons (dg_name 2 sc_yard_fault.nd) (dgs_nil)))))
  (db_cons (ds_if (dt_cmp c_gt (de_len rfl (c.free 7) (da_cons (de_var 2) (da_nil))) (de_gint (c.int 40))) (db_one (ds_ret (de_tup (da_cons (de_str) (da_cons (de_len rfl (c.free 7) (da_cons (de_var 2) (da_nil))) (da_nil)))))) (db_nil))
  (db_cons (ds_if (dt_not (dt_val (de_call (D_is_size c) hr (by decide) takesF (da_cons (de_var 1) (da_nil))))) (db_one (ds_ret (de_tup (da_cons (de_str) (da_cons (de_gint (c.int 41)) (da_nil)))))) (db_nil))
  (db_cons (ds_for (L2.passes_of rfl) rfl (di_enumA rfl (c.free 30) (da_cons (de_var 2) (da_nil))) (dg_tup rfl rfl (dgs_cons (dg_name 3 sc_yard_fault.nd) (dgs_cons (dg_name 4 sc_yard_fault.nd) (dgs_nil)))) (db_one (ds_if (dt_not (dt_val (de_call (D_is_size c) hr (by decide) takesF (da_cons (de_var 4) (da_nil))))) (db_one (ds_ret (de_tup (da_cons (de_str) (da_cons (de_var 3) (da_nil)))))) (db_nil))))
  (db_cons (ds_set 5 sc_yard_fault.nd (de_call (D_kinds_in c) hr (by decide) takesF (da_cons (de_var 2) (da_nil))))
  (db_one (ds_ret (de_if (dt_cmp c_gt (de_var 5) (de_gint (c.int 42))) (de_tup (da_cons (de_str) (da_cons (de_var 5) (da_nil)))) (de_non)))))))))⟩)
/-! made_yard: 0 thing, 1 fault -/
abbrev N_made_yard : List Str := ["thing", "fault"]
theorem sc_made_yard : FnScope N_made_yard ["thing"] (defScope (top 26)) := ⟨rfl, rfl, rfl, by decide +kernel, rfl, by decide +kernel, by decide +kernel⟩
theorem D_made_yard (c : C K mg) : Def P w K mg base (xx K mg) "made_yard" 1 5 m_made_yard := by
  obtain ⟨fd, F⟩ := c.d.def_ 22
  exact def_ok F (c.glo 44) sc_made_yard (fun _ _ _ _ _ _ us hl => match us, hl with | [_], _ => rfl) (fun cdv A outer s H E hr => ⟨_, db_cons (ds_set 1 sc_made_yard.nd (de_call (D_yard_fault c) hr (by decide) takesF (da_cons (de_var 0) (da_nil))))
  (db_cons (ds_if (dt_isN (de_var 1)) (db_one (ds_ret (de_var 0))) (db_nil))
  (db_cons (ds_if (dt_cmp (c_eq rfl (units_ok hr)) (de_ix rfl (de_var 1) (de_int)) (de_str)) (db_one (ds_raise rfl rfl (R_ok c (by decide)) (hr.mono (by decide)) rfl takesF (da_cons (de_ix rfl (de_var 1) (de_int)) (da_nil)))) (db_nil))
  (db_one (ds_raise rfl rfl (R_ok c (by decide)) (hr.mono (by decide)) rfl takesF (da_cons (de_ix rfl (de_var 1) (de_int)) (da_nil))))))⟩)
/-! lot_fault: 0 yard, 1 thing, 2 least, 3 at, 4 one -/
abbrev N_lot_fault : List Str := ["yard", "thing", "least", "at", "one"]
theorem sc_lot_fault : FnScope N_lot_fault ["yard", "thing"] (defScope (top 28)) := ⟨rfl, rfl, rfl, by decide +kernel, rfl, by decide +kernel, by decide +kernel⟩
theorem D_lot_fault (c : C K mg) : Def P w K mg base (xx K mg) "lot_fault" 2 2 m_lot_fault := by
  obtain ⟨fd, F⟩ := c.d.def_ 23
  exact def_ok F (c.glo 45) sc_lot_fault (fun _ _ _ _ _ _ us hl => match us, hl with | [_, _], _ => rfl) (fun cdv A outer s H E hr => ⟨_, db_cons (ds_if (dt_not (dt_val (de_isi rfl (c.free 1) (da_cons (de_var 1) (da_cons (de_ty (c.free 5)) (da_nil)))))) (db_one (ds_ret (de_neg (de_int)))) (db_nil))
  (db_cons (ds_set 2 sc_lot_fault.nd (de_int))
  (db_cons (ds_for (L2.passes_of rfl) rfl (di_enumA rfl (c.free 30) (da_cons (de_var 1) (da_nil))) (dg_tup rfl rfl (dgs_cons (dg_name 3 sc_lot_fault.nd) (dgs_cons (dg_name 4 sc_lot_fault.nd) (dgs_nil)))) (db_cons (ds_if (dt_not (dt_val (de_call (D_whole c) hr (by decide) takesF (da_cons (de_var 4) (da_cons (de_var 2) (da_cons (de_sub (de_len rfl (c.free 7) (da_cons (de_ix rfl (de_var 0) (de_int)) (da_nil))) (de_int)) (da_nil))))))) (db_one (ds_ret (de_var 3))) (db_nil))
  (db_one (ds_set 2 sc_lot_fault.nd (de_add rfl (de_var 4) (de_int))))))
  (db_one (ds_ret (de_non)))))⟩)
/-! made_lot: 0 yard, 1 thing, 2 fault -/
abbrev N_made_lot : List Str := ["yard", "thing", "fault"]
theorem sc_made_lot : FnScope N_made_lot ["yard", "thing"] (defScope (top 29)) := ⟨rfl, rfl, rfl, by decide +kernel, rfl, by decide +kernel, by decide +kernel⟩
theorem D_made_lot (c : C K mg) : Def P w K mg base (xx K mg) "made_lot" 2 6 m_made_lot := by
  obtain ⟨fd, F⟩ := c.d.def_ 24
  exact def_ok F (c.glo 46) sc_made_lot (fun _ _ _ _ _ _ us hl => match us, hl with | [_, _], _ => rfl) (fun cdv A outer s H E hr => ⟨_, db_cons (ds_expr (de_call (D_made_yard c) hr (by decide) takesF (da_cons (de_var 0) (da_nil))))
  (db_cons (ds_set 2 sc_made_lot.nd (de_call (D_lot_fault c) hr (by decide) takesF (da_cons (de_var 0) (da_cons (de_var 1) (da_nil)))))
  (db_cons (ds_if (dt_notN (de_var 2)) (db_one (ds_raise rfl rfl (R_ok c (by decide)) (hr.mono (by decide)) rfl takesF (da_cons (de_var 2) (da_nil)))) (db_nil))
  (db_one (ds_ret (de_var 1)))))⟩)
/-! fr: 0 top, 1 bottom, 2 part -/
abbrev N_fr : List Str := ["top", "bottom", "part"]
theorem sc_fr : FnScope N_fr ["top", "bottom"] (defScope (top 12)) := ⟨rfl, rfl, rfl, by decide +kernel, rfl, by decide +kernel, by decide +kernel⟩
theorem D_fr (c : C K mg) : Def P w K mg base (xx K mg) "fr" 2 1 m_fr := by
  obtain ⟨fd, F⟩ := c.d.def_ 25
  exact def_ok F (c.glo 47) sc_fr (fun _ _ _ _ _ _ us hl => match us, hl with | [_, _], _ => rfl) (fun cdv A outer s H E hr => ⟨_, db_cons (ds_set 2 sc_fr.nd (de_gcd (c.blt 1) (da_cons (de_var 0) (da_cons (de_var 1) (da_nil)))))
  (db_cons (ds_set 2 sc_fr.nd (de_if (dt_cmp c_lt (de_var 1) (de_int)) (de_neg (de_var 2)) (de_var 2)))
  (db_one (ds_ret (de_tup (da_cons (de_div (de_var 0) (de_var 2)) (da_cons (de_div (de_var 1) (de_var 2)) (da_nil)))))))⟩)
/-! fadd: 0 a, 1 b -/
abbrev N_fadd : List Str := ["a", "b"]
theorem sc_fadd : FnScope N_fadd ["a", "b"] (defScope (top 13)) := ⟨rfl, rfl, rfl, by decide +kernel, rfl, by decide +kernel, by decide +kernel⟩
theorem D_fadd (c : C K mg) : Def P w K mg base (xx K mg) "fadd" 2 2 m_fadd := by
  obtain ⟨fd, F⟩ := c.d.def_ 26
  exact def_ok F (c.glo 48) sc_fadd (fun _ _ _ _ _ _ us hl => match us, hl with | [_, _], _ => rfl) (fun cdv A outer s H E hr => ⟨_, db_one (ds_ret (de_call (D_fr c) hr (by decide) takesF (da_cons (de_add rfl (de_mul rfl (de_ix rfl (de_var 0) (de_int)) (de_ix rfl (de_var 1) (de_int))) (de_mul rfl (de_ix rfl (de_var 1) (de_int)) (de_ix rfl (de_var 0) (de_int)))) (da_cons (de_mul rfl (de_ix rfl (de_var 0) (de_int)) (de_ix rfl (de_var 1) (de_int))) (da_nil)))))⟩)
/-! fsum: 0 rows, 1 total, 2 one -/
abbrev N_fsum : List Str := ["rows", "total", "one"]
theorem sc_fsum : FnScope N_fsum ["rows"] (defScope (top 15)) := ⟨rfl, rfl, rfl, by decide +kernel, rfl, by decide +kernel, by decide +kernel⟩
theorem D_fsum (c : C K mg) : Def P w K mg base (xx K mg) "fsum" 1 3 m_fsum := by
  obtain ⟨fd, F⟩ := c.d.def_ 27
  exact def_ok F (c.glo 50) sc_fsum (fun _ _ _ _ _ _ us hl => match us, hl with | [_], _ => rfl) (fun cdv A outer s H E hr => ⟨_, db_cons (ds_set 1 sc_fsum.nd (de_gtup (c.glo 49) (c.tup 2)))
  (db_cons (ds_for (L2.passes_of rfl) rfl (di_seq rfl (de_var 0)) (dg_name 2 sc_fsum.nd) (db_one (ds_set 1 sc_fsum.nd (de_call (D_fadd c) hr (by decide) takesF (da_cons (de_var 1) (da_cons (de_var 2) (da_nil)))))))
  (db_one (ds_ret (de_var 1))))⟩)
/-! size_of: 0 yard, 1 lot, 2 v -/
abbrev N_size_of : List Str := ["yard", "lot", "v"]
theorem sc_size_of : FnScope N_size_of ["yard", "lot"] (defScope (top 30)) := ⟨rfl, rfl, rfl, by decide +kernel, rfl, by decide +kernel, by decide +kernel⟩
theorem D_size_of (c : C K mg) : Def P w K mg base (xx K mg) "size_of" 2 4 m_size_of := by
  obtain ⟨fd, F⟩ := c.d.def_ 28
  exact def_ok F (c.glo 51) sc_size_of (fun _ _ _ _ _ _ us hl => match us, hl with | [_, _], _ => rfl) (fun cdv A outer s H E hr => ⟨_, db_one (ds_ret (de_call (D_fsum c) hr (by decide) takesF (da_cons (de_lc (own := [("v", 2)]) rfl sc_size_of.nd (di_seq rfl (de_var 1)) (blkOk_by (by kernel_rfl)) (fun _ _ _ _ _ => dg_name 2 sc_size_of.nd) (gm_name) (fun _ _ _ _ _ => cTs (dts_nil)) (fun _ _ _ _ _ => cE (de_ix rfl (de_ix rfl (de_var 0) (de_int)) (de_var 2)))) (da_nil))))⟩)
/-! size_sum: 0 yard, 1 lot -/
abbrev N_size_sum : List Str := ["yard", "lot"]
theorem sc_size_sum : FnScope N_size_sum ["yard", "lot"] (defScope (top 31)) := ⟨rfl, rfl, rfl, by decide +kernel, rfl, by decide +kernel, by decide +kernel⟩
theorem D_size_sum (c : C K mg) : Def P w K mg base (xx K mg) "size_sum" 2 7 m_size_sum := by
  obtain ⟨fd, F⟩ := c.d.def_ 29
  exact def_ok F (c.glo 52) sc_size_sum (fun _ _ _ _ _ _ us hl => match us, hl with | [_, _], _ => rfl) (fun cdv A outer s H E hr => ⟨_, db_cons (ds_expr (de_call (D_made_lot c) hr (by decide) takesF (da_cons (de_var 0) (da_cons (de_var 1) (da_nil)))))
  (db_one (ds_ret (de_call (D_size_of c) hr (by decide) takesF (da_cons (de_var 0) (da_cons (de_var 1) (da_nil))))))⟩)
/-! _law_n05_lots_right: 0 jar, 1 yard, 2 many, 3 lots_now, 4 owed, 5 lot, 6 told_now, 7 others, 8 rest, 9 made, 10 v, 11 one, 12 go -/
abbrev N__law_n05_lots_right : List Str := ["jar", "yard", "many", "lots_now", "owed", "lot", "told_now", "others", "rest", "made", "v", "one", "go"]
theorem sc__law_n05_lots_right : FnScope N__law_n05_lots_right ["jar", "yard"] (defScope (top 58)) := ⟨rfl, rfl, rfl, by decide +kernel, rfl, by decide +kernel, by decide +kernel⟩
/-! _law_n05_lots_right: 0 jar, 1 yard, 2 many, 3 lots_now, 4 owed, 5 lot, 6 told_now, 7 others, 8 rest, 9 made, 10 v, 11 one, 12 go -/
def e1__law_n05_lots_right : Vr → Store → R U :=
  fCall m__law_some (fCons (fVar 0) (fCons (f1 (uLstRgD zero) (fVar 2)) (fCons (fC (.d (.int 2))) (fNil))))
def b2__law_n05_lots_right : Vr → Store → O :=
  gSet 9 (fCall m__law_op_plus (fCons (f2 uIx (f2 uIx (fVar 1) (fC (.d (.int 1)))) (fVar 10)) (fCons (fVar 9) (fNil))))
def b3__law_n05_lots_right : Vr → Store → O :=
  gSeq (gSet 9 (fN mkTup (fCons (fC (.d (.int 0))) (fCons (fC (.d (.int 1))) (fNil)))))
  (gSeq (gFor (sSeq (f1 uRev (fVar 5))) (aName 10) (b2__law_n05_lots_right))
  (gDrop (fML uApp (fVar 4) (fCons (fVar 9) (fNil)))))
def e4__law_n05_lots_right : Vr → Store → R U :=
  fCall m_made_lot (fCons (fVar 1) (fCons (fVar 5) (fNil)))
def e5__law_n05_lots_right : Vr → Store → R U :=
  fCall m_size_sum (fCons (fVar 1) (fCons (fVar 5) (fNil)))
def e6__law_n05_lots_right : Vr → Store → R U :=
  fVar 10
def t7__law_n05_lots_right : Vr → Store → R Bool :=
  fTst (f2 (uInF not) (fVar 10) (fVar 5))
def e8__law_n05_lots_right : Vr → Store → R U :=
  fN uTupleOf (fCons (fLc (sN sRng1 (fCons (fVar 2) (fNil))) (aName 10) (t7__law_n05_lots_right) (e6__law_n05_lots_right) [10]) (fNil))
def e9__law_n05_lots_right : Vr → Store → R U :=
  fCall m_size_sum (fCons (fVar 1) (fCons (fVar 5) (fNil)))
def e10__law_n05_lots_right : Vr → Store → R U :=
  fCall m__law_op_minus (fCons (f2 uIx (fVar 4) (f1 uNeg (fC (.d (.int 1))))) (fCons (fVar 11) (fNil)))
def g__law_n05_lots_right : Vr → Store → O :=
  gSeq (gSet 2 (fN uLen (fCons (f2 uIx (fVar 1) (fC (.d (.int 1)))) (fNil))))
  (gSeq (gSet 3 (fIf (fTst (f2 uLt (fVar 2) (fC (.d (.int 7))))) (fCall m__law_op_lots (fCons (fVar 2) (fNil))) (fLc (sN sRng1 (fCons (fC (.d (.int 9))) (fNil))) (aName 12) (fYes) (e1__law_n05_lots_right) [12])))
  (gSeq (gSet 3 (f2 uAdd (fVar 3) (fN mkLst (fCons (f1 (uTupRg zero) (fVar 2)) (fNil)))))
  (gSeq (gSet 4 (fN mkLoc (fNil)))
  (gSeq (gFor (sSeq (fVar 3)) (aName 5) (b3__law_n05_lots_right))
  (gSeq (gSet 6 (fN mkLoc (fCons (fLam 5 gh__law_n05_heard (fLc (sSeq (fVar 3)) (aName 5) (fYes) (e4__law_n05_lots_right) [5])) (fNil))))
  (gSeq (gDrop (fML uApp (fVar 6) (fCons (fLam 5 gh__law_n05_heard (fLc (sSeq (fVar 3)) (aName 5) (fYes) (e5__law_n05_lots_right) [5])) (fNil))))
  (gSeq (gSet 7 (fLc (sSeq (fVar 3)) (aName 5) (fYes) (e8__law_n05_lots_right) [5]))
  (gSeq (gDrop (fML uApp (fVar 6) (fCons (fLam 5 gh__law_n05_heard (fLc (sSeq (fVar 7)) (aName 5) (fYes) (e9__law_n05_lots_right) [5])) (fNil))))
  (gSeq (gSet 8 (fLcK (fVar 4) (aName 11) (fYes) (e10__law_n05_lots_right) [11]))
  (gRet (fCall m__law_op_same (fCons (fVar 6) (fCons (fN mkLst (fCons (fN mkTup (fCons (fC (.d (.str "told"))) (fCons (fVar 3) (fNil)))) (fCons (fN mkTup (fCons (fC (.d (.str "told"))) (fCons (fVar 4) (fNil)))) (fCons (fN mkTup (fCons (fC (.d (.str "told"))) (fCons (fVar 8) (fNil)))) (fNil))))) (fNil))))))))))))))
def m__law_n05_lots_right : List U → Store → R U := runD 13 g__law_n05_lots_right
theorem D__law_n05_lots_right (c : C K mg) (hT : ∀ p ∈ tf, LamX.TabB base mg (He.cT K p).1 (He.cT K p).2) : Def P w K mg base (xx K mg) "_law_n05_lots_right" 2 10 m__law_n05_lots_right := by
  obtain ⟨fd, F⟩ := c.d.def_ 30
  exact def_okC F (c.glo 53) sc__law_n05_lots_right (fun _ _ _ _ _ _ us hl => match us, hl with | [_, _], _ => rfl) (fun cdv A outer s H E hcd hr => ⟨_, db_cons (ds_set 2 sc__law_n05_lots_right.nd (de_len rfl (c.free 7) (da_cons (de_ix rfl (de_var 1) (de_int)) (da_nil))))
  (db_cons (ds_set 3 sc__law_n05_lots_right.nd (de_if (dt_cmp c_lt (de_var 2) (de_int)) (de_call (D__law_op_lots c) hr (by decide) takesF (da_cons (de_var 2) (da_nil))) (de_lc (own := [("go", 12)]) rfl sc__law_n05_lots_right.nd (di_rng1 (c.free 8) (da_cons (de_int) (da_nil))) (blkOk_by (by kernel_rfl)) (fun _ _ _ _ _ => dg_name 12 sc__law_n05_lots_right.nd) (gm_name) (fun _ _ _ _ _ => cTs (dts_nil)) (fun _ _ _ _ _ => cE (de_call (D__law_some c) hr (by decide) takes0N (da_cons (de_var 0) (da_cons (de_lstRgD1 rfl (c.free 6) (c.free 8) (de_var 2)) (da_cons (de_int) (da_nil)))))))))
  (db_cons (ds_set 3 sc__law_n05_lots_right.nd (de_add rfl (de_var 3) (de_lst (da_cons (de_tupRg1 rfl (c.free 5) (c.free 8) (de_var 2)) (da_nil)))))
  (db_cons (ds_set 4 sc__law_n05_lots_right.nd (de_loc (da_nil)))
  (db_cons (ds_for (L2.passes_of rfl) rfl (di_seq rfl (de_var 3)) (dg_name 5 sc__law_n05_lots_right.nd) (db_cons (ds_set 9 sc__law_n05_lots_right.nd (de_tup (da_cons (de_int) (da_cons (de_int) (da_nil)))))
  (db_cons (ds_for (L2.passes_of rfl) rfl (di_seq rfl (de_rev rfl (de_var 5))) (dg_name 10 sc__law_n05_lots_right.nd) (db_one (ds_set 9 sc__law_n05_lots_right.nd (de_call (D__law_op_plus c) hr (by decide) takesF (da_cons (de_ix rfl (de_ix rfl (de_var 1) (de_int)) (de_var 10)) (da_cons (de_var 9) (da_nil)))))))
  (db_one (ds_expr (de_append rfl (de_var 4) (da_cons (de_var 9) (da_nil))))))))
  (db_cons (ds_set 6 sc__law_n05_lots_right.nd (de_loc (da_cons (de_lam (k := 6) rfl rfl (fun _ _ _ z => z) (H__law_n05_heard c) (hr.mono (by decide)) takesF (hT _ (by decide +kernel : (("_law_n05_lots_right", none) : He.Defn) ∈ tf)) hcd (tabs_mem (by decide +kernel : (("_law_n05_lots_right", none) : He.Defn) ∈ tf)) (tabs_u (c.tabs 3) (by decide +kernel : (("_law_n05_lots_right", none) : He.Defn) ∈ tf)) (LamX.lamS_by (by kernel_rfl)) (fun _ _ _ _ _ _ _ hr => cE (de_lc (own := [("lot", 5)]) rfl sc__law_n05_lots_right.nd (di_seq rfl (de_var 3)) (blkOk_by (by kernel_rfl)) (fun _ _ _ _ _ => dg_name 5 sc__law_n05_lots_right.nd) (gm_name) (fun _ _ _ _ _ => cTs (dts_nil)) (fun _ _ _ _ _ => cE (de_call (D_made_lot c) hr (by decide) takes0N (da_cons (de_var 1) (da_cons (de_var 5) (da_nil)))))))) (da_nil))))
  (db_cons (ds_expr (de_append rfl (de_var 6) (da_cons (de_lam (k := 7) rfl rfl (fun _ _ _ z => z) (H__law_n05_heard c) (hr.mono (by decide)) takesF (hT _ (by decide +kernel : (("_law_n05_lots_right", none) : He.Defn) ∈ tf)) hcd (tabs_mem (by decide +kernel : (("_law_n05_lots_right", none) : He.Defn) ∈ tf)) (tabs_u (c.tabs 3) (by decide +kernel : (("_law_n05_lots_right", none) : He.Defn) ∈ tf)) (LamX.lamS_by (by kernel_rfl)) (fun _ _ _ _ _ _ _ hr => cE (de_lc (own := [("lot", 5)]) rfl sc__law_n05_lots_right.nd (di_seq rfl (de_var 3)) (blkOk_by (by kernel_rfl)) (fun _ _ _ _ _ => dg_name 5 sc__law_n05_lots_right.nd) (gm_name) (fun _ _ _ _ _ => cTs (dts_nil)) (fun _ _ _ _ _ => cE (de_call (D_size_sum c) hr (by decide) takes0N (da_cons (de_var 1) (da_cons (de_var 5) (da_nil)))))))) (da_nil))))
  (db_cons (ds_set 7 sc__law_n05_lots_right.nd (de_lc (own := [("lot", 5)]) rfl sc__law_n05_lots_right.nd (di_seq rfl (de_var 3)) (blkOk_by (by kernel_rfl)) (fun _ _ _ _ _ => dg_name 5 sc__law_n05_lots_right.nd) (gm_name) (fun _ _ _ _ _ => cTs (dts_nil)) (fun _ _ _ _ _ => cE (de_tupleOf rfl (c.free 5) (da_cons (de_lc (own := [("v", 10)]) rfl sc__law_n05_lots_right.nd (di_rng1 (c.free 8) (da_cons (de_var 2) (da_nil))) (blkOk_by (by kernel_rfl)) (fun _ _ _ _ _ => dg_name 10 sc__law_n05_lots_right.nd) (gm_name) (fun _ _ _ _ _ => cTs (dts_one (dt_cmp (c_notIn rfl (units_ok1 hr)) (de_var 10) (de_var 5)))) (fun _ _ _ _ _ => cE (de_var 10))) (da_nil))))))
  (db_cons (ds_expr (de_append rfl (de_var 6) (da_cons (de_lam (k := 7) rfl rfl (fun _ _ _ z => z) (H__law_n05_heard c) (hr.mono (by decide)) takesF (hT _ (by decide +kernel : (("_law_n05_lots_right", none) : He.Defn) ∈ tf)) hcd (tabs_mem (by decide +kernel : (("_law_n05_lots_right", none) : He.Defn) ∈ tf)) (tabs_u (c.tabs 3) (by decide +kernel : (("_law_n05_lots_right", none) : He.Defn) ∈ tf)) (LamX.lamS_by (by kernel_rfl)) (fun _ _ _ _ _ _ _ hr => cE (de_lc (own := [("lot", 5)]) rfl sc__law_n05_lots_right.nd (di_seq rfl (de_var 7)) (blkOk_by (by kernel_rfl)) (fun _ _ _ _ _ => dg_name 5 sc__law_n05_lots_right.nd) (gm_name) (fun _ _ _ _ _ => cTs (dts_nil)) (fun _ _ _ _ _ => cE (de_call (D_size_sum c) hr (by decide) takes0N (da_cons (de_var 1) (da_cons (de_var 5) (da_nil)))))))) (da_nil))))
  (db_cons (ds_setLcK (i := 8) (own := [("one", 11)]) rfl rfl sc__law_n05_lots_right.nd (de_var 4) (blkOk_by (by kernel_rfl)) (fun _ _ _ _ _ => dg_name 11 sc__law_n05_lots_right.nd) (gm_name) (fun _ _ _ _ _ => cTs (dts_nil)) (fun _ _ _ _ _ => cE (de_call (D__law_op_minus c) hr (by decide) takes0N (da_cons (de_ix rfl (de_var 4) (de_neg (de_int))) (da_cons (de_var 11) (da_nil))))))
  (db_one (ds_ret (de_call (D__law_op_same c) hr (by decide) takesF (da_cons (de_var 6) (da_cons (de_lst (da_cons (de_tup (da_cons (de_str) (da_cons (de_var 3) (da_nil)))) (da_cons (de_tup (da_cons (de_str) (da_cons (de_var 4) (da_nil)))) (da_cons (de_tup (da_cons (de_str) (da_cons (de_var 8) (da_nil)))) (da_nil))))) (da_nil)))))))))))))))⟩)
/-! _law_op_kinds: 0 sizes_now, 1 made, 2 size_now, 3 one -/
abbrev N__law_op_kinds : List Str := ["sizes_now", "made", "size_now", "one"]
theorem sc__law_op_kinds : FnScope N__law_op_kinds ["sizes_now"] (defScope (top 51)) := ⟨rfl, rfl, rfl, by decide +kernel, rfl, by decide +kernel, by decide +kernel⟩
theorem D__law_op_kinds (c : C K mg) : Def P w K mg base (xx K mg) "_law_op_kinds" 1 1 m__law_op_kinds := by
  obtain ⟨fd, F⟩ := c.d.def_ 31
  exact def_ok F (c.glo 55) sc__law_op_kinds (fun _ _ _ _ _ _ us hl => match us, hl with | [_], _ => rfl) (fun cdv A outer s H E hr => ⟨_, db_cons (ds_set 1 sc__law_op_kinds.nd (de_int))
  (db_cons (ds_for (L2.passes_of rfl) rfl (di_seq rfl (de_sortedSet rfl rfl (units_ok hr) (c.free 20) (c.free 54) (da_cons (de_var 0) (da_nil)))) (dg_name 2 sc__law_op_kinds.nd) (db_one (ds_set 1 sc__law_op_kinds.nd (de_mul rfl (de_var 1) (de_add rfl (de_int) (de_len rfl (c.free 7) (da_cons (de_lc (own := [("one", 3)]) rfl sc__law_op_kinds.nd (di_seq rfl (de_var 0)) (blkOk_by (by kernel_rfl)) (fun _ _ _ _ _ => dg_name 3 sc__law_op_kinds.nd) (gm_name) (fun _ _ _ _ _ => cTs (dts_one (dt_cmp (c_eq rfl (units_ok hr)) (de_var 3) (de_var 2)))) (fun _ _ _ _ _ => cE (de_var 3))) (da_nil))))))))
  (db_one (ds_ret (de_var 1))))⟩)
/-! _law_op_is_fraction: 0 thing, 1 x -/
abbrev N__law_op_is_fraction : List Str := ["thing", "x"]
theorem sc__law_op_is_fraction : FnScope N__law_op_is_fraction ["thing"] (defScope (top 46)) := ⟨rfl, rfl, rfl, by decide +kernel, rfl, by decide +kernel, by decide +kernel⟩
theorem D__law_op_is_fraction (c : C K mg) : Def P w K mg base (xx K mg) "_law_op_is_fraction" 1 2 m__law_op_is_fraction := by
  obtain ⟨fd, F⟩ := c.d.def_ 32
  exact def_ok F (c.glo 56) sc__law_op_is_fraction (fun _ _ _ _ _ _ us hl => match us, hl with | [_], _ => rfl) (fun cdv A outer s H E hr => ⟨_, db_cons (ds_if (dt_w (dw_or (dt_not (dt_val (de_isi rfl (c.free 1) (da_cons (de_var 0) (da_cons (de_ty (c.free 5)) (da_nil)))))) (dw_or (dt_cmp (c_ne rfl (units_ok hr)) (de_len rfl (c.free 7) (da_cons (de_var 0) (da_nil))) (de_int)) (dw_or1 (dt_cmp (c_ne rfl (units_ok hr)) (de_lc (own := [("x", 1)]) rfl sc__law_op_is_fraction.nd (di_seq rfl (de_var 0)) (blkOk_by (by kernel_rfl)) (fun _ _ _ _ _ => dg_name 1 sc__law_op_is_fraction.nd) (gm_name) (fun _ _ _ _ _ => cTs (dts_one (dt_not (dt_val (de_call (D__law_op_is_whole c) hr (by decide) takes0N (da_cons (de_var 1) (da_nil))))))) (fun _ _ _ _ _ => cE (de_var 1))) (de_lst (da_nil))))))) (db_one (ds_ret (de_bl))) (db_nil))
  (db_one (ds_ret (de_and (de_cmp c_gt (de_ix rfl (de_var 0) (de_int)) (de_int)) (de_one (de_cmp (c_eq rfl (units_ok hr)) (de_call (D__law_op_frac c) hr (by decide) takesF (da_cons (de_ix rfl (de_var 0) (de_int)) (da_cons (de_ix rfl (de_var 0) (de_int)) (da_nil)))) (de_var 0))))))⟩)
/-! _law_op_is_size: 0 thing -/
abbrev N__law_op_is_size : List Str := ["thing"]
theorem sc__law_op_is_size : FnScope N__law_op_is_size ["thing"] (defScope (top 47)) := ⟨rfl, rfl, rfl, by decide +kernel, rfl, by decide +kernel, by decide +kernel⟩
theorem D__law_op_is_size (c : C K mg) : Def P w K mg base (xx K mg) "_law_op_is_size" 1 3 m__law_op_is_size := by
  obtain ⟨fd, F⟩ := c.d.def_ 33
  exact def_ok F (c.glo 57) sc__law_op_is_size (fun _ _ _ _ _ _ us hl => match us, hl with | [_], _ => rfl) (fun cdv A outer s H E hr => ⟨_, db_one (ds_ret (de_and (de_call (D__law_op_is_fraction c) hr (by decide) takesF (da_cons (de_var 0) (da_nil))) (de_and (de_chain c_le c_le (de_int) (de_ix rfl (de_var 0) (de_int)) (de_pow (de_int) (de_int))) (de_one (de_cmp c_le (de_ix rfl (de_var 0) (de_int)) (de_int))))))⟩)
/-! _law_op_yard_fault: 0 thing, 1 bad, 2 many, 3 at -/
abbrev N__law_op_yard_fault : List Str := ["thing", "bad", "many", "at"]
theorem sc__law_op_yard_fault : FnScope N__law_op_yard_fault ["thing"] (defScope (top 52)) := ⟨rfl, rfl, rfl, by decide +kernel, rfl, by decide +kernel, by decide +kernel⟩
theorem D__law_op_yard_fault (c : C K mg) : Def P w K mg base (xx K mg) "_law_op_yard_fault" 1 4 m__law_op_yard_fault := by
  obtain ⟨fd, F⟩ := c.d.def_ 34
  exact def_ok F (c.glo 58) sc__law_op_yard_fault (fun _ _ _ _ _ _ us hl => match us, hl with | [_], _ => rfl) (fun cdv A outer s H E hr => ⟨_, db_cons (ds_if (dt_w (dw_or (dt_not (dt_val (de_isi rfl (c.free 1) (da_cons (de_var 0) (da_cons (de_ty (c.free 5)) (da_nil)))))) (dw_or (dt_cmp (c_ne rfl (units_ok hr)) (de_len rfl (c.free 7) (da_cons (de_var 0) (da_nil))) (de_int)) (dw_or1 (dt_not (dt_val (de_isi rfl (c.free 1) (da_cons (de_ix rfl (de_var 0) (de_int)) (da_cons (de_ty (c.free 5)) (da_nil)))))))))) (db_one (ds_ret (de_tup (da_cons (de_str) (da_cons (de_neg (de_int)) (da_nil)))))) (db_nil))
  (db_cons (ds_if (dt_cmp c_gt (de_len rfl (c.free 7) (da_cons (de_ix rfl (de_var 0) (de_int)) (da_nil))) (de_int)) (db_one (ds_ret (de_tup (da_cons (de_str) (da_cons (de_len rfl (c.free 7) (da_cons (de_ix rfl (de_var 0) (de_int)) (da_nil))) (da_nil)))))) (db_nil))
  (db_cons (ds_if (dt_not (dt_val (de_call (D__law_op_is_size c) hr (by decide) takesF (da_cons (de_ix rfl (de_var 0) (de_int)) (da_nil))))) (db_one (ds_ret (de_tup (da_cons (de_str) (da_cons (de_neg (de_int)) (da_nil)))))) (db_nil))
  (db_cons (ds_setLc (i := 1) (own := [("at", 3)]) rfl sc__law_op_yard_fault.nd (di_rng1 (c.free 8) (da_cons (de_len rfl (c.free 7) (da_cons (de_ix rfl (de_var 0) (de_int)) (da_nil))) (da_nil))) (blkOk_by (by kernel_rfl)) (fun _ _ _ _ _ => dg_name 3 sc__law_op_yard_fault.nd) (gm_name) (fun _ _ _ _ _ => cTs (dts_one (dt_not (dt_val (de_call (D__law_op_is_size c) hr (by decide) takes0N (da_cons (de_ix rfl (de_ix rfl (de_var 0) (de_int)) (de_var 3)) (da_nil))))))) (fun _ _ _ _ _ => cE (de_var 3)))
  (db_cons (ds_if (dt_cmp (c_ne rfl (units_ok hr)) (de_var 1) (de_lst (da_nil))) (db_one (ds_ret (de_tup (da_cons (de_str) (da_cons (de_ix rfl (de_var 1) (de_int)) (da_nil)))))) (db_nil))
  (db_cons (ds_set 2 sc__law_op_yard_fault.nd (de_call (D__law_op_kinds c) hr (by decide) takesF (da_cons (de_ix rfl (de_var 0) (de_int)) (da_nil))))
  (db_one (ds_ret (de_if (dt_cmp c_gt (de_var 2) (de_int)) (de_tup (da_cons (de_str) (da_cons (de_var 2) (da_nil)))) (de_non)))))))))⟩)
/-! _law_op_odd_yard: 0 jar, 1 yard, 2 rate, 3 sizes_now, 4 found, 5 odd, 6 thing, 7 at -/
abbrev N__law_op_odd_yard : List Str := ["jar", "yard", "rate", "sizes_now", "found", "odd", "thing", "at"]
theorem sc__law_op_odd_yard : FnScope N__law_op_odd_yard ["jar", "yard"] (defScope (top 55)) := ⟨rfl, rfl, rfl, by decide +kernel, rfl, by decide +kernel, by decide +kernel⟩
theorem D__law_op_odd_yard (c : C K mg) : Def P w K mg base (xx K mg) "_law_op_odd_yard" 2 5 m__law_op_odd_yard := by
  obtain ⟨fd, F⟩ := c.d.def_ 35
  exact def_ok F (c.glo 59) sc__law_op_odd_yard (fun _ _ _ _ _ _ us hl => match us, hl with | [_, _], _ => rfl) (fun cdv A outer s H E hr => ⟨_, db_cons (ds_asg (de_var 1) (dg_tup rfl rfl (dgs_cons (dg_name 2 sc__law_op_odd_yard.nd) (dgs_cons (dg_name 3 sc__law_op_odd_yard.nd) (dgs_nil)))))
  (db_cons (ds_set 4 sc__law_op_odd_yard.nd (de_loc (da_cons (de_non) (da_cons (de_tup (da_cons (de_var 2) (da_nil))) (da_cons (de_lst (da_cons (de_var 2) (da_cons (de_var 3) (da_nil)))) (da_cons (de_tup (da_cons (de_var 2) (da_cons (de_listD rfl (c.free 6) (da_cons (de_var 3) (da_nil))) (da_nil)))) (da_cons (de_tup (da_cons (de_non) (da_cons (de_lst (da_cons (de_tup (da_cons (de_int) (da_cons (de_int) (da_nil)))) (da_nil))) (da_nil)))) (da_cons (de_tup (da_cons (de_non) (da_cons (de_mul rfl (de_tup (da_cons (de_non) (da_nil))) (de_int)) (da_nil)))) (da_cons (de_int) (da_nil))))))))))
  (db_cons (ds_expr (de_extend rfl (de_var 4) (da_cons (de_lc (own := [("odd", 5)]) rfl sc__law_op_odd_yard.nd (di_seq rfl (de_lst (da_cons (de_tup (da_cons (de_int) (da_cons (de_int) (da_nil)))) (da_cons (de_tup (da_cons (de_int) (da_cons (de_int) (da_nil)))) (da_cons (de_int) (da_cons (de_non) (da_cons (de_tup (da_cons (de_int) (da_cons (de_int) (da_nil)))) (da_cons (de_tup (da_cons (de_add rfl (de_pow (de_int) (de_int)) (de_int)) (da_cons (de_int) (da_nil)))) (da_nil))))))))) (blkOk_by (by kernel_rfl)) (fun _ _ _ _ _ => dg_name 5 sc__law_op_odd_yard.nd) (gm_name) (fun _ _ _ _ _ => cTs (dts_nil)) (fun _ _ _ _ _ => cE (de_tup (da_cons (de_var 5) (da_cons (de_tup (da_cons (de_non) (da_nil))) (da_nil)))))) (da_nil))))
  (db_cons (ds_for (L2.passes_of rfl) rfl (di_seq rfl (de_lst (da_cons (de_tup (da_cons (de_int) (da_cons (de_int) (da_nil)))) (da_cons (de_tup (da_cons (de_int) (da_cons (de_int) (da_nil)))) (da_cons (de_tup (da_cons (de_int) (da_cons (de_int) (da_nil)))) (da_cons (de_int) (da_cons (de_non) (da_cons (de_tup (da_cons (de_neg (de_int)) (da_cons (de_int) (da_nil)))) (da_nil))))))))) (dg_name 5 sc__law_op_odd_yard.nd) (db_one (ds_expr (de_extend rfl (de_var 4) (da_cons (de_lst (da_cons (de_tup (da_cons (de_var 2) (da_cons (de_add rfl (de_add rfl (de_sl rfl (de_var 3) (dp_none) (dp_some (de_int))) (de_tup (da_cons (de_var 5) (da_nil)))) (de_sl rfl (de_var 3) (dp_some (de_int)) (dp_some (de_int)))) (da_nil)))) (da_cons (de_tup (da_cons (de_var 2) (da_cons (de_tup (da_cons (de_var 5) (da_cons (de_non) (da_nil)))) (da_nil)))) (da_nil)))) (da_nil))))))
  (db_cons (ds_expr (de_append rfl (de_var 4) (da_cons (de_tup (da_cons (de_tup (da_cons (de_int) (da_cons (de_int) (da_nil)))) (da_cons (de_tupleOf rfl (c.free 5) (da_cons (de_lc (own := [("at", 7)]) rfl sc__law_op_odd_yard.nd (di_rng2 (c.free 8) (da_cons (de_int) (da_cons (de_int) (da_nil)))) (blkOk_by (by kernel_rfl)) (fun _ _ _ _ _ => dg_name 7 sc__law_op_odd_yard.nd) (gm_name) (fun _ _ _ _ _ => cTs (dts_nil)) (fun _ _ _ _ _ => cE (de_tup (da_cons (de_var 7) (da_cons (de_int) (da_nil)))))) (da_nil))) (da_nil)))) (da_nil))))
  (db_cons (ds_set 6 sc__law_op_odd_yard.nd (de_call (D__law_one c) hr (by decide) takesF (da_cons (de_var 0) (da_cons (de_var 4) (da_nil)))))
  (db_one (ds_ret (de_tup (da_cons (de_var 6) (da_cons (de_call (D__law_op_yard_fault c) hr (by decide) takesF (da_cons (de_var 6) (da_nil))) (da_nil)))))))))))⟩)
/-! _law_n05_odd: 0 jar, 1 many, 2 every, 3 found -/
abbrev N__law_n05_odd : List Str := ["jar", "many", "every", "found"]
theorem sc__law_n05_odd : FnScope N__law_n05_odd ["jar", "many"] (defScope (top 57)) := ⟨rfl, rfl, rfl, by decide +kernel, rfl, by decide +kernel, by decide +kernel⟩
/-! _law_n05_odd: 0 jar, 1 many, 2 every, 3 found -/
def g__law_n05_odd : Vr → Store → O :=
  gSeq (gSet 2 (f1 (uTupRg zero) (fVar 1)))
  (gSeq (gSet 3 (fN mkLoc (fCons (fC (.d .none)) (fCons (fN mkLst (fNil)) (fCons (fN mkLst (fCons (fC (.d (.int 0))) (fNil))) (fCons (fC (.d (.str "lot"))) (fCons (fC (.d (.int 0))) (fCons (fN mkTup (fCons (fVar 1) (fNil))) (fCons (fN mkTup (fCons (f1 uNeg (fC (.d (.int 1)))) (fNil))) (fCons (fN mkTup (fCons (fC (.d (.bool true))) (fNil))) (fCons (fN mkTup (fCons (fC (.d (.int 0))) (fCons (fC (.d (.int 0))) (fNil)))) (fCons (fN mkTup (fCons (fC (.d (.int 1))) (fCons (fC (.d (.int 0))) (fNil)))) (fCons (fN mkTup (fCons (fC (.d .none)) (fNil))) (fCons (fN mkTup (fCons (fC (.d (.str "0"))) (fNil))) (fCons (fN mkTup (fCons (fN mkTup (fCons (fC (.d (.int 0))) (fNil))) (fNil))) (fNil))))))))))))))))
  (gSeq (gDrop (fML uExt (fVar 3) (fCons (fN mkLst (fCons (f1 uRev (fVar 2)) (fCons (f2 uAdd (fVar 2) (fN mkTup (fCons (fVar 1) (fNil)))) (fCons (f2 uAdd (fVar 2) (fSl (fVar 2) (fPart (f1 uNeg (fC (.d (.int 1))))) (fNoP))) (fCons (fIf (fTst (f2 uGt (fVar 1) (fC (.d (.int 0))))) (f2 uAdd (fSl (fVar 2) (fNoP) (fPart (f1 uNeg (fC (.d (.int 1)))))) (fN mkTup (fCons (fC (.d .none)) (fNil)))) (fN mkTup (fCons (fC (.d .none)) (fNil)))) (fNil)))))) (fNil))))
  (gSeq (gDrop (fML uApp (fVar 3) (fCons (f2 uAdd (fSl (fVar 2) (fNoP) (fPart (fC (.d (.int 1))))) (fN mkTup (fCons (fC (.d (.bool true))) (fCons (fC (.d (.bool false))) (fNil))))) (fNil))))
  (gRet (fCall m__law_one (fCons (fVar 0) (fCons (fVar 3) (fNil))))))))
def m__law_n05_odd : List U → Store → R U := runD 4 g__law_n05_odd
theorem D__law_n05_odd (c : C K mg) : Def P w K mg base (xx K mg) "_law_n05_odd" 2 3 m__law_n05_odd := by
  obtain ⟨fd, F⟩ := c.d.def_ 36
  exact def_ok F (c.glo 60) sc__law_n05_odd (fun _ _ _ _ _ _ us hl => match us, hl with | [_, _], _ => rfl) (fun cdv A outer s H E hr => ⟨_, db_cons (ds_set 2 sc__law_n05_odd.nd (de_tupRg1 rfl (c.free 5) (c.free 8) (de_var 1)))
  (db_cons (ds_set 3 sc__law_n05_odd.nd (de_loc (da_cons (de_non) (da_cons (de_lst (da_nil)) (da_cons (de_lst (da_cons (de_int) (da_nil))) (da_cons (de_str) (da_cons (de_int) (da_cons (de_tup (da_cons (de_var 1) (da_nil))) (da_cons (de_tup (da_cons (de_neg (de_int)) (da_nil))) (da_cons (de_tup (da_cons (de_bl) (da_nil))) (da_cons (de_tup (da_cons (de_int) (da_cons (de_int) (da_nil)))) (da_cons (de_tup (da_cons (de_int) (da_cons (de_int) (da_nil)))) (da_cons (de_tup (da_cons (de_non) (da_nil))) (da_cons (de_tup (da_cons (de_str) (da_nil))) (da_cons (de_tup (da_cons (de_tup (da_cons (de_int) (da_nil))) (da_nil))) (da_nil))))))))))))))))
  (db_cons (ds_expr (de_extend rfl (de_var 3) (da_cons (de_lst (da_cons (de_rev rfl (de_var 2)) (da_cons (de_add rfl (de_var 2) (de_tup (da_cons (de_var 1) (da_nil)))) (da_cons (de_add rfl (de_var 2) (de_sl rfl (de_var 2) (dp_some (de_neg (de_int))) (dp_none))) (da_cons (de_if (dt_cmp c_gt (de_var 1) (de_int)) (de_add rfl (de_sl rfl (de_var 2) (dp_none) (dp_some (de_neg (de_int)))) (de_tup (da_cons (de_non) (da_nil)))) (de_tup (da_cons (de_non) (da_nil)))) (da_nil)))))) (da_nil))))
  (db_cons (ds_expr (de_append rfl (de_var 3) (da_cons (de_add rfl (de_sl rfl (de_var 2) (dp_none) (dp_some (de_int))) (de_tup (da_cons (de_bl) (da_cons (de_bl) (da_nil))))) (da_nil))))
  (db_one (ds_ret (de_call (D__law_one c) hr (by decide) takesF (da_cons (de_var 0) (da_cons (de_var 3) (da_nil)))))))))⟩)
/-! _law_op_is_in: 0 thing, 1 low, 2 top -/
abbrev N__law_op_is_in : List Str := ["thing", "low", "top"]
theorem sc__law_op_is_in : FnScope N__law_op_is_in ["thing", "low", "top"] (defScope (top 39)) := ⟨rfl, rfl, rfl, by decide +kernel, rfl, by decide +kernel, by decide +kernel⟩
theorem D__law_op_is_in (c : C K mg) : Def P w K mg base (xx K mg) "_law_op_is_in" 3 2 m__law_op_is_in := by
  obtain ⟨fd, F⟩ := c.d.def_ 37
  exact def_ok F (c.glo 61) sc__law_op_is_in (fun _ _ _ _ _ _ us hl => match us, hl with | [_, _, _], _ => rfl) (fun cdv A outer s H E hr => ⟨_, db_one (ds_ret (de_and (de_call (D__law_op_is_whole c) hr (by decide) takesF (da_cons (de_var 0) (da_nil))) (de_one (de_chain c_le c_le (de_var 1) (de_var 0) (de_var 2)))))⟩)
/-! _law_op_lot_fault: 0 thing, 1 many, 2 at -/
abbrev N__law_op_lot_fault : List Str := ["thing", "many", "at"]
theorem sc__law_op_lot_fault : FnScope N__law_op_lot_fault ["thing", "many"] (defScope (top 50)) := ⟨rfl, rfl, rfl, by decide +kernel, rfl, by decide +kernel, by decide +kernel⟩
theorem D__law_op_lot_fault (c : C K mg) : Def P w K mg base (xx K mg) "_law_op_lot_fault" 2 3 m__law_op_lot_fault := by
  obtain ⟨fd, F⟩ := c.d.def_ 38
  exact def_ok F (c.glo 62) sc__law_op_lot_fault (fun _ _ _ _ _ _ us hl => match us, hl with | [_, _], _ => rfl) (fun cdv A outer s H E hr => ⟨_, db_cons (ds_if (dt_not (dt_val (de_isi rfl (c.free 1) (da_cons (de_var 0) (da_cons (de_ty (c.free 5)) (da_nil)))))) (db_one (ds_ret (de_neg (de_int)))) (db_nil))
  (db_cons (ds_for (L2.passes_of rfl) rfl (di_rng1 (c.free 8) (da_cons (de_len rfl (c.free 7) (da_cons (de_var 0) (da_nil))) (da_nil))) (dg_name 2 sc__law_op_lot_fault.nd) (db_one (ds_if (dt_not (dt_val (de_call (D__law_op_is_in c) hr (by decide) takesF (da_cons (de_ix rfl (de_var 0) (de_var 2)) (da_cons (de_if (dt_cmp c_gt (de_var 2) (de_int)) (de_add rfl (de_ix rfl (de_var 0) (de_sub (de_var 2) (de_int))) (de_int)) (de_int)) (da_cons (de_sub (de_var 1) (de_int)) (da_nil))))))) (db_one (ds_ret (de_var 2))) (db_nil))))
  (db_one (ds_ret (de_non))))⟩)
/-! _law_op_sum: 0 some, 1 made, 2 one -/
abbrev N__law_op_sum : List Str := ["some", "made", "one"]
theorem sc__law_op_sum : FnScope N__law_op_sum ["some"] (defScope (top 45)) := ⟨rfl, rfl, rfl, by decide +kernel, rfl, by decide +kernel, by decide +kernel⟩
theorem D__law_op_sum (c : C K mg) : Def P w K mg base (xx K mg) "_law_op_sum" 1 3 m__law_op_sum := by
  obtain ⟨fd, F⟩ := c.d.def_ 39
  exact def_ok F (c.glo 63) sc__law_op_sum (fun _ _ _ _ _ _ us hl => match us, hl with | [_], _ => rfl) (fun cdv A outer s H E hr => ⟨_, db_cons (ds_set 1 sc__law_op_sum.nd (de_tup (da_cons (de_int) (da_cons (de_int) (da_nil)))))
  (db_cons (ds_for (L2.passes_of rfl) rfl (di_seq rfl (de_var 0)) (dg_name 2 sc__law_op_sum.nd) (db_one (ds_set 1 sc__law_op_sum.nd (de_call (D__law_op_plus c) hr (by decide) takesF (da_cons (de_var 1) (da_cons (de_var 2) (da_nil)))))))
  (db_one (ds_ret (de_var 1))))⟩)
/-! _law_op_size_sum: 0 yard, 1 lot, 2 v -/
abbrev N__law_op_size_sum : List Str := ["yard", "lot", "v"]
theorem sc__law_op_size_sum : FnScope N__law_op_size_sum ["yard", "lot"] (defScope (top 49)) := ⟨rfl, rfl, rfl, by decide +kernel, rfl, by decide +kernel, by decide +kernel⟩
theorem D__law_op_size_sum (c : C K mg) : Def P w K mg base (xx K mg) "_law_op_size_sum" 2 4 m__law_op_size_sum := by
  obtain ⟨fd, F⟩ := c.d.def_ 40
  exact def_ok F (c.glo 64) sc__law_op_size_sum (fun _ _ _ _ _ _ us hl => match us, hl with | [_, _], _ => rfl) (fun cdv A outer s H E hr => ⟨_, db_one (ds_ret (de_call (D__law_op_sum c) hr (by decide) takesF (da_cons (de_lc (own := [("v", 2)]) rfl sc__law_op_size_sum.nd (di_seq rfl (de_var 1)) (blkOk_by (by kernel_rfl)) (fun _ _ _ _ _ => dg_name 2 sc__law_op_size_sum.nd) (gm_name) (fun _ _ _ _ _ => cTs (dts_nil)) (fun _ _ _ _ _ => cE (de_ix rfl (de_ix rfl (de_var 0) (de_int)) (de_var 2)))) (da_nil))))⟩)
/-! _law_n05_refused_right: 0 jar, 1 yard, 2 bad, 3 fault, 4 told_now, 5 owed, 6 go, 7 thing, 8 at -/
abbrev N__law_n05_refused_right : List Str := ["jar", "yard", "bad", "fault", "told_now", "owed", "go", "thing", "at"]
theorem sc__law_n05_refused_right : FnScope N__law_n05_refused_right ["jar", "yard"] (defScope (top 59)) := ⟨rfl, rfl, rfl, by decide +kernel, rfl, by decide +kernel, by decide +kernel⟩
/-! _law_n05_refused_right: 0 jar, 1 yard, 2 bad, 3 fault, 4 told_now, 5 owed, 6 go, 7 thing, 8 at -/
def b1__law_n05_refused_right : Vr → Store → O :=
  gSeq (gSet 7 (fCall m__law_n05_odd (fCons (fVar 0) (fCons (fN uLen (fCons (f2 uIx (fVar 1) (fC (.d (.int 1)))) (fNil))) (fNil)))))
  (gSeq (gSet 8 (fCall m__law_op_lot_fault (fCons (fVar 7) (fCons (fN uLen (fCons (f2 uIx (fVar 1) (fC (.d (.int 1)))) (fNil))) (fNil)))))
  (gSeq (gDrop (fML uApp (fVar 4) (fCons (fLam 5 gh__law_n05_heard (fCall m_made_lot (fCons (fVar 1) (fCons (fVar 7) (fNil))))) (fNil))))
  (gSeq (gDrop (fML uApp (fVar 5) (fCons (fIf (fTst (f1 uIsN1 (fVar 8))) (fN mkTup (fCons (fC (.d (.str "told"))) (fCons (fVar 7) (fNil)))) (fN mkTup (fCons (fC (.d (.str "BadLot"))) (fCons (fVar 8) (fNil))))) (fNil))))
  (gSeq (gDrop (fML uApp (fVar 4) (fCons (fLam 5 gh__law_n05_heard (fCall m_size_sum (fCons (fVar 1) (fCons (fVar 7) (fNil))))) (fNil))))
  (gSeq (gDrop (fML uApp (fVar 5) (fCons (fIf (fTst (f1 uIsN1 (fVar 8))) (fN mkTup (fCons (fC (.d (.str "told"))) (fCons (fCall m__law_op_size_sum (fCons (fVar 1) (fCons (fVar 7) (fNil)))) (fNil)))) (fN mkTup (fCons (fC (.d (.str "BadLot"))) (fCons (fVar 8) (fNil))))) (fNil))))
  (gSeq (gDrop (fML uApp (fVar 4) (fCons (fLam 5 gh__law_n05_heard (fCall m_made_lot (fCons (fVar 2) (fCons (fVar 7) (fNil))))) (fNil))))
  (gSeq (gDrop (fML uApp (fVar 4) (fCons (fLam 5 gh__law_n05_heard (fCall m_size_sum (fCons (fVar 2) (fCons (fVar 7) (fNil))))) (fNil))))
  (gDrop (fML uExt (fVar 5) (fCons (f2 uMul (fN mkLst (fCons (fVar 3) (fNil))) (fC (.d (.int 2)))) (fNil)))))))))))
def g__law_n05_refused_right : Vr → Store → O :=
  gSeq (gAsg (fCall m__law_op_odd_yard (fCons (fVar 0) (fCons (fVar 1) (fNil)))) (aTup 2 (aCons (aName 2) (aCons (aName 3) (aNil)))))
  (gSeq (gPar 4 5 (fCons (fN mkLoc (fNil)) (fCons (fN mkLoc (fNil)) (fNil))))
  (gSeq (gFor (sN sRng1 (fCons (fC (.d (.int 5))) (fNil))) (aName 6) (b1__law_n05_refused_right))
  (gRet (fCall m__law_op_same (fCons (fVar 4) (fCons (fVar 5) (fNil)))))))
def m__law_n05_refused_right : List U → Store → R U := runD 9 g__law_n05_refused_right
theorem D__law_n05_refused_right (c : C K mg) (hT : ∀ p ∈ tf, LamX.TabB base mg (He.cT K p).1 (He.cT K p).2) : Def P w K mg base (xx K mg) "_law_n05_refused_right" 2 10 m__law_n05_refused_right := by
  obtain ⟨fd, F⟩ := c.d.def_ 41
  exact def_okC F (c.glo 65) sc__law_n05_refused_right (fun _ _ _ _ _ _ us hl => match us, hl with | [_, _], _ => rfl) (fun cdv A outer s H E hcd hr => ⟨_, db_cons (ds_asg (de_call (D__law_op_odd_yard c) hr (by decide) takesF (da_cons (de_var 0) (da_cons (de_var 1) (da_nil)))) (dg_tup rfl rfl (dgs_cons (dg_name 2 sc__law_n05_refused_right.nd) (dgs_cons (dg_name 3 sc__law_n05_refused_right.nd) (dgs_nil)))))
  (db_cons (ds_par 4 5 rfl sc__law_n05_refused_right.nd (da_cons (de_loc (da_nil)) (da_cons (de_loc (da_nil)) (da_nil))))
  (db_cons (ds_for (L2.passes_of rfl) rfl (di_rng1 (c.free 8) (da_cons (de_int) (da_nil))) (dg_name 6 sc__law_n05_refused_right.nd) (db_cons (ds_set 7 sc__law_n05_refused_right.nd (de_call (D__law_n05_odd c) hr (by decide) takesF (da_cons (de_var 0) (da_cons (de_len rfl (c.free 7) (da_cons (de_ix rfl (de_var 1) (de_int)) (da_nil))) (da_nil)))))
  (db_cons (ds_set 8 sc__law_n05_refused_right.nd (de_call (D__law_op_lot_fault c) hr (by decide) takesF (da_cons (de_var 7) (da_cons (de_len rfl (c.free 7) (da_cons (de_ix rfl (de_var 1) (de_int)) (da_nil))) (da_nil)))))
  (db_cons (ds_expr (de_append rfl (de_var 4) (da_cons (de_lam (k := 6) rfl rfl (fun _ _ _ z => z) (H__law_n05_heard c) (hr.mono (by decide)) takesF (hT _ (by decide +kernel : (("_law_n05_refused_right", none) : He.Defn) ∈ tf)) hcd (tabs_mem (by decide +kernel : (("_law_n05_refused_right", none) : He.Defn) ∈ tf)) (tabs_u (c.tabs 3) (by decide +kernel : (("_law_n05_refused_right", none) : He.Defn) ∈ tf)) (LamX.lamS_by (by kernel_rfl)) (fun _ _ _ _ _ _ _ hr => cE (de_call (D_made_lot c) hr (by decide) takesL (da_cons (de_var 1) (da_cons (de_var 7) (da_nil)))))) (da_nil))))
  (db_cons (ds_expr (de_append rfl (de_var 5) (da_cons (de_if (dt_isN (de_var 8)) (de_tup (da_cons (de_str) (da_cons (de_var 7) (da_nil)))) (de_tup (da_cons (de_str) (da_cons (de_var 8) (da_nil))))) (da_nil))))
  (db_cons (ds_expr (de_append rfl (de_var 4) (da_cons (de_lam (k := 7) rfl rfl (fun _ _ _ z => z) (H__law_n05_heard c) (hr.mono (by decide)) takesF (hT _ (by decide +kernel : (("_law_n05_refused_right", none) : He.Defn) ∈ tf)) hcd (tabs_mem (by decide +kernel : (("_law_n05_refused_right", none) : He.Defn) ∈ tf)) (tabs_u (c.tabs 3) (by decide +kernel : (("_law_n05_refused_right", none) : He.Defn) ∈ tf)) (LamX.lamS_by (by kernel_rfl)) (fun _ _ _ _ _ _ _ hr => cE (de_call (D_size_sum c) hr (by decide) takesL (da_cons (de_var 1) (da_cons (de_var 7) (da_nil)))))) (da_nil))))
  (db_cons (ds_expr (de_append rfl (de_var 5) (da_cons (de_if (dt_isN (de_var 8)) (de_tup (da_cons (de_str) (da_cons (de_call (D__law_op_size_sum c) hr (by decide) takesF (da_cons (de_var 1) (da_cons (de_var 7) (da_nil)))) (da_nil)))) (de_tup (da_cons (de_str) (da_cons (de_var 8) (da_nil))))) (da_nil))))
  (db_cons (ds_expr (de_append rfl (de_var 4) (da_cons (de_lam (k := 6) rfl rfl (fun _ _ _ z => z) (H__law_n05_heard c) (hr.mono (by decide)) takesF (hT _ (by decide +kernel : (("_law_n05_refused_right", none) : He.Defn) ∈ tf)) hcd (tabs_mem (by decide +kernel : (("_law_n05_refused_right", none) : He.Defn) ∈ tf)) (tabs_u (c.tabs 3) (by decide +kernel : (("_law_n05_refused_right", none) : He.Defn) ∈ tf)) (LamX.lamS_by (by kernel_rfl)) (fun _ _ _ _ _ _ _ hr => cE (de_call (D_made_lot c) hr (by decide) takesL (da_cons (de_var 2) (da_cons (de_var 7) (da_nil)))))) (da_nil))))
  (db_cons (ds_expr (de_append rfl (de_var 4) (da_cons (de_lam (k := 7) rfl rfl (fun _ _ _ z => z) (H__law_n05_heard c) (hr.mono (by decide)) takesF (hT _ (by decide +kernel : (("_law_n05_refused_right", none) : He.Defn) ∈ tf)) hcd (tabs_mem (by decide +kernel : (("_law_n05_refused_right", none) : He.Defn) ∈ tf)) (tabs_u (c.tabs 3) (by decide +kernel : (("_law_n05_refused_right", none) : He.Defn) ∈ tf)) (LamX.lamS_by (by kernel_rfl)) (fun _ _ _ _ _ _ _ hr => cE (de_call (D_size_sum c) hr (by decide) takesL (da_cons (de_var 2) (da_cons (de_var 7) (da_nil)))))) (da_nil))))
  (db_one (ds_expr (de_extend rfl (de_var 5) (da_cons (de_mul rfl (de_lst (da_cons (de_var 3) (da_nil))) (de_int)) (da_nil))))))))))))))
  (db_one (ds_ret (de_call (D__law_op_same c) hr (by decide) takesF (da_cons (de_var 4) (da_cons (de_var 5) (da_nil))))))))⟩)
/-! _law_n05_whole: 0 jar, 1 go, 2 great, 3 barred, 4 told_now, 5 yard, 6 lot -/
abbrev N__law_n05_whole : List Str := ["jar", "go", "great", "barred", "told_now", "yard", "lot"]
theorem sc__law_n05_whole : FnScope N__law_n05_whole ["jar"] (defScope (top 60)) := ⟨rfl, rfl, rfl, by decide +kernel, rfl, by decide +kernel, by decide +kernel⟩
/-! _law_n05_whole: 0 jar, 1 go, 2 great, 3 barred, 4 told_now, 5 yard, 6 lot -/
def b1__law_n05_whole : Vr → Store → O :=
  gSeq (gSet 5 (fCall m__law_op_yard (fCons (fVar 0) (fCons (fC (.d (.int 6))) (fNil)))))
  (gIf (fOrT (fNotT (fTst (fCall m__law_n05_lots_right (fCons (fVar 0) (fCons (fVar 5) (fNil)))))) (fNotT (fTst (fCall m__law_n05_refused_right (fCons (fVar 0) (fCons (fVar 5) (fNil))))))) (gRet (fC (.d (.bool false)))) (gNx))
def e2__law_n05_whole : Vr → Store → R U :=
  fCall m_size_sum (fCons (fVar 3) (fCons (fVar 6) (fNil)))
def g__law_n05_whole : Vr → Store → O :=
  gSeq (gFor (sN sRng1 (fCons (fC (.d (.int 8))) (fNil))) (aName 1) (b1__law_n05_whole))
  (gSeq (gSet 2 (fN mkTup (fCons (fN mkTup (fCons (fC (.d (.int 1))) (fCons (fC (.d (.int 1))) (fNil)))) (fCons (f2 uAdd (f2 uMul (fN mkTup (fCons (fN mkTup (fCons (fC (.d (.int 1))) (fCons (fC (.d (.int 1000))) (fNil)))) (fNil))) (fC (.d (.int 20)))) (f2 uMul (fN mkTup (fCons (fN mkTup (fCons (f2 uPow (fC (.d (.int 10))) (fC (.d (.int 6)))) (fCons (fC (.d (.int 999))) (fNil)))) (fNil))) (fC (.d (.int 20))))) (fNil)))))
  (gSeq (gIf (fNotT (fTst (fCall m__law_n05_lots_right (fCons (fVar 0) (fCons (fVar 2) (fNil)))))) (gRet (fC (.d (.bool false)))) (gNx))
  (gSeq (gSet 3 (fN mkTup (fCons (fN mkTup (fCons (fC (.d (.int 1))) (fCons (fC (.d (.int 1))) (fNil)))) (fCons (fN mkTup (fCons (fN mkTup (fCons (fC (.d (.int 2))) (fCons (fC (.d (.int 1))) (fNil)))) (fCons (fN mkTup (fCons (fC (.d (.int 29))) (fCons (fC (.d (.int 10))) (fNil)))) (fCons (fN mkTup (fCons (fC (.d (.int 31))) (fCons (fC (.d (.int 10))) (fNil)))) (fNil))))) (fNil)))))
  (gSeq (gSet 4 (fN mkLst (fCons (fLam 5 gh__law_n05_heard (fLc (sSeq (fN mkLst (fCons (fN mkTup (fNil)) (fCons (fN mkTup (fCons (fC (.d (.int 0))) (fNil))) (fCons (fN mkTup (fCons (fC (.d (.int 0))) (fCons (fC (.d (.int 1))) (fNil)))) (fCons (fN mkTup (fCons (fC (.d (.int 0))) (fCons (fC (.d (.int 1))) (fCons (fC (.d (.int 2))) (fNil))))) (fNil))))))) (aName 6) (fYes) (e2__law_n05_whole) [6])) (fNil))))
  (gRet (fCall m__law_op_same (fCons (fVar 4) (fCons (fN mkLst (fCons (fN mkTup (fCons (fC (.d (.str "told"))) (fCons (fN mkLst (fCons (fN mkTup (fCons (fC (.d (.int 0))) (fCons (fC (.d (.int 1))) (fNil)))) (fCons (fN mkTup (fCons (fC (.d (.int 2))) (fCons (fC (.d (.int 1))) (fNil)))) (fCons (fN mkTup (fCons (fC (.d (.int 49))) (fCons (fC (.d (.int 10))) (fNil)))) (fCons (fN mkTup (fCons (fC (.d (.int 8))) (fCons (fC (.d (.int 1))) (fNil)))) (fNil)))))) (fNil)))) (fNil))) (fNil)))))))))
def m__law_n05_whole : List U → Store → R U := runD 7 g__law_n05_whole
theorem D__law_n05_whole (c : C K mg) (hT : ∀ p ∈ tf, LamX.TabB base mg (He.cT K p).1 (He.cT K p).2) : Def P w K mg base (xx K mg) "_law_n05_whole" 1 11 m__law_n05_whole := by
  obtain ⟨fd, F⟩ := c.d.def_ 42
  exact def_okC F (c.glo 66) sc__law_n05_whole (fun _ _ _ _ _ _ us hl => match us, hl with | [_], _ => rfl) (fun cdv A outer s H E hcd hr => ⟨_, db_cons (ds_for (L2.passes_of rfl) rfl (di_rng1 (c.free 8) (da_cons (de_int) (da_nil))) (dg_name 1 sc__law_n05_whole.nd) (db_cons (ds_set 5 sc__law_n05_whole.nd (de_call (D__law_op_yard c) hr (by decide) takesF (da_cons (de_var 0) (da_cons (de_int) (da_nil)))))
  (db_one (ds_if (dt_w (dw_or (dt_not (dt_val (de_call (D__law_n05_lots_right c hT) hr (by decide) takesF (da_cons (de_var 0) (da_cons (de_var 5) (da_nil)))))) (dw_or1 (dt_not (dt_val (de_call (D__law_n05_refused_right c hT) hr (by decide) takesF (da_cons (de_var 0) (da_cons (de_var 5) (da_nil))))))))) (db_one (ds_ret (de_bl))) (db_nil)))))
  (db_cons (ds_set 2 sc__law_n05_whole.nd (de_tup (da_cons (de_tup (da_cons (de_int) (da_cons (de_int) (da_nil)))) (da_cons (de_add rfl (de_mul rfl (de_tup (da_cons (de_tup (da_cons (de_int) (da_cons (de_int) (da_nil)))) (da_nil))) (de_int)) (de_mul rfl (de_tup (da_cons (de_tup (da_cons (de_pow (de_int) (de_int)) (da_cons (de_int) (da_nil)))) (da_nil))) (de_int))) (da_nil)))))
  (db_cons (ds_if (dt_not (dt_val (de_call (D__law_n05_lots_right c hT) hr (by decide) takesF (da_cons (de_var 0) (da_cons (de_var 2) (da_nil)))))) (db_one (ds_ret (de_bl))) (db_nil))
  (db_cons (ds_set 3 sc__law_n05_whole.nd (de_tup (da_cons (de_tup (da_cons (de_int) (da_cons (de_int) (da_nil)))) (da_cons (de_tup (da_cons (de_tup (da_cons (de_int) (da_cons (de_int) (da_nil)))) (da_cons (de_tup (da_cons (de_int) (da_cons (de_int) (da_nil)))) (da_cons (de_tup (da_cons (de_int) (da_cons (de_int) (da_nil)))) (da_nil))))) (da_nil)))))
  (db_cons (ds_set 4 sc__law_n05_whole.nd (de_lst (da_cons (de_lam (k := 7) rfl rfl (fun _ _ _ z => z) (H__law_n05_heard c) (hr.mono (by decide)) takesF (hT _ (by decide +kernel : (("_law_n05_whole", none) : He.Defn) ∈ tf)) hcd (tabs_mem (by decide +kernel : (("_law_n05_whole", none) : He.Defn) ∈ tf)) (tabs_u (c.tabs 3) (by decide +kernel : (("_law_n05_whole", none) : He.Defn) ∈ tf)) (LamX.lamS_by (by kernel_rfl)) (fun _ _ _ _ _ _ _ hr => cE (de_lc (own := [("lot", 6)]) rfl sc__law_n05_whole.nd (di_seq rfl (de_lst (da_cons (de_tup (da_nil)) (da_cons (de_tup (da_cons (de_int) (da_nil))) (da_cons (de_tup (da_cons (de_int) (da_cons (de_int) (da_nil)))) (da_cons (de_tup (da_cons (de_int) (da_cons (de_int) (da_cons (de_int) (da_nil))))) (da_nil))))))) (blkOk_by (by kernel_rfl)) (fun _ _ _ _ _ => dg_name 6 sc__law_n05_whole.nd) (gm_name) (fun _ _ _ _ _ => cTs (dts_nil)) (fun _ _ _ _ _ => cE (de_call (D_size_sum c) hr (by decide) takes0N (da_cons (de_var 3) (da_cons (de_var 6) (da_nil)))))))) (da_nil))))
  (db_one (ds_ret (de_call (D__law_op_same c) hr (by decide) takesF (da_cons (de_var 4) (da_cons (de_lst (da_cons (de_tup (da_cons (de_str) (da_cons (de_lst (da_cons (de_tup (da_cons (de_int) (da_cons (de_int) (da_nil)))) (da_cons (de_tup (da_cons (de_int) (da_cons (de_int) (da_nil)))) (da_cons (de_tup (da_cons (de_int) (da_cons (de_int) (da_nil)))) (da_cons (de_tup (da_cons (de_int) (da_cons (de_int) (da_nil)))) (da_nil)))))) (da_nil)))) (da_nil))) (da_nil))))))))))⟩)
/-! _law_pool: 0 script, 1 digits, 2 stirred, 3 at, 4 cell -/
abbrev N__law_pool : List Str := ["script", "digits", "stirred", "at", "cell"]
theorem sc__law_pool : FnScope N__law_pool ["script"] (defScope (top 33)) := ⟨rfl, rfl, rfl, by decide +kernel, rfl, by decide +kernel, by decide +kernel⟩
theorem D__law_pool (c : C K mg) : Def P w K mg base (xx K mg) "_law_pool" 1 1 m__law_pool := by
  obtain ⟨fd, F⟩ := c.d.def_ 43
  exact def_ok F (c.glo 67) sc__law_pool (fun _ _ _ _ _ _ us hl => match us, hl with | [_], _ => rfl) (fun cdv A outer s H E hr => ⟨_, db_cons (ds_asg (de_tup (da_cons (de_int) (da_cons (de_int) (da_nil)))) (dg_tup rfl rfl (dgs_cons (dg_name 1 sc__law_pool.nd) (dgs_cons (dg_name 2 sc__law_pool.nd) (dgs_nil)))))
  (db_cons (ds_for (L2.passes_of rfl) rfl (di_rng1 (c.free 8) (da_cons (de_len rfl (c.free 7) (da_cons (de_var 0) (da_nil))) (da_nil))) (dg_name 3 sc__law_pool.nd) (db_cons (ds_set 4 sc__law_pool.nd (de_intc (c.free 0) (da_cons (de_max2 rfl (c.free 13) (da_cons (de_ix rfl (de_var 0) (de_var 3)) (da_cons (de_sub (de_neg (de_int)) (de_ix rfl (de_var 0) (de_var 3))) (da_nil)))) (da_nil))))
  (db_cons (ds_set 2 sc__law_pool.nd (de_mod (de_intc (c.free 0) (da_cons (de_add rfl (de_add rfl (de_mul rfl (de_var 2) (de_int)) (de_mod (de_var 4) (de_int))) (de_int)) (da_nil))) (de_int)))
  (db_one (ds_set 1 sc__law_pool.nd (de_if (dt_w (dw_and (dt_cmp c_ge (de_var 4) (de_pow (de_int) (de_int))) (dw_and1 (dt_cmp c_lt (de_var 1) (de_pow (de_int) (de_int)))))) (de_intc (c.free 0) (da_cons (de_add rfl (de_mul rfl (de_var 1) (de_pow (de_int) (de_int))) (de_mod (de_var 4) (de_pow (de_int) (de_int)))) (da_nil))) (de_var 1)))))))
  (db_one (ds_ret (de_loc (da_cons (de_var 1) (da_cons (de_var 2) (da_cons (de_int) (da_nil))))))))⟩)
/-! law: 0 script -/
abbrev N_law : List Str := ["script"]
theorem sc_law : FnScope N_law ["script"] (defScope (top 61)) := ⟨rfl, rfl, rfl, by decide +kernel, rfl, by decide +kernel, by decide +kernel⟩
/-! law: 0 script -/
def g_law : Vr → Store → O :=
  gTry0 (gRet (fCall m__law_n05_whole (fCons (fCall m__law_pool (fCons (fVar 0) (fNil))) (fNil))))
def m_law : List U → Store → R U := runD 1 g_law
theorem F_law (c : C K mg) (hT : ∀ p ∈ tf, LamX.TabB base mg (He.cT K p).1 (He.cT K p).2) {a : Addr} {fd : FuncData} (F : FunD K "law" "law" (defArgs (top 61)) (defBody (top 61)) (defScope (top 61)) [] [] a fd) : FnOk P w K mg base (L2N.CX P w) 12 a fd ["script"] (spOf (xx K mg) 1 m_law) :=
  def_fn F sc_law (fun cdv A outer s H E hr => ⟨_, db_one (ds_try0 rfl rfl ⟨rfl, by decide, .inl (c.glo 25)⟩ (fun _ _ ho => cB (db_one (ds_ret (de_call (D__law_n05_whole c hT) hr (by decide) takes0N (da_cons (de_call (D__law_pool c) hr (by decide) takes0N (da_cons (de_var 0) (da_nil))) (da_nil)))))) (fun _ _ _ => pss_one (ps_ret pe_bl)))⟩)
end
def loose0 : List Str := ["gcd", "__name__", "Refused", "BadYard", "BadLot", "TooMany", "whole", "PAIR", "MOST_SIZE", "MOST_BOTTOM", "NOTHING", "fr", "fadd", "fless", "fsum", "is_number", "is_fraction", "is_size", "MOST_YARD", "MOST_KINDS", "NO_RATE", "class_rows", "kinds_in", "yard_fault", "made_yard", "lot_fault", "made_lot", "size_of", "size_sum", "_law_pool"]
def loose1 : List Str := ["_law_take", "_law_one", "_law_mixed", "_law_some", "_law_op_is_whole", "_law_op_is_in", "_law_op_same", "_law_op_frac", "_law_op_plus", "_law_op_minus", "_law_op_times", "_law_op_sum", "_law_op_is_fraction", "_law_op_is_size", "_law_op_lots", "_law_op_size_sum", "_law_op_lot_fault", "_law_op_kinds", "_law_op_yard_fault", "_law_op_corner", "_law_op_yard", "_law_op_odd_yard", "_law_n05_heard", "_law_n05_odd", "_law_n05_lots_right", "_law_n05_refused_right", "_law_n05_whole"]
def loose : List Str := loose0 ++ loose1
abbrev Rw : PySem.W.OpenRow := PySem.W.OpenLaw.row PySem.Challenge.rw_oneemptied_k05_lots_and_their_sizes
def exB (K : PySem.W.Frag) : Bool := xf.all fun f => f.ok K
abbrev hk : PySem.W.Hook := He.hookX 5 fa fn [] tf exB
def ob (s : PySem.W.SharedT) : He.AlX := He.obsX 5 fa fn [] tf exB (HandSHeadRun.getT s)
theorem ob_eq (s : PySem.W.SharedT) : ob s = hk.obs s.abs := He.obsX_eq (HandSHeadRun.getT_eq s)
theorem runs (w : World) : HandSHeadRun.RunEqI Rw (PySem.W.view Rw.prog [0, 61]) hk ob 6000 loose w := by
  unfold HandSHeadRun.RunEqI
  kernel_rfl
theorem at_law {w : World} {K : PySem.W.Frag} {h : Heap} {mg : Str → Option Value} {f : Addr} (X : K.In h) (G : h.Ns mainGlobals mg) (hf : mg ("law" : Str) = some (.ref f)) (c : He.SaysX fa fn [] tf exB w h K)
    (hm : ∀ ns : List Int, ns.length ≤ 63 → (∀ z ∈ ns, Builtin.Int.intBits z ≤ 1048576) → ∃ S', m_law [.rd (ns.map PyData.int)] [] = .ok (.d (.bool true)) S') :
    LamX.LawAtS PySem.Challenge.rw_oneemptied_k05_lots_and_their_sizes w K (L2N.CX (PySem.Challenge.rw_oneemptied_k05_lots_and_their_sizes).prog w) 12 63 "script" mg f h := by
  have k : C K mg := ⟨⟨h, X, G⟩, c.t.d, c.more⟩
  have e := hf.symm.trans (k.glo 69)
  cases e
  obtain ⟨fd, F⟩ := k.d.def_ 44
  have hb := FunD.bindsA (ps := ["script"]) F fun _ _ _ _ _ _ us hl => match us, hl with | [_], _ => rfl
  exact law_at X c (fun s v => hb s [v] rfl) hm fun base hT => F_law k hT F
end
end K05
section
open PySem PySem.W PySem.Calls PyProof.Rows
theorem K05.holds (hm : ∀ ns : List Int, ns.length ≤ 63 → (∀ z ∈ ns, Builtin.Int.intBits z ≤ 1048576) → ∃ S', K05.m_law [.rd (ns.map PyData.int)] [] = .ok (.d (.bool true)) S') : PySem.Challenge.rw_oneemptied_k05_lots_and_their_sizes.Holds := by
  w_on; o_law
  refine HandSHeadRun.head_imp (r := OpenLaw.row PySem.Challenge.rw_oneemptied_k05_lots_and_their_sizes) (q := view (OpenLaw.row PySem.Challenge.rw_oneemptied_k05_lots_and_their_sizes).prog [0, 61]) (H := K05.hk) (ob := K05.ob) (M := 6000) (loose := K05.loose) (d := HandSHeadRun.topDef (OpenLaw.row PySem.Challenge.rw_oneemptied_k05_lots_and_their_sizes).prog 61) (kwd := []) K05.ob_eq
    K05.runs (by kernel_rfl) (by kernel_rfl) (by kernel_rfl) (by rfl) (by first | assumption | decide +kernel) (by decide +kernel) ⟨rfl, rfl, rfl, rfl, rfl, by decide +kernel⟩ ?hw ?hc
  case hw => w_witness2
  case hc =>
    refine LamX.walk_ofTsE (l := PySem.Challenge.rw_oneemptied_k05_lots_and_their_sizes) (n := 63) (k := 12) (x := "script") (CX := fun w => L2N.CX (PySem.Challenge.rw_oneemptied_k05_lots_and_their_sizes).prog w) rfl (by decide) (by kernel_rfl) ⟨rfl, by decide, by decide⟩ ?F (fun w H s e s' z => Z.cx_never _ _ _ _ _ _ z)
    intro w mg fa h Y G hmg0
    obtain ⟨K, KX, c⟩ := Y
    have hmg : mg ("law" : PySem.Str) = some (.ref fa) := by
      have e : (HandSHeadRun.topDef (OpenLaw.row PySem.Challenge.rw_oneemptied_k05_lots_and_their_sizes).prog 61).name = ("law" : PySem.Str) := by kernel_rfl
      rw [← e]
      exact hmg0
    exact ⟨K, KX, K05.at_law KX G hmg c hm⟩
end


namespace K05
open PySem Z M
section
variable {S : Store} {th : Store → R U} {y : D} {c : Str}
theorem heard_ok (e : th S = .ok (.d y) S) : runD 5 (gh__law_n05_heard th) [.thk] S = .ok (.d (.tuple [.str "told", y])) S := by
  have h : fThk 0 th [some .thk, none, none, none, none] S = .ok (.d y) S := by
    unfold fThk thkR
    rw [e]
    rfl
  simp [gh__law_n05_heard, gTry, h]
theorem heard_BadLot (e : th S = .exc "BadLot" y S) : runD 5 (gh__law_n05_heard th) [.thk] S = .ok (.d (.tuple [.str "BadLot", y])) S := by
  have h : fThk 0 th [some .thk, none, none, none, none] S = .exc "BadLot" y S := by
    unfold fThk thkR
    rw [e]
    rfl
  have m0 : (("BadLot" : Str) ∈ excs) = True := by simp [excs]
  have m1 : (("BadYard" : Str) ∈ excs) = True := by simp [excs]
  have n1 : (("BadLot" : Str) == ("BadYard" : Str)) = false := by decide
  have m2 : (("TooMany" : Str) ∈ excs) = True := by simp [excs]
  have n2 : (("BadLot" : Str) == ("TooMany" : Str)) = false := by decide
  have hj : ∀ S : Store, uJoin (.d (.str " ")) [.d (.list [.str "BadLot"])] S = .ok (.d (.str "BadLot")) S := fun S => rfl
  simp [gh__law_n05_heard, gTry, h, m0, m1, n1, m2, n2, uIsE, fML, fMS, isS, isL, viewL, uApp, uExt, viewM, f1, uWhat]
  simp [fLc, lcRun, lcLoop, sLst, lstD, seqD, frz, wipeU, R.bnd0, at_end, hj]
  rw [List.take_take]
  simp
theorem heard_BadYard (e : th S = .exc "BadYard" y S) : runD 5 (gh__law_n05_heard th) [.thk] S = .ok (.d (.tuple [.str "BadYard", y])) S := by
  have h : fThk 0 th [some .thk, none, none, none, none] S = .exc "BadYard" y S := by
    unfold fThk thkR
    rw [e]
    rfl
  have m0 : (("BadLot" : Str) ∈ excs) = True := by simp [excs]
  have n0 : (("BadYard" : Str) == ("BadLot" : Str)) = false := by decide
  have m1 : (("BadYard" : Str) ∈ excs) = True := by simp [excs]
  have m2 : (("TooMany" : Str) ∈ excs) = True := by simp [excs]
  have n2 : (("BadYard" : Str) == ("TooMany" : Str)) = false := by decide
  have hj : ∀ S : Store, uJoin (.d (.str " ")) [.d (.list [.str "BadYard"])] S = .ok (.d (.str "BadYard")) S := fun S => rfl
  simp [gh__law_n05_heard, gTry, h, m0, n0, m1, m2, n2, uIsE, fML, fMS, isS, isL, viewL, uApp, uExt, viewM, f1, uWhat]
  simp [fLc, lcRun, lcLoop, sLst, lstD, seqD, frz, wipeU, R.bnd0, at_end, hj]
  rw [List.take_take]
  simp
theorem heard_TooMany (e : th S = .exc "TooMany" y S) : runD 5 (gh__law_n05_heard th) [.thk] S = .ok (.d (.tuple [.str "TooMany", y])) S := by
  have h : fThk 0 th [some .thk, none, none, none, none] S = .exc "TooMany" y S := by
    unfold fThk thkR
    rw [e]
    rfl
  have m0 : (("BadLot" : Str) ∈ excs) = True := by simp [excs]
  have n0 : (("TooMany" : Str) == ("BadLot" : Str)) = false := by decide
  have m1 : (("BadYard" : Str) ∈ excs) = True := by simp [excs]
  have n1 : (("TooMany" : Str) == ("BadYard" : Str)) = false := by decide
  have m2 : (("TooMany" : Str) ∈ excs) = True := by simp [excs]
  have hj : ∀ S : Store, uJoin (.d (.str " ")) [.d (.list [.str "TooMany"])] S = .ok (.d (.str "TooMany")) S := fun S => rfl
  simp [gh__law_n05_heard, gTry, h, m0, n0, m1, n1, m2, uIsE, fML, fMS, isS, isL, viewL, uApp, uExt, viewM, f1, uWhat]
  simp [fLc, lcRun, lcLoop, sLst, lstD, seqD, frz, wipeU, R.bnd0, at_end, hj]
  rw [List.take_take]
  simp
@[simp] theorem okE_d {y : D} : okE (some (.d y)) = true := rfl
@[simp] theorem okE_l {l : Nat} : okE (some (.loc l)) = true := rfl
@[simp] theorem okE_n : okE none = true := rfl
theorem lam_ok {fb : Vr → Store → R U} {ρ : Vr} (h : ρ.all okE = true) (e : fb ρ S = .ok (.d y) S) : fLam 5 gh__law_n05_heard fb ρ S = .ok (.d (.tuple [.str "told", y])) S := by
  unfold fLam
  rw [if_pos h]
  exact heard_ok e
theorem lam_BadLot {fb : Vr → Store → R U} {ρ : Vr} (h : ρ.all okE = true) (e : fb ρ S = .exc "BadLot" y S) : fLam 5 gh__law_n05_heard fb ρ S = .ok (.d (.tuple [.str "BadLot", y])) S := by
  unfold fLam
  rw [if_pos h]
  exact heard_BadLot e
theorem lam_BadYard {fb : Vr → Store → R U} {ρ : Vr} (h : ρ.all okE = true) (e : fb ρ S = .exc "BadYard" y S) : fLam 5 gh__law_n05_heard fb ρ S = .ok (.d (.tuple [.str "BadYard", y])) S := by
  unfold fLam
  rw [if_pos h]
  exact heard_BadYard e
theorem lam_TooMany {fb : Vr → Store → R U} {ρ : Vr} (h : ρ.all okE = true) (e : fb ρ S = .exc "TooMany" y S) : fLam 5 gh__law_n05_heard fb ρ S = .ok (.d (.tuple [.str "TooMany", y])) S := by
  unfold fLam
  rw [if_pos h]
  exact heard_TooMany e
/-! ### one yard's lots -/
def Y5 (u : U) : Prop := ∃ (r : Rat) (qs : List Rat), u = .d (.tuple [pq r, .tuple (qs.map pq)]) ∧ Rt r ∧ (∀ q ∈ qs, Rt q) ∧ qs.length ≤ 40 ∧ kindsQ qs ≤ 600
theorem add_l {xs ys : List D} (h : xs.length + ys.length ≤ 1000000) : uAdd (.d (.list xs)) (.d (.list ys)) S = .ok (.d (.list (xs ++ ys))) S := by
  show (if xs.length + ys.length ≤ 1000000 then _ else _) = _
  rw [if_pos h]
theorem s_lminus {a b : Rat} {m n : Nat} (ha : Bd m a) (hb : Bd n b) (h : m + n < 8000) : m__law_op_minus [.d (pq a), .d (pq b)] S = .ok (.d (pq (a - b))) S := by
  have e : a - b = Rat.divInt (a.num * b.den - b.num * a.den) (a.den * b.den) := by
    have := Rat.divInt_sub_divInt a.num b.num (d₁ := a.den) (d₂ := b.den) (by have := a.den_pos; omega) (by have := b.den_pos; omega)
    rw [Rat.num_divInt_den, Rat.num_divInt_den] at this
    exact this
  have k1 := a.den_pos
  have k2 := b.den_pos
  have k3 : (0 : Int) < a.den * b.den := Int.mul_pos (by omega) (by omega)
  have h3 : ((a.den : Int) * b.den).natAbs < 2 ^ (m + n) := by
    rw [Int.natAbs_mul, Int.natAbs_natCast, Int.natAbs_natCast]
    exact mul_lt ha.den hb.den
  have f := s_frac (S := S) (N := a.num * b.den - b.num * a.den) k3 h3 (by omega)
  rw [e, ← f]
  have m1 := mul_ij (S := S) (i := a.num) (j := b.den) ha.num hb.den (by omega)
  have m2 := mul_ij (S := S) (i := b.num) (j := a.den) hb.num ha.den (by omega)
  have m3 := mul_ij (S := S) (i := a.den) (j := b.den) ha.den hb.den (by omega)
  simp [m__law_op_minus, g__law_op_minus, pq, ix_p0, ix_p1, m1, m2, m3, f]
/-- the lots that are asked -/
theorem lots_now {l n many : Nat} {r1 : Option U} {S : Store} (hj : Jar S l n) (hm : many ≤ 40) (hn : n + 1000 < 1000000) :
    wp (fIf (fTst (f2 uLt (fVar 2) (fC (.d (.int 7))))) (fCall m__law_op_lots (fCons (fVar 2) (fNil))) (fLc (sN sRng1 (fCons (fC (.d (.int 9))) (fNil))) (aName 12) (fYes) (e1__law_n05_lots_right) [12]) [some (.loc l), r1, some (.d (.int (many : Int))), none, none, none, none, none, none, none, none, none, none] S) fun u S' => ∃ L : List (List Nat), u = .d (.list (L.map lotD)) ∧ L.length ≤ 64 ∧ (∀ is ∈ L, Lot many is) ∧ Jar S' l (n + 360) ∧ Kp l S S' := by
  by_cases h7 : many < 7
  · obtain ⟨L, e, h1, h2⟩ := s_lots (S := S) (many := many) (by omega)
    have hd : decide ((many : Int) < 7) = true := decide_eq_true (by omega)
    simp only [fIf, fTst, f2, fC, fCall, fN, fCons, fNil, e_varS, e_var0, bind_ok, lt_i, hd, tru_b, if_true, e, wp_ok]
    exact ⟨L, rfl, h1, h2, hj.mono (by omega), Kp.refl⟩
  · have hd : decide ((many : Int) < 7) = false := decide_eq_false (by omega)
    simp only [fIf, fTst, f2, fC, e_varS, e_var0, bind_ok, lt_i, hd, tru_b, Bool.false_eq_true, if_false]
    have er : sRng1 [.d (.int 9)] S = .ok (rngD 0 9) S := rfl
    refine wp_lcRun (fun ds S1 i acc S' => ∃ (T' : Store) (L : List (List Nat)), S' = T' ++ [some acc] ∧ Kp l S T' ∧ Jar T' l (n + 40 * i) ∧ acc = L.map lotD ∧ L.length = i ∧ ∀ is ∈ L, Lot many is) ?_
    refine wp_of (a := rngD 0 9) (S := S) rfl ⟨by decide, ⟨S, [], rfl, Kp.refl, hj, rfl, rfl, fun y h => (by cases h)⟩, fun i d acc S' hd ha ⟨T', L, hS, h1, h2, hq, h3, h4⟩ => ?_, fun acc S2 ha ⟨T', L, hS, h1, h2, hq, h3, h4⟩ => ?_⟩
    · subst hS hq
      obtain ⟨hi, rfl⟩ := rngD_get _ _ _ _ hd
      refine ⟨_, rfl, ?_⟩
      simp only [fYes, wp_ok, if_true, e1__law_n05_lots_right, wipeU, List.set_cons_succ, List.set_cons_zero, fCall, fN, fCons, fNil, fC, f1, e_varS, e_var0, bind_ok, lstRg_ok (show many ≤ 1000 by omega)]
      refine wp_mono ((s_some hm (by omega)).at h2 [some (L.map lotD)]) fun u S5 ⟨T5, hS, ⟨is, hu, hl⟩, j5, k5⟩ => ?_
      subst hS hu
      have tl : T5.length = S.length := (h1.trans k5).len
      refine ⟨_, _, rfl, ?_, T5, L ++ [is], ?_, h1.trans k5, by rw [show n + 40 * (i + 1) = n + 40 * i + 40 by omega]; exact j5, by rw [List.map_append]; rfl, by simp [h3], fun z hz => ?_⟩
      · rw [← tl]; exact at_end
      · rw [← tl]; exact set_end
      · rcases List.mem_append.mp hz with h | h
        · exact h4 z h
        · rw [List.mem_singleton.mp h]; exact hl
    · subst hS hq
      rw [rngD_len] at h3 h2
      simp only [wp_ok]
      refine ⟨L, rfl, by omega, h4, ?_, ?_⟩
      · rw [← h1.len, List.take_left]
        exact h2.mono (by omega)
      · rw [← h1.len, List.take_left]
        exact h1
/-- all other bins -/
def restL (many : Nat) (is : List Nat) : List Nat := (List.range many).filter fun i => !(is.contains i)
theorem rest_lot {many : Nat} (is : List Nat) : Lot many (restL many is) := ⟨(lot_range many).1.filter _, fun i hi => List.mem_range.mp (List.mem_filter.mp hi).1⟩
theorem rest_perm {many : Nat} {is : List Nat} (h : Lot many is) : (is ++ restL many is).Perm (List.range many) := by
  have nd : is.Nodup := h.1.imp fun h => Nat.ne_of_lt h
  have p1 : is.Perm ((List.range many).filter fun i => is.contains i) := (List.perm_ext_iff_of_nodup nd (List.nodup_range.filter _)).mpr fun i => by
    rw [List.mem_filter, List.mem_range, List.contains_iff_mem]
    exact ⟨fun hi => ⟨h.2 i hi, hi⟩, fun hi => hi.2⟩
  exact (p1.append_right _).trans (List.filter_append_perm _ _)
theorem rest_sum {qs : List Rat} {is : List Nat} (h : Lot qs.length is) : sumQ (lotQ qs (restL qs.length is)) = sumQ (lotQ qs (List.range qs.length)) - sumQ (lotQ qs is) := by
  have e : sumQ (lotQ qs (List.range qs.length)) = sumQ (lotQ qs is) + sumQ (lotQ qs (restL qs.length is)) := by
    rw [← sumQ_app]
    unfold lotQ
    rw [← List.map_append]
    exact (sumQ_perm ((rest_perm h).map _)).symm
  rw [e]
  generalize sumQ (lotQ qs is) = a
  generalize sumQ (lotQ qs (restL qs.length is)) = b
  grind
theorem atI_last {xs : List D} {z : D} : L2.atI (xs ++ [z]) (-1) = some z := by
  unfold L2.atI L2.ixN
  rw [if_neg (by decide)]
  simp only [List.length_append, List.length_singleton]
  rw [if_pos (by omega)]
  have e : (-1 + ((xs.length + 1 : Nat) : Int)).toNat = xs.length := by omega
  simp only [Option.bind_some, Option.bind]
  rw [show (((-1 : Int)) + ((xs.length + 1 : Nat) : Int)).toNat = xs.length by omega]
  simp
abbrev sumD (qs : List Rat) (is : List Nat) : D := pq (sumQ (lotQ qs is))
/-- what the law owes for one lot -/
theorem owed_one {r : D} {qs : List Rat} {is : List Nat} {l t many : Nat} {r2 r3 r6 r7 r8 r9 r10 r11 r12 : Option U} {sums : List D} (hq : ∀ q ∈ qs, Rt q) (hl : qs.length ≤ 40) (h : Lot qs.length is) (ht : S[t]? = some (some sums)) (hs : sums.length < 1000) {K : Po}
    (k : ∀ r9 r10, okE r9 = true → okE r10 = true → K.nx [some (.loc l), some (.d (.tuple [r, .tuple (qs.map pq)])), r2, r3, some (.loc t), some (.d (lotD is)), r6, r7, r8, r9, r10, r11, r12] (S.set t (some (sums ++ [sumD qs is])))) (o10 : okE r10 = true) :
    wo (b3__law_n05_lots_right [some (.loc l), some (.d (.tuple [r, .tuple (qs.map pq)])), r2, r3, some (.loc t), some (.d (lotD is)), r6, r7, r8, r9, r10, r11, r12] S) K := by
  have hll := h.len
  unfold b3__law_n05_lots_right
  refine w_set (S1 := S) (u := .d (pq 0)) (by rw [pq_0]; rfl) ?_
  simp only [List.set_cons_succ, List.set_cons_zero]
  refine w_for ?_
  have hb := lotQ_bd hq h.2
  have hbr : ∀ q ∈ (lotQ qs is).reverse, Bd 21 q := fun q hm => hb q (List.mem_reverse.mp hm)
  have lq : (lotQ qs is).length = is.length := by unfold lotQ; rw [List.length_map]
  refine wo_for (fun ds i ρ T => T = S ∧ ∃ r10 : Option U, okE r10 = true ∧ ρ = [some (.loc l), some (.d (.tuple [r, .tuple (qs.map pq)])), r2, r3, some (.loc t), some (.d (lotD is)), r6, r7, r8, some (.d (pq (sumQ ((lotQ qs is).reverse.take i)))), r10, r11, r12])
    (wp_of (a := (is.map fun i : Nat => PyData.int (i : Int)).reverse) (S := S) (by simp only [sSeq, f1, e_varS, e_var0, bind_ok, uRev, lotD, seqD]) ⟨⟨rfl, r10, o10, rfl⟩, fun i d ρ T hd ⟨hT, r10, o10, hρ⟩ => ?_, fun ρ T ⟨hT, r10, o10, hρ⟩ => ?_⟩)
  · subst hT hρ
    rw [← List.map_reverse, List.getElem?_map] at hd
    obtain ⟨v, hv, rfl⟩ := Option.map_eq_some_iff.mp hd
    have hvm : v ∈ is := List.mem_reverse.mp (List.mem_of_getElem? hv)
    have hvl := h.2 v hvm
    have hi := (List.getElem?_eq_some_iff.mp hv).1
    rw [List.length_reverse] at hi
    refine ⟨_, rfl, ?_⟩
    have hx : (lotQ qs is).reverse[i]? = some (atQ qs v) := by
      unfold lotQ
      rw [← List.map_reverse, List.getElem?_map, hv]
      rfl
    have bt := sumQ_bd (xs := (lotQ qs is).reverse.take i) fun x hx => hbr x (List.mem_of_mem_take hx)
    have e := s_plus (S := T) (hbr _ (List.mem_of_getElem? hx)) bt (by rw [List.length_take]; omega)
    simp only [b2__law_n05_lots_right, gSet, fCall, f2, fC, fN, fCons, fNil, List.set_cons_succ, List.set_cons_zero, e_varS, e_var0, bind_ok, ix1, ix_atQ hvl, e, st_ok, wo_nx]
    refine ⟨trivial, some (.d (.int (v : Int))), rfl, ?_⟩
    rw [List.take_succ, hx, sumQ_app]
    simp only [Option.toList_some, sumQ_cons, sumQ_nil, Rat.add_zero]
    rw [Rat.add_comm]
  · subst hT hρ
    rw [List.length_reverse, List.length_map, ← lq, ← List.length_reverse, List.take_length, sumQ_perm (List.reverse_perm _)]
    have ea := app_t (x := sumD qs is) ht hs
    simp only [gDrop, fML, fCons, fNil, e_varS, e_var0, bind_ok, isL_t ht, if_true, ea, st_ok, wo_nx]
    exact k _ _ rfl o10
theorem mk_told {xs : List D} {T : Store} : fN mkTup (fCons (fC (.d (.str "told"))) (fCons (fC (.d (.list xs))) (fNil))) [] T = .ok (.d (.tuple [.str "told", .list xs])) T := by
  simp only [fN, fCons, fNil, fC, bind_ok, mkTup, frzs_d, frzs_n, List.length_cons, List.length_nil, Nat.reduceAdd, Nat.reduceLeDiff, if_true]
theorem told_lots {L : List (List Nat)} {many : Nat} (h : ∀ is ∈ L, Lot many is) (hm : many ≤ 40) (hl : L.length ≤ 65) : Fine 4 3000 (.tuple [.str "told", .list (L.map lotD)]) := by
  refine (fine_said lay_told (fine_list (k := 1) (s := 41) (xs := L.map lotD) fun x hx => ?_)).mono (by decide) (by rw [List.length_map]; omega)
  obtain ⟨is, hi, rfl⟩ := List.mem_map.mp hx
  exact ((gd_lot (m := 40) (fun i hm => by have := (h is hi).2 i hm; omega) (by have := (h is hi).len; omega)).toFine)
theorem told_sums {L : List (List Nat)} {f : List Nat → Rat} (hl : L.length ≤ 65) : Fine 4 3000 (.tuple [.str "told", .list (L.map fun is => pq (f is))]) := by
  refine (fine_said lay_told (fine_list (k := 1) (s := 3) (xs := L.map fun is => pq (f is)) fun x hx => ?_)).mono (by decide) (by rw [List.length_map]; omega)
  obtain ⟨is, hi, rfl⟩ := List.mem_map.mp hx
  exact fine_pq _
end
end K05

namespace K05
open PySem Z M
section
variable {S : Store}
theorem yf_y5 {r : Rat} {qs : List Rat} (hr : Rt r) (hq : ∀ q ∈ qs, Rt q) (hl : qs.length ≤ 40) (hk : kindsQ qs ≤ 600) : yf (.tuple [pq r, .tuple (qs.map pq)]) = .none := by rw [yf_right hr hq hl, if_neg (by omega)]
/-- a comprehension over lots -/
theorem lots_lc {L : List (List Nat)} {i : Nat} {ρ : Vr} {fe : Vr → Store → R U} {f : List Nat → D} (h3 : ρ[i]? = some (some (.d (.list (L.map lotD))))) (hl : L.length ≤ 1000)
    (h5 : ∀ u : U, aName 5 u (wipeU ρ [5]) = some ((wipeU ρ [5]).set 5 (some u)))
    (he : ∀ is ∈ L, ∀ T : Store, fe ((wipeU ρ [5]).set 5 (some (.d (lotD is)))) T = .ok (.d (f is)) T) :
    fLc (sSeq (fVar i)) (aName 5) fYes fe [5] ρ S = .ok (.d (.list (L.map f))) S := by
  have lc := lc_pure (src := sSeq (fVar i)) (tg := aName 5) (fe := fe) (vs := [5]) (ρ := ρ) (S := S) (S1 := S) (ds := L.map lotD) (f := fun d => f (unLot d)) (by
    simp only [sSeq, e_var h3, bind_ok, seqD, frz]) (by rw [List.length_map]; omega) fun d hd => by
    obtain ⟨is, hi, rfl⟩ := List.mem_map.mp hd
    refine ⟨_, h5 _, fun acc => ?_⟩
    rw [he is hi _, unLot_lotD]
  rw [lc, List.map_map]
  refine congrArg (fun M : List D => R.ok (U.d (.list M)) S) (List.map_congr_left fun is _ => ?_)
  show f (unLot (lotD is)) = f is
  rw [unLot_lotD]
theorem in_lot {is : List Nat} {v : Nat} (hl : is.length ≤ 40) (hb : ∀ i ∈ is, i < 1000) : uInF not (.d (.int (v : Int))) (.d (lotD is)) S = .ok (.d (.bool (!is.contains v))) S := by
  have g : Gd 1 41 (lotD is) := gd_lot (m := 40) hb hl
  have sh : SeqAt.shaped (.list (is.map fun i : Nat => PyData.int (i : Int))) = true := by
    have g2 : Gd 1 41 (.list (is.map fun i : Nat => PyData.int (i : Int))) := (gd_lst (k := 0) (s := 1) fun x hx => by
      obtain ⟨i, hi, rfl⟩ := List.mem_map.mp hx
      have := hb i hi
      exact gd_int (by rw [Int.natAbs_natCast]; exact Nat.lt_trans this (by decide))).mono (by decide) (by rw [List.length_map]; omega)
    exact shp _ (g2.nice (by decide))
  show (if (SeqAt.shaped (.int (v : Int)) && SeqAt.shaped (.list (is.map fun i : Nat => PyData.int (i : Int)))) = true then _ else _) = _
  rw [sh, shp_int, Bool.and_self, if_pos rfl]
  refine congrArg (fun b : Bool => R.ok (U.d (.bool (!b))) S) ?_
  rw [List.any_map]
  clear sh g hl hb
  induction is with
  | nil => rfl
  | cons i is ih =>
    rw [List.any_cons, ih, List.contains_cons]
    congr 1
    show PyData.eqv (.int (i : Int)) (.int (v : Int)) = (v == i)
    by_cases e : v = i
    · subst e
      simp [PyData.eqv]
    · have e1 : PyData.eqv (.int (i : Int)) (.int (v : Int)) = false := by
        simp only [PyData.eqv]
        exact beq_eq_false_iff_ne.mpr (by omega)
      have e2 : (v == i) = false := beq_eq_false_iff_ne.mpr e
      rw [e1, e2]
theorem rest_lc {is : List Nat} {many : Nat} {r0 r1 r3 r4 r6 r7 r8 r9 r10 r11 r12 : Option U} (hm : many ≤ 40) (h : Lot many is) :
    fLc (sN sRng1 (fCons (fVar 2) (fNil))) (aName 10) (t7__law_n05_lots_right) (e6__law_n05_lots_right) [10] [r0, r1, some (.d (.int (many : Int))), r3, r4, some (.d (lotD is)), r6, r7, r8, r9, r10, r11, r12] S = .ok (.d (.list ((restL many is).map fun i : Nat => PyData.int (i : Int)))) S := by
  have er : sRng1 [.d (.int (many : Int))] S = .ok (rngD 0 many) S := by rw [rng1_i (by omega) (by omega), Int.toNat_natCast]
  have hll := h.len
  have lc := lc_test (src := sN sRng1 (fCons (fVar 2) (fNil))) (tg := aName 10) (ft := t7__law_n05_lots_right) (fe := e6__law_n05_lots_right) (vs := [10]) (ρ := [r0, r1, some (.d (.int (many : Int))), r3, r4, some (.d (lotD is)), r6, r7, r8, r9, r10, r11, r12]) (S := S) (S1 := S) (ds := rngD 0 many)
    (p := fun z => match z with | .int j => !is.contains j.toNat | _ => false) (f := fun d => d) (by simp only [sN, fCons, fNil, e_varS, e_var0, bind_ok, er]) (by rw [rngD_len]; omega) fun z hz => by
    obtain ⟨k, hk⟩ := List.mem_iff_getElem?.mp hz
    obtain ⟨h1, rfl⟩ := rngD_get _ _ _ _ hk
    refine ⟨_, rfl, fun acc => ⟨?_, fun _ => rfl⟩⟩
    have e := in_lot (S := S ++ [some acc]) (is := is) (v := k) (by omega) fun i hi => by have := h.2 i hi; omega
    rw [Int.zero_add]
    simp only [t7__law_n05_lots_right, fTst, f2, wipeU, List.set_cons_succ, List.set_cons_zero, e_varS, e_var0, bind_ok, e, tru_b, Int.toNat_natCast]
  rw [lc, List.map_id', rngD_range, List.filter_map]
  rfl
def subT (tot : Rat) (d : D) : D := match d with
  | .tuple [.int a, .int b] => pq (tot - Rat.divInt a b)
  | d => d
theorem subT_pq (tot q : Rat) : subT tot (pq q) = pq (tot - q) := by
  show pq (tot - Rat.divInt q.num q.den) = _
  rw [Rat.num_divInt_den]
theorem lots_right {l n : Nat} {y : U} (hy : Y5 y) (hn : n + 2000 < 1000000) : Draws l n 400 (m__law_n05_lots_right [.loc l, y]) fun u => u = .d (.bool true) := fun S hj => by
  obtain ⟨r, qs, rfl, hr, hq, hl, hk⟩ := hy
  have hy0 := yf_y5 hr hq hl hk
  refine w_run ?_
  show wo (g__law_n05_lots_right [some (.loc l), some (.d (.tuple [pq r, .tuple (qs.map pq)])), none, none, none, none, none, none, none, none, none, none, none] S) _
  unfold g__law_n05_lots_right
  refine w_set (S1 := S) (u := .d (.int (qs.length : Int))) (by
    simp only [fN, fCons, fNil, f2, fC, e_varS, e_var0, bind_ok, ix1, len_tup, List.length_map]) ?_
  simp only [List.set_cons_succ, List.set_cons_zero]
  refine w_setW ?_
  refine wp_mono (lots_now (many := qs.length) hj hl (by omega)) fun u T0 ⟨L0, hu, hL0, lL0, j0, k0⟩ => ?_
  subst hu
  simp only [List.set_cons_succ, List.set_cons_zero]
  obtain ⟨L, hL⟩ : ∃ L : List (List Nat), L = L0 ++ [List.range qs.length] := ⟨_, rfl⟩
  have lotL : ∀ is ∈ L, Lot qs.length is := fun is hi => by
    rw [hL] at hi
    rcases List.mem_append.mp hi with h | h
    · exact lL0 is h
    · rw [List.mem_singleton.mp h]; exact lot_range _
  have lenL : L.length ≤ 65 := by rw [hL, List.length_append, List.length_singleton]; omega
  refine w_set (S1 := T0) (u := .d (.list (L.map lotD))) (by
    simp only [fN, fCons, fNil, f1, f2, e_varS, e_var0, bind_ok, tupRg_ok (show qs.length ≤ 1000 by omega), mkLst, frzs_d, frzs_n, List.length_cons, List.length_nil, Nat.reduceAdd, Nat.reduceLeDiff, if_true]
    rw [add_l (by rw [List.length_map]; simp; omega), hL, List.map_append]
    rfl) ?_
  simp only [List.set_cons_succ, List.set_cons_zero]
  refine w_set (S1 := T0 ++ [some []]) (u := .loc T0.length) (by
    simp only [fN, fCons, fNil, bind_ok, mkLoc, frzs_n, List.length_nil, Nat.zero_le, if_true]) ?_
  simp only [List.set_cons_succ, List.set_cons_zero]
  refine w_for ?_
  refine wo_for (fun ds i ρ T => T = T0 ++ [some ((L.take i).map (sumD qs))] ∧ ∃ r5 r9 r10 : Option U, okE r5 = true ∧ okE r9 = true ∧ okE r10 = true ∧ ρ = [some (.loc l), some (.d (.tuple [pq r, .tuple (qs.map pq)])), some (.d (.int (qs.length : Int))), some (.d (.list (L.map lotD))), some (.loc T0.length), r5, none, none, none, r9, r10, none, none])
    (wp_of (a := L.map lotD) (S := T0 ++ [some []]) (by simp only [sSeq, e_varS, e_var0, bind_ok, seqD, frz]) ⟨⟨rfl, none, none, none, rfl, rfl, rfl, rfl⟩, fun i d ρ T hd ⟨hT, r5, r9, r10, o5, o9, o10, hρ⟩ => ?_, fun ρ T ⟨hT, r5, r9, r10, o5, o9, o10, hρ⟩ => ?_⟩)
  · subst hT hρ
    rw [List.getElem?_map] at hd
    obtain ⟨is, hi, rfl⟩ := Option.map_eq_some_iff.mp hd
    have him := List.mem_of_getElem? hi
    refine ⟨_, rfl, ?_⟩
    simp only [List.set_cons_succ, List.set_cons_zero]
    refine owed_one (S := T0 ++ [some ((L.take i).map (sumD qs))]) (t := T0.length) (many := 0) hq hl (lotL is him) at_end (by rw [List.length_map, List.length_take]; omega) (fun r9' r10' o9' o10' => ?_) o10
    refine ⟨?_, _, _, _, rfl, o9', o10', rfl⟩
    rw [set_end, List.take_succ, hi, List.map_append]
    rfl
  · subst hT hρ
    rw [List.length_map, List.take_length]
    obtain ⟨sums, hsums⟩ : ∃ sums : List D, sums = L.map (sumD qs) := ⟨_, rfl⟩
    rw [← hsums]
    have oo : ∀ a b : Option U, okE a = true → okE b = true → (([some (.loc l), some (.d (.tuple [pq r, .tuple (qs.map pq)])), some (.d (.int (qs.length : Int))), some (.d (.list (L.map lotD))), some (.loc T0.length), r5, a, b, none, r9, r10, none, none] : Vr).all okE = true) := fun a b ha hb => by simp [o5, o9, o10, ha, hb]
    have lc1 : ∀ (T : Store), fLc (sSeq (fVar 3)) (aName 5) (fYes) (e4__law_n05_lots_right) [5] [some (.loc l), some (.d (.tuple [pq r, .tuple (qs.map pq)])), some (.d (.int (qs.length : Int))), some (.d (.list (L.map lotD))), some (.loc T0.length), r5, none, none, none, r9, r10, none, none] T = .ok (.d (.list (L.map lotD))) T := fun T =>
      lots_lc (i := 3) rfl (by omega) (fun u => rfl) fun is hi T => by
        simp only [e4__law_n05_lots_right, fCall, fN, fCons, fNil, wipeU, List.set_cons_succ, List.set_cons_zero, e_varS, e_var0, bind_ok, s_made_lot hy0 (lotF_ok (lotL is hi))]
    have m1 := lam_ok (S := T0 ++ [some sums]) (oo none none rfl rfl) (lc1 _)
    refine w_set (mk_loc1 m1) ?_
    simp only [List.set_cons_succ, List.set_cons_zero, List.length_append, List.length_singleton, List.append_assoc, List.singleton_append]
    have lc2 : ∀ (T : Store), fLc (sSeq (fVar 3)) (aName 5) (fYes) (e5__law_n05_lots_right) [5] [some (.loc l), some (.d (.tuple [pq r, .tuple (qs.map pq)])), some (.d (.int (qs.length : Int))), some (.d (.list (L.map lotD))), some (.loc T0.length), r5, some (.loc (T0.length + 1)), none, none, r9, r10, none, none] T = .ok (.d (.list (L.map (sumD qs)))) T := fun T =>
      lots_lc (i := 3) rfl (by omega) (fun u => rfl) fun is hi T => by
        simp only [e5__law_n05_lots_right, fCall, fN, fCons, fNil, wipeU, List.set_cons_succ, List.set_cons_zero, e_varS, e_var0, bind_ok, s_size_sum hy0 hq hl (lotL is hi)]
    have m2 := lam_ok (S := T0 ++ [some sums, some [.tuple [.str "told", .list (L.map lotD)]]]) (oo (some (.loc (T0.length + 1))) none rfl rfl) (lc2 _)
    have ea := app_1 (fo := fVar 6) (t := T0.length + 1) (xs := [.tuple [.str "told", .list (L.map lotD)]]) (ys := [.tuple [.str "told", .list (L.map lotD)]]) (by rfl) Z.c1 m2 Z.c1 (by simp)
    rw [cs1] at ea
    simp only [List.cons_append, List.nil_append] at ea
    refine w_drop ea ?_
    obtain ⟨A, hA⟩ : ∃ A : List D, A = [.tuple [.str "told", .list (L.map lotD)], .tuple [.str "told", .list (L.map (sumD qs))]] := ⟨_, rfl⟩
    rw [← hA]
    have lc3 : ∀ (T : Store), fLc (sSeq (fVar 3)) (aName 5) (fYes) (e8__law_n05_lots_right) [5] [some (.loc l), some (.d (.tuple [pq r, .tuple (qs.map pq)])), some (.d (.int (qs.length : Int))), some (.d (.list (L.map lotD))), some (.loc T0.length), r5, some (.loc (T0.length + 1)), none, none, r9, r10, none, none] T = .ok (.d (.list (L.map fun is => lotD (restL qs.length is)))) T := fun T =>
      lots_lc (i := 3) rfl (by omega) (fun u => rfl) fun is hi T => by
        have e := rest_lc (S := T) (r0 := some (.loc l)) (r1 := some (.d (.tuple [pq r, .tuple (qs.map pq)]))) (r3 := some (.d (.list (L.map lotD)))) (r4 := some (.loc T0.length)) (r6 := some (.loc (T0.length + 1))) (r7 := none) (r8 := none) (r9 := r9) (r10 := r10) (r11 := none) (r12 := none) hl (lotL is hi)
        have eu : ∀ (xs : List D) (T : Store), uTupleOf [.d (.list xs)] T = .ok (.d (.tuple xs)) T := fun _ _ => rfl
        simp only [wipeU, List.set_cons_succ, List.set_cons_zero]
        simp only [e8__law_n05_lots_right, fN, fCons, fNil, e, bind_ok, eu]
        rfl
    refine w_set (lc3 _) ?_
    simp only [List.set_cons_succ, List.set_cons_zero]
    have lotR : ∀ is ∈ L.map (restL qs.length), Lot qs.length is := fun is hi => by
      obtain ⟨js, hj, rfl⟩ := List.mem_map.mp hi
      exact rest_lot js
    have mR : (L.map fun is => lotD (restL qs.length is)) = (L.map (restL qs.length)).map lotD := by rw [List.map_map]; rfl
    rw [mR]
    have lc4 : ∀ (T : Store), fLc (sSeq (fVar 7)) (aName 5) (fYes) (e9__law_n05_lots_right) [5] [some (.loc l), some (.d (.tuple [pq r, .tuple (qs.map pq)])), some (.d (.int (qs.length : Int))), some (.d (.list (L.map lotD))), some (.loc T0.length), r5, some (.loc (T0.length + 1)), some (.d (.list ((L.map (restL qs.length)).map lotD))), none, r9, r10, none, none] T = .ok (.d (.list ((L.map (restL qs.length)).map (sumD qs)))) T := fun T =>
      lots_lc (i := 7) rfl (by rw [List.length_map]; omega) (fun u => rfl) fun is hi T => by
        simp only [e9__law_n05_lots_right, fCall, fN, fCons, fNil, wipeU, List.set_cons_succ, List.set_cons_zero, e_varS, e_var0, bind_ok, s_size_sum hy0 hq hl (lotR is hi)]
    have m3 := lam_ok (S := T0 ++ [some sums, some A]) (oo (some (.loc (T0.length + 1))) (some (.d (.list ((L.map (restL qs.length)).map lotD)))) rfl rfl) (lc4 _)
    have eb := app_1 (fo := fVar 6) (t := T0.length + 1) (xs := A) (ys := A) (by rfl) Z.c1 m3 Z.c1 (by rw [hA]; simp)
    rw [cs1] at eb
    refine w_drop eb ?_
    obtain ⟨tot, htot⟩ : ∃ tot, tot = sumQ (lotQ qs (List.range qs.length)) := ⟨_, rfl⟩
    have restE : (L.map (restL qs.length)).map (sumD qs) = L.map fun is => pq (tot - sumQ (lotQ qs is)) := by
      rw [List.map_map]
      refine List.map_congr_left fun is hi => ?_
      show pq (sumQ (lotQ qs (restL qs.length is))) = _
      rw [rest_sum (lotL is hi), htot]
    rw [restE]
    obtain ⟨A3, hA3⟩ : ∃ A3 : List D, A3 = A ++ [.tuple [.str "told", .list (L.map fun is => pq (tot - sumQ (lotQ qs is)))]] := ⟨_, rfl⟩
    rw [← hA3]
    have lastS : sums = L0.map (sumD qs) ++ [pq tot] := by rw [hsums, hL, List.map_append, htot]; rfl
    have btot : Bd (22 * 40 + 1) tot := by
      rw [htot]
      refine (sumQ_bd (lotQ_bd hq (lot_range qs.length).2)).mono ?_
      unfold lotQ
      rw [List.length_map, List.length_range]
      omega
    have lk := lcK_pure (fs := fVar 4) (tg := aName 11) (fe := e10__law_n05_lots_right) (vs := [11]) (ρ := [some (.loc l), some (.d (.tuple [pq r, .tuple (qs.map pq)])), some (.d (.int (qs.length : Int))), some (.d (.list (L.map lotD))), some (.loc T0.length), r5, some (.loc (T0.length + 1)), some (.d (.list ((L.map (restL qs.length)).map lotD))), none, r9, r10, none, none]) (S := T0 ++ [some sums, some A3]) (S1 := T0 ++ [some sums, some A3]) (l := T0.length) (ds := sums) (f := subT tot) rfl Z.c0 (by rw [hsums, List.length_map]; omega) fun d hd => by
      rw [hsums] at hd
      obtain ⟨is, hi, rfl⟩ := List.mem_map.mp hd
      refine ⟨_, rfl, fun acc => ?_⟩
      have ix : uIx (.loc T0.length) (.d (.int (-1))) (T0 ++ [some sums, some A3] ++ [some acc]) = .ok (.d (pq tot)) (T0 ++ [some sums, some A3] ++ [some acc]) := ix_loc (xs := sums) (by simp) (by rw [lastS]; exact atI_last)
      have bi : Bd (22 * 40 + 1) (sumQ (lotQ qs is)) := by
        refine (sumQ_bd (lotQ_bd hq (lotL is hi).2)).mono ?_
        have := (lotL is hi).len
        unfold lotQ
        rw [List.length_map]
        omega
      have em := s_lminus (S := T0 ++ [some sums, some A3] ++ [some acc]) btot bi (by decide)
      rw [subT_pq]
      simp only [e10__law_n05_lots_right, fCall, fN, fCons, fNil, f1, f2, fC, wipeU, List.set_cons_succ, List.set_cons_zero, e_varS, e_var0, bind_ok, neg_i, ix, em]
    have mS : sums.map (subT tot) = L.map fun is => pq (tot - sumQ (lotQ qs is)) := by
      rw [hsums, List.map_map]
      exact List.map_congr_left fun is _ => subT_pq _ _
    rw [mS] at lk
    refine w_set lk ?_
    simp only [List.set_cons_succ, List.set_cons_zero]
    refine w_ret ?_
    have f1' := told_lots lotL hl lenL
    have f2' := told_sums (L := L) (f := fun is => sumQ (lotQ qs is)) lenL
    have f3' := told_sums (L := L) (f := fun is => tot - sumQ (lotQ qs is)) lenL
    have hA3' : A3 = [.tuple [.str "told", .list (L.map lotD)], .tuple [.str "told", .list sums], .tuple [.str "told", .list (L.map fun is => pq (tot - sumQ (lotQ qs is)))]] := by rw [hA3, hA, hsums]; rfl
    have fA : Fine 5 9001 (.list A3) := (fine_list (k := 4) (s := 3000) (xs := A3) fun x hx => by
      rw [hA3'] at hx
      simp only [List.mem_cons, List.not_mem_nil, or_false] at hx
      rcases hx with rfl | rfl | rfl
      · exact f1'
      · rw [hsums]; exact f2'
      · exact f3').mono (by decide) (by rw [hA3']; simp)
    have ss := s_same (S := T0 ++ [none, some A3]) (S1 := T0 ++ [none, none]) (u := .loc (T0.length + 1)) (w := .d (.list A3)) (y := .list A3) (by
      simp only [frzs, frz, Z.c1, cs1]) (by simp) (fA.nice (by decide)) (by have := fA.sz; omega)
    have eR : fN mkLst (fCons (fN mkTup (fCons (fC (.d (.str "told"))) (fCons (fVar 3) (fNil)))) (fCons (fN mkTup (fCons (fC (.d (.str "told"))) (fCons (fVar 4) (fNil)))) (fCons (fN mkTup (fCons (fC (.d (.str "told"))) (fCons (fVar 8) (fNil)))) (fNil)))) [some (.loc l), some (.d (.tuple [pq r, .tuple (qs.map pq)])), some (.d (.int (qs.length : Int))), some (.d (.list (L.map lotD))), some (.loc T0.length), r5, some (.loc (T0.length + 1)), some (.d (.list ((L.map (restL qs.length)).map lotD))), some (.d (.list (L.map fun is => pq (tot - sumQ (lotQ qs is))))), r9, r10, none, none] (T0 ++ [some sums, some A3]) = .ok (.d (.list A3)) (T0 ++ [none, some A3]) := by
      have ef : frzs [.loc T0.length] (T0 ++ [some sums, some A3]) = some ([.list sums], T0 ++ [none, some A3]) := by
        simp only [frzs, frz, Z.c0, cs0]
      simp only [fN, fCons, fNil, fC, e_varS, e_var0, bind_ok, mkTup, mkLst, ef, frzs_d, frzs_n, List.length_cons, List.length_nil, Nat.reduceAdd, Nat.reduceLeDiff, if_true]
      rw [hA3']
    refine wp_of (call2 (m := m__law_op_same) (fe := fVar 6) (S := T0 ++ [some sums, some A3]) (by rfl) eR ss) ?_
    simp only [retn_d, wp_ok]
    rw [← k0.len, List.take_left]
    exact ⟨trivial, j0.mono (by omega), k0⟩
end
end K05

namespace K05
open PySem Z M
section
variable {S : Store}
theorem ext_1 {fo fe : Vr → Store → R U} {ρ : Vr} {S1 : Store} {t : Nat} {xs ys zs : List D} (h0 : fo ρ S = .ok (.loc t) S) (hx : S[t]? = some (some ys)) (h : fe ρ S = .ok (.d (.list zs)) S1) (hx1 : S1[t]? = some (some xs)) (hl : xs.length + zs.length ≤ 1000000) :
    fML uExt fo (fCons fe fNil) ρ S = .ok (.d .none) (S1.set t (some (xs ++ zs))) := by
  simp only [fML, fCons, fNil, h0, bind_ok, isL_t hx, if_true, h, ext_l hx1 hl]
theorem mk4 {a b c d : Vr → Store → R U} {ρ : Vr} {x1 x2 x3 x4 : D} (h1 : a ρ S = .ok (.d x1) S) (h2 : b ρ S = .ok (.d x2) S) (h3 : c ρ S = .ok (.d x3) S) (h4 : d ρ S = .ok (.d x4) S) : fN mkLst (fCons a (fCons b (fCons c (fCons d fNil)))) ρ S = .ok (.d (.list [x1, x2, x3, x4])) S := by
  simp only [fN, fCons, fNil, h1, h2, h3, h4, bind_ok, mkLst, frzs_d, frzs_n, List.length_cons, List.length_nil, Nat.reduceAdd, Nat.reduceLeDiff, if_true]
abbrev Od5 (d : D) : Prop := Gd 3 200 d ∧ ∀ xs, d = .tuple xs → xs.length ≤ 100
theorem od_of {d : D} (h : (d.canLay0 && decide (d.depth ≤ 3) && decide (sz d ≤ 200) && small d) = true) (hl : (match d with | .tuple xs => decide (xs.length ≤ 100) | _ => true) = true) : Od5 d := ⟨gd_of h, fun xs e => by subst e; simpa using hl⟩
theorem od_tup {xs : List D} (h : ∀ x ∈ xs, Gd 0 1 x) (hl : xs.length ≤ 100) : Od5 (.tuple xs) := ⟨(gd_tup h).mono (by decide) (by omega), fun ys e => by cases e; exact hl⟩
theorem odd_ok {l n many : Nat} (hm : many ≤ 40) (hn : n + 100 < 1000000) : Draws l n 1 (m__law_n05_odd [.loc l, .d (.int (many : Int))]) fun u => ∃ d, u = .d d ∧ Od5 d := fun S hj => by
  have gm : Gd 0 1 (.int (many : Int)) := gd_int (by rw [Int.natAbs_natCast]; exact Nat.lt_of_le_of_lt hm (by decide))
  have gn : Gd 0 1 .none := gd_of (by decide +kernel)
  have gt : Gd 0 1 (.bool true) := gd_of (by decide +kernel)
  have gf : Gd 0 1 (.bool false) := gd_of (by decide +kernel)
  refine w_run ?_
  show wo (g__law_n05_odd [some (.loc l), some (.d (.int (many : Int))), none, none] S) _
  unfold g__law_n05_odd
  obtain ⟨E, hE⟩ : ∃ E : List D, lotD (List.range many) = .tuple E ∧ E.length = many ∧ ∀ x ∈ E, Gd 0 1 x := ⟨_, rfl, by rw [List.length_map, List.length_range], fun x hx => by
    obtain ⟨i, hi, rfl⟩ := List.mem_map.mp hx
    have := List.mem_range.mp hi
    exact gd_int (by rw [Int.natAbs_natCast]; exact Nat.lt_of_lt_of_le this (Nat.le_trans hm (by decide)))⟩
  obtain ⟨hE, lE, gE⟩ := hE
  refine w_set (S1 := S) (u := .d (.tuple E)) (by
    simp only [f1, e_varS, e_var0, bind_ok, tupRg_ok (show many ≤ 1000 by omega), hE]) ?_
  simp only [List.set_cons_succ, List.set_cons_zero]
  obtain ⟨X, hX⟩ : ∃ X : List D, X = [.none, .list [], .list [.int 0], .str "lot", .int 0, .tuple [.int (many : Int)], .tuple [.int (-1)], .tuple [.bool true], .tuple [.int 0, .int 0], .tuple [.int 1, .int 0], .tuple [.none], .tuple [.str "0"], .tuple [.tuple [.int 0]]] := ⟨_, rfl⟩
  have gX : ∀ x ∈ X, Od5 x := by
    intro x hx
    rw [hX] at hx
    simp only [List.mem_cons, List.not_mem_nil, or_false] at hx
    rcases hx with rfl | rfl | rfl | rfl | rfl | rfl | rfl | rfl | rfl | rfl | rfl | rfl | rfl
    case inr.inr.inr.inr.inr.inl => exact od_tup (fun x hx => by rw [List.mem_singleton.mp hx]; exact gm) (by simp)
    all_goals exact od_of (by decide +kernel) (by decide +kernel)
  have lX : X.length = 13 := by rw [hX]; rfl
  refine w_set (S1 := S ++ [some X]) (u := .loc S.length) (by
    simp only [fN, fCons, fNil, f1, fC, e_varS, e_var0, bind_ok, neg_i, mkTup, mkLst, mkLoc, frzs_d, frzs_n, List.length_cons, List.length_nil, Nat.reduceAdd, Nat.reduceLeDiff, Nat.zero_le, if_true]
    rw [hX]) ?_
  clear hX
  simp only [List.set_cons_succ, List.set_cons_zero]
  have vL : ∀ (Y : List D), isL (.loc S.length) (S ++ [some Y]) = true := fun Y => isL_t at_end
  have c1l : ∀ lo hi : Option Int, (cutD E lo hi).length ≤ many ∧ ∀ x ∈ cutD E lo hi, Gd 0 1 x := fun lo hi => ⟨by have := (cut_mem (xs := E) (lo := lo) (hi := hi)).2; omega, fun x hx => gE x (cut_mem.1 x hx)⟩
  have er : ∀ T : Store, uRev (.d (.tuple E)) T = .ok (.d (.tuple E.reverse)) T := fun _ => rfl
  have i1 : ∀ (i : Int) (T : Store), intP (.d (.int i)) T = .ok (some i) T := fun _ _ => rfl
  have a2 : ∀ T : Store, uAdd (.d (.tuple E)) (.d (.tuple [.int (many : Int)])) T = .ok (.d (.tuple (E ++ [.int (many : Int)]))) T := fun T => add_t (by simp; omega)
  have a3 : ∀ T : Store, uAdd (.d (.tuple E)) (.d (.tuple (cutD E (some (-1)) none))) T = .ok (.d (.tuple (E ++ cutD E (some (-1)) none))) T := fun T => add_t (by have := (c1l (some (-1)) none).1; omega)
  have a4 : ∀ T : Store, uAdd (.d (.tuple (cutD E none (some (-1))))) (.d (.tuple [.none])) T = .ok (.d (.tuple (cutD E none (some (-1)) ++ [.none]))) T := fun T => add_t (by have := (c1l none (some (-1))).1; simp; omega)
  have a5 : ∀ T : Store, uAdd (.d (.tuple (cutD E none (some 1)))) (.d (.tuple [.bool true, .bool false])) T = .ok (.d (.tuple (cutD E none (some 1) ++ [.bool true, .bool false]))) T := fun T => add_t (by have := (c1l none (some 1)).1; simp; omega)
  have e4 : ∃ z : D, Od5 z ∧ fIf (fTst (f2 uGt (fVar 1) (fC (.d (.int 0))))) (f2 uAdd (fSl (fVar 2) (fNoP) (fPart (f1 uNeg (fC (.d (.int 1)))))) (fN mkTup (fCons (fC (.d .none)) (fNil)))) (fN mkTup (fCons (fC (.d .none)) (fNil))) [some (.loc l), some (.d (.int (many : Int))), some (.d (.tuple E)), some (.loc S.length)] (S ++ [some X]) = .ok (.d z) (S ++ [some X]) := by
    by_cases h0 : 0 < many
    · have hd : decide ((0 : Int) < (many : Int)) = true := decide_eq_true (by omega)
      refine ⟨.tuple (cutD E none (some (-1)) ++ [.none]), od_tup (fun x hx => ?_) (by have := (c1l none (some (-1))).1; simp; omega), by
        simp only [fIf, fTst, f1, f2, fC, fSl, fNoP, fPart, fN, fCons, fNil, e_varS, e_var0, bind_ok, gt_i, hd, tru_b, if_true, neg_i, i1, sl_t, mkTup, frzs_d, frzs_n, List.length_cons, List.length_nil, Nat.reduceAdd, Nat.reduceLeDiff, a4]⟩
      rcases List.mem_append.mp hx with h | h
      · exact (c1l none (some (-1))).2 x h
      · rw [List.mem_singleton.mp h]; exact gn
    · have hd : decide ((0 : Int) < (many : Int)) = false := decide_eq_false (by omega)
      refine ⟨.tuple [.none], od_of (by decide +kernel) (by decide +kernel), by
        simp only [fIf, fTst, f2, fC, fN, fCons, fNil, e_varS, e_var0, bind_ok, gt_i, hd, tru_b, Bool.false_eq_true, if_false, mkTup, frzs_d, frzs_n, List.length_cons, List.length_nil, Nat.reduceAdd, Nat.reduceLeDiff, if_true]⟩
  obtain ⟨z, gz, ez⟩ := e4
  obtain ⟨Y, hY⟩ : ∃ Y : List D, Y = [.tuple E.reverse, .tuple (E ++ [.int (many : Int)]), .tuple (E ++ cutD E (some (-1)) none), z] := ⟨_, rfl⟩
  have gY : ∀ x ∈ Y, Od5 x := by
    intro x hx
    rw [hY] at hx
    simp only [List.mem_cons, List.not_mem_nil, or_false] at hx
    rcases hx with rfl | rfl | rfl | rfl
    · exact od_tup (fun x hx => gE x (List.mem_reverse.mp hx)) (by rw [List.length_reverse]; omega)
    · refine od_tup (fun x hx => ?_) (by simp; omega)
      rcases List.mem_append.mp hx with h | h
      · exact gE x h
      · rw [List.mem_singleton.mp h]; exact gm
    · refine od_tup (fun x hx => ?_) (by have := (c1l (some (-1)) none).1; simp; omega)
      rcases List.mem_append.mp hx with h | h
      · exact gE x h
      · exact (c1l (some (-1)) none).2 x h
    · exact gz
  have lY : Y.length = 4 := by rw [hY]; rfl
  have eY : fN mkLst (fCons (f1 uRev (fVar 2)) (fCons (f2 uAdd (fVar 2) (fN mkTup (fCons (fVar 1) (fNil)))) (fCons (f2 uAdd (fVar 2) (fSl (fVar 2) (fPart (f1 uNeg (fC (.d (.int 1))))) (fNoP))) (fCons (fIf (fTst (f2 uGt (fVar 1) (fC (.d (.int 0))))) (f2 uAdd (fSl (fVar 2) (fNoP) (fPart (f1 uNeg (fC (.d (.int 1)))))) (fN mkTup (fCons (fC (.d .none)) (fNil)))) (fN mkTup (fCons (fC (.d .none)) (fNil)))) (fNil))))) [some (.loc l), some (.d (.int (many : Int))), some (.d (.tuple E)), some (.loc S.length)] (S ++ [some X]) = .ok (.d (.list Y)) (S ++ [some X]) := by
    have x1 : f1 uRev (fVar 2) [some (.loc l), some (.d (.int (many : Int))), some (.d (.tuple E)), some (.loc S.length)] (S ++ [some X]) = .ok (.d (.tuple E.reverse)) (S ++ [some X]) := by simp only [f1, e_varS, e_var0, bind_ok, er]
    have x2 : f2 uAdd (fVar 2) (fN mkTup (fCons (fVar 1) (fNil))) [some (.loc l), some (.d (.int (many : Int))), some (.d (.tuple E)), some (.loc S.length)] (S ++ [some X]) = .ok (.d (.tuple (E ++ [.int (many : Int)]))) (S ++ [some X]) := by simp only [f2, fN, fCons, fNil, e_varS, e_var0, bind_ok, mkTup, frzs_d, frzs_n, List.length_cons, List.length_nil, Nat.reduceAdd, Nat.reduceLeDiff, if_true, a2]
    have x3 : f2 uAdd (fVar 2) (fSl (fVar 2) (fPart (f1 uNeg (fC (.d (.int 1))))) (fNoP)) [some (.loc l), some (.d (.int (many : Int))), some (.d (.tuple E)), some (.loc S.length)] (S ++ [some X]) = .ok (.d (.tuple (E ++ cutD E (some (-1)) none))) (S ++ [some X]) := by simp only [f1, f2, fC, fSl, fNoP, fPart, e_varS, e_var0, bind_ok, neg_i, i1, sl_t, a3]
    rw [hY]
    exact mk4 x1 x2 x3 ez
  have ed := ext_1 (fo := fVar 3) (t := S.length) (ys := X) (xs := X) (by rfl) at_end eY at_end (by omega)
  rw [set_end] at ed
  refine w_drop ed ?_
  have a5' : f2 uAdd (fSl (fVar 2) (fNoP) (fPart (fC (.d (.int 1))))) (fN mkTup (fCons (fC (.d (.bool true))) (fCons (fC (.d (.bool false))) (fNil)))) [some (.loc l), some (.d (.int (many : Int))), some (.d (.tuple E)), some (.loc S.length)] (S ++ [some (X ++ Y)]) = .ok (.d (.tuple (cutD E none (some 1) ++ [.bool true, .bool false]))) (S ++ [some (X ++ Y)]) := by
    simp only [f2, fC, fSl, fNoP, fPart, fN, fCons, fNil, e_varS, e_var0, bind_ok, i1, sl_t, mkTup, frzs_d, frzs_n, List.length_cons, List.length_nil, Nat.reduceAdd, Nat.reduceLeDiff, if_true, a5]
  have ea := app_1 (fo := fVar 3) (t := S.length) (xs := X ++ Y) (ys := X ++ Y) (by rfl) at_end a5' at_end (by rw [List.length_append]; omega)
  rw [set_end] at ea
  refine w_drop ea ?_
  obtain ⟨W, hW⟩ : ∃ W : List D, W = X ++ Y ++ [.tuple (cutD E none (some 1) ++ [.bool true, .bool false])] := ⟨_, rfl⟩
  have gW : ∀ x ∈ W, Od5 x := fun x hx => by
    rw [hW] at hx
    rcases List.mem_append.mp hx with h | h
    · rcases List.mem_append.mp h with h | h
      · exact gX x h
      · exact gY x h
    · rw [List.mem_singleton.mp h]
      refine od_tup (fun x hx => ?_) (by have := (c1l none (some 1)).1; simp; omega)
      rcases List.mem_append.mp hx with h | h
      · exact (c1l none (some 1)).2 x h
      · simp only [List.mem_cons, List.not_mem_nil, or_false] at h
        rcases h with rfl | rfl
        · exact gt
        · exact gf
  have lW : W.length = 18 := by rw [hW]; simp [lX, lY]
  rw [← hW]
  have hlt := hj.lt
  obtain ⟨i, hi, S', e, j2, k2⟩ := s_one_loc (S := S ++ [some W]) (f := S.length) (xs := W) hj.apps at_end (by omega) (fun z => by rw [z] at lW; cases lW) (by omega) (by omega)
  obtain ⟨T', hS', k3⟩ := k2.split hlt
  subst hS'
  refine w_ret ?_
  simp only [fCall, fN, fCons, fNil, e_varS, e_var0, bind_ok, e, wp_ok, retn_d]
  rw [← k3.len, List.take_left]
  exact ⟨⟨_, rfl, gW _ (List.getElem_mem hi)⟩, j2.left (by rw [k3.len]; exact hlt), k3⟩
end
end K05

namespace K05
open PySem Z M
section
variable {S : Store}
theorem yf_cases (d : D) : yf d = .none ∨ (∃ n, yf d = yMany n) ∨ ∃ n, yf d = yBad n := by
  unfold yf
  split
  · split
    · exact .inr (.inl ⟨_, rfl⟩)
    · split
      · exact .inr (.inr ⟨_, rfl⟩)
      · unfold ysF
        split
        · exact .inr (.inr ⟨_, rfl⟩)
        · split
          · exact .inr (.inl ⟨_, rfl⟩)
          · exact .inl rfl
  · exact .inr (.inr ⟨_, rfl⟩)
theorem yf_fine {d : D} (h : yf d ≠ .none) : Fine 2 3 (yf d) := by
  rcases yf_cases d with e | ⟨n, e⟩ | ⟨n, e⟩
  · exact absurd e h
  · rw [e]
    exact ⟨by simp [yMany, PyData.canLay0, PyData.canLayAll0, show PyData.strOk "TooMany" = true by decide +kernel], by simp [yMany, PyData.depth, PyData.depthAll], by simp [yMany, sz, szs]⟩
  · rw [e]
    exact ⟨by simp [yBad, PyData.canLay0, PyData.canLayAll0, show PyData.strOk "BadYard" = true by decide +kernel], by simp [yBad, PyData.depth, PyData.depthAll], by simp [yBad, sz, szs]⟩
theorem lam_no {fb : Vr → Store → R U} {ρ : Vr} {d : D} (ho : ρ.all okE = true) (h : yf d ≠ .none) (e : ∀ c x, m_made_yard [.d d] S = .exc c x S → fb ρ S = .exc c x S) : fLam 5 gh__law_n05_heard fb ρ S = .ok (.d (yf d)) S := by
  rcases yf_cases d with e1 | ⟨n, e1⟩ | ⟨n, e1⟩
  · exact absurd e1 h
  · rw [e1]
    exact lam_TooMany ho (e _ _ (s_made_many e1))
  · rw [e1]
    exact lam_BadYard ho (e _ _ (s_made_bad e1))
theorem fine_bl {k : Int} : Fine 4 300 (.tuple [.str "BadLot", .int k]) := ⟨by simp [PyData.canLay0, PyData.canLayAll0, show PyData.strOk "BadLot" = true by decide +kernel], by simp [PyData.depth, PyData.depthAll], by simp [sz, szs]⟩
/-- the answers to one thing -/
theorem answers {r : Rat} {qs : List Rat} {th : D} {l a b : Nat} {bad : D} {go : Option U} (hy0 : yf (.tuple [pq r, .tuple (qs.map pq)]) = .none) (hq : ∀ q ∈ qs, Rt q) (hl : qs.length ≤ 40) (ht : Od5 th) (hno : yf bad ≠ .none) (hgo : okE go = true) :
    ∃ w1 w2 : D, Fine 4 300 w1 ∧ Fine 4 300 w2 ∧ ∀ (ρ : Vr), ρ = [some (.loc l), some (.d (.tuple [pq r, .tuple (qs.map pq)])), some (.d bad), some (.d (yf bad)), some (.loc a), some (.loc b), go, some (.d th), some (.d (lotF qs.length th))] → ∀ T : Store,
      fLam 5 gh__law_n05_heard (fCall m_made_lot (fCons (fVar 1) (fCons (fVar 7) (fNil)))) ρ T = .ok (.d w1) T ∧
      fIf (fTst (f1 uIsN1 (fVar 8))) (fN mkTup (fCons (fC (.d (.str "told"))) (fCons (fVar 7) (fNil)))) (fN mkTup (fCons (fC (.d (.str "BadLot"))) (fCons (fVar 8) (fNil)))) ρ T = .ok (.d w1) T ∧
      fLam 5 gh__law_n05_heard (fCall m_size_sum (fCons (fVar 1) (fCons (fVar 7) (fNil)))) ρ T = .ok (.d w2) T ∧
      fIf (fTst (f1 uIsN1 (fVar 8))) (fN mkTup (fCons (fC (.d (.str "told"))) (fCons (fCall m__law_op_size_sum (fCons (fVar 1) (fCons (fVar 7) (fNil)))) (fNil)))) (fN mkTup (fCons (fC (.d (.str "BadLot"))) (fCons (fVar 8) (fNil)))) ρ T = .ok (.d w2) T ∧
      fLam 5 gh__law_n05_heard (fCall m_made_lot (fCons (fVar 2) (fCons (fVar 7) (fNil)))) ρ T = .ok (.d (yf bad)) T ∧
      fLam 5 gh__law_n05_heard (fCall m_size_sum (fCons (fVar 2) (fCons (fVar 7) (fNil)))) ρ T = .ok (.d (yf bad)) T ∧
      f2 uMul (fN mkLst (fCons (fVar 3) (fNil))) (fC (.d (.int 2))) ρ T = .ok (.d (.list [yf bad, yf bad])) T := by
  have bads : ∀ (ρ : Vr), ρ = [some (.loc l), some (.d (.tuple [pq r, .tuple (qs.map pq)])), some (.d bad), some (.d (yf bad)), some (.loc a), some (.loc b), go, some (.d th), some (.d (lotF qs.length th))] → ∀ T : Store, ρ.all okE = true ∧
      fLam 5 gh__law_n05_heard (fCall m_made_lot (fCons (fVar 2) (fCons (fVar 7) (fNil)))) ρ T = .ok (.d (yf bad)) T ∧
      fLam 5 gh__law_n05_heard (fCall m_size_sum (fCons (fVar 2) (fCons (fVar 7) (fNil)))) ρ T = .ok (.d (yf bad)) T ∧
      f2 uMul (fN mkLst (fCons (fVar 3) (fNil))) (fC (.d (.int 2))) ρ T = .ok (.d (.list [yf bad, yf bad])) T := fun ρ hρ T => by
    subst hρ
    have ho : ([some (.loc l), some (.d (.tuple [pq r, .tuple (qs.map pq)])), some (.d bad), some (.d (yf bad)), some (.loc a), some (.loc b), go, some (.d th), some (.d (lotF qs.length th))] : Vr).all okE = true := by simp [hgo]
    refine ⟨ho, lam_no ho hno fun c x e => ?_, lam_no ho hno fun c x e => ?_, ?_⟩
    · simp only [fCall, fN, fCons, fNil, e_varS, e_var0, bind_ok, s_made_lot_no e]
    · simp only [fCall, fN, fCons, fNil, e_varS, e_var0, bind_ok, s_size_sum_no (s_made_lot_no e)]
    · simp only [f2, fN, fCons, fNil, fC, e_varS, e_var0, bind_ok, mkLst, frzs_d, frzs_n, List.length_cons, List.length_nil, Nat.reduceAdd, Nat.reduceLeDiff, if_true]
      rfl
  rcases lotF_cases qs.length th with h | ⟨k, h⟩
  · obtain ⟨is, rfl, lo⟩ := lotF_inv h
    refine ⟨.tuple [.str "told", lotD is], .tuple [.str "told", pq (sumQ (lotQ qs is))], (fine_said lay_told ht.1.toFine).mono (by decide) (by decide), (fine_said lay_told (fine_pq _)).mono (by decide) (by decide), fun ρ hρ T => ?_⟩
    obtain ⟨ho, b1, b2, b3⟩ := bads ρ hρ T
    subst hρ
    refine ⟨lam_ok ho ?_, ?_, lam_ok ho ?_, ?_, b1, b2, b3⟩
    · simp only [fCall, fN, fCons, fNil, e_varS, e_var0, bind_ok, s_made_lot hy0 h]
    · have eN : uIsN1 (.d (lotF qs.length (lotD is))) T = .ok (.d (.bool true)) T := by rw [h]; rfl
      simp only [fIf, fTst, f1, fC, fN, fCons, fNil, e_varS, e_var0, bind_ok, eN, tru_b, if_true, mkTup, frzs_d, frzs_n, List.length_cons, List.length_nil, Nat.reduceAdd, Nat.reduceLeDiff]
    · simp only [fCall, fN, fCons, fNil, e_varS, e_var0, bind_ok, s_size_sum hy0 hq hl lo]
    · have eN : uIsN1 (.d (lotF qs.length (lotD is))) T = .ok (.d (.bool true)) T := by rw [h]; rfl
      have es := s_lsize_sum (S := T) (r := pq r) hq lo.2 (by have := lo.len; omega)
      simp only [fIf, fTst, f1, fC, fCall, fN, fCons, fNil, e_varS, e_var0, bind_ok, eN, es, tru_b, if_true, mkTup, frzs_d, frzs_n, List.length_cons, List.length_nil, Nat.reduceAdd, Nat.reduceLeDiff]
  · refine ⟨.tuple [.str "BadLot", .int k], .tuple [.str "BadLot", .int k], fine_bl, fine_bl, fun ρ hρ T => ?_⟩
    obtain ⟨ho, b1, b2, b3⟩ := bads ρ hρ T
    subst hρ
    have eN : uIsN1 (.d (lotF qs.length th)) T = .ok (.d (.bool false)) T := by rw [h]; rfl
    have eB : fN mkTup (fCons (fC (.d (.str "BadLot"))) (fCons (fVar 8) (fNil))) [some (.loc l), some (.d (.tuple [pq r, .tuple (qs.map pq)])), some (.d bad), some (.d (yf bad)), some (.loc a), some (.loc b), go, some (.d th), some (.d (lotF qs.length th))] T = .ok (.d (.tuple [.str "BadLot", .int k])) T := by
      simp only [fC, fN, fCons, fNil, e_varS, e_var0, bind_ok, mkTup, frzs_d, frzs_n, List.length_cons, List.length_nil, Nat.reduceAdd, Nat.reduceLeDiff, if_true, h]
    refine ⟨lam_BadLot ho ?_, ?_, lam_BadLot ho ?_, ?_, b1, b2, b3⟩
    · simp only [fCall, fN, fCons, fNil, e_varS, e_var0, bind_ok, s_made_lot_bad hy0 h]
    · unfold fIf fTst f1
      simp only [e_varS, e_var0, bind_ok, eN, tru_b, Bool.false_eq_true, if_false]
      exact eB
    · simp only [fCall, fN, fCons, fNil, e_varS, e_var0, bind_ok, s_size_sum_no (s_made_lot_bad hy0 h)]
    · unfold fIf fTst f1
      simp only [e_varS, e_var0, bind_ok, eN, tru_b, Bool.false_eq_true, if_false]
      exact eB
end
end K05

namespace K05
open PySem Z M
section
variable {S : Store}
theorem Y5.y40 {u : U} (h : Y5 u) : Y40 u := by
  obtain ⟨q, qs, e, h1, h2, h3, _⟩ := h
  exact ⟨q, qs, e, h1, h2, h3⟩
theorem refused_right {l n : Nat} {y : U} (hy : Y5 y) (hn : n + 200 < 1000000) : Draws l n 10 (m__law_n05_refused_right [.loc l, y]) fun u => u = .d (.bool true) := fun S hj => by
  have h40 := hy.y40
  obtain ⟨r, qs, rfl, hr, hq, hl, hk⟩ := hy
  have hy0 := yf_y5 hr hq hl hk
  refine w_run ?_
  show wo (g__law_n05_refused_right [some (.loc l), some (.d (.tuple [pq r, .tuple (qs.map pq)])), none, none, none, none, none, none, none] S) _
  unfold g__law_n05_refused_right
  refine w_seq ?_
  simp only [gAsg, wo_st, fCall, fN, fCons, fNil, e_varS, e_var0, bind_ok]
  refine wp_mono (s_oddyard h40 (by omega) S hj) fun v T0 ⟨⟨bad, hv, gd, hno⟩, j0, k0⟩ => ?_
  subst hv
  simp only [aTup, aCons, aNil, aName, List.length_cons, List.length_nil, Nat.reduceAdd, if_true, Option.bind_some, List.set_cons_succ, List.set_cons_zero, wo_nx]
  refine w_seq ?_
  have e1 : ∀ ρ : Vr, (fCons (fN mkLoc (fNil)) (fCons (fN mkLoc (fNil)) (fNil))) ρ T0 = .ok [.loc T0.length, .loc (T0.length + 1)] (T0 ++ [some [], some []]) := fun ρ => by
    simp [mkLoc]
  simp only [gPar, e1, st_ok, wo_nx, List.set_cons_succ, List.set_cons_zero]
  refine w_for ?_
  have ff := yf_fine hno
  refine wo_for (fun ds i ρ T => ds.length ≤ 5 ∧ ∃ (T' : Store) (A : List D) (r6 r7 r8 : Option U), T = T' ++ [some A, some A] ∧ Kp l S T' ∧ Jar T' l (n + 1 + i) ∧ A.length = 4 * i ∧ (∀ x ∈ A, Fine 4 300 x) ∧ ρ = [some (.loc l), some (.d (.tuple [pq r, .tuple (qs.map pq)])), some (.d bad), some (.d (yf bad)), some (.loc T0.length), some (.loc (T0.length + 1)), r6, r7, r8])
    (wp_of (a := rngD 0 5) (S := T0 ++ [some [], some []]) rfl ⟨⟨by decide, T0, [], none, none, none, rfl, k0, j0, rfl, fun x h => (by cases h), rfl⟩, fun i d ρ T hd ⟨hl5, T', A, r6, r7, r8, hT, k1, j1, lA, gA, hρ⟩ => ?_, fun ρ T ⟨hl5, T', A, r6, r7, r8, hT, k1, j1, lA, gA, hρ⟩ => ?_⟩)
  · subst hT hρ
    have hi := (List.getElem?_eq_some_iff.mp hd).1
    refine ⟨_, rfl, ?_⟩
    have tl : T0.length = T'.length := k0.len.trans k1.len.symm
    rw [tl]
    simp only [List.set_cons_succ, List.set_cons_zero]
    unfold b1__law_n05_refused_right
    refine w_setW ?_
    simp only [fCall, f2, fC, fN, fCons, fNil, e_varS, e_var0, bind_ok, ix1, len_tup, List.length_map]
    refine wp_mono ((odd_ok hl (by omega)).at j1 [some A, some A]) fun u S2 ⟨T2, hS, ⟨th, hu, oth⟩, j2, k2⟩ => ?_
    subst hS hu
    simp only [List.set_cons_succ, List.set_cons_zero]
    have elf : ∀ T : Store, m__law_op_lot_fault [.d th, .d (.int (qs.length : Int))] T = .ok (.d (lotF qs.length th)) T := fun T => s_llot_fault fun xs e => by have := oth.2 xs e; omega
    refine w_set (S1 := T2 ++ [some A, some A]) (u := .d (lotF qs.length th)) (by
      simp only [fCall, f2, fC, fN, fCons, fNil, e_varS, e_var0, bind_ok, ix1, len_tup, List.length_map, elf]) ?_
    simp only [List.set_cons_succ, List.set_cons_zero]
    rw [← k2.len]
    obtain ⟨w1, w2, g1, g2, ans⟩ := answers (l := l) (a := T2.length) (b := T2.length + 1) (go := some (.d d)) hy0 hq hl oth hno rfl
    have an := ans _ rfl
    have a1 := app_1 (fo := fVar 4) (t := T2.length) (xs := A) (ys := A) (by rfl) Z.c0 (an (T2 ++ [some A, some A])).1 Z.c0 (by omega)
    rw [cs0] at a1
    refine w_drop a1 ?_
    have a2 := app_1 (fo := fVar 5) (t := T2.length + 1) (xs := A) (ys := A) (by rfl) Z.c1 (an (T2 ++ [some (A ++ [w1]), some A])).2.1 Z.c1 (by omega)
    rw [cs1] at a2
    refine w_drop a2 ?_
    have a3 := app_1 (fo := fVar 4) (t := T2.length) (xs := A ++ [w1]) (ys := A ++ [w1]) (by rfl) Z.c0 (an (T2 ++ [some (A ++ [w1]), some (A ++ [w1])])).2.2.1 Z.c0 (by simp; omega)
    rw [cs0] at a3
    refine w_drop a3 ?_
    have a4 := app_1 (fo := fVar 5) (t := T2.length + 1) (xs := A ++ [w1]) (ys := A ++ [w1]) (by rfl) Z.c1 (an (T2 ++ [some (A ++ [w1] ++ [w2]), some (A ++ [w1])])).2.2.2.1 Z.c1 (by simp; omega)
    rw [cs1] at a4
    refine w_drop a4 ?_
    have a5 := app_1 (fo := fVar 4) (t := T2.length) (xs := A ++ [w1] ++ [w2]) (ys := A ++ [w1] ++ [w2]) (by rfl) Z.c0 (an (T2 ++ [some (A ++ [w1] ++ [w2]), some (A ++ [w1] ++ [w2])])).2.2.2.2.1 Z.c0 (by simp; omega)
    rw [cs0] at a5
    refine w_drop a5 ?_
    have a6 := app_1 (fo := fVar 4) (t := T2.length) (xs := A ++ [w1] ++ [w2] ++ [yf bad]) (ys := A ++ [w1] ++ [w2] ++ [yf bad]) (by rfl) Z.c0 (an (T2 ++ [some (A ++ [w1] ++ [w2] ++ [yf bad]), some (A ++ [w1] ++ [w2])])).2.2.2.2.2.1 Z.c0 (by simp; omega)
    rw [cs0] at a6
    refine w_drop a6 ?_
    have a7 := ext_1 (fo := fVar 5) (t := T2.length + 1) (xs := A ++ [w1] ++ [w2]) (ys := A ++ [w1] ++ [w2]) (by rfl) Z.c1 (an (T2 ++ [some (A ++ [w1] ++ [w2] ++ [yf bad] ++ [yf bad]), some (A ++ [w1] ++ [w2])])).2.2.2.2.2.2 Z.c1 (by simp; omega)
    rw [cs1] at a7
    simp only [gDrop, wo_st]
    refine wp_of a7 ?_
    simp only [wo_nx]
    refine ⟨hl5, T2, A ++ [w1, w2, yf bad, yf bad], _, _, _, ?_, k1.trans k2, by rw [show n + 1 + (i + 1) = n + 1 + i + 1 by omega]; exact j2, by simp; omega, fun x hx => ?_, rfl⟩
    · simp
    · rcases List.mem_append.mp hx with h | h
      · exact gA x h
      · simp only [List.mem_cons, List.not_mem_nil, or_false] at h
        rcases h with rfl | rfl | rfl | rfl
        · exact g1
        · exact g2
        · exact ff.mono (by decide) (by decide)
        · exact ff.mono (by decide) (by decide)
  · subst hT hρ
    have tl : T0.length = T'.length := k0.len.trans k1.len.symm
    rw [tl]
    have fl : Fine 5 7000 (.list A) := (fine_list gA).mono (by decide) (by omega)
    have ss := s_same (S := T' ++ [some A, some A]) (S1 := T' ++ [none, none]) (u := .loc T'.length) (w := .loc (T'.length + 1)) (y := .list A) (by
      simp only [frzs, frz, Z.c0, cs0, Z.c1, cs1]) (by simp) (fl.nice (by decide)) (by have := fl.sz; omega)
    refine w_ret ?_
    refine wp_of (call2 (m := m__law_op_same) (fe := fVar 4) (ge := fVar 5) (S := T' ++ [some A, some A]) (by rfl) (by rfl) ss) ?_
    simp only [retn_d, wp_ok]
    rw [← k1.len, List.take_left]
    exact ⟨trivial, j1.mono (by omega), k1⟩
end
end K05

namespace K05
open PySem Z M
section
variable {S : Store}
theorem Yd.y5 {b : Nat} {u : U} (h : Yd b u) : Y5 u := by
  obtain ⟨q, qs, e, h1, h2, h3, _⟩ := h
  exact ⟨q, qs, e, h1, h2, by omega, by have := kinds_nine (qs := qs) (by omega); omega⟩
theorem rt_of {q : Rat} (h : isSz (pq q) = true) : Rt q := by
  obtain ⟨p, e, hp⟩ := isSz_rt h
  rw [pq_inj e]; exact hp
theorem one_rt : Rt 1 := rt_of (by decide +kernel)
abbrev one1 : D := .tuple [.int 1, .int 1]
abbrev gq : List Rat := List.replicate 20 (1/1000) ++ List.replicate 20 (1000000/999)
abbrev gY : D := .tuple [one1, .tuple (List.replicate 20 (.tuple [.int 1, .int 1000]) ++ List.replicate 20 (.tuple [.int 1000000, .int 999]))]
theorem g_y : gY = .tuple [pq 1, .tuple (gq.map pq)] := by kernel_rfl
theorem g_rt : ∀ q ∈ gq, Rt q := by
  intro q hq
  rcases List.mem_append.mp hq with h | h
  · rw [(List.mem_replicate.mp h).2]; exact rt_of (by decide +kernel)
  · rw [(List.mem_replicate.mp h).2]; exact rt_of (by decide +kernel)
theorem g_5 : Y5 (.d gY) := ⟨1, gq, by rw [g_y], one_rt, g_rt, by decide, by
  have hk : (keysQ gq).length ≤ [(1/1000 : Rat), 1000000/999].length := (keys_nodup gq).length_le_of_subset fun q hq => by
    rcases List.mem_append.mp (mem_keys.mp hq) with h | h
    · rw [(List.mem_replicate.mp h).2]; simp
    · rw [(List.mem_replicate.mp h).2]; simp
  have := kinds_two (qs := gq) (by decide) hk
  omega⟩
abbrev bq : List Rat := [2, 29/10, 31/10]
abbrev bY : D := .tuple [one1, .tuple [.tuple [.int 2, .int 1], .tuple [.int 29, .int 10], .tuple [.int 31, .int 10]]]
theorem b_y : bY = .tuple [pq 1, .tuple (bq.map pq)] := by kernel_rfl
theorem b_rt : ∀ q ∈ bq, Rt q := by
  intro q hq
  simp only [List.mem_cons, List.not_mem_nil, or_false] at hq
  rcases hq with rfl | rfl | rfl <;> exact rt_of (by decide +kernel)
abbrev bL : List (List Nat) := [[], [0], [0, 1], [0, 1, 2]]
theorem b_lots : ∀ is ∈ bL, Lot 3 is := by
  intro is hi
  simp only [List.mem_cons, List.not_mem_nil, or_false] at hi
  rcases hi with rfl | rfl | rfl | rfl <;> exact ⟨by decide, by decide⟩
abbrev bO : List D := [.tuple [.int 0, .int 1], .tuple [.int 2, .int 1], .tuple [.int 49, .int 10], .tuple [.int 8, .int 1]]
theorem b_sums : (bL.map lotD).map (fun d => sumD bq (unLot d)) = bO := by kernel_rfl
theorem whole_ok {l : Nat} (hj : Jar S l 0) : wp (m__law_n05_whole [.loc l] S) fun u _ => u = .d (.bool true) := by
  refine w_run ?_
  show wo (g__law_n05_whole [some (.loc l), none, none, none, none, none, none] S) _
  unfold g__law_n05_whole
  refine w_for ?_
  refine wo_for (fun ds i ρ T => ds.length ≤ 8 ∧ Jar T l (450 * i) ∧ ∃ r1 r5, okE r1 = true ∧ okE r5 = true ∧ ρ = [some (.loc l), r1, none, none, none, r5, none])
    (wp_of (a := rngD 0 8) (S := S) rfl ⟨⟨by decide, hj, none, none, rfl, rfl, rfl⟩, fun i d ρ T hd ⟨hl, hjT, r1, r5, o1, o5, hρ⟩ => ?_, fun ρ T ⟨hl, hjT, r1, r5, o1, o5, hρ⟩ => ?_⟩)
  · subst hρ
    have hi := (List.getElem?_eq_some_iff.mp hd).1
    refine ⟨_, rfl, ?_⟩
    simp only [List.set_cons_succ, List.set_cons_zero]
    unfold b1__law_n05_whole
    refine w_setW ?_
    simp only [fCall, fN, fCons, fNil, fC, e_varS, e_var0, bind_ok]
    refine wp_mono (s_lyard (b := 6) (by decide) (by omega) T hjT) fun u T1 ⟨hy, j1, k1⟩ => ?_
    have hy5 := Yd.y5 hy
    obtain ⟨yd, rfl⟩ : ∃ yd, u = .d yd := by
      obtain ⟨_, _, e, _⟩ := hy
      exact ⟨_, e⟩
    simp only [List.set_cons_succ, List.set_cons_zero, gIf, fOrT, fNotT, fTst, fCall, fN, fCons, fNil, e_varS, e_var0, bind_ok, wo_st, wp_bind]
    refine wp_mono (lots_right hy5 (by omega) T1 j1) fun u T2 ⟨hu, j2, k2⟩ => ?_
    subst hu
    simp only [tru_b, wp_ok, wp_bind, wp_ite, bind_ok, Bool.not_true, Bool.false_eq_true, if_false]
    refine wp_mono (refused_right hy5 (by omega) T2 j2) fun u T3 ⟨hu, j3, k3⟩ => ?_
    subst hu
    simp only [tru_b, wp_ok, Bool.not_true, Bool.false_eq_true, if_false, gNx, wo_nx]
    exact ⟨hl, j3.mono (by omega), _, _, rfl, rfl, rfl⟩
  · subst hρ
    have p6 : ∀ T : Store, uPow (.d (.int 10)) (.d (.int 6)) T = .ok (.d (.int 1000000)) T := fun T => p10 (S := T) (i := 10) (j := 6) rfl (by decide)
    have m1 : ∀ (x : D) (T : Store), uMul (.d (.tuple [x])) (.d (.int 20)) T = .ok (.d (.tuple (List.replicate 20 x))) T := fun x T => rfl
    have ad : ∀ (T : Store), uAdd (.d (.tuple (List.replicate 20 (.tuple [.int 1, .int 1000])))) (.d (.tuple (List.replicate 20 (.tuple [.int 1000000, .int 999])))) T = .ok (.d (.tuple (List.replicate 20 (.tuple [.int 1, .int 1000]) ++ List.replicate 20 (.tuple [.int 1000000, .int 999])))) T := fun T => add_t (by decide)
    refine w_set (S1 := T) (u := .d gY) (by
      simp only [fN, fCons, fNil, f2, fC, bind_ok, p6, m1, ad, mkTup, frzs_d, frzs_n, List.length_cons, List.length_nil, Nat.reduceAdd, Nat.reduceLeDiff, if_true]) ?_
    simp only [List.set_cons_succ, List.set_cons_zero]
    refine w_if ?_
    simp only [fNotT, fTst, fCall, fN, fCons, fNil, e_varS, e_var0, bind_ok, wp_bind]
    refine wp_mono (lots_right g_5 (by omega) T hjT) fun u T1 ⟨hu, j1, k1⟩ => ?_
    subst hu
    simp only [tru_b, wp_ok, Bool.not_true, Bool.false_eq_true, if_false]
    refine w_set (S1 := T1) (u := .d bY) (by
      simp only [fN, fCons, fNil, fC, bind_ok, mkTup, frzs_d, frzs_n, List.length_cons, List.length_nil, Nat.reduceAdd, Nat.reduceLeDiff, if_true]) ?_
    simp only [List.set_cons_succ, List.set_cons_zero]
    have hy0 : yf (.tuple [pq 1, .tuple (bq.map pq)]) = .none := yf_y5 one_rt b_rt (by decide) (by have := kinds_nine (qs := bq) (by decide); omega)
    have lc := lc_pure (src := sSeq (fN mkLst (fCons (fN mkTup (fNil)) (fCons (fN mkTup (fCons (fC (.d (.int 0))) (fNil))) (fCons (fN mkTup (fCons (fC (.d (.int 0))) (fCons (fC (.d (.int 1))) (fNil)))) (fCons (fN mkTup (fCons (fC (.d (.int 0))) (fCons (fC (.d (.int 1))) (fCons (fC (.d (.int 2))) (fNil))))) (fNil))))))) (tg := aName 6) (fe := e2__law_n05_whole) (vs := [6]) (ρ := [some (.loc l), r1, some (.d gY), some (.d bY), none, r5, none]) (S := T1) (S1 := T1) (ds := bL.map lotD) (f := fun d => sumD bq (unLot d)) (by
      simp only [sSeq, fN, fCons, fNil, fC, bind_ok, mkTup, mkLst, frzs_d, frzs_n, List.length_cons, List.length_nil, Nat.reduceAdd, Nat.reduceLeDiff, Nat.zero_le, if_true, seqD, frz]
      rfl) (by decide) fun d hd => by
      obtain ⟨is, hi, rfl⟩ := List.mem_map.mp hd
      refine ⟨_, rfl, fun acc => ?_⟩
      have es := s_size_sum (S := T1 ++ [some acc]) (r := pq 1) hy0 b_rt (by decide) (b_lots is hi)
      rw [← b_y] at es
      rw [unLot_lotD]
      simp only [e2__law_n05_whole, fCall, fN, fCons, fNil, wipeU, List.set_cons_succ, List.set_cons_zero, e_varS, e_var0, bind_ok, es]
    rw [b_sums] at lc
    have lam := lam_ok (S := T1) (ρ := [some (.loc l), r1, some (.d gY), some (.d bY), none, r5, none]) (by simp [o1, o5]) lc
    refine w_set (S1 := T1) (u := .d (.list [.tuple [.str "told", .list bO]])) (by
      have e : ∀ {fe : Vr → Store → R U} {ρ : Vr} {x : D}, fe ρ T1 = .ok (.d x) T1 → fN mkLst (fCons fe fNil) ρ T1 = .ok (.d (.list [x])) T1 := fun h => by
        simp only [fN, fCons, fNil, h, bind_ok, mkLst, frzs_d, frzs_n, List.length_cons, List.length_nil, Nat.reduceAdd, Nat.reduceLeDiff, if_true]
      exact e lam) ?_
    simp only [List.set_cons_succ, List.set_cons_zero]
    refine w_ret ?_
    have ss := s_same (S := T1) (S1 := T1) (u := .d (.list [.tuple [.str "told", .list bO]])) (w := .d (.list [.tuple [.str "told", .list bO]])) (y := .list [.tuple [.str "told", .list bO]]) (by
      simp only [frzs_d, frzs_n]) rfl ⟨by decide +kernel, by decide +kernel⟩ (by decide +kernel)
    have eR : fN mkLst (fCons (fN mkTup (fCons (fC (.d (.str "told"))) (fCons (fN mkLst (fCons (fN mkTup (fCons (fC (.d (.int 0))) (fCons (fC (.d (.int 1))) (fNil)))) (fCons (fN mkTup (fCons (fC (.d (.int 2))) (fCons (fC (.d (.int 1))) (fNil)))) (fCons (fN mkTup (fCons (fC (.d (.int 49))) (fCons (fC (.d (.int 10))) (fNil)))) (fCons (fN mkTup (fCons (fC (.d (.int 8))) (fCons (fC (.d (.int 1))) (fNil)))) (fNil)))))) (fNil)))) (fNil)) [some (.loc l), r1, some (.d gY), some (.d bY), some (.d (.list [.tuple [.str "told", .list bO]])), r5, none] T1 = .ok (.d (.list [.tuple [.str "told", .list bO]])) T1 := by
      simp only [fN, fCons, fNil, fC, bind_ok, mkTup, mkLst, frzs_d, frzs_n, List.length_cons, List.length_nil, Nat.reduceAdd, Nat.reduceLeDiff, if_true]
    refine wp_of (call2 (m := m__law_op_same) (fe := fVar 4) (S := T1) (by rfl) eR ss) ?_
    simp only [retn_d, wp_ok]
theorem law_ok (ns : List Int) (hl : ns.length ≤ 63) : ∃ S', m_law [.rd (ns.map PyData.int)] [] = .ok (.d (.bool true)) S' := by
  obtain ⟨S1, e1, j, _, _⟩ := s_pool (S := []) ns hl
  obtain ⟨u, S2, e2, rfl⟩ := wp_ex (whole_ok j)
  refine ⟨S2.take 0, ?_⟩
  have e3 : fCall m__law_n05_whole (fCons (fCall m__law_pool (fCons (fVar 0) (fNil))) (fNil)) [some (.rd (ns.map PyData.int))] [] = .ok (.d (.bool true)) S2 := by
    simp only [fCall, fN, fCons, fNil, e_var0, bind_ok, e1]
    exact e2
  exact run_rtd (S := []) (try0_rt (ret_ok e3))
end
end K05

theorem PySem.Challenge.cw_oneemptied_k05_lots_and_their_sizes_holds : PySem.Challenge.rw_oneemptied_k05_lots_and_their_sizes.Holds :=
  K05.holds fun ns hl _ => K05.law_ok ns hl
