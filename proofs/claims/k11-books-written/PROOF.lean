import PyProof.Rows.All
import Wide.All
import OpenK.AllK
import Wide.FinOn
import HandS.ForMost
import HandS.ForExc
import HandS.FStr
import HandS.IsInst
import HandS.Flow
import HandS.Style
import HandS.SortRule
import HandS.SortKw
import HandS.ExcField
import HandS.Defaults
import HandS.Wide
import HandS.TupAny
import HandS.Deep
import HandS.More
import HandS.StrSplit
import HandS.RaiseMore
import HandS.TryOnly
import HandS.ExcInit
import PyProof.ReprRoads
import PyProof.ReprLen
import KE.SortData
import KE.SortLaws
import KE.KCallOwn
import HandS.SortInts
import HandS.Iter
import HandS.List
import HandS.Ends
import HandS.HeadEnd
import HandS.Head0
import HandS.Head1
import HandS.Head2
import HandS.HeadHook1
import HandS.HeadHook2
import PyProof.ExcBaseAll.ValueError
import Lean
import PySem.Challenge.RW_pastlay_k11_books_written
set_option Elab.async false
set_option linter.all false
set_option autoImplicit false
set_option maxRecDepth 100000
/-! The tree layer, part 1: values as trees, a small store of mutable things, what represents what. -/
namespace Tl
open PySem L2

/-- data without identity; a mutable thing by its place in the store; anything else as it is -/
inductive D where
  | p (d : PyData)
  | at (l : Nat)
  | raw (v : V)
  | scr (ns : List Int)
/-- what stands in the store -/
inductive MO where
  | lst (xs : List D)
  | tup (xs : List D)
  | ins (C : Str) (fs : List (Str × D))
  | dic (kvs : List (Key × D))
  | gone
abbrev Mem := List MO
abbrev Sg := List (Option D)
/-- how a piece of code ends: a value; a refusal of an own class, with its field; nothing is known -/
inductive R (α : Type) where
  | ok (a : α) (M : Mem)
  | ex (c : Str) (x : Option D) (M : Mem)
  | er
def R.bind {α β : Type} (r : R α) (g : α → Mem → R β) : R β := match r with
  | .ok a M => g a M
  | .ex c x M => .ex c x M
  | .er => .er
@[simp] theorem R.bind_ok {α β : Type} (a : α) (M : Mem) (g : α → Mem → R β) : (R.ok a M).bind g = g a M := rfl
@[simp] theorem R.bind_ex {α β : Type} (c : Str) (x : Option D) (M : Mem) (g : α → Mem → R β) : (R.ex c x M : R α).bind g = .ex c x M := rfl
@[simp] theorem R.bind_er {α β : Type} (g : α → Mem → R β) : (R.er : R α).bind g = .er := rfl

/-! ### what represents what: F the frozen part of the heap, ρ the addresses of the store's things -/
def kD : Key → PyData
  | .inl i => .int i
  | .inr x => .str x
mutual
inductive Rp (K : PySem.W.Frag) (F : Hp) : PyData → V → Prop
  | non : Rp K F .none .non
  | bl (b : Bool) : Rp K F (.bool b) (.bl b)
  | int (i : Int) : Rp K F (.int i) (.int i)
  | str (x : Str) : Rp K F (.str x) (.str x)
  | lst {a : Addr} {vs : List V} {ds : List PyData} : F a = some (.lst vs) → vs.length ≤ sizeLine → RpAll K F ds vs → Rp K F (.list ds) (.ref a)
  | tup {a : Addr} {vs : List V} {ds : List PyData} : SqT K F a vs → vs.length ≤ sizeLine → RpAll K F ds vs → Rp K F (.tuple ds) (.ref a)
  | dic {a : Addr} {kvs : List (Key × V)} {ds : List PyData} : F a = some (.dK kvs) → RpAll K F ds (kvs.map (·.2)) → Rp K F (.dict ((kvs.map fun x => kD x.1).zip ds)) (.ref a)
inductive RpAll (K : PySem.W.Frag) (F : Hp) : List PyData → List V → Prop
  | nil : RpAll K F [] []
  | cons {d : PyData} {v : V} {ds : List PyData} {vs : List V} : Rp K F d v → RpAll K F ds vs → RpAll K F (d :: ds) (v :: vs)
end
def RepD (K : PySem.W.Frag) (F : Hp) (ρ : List Addr) : D → V → Prop
  | .p d, v => Rp K F d v
  | .at l, v => ∃ a, ρ[l]? = some a ∧ v = .ref a
  | .raw x, v => v = x
  | .scr ns, v => ∃ a, v = .ref a ∧ SqL K F a (ns.map V.int) ∧ ns.length ≤ 64
inductive Reps (K : PySem.W.Frag) (F : Hp) (ρ : List Addr) : List D → List V → Prop
  | nil : Reps K F ρ [] []
  | cons {d : D} {v : V} {ds : List D} {vs : List V} : RepD K F ρ d v → Reps K F ρ ds vs → Reps K F ρ (d :: ds) (v :: vs)
inductive RepF (K : PySem.W.Frag) (F : Hp) (ρ : List Addr) : List (Str × D) → List (Str × V) → Prop
  | nil : RepF K F ρ [] []
  | cons {n : Str} {d : D} {v : V} {ds : List (Str × D)} {vs : List (Str × V)} : RepD K F ρ d v → RepF K F ρ ds vs → RepF K F ρ ((n, d) :: ds) ((n, v) :: vs)
inductive RepK (K : PySem.W.Frag) (F : Hp) (ρ : List Addr) : List (Key × D) → List (Key × V) → Prop
  | nil : RepK K F ρ [] []
  | cons {n : Key} {d : D} {v : V} {ds : List (Key × D)} {vs : List (Key × V)} : RepD K F ρ d v → RepK K F ρ ds vs → RepK K F ρ ((n, d) :: ds) ((n, v) :: vs)

/-- what the layer is told of the written part: the addresses of the own classes -/
abbrev Ct := Str → Option Addr
def MRep (K : PySem.W.Frag) (ct : Ct) (F : Hp) (ρ : List Addr) : MO → HO → Prop
  | .lst xs, o => ∃ vs, o = .lst vs ∧ Reps K F ρ xs vs ∧ vs.length ≤ sizeLine
  | .tup xs, o => ∃ vs, o = .tup vs ∧ Reps K F ρ xs vs ∧ vs.length ≤ sizeLine
  | .ins C fs, o => ∃ c dx gs, ct C = some c ∧ o = .ins c dx gs ∧ RepF K F ρ fs gs
  | .dic kvs, o => ∃ gs, o = .dK gs ∧ RepK K F ρ kvs gs
  | .gone, _ => True
/-- the store stands in the heap: F frozen, G somebody else's, both kept -/
structure Rel (K : PySem.W.Frag) (ct : Ct) (F : Hp) (ρ : List Addr) (M : Mem) (G H : Hp) : Prop where
  sub : ∀ a o, F a = some o → H a = some o
  gub : ∀ a o, G a = some o → H a = some o
  dis : ∀ a o, F a = some o → G a = none
  len : ρ.length = M.length
  nod : ρ.Nodup
  obj : ∀ (l : Nat) (o : MO), M[l]? = some o → ∃ (a : Addr) (h : HO), ρ[l]? = some a ∧ (o ≠ .gone → F a = none) ∧ G a = none ∧ H a = some h ∧ MRep K ct F ρ o h
/-- grown -/
structure Up (F : Hp) (ρ : List Addr) (F' : Hp) (ρ' : List Addr) : Prop where
  fr : ∀ (a : Addr) (o : HO), F a = some o → F' a = some o
  pr : ∀ (l : Nat) (a : Addr), ρ[l]? = some a → ρ'[l]? = some a
theorem Up.rfl' {F : Hp} {ρ : List Addr} : Up F ρ F ρ := ⟨fun _ _ h => h, fun _ _ h => h⟩
theorem Up.trans {F F1 F2 : Hp} {ρ ρ1 ρ2 : List Addr} (a : Up F ρ F1 ρ1) (b : Up F1 ρ1 F2 ρ2) : Up F ρ F2 ρ2 := ⟨fun x o h => b.fr x o (a.fr x o h), fun x o h => b.pr x o (a.pr x o h)⟩
theorem up_new {F : Hp} {ρ : List Addr} {p : Addr} {o : HO} (h : F p = none) : Up F ρ (upd F p o) ρ := ⟨fun a u e => by rw [upd_ne (ne_of_none e h)]; exact e, fun _ _ h => h⟩

section
variable {K : PySem.W.Frag} {ct : Ct} {F F' : Hp} {ρ ρ' : List Addr} {M : Mem} {G H : Hp}
theorem rd_up (u : ∀ a o, F a = some o → F' a = some o) {a : Addr} {o : HO} (h : Rd F a o) : Rd F' a o := by
  rcases h with h | ⟨ob, h⟩
  · exact .inl (u _ _ h)
  · exact .inr ⟨ob, u _ _ h⟩
theorem sqL_up (u : ∀ a o, F a = some o → F' a = some o) {a : Addr} {vs : List V} (h : SqL K F a vs) : SqL K F' a vs := by
  rcases h with h | h
  · exact .inl (rd_up u h)
  · exact .inr h
theorem sqT_up (u : ∀ a o, F a = some o → F' a = some o) {a : Addr} {vs : List V} (h : SqT K F a vs) : SqT K F' a vs := by
  rcases h with h | h
  · exact .inl (rd_up u h)
  · exact .inr h
mutual
theorem Rp.up (u : ∀ a o, F a = some o → F' a = some o) : ∀ {d : PyData} {v : V}, Rp K F d v → Rp K F' d v
  | _, _, .non => .non
  | _, _, .bl b => .bl b
  | _, _, .int i => .int i
  | _, _, .str x => .str x
  | _, _, .lst h z r => .lst (u _ _ h) z (RpAll.up u r)
  | _, _, .tup h z r => .tup (sqT_up u h) z (RpAll.up u r)
  | _, _, .dic h r => .dic (u _ _ h) (RpAll.up u r)
theorem RpAll.up (u : ∀ a o, F a = some o → F' a = some o) : ∀ {ds : List PyData} {vs : List V}, RpAll K F ds vs → RpAll K F' ds vs
  | _, _, .nil => .nil
  | _, _, .cons h t => .cons (Rp.up u h) (RpAll.up u t)
end
theorem RepD.up (u : Up F ρ F' ρ') : ∀ {d : D} {v : V}, RepD K F ρ d v → RepD K F' ρ' d v
  | .p _, _, h => Rp.up u.fr h
  | .at _, _, ⟨a, h, e⟩ => ⟨a, u.pr _ _ h, e⟩
  | .raw _, _, h => h
  | .scr _, _, ⟨a, e, h, z⟩ => ⟨a, e, sqL_up u.fr h, z⟩
theorem Reps.up (u : Up F ρ F' ρ') {ds : List D} {vs : List V} (h : Reps K F ρ ds vs) : Reps K F' ρ' ds vs := by
  induction h with
  | nil => exact .nil
  | cons h _ t => exact .cons (h.up u) t
theorem RepF.up (u : Up F ρ F' ρ') {ds : List (Str × D)} {vs : List (Str × V)} (h : RepF K F ρ ds vs) : RepF K F' ρ' ds vs := by
  induction h with
  | nil => exact .nil
  | cons h _ t => exact .cons (h.up u) t
theorem RepK.up (u : Up F ρ F' ρ') {ds : List (Key × D)} {vs : List (Key × V)} (h : RepK K F ρ ds vs) : RepK K F' ρ' ds vs := by
  induction h with
  | nil => exact .nil
  | cons h _ t => exact .cons (h.up u) t
theorem MRep.up (u : Up F ρ F' ρ') : ∀ {o : MO} {h : HO}, MRep K ct F ρ o h → MRep K ct F' ρ' o h
  | .lst _, _, ⟨vs, e, r, z⟩ => ⟨vs, e, r.up u, z⟩
  | .tup _, _, ⟨vs, e, r, z⟩ => ⟨vs, e, r.up u, z⟩
  | .ins _ _, _, ⟨c, dx, gs, h, e, r⟩ => ⟨c, dx, gs, h, e, r.up u⟩
  | .dic _, _, ⟨gs, e, r⟩ => ⟨gs, e, r.up u⟩
  | .gone, _, _ => trivial
theorem RpAll.length {ds : List PyData} {vs : List V} (h : RpAll K F ds vs) : ds.length = vs.length := by
  induction vs generalizing ds with
  | nil => cases h; rfl
  | cons v vs ih => cases h with | cons h t => simp [ih t]
theorem Reps.length {ds : List D} {vs : List V} (h : Reps K F ρ ds vs) : ds.length = vs.length := by
  induction h with
  | nil => rfl
  | cons _ _ t => simp [t]
theorem Reps.get {ds : List D} {vs : List V} (h : Reps K F ρ ds vs) : ∀ {i : Nat} {d : D}, ds[i]? = some d → ∃ v, vs[i]? = some v ∧ RepD K F ρ d v := by
  induction h with
  | nil => intro i d e; simp at e
  | cons h _ t =>
    intro i d e
    cases i with
    | zero => simp at e; subst e; exact ⟨_, rfl, h⟩
    | succ i => obtain ⟨v, h1, h2⟩ := t (i := i) (by simpa using e); exact ⟨v, by simpa using h1, h2⟩
theorem Reps.append {ds es : List D} {vs us : List V} (h : Reps K F ρ ds vs) (g : Reps K F ρ es us) : Reps K F ρ (ds ++ es) (vs ++ us) := by
  induction h with
  | nil => exact g
  | cons h _ t => exact .cons h t
theorem Reps.take {ds : List D} {vs : List V} (h : Reps K F ρ ds vs) : ∀ n : Nat, Reps K F ρ (ds.take n) (vs.take n) := by
  induction h with
  | nil => intro n; simp; exact .nil
  | cons h _ t =>
    intro n
    cases n with
    | zero => exact .nil
    | succ n => exact .cons h (t n)
theorem Reps.drop {ds : List D} {vs : List V} (h : Reps K F ρ ds vs) : ∀ n : Nat, Reps K F ρ (ds.drop n) (vs.drop n) := by
  induction h with
  | nil => intro n; simp; exact .nil
  | cons h g t =>
    intro n
    cases n with
    | zero => exact .cons h g
    | succ n => exact t n
theorem Reps.set {ds : List D} {vs : List V} (h : Reps K F ρ ds vs) {d : D} {v : V} (r : RepD K F ρ d v) : ∀ n : Nat, Reps K F ρ (ds.set n d) (vs.set n v) := by
  induction h with
  | nil => intro n; exact .nil
  | cons h g t =>
    intro n
    cases n with
    | zero => exact .cons r g
    | succ n => exact .cons h (t n)
theorem Reps.reverse {ds : List D} {vs : List V} (h : Reps K F ρ ds vs) : Reps K F ρ ds.reverse vs.reverse := by
  induction h with
  | nil => exact .nil
  | cons h _ t => rw [List.reverse_cons, List.reverse_cons]; exact t.append (.cons h .nil)
/-- a list of data -/
theorem Reps.ofAll {ds : List PyData} {vs : List V} (h : RpAll K F ds vs) : Reps K F ρ (ds.map D.p) vs := by
  induction vs generalizing ds with
  | nil => cases h; exact .nil
  | cons v vs ih => cases h with | cons h t => exact .cons h (ih t)
theorem Reps.toAll : ∀ {ds : List PyData} {vs : List V}, Reps K F ρ (ds.map D.p) vs → RpAll K F ds vs
  | [], _, h => by cases h; exact .nil
  | d :: ds, _, h => by cases h with | cons h t => exact .cons h (Reps.toAll t)
def unP : List D → Option (List PyData)
  | [] => some []
  | .p d :: r => (unP r).map (d :: ·)
  | _ :: _ => none
@[simp] theorem unP_map : ∀ ds : List PyData, unP (ds.map D.p) = some ds
  | [] => rfl
  | d :: ds => by simp [unP, unP_map ds]
theorem unP_some : ∀ {xs : List D} {ds : List PyData}, unP xs = some ds → xs = ds.map D.p
  | [], ds, h => by simp [unP] at h; subst h; rfl
  | .p d :: r, ds, h => by
    simp only [unP, Option.map_eq_some_iff] at h
    obtain ⟨es, h1, h2⟩ := h
    subst h2
    simp [unP_some h1]
  | .at l :: r, ds, h => by simp [unP] at h
  | .raw l :: r, ds, h => by simp [unP] at h
  | .scr l :: r, ds, h => by simp [unP] at h

/-! ### the store read -/
theorem Rel.fnone (r : Rel K ct F ρ M G H) {a : Addr} (h : H a = none) : F a = none := by
  cases e : F a with
  | none => rfl
  | some o => rw [r.sub a o e] at h; cases h
theorem Rel.gnone (r : Rel K ct F ρ M G H) {a : Addr} (h : H a = none) : G a = none := by
  cases e : G a with
  | none => rfl
  | some o => rw [r.gub a o e] at h; cases h
theorem Rel.mem (r : Rel K ct F ρ M G H) {a : Addr} (h : a ∈ ρ) : H a ≠ none ∧ G a = none := by
  obtain ⟨l, hl, e⟩ := List.mem_iff_getElem.mp h
  have hM : l < M.length := by rw [← r.len]; exact hl
  obtain ⟨b, h, h1, h2, h3, h4, _⟩ := r.obj l M[l] (by simp [hM])
  have e' : ρ[l]? = some a := by rw [List.getElem?_eq_getElem hl, e]
  rw [e'] at h1
  cases h1
  exact ⟨by rw [h4]; simp, h3⟩
theorem Rel.nmem (r : Rel K ct F ρ M G H) {a : Addr} (h : H a = none) : a ∉ ρ := fun z => (r.mem z).1 h
/-- a frozen thing laid at a new address -/
theorem Rel.laid (r : Rel K ct F ρ M G H) {p : Addr} {o : HO} (h : H p = none) : Rel K ct (upd F p o) ρ M G (upd H p o) := by
  have hF := r.fnone h
  refine ⟨fun a u e => ?_, fun a u e => ?_, fun a u e => ?_, r.len, r.nod, fun l m e => ?_⟩
  · by_cases ha : a = p
    · subst ha; rw [upd_same] at e ⊢; exact e
    · rw [upd_ne ha] at e ⊢; exact r.sub a u e
  · rw [upd_ne (ne_of_none (r.gub a u e) h)]; exact r.gub a u e
  · by_cases ha : a = p
    · subst ha; exact r.gnone h
    · rw [upd_ne ha] at e; exact r.dis a u e
  · obtain ⟨a, ho, h1, h2, h3, h4, h5⟩ := r.obj l m e
    have ha : a ≠ p := ne_of_none h4 h
    exact ⟨a, ho, h1, fun hm => by rw [upd_ne ha]; exact h2 hm, h3, by rw [upd_ne ha]; exact h4, h5.up (up_new hF)⟩
/-- a mutable thing laid at a new address -/
theorem Rel.made (r : Rel K ct F ρ M G H) {p : Addr} {o : HO} {m : MO} (h : H p = none) (mr : MRep K ct F (ρ ++ [p]) m o) : Rel K ct F (ρ ++ [p]) (M ++ [m]) G (upd H p o) ∧ Up F ρ F (ρ ++ [p]) := by
  have u : Up F ρ F (ρ ++ [p]) := ⟨fun _ _ z => z, fun l a z => by rw [List.getElem?_append_left (List.getElem?_eq_some_iff.mp z).1]; exact z⟩
  refine ⟨⟨fun a u e => ?_, fun a u e => ?_, r.dis, by simp [r.len], ?_, fun l mo e => ?_⟩, u⟩
  · rw [upd_ne (ne_of_none (r.sub a u e) h)]; exact r.sub a u e
  · rw [upd_ne (ne_of_none (r.gub a u e) h)]; exact r.gub a u e
  · refine List.nodup_append.mpr ⟨r.nod, by simp, fun a ha b hb => ?_⟩
    have : b = p := by simpa using hb
    subst this
    intro z; subst z
    exact r.nmem h ha
  · by_cases hl : l < M.length
    · rw [List.getElem?_append_left hl] at e
      obtain ⟨a, ho, h1, h2, h3, h4, h5⟩ := r.obj l mo e
      exact ⟨a, ho, u.pr _ _ h1, h2, h3, by rw [upd_ne (ne_of_none h4 h)]; exact h4, h5.up u⟩
    · have hl2 : l = M.length := by
        have := (List.getElem?_eq_some_iff.mp e).1
        simp at this; omega
      subst hl2
      have : m = mo := by simpa using e
      subst this
      refine ⟨p, o, ?_, fun _ => r.fnone h, r.gnone h, upd_same, mr⟩
      rw [List.getElem?_append_right (by rw [r.len]; exact Nat.le_refl _), r.len]
      simp
/-- a mutable thing changed -/
theorem Rel.wrote (r : Rel K ct F ρ M G H) {l : Nat} {a : Addr} {o : HO} {m m0 : MO} (ha : ρ[l]? = some a) (hm : M[l]? = some m0) (h0 : m0 ≠ .gone) (mr : MRep K ct F ρ m o) : Rel K ct F ρ (M.set l m) G (upd H a o) := by
  have hl : l < ρ.length := (List.getElem?_eq_some_iff.mp ha).1
  have hM : l < M.length := by rw [← r.len]; exact hl
  obtain ⟨b, ho, h1, h2, h3, h4, _⟩ := r.obj l m0 hm
  have h2 := h2 h0
  have : b = a := by rw [ha] at h1; exact (Option.some.inj h1).symm
  subst this
  refine ⟨fun c u e => ?_, fun c u e => ?_, r.dis, by simp [r.len], r.nod, fun l' mo e => ?_⟩
  · rw [upd_ne (fun z => by subst z; rw [h2] at e; cases e)]; exact r.sub c u e
  · rw [upd_ne (fun z => by subst z; rw [h3] at e; cases e)]; exact r.gub c u e
  · by_cases hll : l' = l
    · subst hll
      rw [List.getElem?_set_self hM] at e
      cases e
      exact ⟨b, o, ha, fun _ => h2, h3, upd_same, mr⟩
    · rw [List.getElem?_set_ne (fun z => hll z.symm)] at e
      obtain ⟨c, hc, e1, e2, e3, e4, e5⟩ := r.obj l' mo e
      refine ⟨c, hc, e1, e2, e3, ?_, e5⟩
      rw [upd_ne]
      · exact e4
      · intro z
        subst z
        obtain ⟨h5, e5'⟩ := List.getElem?_eq_some_iff.mp e1
        obtain ⟨h6, e6'⟩ := List.getElem?_eq_some_iff.mp ha
        exact hll ((List.getElem_inj r.nod).mp (e5'.trans e6'.symm))
/-- a list of data is frozen -/
theorem Rel.froze (r : Rel K ct F ρ M G H) {l : Nat} {a : Addr} {m : MO} {o : HO} (ha : ρ[l]? = some a) (hm : M[l]? = some m) (h0 : m ≠ .gone) (ho : H a = some o) : Rel K ct (upd F a o) ρ (M.set l .gone) G H ∧ Up F ρ (upd F a o) ρ := by
  have hM : l < M.length := (List.getElem?_eq_some_iff.mp hm).1
  obtain ⟨b, ho', h1, h2, h3, h4, _⟩ := r.obj l m hm
  rw [ha] at h1; cases h1
  have h2 := h2 h0
  have u := up_new (ρ := ρ) (o := o) h2
  refine ⟨⟨fun c v e => ?_, r.gub, fun c v e => ?_, by simp [r.len], r.nod, fun l' mo e => ?_⟩, u⟩
  · by_cases hc : c = a
    · subst hc; rw [upd_same] at e; cases e; exact ho
    · rw [upd_ne hc] at e; exact r.sub c v e
  · by_cases hc : c = a
    · subst hc; exact h3
    · rw [upd_ne hc] at e; exact r.dis c v e
  · by_cases hll : l' = l
    · subst hll
      rw [List.getElem?_set_self hM] at e
      cases e
      exact ⟨a, o, ha, fun z => absurd rfl z, h3, ho, trivial⟩
    · rw [List.getElem?_set_ne (fun z => hll z.symm)] at e
      obtain ⟨c, hc, e1, e2, e3, e4, e5⟩ := r.obj l' mo e
      refine ⟨c, hc, e1, fun z => ?_, e3, e4, e5.up u⟩
      rw [upd_ne]
      · exact e2 z
      · intro z
        subst z
        obtain ⟨h5, e5'⟩ := List.getElem?_eq_some_iff.mp e1
        obtain ⟨h6, e6'⟩ := List.getElem?_eq_some_iff.mp ha
        exact hll ((List.getElem_inj r.nod).mp (e5'.trans e6'.symm))
/-- items of a list or a tuple; which of both -/
def seqOf (M : Mem) : D → Option (Bool × List D)
  | .p (.list ds) => some (true, ds.map .p)
  | .p (.tuple ds) => some (false, ds.map .p)
  | .at l => match M[l]? with
    | some (.lst xs) => some (true, xs)
    | some (.tup xs) => some (false, xs)
    | _ => none
  | _ => none
theorem Rel.seqL (r : Rel K ct F ρ M G H) {d : D} {v : V} {xs : List D} (rd : RepD K F ρ d v) (e : seqOf M d = some (true, xs)) : ∃ a vs, v = .ref a ∧ H a = some (.lst vs) ∧ Reps K F ρ xs vs ∧ vs.length ≤ sizeLine := by
  cases d with
  | p d =>
    cases d <;> simp [seqOf] at e
    subst e
    cases rd with
    | lst h z t => exact ⟨_, _, rfl, r.sub _ _ h, Reps.ofAll t, z⟩
  | «at» l =>
    obtain ⟨a, ha, rfl⟩ := rd
    simp only [seqOf] at e
    split at e <;> simp at e
    rename_i ys hm
    subst e
    obtain ⟨b, ho, h1, h2, h3, h4, vs, h5, h6, h7⟩ := r.obj l _ hm
    rw [ha] at h1; cases h1
    subst h5
    exact ⟨a, vs, rfl, h4, h6, h7⟩
  | raw v => simp [seqOf] at e
  | scr v => simp [seqOf] at e
theorem Rel.seqT (r : Rel K ct F ρ M G H) {d : D} {v : V} {xs : List D} (rd : RepD K F ρ d v) (e : seqOf M d = some (false, xs)) : ∃ a vs, v = .ref a ∧ SqT K H a vs ∧ Reps K F ρ xs vs ∧ vs.length ≤ sizeLine := by
  cases d with
  | p d =>
    cases d <;> simp [seqOf] at e
    subst e
    cases rd with
    | tup h z t => exact ⟨_, _, rfl, sqT_up r.sub h, Reps.ofAll t, z⟩
  | «at» l =>
    obtain ⟨a, ha, rfl⟩ := rd
    simp only [seqOf] at e
    split at e <;> simp at e
    rename_i ys hm
    subst e
    obtain ⟨b, ho, h1, h2, h3, h4, vs, h5, h6, h7⟩ := r.obj l _ hm
    rw [ha] at h1; cases h1
    subst h5
    exact ⟨a, vs, rfl, SqT.of h4, h6, h7⟩
  | raw v => simp [seqOf] at e
  | scr v => simp [seqOf] at e
end
end Tl

/-! The tree layer, part 2: how a reading is told by a function; expressions. -/
namespace Tl
open PySem L2

/-- the field of a refusal, in its own dict -/
def XF (K : PySem.W.Frag) (F : Hp) (ρ : List Addr) (G H : Hp) : Option D → Option Addr → Prop
  | none, d => d = none
  | some x, d => ∃ (a : Addr) (u : V), d = some a ∧ H a = some (.xd [(("at" : Str), u)]) ∧ RepD K F ρ x u ∧ F a = none ∧ G a = none ∧ a ∉ ρ
def Wp {α β : Type} (K : PySem.W.Frag) (ct : Ct) (rp : Hp → List Addr → α → β → Prop) (F : Hp) (ρ : List Addr) (G : Hp) (r : R α) (Q : β → Hp → Prop) (E : XK) : Prop :=
  match r with
  | .ok a M => ∀ F' ρ' H' b, Up F ρ F' ρ' → Rel K ct F' ρ' M G H' → rp F' ρ' a b → Q b H'
  | .ex c x M => ∀ F' ρ' H' C d, Up F ρ F' ρ' → Rel K ct F' ρ' M G H' → ct c = some C → XF K F' ρ' G H' x d → E (.ref C) d H'
  | .er => False
abbrev rpB : Hp → List Addr → Bool → Bool → Prop := fun _ _ a b => a = b
section
variable {K : PySem.W.Frag} {ct : Ct} {F F' : Hp} {ρ ρ' : List Addr} {M : Mem} {G H : Hp}
theorem Wp.up {α β : Type} {rp : Hp → List Addr → α → β → Prop} {r : R α} {Q : β → Hp → Prop} {E : XK} (u : Up F ρ F' ρ') (h : Wp K ct rp F ρ G r Q E) : Wp K ct rp F' ρ' G r Q E := by
  cases r with
  | ok a M => exact fun F2 ρ2 H2 b u2 => h F2 ρ2 H2 b (u.trans u2)
  | ex c x M => exact fun F2 ρ2 H2 C d u2 => h F2 ρ2 H2 C d (u.trans u2)
  | er => exact h
theorem Wp.thn {α β γ δ : Type} {rp : Hp → List Addr → α → β → Prop} {rq : Hp → List Addr → γ → δ → Prop} {r : R α} {g : α → Mem → R γ} {Q : δ → Hp → Prop} {E : XK} {Q' : β → Hp → Prop}
    (h : Wp K ct rq F ρ G (r.bind g) Q E) (k : ∀ a M1 F1 ρ1 H1 b, Up F ρ F1 ρ1 → Rel K ct F1 ρ1 M1 G H1 → rp F1 ρ1 a b → Wp K ct rq F1 ρ1 G (g a M1) Q E → Q' b H1) : Wp K ct rp F ρ G r Q' E := by
  cases r with
  | ok a M => exact fun F1 ρ1 H1 b u r1 rb => k a M F1 ρ1 H1 b u r1 rb (h.up u)
  | ex c x M => exact h
  | er => exact h
/-- a value at once -/
theorem Wp.val {α β : Type} {rp : Hp → List Addr → α → β → Prop} {a : α} {b : β} {Q : β → Hp → Prop} {E : XK} (h : Wp K ct rp F ρ G (.ok a M) Q E) (r : Rel K ct F ρ M G H) (rb : rp F ρ a b) : Q b H := h F ρ H b .rfl' r rb
/-- a new frozen thing -/
theorem Wp.new {d : D} {Q : VK} {E : XK} {o : HO} (h : Wp K ct (RepD K) F ρ G (.ok d M) Q E) (r : Rel K ct F ρ M G H) (rd : ∀ p F', F' = upd F p o → Up F ρ F' ρ → F' p = some o → RepD K F' ρ d (.ref p)) : ∀ p, H p = none → Q (.ref p) (upd H p o) := fun p hp =>
  h (upd F p o) ρ (upd H p o) (.ref p) (up_new (r.fnone hp)) (r.laid hp) (rd p _ rfl (up_new (r.fnone hp)) upd_same)
/-- a new mutable thing -/
theorem Wp.make {Q : VK} {E : XK} {o : HO} {m : MO} (h : Wp K ct (RepD K) F ρ G (.ok (.at M.length) (M ++ [m])) Q E) (r : Rel K ct F ρ M G H) (mr : ∀ p, Up F ρ F (ρ ++ [p]) → MRep K ct F (ρ ++ [p]) m o) : ∀ p, H p = none → Q (.ref p) (upd H p o) := fun p hp => by
  have u : Up F ρ F (ρ ++ [p]) := ⟨fun _ _ z => z, fun l a z => by rw [List.getElem?_append_left (List.getElem?_eq_some_iff.mp z).1]; exact z⟩
  obtain ⟨r1, u1⟩ := r.made hp (mr p u)
  exact h F (ρ ++ [p]) _ _ u1 r1 ⟨p, by rw [List.getElem?_append_right (by rw [r.len]; exact Nat.le_refl _), r.len]; simp, rfl⟩
end

/-- the slots -/
structure RelS (K : PySem.W.Frag) (F : Hp) (ρ : List Addr) (σ : Sg) (s : L2.St) : Prop where
  len : σ.length = s.length
  get : ∀ (i : Nat) (d : D), σ[i]? = some (some d) → ∃ v, s[i]? = some (some v) ∧ RepD K F ρ d v
theorem RelS.up {K : PySem.W.Frag} {F F' : Hp} {ρ ρ' : List Addr} {σ : Sg} {s : L2.St} (r : RelS K F ρ σ s) (u : Up F ρ F' ρ') : RelS K F' ρ' σ s :=
  ⟨r.len, fun i d e => let ⟨v, h1, h2⟩ := r.get i d e; ⟨v, h1, h2.up u⟩⟩
theorem RelS.set {K : PySem.W.Frag} {F : Hp} {ρ : List Addr} {σ : Sg} {s : L2.St} (r : RelS K F ρ σ s) {d : D} {v : V} (rd : RepD K F ρ d v) (i : Nat) : RelS K F ρ (σ.set i (some d)) (s.set i (some v)) := by
  refine ⟨by simp [r.len], fun j e h => ?_⟩
  by_cases hj : i = j
  · subst hj
    by_cases hi : i < σ.length
    · rw [List.getElem?_set_self hi] at h
      cases h
      exact ⟨v, by rw [List.getElem?_set_self (by rw [← r.len]; exact hi)], rd⟩
    · rw [List.getElem?_eq_none (by simpa using hi)] at h; cases h
  · rw [List.getElem?_set_ne hj] at h ⊢
    exact r.get j e h
theorem RelS.unset {K : PySem.W.Frag} {F : Hp} {ρ : List Addr} {σ : Sg} {s : L2.St} (r : RelS K F ρ σ s) (i : Nat) : RelS K F ρ (σ.set i none) (s.set i none) := by
  refine ⟨by simp [r.len], fun j e h => ?_⟩
  by_cases hj : i = j
  · subst hj
    by_cases hi : i < σ.length
    · rw [List.getElem?_set_self hi] at h; cases h
    · rw [List.getElem?_eq_none (by simpa using hi)] at h; cases h
  · rw [List.getElem?_set_ne hj] at h ⊢
    exact r.get j e h

abbrev ME := Sg → Mem → R D
abbrev MT := Sg → Mem → R Bool
abbrev MA := Sg → Mem → R (List D)
def SE (ct : Ct) (X : Cx) (W : WX) (e : Expr) (f : ME) : Prop := ∃ t, PE X e t ∧ ∀ F ρ M G σ s H Q, Rel X.K ct F ρ M G H → RelS X.K F ρ σ s → Wp X.K ct (RepD X.K) F ρ G (f σ M) Q (fun c d H' => W c d s H') → t s H Q
def SB (ct : Ct) (X : Cx) (W : WX) (e : Expr) (f : MT) : Prop := ∃ t, PT X e t ∧ ∀ F ρ M G σ s H Q, Rel X.K ct F ρ M G H → RelS X.K F ρ σ s → Wp X.K ct rpB F ρ G (f σ M) Q (fun c d H' => W c d s H') → t s H Q
def SW (ct : Ct) (X : Cx) (W : WX) (e : Expr) (f : MT) : Prop := ∃ t, PW X e t ∧ ∀ F ρ M G σ s H Q, Rel X.K ct F ρ M G H → RelS X.K F ρ σ s → Wp X.K ct rpB F ρ G (f σ M) Q (fun c d H' => W c d s H') → t s H Q
def SA (ct : Ct) (X : Cx) (W : WX) (es : List Expr) (f : MA) : Prop := ∃ t, PA X es t ∧ ∀ F ρ M G σ s H Q, Rel X.K ct F ρ M G H → RelS X.K F ρ σ s → Wp X.K ct (Reps X.K) F ρ G (f σ M) Q (fun c d H' => W c d s H') → t s H Q

section
variable {ct : Ct} {X : Cx} {W : WX} {e a b : Expr} {es : List Expr} {pos : Pos} {f fa fb : ME}
/-! ### names, constants -/
def mVar (i : Nat) : ME := fun σ M => match σ[i]? with
  | some (some d) => .ok d M
  | _ => .er
def mC (d : D) : ME := fun _ M => .ok d M
theorem se_var (i : Nat) {x : Str} (hN : X.N[i]? = some x := by rfl) (hv : Vis X.env.scope x := by first | exact Or.inl rfl | exact Or.inr (Or.inl rfl) | exact Or.inr (Or.inr rfl)) (hd : (x == ("__debug__" : Str)) = false := by decide)
    (hcd : (x == ("__classdict__" : Str)) = false := by decide) : SE ct X W (.Name x pos) (mVar i) := by
  refine ⟨_, pe_var hN hv hd hcd, fun F ρ M G σ s H Q r rs w => ?_⟩
  unfold mVar at w
  split at w
  · rename_i d h
    obtain ⟨v, h1, h2⟩ := rs.get i d h
    exact ⟨v, h1, w.val r h2⟩
  · exact w.elim
theorem se_int {i : Int} {j} : SE ct X W (.Constant (.int i) j pos) (mC (.p (.int i))) := ⟨_, pe_int, fun F ρ M G σ s H Q r rs w => w.val r (.int i)⟩
theorem se_str {x : Str} {j} : SE ct X W (.Constant (.str x) j pos) (mC (.p (.str x))) := ⟨_, pe_str, fun F ρ M G σ s H Q r rs w => w.val r (.str x)⟩
theorem se_bl {x : Bool} {j} : SE ct X W (.Constant (.bool x) j pos) (mC (.p (.bool x))) := ⟨_, pe_bl, fun F ρ M G σ s H Q r rs w => w.val r (.bl x)⟩
theorem se_non {j} : SE ct X W (.Constant .none j pos) (mC (.p .none)) := ⟨_, pe_non, fun F ρ M G σ s H Q r rs w => w.val r .non⟩
/-- a module's constant -/
theorem se_glob {x : Str} {v : V} {u : Value} {d : D} (hg : Gl X x) (hm : X.mg x = some u) (r : RelV v u) (rd : ∀ F ρ, RepD X.K F ρ d v) (hd : (x == ("__debug__" : Str)) = false := by decide) : SE ct X W (.Name x pos) (mC d) :=
  ⟨_, pe_glob hg hm r hd, fun F ρ M G σ s H Q r rs w => w.val r (rd F ρ)⟩
/-- a built-in class as a value -/
theorem se_bltn {x : Str} {v : V} {u : Value} (hg : Gl X x) (hm : X.mg x = none) (hv : bootBuiltins x = some u) (r : RelV v u) (hn : x ≠ "__name__" := by decide) (hd : (x == ("__debug__" : Str)) = false := by decide) : SE ct X W (.Name x pos) (mC (.raw v)) :=
  ⟨_, pe_bltn hg hm hv r hn hd, fun F ρ M G σ s H Q r rs w => w.val r rfl⟩

/-! ### operators -/
abbrev GD2 := D → D → Mem → R D
abbrev GDs := List D → Mem → R D
def OL (ct : Ct) (X : Cx) (r : R2) (g : GD2) : Prop := ∀ F ρ M G H a b x y Q E, Rel X.K ct F ρ M G H → RepD X.K F ρ a x → RepD X.K F ρ b y → Wp X.K ct (RepD X.K) F ρ G (g a b M) Q E → r x y H Q
def CL (ct : Ct) (X : Cx) (r : List V → Hp → VK → Prop) (g : GDs) : Prop := ∀ F ρ M G H as xs Q E, Rel X.K ct F ρ M G H → Reps X.K F ρ as xs → Wp X.K ct (RepD X.K) F ρ G (g as M) Q E → r xs H Q
/-- an operator with its function -/
def OG (ct : Ct) (X : Cx) (op : Value → Value → Sem Value) (g : GD2) : Prop := ∃ r, OpR X op r ∧ OL ct X r g
def CG (ct : Ct) (X : Cx) (f : Value) (g : GDs) : Prop := ∃ r, CallR X f r ∧ CL ct X r g
def bin (g : GD2) (fa fb : ME) : ME := fun σ M => (fa σ M).bind fun x M1 => (fb σ M1).bind fun y M2 => g x y M2
theorem op_run {r : R2} {g : GD2} (ol : OL ct X r g) {ta tb : TE}
    (la : ∀ F ρ M G σ s H Q, Rel X.K ct F ρ M G H → RelS X.K F ρ σ s → Wp X.K ct (RepD X.K) F ρ G (fa σ M) Q (fun c d H' => W c d s H') → ta s H Q)
    (lb : ∀ F ρ M G σ s H Q, Rel X.K ct F ρ M G H → RelS X.K F ρ σ s → Wp X.K ct (RepD X.K) F ρ G (fb σ M) Q (fun c d H' => W c d s H') → tb s H Q) :
    ∀ F ρ M G σ s H Q, Rel X.K ct F ρ M G H → RelS X.K F ρ σ s → Wp X.K ct (RepD X.K) F ρ G (bin g fa fb σ M) Q (fun c d H' => W c d s H') → tOp r ta tb s H Q := by
  intro F ρ M G σ s H Q rl rs w
  refine la F ρ M G σ s H _ rl rs (w.thn fun x M1 F1 ρ1 H1 v1 u1 r1 d1 w1 => ?_)
  refine lb F1 ρ1 M1 G σ s H1 _ r1 (rs.up u1) (w1.thn fun y M2 F2 ρ2 H2 v2 u2 r2 d2 w2 => ?_)
  exact ol F2 ρ2 M2 G H2 x y v1 v2 Q _ r2 (d1.up u2) d2 w2
theorem se_bin {op : Operator} {g : GD2} (o : OG ct X (binaryOp op) g) (ha : SE ct X W a fa) (hb : SE ct X W b fb) : SE ct X W (.BinOp a op b pos) (bin g fa fb) := by
  obtain ⟨r, ho, ol⟩ := o
  obtain ⟨ta, pa, la⟩ := ha
  obtain ⟨tb, pb, lb⟩ := hb
  exact ⟨_, pe_op ho pa pb, op_run ol la lb⟩
theorem se_cmp {op : CmpOp} {g : GD2} (o : OG ct X (compareOp op) g) (ha : SE ct X W a fa) (hb : SE ct X W b fb) (hm : behindInMarks op b = false := by first | exact nomark _ | rfl) : SE ct X W (.Compare a [op] [b] pos) (bin g fa fb) := by
  obtain ⟨r, ho, ol⟩ := o
  obtain ⟨ta, pa, la⟩ := ha
  obtain ⟨tb, pb, lb⟩ := hb
  exact ⟨_, pe_cmpR ho pa pb hm, op_run ol la lb⟩
def asB (f : ME) : MT := fun σ M => (f σ M).bind fun d M1 => match d with
  | .p (.bool b) => .ok b M1
  | _ => .er
theorem asB_run {t : TE} (l : ∀ F ρ M G σ s H Q, Rel X.K ct F ρ M G H → RelS X.K F ρ σ s → Wp X.K ct (RepD X.K) F ρ G (f σ M) Q (fun c d H' => W c d s H') → t s H Q) :
    ∀ F ρ M G σ s H Q, Rel X.K ct F ρ M G H → RelS X.K F ρ σ s → Wp X.K ct rpB F ρ G (asB f σ M) Q (fun c d H' => W c d s H') → t s H (fun x H' => ∃ k, x = .bl k ∧ Q k H') := by
  intro F ρ M G σ s H Q rl rs w
  refine l F ρ M G σ s H _ rl rs (w.thn fun x M1 F1 ρ1 H1 v1 u1 r1 d1 w1 => ?_)
  split at w1
  · cases d1
    exact ⟨_, rfl, w1.val r1 rfl⟩
  · exact w1.elim
theorem sb_cmp {op : CmpOp} {g : GD2} (o : OG ct X (compareOp op) g) (ha : SE ct X W a fa) (hb : SE ct X W b fb) (hm : behindInMarks op b = false := by first | exact nomark _ | rfl) : SB ct X W (.Compare a [op] [b] pos) (asB (bin g fa fb)) := by
  obtain ⟨r, ho, ol⟩ := o
  obtain ⟨ta, pa, la⟩ := ha
  obtain ⟨tb, pb, lb⟩ := hb
  exact ⟨_, pt_cmpR ho pa pb hm, asB_run (op_run ol la lb)⟩
theorem sb_val (h : SE ct X W e f) (he : ∀ whole, isTrue e X.env whole = (do let v ← whole; standAt e.pos; holding [v] (truthy v)) := by intro _; rfl) : SB ct X W e (asB f) := by
  obtain ⟨t, p, l⟩ := h
  exact ⟨_, pt_val p he, asB_run l⟩
theorem SW.sb {g : MT} (h : SW ct X W e g) : SB ct X W e g := by
  obtain ⟨t, p, l⟩ := h
  exact ⟨t, p.pt, l⟩
def tAndD (ga gb : MT) : MT := fun σ M => (ga σ M).bind fun c M1 => if c = true then gb σ M1 else .ok false M1
def tOrD (ga gb : MT) : MT := fun σ M => (ga σ M).bind fun c M1 => if c = true then .ok true M1 else gb σ M1
def tNotD (ga : MT) : MT := fun σ M => (ga σ M).bind fun c M1 => .ok (!c) M1
variable {rest : List Expr} {ga gb : MT}
theorem sw_and1 (h : SB ct X W a ga) : SW ct X W (.BoolOp .And [a] pos) ga := by
  obtain ⟨t, p, l⟩ := h
  exact ⟨t, pw_and1 p, l⟩
theorem sw_or1 (h : SB ct X W a ga) : SW ct X W (.BoolOp .Or [a] pos) ga := by
  obtain ⟨t, p, l⟩ := h
  exact ⟨t, pw_or1 p, l⟩
theorem sw_and (ha : SB ct X W a ga) (hb : SW ct X W (.BoolOp .And (b :: rest) pos) gb) : SW ct X W (.BoolOp .And (a :: b :: rest) pos) (tAndD ga gb) := by
  obtain ⟨ta, pa, la⟩ := ha
  obtain ⟨tb, pb, lb⟩ := hb
  refine ⟨_, pw_and pa pb, fun F ρ M G σ s H Q rl rs w => ?_⟩
  refine la F ρ M G σ s H _ rl rs (w.thn fun c M1 F1 ρ1 H1 c' u1 r1 d1 w1 => ?_)
  cases d1
  cases c with
  | true => exact iteT (lb F1 ρ1 M1 G σ s H1 _ r1 (rs.up u1) w1)
  | false => exact iteF (w1.val r1 rfl)
theorem sw_or (ha : SB ct X W a ga) (hb : SW ct X W (.BoolOp .Or (b :: rest) pos) gb) : SW ct X W (.BoolOp .Or (a :: b :: rest) pos) (tOrD ga gb) := by
  obtain ⟨ta, pa, la⟩ := ha
  obtain ⟨tb, pb, lb⟩ := hb
  refine ⟨_, pw_or pa pb, fun F ρ M G σ s H Q rl rs w => ?_⟩
  refine la F ρ M G σ s H _ rl rs (w.thn fun c M1 F1 ρ1 H1 c' u1 r1 d1 w1 => ?_)
  cases d1
  cases c with
  | true => exact iteT (w1.val r1 rfl)
  | false => exact iteF (lb F1 ρ1 M1 G σ s H1 _ r1 (rs.up u1) w1)
theorem sb_not (ha : SB ct X W a ga) : SB ct X W (.UnaryOp .Not a pos) (tNotD ga) := by
  obtain ⟨ta, pa, la⟩ := ha
  refine ⟨_, pt_not pa, fun F ρ M G σ s H Q rl rs w => ?_⟩
  refine la F ρ M G σ s H _ rl rs (w.thn fun c M1 F1 ρ1 H1 c' u1 r1 d1 w1 => ?_)
  cases d1
  exact w1.val r1 rfl
/-! .. as values -/
def andD (fa fb : ME) : ME := fun σ M => (fa σ M).bind fun x M1 => match x with
  | .p (.bool c) => if c = true then fb σ M1 else .ok (.p (.bool false)) M1
  | _ => .er
def orD (fa fb : ME) : ME := fun σ M => (fa σ M).bind fun x M1 => match x with
  | .p (.bool c) => if c = true then .ok (.p (.bool true)) M1 else fb σ M1
  | _ => .er
def notD (fa : ME) : ME := fun σ M => (fa σ M).bind fun x M1 => match x with
  | .p (.bool c) => .ok (.p (.bool (!c))) M1
  | _ => .er
theorem se_one {op} (h : SE ct X W a fa) : SE ct X W (.BoolOp op [a] pos) fa := by
  obtain ⟨t, p, l⟩ := h
  exact ⟨t, pe_one p, l⟩
theorem se_and (ha : SE ct X W a fa) (hb : SE ct X W (.BoolOp .And (b :: rest) pos) fb) : SE ct X W (.BoolOp .And (a :: b :: rest) pos) (andD fa fb) := by
  obtain ⟨ta, pa, la⟩ := ha
  obtain ⟨tb, pb, lb⟩ := hb
  refine ⟨_, pe_and pa pb, fun F ρ M G σ s H Q rl rs w => ?_⟩
  refine la F ρ M G σ s H _ rl rs (w.thn fun x M1 F1 ρ1 H1 v1 u1 r1 d1 w1 => ?_)
  split at w1
  · rename_i c
    cases d1
    refine ⟨c, rfl, ?_⟩
    cases c with
    | true => exact iteT (lb F1 ρ1 M1 G σ s H1 _ r1 (rs.up u1) w1)
    | false => exact iteF (w1.val r1 (.bl false))
  · exact w1.elim
theorem se_or (ha : SE ct X W a fa) (hb : SE ct X W (.BoolOp .Or (b :: rest) pos) fb) : SE ct X W (.BoolOp .Or (a :: b :: rest) pos) (orD fa fb) := by
  obtain ⟨ta, pa, la⟩ := ha
  obtain ⟨tb, pb, lb⟩ := hb
  refine ⟨_, pe_or pa pb, fun F ρ M G σ s H Q rl rs w => ?_⟩
  refine la F ρ M G σ s H _ rl rs (w.thn fun x M1 F1 ρ1 H1 v1 u1 r1 d1 w1 => ?_)
  split at w1
  · rename_i c
    cases d1
    refine ⟨c, rfl, ?_⟩
    cases c with
    | true => exact iteT (w1.val r1 (.bl true))
    | false => exact iteF (lb F1 ρ1 M1 G σ s H1 _ r1 (rs.up u1) w1)
  · exact w1.elim
theorem se_not (ha : SE ct X W a fa) : SE ct X W (.UnaryOp .Not a pos) (notD fa) := by
  obtain ⟨ta, pa, la⟩ := ha
  refine ⟨_, pe_not pa, fun F ρ M G σ s H Q rl rs w => ?_⟩
  refine la F ρ M G σ s H _ rl rs (w.thn fun x M1 F1 ρ1 H1 v1 u1 r1 d1 w1 => ?_)
  split at w1
  · rename_i c
    cases d1
    exact ⟨c, rfl, w1.val r1 (.bl (!c))⟩
  · exact w1.elim
def ifD (g : MT) (fa fb : ME) : ME := fun σ M => (g σ M).bind fun c M1 => if c = true then fa σ M1 else fb σ M1
theorem se_ifExp {c : Expr} {g : MT} (hc : SB ct X W c g) (ha : SE ct X W a fa) (hb : SE ct X W b fb) : SE ct X W (.IfExp c a b pos) (ifD g fa fb) := by
  obtain ⟨tc, pc, lc⟩ := hc
  obtain ⟨ta, pa, la⟩ := ha
  obtain ⟨tb, pb, lb⟩ := hb
  refine ⟨_, pe_ifExp pc pa pb, fun F ρ M G σ s H Q rl rs w => ?_⟩
  refine lc F ρ M G σ s H _ rl rs (w.thn fun c M1 F1 ρ1 H1 c' u1 r1 d1 w1 => ?_)
  cases d1
  cases c with
  | true => exact iteT (la F1 ρ1 M1 G σ s H1 _ r1 (rs.up u1) w1)
  | false => exact iteF (lb F1 ρ1 M1 G σ s H1 _ r1 (rs.up u1) w1)
/-- a < b < c -/
def chain (g g' : GD2) (fa fb fc : ME) : ME := fun σ M => (fa σ M).bind fun x M1 => (fb σ M1).bind fun y M2 => (g x y M2).bind fun z M3 => match z with
  | .p (.bool k) => if k = true then (fc σ M3).bind fun v M4 => g' y v M4 else .ok (.p (.bool false)) M3
  | _ => .er
theorem se_chain {op op' : CmpOp} {g g' : GD2} {c : Expr} {fc : ME} (o : OG ct X (compareOp op) g) (o' : OG ct X (compareOp op') g') (ha : SE ct X W a fa) (hb : SE ct X W b fb) (hc : SE ct X W c fc) (hm : lastMarks [op, op'] [b, c] = false := by rfl) :
    SE ct X W (.Compare a [op, op'] [b, c] pos) (chain g g' fa fb fc) := by
  obtain ⟨r, ho, ol⟩ := o
  obtain ⟨r', ho', ol'⟩ := o'
  obtain ⟨ta, pa, la⟩ := ha
  obtain ⟨tb, pb, lb⟩ := hb
  obtain ⟨tc, pc, lc⟩ := hc
  refine ⟨_, pe_chain ho ho' pa pb pc hm, fun F ρ M G σ s H Q rl rs w => ?_⟩
  refine la F ρ M G σ s H _ rl rs (w.thn fun x M1 F1 ρ1 H1 v1 u1 r1 d1 w1 => ?_)
  refine lb F1 ρ1 M1 G σ s H1 _ r1 (rs.up u1) (w1.thn fun y M2 F2 ρ2 H2 v2 u2 r2 d2 w2 => ?_)
  refine ol F2 ρ2 M2 G H2 x y v1 v2 _ _ r2 (d1.up u2) d2 (w2.thn fun z M3 F3 ρ3 H3 v3 u3 r3 d3 w3 => ?_)
  split at w3
  · rename_i k
    cases d3
    refine ⟨k, rfl, ?_⟩
    cases k with
    | true => exact iteT (lc F3 ρ3 M3 G σ s H3 _ r3 (rs.up (u1.trans (u2.trans u3))) (w3.thn fun v M4 F4 ρ4 H4 v4 u4 r4 d4 w4 => ol' F4 ρ4 M4 G H4 y v v2 v4 Q _ r4 (d2.up (u3.trans u4)) d4 w4))
    | false => exact iteF (w3.val r3 (.bl false))
  · exact w3.elim

/-! ### argument lists, displays -/
def aNil : MA := fun _ M => .ok [] M
def aCons (f : ME) (g : MA) : MA := fun σ M => (f σ M).bind fun x M1 => (g σ M1).bind fun xs M2 => .ok (x :: xs) M2
theorem sa_nil : SA ct X W [] aNil := ⟨_, pa_nil, fun F ρ M G σ s H Q r rs w => w.val r .nil⟩
theorem sa_cons {g : MA} (ha : SE ct X W e f) (hr : SA ct X W es g) (hs : starEach (e :: es) X.env = (false, eval e X.env) :: starEach es X.env := by rfl) : SA ct X W (e :: es) (aCons f g) := by
  obtain ⟨ta, pa, la⟩ := ha
  obtain ⟨tb, pb, lb⟩ := hr
  refine ⟨_, pa_cons pa pb hs, fun F ρ M G σ s H Q rl rs w => ?_⟩
  refine la F ρ M G σ s H _ rl rs (w.thn fun x M1 F1 ρ1 H1 v1 u1 r1 d1 w1 => ?_)
  refine lb F1 ρ1 M1 G σ s H1 _ r1 (rs.up u1) (w1.thn fun xs M2 F2 ρ2 H2 vs u2 r2 d2 w2 => ?_)
  exact w2.val r2 (.cons (d1.up u2) d2)
/-- a tuple of data -/
def tupD : GDs := fun xs M => if xs.length ≤ sizeLine then (match unP xs with
  | some ds => .ok (.p (.tuple ds)) M
  | none => .er) else .er
def lstD : GDs := fun xs M => if xs.length ≤ sizeLine then (match unP xs with
  | some ds => .ok (.p (.list ds)) M
  | none => .er) else .er
/-- a list, a tuple, that has a place in the store -/
def lstM : GDs := fun xs M => if xs.length ≤ sizeLine then .ok (.at M.length) (M ++ [.lst xs]) else .er
def tupM : GDs := fun xs M => if xs.length ≤ sizeLine then .ok (.at M.length) (M ++ [.tup xs]) else .er
def app (g : GDs) (fs : MA) : ME := fun σ M => (fs σ M).bind g
theorem newT {F ρ M G H xs vs} {Q : VK} {E : XK} (r : Rel X.K ct F ρ M G H) (rx : Reps X.K F ρ xs vs) (w : Wp X.K ct (RepD X.K) F ρ G (tupD xs M) Q E) : vs.length ≤ sizeLine ∧ ∀ p, H p = none → Q (.ref p) (upd H p (.tup vs)) := by
  unfold tupD at w
  split at w
  · rename_i hz
    rw [rx.length] at hz
    split at w
    · rename_i ds he
      refine ⟨hz, w.new r fun p F' _ u e => ?_⟩
      have := unP_some he
      subst this
      exact Rp.tup (SqT.of e) hz (rx.up u).toAll
    · exact w.elim
  · exact w.elim
theorem newL {F ρ M G H xs vs} {Q : VK} {E : XK} (r : Rel X.K ct F ρ M G H) (rx : Reps X.K F ρ xs vs) (w : Wp X.K ct (RepD X.K) F ρ G (lstD xs M) Q E) : vs.length ≤ sizeLine ∧ ∀ p, H p = none → Q (.ref p) (upd H p (.lst vs)) := by
  unfold lstD at w
  split at w
  · rename_i hz
    rw [rx.length] at hz
    split at w
    · rename_i ds he
      refine ⟨hz, w.new r fun p F' _ u e => ?_⟩
      have := unP_some he
      subst this
      exact Rp.lst e hz (rx.up u).toAll
    · exact w.elim
  · exact w.elim
theorem newLM {F ρ M G H xs vs} {Q : VK} {E : XK} (r : Rel X.K ct F ρ M G H) (rx : Reps X.K F ρ xs vs) (w : Wp X.K ct (RepD X.K) F ρ G (lstM xs M) Q E) : vs.length ≤ sizeLine ∧ ∀ p, H p = none → Q (.ref p) (upd H p (.lst vs)) := by
  unfold lstM at w
  split at w
  · rename_i hz
    rw [rx.length] at hz
    exact ⟨hz, w.make r fun p u => ⟨vs, rfl, rx.up u, hz⟩⟩
  · exact w.elim
theorem newTM {F ρ M G H xs vs} {Q : VK} {E : XK} (r : Rel X.K ct F ρ M G H) (rx : Reps X.K F ρ xs vs) (w : Wp X.K ct (RepD X.K) F ρ G (tupM xs M) Q E) : vs.length ≤ sizeLine ∧ ∀ p, H p = none → Q (.ref p) (upd H p (.tup vs)) := by
  unfold tupM at w
  split at w
  · rename_i hz
    rw [rx.length] at hz
    exact ⟨hz, w.make r fun p u => ⟨vs, rfl, rx.up u, hz⟩⟩
  · exact w.elim
theorem se_tup {x1} {g : MA} (h : SA ct X W es g) : SE ct X W (.Tuple es x1 pos) (app tupD g) := by
  obtain ⟨ta, pa, la⟩ := h
  exact ⟨_, pe_tup pa, fun F ρ M G σ s H Q rl rs w => la F ρ M G σ s H _ rl rs (w.thn fun xs M1 F1 ρ1 H1 vs u1 r1 d1 w1 => newT r1 d1 w1)⟩
theorem se_lst {g : MA} (h : SA ct X W es g) : SE ct X W (.List es pos) (app lstD g) := by
  obtain ⟨ta, pa, la⟩ := h
  exact ⟨_, pe_lst pa, fun F ρ M G σ s H Q rl rs w => la F ρ M G σ s H _ rl rs (w.thn fun xs M1 F1 ρ1 H1 vs u1 r1 d1 w1 => newL r1 d1 w1)⟩
theorem se_tupM {x1} {g : MA} (h : SA ct X W es g) : SE ct X W (.Tuple es x1 pos) (app tupM g) := by
  obtain ⟨ta, pa, la⟩ := h
  exact ⟨_, pe_tup pa, fun F ρ M G σ s H Q rl rs w => la F ρ M G σ s H _ rl rs (w.thn fun xs M1 F1 ρ1 H1 vs u1 r1 d1 w1 => newTM r1 d1 w1)⟩
theorem se_lstM {g : MA} (h : SA ct X W es g) : SE ct X W (.List es pos) (app lstM g) := by
  obtain ⟨ta, pa, la⟩ := h
  exact ⟨_, pe_lst pa, fun F ρ M G σ s H Q rl rs w => la F ρ M G σ s H _ rl rs (w.thn fun xs M1 F1 ρ1 H1 vs u1 r1 d1 w1 => newLM r1 d1 w1)⟩
/-! ### calls of built-ins -/
theorem se_callB {x : Str} {id : String} {g : GDs} {fs : MA} {p : Pos} (c : CG ct X (.builtin id) g) (ha : SA ct X W (e :: es) fs) (hg : Gl X x) (hm : X.mg x = none) (hv : bootBuiltins x = some (.builtin id)) (hn : x ≠ "__name__" := by decide) (hdb : (x == ("__debug__" : Str)) = false := by decide)
    (he : starEach (e :: es) X.env = (false, eval e X.env) :: starEach es X.env := by rfl) (hpl : (backTo pos (starEach es X.env)).any (·.1) = false := by rfl) : SE ct X W (.Call (.Name x p) (e :: es) [] pos) (app g fs) := by
  obtain ⟨r, hc, cl⟩ := c
  obtain ⟨ta, pa, la⟩ := ha
  exact ⟨_, pe_callB hc hg hm hv pa hn hdb he hpl, fun F ρ M G σ s H Q rl rs w => la F ρ M G σ s H _ rl rs (w.thn fun xs M1 F1 ρ1 H1 vs u1 r1 d1 w1 => cl F1 ρ1 M1 G H1 xs vs Q _ r1 d1 w1)⟩
theorem se_callTy {x : Str} {T : String} {g : GDs} {fs : MA} {p : Pos} (c : CG ct X (.type T) g) (ha : SA ct X W (e :: es) fs) (hg : Gl X x) (hm : X.mg x = none) (hv : bootBuiltins x = some (.type T)) (hn : x ≠ "__name__" := by decide) (hdb : (x == ("__debug__" : Str)) = false := by decide)
    (he : starEach (e :: es) X.env = (false, eval e X.env) :: starEach es X.env := by rfl) (hpl : (backTo pos (starEach es X.env)).any (·.1) = false := by rfl) : SE ct X W (.Call (.Name x p) (e :: es) [] pos) (app g fs) := by
  obtain ⟨r, hc, cl⟩ := c
  obtain ⟨ta, pa, la⟩ := ha
  exact ⟨_, pe_callTy hc hg hm hv pa hn hdb he hpl, fun F ρ M G σ s H Q rl rs w => la F ρ M G σ s H _ rl rs (w.thn fun xs M1 F1 ρ1 H1 vs u1 r1 d1 w1 => cl F1 ρ1 M1 G H1 xs vs Q _ r1 d1 w1)⟩
end
end Tl

/-! The tree layer, part 3: operators, subscripts, slices, built-ins. -/
namespace Tl
open PySem L2

section
variable {K : PySem.W.Frag} {ct : Ct} {F F' : Hp} {ρ ρ' : List Addr} {M : Mem} {G H : Hp}
/-- plain data that a value is -/
def dataOf (M : Mem) : D → Option PyData
  | .p d => some d
  | .at l => match M[l]? with
    | some (.lst xs) => (unP xs).map .list
    | some (.tup xs) => (unP xs).map .tuple
    | _ => none
  | _ => none
theorem shaped_can {d : PyData} (h : SeqAt.shaped d = true) : d.canLay0 = true := SeqAt.canLay_of_shaped h
mutual
theorem Rp.dp (r : ∀ a o, F a = some o → H a = some o) : ∀ {d : PyData} {v : V}, d.canLay0 = true → Rp K F d v → Dp K H v d
  | _, _, _, .non => .non
  | _, _, _, .bl b => .bl b
  | _, _, _, .int i => .int i
  | _, _, _, .str x => .str x
  | .list _, _, c, .lst h _ t => .lst (SqL.of (r _ _ h)) (RpAll.dp r (by simpa [PyData.canLay0] using c) t)
  | .tuple _, _, c, .tup h _ t => .tup (sqT_up r h) (RpAll.dp r (by simpa [PyData.canLay0] using c) t)
  | .dict _, _, c, .dic _ _ => by simp [PyData.canLay0] at c
theorem RpAll.dp (r : ∀ a o, F a = some o → H a = some o) : ∀ {ds : List PyData} {vs : List V}, PyData.canLayAll0 ds = true → RpAll K F ds vs → DpAll K H vs ds
  | [], _, _, .nil => .nil
  | d :: ds, _, c, .cons h t => by
    have c' : d.canLay0 = true ∧ PyData.canLayAll0 ds = true := by simpa [PyData.canLayAll0] using c
    exact .cons (Rp.dp r c'.1 h) (RpAll.dp r c'.2 t)
end
theorem Rel.dp (r : Rel K ct F ρ M G H) {d : D} {v : V} {x : PyData} (rd : RepD K F ρ d v) (e : dataOf M d = some x) (c : x.canLay0 = true) : Dp K H v x := by
  cases d with
  | p d => cases e; exact Rp.dp r.sub c rd
  | «at» l =>
    obtain ⟨a, ha, rfl⟩ := rd
    simp only [dataOf] at e
    split at e
    · rename_i xs hm
      obtain ⟨ds, h1, h2⟩ := Option.map_eq_some_iff.mp e
      subst h2
      obtain ⟨b, ho, g1, g2, g3, g4, vs, g5, g6, g7⟩ := r.obj l _ hm
      rw [ha] at g1; cases g1
      subst g5
      have := unP_some h1
      subst this
      exact .lst (SqL.of g4) (RpAll.dp r.sub (by simpa [PyData.canLay0] using c) g6.toAll)
    · rename_i xs hm
      obtain ⟨ds, h1, h2⟩ := Option.map_eq_some_iff.mp e
      subst h2
      obtain ⟨b, ho, g1, g2, g3, g4, vs, g5, g6, g7⟩ := r.obj l _ hm
      rw [ha] at g1; cases g1
      subst g5
      have := unP_some h1
      subst this
      exact .tup (SqT.of g4) (RpAll.dp r.sub (by simpa [PyData.canLay0] using c) g6.toAll)
    · cases e
  | raw v => cases e
  | scr v => cases e
end

section
variable {ct : Ct} {X : Cx} {W : WX} {e a b : Expr} {es : List Expr} {pos : Pos} {f fa fb : ME}
/-! ### arithmetic -/
def addD : GD2 := fun a b M => match a, b with
  | .p (.int i), .p (.int j) => .ok (.p (.int (i + j))) M
  | .p (.str x), .p (.str y) => if x.length + y.length ≤ sizeLine then .ok (.p (.str (x ++ y))) M else .er
  | .p (.tuple xs), .p (.tuple ys) => if xs.length + ys.length ≤ sizeLine then .ok (.p (.tuple (xs ++ ys))) M else .er
  | a, b => match seqOf M a, seqOf M b with
    | some (true, xs), some (true, ys) => lstD (xs ++ ys) M
    | _, _ => .er
theorem og_add : OG ct X (binaryOp .Add) addD := by
  refine ⟨_, op_add.or (op_add_str.or (op_catA.or op_cat)), fun F ρ M G H a b x y Q E r ra rb w => ?_⟩
  unfold addD at w
  split at w
  · cases ra; cases rb
    exact .inl ⟨_, _, rfl, rfl, w.val r (.int _)⟩
  · cases ra; cases rb
    split at w
    · exact .inr (.inl ⟨_, _, rfl, rfl, by assumption, w.val r (.str _)⟩)
    · exact w.elim
  · cases ra with
    | tup h1 z1 t1 =>
      cases rb with
      | tup h2 z2 t2 =>
        rename_i xs ys a vs b us
        split at w
        · rename_i hz
          refine .inr (.inr (.inl ⟨_, _, _, _, rfl, rfl, sqT_up r.sub h1, sqT_up r.sub h2, ?_, ?_, ?_, ?_⟩))
          · rw [← t1.length, ← t2.length]; exact hz
          · intro e
            subst e
            cases t1
            exact w.val r (.tup h2 z2 t2)
          · intro _ e
            subst e
            cases t2
            rw [List.append_nil] at w
            exact w.val r (.tup h1 z1 t1)
          · intro _ _
            have hl : (vs ++ us).length ≤ sizeLine := by rw [List.length_append, ← t1.length, ← t2.length]; exact hz
            refine w.new r fun p F' _ u e => ?_
            have q := ((Reps.ofAll (ρ := ρ) t1).append (Reps.ofAll (ρ := ρ) t2)).up u
            rw [← List.map_append] at q
            exact Rp.tup (SqT.of e) hl q.toAll
        · exact w.elim
  · split at w
    · rename_i xs ys e1 e2
      obtain ⟨p, vs, rfl, h1, t1, z1⟩ := r.seqL ra e1
      obtain ⟨q, us, rfl, h2, t2, z2⟩ := r.seqL rb e2
      have := newL r (t1.append t2) w
      exact .inr (.inr (.inr ⟨p, q, vs, us, rfl, rfl, h1, h2, by simpa using this.1, this.2⟩))
    · exact w.elim
def subD : GD2 := fun a b M => match a, b with
  | .p (.int i), .p (.int j) => .ok (.p (.int (i - j))) M
  | _, _ => .er
theorem og_sub : OG ct X (binaryOp .Sub) subD := by
  refine ⟨_, op_sub, fun F ρ M G H a b x y Q E r ra rb w => ?_⟩
  unfold subD at w
  split at w
  · cases ra; cases rb
    exact ⟨_, _, rfl, rfl, w.val r (.int _)⟩
  · exact w.elim
def mulD : GD2 := fun a b M => match a, b with
  | .p (.int i), .p (.int j) => if (-(2 ^ 64) < i ∧ i < 2 ^ 64) ∨ (-(2 ^ 64) < j ∧ j < 2 ^ 64) then .ok (.p (.int (i * j))) M else .er
  | a, .p (.int k) => match seqOf M a with
    | some (true, xs) => if -(2 ^ 63) ≤ k ∧ k < 2 ^ 63 ∧ xs.length * k.toNat ≤ sizeLine then lstD (List.replicate k.toNat xs).flatten M else .er
    | _ => .er
  | _, _ => .er
theorem Reps.rep {K : PySem.W.Frag} {F : Hp} {ρ : List Addr} {ds : List D} {vs : List V} (h : Reps K F ρ ds vs) : ∀ n : Nat, Reps K F ρ (List.replicate n ds).flatten (List.replicate n vs).flatten
  | 0 => .nil
  | n + 1 => by rw [List.replicate_succ, List.replicate_succ, List.flatten_cons, List.flatten_cons]; exact h.append (h.rep n)
theorem og_mul : OG ct X (binaryOp .Mult) mulD := by
  refine ⟨_, op_mul.or op_rep, fun F ρ M G H a b x y Q E r ra rb w => ?_⟩
  unfold mulD at w
  split at w
  · cases ra; cases rb
    split at w
    · exact .inl ⟨_, _, rfl, rfl, by assumption, w.val r (.int _)⟩
    · exact w.elim
  · cases rb
    split at w
    · rename_i xs e1
      obtain ⟨p, vs, rfl, h1, t1, z1⟩ := r.seqL ra e1
      split at w
      · rename_i hk
        have hn := newL r (t1.rep _) w
        exact .inr ⟨p, _, vs, rfl, rfl, h1, hk.1, hk.2.1, by rw [← t1.length]; exact hk.2.2, hn.2⟩
      · exact w.elim
    · exact w.elim
  · exact w.elim
def fdivD : GD2 := fun a b M => match a, b with
  | .p (.int i), .p (.int j) => if 0 < j ∧ j < 1073741824 then .ok (.p (.int (i / j))) M else .er
  | _, _ => .er
theorem og_fdiv : OG ct X (binaryOp .FloorDiv) fdivD := by
  refine ⟨_, op_fdiv, fun F ρ M G H a b x y Q E r ra rb w => ?_⟩
  unfold fdivD at w
  split at w
  · cases ra; cases rb
    split at w
    · exact ⟨_, _, rfl, rfl, by assumption, w.val r (.int _)⟩
    · exact w.elim
  · exact w.elim
def modD : GD2 := fun a b M => match a, b with
  | .p (.int i), .p (.int j) => if 0 < j then .ok (.p (.int (i % j))) M else .er
  | _, _ => .er
theorem og_mod : OG ct X (binaryOp .Mod) modD := by
  refine ⟨_, op_mod, fun F ρ M G H a b x y Q E r ra rb w => ?_⟩
  unfold modD at w
  split at w
  · cases ra; cases rb
    split at w
    · exact ⟨_, _, rfl, rfl, by assumption, w.val r (.int _)⟩
    · exact w.elim
  · exact w.elim
def powD : GD2 := fun a b M => match a, b with
  | .p (.int i), .p (.int j) => if 0 ≤ j ∧ j ≤ 1000000 ∧ i.natAbs < 2 ^ 64 then .ok (.p (.int (i ^ j.toNat))) M else .er
  | _, _ => .er
theorem og_pow : OG ct X (binaryOp .Pow) powD := by
  refine ⟨_, op_pow, fun F ρ M G H a b x y Q E r ra rb w => ?_⟩
  unfold powD at w
  split at w
  · cases ra; cases rb
    split at w
    · exact ⟨_, _, rfl, rfl, by assumption, w.val r (.int _)⟩
    · exact w.elim
  · exact w.elim
/-- -a -/
def negD (fa : ME) : ME := fun σ M => (fa σ M).bind fun x M1 => match x with
  | .p (.int i) => .ok (.p (.int (-i))) M1
  | _ => .er
theorem se_neg (ha : SE ct X W a fa) : SE ct X W (.UnaryOp .USub a pos) (negD fa) := by
  obtain ⟨ta, pa, la⟩ := ha
  refine ⟨_, pe_un un_neg pa, fun F ρ M G σ s H Q rl rs w => ?_⟩
  refine la F ρ M G σ s H _ rl rs (w.thn fun x M1 F1 ρ1 H1 v1 u1 r1 d1 w1 => ?_)
  split at w1
  · cases d1
    exact ⟨_, rfl, w1.val r1 (.int _)⟩
  · exact w1.elim
/-! ### comparisons -/
def eqD : GD2 := fun a b M => match a, b with
  | .p (.str x), .p (.str y) => .ok (.p (.bool (decide (x = y)))) M
  | a, b => match dataOf M a, dataOf M b with
    | some x, some y => if SeqAt.shaped x = true ∧ SeqAt.shaped y = true then .ok (.p (.bool (PyData.eqv x y))) M else .er
    | _, _ => .er
def neD : GD2 := fun a b M => match a, b with
  | .p (.str x), .p (.str y) => .ok (.p (.bool (!decide (x = y)))) M
  | a, b => match dataOf M a, dataOf M b with
    | some x, some y => if SeqAt.shaped x = true ∧ SeqAt.shaped y = true then .ok (.p (.bool (!PyData.eqv x y))) M else .er
    | _, _ => .er
theorem og_eq (hu : X.A.units + 64 < cLine) : OG ct X (compareOp .Eq) eqD := by
  refine ⟨_, op_eq.or (op_eqD hu), fun F ρ M G H a b x y Q E r ra rb w => ?_⟩
  unfold eqD at w
  split at w
  · cases ra; cases rb
    rename_i x y
    exact .inl ⟨rfl, by rw [show decide (V.str x = V.str y) = decide (x = y) by simp]; exact w.val r (.bl _)⟩
  · split at w
    · rename_i d e e1 e2
      split at w
      · rename_i hs
        exact .inr ⟨d, e, r.dp ra e1 (shaped_can hs.1), r.dp rb e2 (shaped_can hs.2), hs.1, hs.2, w.val r (.bl _)⟩
      · exact w.elim
    · exact w.elim
theorem og_ne (hu : X.A.units + 64 < cLine) : OG ct X (compareOp .NotEq) neD := by
  refine ⟨_, op_ne.or (op_neD hu), fun F ρ M G H a b x y Q E r ra rb w => ?_⟩
  unfold neD at w
  split at w
  · cases ra; cases rb
    rename_i x y
    exact .inl ⟨rfl, by rw [show decide (V.str x = V.str y) = decide (x = y) by simp]; exact w.val r (.bl _)⟩
  · split at w
    · rename_i d e e1 e2
      split at w
      · rename_i hs
        exact .inr ⟨d, e, r.dp ra e1 (shaped_can hs.1), r.dp rb e2 (shaped_can hs.2), hs.1, hs.2, w.val r (.bl _)⟩
      · exact w.elim
    · exact w.elim
def ordD (f : Int → Int → Bool) (g : List Nat → List Nat → Bool) : GD2 := fun a b M => match a, b with
  | .p (.int i), .p (.int j) => .ok (.p (.bool (f i j))) M
  | .p (.str x), .p (.str y) => .ok (.p (.bool (g x.cps.toList y.cps.toList))) M
  | _, _ => .er
def ltD : GD2 := ordD (fun i j => decide (i < j)) (fun x y => decide (x < y))
def leD : GD2 := ordD (fun i j => decide (i ≤ j)) (fun x y => !decide (y < x))
def gtD : GD2 := ordD (fun i j => decide (j < i)) (fun x y => decide (y < x))
def geD : GD2 := ordD (fun i j => decide (j ≤ i)) (fun x y => !decide (x < y))
theorem og_ord {op : CmpOp} {f : Int → Int → Bool} {g : List Nat → List Nat → Bool} (h1 : OpR X (compareOp op) (rI0 fun i j => .bl (f i j))) (h2 : OpR X (compareOp op) (fun x y H Q => ∃ i j, x = .str i ∧ y = .str j ∧ Q (.bl (g i.cps.toList j.cps.toList)) H)) : OG ct X (compareOp op) (ordD f g) := by
  refine ⟨_, h1.or h2, fun F ρ M G H a b x y Q E r ra rb w => ?_⟩
  unfold ordD at w
  split at w
  · cases ra; cases rb
    exact .inl ⟨_, _, rfl, rfl, w.val r (.bl _)⟩
  · cases ra; cases rb
    exact .inr ⟨_, _, rfl, rfl, w.val r (.bl _)⟩
  · exact w.elim
theorem og_lt : OG ct X (compareOp .Lt) ltD := og_ord op_lt op_lt_str
theorem og_le : OG ct X (compareOp .LtE) leD := og_ord op_le op_le_str
theorem og_gt : OG ct X (compareOp .Gt) gtD := og_ord op_gt op_gt_str
theorem og_ge : OG ct X (compareOp .GtE) geD := og_ord op_ge op_ge_str
def isNonD : D → Bool
  | .p .none => true
  | .raw .non => true
  | _ => false
theorem isNonD_ok {K : PySem.W.Frag} {F : Hp} {ρ : List Addr} {d : D} {v : V} (r : RepD K F ρ d v) : decide (v = .non) = isNonD d := by
  cases d with
  | p d => cases r <;> rfl
  | «at» l => obtain ⟨a, _, rfl⟩ := r; rfl
  | raw x => have : v = x := r; subst this; cases v <;> rfl
  | scr ns => obtain ⟨a, rfl, _⟩ := r; rfl
def isD : GD2 := fun a b M => match b with
  | .p .none => .ok (.p (.bool (isNonD a))) M
  | .p (.bool k) => match a with
    | .p (.bool j) => .ok (.p (.bool (decide (j = k)))) M
    | _ => .er
  | _ => .er
def isntD : GD2 := fun a b M => match b with
  | .p .none => .ok (.p (.bool (!isNonD a))) M
  | .p (.bool k) => match a with
    | .p (.bool j) => .ok (.p (.bool (!decide (j = k)))) M
    | _ => .er
  | _ => .er
theorem og_is : OG ct X (compareOp .Is) isD := by
  refine ⟨_, op_isN.or op_isBl, fun F ρ M G H a b x y Q E r ra rb w => ?_⟩
  unfold isD at w
  split at w
  · cases rb
    refine .inl ⟨rfl, ?_⟩
    rw [isNonD_ok ra]
    exact w.val r (.bl _)
  · cases rb
    split at w
    · cases ra
      exact .inr ⟨_, _, rfl, rfl, w.val r (.bl _)⟩
    · exact w.elim
  · exact w.elim
theorem og_isnt : OG ct X (compareOp .IsNot) isntD := by
  refine ⟨_, op_notN.or op_notBl, fun F ρ M G H a b x y Q E r ra rb w => ?_⟩
  unfold isntD at w
  split at w
  · cases rb
    refine .inl ⟨rfl, ?_⟩
    rw [isNonD_ok ra]
    exact w.val r (.bl _)
  · cases rb
    split at w
    · cases ra
      exact .inr ⟨_, _, rfl, rfl, w.val r (.bl _)⟩
    · exact w.elim
  · exact w.elim
/-- one sign in a text; data in a list of data -/
def inD : GD2 := fun a b M => match a, b with
  | .p (.str x), .p (.str z) => match x.cps.toList with
    | [c] => .ok (.p (.bool (decide (c ∈ z.cps.toList)))) M
    | _ => .er
  | a, b => match dataOf M a, dataOf M b with
    | some d, some (.list ds) => if SeqAt.shaped d = true ∧ SeqAt.shaped (.list ds) = true then .ok (.p (.bool (ds.any fun z => PyData.eqv z d))) M else .er
    | _, _ => .er
def notInD : GD2 := fun a b M => match a, b with
  | .p (.str x), .p (.str z) => match x.cps.toList with
    | [c] => .ok (.p (.bool (!decide (c ∈ z.cps.toList)))) M
    | _ => .er
  | a, b => match dataOf M a, dataOf M b with
    | some d, some (.list ds) => if SeqAt.shaped d = true ∧ SeqAt.shaped (.list ds) = true then .ok (.p (.bool (!ds.any fun z => PyData.eqv z d))) M else .er
    | _, _ => .er
theorem str_one {x : Str} {c : Nat} (h : x.cps.toList = [c]) : x = ⟨#[c]⟩ := by
  obtain ⟨⟨l⟩⟩ := x
  simp at h
  subst h
  rfl
theorem og_in (hu : X.A.units + 65 < cLine) : OG ct X (compareOp .In) inD := by
  refine ⟨_, op_in_sign.or (op_inD hu), fun F ρ M G H a b x y Q E r ra rb w => ?_⟩
  unfold inD at w
  split at w
  · cases ra; cases rb
    split at w
    · rename_i c hc
      exact .inl ⟨c, _, by rw [str_one hc], rfl, w.val r (.bl _)⟩
    · exact w.elim
  · split at w
    · rename_i d ds e1 e2
      split at w
      · rename_i hs
        exact .inr ⟨d, ds, r.dp ra e1 (shaped_can hs.1), r.dp rb e2 (shaped_can hs.2), hs.1, hs.2, w.val r (.bl _)⟩
      · exact w.elim
    · exact w.elim
theorem og_notIn (hu : X.A.units + 65 < cLine) : OG ct X (compareOp .NotIn) notInD := by
  refine ⟨_, op_notIn_sign.or (op_notInD hu), fun F ρ M G H a b x y Q E r ra rb w => ?_⟩
  unfold notInD at w
  split at w
  · cases ra; cases rb
    split at w
    · rename_i c hc
      exact .inl ⟨c, _, by rw [str_one hc], rfl, w.val r (.bl _)⟩
    · exact w.elim
  · split at w
    · rename_i d ds e1 e2
      split at w
      · rename_i hs
        exact .inr ⟨d, ds, r.dp ra e1 (shaped_can hs.1), r.dp rb e2 (shaped_can hs.2), hs.1, hs.2, w.val r (.bl _)⟩
      · exact w.elim
    · exact w.elim
/-! ### subscripts -/
theorem Reps.atI {K : PySem.W.Frag} {F : Hp} {ρ : List Addr} {ds : List D} {vs : List V} (h : Reps K F ρ ds vs) {i : Int} {d : D} (e : L2.atI ds i = some d) : ∃ v, L2.atI vs i = some v ∧ RepD K F ρ d v := by
  unfold L2.atI at e ⊢
  obtain ⟨j, h1, h2⟩ := Option.bind_eq_some_iff.mp e
  obtain ⟨v, h3, h4⟩ := h.get h2
  refine ⟨v, ?_, h4⟩
  rw [← h.length, h1]
  exact h3
def ixD : GD2 := fun a b M => match b with
  | .p (.int i) => match a with
    | .p (.str z) => if z.length ≤ sizeLine then (match L2.atI z.cps.toList i with
      | some c => .ok (.p (.str ⟨#[c]⟩)) M
      | none => .er) else .er
    | a => match seqOf M a with
      | some (_, xs) => match L2.atI xs i with
        | some d => .ok d M
        | none => .er
      | none => .er
  | _ => .er
theorem se_ix (ha : SE ct X W a fa) (hb : SE ct X W b fb) (hs : PlainIx b := by exact fun _ _ => rfl) : SE ct X W (.Subscript a b pos) (bin ixD fa fb) := by
  obtain ⟨ta, pa, la⟩ := ha
  obtain ⟨tb, pb, lb⟩ := hb
  refine ⟨_, pe_ix ix_seq pa pb hs, op_run (fun F ρ M G H a b x y Q E r ra rb w => ?_) la lb⟩
  unfold ixD at w
  split at w
  · cases rb
    split at w
    · cases ra
      split at w
      · split at w
        · rename_i c hc
          exact .inr (.inr ⟨_, _, c, rfl, rfl, by assumption, hc, w.val r (.str _)⟩)
        · exact w.elim
      · exact w.elim
    · split at w
      · rename_i k xs e1
        split at w
        · rename_i d e2
          cases k with
          | true =>
            obtain ⟨p, vs, rfl, h1, t1, _⟩ := r.seqL ra e1
            obtain ⟨v, h2, h3⟩ := t1.atI e2
            exact .inl ⟨p, vs, _, v, rfl, rfl, SqL.of h1, h2, w.val r h3⟩
          | false =>
            obtain ⟨p, vs, rfl, h1, t1, _⟩ := r.seqT ra e1
            obtain ⟨v, h2, h3⟩ := t1.atI e2
            exact .inr (.inl ⟨p, vs, _, v, rfl, rfl, h1, h2, w.val r h3⟩)
        · exact w.elim
      · exact w.elim
  · exact w.elim
/-! ### slices -/
def cutA {α : Type} (xs : List α) (lo hi : Option Int) : List α := (xs.drop (HT.sIx xs.length 0 lo)).take (HT.sIx xs.length xs.length hi - HT.sIx xs.length 0 lo)
theorem cutA_map {α β : Type} (f : α → β) (xs : List α) (lo hi : Option Int) : cutA (xs.map f) lo hi = (cutA xs lo hi).map f := by
  unfold cutA
  rw [List.length_map, List.map_take, List.map_drop]
theorem cutA_len {α : Type} (xs : List α) (lo hi : Option Int) : (cutA xs lo hi).length ≤ xs.length := by
  unfold cutA
  rw [List.length_take, List.length_drop]
  omega
theorem Reps.cut {K : PySem.W.Frag} {F : Hp} {ρ : List Addr} {ds : List D} {vs : List V} (h : Reps K F ρ ds vs) (lo hi : Option Int) : Reps K F ρ (cutA ds lo hi) (cutV vs lo hi) := by
  unfold cutA cutV
  rw [h.length]
  exact (h.drop _).take _
def slD (d : D) (lo hi : Option Int) (M : Mem) : R D := match d with
  | .p (.str z) => if z.length ≤ sizeLine then .ok (.p (.str (cutS z lo hi))) M else .er
  | .p (.tuple ds) => .ok (.p (.tuple (cutA ds lo hi))) M
  | .scr ns => .ok (.p (.list ((cutA ns lo hi).map .int))) M
  | d => match seqOf M d with
    | some (true, xs) => lstD (cutA xs lo hi) M
    | _ => .er
abbrev MO' := Sg → Mem → R (Option Int)
abbrev rpO : Hp → List Addr → Option Int → Option Int → Prop := fun _ _ a b => a = b
def SO (ct : Ct) (X : Cx) (W : WX) (e : Option Expr) (f : MO') : Prop := ∃ t, PO X e t ∧ ∀ F ρ M G σ s H Q, Rel X.K ct F ρ M G H → RelS X.K F ρ σ s → Wp X.K ct rpO F ρ G (f σ M) Q (fun c d H' => W c d s H') → t s H Q
def oNone : MO' := fun _ M => .ok none M
def oSome (f : ME) : MO' := fun σ M => (f σ M).bind fun d M1 => match d with
  | .p (.int i) => .ok (some i) M1
  | _ => .er
theorem so_none : SO ct X W none oNone := ⟨_, po_none, fun F ρ M G σ s H Q rl rs w => w.val rl rfl⟩
theorem so_some (h : SE ct X W e f) : SO ct X W (some e) (oSome f) := by
  obtain ⟨t, p, l⟩ := h
  refine ⟨_, po_some p, fun F ρ M G σ s H Q rl rs w => ?_⟩
  refine l F ρ M G σ s H _ rl rs (w.thn fun x M1 F1 ρ1 H1 v1 u1 r1 d1 w1 => ?_)
  split at w1
  · cases d1
    exact ⟨_, rfl, w1.val r1 rfl⟩
  · exact w1.elim
def slice (f : ME) (g h : MO') : ME := fun σ M => (f σ M).bind fun d M1 => (g σ M1).bind fun lo M2 => (h σ M2).bind fun hi M3 => slD d lo hi M3
theorem cut_whole {α : Type} {xs : List α} {lo hi : Option Int} (h : HT.sIx xs.length 0 lo = 0 ∧ HT.sIx xs.length xs.length hi = xs.length) : cutA xs lo hi = xs := by
  unfold cutA
  rw [h.1, h.2]
  simp
theorem ints_all {K : PySem.W.Frag} {F : Hp} : ∀ ns : List Int, RpAll K F (ns.map PyData.int) (ns.map V.int)
  | [] => .nil
  | n :: ns => .cons (.int n) (ints_all ns)
theorem se_slice {lo hi : Option Expr} {p2 : Pos} {g h : MO'} (he : SE ct X W e f) (hl : SO ct X W lo g) (hh : SO ct X W hi h) : SE ct X W (.Subscript e (.Slice lo hi none p2) pos) (slice f g h) := by
  obtain ⟨ta, pa, la⟩ := he
  obtain ⟨tl, pl, ll⟩ := hl
  obtain ⟨th, ph, lh⟩ := hh
  refine ⟨_, pe_slice (sl_str.or (sl_tupA.or sl_list)) pa pl ph, fun F ρ M G σ s H Q rl rs w => ?_⟩
  refine la F ρ M G σ s H _ rl rs (w.thn fun x M1 F1 ρ1 H1 v1 u1 r1 d1 w1 => ?_)
  refine ll F1 ρ1 M1 G σ s H1 _ r1 (rs.up u1) (w1.thn fun lo M2 F2 ρ2 H2 lo' u2 r2 d2 w2 => ?_)
  cases d2
  refine lh F2 ρ2 M2 G σ s H2 _ r2 (rs.up (u1.trans u2)) (w2.thn fun hi M3 F3 ρ3 H3 hi' u3 r3 d3 w3 => ?_)
  cases d3
  have d1 := d1.up (u2.trans u3)
  unfold slD at w3
  split at w3
  · cases d1
    split at w3
    · exact .inl ⟨_, rfl, by assumption, w3.val r3 (.str _)⟩
    · exact w3.elim
  · cases d1 with
    | tup h1 z1 t1 =>
      rename_i ds a vs
      refine .inr (.inl ⟨a, vs, rfl, sqT_up r3.sub h1, fun hw => ?_, fun hw => ?_⟩)
      · rw [cut_whole (by rw [t1.length]; exact hw)] at w3
        exact w3.val r3 (.tup h1 z1 t1)
      · refine w3.new r3 fun p F' _ u e => ?_
        have q := ((Reps.ofAll (ρ := ρ3) t1).cut lo hi).up u
        rw [cutA_map] at q
        exact Rp.tup (SqT.of e) (Nat.le_trans (cutV_length _ _ _) z1) q.toAll
  · obtain ⟨a, rfl, h1, hz⟩ := d1
    rename_i ns
    refine .inr (.inr ⟨a, _, rfl, sqL_up r3.sub h1, ?_⟩)
    have e1 : cutV (ns.map V.int) lo hi = (cutA ns lo hi).map V.int := cutA_map V.int ns lo hi
    rw [e1]
    refine w3.new r3 fun p F' _ u e => ?_
    exact Rp.lst e (by rw [List.length_map]; exact Nat.le_trans (cutA_len _ _ _) (Nat.le_trans hz (by decide))) (ints_all _)
  · split at w3
    · rename_i xs e1
      obtain ⟨p, vs, rfl, h1, t1, z1⟩ := r3.seqL d1 e1
      exact .inr (.inr ⟨p, vs, rfl, SqL.of h1, (newL r3 (t1.cut lo hi) w3).2⟩)
    · exact w3.elim
/-! ### len, list, tuple, int, str -/
def lenD : GDs := fun xs M => match xs with
  | [.p (.str z)] => if z.length ≤ sizeLine then .ok (.p (.int z.length)) M else .er
  | [d] => match seqOf M d with
    | some (_, ys) => .ok (.p (.int ys.length)) M
    | none => .er
  | _ => .er
theorem cg_len : CG ct X (.builtin "len") lenD := by
  refine ⟨_, call_len, fun F ρ M G H as xs Q E r ra w => ?_⟩
  unfold lenD at w
  split at w
  · cases ra with
    | cons h t =>
      cases t
      cases h
      split at w
      · exact ⟨_, _, rfl, ⟨by assumption, rfl⟩, w.val r (.int _)⟩
      · exact w.elim
  · cases ra with
    | cons h t =>
      cases t
      split at w
      · rename_i k ys e1
        cases k with
        | true =>
          obtain ⟨p, vs, rfl, h1, t1, _⟩ := r.seqL h e1
          rw [t1.length] at w
          exact ⟨_, _, rfl, .inl ⟨vs, SqL.of h1, rfl⟩, w.val r (.int _)⟩
        | false =>
          obtain ⟨p, vs, rfl, h1, t1, _⟩ := r.seqT h e1
          rw [t1.length] at w
          exact ⟨_, _, rfl, .inr ⟨vs, h1, rfl⟩, w.val r (.int _)⟩
      · exact w.elim
  · exact w.elim
def listD (mk : GDs) : GDs := fun xs M => match xs with
  | [d] => match seqOf M d with
    | some (_, ys) => mk ys M
    | none => .er
  | _ => .er
theorem list_any {mk : GDs} (hmk : ∀ {F ρ M G H xs vs} {Q : VK} {E : XK}, Rel X.K ct F ρ M G H → Reps X.K F ρ xs vs → Wp X.K ct (RepD X.K) F ρ G (mk xs M) Q E → vs.length ≤ sizeLine ∧ ∀ p, H p = none → Q (.ref p) (upd H p (.lst vs))) :
    CG ct X (.type "list") (listD mk) := by
  refine ⟨_, call_list_of, fun F ρ M G H as xs Q E r ra w => ?_⟩
  unfold listD at w
  split at w
  · cases ra with
    | cons h t =>
      cases t
      split at w
      · rename_i k ys e1
        cases k with
        | true =>
          obtain ⟨p, vs, rfl, h1, t1, _⟩ := r.seqL h e1
          exact ⟨p, vs, rfl, .inl (SqL.of h1), (hmk r t1 w).2⟩
        | false =>
          obtain ⟨p, vs, rfl, h1, t1, _⟩ := r.seqT h e1
          exact ⟨p, vs, rfl, .inr h1, (hmk r t1 w).2⟩
      · exact w.elim
  · exact w.elim
theorem cg_list : CG ct X (.type "list") (listD lstD) := list_any newL
theorem cg_listM : CG ct X (.type "list") (listD lstM) := list_any newLM
def tupleD : GDs := fun xs M => match xs with
  | [.p (.tuple ds)] => .ok (.p (.tuple ds)) M
  | [d] => match seqOf M d with
    | some (true, ys) => tupD ys M
    | _ => .er
  | _ => .er
theorem cg_tuple : CG ct X (.type "tuple") tupleD := by
  refine ⟨_, call_tuple_of, fun F ρ M G H as xs Q E r ra w => ?_⟩
  unfold tupleD at w
  split at w
  · cases ra with
    | cons h t =>
      cases t
      cases h with
      | tup h1 z1 t1 => exact ⟨_, _, rfl, .inr ⟨sqT_up r.sub h1, w.val r (.tup h1 z1 t1)⟩⟩
  · cases ra with
    | cons h t =>
      cases t
      split at w
      · rename_i ys e1
        obtain ⟨p, vs, rfl, h1, t1, _⟩ := r.seqL h e1
        exact ⟨p, vs, rfl, .inl ⟨SqL.of h1, (newT r t1 w).2⟩⟩
      · exact w.elim
  · exact w.elim
def maxD : GDs := fun xs M => match xs with
  | [.p (.int i), .p (.int j)] => .ok (.p (.int (if j > i then j else i))) M
  | _ => .er
def minD : GDs := fun xs M => match xs with
  | [.p (.int i), .p (.int j)] => .ok (.p (.int (if j < i then j else i))) M
  | _ => .er
theorem cg_max (hc : X.calm = true) : CG ct X (.builtin "max") maxD := by
  refine ⟨_, call_max2 hc, fun F ρ M G H as xs Q E r ra w => ?_⟩
  unfold maxD at w
  split at w
  · cases ra with
    | cons h t =>
      cases t with
      | cons h' t =>
        cases t
        cases h; cases h'
        exact ⟨_, _, rfl, w.val r (.int _)⟩
  · exact w.elim
theorem cg_min (hc : X.calm = true) : CG ct X (.builtin "min") minD := by
  refine ⟨_, call_min2 hc, fun F ρ M G H as xs Q E r ra w => ?_⟩
  unfold minD at w
  split at w
  · cases ra with
    | cons h t =>
      cases t with
      | cons h' t =>
        cases t
        cases h; cases h'
        exact ⟨_, _, rfl, w.val r (.int _)⟩
  · exact w.elim
end
end Tl

/-! The tree layer, part 4: statements, targets, loops, comprehensions. -/
namespace Tl
open PySem L2

/-! ### how a statement ends -/
inductive SR where
  | nx (σ : Sg) (M : Mem)
  | rt (v : D) (M : Mem)
  | bk (σ : Sg) (M : Mem)
  | ct (σ : Sg) (M : Mem)
  | ex (c : Str) (x : Option D) (σ : Sg) (M : Mem)
  | er
def R.go {α : Type} (r : R α) (σ : Sg) (g : α → Mem → SR) : SR := match r with
  | .ok a M => g a M
  | .ex c x M => .ex c x σ M
  | .er => .er
@[simp] theorem R.go_ok {α : Type} (a : α) (M : Mem) (σ : Sg) (g : α → Mem → SR) : (R.ok a M).go σ g = g a M := rfl
@[simp] theorem R.go_ex {α : Type} (c : Str) (x : Option D) (M : Mem) (σ : Sg) (g : α → Mem → SR) : (R.ex c x M : R α).go σ g = .ex c x σ M := rfl
@[simp] theorem R.go_er {α : Type} (σ : Sg) (g : α → Mem → SR) : (R.er : R α).go σ g = .er := rfl
def SR.seq (r : SR) (g : Sg → Mem → SR) : SR := match r with
  | .nx σ M => g σ M
  | r => r
@[simp] theorem SR.seq_nx (σ : Sg) (M : Mem) (g : Sg → Mem → SR) : (SR.nx σ M).seq g = g σ M := rfl
@[simp] theorem SR.seq_rt (v : D) (M : Mem) (g : Sg → Mem → SR) : (SR.rt v M).seq g = .rt v M := rfl
@[simp] theorem SR.seq_bk (σ : Sg) (M : Mem) (g : Sg → Mem → SR) : (SR.bk σ M).seq g = .bk σ M := rfl
@[simp] theorem SR.seq_ct (σ : Sg) (M : Mem) (g : Sg → Mem → SR) : (SR.ct σ M).seq g = .ct σ M := rfl
@[simp] theorem SR.seq_ex (c : Str) (x : Option D) (σ : Sg) (M : Mem) (g : Sg → Mem → SR) : (SR.ex c x σ M).seq g = .ex c x σ M := rfl
@[simp] theorem SR.seq_er (g : Sg → Mem → SR) : SR.er.seq g = .er := rfl
def WpS (K : PySem.W.Frag) (ct : Ct) (F : Hp) (ρ : List Addr) (G : Hp) (r : SR) (D : Ends) (W : WX) : Prop :=
  match r with
  | .nx σ M => ∀ F' ρ' H' s, Up F ρ F' ρ' → Rel K ct F' ρ' M G H' → RelS K F' ρ' σ s → D.nx s H'
  | .rt v M => ∀ F' ρ' H' u, Up F ρ F' ρ' → Rel K ct F' ρ' M G H' → RepD K F' ρ' v u → D.rt u H'
  | .bk σ M => ∀ F' ρ' H' s, Up F ρ F' ρ' → Rel K ct F' ρ' M G H' → RelS K F' ρ' σ s → D.bk s H'
  | .ct σ M => ∀ F' ρ' H' s, Up F ρ F' ρ' → Rel K ct F' ρ' M G H' → RelS K F' ρ' σ s → D.ct s H'
  | .ex c x σ M => ∀ F' ρ' H' s C d, Up F ρ F' ρ' → Rel K ct F' ρ' M G H' → RelS K F' ρ' σ s → ct c = some C → XF K F' ρ' G H' x d → W (.ref C) d s H'
  | .er => False
section
variable {K : PySem.W.Frag} {ct : Ct} {F F' : Hp} {ρ ρ' : List Addr} {M : Mem} {G H : Hp} {W : WX} {D : Ends}
theorem WpS.up {r : SR} (u : Up F ρ F' ρ') (h : WpS K ct F ρ G r D W) : WpS K ct F' ρ' G r D W := by
  cases r with
  | nx σ M => exact fun F2 ρ2 H2 s u2 => h F2 ρ2 H2 s (u.trans u2)
  | rt σ M => exact fun F2 ρ2 H2 s u2 => h F2 ρ2 H2 s (u.trans u2)
  | bk σ M => exact fun F2 ρ2 H2 s u2 => h F2 ρ2 H2 s (u.trans u2)
  | ct σ M => exact fun F2 ρ2 H2 s u2 => h F2 ρ2 H2 s (u.trans u2)
  | ex c x σ M => exact fun F2 ρ2 H2 s C d u2 => h F2 ρ2 H2 s C d (u.trans u2)
  | er => exact h
/-- an expression's part of a statement -/
theorem WpS.thn {α β : Type} {rp : Hp → List Addr → α → β → Prop} {r : R α} {σ : Sg} {s : L2.St} {g : α → Mem → SR} {Q : β → Hp → Prop} (h : WpS K ct F ρ G (r.go σ g) D W) (rs : RelS K F ρ σ s)
    (k : ∀ a M1 F1 ρ1 H1 b, Up F ρ F1 ρ1 → Rel K ct F1 ρ1 M1 G H1 → rp F1 ρ1 a b → WpS K ct F1 ρ1 G (g a M1) D W → Q b H1) : Wp K ct rp F ρ G r Q (fun c d H' => W c d s H') := by
  cases r with
  | ok a M => exact fun F1 ρ1 H1 b u r1 rb => k a M F1 ρ1 H1 b u r1 rb (h.up u)
  | ex c x M => exact fun F1 ρ1 H1 C d u r1 hc hx => h F1 ρ1 H1 s C d u r1 (rs.up u) hc hx
  | er => exact h
theorem WpS.nxt {σ : Sg} {s : L2.St} (h : WpS K ct F ρ G (.nx σ M) D W) (r : Rel K ct F ρ M G H) (rs : RelS K F ρ σ s) : D.nx s H := h F ρ H s .rfl' r rs
theorem WpS.seq {r : SR} {g : Sg → Mem → SR} {Dn : L2.St → Hp → Prop} (h : WpS K ct F ρ G (r.seq g) D W) (k : ∀ σ M1 F1 ρ1 H1 s, Up F ρ F1 ρ1 → Rel K ct F1 ρ1 M1 G H1 → RelS K F1 ρ1 σ s → WpS K ct F1 ρ1 G (g σ M1) D W → Dn s H1) :
    WpS K ct F ρ G r { D with nx := Dn } W := by
  cases r with
  | nx σ M => exact fun F1 ρ1 H1 s u r1 rs => k σ M F1 ρ1 H1 s u r1 rs (h.up u)
  | rt v M => exact h
  | bk σ M => exact h
  | ct σ M => exact h
  | ex c x σ M => exact h
  | er => exact h
end
abbrev MS := Sg → Mem → SR
def SS (ct : Ct) (X : Cx) (W : WX) (st : Stmt) (f : MS) : Prop := ∃ t, PS X st t ∧ ∀ F ρ M G σ s H D, Rel X.K ct F ρ M G H → RelS X.K F ρ σ s → WpS X.K ct F ρ G (f σ M) D W → t D s H
def SSs (ct : Ct) (X : Cx) (W : WX) (st : List Stmt) (f : MS) : Prop := ∃ t, PSs X st t ∧ ∀ F ρ M G σ s H D, Rel X.K ct F ρ M G H → RelS X.K F ρ σ s → WpS X.K ct F ρ G (f σ M) D W → t D s H

/-! ### targets -/
inductive Item where
  | one (d : D)
  | row (ds : List D)
def RepI (K : PySem.W.Frag) (F : Hp) (ρ : List Addr) : Item → V → Prop
  | .one d, v => RepD K F ρ d v
  | .row ds, v => ∃ a vs, v = .ref a ∧ SqT K F a vs ∧ Reps K F ρ ds vs
theorem RepI.up {K : PySem.W.Frag} {F F' : Hp} {ρ ρ' : List Addr} (u : Up F ρ F' ρ') : ∀ {d : Item} {v : V}, RepI K F ρ d v → RepI K F' ρ' d v
  | .one _, _, h => RepD.up u h
  | .row _, _, ⟨a, vs, e, h, r⟩ => ⟨a, vs, e, sqT_up u.fr h, r.up u⟩
def R.noEx {α : Type} : R α → R α
  | .ex _ _ _ => .er
  | r => r
@[simp] theorem R.noEx_ok {α : Type} (a : α) (M : Mem) : (R.ok a M).noEx = .ok a M := rfl
abbrev GT := Item → Sg → Mem → R Sg
abbrev GTs := List D → Sg → Mem → R Sg
/-- slots outside vs stay -/
def Only (vs : List Nat) (s s' : L2.St) : Prop := s'.length = s.length ∧ ∀ i, i ∉ vs → s'[i]? = s[i]?
theorem Only.rfl' {vs : List Nat} {s : L2.St} : Tl.Only vs s s := ⟨rfl, fun _ _ => rfl⟩
theorem Only.trans {vs us : List Nat} {s s1 s2 : L2.St} (a : Tl.Only vs s s1) (b : Tl.Only us s1 s2) : Tl.Only (vs ++ us) s s2 := ⟨b.1.trans a.1, fun i hi => by
  simp only [List.mem_append, not_or] at hi
  rw [b.2 i hi.2, a.2 i hi.1]⟩
def SG (ct : Ct) (X : Cx) (W : WX) (vs : List Nat) (e : Expr) (g : GT) : Prop := ∃ t, PG X e t ∧ ∀ F ρ M G σ s H it v Q, Rel X.K ct F ρ M G H → RelS X.K F ρ σ s → RepI X.K F ρ it v →
  Wp X.K ct (RelS X.K) F ρ G (g it σ M) (fun s' H' => Tl.Only vs s s' → Q s' H') (fun c d H' => W c d s H') → t v s H Q
def SGs (ct : Ct) (X : Cx) (W : WX) (vs : List Nat) (es : List Expr) (g : GTs) : Prop := ∃ t, PGs X es t ∧ ∀ F ρ M G σ s H ds us Q, Rel X.K ct F ρ M G H → RelS X.K F ρ σ s → Reps X.K F ρ ds us →
  Wp X.K ct (RelS X.K) F ρ G (g ds σ M) (fun s' H' => Tl.Only vs s s' → Q s' H') (fun _ _ _ => False) → t us s H Q
def gNm (i : Nat) : GT := fun it σ M => match it with
  | .one d => .ok (σ.set i (some d)) M
  | .row _ => .er
def gsNil : GTs := fun ds σ M => match ds with
  | [] => .ok σ M
  | _ => .er
def gsCons (g : GT) (gs : GTs) : GTs := fun ds σ M => match ds with
  | d :: r => (g (.one d) σ M).noEx.bind fun σ1 M1 => gs r σ1 M1
  | [] => .er
/-- a tuple's target -/
def gTp (n : Nat) (gs : GTs) : GT := fun it σ M => match it with
  | .row ds => if ds.length = n then (gs ds σ M).noEx else .er
  | .one d => match seqOf M d with
    | some (false, ds) => if ds.length = n then (gs ds σ M).noEx else .er
    | _ => .er
section
variable {ct : Ct} {X : Cx} {W : WX} {e a b : Expr} {es : List Expr} {pos : Pos} {f fa fb : ME}
theorem sg_name (i : Nat) {x : Str} (hN : X.N.Nodup) (hi : X.N[i]? = some x := by rfl) (hx : Loc X.env.scope x := by first | exact Or.inl rfl | exact Or.inr rfl) (hf : X.fn x = true ∨ X.env.scope.names.lookup x = some .local := by first | exact .inl rfl | exact .inr rfl) : SG ct X W [i] (.Name x pos) (gNm i) := by
  refine ⟨_, pg_name hN hi hx hf, fun F ρ M G σ s H it v Q r rs ri w => ?_⟩
  cases it with
  | one d =>
    refine w F ρ H _ .rfl' r (rs.set ri i) ⟨by simp, fun j hj => ?_⟩
    rw [List.getElem?_set_ne (fun z => hj (by simp [z]))]
  | row ds => exact w.elim
theorem sgs_nil : SGs ct X W [] [] gsNil := by
  refine ⟨_, pgs_nil, fun F ρ M G σ s H ds us Q r rs ri w => ?_⟩
  cases ri with
  | nil => exact ⟨rfl, w F ρ H s .rfl' r rs .rfl'⟩
  | cons _ _ => exact w.elim
theorem sgs_cons {vs us : List Nat} {g : GT} {gs : GTs} (h1 : SG ct X W vs e g) (h2 : SGs ct X W us es gs) (hs : (assignEach (e :: es) X.env).map (·.2) = assign e X.env :: (assignEach es X.env).map (·.2) := by rfl) : SGs ct X W (vs ++ us) (e :: es) (gsCons g gs) := by
  obtain ⟨t1, p1, l1⟩ := h1
  obtain ⟨t2, p2, l2⟩ := h2
  refine ⟨_, pgs_cons p1 p2 hs, fun F ρ M G σ s H ds us Q r rs ri w => ?_⟩
  cases ri with
  | nil => exact w.elim
  | cons h t =>
    have w0 : ∀ {r0 : R Sg} {Q0 : L2.St → Hp → Prop}, Wp X.K ct (RelS X.K) F ρ G r0.noEx Q0 (fun _ _ _ => False) → Wp X.K ct (RelS X.K) F ρ G r0 Q0 (fun c d H' => W c d s H') := fun {r0 Q0} h => by
      cases r0 with
      | ok a M => exact h
      | ex c x M => exact h.elim
      | er => exact h
    refine ⟨_, _, rfl, l1 F ρ M G σ s H (.one _) _ _ r rs h (w0 (Wp.thn (rp := RelS X.K) w fun σ1 M1 F1 ρ1 H1 s1 u1 r1 rs1 w1 o1 => ?_))⟩
    refine l2 F1 ρ1 M1 G σ1 s1 H1 _ _ Q r1 rs1 (t.up u1) ?_
    revert w1
    cases gs _ σ1 M1 with
    | ok σ2 M2 => exact fun w1 F2 ρ2 H2 s2 u2 r2 rs2 o2 => w1 F2 ρ2 H2 s2 u2 r2 rs2 (o1.trans o2)
    | ex c x M => exact fun w1 => w1
    | er => exact fun w1 => w1
theorem sg_tup {vs : List Nat} {k : Nat} {n : Nat} {gs : GTs} (hc : X.calm = true) (h : SGs ct X W vs es gs) (hn : (assignEach es X.env).length = n := by rfl) (hst : (assignEach es X.env).findIdx? (·.1) = none := by rfl) : SG ct X W vs (.Tuple es k pos) (gTp n gs) := by
  obtain ⟨t, p, l⟩ := h
  refine ⟨_, pg_tup hc p hn hst, fun F ρ M G σ s H it v Q r rs ri w => ?_⟩
  have fin : ∀ {ds us}, Reps X.K F ρ ds us → Wp X.K ct (RelS X.K) F ρ G (gs ds σ M).noEx (fun s' H' => Tl.Only vs s s' → Q s' H') (fun c d H' => W c d s H') → t us s H Q := fun {ds us} rr ww => by
    refine l F ρ M G σ s H ds us Q r rs rr ?_
    revert ww
    cases gs ds σ M with
    | ok σ2 M2 => exact fun w1 => w1
    | ex c x M => exact fun w1 => (show False from w1).elim
    | er => exact fun w1 => w1
  cases it with
  | one d =>
    simp only [gTp] at w
    split at w
    · rename_i ds e1
      obtain ⟨a, us, rfl, h1, t1, z⟩ := r.seqT ri e1
      split at w
      · exact ⟨a, us, rfl, h1, by rw [← t1.length]; assumption, fin t1 w⟩
      · exact w.elim
    · exact w.elim
  | row ds =>
    obtain ⟨a, us, rfl, h1, t1⟩ := ri
    simp only [gTp] at w
    split at w
    · exact ⟨a, us, rfl, sqT_up r.sub h1, by rw [← t1.length]; assumption, fin t1 w⟩
    · exact w.elim
/-! ### statements -/
variable {st : Stmt} {sts : List Stmt} {h h1 h2 : MS}
def sNil : MS := fun σ M => .nx σ M
def sSeq (f g : MS) : MS := fun σ M => (f σ M).seq g
def sAsg (f : ME) (g : GT) : MS := fun σ M => (f σ M).go σ fun d M1 => (g (.one d) σ M1).go σ fun σ1 M2 => .nx σ1 M2
def sDrop (f : ME) : MS := fun σ M => (f σ M).go σ fun _ M1 => .nx σ M1
def sRet (f : ME) : MS := fun σ M => (f σ M).go σ fun d M1 => .rt d M1
def sRetN : MS := fun _ M => .rt (.p .none) M
def sIf (c : MT) (f g : MS) : MS := fun σ M => (c σ M).go σ fun b M1 => if b = true then f σ M1 else g σ M1
def sBrk : MS := fun σ M => .bk σ M
def sCnt : MS := fun σ M => .ct σ M
theorem sss_nil : SSs ct X W [] sNil := ⟨_, pss_nil, fun F ρ M G σ s H D r rs w => w.nxt r rs⟩
theorem sss_cons (a : SS ct X W st h1) (b : SSs ct X W sts h2) : SSs ct X W (st :: sts) (sSeq h1 h2) := by
  obtain ⟨ta, pa, la⟩ := a
  obtain ⟨tb, pb, lb⟩ := b
  exact ⟨_, pss_cons pa pb, fun F ρ M G σ s H D r rs w => la F ρ M G σ s H _ r rs (w.seq fun σ1 M1 F1 ρ1 H1 s1 u1 r1 rs1 w1 => lb F1 ρ1 M1 G σ1 s1 H1 D r1 rs1 w1)⟩
theorem sss_one (a : SS ct X W st h1) : SSs ct X W [st] h1 := by
  obtain ⟨ta, pa, la⟩ := a
  exact ⟨_, pss_one pa, la⟩
theorem ss_pass : SS ct X W (.Pass pos) sNil := ⟨_, ps_pass, fun F ρ M G σ s H D r rs w => w.nxt r rs⟩
theorem ss_brk : SS ct X W (.Break pos) sBrk := ⟨_, ps_break, fun F ρ M G σ s H D r rs w => w F ρ H s .rfl' r rs⟩
theorem ss_cnt : SS ct X W (.Continue pos) sCnt := ⟨_, ps_continue, fun F ρ M G σ s H D r rs w => w F ρ H s .rfl' r rs⟩
theorem ss_asg {vs : List Nat} {tg : Expr} {g : GT} (he : SE ct X W e f) (hg : SG ct X W vs tg g) (hs : swapsWithSole [tg] e pos.line X.env = pure false := by rfl) (hw : swappedStores [tg] e X.env = pure none := by rfl)
    (hz : (assignEach [tg] X.env).map (·.2) = [assign tg X.env] := by rfl) : SS ct X W (.Assign [tg] e pos) (sAsg f g) := by
  obtain ⟨te, pe, le⟩ := he
  obtain ⟨tg, pg, lg⟩ := hg
  refine ⟨_, ps_asg pe pg hs hw hz, fun F ρ M G σ s H D r rs w => ?_⟩
  refine le F ρ M G σ s H _ r rs (w.thn rs fun d M1 F1 ρ1 H1 v u1 r1 d1 w1 => ?_)
  exact lg F1 ρ1 M1 G σ s H1 (.one d) v _ r1 (rs.up u1) d1 (w1.thn (rs.up u1) fun σ2 M2 F2 ρ2 H2 s2 u2 r2 rs2 w2 _ => w2.nxt r2 rs2)
theorem ss_set {x : Str} {pos' : Pos} (i : Nat) (he : SE ct X W e f) (hN : X.N.Nodup) (hi : X.N[i]? = some x := by rfl) (hx : Loc X.env.scope x := by first | exact Or.inl rfl | exact Or.inr rfl) (hs : swapsWith e (some (.Name x pos')) pos.line X.env = pure false := by rfl)
    (hf : X.fn x = true ∨ X.env.scope.names.lookup x = some .local := by first | exact .inl rfl | exact .inr rfl) : SS ct X W (.Assign [.Name x pos'] e pos) (sAsg f (gNm i)) := by
  obtain ⟨te, pe, le⟩ := he
  refine ⟨_, ps_set hN hi hx pe hs hf, fun F ρ M G σ s H D r rs w => ?_⟩
  refine le F ρ M G σ s H _ r rs (w.thn rs fun d M1 F1 ρ1 H1 v u1 r1 d1 w1 => ?_)
  exact w1.nxt r1 ((rs.up u1).set d1 i)
theorem ss_expr (he : SE ct X W e f) (hs : swapsWith e none pos.line X.env = pure false := by rfl) : SS ct X W (.Expr e pos) (sDrop f) := by
  obtain ⟨te, pe, le⟩ := he
  refine ⟨_, ps_expr pe hs, fun F ρ M G σ s H D r rs w => ?_⟩
  exact le F ρ M G σ s H _ r rs (w.thn rs fun d M1 F1 ρ1 H1 v u1 r1 d1 w1 => w1.nxt r1 (rs.up u1))
theorem ss_ret (he : SE ct X W e f) : SS ct X W (.Return (some e) pos) (sRet f) := by
  obtain ⟨te, pe, le⟩ := he
  refine ⟨_, ps_ret pe, fun F ρ M G σ s H D r rs w => ?_⟩
  exact le F ρ M G σ s H _ r rs (w.thn rs fun d M1 F1 ρ1 H1 v u1 r1 d1 w1 => w1 F1 ρ1 H1 v .rfl' r1 d1)
theorem ss_retN : SS ct X W (.Return none pos) sRetN := ⟨_, ps_retN, fun F ρ M G σ s H D r rs w => w F ρ H _ .rfl' r .non⟩
theorem ss_if {c : Expr} {p q : List Stmt} {g : MT} (hc : SB ct X W c g) (ha : SSs ct X W p h1) (hb : SSs ct X W q h2) : SS ct X W (.If c p q pos) (sIf g h1 h2) := by
  obtain ⟨tc, pc, lc⟩ := hc
  obtain ⟨ta, pa, la⟩ := ha
  obtain ⟨tb, pb, lb⟩ := hb
  refine ⟨_, ps_if pc pa pb, fun F ρ M G σ s H D r rs w => ?_⟩
  refine lc F ρ M G σ s H _ r rs (w.thn rs fun c M1 F1 ρ1 H1 c' u1 r1 d1 w1 => ?_)
  cases d1
  cases c with
  | true => exact iteT (la F1 ρ1 M1 G σ s H1 D r1 (rs.up u1) w1)
  | false => exact iteF (lb F1 ρ1 M1 G σ s H1 D r1 (rs.up u1) w1)
/-- o[i] = e, o a list with a place in the store -/
def sSub (f fo fi : ME) : MS := fun σ M => (f σ M).go σ fun d M1 => (fo σ M1).go σ fun o M2 => (fi σ M2).go σ fun i M3 => match o, i with
  | .at l, .p (.int k) => match M3[l]? with
    | some (.lst xs) => match ixN xs.length k with
      | some j => .nx σ (M3.set l (.lst (xs.set j d)))
      | none => .er
    | _ => .er
  | _, _ => .er
theorem ss_sub {o i : Expr} {fo fi : ME} {p : Pos} (he : SE ct X W e f) (ho : SE ct X W o fo) (hi : SE ct X W i fi) (ha : ∀ v, assign (.Subscript o i p) X.env v = (do
      let ov ← holding [v] (eval o X.env)
      let iv ← holding [v, ov] (eval i X.env)
      standAt p
      holding [v, ov, iv] (setItem ov iv v)
      release [v, ov, iv] []) := by intro _; rfl) (hs : swapsWithSole [.Subscript o i p] e pos.line X.env = pure false := by rfl) (hw : swappedStores [.Subscript o i p] e X.env = pure none := by rfl)
    (hz : (assignEach [.Subscript o i p] X.env).map (·.2) = [assign (.Subscript o i p) X.env] := by rfl) : SS ct X W (.Assign [.Subscript o i p] e pos) (sSub f fo fi) := by
  obtain ⟨te, pe, le⟩ := he
  obtain ⟨to, po, lo⟩ := ho
  obtain ⟨ti, pi, li⟩ := hi
  refine ⟨_, ps_asg pe (pg_sub po pi set_list ha) hs hw hz, fun F ρ M G σ s H D r rs w => ?_⟩
  refine le F ρ M G σ s H _ r rs (w.thn rs fun d M1 F1 ρ1 H1 v u1 r1 d1 w1 => ?_)
  refine lo F1 ρ1 M1 G σ s H1 _ r1 (rs.up u1) (w1.thn (rs.up u1) fun o M2 F2 ρ2 H2 v2 u2 r2 d2 w2 => ?_)
  refine li F2 ρ2 M2 G σ s H2 _ r2 (rs.up (u1.trans u2)) (w2.thn (rs.up (u1.trans u2)) fun i M3 F3 ρ3 H3 v3 u3 r3 d3 w3 => ?_)
  split at w3
  · rename_i l k
    cases d3
    have d2' := RepD.up u3 d2
    obtain ⟨a, ha, rfl⟩ := d2'
    split at w3
    · rename_i xs hm
      obtain ⟨b, ho, g1, g2, g3, g4, vs, g5, g6, g7⟩ := r3.obj l _ hm
      rw [ha] at g1; cases g1
      subst g5
      split at w3
      · rename_i j hj
        refine ⟨a, vs, k, j, rfl, rfl, g4, by rw [← g6.length]; exact hj, ?_⟩
        have hr := r3.wrote (m := .lst (xs.set j d)) (o := .lst (vs.set j v)) ha hm (fun z => nomatch z) ⟨_, rfl, g6.set (d1.up (u2.trans u3)) j, by simpa using g7⟩
        exact w3 F3 ρ3 _ s .rfl' hr (rs.up (u1.trans (u2.trans u3)))
      · exact w3.elim
    · exact w3.elim
  · exact w3.elim

/-! ### what a loop walks -/
/-- the items; what must stay true of the store while they are walked -/
abbrev Src := List Item × (Mem → Prop)
def RepW (K : PySem.W.Frag) (ct : Ct) (F : Hp) (ρ : List Addr) (S : Src) (J : It) : Prop := ∀ F' ρ' M G H (i : Nat), Up F ρ F' ρ' → Rel K ct F' ρ' M G H → S.2 M →
  (i = S.1.length → J.stop i H) ∧ ∀ it, S.1[i]? = some it → J.go i H ∧ ∀ x H2, J.yld i H x H2 → ∃ F2, Up F' ρ' F2 ρ' ∧ Rel K ct F2 ρ' M G H2 ∧ RepI K F2 ρ' it x
abbrev MW := Sg → Mem → R Src
def SI (ct : Ct) (X : Cx) (W : WX) (tg iter : Expr) (g : MW) : Prop := ∃ wi, PI X tg iter wi ∧ ∀ F ρ M G σ s H Q, Rel X.K ct F ρ M G H → RelS X.K F ρ σ s → Wp X.K ct (RepW X.K ct) F ρ G (g σ M) Q (fun c d H' => W c d s H') → wi s H Q
theorem Reps.one {K : PySem.W.Frag} {F : Hp} {ρ : List Addr} {ds : List D} {vs : List V} (h : Reps K F ρ ds vs) {i : Nat} {it : Item} (e : (ds.map Item.one)[i]? = some it) : ∃ v, vs[i]? = some v ∧ RepI K F ρ it v := by
  rw [List.getElem?_map] at e
  obtain ⟨d, h1, h2⟩ := Option.map_eq_some_iff.mp e
  subst h2
  obtain ⟨v, h3, h4⟩ := h.get h1
  exact ⟨v, h3, h4⟩
/-- a list or a tuple -/
def wSeq (f : ME) : MW := fun σ M => (f σ M).bind fun d M1 => match d with
  | .at l => match M1[l]? with
    | some (.lst xs) => .ok (xs.map .one, fun M => M[l]? = some (.lst xs)) M1
    | _ => .er
  | .p (.list ds) => .ok (ds.map fun d => .one (.p d), fun _ => True) M1
  | _ => .er
def wTup (f : ME) : MW := fun σ M => (f σ M).bind fun d M1 => match d with
  | .p (.tuple ds) => .ok (ds.map fun d => .one (.p d), fun _ => True) M1
  | _ => .er
theorem si_list {tg l : Expr} (hl : SE ct X W l f) : SI ct X W tg l (wSeq f) := by
  obtain ⟨tl, pl, ll⟩ := hl
  refine ⟨_, pi_list pl, fun F ρ M G σ s H Q r rs w => ?_⟩
  refine ll F ρ M G σ s H _ r rs (w.thn fun d M1 F1 ρ1 H1 v u1 r1 d1 w1 => ?_)
  split at w1
  · rename_i l
    obtain ⟨a, ha, rfl⟩ := d1
    split at w1
    · rename_i xs hm
      obtain ⟨b, ho, g1, g2, g3, g4, vs, g5, g6, g7⟩ := r1.obj l _ hm
      rw [ha] at g1; cases g1
      subst g5
      refine ⟨a, rfl, ⟨vs, SqL.of g4⟩, w1.val r1 fun F' ρ' M' G' H' i u' r' hk => ?_⟩
      obtain ⟨b, ho, g1, g2, g3, g4, vs', g5, g6, g7⟩ := r'.obj l _ hk
      rw [u'.pr _ _ ha] at g1; cases g1
      subst g5
      refine ⟨fun hi => ⟨vs', SqL.of g4, by rw [hi, List.length_map, g6.length]; exact Nat.le_refl _⟩, fun it hit => ?_⟩
      obtain ⟨v, h1, h2⟩ := g6.one hit
      refine ⟨⟨vs', v, SqL.of g4, h1⟩, fun x H2 hy => ?_⟩
      obtain ⟨e, hy⟩ := hy
      subst e
      have := hy vs' (SqL.of g4)
      rw [h1] at this
      cases this
      exact ⟨F', .rfl', r', h2⟩
    · exact w1.elim
  · rename_i ds
    cases d1 with
    | lst g4 z t =>
      rename_i a vs
      refine ⟨a, rfl, ⟨vs, SqL.of (r1.sub _ _ g4)⟩, w1.val r1 fun F' ρ' M' G' H' i u' r' hk => ?_⟩
      have q := SqL.of (K := X.K) (r'.sub _ _ (u'.fr _ _ g4))
      have t2 := (Reps.ofAll (ρ := ρ1) t).up u'
      refine ⟨fun hi => ⟨vs, q, by rw [hi, List.length_map, t.length]; exact Nat.le_refl _⟩, fun it hit => ?_⟩
      obtain ⟨v, h1, h2⟩ := t2.one (it := it) (by rw [List.map_map]; exact hit)
      refine ⟨⟨vs, v, q, h1⟩, fun x H2 hy => ?_⟩
      obtain ⟨e, hy⟩ := hy
      subst e
      have := hy vs q
      rw [h1] at this
      cases this
      exact ⟨F', .rfl', r', h2⟩
  · exact w1.elim
theorem si_tup {tg l : Expr} (hl : SE ct X W l f) : SI ct X W tg l (wTup f) := by
  obtain ⟨tl, pl, ll⟩ := hl
  refine ⟨_, pi_tup pl, fun F ρ M G σ s H Q r rs w => ?_⟩
  refine ll F ρ M G σ s H _ r rs (w.thn fun d M1 F1 ρ1 H1 v u1 r1 d1 w1 => ?_)
  split at w1
  · rename_i ds
    cases d1 with
    | tup g4 z t =>
      rename_i a vs
      refine ⟨a, rfl, ⟨vs, sqT_up r1.sub g4⟩, w1.val r1 fun F' ρ' M' G' H' i u' r' hk => ?_⟩
      have q := sqT_up (K := X.K) r'.sub (sqT_up u'.fr g4)
      have t2 := (Reps.ofAll (ρ := ρ1) t).up u'
      refine ⟨fun hi => ⟨vs, q, by rw [hi, List.length_map, t.length]; exact Nat.le_refl _⟩, fun it hit => ?_⟩
      obtain ⟨v, h1, h2⟩ := t2.one (it := it) (by rw [List.map_map]; exact hit)
      refine ⟨⟨vs, v, q, h1⟩, fun x H2 hy => ?_⟩
      obtain ⟨e, hy⟩ := hy
      subst e
      have := hy vs q
      rw [h1] at this
      cases this
      exact ⟨F', .rfl', r', h2⟩
  · exact w1.elim
/-- range(n), range(a, b) -/
def rngI (lo : Int) (n : Nat) : List Item := (List.range n).map fun i => .one (.p (.int (lo + (i : Nat))))
theorem rngI_ok {K : PySem.W.Frag} {F : Hp} {ρ : List Addr} (lo : Int) (n : Nat) : RepW K ct F ρ (rngI lo n, fun _ => True) (Itr lo n) := fun F' ρ' M G H i u r _ => by
  refine ⟨fun hi => ?_, fun it hit => ?_⟩
  · have : i = n := by simpa [rngI] using hi
    show n ≤ i
    omega
  · have hl : i < n := by
      have := (List.getElem?_eq_some_iff.mp hit).1
      simpa [rngI] using this
    have e : it = .one (.p (.int (lo + (i : Nat)))) := by
      simp only [rngI, List.getElem?_map, List.getElem?_range hl] at hit
      simpa using hit.symm
    subst e
    refine ⟨hl, fun x H2 hy => ?_⟩
    obtain ⟨e1, e2⟩ := hy
    subst e1 e2
    exact ⟨F', .rfl', r, .int _⟩
def wRng1 (f : MA) : MW := fun σ M => (f σ M).bind fun xs M1 => match xs with
  | [.p (.int n)] => if -(2 ^ 62) ≤ n ∧ n < 2 ^ 62 then .ok (rngI 0 n.toNat, fun _ => True) M1 else .er
  | _ => .er
def wRng2 (f : MA) : MW := fun σ M => (f σ M).bind fun xs M1 => match xs with
  | [.p (.int i), .p (.int n)] => if -(2 ^ 62) ≤ i ∧ i < 2 ^ 62 ∧ -(2 ^ 62) ≤ n ∧ n < 2 ^ 62 then .ok (rngI i (n - i).toNat, fun _ => True) M1 else .er
  | _ => .er
theorem si_rng1 {tg : Expr} {p : Pos} {g : MA} (ha : SA ct X W [a] g) (hg : Gl X "range") (hm : X.mg "range" = none) (hs : starEach [a] X.env = [(false, eval a X.env)] := by rfl) : SI ct X W tg (.Call (.Name "range" p) [a] [] pos) (wRng1 g) := by
  obtain ⟨ta, pa, la⟩ := ha
  refine ⟨_, pi_range1 hg hm pa hs, fun F ρ M G σ s H Q r rs w => ?_⟩
  refine la F ρ M G σ s H _ r rs (w.thn fun xs M1 F1 ρ1 H1 vs u1 r1 d1 w1 => ?_)
  split at w1
  · cases d1 with
    | cons h t =>
      cases t
      cases h
      split at w1
      · rename_i hb
        exact ⟨_, rfl, hb.1, hb.2, w1.val r1 (rngI_ok 0 _)⟩
      · exact w1.elim
  · exact w1.elim
theorem si_rng2 {tg : Expr} {p : Pos} {g : MA} (ha : SA ct X W [a, b] g) (hg : Gl X "range") (hm : X.mg "range" = none) (hs : starEach [a, b] X.env = [(false, eval a X.env), (false, eval b X.env)] := by rfl) (hs2 : starEach [b] X.env = [(false, eval b X.env)] := by rfl) : SI ct X W tg (.Call (.Name "range" p) [a, b] [] pos) (wRng2 g) := by
  obtain ⟨ta, pa, la⟩ := ha
  refine ⟨_, pi_range2 hg hm pa hs hs2, fun F ρ M G σ s H Q r rs w => ?_⟩
  refine la F ρ M G σ s H _ r rs (w.thn fun xs M1 F1 ρ1 H1 vs u1 r1 d1 w1 => ?_)
  split at w1
  · cases d1 with
    | cons h t =>
      cases t with
      | cons h' t =>
        cases t
        cases h; cases h'
        split at w1
        · rename_i hb
          exact ⟨_, _, rfl, hb, w1.val r1 (rngI_ok _ _)⟩
        · exact w1.elim
  · exact w1.elim

/-! ### for -/
open Classical in
noncomputable def forL (ck : Mem → Prop) (g : GT) (body : MS) : List Item → MS
  | [], σ, M => if ck M then .nx σ M else .er
  | it :: r, σ, M => if ck M then (g it σ M).go σ fun σ1 M1 => match body σ1 M1 with
      | .nx σ2 M2 => forL ck g body r σ2 M2
      | .ct σ2 M2 => forL ck g body r σ2 M2
      | .bk σ2 M2 => .nx σ2 M2
      | .rt v M2 => .rt v M2
      | .ex c x σ2 M2 => .ex c x σ2 M2
      | .er => .er
    else .er
noncomputable def sFor (wi : MW) (g : GT) (body : MS) : MS := fun σ M => (wi σ M).go σ fun S M1 => forL S.2 g body S.1 σ M1
theorem ss_for {vs : List Nat} {tg iter : Expr} {body : List Stmt} {wi : MW} {g : GT} (hp : PassesOwn (model X.prog X.w) X.A X.env X.xe) (hc : X.calm = true) (hi : SI ct X W tg iter wi) (hg : SG ct X W vs tg g) (hb : SSs ct X W body h)
    (hs : ∀ x, foldedSetIterable iter X.env x = pure x := by intro _; rfl) : SS ct X W (.For tg iter body [] pos) (sFor wi g h) := by
  obtain ⟨ti, pi, li⟩ := hi
  obtain ⟨tg, pg, lg⟩ := hg
  obtain ⟨tb, pb, lb⟩ := hb
  refine ⟨_, ps_for hp hc pi pg pb hs, fun F ρ M G σ s H D r rs w => ?_⟩
  refine li F ρ M G σ s H _ r rs (w.thn rs fun S M1 F1 ρ1 H1 J u1 r1 d1 w1 => ?_)
  refine ⟨fun i m s' H' => m = S.1.length - i ∧ i ≤ S.1.length ∧ ∃ F' ρ' M' σ', Up F1 ρ1 F' ρ' ∧ Rel X.K ct F' ρ' M' G H' ∧ RelS X.K F' ρ' σ' s' ∧ WpS X.K ct F' ρ' G (forL S.2 g h (S.1.drop i) σ' M') D W,
    ⟨_, rfl, Nat.zero_le _, F1, ρ1, M1, σ, .rfl', r1, rs.up u1, w1⟩, ?_⟩
  rintro i m s' H' ⟨rfl, hi, F2, ρ2, M2, σ2, u2, r2, rs2, w2⟩
  by_cases hlt : i < S.1.length
  · right
    rw [List.drop_eq_getElem_cons hlt] at w2
    simp only [forL] at w2
    split at w2
    · rename_i hck
      obtain ⟨_, hgo⟩ := d1 F2 ρ2 M2 G H' i u2 r2 hck
      obtain ⟨g1, g2⟩ := hgo _ (List.getElem?_eq_getElem hlt)
      refine ⟨g1, fun s3 H3 => i + 1 ≤ S.1.length ∧ ∃ F' ρ' M' σ', Up F1 ρ1 F' ρ' ∧ Rel X.K ct F' ρ' M' G H3 ∧ RelS X.K F' ρ' σ' s3 ∧ WpS X.K ct F' ρ' G (forL S.2 g h (S.1.drop (i + 1)) σ' M') D W, fun s3 H3 hn => ⟨S.1.length - (i + 1), by omega, rfl, hn.1, hn.2⟩, fun x H3 hy => ?_⟩
      obtain ⟨F3, u3, r3, ri⟩ := g2 x H3 hy
      refine lg F3 ρ2 M2 G σ2 s' H3 _ x _ r3 (rs2.up u3) ri ((w2.up u3).thn (rs2.up u3) fun σ4 M4 F4 ρ4 H4 s4 u4 r4 rs4 w4 _ => ?_)
      refine lb F4 ρ4 M4 G σ4 s4 H4 _ r4 rs4 ?_
      have U : ∀ {F5 ρ5}, Up F4 ρ4 F5 ρ5 → Up F1 ρ1 F5 ρ5 := fun u5 => u2.trans (u3.trans (u4.trans u5))
      revert w4
      cases h σ4 M4 with
      | nx σ5 M5 => exact fun w4 F5 ρ5 H5 s5 u5 r5 rs5 => ⟨hlt, F5, ρ5, M5, σ5, U u5, r5, rs5, w4.up u5⟩
      | ct σ5 M5 => exact fun w4 F5 ρ5 H5 s5 u5 r5 rs5 => ⟨hlt, F5, ρ5, M5, σ5, U u5, r5, rs5, w4.up u5⟩
      | bk σ5 M5 => exact fun w4 => w4
      | rt v M5 => exact fun w4 => w4
      | ex c x σ5 M5 => exact fun w4 => w4
      | er => exact fun w4 => w4
    · exact w2.elim
  · left
    have e : i = S.1.length := by omega
    subst e
    rw [List.drop_length] at w2
    simp only [forL] at w2
    split at w2
    · rename_i hck
      exact ⟨(d1 F2 ρ2 M2 G H' _ u2 r2 hck).1 rfl, w2.nxt r2 rs2⟩
    · exact w2.elim
/-! ### while -/
def whR (c : MT) (body : MS) : Nat → MS
  | 0, _, _ => .er
  | n + 1, σ, M => (c σ M).go σ fun b M1 => if b = true then (match body σ M1 with
      | .nx σ2 M2 => whR c body n σ2 M2
      | .ct σ2 M2 => whR c body n σ2 M2
      | .bk σ2 M2 => .nx σ2 M2
      | .rt v M2 => .rt v M2
      | .ex c x σ2 M2 => .ex c x σ2 M2
      | .er => .er) else .nx σ M1
/-- at most so many turns (some number, whichever) -/
def sWhile (c : MT) (body : MS) (n : Nat) : MS := whR c body n
theorem ss_while {c : Expr} {body : List Stmt} {g : MT} (n : Nat) (hp : PassesOwn (model X.prog X.w) X.A X.env X.xe) (hc : SB ct X W c g) (hb : SSs ct X W body h) : SS ct X W (.While c body [] pos) (sWhile g h n) := by
  obtain ⟨tc, pc, lc⟩ := hc
  obtain ⟨tb, pb, lb⟩ := hb
  refine ⟨_, ps_while hp pc pb, fun F ρ M G σ s H D r rs w => ?_⟩
  refine ⟨fun m s' H' => ∃ F' ρ' M' σ', Up F ρ F' ρ' ∧ Rel X.K ct F' ρ' M' G H' ∧ RelS X.K F' ρ' σ' s' ∧ WpS X.K ct F' ρ' G (whR g h m σ' M') D W, ⟨n, F, ρ, M, σ, .rfl', r, rs, w⟩, ?_⟩
  rintro m s' H' ⟨F2, ρ2, M2, σ2, u2, r2, rs2, w2⟩
  cases m with
  | zero => exact w2.elim
  | succ m =>
    simp only [whR] at w2
    refine lc F2 ρ2 M2 G σ2 s' H' _ r2 rs2 (w2.thn rs2 fun c M3 F3 ρ3 H3 c' u3 r3 d3 w3 => ?_)
    cases d3
    cases c with
    | false => exact iteF (w3.nxt r3 (rs2.up u3))
    | true =>
      refine iteT ⟨fun s3 H3 => ∃ F' ρ' M' σ', Up F ρ F' ρ' ∧ Rel X.K ct F' ρ' M' G H3 ∧ RelS X.K F' ρ' σ' s3 ∧ WpS X.K ct F' ρ' G (whR g h m σ' M') D W, fun s3 H3 hn => ⟨m, Nat.lt_succ_self _, hn⟩, ?_⟩
      refine lb F3 ρ3 M3 G σ2 s' H3 _ r3 (rs2.up u3) ?_
      have U : ∀ {F5 ρ5}, Up F3 ρ3 F5 ρ5 → Up F ρ F5 ρ5 := fun u5 => u2.trans (u3.trans u5)
      rw [if_pos rfl] at w3
      revert w3
      cases h σ2 M3 with
      | nx σ5 M5 => exact fun w4 F5 ρ5 H5 s5 u5 r5 rs5 => ⟨F5, ρ5, M5, σ5, U u5, r5, rs5, w4.up u5⟩
      | ct σ5 M5 => exact fun w4 F5 ρ5 H5 s5 u5 r5 rs5 => ⟨F5, ρ5, M5, σ5, U u5, r5, rs5, w4.up u5⟩
      | bk σ5 M5 => exact fun w4 => w4
      | rt v M5 => exact fun w4 => w4
      | ex c x σ5 M5 => exact fun w4 => w4
      | er => exact fun w4 => w4
end
end Tl

/-! The tree layer, part 5: comprehensions; defs and their calls. -/
namespace Tl
open PySem L2

/-! ### things held aside -/
section
variable {K : PySem.W.Frag} {ct : Ct} {F F' : Hp} {ρ ρ' : List Addr} {M : Mem} {G H : Hp} {p : Addr} {o o' : HO}
theorem Rel.hold (r : Rel K ct F ρ M G H) (h : H p = none) : Rel K ct F ρ M (upd G p o) (upd H p o) := by
  have hF := r.fnone h
  refine ⟨fun a u e => ?_, fun a u e => ?_, fun a u e => ?_, r.len, r.nod, fun l m e => ?_⟩
  · rw [upd_ne (ne_of_none (r.sub a u e) h)]; exact r.sub a u e
  · by_cases ha : a = p
    · subst ha; rw [upd_same] at e ⊢; exact e
    · rw [upd_ne ha] at e ⊢; exact r.gub a u e
  · rw [upd_ne (ne_of_none e hF)]; exact r.dis a u e
  · obtain ⟨a, ho, h1, h2, h3, h4, h5⟩ := r.obj l m e
    have ha : a ≠ p := ne_of_none h4 h
    exact ⟨a, ho, h1, h2, by rw [upd_ne ha]; exact h3, by rw [upd_ne ha]; exact h4, h5⟩
theorem Rel.apart (r : Rel K ct F ρ M (upd G p o) H) : (∀ a u, F a = some u → a ≠ p) ∧ (∀ a, a ∈ ρ → a ≠ p) ∧ H p = some o := by
  refine ⟨fun a u e z => ?_, fun a e z => ?_, r.gub p o upd_same⟩
  · subst z; have := r.dis a u e; rw [upd_same] at this; cases this
  · subst z; have := (r.mem e).2; rw [upd_same] at this; cases this
theorem Rel.rehold (r : Rel K ct F ρ M (upd G p o) H) : Rel K ct F ρ M (upd G p o') (upd H p o') := by
  obtain ⟨q1, q2, q3⟩ := r.apart
  refine ⟨fun a u e => ?_, fun a u e => ?_, fun a u e => ?_, r.len, r.nod, fun l m e => ?_⟩
  · rw [upd_ne (q1 a u e)]; exact r.sub a u e
  · by_cases ha : a = p
    · subst ha; rw [upd_same] at e ⊢; exact e
    · rw [upd_ne ha] at e ⊢; exact r.gub a u (by rw [upd_ne ha]; exact e)
  · have := r.dis a u e
    rw [upd_ne (q1 a u e)] at this ⊢; exact this
  · obtain ⟨a, ho, h1, h2, h3, h4, h5⟩ := r.obj l m e
    have ha : a ≠ p := q2 a (List.mem_of_getElem? h1)
    rw [upd_ne ha] at h3
    exact ⟨a, ho, h1, h2, by rw [upd_ne ha]; exact h3, by rw [upd_ne ha]; exact h4, h5⟩
theorem Rel.give (r : Rel K ct F ρ M (upd G p o) H) (hG : G p = none) : Rel K ct (upd F p o) ρ M G H ∧ Up F ρ (upd F p o) ρ := by
  obtain ⟨q1, q2, q3⟩ := r.apart
  have hF : F p = none := by
    cases e : F p with
    | none => rfl
    | some u => exact absurd rfl (q1 p u e)
  have u := up_new (F := F) (ρ := ρ) (o := o) hF
  refine ⟨⟨fun a u e => ?_, fun a u e => ?_, fun a u e => ?_, r.len, r.nod, fun l m e => ?_⟩, u⟩
  · by_cases ha : a = p
    · subst ha; rw [upd_same] at e; cases e; exact q3
    · rw [upd_ne ha] at e; exact r.sub a u e
  · exact r.gub a u (by rw [upd_ne (ne_of_none e hG)]; exact e)
  · by_cases ha : a = p
    · subst ha; exact hG
    · rw [upd_ne ha] at e
      have := r.dis a u e
      rw [upd_ne ha] at this; exact this
  · obtain ⟨a, ho, h1, h2, h3, h4, h5⟩ := r.obj l m e
    have ha : a ≠ p := q2 a (List.mem_of_getElem? h1)
    rw [upd_ne ha] at h3
    exact ⟨a, ho, h1, fun z => by rw [upd_ne ha]; exact h2 z, h3, h4, h5.up u⟩
theorem Rel.giveM {m : MO} (r : Rel K ct F ρ M (upd G p o) H) (hG : G p = none) (mr : Up F ρ F (ρ ++ [p]) → MRep K ct F (ρ ++ [p]) m o) : Rel K ct F (ρ ++ [p]) (M ++ [m]) G H ∧ Up F ρ F (ρ ++ [p]) := by
  obtain ⟨q1, q2, q3⟩ := r.apart
  have u : Up F ρ F (ρ ++ [p]) := ⟨fun _ _ z => z, fun l a z => by rw [List.getElem?_append_left (List.getElem?_eq_some_iff.mp z).1]; exact z⟩
  refine ⟨⟨r.sub, fun a u e => r.gub a u (by rw [upd_ne (ne_of_none e hG)]; exact e), fun a u e => ?_, by simp [r.len], ?_, fun l mo e => ?_⟩, u⟩
  · have := r.dis a u e
    rw [upd_ne (q1 a u e)] at this; exact this
  · refine List.nodup_append.mpr ⟨r.nod, by simp, fun a ha b hb => ?_⟩
    have : b = p := by simpa using hb
    subst this
    exact q2 a ha
  · by_cases hl : l < M.length
    · rw [List.getElem?_append_left hl] at e
      obtain ⟨a, ho, h1, h2, h3, h4, h5⟩ := r.obj l mo e
      rw [upd_ne (q2 a (List.mem_of_getElem? h1))] at h3
      exact ⟨a, ho, u.pr _ _ h1, h2, h3, h4, h5.up u⟩
    · have hl2 : l = M.length := by
        have := (List.getElem?_eq_some_iff.mp e).1
        simp at this; omega
      subst hl2
      have : m = mo := by simpa using e
      subst this
      refine ⟨p, o, ?_, fun _ => ?_, hG, q3, mr u⟩
      · rw [List.getElem?_append_right (by rw [r.len]; exact Nat.le_refl _), r.len]
        simp
      · cases e : F p with
        | none => rfl
        | some u => exact absurd rfl (q1 p u e)
/-- something new that nobody speaks of -/
theorem Rel.extra (r : Rel K ct F ρ M G H) (h : H p = none) : Rel K ct F ρ M G (upd H p o) := by
  refine ⟨fun a u e => ?_, fun a u e => ?_, r.dis, r.len, r.nod, fun l m e => ?_⟩
  · rw [upd_ne (ne_of_none (r.sub a u e) h)]; exact r.sub a u e
  · rw [upd_ne (ne_of_none (r.gub a u e) h)]; exact r.gub a u e
  · obtain ⟨a, ho, h1, h2, h3, h4, h5⟩ := r.obj l m e
    exact ⟨a, ho, h1, h2, h3, by rw [upd_ne (ne_of_none h4 h)]; exact h4, h5⟩
end

/-! ### readings by their functions alone -/
def tOf (ct : Ct) (K : PySem.W.Frag) (W : WX) (f : ME) : TE := fun s H Q => ∃ F ρ M G σ, Rel K ct F ρ M G H ∧ RelS K F ρ σ s ∧ Wp K ct (RepD K) F ρ G (f σ M) Q (fun c d H' => W c d s H')
def bOf (ct : Ct) (K : PySem.W.Frag) (W : WX) (f : MT) : TT := fun s H Q => ∃ F ρ M G σ, Rel K ct F ρ M G H ∧ RelS K F ρ σ s ∧ Wp K ct rpB F ρ G (f σ M) Q (fun c d H' => W c d s H')
def gOf (ct : Ct) (K : PySem.W.Frag) (W : WX) (vs : List Nat) (g : GT) : TG := fun v s H Q => ∃ F ρ M G σ it, Rel K ct F ρ M G H ∧ RelS K F ρ σ s ∧ RepI K F ρ it v ∧ Wp K ct (RelS K) F ρ G (g it σ M) (fun s' H' => Tl.Only vs s s' → Q s' H') (fun c d H' => W c d s H')
abbrev W0 : WX := fun _ _ _ _ => False
section
variable {ct : Ct} {X : Cx} {W : WX} {e : Expr}
theorem SE.pe {f : ME} (h : SE ct X W e f) : PE X e (tOf ct X.K W f) := by
  obtain ⟨t, p, l⟩ := h
  exact ⟨fun pins s σ H Q I ⟨F, ρ, M, G, σ', r, rs, w⟩ => p.run pins s σ H Q I (l F ρ M G σ' σ H Q r rs w)⟩
theorem SB.pt {f : MT} (h : SB ct X W e f) : PT X e (bOf ct X.K W f) := by
  obtain ⟨t, p, l⟩ := h
  exact ⟨fun pins s σ H Q I ⟨F, ρ, M, G, σ', r, rs, w⟩ => p.run pins s σ H Q I (l F ρ M G σ' σ H Q r rs w)⟩
theorem SG.pg {vs : List Nat} {g : GT} (h : SG ct X W vs e g) : PG X e (gOf ct X.K W vs g) := by
  obtain ⟨t, p, l⟩ := h
  exact ⟨fun pins s σ H v u Q I rv ⟨F, ρ, M, G, σ', it, r, rs, ri, w⟩ => p.run pins s σ H v u Q I rv (l F ρ M G σ' σ H it v Q r rs ri w)⟩
end
/-- a comprehension's tests -/
def ST (ct : Ct) (X : Cx) (W : WX) (ifs : List Expr) (f : MT) : Prop := PTs X ifs (bOf ct X.K W f)
def bYes : MT := fun _ M => .ok true M
section
variable {ct : Ct} {X : Cx} {W : WX} {e : Expr}
theorem st_nil : ST ct X W [] bYes := ⟨fun pins s σ H Q I ⟨F, ρ, M, G, σ', r, rs, w⟩ => pts_nil.run pins s σ H Q I (w.val r rfl)⟩
theorem st_one {f : MT} (h : SB ct X W e f) : ST ct X W [e] f := pts_one h.pt
end

/-! ### list comprehensions -/
def wipeG (σ : Sg) : List Nat → Sg
  | [] => σ
  | v :: vs => (wipeG σ vs).set v none
theorem RelS.wipe {K : PySem.W.Frag} {F : Hp} {ρ : List Addr} {σ : Sg} {s : L2.St} (r : RelS K F ρ σ s) : ∀ vs : List Nat, RelS K F ρ (wipeG σ vs) (L2.wipe s vs)
  | [] => r
  | v :: vs => (r.wipe vs).unset v
theorem wipe_get {s : L2.St} {i : Nat} : ∀ {vs : List Nat}, i ∈ vs → i < s.length → (L2.wipe s vs)[i]? = some none
  | v :: vs, h, hl => by
    unfold L2.wipe
    by_cases e : v = i
    · subst e
      rw [List.getElem?_set_self (by rw [wipe_length]; exact hl)]
    · rw [List.getElem?_set_ne e]
      exact wipe_get (by rcases List.mem_cons.mp h with q | q; exact absurd q.symm e; exact q) hl
theorem wipe_only {s s' : L2.St} {vs us : List Nat} (h : Tl.Only us (L2.wipe s vs) s') (hs : ∀ i ∈ us, i ∈ vs) : L2.wipe s' vs = L2.wipe s vs := by
  have hl : s'.length = s.length := by rw [h.1, wipe_length]
  refine List.ext_getElem? fun i => ?_
  by_cases hi : i < s.length
  · by_cases hv : i ∈ vs
    · rw [wipe_get hv (by rw [hl]; exact hi), wipe_get hv hi]
    · rw [wipe_out hv, h.2 i (fun z => hv (hs i z))]
  · rw [List.getElem?_eq_none (by rw [wipe_length, hl]; omega), List.getElem?_eq_none (by rw [wipe_length]; omega)]
open Classical in
noncomputable def lcL (ck : Mem → Prop) (g : GT) (tt : MT) (te : ME) (σ : Sg) : List Item → List D → Mem → R (List D)
  | [], acc, M => if ck M then .ok acc M else .er
  | it :: r, acc, M => if ck M then (g it σ M).noEx.bind fun σ1 M1 => (tt σ1 M1).noEx.bind fun b M2 => if b = true then (te σ1 M2).noEx.bind fun d M3 => lcL ck g tt te σ r (acc ++ [d]) M3 else lcL ck g tt te σ r acc M2 else .er
noncomputable def mLc (wi : MW) (g : GT) (tt : MT) (te : ME) (vs : List Nat) (mk : GDs) : ME := fun σ M => (wi σ M).bind fun S M1 => if S.1.length ≤ sizeLine then (lcL S.2 g tt te (wipeG σ vs) S.1 [] M1).bind mk else .er
/-- what becomes of the new list -/
def FinL (ct : Ct) (K : PySem.W.Frag) (mk : GDs) : Prop := ∀ (F : Hp) (ρ : List Addr) (M : Mem) (G H : Hp) (xs : List D) (vs : List V) (p : Addr) (Q : VK) (E : XK), Rel K ct F ρ M (upd G p (.lst vs)) H → G p = none → Reps K F ρ xs vs → Wp K ct (RepD K) F ρ G (mk xs M) Q E → Q (.ref p) H
theorem fin_lstD {ct : Ct} {K : PySem.W.Frag} : FinL ct K lstD := fun F ρ M G H xs vs p Q E r hG rx w => by
  unfold lstD at w
  split at w
  · rename_i hz
    rw [rx.length] at hz
    split at w
    · rename_i ds he
      have := unP_some he
      subst this
      obtain ⟨r1, u1⟩ := r.give hG
      exact w _ ρ H _ u1 r1 (Rp.lst upd_same hz (rx.up u1).toAll)
    · exact w.elim
  · exact w.elim
theorem fin_lstM {ct : Ct} {K : PySem.W.Frag} : FinL ct K lstM := fun F ρ M G H xs vs p Q E r hG rx w => by
  unfold lstM at w
  split at w
  · rename_i hz
    rw [rx.length] at hz
    obtain ⟨r1, u1⟩ := r.giveM (m := .lst xs) hG fun u => ⟨vs, rfl, rx.up u, hz⟩
    exact w F _ H _ u1 r1 ⟨p, by rw [List.getElem?_append_right (by rw [r.len]; exact Nat.le_refl _), r.len]; simp, rfl⟩
  · exact w.elim
theorem noEx_wp {α β : Type} {K : PySem.W.Frag} {ct : Ct} {rp : Hp → List Addr → α → β → Prop} {F : Hp} {ρ : List Addr} {G : Hp} {r : R α} {Q : β → Hp → Prop} {E E' : XK} (h : Wp K ct rp F ρ G r.noEx Q E) : Wp K ct rp F ρ G r Q E' := by
  cases r with
  | ok a M => exact h
  | ex c x M => exact (show False from h).elim
  | er => exact h
theorem R.bind_noEx {α β : Type} (r : R α) (g : α → Mem → R β) : (∃ a M, r = .ok a M ∧ r.noEx.bind g = g a M) ∨ r.noEx.bind g = .er := by
  cases r with
  | ok a M => exact .inl ⟨a, M, rfl, rfl⟩
  | ex c x M => exact .inr rfl
  | er => exact .inr rfl
section
variable {ct : Ct} {X : Cx} {W : WX}
theorem lc_run {K : PySem.W.Frag} {wi : TI} {gi : MW} {g : GT} {tt : MT} {te : ME} {vs us : List Nat} {mk : GDs} (fin : FinL ct K mk) (hs : ∀ i ∈ us, i ∈ vs)
    (li : ∀ F ρ M G σ s H Q, Rel K ct F ρ M G H → RelS K F ρ σ s → Wp K ct (RepW K ct) F ρ G (gi σ M) Q (fun c d H' => W c d s H') → wi s H Q) :
    ∀ F ρ M G σ s H Q, Rel K ct F ρ M G H → RelS K F ρ σ s → Wp K ct (RepD K) F ρ G (mLc gi g tt te vs mk σ M) Q (fun c d H' => W c d s H') → tLc wi (gOf ct K W0 us g) (bOf ct K W0 tt) (tOf ct K W0 te) vs s H Q := by
  intro F ρ M G σ s H Q r rs w
  refine li F ρ M G σ s H _ r rs (w.thn fun S M1 F1 ρ1 H1 J u1 r1 d1 w1 => ?_)
  split at w1
  · rename_i hz
    intro p hp
    have hG : G p = none := r1.gnone hp
    refine ⟨fun i m H' => m = S.1.length - i ∧ i ≤ S.1.length ∧ ∃ F' ρ' M' acc xs, Up F1 ρ1 F' ρ' ∧ Rel K ct F' ρ' M' (upd G p (.lst xs)) H' ∧ Reps K F' ρ' acc xs ∧ acc.length ≤ i ∧ Wp K ct (RepD K) F' ρ' G ((lcL S.2 g tt te (wipeG σ vs) (S.1.drop i) acc M').bind mk) Q (fun c d H' => W c d s H'),
      ⟨_, rfl, Nat.zero_le _, F1, ρ1, M1, [], [], .rfl', r1.hold hp, .nil, Nat.le_refl _, w1⟩, ?_⟩
    rintro i m H' ⟨rfl, hi, F2, ρ2, M2, acc, xs, u2, r2, ra, hacc, w2⟩
    by_cases hlt : i < S.1.length
    · right
      rw [List.drop_eq_getElem_cons hlt] at w2
      simp only [lcL] at w2
      split at w2
      · rename_i hck
        obtain ⟨_, hgo⟩ := d1 F2 ρ2 M2 _ H' i u2 r2 hck
        obtain ⟨g1, g2⟩ := hgo _ (List.getElem?_eq_getElem hlt)
        refine ⟨g1, fun H3 => i + 1 ≤ S.1.length ∧ ∃ F' ρ' M' acc xs, Up F1 ρ1 F' ρ' ∧ Rel K ct F' ρ' M' (upd G p (.lst xs)) H3 ∧ Reps K F' ρ' acc xs ∧ acc.length ≤ i + 1 ∧ Wp K ct (RepD K) F' ρ' G ((lcL S.2 g tt te (wipeG σ vs) (S.1.drop (i + 1)) acc M').bind mk) Q (fun c d H' => W c d s H'), fun H3 hn => ⟨S.1.length - (i + 1), by omega, rfl, hn.1, hn.2⟩, fun x H3 hy => ?_⟩
        obtain ⟨F3, u3, r3, ri⟩ := g2 x H3 hy
        have U3 := u2.trans u3
        rcases R.bind_noEx (g S.1[i] (wipeG σ vs) M2) _ with ⟨σ4, M4, e4, h4⟩ | h4
        · rw [h4] at w2
          refine ⟨F3, ρ2, M2, _, wipeG σ vs, _, r3, ((rs.up u1).up U3).wipe vs, ri, ?_⟩
          rw [e4]
          refine fun F4 ρ4 H4 s4 u4 r4 rs4 o4 => ⟨wipe_only o4 hs, ?_⟩
          rcases R.bind_noEx (tt σ4 M4) _ with ⟨b, M5, e5, h5⟩ | h5
          · rw [h5] at w2
            refine ⟨F4, ρ4, M4, _, σ4, r4, rs4, ?_⟩
            rw [e5]
            refine fun F5 ρ5 H5 b' u5 r5 eb => ?_
            cases eb
            cases b with
            | false =>
              rw [if_neg (by decide)] at w2
              have U5 := u3.trans (u4.trans u5)
              exact iteF ⟨hlt, F5, ρ5, M5, acc, xs, u2.trans U5, r5, ra.up U5, Nat.le_succ_of_le hacc, w2.up U5⟩
            | true =>
              rw [if_pos rfl] at w2
              rcases R.bind_noEx (te σ4 M5) _ with ⟨d, M6, e6, h6⟩ | h6
              · rw [h6] at w2
                refine iteT ⟨F5, ρ5, M5, _, σ4, r5, rs4.up u5, ?_⟩
                rw [e6]
                refine fun F6 ρ6 H6 y u6 r6 ry => ⟨xs, r6.gub p _ upd_same, ?_, hlt, F6, ρ6, M6, acc ++ [d], xs ++ [y], ?_, r6.rehold, ?_, ?_, ?_⟩
                · have := ra.length
                  omega
                · exact u2.trans (u3.trans (u4.trans (u5.trans u6)))
                · exact (ra.up (u3.trans (u4.trans (u5.trans u6)))).append (.cons ry .nil)
                · simp; omega
                · exact w2.up (u3.trans (u4.trans (u5.trans u6)))
              · rw [h6] at w2; exact w2.elim
          · rw [h5] at w2; exact w2.elim
        · rw [h4] at w2; exact w2.elim
      · exact w2.elim
    · left
      have e : i = S.1.length := by omega
      subst e
      rw [List.drop_length] at w2
      simp only [lcL] at w2
      split at w2
      · rename_i hck
        exact ⟨(d1 F2 ρ2 M2 _ H' _ u2 r2 hck).1 rfl, fin F2 ρ2 M2 G H' acc xs p Q _ r2 hG ra w2⟩
      · exact w2.elim
  · exact w1.elim
variable {elt tg iter : Expr} {ifs : List Expr} {scope : Scope} {pos : Pos}
theorem se_lc (own : List (Str × Nat)) {us : List Nat} {gi : MW} {g : GT} {tt : MT} {te : ME} {mk : GDs} (fin : FinL ct X.K mk) (hc : X.calm = true) (hN : X.N.Nodup) (hi : SI ct X W tg iter gi) (ok : BlkOk X.N X.env.scope scope own)
    (hg : ∀ (s : Shared) (H : Hp) (C : Addr) (cl : List (Str × Addr)) (fp : List Addr), SG ct (X.blk s H scope (compEnvC scope cl C X.env) fp) W0 us tg g)
    (ht : ∀ (s : Shared) (H : Hp) (C : Addr) (cl : List (Str × Addr)) (fp : List Addr), ST ct (X.blk s H scope (compEnvC scope cl C X.env) fp) W0 ifs tt)
    (he : ∀ (s : Shared) (H : Hp) (C : Addr) (cl : List (Str × Addr)) (fp : List Addr), SE ct (X.blk s H scope (compEnvC scope cl C X.env) fp) W0 elt te)
    (hu : (us.all fun i => (own.map (·.2)).contains i) = true := by rfl) (hs : ∀ x, foldedSetIterable iter X.env x = pure x := by intro _; rfl) :
    SE ct X W (.ListComp elt [⟨tg, iter, ifs, 0⟩] scope pos) (mLc gi g tt te (own.map (·.2)) mk) := by
  obtain ⟨ti, pi, li⟩ := hi
  refine ⟨_, pe_lc (g := gOf ct X.K W0 us g) (tt := bOf ct X.K W0 tt) (te := tOf ct X.K W0 te) hc hN pi ok (fun s H C cl fp => (hg s H C cl fp).pg) (fun s H C cl fp => ht s H C cl fp) (fun s H C cl fp => (he s H C cl fp).pe) hs, lc_run fin (fun i hi => ?_) li⟩
  have := List.all_eq_true.mp hu i hi
  simpa using this
/-- y = [..] -/
theorem ss_setLc (i : Nat) (own : List (Str × Nat)) {y : Str} {py spos : Pos} {us : List Nat} {gi : MW} {g : GT} {tt : MT} {te : ME} {mk : GDs} (fin : FinL ct X.K mk) (hc : X.calm = true) (hN : X.N.Nodup) (hi : SI ct X W tg iter gi) (ok : BlkOk X.N X.env.scope scope own)
    (hsw : swapsWith (.ListComp elt [⟨tg, iter, ifs, 0⟩] scope pos) (some (.Name y py)) spos.line X.env = pure true)
    (hg : ∀ (s : Shared) (H : Hp) (C : Addr) (cl : List (Str × Addr)) (fp : List Addr), SG ct (X.blk s H scope (compEnvC scope cl C X.env) fp) W0 us tg g)
    (ht : ∀ (s : Shared) (H : Hp) (C : Addr) (cl : List (Str × Addr)) (fp : List Addr), ST ct (X.blk s H scope (compEnvC scope cl C X.env) fp) W0 ifs tt)
    (he : ∀ (s : Shared) (H : Hp) (C : Addr) (cl : List (Str × Addr)) (fp : List Addr), SE ct (X.blk s H scope (compEnvC scope cl C X.env) fp) W0 elt te)
    (hy : X.N[i]? = some y := by rfl) (hyl : X.env.scope.names.lookup y = some .local := by rfl)
    (hu : (us.all fun i => (own.map (·.2)).contains i) = true := by rfl) (hs : ∀ x, foldedSetIterable iter X.env x = pure x := by intro _; rfl) :
    SS ct X W (.Assign [.Name y py] (.ListComp elt [⟨tg, iter, ifs, 0⟩] scope pos) spos) (sAsg (mLc gi g tt te (own.map (·.2)) mk) (gNm i)) := by
  obtain ⟨ti, pi, li⟩ := hi
  refine ⟨_, ps_setLc (g := gOf ct X.K W0 us g) (tt := bOf ct X.K W0 tt) (te := tOf ct X.K W0 te) hc hN hy hyl hsw pi ok (fun s H C cl fp => (hg s H C cl fp).pg) (fun s H C cl fp => ht s H C cl fp) (fun s H C cl fp => (he s H C cl fp).pe) hs, fun F ρ M G σ s H D r rs w => ?_⟩
  refine lc_run (W := W) fin (fun i hi => ?_) li F ρ M G σ s H _ r rs (w.thn rs fun d M1 F1 ρ1 H1 v u1 r1 d1 w1 => ?_)
  · have := List.all_eq_true.mp hu i hi
    simpa using this
  · exact w1.nxt r1 ((rs.up u1).set d1 i)
end
end Tl

/-! The tree layer, part 6: defs, calls, methods, attributes, refusals. -/
namespace Tl
open PySem L2 PySem.Spec PyProof.Rows

/-- a def stands at f and does what g tells, wherever no repr is under way -/
structure FnG (P : Program) (w : World) (K : PySem.W.Frag) (mg : Str → Option Value) (base : Heap) (ct : Ct) (k : Nat) (f : Addr) (fd : FuncData) (ps : List Str) (g : GDs) : Prop where
  run : ∀ (A : Around) (outer : List Env) (s : Shared) (H : Hp) (args : Args) (us : List Value) (vs : List V) (ds : List D) (F : Hp) (ρ : List Addr) (M : Mem) (G : Hp) (Q : VK) (E : XK), A.guards = some [] → Room k A →
    Env0 P w K mg base A outer s H → BindsTo s fd args (ps.zip us) → Vals vs us → vs.length = ps.length → Rel K ct F ρ M G H → Reps K F ρ ds vs → Wp K ct (RepD K) F ρ G (g ds M) Q E →
    codeAny (model P w) A (.call (.ref f) args) (CR (L2.CX P w) outer P w H s Q E) s
theorem FnG.mono {P : Program} {w : World} {K : PySem.W.Frag} {mg : Str → Option Value} {base : Heap} {ct : Ct} {j k : Nat} {f : Addr} {fd : FuncData} {ps : List Str} {g : GDs} (F : FnG P w K mg base ct j f fd ps g) (h : j ≤ k) : FnG P w K mg base ct k f fd ps g :=
  ⟨fun A outer s H args us vs ds F' ρ M G Q E hA hr => F.run A outer s H args us vs ds F' ρ M G Q E hA (hr.mono h)⟩
/-- another function with the same or fewer ends -/
theorem FnG.imp {P : Program} {w : World} {K : PySem.W.Frag} {mg : Str → Option Value} {base : Heap} {ct : Ct} {k : Nat} {f : Addr} {fd : FuncData} {ps : List Str} {g g' : GDs} (F : FnG P w K mg base ct k f fd ps g)
    (h : ∀ F ρ M G H ds vs Q E, Rel K ct F ρ M G H → Reps K F ρ ds vs → Wp K ct (RepD K) F ρ G (g' ds M) Q E → Wp K ct (RepD K) F ρ G (g ds M) Q E) : FnG P w K mg base ct k f fd ps g' :=
  ⟨fun A outer s H args us vs ds F' ρ M G Q E hA hr h0 hb hv hl r rd w => F.run A outer s H args us vs ds F' ρ M G Q E hA hr h0 hb hv hl r rd (h F' ρ M G H ds vs Q E r rd w)⟩
theorem FnG.eq {P : Program} {w : World} {K : PySem.W.Frag} {mg : Str → Option Value} {base : Heap} {ct : Ct} {k : Nat} {f : Addr} {fd : FuncData} {ps : List Str} {g g' : GDs} (F : FnG P w K mg base ct k f fd ps g) (h : ∀ ds M, g ds M = g' ds M) : FnG P w K mg base ct k f fd ps g' :=
  F.imp fun F ρ M G H ds vs Q E r rd w => by rw [h]; exact w

def startG (N : Nat) (ds : List D) : Sg := ds.map some ++ List.replicate (N - ds.length) none
/-- a def's body, from its parameters to its end -/
def runB (N n : Nat) (fb : MS) : GDs := fun ds M => if ds.length = n then (match fb (startG N ds) M with
  | .nx _ M' => .ok (.p .none) M'
  | .rt v M' => .ok v M'
  | .ex c x _ M' => .ex c x M'
  | _ => .er) else .er
theorem RelS.begin {K : PySem.W.Frag} {F : Hp} {ρ : List Addr} {ds : List D} {vs : List V} (h : Reps K F ρ ds vs) (N : List Str) : RelS K F ρ (startG N.length ds) (L2.start N vs) := by
  have hl := h.length
  refine ⟨by simp [startG, L2.start, hl], fun i d e => ?_⟩
  unfold startG at e
  by_cases hi : i < ds.length
  · rw [List.getElem?_append_left (by simpa using hi), List.getElem?_map] at e
    obtain ⟨d', h1, h2⟩ := Option.map_eq_some_iff.mp e
    cases h2
    obtain ⟨v, h3, h4⟩ := h.get h1
    refine ⟨v, ?_, h4⟩
    unfold L2.start
    rw [List.getElem?_append_left (by simpa [← hl] using hi), List.getElem?_map, h3]
    rfl
  · rw [List.getElem?_append_right (by simpa using hi), List.getElem?_replicate] at e
    split at e <;> cases e
theorem fn_body {P : Program} {w : World} {K : PySem.W.Frag} {mg : Str → Option Value} {base : Heap} {ct : Ct} {k : Nat} {x qual : Str} {params : Arguments} {body : List Stmt} {scope : Scope} {dvs : List V} {kws : List (Str × V)} {f : Addr} {fd : FuncData} {N ps : List Str} {fb : MS}
    (D : FunD K x qual params body scope dvs kws f fd) (S : FnScope N ps scope)
    (hbody : ∀ (cdv : Value) (A : Around) (outer : List Env) (s : Shared) (H : Hp) (E : XK), (A.deeper (envOfC qual scope s.heap.objs.size f cdv)).guards = some [] → Room k (A.deeper (envOfC qual scope s.heap.objs.size f cdv)) →
      SSs ct (cxOf (L2.CX P w) P w K mg base N qual scope f cdv A outer s H E) (fun c d _ H' => E c d H') body fb) : FnG P w K mg base ct (k + 1) f fd ps (runB N.length ps.length fb) := by
  obtain ⟨oc, od, dV, kV, doc, pm, an, cdv, cty, osl, rfl, lk, hcd, _, _⟩ := D.ex
  refine ⟨fun A outer s H args us vs ds F ρ M G Q E hA hr e0 hb hv hl rl rd wp => ?_⟩
  have inK : K.In s.heap := e0.mod.kin.keeps (fun b o h => (e0.bs b o h).1)
  have noL : s.heap.NoLimit := e0.mod.nolimit.keeps (fun b o h => (e0.bs b o h).1)
  have kinds : ∀ y ∈ ps.zip us, scope.names.lookup y.1 = some NameKind.local ∨ (scope.names.lookup y.1 = some NameKind.cell ∧ ((cellsFrom (s.heap.objs.size + 1) scope.names []).lookup y.1).isSome = true) := by
    rintro ⟨n, v⟩ hy
    rcases S.par n (List.of_mem_zip hy).1 with z | z
    · exact Or.inl z
    · exact Or.inr ⟨z, PySem.W.cellsFrom_some _ _ _ (Or.inl z)⟩
  refine codeAny_call_function (hr.depth) (inK _ _ lk) rfl (S.co) (S.gen) rfl (PySem.W.codeRec_of inK hcd) (hb _ _ _ _ ?_)
  refine wpAny_newFunctionEnv_cells (S.kind) kinds (fun env he s1 y => ?_)
  subst he
  refine ⟨noL.keeps y.toInCall.keep, codeAny_func ?_⟩
  obtain ⟨t, ht, hq⟩ := hbody cdv A outer s H E hA (hr.deeper _)
  have J := inv_start (E := E) (CX := L2.CX P w) S hr.hd e0 hl hv y
  unfold runB at wp
  split at wp
  · have hW : WpS K ct F ρ G (fb (startG N.length ds) M) { nx := fun _ H' => Q .non H', rt := Q } (fun c d _ H' => E c d H') := by
      revert wp
      cases fb (startG N.length ds) M with
      | nx σ M' => exact fun wp F' ρ' H' s' u r' _ => wp F' ρ' H' _ u r' .non
      | rt v M' => exact fun wp => wp
      | bk σ M' => exact fun wp => (show False from wp).elim
      | ct σ M' => exact fun wp => (show False from wp).elim
      | ex c x σ M' => exact fun wp F' ρ' H' s' C d u r' _ => wp F' ρ' H' C d u r'
      | er => exact fun wp => wp
    have hT := hq F ρ M G (startG N.length ds) (L2.start N vs) H _ rl (RelS.begin rd N) hW
    refine wpAny_mono (ht.run [] s1 (start N vs) H _ J hT) (fun fl s2 hs => ?_) (fun e s2 hs => hs)
    cases fl with
    | ret u =>
      obtain ⟨v, σ', H', J', rv, q⟩ := hs
      exact ⟨v, H', J'.os, J'.bare, J'.base, J'.hok, rv, q⟩
    | next =>
      obtain ⟨σ', H', J', q⟩ := hs
      exact ⟨V.non, H', J'.os, J'.bare, J'.base, J'.hok, rfl, q⟩
    | brk =>
      obtain ⟨_, _, _, q⟩ := hs
      exact False.elim q
    | cont =>
      obtain ⟨_, _, _, q⟩ := hs
      exact False.elim q
  · exact wp.elim

/-! ### leaving what was made within a def -/
def D.under (n : Nat) : D → Prop
  | .at l => l < n
  | _ => True
def MO.plain : MO → Prop
  | .lst xs => ∀ d ∈ xs, d.under 0
  | .tup xs => ∀ d ∈ xs, d.under 0
  | .ins _ fs => ∀ d ∈ fs, d.2.under 0
  | .dic fs => ∀ d ∈ fs, d.2.under 0
  | .gone => True
/-- the store as it was in size: what stood ahead is as it was, or plain -/
def Kept (M M' : Mem) : Prop := ∀ l m, l < M.length → M'[l]? = some m → M[l]? = some m ∨ m.plain
open Classical in
noncomputable def scop (g : GDs) : GDs := fun ds M => match g ds M with
  | .ok v M' => if v.under M.length ∧ Kept M M' then .ok v (M'.take M.length) else .er
  | .ex c x M' => if (∀ v, x = some v → v.under M.length) ∧ Kept M M' then .ex c x (M'.take M.length) else .er
  | .er => .er
section
variable {K : PySem.W.Frag} {ct : Ct} {F F' : Hp} {ρ ρ' : List Addr} {M M' : Mem} {G H H' : Hp}
theorem RepD.cut {d : D} {v : V} (h : RepD K F' ρ' d v) (u : d.under ρ.length) (p : ∀ (l : Nat) (a : Addr), ρ[l]? = some a → ρ'[l]? = some a) : RepD K F' ρ d v := by
  cases d with
  | p d => exact h
  | raw d => exact h
  | scr d => exact h
  | «at» l =>
    obtain ⟨a, ha, e⟩ := h
    have hl : l < ρ.length := u
    have := p l _ (List.getElem?_eq_getElem hl)
    rw [ha] at this
    cases this
    exact ⟨_, List.getElem?_eq_getElem hl, e⟩
theorem RepD.lim {d : D} {v : V} (h : RepD K F ρ d v) : d.under ρ.length := by
  cases d with
  | «at» l => obtain ⟨a, ha, _⟩ := h; exact (List.getElem?_eq_some_iff.mp ha).1
  | _ => trivial
theorem D.under.mono {d : D} {m n : Nat} (h : d.under m) (hm : m ≤ n) : d.under n := by
  cases d with
  | «at» l => exact Nat.lt_of_lt_of_le h hm
  | _ => trivial
theorem Reps.cut' {ds : List D} {vs : List V} (h : Reps K F' ρ' ds vs) (p : ∀ (l : Nat) (a : Addr), ρ[l]? = some a → ρ'[l]? = some a) : (∀ d ∈ ds, d.under ρ.length) → Reps K F' ρ ds vs := by
  induction h with
  | nil => exact fun _ => .nil
  | cons h _ t => exact fun u => .cons (h.cut (u _ (List.mem_cons_self ..)) p) (t fun d hd => u d (List.mem_cons_of_mem _ hd))
theorem RepF.cut' {ds : List (Str × D)} {vs : List (Str × V)} (h : RepF K F' ρ' ds vs) (p : ∀ (l : Nat) (a : Addr), ρ[l]? = some a → ρ'[l]? = some a) : (∀ d ∈ ds, d.2.under ρ.length) → RepF K F' ρ ds vs := by
  induction h with
  | nil => exact fun _ => .nil
  | cons h _ t => exact fun u => .cons (h.cut (u _ (List.mem_cons_self ..)) p) (t fun d hd => u d (List.mem_cons_of_mem _ hd))
theorem RepK.cut' {ds : List (Key × D)} {vs : List (Key × V)} (h : RepK K F' ρ' ds vs) (p : ∀ (l : Nat) (a : Addr), ρ[l]? = some a → ρ'[l]? = some a) : (∀ d ∈ ds, d.2.under ρ.length) → RepK K F' ρ ds vs := by
  induction h with
  | nil => exact fun _ => .nil
  | cons h _ t => exact fun u => .cons (h.cut (u _ (List.mem_cons_self ..)) p) (t fun d hd => u d (List.mem_cons_of_mem _ hd))
theorem Reps.lim {ds : List D} {vs : List V} (h : Reps K F ρ ds vs) : ∀ d ∈ ds, d.under ρ.length := by
  induction h with
  | nil => exact fun _ hd => nomatch hd
  | cons h _ t =>
    intro d hd
    rcases List.mem_cons.mp hd with e | hd
    · subst e; exact h.lim
    · exact t d hd
theorem RepF.lim {ds : List (Str × D)} {vs : List (Str × V)} (h : RepF K F ρ ds vs) : ∀ d ∈ ds, d.2.under ρ.length := by
  induction h with
  | nil => exact fun _ hd => nomatch hd
  | cons h _ t =>
    intro d hd
    rcases List.mem_cons.mp hd with e | hd
    · subst e; exact h.lim
    · exact t d hd
theorem RepK.lim {ds : List (Key × D)} {vs : List (Key × V)} (h : RepK K F ρ ds vs) : ∀ d ∈ ds, d.2.under ρ.length := by
  induction h with
  | nil => exact fun _ hd => nomatch hd
  | cons h _ t =>
    intro d hd
    rcases List.mem_cons.mp hd with e | hd
    · subst e; exact h.lim
    · exact t d hd
def MO.under (n : Nat) : MO → Prop
  | .lst xs => ∀ d ∈ xs, d.under n
  | .tup xs => ∀ d ∈ xs, d.under n
  | .ins _ fs => ∀ d ∈ fs, d.2.under n
  | .dic fs => ∀ d ∈ fs, d.2.under n
  | .gone => True
theorem MO.plain.under {m : MO} (h : m.plain) (n : Nat) : m.under n := by
  cases m with
  | lst xs => exact fun d hd => (h d hd).mono (Nat.zero_le _)
  | tup xs => exact fun d hd => (h d hd).mono (Nat.zero_le _)
  | ins c xs => exact fun d hd => (h d hd).mono (Nat.zero_le _)
  | dic xs => exact fun d hd => (h d hd).mono (Nat.zero_le _)
  | gone => trivial
theorem MRep.lim {m : MO} {o : HO} (h : MRep K ct F ρ m o) : m.under ρ.length := by
  cases m with
  | lst xs => obtain ⟨_, _, r, _⟩ := h; exact r.lim
  | tup xs => obtain ⟨_, _, r, _⟩ := h; exact r.lim
  | ins c xs => obtain ⟨_, _, _, _, _, r⟩ := h; exact r.lim
  | dic xs => obtain ⟨_, _, r⟩ := h; exact r.lim
  | gone => trivial
theorem MRep.cut {m : MO} {o : HO} (h : MRep K ct F' ρ' m o) (u : m.under ρ.length) (p : ∀ (l : Nat) (a : Addr), ρ[l]? = some a → ρ'[l]? = some a) : MRep K ct F' ρ m o := by
  cases m with
  | lst xs => obtain ⟨vs, e, r, z⟩ := h; exact ⟨vs, e, r.cut' p u, z⟩
  | tup xs => obtain ⟨vs, e, r, z⟩ := h; exact ⟨vs, e, r.cut' p u, z⟩
  | ins c xs => obtain ⟨vs, a, b, hc, e, r⟩ := h; exact ⟨vs, a, b, hc, e, r.cut' p u⟩
  | dic xs => obtain ⟨vs, e, r⟩ := h; exact ⟨vs, e, r.cut' p u⟩
  | gone => trivial
theorem Rel.cut (r0 : Rel K ct F ρ M G H) (r : Rel K ct F' ρ' M' G H') (u : Up F ρ F' ρ') (k : Kept M M') : Rel K ct F' ρ (M'.take M.length) G H' := by
  have hl : M.length ≤ M'.length := by
    rw [← r0.len, ← r.len]
    rcases Nat.lt_or_ge ρ'.length ρ.length with h | h
    · have := u.pr ρ'.length _ (List.getElem?_eq_getElem h)
      rw [List.getElem?_eq_none (Nat.le_refl _)] at this
      cases this
    · exact h
  refine ⟨r.sub, r.gub, r.dis, by rw [List.length_take, r0.len]; omega, r0.nod, fun l m e => ?_⟩
  have hlm : l < M.length := by
    have := (List.getElem?_eq_some_iff.mp e).1
    rw [List.length_take] at this
    omega
  rw [List.getElem?_take_of_lt hlm] at e
  obtain ⟨a, ho, h1, h2, h3, h4, h5⟩ := r.obj l m e
  have hlr : l < ρ.length := by rw [r0.len]; exact hlm
  have h6 := u.pr l _ (List.getElem?_eq_getElem hlr)
  rw [h1] at h6
  cases h6
  refine ⟨_, ho, List.getElem?_eq_getElem hlr, h2, h3, h4, h5.cut ?_ u.pr⟩
  rcases k l m hlm e with q | q
  · obtain ⟨_, _, _, _, _, _, q5⟩ := r0.obj l m q
    exact q5.lim
  · exact q.under _
end
theorem FnG.scop {P : Program} {w : World} {K : PySem.W.Frag} {mg : Str → Option Value} {base : Heap} {ct : Ct} {k : Nat} {f : Addr} {fd : FuncData} {ps : List Str} {g : GDs} (F : FnG P w K mg base ct k f fd ps g) : FnG P w K mg base ct k f fd ps (scop g) :=
  F.imp fun F ρ M G H ds vs Q E r rd w => by
    unfold Tl.scop at w
    cases hg : g ds M with
    | ok v M' =>
      rw [hg] at w
      simp only at w
      split at w
      · rename_i hk
        intro F' ρ' H' u up r' ru
        exact w F' ρ H' u ⟨up.fr, fun _ _ z => z⟩ (r.cut r' up hk.2) (ru.cut (by rw [r.len]; exact hk.1) up.pr)
      · exact w.elim
    | ex c x M' =>
      rw [hg] at w
      simp only at w
      split at w
      · rename_i hk
        intro F' ρ' H' C d up r' hc hx
        refine w F' ρ H' C d ⟨up.fr, fun _ _ z => z⟩ (r.cut r' up hk.2) hc ?_
        cases x with
        | none => exact hx
        | some v =>
          obtain ⟨a, u, h1, h2, h3, h4, h5, h6⟩ := hx
          refine ⟨a, u, h1, h2, h3.cut (by rw [r.len]; exact hk.1 v rfl) up.pr, h4, h5, fun z => h6 ?_⟩
          obtain ⟨l, hl⟩ := List.mem_iff_getElem?.mp z
          exact List.mem_of_getElem? (up.pr l _ hl)
      · exact w.elim
    | er => rw [hg] at w; exact w.elim

/-! ### calls of defs -/
section
variable {ct : Ct} {X : Cx} {W : WX} {e a b : Expr} {es : List Expr} {pos p : Pos} {k : Nat} {f C : Addr} {fd : FuncData} {ps : List Str} {g : GDs} {x : Str} {dvs : List V} {ds : List Value} {dds : List D} {fs : MA}
/-- what a callee is told -/
def spT (ct : Ct) (K : PySem.W.Frag) (W : WX) (g : GDs) (vs : List V) (s : L2.St) (H : Hp) (Q : VK) : Prop := ∃ F ρ M G as, Rel K ct F ρ M G H ∧ Reps K F ρ as vs ∧ Wp K ct (RepD K) F ρ G (g as M) Q (fun c d H' => W c d s H')
theorem run_g {pins : List (Addr × Obj)} {σ : L2.St} {H : Hp} {s : Shared} {Q : VK} {args : Args} {us : List Value} {vs : List V} (Fn : FnG X.prog X.w X.K X.mg X.base ct k f fd ps g) (hA : X.A.guards = some []) (hr : Room k X.A) (tk : Takes X W)
    (I : Inv X pins σ H s) (hb : BindsTo s fd args (ps.zip us)) (rv : Vals vs us) (hl : vs.length = ps.length) (h : spT ct X.K W g vs σ H Q) : wpAny (model X.prog X.w) X.A (call (.ref f) args.pos args.kw) (EP X pins σ Q) X.xe s := by
  obtain ⟨F, ρ, M, G, as, r, ra, w⟩ := h
  refine wpAny_call (codeAny_mono (Fn.run X.A X.stack s H args us vs as F ρ M G Q _ hA hr I.env0 hb rv hl r ra w) fun q s' hq => ?_)
  match q, hq with
  | .error e, hq => exact passAt tk σ pins H s e s' I hq
  | .ok (.ret u), hq => exact I.after hq
  | .ok .next, hq => exact False.elim hq
  | .ok .brk, hq => exact False.elim hq
  | .ok .cont, hq => exact False.elim hq
def callG (n : Nat) (g : GDs) (dds : List D) (fs : MA) : ME := fun σ M => (fs σ M).bind fun as M1 => if (as ++ dds).length = n then g (as ++ dds) M1 else .er
/-- f(e, ..): the written arguments, then the defaults -/
theorem se_call {n : Nat} (Fn : FnG X.prog X.w X.K X.mg X.base ct k f fd ps g) (hA : X.A.guards = some []) (hr : Room k X.A) (tk : Takes X W) (hg : Gl X x) (hm : X.mg x = some (.ref f)) (hk : PySem.W.keepIn X.K (.ref f) = true) (hb : Binds X.K fd ps ds) (hd : Vals dvs ds)
    (hD : ∀ F ρ, Reps X.K F ρ dds dvs) (ha : SA ct X W (e :: es) fs) (hdb : (x == ("__debug__" : Str)) = false := by decide) (he : starEach (e :: es) X.env = (false, eval e X.env) :: starEach es X.env := by rfl) (hpl : (backTo pos (starEach es X.env)).any (·.1) = false := by rfl) (hn : ps.length = n := by rfl) : SE ct X W (.Call (.Name x p) (e :: es) [] pos) (callG n g dds fs) := by
  subst hn
  obtain ⟨ta, pa, la⟩ := ha
  refine ⟨fun s H Q => ta s H fun vs H1 => (vs ++ dvs).length = ps.length ∧ spT ct X.K W g (vs ++ dvs) s H1 Q, ⟨fun pins s σ H Q I h => ?_⟩, fun F ρ M G σ s H Q r rs w => ?_⟩
  · refine wpAny_Call_Name_kw (ld_glob I hg hm ?_ hdb)
    refine PySem.W.callWith_K (h₀ := X.base) I.ok.mod.kin hk (thn (pa.run pos pins s σ H _ I h) fun us s1 hh => ?_) he hpl
    obtain ⟨vs, H1, I1, rv, hl, q⟩ := hh
    refine ⟨I1.kIn, ?_⟩
    have r2 := rv.append hd
    exact run_g (args := ⟨us, []⟩) Fn hA hr tk I1 (hb s1 us I1.kIn (by rw [← r2.length]; exact hl)) r2 hl q
  · refine la F ρ M G σ s H _ r rs (w.thn fun as M1 F1 ρ1 H1 vs u1 r1 d1 w1 => ?_)
    split at w1
    · rename_i hl
      have d2 := d1.append (hD F1 ρ1)
      exact ⟨by rw [← d2.length]; exact hl, F1, ρ1, M1, G, _, r1, d2, w1⟩
    · exact w1.elim
theorem se_call0 {n : Nat} (Fn : FnG X.prog X.w X.K X.mg X.base ct k f fd ps g) (hA : X.A.guards = some []) (hr : Room k X.A) (tk : Takes X W) (hg : Gl X x) (hm : X.mg x = some (.ref f)) (hk : PySem.W.keepIn X.K (.ref f) = true) (hb : Binds X.K fd ps ds) (hd : Vals dvs ds)
    (hD : ∀ F ρ, Reps X.K F ρ dds dvs) (hdb : (x == ("__debug__" : Str)) = false := by decide) (hn : ps.length = n := by rfl) : SE ct X W (.Call (.Name x p) [] [] pos) (callG n g dds aNil) := by
  subst hn
  refine ⟨fun s H Q => dvs.length = ps.length ∧ spT ct X.K W g dvs s H Q, ⟨fun pins s σ H Q I h => ?_⟩, fun F ρ M G σ s H Q r rs w => ?_⟩
  · refine wpAny_Call_Name_kw (ld_glob I hg hm ?_ hdb)
    obtain ⟨hl, q⟩ := h
    exact PySem.W.callWith_K0 I.kIn hk (run_g (args := ⟨[], []⟩) Fn hA hr tk I (hb s [] I.kIn (by rw [List.nil_append, ← hd.length]; exact hl)) hd hl q)
  · simp only [callG, aNil, R.bind_ok, List.nil_append] at w
    split at w
    · rename_i hl
      have d2 := hD F ρ
      exact ⟨by rw [← d2.length]; exact hl, F, ρ, M, G, _, r, d2, w⟩
    · exact w.elim
end
end Tl

/-! The tree layer, part 7: methods, attributes, instances, refusals, isinstance, repr, sorted. -/
namespace Tl
open PySem L2 PySem.Spec PyProof.Rows

section
variable {ct : Ct} {X : Cx} {W : WX} {e a b o : Expr} {es : List Expr} {pos apos p cpos : Pos} {f fa fb fo : ME} {fs : MA}
/-! ### a list of data leaves the store -/
def mFrz (f : ME) : ME := fun σ M => (f σ M).bind fun d M1 => match d with
  | .at l => match M1[l]? with
    | some (.lst xs) => match unP xs with
      | some ds => .ok (.p (.list ds)) (M1.set l .gone)
      | none => .er
    | _ => .er
  | d => .ok d M1
theorem se_frz (h : SE ct X W e f) : SE ct X W e (mFrz f) := by
  obtain ⟨t, p, l⟩ := h
  refine ⟨t, p, fun F ρ M G σ s H Q r rs w => l F ρ M G σ s H Q r rs ?_⟩
  unfold mFrz at w
  cases hf : f σ M with
  | ok d M1 =>
    rw [hf, R.bind_ok] at w
    intro F1 ρ1 H1 v u1 r1 rd
    cases d with
    | «at» l =>
      obtain ⟨a, ha, rfl⟩ := rd
      simp only at w
      split at w
      · rename_i xs hm
        split at w
        · rename_i ds he
          obtain ⟨b, ho, g1, g2, g3, g4, vs, g5, g6, g7⟩ := r1.obj l _ hm
          rw [ha] at g1; cases g1
          subst g5
          obtain ⟨r2, u2⟩ := r1.froze ha hm (fun z => nomatch z) g4
          have := unP_some he
          subst this
          exact w _ ρ1 H1 _ (u1.trans u2) r2 (Rp.lst upd_same g7 (g6.up u2).toAll)
        · exact w.elim
      · exact w.elim
    | p d => exact w F1 ρ1 H1 v u1 r1 rd
    | raw d => exact w F1 ρ1 H1 v u1 r1 rd
    | scr d => exact w F1 ρ1 H1 v u1 r1 rd
  | ex c x M1 => rw [hf] at w; exact w
  | er => rw [hf] at w; exact w.elim

/-! ### methods of built-in types -/
abbrev GMt := D → List D → Mem → R D
def MG (ct : Ct) (X : Cx) (id : String) (g : GMt) : Prop := ∃ r, MtR X id r ∧ ∀ F ρ M G H o as x xs Q E, Rel X.K ct F ρ M G H → RepD X.K F ρ o x → Reps X.K F ρ as xs → Wp X.K ct (RepD X.K) F ρ G (g o as M) Q E → r x xs H Q
def isLst (M : Mem) (d : D) : Bool := match seqOf M d with
  | some (true, _) => true
  | _ => false
def meth (g : GMt) (fo : ME) (fs : MA) : ME := fun σ M => (fo σ M).bind fun o M1 => if isLst M1 o = true then (fs σ M1).bind fun as M2 => g o as M2 else .er
theorem isLst_ty {K : PySem.W.Frag} {F ρ M G H} {d : D} {v : V} (r : Rel K ct F ρ M G H) (rd : RepD K F ρ d v) (h : isLst M d = true) : tyV K "list" v H := by
  unfold isLst at h
  split at h
  · rename_i xs e1
    obtain ⟨a, vs, rfl, h1, _, _⟩ := r.seqL rd e1
    exact .inl ⟨rfl, vs, SqL.of h1⟩
  · cases h
theorem se_lm {name : Str} {id : String} {g : GMt} (slot : Slot "list" name id) (hty : typeOf (.builtin id) = pure (.type "method_descriptor")) (m : MG ct X id g) (ho : SE ct X W o fo) (ha : SA ct X W (e :: es) fs)
    (hbase : attributeBase o name X.env (eval o X.env) = eval o X.env := by rfl)
    (hfew : ((backTo cpos (starEach (e :: es) X.env)).all (fun x => !x.1) && (backToKw cpos (keywordEach [] X.env)).all (fun x => x.1.isSome)
      && decide ((e :: es).length + ([] : List Keyword).length + (if ([] : List Keyword).isEmpty then 0 else 1) < 30)) = true := by rfl)
    (hline : (apos.endLine == cpos.line) = true := by rfl) (hs : starEach (e :: es) X.env = (false, eval e X.env) :: starEach es X.env := by rfl) (hplain : (backTo cpos (starEach es X.env)).any (·.1) = false := by rfl) :
    SE ct X W (.Call (.Attribute o name apos) (e :: es) [] cpos) (meth g fo fs) := by
  obtain ⟨r, hm, lm⟩ := m
  obtain ⟨to, po, lo⟩ := ho
  obtain ⟨ta, pa, la⟩ := ha
  refine ⟨_, pe_bm PySem.F.plainAttrs_list slot hty hm po pa hbase hfew hline hs hplain, fun F ρ M G σ s H Q rl rs w => ?_⟩
  refine lo F ρ M G σ s H _ rl rs (w.thn fun o M1 F1 ρ1 H1 v1 u1 r1 d1 w1 => ?_)
  split at w1
  · rename_i hL
    refine ⟨isLst_ty r1 d1 hL, la F1 ρ1 M1 G σ s H1 _ r1 (rs.up u1) (w1.thn fun as M2 F2 ρ2 H2 vs u2 r2 d2 w2 => ?_)⟩
    exact lm F2 ρ2 M2 G H2 o as v1 vs Q _ r2 (d1.up u2) d2 w2
  · exact w1.elim
theorem se_lm0 {name : Str} {id : String} {g : GMt} (slot : Slot "list" name id) (hty : typeOf (.builtin id) = pure (.type "method_descriptor")) (m : MG ct X id g) (ho : SE ct X W o fo)
    (hbase : attributeBase o name X.env (eval o X.env) = eval o X.env := by rfl) (hline : (apos.endLine == cpos.line) = true := by rfl) :
    SE ct X W (.Call (.Attribute o name apos) [] [] cpos) (meth g fo aNil) := by
  obtain ⟨r, hm, lm⟩ := m
  obtain ⟨to, po, lo⟩ := ho
  refine ⟨_, pe_bm0 PySem.F.plainAttrs_list slot hty hm po hbase hline, fun F ρ M G σ s H Q rl rs w => ?_⟩
  refine lo F ρ M G σ s H _ rl rs (w.thn fun o M1 F1 ρ1 H1 v1 u1 r1 d1 w1 => ?_)
  split at w1
  · rename_i hL
    exact ⟨isLst_ty r1 d1 hL, lm F1 ρ1 M1 G H1 o [] v1 [] Q _ r1 d1 .nil w1⟩
  · exact w1.elim
/-- a list with a place in the store is changed -/
theorem lst_at {K : PySem.W.Frag} {F ρ M G H} {l : Nat} {v : V} {xs : List D} (r : Rel K ct F ρ M G H) (rd : RepD K F ρ (.at l) v) (hm : M[l]? = some (.lst xs)) :
    ∃ a vs, v = .ref a ∧ H a = some (.lst vs) ∧ Reps K F ρ xs vs ∧ vs.length ≤ sizeLine ∧ ∀ ys us, Reps K F ρ ys us → us.length ≤ sizeLine → Rel K ct F ρ (M.set l (.lst ys)) G (upd H a (.lst us)) := by
  obtain ⟨a, ha, rfl⟩ := rd
  obtain ⟨b, ho, g1, g2, g3, g4, vs, g5, g6, g7⟩ := r.obj l _ hm
  rw [ha] at g1; cases g1
  subst g5
  exact ⟨a, vs, rfl, g4, g6, g7, fun ys us ry hz => r.wrote ha hm (fun z => nomatch z) ⟨us, rfl, ry, hz⟩⟩
def appendD : GMt := fun o as M => match o, as with
  | .at l, [d] => match M[l]? with
    | some (.lst xs) => if xs.length < sizeLine then .ok (.p .none) (M.set l (.lst (xs ++ [d]))) else .er
    | _ => .er
  | _, _ => .er
theorem mg_append : MG ct X "list.append" appendD := by
  refine ⟨_, mt_append, fun F ρ M G H o as x xs Q E r ro ra w => ?_⟩
  unfold appendD at w
  split at w
  · split at w
    · rename_i l d ys hm
      split at w
      · rename_i hz
        obtain ⟨a, vs, rfl, h1, h2, h3, h4⟩ := lst_at r ro hm
        cases ra with
        | cons h t =>
          cases t
          refine ⟨a, vs, _, rfl, rfl, h1, by rw [← h2.length]; exact hz, ?_⟩
          exact w F ρ _ _ .rfl' (h4 _ _ (h2.append (.cons h .nil)) (by rw [List.length_append, ← h2.length]; exact hz)) .non
      · exact w.elim
    · exact w.elim
  · exact w.elim
def extendD : GMt := fun o as M => match o, as with
  | .at l, [d] => match M[l]?, seqOf M d with
    | some (.lst xs), some (true, ys) => if xs.length + ys.length ≤ sizeLine then .ok (.p .none) (M.set l (.lst (xs ++ ys))) else .er
    | _, _ => .er
  | _, _ => .er
theorem mg_extend : MG ct X "list.extend" extendD := by
  refine ⟨_, mt_extend, fun F ρ M G H o as x xs Q E r ro ra w => ?_⟩
  unfold extendD at w
  split at w
  · split at w
    · rename_i l d xs ys hm hd
      split at w
      · rename_i hz
        obtain ⟨a, vs, rfl, h1, h2, h3, h4⟩ := lst_at r ro hm
        cases ra with
        | cons h t =>
          cases t
          obtain ⟨b, us, rfl, g1, g2, g3⟩ := r.seqL h hd
          refine ⟨a, b, vs, us, rfl, rfl, h1, g1, by rw [← h2.length, ← g2.length]; exact hz, ?_⟩
          exact w F ρ _ _ .rfl' (h4 _ _ (h2.append g2) (by rw [List.length_append, ← h2.length, ← g2.length]; exact hz)) .non
      · exact w.elim
    · exact w.elim
  · exact w.elim
def insertD : GMt := fun o as M => match o, as with
  | .at l, [.p (.int i), d] => match M[l]? with
    | some (.lst xs) => if xs.length < sizeLine ∧ 0 ≤ i ∧ i < 2 ^ 63 then .ok (.p .none) (M.set l (.lst (xs.take i.toNat ++ [d] ++ xs.drop i.toNat))) else .er
    | _ => .er
  | _, _ => .er
theorem mg_insert : MG ct X "list.insert" insertD := by
  refine ⟨_, mt_insert, fun F ρ M G H o as x xs Q E r ro ra w => ?_⟩
  unfold insertD at w
  split at w
  · split at w
    · rename_i l i d _ ys hm
      split at w
      · rename_i hz
        obtain ⟨a, vs, rfl, h1, h2, h3, h4⟩ := lst_at r ro hm
        cases ra with
        | cons h t =>
          cases h
          cases t with
          | cons h t =>
            cases t
            refine ⟨a, vs, i, _, rfl, rfl, h1, by rw [← h2.length]; exact hz.1, hz.2.1, hz.2.2, ?_⟩
            have q := ((h2.take i.toNat).append (.cons h .nil)).append (h2.drop i.toNat)
            exact w F ρ _ _ .rfl' (h4 _ _ q (by rw [← q.length]; simp only [List.length_append, List.length_take, List.length_drop, List.length_cons, List.length_nil]; omega)) .non
      · exact w.elim
    · exact w.elim
  · exact w.elim
def popD : GMt := fun o as M => match o, as with
  | .at l, [] => match M[l]? with
    | some (.lst xs) => match xs[xs.length - 1]? with
      | some d => .ok d (M.set l (.lst xs.dropLast))
      | none => .er
    | _ => .er
  | _, _ => .er
theorem Reps.dropLast {K : PySem.W.Frag} {F : Hp} {ρ : List Addr} {ds : List D} {vs : List V} (h : Reps K F ρ ds vs) : Reps K F ρ ds.dropLast vs.dropLast := by
  rw [List.dropLast_eq_take, List.dropLast_eq_take, h.length]
  exact h.take _
theorem mg_pop : MG ct X "list.pop" popD := by
  refine ⟨_, mt_pop, fun F ρ M G H o as x xs Q E r ro ra w => ?_⟩
  unfold popD at w
  split at w
  · split at w
    · rename_i l xs hm
      split at w
      · rename_i d hd
        obtain ⟨a, vs, rfl, h1, h2, h3, h4⟩ := lst_at r ro hm
        cases ra
        obtain ⟨v, g1, g2⟩ := h2.get hd
        rw [h2.length] at g1
        refine ⟨a, vs, v, rfl, rfl, h1, g1, ?_⟩
        exact w F ρ _ _ .rfl' (h4 _ _ h2.dropLast (by rw [List.length_dropLast]; omega)) g2
      · exact w.elim
    · exact w.elim
  · exact w.elim
def popAtD : GMt := fun o as M => match o, as with
  | .at l, [.p (.int i)] => match M[l]? with
    | some (.lst xs) => if -(2 ^ 63) ≤ i ∧ i < 2 ^ 63 then (match seqIndex? i xs.length with
      | some k => match xs[k]? with
        | some d => .ok d (M.set l (.lst (xs.eraseIdx k)))
        | none => .er
      | none => .er) else .er
    | _ => .er
  | _, _ => .er
theorem Reps.eraseIdx {K : PySem.W.Frag} {F : Hp} {ρ : List Addr} {ds : List D} {vs : List V} (h : Reps K F ρ ds vs) (k : Nat) : Reps K F ρ (ds.eraseIdx k) (vs.eraseIdx k) := by
  rw [List.eraseIdx_eq_take_drop_succ, List.eraseIdx_eq_take_drop_succ]
  exact (h.take _).append (h.drop _)
theorem mg_popAt : MG ct X "list.pop" popAtD := by
  refine ⟨_, mt_popAt, fun F ρ M G H o as x xs Q E r ro ra w => ?_⟩
  unfold popAtD at w
  split at w
  · split at w
    · rename_i l i _ xs hm
      split at w
      · rename_i hb
        split at w
        · rename_i k hk
          split at w
          · rename_i d hd
            obtain ⟨a, vs, rfl, h1, h2, h3, h4⟩ := lst_at r ro hm
            cases ra with
            | cons h t =>
              cases h
              cases t
              obtain ⟨v, g1, g2⟩ := h2.get hd
              refine ⟨a, vs, i, k, v, rfl, rfl, h1, hb.1, hb.2, by rw [← h2.length]; exact hk, g1, ?_⟩
              refine w F ρ _ _ .rfl' (h4 _ _ (h2.eraseIdx k) ?_) g2
              have := List.length_eraseIdx_le vs k
              omega
          · exact w.elim
        · exact w.elim
      · exact w.elim
    · exact w.elim
  · exact w.elim
def reverseD : GMt := fun o as M => match o, as with
  | .at l, [] => match M[l]? with
    | some (.lst xs) => .ok (.p .none) (M.set l (.lst xs.reverse))
    | _ => .er
  | _, _ => .er
theorem mg_reverse : MG ct X "list.reverse" reverseD := by
  refine ⟨_, mt_reverse, fun F ρ M G H o as x xs Q E r ro ra w => ?_⟩
  unfold reverseD at w
  split at w
  · split at w
    · rename_i l xs hm
      obtain ⟨a, vs, rfl, h1, h2, h3, h4⟩ := lst_at r ro hm
      cases ra
      refine ⟨a, vs, rfl, rfl, h1, ?_⟩
      exact w F ρ _ _ .rfl' (h4 _ _ h2.reverse (by rw [List.length_reverse]; exact h3)) .non
    · exact w.elim
  · exact w.elim
/-! sep.join(xs) -/
def unS : List D → Option (List Str)
  | [] => some []
  | .p (.str x) :: r => (unS r).map (x :: ·)
  | _ :: _ => none
theorem Reps.strs {K : PySem.W.Frag} {F : Hp} {ρ : List Addr} : ∀ {ds : List D} {vs : List V} {ys : List Str}, Reps K F ρ ds vs → unS ds = some ys → vs = ys.map V.str
  | [], _, ys, .nil, e => by simp [unS] at e; subst e; rfl
  | .p (.str x) :: r, _, ys, .cons h t, e => by
    simp only [unS, Option.map_eq_some_iff] at e
    obtain ⟨zs, h1, h2⟩ := e
    subst h2
    cases h
    rw [Reps.strs t h1]
    rfl
  | .p .none :: r, _, ys, _, e => by simp [unS] at e
  | .p (.bool _) :: r, _, ys, _, e => by simp [unS] at e
  | .p (.int _) :: r, _, ys, _, e => by simp [unS] at e
  | .p (.list _) :: r, _, ys, _, e => by simp [unS] at e
  | .p (.tuple _) :: r, _, ys, _, e => by simp [unS] at e
  | .p (.dict _) :: r, _, ys, _, e => by simp [unS] at e
  | .at _ :: r, _, ys, _, e => by simp [unS] at e
  | .raw _ :: r, _, ys, _, e => by simp [unS] at e
  | .scr _ :: r, _, ys, _, e => by simp [unS] at e
def joinD (a : Str) (d : D) (M : Mem) : R D := match seqOf M d with
  | some (_, xs) => match unS xs with
    | some ys => if (ys.map (·.length)).sum + ys.length * a.length ≤ 16777216 then .ok (.p (.str (Txt.join a ys))) M else .er
    | none => .er
  | none => .er
def strThen (fo : ME) (g : Str → ME) : ME := fun σ M => (fo σ M).bind fun o M1 => match o with
  | .p (.str a) => g a σ M1
  | _ => .er
def joinE (fo f : ME) : ME := strThen fo fun a σ M1 => (f σ M1).bind fun d M2 => joinD a d M2
theorem se_join (ho : SE ct X W o fo) (he : SE ct X W e f) (hs : starEach [e] X.env = [(false, eval e X.env)] := by rfl) (hbase : attributeBase o "join" X.env (eval o X.env) = eval o X.env := by rfl) (hline : (apos.endLine == pos.line) = true := by rfl) :
    SE ct X W (.Call (.Attribute o "join" apos) [e] [] pos) (joinE fo f) := by
  obtain ⟨to, po, lo⟩ := ho
  obtain ⟨te, pe, le⟩ := he
  refine ⟨_, pe_join po pe hs hbase hline, fun F ρ M G σ s H Q r rs w => ?_⟩
  refine lo F ρ M G σ s H _ r rs (w.thn fun d M1 F1 ρ1 H1 v1 u1 r1 d1 w1 => ?_)
  split at w1
  · rename_i a
    cases d1
    refine ⟨⟨a, rfl⟩, le F1 ρ1 M1 G σ s H1 _ r1 (rs.up u1) (w1.thn fun d M2 F2 ρ2 H2 v2 u2 r2 d2 w2 => ?_)⟩
    unfold joinD at w2
    split at w2
    · rename_i k xs e1
      split at w2
      · rename_i ys e2
        split at w2
        · rename_i hz
          cases k with
          | true =>
            obtain ⟨q, vs, rfl, h1, t1, _⟩ := r2.seqL d2 e1
            have := t1.strs e2
            subst this
            exact ⟨a, q, ys, rfl, rfl, .inl (SqL.of h1), hz, w2.val r2 (.str _)⟩
          | false =>
            obtain ⟨q, vs, rfl, h1, t1, _⟩ := r2.seqT d2 e1
            have := t1.strs e2
            subst this
            exact ⟨a, q, ys, rfl, rfl, .inr h1, hz, w2.val r2 (.str _)⟩
        · exact w2.elim
      · exact w2.elim
    · exact w2.elim
  · exact w1.elim
/-! ### texts of values; f-strings -/
def strD : GDs := fun xs M => match xs with
  | [.p (.int i)] => if i.natAbs.log2 < 1920 then .ok (.p (.str (toString i))) M else .er
  | [.p (.str x)] => .ok (.p (.str x)) M
  | _ => .er
theorem CallR.or {f : Value} {r r' : List V → Hp → VK → Prop} (h : CallR X f r) (h' : CallR X f r') : CallR X f (fun xs H Q => r xs H Q ∨ r' xs H Q) := fun pins s σ H xs us Q I rv q =>
  q.elim (h pins s σ H xs us Q I rv) (h' pins s σ H xs us Q I rv)
theorem cg_str : CG ct X (.type "str") strD := by
  refine ⟨_, CallR.or call_str_int SkE.call_str_str, fun F ρ M G H as xs Q E r ra w => ?_⟩
  unfold strD at w
  split at w
  · cases ra with
    | cons h t =>
      cases t; cases h
      split at w
      · exact .inl ⟨_, rfl, by assumption, w.val r (.str _)⟩
      · exact w.elim
  · cases ra with
    | cons h t =>
      cases t; cases h
      exact .inr ⟨_, rfl, w.val r (.str _)⟩
  · exact w.elim
def fmtE (f : ME) : ME := fun σ M => (f σ M).bind fun d M1 => match d with
  | .p (.int i) => if i.natAbs.log2 < 1920 then .ok (.p (.str (toString i))) M1 else .er
  | .p (.str x) => if x.length ≤ sizeLine then .ok (.p (.str x)) M1 else .er
  | _ => .er
theorem se_fmt (he : SE ct X W e f) : SE ct X W (.FormattedValue e (-1) none pos) (fmtE f) := by
  obtain ⟨te, pe, le⟩ := he
  refine ⟨_, pe_fmt pe, fun F ρ M G σ s H Q r rs w => ?_⟩
  refine le F ρ M G σ s H _ r rs (w.thn fun d M1 F1 ρ1 H1 v1 u1 r1 d1 w1 => ?_)
  split at w1
  · cases d1
    split at w1
    · exact .inr ⟨_, rfl, by assumption, w1.val r1 (.str _)⟩
    · exact w1.elim
  · cases d1
    split at w1
    · exact .inl ⟨_, rfl, by assumption, w1.val r1 (.str _)⟩
    · exact w1.elim
  · exact w1.elim
/-- the parts of an f-string -/
abbrev MJ := Str → Sg → Mem → R Str
abbrev rpS : Hp → List Addr → Str → Str → Prop := fun _ _ a b => a = b
inductive SJ (ct : Ct) (X : Cx) (W : WX) : List Expr → List TE → MJ → Prop where
  | nil : SJ ct X W [] [] (fun acc _ M => .ok acc M)
  | cons {e : Expr} {t : TE} {f : ME} {es : List Expr} {ts : List TE} {g : MJ} (h : PE X e t) (l : ∀ F ρ M G σ s H Q, Rel X.K ct F ρ M G H → RelS X.K F ρ σ s → Wp X.K ct (RepD X.K) F ρ G (f σ M) Q (fun c d H' => W c d s H') → t s H Q) (r : SJ ct X W es ts g) :
      SJ ct X W (e :: es) (t :: ts) (fun acc σ M => strThen f (fun y σ M1 => if (acc ++ y).length ≤ sizeLine then (g (acc ++ y) σ M1).bind (fun z M2 => .ok (.p (.str z)) M2) else .er) σ M |>.bind fun d M => match d with | .p (.str z) => .ok z M | _ => .er)
def jNil : MJ := fun acc _ M => .ok acc M
def jCons (f : ME) (g : MJ) : MJ := fun acc σ M => (f σ M).bind fun o M1 => match o with
  | .p (.str y) => if (acc ++ y).length ≤ sizeLine then g (acc ++ y) σ M1 else .er
  | _ => .er
def SJs (ct : Ct) (X : Cx) (W : WX) (es : List Expr) (g : MJ) : Prop := ∃ ts, PJ X es ts ∧ ∀ acc F ρ M G σ s H Q, Rel X.K ct F ρ M G H → RelS X.K F ρ σ s → Wp X.K ct rpS F ρ G (g acc σ M) Q (fun c d H' => W c d s H') → tJs ts acc s H Q
theorem sj_nil : SJs ct X W [] jNil := ⟨[], .nil, fun acc F ρ M G σ s H Q r rs w => w.val r rfl⟩
theorem sj_cons {g : MJ} (he : SE ct X W e f) (hr : SJs ct X W es g) : SJs ct X W (e :: es) (jCons f g) := by
  obtain ⟨te, pe, le⟩ := he
  obtain ⟨ts, pr, lr⟩ := hr
  refine ⟨_, .cons pe pr, fun acc F ρ M G σ s H Q r rs w => ?_⟩
  refine le F ρ M G σ s H _ r rs (w.thn fun d M1 F1 ρ1 H1 v1 u1 r1 d1 w1 => ?_)
  split at w1
  · cases d1
    split at w1
    · exact ⟨_, rfl, by assumption, lr _ F1 ρ1 M1 G σ s H1 Q r1 (rs.up u1) w1⟩
    · exact w1.elim
  · exact w1.elim
def joinedE (g : MJ) : ME := fun σ M => (g Str.empty σ M).bind fun z M1 => .ok (.p (.str z)) M1
theorem se_joined {v1 v2 : Expr} {rest : List Expr} {g : MJ} (h : SJs ct X W (v1 :: v2 :: rest) g) : SE ct X W (.JoinedStr (v1 :: v2 :: rest) pos) (joinedE g) := by
  obtain ⟨ts, pr, lr⟩ := h
  refine ⟨_, pe_joined pr, fun F ρ M G σ s H Q r rs w => ?_⟩
  exact lr _ F ρ M G σ s H _ r rs (w.thn fun z M1 F1 ρ1 H1 z' u1 r1 d1 w1 => by cases d1; exact w1.val r1 (.str _))

/-! ### attributes -/
theorem RepF.lookup {K : PySem.W.Frag} {F : Hp} {ρ : List Addr} {ds : List (Str × D)} {vs : List (Str × V)} (h : RepF K F ρ ds vs) (n : Str) : (∀ d, ds.lookup n = some d → ∃ v, vs.lookup n = some v ∧ RepD K F ρ d v) ∧ (ds.lookup n = none → vs.lookup n = none) := by
  induction h with
  | nil => exact ⟨fun d e => by simp at e, fun _ => rfl⟩
  | @cons m d v ds vs h _ t =>
    rw [List.lookup_cons, List.lookup_cons]
    cases hb : n == m with
    | true => exact ⟨fun d' e => by simp at e; subst e; exact ⟨v, rfl, h⟩, fun e => by simp at e⟩
    | false => exact t
theorem RepF.length {K : PySem.W.Frag} {F : Hp} {ρ : List Addr} {ds : List (Str × D)} {vs : List (Str × V)} (h : RepF K F ρ ds vs) : ds.length = vs.length := by
  induction h with
  | nil => rfl
  | cons _ _ t => simp [t]
/-- an attribute put, as putF -/
def putG (f : Str) (d : D) : List (Str × D) → List (Str × D)
  | [] => [(f, d)]
  | (g, e) :: r => if g = f then (g, d) :: r else (g, e) :: putG f d r
theorem ins_at {K : PySem.W.Frag} {F ρ M G H} {l : Nat} {v : V} {C : Str} {fs : List (Str × D)} (r : Rel K ct F ρ M G H) (rd : RepD K F ρ (.at l) v) (hm : M[l]? = some (.ins C fs)) :
    ∃ a c dx gs, v = .ref a ∧ ct C = some c ∧ H a = some (.ins c dx gs) ∧ RepF K F ρ fs gs ∧ ∀ fs' gs', RepF K F ρ fs' gs' → Rel K ct F ρ (M.set l (.ins C fs')) G (upd H a (.ins c dx gs')) := by
  obtain ⟨a, ha, rfl⟩ := rd
  obtain ⟨b, ho, g1, g2, g3, g4, c, dx, gs, g5, g6, g7⟩ := r.obj l _ hm
  rw [ha] at g1; cases g1
  subst g6
  exact ⟨a, c, dx, gs, rfl, g5, g4, g7, fun fs' gs' rf => r.wrote ha hm (fun z => nomatch z) ⟨c, dx, gs', g5, rfl, rf⟩⟩
def fldE (C n : Str) (f : ME) : ME := fun σ M => (f σ M).bind fun d M1 => match d with
  | .at l => match M1[l]? with
    | some (.ins C' fs) => if C' = C then (match fs.lookup n with
      | some v => .ok v M1
      | none => .er) else .er
    | _ => .er
  | _ => .er
theorem se_fld {n C : Str} {c : Addr} (he : SE ct X W e f) (hC : ct C = some c) (hc : Cls X.K c) (hn : NoAttr X.K c n) (hb : attributeBase e n X.env (eval e X.env) = eval e X.env := by rfl) : SE ct X W (.Attribute e n pos) (fldE C n f) := by
  obtain ⟨te, pe, le⟩ := he
  refine ⟨_, pe_fld pe hb, fun F ρ M G σ s H Q r rs w => ?_⟩
  refine le F ρ M G σ s H _ r rs (w.thn fun d M1 F1 ρ1 H1 v1 u1 r1 d1 w1 => ?_)
  split at w1
  · split at w1
    · rename_i l C' fs hm
      split at w1
      · rename_i hCC
        subst hCC
        split at w1
        · rename_i v hv
          obtain ⟨a, c', dx, gs, rfl, g1, g2, g3, _⟩ := ins_at r1 d1 hm
          rw [hC] at g1; cases g1
          obtain ⟨y, h1, h2⟩ := (g3.lookup n).1 v hv
          exact ⟨a, c, dx, gs, y, rfl, g2, hc, hn, h1, w1.val r1 h2⟩
        · exact w1.elim
      · exact w1.elim
    · exact w1.elim
  · exact w1.elim
theorem RepF.put {K : PySem.W.Frag} {F : Hp} {ρ : List Addr} {ds : List (Str × D)} {vs : List (Str × V)} (h : RepF K F ρ ds vs) {d : D} {v : V} (r : RepD K F ρ d v) (n : Str) : RepF K F ρ (putG n d ds) (putF n v vs) := by
  induction h with
  | nil => exact .cons r .nil
  | @cons m d' v' ds vs h g t =>
    show RepF K F ρ (if m = n then (m, d) :: ds else (m, d') :: putG n d ds) (if m = n then (m, v) :: vs else (m, v') :: putF n v vs)
    by_cases e : m = n
    · rw [if_pos e, if_pos e]; exact .cons r g
    · rw [if_neg e, if_neg e]; exact .cons h t
/-- o.n = e -/
def sFldS (C n : Str) (f fo : ME) : MS := fun σ M => (f σ M).go σ fun d M1 => (fo σ M1).go σ fun o M2 => match o with
  | .at l => match M2[l]? with
    | some (.ins C' fs) => if C' = C ∧ fs.length < 1000 then .nx σ (M2.set l (.ins C (putG n d fs))) else .er
    | _ => .er
  | _ => .er
theorem ss_fld {n C : Str} {c : Addr} {pos' : Pos} (ho : SE ct X W o fo) (hv : SE ct X W e f) (hC : ct C = some c) (hc : Cls X.K c) (hn : NoAttr X.K c n) (hs : swapsWith e (some (.Attribute o n pos')) pos.line X.env = pure false := by rfl) : SS ct X W (.Assign [.Attribute o n pos'] e pos) (sFldS C n f fo) := by
  obtain ⟨te, pe, le⟩ := hv
  obtain ⟨to, po, lo⟩ := ho
  refine ⟨_, ps_fld po pe hs, fun F ρ M G σ s H D r rs w => ?_⟩
  refine le F ρ M G σ s H _ r rs (w.thn rs fun d M1 F1 ρ1 H1 v1 u1 r1 d1 w1 => ?_)
  refine lo F1 ρ1 M1 G σ s H1 _ r1 (rs.up u1) (w1.thn (rs.up u1) fun o M2 F2 ρ2 H2 v2 u2 r2 d2 w2 => ?_)
  split at w2
  · split at w2
    · rename_i l C' fs hm
      split at w2
      · rename_i hCC
        obtain ⟨rfl, hl⟩ := hCC
        obtain ⟨a, c', dx, gs, rfl, g1, g2, g3, g4⟩ := ins_at r2 d2 hm
        rw [hC] at g1; cases g1
        refine ⟨a, c, dx, gs, rfl, g2, hc, hn, by rw [← g3.length]; exact hl, ?_⟩
        exact w2 F2 ρ2 _ s .rfl' (g4 _ _ (g3.put (d1.up u2) n)) (rs.up (u1.trans u2))
      · exact w2.elim
    · exact w2.elim
  · exact w2.elim
/-! ### refusals -/
def sRaise (c : Str) : MS := fun σ M => .ex c none σ M
theorem ss_raise {x : Str} {m : Str} {j : Nat} {p2 p3 : Pos} {C : Addr} {B newId initId : String} {bmB : List Value} (hc : X.calm = true) (tk : Takes X W) (hC : ct x = some C) (F : ExcBaseFacts B newId initId bmB) (q : PySem.W.excIn X.K C bmB newId = true) (gC : X.mg x = some (.ref C)) (kC : PySem.W.keepIn X.K (.ref C) = true) (r : Raises X (.ref C)) (hg : Gl X x)
    (hdb : (x == ("__debug__" : Str)) = false := by decide) : SS ct X W (.Raise (some (.Call (.Name x p) [.Constant (.str m) j p2] [] p3)) none pos) (sRaise x) := by
  refine ⟨_, ps_raise hc tk (pmk_own F q gC kC r hg hdb), fun F ρ M G σ s H D r rs w => ?_⟩
  exact w F ρ H s C none .rfl' r rs hC rfl
end
end Tl

/-! The tree layer, part 8: instances made, own methods, own specials, isinstance, repr, sorted. -/
namespace Tl
open PySem L2 PySem.Spec PyProof.Rows

section
variable {ct : Ct} {X : Cx} {W : WX} {e a b o : Expr} {es : List Expr} {pos apos p cpos : Pos} {f fa fb fo : ME} {fs : MA}
/-! ### an instance is made -/
def makeG (C : Str) (n : Nat) (g : GDs) (dds : List D) (fs : MA) : ME := fun σ M => (fs σ M).bind fun as M1 => if as.length + 1 + dds.length = n then (g (.at M1.length :: (as ++ dds)) (M1 ++ [.ins C []])).bind fun v M2 => match v with
  | .p .none => .ok (.at M1.length) M2
  | _ => .er else .er
section
variable {k : Nat} {fI C : Addr} {fd : FuncData} {ps : List Str} {g : GDs} {x Cn : Str} {dvs : List V} {ds : List Value} {dds : List D}
theorem run_mk {pins : List (Addr × Obj)} {σ : L2.St} {H : Hp} {s : Shared} {Q : VK} {us : List Value} {vs : List V} (mk : Mk X.K C fI) (Fn : FnG X.prog X.w X.K X.mg X.base ct k fI fd ps g) (hA : X.A.guards = some []) (hr : Room (k + 1) X.A) (tk : Takes X W) (hb : Binds X.K fd ps ds) (hd : Vals dvs ds)
    (I : Inv X pins σ H s) (rv : Vals vs us) (hl : vs.length + 1 + dvs.length = ps.length)
    (h : ∀ x dx, H x = none → H dx = none → dx ≠ x → spT ct X.K W g (.ref x :: (vs ++ dvs)) σ (upd (upd H dx (.own x)) x (.ins C dx [])) (fun v H2 => v = .non ∧ Q (.ref x) H2)) :
    wpAny (model X.prog X.w) X.A (call (.ref C) us) (EP X pins σ Q) X.xe s := by
  obtain ⟨F, ρ, M, G, as, r, ra, w⟩ := h (s.heap.objs.size + 1) s.heap.objs.size (I.hok.fresh (Nat.le_succ _)) (I.hok.fresh (Nat.le_refl _)) (Nat.ne_of_lt (Nat.lt_succ_self _))
  have J := Inv.made (C := C) I
  have rw2 : Vals (V.ref (s.heap.objs.size + 1) :: (vs ++ dvs)) (Value.ref (s.heap.objs.size + 1) :: (us ++ ds)) := .cons rfl (rv.append hd)
  have hl2 : (V.ref (s.heap.objs.size + 1) :: (vs ++ dvs)).length = ps.length := by
    rw [List.length_cons, List.length_append]; omega
  have hG : (X.A.under (.builtin "type.__call__" ⟨.ref C :: us, []⟩)).guards = some [] := by
    simp [Around.under, Code.guards, Code.isGuard, pushGuards, guardIds, hA]
  refine wpAny_call (make_map (f := fI) I.kIn mk.makes mk.init (beq_iff_eq.mp mk.fn) (codeAny_mono (Fn.run _ X.stack _ _ ⟨Value.ref (s.heap.objs.size + 1) :: us, []⟩ (Value.ref (s.heap.objs.size + 1) :: (us ++ ds)) _ as F ρ M G _ _ hG (hr.make C us [])
    (J.env0.make C us []) (hb _ (Value.ref (s.heap.objs.size + 1) :: us) J.kIn (by rw [show Value.ref (s.heap.objs.size + 1) :: us ++ ds = Value.ref (s.heap.objs.size + 1) :: (us ++ ds) from rfl, ← rw2.length]; exact hl2)) rw2 hl2 r ra w) fun q s' hq => ?_))
  match q, hq with
  | .error e, hq => exact passAt tk σ pins _ _ e s' J hq
  | .ok (.ret u), hq =>
    obtain ⟨v, H', I3, rv3, ev, q3⟩ := J.after hq
    subst ev
    exact ⟨rv3, ⟨V.ref (s.heap.objs.size + 1), H', I3, rfl, q3⟩⟩
  | .ok .next, hq => exact False.elim hq
  | .ok .brk, hq => exact False.elim hq
  | .ok .cont, hq => exact False.elim hq
theorem mk_told {F ρ M G H as vs} {s : L2.St} {Q : VK} (hC : ct Cn = some C) (r : Rel X.K ct F ρ M G H) (ra : Reps X.K F ρ as vs) (hD : ∀ F ρ, Reps X.K F ρ dds dvs)
    (w : Wp X.K ct (RepD X.K) F ρ G ((g (.at M.length :: (as ++ dds)) (M ++ [.ins Cn []])).bind fun v M2 => match v with | .p .none => .ok (.at M.length) M2 | _ => .er) Q (fun c d H' => W c d s H')) :
    ∀ x dx, H x = none → H dx = none → dx ≠ x → spT ct X.K W g (.ref x :: (vs ++ dvs)) s (upd (upd H dx (.own x)) x (.ins C dx [])) (fun v H2 => v = .non ∧ Q (.ref x) H2) := by
  intro x dx hx hdx hne
  have r1 := r.extra (o := .own x) hdx
  have hx1 : upd H dx (.own x) x = none := by rw [upd_ne (fun z => hne z.symm)]; exact hx
  obtain ⟨r2, u2⟩ := r1.made (m := .ins Cn []) (o := .ins C dx []) hx1 ⟨C, dx, [], hC, rfl, .nil⟩
  have hat : RepD X.K F (ρ ++ [x]) (.at M.length) (.ref x) := ⟨x, by rw [List.getElem?_append_right (by rw [r.len]; exact Nat.le_refl _), r.len]; simp, rfl⟩
  refine ⟨F, ρ ++ [x], _, G, _, r2, .cons hat ((ra.up u2).append (hD F (ρ ++ [x]))), (w.up u2).thn fun v M3 F3 ρ3 H3 v' u3 r3 d3 w3 => ?_⟩
  split at w3
  · cases d3
    exact ⟨rfl, w3.val r3 (hat.up u3)⟩
  · exact w3.elim
theorem se_make {n : Nat} (mk : Mk X.K C fI) (Fn : FnG X.prog X.w X.K X.mg X.base ct k fI fd ps g) (hC : ct Cn = some C) (hA : X.A.guards = some []) (hr : Room (k + 1) X.A) (tk : Takes X W) (hg : Gl X x) (hm : X.mg x = some (.ref C)) (hb : Binds X.K fd ps ds) (hd : Vals dvs ds) (hD : ∀ F ρ, Reps X.K F ρ dds dvs)
    (ha : SA ct X W (e :: es) fs) (hdb : (x == ("__debug__" : Str)) = false := by decide) (he : starEach (e :: es) X.env = (false, eval e X.env) :: starEach es X.env := by rfl) (hpl : (backTo pos (starEach es X.env)).any (·.1) = false := by rfl) (hn : ps.length = n := by rfl) : SE ct X W (.Call (.Name x p) (e :: es) [] pos) (makeG Cn n g dds fs) := by
  subst hn
  obtain ⟨ta, pa, la⟩ := ha
  refine ⟨fun s H Q => ta s H fun vs H1 => vs.length + 1 + dvs.length = ps.length ∧ ∀ x dx, H1 x = none → H1 dx = none → dx ≠ x → spT ct X.K W g (.ref x :: (vs ++ dvs)) s (upd (upd H1 dx (.own x)) x (.ins C dx [])) (fun v H2 => v = .non ∧ Q (.ref x) H2), ⟨fun pins s σ H Q I h => ?_⟩, fun F ρ M G σ s H Q r rs w => ?_⟩
  · refine wpAny_Call_Name_kw (ld_glob I hg hm ?_ hdb)
    refine PySem.W.callWith_K (h₀ := X.base) I.ok.mod.kin mk.kp (thn (pa.run pos pins s σ H _ I h) fun us s1 hh => ?_) he hpl
    obtain ⟨vs, H1, I1, rv, hl, q⟩ := hh
    exact ⟨I1.kIn, run_mk mk Fn hA hr tk hb hd I1 rv hl q⟩
  · refine la F ρ M G σ s H _ r rs (w.thn fun as M1 F1 ρ1 H1 vs u1 r1 d1 w1 => ?_)
    split at w1
    · rename_i hl
      exact ⟨by rw [← d1.length, ← (hD F ρ).length]; exact hl, mk_told hC r1 d1 hD w1⟩
    · exact w1.elim
theorem se_make0 {n : Nat} (mk : Mk X.K C fI) (Fn : FnG X.prog X.w X.K X.mg X.base ct k fI fd ps g) (hC : ct Cn = some C) (hA : X.A.guards = some []) (hr : Room (k + 1) X.A) (tk : Takes X W) (hg : Gl X x) (hm : X.mg x = some (.ref C)) (hb : Binds X.K fd ps ds) (hd : Vals dvs ds) (hD : ∀ F ρ, Reps X.K F ρ dds dvs)
    (hdb : (x == ("__debug__" : Str)) = false := by decide) (hn : ps.length = n := by rfl) : SE ct X W (.Call (.Name x p) [] [] pos) (makeG Cn n g dds aNil) := by
  subst hn
  refine ⟨fun s H Q => 0 + 1 + dvs.length = ps.length ∧ ∀ x dx, H x = none → H dx = none → dx ≠ x → spT ct X.K W g (.ref x :: ([] ++ dvs)) s (upd (upd H dx (.own x)) x (.ins C dx [])) (fun v H2 => v = .non ∧ Q (.ref x) H2), ⟨fun pins s σ H Q I h => ?_⟩, fun F ρ M G σ s H Q r rs w => ?_⟩
  · refine wpAny_Call_Name_kw (ld_glob I hg hm ?_ hdb)
    exact PySem.W.callWith_K0 I.kIn mk.kp (run_mk (us := []) (vs := []) mk Fn hA hr tk hb hd I .nil h.1 h.2)
  · simp only [makeG, aNil, R.bind_ok] at w
    split at w
    · rename_i hl
      exact ⟨by rw [← (hD F ρ).length]; exact hl, mk_told hC r (.nil) hD w⟩
    · exact w.elim
/-! ### own methods -/
def methG (C m : Str) (n : Nat) (g : GDs) (dds : List D) (fo : ME) (fs : MA) : ME := fun σ M => (fo σ M).bind fun o M1 => match o with
  | .at l => match M1[l]? with
    | some (.ins C' qs) => if C' = C ∧ qs.lookup m = none then (fs σ M1).bind fun as M2 => if (.at l :: (as ++ dds)).length = n then g (.at l :: (as ++ dds)) M2 else .er else .er
    | _ => .er
  | _ => .er
theorem se_meth {n : Nat} {pl : Sem Bool} {m : Str} (ho : SE ct X W o fo) (hC : ct Cn = some C) (c : Cls X.K C) (hm : Meth X.K C m fI) (Fn : FnG X.prog X.w X.K X.mg X.base ct k fI fd ps g) (hA : X.A.guards = some []) (hr : Room k X.A) (tk : Takes X W) (hb : Binds X.K fd ps ds) (hd : Vals dvs ds) (hD : ∀ F ρ, Reps X.K F ρ dds dvs) (ha : SA ct X W (e :: es) fs)
    (hst : starEach (e :: es) X.env = (false, eval e X.env) :: starEach es X.env := by rfl) (hpl : (backTo pos (starEach es X.env)).any (·.1) = false := by rfl)
    (ht : eval (.Call (.Attribute o m apos) (e :: es) [] pos) X.env = (eval o X.env >>= fun r => standAt apos.atName >>= fun _ => holding [r] (getMethod r m pl) >>= fun q => callWith pos q.1 q.2 (backTo pos (starEach (e :: es) X.env)) (backToKw pos (keywordEach [] X.env))) := by rfl) (hn : ps.length = n := by rfl) : SE ct X W (.Call (.Attribute o m apos) (e :: es) [] pos) (methG Cn m n g dds fo fs) := by
  subst hn
  obtain ⟨to, po, lo⟩ := ho
  obtain ⟨ta, pa, la⟩ := ha
  refine ⟨fun s H Q => to s H fun x H1 => ∃ a dx fs, x = .ref a ∧ H1 a = some (.ins C dx fs) ∧ fs.lookup m = none ∧ ta s H1 fun vs H2 => (x :: (vs ++ dvs)).length = ps.length ∧ spT ct X.K W g (x :: (vs ++ dvs)) s H2 Q, ⟨fun pins s σ H Q I h => ?_⟩, fun F ρ M G σ s H Q r rs w => ?_⟩
  · refine PySem.W.methodCall_KW (pl := pl) (thn (po.run pins s σ H _ I h) fun u s1 hh => ?_) ht
    obtain ⟨x, H1, I1, rx, a, dx, fs, ex, ea, l, q⟩ := hh
    subst ex
    obtain rfl : u = Value.ref a := rx
    refine getmeth_ok I1 ea c hm l ?_
    refine PySem.W.callWith_K (first := [.ref a]) (h₀ := X.base) I.ok.mod.kin hm.kp (thn (pa.run pos pins s1 σ H1 _ I1 q) fun us s2 hh => ?_) hst hpl
    obtain ⟨vs, H2, I2, rv, hl, q2⟩ := hh
    refine ⟨I2.kIn, ?_⟩
    have rv2 : Vals (V.ref a :: (vs ++ dvs)) (Value.ref a :: (us ++ ds)) := .cons rfl (rv.append hd)
    exact run_g (args := ⟨Value.ref a :: us, []⟩) Fn hA hr tk I2 (hb s2 (Value.ref a :: us) I2.kIn (by rw [show Value.ref a :: us ++ ds = Value.ref a :: (us ++ ds) from rfl, ← rv2.length]; exact hl)) rv2 hl q2
  · refine lo F ρ M G σ s H _ r rs (w.thn fun d M1 F1 ρ1 H1 v1 u1 r1 d1 w1 => ?_)
    split at w1
    · split at w1
      · rename_i l _ C' qs hM
        split at w1
        · rename_i hq
          obtain ⟨rfl, hq⟩ := hq
          obtain ⟨a, c', dx, gs, rfl, g1, g2, g3, _⟩ := ins_at r1 d1 hM
          rw [hC] at g1; cases g1
          refine ⟨a, dx, gs, rfl, g2, (g3.lookup m).2 hq, la F1 ρ1 M1 G σ s H1 _ r1 (rs.up u1) (w1.thn fun as M2 F2 ρ2 H2 vs u2 r2 d2 w2 => ?_)⟩
          split at w2
          · rename_i hl
            have d3 : Reps X.K F2 ρ2 (.at l :: (as ++ dds)) (V.ref a :: (vs ++ dvs)) := .cons (d1.up u2) (d2.append (hD F2 ρ2))
            exact ⟨by rw [← d3.length]; exact hl, F2, ρ2, M2, G, _, r2, d3, w2⟩
          · exact w2.elim
        · exact w1.elim
      · exact w1.elim
    · exact w1.elim
theorem se_meth0 {n : Nat} {pl : Sem Bool} {m : Str} (ho : SE ct X W o fo) (hC : ct Cn = some C) (c : Cls X.K C) (hm : Meth X.K C m fI) (Fn : FnG X.prog X.w X.K X.mg X.base ct k fI fd ps g) (hA : X.A.guards = some []) (hr : Room k X.A) (tk : Takes X W) (hb : Binds X.K fd ps ds) (hd : Vals dvs ds) (hD : ∀ F ρ, Reps X.K F ρ dds dvs)
    (ht : eval (.Call (.Attribute o m apos) [] [] pos) X.env = (eval o X.env >>= fun r => standAt apos.atName >>= fun _ => holding [r] (getMethod r m pl) >>= fun q => callWith pos q.1 q.2 (backTo pos (starEach [] X.env)) (backToKw pos (keywordEach [] X.env))) := by rfl) (hn : ps.length = n := by rfl) : SE ct X W (.Call (.Attribute o m apos) [] [] pos) (methG Cn m n g dds fo aNil) := by
  subst hn
  obtain ⟨to, po, lo⟩ := ho
  refine ⟨fun s H Q => to s H fun x H1 => ∃ a dx fs, x = .ref a ∧ H1 a = some (.ins C dx fs) ∧ fs.lookup m = none ∧ (x :: dvs).length = ps.length ∧ spT ct X.K W g (x :: dvs) s H1 Q, ⟨fun pins s σ H Q I h => ?_⟩, fun F ρ M G σ s H Q r rs w => ?_⟩
  · refine PySem.W.methodCall_KW (pl := pl) (thn (po.run pins s σ H _ I h) fun u s1 hh => ?_) ht
    obtain ⟨x, H1, I1, rx, a, dx, fs, ex, ea, l, hl, q⟩ := hh
    subst ex
    obtain rfl : u = Value.ref a := rx
    refine getmeth_ok I1 ea c hm l ?_
    have rv2 : Vals (V.ref a :: dvs) (Value.ref a :: ds) := .cons rfl hd
    exact PySem.W.callWith_K0 (first := [.ref a]) I1.kIn hm.kp (run_g (args := ⟨[Value.ref a], []⟩) Fn hA hr tk I1 (hb s1 [Value.ref a] I1.kIn (by rw [show [Value.ref a] ++ ds = Value.ref a :: ds from rfl, ← rv2.length]; exact hl)) rv2 hl q)
  · refine lo F ρ M G σ s H _ r rs (w.thn fun d M1 F1 ρ1 H1 v1 u1 r1 d1 w1 => ?_)
    split at w1
    · split at w1
      · rename_i l _ C' qs hM
        split at w1
        · rename_i hq
          obtain ⟨rfl, hq⟩ := hq
          obtain ⟨a, c', dx, gs, rfl, g1, g2, g3, _⟩ := ins_at r1 d1 hM
          rw [hC] at g1; cases g1
          simp only [aNil, R.bind_ok, List.nil_append] at w1
          split at w1
          · rename_i hl
            have d3 : Reps X.K F1 ρ1 (.at l :: dds) (V.ref a :: dvs) := .cons d1 (hD F1 ρ1)
            exact ⟨a, dx, gs, rfl, g2, (g3.lookup m).2 hq, by rw [← d3.length]; exact hl, F1, ρ1, M1, G, _, r1, d3, w1⟩
          · exact w1.elim
        · exact w1.elim
      · exact w1.elim
    · exact w1.elim
/-! ### len(o), str(o) by an own def -/
theorem run_sub {pins : List (Addr × Obj)} {σ : L2.St} {H : Hp} {s : Shared} {Q : VK} {A : Around} {args : Args} {us : List Value} {vs : List V} (Fn : FnG X.prog X.w X.K X.mg X.base ct k fI fd ps g) (hA : A.guards = some []) (hr : Room k A) (hfr : A.frames = X.A.frames)
    (I : Inv X pins σ H s) (hb : BindsTo s fd args (ps.zip us)) (rv : Vals vs us) (hl : vs.length = ps.length) (h : spT ct X.K W0 g vs σ H Q) : wpAny (model X.prog X.w) A (call (.ref fI) args.pos args.kw) (EP X pins σ Q) X.xe s := by
  obtain ⟨F, ρ, M, G, as, r, ra, w⟩ := h
  have e0 := I.env0
  refine wpAny_call (codeAny_mono (Fn.run A X.stack s H args us vs as F ρ M G Q _ hA hr ⟨hfr.trans e0.frames, e0.mod, e0.bs, e0.bsz, e0.funs, e0.frf, e0.hok, e0.bare⟩ hb rv hl r ra w) fun q s' hq => ?_)
  match q, hq with
  | .error e, hq =>
    obtain ⟨_, _, _, _, _, _, _, _, _, _, _, _, z⟩ := hq
    exact z.elim
  | .ok (.ret u), hq => exact I.after hq
  | .ok .next, hq => exact False.elim hq
  | .ok .brk, hq => exact False.elim hq
  | .ok .cont, hq => exact False.elim hq
/-- an own special method of a class -/
structure Spc (K : PySem.W.Frag) (C : Addr) (m : Str) (f : Addr) : Prop where
  at_ : PySem.W.findIn K (.ref C) m = some (some (.ref f))
  fn : PySem.W.isFn K (.ref f) = true
def ownD (C : Str) (g : GDs) (ok : D → Prop) [DecidablePred ok] : GDs := fun xs M => match xs with
  | [.at l] => match M[l]? with
    | some (.ins C' _) => if C' = C then (g [.at l] M).noEx.bind fun v M1 => if ok v then .ok v M1 else .er else .er
    | _ => .er
  | _ => .er
def okLen : D → Bool
  | .p (.int n) => decide (0 ≤ n ∧ n < 2 ^ 63)
  | _ => false
def okStr : D → Bool
  | .p (.str _) => true
  | _ => false
theorem own_told {F ρ M G H} {ok : D → Prop} [DecidablePred ok] {as : List D} {xs : List V} {s : L2.St} {Q : VK} {E : XK} (hC : ct Cn = some C) (r : Rel X.K ct F ρ M G H) (ra : Reps X.K F ρ as xs) (w : Wp X.K ct (RepD X.K) F ρ G (ownD Cn g ok as M) Q E) :
    ∃ a dx gs, xs = [.ref a] ∧ H a = some (.ins C dx gs) ∧ spT ct X.K W0 g [.ref a] s H (fun v H' => (∃ d F ρ, ok d ∧ RepD X.K F ρ d v) ∧ Q v H') := by
  unfold ownD at w
  split at w
  · split at w
    · rename_i l C' qs hM
      split at w
      · rename_i hCC
        subst hCC
        cases ra with
        | cons h t =>
          cases t
          obtain ⟨a, c', dx, gs, rfl, g1, g2, g3, _⟩ := ins_at r h hM
          rw [hC] at g1; cases g1
          refine ⟨a, dx, gs, rfl, g2, F, ρ, M, G, _, r, .cons h .nil, ?_⟩
          refine noEx_wp (E := E) (w.thn fun v M1 F1 ρ1 H1 v' u1 r1 d1 w1 => ?_)
          split at w1
          · exact ⟨⟨v, F1, ρ1, by assumption, d1⟩, w1.val r1 d1⟩
          · exact w1.elim
      · exact w.elim
    · exact w.elim
  · exact w.elim
theorem inst_of {pins : List (Addr × Obj)} {σ : L2.St} {H : Hp} {s : Shared} {a dx : Addr} {gs : List (Str × V)} (I : Inv X pins σ H s) (h : H a = some (.ins C dx gs)) : ∃ od, PySem.W.InstAt s.heap a (PySem.W.instObj C dx) C (some od) := by
  obtain ⟨mA, J, _⟩ := ins_get I.hok h
  obtain ⟨od, q, _⟩ := J.look
  exact ⟨od, q⟩
theorem bind1 (hb : Binds X.K fd ps []) (hp : ps.length = 1) {s : Shared} (hK : X.K.In s.heap) (a : Addr) : BindsTo s fd ⟨[Value.ref a], []⟩ (ps.zip [Value.ref a]) := by
  have := hb s [Value.ref a] hK (by rw [hp]; rfl)
  rw [List.append_nil] at this
  exact this
theorem cg_lenO (sp : Spc X.K C "__len__" fI) (Fn : FnG X.prog X.w X.K X.mg X.base ct k fI fd ps g) (hC : ct Cn = some C) (hA : X.A.guards = some []) (hr : Room (k + 1) X.A) (hb : Binds X.K fd ps []) (hp : ps.length = 1) : CG ct X (.builtin "len") (ownD Cn g (fun d => okLen d = true)) := by
  refine ⟨fun xs H Q => ∃ a dx gs s, xs = [.ref a] ∧ H a = some (.ins C dx gs) ∧ spT ct X.K W0 g [.ref a] s H (fun v H' => (∃ d F ρ, okLen d = true ∧ RepD X.K F ρ d v) ∧ Q v H'), fun pins s σ H xs us Q I rv h => ?_, fun F ρ M G H as xs Q E r ra w => ?_⟩
  · obtain ⟨a, dx, gs, s0, rfl, ha, q⟩ := h
    obtain ⟨u, rfl, ru⟩ := vals1 rv
    cases ru
    obtain ⟨od, J⟩ := inst_of I ha
    refine Calls.call_function_entry kind_len plain_len entry_len (args_len1 _) ?_
    unfold Builtin.«len»
    refine wpAny_bind (m := oneArg "len" _) (wpAny_pure ?_)
    refine wpAny_bind (m := callSpecial? (.ref a) (PySem.Str.ofString "__len__")) (PySem.W.special_fn I.kIn J sp.at_ (beq_iff_eq.mp sp.fn) ?_)
    refine thn (run_sub (A := X.A.in1) (args := ⟨[Value.ref a], []⟩) Fn hA hr.in1 rfl I (bind1 hb hp I.kIn a) (vs := [V.ref a]) (.cons rfl .nil) (by rw [hp]; rfl) (σ := σ) q) fun u s1 hu => ?_
    obtain ⟨v, H1, I1, r1, ⟨d, F, ρ, hd, rd⟩, qv⟩ := hu
    unfold okLen at hd
    split at hd
    · rename_i n
      have hn := of_decide_eq_true hd
      cases rd
      obtain ⟨t, rfl⟩ := r1
      refine wpAny_bind (wpAny_holding (wpAny_pure ?_))
      refine wpAny_bind (wpAny_letGo ?_)
      show wpAny _ _ (if n < 0 then _ else _) _ _ _
      rw [if_neg (by omega)]
      show wpAny _ _ (if n ≥ 2 ^ 63 then _ else _) _ _ _
      rw [if_neg (by omega)]
      exact wpAny_bind (wpAny_mkInt (wpAny_pure ⟨_, rfl, ⟨.int n, H1, I1.tok _, ⟨_, rfl⟩, qv⟩⟩))
    · cases hd
  · obtain ⟨a, dx, gs, h1, h2, h3⟩ := own_told (s := []) hC r ra w
    exact ⟨a, dx, gs, _, h1, h2, h3⟩
theorem cg_strO (sp : Spc X.K C "__str__" fI) (Fn : FnG X.prog X.w X.K X.mg X.base ct k fI fd ps g) (hC : ct Cn = some C) (hA : X.A.guards = some []) (hr : Room (k + 2) X.A) (hb : Binds X.K fd ps []) (hp : ps.length = 1) : CG ct X (.type "str") (ownD Cn g (fun d => okStr d = true)) := by
  refine ⟨fun xs H Q => ∃ a dx gs s, xs = [.ref a] ∧ H a = some (.ins C dx gs) ∧ spT ct X.K W0 g [.ref a] s H (fun v H' => (∃ d F ρ, okStr d = true ∧ RepD X.K F ρ d v) ∧ Q v H'), fun pins s σ H xs us Q I rv h => ?_, fun F ρ M G H as xs Q E r ra w => ?_⟩
  · obtain ⟨a, dx, gs, s0, rfl, ha, q⟩ := h
    obtain ⟨u, rfl, ru⟩ := vals1 rv
    cases ru
    obtain ⟨od, J⟩ := inst_of I ha
    have hr1 : Room (k + 1) X.A.in1 := hr.in1
    refine PySem.W.kso_call (hr1.in1.units0) I.kIn J sp.at_ sp.fn ?_
    refine thn (run_sub (A := X.A.in1.in1) (args := ⟨[Value.ref a], []⟩) Fn hA hr1.in1 rfl I (bind1 hb hp I.kIn a) (vs := [V.ref a]) (.cons rfl .nil) (by rw [hp]; rfl) (σ := σ) q) fun u s1 hu => ?_
    obtain ⟨v, H1, I1, r1, ⟨d, F, ρ, hd, rd⟩, qv⟩ := hu
    unfold okStr at hd
    split at hd
    · rename_i z
      cases rd
      obtain ⟨t, rfl⟩ := r1
      exact ⟨.str z, H1, I1, ⟨t, rfl⟩, qv⟩
    · cases hd
  · obtain ⟨a, dx, gs, h1, h2, h3⟩ := own_told (s := []) hC r ra w
    exact ⟨a, dx, gs, _, h1, h2, h3⟩
end
/-! ### isinstance -/
def tyB (M : Mem) : D → Option String
  | .p .none => some "NoneType"
  | .p (.bool _) => some "bool"
  | .p (.int _) => some "int"
  | .p (.str _) => some "str"
  | .p (.list _) => some "list"
  | .p (.tuple _) => some "tuple"
  | .p (.dict _) => some "dict"
  | .at l => match M[l]? with
    | some (.lst _) => some "list"
    | some (.tup _) => some "tuple"
    | some (.dic _) => some "dict"
    | _ => none
  | _ => none
theorem tyB_ok {K : PySem.W.Frag} {F ρ M G H} {d : D} {v : V} {t : String} (r : Rel K ct F ρ M G H) (rd : RepD K F ρ d v) (e : tyB M d = some t) : TyX K H v (.type t) := by
  unfold tyB at e
  split at e
  · cases e; cases rd; exact .base .non
  · cases e; cases rd; exact .base (.bl _)
  · cases e; cases rd; exact .base (.int _)
  · cases e; cases rd; exact .base (.str _)
  · cases e
    cases rd with
    | lst h _ _ => exact .base (.lst (r.sub _ _ h))
  · cases e
    cases rd with
    | tup h _ _ =>
      rcases h with (h | ⟨o, h⟩) | ⟨o, its, n, h1, h2, _⟩
      · exact .base (.tup (r.sub _ _ h))
      · exact .fTuple (r.sub _ _ h)
      · exact .kTuple h1 h2
  · cases e
    cases rd with
    | dic h _ => exact .base (.dK (r.sub _ _ h))
  · rename_i l
    obtain ⟨a, ha, rfl⟩ := rd
    split at e <;> cases e
    · rename_i xs hm
      obtain ⟨b, ho, g1, g2, g3, g4, vs, g5, _⟩ := r.obj l _ hm
      rw [ha] at g1; cases g1; subst g5
      exact .base (.lst g4)
    · rename_i xs hm
      obtain ⟨b, ho, g1, g2, g3, g4, vs, g5, _⟩ := r.obj l _ hm
      rw [ha] at g1; cases g1; subst g5
      exact .base (.tup g4)
    · rename_i xs hm
      obtain ⟨b, ho, g1, g2, g3, g4, vs, g5, _⟩ := r.obj l _ hm
      rw [ha] at g1; cases g1; subst g5
      exact .base (.dK g4)
  · cases e
def isiD : GDs := fun xs M => match xs with
  | [d, .raw (.ty n)] => match tyB M d with
    | some t => match kitB t n with
      | some b => .ok (.p (.bool b)) M
      | none => .er
    | none => .er
  | _ => .er
theorem cg_isi : CG ct X (.builtin "isinstance") isiD := by
  refine ⟨_, call_isi, fun F ρ M G H as xs Q E r ra w => ?_⟩
  unfold isiD at w
  split at w
  · rename_i d n
    cases ra with
    | cons h t =>
      cases t with
      | cons h2 t =>
        cases t
        cases h2
        split at w
        · rename_i t e1
          split at w
          · rename_i b e2
            exact ⟨_, _, _, _, b, rfl, .ty n, tyB_ok r h e1, kit_ty e2, w.val r (.bl b)⟩
          · exact w.elim
        · exact w.elim
  · exact w.elim
/-- isinstance(e, (S, T)) -/
def kitAll (t : String) : List String → Option Bool
  | [] => some false
  | n :: r => match kitB t n with
    | some true => some true
    | some false => kitAll t r
    | none => none
theorem kitAll_ok {K : PySem.W.Frag} {t : String} : ∀ {ns : List String} {b : Bool}, kitAll t ns = some b → (∀ n ∈ ns, ∃ b, kitB t n = some b) → PySem.W.kitAny K (.type t) (ns.map Value.type) = some b
  | [], b, h, _ => by cases h; exact kitAny_nil
  | n :: r, b, h, hn => by
    obtain ⟨c, hc⟩ := hn n (List.mem_cons_self ..)
    simp only [kitAll, hc] at h
    cases c with
    | true =>
      cases h
      obtain ⟨q, hq⟩ : ∃ q, kitAll t r = some q := by
        have : ∀ {l : List String}, (∀ n ∈ l, ∃ b, kitB t n = some b) → ∃ q, kitAll t l = some q := by
          intro l
          induction l with
          | nil => exact fun _ => ⟨false, rfl⟩
          | cons m l ih =>
            intro hl
            obtain ⟨c, hc⟩ := hl m (List.mem_cons_self ..)
            obtain ⟨q, hq⟩ := ih fun n hn => hl n (List.mem_cons_of_mem _ hn)
            simp only [kitAll, hc]
            cases c
            · exact ⟨q, hq⟩
            · exact ⟨true, rfl⟩
        exact this fun m hm => hn m (List.mem_cons_of_mem _ hm)
      have ih := kitAll_ok (K := K) hq fun m hm => hn m (List.mem_cons_of_mem _ hm)
      exact kitAny_cons (kit_ty hc) (r := true) (fun z => nomatch z) (fun _ => rfl)
    | false => exact kitAny_cons (kit_ty hc) (fun _ => kitAll_ok h fun m hm => hn m (List.mem_cons_of_mem _ hm)) (fun z => nomatch z)
def isiT (ns : List String) (f : ME) : ME := fun σ M => (f σ M).bind fun d M1 => match tyB M1 d with
  | some t => if (∀ n ∈ ns, ∃ b, kitB t n = some b) then (match kitAll t ns with
    | some b => .ok (.p (.bool b)) M1
    | none => .er) else .er
  | none => .er
end
end Tl

/-! The tree layer, part 9: isinstance of several classes, signs walked, sorted, all, any, sum, least and greatest of a list. -/
namespace Tl
open PySem L2 PySem.Spec PyProof.Rows

section
variable {ct : Ct} {X : Cx} {W : WX} {e a b o : Expr} {es : List Expr} {pos apos p cpos tpos : Pos} {f fa fb fo : ME} {fs : MA}
/-! ### isinstance(e, (S, T)) -/
/-- a row of written classes -/
def SC (X : Cx) (es : List Expr) (ns : List String) : Prop := ∃ t, PA X es t ∧ ∀ s H (Q : List V → Hp → Prop), Q (ns.map V.ty) H → t s H Q
theorem sc_nil : SC X [] [] := ⟨_, pa_nil, fun s H Q h => h⟩
theorem sc_cons {x : Str} {n : String} {ns : List String} (hg : Gl X x) (hm : X.mg x = none) (hv : bootBuiltins x = some (.type n)) (r : SC X es ns) (hn : x ≠ "__name__" := by decide) (hd : (x == ("__debug__" : Str)) = false := by decide)
    (hs : starEach (.Name x p :: es) X.env = (false, eval (.Name x p) X.env) :: starEach es X.env := by rfl) : SC X (.Name x p :: es) (n :: ns) := by
  obtain ⟨t, pt, lt⟩ := r
  exact ⟨_, pa_cons (pe_bltn (v := .ty n) hg hm hv rfl hn hd) pt hs, fun s H Q h => lt s H _ h⟩
theorem clsV_all : ∀ ns : List String, Paired ClsV (ns.map V.ty) (ns.map Value.type)
  | [] => .nil
  | n :: r => .cons (.ty n) (clsV_all r)
theorem TyX.grow {K : PySem.W.Frag} {F ρ M G H} {d : D} {v : V} {t : String} {q : Addr} {o : HO} (r : Rel K ct F ρ M G H) (hq : H q = none) (rd : RepD K F ρ d v) (e : tyB M d = some t) : TyX K (upd H q o) v (.type t) := tyB_ok (r.extra hq) rd e
theorem se_isiT {ns : List String} {k : Nat} (he : SE ct X W e f) (hg : Gl X "isinstance") (hm : X.mg "isinstance" = none) (hes : SC X es ns) (hz : ns.length ≤ 1000 := by decide)
    (hs1 : starEach [e, .Tuple es k tpos] X.env = (false, eval e X.env) :: starEach [.Tuple es k tpos] X.env := by rfl) (hs2 : starEach [.Tuple es k tpos] X.env = (false, eval (.Tuple es k tpos) X.env) :: starEach [] X.env := by rfl)
    (hpl : (backTo pos (starEach [.Tuple es k tpos] X.env)).any (·.1) = false := by rfl) :
    SE ct X W (.Call (.Name "isinstance" p) [e, .Tuple es k tpos] [] pos) (isiT ns f) := by
  obtain ⟨te, pe, le⟩ := he
  obtain ⟨tc, pc, lc⟩ := hes
  refine ⟨_, pe_callB call_isiT hg hm PyProof.Rows.boot_isinstance (pa_cons pe (pa_cons (pe_tup pc) pa_nil hs2) hs1) (by decide) (by decide) hs1 hpl, fun F ρ M G σ s H Q r rs w => ?_⟩
  refine le F ρ M G σ s H _ r rs (w.thn fun d M1 F1 ρ1 H1 v1 u1 r1 d1 w1 => ?_)
  split at w1
  · rename_i t e1
    split at w1
    · rename_i hk
      split at w1
      · rename_i b e2
        refine lc s H1 _ ⟨by rw [List.length_map]; exact Nat.le_trans hz (by decide), fun q hq => ?_⟩
        refine ⟨v1, q, ns.map V.ty, .type t, ns.map Value.type, b, rfl, upd_same, clsV_all ns, TyX.grow r1 hq d1 e1, kitAll_ok e2 hk, ?_⟩
        exact w1.val (r1.extra hq) (.bl b)
      · exact w1.elim
    · exact w1.elim
  · exact w1.elim
/-! ### a text's signs, one after another -/
def wStr (f : ME) : MW := fun σ M => (f σ M).bind fun d M1 => match d with
  | .p (.str x) => .ok (x.cps.toList.map fun c => .one (.p (.str ⟨#[c]⟩)), fun _ => True) M1
  | _ => .er
theorem si_str {tg l : Expr} (hl : SE ct X W l f) : SI ct X W tg l (wStr f) := by
  obtain ⟨tl, pl, ll⟩ := hl
  refine ⟨_, pi_str pl, fun F ρ M G σ s H Q r rs w => ?_⟩
  refine ll F ρ M G σ s H _ r rs (w.thn fun d M1 F1 ρ1 H1 v u1 r1 d1 w1 => ?_)
  split at w1
  · rename_i x
    cases d1
    refine ⟨x, rfl, w1.val r1 fun F' ρ' M' G' H' i u' r' _ => ?_⟩
    refine ⟨fun hi => ?_, fun it hit => ?_⟩
    · show x.cps.size ≤ i
      rw [hi]; simp
    · have hl : i < x.cps.size := by
        have := (List.getElem?_eq_some_iff.mp hit).1
        simpa using this
      refine ⟨hl, fun v H2 hy => ?_⟩
      obtain ⟨rfl, c, hc, rfl⟩ := hy
      rw [List.getElem?_map, Array.getElem?_toList, hc] at hit
      cases hit
      exact ⟨F', .rfl', r', .str _⟩
  · exact w1.elim
/-! ### lists of numbers, of truths -/
def unI : List D → Option (List Int)
  | [] => some []
  | .p (.int i) :: r => (unI r).map (i :: ·)
  | _ :: _ => none
def unB : List D → Option (List Bool)
  | [] => some []
  | .p (.bool i) :: r => (unB r).map (i :: ·)
  | _ :: _ => none
@[simp] theorem unI_map (ns : List Int) : unI (ns.map fun i => D.p (.int i)) = some ns := by
  induction ns with
  | nil => rfl
  | cons n ns ih => simp [unI, ih]
@[simp] theorem unB_map (ns : List Bool) : unB (ns.map fun i => D.p (.bool i)) = some ns := by
  induction ns with
  | nil => rfl
  | cons n ns ih => simp [unB, ih]
theorem Reps.ints {K : PySem.W.Frag} {F : Hp} {ρ : List Addr} {ds : List D} {vs : List V} (h : Reps K F ρ ds vs) : ∀ {ns : List Int}, unI ds = some ns → vs = ns.map V.int := by
  induction h with
  | nil => intro ns e; simp [unI] at e; subst e; rfl
  | @cons d v ds vs h _ t =>
    intro ns e
    unfold unI at e
    split at e
    · rename_i q; cases q
    · rename_i i r q
      cases q
      obtain ⟨ms, e1, e2⟩ := Option.map_eq_some_iff.mp e
      subst e2
      cases h
      rw [t e1]; rfl
    · cases e
theorem Reps.bools {K : PySem.W.Frag} {F : Hp} {ρ : List Addr} {ds : List D} {vs : List V} (h : Reps K F ρ ds vs) : ∀ {ns : List Bool}, unB ds = some ns → vs = ns.map V.bl := by
  induction h with
  | nil => intro ns e; simp [unB] at e; subst e; rfl
  | @cons d v ds vs h _ t =>
    intro ns e
    unfold unB at e
    split at e
    · rename_i q; cases q
    · rename_i i r q
      cases q
      obtain ⟨ms, e1, e2⟩ := Option.map_eq_some_iff.mp e
      subst e2
      cases h
      rw [t e1]; rfl
    · cases e
theorem Reps.ofInts {K : PySem.W.Frag} {F : Hp} {ρ : List Addr} : ∀ ns : List Int, Reps K F ρ (ns.map fun i => D.p (.int i)) (ns.map V.int)
  | [] => .nil
  | n :: ns => .cons (.int n) (Reps.ofInts ns)
/-- the one list that a call is told -/
def onI (g : List Int → Mem → R D) : GDs := fun xs M => match xs with
  | [d] => match seqOf M d with
    | some (true, ys) => match unI ys with
      | some ns => g ns M
      | none => .er
    | _ => .er
  | _ => .er
def onB (g : List Bool → Mem → R D) : GDs := fun xs M => match xs with
  | [d] => match seqOf M d with
    | some (true, ys) => match unB ys with
      | some ns => g ns M
      | none => .er
    | _ => .er
  | _ => .er
theorem onI_told {F ρ M G H} {g : List Int → Mem → R D} {as : List D} {xs : List V} {Q : VK} {E : XK} (r : Rel X.K ct F ρ M G H) (ra : Reps X.K F ρ as xs) (w : Wp X.K ct (RepD X.K) F ρ G (onI g as M) Q E) :
    ∃ a ns, xs = [.ref a] ∧ SqL X.K H a (ns.map V.int) ∧ ns.length ≤ sizeLine ∧ Wp X.K ct (RepD X.K) F ρ G (g ns M) Q E := by
  unfold onI at w
  split at w
  · cases ra with
    | cons h t =>
      cases t
      split at w
      · rename_i ys e1
        split at w
        · rename_i ns e2
          obtain ⟨p, vs, rfl, h1, t1, z1⟩ := r.seqL h e1
          have := t1.ints e2
          subst this
          exact ⟨p, ns, rfl, SqL.of h1, by simpa using z1, w⟩
        · exact w.elim
      · exact w.elim
  · exact w.elim
theorem onB_told {F ρ M G H} {g : List Bool → Mem → R D} {as : List D} {xs : List V} {Q : VK} {E : XK} (r : Rel X.K ct F ρ M G H) (ra : Reps X.K F ρ as xs) (w : Wp X.K ct (RepD X.K) F ρ G (onB g as M) Q E) :
    ∃ a ns, xs = [.ref a] ∧ SqL X.K H a (ns.map V.bl) ∧ ns.length ≤ sizeLine ∧ Wp X.K ct (RepD X.K) F ρ G (g ns M) Q E := by
  unfold onB at w
  split at w
  · cases ra with
    | cons h t =>
      cases t
      split at w
      · rename_i ys e1
        split at w
        · rename_i ns e2
          obtain ⟨p, vs, rfl, h1, t1, z1⟩ := r.seqL h e1
          have := t1.bools e2
          subst this
          exact ⟨p, ns, rfl, SqL.of h1, by simpa using z1, w⟩
        · exact w.elim
      · exact w.elim
  · exact w.elim
def sortI (ns : List Int) : List Int := ns.mergeSort fun i j => decide (i ≤ j)
theorem sortI_perm (ns : List Int) : (sortI ns).Perm ns := List.mergeSort_perm _ _
theorem sortI_up (ns : List Int) : (sortI ns).Pairwise (· ≤ ·) := (List.pairwise_mergeSort (le := fun i j : Int => decide (i ≤ j)) (fun a b c h1 h2 => by simp at *; omega) (fun a b => by simp; omega) ns).imp fun h => of_decide_eq_true h
theorem sortI_is {ns ms : List Int} (h1 : ms.Perm ns) (h2 : ms.Pairwise (· ≤ ·)) : ms = sortI ns :=
  List.Perm.eq_of_pairwise (fun a b _ _ h3 h4 => Int.le_antisymm h3 h4) h2 (sortI_up ns) (h1.trans (sortI_perm ns).symm)
def sortedI (mk : GDs) : GDs := onI fun ns M => mk ((sortI ns).map fun i => .p (.int i)) M
theorem cg_sortedI : CG ct X (.builtin "sorted") (sortedI lstD) := by
  refine ⟨_, cr_sortedI, fun F ρ M G H as xs Q E r ra w => ?_⟩
  obtain ⟨a, ns, rfl, hs, hz, w1⟩ := onI_told r ra w
  refine ⟨a, ns, rfl, hs, fun ms q h1 h2 hq => ?_⟩
  rw [sortI_is h1 h2]
  exact (newL r (Reps.ofInts (sortI ns)) w1).2 q hq
def allD : GDs := onB fun bs M => .ok (.p (.bool (bs.all id))) M
def anyD : GDs := onB fun bs M => .ok (.p (.bool (bs.any id))) M
def sumD : GDs := onI fun ns M => .ok (.p (.int ns.sum)) M
theorem cg_all (hc : X.calm = true) : CG ct X (.builtin "all") allD := by
  refine ⟨_, cr_all hc, fun F ρ M G H as xs Q E r ra w => ?_⟩
  obtain ⟨a, ns, rfl, hs, hz, w1⟩ := onB_told r ra w
  exact ⟨a, ns, rfl, hs, w1.val r (.bl _)⟩
theorem cg_any (hc : X.calm = true) : CG ct X (.builtin "any") anyD := by
  refine ⟨_, cr_any hc, fun F ρ M G H as xs Q E r ra w => ?_⟩
  obtain ⟨a, ns, rfl, hs, hz, w1⟩ := onB_told r ra w
  exact ⟨a, ns, rfl, hs, w1.val r (.bl _)⟩
theorem cg_sum (hc : X.calm = true) : CG ct X (.builtin "sum") sumD := by
  refine ⟨_, cr_sum hc, fun F ρ M G H as xs Q E r ra w => ?_⟩
  obtain ⟨a, ns, rfl, hs, hz, w1⟩ := onI_told r ra w
  exact ⟨a, ns, rfl, hs, w1.val r (.int _)⟩
def mxI : Int → List Int → Int := List.foldl fun m x => if x > m then x else m
def mnI : Int → List Int → Int := List.foldl fun m x => if x < m then x else m
theorem mxI_ge : ∀ (ns : List Int) (n : Int), n ≤ mxI n ns ∧ (∀ y ∈ ns, y ≤ mxI n ns) ∧ (mxI n ns = n ∨ mxI n ns ∈ ns)
  | [], n => ⟨Int.le_refl _, ⟨(fun y h => nomatch h), Or.inl rfl⟩⟩
  | x :: r, n => by
    obtain ⟨h1, h2, h3⟩ := mxI_ge r (if x > n then x else n)
    have e : mxI n (x :: r) = mxI (if x > n then x else n) r := rfl
    have h0 : n ≤ (if x > n then x else n) ∧ x ≤ (if x > n then x else n) := by split <;> omega
    rw [e]
    refine ⟨Int.le_trans h0.1 h1, fun y hy => ?_, ?_⟩
    · rcases List.mem_cons.mp hy with q | q
      · subst q; exact Int.le_trans h0.2 h1
      · exact h2 y q
    · rcases h3 with q | q
      · split at q
        · rename_i hx; right; rw [if_pos hx, q]; exact List.mem_cons_self ..
        · rename_i hx; left; rw [if_neg hx]; exact q
      · exact .inr (List.mem_cons_of_mem _ q)
theorem mnI_le : ∀ (ns : List Int) (n : Int), mnI n ns ≤ n ∧ (∀ y ∈ ns, mnI n ns ≤ y) ∧ (mnI n ns = n ∨ mnI n ns ∈ ns)
  | [], n => ⟨Int.le_refl _, ⟨(fun y h => nomatch h), Or.inl rfl⟩⟩
  | x :: r, n => by
    obtain ⟨h1, h2, h3⟩ := mnI_le r (if x < n then x else n)
    have e : mnI n (x :: r) = mnI (if x < n then x else n) r := rfl
    have h0 : (if x < n then x else n) ≤ n ∧ (if x < n then x else n) ≤ x := by split <;> omega
    rw [e]
    refine ⟨Int.le_trans h1 h0.1, fun y hy => ?_, ?_⟩
    · rcases List.mem_cons.mp hy with q | q
      · subst q; exact Int.le_trans h1 h0.2
      · exact h2 y q
    · rcases h3 with q | q
      · split at q
        · rename_i hx; right; rw [if_pos hx, q]; exact List.mem_cons_self ..
        · rename_i hx; left; rw [if_neg hx]; exact q
      · exact .inr (List.mem_cons_of_mem _ q)
def maxL : GDs := onI fun ns M => match ns with
  | [] => .er
  | n :: r => .ok (.p (.int (mxI n r))) M
def minL : GDs := onI fun ns M => match ns with
  | [] => .er
  | n :: r => .ok (.p (.int (mnI n r))) M
theorem cg_maxL (hc : X.calm = true) : CG ct X (.builtin "max") maxL := by
  refine ⟨_, cr_max hc, fun F ρ M G H as xs Q E r ra w => ?_⟩
  obtain ⟨a, ns, rfl, hs, hz, w1⟩ := onI_told r ra w
  cases ns with
  | nil => exact w1.elim
  | cons n ns =>
    refine ⟨a, _, rfl, hs, Nat.succ_pos _, fun m h1 h2 => ?_⟩
    obtain ⟨g1, g2, g3⟩ := mxI_ge ns n
    have e : m = mxI n ns := by
      refine Int.le_antisymm ?_ (h2 _ ?_)
      · rcases List.mem_cons.mp h1 with q | q
        · rw [q]; exact g1
        · exact g2 m q
      · rcases g3 with q | q
        · rw [q]; exact List.mem_cons_self ..
        · exact List.mem_cons_of_mem _ q
    rw [e]
    exact w1.val r (.int _)
theorem cg_minL (hc : X.calm = true) : CG ct X (.builtin "min") minL := by
  refine ⟨_, cr_min hc, fun F ρ M G H as xs Q E r ra w => ?_⟩
  obtain ⟨a, ns, rfl, hs, hz, w1⟩ := onI_told r ra w
  cases ns with
  | nil => exact w1.elim
  | cons n ns =>
    refine ⟨a, _, rfl, hs, Nat.succ_pos _, fun m h1 h2 => ?_⟩
    obtain ⟨g1, g2, g3⟩ := mnI_le ns n
    have e : m = mnI n ns := by
      refine Int.le_antisymm (h2 _ ?_) ?_
      · rcases g3 with q | q
        · rw [q]; exact List.mem_cons_self ..
        · exact List.mem_cons_of_mem _ q
      · rcases List.mem_cons.mp h1 with q | q
        · rw [q]; exact g1
        · exact g2 m q
    rw [e]
    exact w1.val r (.int _)
end
end Tl

/-! The tree layer, part 10: a law's end. -/
namespace Tl
open PySem L2 PySem.Spec PyProof.Rows

section
variable {P : Program} {w : World} {K : PySem.W.Frag} {mg mb : Str → Option Value} {ct : Ct} {k : Nat} {fa a : Addr} {x : Str} {g : GDs} {s1 : Shared} {vs : List Value} {ns : List Int}
/-- the heap told ahead of the law: at most the script, and only if it is no thing of the written part -/
def scH (K : PySem.W.Frag) (a : Addr) (vs : List Value) (ns : List Int) : Hp := fun b => if b = a ∧ K.lookup a = none then some (.frz { cls := .type "list", data := .seq vs.toArray } (.lst (ns.map V.int))) else none
theorem scH_at {b : Addr} {o : HO} (h : scH K a vs ns b = some o) : b = a ∧ K.lookup a = none ∧ o = .frz { cls := .type "list", data := .seq vs.toArray } (.lst (ns.map V.int)) := by
  unfold scH at h
  split at h
  · rename_i q; cases h; exact ⟨q.1, q.2, rfl⟩
  · cases h
theorem scH_sq {h : Heap} (KX : K.In h) (ha : h.get? a = some { cls := .type "list", data := .seq vs.toArray }) (hi : IntsAre vs ns) (hl : ns.length ≤ sizeLine) : SqL K (scH K a vs ns) a (ns.map V.int) := by
  have rv := vals_ints hi
  have hln := hi.length
  cases hk : K.lookup a with
  | none => exact .inl (.inr ⟨{ cls := .type "list", data := .seq vs.toArray }, if_pos ⟨rfl, hk⟩⟩)
  | some o =>
    have e1 := (KX a o hk).symm.trans ha
    cases e1
    refine .inr ⟨_, vs.toArray, _, hk, rfl, rfl, rfl, ?_, ?_⟩
    · rw [List.size_toArray, hln]; exact hl
    · simpa using rv
theorem scH_base (KX : K.In s1.heap) (hb : s1.heap.Ns builtinsNs mb) (hns : s1.heap.Ns mainGlobals mg) (hbb : ∀ y : Str, y ≠ "__name__" → mb y = bootBuiltins y) (hlim : s1.heap.NoLimit) (ha : s1.heap.get? a = some { cls := .type "list", data := .seq vs.toArray }) :
    Mod K mg (hidT s1.heap (scH K a vs ns)) ∧ K.In (hidT s1.heap (scH K a vs ns)) ∧ (hidT s1.heap (scH K a vs ns)).Ns mainGlobals mg := by
  have free : ∀ {b : Addr}, (b = a → ¬ K.lookup a = none) → scH K a vs ns b = none := fun {b} q => by
    cases e : scH K a vs ns b with
    | none => rfl
    | some o => exact absurd (scH_at e).2.1 (q (scH_at e).1)
  have isNs : ∀ {b : Addr} {m : Str → Option Value}, s1.heap.Ns b m → (hidT s1.heap (scH K a vs ns)).Ns b m := fun {b m} ⟨o, es, ep, e, d, r⟩ => by
    refine ⟨o, es, ep, hidT_get e (free fun q => ?_), d, r⟩
    rw [q, ha] at e
    cases e
    exact absurd (show Data.seq vs.toArray _ = Data.dict es ep from d) (fun z => nomatch z)
  have inK : K.In (hidT s1.heap (scH K a vs ns)) := fun b o e => hidT_get (KX b o e) (free fun q z => by
    rw [q, z] at e
    cases e)
  obtain ⟨mc, c1, c2⟩ := hlim
  exact ⟨⟨inK, isNs hns, ⟨mb, isNs hb, hbb⟩, ⟨mc, isNs c1, c2⟩⟩, inK, isNs hns⟩
theorem scH_ok (ha : s1.heap.get? a = some { cls := .type "list", data := .seq vs.toArray }) (hi : IntsAre vs ns) (hl : ns.length ≤ sizeLine) : HOk P w (scH K a vs ns) s1.heap := by
  intro b o e
  obtain ⟨rfl, _, rfl⟩ := scH_at e
  exact ⟨ha, by rw [List.length_map]; exact hl, vs, _, vals_ints hi, ha⟩
/-- the law's call, from its function's answer -/
theorem call_law (KX : K.In s1.heap) (hns : s1.heap.Ns mainGlobals mg) (hb : s1.heap.Ns builtinsNs mb) (hbb : ∀ y : Str, y ≠ "__name__" → mb y = bootBuiltins y) (hlim : s1.heap.NoLimit) (hg : s1.gens = #[])
    (ha : s1.heap.get? a = some { cls := .type "list", data := .seq vs.toArray }) (hi : IntsAre vs ns) (hl : ns.length ≤ 63) (hr : Room k callerA)
    (F : ∀ base : Heap, K.In base → base.Ns mainGlobals mg → ∃ fd, FnG P w K mg base ct k fa fd [x] g ∧ Binds K fd [x] []) (ans : ∃ M', g [.scr ns] [] = .ok (.p (.bool true)) M') :
    codeAny (model P w) callerA (.call (.ref fa) ⟨[.ref a], []⟩) (fun r s' => r = .ok (.ret (.bool true)) ∧ OldK s1.heap s'.heap ∧ s'.os = s1.os ∧ AllBare s'.gens) s1 := by
  have hz : ns.length ≤ sizeLine := Nat.le_trans hl (by decide)
  have hok : HOk P w (scH K a vs ns) s1.heap := scH_ok ha hi hz
  obtain ⟨hM, hKb, hnb⟩ := scH_base (vs := vs) (ns := ns) KX hb hns hbb hlim ha
  have e0 : Env0 P w K mg (hidT s1.heap (scH K a vs ns)) callerA [] s1 (scH K a vs ns) := ⟨rfl, hM, fun b o e => of_hidT e, Nat.le_of_eq (hidT_size _ _), trivial, (fun b q => absurd (show b ∈ ([] : List Addr) from q) (by simp)), hok, .of_eq hg⟩
  have rl : Rel K ct (scH K a vs ns) [] [] (fun _ => none) (scH K a vs ns) := ⟨fun _ _ z => z, (fun _ _ z => nomatch z), fun _ _ _ => rfl, rfl, List.nodup_nil, fun l o z => by simp at z⟩
  obtain ⟨M', ha'⟩ := ans
  obtain ⟨fd, F1, hb1⟩ := F _ hKb hnb
  have hb2 : BindsTo s1 fd ⟨[.ref a], []⟩ ([x].zip [Value.ref a]) := hb1 s1 [.ref a] KX rfl
  refine codeAny_mono (F1.run callerA [] s1 _ ⟨[.ref a], []⟩ [.ref a] [.ref a] [.scr ns] _ [] [] _ (fun v _ => v = .bl true) (fun _ _ _ => False) rfl hr e0 hb2 (.cons rfl .nil) rfl rl (.cons ⟨a, rfl, scH_sq KX ha hi hz, by omega⟩ .nil) ?_) fun r s' h => ?_
  · rw [ha']
    intro F' ρ' H' b _ _ rb
    cases rb
    rfl
  · match r, h with
    | .error e, h =>
      obtain ⟨_, _, _, _, _, _, _, _, _, _, _, _, z⟩ := h
      exact z.elim
    | .ok .next, h => exact False.elim h
    | .ok .brk, h => exact False.elim h
    | .ok .cont, h => exact False.elim h
    | .ok (.ret u), h =>
      obtain ⟨v, H', os, bare, un, hok', r', q⟩ := h
      subst q
      obtain rfl : u = Value.bool true := r'
      refine ⟨rfl, OldK.of_keep fun b o e => ?_, os, bare⟩
      cases q : scH K a vs ns b with
      | none => exact un.keep b o e q (fun z => absurd (show b ∈ ([] : List Addr) from z) (by simp)) (by simp)
      | some t =>
        obtain ⟨_, _, rfl⟩ := scH_at q
        have z1 := (hok b _ q).1
        have z2 := (hok' b _ (un.frzs b _ _ q)).1
        rw [e] at z1
        cases z1
        exact z2
end
/-- a law's goal behind its head -/
theorem law_end {l : PySem.W.OpenLaw} {k : Nat} {q : Program} {loose : List Str} {XP : (Str → Option Value) → Heap → Prop} {YP : World → Heap → Prop} {d : DefRec} {x : Str}
    (hn : l.most = some 63) (hdf : d.params.defaults = []) (hr : Room k callerA)
    (F : ∀ (w : World) (mg : Str → Option Value) (fa : Addr) (h : Heap), YP w h → h.Ns mainGlobals mg → mg d.name = some (.ref fa) →
      ∃ (K : PySem.W.Frag) (ct : Ct) (g : GDs), K.In h ∧ (∀ ns : List Int, ns.length ≤ 63 → ∃ M', g [.scr ns] [] = .ok (.p (.bool true)) M') ∧
        ∀ base : Heap, K.In base → base.Ns mainGlobals mg → ∃ fd, FnG l.prog w K mg base ct k fa fd [x] g ∧ Binds K fd [x] []) : PySem.W.WalkO q loose XP YP l.row.toRowW d [] (fun f vs => PySem.call f vs) := by
  refine Att.attach_call hn hdf fun w s0 s1 mg mb fa o pm cd doc a vs ns G Y ho hd hcd hmg hobj hints hlen hg => ?_
  obtain ⟨K, ct, g, KX, hans, hF⟩ := F w mg fa _ Y G.T.g hmg
  exact call_law KX G.T.g G.T.b G.T.builtins G.T.nolimit hg hobj hints hlen hr hF (hans ns hlen)
/-! ### the head's facts, and facts of one's own -/
abbrev AlX : Type := He.AlD × Bool
def hookX (n : Nat) (fa : List He.Fa) (fn : List He.DefD) (xt : PySem.W.Frag → Bool) : PySem.W.Hook where
  α := AlX
  obs := fun s => (He.obsDG n fa fn s.heap.get?, xt (He.frG s.heap.get? (He.asD s.heap.get? n)))
  val := fun _ => (He.valD fn, true)
  says := fun _ h => ∃ K : PySem.W.Frag, K.In h ∧ He.SaysD fa fn K ∧ xt K = true
  of := fun _ s e => ⟨_, He.frG_in, congrArg (fun z : AlX => z.1) e, congrArg (fun z : AlX => z.2) e⟩
  keeps := fun _ _ _ ⟨K, hK, c⟩ k => ⟨K, PySem.W.Frag.In.keeps hK k, c⟩
def obX (n : Nat) (fa : List He.Fa) (fn : List He.DefD) (xt : PySem.W.Frag → Bool) (s : PySem.W.SharedT) : AlX :=
  (He.obsDG n fa fn (HandSHeadRun.getT s), xt (He.frG (HandSHeadRun.getT s) (He.asD (HandSHeadRun.getT s) n)))
theorem obX_eq (n : Nat) (fa : List He.Fa) (fn : List He.DefD) (xt : PySem.W.Frag → Bool) (s : PySem.W.SharedT) : obX n fa fn xt s = (hookX n fa fn xt).obs s.abs := by
  have e : HandSHeadRun.getT s = s.abs.heap.get? := funext (HandSHeadRun.getT_eq s)
  unfold obX
  rw [e]
  rfl
end Tl

/-! The tree layer, part 11: defs by names. -/
namespace Tl
open PySem L2 PySem.Spec PyProof.Rows
/-- own classes by their names -/
def ctK (K : PySem.W.Frag) : Ct := fun x => some (He.ga K x)
/-- a def, told with what lacks in a call; full: all its parameters may be written -/
structure Dk (P : Program) (w : World) (K : PySem.W.Frag) (mg : Str → Option Value) (base : Heap) (k : Nat) (f : Addr) (ps : List Str) (g : GDs) (dvs : List V) (full : Bool) : Prop where
  ex : ∃ fd ds, FnG P w K mg base (ctK K) k f fd ps g ∧ Binds K fd ps ds ∧ Vals dvs ds ∧ PySem.W.keepIn K (.ref f) = true ∧ (full = true → Binds K fd ps [])
theorem fullBinds {K : PySem.W.Frag} {x qual : Str} {params : Arguments} {body : List Stmt} {scope : Scope} {dvs : List V} {kws : List (Str × V)} {f : Addr} {fd : FuncData} {ps : List Str} (F : FunD K x qual params body scope dvs kws f fd) (n : Nat) (hd : dvs ≠ []) (hn : n = ps.length)
    (h : ∀ (T : Addr) (kV doc pm : Value) (an : Option Addr) (cdv ct : Value) (us its : List Value), us.length = n → its.length = dvs.length →
      ∃ k, bindArgs (PySem.W.fnOf x qual params body scope (.ref T) kV doc pm an cdv ct) ⟨us, []⟩ = seqItems? (.ref T) >>= k ∧ k (some its.toArray) = pure (ps.zip us)) : Binds K fd ps [] := by
  obtain ⟨ds, h1, h2⟩ := F.binds1 (ps := ps) n dvs.length hd (by omega) (fun T kV doc pm an cdv ct us its l1 l2 => by
    obtain ⟨k, e1, e2⟩ := h T kV doc pm an cdv ct us its l1 l2
    exact ⟨k, e1, by rw [← l2, List.drop_length, List.append_nil]; exact e2⟩)
  rw [List.drop_length] at h1
  cases h1
  exact h2
theorem room65 {k : Nat} {A : Around} (h : Room k A) : A.units + 65 < cLine := by have := h.un; omega
section
variable {ct : Ct} {X : Cx} {W : WX} {e tg l : Expr} {f : ME}
theorem piOr {w1 w2 : TI} (h1 : PI X tg l w1) (h2 : PI X tg l w2) : PI X tg l (fun σ H R => w1 σ H R ∨ w2 σ H R) :=
  ⟨fun pins s σ H R I h => h.elim (h1.run pins s σ H R I) (h2.run pins s σ H R I)⟩
/-- a list or a tuple -/
def isTu : R D → Bool
  | .ok (.p (.tuple _)) _ => true
  | _ => false
def wAny (f : ME) : MW := fun σ M => if isTu (f σ M) = true then wTup f σ M else wSeq f σ M
theorem si_any (hl : SE ct X W l f) : SI ct X W tg l (wAny f) := by
  obtain ⟨w1, p1, l1⟩ := si_list (tg := tg) hl
  obtain ⟨w2, p2, l2⟩ := si_tup (tg := tg) hl
  refine ⟨_, piOr p2 p1, fun F ρ M G σ s H Q r rs w => ?_⟩
  unfold wAny at w
  split at w
  · exact .inl (l2 F ρ M G σ s H Q r rs w)
  · exact .inr (l1 F ρ M G σ s H Q r rs w)
/-- a, b = x, y -/
def sPar (i j : Nat) (g : MA) : MS := fun σ M => (g σ M).go σ fun xs M1 => match xs with
  | [x, y] => .nx ((σ.set i (some x)).set j (some y)) M1
  | _ => .er
def sPar3 (i j l : Nat) (g : MA) : MS := fun σ M => (g σ M).go σ fun xs M1 => match xs with
  | [x, y, z] => .nx (((σ.set i (some x)).set j (some y)).set l (some z)) M1
  | _ => .er
theorem ss_par {i j : Nat} {x y : Str} {a b : Expr} {g : MA} {px py pt pos : Pos} {kt k2 : Nat} {pt2 : Pos} (hc : X.calm = true) (hN : X.N.Nodup) (ha : SA ct X W [a, b] g) (hi : X.N[i]? = some x := by rfl) (hj : X.N[j]? = some y := by rfl) (hij : i ≠ j := by decide)
    (hx : X.env.scope.names.lookup x = some .local := by rfl) (hy : X.env.scope.names.lookup y = some .local := by rfl)
    (hw : swappedStores [.Tuple [.Name x px, .Name y py] kt pt] (.Tuple [a, b] k2 pt2) X.env = pure (some [x, y]) := by rfl)
    (hs : swapsWithSole [.Tuple [.Name x px, .Name y py] kt pt] (.Tuple [a, b] k2 pt2) pos.line X.env = pure false := by rfl) :
    SS ct X W (.Assign [.Tuple [.Name x px, .Name y py] kt pt] (.Tuple [a, b] k2 pt2) pos) (sPar i j g) := by
  obtain ⟨ta, pa, la⟩ := ha
  refine ⟨_, ps_par hc hN hi hj hij hx hy pa hw hs, fun F ρ M G σ s H D r rs w => ?_⟩
  refine la F ρ M G σ s H _ r rs (w.thn rs fun xs M1 F1 ρ1 H1 vs u1 r1 d1 w1 => ?_)
  split at w1
  · cases d1 with
    | cons h1 t => cases t with
      | cons h2 t =>
        cases t
        exact ⟨_, _, rfl, w1.nxt r1 (((rs.up u1).set h1 i).set h2 j)⟩
  · exact w1.elim
theorem ss_par3 {i j l : Nat} {x y z : Str} {a b c : Expr} {g : MA} {px py pz pt pos : Pos} {kt k2 : Nat} {pt2 : Pos} (hc : X.calm = true) (hN : X.N.Nodup) (ha : SA ct X W [a, b, c] g) (hi : X.N[i]? = some x := by rfl) (hj : X.N[j]? = some y := by rfl) (hl : X.N[l]? = some z := by rfl) (hij : i ≠ j := by decide) (hil : i ≠ l := by decide) (hjl : j ≠ l := by decide)
    (hx : X.env.scope.names.lookup x = some .local := by rfl) (hy : X.env.scope.names.lookup y = some .local := by rfl) (hz : X.env.scope.names.lookup z = some .local := by rfl)
    (hw : swappedStores [.Tuple [.Name x px, .Name y py, .Name z pz] kt pt] (.Tuple [a, b, c] k2 pt2) X.env = pure (some [x, y, z]) := by rfl)
    (hs : swapsWithSole [.Tuple [.Name x px, .Name y py, .Name z pz] kt pt] (.Tuple [a, b, c] k2 pt2) pos.line X.env = pure false := by rfl) :
    SS ct X W (.Assign [.Tuple [.Name x px, .Name y py, .Name z pz] kt pt] (.Tuple [a, b, c] k2 pt2) pos) (sPar3 i j l g) := by
  obtain ⟨ta, pa, la⟩ := ha
  refine ⟨_, ps_par3 hc hN hi hj hl hij hil hjl hx hy hz pa hw hs, fun F ρ M G σ s H D r rs w => ?_⟩
  refine la F ρ M G σ s H _ r rs (w.thn rs fun xs M1 F1 ρ1 H1 vs u1 r1 d1 w1 => ?_)
  split at w1
  · cases d1 with
    | cons h1 t => cases t with
      | cons h2 t => cases t with
        | cons h3 t =>
          cases t
          exact ⟨_, _, _, rfl, w1.nxt r1 ((((rs.up u1).set h1 i).set h2 j).set h3 l)⟩
  · exact w1.elim
end
/-- a comprehension's names, by a look -/
def blkC (N : List Str) (sc scope : Scope) (own : List (Str × Nat)) : Bool :=
  decide (scope.kind = .function) && (scope.names.all fun y => decide (scope.names.lookup y.1 = some y.2)) && (own.all fun q => decide (N[q.2]? = some q.1)) &&
    (scope.names.all fun y => !decide (y.2 = .free) || (decide (sc.names.lookup y.1 = some .cell) || decide (sc.names.lookup y.1 = some .free))) &&
    (scope.names.all fun y => !(decide (y.2 = .local) || decide (y.2 = .cell)) || (decide (y.1 ∈ own.map (·.1)) || !decide (y.1 ∈ N)))
theorem blk_by {N : List Str} {sc scope : Scope} {own : List (Str × Nat)} (h : blkC N sc scope own = true) : BlkOk N sc scope own := by
  unfold blkC at h
  simp only [Bool.and_eq_true, Bool.or_eq_true, Bool.not_eq_true', decide_eq_true_eq, decide_eq_false_iff_not, List.all_eq_true] at h
  obtain ⟨⟨⟨⟨h1, h2⟩, h3⟩, h4⟩, h5⟩ := h
  refine ⟨h1, h2, h3, fun y hy e => ?_, fun y hy e => ?_⟩
  · rcases h4 y hy with q | q
    · exact absurd e q
    · exact q
  · rcases h5 y hy with q | q
    · rcases Bool.or_eq_false_iff.mp q with ⟨q1, q2⟩
      rcases e with e | e
      · exact absurd e (of_decide_eq_false q1)
      · exact absurd e (of_decide_eq_false q2)
    · exact q
/-- no tuple item stands at a -/
def tup0 (K : PySem.W.Frag) (a : Addr) : Bool := match K.lookup a with
  | some ⟨.type c, _, .seq its _, _⟩ => decide (c = "tuple") && its.isEmpty
  | _ => false
theorem tup0_ok {K : PySem.W.Frag} {a : Addr} (h : tup0 K a = true) (F : Hp) (ρ : List Addr) : RepD K F ρ (.p (.tuple [])) (.ref a) := by
  unfold tup0 at h
  split at h
  · rename_i c od its n sl e
    obtain ⟨h1, h2⟩ := Bool.and_eq_true_iff.mp h
    have h3 : its = #[] := by simpa using h2
    subst h3
    have h4 := of_decide_eq_true h1
    subst h4
    exact Rp.tup (vs := []) (.inr ⟨_, #[], _, e, rfl, rfl, Nat.zero_le _, .nil⟩) (Nat.zero_le _) .nil
  · cases h
end Tl

/-! Plain lemmas about the mirrors: combinators applied; loops by invariants; the pen. -/
namespace Tl
open PySem L2

section ap
variable (σ : Sg) (M : Mem) (f fa fb fc fo fi : ME) (fs : MA) (g : GDs) (gt : GT) (ga gb : MT) (h1 h2 : MS) (i j l n : Nat) (d : D) (ds : List D) (C m : Str)
@[simp] theorem mVar_ap : mVar i σ M = (match σ[i]? with | some (some d) => .ok d M | _ => .er) := rfl
@[simp] theorem mC_ap : mC d σ M = .ok d M := rfl
@[simp] theorem bin_ap (g : GD2) : bin g fa fb σ M = (fa σ M).bind fun x M1 => (fb σ M1).bind fun y M2 => g x y M2 := rfl
@[simp] theorem aNil_ap : aNil σ M = .ok [] M := rfl
@[simp] theorem aCons_ap : aCons f fs σ M = (f σ M).bind fun x M1 => (fs σ M1).bind fun xs M2 => .ok (x :: xs) M2 := rfl
@[simp] theorem app_ap : app g fs σ M = (fs σ M).bind g := rfl
@[simp] theorem callG_ap : callG n g ds fs σ M = (fs σ M).bind fun as M1 => if (as ++ ds).length = n then g (as ++ ds) M1 else .er := rfl
@[simp] theorem asB_ap : asB f σ M = (f σ M).bind fun d M1 => match d with | .p (.bool b) => .ok b M1 | _ => .er := rfl
@[simp] theorem tAnd_ap : tAndD ga gb σ M = (ga σ M).bind fun c M1 => if c = true then gb σ M1 else .ok false M1 := rfl
@[simp] theorem tOr_ap : tOrD ga gb σ M = (ga σ M).bind fun c M1 => if c = true then .ok true M1 else gb σ M1 := rfl
@[simp] theorem tNot_ap : tNotD ga σ M = (ga σ M).bind fun c M1 => .ok (!c) M1 := rfl
@[simp] theorem and_ap : andD fa fb σ M = (fa σ M).bind fun x M1 => match x with | .p (.bool c) => if c = true then fb σ M1 else .ok (.p (.bool false)) M1 | _ => .er := rfl
@[simp] theorem or_ap : orD fa fb σ M = (fa σ M).bind fun x M1 => match x with | .p (.bool c) => if c = true then .ok (.p (.bool true)) M1 else fb σ M1 | _ => .er := rfl
@[simp] theorem not_ap : notD fa σ M = (fa σ M).bind fun x M1 => match x with | .p (.bool c) => .ok (.p (.bool (!c))) M1 | _ => .er := rfl
@[simp] theorem ifD_ap : ifD ga fa fb σ M = (ga σ M).bind fun c M1 => if c = true then fa σ M1 else fb σ M1 := rfl
@[simp] theorem chain_ap (g g' : GD2) : chain g g' fa fb fc σ M = (fa σ M).bind fun x M1 => (fb σ M1).bind fun y M2 => (g x y M2).bind fun z M3 => match z with | .p (.bool k) => if k = true then (fc σ M3).bind fun v M4 => g' y v M4 else .ok (.p (.bool false)) M3 | _ => .er := rfl
@[simp] theorem neg_ap : negD fa σ M = (fa σ M).bind fun x M1 => match x with | .p (.int i) => .ok (.p (.int (-i))) M1 | _ => .er := rfl
@[simp] theorem oNone_ap : oNone σ M = .ok none M := rfl
@[simp] theorem oSome_ap : oSome f σ M = (f σ M).bind fun d M1 => match d with | .p (.int i) => .ok (some i) M1 | _ => .er := rfl
@[simp] theorem slice_ap (g h : MO') : slice f g h σ M = (f σ M).bind fun d M1 => (g σ M1).bind fun lo M2 => (h σ M2).bind fun hi M3 => slD d lo hi M3 := rfl
@[simp] theorem sNil_ap : sNil σ M = .nx σ M := rfl
@[simp] theorem sSeq_ap : sSeq h1 h2 σ M = (h1 σ M).seq h2 := rfl
@[simp] theorem sAsg_ap : sAsg f gt σ M = (f σ M).go σ fun d M1 => (gt (.one d) σ M1).go σ fun σ1 M2 => .nx σ1 M2 := rfl
@[simp] theorem sDrop_ap : sDrop f σ M = (f σ M).go σ fun _ M1 => .nx σ M1 := rfl
@[simp] theorem sRet_ap : sRet f σ M = (f σ M).go σ fun d M1 => .rt d M1 := rfl
@[simp] theorem sRetN_ap : sRetN σ M = .rt (.p .none) M := rfl
@[simp] theorem sIf_ap : sIf ga h1 h2 σ M = (ga σ M).go σ fun b M1 => if b = true then h1 σ M1 else h2 σ M1 := rfl
@[simp] theorem sBrk_ap : sBrk σ M = .bk σ M := rfl
@[simp] theorem sCnt_ap : sCnt σ M = .ct σ M := rfl
@[simp] theorem sRaise_ap : sRaise C σ M = .ex C none σ M := rfl
@[simp] theorem gNm_one : gNm i (.one d) σ M = .ok (σ.set i (some d)) M := rfl
@[simp] theorem gsNil_ap : gsNil [] σ M = .ok σ M := rfl
@[simp] theorem gsCons_ap (gs : GTs) : gsCons gt gs (d :: ds) σ M = (gt (.one d) σ M).noEx.bind fun σ1 M1 => gs ds σ1 M1 := rfl
@[simp] theorem gTp_row (gs : GTs) : gTp n gs (.row ds) σ M = if ds.length = n then (gs ds σ M).noEx else .er := rfl
@[simp] theorem gTp_tup (gs : GTs) (xs : List PyData) : gTp n gs (.one (.p (.tuple xs))) σ M = if xs.length = n then (gs (xs.map .p) σ M).noEx else .er := by simp [gTp, seqOf]
@[simp] theorem sFor_ap (wi : MW) : sFor wi gt h1 σ M = (wi σ M).go σ fun S M1 => forL S.2 gt h1 S.1 σ M1 := rfl
@[simp] theorem mLc_ap (wi : MW) (vs : List Nat) (mk : GDs) : mLc wi gt ga f vs mk σ M = (wi σ M).bind fun S M1 => if S.1.length ≤ sizeLine then (lcL S.2 gt ga f (wipeG σ vs) S.1 [] M1).bind mk else .er := rfl
@[simp] theorem bYes_ap : bYes σ M = .ok true M := rfl
@[simp] theorem sSub_ap : sSub f fo fi σ M = (f σ M).go σ fun d M1 => (fo σ M1).go σ fun o M2 => (fi σ M2).go σ fun i M3 => match o, i with
  | .at l, .p (.int k) => match M3[l]? with
    | some (.lst xs) => match ixN xs.length k with
      | some j => .nx σ (M3.set l (.lst (xs.set j d)))
      | none => .er
    | _ => .er
  | _, _ => .er := rfl
@[simp] theorem sPar_ap : sPar i j fs σ M = (fs σ M).go σ fun xs M1 => match xs with | [x, y] => .nx ((σ.set i (some x)).set j (some y)) M1 | _ => .er := rfl
@[simp] theorem sPar3_ap : sPar3 i j l fs σ M = (fs σ M).go σ fun xs M1 => match xs with | [x, y, z] => .nx (((σ.set i (some x)).set j (some y)).set l (some z)) M1 | _ => .er := rfl
@[simp] theorem meth_ap (g : GMt) : meth g fo fs σ M = (fo σ M).bind fun o M1 => if isLst M1 o = true then (fs σ M1).bind fun as M2 => g o as M2 else .er := rfl
@[simp] theorem mFrz_ap : mFrz f σ M = (f σ M).bind fun d M1 => match d with
  | .at l => match M1[l]? with
    | some (.lst xs) => match unP xs with
      | some ds => .ok (.p (.list ds)) (M1.set l .gone)
      | none => .er
    | _ => .er
  | d => .ok d M1 := rfl
@[simp] theorem wSeq_ap : wSeq f σ M = R.bind (β := Src) (f σ M) fun d M1 => match d with
  | .at l => match M1[l]? with
    | some (.lst xs) => .ok (xs.map .one, fun M => M[l]? = some (.lst xs)) M1
    | _ => .er
  | .p (.list ds) => .ok (ds.map fun d => .one (.p d), fun _ => True) M1
  | _ => .er := rfl
@[simp] theorem wTup_ap : wTup f σ M = R.bind (β := Src) (f σ M) fun d M1 => match d with
  | .p (.tuple ds) => .ok (ds.map fun d => .one (.p d), fun _ => True) M1
  | _ => .er := rfl
@[simp] theorem wStr_ap : wStr f σ M = R.bind (β := Src) (f σ M) fun d M1 => match d with
  | .p (.str x) => .ok (x.cps.toList.map fun c => .one (.p (.str ⟨#[c]⟩)), fun _ => True) M1
  | _ => .er := rfl
@[simp] theorem wAny_ap : wAny f σ M = if isTu (f σ M) = true then wTup f σ M else wSeq f σ M := rfl
@[simp] theorem wRng1_ap : wRng1 fs σ M = R.bind (β := Src) (fs σ M) fun xs M1 => match xs with
  | [.p (.int n)] => if -(2 ^ 62) ≤ n ∧ n < 2 ^ 62 then .ok (rngI 0 n.toNat, fun _ => True) M1 else .er
  | _ => .er := rfl
@[simp] theorem wRng2_ap : wRng2 fs σ M = R.bind (β := Src) (fs σ M) fun xs M1 => match xs with
  | [.p (.int i), .p (.int n)] => if -(2 ^ 62) ≤ i ∧ i < 2 ^ 62 ∧ -(2 ^ 62) ≤ n ∧ n < 2 ^ 62 then .ok (rngI i (n - i).toNat, fun _ => True) M1 else .er
  | _ => .er := rfl
@[simp] theorem fldE_ap : fldE C m f σ M = (f σ M).bind fun d M1 => match d with
  | .at l => match M1[l]? with
    | some (.ins C' fs) => if C' = C then (match fs.lookup m with
      | some v => .ok v M1
      | none => .er) else .er
    | _ => .er
  | _ => .er := rfl
@[simp] theorem sFldS_ap : sFldS C m f fo σ M = (f σ M).go σ fun d M1 => (fo σ M1).go σ fun o M2 => match o with
  | .at l => match M2[l]? with
    | some (.ins C' fs) => if C' = C ∧ fs.length < 1000 then .nx σ (M2.set l (.ins C (putG m d fs))) else .er
    | _ => .er
  | _ => .er := rfl
@[simp] theorem isiT_ap (ns : List String) : isiT ns f σ M = (f σ M).bind fun d M1 => match tyB M1 d with
  | some t => if (∀ n ∈ ns, ∃ b, kitB t n = some b) then (match kitAll t ns with
    | some b => .ok (.p (.bool b)) M1
    | none => .er) else .er
  | none => .er := rfl
@[simp] theorem joinE_ap : joinE fo f σ M = (fo σ M).bind fun o M1 => match o with | .p (.str a) => (f σ M1).bind fun d M2 => joinD a d M2 | _ => .er := rfl
@[simp] theorem joinedE_ap (g : MJ) : joinedE g σ M = (g Str.empty σ M).bind fun z M1 => .ok (.p (.str z)) M1 := rfl
@[simp] theorem jNil_ap (acc : Str) : jNil acc σ M = .ok acc M := rfl
@[simp] theorem jCons_ap (g : MJ) (acc : Str) : jCons f g acc σ M = (f σ M).bind fun o M1 => match o with | .p (.str y) => if (acc ++ y).length ≤ sizeLine then g (acc ++ y) σ M1 else .er | _ => .er := rfl
@[simp] theorem fmtE_ap : fmtE f σ M = (f σ M).bind fun d M1 => match d with
  | .p (.int i) => if i.natAbs.log2 < 1920 then .ok (.p (.str (toString i))) M1 else .er
  | .p (.str x) => if x.length ≤ sizeLine then .ok (.p (.str x)) M1 else .er
  | _ => .er := rfl
@[simp] theorem makeG_ap : makeG C n g ds fs σ M = (fs σ M).bind fun as M1 => if as.length + 1 + ds.length = n then (g (.at M1.length :: (as ++ ds)) (M1 ++ [.ins C []])).bind fun v M2 => match v with
  | .p .none => .ok (.at M1.length) M2
  | _ => .er else .er := rfl
@[simp] theorem methG_ap : methG C m n g ds fo fs σ M = (fo σ M).bind fun o M1 => match o with
  | .at l => match M1[l]? with
    | some (.ins C' qs) => if C' = C ∧ qs.lookup m = none then (fs σ M1).bind fun as M2 => if (.at l :: (as ++ ds)).length = n then g (.at l :: (as ++ ds)) M2 else .er else .er
    | _ => .er
  | _ => .er := rfl
end ap
@[simp] theorem lstD_map {n : Nat} (ds : List PyData) (M : Mem) (h : ds.length ≤ sizeLine) : lstD (ds.map D.p) M = .ok (.p (.list ds)) M := by simp [lstD, h]
@[simp] theorem tupD_map {n : Nat} (ds : List PyData) (M : Mem) (h : ds.length ≤ sizeLine) : tupD (ds.map D.p) M = .ok (.p (.tuple ds)) M := by simp [tupD, h]

theorem runB_rt {N n : Nat} {fb : MS} {ds : List D} {M : Mem} {v : D} {M' : Mem} (h : fb (startG N ds) M = .rt v M') (hl : ds.length = n := by rfl) : runB N n fb ds M = .ok v M' := by
  unfold runB
  rw [if_pos hl, h]
theorem runB_nx {N n : Nat} {fb : MS} {ds : List D} {M : Mem} {σ : Sg} {M' : Mem} (h : fb (startG N ds) M = .nx σ M') (hl : ds.length = n := by rfl) : runB N n fb ds M = .ok (.p .none) M' := by
  unfold runB
  rw [if_pos hl, h]
theorem runB_ex {N n : Nat} {fb : MS} {ds : List D} {M : Mem} {c : Str} {x : Option D} {σ : Sg} {M' : Mem} (h : fb (startG N ds) M = .ex c x σ M') (hl : ds.length = n := by rfl) : runB N n fb ds M = .ex c x M' := by
  unfold runB
  rw [if_pos hl, h]

/-! ### types told apart -/
@[simp] theorem kit_NoneType_int : kitB "NoneType" "int" = some false := by decide +kernel
@[simp] theorem kit_NoneType_bool : kitB "NoneType" "bool" = some false := by decide +kernel
@[simp] theorem kit_NoneType_str : kitB "NoneType" "str" = some false := by decide +kernel
@[simp] theorem kit_NoneType_tuple : kitB "NoneType" "tuple" = some false := by decide +kernel
@[simp] theorem kit_NoneType_list : kitB "NoneType" "list" = some false := by decide +kernel
@[simp] theorem kit_NoneType_dict : kitB "NoneType" "dict" = some false := by decide +kernel
@[simp] theorem kit_bool_int : kitB "bool" "int" = some true := by decide +kernel
@[simp] theorem kit_bool_bool : kitB "bool" "bool" = some true := by decide +kernel
@[simp] theorem kit_bool_str : kitB "bool" "str" = some false := by decide +kernel
@[simp] theorem kit_bool_tuple : kitB "bool" "tuple" = some false := by decide +kernel
@[simp] theorem kit_bool_list : kitB "bool" "list" = some false := by decide +kernel
@[simp] theorem kit_bool_dict : kitB "bool" "dict" = some false := by decide +kernel
@[simp] theorem kit_int_int : kitB "int" "int" = some true := by decide +kernel
@[simp] theorem kit_int_bool : kitB "int" "bool" = some false := by decide +kernel
@[simp] theorem kit_int_str : kitB "int" "str" = some false := by decide +kernel
@[simp] theorem kit_int_tuple : kitB "int" "tuple" = some false := by decide +kernel
@[simp] theorem kit_int_list : kitB "int" "list" = some false := by decide +kernel
@[simp] theorem kit_int_dict : kitB "int" "dict" = some false := by decide +kernel
@[simp] theorem kit_str_int : kitB "str" "int" = some false := by decide +kernel
@[simp] theorem kit_str_bool : kitB "str" "bool" = some false := by decide +kernel
@[simp] theorem kit_str_str : kitB "str" "str" = some true := by decide +kernel
@[simp] theorem kit_str_tuple : kitB "str" "tuple" = some false := by decide +kernel
@[simp] theorem kit_str_list : kitB "str" "list" = some false := by decide +kernel
@[simp] theorem kit_str_dict : kitB "str" "dict" = some false := by decide +kernel
@[simp] theorem kit_list_int : kitB "list" "int" = some false := by decide +kernel
@[simp] theorem kit_list_bool : kitB "list" "bool" = some false := by decide +kernel
@[simp] theorem kit_list_str : kitB "list" "str" = some false := by decide +kernel
@[simp] theorem kit_list_tuple : kitB "list" "tuple" = some false := by decide +kernel
@[simp] theorem kit_list_list : kitB "list" "list" = some true := by decide +kernel
@[simp] theorem kit_list_dict : kitB "list" "dict" = some false := by decide +kernel
@[simp] theorem kit_tuple_int : kitB "tuple" "int" = some false := by decide +kernel
@[simp] theorem kit_tuple_bool : kitB "tuple" "bool" = some false := by decide +kernel
@[simp] theorem kit_tuple_str : kitB "tuple" "str" = some false := by decide +kernel
@[simp] theorem kit_tuple_tuple : kitB "tuple" "tuple" = some true := by decide +kernel
@[simp] theorem kit_tuple_list : kitB "tuple" "list" = some false := by decide +kernel
@[simp] theorem kit_tuple_dict : kitB "tuple" "dict" = some false := by decide +kernel
@[simp] theorem kit_dict_int : kitB "dict" "int" = some false := by decide +kernel
@[simp] theorem kit_dict_bool : kitB "dict" "bool" = some false := by decide +kernel
@[simp] theorem kit_dict_str : kitB "dict" "str" = some false := by decide +kernel
@[simp] theorem kit_dict_tuple : kitB "dict" "tuple" = some false := by decide +kernel
@[simp] theorem kit_dict_list : kitB "dict" "list" = some false := by decide +kernel
@[simp] theorem kit_dict_dict : kitB "dict" "dict" = some true := by decide +kernel
theorem isi_i {d : D} {M : Mem} {t n : String} {b : Bool} (h : tyB M d = some t) (k : kitB t n = some b) : isiD [d, .raw (.ty n)] M = .ok (.p (.bool b)) M := by simp [isiD, h, k]
theorem eqv_i (i j : Int) : PyData.eqv (.int i) (.int j) = decide (i = j) := by simp only [PyData.eqv]; rfl
theorem eqv_s (x y : Str) : PyData.eqv (.str x) (.str y) = decide (x = y) := by
  simp only [PyData.eqv]
  by_cases h : x = y
  · rw [h]; simp
  · rw [decide_eq_false h]; exact beq_false_of_ne h
theorem shaped_i (i : Int) : SeqAt.shaped (.int i) = true := by simp [SeqAt.shaped, PyData.canLay0, PyData.depth]
theorem eq_i {i j : Int} {M : Mem} : eqD (.p (.int i)) (.p (.int j)) M = .ok (.p (.bool (decide (i = j)))) M := by simp [eqD, dataOf, shaped_i, eqv_i]
theorem ne_i {i j : Int} {M : Mem} : neD (.p (.int i)) (.p (.int j)) M = .ok (.p (.bool (!decide (i = j)))) M := by simp [neD, dataOf, shaped_i, eqv_i]
theorem eq_s {i j : Str} {M : Mem} : eqD (.p (.str i)) (.p (.str j)) M = .ok (.p (.bool (decide (i = j)))) M := rfl
theorem ne_s {i j : Str} {M : Mem} : neD (.p (.str i)) (.p (.str j)) M = .ok (.p (.bool (!decide (i = j)))) M := rfl

/-! ### loops -/
/-- a for by an invariant: every turn ends well -/
theorem forL_inv {ck : Mem → Prop} {g : GT} {body : MS} (I : Nat → Sg → Mem → Prop) : ∀ (its : List Item) (n : Nat) (σ : Sg) (M : Mem), I n σ M → (∀ i σ M, I i σ M → ck M) →
    (∀ i it σ M, its[i]? = some it → I (n + i) σ M → ∃ σ1 M1 σ2 M2, g it σ M = .ok σ1 M1 ∧ (body σ1 M1 = .nx σ2 M2 ∨ body σ1 M1 = .ct σ2 M2) ∧ I (n + i + 1) σ2 M2) →
    ∃ σ' M', forL ck g body its σ M = .nx σ' M' ∧ I (n + its.length) σ' M'
  | [], n, σ, M, h, hc, _ => ⟨σ, M, by simp [forL, hc _ _ _ h], h⟩
  | it :: r, n, σ, M, h, hc, st => by
    obtain ⟨σ1, M1, σ2, M2, e1, e2, h2⟩ := st 0 it σ M rfl h
    obtain ⟨σ', M', e3, h3⟩ := forL_inv (g := g) (body := body) (ck := ck) I r (n + 1) σ2 M2 h2 hc (fun i it σ M hi hI => by
      have := st (i + 1) it σ M (by simpa using hi) (by rw [show n + (i + 1) = n + 1 + i by omega]; exact hI)
      rw [show n + (i + 1) + 1 = n + 1 + i + 1 by omega] at this
      exact this)
    refine ⟨σ', M', ?_, by rw [List.length_cons, show n + (r.length + 1) = n + 1 + r.length by omega]; exact h3⟩
    simp only [forL, hc _ _ _ h, if_true, e1, R.go_ok]
    rcases e2 with e2 | e2 <;> simp only [e2] <;> exact e3
theorem forL_inv0 {ck : Mem → Prop} {g : GT} {body : MS} (I : Nat → Sg → Mem → Prop) (its : List Item) (σ : Sg) (M : Mem) (h : I 0 σ M) (hc : ∀ i σ M, I i σ M → ck M)
    (st : ∀ i it σ M, its[i]? = some it → I i σ M → ∃ σ1 M1 σ2 M2, g it σ M = .ok σ1 M1 ∧ (body σ1 M1 = .nx σ2 M2 ∨ body σ1 M1 = .ct σ2 M2) ∧ I (i + 1) σ2 M2) : ∃ σ' M', forL ck g body its σ M = .nx σ' M' ∧ I its.length σ' M' := by
  obtain ⟨σ', M', h1, h2⟩ := forL_inv (ck := ck) (g := g) (body := body) I its 0 σ M h hc (fun i it σ M hi hI => by
    rw [Nat.zero_add] at hI ⊢
    exact st i it σ M hi hI)
  exact ⟨σ', M', h1, by rw [Nat.zero_add] at h2; exact h2⟩
theorem rng_get {lo : Int} {n i : Nat} {it : Item} (h : (rngI lo n)[i]? = some it) : i < n ∧ it = .one (.p (.int (lo + (i : Nat)))) := by
  have hi : i < n := by
    have := (List.getElem?_eq_some_iff.mp h).1
    simpa [rngI] using this
  refine ⟨hi, ?_⟩
  simp only [rngI, List.getElem?_map, List.getElem?_range hi] at h
  simpa using h.symm
theorem rng_len (lo : Int) (n : Nat) : (rngI lo n).length = n := by simp [rngI]
theorem wRng1_nat {fs : MA} {σ : Sg} {M M1 : Mem} {s : Nat} (h : fs σ M = .ok [.p (.int s)] M1) (hs : s ≤ 1000000) : wRng1 fs σ M = .ok (rngI 0 s, fun _ => True) M1 := by
  have h1 : -(2 ^ 62) ≤ (s : Int) := Int.le_trans (by decide : -(2 ^ 62) ≤ (0 : Int)) (Int.natCast_nonneg s)
  have h2 : (s : Int) < 2 ^ 62 := Int.lt_of_le_of_lt (by omega : (s : Int) ≤ 1000000) (by decide)
  rw [wRng1_ap, h, R.bind_ok]
  show (if -(2 ^ 62) ≤ (s : Int) ∧ (s : Int) < 2 ^ 62 then _ else _) = _
  rw [if_pos ⟨h1, h2⟩]
  rfl
/-- a list comprehension by an invariant -/
theorem lcL_inv {ck : Mem → Prop} {g : GT} {tt : MT} {te : ME} {σ : Sg} (I : Nat → List D → Mem → Prop) : ∀ (its : List Item) (n : Nat) (acc : List D) (M : Mem), I n acc M → (∀ i acc M, I i acc M → ck M) →
    (∀ i it acc M, its[i]? = some it → I (n + i) acc M → ∃ σ1 M1 b M2, g it σ M = .ok σ1 M1 ∧ tt σ1 M1 = .ok b M2 ∧ ((b = true ∧ ∃ d M3, te σ1 M2 = .ok d M3 ∧ I (n + i + 1) (acc ++ [d]) M3) ∨ (b = false ∧ I (n + i + 1) acc M2))) →
    ∃ xs M', lcL ck g tt te σ its acc M = .ok xs M' ∧ I (n + its.length) xs M'
  | [], n, acc, M, h, hc, _ => ⟨acc, M, by simp [lcL, hc _ _ _ h], h⟩
  | it :: r, n, acc, M, h, hc, st => by
    obtain ⟨σ1, M1, b, M2, e1, e2, h2⟩ := st 0 it acc M rfl h
    have st' : ∀ i it acc M, r[i]? = some it → I (n + 1 + i) acc M → ∃ σ1 M1 b M2, g it σ M = .ok σ1 M1 ∧ tt σ1 M1 = .ok b M2 ∧ ((b = true ∧ ∃ d M3, te σ1 M2 = .ok d M3 ∧ I (n + 1 + i + 1) (acc ++ [d]) M3) ∨ (b = false ∧ I (n + 1 + i + 1) acc M2)) := fun i it acc M hi hI => by
      have := st (i + 1) it acc M (by simpa using hi) (by rw [show n + (i + 1) = n + 1 + i by omega]; exact hI)
      rw [show n + (i + 1) + 1 = n + 1 + i + 1 by omega] at this
      exact this
    rcases h2 with ⟨rfl, d, M3, e3, h3⟩ | ⟨rfl, h3⟩
    · obtain ⟨xs, M', e4, h4⟩ := lcL_inv (ck := ck) (g := g) (tt := tt) (te := te) (σ := σ) I r (n + 1) (acc ++ [d]) M3 h3 hc st'
      refine ⟨xs, M', ?_, by rw [List.length_cons, show n + (r.length + 1) = n + 1 + r.length by omega]; exact h4⟩
      simp only [lcL, hc _ _ _ h, if_true, e1, e2, e3, R.noEx_ok, R.bind_ok]
      exact e4
    · obtain ⟨xs, M', e4, h4⟩ := lcL_inv (ck := ck) (g := g) (tt := tt) (te := te) (σ := σ) I r (n + 1) acc M2 h3 hc st'
      refine ⟨xs, M', ?_, by rw [List.length_cons, show n + (r.length + 1) = n + 1 + r.length by omega]; exact h4⟩
      simp only [lcL, hc _ _ _ h, if_true, e1, e2, R.noEx_ok, R.bind_ok]
      exact e4
theorem lcL_inv0 {ck : Mem → Prop} {g : GT} {tt : MT} {te : ME} {σ : Sg} (I : Nat → List D → Mem → Prop) (its : List Item) (M : Mem) (h : I 0 [] M) (hc : ∀ i acc M, I i acc M → ck M)
    (st : ∀ i it acc M, its[i]? = some it → I i acc M → ∃ σ1 M1 b M2, g it σ M = .ok σ1 M1 ∧ tt σ1 M1 = .ok b M2 ∧ ((b = true ∧ ∃ d M3, te σ1 M2 = .ok d M3 ∧ I (i + 1) (acc ++ [d]) M3) ∨ (b = false ∧ I (i + 1) acc M2))) :
    ∃ xs M', lcL ck g tt te σ its [] M = .ok xs M' ∧ I its.length xs M' := by
  obtain ⟨σ', M', h1, h2⟩ := lcL_inv (ck := ck) (g := g) (tt := tt) (te := te) (σ := σ) I its 0 [] M h hc (fun i it acc M hi hI => by
    rw [Nat.zero_add] at hI ⊢
    exact st i it acc M hi hI)
  exact ⟨σ', M', h1, by rw [Nat.zero_add] at h2; exact h2⟩
/-- a comprehension that changes nothing -/
theorem lcL_map {ck : Mem → Prop} {g : GT} {tt : MT} {te : ME} {σ : Sg} {M : Mem} (f : Item → D) (hc : ck M) : ∀ (its : List Item) (acc : List D), (∀ it ∈ its, ∃ σ1, g it σ M = .ok σ1 M ∧ tt σ1 M = .ok true M ∧ te σ1 M = .ok (f it) M) → lcL ck g tt te σ its acc M = .ok (acc ++ its.map f) M
  | [], acc, _ => by simp [lcL, hc]
  | it :: r, acc, h => by
    obtain ⟨σ1, e1, e2, e3⟩ := h it (List.mem_cons_self ..)
    have ih := lcL_map (g := g) (tt := tt) (te := te) (σ := σ) f hc r (acc ++ [f it]) fun it hi => h it (List.mem_cons_of_mem _ hi)
    simp only [lcL, hc, if_true, e1, e2, e3, R.noEx_ok, R.bind_ok, ih, List.map_cons, List.append_assoc, List.singleton_append]
theorem mLc_map {wi : MW} {g : GT} {tt : MT} {te : ME} {vs : List Nat} {σ : Sg} {M : Mem} {its : List Item} {ck : Mem → Prop} (f : Item → PyData) (hw : wi σ M = .ok (its, ck) M) (hc : ck M) (hz : its.length ≤ sizeLine)
    (h : ∀ it ∈ its, ∃ σ1, g it (wipeG σ vs) M = .ok σ1 M ∧ tt σ1 M = .ok true M ∧ te σ1 M = .ok (.p (f it)) M) : mLc wi g tt te vs lstD σ M = .ok (.p (.list (its.map f))) M := by
  have h1 := lcL_map (ck := ck) (g := g) (tt := tt) (te := te) (σ := wipeG σ vs) (fun it => D.p (f it)) hc its [] h
  have h2 := lstD_map (n := 0) (its.map f) M (by rw [List.length_map]; exact hz)
  rw [List.map_map] at h2
  rw [mLc_ap, hw, R.bind_ok, if_pos hz, h1, R.bind_ok, List.nil_append]
  exact h2
theorem all_map {wi : MW} {te : ME} {vs : List Nat} {i : Nat} {σ : Sg} {M : Mem} {ck : Mem → Prop} (ds : List PyData) (f : PyData → Bool) (hw : wi σ M = .ok (ds.map fun d => Item.one (.p d), ck) M) (hc : ck M) (hz : ds.length ≤ sizeLine)
    (h : ∀ d ∈ ds, te ((wipeG σ vs).set i (some (.p d))) M = .ok (.p (.bool (f d))) M) : app allD (aCons (mLc wi (gNm i) bYes te vs lstD) aNil) σ M = .ok (.p (.bool (ds.all f))) M := by
  have h1 := mLc_map (g := gNm i) (tt := bYes) (te := te) (vs := vs) (fun it => match it with | .one (.p d) => .bool (f d) | _ => .none) hw hc (by rw [List.length_map]; exact hz) (fun it hit => by
    obtain ⟨d, hd, rfl⟩ := List.mem_map.mp hit
    exact ⟨_, rfl, rfl, h d hd⟩)
  rw [app_ap, aCons_ap, h1]
  have hq : unB ((ds.map f).map fun b => D.p (.bool b)) = some (ds.map f) := unB_map _
  have he : ((ds.map fun d => Item.one (.p d)).map fun it => match it with | .one (.p d) => PyData.bool (f d) | _ => .none).map D.p = (ds.map f).map fun b => D.p (.bool b) := by
    rw [List.map_map, List.map_map, List.map_map]; rfl
  simp only [R.bind_ok, aNil_ap, allD, onB, seqOf, he, hq]
  rw [List.all_map]
  rfl
end Tl

/-! Printed by gen.py from the law's text: mirrors, derivations. -/
namespace K11
open PySem PySem.Spec PyProof.Rows L2 Tl
def top (i : Nat) : Stmt := PySem.Challenge.pw_pastlay_k11_books_written.main.body.getD i (.Pass ⟨0, 0, 0, 0⟩)
abbrev s_is_whole : Stmt := top 10
abbrev s_is_place : Stmt := top 12
abbrev s_is_stretch : Stmt := top 13
abbrev s_is_name : Stmt := top 11
abbrev s_is_colour : Stmt := top 14
abbrev s_is_stroke : Stmt := top 15
abbrev s_Book_init : Stmt := inClass (top 17) 0
abbrev s_Book_str : Stmt := inClass (top 17) 4
abbrev s_Book_put : Stmt := inClass (top 17) 5
abbrev s_Book_take : Stmt := inClass (top 17) 6
abbrev s__law_pen : Stmt := top 19
abbrev s__law_fresh : Stmt := top 20
abbrev s__law_draw : Stmt := top 21
abbrev s__law_lot : Stmt := top 22
abbrev s__law_dyes : Stmt := top 24
abbrev s__law_stretch : Stmt := top 23
abbrev s__law_rows : Stmt := top 25
abbrev s__law_writing : Stmt := top 26
abbrev s_law : Stmt := top 27
noncomputable def b_is_whole : MS := (sRet (andD (app isiD (aCons (mVar 0) (aCons (mC (.raw (.ty "int"))) aNil))) (andD (notD (app isiD (aCons (mVar 0) (aCons (mC (.raw (.ty "bool"))) aNil)))) (bin geD (mVar 0) (mVar 1)))))
noncomputable def m_is_whole : GDs := runB 2 2 b_is_whole
noncomputable def b_is_place : MS := (sRet (andD (callG 2 m_is_whole [.p (.int 0)] (aCons (mVar 0) aNil)) (bin leD (mVar 0) (mC (.p (.int 1000000000))))))
noncomputable def m_is_place : GDs := runB 1 1 b_is_place
noncomputable def b_is_stretch : MS := (sSeq (sIf (tOrD (tNotD (asB (app isiD (aCons (mVar 0) (aCons (mC (.raw (.ty "tuple"))) aNil))))) (asB (bin neD (app lenD (aCons (mVar 0) aNil)) (mC (.p (.int 2)))))) (sRet (mC (.p (.bool false)))) sNil)
  (sRet (andD (callG 1 m_is_place [] (aCons (bin ixD (mVar 0) (mC (.p (.int 0)))) aNil)) (andD (callG 1 m_is_place [] (aCons (bin ixD (mVar 0) (mC (.p (.int 1)))) aNil)) (bin leD (bin ixD (mVar 0) (mC (.p (.int 0)))) (bin ixD (mVar 0) (mC (.p (.int 1)))))))))
noncomputable def m_is_stretch : GDs := runB 1 1 b_is_stretch
noncomputable def b_is_name : MS := (sRet (andD (app isiD (aCons (mVar 0) (aCons (mC (.raw (.ty "str"))) aNil))) (andD (chain leD leD (mC (.p (.int 1))) (app lenD (aCons (mVar 0) aNil)) (mC (.p (.int 8)))) (app allD (aCons (mLc (wStr (mVar 0)) (gNm 1) bYes (bin inD (mVar 1) (mC (.p (.str "abcdefghijklmnopqrstuvwxyz")))) [1] lstD) aNil)))))
noncomputable def m_is_name : GDs := runB 2 1 b_is_name
noncomputable def b_is_colour : MS := (sRet (callG 1 m_is_name [] (aCons (mVar 0) aNil)))
noncomputable def m_is_colour : GDs := runB 1 1 b_is_colour
noncomputable def b_is_stroke : MS := (sRet (andD (app isiD (aCons (mVar 0) (aCons (mC (.raw (.ty "tuple"))) aNil))) (andD (bin eqD (app lenD (aCons (mVar 0) aNil)) (mC (.p (.int 3)))) (andD (callG 1 m_is_stretch [] (aCons (slice (mVar 0) oNone (oSome (mC (.p (.int 2))))) aNil)) (callG 1 m_is_colour [] (aCons (bin ixD (mVar 0) (mC (.p (.int 2)))) aNil))))))
noncomputable def m_is_stroke : GDs := runB 1 1 b_is_stroke
noncomputable def b_Book_init : MS := (sSeq (sIf (tOrD (tNotD (asB (isiT ["tuple", "list"] (mVar 1)))) (tNotD (asB (app allD (aCons (mLc (wAny (mVar 1)) (gNm 2) bYes (callG 1 m_is_stroke [] (aCons (mVar 2) aNil)) [2] lstD) aNil))))) (sRaise "BadStroke") sNil)
  (sFldS "Book" "row" (app (listD lstM) (aCons (mVar 1) aNil)) (mVar 0)))
noncomputable def m_Book_init : GDs := runB 3 2 b_Book_init
noncomputable def b_Book_str : MS := (sRet (joinE (mC (.p (.str " / "))) (mLc (wSeq (fldE "Book" "row" (mVar 0))) (gTp 3 (gsCons (gNm 1) (gsCons (gNm 2) (gsCons (gNm 3) gsNil)))) bYes (joinedE (jCons (fmtE (mVar 1)) (jCons (mC (.p (.str " "))) (jCons (fmtE (mVar 2)) (jCons (mC (.p (.str " "))) (jCons (fmtE (mVar 3)) jNil)))))) [1, 2, 3] lstD)))
noncomputable def m_Book_str : GDs := runB 4 1 b_Book_str
noncomputable def b_Book_put : MS := (sSeq (sIf (tOrD (tNotD (asB (callG 2 m_is_whole [.p (.int 0)] (aCons (mVar 1) aNil)))) (asB (bin gtD (mVar 1) (app lenD (aCons (fldE "Book" "row" (mVar 0)) aNil))))) (sRaise "NoSlot") sNil)
  (sSeq (sIf (tNotD (asB (callG 1 m_is_stroke [] (aCons (mVar 2) aNil)))) (sRaise "BadStroke") sNil)
  (sDrop (meth insertD (fldE "Book" "row" (mVar 0)) (aCons (mVar 1) (aCons (mVar 2) aNil))))))
noncomputable def m_Book_put : GDs := runB 3 3 b_Book_put
noncomputable def b_Book_take : MS := (sSeq (sIf (tOrD (tNotD (asB (callG 2 m_is_whole [.p (.int 0)] (aCons (mVar 1) aNil)))) (asB (bin geD (mVar 1) (app lenD (aCons (fldE "Book" "row" (mVar 0)) aNil))))) (sRaise "NoStroke") sNil)
  (sRet (meth popAtD (fldE "Book" "row" (mVar 0)) (aCons (mVar 1) aNil))))
noncomputable def m_Book_take : GDs := runB 2 2 b_Book_take
noncomputable def b__law_pen : MS := (sRet (app lstM (aCons (app (listD lstD) (aCons (slice (mVar 0) oNone (oSome (mC (.p (.int 60))))) aNil)) (aCons (mC (.p (.int 0))) (aCons (mC (.p (.int 0))) aNil)))))
noncomputable def m__law_pen : GDs := runB 1 1 b__law_pen
noncomputable def b__law_fresh : MS := (sSeq (sAsg (bin ixD (mVar 0) (mC (.p (.int 1)))) (gNm 1))
  (sSeq (sSub (bin addD (mVar 1) (mC (.p (.int 1)))) (mVar 0) (mC (.p (.int 1))))
  (sSeq (sAsg (bin addD (bin mulD (mC (.p (.int 29))) (mVar 1)) (mC (.p (.int 13)))) (gNm 2))
  (sSeq (sIf (asB (bin gtD (app lenD (aCons (bin ixD (mVar 0) (mC (.p (.int 0)))) aNil)) (mC (.p (.int 0))))) (sAsg (bin ixD (bin ixD (mVar 0) (mC (.p (.int 0)))) (bin modD (mVar 1) (app lenD (aCons (bin ixD (mVar 0) (mC (.p (.int 0)))) aNil)))) (gNm 2)) sNil)
  (sSeq (sIf (tAndD (asB (bin ltD (mVar 1) (app lenD (aCons (bin ixD (mVar 0) (mC (.p (.int 0)))) aNil)))) (asB (bin geD (mVar 2) (bin powD (mC (.p (.int 10))) (mC (.p (.int 18))))))) (sRet (mVar 2)) sNil)
  (sSeq (sAsg (bin modD (bin powD (bin addD (bin addD (bin mulD (bin modD (mVar 2) (mC (.p (.int 1000000009)))) (bin addD (mVar 1) (mC (.p (.int 3))))) (bin mulD (mC (.p (.int 99991))) (mVar 1))) (mC (.p (.int 23)))) (mC (.p (.int 3)))) (mC (.p (.int 2147483587)))) (gNm 3))
  (sSeq (sAsg (bin modD (bin powD (bin addD (bin addD (bin mulD (mVar 3) (bin addD (mVar 1) (mC (.p (.int 7))))) (bin modD (mVar 2) (mC (.p (.int 65521))))) (mC (.p (.int 2)))) (mC (.p (.int 5)))) (mC (.p (.int 2147483563)))) (gNm 4))
  (sSeq (sAsg (bin modD (bin addD (bin addD (bin mulD (mVar 4) (mVar 4)) (mVar 3)) (bin mulD (mC (.p (.int 5))) (mVar 1))) (mC (.p (.int 2147483549)))) (gNm 5))
  (sRet (bin addD (bin mulD (bin addD (bin mulD (mVar 5) (mC (.p (.int 2147483587)))) (mVar 4)) (mC (.p (.int 2147483563)))) (mVar 3)))))))))))
noncomputable def m__law_fresh : GDs := runB 6 1 b__law_fresh
noncomputable def b__law_draw : MS := (sSeq (sIf (asB (bin ltD (bin ixD (mVar 0) (mC (.p (.int 2)))) (mVar 1))) (sSub (callG 1 m__law_fresh [] (aCons (mVar 0) aNil)) (mVar 0) (mC (.p (.int 2)))) sNil)
  (sSeq (sAsg (bin modD (bin ixD (mVar 0) (mC (.p (.int 2)))) (mVar 1)) (gNm 2))
  (sSeq (sSub (bin fdivD (bin ixD (mVar 0) (mC (.p (.int 2)))) (mVar 1)) (mVar 0) (mC (.p (.int 2))))
  (sRet (mVar 2)))))
noncomputable def m__law_draw : GDs := runB 3 2 b__law_draw
noncomputable def b__law_lot : MS := (sSeq (sAsg (app lstM aNil) (gNm 2))
  (sSeq (sAsg (callG 2 m__law_draw [] (aCons (mVar 0) (aCons (mC (.p (.int 3))) aNil))) (gNm 3))
  (sSeq (sFor (wRng1 (aCons (mVar 1) aNil)) (gNm 4) (sSeq (sDrop (meth appendD (mVar 2) (aCons (mVar 3) aNil)))
  (sAsg (bin addD (bin addD (mVar 3) (mC (.p (.int 1)))) (bin ixD (app lstD (aCons (mC (.p (.int 0))) (aCons (mC (.p (.int 0))) (aCons (mC (.p (.int 1))) (aCons (mC (.p (.int 2))) (aCons (mC (.p (.int 50))) (aCons (bin powD (mC (.p (.int 10))) (mC (.p (.int 7)))) aNil))))))) (callG 2 m__law_draw [] (aCons (mVar 0) (aCons (mC (.p (.int 6))) aNil))))) (gNm 3))))
  (sSeq (sIf (asB (bin eqD (callG 2 m__law_draw [] (aCons (mVar 0) (aCons (mC (.p (.int 3))) aNil))) (mC (.p (.int 0))))) (sSub (bin powD (mC (.p (.int 10))) (mC (.p (.int 9)))) (mVar 2) (negD (mC (.p (.int 1))))) sNil)
  (sRet (mFrz (mVar 2)))))))
noncomputable def m__law_lot : GDs := scop (runB 5 2 b__law_lot)
noncomputable def b__law_dyes : MS := (sSeq (sAsg (app lstM (aCons (mC (.p (.str "red"))) (aCons (mC (.p (.str "blue"))) (aCons (mC (.p (.str "a"))) (aCons (mC (.p (.str "ochre"))) (aCons (mC (.p (.str "zzzzzzzz"))) (aCons (mC (.p (.str "green"))) aNil))))))) (gNm 2))
  (sRet (mLc (wRng1 (aCons (mVar 1) aNil)) (gNm 3) bYes (meth popAtD (mVar 2) (aCons (callG 2 m__law_draw [] (aCons (mVar 0) (aCons (app lenD (aCons (mVar 2) aNil)) aNil))) aNil)) [3] lstD)))
noncomputable def m__law_dyes : GDs := scop (runB 4 2 b__law_dyes)
noncomputable def b__law_stretch : MS := (sSeq (sAsg (app (sortedI lstD) (aCons (app lstD (aCons (callG 2 m__law_draw [] (aCons (mVar 0) (aCons (app lenD (aCons (mVar 1) aNil)) aNil))) (aCons (callG 2 m__law_draw [] (aCons (mVar 0) (aCons (app lenD (aCons (mVar 1) aNil)) aNil))) aNil))) aNil)) (gNm 2))
  (sRet (app tupD (aCons (bin ixD (mVar 1) (bin ixD (mVar 2) (mC (.p (.int 0))))) (aCons (bin ixD (mVar 1) (bin ixD (mVar 2) (mC (.p (.int 1))))) aNil)))))
noncomputable def m__law_stretch : GDs := runB 3 2 b__law_stretch
noncomputable def b__law_rows : MS := (sRet (app tupleD (aCons (mLc (wRng1 (aCons (mVar 3) aNil)) (gNm 4) bYes (bin addD (callG 2 m__law_stretch [] (aCons (mVar 0) (aCons (mVar 1) aNil))) (app tupD (aCons (bin ixD (mVar 2) (callG 2 m__law_draw [] (aCons (mVar 0) (aCons (app lenD (aCons (mVar 2) aNil)) aNil)))) aNil))) [4] lstD) aNil)))
noncomputable def m__law_rows : GDs := runB 5 4 b__law_rows
noncomputable def b__law_writing : MS := (sRet (joinE (mC (.p (.str " / "))) (mLc (wTup (mVar 0)) (gTp 3 (gsCons (gNm 1) (gsCons (gNm 2) (gsCons (gNm 3) gsNil)))) bYes (bin addD (bin addD (bin addD (bin addD (app strD (aCons (mVar 1) aNil)) (mC (.p (.str " ")))) (app strD (aCons (mVar 2) aNil))) (mC (.p (.str " ")))) (mVar 3)) [1, 2, 3] lstD)))
noncomputable def m__law_writing : GDs := runB 4 1 b__law_writing
noncomputable def b_law : MS := (sSeq (sAsg (callG 1 m__law_pen [] (aCons (mVar 0) aNil)) (gNm 1))
  (sSeq (sFor (wRng1 (aCons (mC (.p (.int 6))) aNil)) (gNm 2) (sSeq (sPar 10 11 (aCons (callG 2 m__law_lot [] (aCons (mVar 1) (aCons (mC (.p (.int 7))) aNil))) (aCons (callG 2 m__law_dyes [] (aCons (mVar 1) (aCons (mC (.p (.int 4))) aNil))) aNil)))
  (sSeq (sAsg (callG 4 m__law_rows [] (aCons (mVar 1) (aCons (mVar 10) (aCons (mVar 11) (aCons (callG 2 m__law_draw [] (aCons (mVar 1) (aCons (mC (.p (.int 9))) aNil))) aNil))))) (gNm 3))
  (sSeq (sAsg (makeG "Book" 2 m_Book_init [] (aCons (mVar 3) aNil)) (gNm 4))
  (sSeq (sIf (asB (bin neD (app (ownD "Book" m_Book_str (fun d => okStr d = true)) (aCons (mVar 4) aNil)) (callG 1 m__law_writing [] (aCons (mVar 3) aNil)))) (sRet (mC (.p (.bool false)))) sNil)
  (sSeq (sAsg (bin ixD (callG 4 m__law_rows [] (aCons (mVar 1) (aCons (mVar 10) (aCons (mVar 11) (aCons (mC (.p (.int 1))) aNil))))) (mC (.p (.int 0)))) (gNm 5))
  (sSeq (sAsg (callG 2 m__law_draw [] (aCons (mVar 1) (aCons (bin addD (app lenD (aCons (mVar 3) aNil)) (mC (.p (.int 1)))) aNil))) (gNm 6))
  (sSeq (sDrop (methG "Book" "put" 3 m_Book_put [] (mVar 4) (aCons (mVar 6) (aCons (mVar 5) aNil))))
  (sSeq (sIf (asB (bin neD (app (ownD "Book" m_Book_str (fun d => okStr d = true)) (aCons (mVar 4) aNil)) (callG 1 m__law_writing [] (aCons (bin addD (bin addD (slice (mVar 3) oNone (oSome (mVar 6))) (app tupD (aCons (mVar 5) aNil))) (slice (mVar 3) (oSome (mVar 6)) oNone)) aNil)))) (sRet (mC (.p (.bool false)))) sNil)
  (sSeq (sAsg (callG 2 m__law_draw [] (aCons (mVar 1) (aCons (bin addD (app lenD (aCons (mVar 3) aNil)) (mC (.p (.int 1)))) aNil))) (gNm 7))
  (sSeq (sAsg (bin addD (bin addD (slice (mVar 3) oNone (oSome (mVar 6))) (app tupD (aCons (mVar 5) aNil))) (slice (mVar 3) (oSome (mVar 6)) oNone)) (gNm 8))
  (sSeq (sDrop (methG "Book" "take" 2 m_Book_take [] (mVar 4) (aCons (mVar 7) aNil)))
  (sSeq (sAsg (bin addD (slice (mVar 8) oNone (oSome (mVar 7))) (slice (mVar 8) (oSome (bin addD (mVar 7) (mC (.p (.int 1))))) oNone)) (gNm 9))
  (sSeq (sIf (asB (bin neD (app (ownD "Book" m_Book_str (fun d => okStr d = true)) (aCons (mVar 4) aNil)) (callG 1 m__law_writing [] (aCons (mVar 9) aNil)))) (sRet (mC (.p (.bool false)))) sNil)
  (sIf (asB (bin neD (mVar 9) (app tupD aNil))) (sSeq (sPar 12 13 (aCons (callG 2 m__law_draw [] (aCons (mVar 1) (aCons (app lenD (aCons (mVar 9) aNil)) aNil))) (aCons (callG 2 m__law_draw [] (aCons (mVar 1) (aCons (app lenD (aCons (mVar 9) aNil)) aNil))) aNil)))
  (sSeq (sDrop (methG "Book" "take" 2 m_Book_take [] (mVar 4) (aCons (mVar 12) aNil)))
  (sSeq (sDrop (methG "Book" "put" 3 m_Book_put [] (mVar 4) (aCons (mVar 13) (aCons (mVar 5) aNil))))
  (sSeq (sAsg (bin addD (slice (mVar 9) oNone (oSome (mVar 12))) (slice (mVar 9) (oSome (bin addD (mVar 12) (mC (.p (.int 1))))) oNone)) (gNm 9))
  (sSeq (sAsg (bin addD (bin addD (slice (mVar 9) oNone (oSome (mVar 13))) (app tupD (aCons (mVar 5) aNil))) (slice (mVar 9) (oSome (mVar 13)) oNone)) (gNm 9))
  (sIf (tOrD (asB (bin neD (app (ownD "Book" m_Book_str (fun d => okStr d = true)) (aCons (mVar 4) aNil)) (callG 1 m__law_writing [] (aCons (mVar 9) aNil)))) (asB (bin neD (app (ownD "Book" m_Book_str (fun d => okStr d = true)) (aCons (makeG "Book" 2 m_Book_init [] (aCons (mVar 9) aNil)) aNil)) (app (ownD "Book" m_Book_str (fun d => okStr d = true)) (aCons (mVar 4) aNil))))) (sRet (mC (.p (.bool false)))) sNil)))))) sNil)))))))))))))))
  (sRet (andD (bin eqD (app (ownD "Book" m_Book_str (fun d => okStr d = true)) (aCons (makeG "Book" 2 m_Book_init [] (aCons (app lstD (aCons (app tupD (aCons (mC (.p (.int 0))) (aCons (mC (.p (.int 9))) (aCons (mC (.p (.str "red"))) aNil)))) (aCons (app tupD (aCons (mC (.p (.int 3))) (aCons (mC (.p (.int 5))) (aCons (mC (.p (.str "blue"))) aNil)))) aNil))) aNil)) aNil)) (mC (.p (.str "0 9 red / 3 5 blue")))) (bin eqD (app (ownD "Book" m_Book_str (fun d => okStr d = true)) (aCons (makeG "Book" 2 m_Book_init [.p (.tuple [])] aNil) aNil)) (mC (.p (.str ""))))))))
noncomputable def m_law : GDs := runB 14 1 b_law
theorem sc_is_whole : FnScope ["thing", "least"] ["thing", "least"] (defScope s_is_whole) := ⟨rfl, rfl, rfl, by decide +kernel, rfl, by decide +kernel, by decide +kernel⟩
theorem sc_is_place : FnScope ["thing"] ["thing"] (defScope s_is_place) := ⟨rfl, rfl, rfl, by decide +kernel, rfl, by decide +kernel, by decide +kernel⟩
theorem sc_is_stretch : FnScope ["thing"] ["thing"] (defScope s_is_stretch) := ⟨rfl, rfl, rfl, by decide +kernel, rfl, by decide +kernel, by decide +kernel⟩
theorem sc_is_name : FnScope ["thing", "sign"] ["thing"] (defScope s_is_name) := ⟨rfl, rfl, rfl, by decide +kernel, rfl, by decide +kernel, by decide +kernel⟩
theorem sc_is_colour : FnScope ["thing"] ["thing"] (defScope s_is_colour) := ⟨rfl, rfl, rfl, by decide +kernel, rfl, by decide +kernel, by decide +kernel⟩
theorem sc_is_stroke : FnScope ["thing"] ["thing"] (defScope s_is_stroke) := ⟨rfl, rfl, rfl, by decide +kernel, rfl, by decide +kernel, by decide +kernel⟩
theorem sc_Book_init : FnScope ["self", "strokes", "one"] ["self", "strokes"] (defScope s_Book_init) := ⟨rfl, rfl, rfl, by decide +kernel, rfl, by decide +kernel, by decide +kernel⟩
theorem sc_Book_str : FnScope ["self", "low", "high", "colour"] ["self"] (defScope s_Book_str) := ⟨rfl, rfl, rfl, by decide +kernel, rfl, by decide +kernel, by decide +kernel⟩
theorem sc_Book_put : FnScope ["self", "slot", "stroke"] ["self", "slot", "stroke"] (defScope s_Book_put) := ⟨rfl, rfl, rfl, by decide +kernel, rfl, by decide +kernel, by decide +kernel⟩
theorem sc_Book_take : FnScope ["self", "number"] ["self", "number"] (defScope s_Book_take) := ⟨rfl, rfl, rfl, by decide +kernel, rfl, by decide +kernel, by decide +kernel⟩
theorem sc__law_pen : FnScope ["script"] ["script"] (defScope s__law_pen) := ⟨rfl, rfl, rfl, by decide +kernel, rfl, by decide +kernel, by decide +kernel⟩
theorem sc__law_fresh : FnScope ["pen", "at", "cell", "one", "two", "three"] ["pen"] (defScope s__law_fresh) := ⟨rfl, rfl, rfl, by decide +kernel, rfl, by decide +kernel, by decide +kernel⟩
theorem sc__law_draw : FnScope ["pen", "often", "digit"] ["pen", "often"] (defScope s__law_draw) := ⟨rfl, rfl, rfl, by decide +kernel, rfl, by decide +kernel, by decide +kernel⟩
theorem sc__law_lot : FnScope ["pen", "size", "found", "at", "turn"] ["pen", "size"] (defScope s__law_lot) := ⟨rfl, rfl, rfl, by decide +kernel, rfl, by decide +kernel, by decide +kernel⟩
theorem sc__law_dyes : FnScope ["pen", "tally", "pool", "turn"] ["pen", "tally"] (defScope s__law_dyes) := ⟨rfl, rfl, rfl, by decide +kernel, rfl, by decide +kernel, by decide +kernel⟩
theorem sc__law_stretch : FnScope ["pen", "lot", "some"] ["pen", "lot"] (defScope s__law_stretch) := ⟨rfl, rfl, rfl, by decide +kernel, rfl, by decide +kernel, by decide +kernel⟩
theorem sc__law_rows : FnScope ["pen", "lot", "dyes", "tally", "turn"] ["pen", "lot", "dyes", "tally"] (defScope s__law_rows) := ⟨rfl, rfl, rfl, by decide +kernel, rfl, by decide +kernel, by decide +kernel⟩
theorem sc__law_writing : FnScope ["rows", "low", "high", "dye"] ["rows"] (defScope s__law_writing) := ⟨rfl, rfl, rfl, by decide +kernel, rfl, by decide +kernel, by decide +kernel⟩
theorem sc_law : FnScope ["script", "pen", "turn", "rows", "book", "more", "slot", "number", "gone", "stays", "lot", "dyes", "spot", "goal"] ["script"] (defScope s_law) := ⟨rfl, rfl, rfl, by decide +kernel, rfl, by decide +kernel, by decide +kernel⟩
abbrev fa : List He.Fa := [.free "isinstance", .free "int", .free "bool", .glo "is_whole", .int "LAST" 1000000000, .free "tuple", .free "len", .glo "is_place", .free "str", .int "MOST_LETTERS" 8, .free "all", .str "ALPHABET" "abcdefghijklmnopqrstuvwxyz", .glo "is_name", .glo "is_stretch", .glo "is_colour", .free "list", .glo "is_stroke", .glo "BadStroke", .exc "BadStroke", .cls "Book", .noat "Book" "row", .glo "NoSlot", .exc "NoSlot", .glo "NoStroke", .exc "NoStroke", .glo "_law_fresh", .glo "_law_draw", .free "range", .free "sorted", .glo "_law_stretch", .glo "_law_pen", .glo "_law_lot", .glo "_law_dyes", .glo "_law_rows", .glo "Book", .mkr "Book", .meth "Book" "__str__", .glo "_law_writing", .meth "Book" "put", .meth "Book" "take", .glo "law"]
abbrev d_is_whole : He.DefD := ⟨("is_whole", none), "is_whole", "is_whole", defArgs s_is_whole, defBody s_is_whole, defScope s_is_whole, [], [("least", .int 0)]⟩
abbrev d_is_place : He.DefD := ⟨("is_place", none), "is_place", "is_place", defArgs s_is_place, defBody s_is_place, defScope s_is_place, [], []⟩
abbrev d_is_stretch : He.DefD := ⟨("is_stretch", none), "is_stretch", "is_stretch", defArgs s_is_stretch, defBody s_is_stretch, defScope s_is_stretch, [], []⟩
abbrev d_is_name : He.DefD := ⟨("is_name", none), "is_name", "is_name", defArgs s_is_name, defBody s_is_name, defScope s_is_name, [], []⟩
abbrev d_is_colour : He.DefD := ⟨("is_colour", none), "is_colour", "is_colour", defArgs s_is_colour, defBody s_is_colour, defScope s_is_colour, [], []⟩
abbrev d_is_stroke : He.DefD := ⟨("is_stroke", none), "is_stroke", "is_stroke", defArgs s_is_stroke, defBody s_is_stroke, defScope s_is_stroke, [], []⟩
abbrev d_Book_init : He.DefD := ⟨("Book", some "__init__"), "__init__", "Book.__init__", defArgs s_Book_init, defBody s_Book_init, defScope s_Book_init, [.adr (He.dflAt ("Book", some "__init__") 0)], []⟩
abbrev d_Book_str : He.DefD := ⟨("Book", some "__str__"), "__str__", "Book.__str__", defArgs s_Book_str, defBody s_Book_str, defScope s_Book_str, [], []⟩
abbrev d_Book_put : He.DefD := ⟨("Book", some "put"), "put", "Book.put", defArgs s_Book_put, defBody s_Book_put, defScope s_Book_put, [], []⟩
abbrev d_Book_take : He.DefD := ⟨("Book", some "take"), "take", "Book.take", defArgs s_Book_take, defBody s_Book_take, defScope s_Book_take, [], []⟩
abbrev d__law_pen : He.DefD := ⟨("_law_pen", none), "_law_pen", "_law_pen", defArgs s__law_pen, defBody s__law_pen, defScope s__law_pen, [], []⟩
abbrev d__law_fresh : He.DefD := ⟨("_law_fresh", none), "_law_fresh", "_law_fresh", defArgs s__law_fresh, defBody s__law_fresh, defScope s__law_fresh, [], []⟩
abbrev d__law_draw : He.DefD := ⟨("_law_draw", none), "_law_draw", "_law_draw", defArgs s__law_draw, defBody s__law_draw, defScope s__law_draw, [], []⟩
abbrev d__law_lot : He.DefD := ⟨("_law_lot", none), "_law_lot", "_law_lot", defArgs s__law_lot, defBody s__law_lot, defScope s__law_lot, [], []⟩
abbrev d__law_dyes : He.DefD := ⟨("_law_dyes", none), "_law_dyes", "_law_dyes", defArgs s__law_dyes, defBody s__law_dyes, defScope s__law_dyes, [], []⟩
abbrev d__law_stretch : He.DefD := ⟨("_law_stretch", none), "_law_stretch", "_law_stretch", defArgs s__law_stretch, defBody s__law_stretch, defScope s__law_stretch, [], []⟩
abbrev d__law_rows : He.DefD := ⟨("_law_rows", none), "_law_rows", "_law_rows", defArgs s__law_rows, defBody s__law_rows, defScope s__law_rows, [], []⟩
abbrev d__law_writing : He.DefD := ⟨("_law_writing", none), "_law_writing", "_law_writing", defArgs s__law_writing, defBody s__law_writing, defScope s__law_writing, [], []⟩
abbrev d_law : He.DefD := ⟨("law", none), "law", "law", defArgs s_law, defBody s_law, defScope s_law, [], []⟩
abbrev fn : List He.DefD := [d_is_whole, d_is_place, d_is_stretch, d_is_name, d_is_colour, d_is_stroke, d_Book_init, d_Book_str, d_Book_put, d_Book_take, d__law_pen, d__law_fresh, d__law_draw, d__law_lot, d__law_dyes, d__law_stretch, d__law_rows, d__law_writing, d_law]
abbrev xt (K : PySem.W.Frag) : Bool := tup0 K (He.dflAt ("Book", some "__init__") 0 K)
section
variable {P : Program} {w : World} {K : PySem.W.Frag} {mg : Str → Option Value} {base h : Heap}
theorem ok_is_whole (X : K.In h) (Gm : h.Ns mainGlobals mg) (c : He.SaysD fa fn K) (xx : xt K = true) : Dk P w K mg base 1 (He.fAd K ("is_whole", none)) ["thing", "least"] m_is_whole [.int 0] false := by
  obtain ⟨fd, FD⟩ := c.def_ 0 (d := d_is_whole) rfl
  have x_Book_init : tup0 K (He.dflAt ("Book", some "__init__") 0 K) = true := by simpa [xt] using xx
  have h_isinstance := He.free_ok X Gm (c.fact 0 (f := .free "isinstance") rfl)
  have h_int := He.free_ok X Gm (c.fact 1 (f := .free "int") rfl)
  have h_bool := He.free_ok X Gm (c.fact 2 (f := .free "bool") rfl)
  obtain ⟨ds, vv, bb⟩ := FD.binds0 (ps := ["thing", "least"]) 1 (by simp [He.DefD.kws]) rfl (fun _ _ _ _ _ _ us ks hl hk => match us, ks, hl, hk with | [_], [_], _, _ => ⟨_, _, _, _, _, _, rfl, rfl, rfl⟩)
  refine ⟨fd, ds, ?_, bb, vv, FD.kp, nofun⟩
  refine fn_body FD sc_is_whole (fun cdv A outer s H E hA hr => ?_)
  have hu65 := room65 hr
  exact (sss_one (ss_ret (se_and (se_callB cg_isi (sa_cons (se_var 0) (sa_cons (se_bltn (v := .ty "int") rfl h_int (by decide +kernel) rfl) sa_nil)) rfl h_isinstance (by decide +kernel)) (se_and (se_not (se_callB cg_isi (sa_cons (se_var 0) (sa_cons (se_bltn (v := .ty "bool") rfl h_bool (by decide +kernel) rfl) sa_nil)) rfl h_isinstance (by decide +kernel))) (se_one (se_cmp og_ge (se_var 0) (se_var 1)))))))
theorem ok_is_place (X : K.In h) (Gm : h.Ns mainGlobals mg) (c : He.SaysD fa fn K) (xx : xt K = true) : Dk P w K mg base 2 (He.fAd K ("is_place", none)) ["thing"] m_is_place [] true := by
  obtain ⟨fd, FD⟩ := c.def_ 1 (d := d_is_place) rfl
  have x_Book_init : tup0 K (He.dflAt ("Book", some "__init__") 0 K) = true := by simpa [xt] using xx
  obtain ⟨fd_is_whole, ds_is_whole, F_is_whole, b_is_whole, v_is_whole, k_is_whole, bf_is_whole⟩ := (ok_is_whole (P := P) (w := w) (base := base) X Gm c xx).ex
  have g_is_whole := He.glo_ok X Gm (c.fact 3 (f := .glo "is_whole") rfl)
  obtain ⟨t_LAST, c_LAST⟩ := He.int_ok X Gm (c.fact 4 (f := .int "LAST" 1000000000) rfl)
  have bb : Binds K fd ["thing"] [] := FD.bindsN (fun _ _ _ _ _ _ us hl => match us, hl with | [_], _ => rfl)
  refine ⟨fd, [], ?_, bb, .nil, FD.kp, fun _ => bb⟩
  refine fn_body FD sc_is_place (fun cdv A outer s H E hA hr => ?_)
  have hu65 := room65 hr
  exact (sss_one (ss_ret (se_and (se_call F_is_whole hA (hr.mono (by decide)) (takes_of rfl rfl rfl rfl) rfl g_is_whole k_is_whole b_is_whole v_is_whole (fun F ρ => .cons (Rp.int _) .nil) (sa_cons (se_var 0) sa_nil)) (se_one (se_cmp og_le (se_var 0) (se_glob rfl c_LAST (v := .int 1000000000) ⟨_, rfl⟩ (fun F ρ => Rp.int _)))))))
theorem ok_is_stretch (X : K.In h) (Gm : h.Ns mainGlobals mg) (c : He.SaysD fa fn K) (xx : xt K = true) : Dk P w K mg base 3 (He.fAd K ("is_stretch", none)) ["thing"] m_is_stretch [] true := by
  obtain ⟨fd, FD⟩ := c.def_ 2 (d := d_is_stretch) rfl
  have x_Book_init : tup0 K (He.dflAt ("Book", some "__init__") 0 K) = true := by simpa [xt] using xx
  obtain ⟨fd_is_place, ds_is_place, F_is_place, b_is_place, v_is_place, k_is_place, bf_is_place⟩ := (ok_is_place (P := P) (w := w) (base := base) X Gm c xx).ex
  have h_isinstance := He.free_ok X Gm (c.fact 0 (f := .free "isinstance") rfl)
  have h_tuple := He.free_ok X Gm (c.fact 5 (f := .free "tuple") rfl)
  have h_len := He.free_ok X Gm (c.fact 6 (f := .free "len") rfl)
  have g_is_place := He.glo_ok X Gm (c.fact 7 (f := .glo "is_place") rfl)
  have bb : Binds K fd ["thing"] [] := FD.bindsN (fun _ _ _ _ _ _ us hl => match us, hl with | [_], _ => rfl)
  refine ⟨fd, [], ?_, bb, .nil, FD.kp, fun _ => bb⟩
  refine fn_body FD sc_is_stretch (fun cdv A outer s H E hA hr => ?_)
  have hu65 := room65 hr
  exact (sss_cons (ss_if (SW.sb (sw_or (sb_not (sb_val (se_callB cg_isi (sa_cons (se_var 0) (sa_cons (se_bltn (v := .ty "tuple") rfl h_tuple (by decide +kernel) rfl) sa_nil)) rfl h_isinstance (by decide +kernel)))) (sw_or1 (sb_cmp (og_ne hr.units) (se_callB cg_len (sa_cons (se_var 0) sa_nil) rfl h_len (by decide +kernel)) se_int)))) (sss_one (ss_ret se_bl)) sss_nil)
  (sss_one (ss_ret (se_and (se_call F_is_place hA (hr.mono (by decide)) (takes_of rfl rfl rfl rfl) rfl g_is_place k_is_place b_is_place v_is_place (fun F ρ => .nil) (sa_cons (se_ix (se_var 0) se_int) sa_nil)) (se_and (se_call F_is_place hA (hr.mono (by decide)) (takes_of rfl rfl rfl rfl) rfl g_is_place k_is_place b_is_place v_is_place (fun F ρ => .nil) (sa_cons (se_ix (se_var 0) se_int) sa_nil)) (se_one (se_cmp og_le (se_ix (se_var 0) se_int) (se_ix (se_var 0) se_int))))))))
theorem ok_is_name (X : K.In h) (Gm : h.Ns mainGlobals mg) (c : He.SaysD fa fn K) (xx : xt K = true) : Dk P w K mg base 1 (He.fAd K ("is_name", none)) ["thing"] m_is_name [] true := by
  obtain ⟨fd, FD⟩ := c.def_ 3 (d := d_is_name) rfl
  have x_Book_init : tup0 K (He.dflAt ("Book", some "__init__") 0 K) = true := by simpa [xt] using xx
  have h_isinstance := He.free_ok X Gm (c.fact 0 (f := .free "isinstance") rfl)
  have h_str := He.free_ok X Gm (c.fact 8 (f := .free "str") rfl)
  have h_len := He.free_ok X Gm (c.fact 6 (f := .free "len") rfl)
  obtain ⟨t_MOST_LETTERS, c_MOST_LETTERS⟩ := He.int_ok X Gm (c.fact 9 (f := .int "MOST_LETTERS" 8) rfl)
  have h_all := He.free_ok X Gm (c.fact 10 (f := .free "all") rfl)
  obtain ⟨t_ALPHABET, c_ALPHABET⟩ := He.str_ok X Gm (c.fact 11 (f := .str "ALPHABET" "abcdefghijklmnopqrstuvwxyz") rfl)
  have bb : Binds K fd ["thing"] [] := FD.bindsN (fun _ _ _ _ _ _ us hl => match us, hl with | [_], _ => rfl)
  refine ⟨fd, [], ?_, bb, .nil, FD.kp, fun _ => bb⟩
  refine fn_body FD sc_is_name (fun cdv A outer s H E hA hr => ?_)
  have hu65 := room65 hr
  exact (sss_one (ss_ret (se_and (se_callB cg_isi (sa_cons (se_var 0) (sa_cons (se_bltn (v := .ty "str") rfl h_str (by decide +kernel) rfl) sa_nil)) rfl h_isinstance (by decide +kernel)) (se_and (se_chain og_le og_le se_int (se_callB cg_len (sa_cons (se_var 0) sa_nil) rfl h_len (by decide +kernel)) (se_glob rfl c_MOST_LETTERS (v := .int 8) ⟨_, rfl⟩ (fun F ρ => Rp.int _))) (se_one (se_callB (cg_all rfl) (sa_cons (se_lc [("sign", 1)] fin_lstD rfl sc_is_name.nd (si_str (se_var 0)) (blk_by (N := ["thing", "sign"]) (sc := defScope s_is_name) (by decide +kernel)) (fun s H C cl fp => (sg_name 1 sc_is_name.nd)) (fun s H C cl fp => st_nil) (fun s H C cl fp => (se_cmp (og_in hu65) (se_var 1) (se_glob rfl c_ALPHABET (v := .str "abcdefghijklmnopqrstuvwxyz") ⟨_, rfl⟩ (fun F ρ => Rp.str _))))) sa_nil) rfl h_all (by decide +kernel)))))))
theorem ok_is_colour (X : K.In h) (Gm : h.Ns mainGlobals mg) (c : He.SaysD fa fn K) (xx : xt K = true) : Dk P w K mg base 2 (He.fAd K ("is_colour", none)) ["thing"] m_is_colour [] true := by
  obtain ⟨fd, FD⟩ := c.def_ 4 (d := d_is_colour) rfl
  have x_Book_init : tup0 K (He.dflAt ("Book", some "__init__") 0 K) = true := by simpa [xt] using xx
  obtain ⟨fd_is_name, ds_is_name, F_is_name, b_is_name, v_is_name, k_is_name, bf_is_name⟩ := (ok_is_name (P := P) (w := w) (base := base) X Gm c xx).ex
  have g_is_name := He.glo_ok X Gm (c.fact 12 (f := .glo "is_name") rfl)
  have bb : Binds K fd ["thing"] [] := FD.bindsN (fun _ _ _ _ _ _ us hl => match us, hl with | [_], _ => rfl)
  refine ⟨fd, [], ?_, bb, .nil, FD.kp, fun _ => bb⟩
  refine fn_body FD sc_is_colour (fun cdv A outer s H E hA hr => ?_)
  have hu65 := room65 hr
  exact (sss_one (ss_ret (se_call F_is_name hA (hr.mono (by decide)) (takes_of rfl rfl rfl rfl) rfl g_is_name k_is_name b_is_name v_is_name (fun F ρ => .nil) (sa_cons (se_var 0) sa_nil))))
theorem ok_is_stroke (X : K.In h) (Gm : h.Ns mainGlobals mg) (c : He.SaysD fa fn K) (xx : xt K = true) : Dk P w K mg base 4 (He.fAd K ("is_stroke", none)) ["thing"] m_is_stroke [] true := by
  obtain ⟨fd, FD⟩ := c.def_ 5 (d := d_is_stroke) rfl
  have x_Book_init : tup0 K (He.dflAt ("Book", some "__init__") 0 K) = true := by simpa [xt] using xx
  obtain ⟨fd_is_stretch, ds_is_stretch, F_is_stretch, b_is_stretch, v_is_stretch, k_is_stretch, bf_is_stretch⟩ := (ok_is_stretch (P := P) (w := w) (base := base) X Gm c xx).ex
  obtain ⟨fd_is_colour, ds_is_colour, F_is_colour, b_is_colour, v_is_colour, k_is_colour, bf_is_colour⟩ := (ok_is_colour (P := P) (w := w) (base := base) X Gm c xx).ex
  have h_isinstance := He.free_ok X Gm (c.fact 0 (f := .free "isinstance") rfl)
  have h_tuple := He.free_ok X Gm (c.fact 5 (f := .free "tuple") rfl)
  have h_len := He.free_ok X Gm (c.fact 6 (f := .free "len") rfl)
  have g_is_stretch := He.glo_ok X Gm (c.fact 13 (f := .glo "is_stretch") rfl)
  have g_is_colour := He.glo_ok X Gm (c.fact 14 (f := .glo "is_colour") rfl)
  have bb : Binds K fd ["thing"] [] := FD.bindsN (fun _ _ _ _ _ _ us hl => match us, hl with | [_], _ => rfl)
  refine ⟨fd, [], ?_, bb, .nil, FD.kp, fun _ => bb⟩
  refine fn_body FD sc_is_stroke (fun cdv A outer s H E hA hr => ?_)
  have hu65 := room65 hr
  exact (sss_one (ss_ret (se_and (se_callB cg_isi (sa_cons (se_var 0) (sa_cons (se_bltn (v := .ty "tuple") rfl h_tuple (by decide +kernel) rfl) sa_nil)) rfl h_isinstance (by decide +kernel)) (se_and (se_cmp (og_eq hr.units) (se_callB cg_len (sa_cons (se_var 0) sa_nil) rfl h_len (by decide +kernel)) se_int) (se_and (se_call F_is_stretch hA (hr.mono (by decide)) (takes_of rfl rfl rfl rfl) rfl g_is_stretch k_is_stretch b_is_stretch v_is_stretch (fun F ρ => .nil) (sa_cons (se_slice (se_var 0) so_none (so_some se_int)) sa_nil)) (se_one (se_call F_is_colour hA (hr.mono (by decide)) (takes_of rfl rfl rfl rfl) rfl g_is_colour k_is_colour b_is_colour v_is_colour (fun F ρ => .nil) (sa_cons (se_ix (se_var 0) se_int) sa_nil))))))))
theorem ok_Book_init (X : K.In h) (Gm : h.Ns mainGlobals mg) (c : He.SaysD fa fn K) (xx : xt K = true) : Dk P w K mg base 5 (He.fAd K ("Book", some "__init__")) ["self", "strokes"] m_Book_init [.ref (He.dflAt ("Book", some "__init__") 0 K)] true := by
  obtain ⟨fd, FD⟩ := c.def_ 6 (d := d_Book_init) rfl
  have x_Book_init : tup0 K (He.dflAt ("Book", some "__init__") 0 K) = true := by simpa [xt] using xx
  obtain ⟨fd_is_stroke, ds_is_stroke, F_is_stroke, b_is_stroke, v_is_stroke, k_is_stroke, bf_is_stroke⟩ := (ok_is_stroke (P := P) (w := w) (base := base) X Gm c xx).ex
  have h_list := He.free_ok X Gm (c.fact 15 (f := .free "list") rfl)
  have h_tuple := He.free_ok X Gm (c.fact 5 (f := .free "tuple") rfl)
  have h_isinstance := He.free_ok X Gm (c.fact 0 (f := .free "isinstance") rfl)
  have h_all := He.free_ok X Gm (c.fact 10 (f := .free "all") rfl)
  have g_is_stroke := He.glo_ok X Gm (c.fact 16 (f := .glo "is_stroke") rfl)
  have g_BadStroke := He.glo_ok X Gm (c.fact 17 (f := .glo "BadStroke") rfl)
  have e_BadStroke := He.exc_ok (c.fact 18 (f := .exc "BadStroke") rfl)
  have cl_Book := He.cls_ok (c.fact 19 (f := .cls "Book") rfl)
  have na_Book_row := He.noat_ok (c.fact 20 (f := .noat "Book" "row") rfl)
  obtain ⟨ds, vv, bb⟩ := FD.binds1 (ps := ["self", "strokes"]) 1 0 (by simp [He.DefD.dvs]) rfl (fun _ _ _ _ _ _ _ us its hl hi => match us, its, hl, hi with | [_], [_], _, _ => ⟨_, rfl, rfl⟩)
  have bf : Binds K fd ["self", "strokes"] [] := fullBinds FD 2 (by simp [He.DefD.dvs]) rfl (fun _ _ _ _ _ _ _ us its hl hi => match us, its, hl, hi with | [_, _], [_], _, _ => ⟨_, rfl, rfl⟩)
  refine ⟨fd, ds, ?_, bb, vv, FD.kp, fun _ => bf⟩
  refine fn_body FD sc_Book_init (fun cdv A outer s H E hA hr => ?_)
  have hu65 := room65 hr
  exact (sss_cons (ss_if (SW.sb (sw_or (sb_not (sb_val (se_isiT (se_var 1) rfl h_isinstance (sc_cons rfl h_tuple (by decide +kernel) (sc_cons rfl h_list (by decide +kernel) sc_nil))))) (sw_or1 (sb_not (sb_val (se_callB (cg_all rfl) (sa_cons (se_lc [("one", 2)] fin_lstD rfl sc_Book_init.nd (si_any (se_var 1)) (blk_by (N := ["self", "strokes", "one"]) (sc := defScope s_Book_init) (by decide +kernel)) (fun s H C cl fp => (sg_name 2 sc_Book_init.nd)) (fun s H C cl fp => st_nil) (fun s H C cl fp => (se_call F_is_stroke hA (hr.mono (by decide)) takes0 rfl g_is_stroke k_is_stroke b_is_stroke v_is_stroke (fun F ρ => .nil) (sa_cons (se_var 2) sa_nil)))) sa_nil) rfl h_all (by decide +kernel))))))) (sss_one (ss_raise rfl (takes_of rfl rfl rfl rfl) rfl PySem.F.excBase_ValueError e_BadStroke.1 g_BadStroke e_BadStroke.2.1 (raises_own e_BadStroke.2.2.1 e_BadStroke.2.2.2) rfl)) sss_nil)
  (sss_one (ss_fld (se_var 0) (se_callTy cg_listM (sa_cons (se_var 1) sa_nil) rfl h_list (by decide +kernel)) rfl cl_Book na_Book_row)))
theorem ok_Book_str (X : K.In h) (Gm : h.Ns mainGlobals mg) (c : He.SaysD fa fn K) (xx : xt K = true) : Dk P w K mg base 1 (He.fAd K ("Book", some "__str__")) ["self"] m_Book_str [] true := by
  obtain ⟨fd, FD⟩ := c.def_ 7 (d := d_Book_str) rfl
  have x_Book_init : tup0 K (He.dflAt ("Book", some "__init__") 0 K) = true := by simpa [xt] using xx
  have cl_Book := He.cls_ok (c.fact 19 (f := .cls "Book") rfl)
  have na_Book_row := He.noat_ok (c.fact 20 (f := .noat "Book" "row") rfl)
  have bb : Binds K fd ["self"] [] := FD.bindsN (fun _ _ _ _ _ _ us hl => match us, hl with | [_], _ => rfl)
  refine ⟨fd, [], ?_, bb, .nil, FD.kp, fun _ => bb⟩
  refine fn_body FD sc_Book_str (fun cdv A outer s H E hA hr => ?_)
  have hu65 := room65 hr
  exact (sss_one (ss_ret (se_join se_str (se_lc [("low", 1), ("high", 2), ("colour", 3)] fin_lstD rfl sc_Book_str.nd (si_list (se_fld (se_var 0) rfl cl_Book na_Book_row)) (blk_by (N := ["self", "low", "high", "colour"]) (sc := defScope s_Book_str) (by decide +kernel)) (fun s H C cl fp => (sg_tup rfl (sgs_cons (sg_name 1 sc_Book_str.nd) (sgs_cons (sg_name 2 sc_Book_str.nd) (sgs_cons (sg_name 3 sc_Book_str.nd) sgs_nil))))) (fun s H C cl fp => st_nil) (fun s H C cl fp => (se_joined (sj_cons (se_fmt (se_var 1)) (sj_cons se_str (sj_cons (se_fmt (se_var 2)) (sj_cons se_str (sj_cons (se_fmt (se_var 3)) sj_nil)))))))))))
theorem ok_Book_put (X : K.In h) (Gm : h.Ns mainGlobals mg) (c : He.SaysD fa fn K) (xx : xt K = true) : Dk P w K mg base 5 (He.fAd K ("Book", some "put")) ["self", "slot", "stroke"] m_Book_put [] true := by
  obtain ⟨fd, FD⟩ := c.def_ 8 (d := d_Book_put) rfl
  have x_Book_init : tup0 K (He.dflAt ("Book", some "__init__") 0 K) = true := by simpa [xt] using xx
  obtain ⟨fd_is_whole, ds_is_whole, F_is_whole, b_is_whole, v_is_whole, k_is_whole, bf_is_whole⟩ := (ok_is_whole (P := P) (w := w) (base := base) X Gm c xx).ex
  obtain ⟨fd_is_stroke, ds_is_stroke, F_is_stroke, b_is_stroke, v_is_stroke, k_is_stroke, bf_is_stroke⟩ := (ok_is_stroke (P := P) (w := w) (base := base) X Gm c xx).ex
  have g_is_whole := He.glo_ok X Gm (c.fact 3 (f := .glo "is_whole") rfl)
  have h_len := He.free_ok X Gm (c.fact 6 (f := .free "len") rfl)
  have cl_Book := He.cls_ok (c.fact 19 (f := .cls "Book") rfl)
  have na_Book_row := He.noat_ok (c.fact 20 (f := .noat "Book" "row") rfl)
  have g_NoSlot := He.glo_ok X Gm (c.fact 21 (f := .glo "NoSlot") rfl)
  have e_NoSlot := He.exc_ok (c.fact 22 (f := .exc "NoSlot") rfl)
  have g_is_stroke := He.glo_ok X Gm (c.fact 16 (f := .glo "is_stroke") rfl)
  have g_BadStroke := He.glo_ok X Gm (c.fact 17 (f := .glo "BadStroke") rfl)
  have e_BadStroke := He.exc_ok (c.fact 18 (f := .exc "BadStroke") rfl)
  have bb : Binds K fd ["self", "slot", "stroke"] [] := FD.bindsN (fun _ _ _ _ _ _ us hl => match us, hl with | [_, _, _], _ => rfl)
  refine ⟨fd, [], ?_, bb, .nil, FD.kp, fun _ => bb⟩
  refine fn_body FD sc_Book_put (fun cdv A outer s H E hA hr => ?_)
  have hu65 := room65 hr
  exact (sss_cons (ss_if (SW.sb (sw_or (sb_not (sb_val (se_call F_is_whole hA (hr.mono (by decide)) (takes_of rfl rfl rfl rfl) rfl g_is_whole k_is_whole b_is_whole v_is_whole (fun F ρ => .cons (Rp.int _) .nil) (sa_cons (se_var 1) sa_nil)))) (sw_or1 (sb_cmp og_gt (se_var 1) (se_callB cg_len (sa_cons (se_fld (se_var 0) rfl cl_Book na_Book_row) sa_nil) rfl h_len (by decide +kernel)))))) (sss_one (ss_raise rfl (takes_of rfl rfl rfl rfl) rfl PySem.F.excBase_ValueError e_NoSlot.1 g_NoSlot e_NoSlot.2.1 (raises_own e_NoSlot.2.2.1 e_NoSlot.2.2.2) rfl)) sss_nil)
  (sss_cons (ss_if (sb_not (sb_val (se_call F_is_stroke hA (hr.mono (by decide)) (takes_of rfl rfl rfl rfl) rfl g_is_stroke k_is_stroke b_is_stroke v_is_stroke (fun F ρ => .nil) (sa_cons (se_var 2) sa_nil)))) (sss_one (ss_raise rfl (takes_of rfl rfl rfl rfl) rfl PySem.F.excBase_ValueError e_BadStroke.1 g_BadStroke e_BadStroke.2.1 (raises_own e_BadStroke.2.2.1 e_BadStroke.2.2.2) rfl)) sss_nil)
  (sss_one (ss_expr (se_lm PySem.F.slot_list_insert PySem.F.type_list_insert mg_insert (se_fld (se_var 0) rfl cl_Book na_Book_row) (sa_cons (se_var 1) (sa_cons (se_var 2) sa_nil)))))))
theorem ok_Book_take (X : K.In h) (Gm : h.Ns mainGlobals mg) (c : He.SaysD fa fn K) (xx : xt K = true) : Dk P w K mg base 2 (He.fAd K ("Book", some "take")) ["self", "number"] m_Book_take [] true := by
  obtain ⟨fd, FD⟩ := c.def_ 9 (d := d_Book_take) rfl
  have x_Book_init : tup0 K (He.dflAt ("Book", some "__init__") 0 K) = true := by simpa [xt] using xx
  obtain ⟨fd_is_whole, ds_is_whole, F_is_whole, b_is_whole, v_is_whole, k_is_whole, bf_is_whole⟩ := (ok_is_whole (P := P) (w := w) (base := base) X Gm c xx).ex
  have g_is_whole := He.glo_ok X Gm (c.fact 3 (f := .glo "is_whole") rfl)
  have h_len := He.free_ok X Gm (c.fact 6 (f := .free "len") rfl)
  have cl_Book := He.cls_ok (c.fact 19 (f := .cls "Book") rfl)
  have na_Book_row := He.noat_ok (c.fact 20 (f := .noat "Book" "row") rfl)
  have g_NoStroke := He.glo_ok X Gm (c.fact 23 (f := .glo "NoStroke") rfl)
  have e_NoStroke := He.exc_ok (c.fact 24 (f := .exc "NoStroke") rfl)
  have bb : Binds K fd ["self", "number"] [] := FD.bindsN (fun _ _ _ _ _ _ us hl => match us, hl with | [_, _], _ => rfl)
  refine ⟨fd, [], ?_, bb, .nil, FD.kp, fun _ => bb⟩
  refine fn_body FD sc_Book_take (fun cdv A outer s H E hA hr => ?_)
  have hu65 := room65 hr
  exact (sss_cons (ss_if (SW.sb (sw_or (sb_not (sb_val (se_call F_is_whole hA (hr.mono (by decide)) (takes_of rfl rfl rfl rfl) rfl g_is_whole k_is_whole b_is_whole v_is_whole (fun F ρ => .cons (Rp.int _) .nil) (sa_cons (se_var 1) sa_nil)))) (sw_or1 (sb_cmp og_ge (se_var 1) (se_callB cg_len (sa_cons (se_fld (se_var 0) rfl cl_Book na_Book_row) sa_nil) rfl h_len (by decide +kernel)))))) (sss_one (ss_raise rfl (takes_of rfl rfl rfl rfl) rfl PySem.F.excBase_ValueError e_NoStroke.1 g_NoStroke e_NoStroke.2.1 (raises_own e_NoStroke.2.2.1 e_NoStroke.2.2.2) rfl)) sss_nil)
  (sss_one (ss_ret (se_lm PySem.F.slot_list_pop PySem.F.type_list_pop mg_popAt (se_fld (se_var 0) rfl cl_Book na_Book_row) (sa_cons (se_var 1) sa_nil)))))
theorem ok__law_pen (X : K.In h) (Gm : h.Ns mainGlobals mg) (c : He.SaysD fa fn K) (xx : xt K = true) : Dk P w K mg base 1 (He.fAd K ("_law_pen", none)) ["script"] m__law_pen [] true := by
  obtain ⟨fd, FD⟩ := c.def_ 10 (d := d__law_pen) rfl
  have x_Book_init : tup0 K (He.dflAt ("Book", some "__init__") 0 K) = true := by simpa [xt] using xx
  have h_list := He.free_ok X Gm (c.fact 15 (f := .free "list") rfl)
  have bb : Binds K fd ["script"] [] := FD.bindsN (fun _ _ _ _ _ _ us hl => match us, hl with | [_], _ => rfl)
  refine ⟨fd, [], ?_, bb, .nil, FD.kp, fun _ => bb⟩
  refine fn_body FD sc__law_pen (fun cdv A outer s H E hA hr => ?_)
  have hu65 := room65 hr
  exact (sss_one (ss_ret (se_lstM (sa_cons (se_callTy cg_list (sa_cons (se_slice (se_var 0) so_none (so_some se_int)) sa_nil) rfl h_list (by decide +kernel)) (sa_cons se_int (sa_cons se_int sa_nil))))))
theorem ok__law_fresh (X : K.In h) (Gm : h.Ns mainGlobals mg) (c : He.SaysD fa fn K) (xx : xt K = true) : Dk P w K mg base 1 (He.fAd K ("_law_fresh", none)) ["pen"] m__law_fresh [] true := by
  obtain ⟨fd, FD⟩ := c.def_ 11 (d := d__law_fresh) rfl
  have x_Book_init : tup0 K (He.dflAt ("Book", some "__init__") 0 K) = true := by simpa [xt] using xx
  have h_len := He.free_ok X Gm (c.fact 6 (f := .free "len") rfl)
  have bb : Binds K fd ["pen"] [] := FD.bindsN (fun _ _ _ _ _ _ us hl => match us, hl with | [_], _ => rfl)
  refine ⟨fd, [], ?_, bb, .nil, FD.kp, fun _ => bb⟩
  refine fn_body FD sc__law_fresh (fun cdv A outer s H E hA hr => ?_)
  have hu65 := room65 hr
  exact (sss_cons (ss_set 1 (se_ix (se_var 0) se_int) sc__law_fresh.nd)
  (sss_cons (ss_sub (se_bin og_add (se_var 1) se_int) (se_var 0) se_int)
  (sss_cons (ss_set 2 (se_bin og_add (se_bin og_mul se_int (se_var 1)) se_int) sc__law_fresh.nd)
  (sss_cons (ss_if (sb_cmp og_gt (se_callB cg_len (sa_cons (se_ix (se_var 0) se_int) sa_nil) rfl h_len (by decide +kernel)) se_int) (sss_one (ss_set 2 (se_ix (se_ix (se_var 0) se_int) (se_bin og_mod (se_var 1) (se_callB cg_len (sa_cons (se_ix (se_var 0) se_int) sa_nil) rfl h_len (by decide +kernel)))) sc__law_fresh.nd)) sss_nil)
  (sss_cons (ss_if (SW.sb (sw_and (sb_cmp og_lt (se_var 1) (se_callB cg_len (sa_cons (se_ix (se_var 0) se_int) sa_nil) rfl h_len (by decide +kernel))) (sw_and1 (sb_cmp og_ge (se_var 2) (se_bin og_pow se_int se_int))))) (sss_one (ss_ret (se_var 2))) sss_nil)
  (sss_cons (ss_set 3 (se_bin og_mod (se_bin og_pow (se_bin og_add (se_bin og_add (se_bin og_mul (se_bin og_mod (se_var 2) se_int) (se_bin og_add (se_var 1) se_int)) (se_bin og_mul se_int (se_var 1))) se_int) se_int) se_int) sc__law_fresh.nd)
  (sss_cons (ss_set 4 (se_bin og_mod (se_bin og_pow (se_bin og_add (se_bin og_add (se_bin og_mul (se_var 3) (se_bin og_add (se_var 1) se_int)) (se_bin og_mod (se_var 2) se_int)) se_int) se_int) se_int) sc__law_fresh.nd)
  (sss_cons (ss_set 5 (se_bin og_mod (se_bin og_add (se_bin og_add (se_bin og_mul (se_var 4) (se_var 4)) (se_var 3)) (se_bin og_mul se_int (se_var 1))) se_int) sc__law_fresh.nd)
  (sss_one (ss_ret (se_bin og_add (se_bin og_mul (se_bin og_add (se_bin og_mul (se_var 5) se_int) (se_var 4)) se_int) (se_var 3))))))))))))
theorem ok__law_draw (X : K.In h) (Gm : h.Ns mainGlobals mg) (c : He.SaysD fa fn K) (xx : xt K = true) : Dk P w K mg base 2 (He.fAd K ("_law_draw", none)) ["pen", "often"] m__law_draw [] true := by
  obtain ⟨fd, FD⟩ := c.def_ 12 (d := d__law_draw) rfl
  have x_Book_init : tup0 K (He.dflAt ("Book", some "__init__") 0 K) = true := by simpa [xt] using xx
  obtain ⟨fd__law_fresh, ds__law_fresh, F__law_fresh, b__law_fresh, v__law_fresh, k__law_fresh, bf__law_fresh⟩ := (ok__law_fresh (P := P) (w := w) (base := base) X Gm c xx).ex
  have g__law_fresh := He.glo_ok X Gm (c.fact 25 (f := .glo "_law_fresh") rfl)
  have bb : Binds K fd ["pen", "often"] [] := FD.bindsN (fun _ _ _ _ _ _ us hl => match us, hl with | [_, _], _ => rfl)
  refine ⟨fd, [], ?_, bb, .nil, FD.kp, fun _ => bb⟩
  refine fn_body FD sc__law_draw (fun cdv A outer s H E hA hr => ?_)
  have hu65 := room65 hr
  exact (sss_cons (ss_if (sb_cmp og_lt (se_ix (se_var 0) se_int) (se_var 1)) (sss_one (ss_sub (se_call F__law_fresh hA (hr.mono (by decide)) (takes_of rfl rfl rfl rfl) rfl g__law_fresh k__law_fresh b__law_fresh v__law_fresh (fun F ρ => .nil) (sa_cons (se_var 0) sa_nil)) (se_var 0) se_int)) sss_nil)
  (sss_cons (ss_set 2 (se_bin og_mod (se_ix (se_var 0) se_int) (se_var 1)) sc__law_draw.nd)
  (sss_cons (ss_sub (se_bin og_fdiv (se_ix (se_var 0) se_int) (se_var 1)) (se_var 0) se_int)
  (sss_one (ss_ret (se_var 2))))))
theorem ok__law_lot (X : K.In h) (Gm : h.Ns mainGlobals mg) (c : He.SaysD fa fn K) (xx : xt K = true) : Dk P w K mg base 3 (He.fAd K ("_law_lot", none)) ["pen", "size"] m__law_lot [] true := by
  obtain ⟨fd, FD⟩ := c.def_ 13 (d := d__law_lot) rfl
  have x_Book_init : tup0 K (He.dflAt ("Book", some "__init__") 0 K) = true := by simpa [xt] using xx
  obtain ⟨fd__law_draw, ds__law_draw, F__law_draw, b__law_draw, v__law_draw, k__law_draw, bf__law_draw⟩ := (ok__law_draw (P := P) (w := w) (base := base) X Gm c xx).ex
  have g__law_draw := He.glo_ok X Gm (c.fact 26 (f := .glo "_law_draw") rfl)
  have h_range := He.free_ok X Gm (c.fact 27 (f := .free "range") rfl)
  have bb : Binds K fd ["pen", "size"] [] := FD.bindsN (fun _ _ _ _ _ _ us hl => match us, hl with | [_, _], _ => rfl)
  refine ⟨fd, [], ?_, bb, .nil, FD.kp, fun _ => bb⟩
  refine FnG.scop ?_
  refine fn_body FD sc__law_lot (fun cdv A outer s H E hA hr => ?_)
  have hu65 := room65 hr
  exact (sss_cons (ss_set 2 (se_lstM sa_nil) sc__law_lot.nd)
  (sss_cons (ss_set 3 (se_call F__law_draw hA (hr.mono (by decide)) (takes_of rfl rfl rfl rfl) rfl g__law_draw k__law_draw b__law_draw v__law_draw (fun F ρ => .nil) (sa_cons (se_var 0) (sa_cons se_int sa_nil))) sc__law_lot.nd)
  (sss_cons (ss_for (passes_of rfl) rfl (si_rng1 (sa_cons (se_var 1) sa_nil) rfl h_range) (sg_name 4 sc__law_lot.nd) (sss_cons (ss_expr (se_lm PySem.F.slot_list_append PySem.F.type_list_append mg_append (se_var 2) (sa_cons (se_var 3) sa_nil)))
  (sss_one (ss_set 3 (se_bin og_add (se_bin og_add (se_var 3) se_int) (se_ix (se_lst (sa_cons se_int (sa_cons se_int (sa_cons se_int (sa_cons se_int (sa_cons se_int (sa_cons (se_bin og_pow se_int se_int) sa_nil))))))) (se_call F__law_draw hA (hr.mono (by decide)) (takes_of rfl rfl rfl rfl) rfl g__law_draw k__law_draw b__law_draw v__law_draw (fun F ρ => .nil) (sa_cons (se_var 0) (sa_cons se_int sa_nil))))) sc__law_lot.nd))))
  (sss_cons (ss_if (sb_cmp (og_eq hr.units) (se_call F__law_draw hA (hr.mono (by decide)) (takes_of rfl rfl rfl rfl) rfl g__law_draw k__law_draw b__law_draw v__law_draw (fun F ρ => .nil) (sa_cons (se_var 0) (sa_cons se_int sa_nil))) se_int) (sss_one (ss_sub (se_bin og_pow se_int se_int) (se_var 2) (se_neg se_int))) sss_nil)
  (sss_one (ss_ret (se_frz (se_var 2))))))))
theorem ok__law_dyes (X : K.In h) (Gm : h.Ns mainGlobals mg) (c : He.SaysD fa fn K) (xx : xt K = true) : Dk P w K mg base 3 (He.fAd K ("_law_dyes", none)) ["pen", "tally"] m__law_dyes [] true := by
  obtain ⟨fd, FD⟩ := c.def_ 14 (d := d__law_dyes) rfl
  have x_Book_init : tup0 K (He.dflAt ("Book", some "__init__") 0 K) = true := by simpa [xt] using xx
  obtain ⟨fd__law_draw, ds__law_draw, F__law_draw, b__law_draw, v__law_draw, k__law_draw, bf__law_draw⟩ := (ok__law_draw (P := P) (w := w) (base := base) X Gm c xx).ex
  have h_range := He.free_ok X Gm (c.fact 27 (f := .free "range") rfl)
  have g__law_draw := He.glo_ok X Gm (c.fact 26 (f := .glo "_law_draw") rfl)
  have h_len := He.free_ok X Gm (c.fact 6 (f := .free "len") rfl)
  have bb : Binds K fd ["pen", "tally"] [] := FD.bindsN (fun _ _ _ _ _ _ us hl => match us, hl with | [_, _], _ => rfl)
  refine ⟨fd, [], ?_, bb, .nil, FD.kp, fun _ => bb⟩
  refine FnG.scop ?_
  refine fn_body FD sc__law_dyes (fun cdv A outer s H E hA hr => ?_)
  have hu65 := room65 hr
  exact (sss_cons (ss_set 2 (se_lstM (sa_cons se_str (sa_cons se_str (sa_cons se_str (sa_cons se_str (sa_cons se_str (sa_cons se_str sa_nil))))))) sc__law_dyes.nd)
  (sss_one (ss_ret (se_lc [("turn", 3)] fin_lstD rfl sc__law_dyes.nd (si_rng1 (sa_cons (se_var 1) sa_nil) rfl h_range) (blk_by (N := ["pen", "tally", "pool", "turn"]) (sc := defScope s__law_dyes) (by decide +kernel)) (fun s H C cl fp => (sg_name 3 sc__law_dyes.nd)) (fun s H C cl fp => st_nil) (fun s H C cl fp => (se_lm PySem.F.slot_list_pop PySem.F.type_list_pop mg_popAt (se_var 2) (sa_cons (se_call F__law_draw hA (hr.mono (by decide)) takes0 rfl g__law_draw k__law_draw b__law_draw v__law_draw (fun F ρ => .nil) (sa_cons (se_var 0) (sa_cons (se_callB cg_len (sa_cons (se_var 2) sa_nil) rfl h_len (by decide +kernel)) sa_nil))) sa_nil)))))))
theorem ok__law_stretch (X : K.In h) (Gm : h.Ns mainGlobals mg) (c : He.SaysD fa fn K) (xx : xt K = true) : Dk P w K mg base 3 (He.fAd K ("_law_stretch", none)) ["pen", "lot"] m__law_stretch [] true := by
  obtain ⟨fd, FD⟩ := c.def_ 15 (d := d__law_stretch) rfl
  have x_Book_init : tup0 K (He.dflAt ("Book", some "__init__") 0 K) = true := by simpa [xt] using xx
  obtain ⟨fd__law_draw, ds__law_draw, F__law_draw, b__law_draw, v__law_draw, k__law_draw, bf__law_draw⟩ := (ok__law_draw (P := P) (w := w) (base := base) X Gm c xx).ex
  have h_sorted := He.free_ok X Gm (c.fact 28 (f := .free "sorted") rfl)
  have g__law_draw := He.glo_ok X Gm (c.fact 26 (f := .glo "_law_draw") rfl)
  have h_len := He.free_ok X Gm (c.fact 6 (f := .free "len") rfl)
  have bb : Binds K fd ["pen", "lot"] [] := FD.bindsN (fun _ _ _ _ _ _ us hl => match us, hl with | [_, _], _ => rfl)
  refine ⟨fd, [], ?_, bb, .nil, FD.kp, fun _ => bb⟩
  refine fn_body FD sc__law_stretch (fun cdv A outer s H E hA hr => ?_)
  have hu65 := room65 hr
  exact (sss_cons (ss_set 2 (se_callB cg_sortedI (sa_cons (se_lst (sa_cons (se_call F__law_draw hA (hr.mono (by decide)) (takes_of rfl rfl rfl rfl) rfl g__law_draw k__law_draw b__law_draw v__law_draw (fun F ρ => .nil) (sa_cons (se_var 0) (sa_cons (se_callB cg_len (sa_cons (se_var 1) sa_nil) rfl h_len (by decide +kernel)) sa_nil))) (sa_cons (se_call F__law_draw hA (hr.mono (by decide)) (takes_of rfl rfl rfl rfl) rfl g__law_draw k__law_draw b__law_draw v__law_draw (fun F ρ => .nil) (sa_cons (se_var 0) (sa_cons (se_callB cg_len (sa_cons (se_var 1) sa_nil) rfl h_len (by decide +kernel)) sa_nil))) sa_nil))) sa_nil) rfl h_sorted (by decide +kernel)) sc__law_stretch.nd)
  (sss_one (ss_ret (se_tup (sa_cons (se_ix (se_var 1) (se_ix (se_var 2) se_int)) (sa_cons (se_ix (se_var 1) (se_ix (se_var 2) se_int)) sa_nil))))))
theorem ok__law_rows (X : K.In h) (Gm : h.Ns mainGlobals mg) (c : He.SaysD fa fn K) (xx : xt K = true) : Dk P w K mg base 4 (He.fAd K ("_law_rows", none)) ["pen", "lot", "dyes", "tally"] m__law_rows [] true := by
  obtain ⟨fd, FD⟩ := c.def_ 16 (d := d__law_rows) rfl
  have x_Book_init : tup0 K (He.dflAt ("Book", some "__init__") 0 K) = true := by simpa [xt] using xx
  obtain ⟨fd__law_stretch, ds__law_stretch, F__law_stretch, b__law_stretch, v__law_stretch, k__law_stretch, bf__law_stretch⟩ := (ok__law_stretch (P := P) (w := w) (base := base) X Gm c xx).ex
  obtain ⟨fd__law_draw, ds__law_draw, F__law_draw, b__law_draw, v__law_draw, k__law_draw, bf__law_draw⟩ := (ok__law_draw (P := P) (w := w) (base := base) X Gm c xx).ex
  have h_tuple := He.free_ok X Gm (c.fact 5 (f := .free "tuple") rfl)
  have h_range := He.free_ok X Gm (c.fact 27 (f := .free "range") rfl)
  have g__law_stretch := He.glo_ok X Gm (c.fact 29 (f := .glo "_law_stretch") rfl)
  have g__law_draw := He.glo_ok X Gm (c.fact 26 (f := .glo "_law_draw") rfl)
  have h_len := He.free_ok X Gm (c.fact 6 (f := .free "len") rfl)
  have bb : Binds K fd ["pen", "lot", "dyes", "tally"] [] := FD.bindsN (fun _ _ _ _ _ _ us hl => match us, hl with | [_, _, _, _], _ => rfl)
  refine ⟨fd, [], ?_, bb, .nil, FD.kp, fun _ => bb⟩
  refine fn_body FD sc__law_rows (fun cdv A outer s H E hA hr => ?_)
  have hu65 := room65 hr
  exact (sss_one (ss_ret (se_callTy cg_tuple (sa_cons (se_lc [("turn", 4)] fin_lstD rfl sc__law_rows.nd (si_rng1 (sa_cons (se_var 3) sa_nil) rfl h_range) (blk_by (N := ["pen", "lot", "dyes", "tally", "turn"]) (sc := defScope s__law_rows) (by decide +kernel)) (fun s H C cl fp => (sg_name 4 sc__law_rows.nd)) (fun s H C cl fp => st_nil) (fun s H C cl fp => (se_bin og_add (se_call F__law_stretch hA (hr.mono (by decide)) takes0 rfl g__law_stretch k__law_stretch b__law_stretch v__law_stretch (fun F ρ => .nil) (sa_cons (se_var 0) (sa_cons (se_var 1) sa_nil))) (se_tup (sa_cons (se_ix (se_var 2) (se_call F__law_draw hA (hr.mono (by decide)) takes0 rfl g__law_draw k__law_draw b__law_draw v__law_draw (fun F ρ => .nil) (sa_cons (se_var 0) (sa_cons (se_callB cg_len (sa_cons (se_var 2) sa_nil) rfl h_len (by decide +kernel)) sa_nil)))) sa_nil))))) sa_nil) rfl h_tuple (by decide +kernel))))
theorem ok__law_writing (X : K.In h) (Gm : h.Ns mainGlobals mg) (c : He.SaysD fa fn K) (xx : xt K = true) : Dk P w K mg base 1 (He.fAd K ("_law_writing", none)) ["rows"] m__law_writing [] true := by
  obtain ⟨fd, FD⟩ := c.def_ 17 (d := d__law_writing) rfl
  have x_Book_init : tup0 K (He.dflAt ("Book", some "__init__") 0 K) = true := by simpa [xt] using xx
  have h_str := He.free_ok X Gm (c.fact 8 (f := .free "str") rfl)
  have bb : Binds K fd ["rows"] [] := FD.bindsN (fun _ _ _ _ _ _ us hl => match us, hl with | [_], _ => rfl)
  refine ⟨fd, [], ?_, bb, .nil, FD.kp, fun _ => bb⟩
  refine fn_body FD sc__law_writing (fun cdv A outer s H E hA hr => ?_)
  have hu65 := room65 hr
  exact (sss_one (ss_ret (se_join se_str (se_lc [("low", 1), ("high", 2), ("dye", 3)] fin_lstD rfl sc__law_writing.nd (si_tup (se_var 0)) (blk_by (N := ["rows", "low", "high", "dye"]) (sc := defScope s__law_writing) (by decide +kernel)) (fun s H C cl fp => (sg_tup rfl (sgs_cons (sg_name 1 sc__law_writing.nd) (sgs_cons (sg_name 2 sc__law_writing.nd) (sgs_cons (sg_name 3 sc__law_writing.nd) sgs_nil))))) (fun s H C cl fp => st_nil) (fun s H C cl fp => (se_bin og_add (se_bin og_add (se_bin og_add (se_bin og_add (se_callTy cg_str (sa_cons (se_var 1) sa_nil) rfl h_str (by decide +kernel)) se_str) (se_callTy cg_str (sa_cons (se_var 2) sa_nil) rfl h_str (by decide +kernel))) se_str) (se_var 3)))))))
theorem ok_law (X : K.In h) (Gm : h.Ns mainGlobals mg) (c : He.SaysD fa fn K) (xx : xt K = true) : Dk P w K mg base 7 (He.fAd K ("law", none)) ["script"] m_law [] true := by
  obtain ⟨fd, FD⟩ := c.def_ 18 (d := d_law) rfl
  have x_Book_init : tup0 K (He.dflAt ("Book", some "__init__") 0 K) = true := by simpa [xt] using xx
  obtain ⟨fd__law_pen, ds__law_pen, F__law_pen, b__law_pen, v__law_pen, k__law_pen, bf__law_pen⟩ := (ok__law_pen (P := P) (w := w) (base := base) X Gm c xx).ex
  obtain ⟨fd__law_lot, ds__law_lot, F__law_lot, b__law_lot, v__law_lot, k__law_lot, bf__law_lot⟩ := (ok__law_lot (P := P) (w := w) (base := base) X Gm c xx).ex
  obtain ⟨fd__law_dyes, ds__law_dyes, F__law_dyes, b__law_dyes, v__law_dyes, k__law_dyes, bf__law_dyes⟩ := (ok__law_dyes (P := P) (w := w) (base := base) X Gm c xx).ex
  obtain ⟨fd__law_rows, ds__law_rows, F__law_rows, b__law_rows, v__law_rows, k__law_rows, bf__law_rows⟩ := (ok__law_rows (P := P) (w := w) (base := base) X Gm c xx).ex
  obtain ⟨fd__law_draw, ds__law_draw, F__law_draw, b__law_draw, v__law_draw, k__law_draw, bf__law_draw⟩ := (ok__law_draw (P := P) (w := w) (base := base) X Gm c xx).ex
  obtain ⟨fd_Book_init, ds_Book_init, F_Book_init, b_Book_init, v_Book_init, k_Book_init, bf_Book_init⟩ := (ok_Book_init (P := P) (w := w) (base := base) X Gm c xx).ex
  have bf_Book_init := bf_Book_init rfl
  have vf_Book_init : Vals [] [] := .nil
  obtain ⟨fd_Book_str, ds_Book_str, F_Book_str, b_Book_str, v_Book_str, k_Book_str, bf_Book_str⟩ := (ok_Book_str (P := P) (w := w) (base := base) X Gm c xx).ex
  obtain ⟨fd__law_writing, ds__law_writing, F__law_writing, b__law_writing, v__law_writing, k__law_writing, bf__law_writing⟩ := (ok__law_writing (P := P) (w := w) (base := base) X Gm c xx).ex
  obtain ⟨fd_Book_put, ds_Book_put, F_Book_put, b_Book_put, v_Book_put, k_Book_put, bf_Book_put⟩ := (ok_Book_put (P := P) (w := w) (base := base) X Gm c xx).ex
  obtain ⟨fd_Book_take, ds_Book_take, F_Book_take, b_Book_take, v_Book_take, k_Book_take, bf_Book_take⟩ := (ok_Book_take (P := P) (w := w) (base := base) X Gm c xx).ex
  have g__law_pen := He.glo_ok X Gm (c.fact 30 (f := .glo "_law_pen") rfl)
  have h_range := He.free_ok X Gm (c.fact 27 (f := .free "range") rfl)
  have g__law_lot := He.glo_ok X Gm (c.fact 31 (f := .glo "_law_lot") rfl)
  have g__law_dyes := He.glo_ok X Gm (c.fact 32 (f := .glo "_law_dyes") rfl)
  have g__law_rows := He.glo_ok X Gm (c.fact 33 (f := .glo "_law_rows") rfl)
  have g__law_draw := He.glo_ok X Gm (c.fact 26 (f := .glo "_law_draw") rfl)
  have g_Book := He.glo_ok X Gm (c.fact 34 (f := .glo "Book") rfl)
  have mk_Book := He.mkr_ok (c.fact 35 (f := .mkr "Book") rfl)
  have cl_Book := He.cls_ok (c.fact 19 (f := .cls "Book") rfl)
  have me_Book_str := He.meth_ok (c.fact 36 (f := .meth "Book" "__str__") rfl)
  have sp_Book_str : Spc K _ "__str__" _ := ⟨me_Book_str.at_, me_Book_str.fn⟩
  have h_str := He.free_ok X Gm (c.fact 8 (f := .free "str") rfl)
  have g__law_writing := He.glo_ok X Gm (c.fact 37 (f := .glo "_law_writing") rfl)
  have h_len := He.free_ok X Gm (c.fact 6 (f := .free "len") rfl)
  have me_Book_put := He.meth_ok (c.fact 38 (f := .meth "Book" "put") rfl)
  have sp_Book_put : Spc K _ "put" _ := ⟨me_Book_put.at_, me_Book_put.fn⟩
  have me_Book_take := He.meth_ok (c.fact 39 (f := .meth "Book" "take") rfl)
  have sp_Book_take : Spc K _ "take" _ := ⟨me_Book_take.at_, me_Book_take.fn⟩
  have g_law := He.glo_ok X Gm (c.fact 40 (f := .glo "law") rfl)
  have bb : Binds K fd ["script"] [] := FD.bindsN (fun _ _ _ _ _ _ us hl => match us, hl with | [_], _ => rfl)
  refine ⟨fd, [], ?_, bb, .nil, FD.kp, fun _ => bb⟩
  refine fn_body FD sc_law (fun cdv A outer s H E hA hr => ?_)
  have hu65 := room65 hr
  exact (sss_cons (ss_set 1 (se_call F__law_pen hA (hr.mono (by decide)) (takes_of rfl rfl rfl rfl) rfl g__law_pen k__law_pen b__law_pen v__law_pen (fun F ρ => .nil) (sa_cons (se_var 0) sa_nil)) sc_law.nd)
  (sss_cons (ss_for (passes_of rfl) rfl (si_rng1 (sa_cons se_int sa_nil) rfl h_range) (sg_name 2 sc_law.nd) (sss_cons (ss_par rfl sc_law.nd (sa_cons (se_call F__law_lot hA (hr.mono (by decide)) (takes_of rfl rfl rfl rfl) rfl g__law_lot k__law_lot b__law_lot v__law_lot (fun F ρ => .nil) (sa_cons (se_var 1) (sa_cons se_int sa_nil))) (sa_cons (se_call F__law_dyes hA (hr.mono (by decide)) (takes_of rfl rfl rfl rfl) rfl g__law_dyes k__law_dyes b__law_dyes v__law_dyes (fun F ρ => .nil) (sa_cons (se_var 1) (sa_cons se_int sa_nil))) sa_nil)))
  (sss_cons (ss_set 3 (se_call F__law_rows hA (hr.mono (by decide)) (takes_of rfl rfl rfl rfl) rfl g__law_rows k__law_rows b__law_rows v__law_rows (fun F ρ => .nil) (sa_cons (se_var 1) (sa_cons (se_var 10) (sa_cons (se_var 11) (sa_cons (se_call F__law_draw hA (hr.mono (by decide)) (takes_of rfl rfl rfl rfl) rfl g__law_draw k__law_draw b__law_draw v__law_draw (fun F ρ => .nil) (sa_cons (se_var 1) (sa_cons se_int sa_nil))) sa_nil))))) sc_law.nd)
  (sss_cons (ss_set 4 (se_make mk_Book F_Book_init rfl hA (hr.mono (by decide)) (takes_of rfl rfl rfl rfl) rfl g_Book bf_Book_init vf_Book_init (fun F ρ => .nil) (sa_cons (se_var 3) sa_nil)) sc_law.nd)
  (sss_cons (ss_if (sb_cmp (og_ne hr.units) (se_callTy (cg_strO sp_Book_str F_Book_str rfl hA (hr.mono (by decide)) (bf_Book_str rfl) rfl) (sa_cons (se_var 4) sa_nil) rfl h_str (by decide +kernel)) (se_call F__law_writing hA (hr.mono (by decide)) (takes_of rfl rfl rfl rfl) rfl g__law_writing k__law_writing b__law_writing v__law_writing (fun F ρ => .nil) (sa_cons (se_var 3) sa_nil))) (sss_one (ss_ret se_bl)) sss_nil)
  (sss_cons (ss_set 5 (se_ix (se_call F__law_rows hA (hr.mono (by decide)) (takes_of rfl rfl rfl rfl) rfl g__law_rows k__law_rows b__law_rows v__law_rows (fun F ρ => .nil) (sa_cons (se_var 1) (sa_cons (se_var 10) (sa_cons (se_var 11) (sa_cons se_int sa_nil))))) se_int) sc_law.nd)
  (sss_cons (ss_set 6 (se_call F__law_draw hA (hr.mono (by decide)) (takes_of rfl rfl rfl rfl) rfl g__law_draw k__law_draw b__law_draw v__law_draw (fun F ρ => .nil) (sa_cons (se_var 1) (sa_cons (se_bin og_add (se_callB cg_len (sa_cons (se_var 3) sa_nil) rfl h_len (by decide +kernel)) se_int) sa_nil))) sc_law.nd)
  (sss_cons (ss_expr (se_meth (se_var 4) rfl cl_Book me_Book_put F_Book_put hA (hr.mono (by decide)) (takes_of rfl rfl rfl rfl) b_Book_put v_Book_put (fun F ρ => .nil) (sa_cons (se_var 6) (sa_cons (se_var 5) sa_nil))))
  (sss_cons (ss_if (sb_cmp (og_ne hr.units) (se_callTy (cg_strO sp_Book_str F_Book_str rfl hA (hr.mono (by decide)) (bf_Book_str rfl) rfl) (sa_cons (se_var 4) sa_nil) rfl h_str (by decide +kernel)) (se_call F__law_writing hA (hr.mono (by decide)) (takes_of rfl rfl rfl rfl) rfl g__law_writing k__law_writing b__law_writing v__law_writing (fun F ρ => .nil) (sa_cons (se_bin og_add (se_bin og_add (se_slice (se_var 3) so_none (so_some (se_var 6))) (se_tup (sa_cons (se_var 5) sa_nil))) (se_slice (se_var 3) (so_some (se_var 6)) so_none)) sa_nil))) (sss_one (ss_ret se_bl)) sss_nil)
  (sss_cons (ss_set 7 (se_call F__law_draw hA (hr.mono (by decide)) (takes_of rfl rfl rfl rfl) rfl g__law_draw k__law_draw b__law_draw v__law_draw (fun F ρ => .nil) (sa_cons (se_var 1) (sa_cons (se_bin og_add (se_callB cg_len (sa_cons (se_var 3) sa_nil) rfl h_len (by decide +kernel)) se_int) sa_nil))) sc_law.nd)
  (sss_cons (ss_set 8 (se_bin og_add (se_bin og_add (se_slice (se_var 3) so_none (so_some (se_var 6))) (se_tup (sa_cons (se_var 5) sa_nil))) (se_slice (se_var 3) (so_some (se_var 6)) so_none)) sc_law.nd)
  (sss_cons (ss_expr (se_meth (se_var 4) rfl cl_Book me_Book_take F_Book_take hA (hr.mono (by decide)) (takes_of rfl rfl rfl rfl) b_Book_take v_Book_take (fun F ρ => .nil) (sa_cons (se_var 7) sa_nil)))
  (sss_cons (ss_set 9 (se_bin og_add (se_slice (se_var 8) so_none (so_some (se_var 7))) (se_slice (se_var 8) (so_some (se_bin og_add (se_var 7) se_int)) so_none)) sc_law.nd)
  (sss_cons (ss_if (sb_cmp (og_ne hr.units) (se_callTy (cg_strO sp_Book_str F_Book_str rfl hA (hr.mono (by decide)) (bf_Book_str rfl) rfl) (sa_cons (se_var 4) sa_nil) rfl h_str (by decide +kernel)) (se_call F__law_writing hA (hr.mono (by decide)) (takes_of rfl rfl rfl rfl) rfl g__law_writing k__law_writing b__law_writing v__law_writing (fun F ρ => .nil) (sa_cons (se_var 9) sa_nil))) (sss_one (ss_ret se_bl)) sss_nil)
  (sss_one (ss_if (sb_cmp (og_ne hr.units) (se_var 9) (se_tup sa_nil)) (sss_cons (ss_par rfl sc_law.nd (sa_cons (se_call F__law_draw hA (hr.mono (by decide)) (takes_of rfl rfl rfl rfl) rfl g__law_draw k__law_draw b__law_draw v__law_draw (fun F ρ => .nil) (sa_cons (se_var 1) (sa_cons (se_callB cg_len (sa_cons (se_var 9) sa_nil) rfl h_len (by decide +kernel)) sa_nil))) (sa_cons (se_call F__law_draw hA (hr.mono (by decide)) (takes_of rfl rfl rfl rfl) rfl g__law_draw k__law_draw b__law_draw v__law_draw (fun F ρ => .nil) (sa_cons (se_var 1) (sa_cons (se_callB cg_len (sa_cons (se_var 9) sa_nil) rfl h_len (by decide +kernel)) sa_nil))) sa_nil)))
  (sss_cons (ss_expr (se_meth (se_var 4) rfl cl_Book me_Book_take F_Book_take hA (hr.mono (by decide)) (takes_of rfl rfl rfl rfl) b_Book_take v_Book_take (fun F ρ => .nil) (sa_cons (se_var 12) sa_nil)))
  (sss_cons (ss_expr (se_meth (se_var 4) rfl cl_Book me_Book_put F_Book_put hA (hr.mono (by decide)) (takes_of rfl rfl rfl rfl) b_Book_put v_Book_put (fun F ρ => .nil) (sa_cons (se_var 13) (sa_cons (se_var 5) sa_nil))))
  (sss_cons (ss_set 9 (se_bin og_add (se_slice (se_var 9) so_none (so_some (se_var 12))) (se_slice (se_var 9) (so_some (se_bin og_add (se_var 12) se_int)) so_none)) sc_law.nd)
  (sss_cons (ss_set 9 (se_bin og_add (se_bin og_add (se_slice (se_var 9) so_none (so_some (se_var 13))) (se_tup (sa_cons (se_var 5) sa_nil))) (se_slice (se_var 9) (so_some (se_var 13)) so_none)) sc_law.nd)
  (sss_one (ss_if (SW.sb (sw_or (sb_cmp (og_ne hr.units) (se_callTy (cg_strO sp_Book_str F_Book_str rfl hA (hr.mono (by decide)) (bf_Book_str rfl) rfl) (sa_cons (se_var 4) sa_nil) rfl h_str (by decide +kernel)) (se_call F__law_writing hA (hr.mono (by decide)) (takes_of rfl rfl rfl rfl) rfl g__law_writing k__law_writing b__law_writing v__law_writing (fun F ρ => .nil) (sa_cons (se_var 9) sa_nil))) (sw_or1 (sb_cmp (og_ne hr.units) (se_callTy (cg_strO sp_Book_str F_Book_str rfl hA (hr.mono (by decide)) (bf_Book_str rfl) rfl) (sa_cons (se_make mk_Book F_Book_init rfl hA (hr.mono (by decide)) (takes_of rfl rfl rfl rfl) rfl g_Book bf_Book_init vf_Book_init (fun F ρ => .nil) (sa_cons (se_var 9) sa_nil)) sa_nil) rfl h_str (by decide +kernel)) (se_callTy (cg_strO sp_Book_str F_Book_str rfl hA (hr.mono (by decide)) (bf_Book_str rfl) rfl) (sa_cons (se_var 4) sa_nil) rfl h_str (by decide +kernel)))))) (sss_one (ss_ret se_bl)) sss_nil))))))) sss_nil))))))))))))))))
  (sss_one (ss_ret (se_and (se_cmp (og_eq hr.units) (se_callTy (cg_strO sp_Book_str F_Book_str rfl hA (hr.mono (by decide)) (bf_Book_str rfl) rfl) (sa_cons (se_make mk_Book F_Book_init rfl hA (hr.mono (by decide)) (takes_of rfl rfl rfl rfl) rfl g_Book bf_Book_init vf_Book_init (fun F ρ => .nil) (sa_cons (se_lst (sa_cons (se_tup (sa_cons se_int (sa_cons se_int (sa_cons se_str sa_nil)))) (sa_cons (se_tup (sa_cons se_int (sa_cons se_int (sa_cons se_str sa_nil)))) sa_nil))) sa_nil)) sa_nil) rfl h_str (by decide +kernel)) se_str) (se_one (se_cmp (og_eq hr.units) (se_callTy (cg_strO sp_Book_str F_Book_str rfl hA (hr.mono (by decide)) (bf_Book_str rfl) rfl) (sa_cons (se_make0 mk_Book F_Book_init rfl hA (hr.mono (by decide)) (takes_of rfl rfl rfl rfl) rfl g_Book b_Book_init v_Book_init (fun F ρ => .cons (tup0_ok x_Book_init F ρ) .nil)) sa_nil) rfl h_str (by decide +kernel)) se_str)))))))
end
end K11

section
set_option maxHeartbeats 4000000
namespace K11
open PySem PySem.Spec PyProof.Rows L2 Tl
/-! ### the pen -/
/-- a pen stands at p, with at most n cells drawn -/
def PenAt (M : Mem) (p n : Nat) : Prop := ∃ (cs : List Int) (c r : Int), M[p]? = some (.lst [.p (.list (cs.map .int)), .p (.int c), .p (.int r)]) ∧ 0 ≤ c ∧ c ≤ n ∧ cs.length ≤ 63
/-- the store but for the pen -/
structure Pn (M M' : Mem) (p n : Nat) : Prop where
  pen : PenAt M' p n
  len : M'.length = M.length
  rest : ∀ l, l ≠ p → M'[l]? = M[l]?
theorem PenAt.le {M : Mem} {p n m : Nat} (h : PenAt M p n) (hm : n ≤ m) : PenAt M p m := by
  obtain ⟨cs, c, r, h1, h2, h3, h4⟩ := h
  exact ⟨cs, c, r, h1, h2, by omega, h4⟩
theorem Pn.le {M M' : Mem} {p n m : Nat} (h : Pn M M' p n) (hm : n ≤ m) : Pn M M' p m := ⟨h.pen.le hm, h.len, h.rest⟩
theorem Pn.trans {M M' M'' : Mem} {p n m : Nat} (a : Pn M M' p n) (b : Pn M' M'' p m) : Pn M M'' p m := ⟨b.pen, b.len.trans a.len, fun l hl => (b.rest l hl).trans (a.rest l hl)⟩
theorem Pn.refl {M : Mem} {p n : Nat} (h : PenAt M p n) : Pn M M p n := ⟨h, rfl, fun _ _ => rfl⟩
theorem at3 {a b c : D} : L2.atI [a, b, c] 0 = some a ∧ L2.atI [a, b, c] 1 = some b ∧ L2.atI [a, b, c] 2 = some c := ⟨rfl, rfl, rfl⟩
theorem ix3 : ixN 3 0 = some 0 ∧ ixN 3 1 = some 1 ∧ ixN 3 2 = some 2 := ⟨rfl, rfl, rfl⟩
theorem atI_in {α : Type} {xs : List α} {i : Int} (h0 : 0 ≤ i) (h1 : i < xs.length) : ∃ d, L2.atI xs i = some d ∧ xs[i.toNat]? = some d := by
  have hl : i.toNat < xs.length := by omega
  refine ⟨xs[i.toNat], ?_, List.getElem?_eq_getElem hl⟩
  unfold L2.atI ixN
  rw [if_pos h0, if_pos h1]
  exact List.getElem?_eq_getElem hl
theorem mul_l {i j : Int} {M : Mem} (h1 : -18446744073709551616 < i) (h2 : i < 18446744073709551616) : mulD (.p (.int i)) (.p (.int j)) M = .ok (.p (.int (i * j))) M := by
  unfold mulD
  exact if_pos (.inl ⟨by omega, by omega⟩)
theorem mul_r {i j : Int} {M : Mem} (h1 : -18446744073709551616 < j) (h2 : j < 18446744073709551616) : mulD (.p (.int i)) (.p (.int j)) M = .ok (.p (.int (i * j))) M := by
  unfold mulD
  exact if_pos (.inr ⟨by omega, by omega⟩)
theorem add_i {i j : Int} {M : Mem} : addD (.p (.int i)) (.p (.int j)) M = .ok (.p (.int (i + j))) M := rfl
theorem sub_i {i j : Int} {M : Mem} : subD (.p (.int i)) (.p (.int j)) M = .ok (.p (.int (i - j))) M := rfl
theorem mod_i {i j : Int} {M : Mem} (h : 0 < j) : modD (.p (.int i)) (.p (.int j)) M = .ok (.p (.int (i % j))) M := if_pos h
theorem fdiv_i {i j : Int} {M : Mem} (h : 0 < j) (h2 : j < 1073741824) : fdivD (.p (.int i)) (.p (.int j)) M = .ok (.p (.int (i / j))) M := if_pos ⟨h, h2⟩
theorem pow_i {i j : Int} {M : Mem} (h1 : -18446744073709551616 < i) (h2 : i < 18446744073709551616) (hn : 0 ≤ j) (hm : j ≤ 1000000) : powD (.p (.int i)) (.p (.int j)) M = .ok (.p (.int (i ^ j.toNat))) M := if_pos ⟨hn, hm, by omega⟩
theorem lt_i {i j : Int} {M : Mem} : ltD (.p (.int i)) (.p (.int j)) M = .ok (.p (.bool (decide (i < j)))) M := rfl
theorem le_i {i j : Int} {M : Mem} : leD (.p (.int i)) (.p (.int j)) M = .ok (.p (.bool (decide (i ≤ j)))) M := rfl
theorem gt_i {i j : Int} {M : Mem} : gtD (.p (.int i)) (.p (.int j)) M = .ok (.p (.bool (decide (j < i)))) M := rfl
theorem ge_i {i j : Int} {M : Mem} : geD (.p (.int i)) (.p (.int j)) M = .ok (.p (.bool (decide (j ≤ i)))) M := rfl
theorem ix_pen {M : Mem} {p : Nat} {a b c : D} (h : M[p]? = some (.lst [a, b, c])) : ixD (.at p) (.p (.int 0)) M = .ok a M ∧ ixD (.at p) (.p (.int 1)) M = .ok b M ∧ ixD (.at p) (.p (.int 2)) M = .ok c M := by
  simp [ixD, seqOf, h, at3]
theorem set_at {M : Mem} {p : Nat} {o o' : MO} (h : M[p]? = some o) : (M.set p o')[p]? = some o' := List.getElem?_set_self (List.getElem?_eq_some_iff.mp h).1
theorem pn_set {M : Mem} {p n : Nat} {o : MO} {cs : List Int} {c r : Int} (h : M[p]? = some o) (h1 : 0 ≤ c) (h2 : c ≤ n) (h3 : cs.length ≤ 63) : Pn M (M.set p (.lst [.p (.list (cs.map .int)), .p (.int c), .p (.int r)])) p n :=
  ⟨⟨cs, c, r, set_at h, h1, h2, h3⟩, List.length_set .., fun l hl => List.getElem?_set_ne (fun z => hl z.symm)⟩
theorem mul_bd {x y a b : Int} (h1 : 0 ≤ x) (h2 : x ≤ a) (h3 : 0 ≤ y) (h4 : y ≤ b) : 0 ≤ x * y ∧ x * y ≤ a * b := ⟨Int.mul_nonneg h1 h3, Int.mul_le_mul h2 h4 h3 (by omega)⟩
theorem mod_bd (x : Int) {m : Int} (h : 0 < m) : 0 ≤ x % m ∧ x % m < m := ⟨Int.emod_nonneg _ (by omega), Int.emod_lt_of_pos _ h⟩
theorem fresh_tail {M : Mem} {p : Nat} {a : List PyData} {c c' r cell : Int} (hs : M[p]? = some (.lst [.p (.list a), .p (.int c'), .p (.int r)])) (h2 : 0 ≤ c) (h3 : c ≤ 1000000) :
    ∃ r', (sSeq (sAsg (bin modD (bin powD (bin addD (bin addD (bin mulD (bin modD (mVar 2) (mC (.p (.int 1000000009)))) (bin addD (mVar 1) (mC (.p (.int 3))))) (bin mulD (mC (.p (.int 99991))) (mVar 1))) (mC (.p (.int 23)))) (mC (.p (.int 3)))) (mC (.p (.int 2147483587)))) (gNm 3))
      (sSeq (sAsg (bin modD (bin powD (bin addD (bin addD (bin mulD (mVar 3) (bin addD (mVar 1) (mC (.p (.int 7))))) (bin modD (mVar 2) (mC (.p (.int 65521))))) (mC (.p (.int 2)))) (mC (.p (.int 5)))) (mC (.p (.int 2147483563)))) (gNm 4))
      (sSeq (sAsg (bin modD (bin addD (bin addD (bin mulD (mVar 4) (mVar 4)) (mVar 3)) (bin mulD (mC (.p (.int 5))) (mVar 1))) (mC (.p (.int 2147483549)))) (gNm 5))
      (sRet (bin addD (bin mulD (bin addD (bin mulD (mVar 5) (mC (.p (.int 2147483587)))) (mVar 4)) (mC (.p (.int 2147483563)))) (mVar 3))))))
        [some (.at p), some (.p (.int c)), some (.p (.int cell)), none, none, none] M = .rt (.p (.int r')) M := by
  have m1 := mod_bd cell (m := 1000000009) (by decide)
  have m2 := mod_bd cell (m := 65521) (by decide)
  have b1 := mul_bd m1.1 (Int.le_of_lt m1.2) (y := c + 3) (b := 1000003) (by omega) (by omega)
  have e1 : ∃ one : Int, 0 ≤ one ∧ one < 2147483587 ∧ bin modD (bin powD (bin addD (bin addD (bin mulD (bin modD (mVar 2) (mC (.p (.int 1000000009)))) (bin addD (mVar 1) (mC (.p (.int 3))))) (bin mulD (mC (.p (.int 99991))) (mVar 1))) (mC (.p (.int 23)))) (mC (.p (.int 3)))) (mC (.p (.int 2147483587)))
      [some (.at p), some (.p (.int c)), some (.p (.int cell)), none, none, none] M = .ok (.p (.int one)) M := by
    refine ⟨(cell % 1000000009 * (c + 3) + 99991 * c + 23) ^ 3 % 2147483587, (mod_bd _ (by decide)).1, (mod_bd _ (by decide)).2, ?_⟩
    simp (disch := omega) only [bin_ap, mVar_ap, mC_ap, List.getElem?_cons_zero, List.getElem?_cons_succ, R.bind_ok, mod_i, add_i, mul_l, pow_i]
    rfl
  obtain ⟨one, o1, o2, e1⟩ := e1
  have b2 := mul_bd o1 (Int.le_of_lt o2) (y := c + 7) (b := 1000007) (by omega) (by omega)
  have e2 : ∃ two : Int, 0 ≤ two ∧ two < 2147483563 ∧ bin modD (bin powD (bin addD (bin addD (bin mulD (mVar 3) (bin addD (mVar 1) (mC (.p (.int 7))))) (bin modD (mVar 2) (mC (.p (.int 65521))))) (mC (.p (.int 2)))) (mC (.p (.int 5)))) (mC (.p (.int 2147483563)))
      [some (.at p), some (.p (.int c)), some (.p (.int cell)), some (.p (.int one)), none, none] M = .ok (.p (.int two)) M := by
    refine ⟨(one * (c + 7) + cell % 65521 + 2) ^ 5 % 2147483563, (mod_bd _ (by decide)).1, (mod_bd _ (by decide)).2, ?_⟩
    simp (disch := omega) only [bin_ap, mVar_ap, mC_ap, List.getElem?_cons_zero, List.getElem?_cons_succ, R.bind_ok, mod_i, add_i, mul_l, pow_i]
    rfl
  obtain ⟨two, t1, t2, e2⟩ := e2
  have e3 : ∃ x : Int, 0 ≤ x ∧ x < 2147483549 ∧ bin modD (bin addD (bin addD (bin mulD (mVar 4) (mVar 4)) (mVar 3)) (bin mulD (mC (.p (.int 5))) (mVar 1))) (mC (.p (.int 2147483549)))
      [some (.at p), some (.p (.int c)), some (.p (.int cell)), some (.p (.int one)), some (.p (.int two)), none] M = .ok (.p (.int x)) M := by
    refine ⟨(two * two + one + 5 * c) % 2147483549, (mod_bd _ (by decide)).1, (mod_bd _ (by decide)).2, ?_⟩
    simp (disch := omega) only [bin_ap, mVar_ap, mC_ap, List.getElem?_cons_zero, List.getElem?_cons_succ, R.bind_ok, mod_i, add_i, mul_l]
  obtain ⟨x, x1, x2, e3⟩ := e3
  refine ⟨(x * 2147483587 + two) * 2147483563 + one, ?_⟩
  simp only [sSeq_ap, sAsg_ap, e1, e2, e3, R.go_ok, gNm_one, List.set, SR.seq_nx, sRet_ap]
  simp (disch := omega) only [bin_ap, mVar_ap, mC_ap, List.getElem?_cons_zero, List.getElem?_cons_succ, R.bind_ok, add_i, mul_l, mul_r, R.go_ok]
theorem fresh_ok {M : Mem} {p n : Nat} (h : PenAt M p n) (hn : n ≤ 1000000) : ∃ (r : Int) (M' : Mem), m__law_fresh [.at p] M = .ok (.p (.int r)) M' ∧ Pn M M' p (n + 1) := by
  obtain ⟨cs, c, r, h1, h2, h3, h4⟩ := h
  have hs : (M.set p (.lst [.p (.list (cs.map .int)), .p (.int (c + 1)), .p (.int r)]))[p]? = some (.lst [.p (.list (cs.map .int)), .p (.int (c + 1)), .p (.int r)]) := set_at h1
  have hP : Pn M (M.set p (.lst [.p (.list (cs.map .int)), .p (.int (c + 1)), .p (.int r)])) p (n + 1) := pn_set h1 (by omega) (by omega) h4
  revert hs hP
  generalize hM : M.set p (.lst [.p (.list (cs.map .int)), .p (.int (c + 1)), .p (.int r)]) = M1
  intro hs hP
  -- the cell
  have hcell : ∃ cell : Int, (if (0 : Int) < cs.length then True else True) ∧ ((sIf (asB (bin gtD (app lenD (aCons (bin ixD (mVar 0) (mC (.p (.int 0)))) aNil)) (mC (.p (.int 0))))) (sAsg (bin ixD (bin ixD (mVar 0) (mC (.p (.int 0)))) (bin modD (mVar 1) (app lenD (aCons (bin ixD (mVar 0) (mC (.p (.int 0)))) aNil)))) (gNm 2)) sNil)
      [some (.at p), some (.p (.int c)), some (.p (.int (29 * c + 13))), none, none, none] M1 = .nx [some (.at p), some (.p (.int c)), some (.p (.int cell)), none, none, none] M1) := by
    by_cases hl : (0 : Int) < cs.length
    · have mb := mod_bd c hl
      obtain ⟨d, d1, d2⟩ := atI_in (xs := (cs.map PyData.int).map D.p) (i := c % cs.length) mb.1 (by simpa using mb.2)
      rw [List.getElem?_map, List.getElem?_map] at d2
      obtain ⟨y, y1, y2⟩ := Option.map_eq_some_iff.mp d2
      obtain ⟨z, z1, z2⟩ := Option.map_eq_some_iff.mp y1
      subst z2; subst y2
      refine ⟨z, by simp, ?_⟩
      have hix : ixD (.p (.list (cs.map .int))) (.p (.int (c % cs.length))) M1 = .ok (.p (.int z)) M1 := by
        show (match L2.atI ((cs.map PyData.int).map D.p) (c % cs.length) with | some d => R.ok d M1 | none => .er) = _
        rw [d1]
      have hl2 : 0 < cs.length := by omega
      have hmd := mod_i (i := c) (M := M1) hl
      simp [(ix_pen hs).1, lenD, seqOf, gt_i, hl2, hmd, hix]
    · refine ⟨29 * c + 13, by simp, ?_⟩
      have hl2 : ¬ 0 < cs.length := by omega
      simp [(ix_pen hs).1, lenD, seqOf, gt_i, hl2]
  obtain ⟨cell, -, hcell⟩ := hcell
  obtain ⟨r', htail⟩ := fresh_tail (cell := cell) (c := c) hs h2 (by omega)
  have fin : ∃ r2, (sSeq (sIf (tAndD (asB (bin ltD (mVar 1) (app lenD (aCons (bin ixD (mVar 0) (mC (.p (.int 0)))) aNil)))) (asB (bin geD (mVar 2) (bin powD (mC (.p (.int 10))) (mC (.p (.int 18))))))) (sRet (mVar 2)) sNil)
      (sSeq (sAsg (bin modD (bin powD (bin addD (bin addD (bin mulD (bin modD (mVar 2) (mC (.p (.int 1000000009)))) (bin addD (mVar 1) (mC (.p (.int 3))))) (bin mulD (mC (.p (.int 99991))) (mVar 1))) (mC (.p (.int 23)))) (mC (.p (.int 3)))) (mC (.p (.int 2147483587)))) (gNm 3))
      (sSeq (sAsg (bin modD (bin powD (bin addD (bin addD (bin mulD (mVar 3) (bin addD (mVar 1) (mC (.p (.int 7))))) (bin modD (mVar 2) (mC (.p (.int 65521))))) (mC (.p (.int 2)))) (mC (.p (.int 5)))) (mC (.p (.int 2147483563)))) (gNm 4))
      (sSeq (sAsg (bin modD (bin addD (bin addD (bin mulD (mVar 4) (mVar 4)) (mVar 3)) (bin mulD (mC (.p (.int 5))) (mVar 1))) (mC (.p (.int 2147483549)))) (gNm 5))
      (sRet (bin addD (bin mulD (bin addD (bin mulD (mVar 5) (mC (.p (.int 2147483587)))) (mVar 4)) (mC (.p (.int 2147483563)))) (mVar 3)))))))
        [some (.at p), some (.p (.int c)), some (.p (.int cell)), none, none, none] M1 = .rt (.p (.int r2)) M1 := by
    have e18 : powD (.p (.int 10)) (.p (.int 18)) M1 = .ok (.p (.int 1000000000000000000)) M1 := rfl
    rw [sSeq_ap]
    by_cases ha : c < cs.length
    · by_cases hb : (1000000000000000000 : Int) ≤ cell
      · exact ⟨cell, by simp [(ix_pen hs).1, lenD, seqOf, lt_i, ge_i, e18, ha, hb]⟩
      · refine ⟨r', ?_⟩
        rw [← htail]
        simp only [sIf_ap, tAnd_ap, asB_ap, bin_ap, app_ap, aCons_ap, aNil_ap, mVar_ap, mC_ap, List.getElem?_cons_zero, List.getElem?_cons_succ, R.bind_ok, (ix_pen hs).1]
        simp only [lenD, seqOf, List.length_map, R.bind_ok, lt_i, ge_i, e18, ha, hb, decide_true, decide_false, if_true, R.go_ok, sNil_ap]
        simp
    · refine ⟨r', ?_⟩
      rw [← htail]
      simp only [sIf_ap, tAnd_ap, asB_ap, bin_ap, app_ap, aCons_ap, aNil_ap, mVar_ap, mC_ap, List.getElem?_cons_zero, List.getElem?_cons_succ, R.bind_ok, (ix_pen hs).1]
      simp only [lenD, seqOf, List.length_map, R.bind_ok, lt_i, ha, decide_false, R.go_ok, sNil_ap]
      simp
  obtain ⟨r2, fin⟩ := fin
  refine ⟨r2, M1, ?_, hP⟩
  have e1 := (ix_pen h1).2.1
  refine runB_rt ?_
  show b__law_fresh [some (.at p), none, none, none, none, none] M = _
  have s1 : sAsg (bin ixD (mVar 0) (mC (.p (.int 1)))) (gNm 1) [some (.at p), none, none, none, none, none] M = .nx [some (.at p), some (.p (.int c)), none, none, none, none] M := by
    simp [e1]
  have s2 : sSub (bin addD (mVar 1) (mC (.p (.int 1)))) (mVar 0) (mC (.p (.int 1))) [some (.at p), some (.p (.int c)), none, none, none, none] M = .nx [some (.at p), some (.p (.int c)), none, none, none, none] M1 := by
    simp [add_i, h1, ix3, hM]
  have s3 : sAsg (bin addD (bin mulD (mC (.p (.int 29))) (mVar 1)) (mC (.p (.int 13)))) (gNm 2) [some (.at p), some (.p (.int c)), none, none, none, none] M1 = .nx [some (.at p), some (.p (.int c)), some (.p (.int (29 * c + 13))), none, none, none] M1 := by
    simp [add_i, mul_l]
  unfold b__law_fresh
  rw [sSeq_ap, s1, SR.seq_nx, sSeq_ap, s2, SR.seq_nx, sSeq_ap, s3, SR.seq_nx, sSeq_ap, hcell, SR.seq_nx, fin]
theorem draw_ok {M : Mem} {p n : Nat} {k : Int} (h : PenAt M p n) (hn : n ≤ 1000000) (h0 : 0 < k) (h1 : k < 1073741824) : ∃ (d : Int) (M' : Mem), m__law_draw [.at p, .p (.int k)] M = .ok (.p (.int d)) M' ∧ 0 ≤ d ∧ d < k ∧ Pn M M' p (n + 1) := by
  have main : ∀ M1, Pn M M1 p (n + 1) → ∃ (d : Int) (M' : Mem), 0 ≤ d ∧ d < k ∧ Pn M M' p (n + 1) ∧ (sSeq (sAsg (bin modD (bin ixD (mVar 0) (mC (.p (.int 2)))) (mVar 1)) (gNm 2))
      (sSeq (sSub (bin fdivD (bin ixD (mVar 0) (mC (.p (.int 2)))) (mVar 1)) (mVar 0) (mC (.p (.int 2)))) (sRet (mVar 2)))) [some (.at p), some (.p (.int k)), none] M1 = .rt (.p (.int d)) M' := by
    intro M1 hP
    obtain ⟨cs, c, r, g1, g2, g3, g4⟩ := hP.pen
    have mb := mod_bd r h0
    refine ⟨r % k, M1.set p (.lst [.p (.list (cs.map .int)), .p (.int c), .p (.int (r / k))]), mb.1, mb.2, hP.trans (pn_set g1 g2 g3 g4), ?_⟩
    have e2 := (ix_pen g1).2.2
    simp [e2, mod_i h0, fdiv_i h0 h1, g1, ix3]
  obtain ⟨cs, c, r, g1, g2, g3, g4⟩ := id h
  have e2 := (ix_pen g1).2.2
  have go : ∀ {v M'}, b__law_draw [some (.at p), some (.p (.int k)), none] M = .rt v M' → m__law_draw [.at p, .p (.int k)] M = .ok v M' := fun h => runB_rt h
  by_cases hr : r < k
  · obtain ⟨r', M1, f1, f2⟩ := fresh_ok h hn
    obtain ⟨cs', c', r0, q1, q2, q3, q4⟩ := f2.pen
    have hP : Pn M (M1.set p (.lst [.p (.list (cs'.map .int)), .p (.int c'), .p (.int r')])) p (n + 1) := f2.trans (pn_set q1 q2 q3 q4)
    obtain ⟨d, M', d1, d2, d3, d4⟩ := main _ hP
    have s1 : sIf (asB (bin ltD (bin ixD (mVar 0) (mC (.p (.int 2)))) (mVar 1))) (sSub (callG 1 m__law_fresh [] (aCons (mVar 0) aNil)) (mVar 0) (mC (.p (.int 2)))) sNil [some (.at p), some (.p (.int k)), none] M = .nx [some (.at p), some (.p (.int k)), none] (M1.set p (.lst [.p (.list (cs'.map .int)), .p (.int c'), .p (.int r')])) := by
      simp [e2, lt_i, hr, f1, q1, ix3]
    exact ⟨d, M', go (by unfold b__law_draw; rw [sSeq_ap, s1, SR.seq_nx, d4]), d1, d2, d3⟩
  · obtain ⟨d, M', d1, d2, d3, d4⟩ := main M (Pn.refl (h.le (Nat.le_succ _)))
    have s1 : sIf (asB (bin ltD (bin ixD (mVar 0) (mC (.p (.int 2)))) (mVar 1))) (sSub (callG 1 m__law_fresh [] (aCons (mVar 0) aNil)) (mVar 0) (mC (.p (.int 2)))) sNil [some (.at p), some (.p (.int k)), none] M = .nx [some (.at p), some (.p (.int k)), none] M := by
      simp [e2, lt_i, hr]
    exact ⟨d, M', go (by unfold b__law_draw; rw [sSeq_ap, s1, SR.seq_nx, d4]), d1, d2, d3⟩
theorem pen_ok {ns : List Int} (h : ns.length ≤ 63) (M : Mem) : ∃ M', m__law_pen [.scr ns] M = .ok (.at M.length) (M ++ [M']) ∧ PenAt (M ++ [M']) M.length 0 := by
  have hc : (cutA ns none (some 60)).length ≤ 63 := Nat.le_trans (cutA_len _ _ _) h
  refine ⟨.lst [.p (.list ((cutA ns none (some 60)).map .int)), .p (.int 0), .p (.int 0)], ?_, cutA ns none (some 60), 0, 0, by simp, by decide, by decide, hc⟩
  have hz : (cutA ns none (some 60)).length ≤ sizeLine := Nat.le_trans hc (by decide)
  have hl := lstD_map (n := 0) ((cutA ns none (some 60)).map PyData.int) M (by rw [List.length_map]; exact hz)
  have h3 : (3 : Nat) ≤ sizeLine := by decide
  refine runB_rt ?_
  show b__law_pen [some (.scr ns)] M = _
  unfold b__law_pen
  simp only [sRet_ap, app_ap, aCons_ap, aNil_ap, slice_ap, mVar_ap, mC_ap, oNone_ap, oSome_ap, List.getElem?_cons_zero, R.bind_ok, slD, listD, seqOf, hl]
  simp [lstM, h3]
/-! ### numbers, places, stretches, colours, strokes -/
def wholeB (k : Int) : PyData → Bool
  | .int i => decide (k ≤ i)
  | _ => false
def placeB : PyData → Bool
  | .int i => decide (0 ≤ i) && decide (i ≤ 1000000000)
  | _ => false
abbrev letters : Str := "abcdefghijklmnopqrstuvwxyz"
def nameB : PyData → Bool
  | .str x => decide (1 ≤ x.length) && decide (x.length ≤ 8) && x.cps.toList.all fun c => decide (c ∈ letters.cps.toList)
  | _ => false
def stretchB : PyData → Bool
  | .tuple [.int a, .int b] => placeB (.int a) && placeB (.int b) && decide (a ≤ b)
  | _ => false
def strokeB : PyData → Bool
  | .tuple [.int a, .int b, c] => stretchB (.tuple [.int a, .int b]) && nameB c
  | _ => false
theorem whole_ok (d : PyData) (k : Int) (M : Mem) : m_is_whole [.p d, .p (.int k)] M = .ok (.p (.bool (wholeB k d))) M := by
  refine runB_rt ?_
  show b_is_whole [some (.p d), some (.p (.int k))] M = _
  unfold b_is_whole
  cases d <;> simp [isiD, tyB, ge_i, wholeB]
theorem place_ok (d : PyData) (M : Mem) : m_is_place [.p d] M = .ok (.p (.bool (placeB d))) M := by
  refine runB_rt ?_
  show b_is_place [some (.p d)] M = _
  unfold b_is_place
  cases d <;> simp [whole_ok, wholeB, placeB, le_i]
  split <;> simp_all
  all_goals omega
theorem ix2 {a b : D} : L2.atI [a, b] 0 = some a ∧ L2.atI [a, b] 1 = some b := ⟨rfl, rfl⟩
theorem stretch_ok (d : PyData) (M : Mem) (hs : ∀ x, d = .str x → x.length ≤ sizeLine) : m_is_stretch [.p d] M = .ok (.p (.bool (stretchB d))) M := by
  refine runB_rt ?_
  show b_is_stretch [some (.p d)] M = _
  unfold b_is_stretch
  match d with
  | .tuple [] => simp [isiD, tyB, lenD, seqOf, ne_i, stretchB]
  | .tuple [a] => simp [isiD, tyB, lenD, seqOf, ne_i, stretchB]
  | .tuple [a, b] =>
    have e0 : ixD (.p (.tuple [a, b])) (.p (.int 0)) M = .ok (.p a) M := rfl
    have e1 : ixD (.p (.tuple [a, b])) (.p (.int 1)) M = .ok (.p b) M := rfl
    simp only [sSeq_ap, sIf_ap, tOr_ap, tNot_ap, asB_ap, app_ap, aCons_ap, aNil_ap, mVar_ap, mC_ap, List.getElem?_cons_zero, R.bind_ok, isiD, tyB, kit_tuple_tuple, Bool.not_true, bin_ap, lenD, seqOf, List.map_cons, List.map_nil, List.length_cons, List.length_nil, ne_i]
    simp only [e0, e1, sRet_ap, and_ap, callG_ap, aCons_ap, bin_ap, mVar_ap, mC_ap, aNil_ap, List.getElem?_cons_zero, R.bind_ok, place_ok]
    simp [place_ok, e0, e1]
    cases a <;> cases b <;> simp [placeB, stretchB, le_i]
    all_goals (repeat' split) <;> simp_all
    all_goals omega
  | .tuple (a :: b :: c :: r) =>
    have hn : ¬ ((r.length : Int) + 1 + 1 + 1 = 2) := by omega
    simp [isiD, tyB, lenD, seqOf, ne_i, stretchB, hn]
  | .none => simp [isiD, tyB, stretchB]
  | .bool _ => simp [isiD, tyB, stretchB]
  | .int _ => simp [isiD, tyB, stretchB]
  | .str _ => simp [isiD, tyB, stretchB]
  | .list _ => simp [isiD, tyB, stretchB]
  | .dict _ => simp [isiD, tyB, stretchB]
theorem name_ok (d : PyData) (M : Mem) (hs : ∀ x, d = .str x → x.length ≤ sizeLine) : m_is_name [.p d] M = .ok (.p (.bool (nameB d))) M := by
  refine runB_rt ?_
  show b_is_name [some (.p d), none] M = _
  unfold b_is_name
  match d with
  | .none => simp [isiD, tyB, nameB]
  | .bool _ => simp [isiD, tyB, nameB]
  | .int _ => simp [isiD, tyB, nameB]
  | .list _ => simp [isiD, tyB, nameB]
  | .tuple _ => simp [isiD, tyB, nameB]
  | .dict _ => simp [isiD, tyB, nameB]
  | .str x =>
    have hx := hs x rfl
    by_cases h1 : 1 ≤ x.length
    · by_cases h2 : x.length ≤ 8
      · have hz : x.cps.toList.length ≤ sizeLine := by simpa [Str.length] using hx
        have hl := lcL_map (ck := fun _ => True) (g := gNm 1) (tt := bYes) (te := bin inD (mVar 1) (mC (.p (.str letters)))) (σ := [some (.p (.str x)), none]) (M := M)
          (fun it => match it with | .one (.p (.str y)) => .p (.bool (decide (y.cps.getD 0 0 ∈ letters.cps.toList))) | _ => .p .none) trivial (x.cps.toList.map fun c => .one (.p (.str ⟨#[c]⟩))) [] (fun it hit => by
            obtain ⟨c, hc, rfl⟩ := List.mem_map.mp hit
            refine ⟨_, rfl, rfl, ?_⟩
            simp [inD])
        have hl2 := lstD_map (n := 0) (x.cps.toList.map fun c => PyData.bool (decide (c ∈ letters.cps.toList))) M (by simpa using hz)
        have hm : (x.cps.toList.map fun c => Item.one (.p (.str ⟨#[c]⟩))).map (fun it => match it with | .one (.p (.str y)) => D.p (.bool (decide (y.cps.getD 0 0 ∈ letters.cps.toList))) | _ => .p .none) = (x.cps.toList.map fun c => PyData.bool (decide (c ∈ letters.cps.toList))).map D.p := by
          rw [List.map_map, List.map_map]
          rfl
        have hA : app allD (aCons (mLc (wStr (mVar 0)) (gNm 1) bYes (bin inD (mVar 1) (mC (.p (.str letters)))) [1] lstD) aNil) [some (.p (.str x)), none] M = .ok (.p (.bool (x.cps.toList.all fun c => decide (c ∈ letters.cps.toList)))) M := by
          have hw : wipeG [some (D.p (.str x)), none] [1] = [some (.p (.str x)), none] := rfl
          have hz2 : (x.cps.toList.map fun c => Item.one (.p (.str ⟨#[c]⟩))).length ≤ sizeLine := by rw [List.length_map]; exact hz
          rw [app_ap, aCons_ap, mLc_ap, wStr_ap]
          simp only [mVar_ap, List.getElem?_cons_zero, R.bind_ok, hw]
          rw [if_pos hz2, hl, R.bind_ok, List.nil_append, hm, hl2]
          have hb := unB_map (x.cps.toList.map fun c => decide (c ∈ letters.cps.toList))
          rw [List.map_map] at hb
          have hq : unB ((x.cps.toList.map fun c => PyData.bool (decide (c ∈ letters.cps.toList))).map D.p) = some (x.cps.toList.map fun c => decide (c ∈ letters.cps.toList)) := by
            rw [List.map_map]; exact hb
          simp only [R.bind_ok, aNil_ap, allD, onB, seqOf, hq]
          rw [List.all_map]
          rfl
        have h1' : (1 : Int) ≤ x.length := by omega
        have h2' : (x.length : Int) ≤ 8 := by omega
        have hB : app isiD (aCons (mVar 0) (aCons (mC (.raw (.ty "str"))) aNil)) [some (.p (.str x)), none] M = .ok (.p (.bool true)) M := by simp [isiD, tyB]
        have hC : chain leD leD (mC (.p (.int 1))) (app lenD (aCons (mVar 0) aNil)) (mC (.p (.int 8))) [some (.p (.str x)), none] M = .ok (.p (.bool true)) M := by simp [lenD, hx, le_i, h1', h2']
        rw [sRet_ap, and_ap, hB]
        simp only [R.bind_ok, if_true]
        rw [and_ap, hC]
        simp only [R.bind_ok, if_true]
        rw [hA]
        simp [nameB, h1, h2]
      · have h2' : ¬ ((x.length : Int) ≤ 8) := by omega
        have h1' : (1 : Int) ≤ x.length := by omega
        simp [isiD, tyB, lenD, hx, le_i, h1', h2', nameB, h2]
    · have h1' : ¬ ((1 : Int) ≤ x.length) := by omega
      simp [isiD, tyB, lenD, hx, le_i, h1', nameB, h1]

theorem colour_ok (d : PyData) (M : Mem) (hs : ∀ x, d = .str x → x.length ≤ sizeLine) : m_is_colour [.p d] M = .ok (.p (.bool (nameB d))) M := by
  refine runB_rt ?_
  show b_is_colour [some (.p d)] M = _
  unfold b_is_colour
  simp [name_ok d M hs]
/-- no text of a tuple's is longer than a line -/
def FewS : PyData → Prop
  | .str x => x.length ≤ sizeLine
  | .tuple ds => ∀ x, .str x ∈ ds → x.length ≤ sizeLine
  | _ => True
theorem stroke_ok (d : PyData) (M : Mem) (hs : FewS d) : m_is_stroke [.p d] M = .ok (.p (.bool (strokeB d))) M := by
  refine runB_rt ?_
  show b_is_stroke [some (.p d)] M = _
  unfold b_is_stroke
  match d with
  | .tuple [] => simp [isiD, tyB, lenD, seqOf, eq_i, strokeB]
  | .tuple [a] => simp [isiD, tyB, lenD, seqOf, eq_i, strokeB]
  | .tuple [a, b] => simp [isiD, tyB, lenD, seqOf, eq_i, strokeB]
  | .tuple [a, b, c] =>
    have e0 : slD (.p (.tuple [a, b, c])) none (some 2) M = .ok (.p (.tuple [a, b])) M := rfl
    have e2 : ixD (.p (.tuple [a, b, c])) (.p (.int 2)) M = .ok (.p c) M := rfl
    have s1 := stretch_ok (.tuple [a, b]) M (fun x e => nomatch e)
    have s2 := colour_ok c M (fun x e => hs x (by rw [← e]; simp))
    simp [isiD, tyB, lenD, seqOf, eq_i, e0, e2, s1, s2]
    cases a <;> cases b <;> simp [strokeB, stretchB]
    rename_i i j
    cases placeB (.int i) <;> cases placeB (.int j) <;> by_cases hij : i ≤ j <;> simp [hij]
  | .tuple (a :: b :: c :: e :: r) =>
    have hn : ¬ ((r.length : Int) + 1 + 1 + 1 + 1 = 3) := by omega
    simp [isiD, tyB, lenD, seqOf, eq_i, strokeB, hn]
  | .none => simp [isiD, tyB, strokeB]
  | .bool _ => simp [isiD, tyB, strokeB]
  | .int _ => simp [isiD, tyB, strokeB]
  | .str _ => simp [isiD, tyB, strokeB]
  | .list _ => simp [isiD, tyB, strokeB]
  | .dict _ => simp [isiD, tyB, strokeB]
/-! ### a book -/
/-- a book at b whose row at r holds these strokes -/
structure BookAt (M : Mem) (b r : Nat) (rows : List PyData) : Prop where
  ob : M[b]? = some (.ins "Book" [("row", .at r)])
  row : M[r]? = some (.lst (rows.map .p))
theorem BookAt.ne {M : Mem} {b r : Nat} {rows : List PyData} (h : BookAt M b r rows) : b ≠ r := fun e => by
  have h1 := h.ob
  rw [e, h.row] at h1
  cases h1
theorem BookAt.keep {M M' : Mem} {b r : Nat} {rows : List PyData} (h : BookAt M b r rows) (k1 : M'[b]? = M[b]?) (k2 : M'[r]? = M[r]?) : BookAt M' b r rows := ⟨k1.trans h.ob, k2.trans h.row⟩
theorem BookAt.put {M : Mem} {b r : Nat} {rows rows' : List PyData} (h : BookAt M b r rows) : BookAt (M.set r (.lst (rows'.map .p))) b r rows' :=
  ⟨by rw [List.getElem?_set_ne h.ne.symm]; exact h.ob, set_at h.row⟩
theorem init_ok {M : Mem} {l : Nat} {d : PyData} {ds : List PyData} (hl : M[l]? = some (.ins "Book" [])) (hd : d = .tuple ds ∨ d = .list ds) (hf : ∀ x ∈ ds, FewS x) (hz : ds.length ≤ sizeLine) :
    m_Book_init [.at l, .p d] M = if ds.all strokeB = true then .ok (.p .none) ((M ++ [MO.lst (ds.map .p)]).set l (.ins "Book" [("row", .at M.length)])) else .ex "BadStroke" none M := by
  have hw : wAny (mVar 1) [some (.at l), some (.p d), none] M = .ok (ds.map fun d => Item.one (.p d), fun _ => True) M := by
    rcases hd with rfl | rfl <;> simp [isTu]
  have ha := all_map (te := callG 1 m_is_stroke [] (aCons (mVar 2) aNil)) (vs := [2]) (i := 2) ds strokeB hw trivial hz (fun x hx => by
    have := stroke_ok x M (hf x hx)
    simp [wipeG, this])
  have hi : isiT ["tuple", "list"] (mVar 1) [some (.at l), some (.p d), none] M = .ok (.p (.bool true)) M := by
    rcases hd with rfl | rfl <;> simp [tyB, kitAll]
  have hc : tOrD (tNotD (asB (isiT ["tuple", "list"] (mVar 1)))) (tNotD (asB (app allD (aCons (mLc (wAny (mVar 1)) (gNm 2) bYes (callG 1 m_is_stroke [] (aCons (mVar 2) aNil)) [2] lstD) aNil)))) [some (.at l), some (.p d), none] M = .ok (!ds.all strokeB) M := by
    rw [tOr_ap, tNot_ap, asB_ap, hi]
    simp only [R.bind_ok, Bool.not_true]
    rw [tNot_ap, asB_ap, ha]
    simp
  by_cases hall : ds.all strokeB = true
  · rw [if_pos hall]
    refine runB_nx (σ := [some (.at l), some (.p d), none]) ?_
    show b_Book_init [some (.at l), some (.p d), none] M = _
    unfold b_Book_init
    rw [sSeq_ap, sIf_ap, hc, hall]
    obtain ⟨k, hq⟩ : ∃ k, seqOf M (.p d) = some (k, ds.map .p) := by rcases hd with rfl | rfl <;> exact ⟨_, rfl⟩
    have hll : l < M.length := (List.getElem?_eq_some_iff.mp hl).1
    have hl2 : (M ++ [MO.lst (ds.map .p)])[l]? = some (.ins "Book" []) := by rw [List.getElem?_append_left hll]; exact hl
    have hz2 : (ds.map D.p).length ≤ sizeLine := by rw [List.length_map]; exact hz
    have hL : listD lstM [.p d] M = .ok (.at M.length) (M ++ [MO.lst (ds.map .p)]) := by
      have : listD lstM [.p d] M = lstM (ds.map .p) M := by simp only [listD, hq]
      rw [this, lstM, if_pos hz2]
    simp only [R.go_ok, Bool.not_true, Bool.false_eq_true, if_false, sNil_ap, SR.seq_nx]
    simp [hL, hl2, putG]
  · rw [if_neg hall]
    refine runB_ex (σ := [some (.at l), some (.p d), none]) ?_
    show b_Book_init [some (.at l), some (.p d), none] M = _
    unfold b_Book_init
    rw [sSeq_ap, sIf_ap, hc]
    have hb : ds.all strokeB = false := by simpa using hall
    rw [hb]
    simp
theorem app_two (M : Mem) (x y : MO) : (M ++ [x, y])[M.length]? = some x ∧ (M ++ [x, y])[M.length + 1]? = some y := by
  constructor
  · rw [List.getElem?_append_right (Nat.le_refl _)]; simp
  · rw [List.getElem?_append_right (Nat.le_succ _)]; simp
theorem app_old (M : Mem) (xs : List MO) {l : Nat} (h : l < M.length) : (M ++ xs)[l]? = M[l]? := List.getElem?_append_left h
/-- Book(d) -/
theorem init_new {M : Mem} {d : PyData} {ds : List PyData} (hd : d = .tuple ds ∨ d = .list ds) (hf : ∀ x ∈ ds, FewS x) (hz : ds.length ≤ sizeLine) (ha : ds.all strokeB = true) :
    m_Book_init [.at M.length, .p d] (M ++ [.ins "Book" []]) = .ok (.p .none) (M ++ [.ins "Book" [("row", .at (M.length + 1))], .lst (ds.map .p)]) := by
  rw [init_ok (ds := ds) (by simp) hd hf hz, if_pos ha]
  simp
theorem init_newAt {M : Mem} {ds : List PyData} : BookAt (M ++ [.ins "Book" [("row", .at (M.length + 1))], .lst (ds.map .p)]) M.length (M.length + 1) ds := ⟨(app_two M _ _).1, (app_two M _ _).2⟩
/-- book.put(s, d) -/
theorem put_ok {M : Mem} {b r : Nat} {rows : List PyData} {s : Int} {d : PyData} (h : BookAt M b r rows) (h0 : 0 ≤ s) (h1 : s ≤ rows.length) (hd : strokeB d = true) (hf : FewS d) (hz : rows.length < sizeLine) :
    m_Book_put [.at b, .p (.int s), .p d] M = .ok (.p .none) (M.set r (.lst ((rows.take s.toNat ++ [d] ++ rows.drop s.toNat).map .p))) := by
  refine runB_nx (σ := [some (.at b), some (.p (.int s)), some (.p d)]) ?_
  show b_Book_put [some (.at b), some (.p (.int s)), some (.p d)] M = _
  unfold b_Book_put
  have hs : s < 9223372036854775808 := by have : sizeLine = 16777216 := rfl; omega
  have hn : ¬ ((rows.length : Int) < s) := by omega
  simp [whole_ok, wholeB, h0, h.ob, h.row, lenD, seqOf, gt_i, hn, stroke_ok d M hf, hd, isLst, insertD, hz, hs]
theorem put_bad {M : Mem} {b r : Nat} {rows : List PyData} {s d : PyData} (h : BookAt M b r rows) (hs : wholeB 0 s = false ∨ ∃ i, s = .int i ∧ (rows.length : Int) < i) : m_Book_put [.at b, .p s, .p d] M = .ex "NoSlot" none M := by
  refine runB_ex (σ := [some (.at b), some (.p s), some (.p d)]) ?_
  show b_Book_put [some (.at b), some (.p s), some (.p d)] M = _
  unfold b_Book_put
  by_cases hw : wholeB 0 s = true
  · rcases hs with h2 | ⟨i, rfl, hi⟩
    · rw [hw] at h2; cases h2
    · simp [whole_ok, hw, h.ob, h.row, lenD, seqOf, gt_i, hi]
  · have hw2 : wholeB 0 s = false := by simpa using hw
    simp [whole_ok, hw2]
theorem take_map {rows : List PyData} {k : Nat} : (rows.map D.p).eraseIdx k = (rows.eraseIdx k).map D.p := by
  rw [List.eraseIdx_eq_take_drop_succ, List.eraseIdx_eq_take_drop_succ, List.map_append, List.map_take, List.map_drop]
/-- book.take(n) -/
theorem take_ok {M : Mem} {b r : Nat} {rows : List PyData} {n : Int} {d : PyData} (h : BookAt M b r rows) (h0 : 0 ≤ n) (h1 : n < rows.length) (hd : rows[n.toNat]? = some d) (hz : rows.length ≤ sizeLine) :
    m_Book_take [.at b, .p (.int n)] M = .ok (.p d) (M.set r (.lst ((rows.eraseIdx n.toNat).map .p))) := by
  refine runB_rt ?_
  show b_Book_take [some (.at b), some (.p (.int n))] M = _
  unfold b_Book_take
  have hs : n < 9223372036854775808 := by have : sizeLine = 16777216 := rfl; omega
  have hs0 : -9223372036854775808 ≤ n := by omega
  have hn : ¬ ((rows.length : Int) ≤ n) := by omega
  have hi : seqIndex? n rows.length = some n.toNat := by
    unfold seqIndex?
    have : ¬ n < 0 := by omega
    simp [this, h0, h1]
  simp [whole_ok, wholeB, h0, h.ob, h.row, lenD, seqOf, ge_i, hn, isLst, popAtD, hs, hs0, hi, hd, take_map]
theorem take_bad {M : Mem} {b r : Nat} {rows : List PyData} {s : PyData} (h : BookAt M b r rows) (hs : wholeB 0 s = false ∨ ∃ i, s = .int i ∧ (rows.length : Int) ≤ i) : m_Book_take [.at b, .p s] M = .ex "NoStroke" none M := by
  refine runB_ex (σ := [some (.at b), some (.p s)]) ?_
  show b_Book_take [some (.at b), some (.p s)] M = _
  unfold b_Book_take
  by_cases hw : wholeB 0 s = true
  · rcases hs with h2 | ⟨i, rfl, hi⟩
    · rw [hw] at h2; cases h2
    · simp [whole_ok, hw, h.ob, h.row, lenD, seqOf, ge_i, hi]
  · have hw2 : wholeB 0 s = false := by simpa using hw
    simp [whole_ok, hw2]
/-! ### drawn places, colours, strokes -/
/-- the pen has moved; the store may have grown -/
structure Pg (M M' : Mem) (p n : Nat) : Prop where
  pen : PenAt M' p n
  len : M.length ≤ M'.length
  rest : ∀ l, l < M.length → l ≠ p → M'[l]? = M[l]?
theorem PenAt.lt {M : Mem} {p n : Nat} (h : PenAt M p n) : p < M.length := by
  obtain ⟨_, _, _, h, _⟩ := h
  exact (List.getElem?_eq_some_iff.mp h).1
theorem Pn.pg {M M' : Mem} {p n : Nat} (h : Pn M M' p n) : Pg M M' p n := ⟨h.pen, Nat.le_of_eq h.len.symm, fun l _ hl => h.rest l hl⟩
theorem Pg.trans {M M' M'' : Mem} {p n m : Nat} (a : Pg M M' p n) (b : Pg M' M'' p m) : Pg M M'' p m := ⟨b.pen, Nat.le_trans a.len b.len, fun l h hl => (b.rest l (Nat.lt_of_lt_of_le h a.len) hl).trans (a.rest l h hl)⟩
theorem Pg.le {M M' : Mem} {p n m : Nat} (h : Pg M M' p n) (hm : n ≤ m) : Pg M M' p m := ⟨h.pen.le hm, h.len, h.rest⟩
/-- something laid behind, or changed behind -/
theorem Pg.app {M M' : Mem} {p n : Nat} (h : Pg M M' p n) (xs : List MO) : Pg M (M' ++ xs) p n := by
  have hp := h.pen.lt
  refine ⟨?_, by rw [List.length_append]; have := h.len; omega, fun l hl hn => ?_⟩
  · obtain ⟨cs, c, r, h1, h2⟩ := h.pen
    exact ⟨cs, c, r, by rw [List.getElem?_append_left hp]; exact h1, h2⟩
  · rw [List.getElem?_append_left (Nat.lt_of_lt_of_le hl h.len)]; exact h.rest l hl hn
theorem Pg.set {M M' : Mem} {p n q : Nat} (h : Pg M M' p n) (hq : M.length ≤ q) (hp : p < M.length) (o : MO) : Pg M (M'.set q o) p n := by
  refine ⟨?_, by rw [List.length_set]; exact h.len, fun l hl hn => ?_⟩
  · obtain ⟨cs, c, r, h1, h2⟩ := h.pen
    exact ⟨cs, c, r, by rw [List.getElem?_set_ne (by omega)]; exact h1, h2⟩
  · rw [List.getElem?_set_ne (by omega)]; exact h.rest l hl hn
theorem scop_pg {g : GDs} {ds : List D} {M M' : Mem} {v : PyData} {p n : Nat} (hg : g ds M = .ok (.p v) M') (hp : p < M.length) (h : Pg M M' p n) : ∃ M2, scop g ds M = .ok (.p v) M2 ∧ Pn M M2 p n := by
  have hk : Kept M M' := fun l m hl hm => by
    by_cases he : l = p
    · subst he
      obtain ⟨cs, c, r, h1, _⟩ := h.pen
      rw [h1] at hm
      cases hm
      right
      intro d hd
      simp at hd
      rcases hd with rfl | rfl | rfl <;> trivial
    · left
      rw [← h.rest l hl he]; exact hm
  refine ⟨M'.take M.length, ?_, ?_, by rw [List.length_take]; have := h.len; omega, fun l hl => ?_⟩
  · unfold scop
    rw [hg]
    exact if_pos ⟨trivial, hk⟩
  · obtain ⟨cs, c, r, h1, h2⟩ := h.pen
    exact ⟨cs, c, r, by rw [List.getElem?_take_of_lt hp]; exact h1, h2⟩
  · by_cases hM : l < M.length
    · rw [List.getElem?_take_of_lt hM]; exact h.rest l hM hl
    · rw [List.getElem?_eq_none (by rw [List.length_take]; omega), List.getElem?_eq_none (by omega)]
/-- drawn places: rising, none beyond the last -/
structure LotOk (xs : List Int) : Prop where
  up : xs.Pairwise (· < ·)
  bd : ∀ x ∈ xs, 0 ≤ x ∧ x ≤ 1000000000
theorem append_ap {M : Mem} {q : Nat} {xs : List D} {d : D} (h : M[q]? = some (.lst xs)) (hz : xs.length < sizeLine) : appendD (.at q) [d] M = .ok (.p .none) (M.set q (.lst (xs ++ [d]))) := by
  simp [appendD, h, hz]
theorem steps6 (d : Int) (h0 : 0 ≤ d) (h1 : d < 6) (M : Mem) : ∃ x : Int, ixD (.p (.list [.int 0, .int 0, .int 1, .int 2, .int 50, .int 10000000])) (.p (.int d)) M = .ok (.p (.int x)) M ∧ 0 ≤ x ∧ x ≤ 10000000 := by
  obtain ⟨n, rfl⟩ : ∃ n : Nat, d = n := ⟨d.toNat, by omega⟩
  have : n = 0 ∨ n = 1 ∨ n = 2 ∨ n = 3 ∨ n = 4 ∨ n = 5 := by omega
  rcases this with rfl | rfl | rfl | rfl | rfl | rfl
  · exact ⟨0, rfl, by decide, by decide⟩
  · exact ⟨0, rfl, by decide, by decide⟩
  · exact ⟨1, rfl, by decide, by decide⟩
  · exact ⟨2, rfl, by decide, by decide⟩
  · exact ⟨50, rfl, by decide, by decide⟩
  · exact ⟨10000000, rfl, by decide, by decide⟩
theorem lot_ok {M : Mem} {p n s : Nat} (h : PenAt M p n) (hn : n ≤ 900000) (hs0 : 0 < s) (hs : s ≤ 60) :
    ∃ (xs : List Int) (M' : Mem), m__law_lot [.at p, .p (.int s)] M = .ok (.p (.list (xs.map .int))) M' ∧ xs.length = s ∧ LotOk xs ∧ Pn M M' p (n + s + 2) := by
  have hpl := h.lt
  -- found = []; at = draw
  have P0 : Pg M (M ++ [MO.lst []]) p n := (Pn.refl h).pg.app _
  obtain ⟨a0, M1, e1, a1, a2, hP1⟩ := draw_ok (k := 3) P0.pen (by omega) (by decide) (by decide)
  have P1 : Pg M M1 p (n + 1) := P0.trans hP1.pg
  have hl1 : M1.length = M.length + 1 := by rw [hP1.len]; simp
  have hq1 : M1[M.length]? = some (.lst []) := by rw [hP1.rest _ (by omega)]; simp
  -- the loop
  obtain ⟨σ2, M2, e2, xs, v, t, rfl, q2, l2, b2, w2, v0, v1, P2, hl2⟩ := forL_inv0 (ck := fun _ => True) (g := gNm 4) (body := sSeq (sDrop (meth appendD (mVar 2) (aCons (mVar 3) aNil)))
      (sAsg (bin addD (bin addD (mVar 3) (mC (.p (.int 1)))) (bin ixD (app lstD (aCons (mC (.p (.int 0))) (aCons (mC (.p (.int 0))) (aCons (mC (.p (.int 1))) (aCons (mC (.p (.int 2))) (aCons (mC (.p (.int 50))) (aCons (bin powD (mC (.p (.int 10))) (mC (.p (.int 7)))) aNil))))))) (callG 2 m__law_draw [] (aCons (mVar 0) (aCons (mC (.p (.int 6))) aNil))))) (gNm 3)))
    (fun i σ M' => ∃ (xs : List Int) (v : Int) (t : Option D), σ = [some (.at p), some (.p (.int s)), some (.at M.length), some (.p (.int v)), t] ∧ M'[M.length]? = some (.lst (xs.map fun x => D.p (.int x))) ∧ xs.length = i ∧ (∀ x ∈ xs, 0 ≤ x ∧ x < v) ∧ xs.Pairwise (· < ·) ∧ 0 ≤ v ∧ v ≤ 2 + i * 10000001 ∧ Pg M M' p (n + 1 + i) ∧ M'.length = M.length + 1)
    (rngI 0 s) [some (.at p), some (.p (.int s)), some (.at M.length), some (.p (.int a0)), none] M1
    ⟨[], a0, none, rfl, hq1, rfl, (fun x hx => nomatch hx), List.Pairwise.nil, a1, by omega, P1, hl1⟩ (fun _ _ _ _ => trivial) (by
      rintro i it σ M' hit ⟨xs, v, t, rfl, q, l, b, w, v0, v1, P, hl⟩
      obtain ⟨hi, rfl⟩ := rng_get hit
      have hz : (xs.map fun x => D.p (.int x)).length < sizeLine := by
        have : sizeLine = 16777216 := rfl
        rw [List.length_map]; omega
      have hA := append_ap (d := .p (.int v)) q hz
      have P' : Pg M (M'.set M.length (.lst ((xs.map fun x => D.p (.int x)) ++ [.p (.int v)]))) p (n + 1 + i) := P.set (Nat.le_refl _) hpl _
      obtain ⟨d, M3, f1, d0, d1, hP3⟩ := draw_ok (k := 6) P'.pen (by omega) (by decide) (by decide)
      obtain ⟨x, g1, x0, x1⟩ := steps6 d d0 d1 M3
      have hlst : isLst M' (.at M.length) = true := by simp [isLst, seqOf, q]
      have hq3 : M3[M.length]? = some (.lst ((xs ++ [v]).map fun x => D.p (.int x))) := by
        rw [hP3.rest _ (by omega), set_at q]; simp
      refine ⟨[some (.at p), some (.p (.int s)), some (.at M.length), some (.p (.int v)), some (.p (.int (0 + (i : Nat))))], M', [some (.at p), some (.p (.int s)), some (.at M.length), some (.p (.int (v + 1 + x))), some (.p (.int (0 + (i : Nat))))], M3, rfl, .inl ?_, xs ++ [v], v + 1 + x, _, rfl, hq3, by rw [List.length_append, l]; simp, ?_, ?_, by omega, ?_, (P'.trans hP3.pg).le (by omega), by rw [hP3.len, List.length_set]; exact hl⟩
      · have h6 : (6 : Nat) ≤ sizeLine := by decide
        have hpow : ∀ M : Mem, powD (.p (.int 10)) (.p (.int 7)) M = .ok (.p (.int 10000000)) M := fun _ => rfl
        have hL : ∀ M : Mem, lstD [.p (.int 0), .p (.int 0), .p (.int 1), .p (.int 2), .p (.int 50), .p (.int 10000000)] M = .ok (.p (.list [.int 0, .int 0, .int 1, .int 2, .int 50, .int 10000000])) M := fun M => lstD_map (n := 0) [.int 0, .int 0, .int 1, .int 2, .int 50, .int 10000000] M h6
        simp [hlst, hA, add_i, hpow, hL, f1, g1]
      · intro y hy
        rcases List.mem_append.mp hy with h | h
        · have := b y h; omega
        · have : y = v := by simpa using h
          subst this; omega
      · refine List.pairwise_append.mpr ⟨w, by simp, fun y hy z hz => ?_⟩
        have : z = v := by simpa using hz
        subst this; exact (b y hy).2
      · omega)
  -- the last one
  have hrs : (rngI 0 s).length = s := rng_len 0 s
  rw [hrs] at v1 P2 l2
  have hlen : xs.length = s := l2
  have v1' : v ≤ 600000062 := by omega
  obtain ⟨d, M3, f1, d0, d1, hP3⟩ := draw_ok (k := 3) P2.pen (by omega) (by decide) (by decide)
  have P3 : Pg M M3 p (n + s + 2) := (P2.trans hP3.pg).le (by omega)
  have hq3 : M3[M.length]? = some (.lst (xs.map fun x => D.p (.int x))) := by rw [hP3.rest _ (by omega)]; exact q2
  have fin : ∃ (ys : List Int) (M4 : Mem), ys.length = s ∧ LotOk ys ∧ Pg M M4 p (n + s + 2) ∧ M4[M.length]? = some (.lst (ys.map fun x => D.p (.int x))) ∧
      sIf (asB (bin eqD (callG 2 m__law_draw [] (aCons (mVar 0) (aCons (mC (.p (.int 3))) aNil))) (mC (.p (.int 0))))) (sSub (bin powD (mC (.p (.int 10))) (mC (.p (.int 9)))) (mVar 2) (negD (mC (.p (.int 1))))) sNil
        [some (.at p), some (.p (.int s)), some (.at M.length), some (.p (.int v)), t] M2 = .nx [some (.at p), some (.p (.int s)), some (.at M.length), some (.p (.int v)), t] M4 := by
    by_cases hd : d = 0
    · refine ⟨xs.set (s - 1) 1000000000, M3.set M.length (.lst ((xs.set (s - 1) 1000000000).map fun x => D.p (.int x))), by rw [List.length_set]; exact hlen, ⟨?_, fun x hx => ?_⟩, P3.set (Nat.le_refl _) hpl _, set_at hq3, ?_⟩
      · have e : xs.set (s - 1) 1000000000 = xs.take (s - 1) ++ [1000000000] := by
          rw [List.set_eq_take_append_cons_drop, if_pos (by omega), List.drop_eq_nil_of_le (by omega)]
        rw [e]
        refine List.pairwise_append.mpr ⟨w2.sublist (List.take_sublist _ _), by simp, fun y hy z hz => ?_⟩
        have : z = 1000000000 := by simpa using hz
        have := (b2 y (List.mem_of_mem_take hy)).2
        omega
      · rcases List.mem_or_eq_of_mem_set hx with h | h
        · have := b2 x h; omega
        · omega
      · have hx : ixN s (-1) = some (s - 1) := by
          unfold ixN
          rw [if_neg (by decide), if_pos (by omega)]
          congr 1
          omega
        have hpow : ∀ M : Mem, powD (.p (.int 10)) (.p (.int 9)) M = .ok (.p (.int 1000000000)) M := fun _ => rfl
        simp [f1, eq_i, hd, hpow, hq3, hlen, hx, List.map_set]
    · refine ⟨xs, M3, hlen, ⟨w2, fun x hx => by have := b2 x hx; omega⟩, P3, hq3, ?_⟩
      simp [f1, eq_i, hd]
  obtain ⟨ys, M4, y1, y2, P4, q4, fin⟩ := fin
  have hrun : runB 5 2 b__law_lot [.at p, .p (.int s)] M = .ok (.p (.list (ys.map .int))) (M4.set M.length .gone) := by
    refine runB_rt ?_
    show b__law_lot [some (.at p), some (.p (.int s)), none, none, none] M = _
    have z0 : (0 : Nat) ≤ sizeLine := by decide
    have s1 : sAsg (app lstM aNil) (gNm 2) [some (.at p), some (.p (.int s)), none, none, none] M = .nx [some (.at p), some (.p (.int s)), some (.at M.length), none, none] (M ++ [MO.lst []]) := by
      simp [lstM, z0]
    have s2 : sAsg (callG 2 m__law_draw [] (aCons (mVar 0) (aCons (mC (.p (.int 3))) aNil))) (gNm 3) [some (.at p), some (.p (.int s)), some (.at M.length), none, none] (M ++ [MO.lst []]) = .nx [some (.at p), some (.p (.int s)), some (.at M.length), some (.p (.int a0)), none] M1 := by
      simp [e1]
    unfold b__law_lot
    rw [sSeq_ap, s1, SR.seq_nx, sSeq_ap, s2, SR.seq_nx, sSeq_ap, sFor_ap, wRng1_nat (s := s) (M1 := M1) (by simp) (by omega), R.go_ok]
    have hu : unP (ys.map fun x => D.p (.int x)) = some (ys.map .int) := by
      have := unP_map (ys.map PyData.int)
      rw [List.map_map] at this
      exact this
    rw [e2, SR.seq_nx, sSeq_ap, fin, SR.seq_nx]
    simp [q4, hu]
  obtain ⟨M5, r1, r2⟩ := scop_pg hrun hpl (P4.set (Nat.le_refl _) hpl .gone)
  exact ⟨ys, M5, r1, y1, y2, r2⟩
abbrev pool6 : List Str := ["red", "blue", "a", "ochre", "zzzzzzzz", "green"]
theorem popAt_ap {M : Mem} {q : Nat} {xs : List D} {i : Int} {d : D} (h : M[q]? = some (.lst xs)) (h0 : 0 ≤ i) (h1 : i < xs.length) (hz : xs.length ≤ 1000000) (hd : xs[i.toNat]? = some d) : popAtD (.at q) [.p (.int i)] M = .ok d (M.set q (.lst (xs.eraseIdx i.toNat))) := by
  have hs : i < 9223372036854775808 := by omega
  have hs0 : -9223372036854775808 ≤ i := by omega
  have hi : seqIndex? i xs.length = some i.toNat := by
    unfold seqIndex?
    have : ¬ i < 0 := by omega
    simp [this, h0, h1]
  simp [popAtD, h, hs, hs0, hi, hd]
theorem add_t {xs ys : List PyData} {M : Mem} (h : xs.length + ys.length ≤ sizeLine) : addD (.p (.tuple xs)) (.p (.tuple ys)) M = .ok (.p (.tuple (xs ++ ys))) M := by
  show (if xs.length + ys.length ≤ sizeLine then _ else _) = _
  rw [if_pos h]
theorem perm_erase {α : Type} {xs : List α} {i : Nat} {d : α} (h : xs[i]? = some d) (acc : List α) : (acc ++ [d] ++ xs.eraseIdx i).Perm (acc ++ xs) := by
  have hl := (List.getElem?_eq_some_iff.mp h).1
  have he : xs = xs.take i ++ d :: xs.drop (i + 1) := by
    have := (List.getElem?_eq_some_iff.mp h).2
    rw [← this, List.getElem_cons_drop, List.take_append_drop]
  rw [List.append_assoc]
  refine List.Perm.append_left acc ?_
  rw [List.eraseIdx_eq_take_drop_succ]
  conv => rhs; rw [he]
  show (d :: (xs.take i ++ xs.drop (i + 1))).Perm (xs.take i ++ d :: xs.drop (i + 1))
  exact List.perm_middle.symm
theorem dyes_ok {M : Mem} {p n k : Nat} (h : PenAt M p n) (hn : n ≤ 900000) (hk : k ≤ 6) :
    ∃ (xs : List Str) (M' : Mem), m__law_dyes [.at p, .p (.int k)] M = .ok (.p (.list (xs.map .str))) M' ∧ xs.length = k ∧ (∃ ys, (xs ++ ys).Perm pool6) ∧ Pn M M' p (n + k) := by
  have hpl := h.lt
  have P0 : Pg M (M ++ [MO.lst (pool6.map fun x => D.p (.str x))]) p n := (Pn.refl h).pg.app _
  have hq0 : (M ++ [MO.lst (pool6.map fun x => D.p (.str x))])[M.length]? = some (.lst (pool6.map fun x => D.p (.str x))) := by simp
  obtain ⟨ds, M2, e2, xs, ys, rfl, q2, pm, l2, P2, hl2⟩ := lcL_inv0 (ck := fun _ => True) (g := gNm 3) (tt := bYes) (te := meth popAtD (mVar 2) (aCons (callG 2 m__law_draw [] (aCons (mVar 0) (aCons (app lenD (aCons (mVar 2) aNil)) aNil))) aNil))
    (σ := [some (.at p), some (.p (.int k)), some (.at M.length), none])
    (fun i acc M' => ∃ xs ys : List Str, acc = xs.map (fun x => D.p (.str x)) ∧ M'[M.length]? = some (.lst (ys.map fun x => D.p (.str x))) ∧ (xs ++ ys).Perm pool6 ∧ xs.length = i ∧ Pg M M' p (n + i) ∧ M'.length = M.length + 1)
    (rngI 0 k) (M ++ [MO.lst (pool6.map fun x => D.p (.str x))]) ⟨[], pool6, rfl, hq0, List.Perm.refl _, rfl, P0, by simp⟩ (fun _ _ _ _ => trivial) (by
      rintro i it acc M' hit ⟨xs, ys, rfl, q, pm, l, P, hl⟩
      obtain ⟨hi, rfl⟩ := rng_get hit
      have hlen := pm.length_eq
      rw [List.length_append, l] at hlen
      have h6 : pool6.length = 6 := rfl
      rw [h6] at hlen
      obtain ⟨d, M3, f1, d0, d1, hP3⟩ := draw_ok (k := ys.length) P.pen (by omega) (by omega) (by omega)
      have hq3 : M3[M.length]? = some (.lst (ys.map fun x => D.p (.str x))) := by rw [hP3.rest _ (by omega)]; exact q
      have hdl : d.toNat < ys.length := by omega
      have hy : ys[d.toNat]? = some ys[d.toNat] := List.getElem?_eq_getElem hdl
      have hz : (ys.map fun x => D.p (.str x)).length ≤ 1000000 := by rw [List.length_map]; omega
      have hA := popAt_ap (i := d) hq3 d0 (by rw [List.length_map]; omega) hz (by rw [List.getElem?_map, hy]; rfl)
      have hlst : isLst M' (.at M.length) = true := by simp [isLst, seqOf, q]
      refine ⟨[some (.at p), some (.p (.int k)), some (.at M.length), some (.p (.int (0 + (i : Nat))))], M', true, M', rfl, rfl, .inl ⟨rfl, .p (.str ys[d.toNat]), M3.set M.length (.lst ((ys.map fun x => D.p (.str x)).eraseIdx d.toNat)), ?_, xs ++ [ys[d.toNat]], ys.eraseIdx d.toNat, by simp, ?_, (perm_erase hy xs).trans pm, by simp [l], ((P.trans hP3.pg).set (Nat.le_refl _) hpl _).le (by omega), by rw [List.length_set, hP3.len]; exact hl⟩⟩
      · simp [hlst, lenD, seqOf, q, f1, hA]
      · rw [set_at hq3, List.eraseIdx_eq_take_drop_succ, List.eraseIdx_eq_take_drop_succ, List.map_append, List.map_take, List.map_drop])
  rw [rng_len] at l2 P2
  have hrun : runB 4 2 b__law_dyes [.at p, .p (.int k)] M = .ok (.p (.list (xs.map .str))) M2 := by
    refine runB_rt ?_
    show b__law_dyes [some (.at p), some (.p (.int k)), none, none] M = _
    have z6 : (6 : Nat) ≤ sizeLine := by decide
    have s1 : sAsg (app lstM (aCons (mC (.p (.str "red"))) (aCons (mC (.p (.str "blue"))) (aCons (mC (.p (.str "a"))) (aCons (mC (.p (.str "ochre"))) (aCons (mC (.p (.str "zzzzzzzz"))) (aCons (mC (.p (.str "green"))) aNil))))))) (gNm 2) [some (.at p), some (.p (.int k)), none, none] M = .nx [some (.at p), some (.p (.int k)), some (.at M.length), none] (M ++ [MO.lst (pool6.map fun x => D.p (.str x))]) := by
      simp [lstM, z6]
    unfold b__law_dyes
    have hzk : (rngI 0 k).length ≤ sizeLine := by rw [rng_len]; have : sizeLine = 16777216 := rfl; omega
    have hw : wipeG [some (D.at p), some (.p (.int k)), some (.at M.length), none] [3] = [some (.at p), some (.p (.int k)), some (.at M.length), none] := rfl
    rw [sSeq_ap, s1, SR.seq_nx, sRet_ap, mLc_ap, wRng1_nat (s := k) (M1 := M ++ [MO.lst (pool6.map fun x => D.p (.str x))]) (by simp) (by omega), R.bind_ok, hw, if_pos hzk, e2, R.bind_ok]
    have hL := lstD_map (n := 0) (xs.map PyData.str) M2 (by rw [List.length_map]; have : sizeLine = 16777216 := rfl; omega)
    rw [List.map_map] at hL
    have hL2 : lstD (xs.map fun x => D.p (.str x)) M2 = .ok (.p (.list (xs.map .str))) M2 := hL
    rw [hL2, R.go_ok]
  obtain ⟨M5, r1, r2⟩ := scop_pg hrun hpl P2
  exact ⟨xs, M5, r1, l2, ⟨ys, pm⟩, r2⟩
theorem two_sorted (a b : Int) : ∃ x y : Int, sortI [a, b] = [x, y] ∧ x ≤ y ∧ ((x = a ∧ y = b) ∨ (x = b ∧ y = a)) := by
  by_cases h : a ≤ b
  · exact ⟨a, b, (sortI_is (ms := [a, b]) (List.Perm.refl _) (by simp [h])).symm, h, .inl ⟨rfl, rfl⟩⟩
  · exact ⟨b, a, (sortI_is (ms := [b, a]) (List.Perm.swap a b []) (by simp; omega)).symm, by omega, .inr ⟨rfl, rfl⟩⟩
theorem lot_at {xs : List Int} {i : Int} (h0 : 0 ≤ i) (h1 : i < xs.length) (M : Mem) : ixD (.p (.list (xs.map .int))) (.p (.int i)) M = .ok (.p (.int (xs[i.toNat]'(by omega)))) M := by
  have hl : i.toNat < xs.length := by omega
  obtain ⟨d, d1, d2⟩ := atI_in (xs := (xs.map PyData.int).map D.p) h0 (by simpa using h1)
  rw [List.getElem?_map, List.getElem?_map, List.getElem?_eq_getElem hl] at d2
  cases d2
  show (match L2.atI ((xs.map PyData.int).map D.p) i with | some d => R.ok d M | none => .er) = _
  rw [d1]
theorem dye_at {xs : List Str} {i : Int} (h0 : 0 ≤ i) (h1 : i < xs.length) (M : Mem) : ixD (.p (.list (xs.map .str))) (.p (.int i)) M = .ok (.p (.str (xs[i.toNat]'(by omega)))) M := by
  have hl : i.toNat < xs.length := by omega
  obtain ⟨d, d1, d2⟩ := atI_in (xs := (xs.map PyData.str).map D.p) h0 (by simpa using h1)
  rw [List.getElem?_map, List.getElem?_map, List.getElem?_eq_getElem hl] at d2
  cases d2
  show (match L2.atI ((xs.map PyData.str).map D.p) i with | some d => R.ok d M | none => .er) = _
  rw [d1]
theorem lot_le {xs : List Int} (h : xs.Pairwise (· < ·)) {i j : Nat} (hi : i < xs.length) (hj : j < xs.length) (hij : i ≤ j) : xs[i] ≤ xs[j] := by
  rcases Nat.lt_or_ge i j with q | q
  · exact Int.le_of_lt (List.pairwise_iff_getElem.mp h i j hi hj q)
  · have : i = j := by omega
    subst this
    exact Int.le_refl _
theorem len_list (ds : List PyData) (M : Mem) : lenD [.p (.list ds)] M = .ok (.p (.int ds.length)) M := by simp [lenD, seqOf]
theorem len_tuple (ds : List PyData) (M : Mem) : lenD [.p (.tuple ds)] M = .ok (.p (.int ds.length)) M := by simp [lenD, seqOf]
theorem stretch_drawn {M : Mem} {p n : Nat} {xs : List Int} (h : PenAt M p n) (hn : n ≤ 900000) (hx : LotOk xs) (hl : 0 < xs.length) (hm : xs.length ≤ 1000) :
    ∃ (a b : Int) (M' : Mem), m__law_stretch [.at p, .p (.list (xs.map .int))] M = .ok (.p (.tuple [.int a, .int b])) M' ∧ a ∈ xs ∧ b ∈ xs ∧ a ≤ b ∧ Pn M M' p (n + 2) := by
  obtain ⟨i, M1, e1, i0, i1, P1⟩ := draw_ok (k := xs.length) h (by omega) (by omega) (by omega)
  obtain ⟨j, M2, e2, j0, j1, P2⟩ := draw_ok (k := xs.length) P1.pen (by omega) (by omega) (by omega)
  obtain ⟨x, y, s1, s2, s3⟩ := two_sorted i j
  have hxl : 0 ≤ x ∧ x < xs.length ∧ 0 ≤ y ∧ y < xs.length := by rcases s3 with ⟨rfl, rfl⟩ | ⟨rfl, rfl⟩ <;> omega
  refine ⟨xs[x.toNat]'(by omega), xs[y.toNat]'(by omega), M2, ?_, List.getElem_mem _, List.getElem_mem _, lot_le hx.up (by omega) (by omega) (by omega), P1.trans P2⟩
  refine runB_rt ?_
  show b__law_stretch [some (.at p), some (.p (.list (xs.map .int))), none] M = _
  unfold b__law_stretch
  have z2 : (2 : Nat) ≤ sizeLine := by decide
  have hL : ∀ (a b : Int) (M : Mem), lstD [.p (.int a), .p (.int b)] M = .ok (.p (.list [.int a, .int b])) M := fun a b M => lstD_map (n := 0) [.int a, .int b] M z2
  have hT : ∀ (a b : Int) (M : Mem), tupD [.p (.int a), .p (.int b)] M = .ok (.p (.tuple [.int a, .int b])) M := fun a b M => tupD_map (n := 0) [.int a, .int b] M z2
  have hS : sortedI lstD [.p (.list [.int i, .int j])] M2 = .ok (.p (.list [.int x, .int y])) M2 := by
    simp [sortedI, onI, seqOf, Tl.unI, s1, hL]
  have g0 : ∀ M, ixD (.p (.list [.int x, .int y])) (.p (.int 0)) M = .ok (.p (.int x)) M := fun _ => rfl
  have g1 : ∀ M, ixD (.p (.list [.int x, .int y])) (.p (.int 1)) M = .ok (.p (.int y)) M := fun _ => rfl
  simp [len_list, e1, e2, hL, hS, g0, g1, lot_at hxl.1 hxl.2.1, lot_at hxl.2.2.1 hxl.2.2.2, hT]
/-- a stroke -/
abbrev Sk := Int × Int × Str
def encS (s : Sk) : PyData := .tuple [.int s.1, .int s.2.1, .str s.2.2]
structure GoodS (s : Sk) : Prop where
  lo : 0 ≤ s.1
  mid : s.1 ≤ s.2.1
  hi : s.2.1 ≤ 1000000000
  dye : s.2.2 ∈ pool6
theorem pool_name : ∀ x ∈ pool6, nameB (.str x) = true ∧ x.length ≤ 8 := by
  intro x hx
  simp only [pool6, List.mem_cons, List.not_mem_nil, or_false] at hx
  rcases hx with rfl | rfl | rfl | rfl | rfl | rfl <;> exact ⟨by decide +kernel, by decide +kernel⟩
theorem GoodS.ok {s : Sk} (h : GoodS s) : strokeB (encS s) = true ∧ FewS (encS s) := by
  obtain ⟨h1, h2, h3, h4⟩ := h
  obtain ⟨n1, n2⟩ := pool_name _ h4
  refine ⟨?_, fun x hx => ?_⟩
  · have : s.2.1 ≤ 1000000000 := h3
    simp only [encS, strokeB, stretchB, placeB, n1, Bool.and_true, Bool.and_eq_true, decide_eq_true_eq]
    omega
  · have : x = s.2.2 := by simpa [encS] using hx
    subst this
    have : sizeLine = 16777216 := rfl
    omega
theorem rows_ok {M : Mem} {p n k : Nat} {xs : List Int} {ys : List Str} (h : PenAt M p n) (hn : n ≤ 800000) (hx : LotOk xs) (hl : 0 < xs.length) (hm : xs.length ≤ 1000) (hy : ∀ y ∈ ys, y ∈ pool6) (hy0 : 0 < ys.length) (hy1 : ys.length ≤ 1000) (hk : k ≤ 1000) :
    ∃ (rows : List Sk) (M' : Mem), m__law_rows [.at p, .p (.list (xs.map .int)), .p (.list (ys.map .str)), .p (.int k)] M = .ok (.p (.tuple (rows.map encS))) M' ∧ rows.length = k ∧ (∀ s ∈ rows, GoodS s) ∧ Pn M M' p (n + 3 * k) := by
  have z1 : (1 : Nat) ≤ sizeLine := by decide
  have z3 : (3 : Nat) ≤ sizeLine := by decide
  obtain ⟨ds, M2, e2, rows, rfl, r1, r2, P2⟩ := lcL_inv0 (ck := fun _ => True) (g := gNm 4) (tt := bYes) (te := bin addD (callG 2 m__law_stretch [] (aCons (mVar 0) (aCons (mVar 1) aNil))) (app tupD (aCons (bin ixD (mVar 2) (callG 2 m__law_draw [] (aCons (mVar 0) (aCons (app lenD (aCons (mVar 2) aNil)) aNil)))) aNil)))
    (σ := [some (.at p), some (.p (.list (xs.map .int))), some (.p (.list (ys.map .str))), some (.p (.int k)), none])
    (fun i acc M' => ∃ rows : List Sk, acc = rows.map (fun s => D.p (encS s)) ∧ rows.length = i ∧ (∀ s ∈ rows, GoodS s) ∧ Pn M M' p (n + 3 * i))
    (rngI 0 k) M ⟨[], rfl, rfl, (fun s hs => nomatch hs), Pn.refl h⟩ (fun _ _ _ _ => trivial) (by
      rintro i it acc M' hit ⟨rows, rfl, l, g, P⟩
      obtain ⟨hi, rfl⟩ := rng_get hit
      obtain ⟨a, b, M3, f1, a1, b1, ab, P3⟩ := stretch_drawn P.pen (by omega) hx hl hm
      obtain ⟨d, M4, f2, d0, d1, P4⟩ := draw_ok (k := ys.length) P3.pen (by omega) (by omega) (by omega)
      have hd : d.toNat < ys.length := by omega
      refine ⟨[some (.at p), some (.p (.list (xs.map .int))), some (.p (.list (ys.map .str))), some (.p (.int k)), some (.p (.int (0 + (i : Nat))))], M', true, M', rfl, rfl, .inl ⟨rfl, .p (encS (a, b, ys[d.toNat])), M4, ?_, rows ++ [(a, b, ys[d.toNat])], by simp, by simp [l], fun s hs => ?_, ((P.trans P3).trans P4).le (by omega)⟩⟩
      · have hT : ∀ (x : Str) (M : Mem), tupD [.p (.str x)] M = .ok (.p (.tuple [.str x])) M := fun x M => tupD_map (n := 0) [.str x] M z1
        have hA : ∀ (x : Str) (M : Mem), addD (.p (.tuple [.int a, .int b])) (.p (.tuple [.str x])) M = .ok (.p (.tuple [.int a, .int b, .str x])) M := fun x M => add_t (xs := [.int a, .int b]) (ys := [.str x]) z3
        simp [f1, len_list, f2, dye_at d0 d1, hT, hA, encS]
      · rcases List.mem_append.mp hs with q | q
        · exact g s q
        · have : s = (a, b, ys[d.toNat]) := by simpa using q
          subst this
          exact ⟨(hx.bd a a1).1, ab, (hx.bd b b1).2, hy _ (List.getElem_mem _)⟩)
  rw [rng_len] at r1 P2
  refine ⟨rows, M2, ?_, r1, r2, P2⟩
  refine runB_rt ?_
  show b__law_rows [some (.at p), some (.p (.list (xs.map .int))), some (.p (.list (ys.map .str))), some (.p (.int k)), none] M = _
  unfold b__law_rows
  have hzk : (rngI 0 k).length ≤ sizeLine := by rw [rng_len]; have : sizeLine = 16777216 := rfl; omega
  have hw : wipeG [some (D.at p), some (.p (.list (xs.map .int))), some (.p (.list (ys.map .str))), some (.p (.int k)), none] [4] = [some (.at p), some (.p (.list (xs.map .int))), some (.p (.list (ys.map .str))), some (.p (.int k)), none] := rfl
  have hzr : (rows.map encS).length ≤ sizeLine := by rw [List.length_map]; have : sizeLine = 16777216 := rfl; omega
  have hL := lstD_map (n := 0) (rows.map encS) M2 hzr
  rw [List.map_map] at hL
  have hL2 : lstD (rows.map fun s => D.p (encS s)) M2 = .ok (.p (.list (rows.map encS))) M2 := hL
  have hT := tupD_map (n := 0) (rows.map encS) M2 hzr
  rw [sRet_ap, app_ap, aCons_ap, mLc_ap, wRng1_nat (s := k) (M1 := M) (by simp) (by omega), R.bind_ok, hw, if_pos hzk, e2, R.bind_ok, hL2]
  simp only [R.bind_ok, aNil_ap, tupleD, seqOf, hT, R.go_ok]
/-! ### writings -/
abbrev tx (i : Int) : Str := Str.ofString (toString i)
def lineS (s : Sk) : Str := tx s.1 ++ " " ++ tx s.2.1 ++ " " ++ s.2.2
def wrS (rows : List Sk) : Str := Txt.join " / " (rows.map lineS)
/-- numbers that are places, a colour of few signs -/
structure Lined (s : Sk) : Prop where
  lo : 0 ≤ s.1 ∧ s.1 ≤ 1000000000
  hi : 0 ≤ s.2.1 ∧ s.2.1 ≤ 1000000000
  dye : s.2.2.length ≤ 8
theorem GoodS.lined {s : Sk} (h : GoodS s) : Lined s := ⟨⟨h.lo, by have := h.mid; have := h.hi; omega⟩, ⟨by have := h.lo; have := h.mid; omega, h.hi⟩, (pool_name _ h.dye).2⟩
theorem tx_len {i : Int} (h : 0 ≤ i ∧ i ≤ 1000000000) : (tx i).length ≤ 10 := toString_length_le h.1 (by decide) (by have := h.2; omega)
theorem log_ok {i : Int} (h : 0 ≤ i ∧ i ≤ 1000000000) : i.natAbs.log2 < 1920 := by
  have h1 : i.natAbs < 2 ^ 1920 := Nat.lt_of_le_of_lt (by omega : i.natAbs ≤ 1000000000) (by decide)
  by_cases h0 : i.natAbs = 0
  · rw [h0]; decide
  · exact (Nat.log2_lt h0).mpr h1
theorem Str.len_app (a b : Str) : (a ++ b).length = a.length + b.length := PySem.Str.length_append a b
theorem line_len {s : Sk} (h : Lined s) : (lineS s).length ≤ 30 := by
  have h1 := tx_len h.lo
  have h2 := tx_len h.hi
  have h3 := h.dye
  have h4 : (Str.ofString " ").length = 1 := by decide +kernel
  unfold lineS
  simp only [Str.len_app, h4]
  omega
theorem sum_len : ∀ rows : List Sk, (∀ s ∈ rows, Lined s) → ((rows.map lineS).map (·.length)).sum ≤ 30 * rows.length
  | [], _ => Nat.le_refl _
  | s :: r, h => by
    have h1 := line_len (h s (List.mem_cons_self ..))
    have h2 := sum_len r fun x hx => h x (List.mem_cons_of_mem _ hx)
    simp only [List.map_cons, List.sum_cons, List.length_cons]
    omega
theorem unS_map : ∀ xs : List Str, unS (xs.map fun x => D.p (.str x)) = some xs
  | [] => rfl
  | x :: r => by simp [unS, unS_map r]
theorem join_lines {rows : List Sk} (h : ∀ s ∈ rows, Lined s) (hz : rows.length ≤ 100000) (M : Mem) : joinD " / " (.p (.list ((rows.map lineS).map .str))) M = .ok (.p (.str (wrS rows))) M := by
  have h1 := sum_len rows h
  have h3 : (Str.ofString " / ").length = 3 := by decide +kernel
  have h2 : ((rows.map lineS).map (·.length)).sum + (rows.map lineS).length * (Str.ofString " / ").length ≤ 16777216 := by
    rw [h3, List.length_map]; omega
  have hu := unS_map (rows.map lineS)
  unfold joinD
  simp only [seqOf, List.map_map]
  rw [List.map_map] at hu
  show (match unS ((rows.map fun x => D.p (.str (lineS x)))) with | some ys => _ | none => _) = _
  have hu2 : unS ((rows.map fun x => D.p (.str (lineS x)))) = some (rows.map lineS) := hu
  rw [hu2]
  exact if_pos h2
def lineOf : Item → PyData
  | .one (.p (.tuple [.int a, .int b, .str c])) => .str (lineS (a, b, c))
  | _ => .none
theorem lines_of (rows : List Sk) : ((rows.map encS).map fun d => Item.one (.p d)).map lineOf = (rows.map lineS).map .str := by
  rw [List.map_map, List.map_map, List.map_map]; rfl
theorem line_fmt {s : Sk} (h : Lined s) (σ0 : Option D) (M : Mem) : joinedE (jCons (fmtE (mVar 1)) (jCons (mC (.p (.str " "))) (jCons (fmtE (mVar 2)) (jCons (mC (.p (.str " "))) (jCons (fmtE (mVar 3)) jNil))))) [σ0, some (.p (.int s.1)), some (.p (.int s.2.1)), some (.p (.str s.2.2))] M = .ok (.p (.str (lineS s))) M := by
  have h1 := tx_len h.lo
  have h2 := tx_len h.hi
  have h3 := h.dye
  have h4 : (Str.ofString " ").length = 1 := by decide +kernel
  have hz : sizeLine = 16777216 := rfl
  have l1 := log_ok h.lo
  have l2 := log_ok h.hi
  have h5 : s.2.2.length ≤ sizeLine := by omega
  have b1 : (tx s.1).length ≤ sizeLine := by omega
  have b2 : (tx s.1 ++ Str.ofString " ").length ≤ sizeLine := by rw [Str.len_app, h4]; omega
  have b3 : (tx s.1 ++ Str.ofString " " ++ tx s.2.1).length ≤ sizeLine := by rw [Str.len_app, Str.len_app, h4]; omega
  have b4 : (tx s.1 ++ Str.ofString " " ++ tx s.2.1 ++ Str.ofString " ").length ≤ sizeLine := by rw [Str.len_app, Str.len_app, Str.len_app, h4]; omega
  have b5 : (lineS s).length ≤ sizeLine := by have := line_len h; omega
  have b5' : (tx s.1 ++ Str.ofString " " ++ tx s.2.1 ++ Str.ofString " " ++ s.2.2).length ≤ sizeLine := b5
  simp only [joinedE_ap, jCons_ap, jNil_ap, fmtE_ap, mVar_ap, mC_ap, List.getElem?_cons_zero, List.getElem?_cons_succ, R.bind_ok, l1, l2, h5, if_true, Str.empty_append, b1, b2, b3, b4, b5']
  rfl
theorem str_run {M : Mem} {b r : Nat} {rows : List Sk} (h : BookAt M b r (rows.map encS)) (hg : ∀ s ∈ rows, Lined s) (hz : rows.length ≤ 100000) : m_Book_str [.at b] M = .ok (.p (.str (wrS rows))) M := by
  refine runB_rt ?_
  show b_Book_str [some (.at b), none, none, none] M = _
  unfold b_Book_str
  have hw : wSeq (fldE "Book" "row" (mVar 0)) [some (.at b), none, none, none] M = .ok ((rows.map encS).map fun d => Item.one (.p d), fun M => M[r]? = some (.lst ((rows.map encS).map .p))) M := by
    simp [h.ob, h.row]
  have hl : ((rows.map encS).map fun d => Item.one (.p d)).length ≤ sizeLine := by
    rw [List.length_map, List.length_map]; have : sizeLine = 16777216 := rfl; omega
  have hm := mLc_map (g := gTp 3 (gsCons (gNm 1) (gsCons (gNm 2) (gsCons (gNm 3) gsNil)))) (tt := bYes) (te := joinedE (jCons (fmtE (mVar 1)) (jCons (mC (.p (.str " "))) (jCons (fmtE (mVar 2)) (jCons (mC (.p (.str " "))) (jCons (fmtE (mVar 3)) jNil)))))) (vs := [1, 2, 3]) lineOf hw h.row hl (fun it hit => by
    obtain ⟨d, hd, rfl⟩ := List.mem_map.mp hit
    obtain ⟨s, hs, rfl⟩ := List.mem_map.mp hd
    refine ⟨[some (.at b), some (.p (.int s.1)), some (.p (.int s.2.1)), some (.p (.str s.2.2))], ?_, rfl, line_fmt (hg s hs) _ M⟩
    simp [encS, wipeG])
  rw [lines_of] at hm
  rw [sRet_ap, joinE_ap, mC_ap, R.bind_ok]
  simp only [hm, R.bind_ok]
  rw [join_lines hg hz]
  rfl
theorem str_ok {M : Mem} {b r : Nat} {rows : List Sk} (h : BookAt M b r (rows.map encS)) (hg : ∀ s ∈ rows, Lined s) (hz : rows.length ≤ 100000) : ownD "Book" m_Book_str (fun d => okStr d = true) [.at b] M = .ok (.p (.str (wrS rows))) M := by
  have h1 := str_run h hg hz
  simp [ownD, h.ob, h1, okStr]
theorem add_s {x y : Str} {M : Mem} (h : (x ++ y).length ≤ sizeLine) : addD (.p (.str x)) (.p (.str y)) M = .ok (.p (.str (x ++ y))) M := by
  show (if x.length + y.length ≤ sizeLine then _ else _) = _
  rw [if_pos (by rw [← Str.len_app]; exact h)]
theorem str_i {i : Int} {M : Mem} (h : i.natAbs.log2 < 1920) : strD [.p (.int i)] M = .ok (.p (.str (tx i))) M := if_pos h
theorem writing_ok {rows : List Sk} (hg : ∀ s ∈ rows, Lined s) (hz : rows.length ≤ 100000) (M : Mem) : m__law_writing [.p (.tuple (rows.map encS))] M = .ok (.p (.str (wrS rows))) M := by
  refine runB_rt ?_
  show b__law_writing [some (.p (.tuple (rows.map encS))), none, none, none] M = _
  unfold b__law_writing
  have hw : wTup (mVar 0) [some (.p (.tuple (rows.map encS))), none, none, none] M = .ok ((rows.map encS).map fun d => Item.one (.p d), fun _ => True) M := by simp
  have hl : ((rows.map encS).map fun d => Item.one (.p d)).length ≤ sizeLine := by
    rw [List.length_map, List.length_map]; have : sizeLine = 16777216 := rfl; omega
  have hm := mLc_map (g := gTp 3 (gsCons (gNm 1) (gsCons (gNm 2) (gsCons (gNm 3) gsNil)))) (tt := bYes) (te := bin addD (bin addD (bin addD (bin addD (app strD (aCons (mVar 1) aNil)) (mC (.p (.str " ")))) (app strD (aCons (mVar 2) aNil))) (mC (.p (.str " ")))) (mVar 3)) (vs := [1, 2, 3]) lineOf hw trivial hl (fun it hit => by
    obtain ⟨d, hd, rfl⟩ := List.mem_map.mp hit
    obtain ⟨s, hs, rfl⟩ := List.mem_map.mp hd
    refine ⟨[some (.p (.tuple (rows.map encS))), some (.p (.int s.1)), some (.p (.int s.2.1)), some (.p (.str s.2.2))], ?_, rfl, ?_⟩
    · simp [encS, wipeG]
    · have h := hg s hs
      have h1 := tx_len h.lo
      have h2 := tx_len h.hi
      have h3 := h.dye
      have h4 : (Str.ofString " ").length = 1 := by decide +kernel
      have hz : sizeLine = 16777216 := rfl
      have l1 := @str_i s.1 M (log_ok h.lo)
      have l2 := @str_i s.2.1 M (log_ok h.hi)
      have b2 := @add_s (tx s.1) (Str.ofString " ") M (by rw [Str.len_app, h4]; omega)
      have b3 := @add_s (tx s.1 ++ Str.ofString " ") (tx s.2.1) M (by rw [Str.len_app, Str.len_app, h4]; omega)
      have b4 := @add_s (tx s.1 ++ Str.ofString " " ++ tx s.2.1) (Str.ofString " ") M (by rw [Str.len_app, Str.len_app, Str.len_app, h4]; omega)
      have b5 := @add_s (tx s.1 ++ Str.ofString " " ++ tx s.2.1 ++ Str.ofString " ") s.2.2 M (by have : (lineS s).length ≤ sizeLine := by { have := line_len h; omega }; exact this)
      simp only [bin_ap, app_ap, aCons_ap, aNil_ap, mVar_ap, mC_ap, List.getElem?_cons_zero, List.getElem?_cons_succ, R.bind_ok, l1, l2, b2, b3, b4, b5]
      rfl)
  rw [lines_of] at hm
  rw [sRet_ap, joinE_ap, mC_ap, R.bind_ok]
  simp only [hm, R.bind_ok]
  rw [join_lines hg hz]
  rfl
/-! ### the law -/
theorem seq_nx {h1 h2 : MS} {σ σ1 : Sg} {M M1 : Mem} {r : SR} (e : h1 σ M = .nx σ1 M1) (k : h2 σ1 M1 = r) : sSeq h1 h2 σ M = r := by rw [sSeq_ap, e]; exact k
theorem cut_lo {α : Type} {xs : List α} {s : Int} (h0 : 0 ≤ s) (h1 : s ≤ xs.length) : cutA xs none (some s) = xs.take s.toNat := by
  have hs : ¬ s < 0 := by omega
  have : min s.toNat xs.length = s.toNat := by omega
  simp [cutA, HT.sIx, hs, this]
theorem cut_hi {α : Type} {xs : List α} {s : Int} (h0 : 0 ≤ s) (h1 : s ≤ xs.length) : cutA xs (some s) none = xs.drop s.toNat := by
  have hs : ¬ s < 0 := by omega
  have : min s.toNat xs.length = s.toNat := by omega
  simp only [cutA, HT.sIx, hs, if_false, this]
  exact List.take_of_length_le (by rw [List.length_drop]; exact Nat.le_refl _)
theorem can_rows : ∀ rows : List Sk, (∀ s ∈ rows, GoodS s) → PyData.canLayAll0 (rows.map encS) = true ∧ PyData.depthAll (rows.map encS) ≤ 1
  | [], _ => ⟨by simp [PyData.canLayAll0], by simp [PyData.depthAll]⟩
  | s :: r, h => by
    obtain ⟨h1, h2⟩ := can_rows r fun x hx => h x (List.mem_cons_of_mem _ hx)
    have hp : ∀ x ∈ pool6, PyData.strOk x = true := by
      intro x hx
      simp only [pool6, List.mem_cons, List.not_mem_nil, or_false] at hx
      rcases hx with rfl | rfl | rfl | rfl | rfl | rfl <;> decide +kernel
    have h3 := hp _ (h s (List.mem_cons_self ..)).dye
    constructor
    · simp [PyData.canLayAll0, PyData.canLay0, encS, h1, h3]
    · have h4 : PyData.depth (encS s) ≤ 1 := by simp [encS, PyData.depth, PyData.depthAll]
      rw [List.map_cons, PyData.depthAll]
      exact Nat.max_le.mpr ⟨h4, h2⟩
theorem shaped_rows {rows : List Sk} (h : ∀ s ∈ rows, GoodS s) : SeqAt.shaped (.tuple (rows.map encS)) = true := by
  obtain ⟨h1, h2⟩ := can_rows rows h
  have h3 : PyData.depth (.tuple (rows.map encS)) ≤ 64 := by rw [PyData.depth]; omega
  simp only [SeqAt.shaped, PyData.canLay0, h1, Bool.true_and, decide_eq_true_eq]
  exact h3
theorem shaped_none : SeqAt.shaped (.tuple []) = true := by simp [SeqAt.shaped, PyData.canLay0, PyData.canLayAll0, PyData.depth, PyData.depthAll]
theorem ne_empty {rows : List Sk} (h : ∀ s ∈ rows, GoodS s) (M : Mem) : neD (.p (.tuple (rows.map encS))) (.p (.tuple [])) M = .ok (.p (.bool (!decide (rows = [])))) M := by
  have h1 := shaped_rows h
  cases rows with
  | nil => simp [neD, Tl.dataOf, shaped_none, PyData.eqv, PyData.eqvAll]
  | cons s r =>
    rw [List.map_cons] at h1 ⊢
    simp [neD, Tl.dataOf, shaped_none, h1, PyData.eqv, PyData.eqvAll]
theorem few_rows {rows : List Sk} (h : ∀ s ∈ rows, GoodS s) : (∀ x ∈ rows.map encS, FewS x) ∧ (rows.map encS).all strokeB = true := by
  refine ⟨fun x hx => ?_, List.all_eq_true.mpr fun x hx => ?_⟩
  · obtain ⟨s, hs, rfl⟩ := List.mem_map.mp hx; exact (h s hs).ok.2
  · obtain ⟨s, hs, rfl⟩ := List.mem_map.mp hx; exact (h s hs).ok.1
/-- Book(rows): what stands behind -/
theorem make_rows {M : Mem} {rows : List Sk} (h : ∀ s ∈ rows, GoodS s) (hz : rows.length ≤ 100000) : m_Book_init [.at M.length, .p (.tuple (rows.map encS))] (M ++ [.ins "Book" []]) = .ok (.p .none) (M ++ [.ins "Book" [("row", .at (M.length + 1))], .lst ((rows.map encS).map .p)]) := by
  obtain ⟨h1, h2⟩ := few_rows h
  exact init_new (.inl rfl) h1 (by rw [List.length_map]; have : sizeLine = 16777216 := rfl; omega) h2
theorem book_put {M : Mem} {b r : Nat} {rows : List Sk} {s : Int} {d : Sk} (h : BookAt M b r (rows.map encS)) (h0 : 0 ≤ s) (h1 : s ≤ rows.length) (hd : GoodS d) (hz : rows.length ≤ 100000) :
    ∃ M', m_Book_put [.at b, .p (.int s), .p (encS d)] M = .ok (.p .none) M' ∧ BookAt M' b r ((rows.take s.toNat ++ d :: rows.drop s.toNat).map encS) ∧ M' = M.set r (.lst (((rows.take s.toNat ++ d :: rows.drop s.toNat).map encS).map .p)) := by
  have e : (rows.map encS).take s.toNat ++ [encS d] ++ (rows.map encS).drop s.toNat = (rows.take s.toNat ++ d :: rows.drop s.toNat).map encS := by simp
  have := put_ok h h0 (by rw [List.length_map]; exact h1) hd.ok.1 hd.ok.2 (by rw [List.length_map]; have : sizeLine = 16777216 := rfl; omega)
  rw [e] at this
  exact ⟨_, this, h.put, rfl⟩
theorem book_take {M : Mem} {b r : Nat} {rows : List Sk} {s : Int} (h : BookAt M b r (rows.map encS)) (h0 : 0 ≤ s) (h1 : s < rows.length) (hz : rows.length ≤ 100000) :
    ∃ M', m_Book_take [.at b, .p (.int s)] M = .ok (.p (encS (rows[s.toNat]'(by omega)))) M' ∧ BookAt M' b r ((rows.eraseIdx s.toNat).map encS) ∧ M' = M.set r (.lst (((rows.eraseIdx s.toNat).map encS).map .p)) := by
  have hl : s.toNat < rows.length := by omega
  have e : (rows.map encS).eraseIdx s.toNat = (rows.eraseIdx s.toNat).map encS := by
    rw [List.eraseIdx_eq_take_drop_succ, List.eraseIdx_eq_take_drop_succ, List.map_append, List.map_take, List.map_drop]
  have := take_ok (d := encS (rows[s.toNat]'hl)) h h0 (by rw [List.length_map]; exact h1) (by rw [List.getElem?_map, List.getElem?_eq_getElem hl]; rfl) (by rw [List.length_map]; have : sizeLine = 16777216 := rfl; omega)
  rw [e] at this
  exact ⟨_, this, h.put, rfl⟩
theorem pen_other {M M' : Mem} {p n r : Nat} {o : MO} (h : PenAt M p n) (hr : r ≠ p) (e : M' = M.set r o) : PenAt M' p n := by
  subst e
  obtain ⟨cs, c, q, h1, h2⟩ := h
  exact ⟨cs, c, q, by rw [List.getElem?_set_ne hr]; exact h1, h2⟩
theorem book_pn {M M' : Mem} {b r p n : Nat} {rows : List PyData} (h : BookAt M b r rows) (P : Pn M M' p n) (hb : b ≠ p) (hr : r ≠ p) : BookAt M' b r rows := h.keep (P.rest b hb) (P.rest r hr)
theorem good_ins {rows : List Sk} {d : Sk} (h : ∀ s ∈ rows, GoodS s) (hd : GoodS d) (k : Nat) : ∀ s ∈ rows.take k ++ d :: rows.drop k, GoodS s := fun s hs => by
  rcases List.mem_append.mp hs with q | q
  · exact h s (List.mem_of_mem_take q)
  · rcases List.mem_cons.mp q with q | q
    · rw [q]; exact hd
    · exact h s (List.mem_of_mem_drop q)
theorem good_del {rows : List Sk} (h : ∀ s ∈ rows, GoodS s) (k : Nat) : ∀ s ∈ rows.eraseIdx k, GoodS s := fun s hs => h s (List.mem_of_mem_eraseIdx hs)
theorem lined_of {rows : List Sk} (h : ∀ s ∈ rows, GoodS s) : ∀ s ∈ rows, Lined s := fun s hs => (h s hs).lined
theorem ins_len (rows : List Sk) (d : Sk) (k : Nat) (hk : k ≤ rows.length) : (rows.take k ++ d :: rows.drop k).length = rows.length + 1 := by
  rw [List.length_append, List.length_cons, List.length_take, List.length_drop]; omega
/-- rows[:k] + (d,) + rows[k:] as the law writes it -/
theorem ins_expr {rows : List Sk} {d : Sk} {s : Int} {i j k : Nat} {σ : Sg} {M : Mem} (hi : σ[i]? = some (some (.p (.tuple (rows.map encS))))) (hj : σ[j]? = some (some (.p (.int s)))) (hk : σ[k]? = some (some (.p (encS d)))) (h0 : 0 ≤ s) (h1 : s ≤ rows.length) (hz : rows.length ≤ 100000) :
    bin addD (bin addD (slice (mVar i) oNone (oSome (mVar j))) (app tupD (aCons (mVar k) aNil))) (slice (mVar i) (oSome (mVar j)) oNone) σ M = .ok (.p (.tuple ((rows.take s.toNat ++ d :: rows.drop s.toNat).map encS))) M := by
  have hL : sizeLine = 16777216 := rfl
  have z1 : (1 : Nat) ≤ sizeLine := by decide
  have c1 := cut_lo (xs := rows.map encS) h0 (by rw [List.length_map]; exact h1)
  have c2 := cut_hi (xs := rows.map encS) h0 (by rw [List.length_map]; exact h1)
  have hT : tupD [.p (encS d)] M = .ok (.p (.tuple [encS d])) M := tupD_map (n := 0) [encS d] M z1
  have a1 : addD (.p (.tuple ((rows.map encS).take s.toNat))) (.p (.tuple [encS d])) M = .ok (.p (.tuple ((rows.map encS).take s.toNat ++ [encS d]))) M := add_t (by rw [List.length_take, List.length_map]; simp; omega)
  have a2 : addD (.p (.tuple ((rows.map encS).take s.toNat ++ [encS d]))) (.p (.tuple ((rows.map encS).drop s.toNat))) M = .ok (.p (.tuple ((rows.map encS).take s.toNat ++ [encS d] ++ (rows.map encS).drop s.toNat))) M := add_t (by
    rw [List.length_append, List.length_take, List.length_drop, List.length_map]; simp; omega)
  simp only [bin_ap, slice_ap, app_ap, aCons_ap, aNil_ap, mVar_ap, oNone_ap, oSome_ap, hi, hj, hk, R.bind_ok, slD, c1, c2, hT, a1, a2]
  simp
/-- rows[:k] + rows[k + 1:] -/
theorem del_expr {rows : List Sk} {s : Int} {i j : Nat} {σ : Sg} {M : Mem} (hi : σ[i]? = some (some (.p (.tuple (rows.map encS))))) (hj : σ[j]? = some (some (.p (.int s)))) (h0 : 0 ≤ s) (h1 : s < rows.length) (hz : rows.length ≤ 100000) :
    bin addD (slice (mVar i) oNone (oSome (mVar j))) (slice (mVar i) (oSome (bin addD (mVar j) (mC (.p (.int 1))))) oNone) σ M = .ok (.p (.tuple ((rows.eraseIdx s.toNat).map encS))) M := by
  have hL : sizeLine = 16777216 := rfl
  have c1 := cut_lo (xs := rows.map encS) h0 (by rw [List.length_map]; omega)
  have c2 := cut_hi (xs := rows.map encS) (s := s + 1) (by omega) (by rw [List.length_map]; omega)
  have hn : (s + 1).toNat = s.toNat + 1 := by omega
  rw [hn] at c2
  have a2 : addD (.p (.tuple ((rows.map encS).take s.toNat))) (.p (.tuple ((rows.map encS).drop (s.toNat + 1)))) M = .ok (.p (.tuple ((rows.map encS).take s.toNat ++ (rows.map encS).drop (s.toNat + 1)))) M := add_t (by
    rw [List.length_take, List.length_drop, List.length_map]; omega)
  simp only [bin_ap, slice_ap, mVar_ap, mC_ap, oNone_ap, oSome_ap, hi, hj, R.bind_ok, slD, add_i, c1, c2, a2]
  rw [List.eraseIdx_eq_take_drop_succ, List.map_append, List.map_take, List.map_drop]
theorem len_rows (rows : List Sk) (M : Mem) : lenD [.p (.tuple (rows.map encS))] M = .ok (.p (.int rows.length)) M := by rw [len_tuple, List.length_map]
noncomputable abbrev bd11 : MS := (sSeq (sPar 10 11 (aCons (callG 2 m__law_lot [] (aCons (mVar 1) (aCons (mC (.p (.int 7))) aNil))) (aCons (callG 2 m__law_dyes [] (aCons (mVar 1) (aCons (mC (.p (.int 4))) aNil))) aNil)))
  (sSeq (sAsg (callG 4 m__law_rows [] (aCons (mVar 1) (aCons (mVar 10) (aCons (mVar 11) (aCons (callG 2 m__law_draw [] (aCons (mVar 1) (aCons (mC (.p (.int 9))) aNil))) aNil))))) (gNm 3))
  (sSeq (sAsg (makeG "Book" 2 m_Book_init [] (aCons (mVar 3) aNil)) (gNm 4))
  (sSeq (sIf (asB (bin neD (app (ownD "Book" m_Book_str (fun d => okStr d = true)) (aCons (mVar 4) aNil)) (callG 1 m__law_writing [] (aCons (mVar 3) aNil)))) (sRet (mC (.p (.bool false)))) sNil)
  (sSeq (sAsg (bin ixD (callG 4 m__law_rows [] (aCons (mVar 1) (aCons (mVar 10) (aCons (mVar 11) (aCons (mC (.p (.int 1))) aNil))))) (mC (.p (.int 0)))) (gNm 5))
  (sSeq (sAsg (callG 2 m__law_draw [] (aCons (mVar 1) (aCons (bin addD (app lenD (aCons (mVar 3) aNil)) (mC (.p (.int 1)))) aNil))) (gNm 6))
  (sSeq (sDrop (methG "Book" "put" 3 m_Book_put [] (mVar 4) (aCons (mVar 6) (aCons (mVar 5) aNil))))
  (sSeq (sIf (asB (bin neD (app (ownD "Book" m_Book_str (fun d => okStr d = true)) (aCons (mVar 4) aNil)) (callG 1 m__law_writing [] (aCons (bin addD (bin addD (slice (mVar 3) oNone (oSome (mVar 6))) (app tupD (aCons (mVar 5) aNil))) (slice (mVar 3) (oSome (mVar 6)) oNone)) aNil)))) (sRet (mC (.p (.bool false)))) sNil)
  (sSeq (sAsg (callG 2 m__law_draw [] (aCons (mVar 1) (aCons (bin addD (app lenD (aCons (mVar 3) aNil)) (mC (.p (.int 1)))) aNil))) (gNm 7))
  (sSeq (sAsg (bin addD (bin addD (slice (mVar 3) oNone (oSome (mVar 6))) (app tupD (aCons (mVar 5) aNil))) (slice (mVar 3) (oSome (mVar 6)) oNone)) (gNm 8))
  (sSeq (sDrop (methG "Book" "take" 2 m_Book_take [] (mVar 4) (aCons (mVar 7) aNil)))
  (sSeq (sAsg (bin addD (slice (mVar 8) oNone (oSome (mVar 7))) (slice (mVar 8) (oSome (bin addD (mVar 7) (mC (.p (.int 1))))) oNone)) (gNm 9))
  (sSeq (sIf (asB (bin neD (app (ownD "Book" m_Book_str (fun d => okStr d = true)) (aCons (mVar 4) aNil)) (callG 1 m__law_writing [] (aCons (mVar 9) aNil)))) (sRet (mC (.p (.bool false)))) sNil)
  (sIf (asB (bin neD (mVar 9) (app tupD aNil))) (sSeq (sPar 12 13 (aCons (callG 2 m__law_draw [] (aCons (mVar 1) (aCons (app lenD (aCons (mVar 9) aNil)) aNil))) (aCons (callG 2 m__law_draw [] (aCons (mVar 1) (aCons (app lenD (aCons (mVar 9) aNil)) aNil))) aNil)))
  (sSeq (sDrop (methG "Book" "take" 2 m_Book_take [] (mVar 4) (aCons (mVar 12) aNil)))
  (sSeq (sDrop (methG "Book" "put" 3 m_Book_put [] (mVar 4) (aCons (mVar 13) (aCons (mVar 5) aNil))))
  (sSeq (sAsg (bin addD (slice (mVar 9) oNone (oSome (mVar 12))) (slice (mVar 9) (oSome (bin addD (mVar 12) (mC (.p (.int 1))))) oNone)) (gNm 9))
  (sSeq (sAsg (bin addD (bin addD (slice (mVar 9) oNone (oSome (mVar 13))) (app tupD (aCons (mVar 5) aNil))) (slice (mVar 9) (oSome (mVar 13)) oNone)) (gNm 9))
  (sIf (tOrD (asB (bin neD (app (ownD "Book" m_Book_str (fun d => okStr d = true)) (aCons (mVar 4) aNil)) (callG 1 m__law_writing [] (aCons (mVar 9) aNil)))) (asB (bin neD (app (ownD "Book" m_Book_str (fun d => okStr d = true)) (aCons (makeG "Book" 2 m_Book_init [] (aCons (mVar 9) aNil)) aNil)) (app (ownD "Book" m_Book_str (fun d => okStr d = true)) (aCons (mVar 4) aNil))))) (sRet (mC (.p (.bool false)))) sNil)))))) sNil))))))))))))))
theorem np_row : ¬ (("put" : Str) = "row") := by decide +kernel
theorem nt_row : ¬ (("take" : Str) = "row") := by decide +kernel
/-- a comparison of two equal texts -/
theorem if_same {a b : ME} {h1 : MS} {σ : Sg} {M M1 M2 : Mem} {x : Str} (e1 : a σ M = .ok (.p (.str x)) M1) (e2 : b σ M1 = .ok (.p (.str x)) M2) : sIf (asB (bin neD a b)) h1 sNil σ M = .nx σ M2 := by
  simp [e1, e2, ne_s]
theorem str_expr {σ : Sg} {M : Mem} {b r i : Nat} {rows : List Sk} (hi : σ[i]? = some (some (.at b))) (h : BookAt M b r (rows.map encS)) (hg : ∀ s ∈ rows, GoodS s) (hz : rows.length ≤ 100000) : app (ownD "Book" m_Book_str (fun d => okStr d = true)) (aCons (mVar i) aNil) σ M = .ok (.p (.str (wrS rows))) M := by
  have := str_ok h (lined_of hg) hz
  simp only [app_ap, aCons_ap, aNil_ap, mVar_ap, hi, R.bind_ok, this]
theorem wr_expr {σ : Sg} {M : Mem} {e : ME} {rows : List Sk} (he : e σ M = .ok (.p (.tuple (rows.map encS))) M) (hg : ∀ s ∈ rows, GoodS s) (hz : rows.length ≤ 100000) : callG 1 m__law_writing [] (aCons e aNil) σ M = .ok (.p (.str (wrS rows))) M := by
  have := writing_ok (lined_of hg) hz M
  simp [he, this]
theorem turn11 {M : Mem} {n : Nat} (h : PenAt M 0 n) (hn : n ≤ 700000) (x0 x2 x3 x4 x5 x6 x7 x8 x9 x10 x11 x12 x13 : Option D) :
    ∃ (y3 y4 y5 y6 y7 y8 y9 y10 y11 y12 y13 : Option D) (M' : Mem), bd11 [x0, some (.at 0), x2, x3, x4, x5, x6, x7, x8, x9, x10, x11, x12, x13] M = .nx [x0, some (.at 0), x2, y3, y4, y5, y6, y7, y8, y9, y10, y11, y12, y13] M' ∧ PenAt M' 0 (n + 100) := by
  obtain ⟨lot, M1, e1, l1, lok, P1⟩ := lot_ok (s := 7) h (by omega) (by decide) (by decide)
  obtain ⟨dyes, M2, e2, l2, ⟨rest, pm⟩, P2⟩ := dyes_ok (k := 4) P1.pen (by omega) (by decide)
  have hy : ∀ y ∈ dyes, y ∈ pool6 := fun y hy => pm.mem_iff.mp (List.mem_append_left _ hy)
  obtain ⟨k, M3, e3, k0, k1, P3⟩ := draw_ok (k := 9) P2.pen (by omega) (by decide) (by decide)
  obtain ⟨kn, hkn⟩ : ∃ kn : Nat, k = kn := ⟨k.toNat, by omega⟩
  obtain ⟨rows, M4, e4, l4, g4, P4⟩ := rows_ok (k := kn) P3.pen (by omega) lok (by omega) (by omega) hy (by omega) (by omega) (by omega)
  rw [← hkn] at e4
  have hz4 : rows.length ≤ 100000 := by omega
  have e5 := make_rows (M := M4) g4 hz4
  obtain ⟨M5, hM5⟩ : ∃ M5, M5 = M4 ++ [.ins "Book" [("row", .at (M4.length + 1))], .lst ((rows.map encS).map .p)] := ⟨_, rfl⟩
  rw [← hM5] at e5
  have B5 : BookAt M5 M4.length (M4.length + 1) (rows.map encS) := by rw [hM5]; exact init_newAt
  have P5 : PenAt M5 0 (n + 7 + 2 + 4 + 1 + 3 * kn) := by
    have hp := P4.pen.lt
    obtain ⟨cs, c, q, h1, h2⟩ := P4.pen
    exact ⟨cs, c, q, by rw [hM5, List.getElem?_append_left hp]; exact h1, h2⟩
  have hb0 : M4.length ≠ 0 := by have := P4.pen.lt; omega
  have hr0 : M4.length + 1 ≠ 0 := by omega
  generalize hb : M4.length = b at *
  generalize hr : b + 1 = r at *
  obtain ⟨mores, M6, e6, l6, g6, P6⟩ := rows_ok (k := 1) P5 (by omega) lok (by omega) (by omega) hy (by omega) (by omega) (by decide)
  obtain ⟨more, rfl⟩ : ∃ m, mores = [m] := by
    match mores, l6 with
    | [m], _ => exact ⟨m, rfl⟩
  have gm : GoodS more := g6 more (by simp)
  have B6 := book_pn B5 P6 hb0 hr0
  obtain ⟨slot, M7, e7, s0, s1, P7⟩ := draw_ok (k := rows.length + 1) P6.pen (by omega) (by omega) (by omega)
  have B7 := book_pn B6 P7 hb0 hr0
  obtain ⟨M8, e8, B8, hM8⟩ := book_put B7 s0 (by omega) gm hz4
  have P8 := pen_other P7.pen hr0 hM8
  have sk : slot.toNat ≤ rows.length := by omega
  have g8 := good_ins g4 gm slot.toNat
  have l8 := ins_len rows more slot.toNat sk
  obtain ⟨num, M9, e9, n0, n1, P9⟩ := draw_ok (k := rows.length + 1) P8 (by omega) (by omega) (by omega)
  have B9 := book_pn B8 P9 hb0 hr0
  obtain ⟨M10, e10, B10, hM10⟩ := book_take B9 n0 (by omega) (by omega)
  have P10 := pen_other P9.pen hr0 hM10
  have g10 := good_del g8 num.toNat
  have l10 : ((rows.take slot.toNat ++ more :: rows.drop slot.toNat).eraseIdx num.toNat).length = rows.length := by
    rw [List.length_eraseIdx, l8]
    split <;> omega
  have hz8 : (rows.take slot.toNat ++ more :: rows.drop slot.toNat).length ≤ 100000 := by omega
  have hz10 : ((rows.take slot.toNat ++ more :: rows.drop slot.toNat).eraseIdx num.toNat).length ≤ 100000 := by omega
  rw [show (((7 : Nat) : Int)) = 7 from rfl] at e1
  rw [show (((4 : Nat) : Int)) = 4 from rfl] at e2
  rw [show (((1 : Nat) : Int)) = 1 from rfl, List.map_cons, List.map_nil] at e6
  have gx : ixD (.p (.tuple [encS more])) (.p (.int 0)) M6 = .ok (.p (encS more)) M6 := rfl
  -- statements 1 to 13
  have head : ∀ {r : SR}, (sIf (asB (bin neD (mVar 9) (app tupD aNil))) (sSeq (sPar 12 13 (aCons (callG 2 m__law_draw [] (aCons (mVar 1) (aCons (app lenD (aCons (mVar 9) aNil)) aNil))) (aCons (callG 2 m__law_draw [] (aCons (mVar 1) (aCons (app lenD (aCons (mVar 9) aNil)) aNil))) aNil)))
      (sSeq (sDrop (methG "Book" "take" 2 m_Book_take [] (mVar 4) (aCons (mVar 12) aNil)))
      (sSeq (sDrop (methG "Book" "put" 3 m_Book_put [] (mVar 4) (aCons (mVar 13) (aCons (mVar 5) aNil))))
      (sSeq (sAsg (bin addD (slice (mVar 9) oNone (oSome (mVar 12))) (slice (mVar 9) (oSome (bin addD (mVar 12) (mC (.p (.int 1))))) oNone)) (gNm 9))
      (sSeq (sAsg (bin addD (bin addD (slice (mVar 9) oNone (oSome (mVar 13))) (app tupD (aCons (mVar 5) aNil))) (slice (mVar 9) (oSome (mVar 13)) oNone)) (gNm 9))
      (sIf (tOrD (asB (bin neD (app (ownD "Book" m_Book_str (fun d => okStr d = true)) (aCons (mVar 4) aNil)) (callG 1 m__law_writing [] (aCons (mVar 9) aNil)))) (asB (bin neD (app (ownD "Book" m_Book_str (fun d => okStr d = true)) (aCons (makeG "Book" 2 m_Book_init [] (aCons (mVar 9) aNil)) aNil)) (app (ownD "Book" m_Book_str (fun d => okStr d = true)) (aCons (mVar 4) aNil))))) (sRet (mC (.p (.bool false)))) sNil)))))) sNil)
      [x0, some (.at 0), x2, some (.p (.tuple (rows.map encS))), some (.at b), some (.p (encS more)), some (.p (.int slot)), some (.p (.int num)), some (.p (.tuple ((rows.take slot.toNat ++ more :: rows.drop slot.toNat).map encS))), some (.p (.tuple (((rows.take slot.toNat ++ more :: rows.drop slot.toNat).eraseIdx num.toNat).map encS))), some (.p (.list (lot.map .int))), some (.p (.list (dyes.map .str))), x12, x13] M10 = r →
      bd11 [x0, some (.at 0), x2, x3, x4, x5, x6, x7, x8, x9, x10, x11, x12, x13] M = r := by
    intro r hlast
    refine seq_nx (σ1 := [x0, some (.at 0), x2, x3, x4, x5, x6, x7, x8, x9, some (.p (.list (lot.map .int))), some (.p (.list (dyes.map .str))), x12, x13]) (M1 := M2) (by simp [e1, e2]) ?_
    refine seq_nx (σ1 := [x0, some (.at 0), x2, some (.p (.tuple (rows.map encS))), x4, x5, x6, x7, x8, x9, some (.p (.list (lot.map .int))), some (.p (.list (dyes.map .str))), x12, x13]) (M1 := M4) (by simp [e3, e4]) ?_
    refine seq_nx (σ1 := [x0, some (.at 0), x2, some (.p (.tuple (rows.map encS))), some (.at b), x5, x6, x7, x8, x9, some (.p (.list (lot.map .int))), some (.p (.list (dyes.map .str))), x12, x13]) (M1 := M5) (by simp [e5, hb]) ?_
    refine seq_nx (if_same (str_expr rfl B5 g4 hz4) (wr_expr (e := mVar 3) (by rfl) g4 hz4)) ?_
    refine seq_nx (σ1 := [x0, some (.at 0), x2, some (.p (.tuple (rows.map encS))), some (.at b), some (.p (encS more)), x6, x7, x8, x9, some (.p (.list (lot.map .int))), some (.p (.list (dyes.map .str))), x12, x13]) (M1 := M6) (by simp [e6, gx]) ?_
    refine seq_nx (σ1 := [x0, some (.at 0), x2, some (.p (.tuple (rows.map encS))), some (.at b), some (.p (encS more)), some (.p (.int slot)), x7, x8, x9, some (.p (.list (lot.map .int))), some (.p (.list (dyes.map .str))), x12, x13]) (M1 := M7) (by simp [len_rows, add_i, e7]) ?_
    refine seq_nx (σ1 := [x0, some (.at 0), x2, some (.p (.tuple (rows.map encS))), some (.at b), some (.p (encS more)), some (.p (.int slot)), x7, x8, x9, some (.p (.list (lot.map .int))), some (.p (.list (dyes.map .str))), x12, x13]) (M1 := M8) (by simp [B7.ob, e8, np_row]) ?_
    refine seq_nx (if_same (str_expr rfl B8 g8 hz8) (wr_expr (ins_expr (rows := rows) (d := more) (s := slot) rfl rfl rfl s0 (by omega) hz4) g8 hz8)) ?_
    refine seq_nx (σ1 := [x0, some (.at 0), x2, some (.p (.tuple (rows.map encS))), some (.at b), some (.p (encS more)), some (.p (.int slot)), some (.p (.int num)), x8, x9, some (.p (.list (lot.map .int))), some (.p (.list (dyes.map .str))), x12, x13]) (M1 := M9) (by simp [len_rows, add_i, e9]) ?_
    refine seq_nx (σ1 := [x0, some (.at 0), x2, some (.p (.tuple (rows.map encS))), some (.at b), some (.p (encS more)), some (.p (.int slot)), some (.p (.int num)), some (.p (.tuple ((rows.take slot.toNat ++ more :: rows.drop slot.toNat).map encS))), x9, some (.p (.list (lot.map .int))), some (.p (.list (dyes.map .str))), x12, x13]) (M1 := M9) (by rw [sAsg_ap, ins_expr (rows := rows) (d := more) (s := slot) rfl rfl rfl s0 (by omega) hz4]; rfl) ?_
    refine seq_nx (σ1 := [x0, some (.at 0), x2, some (.p (.tuple (rows.map encS))), some (.at b), some (.p (encS more)), some (.p (.int slot)), some (.p (.int num)), some (.p (.tuple ((rows.take slot.toNat ++ more :: rows.drop slot.toNat).map encS))), x9, some (.p (.list (lot.map .int))), some (.p (.list (dyes.map .str))), x12, x13]) (M1 := M10) (by simp [B9.ob, e10, nt_row]) ?_
    refine seq_nx (σ1 := [x0, some (.at 0), x2, some (.p (.tuple (rows.map encS))), some (.at b), some (.p (encS more)), some (.p (.int slot)), some (.p (.int num)), some (.p (.tuple ((rows.take slot.toNat ++ more :: rows.drop slot.toNat).map encS))), some (.p (.tuple (((rows.take slot.toNat ++ more :: rows.drop slot.toNat).eraseIdx num.toNat).map encS))), some (.p (.list (lot.map .int))), some (.p (.list (dyes.map .str))), x12, x13]) (M1 := M10) (by rw [sAsg_ap, del_expr (rows := rows.take slot.toNat ++ more :: rows.drop slot.toNat) (s := num) rfl rfl n0 (by omega) hz8]; rfl) ?_
    refine seq_nx (if_same (str_expr rfl B10 g10 hz10) (wr_expr (e := mVar 9) (by rfl) g10 hz10)) ?_
    exact hlast
  clear e1 e2 e3 e4 e5 e6 e7 e8 e9 e10
  generalize (rows.take slot.toNat ++ more :: rows.drop slot.toNat).eraseIdx num.toNat = stays at *
  generalize rows.take slot.toNat ++ more :: rows.drop slot.toNat = gone at *
  by_cases hs : stays = []
  · refine ⟨_, _, _, _, _, _, _, _, _, _, _, M10, head (r := .nx [x0, some (.at 0), x2, some (.p (.tuple (rows.map encS))), some (.at b), some (.p (encS more)), some (.p (.int slot)), some (.p (.int num)), some (.p (.tuple (gone.map encS))), some (.p (.tuple (stays.map encS))), some (.p (.list (lot.map .int))), some (.p (.list (dyes.map .str))), x12, x13] M10) ?_, P10.le (by omega)⟩
    have z0 : (0 : Nat) ≤ sizeLine := by decide
    have hT : tupD [] M10 = .ok (.p (.tuple [])) M10 := tupD_map (n := 0) [] M10 z0
    have hne := ne_empty g10 M10
    rw [decide_eq_true hs] at hne
    rw [sIf_ap, asB_ap, bin_ap]
    simp only [mVar_ap, List.getElem?_cons_zero, List.getElem?_cons_succ, R.bind_ok, app_ap, aNil_ap, hT, hne]
    simp
  · have hsl : 0 < stays.length := List.length_pos_iff.mpr hs
    obtain ⟨spot, M11, e11, p0, p1, P11⟩ := draw_ok (k := stays.length) P10 (by omega) (by omega) (by omega)
    obtain ⟨goal, M12, e12, q0, q1, P12⟩ := draw_ok (k := stays.length) P11.pen (by omega) (by omega) (by omega)
    have B12 := book_pn (book_pn B10 P11 hb0 hr0) P12 hb0 hr0
    obtain ⟨M13, e13, B13, hM13⟩ := book_take B12 p0 p1 (by omega)
    have P13 := pen_other P12.pen hr0 hM13
    have g13 := good_del g10 spot.toNat
    have l13 : (stays.eraseIdx spot.toNat).length = stays.length - 1 := by
      rw [List.length_eraseIdx, if_pos (by omega)]
    obtain ⟨M14, e14, B14, hM14⟩ := book_put B13 q0 (by omega) gm (by omega)
    have P14 := pen_other P13 hr0 hM14
    have g14 := good_ins g13 gm goal.toNat
    have l14 := ins_len (stays.eraseIdx spot.toNat) more goal.toNat (by omega)
    have hz13 : (stays.eraseIdx spot.toNat).length ≤ 100000 := by omega
    have hz14 : ((stays.eraseIdx spot.toNat).take goal.toNat ++ more :: (stays.eraseIdx spot.toNat).drop goal.toNat).length ≤ 100000 := by omega
    have e15 := make_rows (M := M14) g14 hz14
    obtain ⟨M15, hM15⟩ : ∃ M15, M15 = M14 ++ [.ins "Book" [("row", .at (M14.length + 1))], .lst ((((stays.eraseIdx spot.toNat).take goal.toNat ++ more :: (stays.eraseIdx spot.toNat).drop goal.toNat).map encS).map .p)] := ⟨_, rfl⟩
    rw [← hM15] at e15
    have B15n : BookAt M15 M14.length (M14.length + 1) (((stays.eraseIdx spot.toNat).take goal.toNat ++ more :: (stays.eraseIdx spot.toNat).drop goal.toNat).map encS) := by rw [hM15]; exact init_newAt
    have B15 : BookAt M15 b r (((stays.eraseIdx spot.toNat).take goal.toNat ++ more :: (stays.eraseIdx spot.toNat).drop goal.toNat).map encS) := by
      rw [hM15]
      exact B14.keep (app_old _ _ (List.getElem?_eq_some_iff.mp B14.ob).1) (app_old _ _ (List.getElem?_eq_some_iff.mp B14.row).1)
    have P15 : PenAt M15 0 (n + 100) := by
      have hp := P14.lt
      obtain ⟨cs, c, q, h1, h2, h3, h4⟩ := P14.le (m := n + 100) (by omega)
      exact ⟨cs, c, q, by rw [hM15, List.getElem?_append_left hp]; exact h1, h2, h3, h4⟩
    refine ⟨_, _, _, _, _, _, _, _, _, _, _, M15, head (r := .nx [x0, some (.at 0), x2, some (.p (.tuple (rows.map encS))), some (.at b), some (.p (encS more)), some (.p (.int slot)), some (.p (.int num)), some (.p (.tuple (gone.map encS))), some (.p (.tuple (((stays.eraseIdx spot.toNat).take goal.toNat ++ more :: (stays.eraseIdx spot.toNat).drop goal.toNat).map encS))), some (.p (.list (lot.map .int))), some (.p (.list (dyes.map .str))), some (.p (.int spot)), some (.p (.int goal))] M15) ?_, P15⟩
    have z0 : (0 : Nat) ≤ sizeLine := by decide
    have hT : tupD [] M10 = .ok (.p (.tuple [])) M10 := tupD_map (n := 0) [] M10 z0
    have hne := ne_empty g10 M10
    rw [decide_eq_false hs] at hne
    rw [sIf_ap, asB_ap, bin_ap]
    simp only [mVar_ap, List.getElem?_cons_zero, List.getElem?_cons_succ, R.bind_ok, app_ap, aNil_ap, hT, hne, Bool.not_false, if_true, R.go_ok]
    refine seq_nx (σ1 := [x0, some (.at 0), x2, some (.p (.tuple (rows.map encS))), some (.at b), some (.p (encS more)), some (.p (.int slot)), some (.p (.int num)), some (.p (.tuple (gone.map encS))), some (.p (.tuple (stays.map encS))), some (.p (.list (lot.map .int))), some (.p (.list (dyes.map .str))), some (.p (.int spot)), some (.p (.int goal))]) (M1 := M12) (by simp [len_rows, e11, e12]) ?_
    refine seq_nx (σ1 := [x0, some (.at 0), x2, some (.p (.tuple (rows.map encS))), some (.at b), some (.p (encS more)), some (.p (.int slot)), some (.p (.int num)), some (.p (.tuple (gone.map encS))), some (.p (.tuple (stays.map encS))), some (.p (.list (lot.map .int))), some (.p (.list (dyes.map .str))), some (.p (.int spot)), some (.p (.int goal))]) (M1 := M13) (by simp [B12.ob, e13, nt_row]) ?_
    refine seq_nx (σ1 := [x0, some (.at 0), x2, some (.p (.tuple (rows.map encS))), some (.at b), some (.p (encS more)), some (.p (.int slot)), some (.p (.int num)), some (.p (.tuple (gone.map encS))), some (.p (.tuple (stays.map encS))), some (.p (.list (lot.map .int))), some (.p (.list (dyes.map .str))), some (.p (.int spot)), some (.p (.int goal))]) (M1 := M14) (by simp [B13.ob, e14, np_row]) ?_
    refine seq_nx (σ1 := [x0, some (.at 0), x2, some (.p (.tuple (rows.map encS))), some (.at b), some (.p (encS more)), some (.p (.int slot)), some (.p (.int num)), some (.p (.tuple (gone.map encS))), some (.p (.tuple ((stays.eraseIdx spot.toNat).map encS))), some (.p (.list (lot.map .int))), some (.p (.list (dyes.map .str))), some (.p (.int spot)), some (.p (.int goal))]) (M1 := M14) (by rw [sAsg_ap, del_expr (rows := stays) (s := spot) rfl rfl p0 p1 hz10]; rfl) ?_
    refine seq_nx (σ1 := [x0, some (.at 0), x2, some (.p (.tuple (rows.map encS))), some (.at b), some (.p (encS more)), some (.p (.int slot)), some (.p (.int num)), some (.p (.tuple (gone.map encS))), some (.p (.tuple (((stays.eraseIdx spot.toNat).take goal.toNat ++ more :: (stays.eraseIdx spot.toNat).drop goal.toNat).map encS))), some (.p (.list (lot.map .int))), some (.p (.list (dyes.map .str))), some (.p (.int spot)), some (.p (.int goal))]) (M1 := M14) (by rw [sAsg_ap, ins_expr (rows := stays.eraseIdx spot.toNat) (d := more) (s := goal) rfl rfl rfl q0 (by omega) hz13]; rfl) ?_
    have t1 := str_ok B14 (lined_of g14) hz14
    have t2 := writing_ok (lined_of g14) hz14 M14
    have t3 := str_ok B15n (lined_of g14) hz14
    have t4 := str_ok B15 (lined_of g14) hz14
    generalize (stays.eraseIdx spot.toNat).take goal.toNat ++ more :: (stays.eraseIdx spot.toNat).drop goal.toNat = last at *
    simp [t1, t2, ne_s, e15, t3, t4]
theorem pen_append {M : Mem} {p n : Nat} (h : PenAt M p n) (xs : List MO) : PenAt (M ++ xs) p n := by
  have hp := h.lt
  obtain ⟨cs, c, q, h1, h2⟩ := h
  exact ⟨cs, c, q, by rw [List.getElem?_append_left hp]; exact h1, h2⟩
/-- str(Book(e)) -/
theorem new_str {σ : Sg} {M : Mem} {e : ME} {d : PyData} {rows : List Sk} (he : e σ M = .ok (.p d) M) (hd : d = .tuple (rows.map encS) ∨ d = .list (rows.map encS)) (hg : ∀ s ∈ rows, GoodS s) (hz : rows.length ≤ 100000) :
    app (ownD "Book" m_Book_str (fun d => okStr d = true)) (aCons (makeG "Book" 2 m_Book_init [] (aCons e aNil)) aNil) σ M = .ok (.p (.str (wrS rows))) (M ++ [.ins "Book" [("row", .at (M.length + 1))], .lst ((rows.map encS).map .p)]) := by
  obtain ⟨h1, h2⟩ := few_rows hg
  have e5 := init_new (M := M) hd h1 (by rw [List.length_map]; have : sizeLine = 16777216 := rfl; omega) h2
  have t3 := str_ok (init_newAt (M := M) (ds := rows.map encS)) (lined_of hg) hz
  generalize M ++ [MO.ins "Book" [("row", .at (M.length + 1))], .lst ((rows.map encS).map .p)] = M' at *
  simp [he, e5, t3]
theorem new_str0 {σ : Sg} {M : Mem} : app (ownD "Book" m_Book_str (fun d => okStr d = true)) (aCons (makeG "Book" 2 m_Book_init [.p (.tuple [])] aNil) aNil) σ M = .ok (.p (.str (wrS []))) (M ++ [.ins "Book" [("row", .at (M.length + 1))], .lst []]) := by
  have e5 := init_new (M := M) (d := .tuple []) (ds := []) (.inl rfl) (fun x hx => nomatch hx) (Nat.zero_le _) rfl
  have t3 := str_ok (M := M ++ [MO.ins "Book" [("row", .at (M.length + 1))], .lst []]) (b := M.length) (r := M.length + 1) (rows := []) (init_newAt (M := M) (ds := [])) (fun x hx => nomatch hx) (Nat.zero_le _)
  rw [List.map_nil] at e5
  generalize M ++ [MO.ins "Book" [("row", .at (M.length + 1))], .lst []] = M' at *
  simp [e5, t3]
theorem two_good : ∀ s ∈ ([(0, 9, "red"), (3, 5, "blue")] : List Sk), GoodS s := by
  intro s hs
  simp only [List.mem_cons, List.not_mem_nil, or_false] at hs
  rcases hs with rfl | rfl
  · exact ⟨by decide, by decide, by decide, by decide +kernel⟩
  · exact ⟨by decide, by decide, by decide, by decide +kernel⟩
theorem law_ok (ns : List Int) (h : ns.length ≤ 63) : ∃ M', m_law [.scr ns] [] = .ok (.p (.bool true)) M' := by
  obtain ⟨pen, e1, P1⟩ := pen_ok h []
  rw [List.nil_append, List.length_nil] at e1 P1
  obtain ⟨σ2, M2, e2, y2, y3, y4, y5, y6, y7, y8, y9, y10, y11, y12, y13, rfl, P2⟩ := forL_inv0 (ck := fun _ => True) (g := gNm 2) (body := bd11)
    (fun i σ M => ∃ y2 y3 y4 y5 y6 y7 y8 y9 y10 y11 y12 y13 : Option D, σ = [some (.scr ns), some (.at 0), y2, y3, y4, y5, y6, y7, y8, y9, y10, y11, y12, y13] ∧ PenAt M 0 (i * 100))
    (rngI 0 6) [some (.scr ns), some (.at 0), none, none, none, none, none, none, none, none, none, none, none, none] [pen]
    ⟨none, none, none, none, none, none, none, none, none, none, none, none, rfl, P1.le (Nat.zero_le _)⟩ (fun _ _ _ _ => trivial) (by
      rintro i it σ M hit ⟨y2, y3, y4, y5, y6, y7, y8, y9, y10, y11, y12, y13, rfl, P⟩
      obtain ⟨hi, rfl⟩ := rng_get hit
      obtain ⟨z3, z4, z5, z6, z7, z8, z9, z10, z11, z12, z13, M', f1, f2⟩ := turn11 P (by omega) (some (.scr ns)) (some (.p (.int (0 + (i : Nat))))) y3 y4 y5 y6 y7 y8 y9 y10 y11 y12 y13
      exact ⟨[some (.scr ns), some (.at 0), some (.p (.int (0 + (i : Nat)))), y3, y4, y5, y6, y7, y8, y9, y10, y11, y12, y13], M, _, M', rfl, .inl f1, some (.p (.int (0 + (i : Nat)))), z3, z4, z5, z6, z7, z8, z9, z10, z11, z12, z13, rfl, f2.le (by omega)⟩)
  have z2 : (2 : Nat) ≤ sizeLine := by decide
  have z3 : (3 : Nat) ≤ sizeLine := by decide
  have hT1 : ∀ M, tupD [.p (.int 0), .p (.int 9), .p (.str "red")] M = .ok (.p (encS (0, 9, "red"))) M := fun M => tupD_map (n := 0) [.int 0, .int 9, .str "red"] M z3
  have hT2 : ∀ M, tupD [.p (.int 3), .p (.int 5), .p (.str "blue")] M = .ok (.p (encS (3, 5, "blue"))) M := fun M => tupD_map (n := 0) [.int 3, .int 5, .str "blue"] M z3
  have hL : ∀ M, lstD [.p (encS (0, 9, "red")), .p (encS (3, 5, "blue"))] M = .ok (.p (.list [encS (0, 9, "red"), encS (3, 5, "blue")])) M := fun M => lstD_map (n := 0) [encS (0, 9, "red"), encS (3, 5, "blue")] M z2
  have hS := new_str (σ := [some (.scr ns), some (.at 0), y2, y3, y4, y5, y6, y7, y8, y9, y10, y11, y12, y13]) (M := M2)
    (e := app lstD (aCons (app tupD (aCons (mC (.p (.int 0))) (aCons (mC (.p (.int 9))) (aCons (mC (.p (.str "red"))) aNil)))) (aCons (app tupD (aCons (mC (.p (.int 3))) (aCons (mC (.p (.int 5))) (aCons (mC (.p (.str "blue"))) aNil)))) aNil)))
    (d := .list [encS (0, 9, "red"), encS (3, 5, "blue")]) (rows := [(0, 9, "red"), (3, 5, "blue")]) (by simp [hT1, hT2, hL]) (.inr rfl) two_good (by decide)
  have q1 : wrS [(0, 9, "red"), (3, 5, "blue")] = "0 9 red / 3 5 blue" := by decide +kernel
  have q2 : wrS [] = "" := by decide +kernel
  rw [q1] at hS
  generalize M2 ++ [MO.ins "Book" [("row", .at (M2.length + 1))], .lst ((([(0, 9, "red"), (3, 5, "blue")] : List Sk).map encS).map .p)] = M3 at *
  have hE := new_str0 (σ := [some (.scr ns), some (.at 0), y2, y3, y4, y5, y6, y7, y8, y9, y10, y11, y12, y13]) (M := M3)
  rw [q2] at hE
  refine ⟨M3 ++ [.ins "Book" [("row", .at (M3.length + 1))], .lst []], runB_rt ?_⟩
  show b_law [some (.scr ns), none, none, none, none, none, none, none, none, none, none, none, none, none] [] = _
  unfold b_law
  refine seq_nx (σ1 := [some (.scr ns), some (.at 0), none, none, none, none, none, none, none, none, none, none, none, none]) (M1 := [pen]) (by simp [e1]) ?_
  have hw := wRng1_nat (fs := aCons (mC (.p (.int 6))) aNil) (σ := [some (.scr ns), some (.at 0), none, none, none, none, none, none, none, none, none, none, none, none]) (M := [pen]) (M1 := [pen]) (s := 6) (by simp) (by decide)
  refine seq_nx (σ1 := [some (.scr ns), some (.at 0), y2, y3, y4, y5, y6, y7, y8, y9, y10, y11, y12, y13]) (M1 := M2) ?_ ?_
  · rw [sFor_ap, hw, R.go_ok]
    exact e2
  · rw [sRet_ap, and_ap, bin_ap, hS]
    simp only [R.bind_ok, mC_ap, eq_s, decide_true, if_true]
    rw [bin_ap, hE]
    simp only [R.bind_ok, mC_ap, eq_s, decide_true, R.go_ok]
end K11
end
set_option maxHeartbeats 0
namespace K11
open PySem PySem.Spec PyProof.Rows L2 Tl
abbrev Rw : PySem.W.OpenRow := PySem.W.OpenLaw.row PySem.Challenge.rw_pastlay_k11_books_written
def names : List PySem.Str := (["_wall", "PastError", "BadStroke", "NoSlot", "NoStroke", "LAST", "ALPHABET", "MOST_LETTERS", "is_whole", "is_name", "is_place", "is_stretch", "is_colour", "is_stroke", "Book", "_law_pen", "_law_fresh", "_law_draw", "_law_lot", "_law_stretch", "_law_dyes", "_law_rows", "_law_writing"] : List PySem.Str)
theorem run (w : World) : HandSHeadRun.RunEq Rw (PySem.W.view Rw.prog [27]) (hookX 5 fa fn xt) (obX 5 fa fn xt) 8000 names w := by
  intro os
  kernel_rfl
end K11
namespace K11
open PySem PySem.W PySem.Calls PyProof.Rows Tl
theorem ends (hL : ∀ ns : List Int, ns.length ≤ 63 → ∃ M', m_law [.scr ns] [] = .ok (.p (.bool true)) M') : PySem.Challenge.rw_pastlay_k11_books_written.Holds := by
  w_on; o_law
  refine HandSHeadRun.head_any (r := Rw) (q := view Rw.prog [27]) (H := hookX 5 fa fn xt) (ob := obX 5 fa fn xt) (M := 8000) (loose := names) (d := HandSHeadRun.topDef Rw.prog 27) (kwd := []) (obX_eq 5 fa fn xt)
    (by kernel_rfl) (fun s => by kernel_rfl) run (by kernel_rfl) (by kernel_rfl) (by kernel_rfl) (by rfl) (by first | assumption | decide +kernel) (by decide +kernel) ⟨rfl, rfl, rfl, rfl, rfl, by decide +kernel⟩ ?hw ?hc
  case hw => w_witness2
  case hc =>
    refine law_end (l := PySem.Challenge.rw_pastlay_k11_books_written) (k := 7) (x := "script") rfl (by kernel_rfl) ⟨rfl, by decide, by decide⟩ ?F
    intro w mg ad h Y G hmg0
    obtain ⟨K, KX, c, xx⟩ := Y
    have hmg : mg ("law" : PySem.Str) = some (.ref ad) := by
      have e : (HandSHeadRun.topDef Rw.prog 27).name = ("law" : PySem.Str) := by kernel_rfl
      rw [← e]
      exact hmg0
    have e := hmg.symm.trans (He.glo_ok KX G (c.fact (fa.length - 1) (f := .glo "law") rfl))
    cases e
    refine ⟨K, ctK K, m_law, KX, hL, fun base hK hn => ?_⟩
    obtain ⟨fd, ds, h1, h2, h3, h4, h5⟩ := (ok_law (P := (PySem.Challenge.rw_pastlay_k11_books_written).prog) (w := w) (base := base) KX G c xx).ex
    exact ⟨fd, h1, h5 rfl⟩
end K11
theorem PySem.Challenge.cw_pastlay_k11_books_written_holds : PySem.Challenge.rw_pastlay_k11_books_written.Holds :=
  K11.ends K11.law_ok
