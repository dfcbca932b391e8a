import PyProof.Rows.All
import Wide.All
import OpenK.AllK
import Wide.FinOn
import KE.KStateDown
import HandS.ForMost
import HandS.Exc
import HandS.ExcOwn
import HandS.WordsExc
import HandS.HeadHook2
import HandS.Lambda
import HandS.ExcIs
import HandS.IsInst
import HandS.TupAny
import HandS.TupMul
import HandS.Style
import HandS.Small
import PyProof.StrOps2
import HandS.Defaults
import HandS.HeadEnd
import HandS.Replace
import HandS.SortInts
import HandS.StrMore
import PyProof.ListStr
import HandS.Text
import HandS.Deep
import KE.GoesMore
import PyProof.EnumMake
import HandS.SetFor
import HandS.SetTxt0
import PyProof.Rows.SortShellAny
import HandS.Strs
import HandS.Words
import HandS.ExcValue
import HandS.EndTab
import HandS.HeadHook4
import HandS.Dict
import KE.KRevSl
import HandS.Head0
import HandS.Head1
import HandS.Head2
import PySem.Challenge.RW_shakenwords_k31_machines_recognized
set_option Elab.async false
set_option linter.all false
set_option maxRecDepth 100000
set_option maxHeartbeats 8000000
/-! Q3a: heap-free states and what it means that a heap bears one. -/
namespace Q3
open PySem PySem.Spec PyProof.Rows L2
abbrev D := PyData
/-- the tables of code objects that a law's lambdas write in -/
class TabSet where
  T : List (Addr × Str)
variable [TabSet]
/-- what a slot holds: nothing, data that stays, a list of its own, a dict of its own, the law's pen -/
inductive R where
  | un | d (x : D) | l (xs : List D) | m (kvs : List (D × D)) | pen | e (c : Str) | sc (ns : List Int)
structure Pen where
  cells : List Int
  at_ : Int
  rest : Int
structure Sq where
  r : List R
  p : Option Pen
/-- an expression's value: a slot's, data, a new list -/
inductive PV where
  | s (i : Nat) | v (x : D) | o (c : R)
inductive Out (α : Type) where
  | ok (a : α) (s : Sq) | ex (c : Str) (s : Sq) | no
def Out.bind {α β : Type} (o : Out α) (k : α → Sq → Out β) : Out β := match o with
  | .ok a s => k a s
  | .ex c s => .ex c s
  | .no => .no
@[simp] theorem Out.bind_ok {α β : Type} (a : α) (s : Sq) (k : α → Sq → Out β) : (Out.ok a s).bind k = k a s := rfl
@[simp] theorem Out.bind_ex {α β : Type} (c : Str) (s : Sq) (k : α → Sq → Out β) : (Out.ex c s : Out α).bind k = .ex c s := rfl
@[simp] theorem Out.bind_no {α β : Type} (k : α → Sq → Out β) : (Out.no : Out α).bind k = .no := rfl
/-- how a statement ends -/
inductive Fl where
  | nx (s : Sq) | rt (r : R) (s : Sq) | bk (s : Sq) | ct (s : Sq) | ex (c : Str) (s : Sq) | no

/-! ### data in a heap -/
mutual
inductive Dn (K : PySem.W.Frag) (H : Hp) : V → D → Prop
  | non : Dn K H .non .none
  | bl (b : Bool) : Dn K H (.bl b) (.bool b)
  | int (i : Int) : Dn K H (.int i) (.int i)
  | str (x : Str) : Dn K H (.str x) (.str x)
  | lst {a : Addr} {xs : List V} {ds : List D} : H a = some (.lst xs) → DnAll K H xs ds → Dn K H (.ref a) (.list ds)
  | tup {a : Addr} {xs : List V} {ds : List D} : H a = some (.tup xs) → DnAll K H xs ds → Dn K H (.ref a) (.tuple ds)
  | dct0 {a : Addr} : H a = some (.dK []) → Dn K H (.ref a) (.dict [])
inductive DnAll (K : PySem.W.Frag) (H : Hp) : List V → List D → Prop
  | nil : DnAll K H [] []
  | cons {v : V} {vs : List V} {d : D} {ds : List D} : Dn K H v d → DnAll K H vs ds → DnAll K H (v :: vs) (d :: ds)
end
def Ex (H H' : Hp) : Prop := ∀ a o, H a = some o → H' a = some o
theorem Ex.refl (H : Hp) : Ex H H := fun _ _ h => h
theorem Ex.trans {H H1 H2 : Hp} (a : Ex H H1) (b : Ex H1 H2) : Ex H H2 := fun x o h => b x o (a x o h)
theorem Ex.new {H : Hp} {p : Addr} {o : HO} (h : H p = none) : Ex H (upd H p o) := fun a u e => by
  rw [upd_ne (ne_of_none e h)]; exact e
theorem Ex.none {H H' : Hp} (e : Ex H H') {p : Addr} (h : H' p = none) : H p = none := by
  cases q : H p with
  | none => rfl
  | some o => rw [e p o q] at h; cases h
theorem ex_l {K : PySem.W.Frag} {H H' : Hp} {a : Addr} {xs : List V} (e : Ex H H') (h : SqL K H a xs) : SqL K H' a xs := by
  rcases h with (h | ⟨o, h⟩) | h
  · exact .inl (.inl (e _ _ h))
  · exact .inl (.inr ⟨o, e _ _ h⟩)
  · exact .inr h
theorem ex_t {K : PySem.W.Frag} {H H' : Hp} {a : Addr} {xs : List V} (e : Ex H H') (h : SqT K H a xs) : SqT K H' a xs := by
  rcases h with (h | ⟨o, h⟩) | h
  · exact .inl (.inl (e _ _ h))
  · exact .inl (.inr ⟨o, e _ _ h⟩)
  · exact .inr h
mutual
theorem Dn.mono {K : PySem.W.Frag} {H H' : Hp} (e : Ex H H') : ∀ {d : D} {v : V}, Dn K H v d → Dn K H' v d
  | .none, _, h => by cases h; exact .non
  | .bool _, _, h => by cases h; exact .bl _
  | .int _, _, h => by cases h; exact .int _
  | .str _, _, h => by cases h; exact .str _
  | .list ds, _, h => by
    cases h with
    | lst h1 h2 => exact .lst (e _ _ h1) (DnAll.mono e h2)
  | .tuple ds, _, h => by
    cases h with
    | tup h1 h2 => exact .tup (e _ _ h1) (DnAll.mono e h2)
  | .dict kvs, _, h => by
    cases h with
    | dct0 h1 => exact .dct0 (e _ _ h1)
theorem DnAll.mono {K : PySem.W.Frag} {H H' : Hp} (e : Ex H H') : ∀ {ds : List D} {vs : List V}, DnAll K H vs ds → DnAll K H' vs ds
  | [], _, h => by cases h; exact .nil
  | _ :: _, _, h => by
    cases h with
    | cons h1 h2 => exact .cons (Dn.mono e h1) (DnAll.mono e h2)
end
section
variable {K : PySem.W.Frag} {H : Hp}
theorem DnAll.length : ∀ {ds : List D} {vs : List V}, DnAll K H vs ds → vs.length = ds.length
  | [], _, h => by cases h; rfl
  | _ :: _, _, h => by
    cases h with
    | cons _ h2 => simp [DnAll.length h2]
theorem DnAll.get : ∀ {ds : List D} {vs : List V} {i : Nat} {d : D}, DnAll K H vs ds → ds[i]? = some d → ∃ v, vs[i]? = some v ∧ Dn K H v d
  | [], _, _, _, _, e => by simp at e
  | _ :: _, _, 0, d, h, e => by
    cases h with
    | cons h1 _ =>
      simp at e; subst e
      exact ⟨_, rfl, h1⟩
  | _ :: ds, _, i + 1, d, h, e => by
    cases h with
    | cons _ h2 =>
      obtain ⟨v, e1, e2⟩ := DnAll.get (i := i) h2 (by simpa using e)
      exact ⟨v, by simpa using e1, e2⟩
theorem DnAll.getV : ∀ {ds : List D} {vs : List V} {i : Nat} {v : V}, DnAll K H vs ds → vs[i]? = some v → ∃ d, ds[i]? = some d ∧ Dn K H v d := fun {ds vs i v} h e => by
  have hl := h.length
  have hi : i < ds.length := by rw [← hl]; exact (List.getElem?_eq_some_iff.mp e).1
  obtain ⟨v', e1, e2⟩ := h.get (List.getElem?_eq_getElem hi)
  rw [e] at e1; cases e1
  exact ⟨_, List.getElem?_eq_getElem hi, e2⟩
theorem DnAll.append : ∀ {ds es : List D} {vs ws : List V}, DnAll K H vs ds → DnAll K H ws es → DnAll K H (vs ++ ws) (ds ++ es)
  | [], _, _, _, h, k => by cases h; exact k
  | _ :: _, _, _, _, h, k => by
    cases h with
    | cons h1 h2 => exact .cons h1 (h2.append k)
theorem DnAll.take : ∀ {ds : List D} {vs : List V} (n : Nat), DnAll K H vs ds → DnAll K H (vs.take n) (ds.take n)
  | _, _, 0, _ => by simp; exact .nil
  | [], _, _ + 1, h => by cases h; exact .nil
  | _ :: _, _, n + 1, h => by
    cases h with
    | cons h1 h2 => exact .cons h1 (h2.take n)
theorem DnAll.drop : ∀ {ds : List D} {vs : List V} (n : Nat), DnAll K H vs ds → DnAll K H (vs.drop n) (ds.drop n)
  | _, _, 0, h => by simpa using h
  | [], _, _ + 1, h => by cases h; exact .nil
  | _ :: _, _, n + 1, h => by
    cases h with
    | cons h1 h2 => simpa using h2.drop n
theorem DnAll.set : ∀ {ds : List D} {vs : List V} {v : V} {d : D} (i : Nat), DnAll K H vs ds → Dn K H v d → DnAll K H (vs.set i v) (ds.set i d)
  | [], _, _, _, _, h, _ => by cases h; simp; exact .nil
  | _ :: _, _, _, _, 0, h, k => by
    cases h with
    | cons _ h2 => exact .cons k h2
  | _ :: _, _, _, _, i + 1, h, k => by
    cases h with
    | cons h1 h2 => exact .cons h1 (h2.set i k)
theorem DnAll.reverse : ∀ {ds : List D} {vs : List V}, DnAll K H vs ds → DnAll K H vs.reverse ds.reverse
  | [], _, h => by cases h; exact .nil
  | _ :: _, _, h => by
    cases h with
    | cons h1 h2 =>
      rw [List.reverse_cons, List.reverse_cons]
      exact h2.reverse.append (.cons h1 .nil)
theorem DnAll.ints : ∀ {ns : List Int} {vs : List V}, DnAll K H vs (ns.map .int) → vs = ns.map .int
  | [], _, h => by cases h; rfl
  | _ :: _, _, h => by
    cases h with
    | cons h1 h2 =>
      cases h1
      rw [DnAll.ints h2]; rfl
theorem DnAll.of_ints : ∀ ns : List Int, DnAll K H (ns.map .int) (ns.map .int)
  | [] => .nil
  | n :: ns => .cons (.int n) (DnAll.of_ints ns)
theorem DnAll.bls : ∀ {bs : List Bool} {vs : List V}, DnAll K H vs (bs.map .bool) → vs = bs.map .bl
  | [], _, h => by cases h; rfl
  | _ :: _, _, h => by
    cases h with
    | cons h1 h2 =>
      cases h1
      rw [DnAll.bls h2]; rfl
theorem DnAll.strs : ∀ {xs : List Str} {vs : List V}, DnAll K H vs (xs.map .str) → vs = xs.map .str
  | [], _, h => by cases h; rfl
  | _ :: _, _, h => by
    cases h with
    | cons h1 h2 =>
      cases h1
      rw [DnAll.strs h2]; rfl
end

/-! ### a state in a heap -/
/-- slot i's own object stands at a -/
def Own (σ : L2.St) (S : Sq) (i : Nat) (a : Addr) : Prop := σ[i]? = some (some (.ref a)) ∧ ((∃ xs, S.r[i]? = some (.l xs)) ∨ ∃ kvs, S.r[i]? = some (.m kvs))
/-- an exception object of the class cls that is held at a -/
def exV (cls : Value) (a : Addr) : HO := .ext fun h => ∃ (oe : Obj) (vs : Array Value), h.get? a = some oe ∧ Zc cls none oe ∧ oe.data = .fields vs
def SlotOk (K : PySem.W.Frag) (pa : Option Addr) (F H : Hp) (o : Option (Option V)) : R → Prop
  | .un => True
  | .d x => ∃ v, o = some (some v) ∧ Dn K F v x
  | .l xs => ∃ a vs, o = some (some (.ref a)) ∧ H a = some (.lst vs) ∧ F a = none ∧ DnAll K F vs xs
  | .m _ => False
  | .pen => ∃ q, pa = some q ∧ o = some (some (.ref q))
  | .e c => ∃ a, o = some (some (.ref a)) ∧ F a = some (exV (.ref (He.ga K c)) a)
  | .sc ns => ∃ a, o = some (some (.ref a)) ∧ SqL K F a (ns.map .int)
def PenOk (K : PySem.W.Frag) (F H : Hp) : Option Addr → Option Pen → Prop
  | none, none => True
  | some q, some P => ∃ c, H q = some (.lst [.ref c, .int P.at_, .int P.rest]) ∧ F q = none ∧ F c = some (.lst (P.cells.map .int))
  | _, _ => False
theorem PenOk.at {K : PySem.W.Frag} {F H : Hp} {pa : Option Addr} {q : Addr} {p : Option Pen} (h : PenOk K F H pa p) (e : some q = pa) : ∃ P c, p = some P ∧ H q = some (.lst [.ref c, .int P.at_, .int P.rest]) ∧ F q = none ∧ F c = some (.lst (P.cells.map .int)) := by
  subst e
  cases p with
  | none => exact h.elim
  | some P => obtain ⟨c, h⟩ := h; exact ⟨P, c, rfl, h⟩
theorem PenOk.imp {K : PySem.W.Frag} {F H F' H' : Hp} {pa : Option Addr} {p : Option Pen} (h : PenOk K F H pa p) (w : ∀ q c o o', some q = pa → H q = some o → F q = none → F c = some o' → H' q = some o ∧ F' q = none ∧ F' c = some o') : PenOk K F' H' pa p := by
  cases pa with
  | none => cases p with
    | none => trivial
    | some P => exact h.elim
  | some q => cases p with
    | none => exact h.elim
    | some P => obtain ⟨c, h1, h2, h3⟩ := h; obtain ⟨k1, k2, k3⟩ := w q c _ _ rfl h1 h2 h3; exact ⟨c, k1, k2, k3⟩
/-- all but the tables -/
def bareT (H : Hp) : Hp := fun a => match H a with
  | some (.tbl _) => none
  | o => o
theorem bareT_some {H : Hp} {a : Addr} {o : HO} (h : bareT H a = some o) : H a = some o ∧ ∀ ps, o ≠ .tbl ps := by
  unfold bareT at h
  split at h
  · cases h
  · rename_i n
    refine ⟨h, fun ps z => n ps ?_⟩
    rw [h, z]
theorem bareT_of {H : Hp} {a : Addr} {o : HO} (h : H a = some o) (n : ∀ ps, o ≠ .tbl ps) : bareT H a = some o := by
  unfold bareT
  rw [h]
  cases o <;> first | rfl | exact absurd rfl (n _)
theorem bareT_free {H : Hp} (a : Addr) (ps : Array Value) : bareT H a ≠ some (.tbl ps) := fun h => (bareT_some h).2 ps rfl
theorem ft_upd {F : Hp} {t : Addr} {o : HO} (h : ∀ a ps, F a ≠ some (.tbl ps)) (n : ∀ ps, o ≠ .tbl ps) : ∀ a ps, upd F t o a ≠ some (.tbl ps) := fun a ps e => by
  by_cases q : a = t
  · subst q
    rw [upd_same] at e
    exact n ps (Option.some.inj e)
  · rw [upd_ne q] at e
    exact h a ps e
/-- F0, H0: the entry (H0 is kept but for the pen); F: what stays as it is; H: all -/
structure Agr (K : PySem.W.Frag) (F0 H0 : Hp) (pa : Option Addr) (σ : L2.St) (F H : Hp) (S : Sq) : Prop where
  fF : Ex F0 F
  sub : Ex F H
  hH : ∀ a o, H0 a = some o → some a ≠ pa → H a = some o
  tabs : LamX.Tabs TabSet.T H
  ft : ∀ a ps, F a ≠ some (.tbl ps)
  n0 : ∀ a ps, H0 a ≠ some (.tbl ps)
  new : ∀ a o, F a = some o → F0 a = some o ∨ H0 a = none
  len : S.r.length = σ.length
  slots : ∀ (i : Nat) (c : R), S.r[i]? = some c → SlotOk K pa F H σ[i]? c
  dist : ∀ i j a, Own σ S i a → Own σ S j a → i = j
  ownN : ∀ i a, Own σ S i a → H0 a = none ∧ some a ≠ pa
  pen : PenOk K F H pa S.p
def Sq.val (S : Sq) : PV → Option D
  | .s i => match S.r[i]? with
    | some (.d x) => some x
    | some (.l xs) => some (.list xs)
    | _ => none
  | .v x => some x
  | .o (.l xs) => some (.list xs)
  | .o _ => none
/-- a new list that is nobody's -/
def OwnV (K : PySem.W.Frag) (H0 : Hp) (pa : Option Addr) (σ : L2.St) (F H : Hp) (S : Sq) (v : V) : R → Prop
  | .l xs => ∃ t vs, v = .ref t ∧ H t = some (.lst vs) ∧ F t = none ∧ DnAll K F vs xs ∧ H0 t = none ∧ (∀ i, ¬ Own σ S i t) ∧ some t ≠ pa
  | _ => False
def RelP (K : PySem.W.Frag) (H0 : Hp) (pa : Option Addr) (σ : L2.St) (F H : Hp) (S : Sq) (v : V) : PV → Prop
  | .s i => σ[i]? = some (some v)
  | .v x => Dn K F v x
  | .o c => OwnV K H0 pa σ F H S v c
section
variable {K : PySem.W.Frag} {F0 H0 F H F' H' : Hp} {pa : Option Addr} {σ : L2.St} {S S' : Sq} {v : V} {pv : PV} {d : D}
/-- a view: the value is seen as data now -/
def Dv (K : PySem.W.Frag) (F H : Hp) (v : V) (d : D) : Prop := Dn K F v d ∨ ∃ a vs xs, v = .ref a ∧ d = .list xs ∧ H a = some (.lst vs) ∧ DnAll K F vs xs
theorem Dv.dn (e : Ex F H) (h : Dv K F H v d) : Dn K H v d := by
  rcases h with h | ⟨a, vs, xs, rfl, rfl, h1, h2⟩
  · exact h.mono e
  · exact .lst h1 (h2.mono e)
theorem Dv.list {xs : List D} (e : Ex F H) (h : Dv K F H v (.list xs)) : ∃ a vs, v = .ref a ∧ H a = some (.lst vs) ∧ DnAll K F vs xs := by
  rcases h with h | ⟨a, vs, ys, rfl, q, h1, h2⟩
  · cases h with
    | lst h1 h2 => exact ⟨_, _, rfl, e _ _ h1, h2⟩
  · cases q
    exact ⟨a, vs, rfl, h1, h2⟩
theorem Dv.tuple {xs : List D} (h : Dv K F H v (.tuple xs)) : ∃ a vs, v = .ref a ∧ F a = some (.tup vs) ∧ DnAll K F vs xs := by
  rcases h with h | ⟨a, vs, ys, rfl, q, h1, h2⟩
  · cases h with
    | tup h1 h2 => exact ⟨_, _, rfl, h1, h2⟩
  · cases q
theorem Dv.int {i : Int} (h : Dv K F H v (.int i)) : v = .int i := by
  rcases h with h | ⟨_, _, _, _, q, _⟩
  · cases h; rfl
  · cases q
theorem Dv.bl {b : Bool} (h : Dv K F H v (.bool b)) : v = .bl b := by
  rcases h with h | ⟨_, _, _, _, q, _⟩
  · cases h; rfl
  · cases q
theorem Dv.str {x : Str} (h : Dv K F H v (.str x)) : v = .str x := by
  rcases h with h | ⟨_, _, _, _, q, _⟩
  · cases h; rfl
  · cases q
theorem Dv.non (h : Dv K F H v .none) : v = .non := by
  rcases h with h | ⟨_, _, _, _, q, _⟩
  · cases h; rfl
  · cases q
theorem Agr.val (A : Agr K F0 H0 pa σ F H S) (r : RelP K H0 pa σ F H S v pv) (e : S.val pv = some d) : Dv K F H v d := by
  cases pv with
  | s i =>
    unfold Sq.val at e
    dsimp only at e
    cases q : S.r[i]? with
    | none => rw [q] at e; cases e
    | some c =>
      rw [q] at e
      have so := A.slots i c q
      have r' : σ[i]? = some (some v) := r
      cases c with
      | d x =>
        cases e
        obtain ⟨w, e1, e2⟩ := so
        rw [r'] at e1; cases e1
        exact .inl e2
      | l xs =>
        cases e
        obtain ⟨a, vs, e1, e2, e3, e4⟩ := so
        rw [r'] at e1; cases e1
        exact .inr ⟨a, vs, xs, rfl, rfl, e2, e4⟩
      | un => cases e
      | m kvs => cases e
      | e c => cases e
      | sc ns => cases e
      | pen => cases e
  | v x =>
    cases e
    exact .inl r
  | o c =>
    cases c with
    | l xs =>
      cases e
      obtain ⟨t, vs, rfl, h1, _, h2, _⟩ := r
      exact .inr ⟨t, vs, xs, rfl, rfl, h1, h2⟩
    | un => cases e
    | d x => cases e
    | m kvs => cases e
    | e c => cases e
    | sc ns => cases e
    | pen => cases e
/-- freezing an object at t -/
theorem Agr.freeze {t : Addr} {vs : List V} (A : Agr K F0 H0 pa σ F H S) (ht : H t = some (.lst vs)) (hn : F t = none) (h0 : H0 t = none) (no : ∀ i, ¬ Own σ S i t) (hp : some t ≠ pa) : Agr K F0 H0 pa σ (upd F t (.lst vs)) H S := by
  have ex : Ex F (upd F t (.lst vs)) := Ex.new hn
  refine ⟨A.fF.trans ex, fun a o e => ?_, A.hH, A.tabs, ft_upd A.ft (fun _ z => nomatch z), A.n0, fun a o e => ?_, A.len, fun i c e => ?_, A.dist, A.ownN, ?_⟩
  · by_cases q : a = t
    · subst q; rw [upd_same] at e; cases e; exact ht
    · rw [upd_ne q] at e; exact A.sub a o e
  · by_cases q : a = t
    · subst q; exact .inr h0
    · rw [upd_ne q] at e; exact A.new a o e
  · have so := A.slots i c e
    cases c with
    | un => trivial
    | d x => obtain ⟨w, e1, e2⟩ := so; exact ⟨w, e1, e2.mono ex⟩
    | l xs =>
      obtain ⟨a, ws, e1, e2, e3, e4⟩ := so
      have q : a ≠ t := fun z => no i ⟨by rw [e1, z], .inl ⟨xs, e⟩⟩
      exact ⟨a, ws, e1, e2, by rw [upd_ne q]; exact e3, e4.mono ex⟩
    | m kvs => exact so
    | e c => obtain ⟨w, z1, z2⟩ := so; exact ⟨w, z1, ex _ _ z2⟩
    | sc ns => obtain ⟨w, z1, z2⟩ := so; exact ⟨w, z1, ex_l ex z2⟩
    | pen => exact so
  · exact A.pen.imp fun q c o o' e h1 h2 h3 => ⟨h1, by rw [upd_ne fun z => hp (by rw [← z]; exact e)]; exact h2, ex _ _ h3⟩
/-- a new object of all, staying or not -/
theorem Agr.more {H' : Hp} (A : Agr K F0 H0 pa σ F H S) (e : Ex H H') : Agr K F0 H0 pa σ F H' S := by
  refine ⟨A.fF, A.sub.trans e, fun a o h hp => e _ _ (A.hH a o h hp), A.tabs.ext e, A.ft, A.n0, A.new, A.len, fun i c h => ?_, A.dist, A.ownN, ?_⟩
  · have so := A.slots i c h
    cases c with
    | un => trivial
    | d x => exact so
    | l xs =>
      obtain ⟨a, ws, e1, e2, e3, e4⟩ := so
      exact ⟨a, ws, e1, e _ _ e2, e3, e4⟩
    | m kvs => exact so
    | e c => exact so
    | sc ns => exact so
    | pen => exact so
  · exact A.pen.imp fun q c o o' _ h1 h2 h3 => ⟨e _ _ h1, h2, h3⟩
theorem Agr.own_there {i : Nat} {a : Addr} (A : Agr K F0 H0 pa σ F H S) (o : Own σ S i a) : H a ≠ none := by
  obtain ⟨h1, h2⟩ := o
  rcases h2 with ⟨xs, h2⟩ | ⟨kvs, h2⟩
  · obtain ⟨b, vs, e1, e2, _⟩ := A.slots i _ h2
    rw [h1] at e1; cases e1
    rw [e2]; simp
  · exact (A.slots i _ h2).elim
theorem Agr.own_thereT {i : Nat} {a : Addr} (A : Agr K F0 H0 pa σ F H S) (o : Own σ S i a) : bareT H a ≠ none := by
  obtain ⟨h1, h2⟩ := o
  rcases h2 with ⟨xs, h2⟩ | ⟨kvs, h2⟩
  · obtain ⟨b, vs, e1, e2, _⟩ := A.slots i _ h2
    rw [h1] at e1; cases e1
    rw [bareT_of e2 fun _ z => nomatch z]; simp
  · exact (A.slots i _ h2).elim
theorem Agr.nopenT {p : Addr} (A : Agr K F0 H0 pa σ F H S) (hp : bareT H p = none) : some p ≠ pa := fun e => by
  obtain ⟨P, c, _, h1, _⟩ := A.pen.at e
  rw [bareT_of h1 fun _ z => nomatch z] at hp; cases hp
theorem Agr.notTab {p : Addr} (A : Agr K F0 H0 pa σ F H S) (hp : ∀ ps, H p ≠ some (.tbl ps)) : p ∉ TabSet.T.map Prod.fst := fun e => by
  obtain ⟨q, hq, rfl⟩ := List.mem_map.mp e
  obtain ⟨ps, h, _⟩ := A.tabs q hq
  exact hp ps h
theorem Agr.freshT {p : Addr} (A : Agr K F0 H0 pa σ F H S) (hp : bareT H p = none) (hq : some p ≠ pa) : H0 p = none := by
  cases q : H0 p with
  | none => rfl
  | some o =>
    rw [bareT_of (A.hH p o q hq) fun ps z => A.n0 p ps (by rw [q, z])] at hp; cases hp
theorem Agr.fresh0 {p : Addr} (A : Agr K F0 H0 pa σ F H S) (hp : H p = none) (hq : some p ≠ pa) : H0 p = none := by
  cases q : H0 p with
  | none => rfl
  | some o =>
    rw [A.hH p o q hq] at hp; cases hp
theorem Agr.nopen {p : Addr} (A : Agr K F0 H0 pa σ F H S) (hp : H p = none) : some p ≠ pa := fun e => by
  obtain ⟨P, c, _, h1, _⟩ := A.pen.at e
  rw [h1] at hp; cases hp
/-- a new tuple that stays -/
theorem Agr.newF {p : Addr} {o : HO} (A : Agr K F0 H0 pa σ F H S) (hp : H p = none) (hno : ∀ ps, o ≠ .tbl ps) : Agr K F0 H0 pa σ (upd F p o) (upd H p o) S := by
  have hF : F p = none := A.sub.none hp
  have eF : Ex F (upd F p o) := Ex.new hF
  have B := A.more (Ex.new (o := o) hp)
  have np := A.nopen hp
  refine ⟨A.fF.trans eF, fun a u e => ?_, B.hH, B.tabs, ft_upd A.ft hno, A.n0, fun a u e => ?_, A.len, fun i c e => ?_, A.dist, A.ownN, ?_⟩
  · by_cases q : a = p
    · subst q; rw [upd_same] at e ⊢; exact e
    · rw [upd_ne q] at e ⊢; exact A.sub a u e
  · by_cases q : a = p
    · subst q; exact .inr (A.fresh0 hp np)
    · rw [upd_ne q] at e; exact A.new a u e
  · have so := B.slots i c e
    cases c with
    | un => trivial
    | d x => obtain ⟨w, e1, e2⟩ := so; exact ⟨w, e1, e2.mono eF⟩
    | l xs =>
      obtain ⟨a, ws, e1, e2, e3, e4⟩ := so
      have q : a ≠ p := fun z => A.own_there (i := i) (a := a) ⟨e1, .inl ⟨xs, e⟩⟩ (by rw [z]; exact hp)
      exact ⟨a, ws, e1, e2, by rw [upd_ne q]; exact e3, e4.mono eF⟩
    | m kvs => exact so
    | e c => obtain ⟨w, z1, z2⟩ := so; exact ⟨w, z1, eF _ _ z2⟩
    | sc ns => obtain ⟨w, z1, z2⟩ := so; exact ⟨w, z1, ex_l eF z2⟩
    | pen => exact so
  · exact B.pen.imp fun q c o o' e h1 h2 h3 => ⟨h1, by rw [upd_ne fun z => np (by rw [← z]; exact e)]; exact h2, eF _ _ h3⟩
/-- a new list of one's own -/
theorem Agr.newO {p : Addr} {vs : List V} {xs : List D} (A : Agr K F0 H0 pa σ F H S) (hp : H p = none) (h : DnAll K F vs xs) :
    Agr K F0 H0 pa σ F (upd H p (.lst vs)) S ∧ OwnV K H0 pa σ F (upd H p (.lst vs)) S (.ref p) (.l xs) :=
  ⟨A.more (Ex.new hp), p, vs, rfl, upd_same, A.sub.none hp, h, A.fresh0 hp (A.nopen hp), fun i o => A.own_there o hp, A.nopen hp⟩
end
/-- all but what the slots own, but the pen -/
noncomputable def hide (σ : L2.St) (S : Sq) (pa : Option Addr) (H : Hp) : Hp := fun a => open Classical in if (∃ i, Own σ S i a) ∨ some a = pa then none else bareT H a
theorem hide_some {σ : L2.St} {S : Sq} {pa : Option Addr} {H : Hp} {a : Addr} {o : HO} (h : hide σ S pa H a = some o) : H a = some o ∧ (∀ i, ¬ Own σ S i a) ∧ some a ≠ pa := by
  unfold hide at h
  split at h
  · cases h
  · rename_i q
    exact ⟨(bareT_some h).1, fun i w => q (.inl ⟨i, w⟩), fun w => q (.inr w)⟩
theorem hide_of {σ : L2.St} {S : Sq} {pa : Option Addr} {H : Hp} {a : Addr} (n : ∀ i, ¬ Own σ S i a) (np : some a ≠ pa) : hide σ S pa H a = bareT H a := by
  unfold hide
  rw [if_neg]
  rintro (⟨i, w⟩ | w)
  · exact n i w
  · exact np w
theorem hide_own {σ : L2.St} {S : Sq} {pa : Option Addr} {H : Hp} {a : Addr} (h : (∃ i, Own σ S i a) ∨ some a = pa) : hide σ S pa H a = none := by
  unfold hide
  rw [if_pos h]
section
variable {K : PySem.W.Frag} {F0 H0 F H F' H' : Hp} {pa : Option Addr} {σ : L2.St} {S S' : Sq} {v : V} {pv : PV} {d : D}
theorem hide_free {σ : L2.St} {S : Sq} {pa : Option Addr} {H : Hp} (a : Addr) (ps : Array Value) : hide σ S pa H a ≠ some (.tbl ps) := fun h => by
  unfold hide at h
  split at h
  · cases h
  · exact bareT_free a ps h
theorem Agr.rebase (A : Agr K F0 H0 pa σ F H S) : Agr K F (hide σ S pa H) pa σ F H S :=
  ⟨Ex.refl F, A.sub, fun a o h _ => (hide_some h).1, A.tabs, A.ft, hide_free, fun a o h => .inl h, A.len, A.slots, A.dist, fun i a w => ⟨hide_own (.inl ⟨i, w⟩), (A.ownN i a w).2⟩, A.pen⟩
theorem Agr.hidden {a : Addr} (A : Agr K F0 H0 pa σ F H S) (h : hide σ S pa H a = none) (np : some a ≠ pa) : H0 a = none := by
  cases q : H0 a with
  | none => rfl
  | some o =>
    by_cases w : ∃ i, Own σ S i a
    · obtain ⟨i, w⟩ := w
      rw [(A.ownN i a w).1] at q; cases q
    · rw [hide_of (fun i z => w ⟨i, z⟩) np] at h
      rw [A.freshT h np] at q; cases q
theorem Agr.unbase (A : Agr K F0 H0 pa σ F H S) (B : Agr K F (hide σ S pa H) pa σ F' H' S') : Agr K F0 H0 pa σ F' H' S' := by
  refine ⟨A.fF.trans B.fF, B.sub, fun a o h np => ?_, B.tabs, B.ft, A.n0, fun a o h => ?_, B.len, B.slots, B.dist, fun i a w => ?_, B.pen⟩
  · have e := A.hH a o h np
    refine B.hH a o ?_ np
    rw [hide_of (fun i w => ?_) np]
    · exact bareT_of e fun ps z => A.n0 a ps (by rw [h, z])
    · rw [(A.ownN i a w).1] at h; cases h
  · rcases B.new a o h with e | e
    · exact A.new a o e
    · by_cases np : some a = pa
      · obtain ⟨P, c, _, _, h2, _⟩ := B.pen.at np
        rw [h2] at h; cases h
      · exact .inr (A.hidden e np)
  · obtain ⟨h1, h2⟩ := B.ownN i a w
    exact ⟨A.hidden h1 h2, h2⟩
/-- what is nobody's stays so -/
theorem OwnV.stay {c : R} (A : Agr K F0 H0 pa σ F H S) (B : Agr K F (hide σ S pa H) pa σ F' H' S') (o : OwnV K H0 pa σ F H S v c) : OwnV K H0 pa σ F' H' S' v c := by
  cases c with
  | l xs =>
    obtain ⟨t, vs, rfl, h1, h2, h3, h4, h5, h6⟩ := o
    have e : hide σ S pa H t = some (.lst vs) := by rw [hide_of h5 h6]; exact bareT_of h1 fun _ z => nomatch z
    refine ⟨t, vs, rfl, B.hH t _ e h6, ?_, h3.mono B.fF, h4, fun i w => ?_, h6⟩
    · cases q : F' t with
      | none => rfl
      | some u =>
        rcases B.new t u q with z | z
        · rw [h2] at z; cases z
        · rw [e] at z; cases z
    · have z := (B.ownN i t w).1
      rw [e] at z; cases z
  | _ => exact False.elim o
end
def fz : PV → PV
  | .o (.l xs) => .v (.list xs)
  | p => p

/-! ### what an operation on values gives -/
inductive Gv (K : PySem.W.Frag) (F H : Hp) : PV → V → Hp → Prop
  | dn {v : V} {d : D} : Dn K F v d → Gv K F H (.v d) v H
  | tup {p : Addr} {vs : List V} {ds : List D} : H p = none → DnAll K F vs ds → Gv K F H (.v (.tuple ds)) (.ref p) (upd H p (.tup vs))
  | lst {p : Addr} {vs : List V} {ds : List D} : H p = none → DnAll K F vs ds → Gv K F H (.o (.l ds)) (.ref p) (upd H p (.lst vs))
theorem Agr.gives {K : PySem.W.Frag} {F0 H0 F H H' : Hp} {pa : Option Addr} {σ : L2.St} {S : Sq} {v : V} {z : PV} (A : Agr K F0 H0 pa σ F H S) (g : Gv K F H z v H') :
    ∃ F', Ex F F' ∧ Agr K F0 H0 pa σ F' H' S ∧ RelP K H0 pa σ F' H' S v z := by
  cases g with
  | dn h => exact ⟨F, Ex.refl F, A, h⟩
  | tup hp h => exact ⟨_, Ex.new (A.sub.none hp), A.newF hp (fun _ z => nomatch z), .tup upd_same (h.mono (Ex.new (A.sub.none hp)))⟩
  | lst hp h => exact ⟨F, Ex.refl F, (A.newO hp h).1, (A.newO hp h).2⟩

/-! ### readings -/
/-- an outcome by its ways -/
def OutP {α : Type} (o : Out α) (T : α → Sq → Prop) (E : Str → Sq → Prop) : Prop := match o with
  | .ok a s => T a s
  | .ex c s => E c s
  | .no => False
theorem OutP.bind {α β : Type} {o : Out α} {k : α → Sq → Out β} {T : β → Sq → Prop} {E : Str → Sq → Prop} : OutP (o.bind k) T E = OutP o (fun a s => OutP (k a s) T E) E := by
  cases o <;> rfl
theorem OutP.imp {α : Type} {o : Out α} {T T' : α → Sq → Prop} {E E' : Str → Sq → Prop} (h : OutP o T E) (hT : ∀ a s, T a s → T' a s) (hE : ∀ c s, E c s → E' c s) : OutP o T' E' := by
  cases o with
  | ok a s => exact hT a s h
  | ex c s => exact hE c s h
  | no => exact h
def TP (K : PySem.W.Frag) (F0 H0 : Hp) (pa : Option Addr) (σ : L2.St) (F : Hp) (Q : VK) (pv : PV) (S' : Sq) : Prop := ∀ v F' H', Ex F F' → Agr K F0 H0 pa σ F' H' S' → RelP K H0 pa σ F' H' S' v pv → Q v H'
def TB (K : PySem.W.Frag) (F0 H0 : Hp) (pa : Option Addr) (σ : L2.St) (F : Hp) (Q : Bool → Hp → Prop) (b : Bool) (S' : Sq) : Prop := ∀ F' H', Ex F F' → Agr K F0 H0 pa σ F' H' S' → Q b H'
def TL (K : PySem.W.Frag) (F0 H0 : Hp) (pa : Option Addr) (σ : L2.St) (F : Hp) (Q : List V → Hp → Prop) (ps : List PV) (S' : Sq) : Prop := ∀ vs F' H', Ex F F' → Agr K F0 H0 pa σ F' H' S' → Paired (RelP K H0 pa σ F' H' S') vs ps → Q vs H'
def EW (K : PySem.W.Frag) (W : WX) (F0 H0 : Hp) (pa : Option Addr) (σ : L2.St) (c : Str) (S' : Sq) : Prop := ∀ F' H', Agr K F0 H0 pa σ F' H' S' → W (.ref (He.ga K c)) none σ H'
def rd (K : PySem.W.Frag) (W : WX) (f : Sq → Out PV) : TE := fun σ H Q => ∃ F0 H0 pa F S, Agr K F0 H0 pa σ F H S ∧ OutP (f S) (TP K F0 H0 pa σ F Q) (EW K W F0 H0 pa σ)
def rdT (K : PySem.W.Frag) (W : WX) (f : Sq → Out Bool) : TT := fun σ H Q => ∃ F0 H0 pa F S, Agr K F0 H0 pa σ F H S ∧ OutP (f S) (TB K F0 H0 pa σ F Q) (EW K W F0 H0 pa σ)
def rdA (K : PySem.W.Frag) (W : WX) (f : Sq → Out (List PV)) : TA := fun σ H Q => ∃ F0 H0 pa F S, Agr K F0 H0 pa σ F H S ∧ OutP (f S) (TL K F0 H0 pa σ F Q) (EW K W F0 H0 pa σ)
theorem TP.up {K : PySem.W.Frag} {F0 H0 F F' : Hp} {pa : Option Addr} {σ : L2.St} {Q : VK} {pv : PV} {S : Sq} (h : TP K F0 H0 pa σ F Q pv S) (e : Ex F F') : TP K F0 H0 pa σ F' Q pv S := fun v F2 H2 x => h v F2 H2 (e.trans x)
theorem TB.up {K : PySem.W.Frag} {F0 H0 F F' : Hp} {pa : Option Addr} {σ : L2.St} {Q : Bool → Hp → Prop} {b : Bool} {S : Sq} (h : TB K F0 H0 pa σ F Q b S) (e : Ex F F') : TB K F0 H0 pa σ F' Q b S := fun F2 H2 x => h F2 H2 (e.trans x)
theorem TL.up {K : PySem.W.Frag} {F0 H0 F F' : Hp} {pa : Option Addr} {σ : L2.St} {Q : List V → Hp → Prop} {ps : List PV} {S : Sq} (h : TL K F0 H0 pa σ F Q ps S) (e : Ex F F') : TL K F0 H0 pa σ F' Q ps S := fun v F2 H2 x => h v F2 H2 (e.trans x)
def RelR (K : PySem.W.Frag) (H0 : Hp) (pa : Option Addr) (F H : Hp) (p : Option Pen) (v : V) : R → Prop
  | .d x => Dn K F v x
  | .l xs => OwnV K H0 pa [] F H ⟨[], p⟩ v (.l xs)
  | _ => False
/-- a statement's ways -/
def FlP (K : PySem.W.Frag) (W : WX) (F0 H0 : Hp) (pa : Option Addr) (Z : Ends) : Fl → Prop
  | .nx S' => ∀ σ' F' H', Agr K F0 H0 pa σ' F' H' S' → Z.nx σ' H'
  | .rt r S' => ∀ σ' v F' H', Agr K F0 H0 pa σ' F' H' S' → RelR K H0 pa F' H' S'.p v r → Z.rt v H'
  | .bk S' => ∀ σ' F' H', Agr K F0 H0 pa σ' F' H' S' → Z.bk σ' H'
  | .ct S' => ∀ σ' F' H', Agr K F0 H0 pa σ' F' H' S' → Z.ct σ' H'
  | .ex c S' => ∀ σ' F' H', Agr K F0 H0 pa σ' F' H' S' → W (.ref (He.ga K c)) none σ' H'
  | .no => False
def rs (K : PySem.W.Frag) (W : WX) (g : Sq → Fl) : TS := fun Z σ H => ∃ F0 H0 pa F S, Agr K F0 H0 pa σ F H S ∧ FlP K W F0 H0 pa Z (g S)
theorem PE.weak {X : Cx} {e : Expr} {t t' : TE} (h : PE X e t) (w : ∀ σ H Q, t' σ H Q → t σ H Q) : PE X e t' := ⟨fun pins s σ H Q I q => h.run pins s σ H Q I (w _ _ _ q)⟩
theorem PT.weak {X : Cx} {e : Expr} {t t' : TT} (h : PT X e t) (w : ∀ σ H Q, t' σ H Q → t σ H Q) : PT X e t' := ⟨fun pins s σ H Q I q => h.run pins s σ H Q I (w _ _ _ q)⟩
theorem PW.weak {X : Cx} {e : Expr} {t t' : TT} (h : PW X e t) (w : ∀ σ H Q, t' σ H Q → t σ H Q) : PW X e t' := ⟨fun wh pins s σ H Q I q => h.run wh pins s σ H Q I (w _ _ _ q)⟩
theorem PA.weak {X : Cx} {e : List Expr} {t t' : TA} (h : PA X e t) (w : ∀ σ H Q, t' σ H Q → t σ H Q) : PA X e t' := ⟨fun pos pins s σ H Q I q => h.run pos pins s σ H Q I (w _ _ _ q)⟩
theorem PS.weak {X : Cx} {e : Stmt} {t t' : TS} (h : PS X e t) (w : ∀ Z σ H, t' Z σ H → t Z σ H) : PS X e t' := ⟨fun pins s σ H Z I q => h.run pins s σ H Z I (w _ _ _ q)⟩
theorem PSs.weak {X : Cx} {e : List Stmt} {t t' : TS} (h : PSs X e t) (w : ∀ Z σ H, t' Z σ H → t Z σ H) : PSs X e t' := ⟨fun pins s σ H Z I q => h.run pins s σ H Z I (w _ _ _ q)⟩
/-- the program's own things -/
structure Gb where
  P : Program
  w : World
  K : PySem.W.Frag
  mg : Str → Option Value
  base : Heap
  /-- repr is asked for -/
  gr : Prop
/-- what a context must have: N its names, sc its scope, k its room -/
structure Cq (G : Gb) (k : Nat) (N : List Str) (sc : Scope) (X : Cx) : Prop where
  names : X.N = N
  nd : N.Nodup
  scope : X.env.scope = sc
  hd : Room k X.A
  gd : G.gr → X.A.guards = some []
  calm : X.calm = true
  pass : PassesOwn (model X.prog X.w) X.A X.env X.xe
  prog : X.prog = G.P
  wo : X.w = G.w
  K : X.K = G.K
  mg : X.mg = G.mg
  base : X.base = G.base
abbrev DE (X : Cx) (W : WX) (e : Expr) (f : Sq → Out PV) : Prop := PE X e (rd X.K W f)
abbrev DT (X : Cx) (W : WX) (e : Expr) (f : Sq → Out Bool) : Prop := PT X e (rdT X.K W f)
abbrev DW (X : Cx) (W : WX) (e : Expr) (f : Sq → Out Bool) : Prop := PW X e (rdT X.K W f)
abbrev DA (X : Cx) (W : WX) (es : List Expr) (f : Sq → Out (List PV)) : Prop := PA X es (rdA X.K W f)
abbrev DS (X : Cx) (W : WX) (s : Stmt) (g : Sq → Fl) : Prop := PS X s (rs X.K W g)
abbrev DSs (X : Cx) (W : WX) (s : List Stmt) (g : Sq → Fl) : Prop := PSs X s (rs X.K W g)
end Q3
/-! Q3b: expressions. -/
namespace Q3
open PySem PySem.Spec PyProof.Rows L2
variable [TabSet]
section
variable {X : Cx} {W : WX} {a b c e : Expr} {fa fb fc : Sq → Out PV} {pos : Pos} {N : List Str} {sc : Scope} {k : Nat} {G : Gb}
/-! ### freezing a value -/
def fzF (f : Sq → Out PV) : Sq → Out PV := fun S => (f S).bind fun p S' => .ok (fz p) S'
theorem fz_ok {K : PySem.W.Frag} {F0 H0 F H : Hp} {pa : Option Addr} {σ : L2.St} {S : Sq} {v : V} {pv : PV} (A : Agr K F0 H0 pa σ F H S) (r : RelP K H0 pa σ F H S v pv) :
    ∃ F', Ex F F' ∧ Agr K F0 H0 pa σ F' H S ∧ RelP K H0 pa σ F' H S v (fz pv) := by
  cases pv with
  | s i => exact ⟨F, Ex.refl F, A, r⟩
  | v x => exact ⟨F, Ex.refl F, A, r⟩
  | o c =>
    cases c with
    | l xs =>
      obtain ⟨t, vs, rfl, h1, h2, h3, h4, h5, h6⟩ := r
      exact ⟨_, Ex.new h2, A.freeze h1 h2 h4 h5 h6, .lst upd_same (h3.mono (Ex.new h2))⟩
    | un => exact ⟨F, Ex.refl F, A, r⟩
    | d x => exact ⟨F, Ex.refl F, A, r⟩
    | m kvs => exact ⟨F, Ex.refl F, A, r⟩
    | e c => exact ⟨F, Ex.refl F, A, r⟩
    | sc ns => exact ⟨F, Ex.refl F, A, r⟩
    | pen => exact ⟨F, Ex.refl F, A, r⟩
theorem rd_fz {K : PySem.W.Frag} {σ : L2.St} {H : Hp} {Q : VK} (q : rd K W (fzF fa) σ H Q) : rd K W fa σ H Q := by
  obtain ⟨F0, H0, pa, F, S, A, z⟩ := q
  unfold fzF at z
  rw [OutP.bind] at z
  refine ⟨F0, H0, pa, F, S, A, z.imp (fun pv S' z v F' H' x A' r => ?_) fun _ _ z => z⟩
  obtain ⟨F'', x2, A2, r2⟩ := fz_ok A' r
  exact z v F'' H' (x.trans x2) A2 r2
theorem de_fz (h : DE X W e fa) : DE X W e (fzF fa) := PE.weak h fun σ H Q q => rd_fz q
/-! ### names, constants -/
def fVar (i : Nat) : Sq → Out PV := fun S => match S.r[i]? with
  | some (.d _) => .ok (.s i) S
  | some (.l _) => .ok (.s i) S
  | some .pen => .ok (.s i) S
  | some (.e _) => .ok (.s i) S
  | _ => .no
def fC (x : D) : Sq → Out PV := fun S => .ok (.v x) S
theorem de_var (i : Nat) {x : Str} (C : Cq G k N sc X) (hN : N[i]? = some x := by rfl) (hv : sc.names.lookup x = some .local ∨ sc.names.lookup x = some .cell ∨ sc.names.lookup x = some .free := by first | exact Or.inl rfl | exact Or.inr (Or.inl rfl) | exact Or.inr (Or.inr rfl))
    (hd : (x == ("__debug__" : Str)) = false := by decide) (hcd : (x == ("__classdict__" : Str)) = false := by decide) : DE X W (.Name x pos) (fVar i) := by
  refine PE.weak (pe_var (i := i) (by rw [C.names]; exact hN) (by show Vis X.env.scope x; rw [C.scope]; exact hv) hd hcd) fun σ H Q q => ?_
  obtain ⟨F0, H0, pa, F, S, A, z⟩ := q
  unfold fVar at z
  cases o : S.r[i]? with
  | none => rw [o] at z; exact z.elim
  | some c =>
    rw [o] at z
    have so := A.slots i c o
    cases c with
    | un => exact z.elim
    | m kvs => exact z.elim
    | e c =>
      obtain ⟨a, e1, _⟩ := so
      exact ⟨_, e1, z _ F H (Ex.refl F) A e1⟩
    | sc ns => exact z.elim
    | d x =>
      obtain ⟨v, e1, e2⟩ := so
      exact ⟨v, e1, z v F H (Ex.refl F) A e1⟩
    | l xs =>
      obtain ⟨a, vs, e1, _⟩ := so
      exact ⟨_, e1, z _ F H (Ex.refl F) A e1⟩
    | pen =>
      obtain ⟨q, _, so⟩ := so
      exact ⟨_, so, z _ F H (Ex.refl F) A so⟩
theorem de_c {x : D} {v : V} (h : PE X e (tC v)) (hx : ∀ F, Dn X.K F v x) : DE X W e (fC x) := PE.weak h fun σ H Q ⟨F0, H0, pa, F, S, A, z⟩ => z v F H (Ex.refl F) A (hx F)
theorem de_int {i : Int} {j : Nat} : DE X W (.Constant (.int i) j pos) (fC (.int i)) := de_c pe_int fun _ => .int i
theorem de_bl {x : Bool} {j : Nat} : DE X W (.Constant (.bool x) j pos) (fC (.bool x)) := de_c pe_bl fun _ => .bl x
theorem de_non {j : Nat} : DE X W (.Constant .none j pos) (fC .none) := de_c pe_non fun _ => .non
theorem de_str {x : Str} {j : Nat} : DE X W (.Constant (.str x) j pos) (fC (.str x)) := de_c pe_str fun _ => .str x
theorem de_globI {x : Str} {i : Int} (hg : Gl X x) (hm : ∃ t, X.mg x = some (.int i t)) (hd : (x == ("__debug__" : Str)) = false := by decide) : DE X W (.Name x pos) (fC (.int i)) := by
  obtain ⟨t, hm⟩ := hm
  exact de_c (pe_glob (v := .int i) hg hm ⟨t, rfl⟩ hd) fun _ => .int i
theorem de_globS {x z : Str} (hg : Gl X x) (hm : ∃ t, X.mg x = some (.str z t)) (hd : (x == ("__debug__" : Str)) = false := by decide) : DE X W (.Name x pos) (fC (.str z)) := by
  obtain ⟨t, hm⟩ := hm
  exact de_c (pe_glob (v := .str z) hg hm ⟨t, rfl⟩ hd) fun _ => .str z

/-! ### operations of two -/
def fBin (g : D → D → Option PV) (fa fb : Sq → Out PV) : Sq → Out PV := fun S => (fzF fa S).bind fun p S1 => (fzF fb S1).bind fun q S2 => match S2.val p, S2.val q with
  | some x, some y => (match g x y with
    | some z => .ok z S2
    | none => .no)
  | _, _ => .no
/-- r does what g says -/
def Does2 (K : PySem.W.Frag) (r : R2) (g : D → D → Option PV) : Prop := ∀ F H x y d e z Q, Ex F H → Dv K F H x d → Dv K F H y e → g d e = some z → (∀ v H', Gv K F H z v H' → Q v H') → r x y H Q
theorem RelP.fz_keep {K : PySem.W.Frag} {H0 F H F' H' : Hp} {pa : Option Addr} {σ : L2.St} {S S' : Sq} {v : V} {pv : PV} (r : RelP K H0 pa σ F H S v (fz pv)) (x : Ex F F') : RelP K H0 pa σ F' H' S' v (fz pv) := by
  cases pv with
  | s i => exact r
  | v d => exact Dn.mono x r
  | o c =>
    cases c with
    | l xs => exact Dn.mono x (show Dn K F v (.list xs) from r)
    | un => exact False.elim r
    | d z => exact False.elim r
    | m z => exact False.elim r
    | e c => exact False.elim r
    | sc ns => exact False.elim r
    | pen => exact False.elim r
/-- two parts in a row: the first one's value still holds -/
theorem rd_two {K : PySem.W.Frag} {k : PV → PV → Sq → Out PV} {σ : L2.St} {H : Hp} {Q : VK} {R : V → V → Hp → Prop} (h : rd K W (fun S => (fzF fa S).bind fun p S1 => (fzF fb S1).bind fun q S2 => k p q S2) σ H Q)
    (n : ∀ F0 H0 pa F H' S' p q v u, Agr K F0 H0 pa σ F H' S' → RelP K H0 pa σ F H' S' v p → RelP K H0 pa σ F H' S' u q → OutP (k p q S') (TP K F0 H0 pa σ F Q) (EW K W F0 H0 pa σ) → R v u H') :
    rd K W (fzF fa) σ H fun v H1 => rd K W (fzF fb) σ H1 fun u H2 => R v u H2 := by
  obtain ⟨F0, H0, pa, F, S, A, z⟩ := h
  refine ⟨F0, H0, pa, F, S, A, ?_⟩
  rw [OutP.bind] at z
  unfold fzF at z ⊢
  rw [OutP.bind] at z ⊢
  refine z.imp (fun p S1 z v F1 H1 x1 A1 r1 => ⟨F0, H0, pa, F1, S1, A1, ?_⟩) fun _ _ z => z
  have z : OutP (((fb S1).bind fun q S2 => .ok (fz q) S2).bind fun q S2 => k (fz p) q S2) (TP K F0 H0 pa σ F Q) (EW K W F0 H0 pa σ) := z
  rw [OutP.bind, OutP.bind] at z
  rw [OutP.bind]
  refine z.imp (fun q S2 z u F2 H2 x2 A2 r2 => ?_) fun _ _ z => z
  exact n F0 H0 pa F2 H2 S2 (fz p) (fz q) v u A2 (r1.fz_keep x2) r2 (OutP.imp z (fun _ _ y => y.up (x1.trans x2)) fun _ _ y => y)
theorem rd_op2 {r : R2} {g : D → D → Option PV} (dz : Does2 X.K r g) {σ : L2.St} {H : Hp} {Q : VK} (h : rd X.K W (fBin g fa fb) σ H Q) : tOp r (rd X.K W (fzF fa)) (rd X.K W (fzF fb)) σ H Q :=
  rd_two (k := fun p q S2 => match S2.val p, S2.val q with
    | some x, some y => (match g x y with
      | some z => .ok z S2
      | none => .no)
    | _, _ => .no) h fun F0 H0 pa F H' S' p q v u A rp rq z => by
    cases e1 : S'.val p with
    | none => rw [e1] at z; exact z.elim
    | some x =>
      cases e2 : S'.val q with
      | none => rw [e1, e2] at z; exact z.elim
      | some y =>
        rw [e1, e2] at z
        dsimp only at z
        cases e3 : g x y with
        | none => rw [e3] at z; exact z.elim
        | some w =>
          rw [e3] at z
          refine dz F H' v u x y w Q A.sub (A.val rp e1) (A.val rq e2) e3 fun t H'' gv => ?_
          obtain ⟨F', xF, A', r'⟩ := A.gives gv
          exact z t F' H'' xF A' r'
theorem de_bin {op : Operator} {r : R2} {g : D → D → Option PV} (ho : OpR X (binaryOp op) r) (dz : Does2 X.K r g) (ha : DE X W a fa) (hb : DE X W b fb) : DE X W (.BinOp a op b pos) (fBin g fa fb) :=
  PE.weak (pe_op ho (de_fz ha) (de_fz hb)) fun _ _ _ q => rd_op2 dz q
theorem de_cmp {op : CmpOp} {r : R2} {g : D → D → Option PV} (ho : OpR X (compareOp op) r) (dz : Does2 X.K r g) (ha : DE X W a fa) (hb : DE X W b fb) (hm : behindInMarks op b = false := by first | exact nomark _ | rfl) : DE X W (.Compare a [op] [b] pos) (fBin g fa fb) :=
  PE.weak (pe_cmpR ho (de_fz ha) (de_fz hb) hm) fun _ _ _ q => rd_op2 dz q
theorem OpR.or {f : Value → Value → Sem Value} {r r' : R2} (h : OpR X f r) (h' : OpR X f r') : OpR X f (fun x y H Q => r x y H Q ∨ r' x y H Q) := fun pins s σ H x y v u Q I rx ry z => z.elim (h pins s σ H x y v u Q I rx ry) (h' pins s σ H x y v u Q I rx ry)
/-! ### + -/
def gAdd : D → D → Option PV
  | .int i, .int j => some (.v (.int (i + j)))
  | .str x, .str y => if x.length + y.length ≤ sizeLine then some (.v (.str (x ++ y))) else none
  | .list xs, .list ys => if xs.length + ys.length ≤ sizeLine then some (.o (.l (xs ++ ys))) else none
  | .tuple xs, .tuple ys => if xs.length + ys.length ≤ sizeLine then some (.v (.tuple (xs ++ ys))) else none
  | _, _ => none
theorem Gv.int {K : PySem.W.Frag} {F H : Hp} (i : Int) : Gv K F H (.v (.int i)) (.int i) H := .dn (.int i)
theorem Gv.bl {K : PySem.W.Frag} {F H : Hp} (b : Bool) : Gv K F H (.v (.bool b)) (.bl b) H := .dn (.bl b)
theorem Gv.str {K : PySem.W.Frag} {F H : Hp} (x : Str) : Gv K F H (.v (.str x)) (.str x) H := .dn (.str x)
theorem DnAll.nil_iff {K : PySem.W.Frag} {H : Hp} {vs : List V} {ds : List D} (h : DnAll K H vs ds) : vs = [] ↔ ds = [] := by
  cases h <;> simp
abbrev rAddS : R2 := fun x y H Q => ∃ i j, x = .str i ∧ y = .str j ∧ i.length + j.length ≤ sizeLine ∧ Q (.str (i ++ j)) H
theorem does_add {K : PySem.W.Frag} : Does2 K (fun x y H Q => (rI0 fun i j => .int (i + j)) x y H Q ∨ rAddS x y H Q ∨ rCat x y H Q ∨ rCatA K x y H Q) gAdd := by
  intro F H x y d e z Q sub hx hy hg h
  cases d <;> cases e <;> simp only [gAdd] at hg <;> try (cases hg; done)
  · cases hg
    rw [hx.int, hy.int]
    exact .inl ⟨_, _, rfl, rfl, h _ _ (Gv.int _)⟩
  · split at hg
    · cases hg
      rw [hx.str, hy.str]
      rename_i hz
      exact .inr (.inl ⟨_, _, rfl, rfl, hz, h _ _ (Gv.str _)⟩)
    · cases hg
  · split at hg
    · cases hg
      rename_i hz
      obtain ⟨a, vs, rfl, h1, h2⟩ := hx.list sub
      obtain ⟨b, ws, rfl, h3, h4⟩ := hy.list sub
      exact .inr (.inr (.inl ⟨a, b, vs, ws, rfl, rfl, h1, h3, by rw [h2.length, h4.length]; exact hz, fun p hp => h _ _ (.lst hp (h2.append h4))⟩))
    · cases hg
  · split at hg
    · cases hg
      rename_i hz
      obtain ⟨a, vs, rfl, h1, h2⟩ := hx.tuple
      obtain ⟨b, ws, rfl, h3, h4⟩ := hy.tuple
      refine .inr (.inr (.inr ⟨a, b, vs, ws, rfl, rfl, SqT.of (sub _ _ h1), SqT.of (sub _ _ h3), by rw [h2.length, h4.length]; exact hz, fun q => ?_, fun _ q => ?_, fun _ _ p hp => h _ _ (.tup hp (h2.append h4))⟩))
      · have e := h2.nil_iff.mp q
        subst e
        exact h _ _ (.dn (.tup h3 h4))
      · have e := h4.nil_iff.mp q
        subst e
        rw [List.append_nil] at h
        exact h _ _ (.dn (.tup h1 h2))
    · cases hg
theorem de_add (ha : DE X W a fa) (hb : DE X W b fb) : DE X W (.BinOp a .Add b pos) (fBin gAdd fa fb) :=
  de_bin (OpR.or op_add (OpR.or op_add_str (OpR.or op_cat op_catA))) does_add ha hb
end
end Q3
/-! Q3c: more operations. -/
namespace Q3
open PySem PySem.Spec PyProof.Rows L2
variable [TabSet]
section
variable {X : Cx} {pins : List (Addr × Obj)} {σ : L2.St} {H : Hp} {s : Shared}
mutual
theorem Dn.reads (I : Inv X pins σ H s) : ∀ (d : D) (v : V) (u : Value), Dn X.K H v d → RelV v u → ∃ as, Reads s.heap u d as
  | .none, _, _, h, r => by
    cases h; cases r
    exact ⟨_, Reads.none⟩
  | .bool b, _, _, h, r => by
    cases h; cases r
    exact ⟨_, Reads.bool b⟩
  | .int i, _, _, h, r => by
    cases h
    obtain ⟨t, rfl⟩ := r
    exact ⟨_, Reads.int i t⟩
  | .str x, _, _, h, r => by
    cases h
    obtain ⟨t, rfl⟩ := r
    exact ⟨_, Reads.str x t⟩
  | .list ds, _, _, h, r => by
    cases h with
    | lst h1 h2 =>
      cases r
      obtain ⟨its, rv, ⟨o, n, ho, hc, hd, hs⟩, _⟩ := I.list (SqL.of h1)
      obtain ⟨as, ra⟩ := DnAll.reads I ds _ its h2 rv
      exact ⟨_, Reads.list ho hc hs (by simpa using ra)⟩
  | .tuple ds, _, _, h, r => by
    cases h with
    | tup h1 h2 =>
      cases r
      obtain ⟨its, rv, ⟨o, ho, hc, n, hs⟩, _⟩ := I.tuple (SqT.of h1)
      obtain ⟨as, ra⟩ := DnAll.reads I ds _ its h2 rv
      exact ⟨_, Reads.tuple ho hc hs (by simpa using ra)⟩
  | .dict kvs, _, _, h, r => by
    cases h with
    | dct0 h1 =>
      cases r
      obtain ⟨_, _, vs, kv, o, es, ep, ho, hx, hd, ko, pr, _⟩ := I.hok _ _ h1
      cases kv
      have e : es.toList = [] := by
        cases h : es.toList with
        | nil => rfl
        | cons a b => rw [h] at pr; cases pr
      refine ⟨_, Reads.dict (kvs := []) (as := []) (bs := []) ho hx.1 hd ?_ ?_⟩
      · rw [e]; exact .nil
      · rw [e]; exact .nil
theorem DnAll.reads (I : Inv X pins σ H s) : ∀ (ds : List D) (vs : List V) (us : List Value), DnAll X.K H vs ds → Vals vs us → ∃ as, ReadsAll s.heap us ds as
  | [], _, _, h, r => by
    cases h; cases r
    exact ⟨_, ReadsAll.nil⟩
  | d :: ds, _, _, h, r => by
    cases h with
    | cons h1 h2 =>
      cases r with
      | cons r1 r2 =>
        obtain ⟨as, a⟩ := Dn.reads I d _ _ h1 r1
        obtain ⟨bs, b⟩ := DnAll.reads I ds _ _ h2 r2
        exact ⟨_, ReadsAll.cons a b⟩
end
end
section
variable {X : Cx} {W : WX} {a b c e : Expr} {fa fb fc : Sq → Out PV} {pos : Pos} {N : List Str} {sc : Scope} {k : Nat} {G : Gb}
/-! ### == and != -/
def rEqQ (K : PySem.W.Frag) (f : Bool → Bool) : R2 := fun x y H Q => ∃ d e, Dn K H x d ∧ Dn K H y e ∧ SeqAt.shaped d = true ∧ SeqAt.shaped e = true ∧ Q (.bl (f (PyData.eqv d e))) H
theorem op_eqQ (hu : X.A.units + 64 < cLine) : OpR X (compareOp .Eq) (rEqQ X.K id) := by
  intro pins s σ H x y v u Q I rx ry h
  obtain ⟨d, e, hd, he, sd, se, q⟩ := h
  obtain ⟨as, r1⟩ := Dn.reads I d x v hd rx
  obtain ⟨bs, r2⟩ := Dn.reads I e y u he ry
  exact SeqAt.compareEq_shaped r1 r2 sd se hu ⟨.bl _, H, I, rfl, q⟩
theorem op_neQ (hu : X.A.units + 64 < cLine) : OpR X (compareOp .NotEq) (rEqQ X.K not) := by
  intro pins s σ H x y v u Q I rx ry h
  obtain ⟨d, e, hd, he, sd, se, q⟩ := h
  obtain ⟨as, r1⟩ := Dn.reads I d x v hd rx
  obtain ⟨bs, r2⟩ := Dn.reads I e y u he ry
  exact SeqAt.compareNe_shaped r1 r2 sd se hu ⟨.bl _, H, I, rfl, q⟩
/-- texts are compared as they are; all else by its shape -/
def gEq : D → D → Option PV
  | .str a, .str b => some (.v (.bool (decide (a = b))))
  | d, e => if SeqAt.shaped d && SeqAt.shaped e then some (.v (.bool (PyData.eqv d e))) else none
def gNe : D → D → Option PV
  | .str a, .str b => some (.v (.bool (!decide (a = b))))
  | d, e => if SeqAt.shaped d && SeqAt.shaped e then some (.v (.bool (!PyData.eqv d e))) else none
theorem dec_str {a b : Str} : decide (V.str a = V.str b) = decide (a = b) := by
  rw [Bool.eq_iff_iff]
  simp
theorem gEq_some {d e : D} {z : PV} (h : gEq d e = some z) : (∃ a b, d = .str a ∧ e = .str b ∧ z = .v (.bool (decide (a = b)))) ∨ (SeqAt.shaped d = true ∧ SeqAt.shaped e = true ∧ z = .v (.bool (PyData.eqv d e))) := by
  unfold gEq at h
  split at h
  · cases h; exact .inl ⟨_, _, rfl, rfl, rfl⟩
  · split at h
    · rename_i q
      have q := Bool.and_eq_true_iff.mp q
      cases h
      exact .inr ⟨q.1, q.2, rfl⟩
    · cases h
theorem gNe_some {d e : D} {z : PV} (h : gNe d e = some z) : (∃ a b, d = .str a ∧ e = .str b ∧ z = .v (.bool (!decide (a = b)))) ∨ (SeqAt.shaped d = true ∧ SeqAt.shaped e = true ∧ z = .v (.bool (!PyData.eqv d e))) := by
  unfold gNe at h
  split at h
  · cases h; exact .inl ⟨_, _, rfl, rfl, rfl⟩
  · split at h
    · rename_i q
      have q := Bool.and_eq_true_iff.mp q
      cases h
      exact .inr ⟨q.1, q.2, rfl⟩
    · cases h
def rEqA (K : PySem.W.Frag) : R2 := fun x y H Q => rEqQ K id x y H Q ∨ rEq x y H Q
def rNeA (K : PySem.W.Frag) : R2 := fun x y H Q => rEqQ K not x y H Q ∨ rNe x y H Q
theorem op_eqA (hu : X.A.units + 64 < cLine) : OpR X (compareOp .Eq) (rEqA X.K) := OpR.or (op_eqQ hu) op_eq
theorem op_neA (hu : X.A.units + 64 < cLine) : OpR X (compareOp .NotEq) (rNeA X.K) := OpR.or (op_neQ hu) op_ne
theorem does_eq {K : PySem.W.Frag} : Does2 K (rEqA K) gEq := by
  intro F H x y d e z Q sub hx hy hg h
  rcases gEq_some hg with ⟨a, b, rfl, rfl, rfl⟩ | ⟨q1, q2, rfl⟩
  · rw [hx.str, hy.str]
    exact .inr ⟨rfl, by rw [dec_str]; exact h _ _ (Gv.bl _)⟩
  · exact .inl ⟨d, e, hx.dn sub, hy.dn sub, q1, q2, h _ _ (Gv.bl _)⟩
theorem does_ne {K : PySem.W.Frag} : Does2 K (rNeA K) gNe := by
  intro F H x y d e z Q sub hx hy hg h
  rcases gNe_some hg with ⟨a, b, rfl, rfl, rfl⟩ | ⟨q1, q2, rfl⟩
  · rw [hx.str, hy.str]
    exact .inr ⟨rfl, by rw [dec_str]; exact h _ _ (Gv.bl _)⟩
  · exact .inl ⟨d, e, hx.dn sub, hy.dn sub, q1, q2, h _ _ (Gv.bl _)⟩
theorem de_eq (C : Cq G k N sc X) (ha : DE X W a fa) (hb : DE X W b fb) : DE X W (.Compare a [.Eq] [b] pos) (fBin gEq fa fb) := de_cmp (op_eqA (by have := C.hd.un; omega)) does_eq ha hb
theorem de_ne (C : Cq G k N sc X) (ha : DE X W a fa) (hb : DE X W b fb) : DE X W (.Compare a [.NotEq] [b] pos) (fBin gNe fa fb) := de_cmp (op_neA (by have := C.hd.un; omega)) does_ne ha hb
/-! ### order of ints -/
def gInt (p : Int → Int → Option PV) : D → D → Option PV
  | .int i, .int j => p i j
  | _, _ => none
theorem gInt_some {p : Int → Int → Option PV} {d e : D} {z : PV} (h : gInt p d e = some z) : ∃ i j, d = .int i ∧ e = .int j ∧ p i j = some z := by
  cases d <;> cases e <;> simp only [gInt] at h <;> first | (cases h; done) | exact ⟨_, _, rfl, rfl, h⟩
theorem does_I0 {K : PySem.W.Frag} {g : Int → Int → V} {p : Int → Int → D} (hg : ∀ F i j, Dn K F (g i j) (p i j)) : Does2 K (rI0 g) (gInt fun i j => some (.v (p i j))) := by
  intro F H x y d e z Q sub hx hy q h
  obtain ⟨i, j, rfl, rfl, q⟩ := gInt_some q
  cases q
  rw [hx.int, hy.int]
  exact ⟨i, j, rfl, rfl, h _ _ (.dn (hg F i j))⟩
theorem does_I {K : PySem.W.Frag} {C : Int → Int → Prop} [∀ i j, Decidable (C i j)] {g : Int → Int → V} {p : Int → Int → D} (hg : ∀ F i j, Dn K F (g i j) (p i j)) : Does2 K (rI C g) (gInt fun i j => if C i j then some (.v (p i j)) else none) := by
  intro F H x y d e z Q sub hx hy q h
  obtain ⟨i, j, rfl, rfl, q2⟩ := gInt_some q
  clear q
  split at q2
  · rename_i hc
    cases q2
    rw [hx.int, hy.int]
    exact ⟨i, j, rfl, rfl, hc, h _ _ (.dn (hg F i j))⟩
  · cases q2
def gLt : D → D → Option PV := gInt fun i j => some (.v (.bool (decide (i < j))))
def gLe : D → D → Option PV := gInt fun i j => some (.v (.bool (decide (i ≤ j))))
def gGt : D → D → Option PV := gInt fun i j => some (.v (.bool (decide (j < i))))
def gGe : D → D → Option PV := gInt fun i j => some (.v (.bool (decide (j ≤ i))))
def gSub : D → D → Option PV := gInt fun i j => some (.v (.int (i - j)))
theorem de_lt (ha : DE X W a fa) (hb : DE X W b fb) : DE X W (.Compare a [.Lt] [b] pos) (fBin gLt fa fb) := de_cmp op_lt (does_I0 fun _ _ _ => .bl _) ha hb
theorem de_le (ha : DE X W a fa) (hb : DE X W b fb) : DE X W (.Compare a [.LtE] [b] pos) (fBin gLe fa fb) := de_cmp op_le (does_I0 fun _ _ _ => .bl _) ha hb
theorem de_gt (ha : DE X W a fa) (hb : DE X W b fb) : DE X W (.Compare a [.Gt] [b] pos) (fBin gGt fa fb) := de_cmp op_gt (does_I0 fun _ _ _ => .bl _) ha hb
theorem de_ge (ha : DE X W a fa) (hb : DE X W b fb) : DE X W (.Compare a [.GtE] [b] pos) (fBin gGe fa fb) := de_cmp op_ge (does_I0 fun _ _ _ => .bl _) ha hb
theorem de_sub (ha : DE X W a fa) (hb : DE X W b fb) : DE X W (.BinOp a .Sub b pos) (fBin gSub fa fb) := de_bin op_sub (does_I0 fun _ _ _ => .int _) ha hb
/-! ### % // ** -/
def gMod : D → D → Option PV := gInt fun i j => if 0 < j then some (.v (.int (i % j))) else none
instance {i j : Int} : Decidable (CDiv i j) := by unfold CDiv; infer_instance
instance {i j : Int} : Decidable (CMul i j) := by unfold CMul; infer_instance
def gDiv : D → D → Option PV := gInt fun i j => if CDiv i j then some (.v (.int (i / j))) else none
theorem de_mod (ha : DE X W a fa) (hb : DE X W b fb) : DE X W (.BinOp a .Mod b pos) (fBin gMod fa fb) := de_bin op_mod (does_I (C := fun _ j => 0 < j) fun _ _ _ => .int _) ha hb
theorem de_div (ha : DE X W a fa) (hb : DE X W b fb) : DE X W (.BinOp a .FloorDiv b pos) (fBin gDiv fa fb) := de_bin op_fdiv (does_I (C := CDiv) fun _ _ _ => .int _) ha hb
def CPowW (i j : Int) : Prop := 0 ≤ j ∧ j ≤ 100 ∧ i.natAbs < 2 ^ 100000
instance {i j : Int} : Decidable (CPowW i j) := by unfold CPowW; infer_instance
theorem op_powW : OpR X (binaryOp .Pow) (rI CPowW fun i j => .int (i ^ j.toNat)) := opI fun i j _ _ _ _ _ hc q => pow_int hc.1 (by
  obtain ⟨h1, h2, h3⟩ := hc
  have hb : Builtin.Int.intBits i ≤ 100000 := by
    unfold Builtin.Int.intBits
    split
    · exact Nat.zero_le _
    · have hn : i.natAbs ≠ 0 := by
        rename_i hz
        intro q
        have : i = 0 := by omega
        simp [this] at hz
      have := (Nat.log2_lt hn).mpr h3
      omega
  have hb' : (Builtin.Int.intBits i : Int) ≤ 100000 := by omega
  calc (Builtin.Int.intBits i : Int) * j ≤ 100000 * j := Int.mul_le_mul_of_nonneg_right hb' h1
    _ ≤ 100000 * 100 := Int.mul_le_mul_of_nonneg_left h2 (by decide)
    _ ≤ 2 ^ 27 := by decide) q
def gPow : D → D → Option PV := gInt fun i j => if CPowW i j then some (.v (.int (i ^ j.toNat))) else none
theorem de_pow (ha : DE X W a fa) (hb : DE X W b fb) : DE X W (.BinOp a .Pow b pos) (fBin gPow fa fb) := de_bin op_powW (does_I (C := CPowW) fun _ _ _ => .int _) ha hb
/-! ### * -/
def strRep (x : Str) (k : Nat) : Str := ⟨(List.replicate k x.cps.toList).flatten.toArray⟩
theorem strRep_fold (x : Str) : ∀ (k : Nat) (acc : Array Nat), (List.replicate k x.cps).foldl (· ++ ·) acc = acc ++ (List.replicate k x.cps.toList).flatten.toArray
  | 0, acc => by simp
  | k + 1, acc => by
    rw [List.replicate_succ, List.foldl_cons, strRep_fold x k, List.replicate_succ, List.flatten_cons, Array.append_assoc]
    congr 1
    apply Array.ext'
    simp
def rRepS : R2 := fun x y H Q => ∃ z k, x = .str z ∧ y = .int k ∧ 0 ≤ k ∧ k < 1000000 ∧ z.length * k.toNat ≤ sizeLine ∧ Q (.str (strRep z k.toNat)) H
theorem op_repS : OpR X (binaryOp .Mult) rRepS := by
  intro pins s σ H x y v u Q I rx ry h
  obtain ⟨z, k, rfl, rfl, h0, h1, hz, q⟩ := h
  obtain ⟨t, rfl⟩ := rx
  obtain ⟨t', rfl⟩ := ry
  have hsl := sizeLine_eq
  refine PySem.P.mul_str ?_ (fun h2 h3 => ?_) (fun h2 h3 => ?_) ?_
  · rw [decide_eq_false (by omega), decide_eq_false (by omega)]; rfl
  · have hk : 0 < k := by omega
    intro h4
    have h5 : (z.length : Int) * k ≤ 16777216 := by
      have e : ((z.length * k.toNat : Nat) : Int) = (z.length : Int) * k := by
        rw [Int.natCast_mul, Int.toNat_of_nonneg h0]
      rw [← e]; omega
    have h6 : (2 ^ 63 - 1) / k < (z.length : Int) := h4
    rw [Int.ediv_lt_iff_lt_mul hk] at h6
    omega
  · exact decide_eq_false (show ¬ _ by omega)
  · split
    · rename_i h2
      have e : k = 0 := by omega
      subst e
      exact ⟨by decide, .str _, H, I.tok _, ⟨_, rfl⟩, q⟩
    · split
      · rename_i h2 h3
        have e : strRep z k.toNat = z := by
          rcases Bool.or_eq_true_iff.mp h3 with h3 | h3
          · have h3 : k = 1 := by simpa using h3
            subst h3
            unfold strRep
            simp
          · have h3 : z.length = 0 := by simpa using h3
            have e0 : z.cps = #[] := Array.eq_empty_of_size_eq_zero h3
            unfold strRep
            obtain ⟨c⟩ := z
            simp only at e0
            subst e0
            simp
        rw [e] at q
        exact ⟨.str _, H, I, ⟨_, rfl⟩, q⟩
      · have e : (⟨(List.replicate k.toNat z.cps).foldl (· ++ ·) #[]⟩ : Str) = strRep z k.toNat := by
          unfold strRep
          rw [strRep_fold]
          simp
        rw [e]
        refine ⟨?_, .str _, H, I.tok _, ⟨_, rfl⟩, q⟩
        show (strRep z k.toNat).cps.size ≤ sizeLine
        unfold strRep
        simp only [List.size_toArray, List.length_flatten, List.map_replicate, List.sum_replicate_nat, Array.length_toList]
        rw [Nat.mul_comm]
        exact hz
def gMul : D → D → Option PV
  | .int i, .int j => if CMul i j then some (.v (.int (i * j))) else none
  | .list xs, .int j => if 0 ≤ j ∧ j < 1000000 ∧ xs.length * j.toNat ≤ sizeLine then some (.o (.l (List.replicate j.toNat xs).flatten)) else none
  | .str z, .int j => if 0 ≤ j ∧ j < 1000000 ∧ z.length * j.toNat ≤ sizeLine then some (.v (.str (strRep z j.toNat))) else none
  | _, _ => none
theorem DnAll.rep {K : PySem.W.Frag} {H : Hp} {vs : List V} {ds : List D} (h : DnAll K H vs ds) : ∀ n : Nat, DnAll K H (List.replicate n vs).flatten (List.replicate n ds).flatten
  | 0 => .nil
  | n + 1 => by
    rw [List.replicate_succ, List.replicate_succ, List.flatten_cons, List.flatten_cons]
    exact h.append (h.rep n)
theorem does_mul {K : PySem.W.Frag} : Does2 K (fun x y H Q => rI CMul (fun i j => .int (i * j)) x y H Q ∨ rRep x y H Q ∨ rRepS x y H Q) gMul := by
  intro F H x y d e z Q sub hx hy hg h
  cases d <;> cases e <;> simp only [gMul] at hg <;> try (cases hg; done)
  · split at hg
    · rename_i hc
      cases hg
      rw [hx.int, hy.int]
      exact .inl ⟨_, _, rfl, rfl, hc, h _ _ (Gv.int _)⟩
    · cases hg
  · split at hg
    · rename_i hc
      cases hg
      rw [hx.str, hy.int]
      exact .inr (.inr ⟨_, _, rfl, rfl, hc.1, hc.2.1, hc.2.2, h _ _ (Gv.str _)⟩)
    · cases hg
  · split at hg
    · rename_i hc
      cases hg
      obtain ⟨l, vs, rfl, h1, h2⟩ := hx.list sub
      rw [hy.int]
      exact .inr (.inl ⟨l, _, vs, rfl, rfl, h1, by omega, by omega, by rw [h2.length]; exact hc.2.2, fun p hp => h _ _ (.lst hp (h2.rep _))⟩)
    · cases hg
theorem de_mul (ha : DE X W a fa) (hb : DE X W b fb) : DE X W (.BinOp a .Mult b pos) (fBin gMul fa fb) := de_bin (OpR.or op_mul (OpR.or op_rep op_repS)) does_mul ha hb
/-! ### is None -/
def isNone : D → Bool
  | .none => true
  | _ => false
def gIsN : D → D → Option PV
  | d, .none => some (.v (.bool (isNone d)))
  | _, _ => none
def gNotN : D → D → Option PV
  | d, .none => some (.v (.bool (!isNone d)))
  | _, _ => none
theorem Dv.isN {K : PySem.W.Frag} {F H : Hp} {v : V} {d : D} (h : Dv K F H v d) : decide (v = .non) = isNone d := by
  rcases h with h | ⟨a, vs, xs, rfl, rfl, _⟩
  · cases h <;> first | rfl | exact decide_eq_false (fun q => nomatch q) | exact decide_eq_true rfl
  · exact decide_eq_false (fun q => nomatch q)
theorem does_isN {K : PySem.W.Frag} : Does2 K (fun x y H Q => y = .non ∧ Q (.bl (decide (x = .non))) H) gIsN := by
  intro F H x y d e z Q sub hx hy hg h
  cases e <;> simp only [gIsN] at hg <;> try (cases hg; done)
  cases hg
  refine ⟨hy.non, ?_⟩
  rw [hx.isN]
  exact h _ _ (Gv.bl _)
theorem does_notN {K : PySem.W.Frag} : Does2 K (fun x y H Q => y = .non ∧ Q (.bl (!decide (x = .non))) H) gNotN := by
  intro F H x y d e z Q sub hx hy hg h
  cases e <;> simp only [gNotN] at hg <;> try (cases hg; done)
  cases hg
  refine ⟨hy.non, ?_⟩
  rw [hx.isN]
  exact h _ _ (Gv.bl _)
theorem de_isN (ha : DE X W a fa) (hb : DE X W b fb) : DE X W (.Compare a [.Is] [b] pos) (fBin gIsN fa fb) := de_cmp op_isN does_isN ha hb
theorem de_notN (ha : DE X W a fa) (hb : DE X W b fb) : DE X W (.Compare a [.IsNot] [b] pos) (fBin gNotN fa fb) := de_cmp op_notN does_notN ha hb
/-! ### in -/
def inS (x y : Str) : Bool := !(Builtin.Str.occurrences y x 0 y.length 1).isEmpty
def gIn (neg : Bool) : D → D → Option PV
  | .str x, .str y => some (.v (.bool (if neg then !inS x y else inS x y)))
  | d, .list ds => if SeqAt.shaped d && SeqAt.shaped (.list ds) then some (.v (.bool (if neg then !ds.any fun z => PyData.eqv z d else ds.any fun z => PyData.eqv z d))) else none
  | d, .tuple ds => if SeqAt.shaped d && SeqAt.shaped (.tuple ds) then some (.v (.bool (if neg then !ds.any fun z => PyData.eqv z d else ds.any fun z => PyData.eqv z d))) else none
  | _, _ => none
theorem gIn_cases {neg : Bool} {d e : D} {z : PV} (h : gIn neg d e = some z) : (∃ x y, d = .str x ∧ e = .str y ∧ z = .v (.bool (if neg then !inS x y else inS x y))) ∨
    ∃ ds, (e = .list ds ∨ e = .tuple ds) ∧ SeqAt.shaped d = true ∧ SeqAt.shaped e = true ∧ z = .v (.bool (if neg then !ds.any fun z => PyData.eqv z d else ds.any fun z => PyData.eqv z d)) := by
  cases e with
  | str y =>
    cases d <;> simp only [gIn] at h <;> first | (cases h; done) | (cases h; exact .inl ⟨_, _, rfl, rfl, rfl⟩)
  | list ds =>
    have h' : (if SeqAt.shaped d && SeqAt.shaped (.list ds) then some (PV.v (.bool (if neg then !ds.any fun z => PyData.eqv z d else ds.any fun z => PyData.eqv z d))) else none) = some z := by cases d <;> exact h
    split at h'
    · rename_i q
      have q := Bool.and_eq_true_iff.mp q
      cases h'
      exact .inr ⟨ds, .inl rfl, q.1, q.2, rfl⟩
    · cases h'
  | tuple ds =>
    have h' : (if SeqAt.shaped d && SeqAt.shaped (.tuple ds) then some (PV.v (.bool (if neg then !ds.any fun z => PyData.eqv z d else ds.any fun z => PyData.eqv z d))) else none) = some z := by cases d <;> exact h
    split at h'
    · rename_i q
      have q := Bool.and_eq_true_iff.mp q
      cases h'
      exact .inr ⟨ds, .inr rfl, q.1, q.2, rfl⟩
    · cases h'
  | none => cases d <;> cases h
  | bool b => cases d <;> cases h
  | int i => cases d <;> cases h
  | dict kvs => cases d <;> cases h
def rInQ (K : PySem.W.Frag) (neg : Bool) : R2 := fun x y H Q => (∃ i j, x = .str i ∧ y = .str j ∧ Q (.bl (if neg then !inS i j else inS i j)) H) ∨
  ∃ d e ds, (e = .list ds ∨ e = .tuple ds) ∧ Dn K H x d ∧ Dn K H y e ∧ SeqAt.shaped d = true ∧ SeqAt.shaped e = true ∧ Q (.bl (if neg then !ds.any fun z => PyData.eqv z d else ds.any fun z => PyData.eqv z d)) H
theorem op_inQ (hu : X.A.units + 65 < cLine) : OpR X (compareOp .In) (rInQ X.K false) := by
  intro pins s σ H x y v u Q I rx ry h
  rcases h with h | ⟨d, e, ds, he, hd, hy, sd, se, q⟩
  · exact op_in_str pins s σ H x y v u Q I rx ry h
  · obtain ⟨as, r1⟩ := Dn.reads I d x v hd rx
    obtain ⟨bs, r2⟩ := Dn.reads I e y u hy ry
    rcases he with rfl | rfl
    · exact SeqAt.in_list_reads r2 r1 (SeqAt.canLay_of_shaped se) (SeqAt.canLay_of_shaped sd) (room_in_shaped sd hu) ⟨.bl _, H, I, rfl, q⟩
    · exact SeqAt.in_tuple_reads r2 r1 (SeqAt.canLay_of_shaped se) (SeqAt.canLay_of_shaped sd) (room_in_shaped sd hu) ⟨.bl _, H, I, rfl, q⟩
theorem op_notInQ (hu : X.A.units + 65 < cLine) : OpR X (compareOp .NotIn) (rInQ X.K true) := by
  intro pins s σ H x y v u Q I rx ry h
  rcases h with h | ⟨d, e, ds, he, hd, hy, sd, se, q⟩
  · exact op_notin_str pins s σ H x y v u Q I rx ry h
  · obtain ⟨as, r1⟩ := Dn.reads I d x v hd rx
    obtain ⟨bs, r2⟩ := Dn.reads I e y u hy ry
    rcases he with rfl | rfl
    · exact SeqAt.notIn_list_reads r2 r1 (SeqAt.canLay_of_shaped se) (SeqAt.canLay_of_shaped sd) (room_in_shaped sd hu) ⟨.bl _, H, I, rfl, q⟩
    · exact SeqAt.notIn_tuple_reads r2 r1 (SeqAt.canLay_of_shaped se) (SeqAt.canLay_of_shaped sd) (room_in_shaped sd hu) ⟨.bl _, H, I, rfl, q⟩
theorem does_in {K : PySem.W.Frag} (neg : Bool) : Does2 K (rInQ K neg) (gIn neg) := by
  intro F H x y d e z Q sub hx hy hg h
  rcases gIn_cases hg with ⟨i, j, rfl, rfl, rfl⟩ | ⟨ds, he, sd, se, rfl⟩
  · exact .inl ⟨i, j, hx.str, hy.str, h _ _ (Gv.bl _)⟩
  · exact .inr ⟨d, e, ds, he, hx.dn sub, hy.dn sub, sd, se, h _ _ (Gv.bl _)⟩
theorem de_in (C : Cq G k N sc X) (ha : DE X W a fa) (hb : DE X W b fb) (hm : behindInMarks .In b = false := by rfl) : DE X W (.Compare a [.In] [b] pos) (fBin (gIn false) fa fb) := de_cmp (op_inQ (by have := C.hd.un; omega)) (does_in false) ha hb hm
theorem de_notIn (C : Cq G k N sc X) (ha : DE X W a fa) (hb : DE X W b fb) (hm : behindInMarks .NotIn b = false := by rfl) : DE X W (.Compare a [.NotIn] [b] pos) (fBin (gIn true) fa fb) := de_cmp (op_notInQ (by have := C.hd.un; omega)) (does_in true) ha hb hm
/-! ### a <= b <= c of ints -/
def fChain (p q : Int → Int → Bool) (fa fb fc : Sq → Out PV) : Sq → Out PV := fun S => (fzF fa S).bind fun x S1 => (fzF fb S1).bind fun y S2 => match S2.val x, S2.val y with
  | some (.int i), some (.int j) => if p i j = true then (fzF fc S2).bind fun z S3 => (match S3.val z with
    | some (.int l) => .ok (.v (.bool (q j l))) S3
    | _ => .no) else .ok (.v (.bool false)) S2
  | _, _ => .no
theorem Dv.of_int {K : PySem.W.Frag} {F0 H0 F H : Hp} {pa : Option Addr} {σ : L2.St} {S : Sq} {v : V} {pv : PV} {i : Int} (A : Agr K F0 H0 pa σ F H S) (r : RelP K H0 pa σ F H S v pv) (e : S.val pv = some (.int i)) : v = .int i := (A.val r e).int
theorem de_chain {op op' : CmpOp} {p q : Int → Int → Bool} (ho : OpR X (compareOp op) (rI0 fun i j => .bl (p i j))) (ho' : OpR X (compareOp op') (rI0 fun i j => .bl (q i j))) (ha : DE X W a fa) (hb : DE X W b fb) (hc : DE X W c fc)
    (hm : lastMarks [op, op'] [b, c] = false := by with_unfolding_all rfl) : DE X W (.Compare a [op, op'] [b, c] pos) (fChain p q fa fb fc) := by
  refine PE.weak (pe_chain ho ho' (de_fz ha) (de_fz hb) (de_fz hc) hm) fun σ H Q z => ?_
  refine rd_two (Q := Q) (R := fun x y H2 => (rI0 fun i j => V.bl (p i j)) x y H2 fun z H3 => ∃ k, z = .bl k ∧ (if k = true then rd X.K W (fzF fc) σ H3 fun w' H4 => (rI0 fun i j => V.bl (q i j)) y w' H4 Q else Q (.bl false) H3)) z fun F0 H0 pa F H' S' x y v u A rx ry z => ?_
  split at z
  · rename_i i j e1 e2
    have ev := Dv.of_int A rx e1
    have eu := Dv.of_int A ry e2
    subst ev eu
    refine ⟨i, j, rfl, rfl, _, rfl, ?_⟩
    by_cases hp : p i j = true
    · rw [if_pos hp] at z ⊢
      rw [OutP.bind] at z
      refine ⟨F0, H0, pa, F, S', A, z.imp (fun w S3 z v F3 H3 x3 A3 r3 => ?_) fun _ _ z => z⟩
      split at z
      · rename_i l e3
        rw [Dv.of_int A3 r3 e3]
        exact ⟨j, l, rfl, rfl, z _ F3 H3 x3 A3 (.bl _)⟩
      · exact z.elim
    · rw [if_neg hp] at z ⊢
      exact z _ F H' (Ex.refl F) A (.bl _)
  · exact z.elim
/-! ### tests -/
def fB (f : Sq → Out PV) : Sq → Out Bool := fun S => (f S).bind fun p S' => match S'.val p with
  | some (.bool b) => .ok b S'
  | _ => .no
theorem dt_val (h : DE X W e fa) (he : ∀ whole, isTrue e X.env whole = (do let v ← whole; standAt e.pos; holding [v] (truthy v)) := by intro _; rfl) : DT X W e (fB fa) := by
  refine PT.weak (pt_val h he) fun σ H Q z => ?_
  obtain ⟨F0, H0, pa, F, S, A, z⟩ := z
  unfold fB at z
  rw [OutP.bind] at z
  refine ⟨F0, H0, pa, F, S, A, z.imp (fun w S3 z v F3 H3 x3 A3 r3 => ?_) fun _ _ z => z⟩
  split at z
  · rename_i b e3
    exact ⟨b, (A3.val r3 e3).bl, z F3 H3 x3 A3⟩
  · exact z.elim
def tAndF (f g : Sq → Out Bool) : Sq → Out Bool := fun S => (f S).bind fun b S' => if b = true then g S' else .ok false S'
def tOrF (f g : Sq → Out Bool) : Sq → Out Bool := fun S => (f S).bind fun b S' => if b = true then .ok true S' else g S'
def tNotF (f : Sq → Out Bool) : Sq → Out Bool := fun S => (f S).bind fun b S' => .ok (!b) S'
variable {ta tb : Sq → Out Bool} {rest : List Expr}
theorem dw_and1 (ha : DT X W a ta) : DW X W (.BoolOp .And [a] pos) ta := pw_and1 ha
theorem dw_or1 (ha : DT X W a ta) : DW X W (.BoolOp .Or [a] pos) ta := pw_or1 ha
theorem dw_and (ha : DT X W a ta) (hb : DW X W (.BoolOp .And (b :: rest) pos) tb) : DW X W (.BoolOp .And (a :: b :: rest) pos) (tAndF ta tb) := by
  refine PW.weak (pw_and ha hb) fun σ H Q z => ?_
  obtain ⟨F0, H0, pa, F, S, A, z⟩ := z
  unfold tAndF at z
  rw [OutP.bind] at z
  refine ⟨F0, H0, pa, F, S, A, z.imp (fun w S3 z F3 H3 x3 A3 => ?_) fun _ _ z => z⟩
  cases w with
  | true => exact ⟨F0, H0, pa, F3, S3, A3, OutP.imp z (fun _ _ y => y.up x3) fun _ _ y => y⟩
  | false => exact z F3 H3 x3 A3
theorem dw_or (ha : DT X W a ta) (hb : DW X W (.BoolOp .Or (b :: rest) pos) tb) : DW X W (.BoolOp .Or (a :: b :: rest) pos) (tOrF ta tb) := by
  refine PW.weak (pw_or ha hb) fun σ H Q z => ?_
  obtain ⟨F0, H0, pa, F, S, A, z⟩ := z
  unfold tOrF at z
  rw [OutP.bind] at z
  refine ⟨F0, H0, pa, F, S, A, z.imp (fun w S3 z F3 H3 x3 A3 => ?_) fun _ _ z => z⟩
  cases w with
  | false => exact ⟨F0, H0, pa, F3, S3, A3, OutP.imp z (fun _ _ y => y.up x3) fun _ _ y => y⟩
  | true => exact z F3 H3 x3 A3
theorem dt_w (h : DW X W e ta) : DT X W e ta := h.pt
theorem dt_not (ha : DT X W a ta) : DT X W (.UnaryOp .Not a pos) (tNotF ta) := by
  refine PT.weak (pt_not ha) fun σ H Q z => ?_
  obtain ⟨F0, H0, pa, F, S, A, z⟩ := z
  unfold tNotF at z
  rw [OutP.bind] at z
  exact ⟨F0, H0, pa, F, S, A, z.imp (fun w S3 z F3 H3 x3 A3 => z F3 H3 x3 A3) fun _ _ z => z⟩
/-- and, or, not as values -/
def bv (f : Sq → Out Bool) : Sq → Out PV := fun S => (f S).bind fun b S' => .ok (.v (.bool b)) S'
theorem de_one {op : BoolOp} (h : DE X W a fa) : DE X W (.BoolOp op [a] pos) (bv (fB fa)) := by
  refine PE.weak (pe_one h) fun σ H Q z => ?_
  obtain ⟨F0, H0, pa, F, S, A, z⟩ := z
  unfold bv fB at z
  rw [OutP.bind, OutP.bind] at z
  refine ⟨F0, H0, pa, F, S, A, z.imp (fun w S3 z v F3 H3 x3 A3 r3 => ?_) fun _ _ z => z⟩
  split at z
  · rename_i b e3
    rw [(A3.val r3 e3).bl]
    exact z _ F3 H3 x3 A3 (.bl _)
  · exact z.elim
theorem de_and (ha : DE X W a fa) (hb : DE X W (.BoolOp .And (b :: rest) pos) (bv tb)) : DE X W (.BoolOp .And (a :: b :: rest) pos) (bv (tAndF (fB fa) tb)) := by
  refine PE.weak (pe_and ha hb) fun σ H Q z => ?_
  obtain ⟨F0, H0, pa, F, S, A, z⟩ := z
  unfold bv tAndF fB at z
  rw [OutP.bind, OutP.bind, OutP.bind] at z
  refine ⟨F0, H0, pa, F, S, A, z.imp (fun w S3 z v F3 H3 x3 A3 r3 => ?_) fun _ _ z => z⟩
  split at z
  · rename_i c e3
    rw [(A3.val r3 e3).bl]
    refine ⟨c, rfl, ?_⟩
    cases c with
    | true =>
      refine ⟨F0, H0, pa, F3, S3, A3, ?_⟩
      unfold bv
      rw [OutP.bind]
      exact OutP.imp z (fun _ _ y => TP.up y x3) fun _ _ y => y
    | false => exact z _ F3 H3 x3 A3 (.bl _)
  · exact z.elim
theorem de_or (ha : DE X W a fa) (hb : DE X W (.BoolOp .Or (b :: rest) pos) (bv tb)) : DE X W (.BoolOp .Or (a :: b :: rest) pos) (bv (tOrF (fB fa) tb)) := by
  refine PE.weak (pe_or ha hb) fun σ H Q z => ?_
  obtain ⟨F0, H0, pa, F, S, A, z⟩ := z
  unfold bv tOrF fB at z
  rw [OutP.bind, OutP.bind, OutP.bind] at z
  refine ⟨F0, H0, pa, F, S, A, z.imp (fun w S3 z v F3 H3 x3 A3 r3 => ?_) fun _ _ z => z⟩
  split at z
  · rename_i c e3
    rw [(A3.val r3 e3).bl]
    refine ⟨c, rfl, ?_⟩
    cases c with
    | false =>
      refine ⟨F0, H0, pa, F3, S3, A3, ?_⟩
      unfold bv
      rw [OutP.bind]
      exact OutP.imp z (fun _ _ y => TP.up y x3) fun _ _ y => y
    | true => exact z _ F3 H3 x3 A3 (.bl _)
  · exact z.elim
theorem de_not (ha : DE X W a fa) : DE X W (.UnaryOp .Not a pos) (bv (tNotF (fB fa))) := by
  refine PE.weak (pe_not ha) fun σ H Q z => ?_
  obtain ⟨F0, H0, pa, F, S, A, z⟩ := z
  unfold bv tNotF fB at z
  rw [OutP.bind, OutP.bind, OutP.bind] at z
  refine ⟨F0, H0, pa, F, S, A, z.imp (fun w S3 z v F3 H3 x3 A3 r3 => ?_) fun _ _ z => z⟩
  split at z
  · rename_i c e3
    rw [(A3.val r3 e3).bl]
    exact ⟨c, rfl, z _ F3 H3 x3 A3 (.bl _)⟩
  · exact z.elim
def fIf (t : Sq → Out Bool) (fa fb : Sq → Out PV) : Sq → Out PV := fun S => (t S).bind fun c S' => if c = true then fa S' else fb S'
theorem de_if (hc : DT X W c ta) (ha : DE X W a fa) (hb : DE X W b fb) : DE X W (.IfExp c a b pos) (fIf ta fa fb) := by
  refine PE.weak (pe_ifExp hc ha hb) fun σ H Q z => ?_
  obtain ⟨F0, H0, pa, F, S, A, z⟩ := z
  unfold fIf at z
  rw [OutP.bind] at z
  refine ⟨F0, H0, pa, F, S, A, z.imp (fun w S3 z F3 H3 x3 A3 => ?_) fun _ _ z => z⟩
  cases w with
  | true => exact ⟨F0, H0, pa, F3, S3, A3, OutP.imp z (fun _ _ y => y.up x3) fun _ _ y => y⟩
  | false => exact ⟨F0, H0, pa, F3, S3, A3, OutP.imp z (fun _ _ y => y.up x3) fun _ _ y => y⟩
end
end Q3
/-! Q3d: places, slices, displays, calls of built-ins. -/
namespace Q3
open PySem PySem.Spec PyProof.Rows L2
variable [TabSet]
section
variable {X : Cx} {W : WX} {a b c e : Expr} {fa fb fc : Sq → Out PV} {pos : Pos} {N : List Str} {sc : Scope} {k : Nat} {G : Gb}
/-! ### xs[i] -/
def gIx : D → D → Option PV
  | .list xs, .int i => (atI xs i).map .v
  | .tuple xs, .int i => (atI xs i).map .v
  | .str z, .int i => if z.length ≤ sizeLine then (atI z.cps.toList i).map fun c => .v (.str ⟨#[c]⟩) else none
  | _, _ => none
theorem DnAll.atI {K : PySem.W.Frag} {H : Hp} {vs : List V} {ds : List D} {i : Int} {d : D} (h : DnAll K H vs ds) (e : L2.atI ds i = some d) : ∃ v, L2.atI vs i = some v ∧ Dn K H v d := by
  unfold L2.atI at e ⊢
  rw [h.length]
  cases q : ixN ds.length i with
  | none => rw [q] at e; cases e
  | some j =>
    rw [q] at e
    exact h.get (show ds[j]? = some d from e)
theorem does_ix {K : PySem.W.Frag} : Does2 K (rIx K) gIx := by
  intro F H x y d e z Q sub hx hy hg h
  cases d <;> cases e <;> simp only [gIx] at hg <;> try (cases hg; done)
  · split at hg
    · rename_i hz
      obtain ⟨c, e1, e2⟩ := Option.map_eq_some_iff.mp hg
      cases e2
      rw [hx.str, hy.int]
      exact .inr (.inr ⟨_, _, c, rfl, rfl, hz, e1, h _ _ (Gv.str _)⟩)
    · cases hg
  · obtain ⟨c, e1, e2⟩ := Option.map_eq_some_iff.mp hg
    cases e2
    obtain ⟨l, vs, rfl, h1, h2⟩ := hx.list sub
    obtain ⟨v, e3, e4⟩ := h2.atI e1
    rw [hy.int]
    exact .inl ⟨l, vs, _, v, rfl, rfl, SqL.of h1, e3, h _ _ (.dn e4)⟩
  · obtain ⟨c, e1, e2⟩ := Option.map_eq_some_iff.mp hg
    cases e2
    obtain ⟨l, vs, rfl, h1, h2⟩ := hx.tuple
    obtain ⟨v, e3, e4⟩ := h2.atI e1
    rw [hy.int]
    exact .inr (.inl ⟨l, vs, _, v, rfl, rfl, SqT.of (sub _ _ h1), e3, h _ _ (.dn e4)⟩)
theorem de_ix (ha : DE X W a fa) (hb : DE X W b fb) (hs : PlainIx b := by intro _ _; rfl) : DE X W (.Subscript a b pos) (fBin gIx fa fb) :=
  PE.weak (pe_ix ix_seq (de_fz ha) (de_fz hb) hs) fun _ _ _ q => rd_op2 does_ix q
/-- the pen's places -/
def fPen (i : Nat) (j : Int) : Sq → Out PV := fun S => match S.r[i]?, S.p with
  | some .pen, some P => if j = 0 then .ok (.v (.list (P.cells.map .int))) S else if j = 1 then .ok (.v (.int P.at_)) S else if j = 2 then .ok (.v (.int P.rest)) S else .no
  | _, _ => .no
theorem de_pen (i : Nat) {j : Int} {n : Nat} {x : Str} {p1 p2 : Pos} (C : Cq G k N sc X) (hN : N[i]? = some x := by rfl) (hv : sc.names.lookup x = some .local ∨ sc.names.lookup x = some .cell ∨ sc.names.lookup x = some .free := by first | exact Or.inl rfl | exact Or.inr (Or.inl rfl) | exact Or.inr (Or.inr rfl))
    (hd : (x == ("__debug__" : Str)) = false := by decide) (hcd : (x == ("__classdict__" : Str)) = false := by decide) : DE X W (.Subscript (.Name x p1) (.Constant (.int j) n p2) pos) (fPen i j) := by
  refine PE.weak (pe_ix ix_seq (pe_var (i := i) (by rw [C.names]; exact hN) (by show Vis X.env.scope x; rw [C.scope]; exact hv) hd hcd) (pe_int (i := j) (j := n)) (by intro _ _; rfl)) fun σ H Q q => ?_
  obtain ⟨F0, H0, pa, F, S, A, z⟩ := q
  unfold fPen at z
  split at z
  · rename_i P e1 e2
    obtain ⟨pa, eq, so⟩ := A.slots i _ e1
    obtain ⟨P', c, eP, h1, h2, h3⟩ := A.pen.at eq.symm
    rw [e2] at eP; cases eP
    refine ⟨.ref pa, so, ?_⟩
    by_cases j0 : j = 0
    · subst j0
      rw [if_pos rfl] at z
      exact .inl ⟨pa, _, 0, .ref c, rfl, rfl, SqL.of h1, rfl, z _ F H (Ex.refl F) A (.lst h3 (DnAll.of_ints _))⟩
    · rw [if_neg j0] at z
      by_cases j1 : j = 1
      · subst j1
        rw [if_pos rfl] at z
        exact .inl ⟨pa, _, 1, .int P.at_, rfl, rfl, SqL.of h1, rfl, z _ F H (Ex.refl F) A (.int _)⟩
      · rw [if_neg j1] at z
        by_cases j2 : j = 2
        · subst j2
          rw [if_pos rfl] at z
          exact .inl ⟨pa, _, 2, .int P.rest, rfl, rfl, SqL.of h1, rfl, z _ F H (Ex.refl F) A (.int _)⟩
        · rw [if_neg j2] at z
          exact z.elim
  · exact z.elim
/-! ### slices -/
def rdO (K : PySem.W.Frag) (W : WX) (f : Sq → Out (Option Int)) : TO := fun σ H Q => ∃ F0 H0 pa F S, Agr K F0 H0 pa σ F H S ∧ OutP (f S) (fun o S' => ∀ F' H', Ex F F' → Agr K F0 H0 pa σ F' H' S' → Q o H') (EW K W F0 H0 pa σ)
def DO (X : Cx) (W : WX) (e : Option Expr) (f : Sq → Out (Option Int)) : Prop := PO X e (rdO X.K W f)
def fNoPart : Sq → Out (Option Int) := fun S => .ok none S
def fPart (f : Sq → Out PV) : Sq → Out (Option Int) := fun S => (f S).bind fun p S' => match S'.val p with
  | some (.int i) => .ok (some i) S'
  | _ => .no
theorem do_none : DO X W none fNoPart := ⟨fun pins s σ H Q I ⟨F0, H0, pa, F, S, A, z⟩ => po_none.run pins s σ H Q I (z F H (Ex.refl F) A)⟩
theorem do_some (h : DE X W e fa) : DO X W (some e) (fPart fa) := ⟨fun pins s σ H Q I ⟨F0, H0, pa, F, S, A, z⟩ => (po_some h).run pins s σ H Q I (by
  unfold fPart at z
  rw [OutP.bind] at z
  refine ⟨F0, H0, pa, F, S, A, z.imp (fun w S3 z v F3 H3 x3 A3 r3 => ?_) fun _ _ z => z⟩
  split at z
  · rename_i i e3
    exact ⟨i, (A3.val r3 e3).int, z F3 H3 x3 A3⟩
  · exact z.elim)⟩
def cutG {α : Type} (xs : List α) (lo hi : Option Int) : List α := (xs.drop (HT.sIx xs.length 0 lo)).take (HT.sIx xs.length xs.length hi - HT.sIx xs.length 0 lo)
def gSl : D → Option Int → Option Int → Option PV
  | .list xs, lo, hi => some (.o (.l (cutG xs lo hi)))
  | .tuple xs, lo, hi => some (.v (.tuple (cutG xs lo hi)))
  | .str z, lo, hi => if z.length ≤ sizeLine then some (.v (.str (cutS z lo hi))) else none
  | _, _, _ => none
theorem DnAll.cut {K : PySem.W.Frag} {H : Hp} {vs : List V} {ds : List D} (h : DnAll K H vs ds) (lo hi : Option Int) : DnAll K H (cutV vs lo hi) (cutG ds lo hi) := by
  unfold cutV cutG
  rw [h.length]
  exact (h.drop _).take _
theorem cutG_whole {α : Type} {xs : List α} {lo hi : Option Int} (h : HT.sIx xs.length 0 lo = 0 ∧ HT.sIx xs.length xs.length hi = xs.length) : cutG xs lo hi = xs := by
  unfold cutG
  rw [h.1, h.2]
  simp
def rSlQ (K : PySem.W.Frag) : V → Option Int → Option Int → Hp → VK → Prop := fun x lo hi H Q => rSlL K x lo hi H Q ∨ rSlA K x lo hi H Q ∨ rSlS x lo hi H Q
theorem sl_any : SlR X (rSlQ X.K) := sl_list.or (sl_tupA.or sl_str)
theorem does_sl {K : PySem.W.Frag} {F H : Hp} {x : V} {d : D} {lo hi : Option Int} {z : PV} {Q : VK} (sub : Ex F H) (hx : Dv K F H x d) (hg : gSl d lo hi = some z) (h : ∀ v H', Gv K F H z v H' → Q v H') : rSlQ K x lo hi H Q := by
  cases d <;> simp only [gSl] at hg <;> try (cases hg; done)
  · split at hg
    · rename_i hz
      cases hg
      rw [hx.str]
      exact .inr (.inr ⟨_, rfl, hz, h _ _ (Gv.str _)⟩)
    · cases hg
  · cases hg
    obtain ⟨l, vs, rfl, h1, h2⟩ := hx.list sub
    exact .inl ⟨l, vs, rfl, SqL.of h1, fun p hp => h _ _ (.lst hp (h2.cut lo hi))⟩
  · cases hg
    obtain ⟨l, vs, rfl, h1, h2⟩ := hx.tuple
    refine .inr (.inl ⟨l, vs, rfl, SqT.of (sub _ _ h1), fun q => ?_, fun _ p hp => h _ _ (.tup hp (h2.cut lo hi))⟩)
    rw [h2.length] at q
    rw [cutG_whole q] at h
    exact h _ _ (.dn (.tup h1 h2))
def fSl (fa : Sq → Out PV) (fl fh : Sq → Out (Option Int)) : Sq → Out PV := fun S => (fzF fa S).bind fun p S1 => (fl S1).bind fun lo S2 => (fh S2).bind fun hi S3 => match S3.val p with
  | some d => (match gSl d lo hi with
    | some z => .ok z S3
    | none => .no)
  | none => .no
theorem de_sl {lo hi : Option Expr} {fl fh : Sq → Out (Option Int)} {p2 : Pos} (ha : DE X W a fa) (hl : DO X W lo fl) (hh : DO X W hi fh) : DE X W (.Subscript a (.Slice lo hi none p2) pos) (fSl fa fl fh) := by
  refine PE.weak (pe_slice sl_any (de_fz ha) hl hh) fun σ H Q z => ?_
  obtain ⟨F0, H0, pa, F, S, A, z⟩ := z
  unfold fSl at z
  rw [OutP.bind] at z
  unfold fzF at z
  rw [OutP.bind] at z
  refine ⟨F0, H0, pa, F, S, A, ?_⟩
  unfold fzF
  rw [OutP.bind]
  refine z.imp (fun p S1 z v F1 H1 x1 A1 r1 => ⟨F0, H0, pa, F1, S1, A1, ?_⟩) fun _ _ z => z
  have z : OutP ((fl S1).bind fun lo S2 => (fh S2).bind fun hi S3 => match S3.val (fz p) with
    | some d => (match gSl d lo hi with
      | some z => .ok z S3
      | none => .no)
    | none => .no) (TP X.K F0 H0 pa σ F Q) (EW X.K W F0 H0 pa σ) := z
  rw [OutP.bind] at z
  refine z.imp (fun lo S2 z F2 H2 x2 A2 => ⟨F0, H0, pa, F2, S2, A2, ?_⟩) fun _ _ z => z
  rw [OutP.bind] at z
  refine z.imp (fun hi S3 z F3 H3 x3 A3 => ?_) fun _ _ z => z
  split at z
  · rename_i d e1
    split at z
    · rename_i w e2
      refine does_sl A3.sub (A3.val (r1.fz_keep (x2.trans x3)) e1) e2 fun t H'' gv => ?_
      obtain ⟨F', xF, A', r'⟩ := A3.gives gv
      exact z t F' H'' (x1.trans (x2.trans (x3.trans xF))) A' r'
    · exact z.elim
  · exact z.elim
/-! ### keeping values; displays -/
def Sq.keep (S : Sq) : PV → Option (D × Sq)
  | .v x => some (x, S)
  | .s i => match S.r[i]? with
    | some (.d x) => some (x, S)
    | some (.l xs) => some (.list xs, { S with r := S.r.set i (.d (.list xs)) })
    | _ => none
  | .o _ => none
theorem Own.set_d {σ : L2.St} {S : Sq} {i j : Nat} {x : D} {a : Addr} (o : Own σ { S with r := S.r.set i (.d x) } j a) : Own σ S j a ∧ j ≠ i := by
  obtain ⟨h1, h2⟩ := o
  by_cases e : j = i
  · subst e
    exfalso
    rcases h2 with ⟨xs, h2⟩ | ⟨kvs, h2⟩
    · have h2 : (S.r.set j (.d x))[j]? = some (.l xs) := h2
      by_cases hj : j < S.r.length
      · rw [List.getElem?_set_self hj] at h2; cases h2
      · rw [List.getElem?_eq_none_iff.mpr (by simpa using hj)] at h2; cases h2
    · have h2 : (S.r.set j (.d x))[j]? = some (.m kvs) := h2
      by_cases hj : j < S.r.length
      · rw [List.getElem?_set_self hj] at h2; cases h2
      · rw [List.getElem?_eq_none_iff.mpr (by simpa using hj)] at h2; cases h2
  · refine ⟨⟨h1, ?_⟩, e⟩
    rcases h2 with ⟨xs, h2⟩ | ⟨kvs, h2⟩
    · exact .inl ⟨xs, by rw [← h2]; exact (List.getElem?_set_ne (Ne.symm e)).symm⟩
    · exact .inr ⟨kvs, by rw [← h2]; exact (List.getElem?_set_ne (Ne.symm e)).symm⟩
/-- the slot's own list becomes data that stays -/
theorem Agr.frozenU {K : PySem.W.Frag} {F0 H0 F H : Hp} {pa : Option Addr} {σ : L2.St} {S : Sq} {i : Nat} {xs : List D} (A : Agr K F0 H0 pa σ F H S) (h : S.r[i]? = some (.l xs)) :
    ∃ F' a vs, F' = upd F a (.lst vs) ∧ Ex F F' ∧ σ[i]? = some (some (.ref a)) ∧ F' a = some (.lst vs) ∧ DnAll K F' vs xs ∧ Agr K F0 H0 pa σ F' H { S with r := S.r.set i (.d (.list xs)) } := by
  obtain ⟨a, vs, e1, e2, e3, e4⟩ := A.slots i _ h
  have ow : Own σ S i a := ⟨e1, .inl ⟨xs, h⟩⟩
  have hi : i < S.r.length := (List.getElem?_eq_some_iff.mp h).1
  have ex : Ex F (upd F a (.lst vs)) := Ex.new e3
  refine ⟨upd F a (.lst vs), a, vs, rfl, ex, e1, upd_same, e4.mono ex, ⟨A.fF.trans ex, fun b o q => ?_, A.hH, A.tabs, ft_upd A.ft (fun _ z => nomatch z), A.n0, fun b o q => ?_, by simpa using A.len, fun j c q => ?_, fun j l b p q => A.dist j l b p.set_d.1 q.set_d.1, fun j b p => A.ownN j b p.set_d.1, ?_⟩⟩
  · by_cases z : b = a
    · subst z; rw [upd_same] at q; cases q; exact e2
    · rw [upd_ne z] at q; exact A.sub b o q
  · by_cases z : b = a
    · subst z; exact .inr (A.ownN i b ow).1
    · rw [upd_ne z] at q; exact A.new b o q
  · have q : (S.r.set i (.d (.list xs)))[j]? = some c := q
    by_cases z : j = i
    · subst z
      rw [List.getElem?_set_self hi] at q
      cases q
      exact ⟨_, e1, .lst upd_same (e4.mono ex)⟩
    · rw [List.getElem?_set_ne (Ne.symm z)] at q
      have so := A.slots j c q
      cases c with
      | un => trivial
      | d x => obtain ⟨w, p1, p2⟩ := so; exact ⟨w, p1, p2.mono ex⟩
      | l ys =>
        obtain ⟨b, ws, p1, p2, p3, p4⟩ := so
        have y : b ≠ a := fun w => z (A.dist j i a ⟨by rw [← w]; exact p1, .inl ⟨ys, q⟩⟩ ow)
        exact ⟨b, ws, p1, p2, by rw [upd_ne y]; exact p3, p4.mono ex⟩
      | m kvs => exact so
      | e c => obtain ⟨w, z1, z2⟩ := so; exact ⟨w, z1, ex _ _ z2⟩
      | sc ns => obtain ⟨w, z1, z2⟩ := so; exact ⟨w, z1, ex_l ex z2⟩
      | pen => exact so
  · exact A.pen.imp fun q c o o' e h1 h2 h3 => ⟨h1, by rw [upd_ne fun z => (A.ownN i a ow).2 (by rw [← z]; exact e)]; exact h2, ex _ _ h3⟩
theorem Agr.frozen {K : PySem.W.Frag} {F0 H0 F H : Hp} {pa : Option Addr} {σ : L2.St} {S : Sq} {i : Nat} {xs : List D} (A : Agr K F0 H0 pa σ F H S) (h : S.r[i]? = some (.l xs)) :
    ∃ F' a vs, Ex F F' ∧ σ[i]? = some (some (.ref a)) ∧ F' a = some (.lst vs) ∧ DnAll K F' vs xs ∧ Agr K F0 H0 pa σ F' H { S with r := S.r.set i (.d (.list xs)) } := by
  obtain ⟨F', a, vs, _, h⟩ := A.frozenU h
  exact ⟨F', a, vs, h⟩
theorem Agr.keep {K : PySem.W.Frag} {F0 H0 F H : Hp} {pa : Option Addr} {σ : L2.St} {S S' : Sq} {v : V} {pv : PV} {d : D} (A : Agr K F0 H0 pa σ F H S) (r : RelP K H0 pa σ F H S v pv) (e : S.keep pv = some (d, S')) :
    ∃ F', Ex F F' ∧ Agr K F0 H0 pa σ F' H S' ∧ Dn K F' v d := by
  cases pv with
  | v x => cases e; exact ⟨F, Ex.refl F, A, r⟩
  | o c => cases e
  | s i =>
    unfold Sq.keep at e
    dsimp only at e
    cases q : S.r[i]? with
    | none => rw [q] at e; cases e
    | some c =>
      rw [q] at e
      cases c with
      | d x =>
        cases e
        obtain ⟨w, e1, e2⟩ := A.slots i _ q
        rw [show σ[i]? = some (some v) from r] at e1; cases e1
        exact ⟨F, Ex.refl F, A, e2⟩
      | l xs =>
        cases e
        obtain ⟨F', a, vs, x, e1, e2, e3, A'⟩ := A.frozen q
        rw [show σ[i]? = some (some v) from r] at e1; cases e1
        exact ⟨F', x, A', .lst e2 e3⟩
      | un => cases e
      | m kvs => cases e
      | e c => cases e
      | sc ns => cases e
      | pen => cases e
/-- an argument list: each one frozen -/
def fNil : Sq → Out (List PV) := fun S => .ok [] S
def fCons (fa : Sq → Out PV) (fr : Sq → Out (List PV)) : Sq → Out (List PV) := fun S => (fzF fa S).bind fun p S1 => (fr S1).bind fun ps S2 => .ok (p :: ps) S2
variable {es : List Expr} {fs : Sq → Out (List PV)}
theorem da_nil : DA X W [] fNil := PA.weak pa_nil fun σ H Q ⟨F0, H0, pa, F, S, A, z⟩ => z [] F H (Ex.refl F) A .nil
theorem da_cons (ha : DE X W e fa) (hr : DA X W es fs) (hs : starEach (e :: es) X.env = (false, eval e X.env) :: starEach es X.env := by rfl) : DA X W (e :: es) (fCons fa fs) := by
  refine PA.weak (pa_cons (de_fz ha) hr hs) fun σ H Q z => ?_
  obtain ⟨F0, H0, pa, F, S, A, z⟩ := z
  unfold fCons fzF at z
  rw [OutP.bind, OutP.bind] at z
  refine ⟨F0, H0, pa, F, S, A, ?_⟩
  unfold fzF
  rw [OutP.bind]
  refine z.imp (fun p S1 z v F1 H1 x1 A1 r1 => ⟨F0, H0, pa, F1, S1, A1, ?_⟩) fun _ _ z => z
  have z : OutP ((fs S1).bind fun ps S2 => .ok (fz p :: ps) S2) (TL X.K F0 H0 pa σ F Q) (EW X.K W F0 H0 pa σ) := z
  rw [OutP.bind] at z
  exact z.imp (fun ps S2 z vs F2 H2 x2 A2 r2 => z (v :: vs) F2 H2 (x1.trans x2) A2 (.cons (r1.fz_keep x2) r2)) fun _ _ z => z
def keepAll : Sq → List PV → Option (List D × Sq)
  | S, [] => some ([], S)
  | S, p :: ps => match S.keep p with
    | some (d, S1) => (match keepAll S1 ps with
      | some (ds, S2) => some (d :: ds, S2)
      | none => none)
    | none => none
/-- what is seen at all is seen behind keeping another one -/
def Frz (p : PV) : Prop := ∀ c, p ≠ .o c
theorem RelP.anyS {K : PySem.W.Frag} {H0 F H F' H' : Hp} {pa : Option Addr} {σ : L2.St} {S S' : Sq} {v : V} {pv : PV} (n : Frz pv) (r : RelP K H0 pa σ F H S v pv) (x : Ex F F') : RelP K H0 pa σ F' H' S' v pv := by
  cases pv with
  | s i => exact r
  | v d => exact Dn.mono x r
  | o c => exact absurd rfl (n c)
theorem Agr.keepAll {K : PySem.W.Frag} {F0 H0 : Hp} {pa : Option Addr} {σ : L2.St} : ∀ {ps : List PV} {S S' : Sq} {F H : Hp} {vs : List V} {ds : List D}, Agr K F0 H0 pa σ F H S → Paired (RelP K H0 pa σ F H S) vs ps → Q3.keepAll S ps = some (ds, S') →
    ∃ F', Ex F F' ∧ Agr K F0 H0 pa σ F' H S' ∧ DnAll K F' vs ds
  | [], S, S', F, H, vs, ds, A, r, e => by
    cases r
    cases e
    exact ⟨F, Ex.refl F, A, .nil⟩
  | p :: ps, S, S', F, H, vs, ds, A, r, e => by
    cases r with
    | @cons _ _ vs' _ r1 r2 =>
      unfold Q3.keepAll at e
      cases q : S.keep p with
      | none => rw [q] at e; cases e
      | some t =>
        obtain ⟨d, S1⟩ := t
        rw [q] at e
        dsimp only at e
        cases q2 : Q3.keepAll S1 ps with
        | none => rw [q2] at e; cases e
        | some t2 =>
          obtain ⟨ds', S2⟩ := t2
          rw [q2] at e
          cases e
          obtain ⟨F1, x1, A1, d1⟩ := A.keep r1 q
          have r2' : Paired (RelP K H0 pa σ F1 H S1) vs' ps := by
            have fr : ∀ {ps : List PV} {S1 S2 : Sq} {ds : List D}, Q3.keepAll S1 ps = some (ds, S2) → ∀ p ∈ ps, Frz p := by
              intro ps
              induction ps with
              | nil => intro _ _ _ _ p hp; cases hp
              | cons p ps ih =>
                intro S1 S2 ds h q hq
                unfold Q3.keepAll at h
                cases y : S1.keep p with
                | none => rw [y] at h; cases h
                | some t =>
                  rw [y] at h
                  dsimp only at h
                  cases y2 : Q3.keepAll t.2 ps with
                  | none => rw [y2] at h; cases h
                  | some t2 =>
                    rcases List.mem_cons.mp hq with rfl | hq
                    · intro c z
                      rw [z] at y
                      cases y
                    · exact ih y2 q hq
            have fr := fr q2
            have gen : ∀ {vs : List V} {ps : List PV}, Paired (RelP K H0 pa σ F H S) vs ps → (∀ p ∈ ps, Frz p) → Paired (RelP K H0 pa σ F1 H S1) vs ps := by
              intro vs ps r
              induction r with
              | nil => intro _; exact .nil
              | cons a _ ih => intro f; exact .cons (a.anyS (f _ List.mem_cons_self) x1) (ih fun p hp => f p (List.mem_cons_of_mem _ hp))
            exact gen r2 fr
          obtain ⟨F2, x2, A2, d2⟩ := Agr.keepAll A1 r2' q2
          exact ⟨F2, x1.trans x2, A2, .cons (d1.mono x2) d2⟩
def fTup (fs : Sq → Out (List PV)) : Sq → Out PV := fun S => (fs S).bind fun ps S1 => match keepAll S1 ps with
  | some (ds, S2) => if ds.length ≤ sizeLine then .ok (.v (.tuple ds)) S2 else .no
  | none => .no
def fLst (fs : Sq → Out (List PV)) : Sq → Out PV := fun S => (fs S).bind fun ps S1 => match keepAll S1 ps with
  | some (ds, S2) => if ds.length ≤ sizeLine then .ok (.o (.l ds)) S2 else .no
  | none => .no
theorem de_tup {x1} (h : DA X W es fs) : DE X W (.Tuple es x1 pos) (fTup fs) := by
  refine PE.weak (pe_tup h) fun σ H Q z => ?_
  obtain ⟨F0, H0, pa, F, S, A, z⟩ := z
  unfold fTup at z
  rw [OutP.bind] at z
  refine ⟨F0, H0, pa, F, S, A, z.imp (fun ps S1 z vs F1 H1 x1 A1 r1 => ?_) fun _ _ z => z⟩
  split at z
  · rename_i ds S2 e1
    split at z
    · rename_i hz
      obtain ⟨F2, x2, A2, d2⟩ := A1.keepAll r1 e1
      refine ⟨by rw [d2.length]; exact hz, fun p hp => ?_⟩
      obtain ⟨F', xF, A', r'⟩ := A2.gives (.tup hp d2)
      exact z _ F' _ (x1.trans (x2.trans xF)) A' r'
    · exact z.elim
  · exact z.elim
theorem de_lst (h : DA X W es fs) : DE X W (.List es pos) (fLst fs) := by
  refine PE.weak (pe_lst h) fun σ H Q z => ?_
  obtain ⟨F0, H0, pa, F, S, A, z⟩ := z
  unfold fLst at z
  rw [OutP.bind] at z
  refine ⟨F0, H0, pa, F, S, A, z.imp (fun ps S1 z vs F1 H1 x1 A1 r1 => ?_) fun _ _ z => z⟩
  split at z
  · rename_i ds S2 e1
    split at z
    · rename_i hz
      obtain ⟨F2, x2, A2, d2⟩ := A1.keepAll r1 e1
      refine ⟨by rw [d2.length]; exact hz, fun p hp => ?_⟩
      obtain ⟨F', xF, A', r'⟩ := A2.gives (.lst hp d2)
      exact z _ F' _ (x1.trans (x2.trans xF)) A' r'
    · exact z.elim
  · exact z.elim
/-! ### calls of built-ins -/
def f1 (g : D → Option PV) (fa : Sq → Out PV) : Sq → Out PV := fun S => (fzF fa S).bind fun p S1 => match S1.val p with
  | some x => (match g x with
    | some z => .ok z S1
    | none => .no)
  | none => .no
def Does1 (K : PySem.W.Frag) (r : List V → Hp → VK → Prop) (g : D → Option PV) : Prop := ∀ F H x d z Q, Ex F H → Dv K F H x d → g d = some z → (∀ v H', Gv K F H z v H' → Q v H') → r [x] H Q
theorem rd_call1 {K : PySem.W.Frag} {r : List V → Hp → VK → Prop} {g : D → Option PV} (dz : Does1 K r g) {σ : L2.St} {H : Hp} {Q : VK} (z : rd K W (f1 g fa) σ H Q) : tCB r (tCons (rd K W (fzF fa)) tNil) σ H Q := by
  obtain ⟨F0, H0, pa, F, S, A, z⟩ := z
  unfold f1 at z
  rw [OutP.bind] at z
  refine ⟨F0, H0, pa, F, S, A, z.imp (fun p S1 z v F1 H1 x1 A1 r1 => ?_) fun _ _ z => z⟩
  split at z
  · rename_i d e1
    split at z
    · rename_i w e2
      refine dz F1 H1 v d w Q A1.sub (A1.val r1 e1) e2 fun t H'' gv => ?_
      obtain ⟨F', xF, A', r'⟩ := A1.gives gv
      exact z t F' H'' (x1.trans xF) A' r'
    · exact z.elim
  · exact z.elim
theorem de_callB {id : String} {r : List V → Hp → VK → Prop} {g : D → Option PV} {x : Str} {p : Pos} (hc : CallR X (.builtin id) r) (dz : Does1 X.K r g) (hg : Gl X x) (hm : X.mg x = none) (hv : bootBuiltins x = some (.builtin id)) (ha : DE X W a fa)
    (hst : starEach [a] X.env = (false, eval a X.env) :: starEach [] X.env := by rfl) (hn : x ≠ "__name__" := by decide) (hdb : (x == ("__debug__" : Str)) = false := by decide) (hpl : (backTo pos (starEach [] X.env)).any (·.1) = false := by rfl) :
    DE X W (.Call (.Name x p) [a] [] pos) (f1 g fa) := PE.weak (pe_callB hc hg hm hv (pa_cons (de_fz ha) pa_nil hst) hn hdb hst hpl) fun _ _ _ z => rd_call1 dz z
theorem de_callTy {T : String} {r : List V → Hp → VK → Prop} {g : D → Option PV} {x : Str} {p : Pos} (hc : CallR X (.type T) r) (dz : Does1 X.K r g) (hg : Gl X x) (hm : X.mg x = none) (hv : bootBuiltins x = some (.type T)) (ha : DE X W a fa)
    (hst : starEach [a] X.env = (false, eval a X.env) :: starEach [] X.env := by rfl) (hn : x ≠ "__name__" := by decide) (hdb : (x == ("__debug__" : Str)) = false := by decide) (hpl : (backTo pos (starEach [] X.env)).any (·.1) = false := by rfl) :
    DE X W (.Call (.Name x p) [a] [] pos) (f1 g fa) := PE.weak (pe_callTy hc hg hm hv (pa_cons (de_fz ha) pa_nil hst) hn hdb hst hpl) fun _ _ _ z => rd_call1 dz z
end
end Q3
/-! Q3e: statements. -/
namespace Q3
open PySem PySem.Spec PyProof.Rows L2
variable [TabSet]
section
variable {K : PySem.W.Frag} {F0 H0 F H F' H' : Hp} {pa : Option Addr} {σ : L2.St} {S S' : Sq} {v : V} {pv : PV} {d : D} {i : Nat}
/-! ### storing -/
/-- a value that may be put into a slot -/
def Fit (K : PySem.W.Frag) (H0 : Hp) (pa : Option Addr) (σ : L2.St) (F H : Hp) (S : Sq) (v : V) : R → Prop
  | .d x => Dn K F v x
  | .l xs => OwnV K H0 pa σ F H S v (.l xs)
  | .pen => ∃ q, pa = some q ∧ v = .ref q
  | _ => False
theorem Own.of_set {σ : L2.St} {S : Sq} {i j : Nat} {a : Addr} {v : V} {c : R} (hij : j ≠ i) : Own (σ.set i (some v)) { S with r := S.r.set i c } j a ↔ Own σ S j a := by
  unfold Own
  show (_ ∧ ((∃ xs, (S.r.set i c)[j]? = _) ∨ ∃ kvs, (S.r.set i c)[j]? = _)) ↔ _
  rw [List.getElem?_set_ne (Ne.symm hij), List.getElem?_set_ne (Ne.symm hij)]
theorem Own.at_set {σ : L2.St} {S : Sq} {i : Nat} {a : Addr} {v : V} {c : R} (h : Own (σ.set i (some v)) { S with r := S.r.set i c } i a) : v = .ref a ∧ ((∃ xs, c = .l xs) ∨ ∃ kvs, c = .m kvs) := by
  obtain ⟨h1, h2⟩ := h
  have hi : i < σ.length := by
    have := (List.getElem?_eq_some_iff.mp h1).1
    simpa using this
  rw [List.getElem?_set_self hi] at h1
  cases h1
  refine ⟨rfl, ?_⟩
  rcases h2 with ⟨xs, h2⟩ | ⟨kvs, h2⟩
  · have h2 : (S.r.set i c)[i]? = some (.l xs) := h2
    have hi2 : i < S.r.length := by
      have := (List.getElem?_eq_some_iff.mp h2).1
      simpa using this
    rw [List.getElem?_set_self hi2] at h2
    cases h2
    exact .inl ⟨xs, rfl⟩
  · have h2 : (S.r.set i c)[i]? = some (.m kvs) := h2
    have hi2 : i < S.r.length := by
      have := (List.getElem?_eq_some_iff.mp h2).1
      simpa using this
    rw [List.getElem?_set_self hi2] at h2
    cases h2
    exact .inr ⟨kvs, rfl⟩
theorem Agr.store {c : R} (A : Agr K F0 H0 pa σ F H S) (hi : i < S.r.length) (f : Fit K H0 pa σ F H S v c) : Agr K F0 H0 pa (σ.set i (some v)) F H { S with r := S.r.set i c } := by
  have hσ : i < σ.length := by rw [← A.len]; exact hi
  have fresh : ∀ a, Own (σ.set i (some v)) { S with r := S.r.set i c } i a → H0 a = none ∧ some a ≠ pa ∧ ∀ j, ¬ Own σ S j a := fun a w => by
    obtain ⟨e, q⟩ := w.at_set
    rcases q with ⟨xs, rfl⟩ | ⟨kvs, rfl⟩
    · obtain ⟨t, vs, e1, _, _, _, h4, h5, h6⟩ := f
      rw [e] at e1; cases e1
      exact ⟨h4, h6, h5⟩
    · exact False.elim f
  refine ⟨A.fF, A.sub, A.hH, A.tabs, A.ft, A.n0, A.new, by simpa using A.len, fun j q e => ?_, fun j l a p q => ?_, fun j a p => ?_, A.pen⟩
  · have e : (S.r.set i c)[j]? = some q := e
    by_cases z : j = i
    · subst z
      rw [List.getElem?_set_self hi] at e
      rw [List.getElem?_set_self hσ]
      cases e
      cases c with
      | un => trivial
      | d x => exact ⟨v, rfl, f⟩
      | l xs =>
        obtain ⟨t, vs, rfl, h1, h2, h3, _⟩ := f
        exact ⟨t, vs, rfl, h1, h2, h3⟩
      | m kvs => exact False.elim f
      | e c => exact False.elim f
      | sc ns => exact False.elim f
      | pen =>
        obtain ⟨p, e1, rfl⟩ := f
        exact ⟨p, e1, rfl⟩
    · rw [List.getElem?_set_ne (Ne.symm z)] at e
      rw [List.getElem?_set_ne (Ne.symm z)]
      exact A.slots j q e
  · by_cases z : j = i
    · by_cases y : l = i
      · rw [z, y]
      · subst z
        exact absurd ((Own.of_set y).mp q) ((fresh a p).2.2 l)
    · by_cases y : l = i
      · subst y
        exact absurd ((Own.of_set z).mp p) ((fresh a q).2.2 j)
      · exact A.dist j l a ((Own.of_set z).mp p) ((Own.of_set y).mp q)
  · by_cases z : j = i
    · subst z
      exact ⟨(fresh a p).1, (fresh a p).2.1⟩
    · exact A.ownN j a ((Own.of_set z).mp p)
/-- what a slot is to hold -/
def Sq.res (S : Sq) : PV → Option (R × Sq)
  | .v x => some (.d x, S)
  | .o (.l xs) => some (.l xs, S)
  | .o _ => none
  | .s i => match S.r[i]? with
    | some (.d x) => some (.d x, S)
    | some (.l xs) => some (.d (.list xs), { S with r := S.r.set i (.d (.list xs)) })
    | some .pen => some (.pen, S)
    | _ => none
theorem Agr.res {c : R} (A : Agr K F0 H0 pa σ F H S) (r : RelP K H0 pa σ F H S v pv) (e : S.res pv = some (c, S')) : ∃ F', Ex F F' ∧ Agr K F0 H0 pa σ F' H S' ∧ Fit K H0 pa σ F' H S' v c := by
  cases pv with
  | v x => cases e; exact ⟨F, Ex.refl F, A, r⟩
  | o q =>
    cases q with
    | l xs => cases e; exact ⟨F, Ex.refl F, A, r⟩
    | un => cases e
    | d x => cases e
    | m kvs => cases e
    | e c => cases e
    | sc ns => cases e
    | pen => cases e
  | s i =>
    unfold Sq.res at e
    dsimp only at e
    cases q : S.r[i]? with
    | none => rw [q] at e; cases e
    | some y =>
      rw [q] at e
      cases y with
      | d x =>
        cases e
        obtain ⟨w, e1, e2⟩ := A.slots i _ q
        rw [show σ[i]? = some (some v) from r] at e1; cases e1
        exact ⟨F, Ex.refl F, A, e2⟩
      | l xs =>
        cases e
        obtain ⟨F', a, vs, x, e1, e2, e3, A'⟩ := A.frozen q
        rw [show σ[i]? = some (some v) from r] at e1; cases e1
        exact ⟨F', x, A', .lst e2 e3⟩
      | pen =>
        cases e
        obtain ⟨p, e1, e2⟩ := A.slots i _ q
        rw [show σ[i]? = some (some v) from r] at e2; cases e2
        exact ⟨F, Ex.refl F, A, p, e1, rfl⟩
      | un => cases e
      | m kvs => cases e
      | e c => cases e
      | sc ns => cases e
theorem tabs_lst {T : List (Addr × Str)} {H : Hp} {a : Addr} {vs ws : List V} (h : LamX.Tabs T H) (e : H a = some (.lst vs)) : LamX.Tabs T (upd H a (.lst ws)) := fun p hp => by
  obtain ⟨ps, h1, h2, h3⟩ := h p hp
  refine ⟨ps, by rw [upd_ne fun z => by rw [z, e] at h1; cases h1]; exact h1, h2, fun pos cv hc => ?_⟩
  obtain ⟨c, e1, e2⟩ := h3 pos cv hc
  refine ⟨c, e1, by rw [upd_ne fun z => by rw [z, e] at e2; unfold LamX.CodeO at e2; cases e2]; exact e2⟩
/-- writing into one's own list -/
theorem Agr.write {xs ys : List D} {a : Addr} {ws : List V} (A : Agr K F0 H0 pa σ F H S) (h : S.r[i]? = some (.l xs)) (e : σ[i]? = some (some (.ref a))) (w : DnAll K F ws ys) :
    Agr K F0 H0 pa σ F (upd H a (.lst ws)) { S with r := S.r.set i (.l ys) } := by
  obtain ⟨a', vs, e1, e2, e3, e4⟩ := A.slots i _ h
  rw [e] at e1; cases e1
  have ow : Own σ S i a := ⟨e, .inl ⟨xs, h⟩⟩
  have hi : i < S.r.length := (List.getElem?_eq_some_iff.mp h).1
  have same : ∀ j b, Own σ { S with r := S.r.set i (.l ys) } j b → Own σ S j b := fun j b p => by
    obtain ⟨p1, p2⟩ := p
    by_cases z : j = i
    · subst z; exact ⟨p1, .inl ⟨xs, h⟩⟩
    · refine ⟨p1, ?_⟩
      rcases p2 with ⟨zs, p2⟩ | ⟨kvs, p2⟩
      · have p2 : (S.r.set i (.l ys))[j]? = _ := p2
        rw [List.getElem?_set_ne (Ne.symm z)] at p2
        exact .inl ⟨zs, p2⟩
      · have p2 : (S.r.set i (.l ys))[j]? = _ := p2
        rw [List.getElem?_set_ne (Ne.symm z)] at p2
        exact .inr ⟨kvs, p2⟩
  refine ⟨A.fF, fun b o q => ?_, fun b o q np => ?_, tabs_lst A.tabs e2, A.ft, A.n0, A.new, by simpa using A.len, fun j c q => ?_, fun j l b p q => A.dist j l b (same j b p) (same l b q), fun j b p => A.ownN j b (same j b p), ?_⟩
  · rw [upd_ne fun z => by rw [z, e3] at q; cases q]; exact A.sub b o q
  · rw [upd_ne fun z => by rw [z, (A.ownN i a ow).1] at q; cases q]; exact A.hH b o q np
  · have q : (S.r.set i (.l ys))[j]? = some c := q
    by_cases z : j = i
    · subst z
      rw [List.getElem?_set_self hi] at q
      cases q
      exact ⟨a, ws, e, upd_same, e3, w⟩
    · rw [List.getElem?_set_ne (Ne.symm z)] at q
      have so := A.slots j c q
      cases c with
      | un => trivial
      | d x => exact so
      | l zs =>
        obtain ⟨b, us, p1, p2, p3, p4⟩ := so
        exact ⟨b, us, p1, by rw [upd_ne fun w => z (A.dist j i a ⟨by rw [← w]; exact p1, .inl ⟨zs, q⟩⟩ ow)]; exact p2, p3, p4⟩
      | m kvs => exact so
      | e c => exact so
      | sc ns => exact so
      | pen => exact so
  · exact A.pen.imp fun q c o o' e' h1 h2 h3 => ⟨by rw [upd_ne fun z => (A.ownN i a ow).2 (by rw [← z]; exact e')]; exact h1, h2, h3⟩
/-- writing into the pen -/
theorem Agr.penned {P P' : Pen} {q : Addr} {c : Addr} (A : Agr K F0 H0 pa σ F H S) (hq : some q = pa) (hP : S.p = some P) (hc : H q = some (.lst [.ref c, .int P.at_, .int P.rest])) (e : P'.cells = P.cells) :
    Agr K F0 H0 pa σ F (upd H q (.lst [.ref c, .int P'.at_, .int P'.rest])) { S with p := some P' } := by
  obtain ⟨P2, c2, eP, h1, h2, h3⟩ := A.pen.at hq
  rw [hP] at eP; cases eP
  rw [h1] at hc; cases hc
  have np : ∀ i a, Own σ S i a → a ≠ q := fun i a w z => (A.ownN i a w).2 (by rw [z]; exact hq)
  refine ⟨A.fF, fun b o x => ?_, fun b o x n => ?_, tabs_lst A.tabs h1, A.ft, A.n0, A.new, A.len, fun j d x => ?_, fun j l b => A.dist j l b, fun j b p => A.ownN j b p, ?_⟩
  · rw [upd_ne fun z => by rw [z, h2] at x; cases x]; exact A.sub b o x
  · rw [upd_ne fun z => n (by rw [z]; exact hq)]; exact A.hH b o x n
  · have so := A.slots j d x
    cases d with
    | un => trivial
    | d x => exact so
    | l zs =>
      obtain ⟨b, us, p1, p2, p3, p4⟩ := so
      exact ⟨b, us, p1, by rw [upd_ne (np j b ⟨p1, .inl ⟨zs, x⟩⟩)]; exact p2, p3, p4⟩
    | m kvs => exact so
    | e c => exact so
    | sc ns => exact so
    | pen => exact so
  · subst hq
    exact ⟨c, upd_same, h2, by rw [e]; exact h3⟩
theorem OwnV.store {c : R} {v w : V} {b : R} (f : Fit K H0 pa σ F H S w b) (o : OwnV K H0 pa σ F H S v c) (n : v ≠ w) (hi : i < S.r.length) : OwnV K H0 pa (σ.set i (some w)) F H { S with r := S.r.set i b } v c := by
  cases c with
  | l xs =>
    obtain ⟨t, vs, rfl, h1, h2, h3, h4, h5, h6⟩ := o
    refine ⟨t, vs, rfl, h1, h2, h3, h4, fun j p => ?_, h6⟩
    by_cases z : j = i
    · subst z
      exact n p.at_set.1.symm
    · exact h5 j ((Own.of_set z).mp p)
  | _ => exact False.elim o
end
section
variable {X : Cx} {W : WX} {a b c e : Expr} {fa fb fc : Sq → Out PV} {pos : Pos} {N : List Str} {sc : Scope} {k : Nat} {G : Gb} {i : Nat} {x : Str} {g g1 g2 : Sq → Fl} {st : Stmt} {sts : List Stmt}
/-! ### blocks -/
def seqF (g1 g2 : Sq → Fl) : Sq → Fl := fun S => match g1 S with
  | .nx S' => g2 S'
  | z => z
def nxF : Sq → Fl := fun S => .nx S
def noF : Sq → Fl := fun _ => .no
theorem dss_nil : DSs X W [] nxF := PSs.weak pss_nil fun Z σ H ⟨F0, H0, pa, F, S, A, z⟩ => z σ F H A
theorem dss_cons (h1 : DS X W st g1) (h2 : DSs X W sts g2) : DSs X W (st :: sts) (seqF g1 g2) := PSs.weak (pss_cons h1 h2) fun Z σ H ⟨F0, H0, pa, F, S, A, z⟩ => by
  refine ⟨F0, H0, pa, F, S, A, ?_⟩
  unfold seqF at z
  cases o : g1 S with
  | nx S' => rw [o] at z; exact fun σ' F' H' A' => ⟨F0, H0, pa, F', S', A', z⟩
  | rt r S' => rw [o] at z; exact z
  | bk S' => rw [o] at z; exact z
  | ct S' => rw [o] at z; exact z
  | ex c S' => rw [o] at z; exact z
  | no => rw [o] at z; exact z
theorem dss_one (h : DS X W st g) : DSs X W [st] g := PSs.weak (pss_one h) fun Z σ H z => z
/-- what is never reached -/
theorem ds_no : DS X W st noF := PS.weak ps_never fun Z σ H ⟨F0, H0, pa, F, S, A, z⟩ => z.elim
theorem dss_no : DSs X W sts noF := PSs.weak pss_never fun Z σ H ⟨F0, H0, pa, F, S, A, z⟩ => z.elim
theorem ds_pass : DS X W (.Pass pos) nxF := PS.weak ps_pass fun Z σ H ⟨F0, H0, pa, F, S, A, z⟩ => z σ F H A
def bkF : Sq → Fl := fun S => .bk S
def ctF : Sq → Fl := fun S => .ct S
theorem ds_break : DS X W (.Break pos) bkF := PS.weak ps_break fun Z σ H ⟨F0, H0, pa, F, S, A, z⟩ => z σ F H A
theorem ds_continue : DS X W (.Continue pos) ctF := PS.weak ps_continue fun Z σ H ⟨F0, H0, pa, F, S, A, z⟩ => z σ F H A
/-- an outcome as a statement's -/
def Out.fl {α : Type} (o : Out α) (t : α → Sq → Fl) : Fl := match o with
  | .ok a s => t a s
  | .ex c s => .ex c s
  | .no => .no
@[simp] theorem Out.fl_ok {α : Type} (a : α) (s : Sq) (t : α → Sq → Fl) : (Out.ok a s).fl t = t a s := rfl
@[simp] theorem Out.fl_ex {α : Type} (c : Str) (s : Sq) (t : α → Sq → Fl) : (Out.ex c s : Out α).fl t = .ex c s := rfl
@[simp] theorem Out.fl_no {α : Type} (t : α → Sq → Fl) : (Out.no : Out α).fl t = .no := rfl
theorem fl_out {α : Type} {K : PySem.W.Frag} {F0 H0 : Hp} {pa : Option Addr} {σ : L2.St} {Z : Ends} {o : Out α} {t : α → Sq → Fl} (z : FlP K W F0 H0 pa Z (o.fl t)) : OutP o (fun a s => FlP K W F0 H0 pa Z (t a s)) (EW K W F0 H0 pa σ) := by
  cases o with
  | ok a s => exact z
  | ex c s => exact fun F' H' A' => z σ F' H' A'
  | no => exact z
def ifF (t : Sq → Out Bool) (g1 g2 : Sq → Fl) : Sq → Fl := fun S => (t S).fl fun b S' => if b = true then g1 S' else g2 S'
theorem ds_if {tc : Sq → Out Bool} {s1 s2 : List Stmt} (hc : DT X W c tc) (h1 : DSs X W s1 g1) (h2 : DSs X W s2 g2) : DS X W (.If c s1 s2 pos) (ifF tc g1 g2) := PS.weak (ps_if hc h1 h2) fun Z σ H ⟨F0, H0, pa, F, S, A, z⟩ => by
  refine ⟨F0, H0, pa, F, S, A, (fl_out (σ := σ) z).imp (fun b S' z F' H' x' A' => ?_) fun _ _ z => z⟩
  cases b with
  | true => exact ⟨F0, H0, pa, F', S', A', z⟩
  | false => exact ⟨F0, H0, pa, F', S', A', z⟩
/-- name = e -/
def setF (i : Nat) (fa : Sq → Out PV) : Sq → Fl := fun S => (fa S).fl fun p S1 => match S1.res p with
  | some (c, S2) => if i < S2.r.length then .nx { S2 with r := S2.r.set i c } else .no
  | none => .no
theorem rs_set {K : PySem.W.Frag} {Z : Ends} {σ : L2.St} {H : Hp} (z : rs K W (setF i fa) Z σ H) : tAsg (rd K W fa) (gName i) Z σ H := by
  obtain ⟨F0, H0, pa, F, S, A, z⟩ := z
  refine ⟨F0, H0, pa, F, S, A, (fl_out (σ := σ) z).imp (fun p S1 z v F1 H1 x1 A1 r1 => ?_) fun _ _ z => z⟩
  show Z.nx (σ.set i (some v)) H1
  split at z
  · rename_i c S2 e1
    split at z
    · rename_i hi
      obtain ⟨F2, x2, A2, f⟩ := A1.res r1 e1
      exact z _ F2 H1 (A2.store hi f)
    · exact z.elim
  · exact z.elim
theorem ds_set (i : Nat) {p : Pos} (C : Cq G k N sc X) (he : DE X W e fa) (hi : N[i]? = some x := by rfl) (hx : Loc sc x := by first | exact Or.inl rfl | exact Or.inr rfl) (hs : swapsWith e (some (.Name x p)) pos.line X.env = pure false := by rfl)
    (hf : X.fn x = true ∨ sc.names.lookup x = some .local := by first | exact .inl rfl | exact .inr rfl | assumption) : DS X W (.Assign [.Name x p] e pos) (setF i fa) :=
  PS.weak (ps_set (by rw [C.names]; exact C.nd) (by rw [C.names]; exact hi) (by rw [C.scope]; exact hx) he hs (by rw [C.scope]; exact hf)) fun Z σ H z => rs_set z
/-- e alone -/
def dropF (fa : Sq → Out PV) : Sq → Fl := fun S => (fa S).fl fun _ S1 => .nx S1
theorem ds_expr (he : DE X W e fa) (hs : swapsWith e none pos.line X.env = pure false := by rfl) : DS X W (.Expr e pos) (dropF fa) := PS.weak (ps_expr he hs) fun Z σ H ⟨F0, H0, pa, F, S, A, z⟩ => by
  exact ⟨F0, H0, pa, F, S, A, (fl_out (σ := σ) z).imp (fun p S1 z v F1 H1 x1 A1 r1 => z σ F1 H1 A1) fun _ _ z => z⟩
/-- return e -/
def Sq.ret (S : Sq) : PV → Option R
  | .v x => some (.d x)
  | .o (.l xs) => some (.l xs)
  | .o _ => none
  | .s i => match S.r[i]? with
    | some (.d x) => some (.d x)
    | some (.l xs) => some (.l xs)
    | _ => none
def retF (fa : Sq → Out PV) : Sq → Fl := fun S => (fa S).fl fun p S1 => match S1.ret p with
  | some r => .rt r S1
  | none => .no
theorem Agr.ret {K : PySem.W.Frag} {F0 H0 F H : Hp} {pa : Option Addr} {σ : L2.St} {S : Sq} {v : V} {pv : PV} {r : R} (A : Agr K F0 H0 pa σ F H S) (q : RelP K H0 pa σ F H S v pv) (e : S.ret pv = some r) : RelR K H0 pa F H S.p v r := by
  have no : ∀ t i, ¬ Own [] ⟨[], S.p⟩ i t := fun t i w => by
    have := w.1
    simp at this
  cases pv with
  | v x => cases e; exact q
  | o c =>
    cases c with
    | l xs =>
      cases e
      obtain ⟨t, vs, rfl, h1, h2, h3, h4, h5, h6⟩ := q
      exact ⟨t, vs, rfl, h1, h2, h3, h4, no t, h6⟩
    | un => cases e
    | d x => cases e
    | m kvs => cases e
    | e c => cases e
    | sc ns => cases e
    | pen => cases e
  | s i =>
    unfold Sq.ret at e
    dsimp only at e
    cases z : S.r[i]? with
    | none => rw [z] at e; cases e
    | some c =>
      rw [z] at e
      have so := A.slots i c z
      cases c with
      | d x =>
        cases e
        obtain ⟨w, e1, e2⟩ := so
        rw [show σ[i]? = some (some v) from q] at e1; cases e1
        exact e2
      | l xs =>
        cases e
        obtain ⟨a, vs, e1, e2, e3, e4⟩ := so
        rw [show σ[i]? = some (some v) from q] at e1; cases e1
        have w : Own σ S i a := ⟨q, .inl ⟨xs, z⟩⟩
        exact ⟨a, vs, rfl, e2, e3, e4, (A.ownN i a w).1, no a, (A.ownN i a w).2⟩
      | un => cases e
      | m kvs => cases e
      | e c => cases e
      | sc ns => cases e
      | pen => cases e
theorem ds_ret (he : DE X W e fa) : DS X W (.Return (some e) pos) (retF fa) := PS.weak (ps_ret he) fun Z σ H ⟨F0, H0, pa, F, S, A, z⟩ => by
  refine ⟨F0, H0, pa, F, S, A, (fl_out (σ := σ) z).imp (fun p S1 z v F1 H1 x1 A1 r1 => ?_) fun _ _ z => z⟩
  split at z
  · rename_i r e1
    exact z σ v F1 H1 A1 (A1.ret r1 e1)
  · exact z.elim
/-- raise X('..') -/
structure ExcF (X : Cx) (x : Str) : Prop where
  g : X.mg x = some (.ref (He.ga X.K x))
  q : PySem.W.excIn X.K (He.ga X.K x) He.veBase "ValueError.__new__" = true
  kp : PySem.W.keepIn X.K (.ref (He.ga X.K x)) = true
  b : PySem.W.subIn X.K (.ref (He.ga X.K x)) (.type "BaseException") = some true
  t : PySem.W.typeIn X.K (.ref (He.ga X.K x)) = some (.type "type")
def raiseF (x : Str) : Sq → Fl := fun S => .ex x S
theorem ds_raise {m : Str} {j : Nat} {p p1 p2 : Pos} (C : Cq G k N sc X) (tk : Takes X W) (E : ExcF X x) (hg : Gl X x) (hdb : (x == ("__debug__" : Str)) = false := by decide) : DS X W (.Raise (some (.Call (.Name x p) [.Constant (.str m) j p1] [] p2)) none pos) (raiseF x) :=
  PS.weak (ps_raise C.calm tk (pmk_own PySem.F.excBase_ValueError E.q E.g E.kp (raises_own E.b E.t) hg hdb)) fun Z σ H ⟨F0, H0, pa, F, S, A, z⟩ => z σ F H A
/-- xs.append(e), xs a slot's own list -/
def isL (S : Sq) (i : Nat) : Bool := match S.r[i]? with
  | some (.l _) => true
  | _ => false
theorem isL_iff {S : Sq} {i : Nat} (h : isL S i = true) : ∃ xs, S.r[i]? = some (.l xs) := by
  unfold isL at h
  split at h
  · exact ⟨_, by assumption⟩
  · cases h
def appF (i : Nat) (fa : Sq → Out PV) : Sq → Fl := fun S => if isL S i = true then (fzF fa S).fl fun p S1 => (match S1.keep p with
  | some (d, S2) => (match S2.r[i]? with
    | some (.l xs) => if xs.length < sizeLine then .nx { S2 with r := S2.r.set i (.l (xs ++ [d])) } else .no
    | _ => .no)
  | none => .no) else .no
theorem ds_append (i : Nat) {p apos : Pos} (C : Cq G k N sc X) (he : DE X W e fa) (hi : N[i]? = some x := by rfl) (hv : sc.names.lookup x = some .local ∨ sc.names.lookup x = some .cell ∨ sc.names.lookup x = some .free := by first | exact Or.inl rfl | exact Or.inr (Or.inl rfl) | exact Or.inr (Or.inr rfl))
    (hs : swapsWith (.Call (.Attribute (.Name x p) "append" apos) [e] [] pos) none pos.line X.env = pure false := by rfl) (hbase : attributeBase (.Name x p) "append" X.env (eval (.Name x p) X.env) = eval (.Name x p) X.env := by rfl)
    (hfew : ((backTo pos (starEach [e] X.env)).all (fun x => !x.1) && (backToKw pos (keywordEach [] X.env)).all (fun x => x.1.isSome)
      && decide ([e].length + ([] : List Keyword).length + (if ([] : List Keyword).isEmpty then 0 else 1) < 30)) = true := by rfl)
    (hline : (apos.endLine == pos.line) = true := by rfl) (hst : starEach [e] X.env = (false, eval e X.env) :: starEach [] X.env := by rfl) (hplain : (backTo pos (starEach [] X.env)).any (·.1) = false := by rfl)
    (hd : (x == ("__debug__" : Str)) = false := by decide) (hcd : (x == ("__classdict__" : Str)) = false := by decide) {pos' : Pos} (hpos : pos' = pos := by rfl) :
    DS X W (.Expr (.Call (.Attribute (.Name x p) "append" apos) [e] [] pos) pos') (appF i fa) := by
  subst hpos
  refine PS.weak (ps_expr (pe_bm PySem.F.plainAttrs_list PySem.F.slot_list_append PySem.F.type_list_append mt_append (pe_var (i := i) (by rw [C.names]; exact hi) (by show Vis X.env.scope x; rw [C.scope]; exact hv) hd hcd) (pa_cons (de_fz he) pa_nil hst) hbase hfew hline hst hplain) hs) fun Z σ H z => ?_
  obtain ⟨F0, H0, pa, F, S, A, z⟩ := z
  unfold appF at z
  split at z
  · rename_i h0
    obtain ⟨xs0, h0⟩ := isL_iff h0
    obtain ⟨a, vs0, e1, e2, e3, e4⟩ := A.slots i _ h0
    refine ⟨.ref a, e1, .inl ⟨rfl, vs0, SqL.of e2⟩, F0, H0, pa, F, S, A, (fl_out (σ := σ) z).imp (fun q S1 z v F1 H1 x1 A1 r1 => ?_) fun _ _ z => z⟩
    split at z
    · rename_i d S2 q1
      obtain ⟨F2, x2, A2, d2⟩ := A1.keep r1 q1
      split at z
      · rename_i xs q2
        split at z
        · rename_i hz
          obtain ⟨a', vs, p1, p2, p3, p4⟩ := A2.slots i _ q2
          rw [e1] at p1; cases p1
          exact ⟨a, vs, v, rfl, rfl, p2, by rw [p4.length]; exact hz, z σ F2 _ (A2.write q2 e1 (p4.append (.cons d2 .nil)))⟩
        · exact z.elim
      · exact z.elim
    · exact z.elim
  · exact z.elim
/-- xs[k] = e, xs a slot's own list -/
def setLF (i : Nat) (fa fb : Sq → Out PV) : Sq → Fl := fun S => (fzF fa S).fl fun p S1 => if isL S1 i = true then (fzF fb S1).fl fun q S2 => (match S2.val q, S2.keep p with
  | some (.int n), some (d, S3) => (match S3.r[i]? with
    | some (.l xs) => (match ixN xs.length n with
      | some j => .nx { S3 with r := S3.r.set i (.l (xs.set j d)) }
      | none => .no)
    | _ => .no)
  | _, _ => .no) else .no
theorem ds_setL (i : Nat) {p p1 : Pos} (C : Cq G k N sc X) (he : DE X W e fa) (hb : DE X W b fb) (hi : N[i]? = some x := by rfl) (hv : sc.names.lookup x = some .local ∨ sc.names.lookup x = some .cell ∨ sc.names.lookup x = some .free := by first | exact Or.inl rfl | exact Or.inr (Or.inl rfl) | exact Or.inr (Or.inr rfl))
    (ha : ∀ v, assign (.Subscript (.Name x p) b p1) X.env v = (do
      let ov ← holding [v] (eval (.Name x p) X.env)
      let iv ← holding [v, ov] (eval b X.env)
      standAt p1
      holding [v, ov, iv] (setItem ov iv v)
      release [v, ov, iv] []) := by intro _; rfl) (hs : swapsWithSole [.Subscript (.Name x p) b p1] e pos.line X.env = pure false := by rfl) (hw : swappedStores [.Subscript (.Name x p) b p1] e X.env = pure none := by rfl)
    (h1 : (assignEach [.Subscript (.Name x p) b p1] X.env).map (·.2) = [assign (.Subscript (.Name x p) b p1) X.env] := by rfl)
    (hd : (x == ("__debug__" : Str)) = false := by decide) (hcd : (x == ("__classdict__" : Str)) = false := by decide) :
    DS X W (.Assign [.Subscript (.Name x p) b p1] e pos) (setLF i fa fb) := by
  refine PS.weak (ps_asg (de_fz he) (pg_sub (pe_var (i := i) (by rw [C.names]; exact hi) (by show Vis X.env.scope x; rw [C.scope]; exact hv) hd hcd) (de_fz hb) set_list ha) hs hw h1) fun Z σ H z => ?_
  obtain ⟨F0, H0, pa, F, S, A, z⟩ := z
  refine ⟨F0, H0, pa, F, S, A, (fl_out (σ := σ) z).imp (fun q S1 z v F1 H1 x1 A1 r1 => ?_) fun _ _ z => z⟩
  split at z
  · rename_i h0
    obtain ⟨xs0, h0⟩ := isL_iff h0
    obtain ⟨a, vs0, e1, e2, e3, e4⟩ := A1.slots i _ h0
    refine ⟨.ref a, e1, F0, H0, pa, F1, S1, A1, (fl_out (σ := σ) z).imp (fun w S2 z u F2 H2 x2 A2 r2 => ?_) fun _ _ z => z⟩
    split at z
    · rename_i n d S3 q1 q2
      have hu := (A2.val r2 q1).int
      have fr : Frz q := fun c y => by
        rw [y] at q2
        cases q2
      obtain ⟨F3, x3, A3, d3⟩ := A2.keep (r1.anyS fr x2) q2
      split at z
      · rename_i xs q3
        split at z
        · rename_i j q4
          obtain ⟨a', vs, p1, p2, p3, p4⟩ := A3.slots i _ q3
          rw [e1] at p1; cases p1
          exact ⟨a, vs, n, j, rfl, hu, p2, by rw [p4.length]; exact q4, z σ F3 _ (A3.write q3 e1 (p4.set j d3))⟩
        · exact z.elim
      · exact z.elim
    · exact z.elim
  · exact z.elim
/-- pen[j] = e -/
def penF (i : Nat) (j : Int) (fa : Sq → Out PV) : Sq → Fl := fun S => (fzF fa S).fl fun p S1 => match S1.r[i]?, S1.p, S1.val p with
  | some .pen, some P, some (.int n) => if j = 1 then .nx { S1 with p := some { P with at_ := n } } else if j = 2 then .nx { S1 with p := some { P with rest := n } } else .no
  | _, _, _ => .no
theorem ds_pen (i : Nat) {j : Int} {m : Nat} {p p1 p2 : Pos} (C : Cq G k N sc X) (he : DE X W e fa) (hi : N[i]? = some x := by rfl) (hv : sc.names.lookup x = some .local ∨ sc.names.lookup x = some .cell ∨ sc.names.lookup x = some .free := by first | exact Or.inl rfl | exact Or.inr (Or.inl rfl) | exact Or.inr (Or.inr rfl))
    (ha : ∀ v, assign (.Subscript (.Name x p) (.Constant (.int j) m p2) p1) X.env v = (do
      let ov ← holding [v] (eval (.Name x p) X.env)
      let iv ← holding [v, ov] (eval (.Constant (.int j) m p2) X.env)
      standAt p1
      holding [v, ov, iv] (setItem ov iv v)
      release [v, ov, iv] []) := by intro _; rfl) (hs : swapsWithSole [.Subscript (.Name x p) (.Constant (.int j) m p2) p1] e pos.line X.env = pure false := by rfl) (hw : swappedStores [.Subscript (.Name x p) (.Constant (.int j) m p2) p1] e X.env = pure none := by rfl)
    (h1 : (assignEach [.Subscript (.Name x p) (.Constant (.int j) m p2) p1] X.env).map (·.2) = [assign (.Subscript (.Name x p) (.Constant (.int j) m p2) p1) X.env] := by rfl)
    (hd : (x == ("__debug__" : Str)) = false := by decide) (hcd : (x == ("__classdict__" : Str)) = false := by decide) :
    DS X W (.Assign [.Subscript (.Name x p) (.Constant (.int j) m p2) p1] e pos) (penF i j fa) := by
  refine PS.weak (ps_asg (de_fz he) (pg_sub (pe_var (i := i) (by rw [C.names]; exact hi) (by show Vis X.env.scope x; rw [C.scope]; exact hv) hd hcd) (pe_int (i := j) (j := m)) set_list ha) hs hw h1) fun Z σ H z => ?_
  obtain ⟨F0, H0, pa, F, S, A, z⟩ := z
  refine ⟨F0, H0, pa, F, S, A, (fl_out (σ := σ) z).imp (fun q S1 z v F1 H1 x1 A1 r1 => ?_) fun _ _ z => z⟩
  split at z
  · rename_i P n q1 q2 q3
    obtain ⟨q0, ep, e1⟩ := A1.slots i _ q1
    obtain ⟨P', c, eP, p1, p2, p3⟩ := A1.pen.at ep.symm
    rw [q2] at eP; cases eP
    have hv := (A1.val r1 q3).int
    refine ⟨.ref q0, e1, ?_⟩
    by_cases j1 : j = 1
    · subst j1
      rw [if_pos rfl] at z
      refine ⟨q0, _, 1, 1, rfl, rfl, p1, rfl, ?_⟩
      rw [hv]
      exact z σ F1 _ (A1.penned (P' := { P with at_ := n }) ep.symm q2 p1 rfl)
    · rw [if_neg j1] at z
      by_cases j2 : j = 2
      · subst j2
        rw [if_pos rfl] at z
        refine ⟨q0, _, 2, 2, rfl, rfl, p1, rfl, ?_⟩
        rw [hv]
        exact z σ F1 _ (A1.penned (P' := { P with rest := n }) ep.symm q2 p1 rfl)
      · rw [if_neg j2] at z
        exact z.elim
  · exact z.elim
end
end Q3
/-! Q3f: loops. -/
namespace Q3
open PySem PySem.Spec PyProof.Rows L2
variable [TabSet]
/-! ### what is walked -/
structure Yields (K : PySem.W.Frag) (F : Hp) (J : It) (ds : List D) : Prop where
  stop : ∀ H, Ex F H → J.stop ds.length H
  go : ∀ i H, Ex F H → i < ds.length → J.go i H
  yld : ∀ i H x H' d, Ex F H → ds[i]? = some d → J.yld i H x H' → Gv K F H (.v d) x H'
theorem Gv.up {K : PySem.W.Frag} {F F' H H' : Hp} {p : PV} {v : V} (g : Gv K F H p v H') (e : Ex F F') : Gv K F' H p v H' := by
  cases g with
  | dn h => exact .dn (h.mono e)
  | tup hp h => exact .tup hp (h.mono e)
  | lst hp h => exact .lst hp (h.mono e)
def rdI (K : PySem.W.Frag) (W : WX) (fi : Sq → Out (List D)) : TI := fun σ H R => ∃ F0 H0 pa F S, Agr K F0 H0 pa σ F H S ∧ OutP (fi S) (fun ds S' => ∀ J F' H', Ex F F' → Agr K F0 H0 pa σ F' H' S' → Yields K F' J ds → R J H') (EW K W F0 H0 pa σ)
abbrev DI (X : Cx) (W : WX) (tg it : Expr) (fi : Sq → Out (List D)) : Prop := PI X tg it (rdI X.K W fi)
/-- the items of what may be walked -/
def itemsOf : D → Option (List D)
  | .list xs => some xs
  | .tuple xs => some xs
  | .str z => some (z.cps.toList.map fun c => .str ⟨#[c]⟩)
  | _ => none
def itF (fa : Sq → Out PV) : Sq → Out (List D) := fun S => (fzF fa S).bind fun p S1 => match S1.keep p with
  | some (d, S2) => (match itemsOf d with
    | some xs => .ok xs S2
    | none => .no)
  | none => .no
section
variable {K : PySem.W.Frag} {F : Hp}
theorem yields_list {a : Addr} {vs : List V} {ds : List D} (h : F a = some (.lst vs)) (hd : DnAll K F vs ds) : Yields K F (Itl K a) ds where
  stop := fun H e => ⟨vs, SqL.of (e _ _ h), by rw [hd.length]; exact Nat.le_refl _⟩
  go := fun i H e hi => by
    obtain ⟨v, e1, _⟩ := hd.get (List.getElem?_eq_getElem hi)
    exact ⟨vs, v, SqL.of (e _ _ h), e1⟩
  yld := fun i H x H' d e hd' y => by
    obtain ⟨rfl, q⟩ := y
    obtain ⟨v, e1, e2⟩ := hd.get hd'
    have z := q vs (SqL.of (e _ _ h))
    rw [e1] at z; cases z
    exact .dn e2
theorem yields_tup {a : Addr} {vs : List V} {ds : List D} (h : F a = some (.tup vs)) (hd : DnAll K F vs ds) : Yields K F (Itt K a) ds where
  stop := fun H e => ⟨vs, SqT.of (e _ _ h), by rw [hd.length]; exact Nat.le_refl _⟩
  go := fun i H e hi => by
    obtain ⟨v, e1, _⟩ := hd.get (List.getElem?_eq_getElem hi)
    exact ⟨vs, v, SqT.of (e _ _ h), e1⟩
  yld := fun i H x H' d e hd' y => by
    obtain ⟨rfl, q⟩ := y
    obtain ⟨v, e1, e2⟩ := hd.get hd'
    have z := q vs (SqT.of (e _ _ h))
    rw [e1] at z; cases z
    exact .dn e2
theorem yields_str {z : Str} : Yields K F (Its z) (z.cps.toList.map fun c => .str ⟨#[c]⟩) where
  stop := fun H e => by show z.cps.size ≤ _; simp
  go := fun i H e hi => by show i < z.cps.size; simpa using hi
  yld := fun i H x H' d e hd' y => by
    obtain ⟨rfl, c, q, rfl⟩ := y
    rw [List.getElem?_map, Array.getElem?_toList, q] at hd'
    cases hd'
    exact .dn (.str _)
def rngD (lo : Int) (n : Nat) : List D := (List.range n).map fun i => .int (lo + (i : Nat))
theorem yields_rng {lo : Int} {n : Nat} : Yields K F (Itr lo n) (rngD lo n) where
  stop := fun H e => by show n ≤ _; simp [rngD]
  go := fun i H e hi => by show i < n; simpa [rngD] using hi
  yld := fun i H x H' d e hd' y => by
    obtain ⟨rfl, rfl⟩ := y
    unfold rngD at hd'
    rw [List.getElem?_map] at hd'
    obtain ⟨j, e1, e2⟩ := Option.map_eq_some_iff.mp hd'
    have hj : j = i := by
      obtain ⟨h1, h2⟩ := List.getElem?_eq_some_iff.mp e1
      simpa using h2.symm
    subst hj e2
    exact .dn (.int _)
def enumD : Nat → List D → List D
  | _, [] => []
  | n, d :: ds => .tuple [.int (n : Nat), d] :: enumD (n + 1) ds
theorem enumD_length : ∀ (n : Nat) (ds : List D), (enumD n ds).length = ds.length
  | _, [] => rfl
  | n, _ :: ds => by rw [enumD, List.length_cons, List.length_cons, enumD_length]
theorem enumD_get : ∀ (n i : Nat) (ds : List D), (enumD n ds)[i]? = ds[i]?.map fun d => .tuple [.int ((n + i : Nat) : Int), d]
  | _, _, [] => by simp [enumD]
  | n, 0, d :: ds => by simp [enumD]
  | n, i + 1, d :: ds => by
    rw [enumD, List.getElem?_cons_succ, List.getElem?_cons_succ, enumD_get (n + 1) i ds]
    congr 1
    funext d
    rw [show n + 1 + i = n + (i + 1) by omega]
theorem yields_enum {a : Addr} {vs : List V} {ds : List D} (h : F a = some (.lst vs)) (hd : DnAll K F vs ds) : Yields K F (Ite K a) (enumD 0 ds) where
  stop := fun H e => ⟨vs, SqL.of (e _ _ h), by rw [enumD_length, hd.length]; exact Nat.le_refl _⟩
  go := fun i H e hi => by
    rw [enumD_length] at hi
    obtain ⟨v, e1, _⟩ := hd.get (List.getElem?_eq_getElem hi)
    exact ⟨vs, v, SqL.of (e _ _ h), e1⟩
  yld := fun i H x H' d e hd' y => by
    obtain ⟨T, v, rfl, hT, rfl, q⟩ := y
    rw [enumD_get] at hd'
    obtain ⟨d', e1, e2⟩ := Option.map_eq_some_iff.mp hd'
    obtain ⟨w, e3, e4⟩ := hd.get e1
    have z := q vs (SqL.of (e _ _ h))
    rw [e3] at z; cases z
    subst e2
    rw [Nat.zero_add]
    exact .tup hT (.cons (.int _) (.cons e4 .nil))
end
section
variable {X : Cx} {W : WX} {a b c e tg : Expr} {fa fb fc : Sq → Out PV} {pos : Pos} {N : List Str} {sc : Scope} {k : Nat} {G : Gb}
theorem di_of (he : DE X W e fa) : DI X W tg e (itF fa) := by
  refine ⟨fun pins s σ H R I h => ?_⟩
  obtain ⟨F0, H0, pa, F, S, A, z⟩ := h
  unfold itF at z
  cases o : fzF fa S with
  | no => rw [o] at z; exact z.elim
  | ex c S' =>
    rw [o] at z
    refine (pi_list (tg := tg) (de_fz he)).run pins s σ H R I ⟨F0, H0, pa, F, S, A, ?_⟩
    rw [o]
    exact z
  | ok p S1 =>
    rw [o] at z
    have z : OutP (match S1.keep p with
      | some (d, S2) => (match itemsOf d with
        | some xs => Out.ok xs S2
        | none => .no)
      | none => .no) (fun ds S' => ∀ J F' H', Ex F F' → Agr X.K F0 H0 pa σ F' H' S' → Yields X.K F' J ds → R J H') (EW X.K W F0 H0 pa σ) := z
    cases q : S1.keep p with
    | none => rw [q] at z; exact z.elim
    | some t =>
      obtain ⟨d, S2⟩ := t
      rw [q] at z
      dsimp only at z
      cases d with
      | list xs =>
        refine (pi_list (tg := tg) (de_fz he)).run pins s σ H R I ⟨F0, H0, pa, F, S, A, ?_⟩
        rw [o]
        intro v F1 H1 x1 A1 r1
        obtain ⟨F2, x2, A2, d2⟩ := A1.keep r1 q
        cases d2 with
        | lst h1 h2 => exact ⟨_, rfl, ⟨_, SqL.of (A2.sub _ _ h1)⟩, z _ F2 H1 (x1.trans x2) A2 (yields_list h1 h2)⟩
      | tuple xs =>
        refine (pi_tup (tg := tg) (de_fz he)).run pins s σ H R I ⟨F0, H0, pa, F, S, A, ?_⟩
        rw [o]
        intro v F1 H1 x1 A1 r1
        obtain ⟨F2, x2, A2, d2⟩ := A1.keep r1 q
        cases d2 with
        | tup h1 h2 => exact ⟨_, rfl, ⟨_, SqT.of (A2.sub _ _ h1)⟩, z _ F2 H1 (x1.trans x2) A2 (yields_tup h1 h2)⟩
      | str y =>
        refine (pi_str (tg := tg) (de_fz he)).run pins s σ H R I ⟨F0, H0, pa, F, S, A, ?_⟩
        rw [o]
        intro v F1 H1 x1 A1 r1
        obtain ⟨F2, x2, A2, d2⟩ := A1.keep r1 q
        cases d2
        exact ⟨_, rfl, z _ F2 H1 (x1.trans x2) A2 yields_str⟩
      | none => exact z.elim
      | bool b => exact z.elim
      | int i => exact z.elim
      | dict kvs => exact z.elim
/-- range(n) -/
def rng1F (fa : Sq → Out PV) : Sq → Out (List D) := fun S => (fzF fa S).bind fun p S1 => match S1.val p with
  | some (.int j) => if -(2 ^ 62) ≤ j ∧ j < 2 ^ 62 then .ok (rngD 0 j.toNat) S1 else .no
  | _ => .no
theorem di_range1 {p : Pos} (hg : Gl X "range") (hm : X.mg "range" = none) (ha : DE X W a fa) (hs : starEach [a] X.env = [(false, eval a X.env)] := by rfl) (hst : starEach [a] X.env = (false, eval a X.env) :: starEach [] X.env := by rfl) : DI X W tg (.Call (.Name "range" p) [a] [] pos) (rng1F fa) := by
  refine ⟨fun pins s σ H R I h => (pi_range1 (tg := tg) hg hm (pa_cons (de_fz ha) pa_nil hst) hs).run pins s σ H R I ?_⟩
  obtain ⟨F0, H0, pa, F, S, A, z⟩ := h
  unfold rng1F at z
  rw [OutP.bind] at z
  refine ⟨F0, H0, pa, F, S, A, z.imp (fun p S1 z v F1 H1 x1 A1 r1 => ?_) fun _ _ z => z⟩
  split at z
  · rename_i j q
    split at z
    · rename_i hj
      exact ⟨j, by rw [(A1.val r1 q).int], hj.1, hj.2, z _ F1 H1 x1 A1 yields_rng⟩
    · exact z.elim
  · exact z.elim
/-- enumerate(xs), a list -/
def enumF (fa : Sq → Out PV) : Sq → Out (List D) := fun S => (fzF fa S).bind fun p S1 => match S1.keep p with
  | some (.list xs, S2) => .ok (enumD 0 xs) S2
  | _ => .no
theorem di_enum {p : Pos} {elts : List Expr} {kk : Nat} {tpos : Pos} (hg : Gl X "enumerate") (hm : X.mg "enumerate" = none) (ha : DE X W a fa) (hs : starEach [a] X.env = [(false, eval a X.env)] := by rfl) (hst : starEach [a] X.env = (false, eval a X.env) :: starEach [] X.env := by rfl) :
    DI X W (.Tuple elts kk tpos) (.Call (.Name "enumerate" p) [a] [] pos) (enumF fa) := by
  refine ⟨fun pins s σ H R I h => (pi_enum hg hm (pa_cons (de_fz ha) pa_nil hst) hs).run pins s σ H R I ?_⟩
  obtain ⟨F0, H0, pa, F, S, A, z⟩ := h
  unfold enumF at z
  rw [OutP.bind] at z
  refine ⟨F0, H0, pa, F, S, A, z.imp (fun p S1 z v F1 H1 x1 A1 r1 => ?_) fun _ _ z => z⟩
  split at z
  · rename_i xs S2 q
    obtain ⟨F2, x2, A2, d2⟩ := A1.keep r1 q
    cases d2 with
    | lst h1 h2 => exact ⟨_, _, rfl, SqL.of (A2.sub _ _ h1), z _ F2 H1 (x1.trans x2) A2 (yields_enum h1 h2)⟩
  · exact z.elim
/-! ### targets -/
inductive Tg where
  | nm (i : Nat) | tp (is : List Nat)
def putAll (S : Sq) : List Nat → List D → Option Sq
  | [], [] => some S
  | i :: is, d :: ds => if i < S.r.length then putAll { S with r := S.r.set i (.d d) } is ds else none
  | _, _ => none
def Tg.put (S : Sq) : Tg → D → Option Sq
  | .nm i, d => if i < S.r.length then some { S with r := S.r.set i (.d d) } else none
  | .tp is, .tuple ds => putAll S is ds
  | _, _ => none
def gNs : List Nat → TGs
  | [] => gNil
  | i :: is => gCons (gName i) (gNs is)
def Tg.rd (K : PySem.W.Frag) : Tg → TG
  | .nm i => gName i
  | .tp is => gTup K is.length (gNs is)
def Tg.is : Tg → List Nat
  | .nm i => [i]
  | .tp is => is
/-- slots but these stay -/
def SameBut (is : List Nat) (σ σ' : L2.St) : Prop := σ'.length = σ.length ∧ ∀ j, j ∉ is → σ'[j]? = σ[j]?
theorem putAll_ok {K : PySem.W.Frag} {F0 H0 F H : Hp} {pa : Option Addr} : ∀ {is : List Nat} {ds : List D} {vs : List V} {σ : L2.St} {S S' : Sq} {Q : L2.St → Hp → Prop}, Agr K F0 H0 pa σ F H S → DnAll K F vs ds → putAll S is ds = some S' →
    (∀ σ', Agr K F0 H0 pa σ' F H S' → SameBut is σ σ' → Q σ' H) → gNs is vs σ H Q
  | [], [], vs, σ, S, S', Q, A, hd, e, h => by
    cases hd; cases e
    exact ⟨rfl, h σ A ⟨rfl, fun _ _ => rfl⟩⟩
  | [], _ :: _, _, _, _, _, _, _, _, e, _ => by cases e
  | _ :: _, [], _, _, _, _, _, _, _, e, _ => by cases e
  | i :: is, d :: ds, vs, σ, S, S', Q, A, hd, e, h => by
    cases hd with
    | @cons v vs' _ _ h1 h2 =>
      unfold putAll at e
      split at e
      · rename_i hi
        refine ⟨v, vs', rfl, putAll_ok (A.store (c := .d d) hi h1) h2 e fun σ' A' sb => h σ' A' ⟨by rw [sb.1]; simp, fun j hj => ?_⟩⟩
        rw [sb.2 j (fun z => hj (List.mem_cons_of_mem _ z)), List.getElem?_set_ne fun z => hj (by rw [z]; exact List.mem_cons_self)]
      · cases e
theorem Tg.ok {K : PySem.W.Frag} {F0 H0 F H : Hp} {pa : Option Addr} {t : Tg} {d : D} {v : V} {σ : L2.St} {S S' : Sq} {Q : L2.St → Hp → Prop} (A : Agr K F0 H0 pa σ F H S) (hd : Dn K F v d) (e : t.put S d = some S')
    (h : ∀ σ', Agr K F0 H0 pa σ' F H S' → SameBut t.is σ σ' → Q σ' H) : t.rd K v σ H Q := by
  cases t with
  | nm i =>
    have e : (if i < S.r.length then some { S with r := S.r.set i (.d d) } else none) = some S' := e
    by_cases hi : i < S.r.length
    · rw [if_pos hi] at e
      cases e
      refine h _ (A.store (c := .d d) hi hd) ⟨by simp, fun j hj => ?_⟩
      rw [List.getElem?_set_ne fun z => hj (by rw [z]; exact List.mem_cons_self)]
    · rw [if_neg hi] at e
      cases e
  | tp is =>
    cases d with
    | tuple ds =>
      cases hd with
      | tup h1 h2 =>
        have hl : is.length = ds.length := by
          have gen : ∀ {is : List Nat} {ds : List D} {S S' : Sq}, putAll S is ds = some S' → is.length = ds.length := by
            intro is
            induction is with
            | nil => intro ds S S' e; cases ds with
              | nil => rfl
              | cons _ _ => cases e
            | cons i is ih => intro ds S S' e; cases ds with
              | nil => cases e
              | cons d ds =>
                unfold putAll at e
                split at e
                · simp [ih e]
                · cases e
          exact gen (show putAll S is ds = some S' from e)
        exact ⟨_, _, rfl, SqT.of (A.sub _ _ h1), by rw [h2.length, hl], putAll_ok A h2 e h⟩
    | _ => cases e
/-- what stays now is the new ground -/
theorem Agr.reF {K : PySem.W.Frag} {F0 H0 F H : Hp} {pa : Option Addr} {σ : L2.St} {S : Sq} (A : Agr K F0 H0 pa σ F H S) : Agr K F H0 pa σ F H S := ⟨Ex.refl F, A.sub, A.hH, A.tabs, A.ft, A.n0, fun a o h => .inl h, A.len, A.slots, A.dist, A.ownN, A.pen⟩
theorem Agr.deF {K : PySem.W.Frag} {F0 H0 F H F' H' : Hp} {pa : Option Addr} {σ σ' : L2.St} {S S' : Sq} (A : Agr K F0 H0 pa σ F H S) (B : Agr K F H0 pa σ' F' H' S') : Agr K F0 H0 pa σ' F' H' S' :=
  ⟨A.fF.trans B.fF, B.sub, B.hH, B.tabs, B.ft, B.n0, fun a o h => (B.new a o h).elim (A.new a o) .inr, B.len, B.slots, B.dist, B.ownN, B.pen⟩
theorem FlP.deF {K : PySem.W.Frag} {W : WX} {F0 H0 F H : Hp} {pa : Option Addr} {σ : L2.St} {S : Sq} {Z : Ends} {z : Fl} (A : Agr K F0 H0 pa σ F H S) (h : FlP K W F0 H0 pa Z z) : FlP K W F H0 pa Z z := by
  cases z with
  | nx S' => exact fun σ' F' H' B => h σ' F' H' (A.deF B)
  | rt r S' => exact fun σ' v F' H' B q => h σ' v F' H' (A.deF B) q
  | bk S' => exact fun σ' F' H' B => h σ' F' H' (A.deF B)
  | ct S' => exact fun σ' F' H' B => h σ' F' H' (A.deF B)
  | ex c S' => exact fun σ' F' H' B => h σ' F' H' (A.deF B)
  | no => exact h
/-! ### for -/
def forF (t : Tg) (g : Sq → Fl) : List D → Sq → Fl
  | [], S => .nx S
  | d :: ds, S => match t.put S d with
    | some S1 => (match g S1 with
      | .nx S2 => forF t g ds S2
      | .ct S2 => forF t g ds S2
      | .bk S2 => .nx S2
      | z => z)
    | none => .no
def forS (t : Tg) (fi : Sq → Out (List D)) (g : Sq → Fl) : Sq → Fl := fun S => (fi S).fl fun ds S1 => forF t g ds S1
theorem ds_for {t : Tg} {it : Expr} {fi : Sq → Out (List D)} {body : List Stmt} {g : Sq → Fl} (C : Cq G k N sc X) (hi : DI X W tg it fi) (hg : PG X tg (t.rd X.K)) (hb : DSs X W body g)
    (hs : ∀ x, foldedSetIterable it X.env x = pure x := by intro _; rfl) : DS X W (.For tg it body [] pos) (forS t fi g) := by
  refine PS.weak (ps_for C.pass C.calm hi hg hb hs) fun Z σ H z => ?_
  obtain ⟨F0, H0, pa, F, S, A, z⟩ := z
  refine ⟨F0, H0, pa, F, S, A, (fl_out (σ := σ) z).imp (fun ds S1 z J F1 H1 x1 A1 y => ?_) fun _ _ z => z⟩
  refine ⟨fun i m σ H => m = ds.length - i ∧ i ≤ ds.length ∧ ∃ F S, Agr X.K F1 H0 pa σ F H S ∧ FlP X.K W F1 H0 pa Z (forF t g (ds.drop i) S), ⟨ds.length, by simp, Nat.zero_le _, F1, S1, A1.reF, FlP.deF A1 z⟩, ?_⟩
  rintro i m σ H ⟨rfl, hi, F, S, A, z⟩
  by_cases hlt : i < ds.length
  · refine .inr ⟨y.go i H (A.fF.trans A.sub) hlt, fun σ' H' => ∃ F S, Agr X.K F1 H0 pa σ' F H' S ∧ FlP X.K W F1 H0 pa Z (forF t g (ds.drop (i + 1)) S), fun σ' H' h => ⟨ds.length - (i + 1), by omega, rfl, hlt, h⟩, fun x H' hy => ?_⟩
    have hd : ds.drop i = ds[i] :: ds.drop (i + 1) := List.drop_eq_getElem_cons hlt
    rw [hd] at z
    unfold forF at z
    have gv := (y.yld i H x H' ds[i] (A.fF.trans A.sub) (List.getElem?_eq_getElem hlt) hy).up A.fF
    obtain ⟨F2, x2, A2, r2⟩ := A.gives gv
    split at z
    · rename_i S2 e2
      refine Tg.ok A2 r2 e2 fun σ2 A3 _ => ⟨F1, H0, pa, F2, S2, A3, ?_⟩
      cases o : g S2 with
      | nx S3 => rw [o] at z; exact fun σ' F' H' A' => ⟨F', S3, A', z⟩
      | ct S3 => rw [o] at z; exact fun σ' F' H' A' => ⟨F', S3, A', z⟩
      | bk S3 => rw [o] at z; exact z
      | rt r S3 => rw [o] at z; exact z
      | ex c S3 => rw [o] at z; exact z
      | no => rw [o] at z; exact z
    · exact z.elim
  · have e : i = ds.length := by omega
    subst e
    rw [List.drop_length] at z
    exact .inl ⟨y.stop H (A.fF.trans A.sub), z σ F H A⟩
/-! ### while -/
def whF (t : Sq → Out Bool) (g : Sq → Fl) : Nat → Sq → Fl
  | 0, _ => .no
  | n + 1, S => (t S).fl fun b S1 => if b = true then (match g S1 with
      | .nx S2 => whF t g n S2
      | .ct S2 => whF t g n S2
      | .bk S2 => .nx S2
      | z => z) else .nx S1
theorem ds_while (n : Nat) {tc : Sq → Out Bool} {body : List Stmt} {g : Sq → Fl} (C : Cq G k N sc X) (hc : DT X W c tc) (hb : DSs X W body g) : DS X W (.While c body [] pos) (whF tc g n) := by
  refine PS.weak (ps_while C.pass hc hb) fun Z σ H z => ?_
  obtain ⟨F0, H0, pa, F, S, A, z⟩ := z
  refine ⟨fun m σ H => ∃ F S, Agr X.K F0 H0 pa σ F H S ∧ FlP X.K W F0 H0 pa Z (whF tc g m S), ⟨n, F, S, A, z⟩, ?_⟩
  rintro m σ H ⟨F, S, A, z⟩
  cases m with
  | zero => exact z.elim
  | succ m =>
    unfold whF at z
    refine ⟨F0, H0, pa, F, S, A, (fl_out (σ := σ) z).imp (fun b S1 z F1 H1 x1 A1 => ?_) fun _ _ z => z⟩
    cases b with
    | false => exact z σ F1 H1 A1
    | true =>
      refine ⟨fun σ' H' => ∃ F S, Agr X.K F0 H0 pa σ' F H' S ∧ FlP X.K W F0 H0 pa Z (whF tc g m S), fun σ' H' h => ⟨m, Nat.lt_succ_self m, h⟩, F0, H0, pa, F1, S1, A1, ?_⟩
      simp only [if_true] at z
      cases o : g S1 with
      | nx S3 => rw [o] at z; exact fun σ' F' H' A' => ⟨F', S3, A', z⟩
      | ct S3 => rw [o] at z; exact fun σ' F' H' A' => ⟨F', S3, A', z⟩
      | bk S3 => rw [o] at z; exact z
      | rt r S3 => rw [o] at z; exact z
      | ex c S3 => rw [o] at z; exact z
      | no => rw [o] at z; exact z
/-! ### comprehensions -/
def relS (scope sc : Scope) : Scope := { scope with names := scope.names.map fun (n, k) => if (k == .free && sc.kind == .function && sc.names.lookup n == some .cell) then (n, .cell) else (n, k) }
theorem Cq.blk {scope : Scope} {s : Shared} {H : Hp} {cl : List (Str × Addr)} {A0 : Addr} {fp : List Addr} (C : Cq G k N sc X) : Cq G k N (relS scope sc) (X.blk s H scope (compEnvC scope cl A0 X.env) fp) := by
  obtain ⟨h1, h2, h3, h4, h5, h6, h7, h8, h9, h10, h11, h12⟩ := C
  subst h3
  exact ⟨h1, h2, rfl, h4, h5, h6, PassesOwn.never, h8, h9, h10, h11, h12⟩
def Out.quiet {α : Type} : Out α → Out α
  | .ex _ _ => .no
  | o => o
theorem OutP.quiet {α : Type} {o : Out α} {T : α → Sq → Prop} {E E' : Str → Sq → Prop} (h : OutP o.quiet T E) : OutP o T E' := by
  cases o with
  | ok a s => exact h
  | ex c s => exact False.elim h
  | no => exact h
def wipeR (r : List R) : List Nat → List R
  | [] => r
  | v :: vs => (wipeR r vs).set v .un
def plainAt (S : Sq) (vs : List Nat) : Bool := vs.all fun v => match S.r[v]? with
  | some .un => true
  | some (.d _) => true
  | _ => false
/-- the outer slots behind a comprehension: its own names as they were -/
def backR (r0 : List R) (r : List R) : List Nat → List R
  | [] => r
  | v :: vs => (backR r0 r vs).set v (match r0[v]? with
    | some c => c
    | none => .un)
def lcF (t : Tg) (tt : Sq → Out Bool) (te : Sq → Out PV) (vs : List Nat) : List D → Sq → List D → Out (List D)
  | [], S, acc => .ok acc S
  | d :: ds, S, acc => match t.put { S with r := wipeR S.r vs } d with
    | some S1 => (tt S1).quiet.bind fun b S2 => if b = true then (fzF te S2).quiet.bind fun p S3 => (match S3.keep p with
      | some (y, S4) => if acc.length < sizeLine then lcF t tt te vs ds S4 (acc ++ [y]) else .no
      | none => .no) else lcF t tt te vs ds S2 acc
    | none => .no
def lcS (t : Tg) (fi : Sq → Out (List D)) (tt : Sq → Out Bool) (te : Sq → Out PV) (vs : List Nat) : Sq → Out PV := fun S => (fi S).bind fun ds S1 => if plainAt S1 vs = true then (lcF t tt te vs ds { S1 with r := wipeR S1.r vs } []).bind fun out S2 => .ok (.o (.l out)) { S2 with r := backR S1.r S2.r vs } else .no
theorem wipeR_length (r : List R) : ∀ vs : List Nat, (wipeR r vs).length = r.length
  | [] => rfl
  | v :: vs => by rw [wipeR, List.length_set, wipeR_length r vs]
theorem backR_length (r0 r : List R) : ∀ vs : List Nat, (backR r0 r vs).length = r.length
  | [] => rfl
  | v :: vs => by rw [backR, List.length_set, backR_length r0 r vs]
theorem wipeR_get (r : List R) : ∀ (vs : List Nat) (j : Nat), (wipeR r vs)[j]? = if j ∈ vs then (if j < r.length then some .un else none) else r[j]?
  | [], j => by simp [wipeR]
  | v :: vs, j => by
    rw [wipeR]
    by_cases e : v = j
    · subst e
      rw [if_pos List.mem_cons_self]
      by_cases h : v < r.length
      · rw [List.getElem?_set_self (by rw [wipeR_length]; exact h), if_pos h]
      · rw [if_neg h, List.getElem?_eq_none (by rw [List.length_set, wipeR_length]; omega)]
    · rw [List.getElem?_set_ne e, wipeR_get r vs j]
      have : (j ∈ v :: vs) ↔ j ∈ vs := by simp [Ne.symm e]
      simp only [this]
theorem backR_get (r0 r : List R) (hl : r0.length = r.length) : ∀ (vs : List Nat) (j : Nat), (backR r0 r vs)[j]? = if j ∈ vs then r0[j]? else r[j]?
  | [], j => by simp [backR]
  | v :: vs, j => by
    rw [backR]
    by_cases e : v = j
    · subst e
      rw [if_pos List.mem_cons_self]
      by_cases h : v < r.length
      · rw [List.getElem?_set_self (by rw [backR_length]; exact h), List.getElem?_eq_getElem (by omega)]
      · rw [List.getElem?_eq_none (by rw [List.length_set, backR_length]; omega), List.getElem?_eq_none (by omega)]
    · rw [List.getElem?_set_ne e, backR_get r0 r hl vs j]
      have : (j ∈ v :: vs) ↔ j ∈ vs := by simp [Ne.symm e]
      simp only [this]
theorem wipe_get (σ : L2.St) : ∀ (vs : List Nat) (j : Nat), (wipe σ vs)[j]? = if j ∈ vs then (if j < σ.length then some none else none) else σ[j]?
  | [], j => by simp [wipe]
  | v :: vs, j => by
    rw [wipe]
    by_cases e : v = j
    · subst e
      rw [if_pos List.mem_cons_self]
      by_cases h : v < σ.length
      · rw [List.getElem?_set_self (by rw [wipe_length]; exact h), if_pos h]
      · rw [if_neg h, List.getElem?_eq_none (by rw [List.length_set, wipe_length]; omega)]
    · rw [List.getElem?_set_ne e, wipe_get σ vs j]
      have : (j ∈ v :: vs) ↔ j ∈ vs := by simp [Ne.symm e]
      simp only [this]
theorem wipe_same {σ σ' : L2.St} {is vs : List Nat} (h : SameBut is (wipe σ vs) σ') (hs : ∀ i ∈ is, i ∈ vs) : wipe σ' vs = wipe σ vs := by
  refine List.ext_getElem? fun j => ?_
  have hl : σ'.length = σ.length := by rw [h.1, wipe_length]
  rw [wipe_get, wipe_get, hl]
  by_cases e : j ∈ vs
  · rw [if_pos e, if_pos e]
  · rw [if_neg e, if_neg e, h.2 j (fun z => e (hs j z)), wipe_get, if_neg e]
theorem Own.wipe {σ : L2.St} {S : Sq} {vs : List Nat} {j : Nat} {a : Addr} (h : Own (wipe σ vs) { S with r := wipeR S.r vs } j a) : Own σ S j a ∧ j ∉ vs := by
  obtain ⟨h1, h2⟩ := h
  rw [wipe_get] at h1
  by_cases e : j ∈ vs
  · rw [if_pos e] at h1
    split at h1 <;> cases h1
  · rw [if_neg e] at h1
    refine ⟨⟨h1, ?_⟩, e⟩
    rcases h2 with ⟨xs, h2⟩ | ⟨kvs, h2⟩
    · have h2 : (wipeR S.r vs)[j]? = _ := h2
      rw [wipeR_get, if_neg e] at h2
      exact .inl ⟨xs, h2⟩
    · have h2 : (wipeR S.r vs)[j]? = _ := h2
      rw [wipeR_get, if_neg e] at h2
      exact .inr ⟨kvs, h2⟩
/-- some slots forgotten -/
theorem Agr.wiped {K : PySem.W.Frag} {F0 H0 F H : Hp} {pa : Option Addr} {σ : L2.St} {S : Sq} (A : Agr K F0 H0 pa σ F H S) (vs : List Nat) : Agr K F0 H0 pa (wipe σ vs) F H { S with r := wipeR S.r vs } := by
  refine ⟨A.fF, A.sub, A.hH, A.tabs, A.ft, A.n0, A.new, ?_, fun j c e => ?_, fun j l a p q => A.dist j l a p.wipe.1 q.wipe.1, fun j a p => A.ownN j a p.wipe.1, A.pen⟩
  · show (wipeR S.r vs).length = _
    rw [wipeR_length, wipe_length]
    exact A.len
  · have e : (wipeR S.r vs)[j]? = some c := e
    rw [wipeR_get] at e
    rw [wipe_get]
    by_cases z : j ∈ vs
    · rw [if_pos z] at e
      split at e
      · cases e; trivial
      · cases e
    · rw [if_neg z] at e
      rw [if_neg z]
      exact A.slots j c e
/-- one more object that is kept apart -/
theorem Agr.apart {K : PySem.W.Frag} {F0 H0 F H : Hp} {pa : Option Addr} {σ : L2.St} {S : Sq} {t : Addr} {vs ws : List V} (A : Agr K F0 (upd H0 t (.lst vs)) pa σ F H S) (ht : H t = some (.lst vs)) (hp : some t ≠ pa) (h0 : F0 t = none) (hn : H0 t = none) : Agr K F0 H0 pa σ F (upd H t (.lst ws)) S := by
  have hF : F t = none := by
    cases q : F t with
    | none => rfl
    | some u =>
      rcases A.new t u q with z | z
      · rw [h0] at z; cases z
      · rw [upd_same] at z; cases z
  have np : ∀ i a, Own σ S i a → a ≠ t := fun i a w z => by
    have y := (A.ownN i a w).1
    rw [z, upd_same] at y; cases y
  refine ⟨A.fF, fun a u e => ?_, fun a u e n => ?_, tabs_lst A.tabs ht, A.ft, fun a ps e => A.n0 a ps (by rw [upd_ne fun z => by rw [z, hn] at e; cases e]; exact e), fun a u e => ?_, A.len, fun j c e => ?_, A.dist, fun i a w => ⟨?_, (A.ownN i a w).2⟩, ?_⟩
  · rw [upd_ne fun z => by rw [z, hF] at e; cases e]; exact A.sub a u e
  · have ne : a ≠ t := fun z => by rw [z, hn] at e; cases e
    rw [upd_ne ne]
    exact A.hH a u (by rw [upd_ne ne]; exact e) n
  · rcases A.new a u e with z | z
    · exact .inl z
    · by_cases y : a = t
      · rw [y, upd_same] at z; cases z
      · rw [upd_ne y] at z; exact .inr z
  · have so := A.slots j c e
    cases c with
    | un => trivial
    | d x => exact so
    | l xs =>
      obtain ⟨b, us, p1, p2, p3, p4⟩ := so
      exact ⟨b, us, p1, by rw [upd_ne (np j b ⟨p1, .inl ⟨xs, e⟩⟩)]; exact p2, p3, p4⟩
    | m kvs => exact so
    | e c => exact so
    | sc ns => exact so
    | pen => exact so
  · have y := (A.ownN i a w).1
    rw [upd_ne (np i a w)] at y
    exact y
  · exact A.pen.imp fun q c o o' e h1 h2 h3 => ⟨by rw [upd_ne fun z => hp (by rw [← z]; exact e)]; exact h1, h2, h3⟩
theorem Agr.more1 {K : PySem.W.Frag} {F0 H0 F H : Hp} {pa : Option Addr} {σ : L2.St} {S : Sq} {t : Addr} {o : HO} (A : Agr K F0 H0 pa σ F H S) (ht : H t = some o) (h0 : F t = none) (no : ∀ i, ¬ Own σ S i t) (hno : ∀ ps, o ≠ .tbl ps) : Agr K F (upd H0 t o) pa σ F H S := by
  refine ⟨Ex.refl F, A.sub, fun a u e n => ?_, A.tabs, A.ft, ft_upd A.n0 hno, fun a u e => .inl e, A.len, A.slots, A.dist, fun i a w => ⟨?_, (A.ownN i a w).2⟩, A.pen⟩
  · by_cases y : a = t
    · rw [y, upd_same] at e; cases e; rw [y]; exact ht
    · rw [upd_ne y] at e; exact A.hH a u e n
  · rw [upd_ne fun z => no i (by rw [← z]; exact w)]
    exact (A.ownN i a w).1
end
end Q3
/-! Q3g: comprehensions. -/
namespace Q3
open PySem PySem.Spec PyProof.Rows L2
variable [TabSet]
theorem Gv.ex {K : PySem.W.Frag} {F H H' : Hp} {p : PV} {v : V} (g : Gv K F H p v H') : Ex H H' := by
  cases g with
  | dn h => exact Ex.refl _
  | tup hp h => exact Ex.new hp
  | lst hp h => exact Ex.new hp
theorem upd_id {H : Hp} {a : Addr} {o : HO} (h : H a = some o) : upd H a o = H := by
  funext b
  by_cases e : b = a
  · rw [e, upd_same, h]
  · rw [upd_ne e]
abbrev WF0 : WX := fun _ _ _ _ => False
def yesF : Sq → Out Bool := fun S => .ok true S
abbrev DTs (X : Cx) (W : WX) (ifs : List Expr) (f : Sq → Out Bool) : Prop := PTs X ifs (rdT X.K W f)
section
variable {X : Cx} {W : WX} {a b c e tg it elt : Expr} {fa fb fc te : Sq → Out PV} {tt : Sq → Out Bool} {fi : Sq → Out (List D)} {pos : Pos} {N : List Str} {sc : Scope} {k : Nat} {G : Gb} {vs : List Nat} {t : Tg}
theorem dts_nil : DTs X W [] yesF := ⟨fun pins s σ H Q I ⟨F0, H0, pa, F, S, A, z⟩ => pts_nil.run pins s σ H Q I (z F H (Ex.refl F) A)⟩
theorem dts_one (h : DT X W c tt) : DTs X W [c] tt := pts_one h
def Sw (vs : List Nat) (S : Sq) : Sq := { S with r := wipeR S.r vs }
theorem rd_lc {K : PySem.W.Frag} {σ : L2.St} {H : Hp} {Q : VK} (hs : ∀ i ∈ t.is, i ∈ vs) (z : rd K W (lcS t fi tt te vs) σ H Q) : tLc (rdI K W fi) (t.rd K) (rdT K WF0 tt) (rd K WF0 (fzF te)) vs σ H Q := by
  obtain ⟨F0, H0, pa, Fa, S0, A0, z⟩ := z
  unfold lcS at z
  rw [OutP.bind] at z
  refine ⟨F0, H0, pa, Fa, S0, A0, z.imp (fun ds S1 z J F1 H1 x1 A1 y => ?_) fun _ _ z => z⟩
  intro L hL
  by_cases hpl : plainAt S1 vs = true
  rotate_left
  · rw [if_neg hpl] at z; exact z.elim
  rw [if_pos hpl] at z
  rw [OutP.bind] at z
  have hB : H1 L = none := hL
  have npa : some L ≠ pa := A1.nopen hL
  have B1 : Agr K F1 (hide (wipe σ vs) (Sw vs S1) pa H1) pa (wipe σ vs) F1 H1 (Sw vs S1) := (A1.wiped vs).rebase
  have hHL : hide (wipe σ vs) (Sw vs S1) pa H1 L = none := by
    cases q : hide (wipe σ vs) (Sw vs S1) pa H1 L with
    | none => rfl
    | some o => rw [(hide_some q).1] at hL; cases hL
  have hF1 : F1 L = none := A1.sub.none hL
  generalize hH0 : hide (wipe σ vs) (Sw vs S1) pa H1 = H0' at B1 hHL
  have unb : ∀ {F H S}, Agr K F1 H0' pa (wipe σ vs) F H S → Agr K F0 H0 pa (wipe σ vs) F H S := fun B => (A1.wiped vs).unbase (by rw [← hH0] at B; exact B)
  let Inv := fun (i : Nat) (H : Hp) => ∃ F S acc vsa, Agr K F1 H0' pa (wipe σ vs) F H (Sw vs S) ∧ H L = some (.lst vsa) ∧ F L = none ∧ (∀ j, ¬ Own (wipe σ vs) (Sw vs S) j L) ∧ DnAll K F vsa acc ∧
    OutP (lcF t tt te vs (ds.drop i) S acc) (fun out S2 => TP K F0 H0 pa σ Fa Q (.o (.l out)) { S2 with r := backR S1.r S2.r vs }) (EW K W F0 H0 pa σ)
  have wid : ∀ (r : List R), wipeR (wipeR r vs) vs = wipeR r vs := fun r => List.ext_getElem? fun j => by
    rw [wipeR_get, wipeR_get]
    by_cases e : j ∈ vs
    · rw [if_pos e, if_pos e, wipeR_length]
    · rw [if_neg e, if_neg e]
  have start : Inv 0 (upd H1 L (.lst [])) := by
    refine ⟨F1, Sw vs S1, [], [], ?_, upd_same, hF1, fun j w => ?_, .nil, ?_⟩
    · have e : Sw vs (Sw vs S1) = Sw vs S1 := by
        unfold Sw
        show (⟨wipeR (wipeR S1.r vs) vs, S1.p⟩ : Sq) = _
        rw [wid]
      rw [e]
      exact B1.more (Ex.new hL)
    · have e : Sw vs (Sw vs S1) = Sw vs S1 := by
        unfold Sw
        show (⟨wipeR (wipeR S1.r vs) vs, S1.p⟩ : Sq) = _
        rw [wid]
      rw [e] at w
      exact B1.own_there w hL
    · rw [List.drop_zero]; exact z
  refine ⟨fun i m H => m = ds.length - i ∧ i ≤ ds.length ∧ Inv i H, ⟨ds.length, by simp, Nat.zero_le _, start⟩, ?_⟩
  rintro i m H ⟨rfl, hi, F, S, acc, vsa, A, hD, hFL, no, hacc, z⟩
  by_cases hlt : i < ds.length
  · refine .inr ⟨y.go i H (A.fF.trans A.sub) hlt, Inv (i + 1), fun H' h => ⟨ds.length - (i + 1), by omega, rfl, hlt, h⟩, fun x H' hy => ?_⟩
    have hd : ds.drop i = ds[i] :: ds.drop (i + 1) := List.drop_eq_getElem_cons hlt
    rw [hd] at z
    unfold lcF at z
    have gv := (y.yld i H x H' ds[i] (A.fF.trans A.sub) (List.getElem?_eq_getElem hlt) hy).up A.fF
    have A' := A.more1 hD hFL no fun _ z => nomatch z
    obtain ⟨F2, x2, A2, r2⟩ := A'.gives gv
    cases e2 : t.put { S with r := wipeR S.r vs } ds[i] with
    | none => rw [e2] at z; exact z.elim
    | some S1' =>
      rw [e2] at z
      dsimp only at z
      rw [OutP.bind] at z
      refine Tg.ok A2 r2 e2 fun σ2 A3 sb => ⟨wipe_same sb hs, ?_⟩
      have hw : wipe σ2 vs = wipe σ vs := wipe_same sb hs
      refine ⟨F, upd H0' L (.lst vsa), pa, F2, S1', A3, OutP.imp (OutP.quiet z) (fun bb S2 z F3 H3 x3 A4 => ?_) fun _ _ z => z⟩
      have back : ∀ {F5 H5 S5 us ys}, Agr K F (upd H0' L (.lst vsa)) pa σ2 F5 H5 S5 → DnAll K F5 us ys → Agr K F1 H0' pa (wipe σ vs) F5 (upd H5 L (.lst us)) (Sw vs S5) ∧ F5 L = none ∧ ∀ j, ¬ Own (wipe σ vs) (Sw vs S5) j L := fun {F5 H5 S5 us ys} B hu => by
        have C1 := A.deF (B.apart (ws := us) (B.hH L _ upd_same npa) npa hFL hHL)
        have C2 := C1.wiped vs
        rw [hw] at C2
        refine ⟨C2, ?_, fun j w => ?_⟩
        · cases q : F5 L with
          | none => rfl
          | some u =>
            rcases B.new L u q with z | z
            · rw [hFL] at z; cases z
            · rw [upd_same] at z; cases z
        · rw [← hw] at w
          have q := (B.ownN j L w.wipe.1).1
          rw [upd_same] at q; cases q
      cases bb with
      | false =>
        simp only [Bool.false_eq_true, if_false] at z ⊢
        obtain ⟨b1, b2, b3⟩ := back A4 (hacc.mono (x2.trans x3))
        have hD3 : H3 L = some (.lst vsa) := A4.hH L _ upd_same npa
        rw [upd_id hD3] at b1
        exact ⟨F3, S2, acc, vsa, b1, hD3, b2, b3, hacc.mono (x2.trans x3), z⟩
      | true =>
        simp only [if_true] at z ⊢
        rw [OutP.bind] at z
        refine ⟨F, upd H0' L (.lst vsa), pa, F3, S2, A4, OutP.imp (OutP.quiet z) (fun p S3 z v F4 H4 x4 A5 r5 => ?_) fun _ _ z => z⟩
        split at z
        · rename_i y' S4 e4
          split at z
          · rename_i hz
            obtain ⟨F5, x5, A6, d6⟩ := A5.keep r5 e4
            have hD4 : H4 L = some (.lst vsa) := A6.hH L _ upd_same npa
            have hu : DnAll K F5 (vsa ++ [v]) (acc ++ [y']) := (hacc.mono (x2.trans (x3.trans (x4.trans x5)))).append (.cons d6 .nil)
            obtain ⟨b1, b2, b3⟩ := back A6 hu
            exact ⟨vsa, hD4, by rw [hacc.length]; exact hz, F5, S4, acc ++ [y'], vsa ++ [v], b1, upd_same, b2, b3, hu, z⟩
          · exact z.elim
        · exact z.elim
  · have e : i = ds.length := by omega
    subst e
    rw [List.drop_length] at z
    refine .inl ⟨y.stop H (A.fF.trans A.sub), ?_⟩
    have z : TP K F0 H0 pa σ Fa Q (.o (.l acc)) { S with r := backR S1.r S.r vs } := z
    have U := unb A
    have lenS : S1.r.length = S.r.length := by
      have h1 := A1.len
      have h2 := A.len
      have h2 : (wipeR S.r vs).length = (wipe σ vs).length := h2
      rw [wipeR_length, wipe_length] at h2
      omega
    have slotEq : ∀ (j : Nat), j ∉ vs → (backR S1.r S.r vs)[j]? = (wipeR S.r vs)[j]? := fun j hj => by rw [backR_get _ _ lenS, wipeR_get, if_neg hj, if_neg hj]
    have plain : ∀ (j : Nat) (c : R), j ∈ vs → (backR S1.r S.r vs)[j]? = some c → S1.r[j]? = some c ∧ (c = .un ∨ ∃ x, c = .d x) := fun j c hj e => by
      rw [backR_get _ _ lenS, if_pos hj] at e
      refine ⟨e, ?_⟩
      have q := List.all_eq_true.mp hpl j hj
      rw [e] at q
      cases c with
      | un => exact .inl rfl
      | d x => exact .inr ⟨x, rfl⟩
      | l xs => cases q
      | m kvs => cases q
      | e c => cases q
      | sc ns => cases q
      | pen => cases q
    have own : ∀ j a, Own σ { S with r := backR S1.r S.r vs } j a → Own (wipe σ vs) (Sw vs S) j a := fun j a w => by
      obtain ⟨w1, w2⟩ := w
      by_cases hj : j ∈ vs
      · exfalso
        rcases w2 with ⟨xs, w2⟩ | ⟨kvs, w2⟩
        · rcases (plain j _ hj w2).2 with q | ⟨_, q⟩ <;> cases q
        · rcases (plain j _ hj w2).2 with q | ⟨_, q⟩ <;> cases q
      · refine ⟨by rw [wipe_get, if_neg hj]; exact w1, ?_⟩
        rcases w2 with ⟨xs, w2⟩ | ⟨kvs, w2⟩
        · exact .inl ⟨xs, by rw [← w2]; exact (slotEq j hj).symm⟩
        · exact .inr ⟨kvs, by rw [← w2]; exact (slotEq j hj).symm⟩
    have Afin : Agr K F0 H0 pa σ F H { S with r := backR S1.r S.r vs } := by
      refine ⟨U.fF, U.sub, U.hH, U.tabs, U.ft, U.n0, U.new, ?_, fun j c e => ?_, fun j l a p q => U.dist j l a (own j a p) (own l a q), fun j a p => U.ownN j a (own j a p), U.pen⟩
      · show (backR S1.r S.r vs).length = _
        rw [backR_length, ← lenS]
        exact A1.len
      · by_cases hj : j ∈ vs
        · obtain ⟨e1, e2⟩ := plain j c hj e
          have so := A1.slots j c e1
          rcases e2 with rfl | ⟨x, rfl⟩
          · trivial
          · obtain ⟨w, p1, p2⟩ := so
            exact ⟨w, p1, p2.mono A.fF⟩
        · have e' : (wipeR S.r vs)[j]? = some c := by rw [← slotEq j hj]; exact e
          have so := U.slots j c e'
          rw [wipe_get, if_neg hj] at so
          exact so
    refine z _ F H (x1.trans A.fF) Afin ⟨L, vsa, rfl, hD, hFL, hacc, A1.fresh0 hL npa, fun j w => no j (own j L w), npa⟩
theorem de_lc {ifs : List Expr} {scope : Scope} {own : List (Str × Nat)} (C : Cq G k N sc X) (hi : DI X W tg it fi) (ok : blkC N sc scope own = true)
    (hg : ∀ X' : Cx, Cq G k N (relS scope sc) X' → (∀ x, X'.fn x = (scope.names.lookup x == some .cell)) → PG X' tg (t.rd X'.K)) (ht : ∀ X' : Cx, Cq G k N (relS scope sc) X' → Takes X' WF0 → DTs X' WF0 ifs tt)
    (he : ∀ X' : Cx, Cq G k N (relS scope sc) X' → Takes X' WF0 → DE X' WF0 elt te) (hsub : ∀ i ∈ t.is, i ∈ own.map (·.2) := by decide) (hs : ∀ x, foldedSetIterable it X.env x = pure x := by intro _; rfl) :
    DE X W (.ListComp elt [⟨tg, it, ifs, 0⟩] scope pos) (lcS t fi tt te (own.map (·.2))) := by
  have ok' : BlkOk X.N X.env.scope scope own := by rw [C.names, C.scope]; exact blkOk_by ok
  exact PE.weak (pe_lc C.calm (by rw [C.names]; exact C.nd) hi ok' (fun s H A0 cl fp => hg _ C.blk fun _ => rfl) (fun s H A0 cl fp => ht _ C.blk takes0) (fun s H A0 cl fp => de_fz (he _ C.blk takes0)) hs) fun σ H Q z => rd_lc hsub z
/-- name = [..] on one line -/
theorem ds_setLc (i : Nat) {ifs : List Expr} {scope : Scope} {own : List (Str × Nat)} {x : Str} {p : Pos} (C : Cq G k N sc X) (hi : DI X W tg it fi) (ok : blkC N sc scope own = true)
    (hg : ∀ X' : Cx, Cq G k N (relS scope sc) X' → (∀ x, X'.fn x = (scope.names.lookup x == some .cell)) → PG X' tg (t.rd X'.K)) (ht : ∀ X' : Cx, Cq G k N (relS scope sc) X' → Takes X' WF0 → DTs X' WF0 ifs tt)
    (he : ∀ X' : Cx, Cq G k N (relS scope sc) X' → Takes X' WF0 → DE X' WF0 elt te) (hsub : ∀ i ∈ t.is, i ∈ own.map (·.2) := by decide) (hs : ∀ x, foldedSetIterable it X.env x = pure x := by intro _; rfl) {pos' : Pos}
    (hN : N[i]? = some x := by rfl) (hx : sc.names.lookup x = some .local := by rfl) (hk : sc.kind = .function := by rfl) (hl : (p.line == pos.line) = true := by rfl) (ha : (scope.names.any fun (n, k) => n == x && (k == .local || k == .cell)) = false := by decide +kernel) :
    DS X W (.Assign [.Name x p] (.ListComp elt [⟨tg, it, ifs, 0⟩] scope pos) pos') (setF i (lcS t fi tt te (own.map (·.2)))) := by
  have ok' : BlkOk X.N X.env.scope scope own := by rw [C.names, C.scope]; exact blkOk_by ok
  refine PS.weak (ps_setLc (wi := rdI X.K W fi) (g := t.rd X.K) (tt := rdT X.K WF0 tt) (te := rd X.K WF0 (fzF te)) C.calm (by rw [C.names]; exact C.nd) (by rw [C.names]; exact hN) (by rw [C.scope]; exact hx) (sw_true (by rw [C.scope]; exact hk) (by rw [C.scope]; exact hx) hl ha) hi ok' (fun s H A0 cl fp => hg _ C.blk fun _ => rfl) (fun s H A0 cl fp => ht _ C.blk takes0) (fun s H A0 cl fp => de_fz (he _ C.blk takes0)) hs) fun Z σ H z => ?_
  have q := rs_set z
  exact rd_lc (W := W) hsub q
end
end Q3
/-! Q3h: defs and their calls. -/
namespace Q3
open PySem PySem.Spec PyProof.Rows L2
variable [TabSet]
/-- what a def computes: of its arguments and the pen, a value and the pen -/
abbrev Fd := List R → Option Pen → Out R
def ArgR (K : PySem.W.Frag) (pa : Option Addr) (F : Hp) (v : V) : R → Prop
  | .d x => Dn K F v x
  | .pen => ∃ q, pa = some q ∧ v = .ref q
  | .sc ns => ∃ a, v = .ref a ∧ SqL K F a (ns.map .int)
  | _ => False
def spF (K : PySem.W.Frag) (f : Fd) : Sp := fun vs H Q E => ∃ F0 H0 pa rs p, Agr K F0 H0 pa [] F0 H ⟨[], p⟩ ∧ Paired (ArgR K pa F0) vs rs ∧
  OutP (f rs p) (fun r S' => ∀ v F' H', Agr K F0 H0 pa [] F' H' ⟨[], S'.p⟩ → RelR K H0 pa F' H' S'.p v r → Q v H') (fun c S' => ∀ F' H', Agr K F0 H0 pa [] F' H' ⟨[], S'.p⟩ → E (.ref (He.ga K c)) none H')
/-- a def that keeps its promise where no repr is around -/
structure FnG (G : Gb) (k : Nat) (f : Addr) (fd : FuncData) (ps : List Str) (sp : Sp) : Prop where
  len : ∀ vs H Q E, sp vs H Q E → vs.length = ps.length
  run : ∀ (A : Around) (outer : List Env) (s : Shared) (H : Hp) (args : Args) (us : List Value) (vs : List V) (Q : VK) (E : XK), Room k A → (G.gr → A.guards = some []) → Env0 G.P G.w G.K G.mg G.base A outer s H → BindsTo s fd args (ps.zip us) → Vals vs us → sp vs H Q E →
    codeAny (model G.P G.w) A (.call (.ref f) args) (CR (L2.CX G.P G.w) outer G.P G.w H s Q E) s
theorem FnG.mono {G : Gb} {j k : Nat} {f : Addr} {fd : FuncData} {ps : List Str} {sp : Sp} (F : FnG G j f fd ps sp) (h : j ≤ k) : FnG G k f fd ps sp := ⟨F.len, fun A outer s H args us vs Q E hr => F.run A outer s H args us vs Q E (hr.mono h)⟩
theorem FnG.imp {G : Gb} {k : Nat} {f : Addr} {fd : FuncData} {ps : List Str} {sp sp' : Sp} (F : FnG G k f fd ps sp) (h : ∀ vs H Q E, sp' vs H Q E → sp vs H Q E) : FnG G k f fd ps sp' :=
  ⟨fun vs H Q E q => F.len vs H Q E (h _ _ _ _ q), fun A outer s H args us vs Q E hr hg he hb hv hs => F.run A outer s H args us vs Q E hr hg he hb hv (h _ _ _ _ hs)⟩
theorem fn_ofG {G : Gb} {k : Nat} {f : Addr} {name qual : Str} {params : Arguments} {body : List Stmt} {scope : Scope} {dV kV doc pm cdv ct oc : Value} {an od : Option Addr}
    {osl : Array (Option Value)} {N ps : List Str} {sp : Sp} (lk : G.K.lookup f = some ⟨oc, od, .func (PySem.W.fnOf name qual params body scope dV kV doc pm an cdv ct), osl⟩) (hcd : PySem.W.codeIn G.K cdv qual = true) (S : FnScope N ps scope)
    (len : ∀ vs H Q E, sp vs H Q E → vs.length = ps.length)
    (hbody : ∀ (A : Around) (outer : List Env) (s : Shared) (H : Hp) (vs : List V) (Q : VK) (E : XK), Room k (A.deeper (envOfC qual scope s.heap.objs.size f cdv)) → (G.gr → A.guards = some []) → sp vs H Q E →
      ∃ t, PSs (cxOf (L2.CX G.P G.w) G.P G.w G.K G.mg G.base N qual scope f cdv A outer s H E) body t ∧ t { nx := fun _ H' => Q .non H', rt := Q } (L2.start N vs) H) :
    FnG G (k + 1) f (PySem.W.fnOf name qual params body scope dV kV doc pm an cdv ct) ps sp := by
  refine ⟨len, fun A outer s H args us vs Q E hr hgd e0 hb r hsp => ?_⟩
  have hl := len _ _ _ _ hsp
  have KX : G.K.In s.heap := e0.mod.kin.keeps fun b o e => (e0.bs b o e).1
  have lim : s.heap.NoLimit := e0.mod.nolimit.keeps fun b o e => (e0.bs b o e).1
  have hkind : ∀ y ∈ ps.zip us, scope.names.lookup y.1 = some .local ∨ (scope.names.lookup y.1 = some .cell ∧ ((cellsFrom (s.heap.objs.size + 1) scope.names []).lookup y.1).isSome = true) := fun ⟨n, v⟩ hy => by
    rcases S.par n (List.of_mem_zip hy).1 with q | q
    · exact .inl q
    · exact .inr ⟨q, PySem.W.cellsFrom_some _ _ _ (.inl q)⟩
  refine codeAny_call_function hr.depth (KX _ _ lk) rfl S.co S.gen rfl (PySem.W.codeRec_of KX hcd) (hb _ _ _ _ ?_)
  refine wpAny_newFunctionEnv_cells S.kind hkind fun env he s1 x => ?_
  subst he
  refine ⟨lim.keeps x.toInCall.keep, codeAny_func ?_⟩
  obtain ⟨t, ht, hq⟩ := hbody A outer s H vs Q E (hr.deeper _) hgd hsp
  have I : Inv (cxOf (L2.CX G.P G.w) G.P G.w G.K G.mg G.base N qual scope f cdv A outer s H E) [] (L2.start N vs) H s1 := inv_start S hr.hd e0 hl r x
  refine wpAny_mono (ht.run [] s1 (L2.start N vs) H _ I hq) (fun fl s' hs => ?_) fun e s' hs => hs
  have fin : ∀ {σ' : L2.St} {H' : Hp} {v : V} {u : Value}, Inv (cxOf (L2.CX G.P G.w) G.P G.w G.K G.mg G.base N qual scope f cdv A outer s H E) [] σ' H' s' → RelV v u → Q v H' → CE outer G.P G.w H s Q u s' :=
    fun {σ' H' v u} J rv q => ⟨v, H', J.os, J.bare, J.base, J.hok, rv, q⟩
  cases fl with
  | ret u =>
    obtain ⟨v, σ', H', J, rv, q⟩ := hs
    exact fin J rv q
  | next =>
    obtain ⟨σ', H', J, q⟩ := hs
    exact fin (v := V.non) (u := Value.none) J rfl q
  | brk =>
    obtain ⟨_, _, _, q⟩ := hs
    exact False.elim q
  | cont =>
    obtain ⟨_, _, _, q⟩ := hs
    exact False.elim q
/-- the body's function as the def's -/
def runB (n : Nat) (g : Sq → Fl) : Fd := fun rs p => match g ⟨rs ++ List.replicate (n - rs.length) .un, p⟩ with
  | .nx S => .ok (.d .none) S
  | .rt r S => .ok r S
  | .ex c S => .ex c S
  | _ => .no
theorem Own.none {S : Sq} {i : Nat} {a : Addr} (h : Own [] S i a) : False := by
  have := h.1
  simp at this
theorem Agr.drop {K : PySem.W.Frag} {F0 H0 F H : Hp} {pa : Option Addr} {σ : L2.St} {S : Sq} (A : Agr K F0 H0 pa σ F H S) : Agr K F0 H0 pa [] F H ⟨[], S.p⟩ :=
  ⟨A.fF, A.sub, A.hH, A.tabs, A.ft, A.n0, A.new, rfl, fun i c e => by simp at e, fun i j a h => h.none.elim, fun i a h => h.none.elim, A.pen⟩
theorem paired_get {α β : Type} {P : α → β → Prop} : ∀ {xs : List α} {ys : List β} {i : Nat} {y : β}, Paired P xs ys → ys[i]? = some y → ∃ x, xs[i]? = some x ∧ P x y
  | _, _, _, _, .nil, e => by simp at e
  | _, _, 0, _, .cons h _, e => by simp at e; subst e; exact ⟨_, rfl, h⟩
  | _, _, i + 1, y, .cons _ t, e => by
    obtain ⟨x, e1, e2⟩ := paired_get (i := i) t (by simpa using e)
    exact ⟨x, by simpa using e1, e2⟩
theorem paired_length {α β : Type} {P : α → β → Prop} : ∀ {xs : List α} {ys : List β}, Paired P xs ys → xs.length = ys.length
  | _, _, .nil => rfl
  | _, _, .cons _ t => by simp [paired_length t]
/-- THE RULE: a def whose body's function is g -/
theorem fnG {G : Gb} {k n : Nat} {x qual : Str} {params : Arguments} {body : List Stmt} {scope : Scope} {kws : List (Str × V)} {f : Addr} {fd : FuncData} {N ps : List Str} {dvs : List V} {g : Sq → Fl} (F : L2.FunD G.K x qual params body scope dvs kws f fd) (S : FnScope N ps scope) (hn : N.length = n)
    (hb : ∀ X W, Cq G k N scope X → (∀ x, X.fn x = true) → Takes X W → X.env.qual = qual ++ ".<locals>." → X.env.code = fd.code → DSs X W body g) : FnG G (k + 1) f fd ps (fun vs H Q E => vs.length = ps.length ∧ spF G.K (runB n g) vs H Q E) := by
  obtain ⟨oc, od, dV, kV, doc, pm, an, cdv, ct, osl, rfl, lk, hcd, _, _⟩ := F.ex
  refine fn_ofG lk hcd S (fun _ _ _ _ h => h.1) fun A outer s H vs Q E hr hgd hsp => ?_
  obtain ⟨hl, F0, H0, pa, rs, p, A0, pr, z⟩ := hsp
  have C : Cq G k N scope (cxOf (L2.CX G.P G.w) G.P G.w G.K G.mg G.base N qual scope f cdv A outer s H E) := ⟨rfl, S.nd, rfl, hr, hgd, rfl, passes_of rfl, rfl, rfl, rfl, rfl, rfl⟩
  refine ⟨_, hb _ (fun cls d _ H => E cls d H) C (fun _ => rfl) (takes_of rfl rfl rfl rfl) rfl rfl, F0, H0, pa, F0, ⟨rs ++ List.replicate (n - rs.length) .un, p⟩, ?_, ?_⟩
  · have hlr := paired_length pr
    have hps : ps.length ≤ N.length := by
      have := congrArg List.length S.pre
      rw [List.length_take] at this
      omega
    refine ⟨Ex.refl _, A0.sub, A0.hH, A0.tabs, A0.ft, A0.n0, fun a o h => .inl h, ?_, fun i c e => ?_, fun i j a h => ?_, fun i a h => ?_, A0.pen⟩
    · show (rs ++ List.replicate (n - rs.length) R.un).length = (L2.start N vs).length
      unfold L2.start
      simp only [List.length_append, List.length_replicate, List.length_map]
      omega
    · have e : (rs ++ List.replicate (n - rs.length) R.un)[i]? = some c := e
      by_cases hi : i < rs.length
      · rw [List.getElem?_append_left hi] at e
        obtain ⟨v, e1, e2⟩ := paired_get pr e
        have es : (L2.start N vs)[i]? = some (some v) := by
          unfold L2.start
          rw [List.getElem?_append_left (by rw [List.length_map, hlr]; exact hi), List.getElem?_map, e1]
          rfl
        rw [es]
        cases c with
        | d x => exact ⟨v, rfl, e2⟩
        | pen => obtain ⟨q, q1, rfl⟩ := e2; exact ⟨q, q1, rfl⟩
        | un => trivial
        | l xs => exact False.elim e2
        | m kvs => exact False.elim e2
        | e c => exact False.elim e2
        | sc ns => obtain ⟨q, rfl, q2⟩ := e2; exact ⟨q, rfl, q2⟩
      · rw [List.getElem?_append_right (by omega), List.getElem?_replicate] at e
        split at e
        · cases e; trivial
        · cases e
    · exfalso
      rcases h.2 with ⟨xs, e⟩ | ⟨kvs, e⟩
      · have e : (rs ++ List.replicate (n - rs.length) R.un)[i]? = some (.l xs) := e
        by_cases hi : i < rs.length
        · rw [List.getElem?_append_left hi] at e
          obtain ⟨v, e1, e2⟩ := paired_get pr e
          exact e2
        · rw [List.getElem?_append_right (by omega), List.getElem?_replicate] at e
          split at e <;> cases e
      · have e : (rs ++ List.replicate (n - rs.length) R.un)[i]? = some (.m kvs) := e
        by_cases hi : i < rs.length
        · rw [List.getElem?_append_left hi] at e
          obtain ⟨v, e1, e2⟩ := paired_get pr e
          exact e2
        · rw [List.getElem?_append_right (by omega), List.getElem?_replicate] at e
          split at e <;> cases e
    · exfalso
      rcases h.2 with ⟨xs, e⟩ | ⟨kvs, e⟩
      · have e : (rs ++ List.replicate (n - rs.length) R.un)[i]? = some (.l xs) := e
        by_cases hi : i < rs.length
        · rw [List.getElem?_append_left hi] at e
          obtain ⟨v, e1, e2⟩ := paired_get pr e
          exact e2
        · rw [List.getElem?_append_right (by omega), List.getElem?_replicate] at e
          split at e <;> cases e
      · have e : (rs ++ List.replicate (n - rs.length) R.un)[i]? = some (.m kvs) := e
        by_cases hi : i < rs.length
        · rw [List.getElem?_append_left hi] at e
          obtain ⟨v, e1, e2⟩ := paired_get pr e
          exact e2
        · rw [List.getElem?_append_right (by omega), List.getElem?_replicate] at e
          split at e <;> cases e
  · unfold runB at z
    cases o : g ⟨rs ++ List.replicate (n - rs.length) .un, p⟩ with
    | nx S' => rw [o] at z; exact fun σ' F' H' A' => z .non F' H' A'.drop .non
    | rt r S' => rw [o] at z; exact fun σ' v F' H' A' q => z v F' H' A'.drop q
    | bk S' => rw [o] at z; exact z.elim
    | ct S' => rw [o] at z; exact z.elim
    | ex c S' => rw [o] at z; exact fun σ' F' H' A' => z F' H' A'.drop
    | no => rw [o] at z; exact z.elim
/-! ### calls -/
def Sq.argK (S : Sq) : PV → Option (R × Sq)
  | .v x => some (.d x, S)
  | .s i => match S.r[i]? with
    | some (.d x) => some (.d x, S)
    | some (.l xs) => some (.d (.list xs), { S with r := S.r.set i (.d (.list xs)) })
    | some .pen => some (.pen, S)
    | some (.sc ns) => some (.sc ns, S)
    | _ => none
  | .o _ => none
def argsK : Sq → List PV → Option (List R × Sq)
  | S, [] => some ([], S)
  | S, p :: ps => match S.argK p with
    | some (r, S1) => (match argsK S1 ps with
      | some (rs, S2) => some (r :: rs, S2)
      | none => none)
    | none => none
theorem ArgR.mono {K : PySem.W.Frag} {pa : Option Addr} {F F' : Hp} {v : V} {r : R} (h : ArgR K pa F v r) (x : Ex F F') : ArgR K pa F' v r := by
  cases r with
  | d y => exact Dn.mono x h
  | pen => exact h
  | un => exact False.elim h
  | l xs => exact False.elim h
  | m kvs => exact False.elim h
  | e c => exact False.elim h
  | sc ns => obtain ⟨q, q1, q2⟩ := h; exact ⟨q, q1, ex_l x q2⟩
theorem Agr.argK {K : PySem.W.Frag} {F0 H0 F H : Hp} {pa : Option Addr} {σ : L2.St} {S S' : Sq} {v : V} {pv : PV} {c : R} (A : Agr K F0 H0 pa σ F H S) (r : RelP K H0 pa σ F H S v pv) (e : S.argK pv = some (c, S')) :
    ∃ F', Ex F F' ∧ Agr K F0 H0 pa σ F' H S' ∧ ArgR K pa F' v c := by
  cases pv with
  | v x => cases e; exact ⟨F, Ex.refl F, A, r⟩
  | o q => cases e
  | s i =>
    unfold Sq.argK at e
    dsimp only at e
    cases q : S.r[i]? with
    | none => rw [q] at e; cases e
    | some y =>
      rw [q] at e
      cases y with
      | d x =>
        cases e
        obtain ⟨w, e1, e2⟩ := A.slots i _ q
        rw [show σ[i]? = some (some v) from r] at e1; cases e1
        exact ⟨F, Ex.refl F, A, e2⟩
      | l xs =>
        cases e
        obtain ⟨F', a, vs, x, e1, e2, e3, A'⟩ := A.frozen q
        rw [show σ[i]? = some (some v) from r] at e1; cases e1
        exact ⟨F', x, A', .lst e2 e3⟩
      | pen =>
        cases e
        obtain ⟨p, e1, e2⟩ := A.slots i _ q
        rw [show σ[i]? = some (some v) from r] at e2; cases e2
        exact ⟨F, Ex.refl F, A, p, e1, rfl⟩
      | un => cases e
      | m kvs => cases e
      | e c => cases e
      | sc ns =>
        cases e
        obtain ⟨w, e1, e2⟩ := A.slots i _ q
        rw [show σ[i]? = some (some v) from r] at e1; cases e1
        exact ⟨F, Ex.refl F, A, w, rfl, e2⟩
theorem argK_frz {S S' : Sq} {p : PV} {c : R} (e : S.argK p = some (c, S')) : Frz p := fun q z => by
  rw [z] at e
  cases e
theorem argsK_frz : ∀ {ps : List PV} {S S' : Sq} {rs : List R}, argsK S ps = some (rs, S') → ∀ p ∈ ps, Frz p
  | [], _, _, _, _, p, hp => by cases hp
  | p :: ps, S, S', rs, h, q, hq => by
    unfold argsK at h
    cases y : S.argK p with
    | none => rw [y] at h; cases h
    | some t =>
      obtain ⟨c, S1⟩ := t
      rw [y] at h
      dsimp only at h
      cases y2 : argsK S1 ps with
      | none => rw [y2] at h; cases h
      | some t2 =>
        obtain ⟨cs, S2⟩ := t2
        rcases List.mem_cons.mp hq with rfl | hq
        · exact argK_frz y
        · exact argsK_frz y2 q hq
theorem relP_all {K : PySem.W.Frag} {H0 F H F' H' : Hp} {pa : Option Addr} {σ : L2.St} {S S' : Sq} (x : Ex F F') : ∀ {vs : List V} {ps : List PV}, Paired (RelP K H0 pa σ F H S) vs ps → (∀ p ∈ ps, Frz p) → Paired (RelP K H0 pa σ F' H' S') vs ps
  | _, _, .nil, _ => .nil
  | _, _, .cons a t, f => .cons (a.anyS (f _ List.mem_cons_self) x) (relP_all x t fun p hp => f p (List.mem_cons_of_mem _ hp))
theorem Agr.argsK {K : PySem.W.Frag} {F0 H0 : Hp} {pa : Option Addr} {σ : L2.St} : ∀ {ps : List PV} {S S' : Sq} {F H : Hp} {vs : List V} {rs : List R}, Agr K F0 H0 pa σ F H S → Paired (RelP K H0 pa σ F H S) vs ps → Q3.argsK S ps = some (rs, S') →
    ∃ F', Ex F F' ∧ Agr K F0 H0 pa σ F' H S' ∧ Paired (ArgR K pa F') vs rs
  | [], S, S', F, H, vs, rs, A, r, e => by
    cases r
    cases e
    exact ⟨F, Ex.refl F, A, .nil⟩
  | p :: ps, S, S', F, H, vs, rs, A, r, e => by
    cases r with
    | @cons v _ vs' _ r1 r2 =>
      unfold Q3.argsK at e
      cases q : S.argK p with
      | none => rw [q] at e; cases e
      | some t =>
        obtain ⟨c, S1⟩ := t
        rw [q] at e
        dsimp only at e
        cases q2 : Q3.argsK S1 ps with
        | none => rw [q2] at e; cases e
        | some t2 =>
          obtain ⟨cs, S2⟩ := t2
          rw [q2] at e
          cases e
          obtain ⟨F1, x1, A1, d1⟩ := A.argK r1 q
          obtain ⟨F2, x2, A2, d2⟩ := Agr.argsK A1 (relP_all x1 r2 (argsK_frz q2)) q2
          exact ⟨F2, x1.trans x2, A2, .cons (d1.mono x2) d2⟩
def toPV : R → Option PV
  | .d x => some (.v x)
  | .l xs => some (.o (.l xs))
  | _ => none
/-- f(..): own lists among the arguments are frozen -/
def callF (f : Fd) (fs : Sq → Out (List PV)) : Sq → Out PV := fun S => (fs S).bind fun ps S1 => match argsK S1 ps with
  | some (rs, S2) => (match f rs S2.p with
    | .ok r S3 => (match toPV r with
      | some z => .ok z { S2 with p := S3.p }
      | none => .no)
    | .ex c S3 => .ex c { S2 with p := S3.p }
    | .no => .no)
  | none => .no
/-- behind a call -/
theorem Agr.called {K : PySem.W.Frag} {F0 H0 F H F' H' : Hp} {pa : Option Addr} {σ : L2.St} {S : Sq} {p : Option Pen} (A : Agr K F0 H0 pa σ F H S) (B : Agr K F (bareT H) pa [] F' H' ⟨[], p⟩) : Agr K F0 H0 pa σ F' H' { S with p := p } := by
  refine ⟨A.fF.trans B.fF, B.sub, fun a o h n => B.hH a o (bareT_of (A.hH a o h n) fun ps z => A.n0 a ps (by rw [h, z])) n, B.tabs, B.ft, A.n0, fun a o h => ?_, A.len, fun i c e => ?_, A.dist, A.ownN, B.pen⟩
  · rcases B.new a o h with z | z
    · exact A.new a o z
    · refine .inr ?_
      exact A.freshT z (A.nopenT z)
  · have so := A.slots i c e
    cases c with
    | un => trivial
    | d x => obtain ⟨w, e1, e2⟩ := so; exact ⟨w, e1, e2.mono B.fF⟩
    | l xs =>
      obtain ⟨a, vs, e1, e2, e3, e4⟩ := so
      have w : Own σ S i a := ⟨e1, .inl ⟨xs, e⟩⟩
      refine ⟨a, vs, e1, B.hH a _ (bareT_of e2 fun _ z => nomatch z) (A.ownN i a w).2, ?_, e4.mono B.fF⟩
      cases q : F' a with
      | none => rfl
      | some u =>
        rcases B.new a u q with z | z
        · rw [e3] at z; cases z
        · rw [bareT_of e2 fun _ z => nomatch z] at z; cases z
    | m kvs => exact so
    | e c => obtain ⟨w, z1, z2⟩ := so; exact ⟨w, z1, B.fF _ _ z2⟩
    | sc ns => obtain ⟨w, z1, z2⟩ := so; exact ⟨w, z1, ex_l B.fF z2⟩
    | pen => exact so
theorem RelR.toP {K : PySem.W.Frag} {F0 H0 F H F' H' : Hp} {pa : Option Addr} {σ : L2.St} {S : Sq} {p : Option Pen} {v : V} {r : R} {z : PV} (A : Agr K F0 H0 pa σ F H S) (B : Agr K F (bareT H) pa [] F' H' ⟨[], p⟩) (h : RelR K (bareT H) pa F' H' p v r) (e : toPV r = some z) : RelP K H0 pa σ F' H' { S with p := p } v z := by
  cases r with
  | d x => cases e; exact h
  | l xs =>
    cases e
    obtain ⟨t, vs, rfl, h1, h2, h3, h4, _, h6⟩ := h
    exact ⟨t, vs, rfl, h1, h2, h3, A.freshT h4 h6, fun i w => A.own_thereT w h4, h6⟩
  | un => cases e
  | m kvs => cases e
  | e c => cases e
  | sc ns => cases e
  | pen => cases e
section
variable {X : Cx} {W : WX} {N : List Str} {sc : Scope} {k j : Nat} {G : Gb} {x : Str} {p pos : Pos} {e : Expr} {es : List Expr} {fs : Sq → Out (List PV)} {f : Addr} {fd : FuncData} {ps : List Str} {fn : Fd}
theorem de_call (C : Cq G k N sc X) (tk : Takes X W) (F : FnG G j f fd ps (fun vs H Q E => vs.length = ps.length ∧ spF G.K fn vs H Q E)) (hj : j ≤ k) (hg : Gl X x) (hm : G.mg x = some (.ref f)) (hk : PySem.W.keepIn G.K (.ref f) = true) (hb : Binds G.K fd ps []) (hlen : (e :: es).length = ps.length)
    (ha : DA X W (e :: es) fs) (hdb : (x == ("__debug__" : Str)) = false := by decide) (he : starEach (e :: es) X.env = (false, eval e X.env) :: starEach es X.env := by rfl) (hpl : (backTo pos (starEach es X.env)).any (·.1) = false := by rfl) (hfl : ∀ S ps S', fs S = .ok ps S' → ps.length = (e :: es).length) :
    DE X W (.Call (.Name x p) (e :: es) [] pos) (callF fn fs) := by
  obtain ⟨c1, c2, c3, c4, c5, c6, c7, c8, c9, c10, c11, c12⟩ := C
  refine ⟨fun pins s σ H Q I h => ?_⟩
  obtain ⟨F0, H0, pa, F1, S, A, z⟩ := h
  refine wpAny_Call_Name_kw (ld_glob I hg (by rw [c11]; exact hm) ?_ hdb)
  have KIn : X.K.In X.base := I.ok.mod.kin
  refine PySem.W.callWith_K (h₀ := X.base) KIn (by rw [c10]; exact hk) (thn (ha.run pos pins s σ H (fun vs H1 => ∃ F2 S1 qs, Ex F1 F2 ∧ Agr X.K F0 H0 pa σ F2 H1 S1 ∧ Paired (RelP X.K H0 pa σ F2 H1 S1) vs qs ∧ qs.length = (e :: es).length ∧ OutP (match argsK S1 qs with
    | some (rs, S2) => (match fn rs S2.p with
      | .ok r S3 => (match toPV r with
        | some z => Out.ok z { S2 with p := S3.p }
        | none => .no)
      | .ex c S3 => .ex c { S2 with p := S3.p }
      | .no => .no)
    | none => .no) (TP X.K F0 H0 pa σ F1 Q) (EW X.K W F0 H0 pa σ)) I ⟨F0, H0, pa, F1, S, A, ?_⟩) fun us s1 ⟨vs, H1, I1, r, q⟩ => ⟨I1.kIn, ?_⟩) he hpl
  · unfold callF at z
    rw [OutP.bind] at z
    cases o : fs S with
    | no => rw [o] at z; exact z.elim
    | ex c S' => rw [o] at z; exact z
    | ok qs S1 =>
      rw [o] at z
      exact fun vs F2 H2 x2 A2 r2 => ⟨F2, S1, qs, x2, A2, r2, hfl S qs S1 o, z⟩
  · obtain ⟨F2, S1, qs, x2, A2, r2, hql, z⟩ := q
    cases q1 : argsK S1 qs with
    | none => rw [q1] at z; exact z.elim
    | some t =>
      obtain ⟨rs, S2⟩ := t
      rw [q1] at z
      dsimp only at z
      obtain ⟨F3, x3, A3, pr⟩ := A2.argsK r2 q1
      have hvl : vs.length = ps.length := by rw [paired_length r2, hql, hlen]
      have b := hb s1 us (by rw [← c10]; exact I1.kIn) (by rw [List.append_nil, ← r.length]; exact hvl)
      rw [List.append_nil] at b
      have A3' : Agr G.K F3 (bareT H1) pa [] F3 H1 ⟨[], S2.p⟩ := by
        rw [← c10]
        exact ⟨Ex.refl _, A3.sub, fun a o h _ => (bareT_some h).1, A3.tabs, A3.ft, bareT_free, fun a o h => .inl h, rfl, fun i c e => by simp at e, fun i j a h => h.none.elim, fun i a h => h.none.elim, A3.pen⟩
      have e0 : Env0 G.P G.w G.K G.mg G.base X.A X.stack s1 H1 := by
        have := I1.env0
        rw [c8, c9, c10, c11, c12] at this
        exact this
      have sp : spF G.K fn vs H1 (fun v H' => Q v H') (fun cls d H' => W cls d σ H') := by
        refine ⟨F3, bareT H1, pa, rs, S2.p, A3', by rw [← c10]; exact pr, ?_⟩
        cases of : fn rs S2.p with
        | no => rw [of] at z; exact z.elim
        | ok r S3 =>
          rw [of] at z
          intro v F' H' B q
          dsimp only at z
          split at z
          · rename_i w e1
            rw [← c10] at B q
            exact z v F' H' (x2.trans (x3.trans B.fF)) (A3.called B) (RelR.toP A3 B q e1)
          · exact z.elim
        | ex c S3 =>
          rw [of] at z
          intro F' H' B
          rw [← c10] at B ⊢
          exact z F' H' (A3.called B)
      refine wpAny_call ?_
      have run := F.run X.A X.stack s1 H1 ⟨us, []⟩ us vs Q (fun cls d H' => W cls d σ H') (c4.mono hj) c5 e0 b r ⟨hvl, sp⟩
      rw [c8, c9]
      refine codeAny_mono run fun r' s' hq => ?_
      cases r' with
      | error e' =>
        refine tk e' s' (XE.of_call I1 (fun cls d H' h => h) ?_)
        rw [c8, c9]
        exact hq
      | ok fl =>
        cases fl with
        | ret u => exact I1.after (by rw [c8, c9]; exact hq)
        | next => exact False.elim hq
        | brk => exact False.elim hq
        | cont => exact False.elim hq
end
end Q3
/-! Q3i: targets, globals, built-ins. -/
namespace Q3
open PySem PySem.Spec PyProof.Rows L2
variable [TabSet]
section
variable {X : Cx} {W : WX} {a b c e : Expr} {es : List Expr} {fa fb fc : Sq → Out PV} {pos : Pos} {N : List Str} {sc : Scope} {k : Nat} {G : Gb} {x : Str}
theorem glC (C : Cq G k N sc X) (h : sc.names.lookup x = some .globalImplicit) : Gl X x := by
  show X.env.scope.names.lookup x = _
  rw [C.scope]; exact h
theorem mgC (C : Cq G k N sc X) {o : Option Value} (h : G.mg x = o) : X.mg x = o := by rw [C.mg]; exact h
/-! ### targets -/
theorem dg_nm (i : Nat) (C : Cq G k N sc X) (hi : N[i]? = some x) (hx : Loc sc x) (hf : X.fn x = true ∨ sc.names.lookup x = some .local) : PG X (.Name x pos) ((Tg.nm i).rd X.K) :=
  pg_name (by rw [C.names]; exact C.nd) (by rw [C.names]; exact hi) (by rw [C.scope]; exact hx) (by rw [C.scope]; exact hf)
theorem dgs_nil : PGs X [] (gNs []) := pgs_nil
theorem dgs_cons (i : Nat) {is : List Nat} (C : Cq G k N sc X) (hi : N[i]? = some x) (hx : Loc sc x) (hf : X.fn x = true ∨ sc.names.lookup x = some .local) (h2 : PGs X es (gNs is))
    (hs : (assignEach (.Name x pos :: es) X.env).map (·.2) = assign (.Name x pos) X.env :: (assignEach es X.env).map (·.2) := by rfl) : PGs X (.Name x pos :: es) (gNs (i :: is)) :=
  pgs_cons (t := gName i) (u := gNs is) (dg_nm i C hi hx hf) h2 hs
theorem dg_tp (is : List Nat) {kk : Nat} (C : Cq G k N sc X) (h : PGs X es (gNs is)) (hn : (assignEach es X.env).length = is.length := by rfl) (hst : (assignEach es X.env).findIdx? (·.1) = none := by rfl) : PG X (.Tuple es kk pos) ((Tg.tp is).rd X.K) :=
  pg_tup C.calm h hn hst
/-! ### one argument -/
def gLen : D → Option PV
  | .str z => if z.length ≤ sizeLine then some (.v (.int z.length)) else none
  | .list xs => some (.v (.int xs.length))
  | .tuple xs => some (.v (.int xs.length))
  | _ => none
theorem does_len {K : PySem.W.Frag} : Does1 K (fun xs H Q => ∃ x n, xs = [x] ∧ LenV K x H n ∧ Q (.int n) H) gLen := by
  intro F H x d z Q sub hx hg h
  cases d <;> simp only [gLen] at hg <;> try (cases hg; done)
  · split at hg
    · rename_i hz
      cases hg
      rw [hx.str]
      exact ⟨_, _, rfl, ⟨hz, rfl⟩, h _ _ (Gv.int _)⟩
    · cases hg
  · cases hg
    obtain ⟨l, vs, rfl, h1, h2⟩ := hx.list sub
    exact ⟨_, vs.length, rfl, .inl ⟨vs, SqL.of h1, rfl⟩, by rw [h2.length]; exact h _ _ (Gv.int _)⟩
  · cases hg
    obtain ⟨l, vs, rfl, h1, h2⟩ := hx.tuple
    exact ⟨_, vs.length, rfl, .inr ⟨vs, SqT.of (sub _ _ h1), rfl⟩, by rw [h2.length]; exact h _ _ (Gv.int _)⟩
def gInt1 : D → Option PV
  | .int i => some (.v (.int i))
  | .bool b => some (.v (.int (if b then 1 else 0)))
  | _ => none
theorem does_int1 {K : PySem.W.Frag} : Does1 K (fun xs H Q => (∃ i, xs = [.int i] ∧ Q (.int i) H) ∨ ∃ k, xs = [.bl k] ∧ Q (.int (if k then 1 else 0)) H) gInt1 := by
  intro F H x d z Q sub hx hg h
  cases d <;> simp only [gInt1] at hg <;> try (cases hg; done)
  · cases hg
    rw [hx.bl]
    exact .inr ⟨_, rfl, h _ _ (Gv.int _)⟩
  · cases hg
    rw [hx.int]
    exact .inl ⟨_, rfl, h _ _ (Gv.int _)⟩
def signs (z : Str) : List D := z.cps.toList.map fun c => .str ⟨#[c]⟩
def gList : D → Option PV
  | .list xs => some (.o (.l xs))
  | .tuple xs => some (.o (.l xs))
  | .str z => if z.cps.size < sizeLine then some (.o (.l (signs z))) else none
  | _ => none
theorem paired_of {α β : Type} {P : α → β → Prop} : ∀ {xs : List α} {ys : List β}, xs.length = ys.length → (∀ (i : Nat) (x : α) (y : β), xs[i]? = some x → ys[i]? = some y → P x y) → Paired P xs ys
  | [], [], _, _ => .nil
  | [], _ :: _, h, _ => by cases h
  | _ :: _, [], h, _ => by cases h
  | x :: xs, y :: ys, h, f => .cons (f 0 x y rfl rfl) (paired_of (by simpa using h) fun i a b h1 h2 => f (i + 1) a b (by simpa using h1) (by simpa using h2))
def rListS : List V → Hp → VK → Prop := fun xs H Q => ∃ z : Str, xs = [.str z] ∧ z.cps.size < sizeLine ∧ ∀ l, H l = none → Q (.ref l) (upd H l (.lst (z.cps.toList.map fun c => .str ⟨#[c]⟩)))
theorem call_list_strs (hc : X.calm = true) : CallR X (.type "list") rListS := by
  intro pins s σ H xs us Q I r h
  obtain ⟨z, rfl, hz, q⟩ := h
  obtain ⟨u, rfl, t, rfl⟩ := vals1 r
  refine PySem.call_list_str (I.ok.hd hc) z t (fun h' tk acc' c' hk e hacc => ?_) (Nat.le_of_lt hz)
  have rv : Vals (z.cps.toList.map fun c => V.str ⟨#[c]⟩) acc'.toList := by
    refine paired_of (by rw [List.length_map, Array.length_toList, Array.length_toList, hacc.1]) fun i x y hx hy => ?_
    rw [List.getElem?_map, Array.getElem?_toList] at hx
    obtain ⟨c, e1, e2⟩ := Option.map_eq_some_iff.mp hx
    rw [Array.getElem?_toList] at hy
    obtain ⟨c', t', e3, e4⟩ := hacc.2 i y hy
    rw [e1] at e3; cases e3
    subst e2 e4
    exact ⟨_, rfl⟩
  refine ⟨.ref s.heap.objs.size, _, I.laid (t' := tk) hk (Nat.le_refl _) (show ObjOk X.prog X.w _ h' _ (.lst _) from ⟨?_, acc'.toList, c', rv, by simpa using e⟩), rfl, q _ (I.hok.fresh (Nat.le_refl _))⟩
  rw [List.length_map, Array.length_toList]; exact Nat.le_of_lt hz
theorem DnAll.signs {K : PySem.W.Frag} {F : Hp} (z : Str) : DnAll K F (z.cps.toList.map fun c => V.str ⟨#[c]⟩) (signs z) := by
  unfold Q3.signs
  generalize z.cps.toList = l
  induction l with
  | nil => exact .nil
  | cons c l ih => exact .cons (.str _) ih
theorem does_list {K : PySem.W.Frag} : Does1 K (fun xs H Q => (∃ p ys, xs = [.ref p] ∧ (SqL K H p ys ∨ SqT K H p ys) ∧ ∀ l, H l = none → Q (.ref l) (upd H l (.lst ys))) ∨ rListS xs H Q) gList := by
  intro F H x d z Q sub hx hg h
  cases d <;> simp only [gList] at hg <;> try (cases hg; done)
  · split at hg
    · rename_i hz
      cases hg
      rw [hx.str]
      exact .inr ⟨_, rfl, hz, fun l hl => h _ _ (.lst hl (DnAll.signs _))⟩
    · cases hg
  · cases hg
    obtain ⟨l, vs, rfl, h1, h2⟩ := hx.list sub
    exact .inl ⟨_, vs, rfl, .inl (SqL.of h1), fun l hl => h _ _ (.lst hl h2)⟩
  · cases hg
    obtain ⟨l, vs, rfl, h1, h2⟩ := hx.tuple
    exact .inl ⟨_, vs, rfl, .inr (SqT.of (sub _ _ h1)), fun l hl => h _ _ (.lst hl h2)⟩
def gTuple : D → Option PV
  | .list xs => some (.v (.tuple xs))
  | .tuple xs => some (.v (.tuple xs))
  | _ => none
theorem does_tuple {K : PySem.W.Frag} : Does1 K (fun xs H Q => ∃ p ys, xs = [.ref p] ∧ ((SqL K H p ys ∧ ∀ l, H l = none → Q (.ref l) (upd H l (.tup ys))) ∨ (SqT K H p ys ∧ Q (.ref p) H))) gTuple := by
  intro F H x d z Q sub hx hg h
  cases d <;> simp only [gTuple] at hg <;> try (cases hg; done)
  · cases hg
    obtain ⟨l, vs, rfl, h1, h2⟩ := hx.list sub
    exact ⟨_, vs, rfl, .inl ⟨SqL.of h1, fun l hl => h _ _ (.tup hl h2)⟩⟩
  · cases hg
    obtain ⟨l, vs, rfl, h1, h2⟩ := hx.tuple
    exact ⟨_, vs, rfl, .inr ⟨SqT.of (sub _ _ h1), h _ _ (.dn (.tup h1 h2))⟩⟩
def boolsOf : List D → Option (List Bool)
  | [] => some []
  | .bool b :: r => (boolsOf r).map (b :: ·)
  | _ :: _ => none
theorem boolsOf_eq : ∀ {ds : List D} {bs : List Bool}, boolsOf ds = some bs → ds = bs.map .bool
  | [], bs, h => by cases h; rfl
  | d :: r, bs, h => by
    cases d <;> simp only [boolsOf] at h <;> try (cases h; done)
    obtain ⟨b', e1, e2⟩ := Option.map_eq_some_iff.mp h
    subst e2
    rw [boolsOf_eq e1]; rfl
theorem boolsOf_map (bs : List Bool) : boolsOf (bs.map .bool) = some bs := by
  induction bs with
  | nil => rfl
  | cons b bs ih => show (boolsOf (bs.map PyData.bool)).map (b :: ·) = _; rw [ih]; rfl
def gBools (f : List Bool → Bool) : D → Option PV
  | .list xs => (boolsOf xs).map fun bs => .v (.bool (f bs))
  | _ => none
theorem does_bools {K : PySem.W.Frag} (f : List Bool → Bool) : Does1 K (fun vs H Q => ∃ (a : Addr) (bs : List Bool), vs = [V.ref a] ∧ SqL K H a (bs.map V.bl) ∧ Q (.bl (f bs)) H) (gBools f) := by
  intro F H x d z Q sub hx hg h
  cases d <;> simp only [gBools] at hg <;> try (cases hg; done)
  obtain ⟨bs, e1, e2⟩ := Option.map_eq_some_iff.mp hg
  subst e2
  obtain ⟨l, vs, rfl, h1, h2⟩ := hx.list sub
  rw [boolsOf_eq e1] at h2
  exact ⟨l, bs, rfl, SqL.of (by rw [h1, h2.bls]), h _ _ (Gv.bl _)⟩
def intsOf : List D → Option (List Int)
  | [] => some []
  | .int b :: r => (intsOf r).map (b :: ·)
  | _ :: _ => none
theorem intsOf_eq : ∀ {ds : List D} {bs : List Int}, intsOf ds = some bs → ds = bs.map .int
  | [], bs, h => by cases h; rfl
  | d :: r, bs, h => by
    cases d <;> simp only [intsOf] at h <;> try (cases h; done)
    obtain ⟨b', e1, e2⟩ := Option.map_eq_some_iff.mp h
    subst e2
    rw [intsOf_eq e1]; rfl
theorem intsOf_map (bs : List Int) : intsOf (bs.map .int) = some bs := by
  induction bs with
  | nil => rfl
  | cons b bs ih => show (intsOf (bs.map PyData.int)).map (b :: ·) = _; rw [ih]; rfl
def gSum : D → Option PV
  | .list xs => (intsOf xs).map fun ns => .v (.int ns.sum)
  | _ => none
theorem does_sum {K : PySem.W.Frag} : Does1 K (rSum K) gSum := by
  intro F H x d z Q sub hx hg h
  cases d <;> simp only [gSum] at hg <;> try (cases hg; done)
  obtain ⟨ns, e1, e2⟩ := Option.map_eq_some_iff.mp hg
  subst e2
  obtain ⟨l, vs, rfl, h1, h2⟩ := hx.list sub
  rw [intsOf_eq e1] at h2
  exact ⟨l, ns, rfl, SqL.of (by rw [h1, h2.ints]), h _ _ (Gv.int _)⟩
/-- the ints in order -/
def sortI (ns : List Int) : List Int := ns.mergeSort (fun a b => decide (a ≤ b))
theorem sortI_perm (ns : List Int) : (sortI ns).Perm ns := List.mergeSort_perm _ _
theorem sortI_sorted (ns : List Int) : (sortI ns).Pairwise (· ≤ ·) := by
  have h := List.pairwise_mergeSort (le := fun (a b : Int) => decide (a ≤ b)) (fun a b c h1 h2 => by simp at *; omega) (fun a b => by simp; omega) ns
  exact h.imp fun h => by simpa using h
theorem sortI_uniq {ns ns' : List Int} (p : ns'.Perm ns) (s : ns'.Pairwise (· ≤ ·)) : ns' = sortI ns :=
  List.Perm.eq_of_pairwise (le := (· ≤ ·)) (fun a b _ _ h1 h2 => Int.le_antisymm h1 h2) s (sortI_sorted ns) (p.trans (sortI_perm ns).symm)
def gSort : D → Option PV
  | .list xs => (intsOf xs).map fun ns => .o (.l ((sortI ns).map .int))
  | _ => none
theorem does_sort {K : PySem.W.Frag} : Does1 K (rSortedI K) gSort := by
  intro F H x d z Q sub hx hg h
  cases d <;> simp only [gSort] at hg <;> try (cases hg; done)
  obtain ⟨ns, e1, e2⟩ := Option.map_eq_some_iff.mp hg
  subst e2
  obtain ⟨l, vs, rfl, h1, h2⟩ := hx.list sub
  rw [intsOf_eq e1] at h2
  refine ⟨l, ns, rfl, SqL.of (by rw [h1, h2.ints]), fun ns' p hp hs hn => ?_⟩
  rw [sortI_uniq hp hs]
  exact h _ _ (.lst hn (DnAll.of_ints _))
/-! ### isinstance(e, T) -/
inductive Ty where
  | int | bool | str | tuple | list | dict
def Ty.nm : Ty → String
  | .int => "int" | .bool => "bool" | .str => "str" | .tuple => "tuple" | .list => "list" | .dict => "dict"
def isTy : Ty → D → Bool
  | .int, .int _ => true
  | .int, .bool _ => true
  | .bool, .bool _ => true
  | .str, .str _ => true
  | .tuple, .tuple _ => true
  | .list, .list _ => true
  | .dict, .dict _ => true
  | _, _ => false
theorem pe_tyN {T : String} {p : Pos} (hg : Gl X x) (hm : X.mg x = none) (hv : bootBuiltins x = some (.type T)) (hn : x ≠ "__name__" := by decide) (hdb : (x == ("__debug__" : Str)) = false := by decide) : PE X (.Name x p) (tC (.ty T)) :=
  ⟨fun pins s σ H Q I h => ld_blt I hg hm hv ⟨.ty T, H, I, rfl, h⟩ hn hdb⟩
def tyName : D → String
  | .none => "NoneType" | .bool _ => "bool" | .int _ => "int" | .str _ => "str" | .list _ => "list" | .tuple _ => "tuple" | .dict _ => "dict"
theorem kitTy (t : Ty) (d : D) : kitB (tyName d) t.nm = some (isTy t d) := by
  cases t <;> cases d <;> (show kitB _ _ = some _) <;> simp only [tyName, Ty.nm, isTy] <;> decide +kernel
theorem Dv.ty {K : PySem.W.Frag} {F H : Hp} {v : V} {d : D} (sub : Ex F H) (h : Dv K F H v d) : TyX K H v (.type (tyName d)) := by
  rcases h with h | ⟨a, vs, xs, rfl, rfl, h1, _⟩
  · cases h with
    | non => exact .base .non
    | bl b => exact .base (.bl b)
    | int i => exact .base (.int i)
    | str z => exact .base (.str z)
    | lst h1 _ => exact .base (.lst (sub _ _ h1))
    | tup h1 _ => exact .base (.tup (sub _ _ h1))
    | dct0 h1 => exact .base (.dK (sub _ _ h1))
  · exact .base (.lst h1)
def gIsi (t : Ty) (d : D) : Option PV := some (.v (.bool (isTy t d)))
theorem de_isi (t : Ty) {p p1 : Pos} (C : Cq G k N sc X) (hi : sc.names.lookup ("isinstance" : Str) = some .globalImplicit) (hx : sc.names.lookup (Str.ofString t.nm) = some .globalImplicit) (mi : G.mg "isinstance" = none) (mx : G.mg (Str.ofString t.nm) = none) (ha : DE X W a fa)
    {y : Str} (hy : y = Str.ofString t.nm := by rfl) (hst : starEach [a, .Name y p1] X.env = (false, eval a X.env) :: starEach [.Name y p1] X.env := by rfl) (hpl : (backTo pos (starEach [.Name y p1] X.env)).any (·.1) = false := by rfl) :
    DE X W (.Call (.Name "isinstance" p) [a, .Name y p1] [] pos) (f1 (gIsi t) fa) := by
  subst hy
  have hT : PE X (.Name (Str.ofString t.nm) p1) (tC (.ty t.nm)) := by
    cases t <;> exact pe_tyN (glC C hx) (mgC C mx) (by decide +kernel) (by decide) (by decide)
  refine PE.weak (pe_callB call_isi (glC C hi) (mgC C mi) (by decide +kernel) (pa_cons (de_fz ha) (pa_cons hT pa_nil (by rfl)) hst) (by decide) (by decide) hst hpl) fun σ H Q z => ?_
  obtain ⟨F0, H0, pa, F, S, A, z⟩ := z
  unfold f1 at z
  rw [OutP.bind] at z
  refine ⟨F0, H0, pa, F, S, A, z.imp (fun p S1 z v F1 H1 x1 A1 r1 => ?_) fun _ _ z => z⟩
  split at z
  · rename_i d e1
    split at z
    · rename_i w e2
      cases e2
      exact ⟨v, .ty t.nm, _, _, _, rfl, .ty _, Dv.ty A1.sub (A1.val r1 e1), kit_ty (kitTy t d), z _ F1 H1 x1 A1 (.bl _)⟩
    · exact z.elim
  · exact z.elim
end
end Q3
/-! Q3j: a, b = x, y. -/
namespace Q3
open PySem PySem.Spec PyProof.Rows L2
variable [TabSet]
section
variable {K : PySem.W.Frag} {F0 H0 F H F' H' : Hp} {pa : Option Addr} {σ : L2.St} {S S' S1 S2 : Sq} {v w : V} {pv qv : PV} {d : D} {i j : Nat} {c c' : R}
/-- two values beside each other: no two are the same new list -/
def Apart (v w : V) : PV → PV → Prop
  | .o _, .o _ => v ≠ w
  | _, _ => True
/-- an own value stays when another value is taken -/
theorem OwnV.res {u : V} {b : R} (A : Agr K F0 H0 pa σ F H S) (r : RelP K H0 pa σ F H S v pv) (e : S.res pv = some (c, S')) (o : OwnV K H0 pa σ F H S u b) :
    ∃ F', Ex F F' ∧ Agr K F0 H0 pa σ F' H S' ∧ Fit K H0 pa σ F' H S' v c ∧ OwnV K H0 pa σ F' H S' u b := by
  cases pv with
  | v x => cases e; exact ⟨F, Ex.refl F, A, r, o⟩
  | o q =>
    cases q with
    | l xs => cases e; exact ⟨F, Ex.refl F, A, r, o⟩
    | un => cases e
    | d x => cases e
    | m kvs => cases e
    | pen => cases e
    | e c => cases e
    | sc ns => cases e
  | s i =>
    unfold Sq.res at e
    dsimp only at e
    cases q : S.r[i]? with
    | none => rw [q] at e; cases e
    | some y =>
      rw [q] at e
      cases y with
      | d x =>
        cases e
        obtain ⟨w, e1, e2⟩ := A.slots i _ q
        rw [show σ[i]? = some (some v) from r] at e1; cases e1
        exact ⟨F, Ex.refl F, A, e2, o⟩
      | l xs =>
        cases e
        obtain ⟨F', a, vs, eF, x, e1, e2, e3, A'⟩ := A.frozenU q
        rw [show σ[i]? = some (some v) from r] at e1; cases e1
        refine ⟨F', x, A', .lst e2 e3, ?_⟩
        cases b with
        | l ys =>
          obtain ⟨t, us, rfl, h1, h2, h3, h4, h5, h6⟩ := o
          have ne : a ≠ t := fun z => h5 i ⟨by rw [show σ[i]? = some (some (V.ref a)) from r, z], .inl ⟨xs, q⟩⟩
          refine ⟨t, us, rfl, h1, ?_, h3.mono x, h4, fun j p => h5 j p.set_d.1, h6⟩
          rw [eF, upd_ne (Ne.symm ne)]
          exact h2
        | _ => exact False.elim o
      | pen =>
        cases e
        obtain ⟨p, e1, e2⟩ := A.slots i _ q
        rw [show σ[i]? = some (some v) from r] at e2; cases e2
        exact ⟨F, Ex.refl F, A, ⟨p, e1, rfl⟩, o⟩
      | un => cases e
      | m kvs => cases e
      | e c => cases e
      | sc ns => cases e
theorem OwnV.up {u : V} {b : R} {p : Addr} {o : HO} (A : Agr K F0 H0 pa σ F H S) (x : OwnV K H0 pa σ F H S u b) (hp : H p = none) : OwnV K H0 pa σ F (upd H p o) S u b := by
  cases b with
  | l ys =>
    obtain ⟨t, us, rfl, h1, h2, h3, h4, h5, h6⟩ := x
    exact ⟨t, us, rfl, by rw [upd_ne fun z => by rw [z, hp] at h1; cases h1]; exact h1, h2, h3, h4, h5, h6⟩
  | _ => exact False.elim x
/-- both put into their slots -/
theorem Agr.store2 (A : Agr K F0 H0 pa σ F H S) (r : RelP K H0 pa σ F H S v pv) (r' : RelP K H0 pa σ F H S w qv) (ap : Apart v w pv qv) (e1 : S.res pv = some (c, S1)) (e2 : S1.res qv = some (c', S2)) (hi : i < S2.r.length) (hj : j < S2.r.length) :
    ∃ F', Ex F F' ∧ Agr K F0 H0 pa ((σ.set i (some v)).set j (some w)) F' H { S2 with r := (S2.r.set i c).set j c' } := by
  have frzQ : (∀ q, qv ≠ .o q) → ∀ F1, Ex F F1 → RelP K H0 pa σ F1 H S1 w qv := fun n F1 x => r'.anyS n x
  -- the first one
  have one : ∃ F1, Ex F F1 ∧ Agr K F0 H0 pa σ F1 H S1 ∧ Fit K H0 pa σ F1 H S1 v c ∧ RelP K H0 pa σ F1 H S1 w qv := by
    cases qv with
    | s k =>
      obtain ⟨F1, x, A1, f⟩ := A.res r e1
      exact ⟨F1, x, A1, f, r'⟩
    | v x =>
      obtain ⟨F1, y, A1, f⟩ := A.res r e1
      exact ⟨F1, y, A1, f, Dn.mono y r'⟩
    | o b =>
      obtain ⟨F1, x, A1, f, o⟩ := OwnV.res A r e1 r'
      exact ⟨F1, x, A1, f, o⟩
  obtain ⟨F1, x1, A1, f1, r1⟩ := one
  -- the second one
  have two : ∃ F2, Ex F1 F2 ∧ Agr K F0 H0 pa σ F2 H S2 ∧ Fit K H0 pa σ F2 H S2 v c ∧ Fit K H0 pa σ F2 H S2 w c' := by
    cases c with
    | d x =>
      obtain ⟨F2, x2, A2, f2⟩ := A1.res r1 e2
      exact ⟨F2, x2, A2, Dn.mono x2 f1, f2⟩
    | l xs =>
      obtain ⟨F2, x2, A2, f2, o⟩ := OwnV.res (b := .l xs) A1 r1 e2 f1
      exact ⟨F2, x2, A2, o, f2⟩
    | pen =>
      obtain ⟨F2, x2, A2, f2⟩ := A1.res r1 e2
      exact ⟨F2, x2, A2, f1, f2⟩
    | un => exact False.elim f1
    | m kvs => exact False.elim f1
    | e c => exact False.elim f1
    | sc ns => exact False.elim f1
  obtain ⟨F2, x2, A2, f1', f2⟩ := two
  have A3 := A2.store hi f1'
  refine ⟨F2, x1.trans x2, A3.store (i := j) (S := { S2 with r := S2.r.set i c }) (by simpa using hj) ?_⟩
  cases c' with
  | d x => exact f2
  | pen => exact f2
  | l xs =>
    refine OwnV.store (c := .l xs) f1' f2 (fun z => ?_) hi
    -- w is no other's
    have hq : ∃ b, qv = .o b := by
      cases qv with
      | o b => exact ⟨b, rfl⟩
      | v x => cases e2
      | s k =>
        unfold Sq.res at e2
        dsimp only at e2
        split at e2 <;> cases e2
    obtain ⟨b, rfl⟩ := hq
    obtain ⟨t, us, ew, h1, h2, h3, h4, h5, h6⟩ := f2
    subst ew
    subst z
    cases pv with
    | o b' => exact ap rfl
    | v x =>
      cases e1
      cases (show Dn K F2 (.ref t) x from f1') with
      | lst q _ => rw [h2] at q; cases q
      | tup q _ => rw [h2] at q; cases q
      | dct0 q => rw [h2] at q; cases q
    | s k =>
      cases c with
      | d x =>
        cases (show Dn K F2 (.ref t) x from f1') with
        | lst q _ => rw [h2] at q; cases q
        | tup q _ => rw [h2] at q; cases q
        | dct0 q => rw [h2] at q; cases q
      | l ys =>
        unfold Sq.res at e1
        dsimp only at e1
        split at e1 <;> cases e1
      | pen =>
        obtain ⟨q, e3, e4⟩ := f1'
        cases e4
        exact h6 e3.symm
      | un => exact False.elim f1'
      | m kvs => exact False.elim f1'
      | e c => exact False.elim f1'
      | sc ns => exact False.elim f1'
  | un => exact False.elim f2
  | m kvs => exact False.elim f2
  | e c => exact False.elim f2
  | sc ns => exact False.elim f2
end
section
variable {X : Cx} {W : WX} {a b c e : Expr} {fa fb fc : Sq → Out PV} {pos : Pos} {N : List Str} {sc : Scope} {k : Nat} {G : Gb} {x y : Str} {i j : Nat}
def rd2 (K : PySem.W.Frag) (W : WX) (fa fb : Sq → Out PV) : TA := fun σ H Q => ∃ F0 H0 pa F S, Agr K F0 H0 pa σ F H S ∧ OutP ((fa S).bind fun p S1 => (fb S1).bind fun q S2 => .ok (p, q) S2)
  (fun pq S' => ∀ v w F' H', Ex F F' → Agr K F0 H0 pa σ F' H' S' → RelP K H0 pa σ F' H' S' v pq.1 → RelP K H0 pa σ F' H' S' w pq.2 → Apart v w pq.1 pq.2 → Q [v, w] H') (EW K W F0 H0 pa σ)
theorem RelP.unbase {K : PySem.W.Frag} {F0 H0 F H F' H' : Hp} {pa : Option Addr} {σ : L2.St} {S S' : Sq} {w : V} {q : PV} (A : Agr K F0 H0 pa σ F H S) (r : RelP K (hide σ S pa H) pa σ F' H' S' w q) : RelP K H0 pa σ F' H' S' w q := by
  cases q with
  | s k => exact r
  | v x => exact r
  | o b =>
    cases b with
    | l xs =>
      obtain ⟨t, us, rfl, h1, h2, h3, h4, h5, h6⟩ := r
      exact ⟨t, us, rfl, h1, h2, h3, A.hidden h4 h6, h5, h6⟩
    | un => exact False.elim r
    | d x => exact False.elim r
    | m kvs => exact False.elim r
    | pen => exact False.elim r
    | e c => exact False.elim r
    | sc ns => exact False.elim r
theorem pa_two (ha : DE X W a fa) (hb : DE X W b fb) (hs : starEach [a, b] X.env = (false, eval a X.env) :: starEach [b] X.env := by rfl) (hs2 : starEach [b] X.env = (false, eval b X.env) :: starEach [] X.env := by rfl) : PA X [a, b] (rd2 X.K W fa fb) := by
  refine PA.weak (pa_cons ha (pa_cons hb pa_nil hs2) hs) fun σ H Q z => ?_
  obtain ⟨F0, H0, pa, F, S, A, z⟩ := z
  rw [OutP.bind] at z
  refine ⟨F0, H0, pa, F, S, A, z.imp (fun p S1 z v F1 H1 x1 A1 r1 => ⟨F1, hide σ S1 pa H1, pa, F1, S1, A1.rebase, ?_⟩) fun _ _ z => z⟩
  rw [OutP.bind] at z
  refine z.imp (fun q S2 z w F2 H2 x2 B r2 => ?_) fun c S2 z F2 H2 B => z F2 H2 (A1.unbase B)
  have A2 := A1.unbase B
  refine z v w F2 H2 (x1.trans x2) A2 ?_ (RelP.unbase A1 r2) ?_
  · cases p with
    | s k => exact r1
    | v x => exact Dn.mono x2 r1
    | o b => exact OwnV.stay A1 B r1
  · show Apart v w p q
    cases p with
    | s k => trivial
    | v x => trivial
    | o b =>
      cases q with
      | s k => trivial
      | v x => trivial
      | o b' =>
        intro z
        subst z
        cases b with
        | l xs =>
          obtain ⟨t, us, rfl, h1, h2, h3, h4, h5, h6⟩ := r1
          cases b' with
          | l ys =>
            obtain ⟨t', us', e, g1, g2, g3, g4, g5, g6⟩ := r2
            cases e
            rw [hide_of h5 h6, bareT_of h1 fun _ z => nomatch z] at g4
            cases g4
          | _ => exact False.elim r2
        | _ => exact False.elim r1
def parF (i j : Nat) (fa fb : Sq → Out PV) : Sq → Fl := fun S => (fa S).fl fun p S1 => (fb S1).fl fun q S2 => match S2.res p with
  | some (c, S3) => (match S3.res q with
    | some (c', S4) => if i < S4.r.length ∧ j < S4.r.length then .nx { S4 with r := (S4.r.set i c).set j c' } else .no
    | none => .no)
  | none => .no
theorem fl_bind {α β : Type} {K : PySem.W.Frag} {F0 H0 : Hp} {pa : Option Addr} {σ : L2.St} {Z : Ends} {o : Out α} {k : α → Sq → Out β} {t : α → β → Sq → Fl} (z : FlP K W F0 H0 pa Z (o.fl fun a S => (k a S).fl fun b S' => t a b S')) :
    OutP (o.bind fun a S => (k a S).bind fun b S' => .ok (a, b) S') (fun ab S' => FlP K W F0 H0 pa Z (t ab.1 ab.2 S')) (EW K W F0 H0 pa σ) := by
  rw [OutP.bind]
  refine (fl_out (σ := σ) z).imp (fun a S z => ?_) fun _ _ z => z
  rw [OutP.bind]
  exact (fl_out (σ := σ) z).imp (fun b S z => z) fun _ _ z => z
/-- a, b = x, y; plain local names -/
theorem ds_par (i j : Nat) {px py pt : Pos} {kt k2 pt2} (C : Cq G k N sc X) (ha : DE X W a fa) (hb : DE X W b fb) (hi : N[i]? = some x := by rfl) (hj : N[j]? = some y := by rfl) (hij : i ≠ j := by decide)
    (hx : sc.names.lookup x = some .local := by rfl) (hy : sc.names.lookup y = some .local := by rfl)
    (hw : swappedStores [.Tuple [.Name x px, .Name y py] kt pt] (.Tuple [a, b] k2 pt2) X.env = pure (some [x, y]))
    (hs : swapsWithSole [.Tuple [.Name x px, .Name y py] kt pt] (.Tuple [a, b] k2 pt2) pos.line X.env = pure false := by rfl) (hst : starEach [a, b] X.env = (false, eval a X.env) :: starEach [b] X.env := by rfl) (hs2 : starEach [b] X.env = (false, eval b X.env) :: starEach [] X.env := by rfl) :
    DS X W (.Assign [.Tuple [.Name x px, .Name y py] kt pt] (.Tuple [a, b] k2 pt2) pos) (parF i j fa fb) := by
  refine PS.weak (L2.ps_par C.calm (by rw [C.names]; exact C.nd) (by rw [C.names]; exact hi) (by rw [C.names]; exact hj) hij (by rw [C.scope]; exact hx) (by rw [C.scope]; exact hy) (pa_two ha hb hst hs2) hw hs) fun Z σ H z => ?_
  obtain ⟨F0, H0, pa, F, S, A, z⟩ := z
  refine ⟨F0, H0, pa, F, S, A, (fl_bind (σ := σ) z).imp (fun pq S2 z v w F2 H2 x2 A2 r1 r2 ap => ⟨v, w, rfl, ?_⟩) fun _ _ z => z⟩
  split at z
  · rename_i c S3 e1
    split at z
    · rename_i c' S4 e2
      split at z
      · rename_i hl
        obtain ⟨F', x', A'⟩ := A2.store2 r1 r2 ap e1 e2 hl.1 hl.2
        exact z _ F' H2 A'
      · exact z.elim
    · exact z.elim
  · exact z.elim
/-- a, b = x, y by a pair that is unpacked -/
theorem ds_parC (i j : Nat) {px py pt : Pos} {kt k2 pt2} (C : Cq G k N sc X) (ha : DE X W a fa) (hb : DE X W b fb) (hi : N[i]? = some x := by rfl) (hj : N[j]? = some y := by rfl)
    (hx : Loc sc x := by first | exact Or.inl rfl | exact Or.inr rfl) (hy : Loc sc y := by first | exact Or.inl rfl | exact Or.inr rfl) (hfx : X.fn x = true ∨ sc.names.lookup x = some .local) (hfy : X.fn y = true ∨ sc.names.lookup y = some .local)
    (hw : swappedStores [.Tuple [.Name x px, .Name y py] kt pt] (.Tuple [a, b] k2 pt2) X.env = pure none := by rfl)
    (hs : swapsWithSole [.Tuple [.Name x px, .Name y py] kt pt] (.Tuple [a, b] k2 pt2) pos.line X.env = pure false := by rfl) (hst : starEach [a, b] X.env = (false, eval a X.env) :: starEach [b] X.env := by rfl) (hs2 : starEach [b] X.env = (false, eval b X.env) :: starEach [] X.env := by rfl)
    (h1 : (assignEach [.Tuple [.Name x px, .Name y py] kt pt] X.env).map (·.2) = [assign (.Tuple [.Name x px, .Name y py] kt pt) X.env] := by rfl)
    (hn : (assignEach [.Name x px, .Name y py] X.env).length = 2 := by rfl) (hst' : (assignEach [.Name x px, .Name y py] X.env).findIdx? (·.1) = none := by rfl)
    (hq1 : (assignEach (.Name x px :: [.Name y py]) X.env).map (·.2) = assign (.Name x px) X.env :: (assignEach [.Name y py] X.env).map (·.2) := by rfl) (hq2 : (assignEach (.Name y py :: []) X.env).map (·.2) = assign (.Name y py) X.env :: (assignEach [] X.env).map (·.2) := by rfl) :
    DS X W (.Assign [.Tuple [.Name x px, .Name y py] kt pt] (.Tuple [a, b] k2 pt2) pos) (parF i j fa fb) := by
  refine PS.weak (ps_asg (pe_tup (pa_two ha hb hst hs2)) (dg_tp [i, j] C (dgs_cons i C hi hx hfx (dgs_cons j C hj hy hfy dgs_nil hq2) hq1) hn hst') hs hw h1) fun Z σ H z => ?_
  obtain ⟨F0, H0, pa, F, S, A, z⟩ := z
  refine ⟨F0, H0, pa, F, S, A, (fl_bind (σ := σ) z).imp (fun pq S2 z v w F2 H2 x2 A2 r1 r2 ap => ⟨by show 2 ≤ sizeLine; decide, fun p hp => ?_⟩) fun _ _ z => z⟩
  refine ⟨p, [v, w], rfl, SqT.of upd_same, rfl, v, [w], rfl, w, [], rfl, rfl, ?_⟩
  have up : ∀ {u q}, RelP X.K H0 pa σ F2 H2 S2 u q → RelP X.K H0 pa σ F2 (upd H2 p (.tup [v, w])) S2 u q := fun {u q} r => by
    cases q with
    | s k => exact r
    | v x => exact r
    | o b => exact OwnV.up A2 r hp
  split at z
  · rename_i c S3 e1
    split at z
    · rename_i c' S4 e2
      split at z
      · rename_i hl
        obtain ⟨F', x', A'⟩ := (A2.more (Ex.new hp)).store2 (up r1) (up r2) ap e1 e2 hl.1 hl.2
        exact z _ F' _ A'
      · exact z.elim
    · exact z.elim
  · exact z.elim
end
end Q3
/-! Q3k: methods, repr, enumerate of a tuple. -/
namespace Q3
open PySem PySem.Spec PyProof.Rows L2
variable [TabSet]
section
variable {X : Cx} {W : WX} {a b c e o : Expr} {fa fb fc : Sq → Out PV} {pos : Pos} {N : List Str} {sc : Scope} {k : Nat} {G : Gb} {x : Str}
/-! ### text.m(e), list.m(e) -/
def tyOk : String → Option D → Bool
  | "str", some (.str _) => true
  | "list", some (.list _) => true
  | _, _ => false
theorem tyOk_some {T : String} {o : Option D} (h : tyOk T o = true) : ∃ d, o = some d := by
  cases o with
  | some d => exact ⟨d, rfl⟩
  | none =>
    unfold tyOk at h
    split at h <;> first | contradiction | (rename_i e; cases e) | skip
theorem Dv.tyV {K : PySem.W.Frag} {F H : Hp} {v : V} {d : D} {T : String} (sub : Ex F H) (h : Dv K F H v d) (t : tyOk T (some d) = true) : tyV K T v H := by
  unfold tyOk at t
  split at t
  · rename_i z e
    cases e
    rw [h.str]
    rfl
  · rename_i z e
    cases e
    obtain ⟨a, vs, rfl, h1, _⟩ := h.list sub
    exact .inl ⟨rfl, vs, SqL.of h1⟩
  · cases t
def DoesM (K : PySem.W.Frag) (r : V → List V → Hp → VK → Prop) (g : D → D → Option PV) : Prop := ∀ F H x y d e z Q, Ex F H → Dv K F H x d → Dv K F H y e → g d e = some z → (∀ v H', Gv K F H z v H' → Q v H') → r x [y] H Q
def fM1 (T : String) (g : D → D → Option PV) (fa fb : Sq → Out PV) : Sq → Out PV := fun S => (fzF fa S).bind fun p S1 => if tyOk T (S1.val p) = true then (fzF fb S1).bind fun q S2 => (match S2.val p, S2.val q with
  | some x, some y => (match g x y with
    | some z => .ok z S2
    | none => .no)
  | _, _ => .no) else .no
theorem rd_m1 {K : PySem.W.Frag} {T : String} {r : V → List V → Hp → VK → Prop} {g : D → D → Option PV} (dz : DoesM K r g) {σ : L2.St} {H : Hp} {Q : VK} (z : rd K W (fM1 T g fa fb) σ H Q) : tBM K T r (rd K W (fzF fa)) (tCons (rd K W (fzF fb)) tNil) σ H Q := by
  obtain ⟨F0, H0, pa, F, S, A, z⟩ := z
  unfold fM1 at z
  rw [OutP.bind] at z
  unfold fzF at z
  rw [OutP.bind] at z
  refine ⟨F0, H0, pa, F, S, A, ?_⟩
  unfold fzF
  rw [OutP.bind]
  refine z.imp (fun p S1 z v F1 H1 x1 A1 r1 => ?_) fun _ _ z => z
  have z : OutP (if tyOk T (S1.val (fz p)) = true then ((fb S1).bind fun q S2 => .ok (fz q) S2).bind fun q S2 => (match S2.val (fz p), S2.val q with
    | some x, some y => (match g x y with
      | some z => Out.ok z S2
      | none => .no)
    | _, _ => .no) else .no) (TP K F0 H0 pa σ F Q) (EW K W F0 H0 pa σ) := z
  split at z
  · rename_i ht
    obtain ⟨d0, e0⟩ := tyOk_some ht
    rw [e0] at ht
    refine ⟨Dv.tyV A1.sub (A1.val r1 e0) ht, F0, H0, pa, F1, S1, A1, ?_⟩
    rw [OutP.bind] at z
    rw [OutP.bind] at z ⊢
    refine z.imp (fun q S2 z w F2 H2 x2 A2 r2 => ?_) fun _ _ z => z
    have z : OutP (match S2.val (fz p), S2.val (fz q) with
      | some x, some y => (match g x y with
        | some z => Out.ok z S2
        | none => .no)
      | _, _ => .no) (TP K F0 H0 pa σ F Q) (EW K W F0 H0 pa σ) := z
    show r v [w] H2 Q
    split at z
    · rename_i x y e1 e2
      split at z
      · rename_i u e3
        refine dz F2 H2 v w x y u Q A2.sub (A2.val (r1.fz_keep x2) e1) (A2.val r2 e2) e3 fun t H'' gv => ?_
        obtain ⟨F', xF, A', r'⟩ := A2.gives gv
        exact z t F' H'' (x1.trans (x2.trans xF)) A' r'
      · exact z.elim
    · exact z.elim
  · exact z.elim
theorem de_m1 {T id : String} {name : Str} {apos : Pos} {r : V → List V → Hp → VK → Prop} {g : D → D → Option PV} (pt : PlainAttrs T) (slot : Slot T name id) (hty : typeOf (.builtin id) = pure (.type "method_descriptor")) (hm : MtR X id r) (dz : DoesM X.K r g) (ho : DE X W o fa) (he : DE X W e fb)
    (hbase : attributeBase o name X.env (eval o X.env) = eval o X.env := by rfl)
    (hfew : ((backTo pos (starEach [e] X.env)).all (fun x => !x.1) && (backToKw pos (keywordEach [] X.env)).all (fun x => x.1.isSome)
      && decide ([e].length + ([] : List Keyword).length + (if ([] : List Keyword).isEmpty then 0 else 1) < 30)) = true := by rfl)
    (hline : (apos.endLine == pos.line) = true := by rfl) (hs : starEach [e] X.env = (false, eval e X.env) :: starEach [] X.env := by rfl) (hplain : (backTo pos (starEach [] X.env)).any (·.1) = false := by rfl) :
    DE X W (.Call (.Attribute o name apos) [e] [] pos) (fM1 T g fa fb) :=
  PE.weak (pe_bm pt slot hty hm (de_fz ho) (pa_cons (de_fz he) pa_nil hs) hbase hfew hline hs hplain) fun _ _ _ z => rd_m1 dz z
/-- text.m() -/
def fM0 (T : String) (g : D → Option PV) (fa : Sq → Out PV) : Sq → Out PV := fun S => (fzF fa S).bind fun p S1 => if tyOk T (S1.val p) = true then (match S1.val p with
  | some x => (match g x with
    | some z => .ok z S1
    | none => .no)
  | _ => .no) else .no
def DoesM0 (K : PySem.W.Frag) (r : V → List V → Hp → VK → Prop) (g : D → Option PV) : Prop := ∀ F H x d z Q, Ex F H → Dv K F H x d → g d = some z → (∀ v H', Gv K F H z v H' → Q v H') → r x [] H Q
theorem de_m0 {T id : String} {name : Str} {apos : Pos} {r : V → List V → Hp → VK → Prop} {g : D → Option PV} (pt : PlainAttrs T) (slot : Slot T name id) (hty : typeOf (.builtin id) = pure (.type "method_descriptor")) (hm : MtR X id r) (dz : DoesM0 X.K r g) (ho : DE X W o fa)
    (hbase : attributeBase o name X.env (eval o X.env) = eval o X.env := by rfl) (hline : (apos.endLine == pos.line) = true := by rfl) : DE X W (.Call (.Attribute o name apos) [] [] pos) (fM0 T g fa) := by
  refine PE.weak (pe_bm0 pt slot hty hm (de_fz ho) hbase hline) fun σ H Q z => ?_
  obtain ⟨F0, H0, pa, F, S, A, z⟩ := z
  unfold fM0 at z
  rw [OutP.bind] at z
  refine ⟨F0, H0, pa, F, S, A, z.imp (fun p S1 z v F1 H1 x1 A1 r1 => ?_) fun _ _ z => z⟩
  split at z
  · rename_i ht
    split at z
    · rename_i d e1
      rw [e1] at ht
      refine ⟨Dv.tyV A1.sub (A1.val r1 e1) ht, ?_⟩
      split at z
      · rename_i u e3
        refine dz F1 H1 v d u Q A1.sub (A1.val r1 e1) e3 fun t H'' gv => ?_
        obtain ⟨F', xF, A', r'⟩ := A1.gives gv
        exact z t F' H'' (x1.trans xF) A' r'
      · exact z.elim
    · exact z.elim
  · exact z.elim
/-! str.index, str.count, str.join, str.upper -/
def gSIndex : D → D → Option PV
  | .str a, .str b => (match Builtin.Str.occurrences a b 0 a.length 1 with
    | i :: _ => some (.v (.int (i : Nat)))
    | [] => none)
  | _, _ => none
theorem does_sindex {K : PySem.W.Frag} : DoesM K (fun x xs H Q => ∃ a b i rest, x = .str a ∧ xs = [.str b] ∧ Builtin.Str.occurrences a b 0 a.length 1 = i :: rest ∧ Q (.int (i : Nat)) H) gSIndex := by
  intro F H x y d e z Q sub hx hy hg h
  cases d <;> cases e <;> simp only [gSIndex] at hg <;> try (cases hg; done)
  split at hg
  · rename_i i rest q
    cases hg
    rw [hx.str, hy.str]
    exact ⟨_, _, i, rest, rfl, rfl, q, h _ _ (Gv.int _)⟩
  · cases hg
theorem de_sindex {apos : Pos} (ho : DE X W o fa) (he : DE X W e fb)
    (hbase : attributeBase o "index" X.env (eval o X.env) = eval o X.env := by rfl)
    (hfew : ((backTo pos (starEach [e] X.env)).all (fun x => !x.1) && (backToKw pos (keywordEach [] X.env)).all (fun x => x.1.isSome)
      && decide ([e].length + ([] : List Keyword).length + (if ([] : List Keyword).isEmpty then 0 else 1) < 30)) = true := by rfl)
    (hline : (apos.endLine == pos.line) = true := by rfl) (hs : starEach [e] X.env = (false, eval e X.env) :: starEach [] X.env := by rfl) (hplain : (backTo pos (starEach [] X.env)).any (·.1) = false := by rfl) :
    DE X W (.Call (.Attribute o "index" apos) [e] [] pos) (fM1 "str" gSIndex fa fb) := de_m1 F.plainAttrs_str F.slot_str_index F.type_str_index mt_sindex does_sindex ho he hbase hfew hline hs hplain
def strsOf : List D → Option (List Str)
  | [] => some []
  | .str b :: r => (strsOf r).map (b :: ·)
  | _ :: _ => none
theorem strsOf_eq : ∀ {ds : List D} {bs : List Str}, strsOf ds = some bs → ds = bs.map .str
  | [], bs, h => by cases h; rfl
  | d :: r, bs, h => by
    cases d <;> simp only [strsOf] at h <;> try (cases h; done)
    obtain ⟨b', e1, e2⟩ := Option.map_eq_some_iff.mp h
    subst e2
    rw [strsOf_eq e1]; rfl
theorem strsOf_map (bs : List Str) : strsOf (bs.map .str) = some bs := by
  induction bs with
  | nil => rfl
  | cons b bs ih => show (strsOf (bs.map PyData.str)).map (b :: ·) = _; rw [ih]; rfl
def gJoin : D → D → Option PV
  | .str a, .list ds => (match strsOf ds with
    | some ys => if (ys.map (·.length)).sum + ys.length * a.length ≤ 16777216 then some (.v (.str (Txt.join a ys))) else none
    | none => none)
  | _, _ => none
theorem does_join {K : PySem.W.Frag} : DoesM K (fun x xs H Q => ∃ a p, ∃ ys : List Str, x = .str a ∧ xs = [.ref p] ∧ (SqL K H p (ys.map V.str) ∨ SqT K H p (ys.map V.str)) ∧
    (ys.map (·.length)).sum + ys.length * a.length ≤ 16777216 ∧ Q (.str (Txt.join a ys)) H) gJoin := by
  intro F H x y d e z Q sub hx hy hg h
  cases d <;> cases e <;> simp only [gJoin] at hg <;> try (cases hg; done)
  split at hg
  · rename_i ys q
    split at hg
    · rename_i hz
      cases hg
      rw [hx.str]
      obtain ⟨l, vs, rfl, h1, h2⟩ := hy.list sub
      rw [strsOf_eq q] at h2
      exact ⟨_, l, ys, rfl, rfl, .inl (SqL.of (by rw [h1, h2.strs])), hz, h _ _ (Gv.str _)⟩
    · cases hg
  · cases hg
theorem de_join {apos : Pos} (ho : DE X W o fa) (he : DE X W e fb)
    (hbase : attributeBase o "join" X.env (eval o X.env) = eval o X.env := by rfl)
    (hfew : ((backTo pos (starEach [e] X.env)).all (fun x => !x.1) && (backToKw pos (keywordEach [] X.env)).all (fun x => x.1.isSome)
      && decide ([e].length + ([] : List Keyword).length + (if ([] : List Keyword).isEmpty then 0 else 1) < 30)) = true := by rfl)
    (hline : (apos.endLine == pos.line) = true := by rfl) (hs : starEach [e] X.env = (false, eval e X.env) :: starEach [] X.env := by rfl) (hplain : (backTo pos (starEach [] X.env)).any (·.1) = false := by rfl) :
    DE X W (.Call (.Attribute o "join" apos) [e] [] pos) (fM1 "str" gJoin fa fb) := de_m1 F.plainAttrs_str F.slot_str_join F.type_str_join mt_join does_join ho he hbase hfew hline hs hplain
def gUpper : D → Option PV
  | .str a => if a.length ≤ 5592405 then some (.v (.str (Txt.upper a))) else none
  | _ => none
theorem does_upper {K : PySem.W.Frag} : DoesM0 K (fun x xs H Q => ∃ a, x = .str a ∧ xs = [] ∧ a.length ≤ 5592405 ∧ Q (.str (Txt.upper a)) H) gUpper := by
  intro F H x d z Q sub hx hg h
  cases d <;> simp only [gUpper] at hg <;> try (cases hg; done)
  split at hg
  · rename_i hz
    cases hg
    rw [hx.str]
    exact ⟨_, rfl, rfl, hz, h _ _ (Gv.str _)⟩
  · cases hg
theorem de_upper {apos : Pos} (ho : DE X W o fa) (hbase : attributeBase o "upper" X.env (eval o X.env) = eval o X.env := by rfl) (hline : (apos.endLine == pos.line) = true := by rfl) : DE X W (.Call (.Attribute o "upper" apos) [] [] pos) (fM0 "str" gUpper fa) :=
  de_m0 F.plainAttrs_str F.slot_str_upper F.type_str_upper mt_upper does_upper ho hbase hline
/-! ### repr(e) -/
def gRepr (d : D) : Option PV := if d.showable = true ∧ d.hasDict = false ∧ d.depth ≤ 64 ∧ d.shown.length ≤ sizeLine then some (.v (.str d.shown)) else none
def rRepr (K : PySem.W.Frag) : List V → Hp → VK → Prop := fun xs H Q => ∃ x d, xs = [x] ∧ Dn K H x d ∧ d.showable = true ∧ d.hasDict = false ∧ d.depth ≤ 64 ∧ d.shown.length ≤ sizeLine ∧ Q (.str d.shown) H
theorem call_repr (hg : X.A.guards = some []) (hu : X.A.units + 65 < cLine) : CallR X (.builtin "repr") (rRepr X.K) := by
  intro pins s σ H xs us Q I r h
  obtain ⟨x, d, rfl, hx, h1, h2, h3, h4, q⟩ := h
  obtain ⟨u, rfl, rx⟩ := vals1 r
  obtain ⟨as, rd⟩ := Dn.reads I d x u hx rx
  cases hx with
  | non =>
    cases rx
    exact PySem.P.repr_of_none ⟨.str _, H, I.tok _, ⟨_, rfl⟩, q⟩
  | bl b =>
    cases rx
    refine PySem.P.repr_of_bool ⟨.str _, H, I.tok _, ⟨_, rfl⟩, ?_⟩
    cases b <;> exact q
  | int i =>
    obtain ⟨t, rfl⟩ := rx
    exact PySem.P.repr_of_int (by simpa [PyData.showable] using h1) ⟨.str _, H, I.tok _, ⟨_, rfl⟩, q⟩
  | str z =>
    obtain ⟨t, rfl⟩ := rx
    exact PySem.P.repr_of_str ⟨.str _, H, I.tok _, ⟨_, rfl⟩, q⟩ h4
  | lst e1 e2 =>
    cases rx
    exact repr_of_reads' rd h1 (PyData.noDict_hsm h2) hg (by omega) (fun _ _ e => e) (fun h' u tk hk => ⟨.str _, H, I.kept hk, ⟨_, rfl⟩, q⟩) h4
  | tup e1 e2 =>
    cases rx
    exact repr_of_reads' rd h1 (PyData.noDict_hsm h2) hg (by omega) (fun _ _ e => e) (fun h' u tk hk => ⟨.str _, H, I.kept hk, ⟨_, rfl⟩, q⟩) h4
  | dct0 e1 => cases h2
theorem does_repr {K : PySem.W.Frag} : Does1 K (rRepr K) gRepr := by
  intro F H x d z Q sub hx hg h
  unfold gRepr at hg
  split at hg
  · rename_i q
    cases hg
    exact ⟨x, d, rfl, hx.dn sub, q.1, q.2.1, q.2.2.1, q.2.2.2, h _ _ (Gv.str _)⟩
  · cases hg
end
end Q3
/-! Q3l: enumerate of a tuple, range(a, b). -/
namespace PySem
open Sem (wp)
open AutoSeq1 (wpAny_loadPart')
theorem meets_enumerate_newT (l : Addr) (items : Array Value) (n : Nat) (dct : Option Addr) (sl : Array (Option Value)) :
    Meets (Builtin.«enumerate.__new__» ⟨[.type "enumerate", .ref l], []⟩) (fun _ R s => s.heap.get? l = some { cls := .type "tuple", dict := dct, data := .seq items n, slots := sl } ∧
      R (.ok (.ret (.ref (s.heap.push { cls := .type "tuple_iterator", data := .fields #[.ref l, .int 0 0] }).objs.size)))
        { s with heap := (s.heap.push { cls := .type "tuple_iterator", data := .fields #[.ref l, .int 0 0] }).push { cls := .type "enumerate", data := .fields #[.none, .bool false, .ref s.heap.objs.size, rawInt 0, .none, .none] } }) :=
  .of_wp fun prog w A R s h => by
    obtain ⟨hp, g, d, tk, os⟩ := s; obtain ⟨hl, h⟩ := h
    have hsub := sub_enumerate
    have hL : Heap.IsTuple (Shared.heap ⟨hp, g, d, tk, os⟩) l items := ⟨_, hl, rfl, n, rfl⟩
    wp_walk using wpAny_loadPart' hl
    refine wpAny_stack_any fun st => wpAny_pure ?_
    split
    · rename_i c _ _ _ _ _
      cases (c == Value.type "enumerate")
      · wp_walk using wpAny_loadPart' hl, wpAny_pyIter_tuple hL
        exact ⟨_, rfl, h⟩
      · wp_walk using wpAny_loadPart' hl, wpAny_pyIter_tuple hL
        exact ⟨_, rfl, h⟩
    · wp_walk using wpAny_loadPart' hl, wpAny_pyIter_tuple hL
      exact ⟨_, rfl, h⟩
section
variable {prog : Program} {w : World} {A : Around} {E : Value → Shared → Prop} {s : Shared}
theorem call_enumerate_tuple {l : Addr} {items : Array Value} {Q : Value → Shared → Prop} (hL : s.heap.IsTuple l items)
    (h : ∀ h', IsEnum h' (s.heap.objs.size + 1) s.heap.objs.size 0 .none → h'.IsTupleIter s.heap.objs.size l 0 → h'.objs.size = s.heap.objs.size + 2 →
      (∀ b o, s.heap.get? b = some o → h'.get? b = some o) → Q (.ref (s.heap.objs.size + 1)) { s with heap := h' }) :
    wpAny (model prog w) A (call (.type "enumerate") [.ref l]) Q E s := by
  obtain ⟨⟨c, dct, dt, sl⟩, hl, hc, n, hd⟩ := hL
  replace hc : c = .type "tuple" := hc
  replace hd : dt = .seq items n := hd
  subst hc hd
  refine callType_new F.called_enumerate (by decide) (F.typeCall_enumerate_1 _) (F.newCall_enumerate_1 _) (fun obj => F.args_object_init_2 obj _) F.entry_enumerate_new
    (meets_enumerate_newT l items n dct sl) ⟨hl, ?_⟩
  have hz : (s.heap.push { cls := .type "tuple_iterator", data := .fields #[.ref l, .int 0 0] }).objs.size = s.heap.objs.size + 1 := Heap.size_push ..
  show _ ∧ _
  rw [hz]
  have he : IsEnum ((s.heap.push { cls := .type "tuple_iterator", data := .fields #[.ref l, .int 0 0] }).push
      { cls := .type "enumerate", data := .fields #[.none, .bool false, .ref s.heap.objs.size, rawInt 0, .none, .none] }) (s.heap.objs.size + 1) s.heap.objs.size 0 .none := by
    have := Heap.get?_push_size (s.heap.push { cls := .type "tuple_iterator", data := .fields #[.ref l, .int 0 0] })
      (o := { cls := .type "enumerate", data := .fields #[.none, .bool false, .ref s.heap.objs.size, rawInt 0, .none, .none] }) rfl
    rw [hz] at this; exact this
  refine ⟨⟨_, he, rfl⟩, h _ he ⟨_, Heap.get?_push_of_some _ (Heap.get?_push_size _ rfl), rfl, rfl⟩ (by rw [Heap.size_push, hz]) fun b o x => Heap.get?_push_of_some _ (Heap.get?_push_of_some _ x)⟩
end
end PySem
namespace Q3
open PySem PySem.Spec PyProof.Rows L2
variable [TabSet]
def IteT (K : PySem.W.Frag) (a : Addr) : It :=
  ⟨fun i H => ∃ (xs : List V) (x : V), SqT K H a xs ∧ xs[i]? = some x, fun i H v H' => ∃ T x, v = .ref T ∧ H T = none ∧ H' = upd H T (.tup [.int (i : Nat), x]) ∧ ∀ xs, SqT K H a xs → xs[i]? = some x, fun i H => ∃ xs : List V, SqT K H a xs ∧ xs.length ≤ i⟩
theorem turn_enumT {P : Program} {w : World} {K : PySem.W.Frag} {elts : List Expr} {kk : Nat} {tpos : Pos} (a e it : Addr) (hai : a ≠ it) :
    Turn P w K (.Tuple elts kk tpos) (IteT K a) [e, it] e (fun i h => (∃ old, IsEnum h e it ((i : Nat) : Int) old) ∧ h.IsTupleIter it a i ∧ e ≠ it) where
  mem := by simp
  obj := fun i h st b hb => by
    obtain ⟨⟨old, he⟩, ⟨o, ho, hc, hd⟩, _⟩ := st
    have e' : b = e ∨ b = it := by simpa using hb
    rcases e' with z | z
    · rw [z]; exact ⟨_, he, fun v q => nomatch q⟩
    · rw [z]; exact ⟨o, ho, fun v q => by rw [hd] at q; cases q⟩
  keep := fun i h h' st k => let ⟨⟨old, he⟩, hi, hne⟩ := st; ⟨⟨old, k e (by simp) _ he⟩, hi.at fun o q => k it (by simp) o q, hne⟩
  item := by
    intro X hP hw hK hc i pins s σ H E I hf st hg
    subst hP hw hK
    obtain ⟨⟨old, he⟩, hit, hne⟩ := st
    obtain ⟨xs, x, hq, hx⟩ := hg
    obtain ⟨its, rv, p, hz⟩ := I.tuple hq
    obtain ⟨u, hu, ru⟩ := rv.get hx
    have hel : e < s.heap.objs.size := Heap.lt_size he
    have hil : it < s.heap.objs.size := by obtain ⟨_, q, _⟩ := hit; exact Heap.lt_size q
    have hlt : i < its.toArray.size := by
      have := (List.getElem?_eq_some_iff.mp hu).1
      simpa using this
    have hea : e ≠ a := fun z => by
      obtain ⟨o, ho, hcl, _⟩ := id p
      rw [← z, he] at ho
      cases ho
      exact absurd (show Value.type "enumerate" = Value.type "tuple" from hcl) (by decide)
    refine wpAny_pyNext_enum_itemD (Draws.tuple (A := X.A.in1) (by exact I.ok.hd hc) it a hai its.toArray) he ⟨hit, p⟩ hlt hne (by simpa using ⟨hne, hea⟩) fun y h' tk hy ho hst' hT hsz hk => ?_
    have ey : y = u := by
      have : its.toArray[i]? = some y := hy
      rw [List.getElem?_toArray, hu] at this
      exact (Option.some.inj this).symm
    subst ey
    refine ⟨_, rfl, wpAny_letOwnedTupleGo_enum (s := { s with heap := h', toks := tk + 1 }) ho fun h'' he' sb => ?_⟩
    have hT2 : h''.get? s.heap.objs.size = some { cls := .type "tuple", data := .seq #[.int i tk, y] } := (sb.2 _ (Nat.ne_of_gt hel)).trans hT
    have new : ObjOk X.prog X.w (upd H s.heap.objs.size (.tup [.int (i : Nat), x])) h'' s.heap.objs.size (.tup [.int (i : Nat), x]) :=
      ⟨by show 2 ≤ sizeLine; decide, [.int i tk, y], .cons ⟨_, rfl⟩ (.cons ru .nil), ⟨_, hT2, rfl, _, rfl⟩⟩
    have I1 : Inv X pins σ (upd H s.heap.objs.size (.tup [.int (i : Nat), x])) { s with heap := h'', toks := tk + 1 } :=
      I.turnedNew (ch := [e, it]) (fun b ob hb q => (sb.2 b (fun z => hb (by simp [z]))).trans (hk b ob (fun z => hb (by simp [z])) (fun z => hb (by simp [z])) q)) hf (Nat.le_refl _) new
    refine ⟨.ref s.heap.objs.size, _, I1, rfl, ⟨_, x, rfl, I.hok.fresh (Nat.le_refl _), rfl, fun ys hy => by rw [I.tuple_inj hy hq]; exact hx⟩, ⟨⟨y, ?_⟩, hst'.1.at fun o q => (sb.2 it (Ne.symm hne)).trans q, hne⟩, fun b hb => ?_⟩
    · have e1 : ((i + 1 : Nat) : Int) = (i : Int) + 1 := by omega
      rw [e1]; exact he'
    · have hb' : b < s.heap.objs.size := by
        have e' : b = e ∨ b = it := by simpa using hb
        rcases e' with z | z
        · rw [z]; exact hel
        · rw [z]; exact hil
      rw [upd_ne (Nat.ne_of_lt hb')]
      exact (hf b hb).1
  done := by
    intro X hP hw hK hc i pins s σ H E I hf st hg
    subst hP hw hK
    obtain ⟨⟨old, he⟩, hit, hne⟩ := st
    obtain ⟨xs, hq, hx⟩ := hg
    obtain ⟨its, rv, p, hz⟩ := I.tuple hq
    obtain ⟨f0, f1, f2, f3, f4, f5⟩ := hf it (by simp)
    have hl := rv.length
    -- the state is at its end, seen as the end of its first items
    have D := Draws.tuple (prog := X.prog) (w := X.w) (A := X.A.in1) (by exact I.ok.hd hc) it a hai its.toArray
    have hT : s.TypeIs (.ref e) "enumerate" := ⟨_, he, rfl⟩
    unfold pyNext
    refine wpAny_bind (wpAny_attempt (wpAny_callSpecial?_slot (name := Str.ofString "__next__") hT F.slot_enumerate_next
      (wpAny_call_entry F.slot_enumerate_next hT F.entry_enumerate_next ?_ (F.args_enumerate_next_1 _))))
    show wpAny _ _ (field (.ref e) 2 >>= _) _ _ _
    refine wpAny_bind (wpAny_field he rfl (x := .ref it) rfl ?_)
    refine wpAny_bind (wpAny_nextOf_tuple_end (by exact I.ok.hd hc) hit p (by simp; omega) fun h' x he' hx' => ?_)
    obtain ⟨o, ho, hc'⟩ := hx'
    refine wpAny_bind (wpAny_isInstance (T := "StopIteration") (b := true) ⟨o, ho, hc'⟩ isSubtype_stop ?_)
    exact wpAny_pure ⟨rfl, I.turned (t' := s.toks) (fun b o hb q => he' b o hb q) f0 f1 f3 f4 f5⟩
  self := fun A i s Q E st h => let ⟨⟨_, he⟩, _⟩ := st; wpAny_pyIter_enum he h
def iEnumT (K : PySem.W.Frag) (ta : TA) : TI := fun σ H R => ta σ H fun vs H1 => ∃ a xs, vs = [.ref a] ∧ SqT K H1 a xs ∧ R (IteT K a) H1
theorem pi_enumT {X : Cx} {e : Expr} {ta : TA} {p pos tpos : Pos} {elts : List Expr} {kk : Nat} (hg : Gl X "enumerate") (hm : X.mg "enumerate" = none) (ha : PA X [e] ta) (hs : starEach [e] X.env = [(false, eval e X.env)] := by rfl) :
    PI X (.Tuple elts kk tpos) (.Call (.Name "enumerate" p) [e] [] pos) (iEnumT X.K ta) := by
  refine ⟨fun pins s σ H R I h => ?_⟩
  refine Call_ (ld_blt I hg hm boot_enumerate (PyProof.Rows.callWith_type1 (thn (ha.run pos pins s σ H _ I h) fun us s1 ⟨vs, H1, I1, r1, q1⟩ => ?_) hs rfl))
  obtain ⟨a, xs, ex, hq, q⟩ := q1
  subst ex
  cases r1 with
  | cons r rr =>
    cases rr
    cases r
    obtain ⟨its, rv, p', hz⟩ := I1.tuple hq
    have hlt : a < s1.heap.objs.size := by obtain ⟨o, ho, _⟩ := id p'; exact Heap.lt_size ho
    refine PySem.call_enumerate_tuple (show s1.heap.IsTuple a its.toArray from p') fun h' he hit hsz hk => wpAny_pyIter_enum he ?_
    have I2 : Inv X pins σ H1 { s1 with heap := h' } := I1.kept (t' := s1.toks) hk
    refine ⟨s1.heap.objs.size + 1, [s1.heap.objs.size + 1, s1.heap.objs.size], _, _, H1, rfl, I2, turn_enumT a (s1.heap.objs.size + 1) s1.heap.objs.size (Nat.ne_of_lt hlt), ⟨⟨.none, he⟩, hit, Nat.succ_ne_self _⟩, fun b hb => ?_, q⟩
    have e' : b = s1.heap.objs.size + 1 ∨ b = s1.heap.objs.size := by simpa using hb
    have hle : s1.heap.objs.size ≤ b := by
      rcases e' with z | z
      · rw [z]; exact Nat.le_add_right _ _
      · rw [z]; exact Nat.le_refl _
    exact I1.fpOk hle (I1.hok.fresh hle)
theorem yields_enumT {K : PySem.W.Frag} {F : Hp} {a : Addr} {vs : List V} {ds : List D} (h : F a = some (.tup vs)) (hd : DnAll K F vs ds) : Yields K F (IteT K a) (enumD 0 ds) where
  stop := fun H e => ⟨vs, SqT.of (e _ _ h), by rw [enumD_length, hd.length]; exact Nat.le_refl _⟩
  go := fun i H e hi => by
    rw [enumD_length] at hi
    obtain ⟨v, e1, _⟩ := hd.get (List.getElem?_eq_getElem hi)
    exact ⟨vs, v, SqT.of (e _ _ h), e1⟩
  yld := fun i H x H' d e hd' y => by
    obtain ⟨T, v, rfl, hT, rfl, q⟩ := y
    rw [enumD_get] at hd'
    obtain ⟨d', e1, e2⟩ := Option.map_eq_some_iff.mp hd'
    obtain ⟨w, e3, e4⟩ := hd.get e1
    have z := q vs (SqT.of (e _ _ h))
    rw [e3] at z; cases z
    subst e2
    rw [Nat.zero_add]
    exact .tup hT (.cons (.int _) (.cons e4 .nil))
section
variable {X : Cx} {W : WX} {a b c e tg : Expr} {fa fb fc : Sq → Out PV} {pos : Pos} {N : List Str} {sc : Scope} {k : Nat} {G : Gb}
/-- enumerate(xs), a list or a tuple -/
def enumA (fa : Sq → Out PV) : Sq → Out (List D) := fun S => (fzF fa S).bind fun p S1 => match S1.keep p with
  | some (.list xs, S2) => .ok (enumD 0 xs) S2
  | some (.tuple xs, S2) => .ok (enumD 0 xs) S2
  | _ => .no
theorem di_enumA {p : Pos} {elts : List Expr} {kk : Nat} {tpos : Pos} (hg : Gl X "enumerate") (hm : X.mg "enumerate" = none) (ha : DE X W a fa) (hs : starEach [a] X.env = [(false, eval a X.env)] := by rfl) (hst : starEach [a] X.env = (false, eval a X.env) :: starEach [] X.env := by rfl) :
    DI X W (.Tuple elts kk tpos) (.Call (.Name "enumerate" p) [a] [] pos) (enumA fa) := by
  refine ⟨fun pins s σ H R I h => ?_⟩
  obtain ⟨F0, H0, pa, F, S, A, z⟩ := h
  unfold enumA at z
  cases o : fzF fa S with
  | no => rw [o] at z; exact z.elim
  | ex c S' =>
    rw [o] at z
    refine (pi_enum hg hm (pa_cons (de_fz ha) pa_nil hst) hs).run pins s σ H R I ⟨F0, H0, pa, F, S, A, ?_⟩
    rw [o]
    exact z
  | ok p S1 =>
    rw [o] at z
    have z : OutP (match S1.keep p with
      | some (.list xs, S2) => Out.ok (enumD 0 xs) S2
      | some (.tuple xs, S2) => .ok (enumD 0 xs) S2
      | _ => .no) (fun ds S' => ∀ J F' H', Ex F F' → Agr X.K F0 H0 pa σ F' H' S' → Yields X.K F' J ds → R J H') (EW X.K W F0 H0 pa σ) := z
    split at z
    · rename_i xs S2 q
      refine (pi_enum hg hm (pa_cons (de_fz ha) pa_nil hst) hs).run pins s σ H R I ⟨F0, H0, pa, F, S, A, ?_⟩
      rw [o]
      intro v F1 H1 x1 A1 r1
      obtain ⟨F2, x2, A2, d2⟩ := A1.keep r1 q
      cases d2 with
      | lst h1 h2 => exact ⟨_, _, rfl, SqL.of (A2.sub _ _ h1), z _ F2 H1 (x1.trans x2) A2 (yields_enum h1 h2)⟩
    · rename_i xs S2 q
      refine (pi_enumT hg hm (pa_cons (de_fz ha) pa_nil hst) hs).run pins s σ H R I ⟨F0, H0, pa, F, S, A, ?_⟩
      rw [o]
      intro v F1 H1 x1 A1 r1
      obtain ⟨F2, x2, A2, d2⟩ := A1.keep r1 q
      cases d2 with
      | tup h1 h2 => exact ⟨_, _, rfl, SqT.of (A2.sub _ _ h1), z _ F2 H1 (x1.trans x2) A2 (yields_enumT h1 h2)⟩
    · exact z.elim
/-- range(a, b) -/
def rng2F (fa fb : Sq → Out PV) : Sq → Out (List D) := fun S => (fzF fa S).bind fun p S1 => (fzF fb S1).bind fun q S2 => match S2.val p, S2.val q with
  | some (.int i), some (.int j) => if -(2 ^ 62) ≤ i ∧ i < 2 ^ 62 ∧ -(2 ^ 62) ≤ j ∧ j < 2 ^ 62 then .ok (rngD i (j - i).toNat) S2 else .no
  | _, _ => .no
theorem di_range2 {p : Pos} (hg : Gl X "range") (hm : X.mg "range" = none) (ha : DE X W a fa) (hb : DE X W b fb) (hs : starEach [a, b] X.env = [(false, eval a X.env), (false, eval b X.env)] := by rfl) (hs2 : starEach [b] X.env = [(false, eval b X.env)] := by rfl)
    (h1 : starEach [a, b] X.env = (false, eval a X.env) :: starEach [b] X.env := by rfl) (h2 : starEach [b] X.env = (false, eval b X.env) :: starEach [] X.env := by rfl) : DI X W tg (.Call (.Name "range" p) [a, b] [] pos) (rng2F fa fb) := by
  refine ⟨fun pins s σ H R I h => (pi_range2 (tg := tg) hg hm (pa_cons (de_fz ha) (pa_cons (de_fz hb) pa_nil h2) h1) hs hs2).run pins s σ H R I ?_⟩
  obtain ⟨F0, H0, pa, F, S, A, z⟩ := h
  unfold rng2F fzF at z
  rw [OutP.bind, OutP.bind] at z
  refine ⟨F0, H0, pa, F, S, A, ?_⟩
  unfold fzF
  rw [OutP.bind]
  refine z.imp (fun p S1 z v F1 H1 x1 A1 r1 => ⟨F0, H0, pa, F1, S1, A1, ?_⟩) fun _ _ z => z
  have z : OutP (((fb S1).bind fun q S2 => .ok (fz q) S2).bind fun q S2 => match S2.val (fz p), S2.val q with
    | some (.int i), some (.int j) => if -(2 ^ 62) ≤ i ∧ i < 2 ^ 62 ∧ -(2 ^ 62) ≤ j ∧ j < 2 ^ 62 then Out.ok (rngD i (j - i).toNat) S2 else .no
    | _, _ => .no) (fun ds S' => ∀ J F' H', Ex F F' → Agr X.K F0 H0 pa σ F' H' S' → Yields X.K F' J ds → R J H') (EW X.K W F0 H0 pa σ) := z
  rw [OutP.bind, OutP.bind] at z
  rw [OutP.bind]
  refine z.imp (fun q S2 z w F2 H2 x2 A2 r2 => ?_) fun _ _ z => z
  have z : OutP (match S2.val (fz p), S2.val (fz q) with
    | some (.int i), some (.int j) => if -(2 ^ 62) ≤ i ∧ i < 2 ^ 62 ∧ -(2 ^ 62) ≤ j ∧ j < 2 ^ 62 then Out.ok (rngD i (j - i).toNat) S2 else .no
    | _, _ => .no) (fun ds S' => ∀ J F' H', Ex F F' → Agr X.K F0 H0 pa σ F' H' S' → Yields X.K F' J ds → R J H') (EW X.K W F0 H0 pa σ) := z
  split at z
  · rename_i i j e1 e2
    split at z
    · rename_i hz
      exact ⟨i, j, by rw [(A2.val (r1.fz_keep x2) e1).int, (A2.val r2 e2).int], ⟨hz.1, hz.2.1, hz.2.2.1, hz.2.2.2⟩, z _ F2 H2 (x1.trans x2) A2 yields_rng⟩
    · exact z.elim
  · exact z.elim
end
end Q3
/-! Q3m: sorted(set(text)), sorted(set(tuple of ints)). -/
namespace Q3
open PySem PySem.Spec PyProof.Rows L2
open PySem.Froz (sing is_str)
/-! ### sets of signs -/
def keyC (e : Int × Value) : Nat := match e.2 with
  | .str k _ => k.cps.getD 0 0
  | _ => 0
def GoodC (w : World) (e : Int × Value) : Prop := ∃ c tk, e.2 = Value.str (sing c) tk ∧ e.1 = hashStr w (sing c)
/-- the set of the signs l at a -/
def SetC (w : World) (h : Heap) (a : Addr) (l : List Nat) : Prop :=
  ∃ o es ep t, h.get? a = some o ∧ o.ExactSet ∧ o.data = .set es ep t ∧ (∀ e ∈ es.toList, GoodC w e) ∧ (es.toList.map keyC).Perm l ∧ l.Nodup ∧ l.length < scanBound ∧ t.fits es.size = true ∧ Ris t.place.toList ∧ (w.params.followText "set-order" = true ∨ t.led = true)
theorem sing_inj {c d : Nat} (h : sing c = sing d) : c = d := by
  have q2 : [c] = [d] := congrArg (fun y : Str => y.cps.toList) h
  exact (List.cons.inj q2).1
theorem keyC_of {w : World} {e : Int × Value} {c : Nat} {tk : Tok} (h : e.2 = Value.str (sing c) tk) : keyC e = c := by
  unfold keyC
  rw [h]
  rfl
section
variable {P : Program} {w : World} {h h' : Heap} {a : Addr} {l : List Nat}
theorem SetC.at (R : SetC w h a l) (k : ∀ o, h.get? a = some o → h'.get? a = some o) : SetC w h' a l := by
  obtain ⟨o, es, ep, t, ho, r⟩ := R
  exact ⟨o, es, ep, t, k o ho, r⟩
theorem goodC_elems {xs : List (Int × Value)} (g : ∀ e ∈ xs, GoodC w e) : ElemsOf (strKind P w) xs := fun e he => by
  obtain ⟨c, tk, h1, h2⟩ := g e he
  exact ⟨⟨sing c, by rw [h1]; exact is_str _ _, h2⟩, by rw [h1] <;> rfl⟩
theorem goodC_is {e : Int × Value} (g : GoodC w e) (c : Nat) : (strKind P w).is (sing c) e.2 = true ↔ keyC e = c := by
  obtain ⟨c0, tk, h1, _⟩ := g
  rw [keyC_of (w := w) h1, h1]
  show (sing c0 == sing c) = true ↔ c0 = c
  rw [beq_iff_eq]
  exact ⟨sing_inj, fun e => by rw [e]⟩
end
section
variable {P : Program} {w : World} {A : Around} {E : Value → Shared → Prop} {s : Shared} {a : Addr} {l : List Nat}
theorem setC_tail {g : Bool → Sem Unit} (hg : ∀ (b : Bool) (s₁ : Shared) (Q' : Unit → Shared → Prop), Q' () s₁ → wpAny (model P w) A (g b) Q' E s₁)
    {o : Obj} {es : Array (Int × Value)} {ep : Nat} {t : SetTable} (ho : s.heap.get? a = some o) (hex : o.ExactSet) (hd : o.data = .set es ep t)
    {es1 : Array (Int × Value)} {t2 : SetTable} {l' : List Nat} (g1 : ∀ e ∈ es1.toList, GoodC w e) (p1 : (es1.toList.map keyC).Perm l') (nd1 : l'.Nodup)
    (hb1 : l'.length < scanBound) (hf2 : t2.fits es1.size = true) (hr : Ris t2.place.toList) (hl : w.params.followText "set-order" = true ∨ t2.led = true) {wasDummy : Bool} {R : Option Bool → Shared → Prop}
    (hR : ∀ h', Heap.SameBut a s.heap h' → SetC w h' a l' → R (some true) { s with heap := h' }) :
    wpAny (model P w) A (do
        storeSet a es1 t2
        if (!wasDummy && t2.tooFull) = true then do
            g (relayAll t2 es1 (SetTable.grown es1.size)).2.2
            storeSet a (relayAll t2 es1 (SetTable.grown es1.size)).1 (relayAll t2 es1 (SetTable.grown es1.size)).2.1
            pure (some true)
          else pure (some true)) R E s := by
  have hsz1 : es1.size = l'.length := by rw [← Array.length_toList, ← p1.length_eq, List.length_map]
  refine wpAny_bind (wpAny_storeSet_of ho hd ?_ (fits_of_scanBound (by rw [hsz1]; exact hb1)))
  have ho1 := L2.store_at (es' := es1) (t' := t2) ho hd
  have sb1 := Heap.SameBut.update s.heap a (Obj.putSet es1 t2)
  split
  · have pm := relayAll_perm t2 es1 (SetTable.grown es1.size)
    have hf3 := relayAll_fits t2 es1 (SetTable.grown es1.size)
    have hr3 := relayAll_ris t2 es1 (SetTable.grown es1.size)
    have hl3 := relayAll_led t2 es1 (SetTable.grown es1.size)
    generalize relayAll t2 es1 (SetTable.grown es1.size) = Z at pm hf3 hr3 hl3 ⊢
    obtain ⟨es2, t3, gave⟩ := Z
    dsimp only at pm hf3 hr3 hl3 ⊢
    have hsz : es2.size = es1.size := by rw [← Array.length_toList, pm.length_eq, Array.length_toList]
    refine wpAny_bind (hg _ _ _ ?_)
    refine wpAny_bind (wpAny_storeSet_of ho1 rfl ?_ (fits_of_scanBound (by rw [hsz, hsz1]; exact hb1)))
    have ho2 := L2.store_at (es' := es2) (t' := t3) ho1 rfl
    refine wpAny_pure (hR _ (sb1.trans (Heap.SameBut.update _ a _)) ?_)
    exact ⟨_, es2, _, t3, ho2, hex, rfl, fun e he => g1 e (pm.mem_iff.mp he), (pm.map keyC).trans p1, nd1, hb1, hf3, hr3, hl.imp id fun z => by rw [hl3]; exact z⟩
  · exact wpAny_pure (hR _ sb1 ⟨_, es1, _, t2, ho1, hex, rfl, g1, p1, nd1, hb1, hf2, hr, hl⟩)
theorem setC_add {c : Nat} {tk : Tok} {Q : Bool → Shared → Prop} (R : SetC w s.heap a l) (room : l.length + 1 < scanBound)
    (hQ : ∀ b h', Heap.SameBut a s.heap h' → SetC w h' a (if c ∈ l then l else c :: l) → Q b { s with heap := h' }) :
    wpAny (model P w) A (setAddHashed a (.str (sing c) tk) (hashStr w (sing c))) Q E s := by
  obtain ⟨o, es, ep, t, ho, hex, hd, g, pm0, nd, hb, hf, hr, hl⟩ := R
  have hkey : (strKind P w).is (sing c) (.str (sing c) tk) = true := is_str _ _
  have hsc : (Value.str (sing c) tk).scannable = true := rfl
  have hel : ElemsOf (strKind P w) es.toList := goodC_elems g
  have hsz : es.size = l.length := by rw [← Array.length_toList, ← pm0.length_eq, List.length_map]
  have hbs : es.size < scanBound := by rw [hsz]; exact hb
  have hmem : c ∈ l ↔ ∃ e ∈ es.toList, (strKind P w).is (sing c) e.2 = true := by
    rw [← pm0.mem_iff, List.mem_map]
    constructor
    · rintro ⟨e, he, q⟩
      exact ⟨e, he, (goodC_is (P := P) (g e he) c).2 q⟩
    · rintro ⟨e, he, q⟩
      exact ⟨e, he, (goodC_is (P := P) (g e he) c).1 q⟩
  unfold setAddHashed setAddHashedIn
  refine wpAny_holding (wpAny_bind (wpAny_setState_of ho hd hf ?_))
  dsimp only
  rw [byScan_of hsc hbs hel]
  simp only [↓reduceIte]
  unfold setAddByScan
  refine wpAny_bind ?_
  refine wpAny_bind (wpAny_rule ?_)
  refine wpAny_bind (wpAny_setScan_of (knd := strKind P w) (k := sing c) hkey ho hd hf hel ?_)
  cases hfi : List.findIdx? (fun e => (strKind P w).is (sing c) e.2) es.toList with
  | some j =>
    dsimp only
    obtain ⟨hj, pj, _⟩ := List.findIdx?_eq_some_iff_getElem.mp hfi
    have hc : c ∈ l := hmem.2 ⟨es.toList[j], List.getElem_mem hj, pj⟩
    refine wpAny_pure (wpAny_pure ?_)
    refine hQ _ s.heap (Heap.SameBut.refl a s.heap) ?_
    rw [if_pos hc]
    exact ⟨o, es, ep, t, ho, hex, hd, g, pm0, nd, hb, hf, hr, hl⟩
  | none =>
    dsimp only
    have hnk : c ∉ l := fun z => by
      obtain ⟨e, he, q⟩ := hmem.1 z
      have cc := List.findIdx?_eq_none_iff.mp hfi e he
      rw [q] at cc
      cases cc
    rw [if_neg hnk] at hQ
    have hgw : ∀ (b : Bool) {s₁ : Shared} {Q' : Unit → Shared → Prop}, Q' () s₁ → wpAny (model P w) A (match b with | true => rule "set.scan.the-table-gave-way" | false => pure ()) Q' E s₁ :=
      fun b s₁ Q' q => by cases b <;> first | exact wpAny_pure q | exact wpAny_rule q
    have pm := layNew_perm t es (hashStr w (sing c)) (.str (sing c) tk)
    have hf1 := layNew_fits t es (hashStr w (sing c)) (.str (sing c) tk)
    have hr1 := layNew_ris t es (hashStr w (sing c)) (.str (sing c) tk) hr
    have hl1 := layNew_led t es (hashStr w (sing c)) (.str (sing c) tk)
    generalize layNew t es (hashStr w (sing c)) (.str (sing c) tk) = Z at pm hf1 hr1 hl1 ⊢
    obtain ⟨es1, t1, wasDummy, gave⟩ := Z
    dsimp only at pm hf1 hr1 hl1 ⊢
    rw [Array.toList_push] at pm
    have pc : es1.toList.Perm ((hashStr w (sing c), Value.str (sing c) tk) :: es.toList) := pm.trans (List.perm_append_singleton _ _)
    have pk : (es1.toList.map keyC).Perm (c :: l) := (pc.map keyC).trans (List.Perm.cons _ pm0)
    have g1 : ∀ e ∈ es1.toList, GoodC w e := fun e he => by
      rcases List.mem_cons.mp (pc.mem_iff.mp he) with z | z
      · rw [z]; exact ⟨c, tk, rfl, rfl⟩
      · exact g e z
    have nd1 : (c :: l).Nodup := List.nodup_cons.mpr ⟨hnk, nd⟩
    have hb1 : (c :: l).length < scanBound := room
    have hled : w.params.followText "set-order" = true ∨ t1.led = true := hl.imp id fun z => by rw [hl1]; exact z
    refine wpAny_bind (hgw _ ?_)
    split
    · refine wpAny_bind ?_
      rw [hashByValue_scannable 8 hsc]
      refine wpAny_pure ?_
      refine setC_tail ?_ ho hex hd g1 pk nd1 hb1 ?_ ?_ ?_ ?_
      · intro b s₁ Q' q; cases b <;> first | exact wpAny_pure q | exact wpAny_rule q
      · first | (split <;> first | exact hf1 | exact SetTable.fits_plain_off hf1) | exact hf1
      · first | (split <;> exact hr1) | exact hr1
      · first | (split <;> exact hled) | exact hled
      · intro h' sb r; dsimp only; exact wpAny_pure (hQ _ h' sb r)
    · refine wpAny_bind (wpAny_pure ?_)
      simp only [↓reduceIte]
      refine setC_tail ?_ ho hex hd g1 pk nd1 hb1 hf1 hr1 hled ?_
      · intro b s₁ Q' q; cases b <;> first | exact wpAny_pure q | exact wpAny_rule q
      · intro h' sb r; dsimp only; exact wpAny_pure (hQ _ h' sb r)
/-- the signs in the order of their coming -/
def addC (l : List Nat) (c : Nat) : List Nat := if c ∈ l then l else c :: l
theorem addC_length (l : List Nat) (c : Nat) : (addC l c).length ≤ l.length + 1 := by
  unfold addC
  split
  · exact Nat.le_succ _
  · exact Nat.le_refl _
theorem set_update_signs {I : Addr} {fp wr : List Addr} {G : Array GenState → Array GenState → Prop} {n : Nat} {Pv : Nat → Value → Prop} {St : Nat → Shared → Prop} {R : Result → Shared → Prop}
    (W : WalksS P w A.in1 I fp wr G n Pv St) (S : Addr) (hSf : S ∉ fp) (cs : List Nat) (hn : n = cs.length) (hb : cs.length + 1 < scanBound) (hval : ∀ i v, Pv i v → ∃ c t, cs[i]? = some c ∧ v = .str (sing c) t) :
    ∀ (k i : Nat) (s : Shared), n - i = k → i ≤ n → St i s → SetC w s.heap S ((cs.take i).foldl addC []) →
      (∀ s', Moved (S :: wr) G s s' → SetC w s'.heap S (cs.foldl addC []) → R (.ok (.ret .none)) s') →
      codeAny (model P w) A (.builtin "set.update.loop" ⟨[.ref S, .ref I], []⟩) R s := by
  have hSw : S ∉ wr := fun h => hSf (W.sub _ h)
  have hsub : ∀ b ∈ wr, b ∈ S :: wr := fun b hb => List.mem_cons_of_mem _ hb
  have hlen : ∀ (xs : List Nat) (l : List Nat), (xs.foldl addC l).length ≤ l.length + xs.length := by
    intro xs
    induction xs with
    | nil => intro l; exact Nat.le_refl _
    | cons x xs ih =>
      intro l
      have h1 := ih (addC l x)
      have h2 := addC_length l x
      simp only [List.foldl_cons, List.length_cons]
      omega
  intro k
  induction k with
  | zero =>
    intro i s hk' hi hst hS hR
    have hin : i = n := by omega
    subst hin
    refine codeAny_builtin F.entry_set_update_loop ?_
    rw [Around.under_plainId F.plain_set_update_loop _]
    show wpAny _ A.in1 (pyNext (.ref I) >>= _) _ _ s
    refine wpAny_bind (W.done s _ _ hst fun s' hm => ?_)
    show wpAny _ A.in1 (ret Value.none) _ _ s'
    have e : cs.take i = cs := List.take_of_length_le (by omega)
    rw [e] at hS
    exact wpAny_pure (hR s' (hm.mono hsub) (hS.at fun o e => hm.heap S o hSw e))
  | succ k ih =>
    intro i s hk' hi hst hS hR
    have hlt : i < n := by omega
    refine codeAny_builtin F.entry_set_update_loop ?_
    rw [Around.under_plainId F.plain_set_update_loop _]
    show wpAny _ A.in1 (pyNext (.ref I) >>= _) _ _ s
    refine wpAny_bind (W.item i s _ _ hlt hst fun v s' hP hst' hm => ?_)
    obtain ⟨z, t, hz, rfl⟩ := hval i v hP
    have hS' : SetC w s'.heap S ((cs.take i).foldl addC []) := hS.at fun o e => hm.heap S o hSw e
    show wpAny _ A.in1 (holding [Value.str (sing z) t] (setAdd S (.str (sing z) t)) >>= _) _ _ s'
    refine wpAny_bind (wpAny_holding ?_)
    unfold setAdd
    refine wpAny_holding ?_
    refine wpAny_bind ((strKind P w).pyHash (k := sing z) (is_str _ _) ?_)
    have hroom : ((cs.take i).foldl addC []).length + 1 < scanBound := by
      have h1 := hlen (cs.take i) []
      have h2 : (cs.take i).length ≤ i := List.length_take_le _ _
      simp only [List.length_nil] at h1
      omega
    refine setC_add (s := { s' with toks := s'.toks + 1 }) hS' hroom fun b h' hsb hS2 => ?_
    have hS3 : SetC w h' S ((cs.take (i + 1)).foldl addC []) := by
      rw [List.take_add_one, hz]
      rw [List.foldl_append]
      exact hS2
    refine wpAny_pure ⟨plainId_quiet F.plain_set_update_loop _, ih (i + 1) _ (by omega) hlt (W.frame _ s' _ _ hst' (Nat.le_succ _) fun b hb o e => ?_) hS3 fun s'' hm'' hS'' => ?_⟩
    · rw [hsb.2 b (fun h : b = S => hSf (by rw [← h]; exact hb))]; exact e
    · refine hR s'' (Moved.trans W.gtrans ((hm.mono hsub).then_heap (Nat.le_succ _) fun b o hb e => ?_) hm'') hS''
      rw [hsb.2 b (fun h : b = S => hb (by rw [h]; exact List.mem_cons_self))]; exact e
theorem setC_new_at {w : World} {h : Heap} {a : Addr} (ho : h.get? a = some { cls := .type "set", dict := none, data := .set #[] 0 (.fresh 0 0 (!w.params.followText "set-order")) }) : SetC w h a [] :=
  ⟨_, #[], 0, _, ho, ⟨rfl, rfl, rfl⟩, rfl, (fun e he => by simp at he), .nil, List.nodup_nil, (by decide), (by rfl), List.Pairwise.nil, by
    show _ ∨ (!w.params.followText "set-order") = true
    cases w.params.followText "set-order"
    · exact .inr rfl
    · exact .inl rfl⟩
set_option maxRecDepth 100000 in
set_option maxHeartbeats 3200000 in
theorem call_set_text {z : Str} {t : Tok} {Q : Value → Shared → Prop} (hh : A.handled = none) (hb : z.cps.size + 1 < scanBound)
    (h : ∀ (h' : Heap) (tk : Nat), SetC w h' s.heap.objs.size (z.cps.toList.foldl addC []) → (∀ b o, s.heap.get? b = some o → h'.get? b = some o) → Q (.ref s.heap.objs.size) { s with heap := h', toks := tk }) :
    wpAny (model P w) A (call (.type "set") [.str z t]) Q E s := by
  obtain ⟨c, tl, hmro⟩ := F.called_set.mro
  have hmade := F.called_set.made
  have hsub := F.called_set.sub
  refine wpAny_call (codeAny_of_tree ?_)
  show wpAny _ _ (callAny (.type "set") _) _ _ _
  refine wpAny_pure ⟨Code.quiet_builtin _ (by decide +kernel), codeAny_builtin F.entry_type_call ?_⟩
  rw [Around.under_plain (weight_type_call_type "set" [.str z t] []) rfl]
  have h1 := F.called_set.notType
  have h2 := F.called_set.canCreate
  have hct := F.typeCall_set_1 (.str z t)
  repeat (any_goals (first | assumption | wp_step))

  refine codeAny_mono (code_set_led1 (.str z t) (E := E) (Q₁ := fun obj s₁ => obj = .ref s.heap.objs.size ∧ s₁ = { s with heap := s.heap.push { cls := .type "set", dict := none, data := .set #[] 0 (.fresh 0 0 (!w.params.followText "set-order")) } }) ⟨rfl, rfl⟩) fun r s₁ hr => ?_
  cases r with
  | error e => exact hr
  | ok fl =>
    cases fl with
    | ret obj =>
      obtain ⟨rfl, rfl⟩ := hr
      have hS : (s.heap.push { cls := .type "set", dict := none, data := .set #[] 0 (.fresh 0 0 (!w.params.followText "set-order")) }).get? s.heap.objs.size = some { cls := .type "set", dict := none, data := .set #[] 0 (.fresh 0 0 (!w.params.followText "set-order")) } := Heap.get?_push_size _ rfl
      have hT : Shared.TypeIs { s with heap := s.heap.push { cls := .type "set", dict := none, data := .set #[] 0 (.fresh 0 0 (!w.params.followText "set-order")) } } (.ref s.heap.objs.size) "set" := ⟨_, hS, rfl⟩
      have hli := F.called_set.init.lookup
      have hbi := F.called_set.init.bind (.ref s.heap.objs.size)
      repeat (any_goals (first | assumption | wp_step))

      refine codeAny_mono (codeAny_call_builtin (R := wants (fun r s₂ => r = .none ∧ ∃ h' tk, s₂ = { s with heap := h', toks := tk } ∧ SetC w h' s.heap.objs.size (z.cps.toList.foldl addC []) ∧
          (∀ b o, s.heap.get? b = some o → h'.get? b = some o)) E) F.called_set.init.plain F.entry_set_init (check_set_init_1 hT ?_)) fun r₂ s₂ hr₂ => ?_
      · have hsls := F.sub_str_set
        have hslf := F.sub_str_frozenset
        have hne : (Value.type "str" == Value.type "dict") = false := by decide
        unfold Builtin.«set.__init__» noKeywords Builtin.Frozenset.updateFrom
        generalize hPI : pyIter = PI
        wp_walk
        subst hPI

        refine wpAny_pyIter_str fun o St W hst => ?_
        refine wpAny_bind (wpAny_runValue ?_)
        have hh3 : A.in1.in1.in1.handled = none := by simp [hh]
        have hSf : s.heap.objs.size ∉ [(s.heap.push { cls := .type "set", dict := none, data := .set #[] 0 (.fresh 0 0 (!w.params.followText "set-order")) }).objs.size] := by
          rw [Heap.size_push]; simp
        have hval : ∀ (i : Nat) (v : Value), SignAt z i v → ∃ c t, z.cps.toList[i]? = some c ∧ v = .str (sing c) t := fun i v hv => by
          obtain ⟨c, u, e1, e2⟩ := hv
          exact ⟨c, u, by rw [Array.getElem?_toList]; exact e1, e2⟩
        refine set_update_signs ((W A.in1.in1.in1 hh3).toS) s.heap.objs.size
          hSf z.cps.toList (by rw [Array.length_toList]) (by rw [Array.length_toList]; exact hb) hval (z.cps.size - 0) 0 _ (by omega) (Nat.zero_le _)
          hst ?hS0 ?hR
        case hS0 =>
          exact setC_new_at (Heap.get?_push_of_some _ hS)
        case hR =>
          intro s' hm hS'
          obtain ⟨h', g2, d', tk', os'⟩ := s'
          have eg : g2 = s.gens := hm.gens
          have ed : d' = s.drawn := hm.drawn
          have eo : os' = s.os := hm.os
          subst eg; subst ed; subst eo
          show wpAny _ _ _ _ _ _
          refine wpAny_pure ?_
          show wpAny _ _ (ret Value.none) _ _ _
          refine wpAny_pure ⟨rfl, h', tk', rfl, hS', fun b o e => ?_⟩
          have hb0 : b < s.heap.objs.size := Heap.lt_size e
          have hb1 : b ≠ s.heap.objs.size := Nat.ne_of_lt hb0
          have hb2 : b ≠ (s.heap.push { cls := .type "set", dict := none, data := .set #[] 0 (.fresh 0 0 (!w.params.followText "set-order")) }).objs.size := by
            rw [Heap.size_push]; exact Nat.ne_of_lt (Nat.lt_succ_of_lt hb0)
          exact hm.heap b o (by simp only [List.mem_cons, List.mem_singleton, List.not_mem_nil, or_false, not_or]; exact ⟨hb1, hb2⟩) (Heap.get?_push_of_some _ (Heap.get?_push_of_some _ e))

      · cases r₂ with
        | error e => exact hr₂
        | ok fl₂ =>
          cases fl₂ with
          | ret r =>
            obtain ⟨rfl, h', tk, rfl, hS', hk'⟩ := hr₂
            repeat (any_goals (first | assumption | wp_step))
            exact h _ _ hS' hk'
          | _ => exact hr₂.elim
    | _ => exact hr.elim
end
end Q3
/-! Q3n: sorted(set(e)). -/
namespace Q3
open PySem PySem.Spec PyProof.Rows L2
open PySem.Froz (sing is_str)

/-! ### the members in order, Nat -/
def insN (x : Nat) : List Nat → List Nat
  | [] => [x]
  | y :: r => if x < y then x :: y :: r else if x = y then y :: r else y :: insN x r
def usortN (l : List Nat) : List Nat := l.foldr insN []
theorem mem_insN {x z : Nat} : ∀ {l : List Nat}, z ∈ insN x l ↔ z = x ∨ z ∈ l
  | [] => by simp [insN]
  | y :: r => by
    unfold insN
    split
    · simp
    · split
      · rename_i h; subst h; simp
      · rw [List.mem_cons, mem_insN (l := r), List.mem_cons]
        constructor
        · rintro (h | h | h)
          · exact .inr (.inl h)
          · exact .inl h
          · exact .inr (.inr h)
        · rintro (h | h | h)
          · exact .inr (.inl h)
          · exact .inl h
          · exact .inr (.inr h)
theorem mem_usortN {z : Nat} : ∀ {l : List Nat}, z ∈ usortN l ↔ z ∈ l
  | [] => Iff.rfl
  | y :: r => by
    show z ∈ insN y (usortN r) ↔ _
    rw [mem_insN, mem_usortN (l := r), List.mem_cons]
theorem insN_lt {x : Nat} : ∀ {l : List Nat}, l.Pairwise (· < ·) → (insN x l).Pairwise (· < ·)
  | [], _ => by simp [insN]
  | y :: r, h => by
    obtain ⟨h1, h2⟩ := List.pairwise_cons.mp h
    unfold insN
    split
    · rename_i hx
      refine List.pairwise_cons.mpr ⟨fun z hz => ?_, h⟩
      rcases List.mem_cons.mp hz with e | e
      · omega
      · have := h1 z e; omega
    · split
      · exact h
      · refine List.pairwise_cons.mpr ⟨fun z hz => ?_, insN_lt h2⟩
        rcases mem_insN.mp hz with e | e
        · omega
        · exact h1 z e
theorem usortN_lt : ∀ l : List Nat, (usortN l).Pairwise (· < ·)
  | [] => List.Pairwise.nil
  | _ :: r => insN_lt (usortN_lt r)
theorem lt_uniqN : ∀ {a b : List Nat}, a.Pairwise (· < ·) → b.Pairwise (· < ·) → (∀ z, z ∈ a ↔ z ∈ b) → a = b
  | [], [], _, _, _ => rfl
  | [], y :: _, _, _, h => absurd ((h y).mpr List.mem_cons_self) (by simp)
  | x :: _, [], _, _, h => absurd ((h x).mp List.mem_cons_self) (by simp)
  | x :: a, y :: b, h1, h2, h => by
    obtain ⟨p1, p2⟩ := List.pairwise_cons.mp h1
    obtain ⟨q1, q2⟩ := List.pairwise_cons.mp h2
    have e : x = y := by
      rcases List.mem_cons.mp ((h x).mp List.mem_cons_self) with e | e
      · exact e
      · rcases List.mem_cons.mp ((h y).mpr List.mem_cons_self) with e' | e'
        · exact e'.symm
        · have := q1 x e
          have := p1 y e'
          omega
    subst e
    rw [lt_uniqN p2 q2 fun z => ?_]
    constructor
    · intro hz
      rcases List.mem_cons.mp ((h z).mp (List.mem_cons_of_mem _ hz)) with e | e
      · have := p1 z hz
        omega
      · exact e
    · intro hz
      rcases List.mem_cons.mp ((h z).mpr (List.mem_cons_of_mem _ hz)) with e | e
      · have := q1 z hz
        omega
      · exact e
theorem usortN_id {l : List Nat} (h : l.Pairwise (· < ·)) : usortN l = l := lt_uniqN (usortN_lt l) h fun _ => mem_usortN
theorem usortN_fix {l : List Nat} : usortN l = l ↔ l.Pairwise (· < ·) := ⟨fun h => by rw [← h]; exact usortN_lt l, usortN_id⟩

/-! ### the members in order, Int -/
def insI (x : Int) : List Int → List Int
  | [] => [x]
  | y :: r => if x < y then x :: y :: r else if x = y then y :: r else y :: insI x r
def usortI (l : List Int) : List Int := l.foldr insI []
theorem mem_insI {x z : Int} : ∀ {l : List Int}, z ∈ insI x l ↔ z = x ∨ z ∈ l
  | [] => by simp [insI]
  | y :: r => by
    unfold insI
    split
    · simp
    · split
      · rename_i h; subst h; simp
      · rw [List.mem_cons, mem_insI (l := r), List.mem_cons]
        constructor
        · rintro (h | h | h)
          · exact .inr (.inl h)
          · exact .inl h
          · exact .inr (.inr h)
        · rintro (h | h | h)
          · exact .inr (.inl h)
          · exact .inl h
          · exact .inr (.inr h)
theorem mem_usortI {z : Int} : ∀ {l : List Int}, z ∈ usortI l ↔ z ∈ l
  | [] => Iff.rfl
  | y :: r => by
    show z ∈ insI y (usortI r) ↔ _
    rw [mem_insI, mem_usortI (l := r), List.mem_cons]
theorem insI_lt {x : Int} : ∀ {l : List Int}, l.Pairwise (· < ·) → (insI x l).Pairwise (· < ·)
  | [], _ => by simp [insI]
  | y :: r, h => by
    obtain ⟨h1, h2⟩ := List.pairwise_cons.mp h
    unfold insI
    split
    · rename_i hx
      refine List.pairwise_cons.mpr ⟨fun z hz => ?_, h⟩
      rcases List.mem_cons.mp hz with e | e
      · omega
      · have := h1 z e; omega
    · split
      · exact h
      · refine List.pairwise_cons.mpr ⟨fun z hz => ?_, insI_lt h2⟩
        rcases mem_insI.mp hz with e | e
        · omega
        · exact h1 z e
theorem usortI_lt : ∀ l : List Int, (usortI l).Pairwise (· < ·)
  | [] => List.Pairwise.nil
  | _ :: r => insI_lt (usortI_lt r)
theorem lt_uniqI : ∀ {a b : List Int}, a.Pairwise (· < ·) → b.Pairwise (· < ·) → (∀ z, z ∈ a ↔ z ∈ b) → a = b
  | [], [], _, _, _ => rfl
  | [], y :: _, _, _, h => absurd ((h y).mpr List.mem_cons_self) (by simp)
  | x :: _, [], _, _, h => absurd ((h x).mp List.mem_cons_self) (by simp)
  | x :: a, y :: b, h1, h2, h => by
    obtain ⟨p1, p2⟩ := List.pairwise_cons.mp h1
    obtain ⟨q1, q2⟩ := List.pairwise_cons.mp h2
    have e : x = y := by
      rcases List.mem_cons.mp ((h x).mp List.mem_cons_self) with e | e
      · exact e
      · rcases List.mem_cons.mp ((h y).mpr List.mem_cons_self) with e' | e'
        · exact e'.symm
        · have := q1 x e
          have := p1 y e'
          omega
    subst e
    rw [lt_uniqI p2 q2 fun z => ?_]
    constructor
    · intro hz
      rcases List.mem_cons.mp ((h z).mp (List.mem_cons_of_mem _ hz)) with e | e
      · have := p1 z hz
        omega
      · exact e
    · intro hz
      rcases List.mem_cons.mp ((h z).mpr (List.mem_cons_of_mem _ hz)) with e | e
      · have := q1 z hz
        omega
      · exact e
theorem usortI_id {l : List Int} (h : l.Pairwise (· < ·)) : usortI l = l := lt_uniqI (usortI_lt l) h fun _ => mem_usortI
theorem usortI_fix {l : List Int} : usortI l = l ↔ l.Pairwise (· < ·) := ⟨fun h => by rw [← h]; exact usortI_lt l, usortI_id⟩
theorem insN_len (x : Nat) : ∀ l : List Nat, (insN x l).length ≤ l.length + 1
  | [] => Nat.le_refl _
  | y :: r => by
    have := insN_len x r
    unfold insN
    split
    · exact Nat.le_refl _
    · split
      · exact Nat.le_succ _
      · simp only [List.length_cons]; omega
theorem usortN_len : ∀ l : List Nat, (usortN l).length ≤ l.length
  | [] => Nat.le_refl _
  | x :: r => by
    have h1 := insN_len x (usortN r)
    have h2 := usortN_len r
    show (insN x (usortN r)).length ≤ _
    simp only [List.length_cons]; omega
theorem insI_len (x : Int) : ∀ l : List Int, (insI x l).length ≤ l.length + 1
  | [] => Nat.le_refl _
  | y :: r => by
    have := insI_len x r
    unfold insI
    split
    · exact Nat.le_refl _
    · split
      · exact Nat.le_succ _
      · simp only [List.length_cons]; omega
theorem usortI_len : ∀ l : List Int, (usortI l).length ≤ l.length
  | [] => Nat.le_refl _
  | x :: r => by
    have h1 := insI_len x (usortI r)
    have h2 := usortI_len r
    show (insI x (usortI r)).length ≤ _
    simp only [List.length_cons]; omega
theorem mem_addC {l : List Nat} {c z : Nat} : z ∈ addC l c ↔ z = c ∨ z ∈ l := by
  unfold addC
  split
  · rename_i h
    constructor
    · exact .inr
    · rintro (e | e)
      · rw [e]; exact h
      · exact e
  · rw [List.mem_cons]
theorem mem_addAll {z : Nat} : ∀ {cs l : List Nat}, z ∈ cs.foldl addC l ↔ z ∈ cs ∨ z ∈ l
  | [], l => by simp
  | c :: cs, l => by
    rw [List.foldl_cons, mem_addAll (cs := cs), mem_addC, List.mem_cons]
    constructor
    · rintro (h | h | h)
      · exact .inl (.inr h)
      · exact .inl (.inl h)
      · exact .inr h
    · rintro ((h | h) | h)
      · exact .inr (.inl h)
      · exact .inl h
      · exact .inr (.inr h)
theorem le_of_sortedS : ∀ {cs : List Nat}, sortedS (cs.map sing) = true → cs.Pairwise (· ≤ ·)
  | [], _ => List.Pairwise.nil
  | [c], _ => by simp
  | c :: d :: r, h => by
    have h' : (!ltCps (sing d).cps.toList (sing c).cps.toList && risingS (sing d) (r.map sing)) = true := h
    obtain ⟨h1, h2⟩ := Bool.and_eq_true_iff.mp h'
    have ih : (d :: r).Pairwise (· ≤ ·) := le_of_sortedS (cs := d :: r) h2
    have hcd : c ≤ d := by
      have e : ltCps [d] [c] = false := Bool.not_eq_true' _ ▸ h1
      simp [ltCps] at e
      omega
    refine List.pairwise_cons.mpr ⟨fun z hz => ?_, ih⟩
    rcases List.mem_cons.mp hz with e | e
    · rw [e]; exact hcd
    · have := (List.pairwise_cons.mp ih).1 z e
      omega
theorem ltN_of_le_nodup {l : List Nat} (h : l.Pairwise (· ≤ ·)) (d : l.Nodup) : l.Pairwise (· < ·) := by
  have := h.and d
  exact this.imp fun ⟨h1, h2⟩ => Nat.lt_of_le_of_ne h1 h2
theorem of_signs : ∀ {ys : List Str} {l : List Nat}, ys.Perm (l.map sing) → ∃ cs : List Nat, ys = cs.map sing ∧ cs.Perm l
  | ys, l, h => by
    have hall : ∀ y ∈ ys, sing (y.cps.getD 0 0) = y := fun y hy => by
      obtain ⟨c, _, e⟩ := List.mem_map.mp (h.mem_iff.mp hy)
      rw [← e]
      rfl
    refine ⟨ys.map fun y => y.cps.getD 0 0, ?_, ?_⟩
    · rw [List.map_map]
      conv => lhs; rw [← List.map_id ys]
      exact List.map_congr_left fun y hy => (hall y hy).symm
    · have q := h.map fun y : Str => y.cps.getD 0 0
      rw [List.map_map] at q
      have e : ((fun y : Str => y.cps.getD 0 0) ∘ sing) = id := by funext c; rfl
      rw [e, List.map_id] at q
      exact q
section
variable {P : Program} {w : World} {A : Around} {E : Value → Shared → Prop} {s : Shared} {a : Addr}
theorem strs_of : ∀ (l : List Value), (∀ v ∈ l, ∃ c tk, v = Value.str (sing c) tk) → StrsAre l (l.map fun v => sing (keyC (0, v)))
  | [], _ => .nil
  | v :: l, h => by
    obtain ⟨c, tk, rfl⟩ := h v List.mem_cons_self
    exact .cons (sing c) tk (strs_of l fun u hu => h u (List.mem_cons_of_mem _ hu))
/-- sorted(set of signs) -/
theorem sorted_setC {l : List Nat} {Q : Value → Shared → Prop} (R : SetC w s.heap a l) (hh : A.handled = none)
    (hQ : ∀ s' p (out : Array Value) (c : Nat), (∀ b o, s.heap.get? b = some o → s'.heap.get? b = some o) → s'.gens = s.gens → s'.os = s.os → s.heap.objs.size ≤ p →
      s'.heap.get? p = some (seqObj "list" out c) → StrsAre out.toList ((usortN l).map sing) → Q (.ref p) s') :
    wpAny (model P w) A (call (.builtin "sorted") [.ref a]) Q E s := by
  obtain ⟨o, es, ep, t, ho, hex, hd, g, pm0, nd, hb, hf, hr, hl⟩ := R
  have hsz : es.size = l.length := by rw [← Array.length_toList, ← pm0.length_eq, List.length_map]
  refine Calls.call_function_entry kind_sorted plain_sorted entry_sorted (args_sorted1 _) ?_
  unfold Builtin.«sorted»
  refine wpAny_bind (m := checkCount "sorted" 1 1 _) (wpAny_pure ?_)
  refine wpAny_bind (collect_set (A := A.in1) hh ⟨o, ho, hex.1, hd⟩ hf (by rw [hsz]; exact hb) hr hl fun s1 vs k1 hz g1 o1 pm => ?_)
  have hvl : vs.length = l.length := by rw [pm.length_eq, List.length_map, Array.length_toList]; exact hsz
  have hS : StrsAre vs (vs.map fun v => sing (keyC (0, v))) := strs_of vs fun v hv => by
    obtain ⟨e, he, q⟩ := List.mem_map.mp (pm.mem_iff.mp hv)
    obtain ⟨k, tk, h1, _⟩ := g e he
    exact ⟨k, tk, by rw [← q]; exact h1⟩
  have pk : (vs.map fun v => sing (keyC (0, v))).Perm (l.map sing) := by
    have q := pm.map fun v => sing (keyC (0, v))
    rw [List.map_map] at q
    have q2 := pm0.map sing
    rw [List.map_map] at q2
    refine q.trans (List.Perm.trans (.of_eq (List.map_congr_left fun e he => rfl)) q2)
  have hL : vs.length ≤ sizeLine := by
    rw [hvl]
    unfold scanBound at hb
    rw [sizeLine_eq]
    omega
  refine wpAny_bind (wpAny_newList ?_ hL)
  have hoL : (s1.heap.push (seqObj "list" vs.toArray 0)).get? s1.heap.objs.size = some (seqObj "list" vs.toArray 0) := Heap.get?_push_size _ rfl
  refine wpAny_bind (wpAny_holding (wpAny_call_entry slot_list_sort ⟨_, hoL, rfl⟩ entry_list_sort (list_sort_treeKAny strKind_oneLt hoL hS.keysOf (fun v₁ v₂ rest e => keyKind_strs (by rw [← e]; exact hS)) hL fun st' hp hs => ?_) (args_list_sort _)))
  obtain ⟨ss', a1, a2, a3⟩ := sorted_out_str hS hp hs
  obtain ⟨c, hc⟩ := sortedHeap_at (vs := vs) (out := (arrOf st').map (·.2)) hoL
  obtain ⟨cs, rfl, pc⟩ := of_signs (a2.trans pk)
  have ecs : cs = usortN l := lt_uniqN (ltN_of_le_nodup (le_of_sortedS a3) (pc.nodup_iff.mpr nd)) (usortN_lt l) fun z => by rw [pc.mem_iff, mem_usortN]
  rw [ecs] at a1
  refine ⟨_, rfl, wpAny_pure ⟨_, rfl, hQ _ s1.heap.objs.size _ c (fun b u e => ?_) g1 o1 hz hc a1⟩⟩
  have q := k1 b u e
  have hlt := Heap.lt_size q
  show (sortedHeap (s1.heap.push (seqObj "list" vs.toArray 0)) s1.heap.objs.size vs _).get? b = some u
  rw [sortedHeap_old (Nat.ne_of_lt hlt) (by rw [size_push']; exact Nat.lt_succ_of_lt hlt)]
  exact Heap.get?_push_of_some _ q
/-- sorted(set of ints), any number -/
theorem sorted_setI {S : Int → Bool} {n : Nat} {Q : Value → Shared → Prop} (R : SetR w s.heap a S n) (hh : A.handled = none)
    (hQ : ∀ s' p (out : Array Value) (c : Nat) (ns : List Int), (∀ b o, s.heap.get? b = some o → s'.heap.get? b = some o) → s'.gens = s.gens → s'.os = s.os → s.heap.objs.size ≤ p →
      s'.heap.get? p = some (seqObj "list" out c) → IntsAre out.toList ns → ns.Pairwise (· < ·) → (∀ k, k ∈ ns ↔ S k = true) → Q (.ref p) s') :
    wpAny (model P w) A (call (.builtin "sorted") [.ref a]) Q E s := by
  obtain ⟨o, es, ep, t, ho, hex, hd, g, nd, hm, hb, hf, hn, hr, hl⟩ := R
  refine Calls.call_function_entry kind_sorted plain_sorted entry_sorted (args_sorted1 _) ?_
  unfold Builtin.«sorted»
  refine wpAny_bind (m := checkCount "sorted" 1 1 _) (wpAny_pure ?_)
  refine wpAny_bind (collect_set (A := A.in1) hh ⟨o, ho, hex.1, hd⟩ hf hb hr hl fun s1 vs k1 hz g1 o1 pm => ?_)
  have hvl : vs.length = es.size := by rw [pm.length_eq, List.length_map, Array.length_toList]
  have hI : IntsAre vs (vs.map Builtin.Re.reRawOf) := ints_of vs fun v hv => by
    obtain ⟨e, he, q⟩ := List.mem_map.mp (pm.mem_iff.mp hv)
    obtain ⟨k, tk, h1, _⟩ := g e he
    exact ⟨k, tk, by rw [← q]; exact h1⟩
  have pk : (vs.map Builtin.Re.reRawOf).Perm (es.toList.map keyOf) := by
    have q := pm.map Builtin.Re.reRawOf
    rw [List.map_map] at q
    exact q
  have hL : vs.length ≤ sizeLine := by
    rw [hvl]
    unfold scanBound at hb
    rw [sizeLine_eq]
    omega
  refine wpAny_bind (wpAny_newList ?_ hL)
  have hoL : (s1.heap.push (seqObj "list" vs.toArray 0)).get? s1.heap.objs.size = some (seqObj "list" vs.toArray 0) := Heap.get?_push_size _ rfl
  refine wpAny_bind (wpAny_holding (wpAny_call_entry slot_list_sort ⟨_, hoL, rfl⟩ entry_list_sort (list_sort_treeAny hoL hI hL fun out ns' a1 a2 a3 => ⟨_, rfl, ?_⟩) (args_list_sort _)))
  obtain ⟨c, hc⟩ := sortedHeap_at (vs := vs) (out := out) hoL
  have pn : ns'.Perm (es.toList.map keyOf) := a2.trans pk
  refine wpAny_pure ⟨_, rfl, hQ _ s1.heap.objs.size out c ns' (fun b u e => ?_) g1 o1 hz hc a1 (lt_of_le_nodup ns' a3 (pn.nodup_iff.mpr nd)) (fun k => by rw [pn.mem_iff, ← hm k])⟩
  have q := k1 b u e
  have hlt := Heap.lt_size q
  show (sortedHeap (s1.heap.push (seqObj "list" vs.toArray 0)) s1.heap.objs.size vs out).get? b = some u
  rw [sortedHeap_old (Nat.ne_of_lt hlt) (by rw [size_push']; exact Nat.lt_succ_of_lt hlt)]
  exact Heap.get?_push_of_some _ q
end
/-! ### over the layer -/
def SetCO (w : World) (a : Addr) (l : List Nat) : HO := .ext fun h => SetC w h a l
section
variable {X : Cx}
def rSet (K : PySem.W.Frag) (w : World) : List V → Hp → VK → Prop := fun xs H Q => (∃ z : Str, xs = [.str z] ∧ z.cps.size + 1 < scanBound ∧ ∀ p, H p = none → Q (.ref p) (upd H p (SetCO w p (z.cps.toList.foldl addC [])))) ∨
  ∃ (p0 : Addr) (ns : List Int), xs = [.ref p0] ∧ SqT K H p0 (ns.map V.int) ∧ ns.length + 1 < scanBound ∧ ∀ p c, H p = none → Q (.ref p) (upd H p (SetO w p (fun j => decide (j ∈ ns)) c))
theorem call_set (hc : X.calm = true) : CallR X (.type "set") (rSet X.K X.w) := by
  intro pins s σ H xs us Q I r h
  rcases h with ⟨z, rfl, hz, q⟩ | ⟨p0, ns, rfl, hp, hz, q⟩
  · obtain ⟨u, rfl, t, rfl⟩ := vals1 r
    refine call_set_text (I.ok.hd hc) hz fun h' tk R k => ?_
    have new : ObjOk X.prog X.w (upd H s.heap.objs.size (SetCO X.w s.heap.objs.size (z.cps.toList.foldl addC []))) h' s.heap.objs.size (SetCO X.w s.heap.objs.size (z.cps.toList.foldl addC [])) := by
      have ⟨o, _, _, _, ho, _⟩ := R
      exact ⟨R, ⟨o, ho⟩, fun h1 h2 p k => SetC.at p k⟩
    exact ⟨.ref _, _, I.laid (t' := tk) k (Nat.le_refl _) new, rfl, q _ (I.hok.fresh (Nat.le_refl _))⟩
  · obtain ⟨its, rv, pl, hl⟩ := I.tuple hp
    rw [Vals.ref1 r]
    refine call_set_tupI ns (I.ok.hd hc) (show s.heap.IsTuple p0 its.toArray from pl) (by simpa using ints_of_vals rv) hz fun h' tk c R _ k => ?_
    exact ⟨.ref _, _, I.laid (t' := tk) k (Nat.le_refl _) (setO_new R), rfl, q _ c (I.hok.fresh (Nat.le_refl _))⟩
def rSortSet (w : World) : List V → Hp → VK → Prop := fun xs H Q => (∃ (a : Addr) (l : List Nat), xs = [.ref a] ∧ H a = some (SetCO w a l) ∧ ∀ p, H p = none → Q (.ref p) (upd H p (.lst ((usortN l).map fun c => .str (sing c))))) ∨
  ∃ (a : Addr) (ns : List Int) (c : Nat), xs = [.ref a] ∧ H a = some (SetO w a (fun j => decide (j ∈ ns)) c) ∧ (usortI ns).length ≤ sizeLine ∧ ∀ p, H p = none → Q (.ref p) (upd H p (.lst ((usortI ns).map .int)))
theorem vals_signs {us : List Value} {l : List Nat} (h : StrsAre us (l.map sing)) : Vals (l.map fun c => V.str (sing c)) us := by
  have q := vals_of_strs h
  rw [List.map_map] at q
  exact q
theorem call_sortSet (hc : X.calm = true) : CallR X (.builtin "sorted") (rSortSet X.w) := by
  intro pins s σ H vs us Q I r h
  rcases h with ⟨a, l, rfl, ha, q⟩ | ⟨a, ns, n, rfl, ha, hz, q⟩
  · have R : SetC X.w s.heap a l := (I.hok a _ ha).1
    have hll : l.length < scanBound := by
      have ⟨_, _, _, _, _, _, _, _, _, _, hb, _⟩ := R
      exact hb
    rw [Vals.ref1 r]
    refine sorted_setC R (I.ok.hd hc) fun s' p out c k g o hp hg hi => ?_
    have hn : H p = none := I.hok.fresh hp
    have hlen : ((usortN l).map fun c => V.str (sing c)).length ≤ sizeLine := by
      have ⟨_, _, _, _, _, _, _, _, _, nd, hb, _⟩ := R
      rw [List.length_map]
      have e := usortN_len l
      unfold scanBound at hb
      rw [sizeLine_eq]
      omega
    have J : Inv X pins σ (upd H p (.lst ((usortN l).map fun c => V.str (sing c)))) { s with heap := s'.heap, gens := s'.gens, drawn := s'.drawn, toks := s'.toks } :=
      I.call (ch := []) (Un.laid k hp hn) (I.hok.laid k hp ⟨hlen, out.toList, c, vals_signs hi, hg⟩) (by rw [g]; exact I.bare) (fun _ z => nomatch z)
    have e : s' = { s with heap := s'.heap, gens := s'.gens, drawn := s'.drawn, toks := s'.toks } := by
      obtain ⟨h1, h2, h3, h4, h5⟩ := s'
      have e5 : h5 = s.os := o
      subst e5
      rfl
    rw [e]
    exact ⟨.ref p, _, J, rfl, q p hn⟩
  · have R := setO_get I ha
    rw [Vals.ref1 r]
    refine sorted_setI R (I.ok.hd hc) fun s' p out c ns' k g o hp hg hi hs hm => ?_
    have hn : H p = none := I.hok.fresh hp
    have en : ns' = usortI ns := lt_uniqI hs (usortI_lt ns) fun z => by rw [hm z, mem_usortI]; exact decide_eq_true_iff
    subst en
    have hlen : ((usortI ns).map V.int).length ≤ sizeLine := by rw [List.length_map]; exact hz
    have J : Inv X pins σ (upd H p (.lst ((usortI ns).map V.int))) { s with heap := s'.heap, gens := s'.gens, drawn := s'.drawn, toks := s'.toks } :=
      I.call (ch := []) (Un.laid k hp hn) (I.hok.laid k hp ⟨hlen, out.toList, c, vals_of_ints hi, hg⟩) (by rw [g]; exact I.bare) (fun _ z => nomatch z)
    have e : s' = { s with heap := s'.heap, gens := s'.gens, drawn := s'.drawn, toks := s'.toks } := by
      obtain ⟨h1, h2, h3, h4, h5⟩ := s'
      have e5 : h5 = s.os := o
      subst e5
      rfl
    rw [e]
    exact ⟨.ref p, _, J, rfl, q p hn⟩
end

def gSset : D → Option PV
  | .str z => if z.cps.size + 1 < scanBound then some (.o (.l ((usortN z.cps.toList).map fun c => .str (sing c)))) else none
  | .tuple xs => (match intsOf xs with
    | some ns => if ns.length + 1 < scanBound then some (.o (.l ((usortI ns).map .int))) else none
    | none => none)
  | _ => none
theorem usortN_add (cs : List Nat) : usortN (cs.foldl addC []) = usortN cs := lt_uniqN (usortN_lt _) (usortN_lt _) fun z => by rw [mem_usortN, mem_usortN, mem_addAll]; simp
theorem DnAll.sings {K : PySem.W.Frag} {F : Hp} : ∀ l : List Nat, DnAll K F (l.map fun c => V.str (sing c)) (l.map fun c => .str (sing c))
  | [] => .nil
  | _ :: r => .cons (.str _) (DnAll.sings r)
section
variable [TabSet] {X : Cx} {W : WX} {a : Expr} {fa : Sq → Out PV} {pos : Pos} {N : List Str} {sc : Scope} {k : Nat} {G : Gb}
theorem de_sset {p p1 pos1 : Pos} (C : Cq G k N sc X) (hi : sc.names.lookup ("sorted" : Str) = some .globalImplicit) (hi2 : sc.names.lookup ("set" : Str) = some .globalImplicit) (mi : G.mg "sorted" = none) (mi2 : G.mg "set" = none) (ha : DE X W a fa)
    (hst : starEach [a] X.env = (false, eval a X.env) :: starEach [] X.env := by rfl) (hpl : (backTo pos1 (starEach [] X.env)).any (·.1) = false := by rfl)
    (hst2 : starEach [.Call (.Name "set" p1) [a] [] pos1] X.env = (false, eval (.Call (.Name "set" p1) [a] [] pos1) X.env) :: starEach [] X.env := by rfl) (hpl2 : (backTo pos (starEach [] X.env)).any (·.1) = false := by rfl) :
    DE X W (.Call (.Name "sorted" p) [.Call (.Name "set" p1) [a] [] pos1] [] pos) (f1 gSset fa) := by
  refine PE.weak (pe_callB (call_sortSet C.calm) (glC C hi) (mgC C mi) (by decide +kernel) (pa_cons (pe_callTy (call_set C.calm) (glC C hi2) (mgC C mi2) (by decide +kernel) (pa_cons (de_fz ha) pa_nil hst) (by decide) (by decide) hst hpl) pa_nil hst2) (by decide) (by decide) hst2 hpl2) fun σ H Q z => ?_
  obtain ⟨F0, H0, pa, F, S, A, z⟩ := z
  unfold f1 at z
  rw [OutP.bind] at z
  refine ⟨F0, H0, pa, F, S, A, z.imp (fun p S1 z v F1 H1 x1 A1 r1 => ?_) fun _ _ z => z⟩
  split at z
  · rename_i d e1
    have dv := A1.val r1 e1
    split at z
    · rename_i w e2
      cases d <;> simp only [gSset] at e2 <;> try (cases e2; done)
      · split at e2
        · rename_i hz
          cases e2
          rw [dv.str]
          refine .inl ⟨_, rfl, hz, fun p hp => .inl ⟨p, _, rfl, upd_same, fun p2 hp2 => ?_⟩⟩
          rw [usortN_add]
          obtain ⟨B, o⟩ := (A1.more (Ex.new hp)).newO (vs := (usortN _).map fun c => V.str (sing c)) hp2 (DnAll.sings _)
          exact z _ F1 _ x1 B o
        · cases e2
      · split at e2
        · rename_i ns q
          split at e2
          · rename_i hz
            cases e2
            obtain ⟨l, vs, rfl, h1, h2⟩ := dv.tuple
            rw [intsOf_eq q] at h2
            have ev := h2.ints
            subst ev
            refine .inr ⟨l, ns, rfl, SqT.of (A1.sub _ _ h1), hz, fun p c hp => .inr ⟨p, ns, c, rfl, upd_same, ?_, fun p2 hp2 => ?_⟩⟩
            · have h3 := usortI_len ns
              unfold scanBound at hz
              rw [sizeLine_eq]
              omega
            · obtain ⟨B, o⟩ := (A1.more (Ex.new hp)).newO (vs := (usortI ns).map V.int) hp2 (DnAll.of_ints _)
              exact z _ F1 _ x1 B o
          · cases e2
        · cases e2
    · exact z.elim
  · exact z.elim
end
end Q3
/-! Q3o: what a generated text uses. -/
namespace Q3
open PySem PySem.Spec PyProof.Rows L2
variable [TabSet]
/-- a def of the program with what it computes -/
def Has (G : Gb) (k : Nat) (x : Str) (ps : List Str) (fn : Fd) : Prop :=
  ∃ f fd, G.mg x = some (.ref f) ∧ PySem.W.keepIn G.K (.ref f) = true ∧ Binds G.K fd ps [] ∧ FnG G k f fd ps (fun vs H Q E => vs.length = ps.length ∧ spF G.K fn vs H Q E)
def FL (n : Nat) (fs : Sq → Out (List PV)) : Prop := ∀ S ps S', fs S = .ok ps S' → ps.length = n
theorem fl_nil : FL 0 fNil := fun S ps S' h => by
  unfold fNil at h
  cases h; rfl
theorem fl_cons {n : Nat} {fa : Sq → Out PV} {fr : Sq → Out (List PV)} (h : FL n fr) : FL (n + 1) (fCons fa fr) := fun S ps S' e => by
  unfold fCons at e
  cases o : fzF fa S with
  | no => rw [o] at e; cases e
  | ex c s => rw [o] at e; cases e
  | ok p S1 =>
    rw [o] at e
    have e : (fr S1).bind (fun ps S2 => .ok (p :: ps) S2) = .ok ps S' := e
    cases o2 : fr S1 with
    | no => rw [o2] at e; cases e
    | ex c s => rw [o2] at e; cases e
    | ok qs S2 =>
      rw [o2] at e
      cases e
      simp [h S1 qs _ o2]
/-- an own class of exceptions -/
structure ExcG (K : PySem.W.Frag) (mg : Str → Option Value) (x : Str) : Prop where
  g : mg x = some (.ref (He.ga K x))
  q : PySem.W.excIn K (He.ga K x) He.veBase "ValueError.__new__" = true
  kp : PySem.W.keepIn K (.ref (He.ga K x)) = true
  b : PySem.W.subIn K (.ref (He.ga K x)) (.type "BaseException") = some true
  t : PySem.W.typeIn K (.ref (He.ga K x)) = some (.type "type")
section
variable {X : Cx} {W : WX} {a b c e : Expr} {es : List Expr} {fa fb fc : Sq → Out PV} {fs : Sq → Out (List PV)} {pos p : Pos} {N : List Str} {sc : Scope} {k j : Nat} {G : Gb} {x : Str} {ps : List Str} {fn : Fd}
theorem excF (C : Cq G k N sc X) (E : ExcG G.K G.mg x) : ExcF X x := by
  obtain ⟨c1, c2, c3, c4, c5, c6, c7, c8, c9, c10, c11, c12⟩ := C
  exact ⟨by rw [c10, c11]; exact E.g, by rw [c10]; exact E.q, by rw [c10]; exact E.kp, by rw [c10]; exact E.b, by rw [c10]; exact E.t⟩
theorem de_callH (C : Cq G k N sc X) (tk : Takes X W) (h : Has G j x ps fn) (hj : j ≤ k) (hl : sc.names.lookup x = some .globalImplicit) (hlen : (e :: es).length = ps.length)
    (ha : DA X W (e :: es) fs) (hfl : FL (e :: es).length fs) (hdb : (x == ("__debug__" : Str)) = false := by decide) (he : starEach (e :: es) X.env = (false, eval e X.env) :: starEach es X.env := by rfl) (hpl : (backTo pos (starEach es X.env)).any (·.1) = false := by rfl) :
    DE X W (.Call (.Name x p) (e :: es) [] pos) (callF fn fs) := by
  obtain ⟨f, fd, h1, h2, h3, h4⟩ := h
  exact de_call C tk h4 hj (glC C hl) h1 h2 h3 hlen ha hdb he hpl hfl
theorem ds_raiseG {m : Str} {i : Nat} {p p1 p2 : Pos} (C : Cq G k N sc X) (tk : Takes X W) (E : ExcG G.K G.mg x) (hl : sc.names.lookup x = some .globalImplicit) (hdb : (x == ("__debug__" : Str)) = false := by decide) : DS X W (.Raise (some (.Call (.Name x p) [.Constant (.str m) i p1] [] p2)) none pos) (raiseF x) :=
  ds_raise C tk (excF C E) (glC C hl) hdb
/-- -e -/
def gNeg : D → Option PV
  | .int i => some (.v (.int (-i)))
  | _ => none
theorem de_neg (ha : DE X W a fa) : DE X W (.UnaryOp .USub a pos) (f1 gNeg fa) := by
  refine PE.weak (pe_un un_neg (de_fz ha)) fun σ H Q z => ?_
  obtain ⟨F0, H0, pa, F, S, A, z⟩ := z
  unfold f1 at z
  rw [OutP.bind] at z
  refine ⟨F0, H0, pa, F, S, A, z.imp (fun p S1 z v F1 H1 x1 A1 r1 => ?_) fun _ _ z => z⟩
  split at z
  · rename_i d e1
    split at z
    · rename_i w e2
      have hv := A1.val r1 e1
      cases d <;> simp only [gNeg] at e2 <;> try (cases e2; done)
      cases e2
      rw [hv.int]
      exact ⟨_, rfl, z _ F1 H1 x1 A1 (.int _)⟩
    · exact z.elim
  · exact z.elim
/-- is the slot's value None? an exception isn't -/
def fSlN (i : Nat) (neg : Bool) : Sq → Out PV := fun S => match S.r[i]? with
  | some (.d x) => .ok (.v (.bool (if neg then !isNone x else isNone x))) S
  | some (.e _) => .ok (.v (.bool neg)) S
  | _ => .no
theorem rd_slN {K : PySem.W.Frag} {σ : L2.St} {H : Hp} {Q : VK} {i : Nat} {neg : Bool} (z : rd K W (fSlN i neg) σ H Q) : ∃ v, σ[i]? = some (some v) ∧ Q (.bl (if neg then !decide (v = .non) else decide (v = .non))) H := by
  obtain ⟨F0, H0, pa, F, S, A, z⟩ := z
  unfold fSlN at z
  split at z
  · rename_i x q
    obtain ⟨v, e1, e2⟩ := A.slots i _ q
    refine ⟨v, e1, ?_⟩
    rw [Dv.isN (H := H) (.inl e2)]
    exact z _ F H (Ex.refl F) A (.bl _)
  · rename_i c q
    obtain ⟨a, e1, e2⟩ := A.slots i _ q
    refine ⟨_, e1, ?_⟩
    have e : decide (V.ref a = V.non) = false := decide_eq_false fun z => nomatch z
    rw [e]
    have := z (.bl neg) F H (Ex.refl F) A (.bl _)
    cases neg <;> exact this
  · exact z.elim
theorem de_slN (i : Nat) {n : Nat} {p1 p2 : Pos} (C : Cq G k N sc X) (hN : N[i]? = some x := by rfl) (hv : sc.names.lookup x = some .local ∨ sc.names.lookup x = some .cell ∨ sc.names.lookup x = some .free := by first | exact Or.inl rfl | exact Or.inr (Or.inl rfl) | exact Or.inr (Or.inr rfl))
    (hd : (x == ("__debug__" : Str)) = false := by decide) (hcd : (x == ("__classdict__" : Str)) = false := by decide) : DE X W (.Compare (.Name x p1) [.Is] [.Constant .none n p2] pos) (fSlN i false) :=
  PE.weak (pe_cmpR op_isN (pe_var (i := i) (by rw [C.names]; exact hN) (by show Vis X.env.scope x; rw [C.scope]; exact hv) hd hcd) pe_non (nomark _)) fun _ _ _ z => by
    obtain ⟨v, e1, q⟩ := rd_slN z
    exact ⟨v, e1, rfl, q⟩
theorem de_slNN (i : Nat) {n : Nat} {p1 p2 : Pos} (C : Cq G k N sc X) (hN : N[i]? = some x := by rfl) (hv : sc.names.lookup x = some .local ∨ sc.names.lookup x = some .cell ∨ sc.names.lookup x = some .free := by first | exact Or.inl rfl | exact Or.inr (Or.inl rfl) | exact Or.inr (Or.inr rfl))
    (hd : (x == ("__debug__" : Str)) = false := by decide) (hcd : (x == ("__classdict__" : Str)) = false := by decide) : DE X W (.Compare (.Name x p1) [.IsNot] [.Constant .none n p2] pos) (fSlN i true) :=
  PE.weak (pe_cmpR op_notN (pe_var (i := i) (by rw [C.names]; exact hN) (by show Vis X.env.scope x; rw [C.scope]; exact hv) hd hcd) pe_non (nomark _)) fun _ _ _ z => by
    obtain ⟨v, e1, q⟩ := rd_slN z
    exact ⟨v, e1, rfl, q⟩
/-- a slice of the script -/
def fScr (i : Nat) (lo hi : Option Int) : Sq → Out PV := fun S => match S.r[i]? with
  | some (.sc ns) => .ok (.o (.l ((cutG ns lo hi).map .int))) S
  | _ => .no
theorem de_scr (i : Nat) {lo hi : Option Expr} {p1 p2 : Pos} {il ih : Option Int} (C : Cq G k N sc X) (hl : PO X lo fun σ H Q => Q il H) (hh : PO X hi fun σ H Q => Q ih H) (hN : N[i]? = some x := by rfl) (hv : sc.names.lookup x = some .local ∨ sc.names.lookup x = some .cell ∨ sc.names.lookup x = some .free := by first | exact Or.inl rfl | exact Or.inr (Or.inl rfl) | exact Or.inr (Or.inr rfl))
    (hd : (x == ("__debug__" : Str)) = false := by decide) (hcd : (x == ("__classdict__" : Str)) = false := by decide) : DE X W (.Subscript (.Name x p1) (.Slice lo hi none p2) pos) (fScr i il ih) := by
  refine PE.weak (pe_slice sl_list (pe_var (i := i) (by rw [C.names]; exact hN) (by show Vis X.env.scope x; rw [C.scope]; exact hv) hd hcd) hl hh) fun σ H Q z => ?_
  obtain ⟨F0, H0, pa, F, S, A, z⟩ := z
  unfold fScr at z
  split at z
  · rename_i ns q
    obtain ⟨a, e1, e2⟩ := A.slots i _ q
    refine ⟨_, e1, a, _, rfl, ex_l A.sub e2, fun p hp => ?_⟩
    have e : cutV (ns.map V.int) il ih = (cutG ns il ih).map V.int := by
      unfold cutV cutG
      rw [List.length_map, List.map_take, List.map_drop]
    rw [e]
    obtain ⟨B, o⟩ := A.newO (vs := (cutG ns il ih).map V.int) hp (DnAll.of_ints _)
    exact z _ F _ (Ex.refl F) B o
  · exact z.elim
theorem po_i {i : Int} {n : Nat} {p : Pos} : PO X (some (.Constant (.int i) n p)) fun σ H Q => Q (some i) H := ⟨fun pins s σ H Q I h => (po_some pe_int).run pins s σ H Q I ⟨i, rfl, h⟩⟩
theorem po_n : PO X none fun σ H Q => Q none H := ⟨fun pins s σ H Q I h => po_none.run pins s σ H Q I h⟩
end
end Q3
/-! Q3p: defs of the text. -/
namespace Q3
open PySem PySem.Spec PyProof.Rows L2
variable [TabSet]
section
variable {X : Cx} {N : List Str} {sc : Scope} {k : Nat} {G : Gb}
theorem sw_env {ts : List Expr} {v : Expr} {e e' : Env} (h : e.scope = e'.scope) : swappedStores ts v e = swappedStores ts v e' := by
  have hb : e.blockKind = e'.blockKind := by unfold Env.blockKind; rw [h]
  have hk : e.kindOf = e'.kindOf := by funext x; unfold Env.kindOf; rw [h]
  unfold swappedStores
  rw [hb, hk]
theorem sw_of {ts : List Expr} {v : Expr} {r : Sem (Option (List Str))} (C : Cq G k N sc X) (h : swappedStores ts v { X.env with scope := sc } = r) : swappedStores ts v X.env = r := by
  rw [← h]
  exact sw_env C.scope
end
/-! ### comparisons as tests -/
section
variable {X : Cx} {W : WX} {a b c e : Expr} {fa fb fc : Sq → Out PV} {pos : Pos} {N : List Str} {sc : Scope} {k : Nat} {G : Gb} {x : Str}
theorem rd_of_fB {K : PySem.W.Frag} {σ : L2.St} {H : Hp} {Q : Bool → Hp → Prop} (z : rdT K W (fB fa) σ H Q) : rd K W fa σ H fun v H1 => ∃ k, v = .bl k ∧ Q k H1 := by
  obtain ⟨F0, H0, pa, F, S, A, z⟩ := z
  unfold fB at z
  rw [OutP.bind] at z
  refine ⟨F0, H0, pa, F, S, A, z.imp (fun w S3 z v F3 H3 x3 A3 r3 => ?_) fun _ _ z => z⟩
  split at z
  · rename_i b e3
    exact ⟨b, (A3.val r3 e3).bl, z F3 H3 x3 A3⟩
  · exact z.elim
theorem dt_cmp {op : CmpOp} {r : R2} {g : D → D → Option PV} (ho : OpR X (compareOp op) r) (dz : Does2 X.K r g) (ha : DE X W a fa) (hb : DE X W b fb) (hm : behindInMarks op b = false := by first | exact nomark _ | rfl) : DT X W (.Compare a [op] [b] pos) (fB (fBin g fa fb)) :=
  PT.weak (pt_cmpR ho (de_fz ha) (de_fz hb) hm) fun _ _ _ z => rd_op2 dz (rd_of_fB z)
theorem dt_eq (C : Cq G k N sc X) (ha : DE X W a fa) (hb : DE X W b fb) : DT X W (.Compare a [.Eq] [b] pos) (fB (fBin gEq fa fb)) := dt_cmp (op_eqA (by have := C.hd.un; omega)) does_eq ha hb
theorem dt_ne (C : Cq G k N sc X) (ha : DE X W a fa) (hb : DE X W b fb) : DT X W (.Compare a [.NotEq] [b] pos) (fB (fBin gNe fa fb)) := dt_cmp (op_neA (by have := C.hd.un; omega)) does_ne ha hb
theorem dt_lt (ha : DE X W a fa) (hb : DE X W b fb) : DT X W (.Compare a [.Lt] [b] pos) (fB (fBin gLt fa fb)) := dt_cmp op_lt (does_I0 fun _ _ _ => .bl _) ha hb
theorem dt_le (ha : DE X W a fa) (hb : DE X W b fb) : DT X W (.Compare a [.LtE] [b] pos) (fB (fBin gLe fa fb)) := dt_cmp op_le (does_I0 fun _ _ _ => .bl _) ha hb
theorem dt_gt (ha : DE X W a fa) (hb : DE X W b fb) : DT X W (.Compare a [.Gt] [b] pos) (fB (fBin gGt fa fb)) := dt_cmp op_gt (does_I0 fun _ _ _ => .bl _) ha hb
theorem dt_ge (ha : DE X W a fa) (hb : DE X W b fb) : DT X W (.Compare a [.GtE] [b] pos) (fB (fBin gGe fa fb)) := dt_cmp op_ge (does_I0 fun _ _ _ => .bl _) ha hb
theorem dt_isN (ha : DE X W a fa) (hb : DE X W b fb) : DT X W (.Compare a [.Is] [b] pos) (fB (fBin gIsN fa fb)) := dt_cmp op_isN does_isN ha hb
theorem dt_notN (ha : DE X W a fa) (hb : DE X W b fb) : DT X W (.Compare a [.IsNot] [b] pos) (fB (fBin gNotN fa fb)) := dt_cmp op_notN does_notN ha hb
theorem dt_in (C : Cq G k N sc X) (ha : DE X W a fa) (hb : DE X W b fb) (hm : behindInMarks .In b = false := by rfl) : DT X W (.Compare a [.In] [b] pos) (fB (fBin (gIn false) fa fb)) := dt_cmp (op_inQ (by have := C.hd.un; omega)) (does_in false) ha hb hm
theorem dt_notIn (C : Cq G k N sc X) (ha : DE X W a fa) (hb : DE X W b fb) (hm : behindInMarks .NotIn b = false := by rfl) : DT X W (.Compare a [.NotIn] [b] pos) (fB (fBin (gIn true) fa fb)) := dt_cmp (op_notInQ (by have := C.hd.un; omega)) (does_in true) ha hb hm
theorem dt_slN (i : Nat) {n : Nat} {p1 p2 : Pos} (C : Cq G k N sc X) (hN : N[i]? = some x := by rfl) (hv : sc.names.lookup x = some .local ∨ sc.names.lookup x = some .cell ∨ sc.names.lookup x = some .free := by first | exact Or.inl rfl | exact Or.inr (Or.inl rfl) | exact Or.inr (Or.inr rfl))
    (hd : (x == ("__debug__" : Str)) = false := by decide) (hcd : (x == ("__classdict__" : Str)) = false := by decide) : DT X W (.Compare (.Name x p1) [.Is] [.Constant .none n p2] pos) (fB (fSlN i false)) :=
  PT.weak (pt_cmpR op_isN (pe_var (i := i) (by rw [C.names]; exact hN) (by show Vis X.env.scope x; rw [C.scope]; exact hv) hd hcd) pe_non (nomark _)) fun _ _ _ z => by
    obtain ⟨v, e1, q⟩ := rd_slN (rd_of_fB z)
    exact ⟨v, e1, rfl, q⟩
theorem dt_slNN (i : Nat) {n : Nat} {p1 p2 : Pos} (C : Cq G k N sc X) (hN : N[i]? = some x := by rfl) (hv : sc.names.lookup x = some .local ∨ sc.names.lookup x = some .cell ∨ sc.names.lookup x = some .free := by first | exact Or.inl rfl | exact Or.inr (Or.inl rfl) | exact Or.inr (Or.inr rfl))
    (hd : (x == ("__debug__" : Str)) = false := by decide) (hcd : (x == ("__classdict__" : Str)) = false := by decide) : DT X W (.Compare (.Name x p1) [.IsNot] [.Constant .none n p2] pos) (fB (fSlN i true)) :=
  PT.weak (pt_cmpR op_notN (pe_var (i := i) (by rw [C.names]; exact hN) (by show Vis X.env.scope x; rw [C.scope]; exact hv) hd hcd) pe_non (nomark _)) fun _ _ _ z => by
    obtain ⟨v, e1, q⟩ := rd_slN (rd_of_fB z)
    exact ⟨v, e1, rfl, q⟩
/-- a <= b <= c as a test -/
theorem dt_chain {op op' : CmpOp} {p q : Int → Int → Bool} (ho : OpR X (compareOp op) (rI0 fun i j => .bl (p i j))) (ho' : OpR X (compareOp op') (rI0 fun i j => .bl (q i j))) (ha : DE X W a fa) (hb : DE X W b fb) (hc : DE X W c fc)
    (hm : lastMarks [op, op'] [b, c] = false := by with_unfolding_all rfl) : DT X W (.Compare a [op, op'] [b, c] pos) (fB (fChain p q fa fb fc)) := by
  refine PT.weak (pt_chain ho ho' (de_fz ha) (de_fz hb) (de_fz hc) hm) fun σ H Q z => ?_
  have z := rd_of_fB z
  refine rd_two (Q := _) (R := fun x y H2 => (rI0 fun i j => V.bl (p i j)) x y H2 fun z H3 => ∃ k, z = .bl k ∧ (if k = true then rd X.K W (fzF fc) σ H3 fun w' H4 => (rI0 fun i j => V.bl (q i j)) y w' H4 fun z' H5 => ∃ k', z' = .bl k' ∧ Q k' H5 else ∃ k', V.bl false = .bl k' ∧ Q k' H3)) z fun F0 H0 pa F H' S' x y v u A rx ry z => ?_
  split at z
  · rename_i i j e1 e2
    have ev := Dv.of_int A rx e1
    have eu := Dv.of_int A ry e2
    subst ev eu
    refine ⟨i, j, rfl, rfl, _, rfl, ?_⟩
    by_cases hp : p i j = true
    · rw [if_pos hp] at z ⊢
      rw [OutP.bind] at z
      refine ⟨F0, H0, pa, F, S', A, z.imp (fun w S3 z v F3 H3 x3 A3 r3 => ?_) fun _ _ z => z⟩
      split at z
      · rename_i l e3
        rw [Dv.of_int A3 r3 e3]
        obtain ⟨k', e4, e5⟩ := z _ F3 H3 x3 A3 (.bl _)
        cases e4
        exact ⟨j, l, rfl, rfl, _, rfl, e5⟩
      · exact z.elim
    · rw [if_neg hp] at z ⊢
      exact z _ F H' (Ex.refl F) A (.bl _)
  · exact z.elim
end
/-- a def of the text as the program has it -/
def HasD (K : PySem.W.Frag) (mg : Str → Option Value) (x : Str) (st : Stmt) : Prop := ∃ f fd, FunD K x x (defArgs st) (defBody st) (defScope st) [] [] f fd ∧ mg x = some (.ref f)
theorem has_of {G : Gb} {k n : Nat} {x : Str} {st : Stmt} {N ps : List Str} {g : Sq → Fl} (D : HasD G.K G.mg x st)
    (hb : ∀ (kV doc pm : Value) (an : Option Addr) (cdv ct : Value) (us : List Value), us.length = ps.length → bindArgs (PySem.W.fnOf x x (defArgs st) (defBody st) (defScope st) .none kV doc pm an cdv ct) ⟨us, []⟩ = pure (ps.zip us))
    (S : FnScope N ps (defScope st)) (hn : N.length = n) (h : ∀ X W, Cq G k N (defScope st) X → (∀ x, X.fn x = true) → Takes X W → DSs X W (defBody st) g) : Has G (k + 1) x ps (runB n g) := by
  obtain ⟨f, fd, F, m⟩ := D
  exact ⟨f, fd, m, F.kp, F.bindsN hb, fnG F S hn fun X W C f t _ _ => h X W C f t⟩
end Q3
/-! Q3q: an exception that is caught and held. -/
namespace Q3
open PySem PySem.Spec PyProof.Rows L2
section
variable {X : Cx} {pins : List (Addr × Obj)} {σ : L2.St} {H : Hp} {s : Shared}
theorem exV_ok {P : Program} {w : World} {H : Hp} {h : Heap} {a : Addr} {cls : Value} {oe : Obj} {vs : Array Value} (e : h.get? a = some oe) (z : Zc cls none oe) (d : oe.data = .fields vs) : ObjOk P w H h a (exV cls a) :=
  ⟨⟨oe, vs, e, z, d⟩, ⟨oe, e⟩, fun _ _ ⟨o, v, q, r⟩ k => ⟨o, v, k o q, r⟩⟩
/-- an object that is there and untracked is told -/
theorem track {a : Addr} {cls : Value} {oe : Obj} {vs : Array Value} (I : Inv X pins σ H s) (he : s.heap.get? a = some oe) (hz : Zc cls none oe) (hd : oe.data = .fields vs) (na : H a = none) (nL : a ≠ X.env.locals) (hp : ∀ p ∈ X.pn ++ pins, p.1 ≠ a)
    (hb : ∀ o, X.s_0.heap.get? a = some o → X.H_0 a = none → a ∉ X.ex → False) : Inv X pins σ (upd H a (exV cls a)) s := by
  have ne : ∀ {b : Addr} {o : HO}, H b = some o → b ≠ a := fun e z => by rw [z, na] at e; cases e
  refine ⟨I.ok, I.os, I.bare, ⟨I.base.keep, I.base.slot, fun b o e n hx => ?_, I.base.there, fun b xs e => ?_, fun b o u e => ?_, fun b ps e => ?_⟩, I.loc, I.cell, ?_, fun x c e => ?_, fun p hm => ?_, fun b u e => ?_, I.len⟩
  · by_cases q : b = a
    · subst q
      exact (hb o e n hx).elim
    · rw [upd_ne q]; exact I.base.free b o e n hx
  · have := I.base.tups b xs e
    rw [upd_ne (ne this)]; exact this
  · have := I.base.frzs b o u e
    rw [upd_ne (ne this)]; exact this
  · obtain ⟨more, h⟩ := I.base.tbls b ps e
    exact ⟨more, by rw [upd_ne (ne h)]; exact h⟩
  · rw [upd_ne (Ne.symm nL)]; exact I.free
  · have hc : c ≠ a := fun z => by
      obtain ⟨v, o, ho, hd'⟩ := I.cell x c e
      rw [z, he] at ho
      cases ho
      rw [hd] at hd'
      cases hd'
    rw [upd_ne hc]; exact I.freeC x c e
  · obtain ⟨h1, h2, h3, h4, h5⟩ := I.pin p hm
    exact ⟨h1, by rw [upd_ne (hp p hm)]; exact h2, h3, h4, h5⟩
  · by_cases q : b = a
    · subst q
      rw [upd_same] at e
      cases e
      exact exV_ok he hz hd
    · rw [upd_ne q] at e
      exact (I.hok b u e).stay (fun c v _ q => q) (fun c q => by rw [upd_ne (ne q)]; exact q) fun c xs q => by rw [upd_ne (ne q)]; exact q
end
section
variable {X : Cx} {x n m : Str} {c : Value} {i j : Nat} {body : List Stmt} {np pos pos' p1 p2 p3 : Pos} {tb : WX → TS} {Wout : WX}
/-- what 'except x as n: m = n' wishes: slot i is n's, slot j is m's -/
def wHeld (K : PySem.W.Frag) (c : Value) (i j L : Nat) (Wout : WX) (D : Ends) : WX := fun cls d σ H => σ.length = L → d = none ∧
    ∃ b, PySem.W.exmOne K cls c = some b ∧ (b = true → ∀ a, H a = none → D.nx ((((σ.set i (some (.ref a))).set j (some (.ref a)))).set i none) (upd H a (exV cls a))) ∧ (b = false → Wout cls d σ H)
theorem ps_try_held (hs : X.stack = X.env :: X.outer) (hf : X.env.frame = some X.env.locals) (hex : X.ex = []) (hN : X.N.Nodup) (hi : X.N[i]? = some n) (hj : X.N[j]? = some m) (hln : X.env.kindOf n = some .local) (hlm : X.env.kindOf m = some .local) (hc : Names X x c) (tk : Takes X Wout)
    (hb : ∀ (W : WX) (pn : List (Addr × Obj)) (xe : Value → Shared → Prop), Takes (X.tr pn xe) W → PassesOwn (model X.prog X.w) X.A X.env xe → PSs (X.tr pn xe) body (tb W))
    (hdn : (n == ("__debug__" : Str)) = false := by decide) (hcn : (n == ("__classdict__" : Str)) = false := by decide) (hsw : ∀ e : Env, swapsWith (.Name n p2) (some (.Name m p1)) p3.line e = pure false := by intro _; rfl) :
    PS X (.Try body [.ExceptHandler (some (.Name x np)) (some n) [.Assign [.Name m p1] (.Name n p2) p3] pos'] [] [] pos) (fun D σ H => tb (wHeld X.K c i j X.N.length Wout D) D σ H) := by
  refine ⟨fun pins s σ H D I h => ?_⟩
  have ok := I.ok
  have hfr : X.A.frames = some (X.env :: X.outer) := by rw [ok.frames, hs]
  have hloc : Loc X.env.scope n := .inl hln
  refine wpAny_Try_except ?_
  refine wpAny_mono ((hb (wHeld X.K c i j X.N.length Wout D) (X.pn ++ pins) (fun e s₁ => wpAny (model X.prog X.w) X.A (noteFrame e X.env) (fun _ s₂ => wpAny (model X.prog X.w) X.A (setFlight e none) (fun _ s₃ =>
    wpAny (model X.prog X.w) X.A (handleBy e X.env [.ExceptHandler (some (.Name x np)) (some n) [.Assign [.Name m p1] (.Name n p2) p3] pos']) (SP X pins D) X.xe s₃) X.xe s₂) X.xe s₁) (fun u s' xx => ?_) PassesOwn.looking).run [] s σ H D (I.toTry _) h) (fun f s1 hsp => ?_) (fun e s1 he => he)
  · obtain ⟨a, B, sI, pins', σ', H', cls, d, rfl, J', nb, up, sky, na, os, ag, w⟩ := xx
    have J : Inv X pins σ' H' sI := J'.ofTry ok
    obtain ⟨hd0, b, hb1, hyes, hno⟩ := w J.len
    subst hd0
    have sky' : Sky B (X.env :: X.outer) a (Zc cls none) X.env.locals s'.heap := by rw [← hs]; exact sky
    show wpAny (model X.prog X.w) X.A (noteFrame (.ref a) X.env) _ _ _
    refine Sky.land Zc.steady hfr hf sky' fun h3 fl3 up3 => ?_
    have J3 : Inv X pins σ' H' { s' with heap := h3 } := J.landed nb fl3.1 (up.trans up3) os ag
    obtain ⟨oe3, vs3, he3, hz3, hd3⟩ := fl3.there
    have hBa : B.get? a = none := fl3.2.1
    have notFr : ∀ {h : Heap} {o : Obj} {vs : Array Value}, h.FunFrames B (X.env :: X.outer) → h.get? a = some o → o.data = .fields vs → a ∉ frs (X.env :: X.outer) := fun {h o vs} ff e dd hm => by
      obtain ⟨_, o', e', hnf⟩ := ff.mem hm
      rw [e] at e'; cases e'
      exact hnf _ dd
    have nfr := notFr fl3.2.2.1 he3 hd3
    have nL : a ≠ X.env.locals := fun z => nfr (List.mem_filterMap.mpr ⟨X.env, List.mem_cons_self, by rw [hf, z]⟩)
    have nF : a ∉ X.fs := fun hm => by
      obtain ⟨e, he, q⟩ := List.mem_filterMap.mp hm
      exact nfr (List.mem_filterMap.mpr ⟨e, List.mem_cons_of_mem _ he, q⟩)
    have nfrX : a ∉ frs X.stack := by rw [hs]; exact nfr
    have hbase : ∀ o, X.s_0.heap.get? a = some o → X.H_0 a = none → a ∉ X.ex → False := fun o e n hx => by
      have q := J.base.keep a o e n nF hx
      rw [nb a o q nfrX] at hBa
      cases hBa
    have hpin : ∀ p ∈ X.pn ++ pins, p.1 ≠ a := fun p hm z => by
      obtain ⟨h1, h2, h3, h4, h5⟩ := J.pin p hm
      have q := nb p.1 p.2 h1 (by rw [z]; exact nfrX)
      rw [z, hBa] at q
      cases q
    have S3 := J3.suite he3 hd3 na nL nF
    refine wpAny_handleBy_cons (codeAny_handlers_test ?_) (by intro q; cases q)
    have LT : PySem.W.Looks (model X.prog X.w) h3 (typeOf (.ref a)) cls := fun A Q E s k q => wpAny_typeOf_ref (k _ _ he3) (by rw [hz3.1]; exact q)
    have LM := PySem.W.exm_one (M := model X.prog X.w) (J3.kIn) LT hb1
    have test : ∀ {Q : Value → Shared → Prop} {E : Value → Shared → Prop}, Q c { s' with heap := h3 } → wpAny (model X.prog X.w) (X.A.mark (some (.ref a))) (eval (.Name x np) X.env) Q E { s' with heap := h3 } := fun {Q E} q => by
      obtain ⟨hg, hdbg, hm | ⟨hm, hv, hnn⟩⟩ := hc
      · exact ld_glob (X := X.suite a ((a, oe3) :: (X.pn ++ pins))) S3 hg hm q hdbg
      · exact ld_blt (X := X.suite a ((a, oe3) :: (X.pn ++ pins))) S3 hg hm hv q hnn hdbg
    refine test (LM.here ?_)
    cases b with
    | true =>
      refine codeAny_handlers_suite_as ?_
      refine HandSPX.lands_againZ fl3 fun h4 fl4 up4 => ?_
      have J4 : Inv X pins σ' H' { s' with heap := h4 } := J.landed nb fl4.1 ((up.trans up3).trans up4) os ag
      obtain ⟨oe4, vs4, he4, hz4, hd4⟩ := fl4.there
      have S4 := J4.suite he4 hd4 na nL nF
      have hin : i < σ'.length := by rw [J.len]; exact (List.getElem?_eq_some_iff.mp hi).1
      refine store_ok (X := X.suite a ((a, oe4) :: (X.pn ++ pins))) (v := .ref a) S4 hN hi hloc rfl (fun s5 S5 => ?_) (.inr hln)
      have hsuite : PSs (X.suite a ((a, oe4) :: (X.pn ++ pins))) [.Assign [.Name m p1] (.Name n p2) p3] (tAsg (tVar i) (gName j)) :=
        pss_one (ps_set (X := X.suite a ((a, oe4) :: (X.pn ++ pins))) hN hj (.inl hlm) (pe_var (X := X.suite a ((a, oe4) :: (X.pn ++ pins))) (i := i) hi (.inl hln) hdn hcn) (hsw _) (.inr hlm))
      refine wpAny_mono (hsuite.run [] s5 _ H' { nx := fun σ6 H6 => σ6 = (σ'.set i (some (.ref a))).set j (some (.ref a)) ∧ H6 = H', rt := fun _ _ => False, bk := fun _ _ => False, ct := fun _ _ => False } S5 ⟨.ref a, by rw [List.getElem?_set_self hin], rfl, rfl⟩) (fun f s6 hsp => ?_) (fun _ _ z => False.elim z)
      cases f with
      | next =>
        obtain ⟨σ6, H6, S6, rfl, rfl⟩ := hsp
        have K6 : Inv X ((a, oe4) :: pins) ((σ'.set i (some (.ref a))).set j (some (.ref a))) H6 s6 :=
          ⟨ok, S6.os, S6.bare, S6.base, S6.loc, S6.cell, S6.free, S6.freeC, fun p hp => S6.pin p (by
            have hp' : p ∈ (a, oe4) :: (X.pn ++ pins) := by
              rcases List.mem_append.mp hp with z | z
              · exact List.mem_cons_of_mem _ (List.mem_append_left _ z)
              · rcases List.mem_cons.mp z with z | z
                · rw [z]; exact List.mem_cons_self
                · exact List.mem_cons_of_mem _ (List.mem_append_right _ z)
            exact List.mem_append_left _ hp'), S6.hok, S6.len⟩
        refine gone_ok K6 hN hi hln fun s7 J7 => ?_
        obtain ⟨g1, g2, _⟩ := J7.pin (a, oe4) (List.mem_append_right _ List.mem_cons_self)
        have J8 : Inv X pins ((((σ'.set i (some (.ref a))).set j (some (.ref a)))).set i none) H6 s7 := ⟨J7.ok, J7.os, J7.bare, J7.base, J7.loc, J7.cell, J7.free, J7.freeC, fun p hp => J7.pin p (by
          rcases List.mem_append.mp hp with z | z
          · exact List.mem_append_left _ z
          · exact List.mem_append_right _ (List.mem_cons_of_mem _ z)), J7.hok, J7.len⟩
        exact ⟨_, _, track J8 g1 hz4 hd4 g2 nL hpin hbase, hyes rfl a na⟩
      | brk => obtain ⟨_, _, _, z⟩ := hsp; exact z.elim
      | cont => obtain ⟨_, _, _, z⟩ := hsp; exact z.elim
      | ret u => obtain ⟨_, _, _, _, _, z⟩ := hsp; exact z.elim
    | false =>
      show wpAny _ X.A (handleBy (.ref a) X.env []) _ _ _
      refine wpAny_handleBy_nil ?_
      obtain ⟨k1, k2, k3, oe, vs, T, oT, ts', he, hz, hd, h1, hr⟩ := id fl3
      unfold PySem.passOn
      refine wpAny_bind (wpAny_field he hd h1 ?_)
      rw [if_neg (show ¬ ((Value.ref T == Value.none) = true) from by simp)]
      have fin : wpAny (model X.prog X.w) X.A (setFlight (.ref a) X.env.frame) (fun _ s4 => wpAny (model X.prog X.w) X.A (throw (.ref a) : Sem Flow) (SP X pins D) X.xe s4) X.xe { s' with heap := h3 } := by
        rw [hf]
        refine HandSPX.setFlight_upZ fl3 fun h4 hh4 up4 => wpAny_throw (tk _ _ ?_)
        exact ⟨a, B, sI, pins, σ', H', cls, none, rfl, J, nb, (up.trans up3).trans up4, .inr (.inr (by rw [hs]; exact hh4)), na, os, ag, hno rfl⟩
      first
        | exact wpAny_bind (wpAny_pure (wpAny_bind fin))
        | exact wpAny_bind fin
  · cases f with
    | next =>
      obtain ⟨σ', H', J', q⟩ := hsp
      exact wpAny_execs_nil ⟨σ', H', J'.ofTry ok, q⟩
    | brk =>
      obtain ⟨σ', H', J', q⟩ := hsp
      exact ⟨σ', H', J'.ofTry ok, q⟩
    | cont =>
      obtain ⟨σ', H', J', q⟩ := hsp
      exact ⟨σ', H', J'.ofTry ok, q⟩
    | ret u =>
      obtain ⟨v, σ', H', J', r, q⟩ := hsp
      exact ⟨v, σ', H', J'.ofTry ok, r, q⟩
/-- isinstance of a held exception -/
def rIsHeld (K : PySem.W.Frag) : List V → Hp → VK → Prop := fun xs H Q => ∃ (a D : Addr) (c : V) (cv : Value) (b : Bool), xs = [.ref a, c] ∧ H a = some (exV (.ref D) a) ∧ ExcC K D ∧ ClsV c cv ∧ PySem.W.kitOne K (.ref D) cv = some b ∧ Q (.bl b) H
theorem call_isHeld {X : Cx} : CallR X (.builtin "isinstance") (rIsHeld X.K) := by
  intro pins s σ H xs us Q I r h
  obtain ⟨a, D, c, cv, b, rfl, ha, C, hcv, e, q⟩ := h
  obtain ⟨u1, u2, rfl, r1, r2⟩ := vals2 r
  cases r1
  have ec := hcv.eq r2
  subst ec
  obtain ⟨⟨oe, vs, hget, hz, hv⟩, _, _⟩ := I.hok a _ ha
  have J : PySem.W.InstAt s.heap a oe D none := by
    obtain ⟨oc, od, oda, osl⟩ := oe
    obtain ⟨h1, h2⟩ := hz
    dsimp only at h1 h2 hv
    subst h1 h2 hv
    exact ⟨hget, rfl, rfl, trivial⟩
  exact PySem.W.kia_one (PySem.W.handS_kitx_exc C.hg C.hk C.hs C.hd C.ha C.hn C.ht C.hm) I.kIn J e (fun z => nomatch z) fun tk => ⟨.bl b, H, I.kept (t' := tk) fun _ _ z => z, rfl, q⟩
end
end Q3
/-! Q3r: the classes of a held exception; places and counts of truths. -/
namespace Q3
open PySem PySem.Spec PyProof.Rows L2
variable [TabSet]
/-- what is known of the classes cl, all below top -/
structure ExcAll (K : PySem.W.Frag) (mg : Str → Option Value) (cl : List Str) (top : Str) : Prop where
  g : ∀ x ∈ cl, mg x = some (.ref (He.ga K x))
  gt : mg top = some (.ref (He.ga K top))
  c : ∀ x ∈ cl, ExcC K (He.ga K x)
  k : ∀ x ∈ cl, ∀ y ∈ cl, PySem.W.kitOne K (.ref (He.ga K x)) (.ref (He.ga K y)) = some (x == y)
  v : ∀ x ∈ cl, PySem.W.kitOne K (.ref (He.ga K x)) (.type "ValueError") = some true
  m : ∀ x ∈ cl, PySem.W.exmOne K (.ref (He.ga K x)) (.ref (He.ga K top)) = some true
section
variable {X : Cx} {W : WX} {a b c e o : Expr} {fa fb fc : Sq → Out PV} {pos : Pos} {N : List Str} {sc : Scope} {k : Nat} {G : Gb} {x y : Str} {cl : List Str} {top : Str}
/-- isinstance(v, an own class), v a slot's held exception -/
def fIsE (cl : List Str) (i : Nat) (y : Str) : Sq → Out PV := fun S => match S.r[i]? with
  | some (.e c) => if c ∈ cl then .ok (.v (.bool (c == y))) S else .no
  | _ => .no
theorem de_isE (i : Nat) {p p1 p2 : Pos} (C : Cq G k N sc X) (V : ExcAll G.K G.mg cl top) (hy : y ∈ cl) (mi : G.mg "isinstance" = none) (li : sc.names.lookup ("isinstance" : Str) = some .globalImplicit) (ly : sc.names.lookup y = some .globalImplicit) (hN : N[i]? = some x := by rfl) (hv : sc.names.lookup x = some .local ∨ sc.names.lookup x = some .cell ∨ sc.names.lookup x = some .free := by first | exact Or.inl rfl | exact Or.inr (Or.inl rfl) | exact Or.inr (Or.inr rfl))
    (hd : (x == ("__debug__" : Str)) = false := by decide) (hcd : (x == ("__classdict__" : Str)) = false := by decide) (hyd : (y == ("__debug__" : Str)) = false := by decide) (hst : starEach [.Name x p1, .Name y p2] X.env = (false, eval (.Name x p1) X.env) :: starEach [.Name y p2] X.env := by rfl) (hpl : (backTo pos (starEach [.Name y p2] X.env)).any (·.1) = false := by rfl) :
    DE X W (.Call (.Name "isinstance" p) [.Name x p1, .Name y p2] [] pos) (fIsE cl i y) := by
  refine PE.weak (pe_callB call_isHeld (glC C li) (mgC C mi) (by decide +kernel) (pa_cons (pe_var (i := i) (by rw [C.names]; exact hN) (by show Vis X.env.scope x; rw [C.scope]; exact hv) hd hcd) (pa_cons (pe_glob (v := .ref (He.ga G.K y)) (glC C ly) (mgC C (V.g y hy)) rfl hyd) pa_nil (by rfl)) hst) (by decide) (by decide) hst hpl) fun σ H Q z => ?_
  obtain ⟨F0, H0, pa, F, S, A, z⟩ := z
  unfold fIsE at z
  split at z
  · rename_i c0 q
    split at z
    · rename_i hc
      obtain ⟨a, e1, e2⟩ := A.slots i _ q
      have hK : X.K = G.K := C.K
      refine ⟨.ref a, e1, a, _, _, _, _, rfl, A.sub _ _ e2, ?_, .own _, ?_, z _ F H (Ex.refl F) A (.bl _)⟩
      · rw [hK]; exact V.c c0 hc
      · rw [hK]; exact V.k c0 hc y hy
    · exact z.elim
  · exact z.elim
/-- isinstance(v, ValueError) -/
def fIsV (cl : List Str) (i : Nat) : Sq → Out PV := fun S => match S.r[i]? with
  | some (.e c) => if c ∈ cl then .ok (.v (.bool true)) S else .no
  | _ => .no
theorem de_isV (i : Nat) {p p1 p2 : Pos} (C : Cq G k N sc X) (V : ExcAll G.K G.mg cl top) (mi : G.mg "isinstance" = none) (mv : G.mg "ValueError" = none) (li : sc.names.lookup ("isinstance" : Str) = some .globalImplicit) (ly : sc.names.lookup ("ValueError" : Str) = some .globalImplicit) (hN : N[i]? = some x := by rfl) (hv : sc.names.lookup x = some .local ∨ sc.names.lookup x = some .cell ∨ sc.names.lookup x = some .free := by first | exact Or.inl rfl | exact Or.inr (Or.inl rfl) | exact Or.inr (Or.inr rfl))
    (hd : (x == ("__debug__" : Str)) = false := by decide) (hcd : (x == ("__classdict__" : Str)) = false := by decide) (hst : starEach [.Name x p1, .Name "ValueError" p2] X.env = (false, eval (.Name x p1) X.env) :: starEach [.Name "ValueError" p2] X.env := by rfl) (hpl : (backTo pos (starEach [.Name "ValueError" p2] X.env)).any (·.1) = false := by rfl) :
    DE X W (.Call (.Name "isinstance" p) [.Name x p1, .Name "ValueError" p2] [] pos) (fIsV cl i) := by
  refine PE.weak (pe_callB call_isHeld (glC C li) (mgC C mi) (by decide +kernel) (pa_cons (pe_var (i := i) (by rw [C.names]; exact hN) (by show Vis X.env.scope x; rw [C.scope]; exact hv) hd hcd) (pa_cons (pe_tyN (T := "ValueError") (glC C ly) (mgC C mv) (by decide +kernel)) pa_nil (by rfl)) hst) (by decide) (by decide) hst hpl) fun σ H Q z => ?_
  obtain ⟨F0, H0, pa, F, S, A, z⟩ := z
  unfold fIsV at z
  split at z
  · rename_i c0 q
    split at z
    · rename_i hc
      obtain ⟨a, e1, e2⟩ := A.slots i _ q
      have hK : X.K = G.K := C.K
      refine ⟨.ref a, e1, a, _, _, _, _, rfl, A.sub _ _ e2, ?_, .ty _, ?_, z _ F H (Ex.refl F) A (.bl _)⟩
      · rw [hK]; exact V.c c0 hc
      · rw [hK]; exact V.v c0 hc
    · exact z.elim
  · exact z.elim
/-! ### xs.index(b), xs.count(b): truths -/
def gLIndex : D → D → Option PV
  | .list xs, .bool b => (match boolsOf xs with
    | some bs => (match bs.findIdx? (· == b) with
      | some j => some (.v (.int (j : Nat)))
      | none => none)
    | none => none)
  | _, _ => none
theorem flat_bls : ∀ bs : List Bool, (bs.map V.bl).all flatV = true
  | [] => rfl
  | _ :: r => flat_bls r
theorem does_lindex {K : PySem.W.Frag} : DoesM K (rIndex K) gLIndex := by
  intro F H x y d e z Q sub hx hy hg h
  cases d <;> cases e <;> simp only [gLIndex] at hg <;> try (cases hg; done)
  split at hg
  · rename_i bs q
    split at hg
    · rename_i j qj
      cases hg
      obtain ⟨l, vs, rfl, h1, h2⟩ := hx.list sub
      rw [boolsOf_eq q] at h2
      have ev := h2.bls
      subst ev
      rw [hy.bl]
      obtain ⟨hj, pj, pn⟩ := List.findIdx?_eq_some_iff_getElem.mp qj
      refine ⟨l, bs.map V.bl, _, j, .bl bs[j], rfl, rfl, SqL.of h1, rfl, flat_bls bs, by rw [List.getElem?_map, List.getElem?_eq_getElem hj]; rfl, pj, fun m z' hm hz => ?_, h _ _ (Gv.int _)⟩
      rw [List.getElem?_map] at hz
      obtain ⟨b', e1, e2⟩ := Option.map_eq_some_iff.mp hz
      subst e2
      obtain ⟨hm', e3⟩ := List.getElem?_eq_some_iff.mp e1
      have := pn m hm
      rw [e3] at this
      show (b' == _) = false
      simpa using this
    · cases hg
  · cases hg
theorem de_lindex {apos : Pos} (ho : DE X W o fa) (he : DE X W e fb)
    (hbase : attributeBase o "index" X.env (eval o X.env) = eval o X.env := by rfl)
    (hfew : ((backTo pos (starEach [e] X.env)).all (fun x => !x.1) && (backToKw pos (keywordEach [] X.env)).all (fun x => x.1.isSome)
      && decide ([e].length + ([] : List Keyword).length + (if ([] : List Keyword).isEmpty then 0 else 1) < 30)) = true := by rfl)
    (hline : (apos.endLine == pos.line) = true := by rfl) (hs : starEach [e] X.env = (false, eval e X.env) :: starEach [] X.env := by rfl) (hplain : (backTo pos (starEach [] X.env)).any (·.1) = false := by rfl) :
    DE X W (.Call (.Attribute o "index" apos) [e] [] pos) (fM1 "list" gLIndex fa fb) := de_m1 F.plainAttrs_list F.slot_list_index F.type_list_index mt_index does_lindex ho he hbase hfew hline hs hplain
def rCntV (K : PySem.W.Frag) : V → List V → Hp → VK → Prop := fun x xs H Q => ∃ (p : Addr) (ys : List V) (y : V), x = .ref p ∧ xs = [y] ∧ SqL K H p ys ∧ flatV y = true ∧ ys.all flatV = true ∧ Q (.int (ys.countP fun z => eqV z y : Nat)) H
theorem countP_eqU {y : V} : ∀ {ys : List V} {us : List Value}, Vals ys us → ys.all flatV = true → us.countP (eqU y) = ys.countP fun z => eqV z y
  | _, _, .nil, _ => rfl
  | z :: ys, u :: us, .cons r t, f => by
    rw [List.all_cons, Bool.and_eq_true] at f
    rw [List.countP_cons, List.countP_cons, countP_eqU t f.2, eqU_of r f.1]
theorem mt_countV : MtR X "list.count" (rCntV X.K) := by
  intro pins s σ H x xs v us Q I rx rxs h
  obtain ⟨p, ys, y, rfl, rfl, hs, fy, fs, q⟩ := h
  cases rx
  obtain ⟨u, rfl, ru⟩ := rxs.one
  obtain ⟨its, rv, ⟨⟨cls, dd, data, sl⟩, n, ho, hc, hdn, hd⟩, hlen⟩ := I.list hs
  simp only at hc hd
  subst hc hd
  refine call_meets PySem.F.slot_list_count ⟨_, ho, rfl⟩ PySem.F.entry_list_count (PySem.F.args_list_count_2 _ _)
    (SeqAt.list_countAt p its.toArray n dd sl u (eqU y)) ⟨ho, fun w hw => mem_eqAt ru fy rv fs w (by simpa using hw), ?_⟩
  have ec : its.toArray.toList.countP (eqU y) = ys.countP fun z => eqV z y := countP_eqU rv fs
  refine ⟨.int (ys.countP fun z => eqV z y : Nat), H, I.tok _, ⟨s.toks, ?_⟩, q⟩
  show Value.int ((its.toArray.toList.countP (eqU y) : Nat) : Int) s.toks = _
  rw [ec]
def gLCount : D → D → Option PV
  | .list xs, .bool b => (match boolsOf xs with
    | some bs => some (.v (.int (bs.count b : Nat)))
    | none => none)
  | _, _ => none
theorem does_lcount {K : PySem.W.Frag} : DoesM K (rCntV K) gLCount := by
  intro F H x y d e z Q sub hx hy hg h
  cases d <;> cases e <;> simp only [gLCount] at hg <;> try (cases hg; done)
  split at hg
  · rename_i bs q
    cases hg
    obtain ⟨l, vs, rfl, h1, h2⟩ := hx.list sub
    rw [boolsOf_eq q] at h2
    have ev := h2.bls
    subst ev
    rw [hy.bl]
    refine ⟨l, bs.map V.bl, _, rfl, rfl, SqL.of h1, rfl, flat_bls bs, ?_⟩
    rw [List.countP_map]
    exact h _ _ (Gv.int _)
  · cases hg
theorem de_lcount {apos : Pos} (ho : DE X W o fa) (he : DE X W e fb)
    (hbase : attributeBase o "count" X.env (eval o X.env) = eval o X.env := by rfl)
    (hfew : ((backTo pos (starEach [e] X.env)).all (fun x => !x.1) && (backToKw pos (keywordEach [] X.env)).all (fun x => x.1.isSome)
      && decide ([e].length + ([] : List Keyword).length + (if ([] : List Keyword).isEmpty then 0 else 1) < 30)) = true := by rfl)
    (hline : (apos.endLine == pos.line) = true := by rfl) (hs : starEach [e] X.env = (false, eval e X.env) :: starEach [] X.env := by rfl) (hplain : (backTo pos (starEach [] X.env)).any (·.1) = false := by rfl) :
    DE X W (.Call (.Attribute o "count" apos) [e] [] pos) (fM1 "list" gLCount fa fb) := de_m1 F.plainAttrs_list F.slot_list_count F.type_list_count mt_countV does_lcount ho he hbase hfew hline hs hplain
end
end Q3
/-! Q3s: word(lambda: e): what e raises, told by a word. -/
namespace Q3
open PySem PySem.Spec PyProof.Rows L2
variable [TabSet]
section
variable {K : PySem.W.Frag} {F0 H0 F H F' H' H1 : Hp} {pa : Option Addr} {σ σ2 : L2.St} {S S' : Sq}
theorem Agr.extN (A : Agr K F0 H0 pa σ F H S) (e : LamX.ExtN H H1) (t : LamX.Tabs TabSet.T H1) : Agr K F0 H0 pa σ F H1 S := by
  have nt : ∀ {a : Addr} {vs : List V}, H a = some (.lst vs) → H1 a = some (.lst vs) := fun h => e _ _ h fun _ z => nomatch z
  refine ⟨A.fF, fun a o h => e a o (A.sub a o h) fun ps z => A.ft a ps (by rw [h, z]), fun a o h n => e a o (A.hH a o h n) fun ps z => A.n0 a ps (by rw [h, z]), t, A.ft, A.n0, A.new, A.len, fun i c h => ?_, A.dist, A.ownN, ?_⟩
  · have so := A.slots i c h
    cases c with
    | un => trivial
    | d x => exact so
    | l xs =>
      obtain ⟨a, ws, e1, e2, e3, e4⟩ := so
      exact ⟨a, ws, e1, nt e2, e3, e4⟩
    | m kvs => exact so
    | pen => exact so
    | e c => exact so
    | sc ns => exact so
  · exact A.pen.imp fun q c o o' hq h1 h2 h3 => by
      refine ⟨?_, h2, h3⟩
      obtain ⟨P, c', _, g1, _⟩ := A.pen.at hq
      rw [g1] at h1
      cases h1
      exact nt g1
/-- another frame over what stays now -/
theorem Agr.frame {r : List R} (A : Agr K F0 H0 pa σ F H S) (hl : r.length = σ2.length) (hs : ∀ (i : Nat) (c : R), r[i]? = some c → SlotOk K pa F H σ2[i]? c) (hn : ∀ (i : Nat) (xs : List D), r[i]? ≠ some (.l xs)) (hm : ∀ (i : Nat) kvs, r[i]? ≠ some (.m kvs)) : Agr K F (bareT H) pa σ2 F H ⟨r, S.p⟩ :=
  ⟨Ex.refl F, A.sub, fun a o h _ => (bareT_some h).1, A.tabs, A.ft, bareT_free, fun a o h => .inl h, hl, hs, fun i j a o _ => (o.2.elim (fun ⟨xs, z⟩ => hn i xs z) fun ⟨kvs, z⟩ => hm i kvs z).elim, fun i a o => (o.2.elim (fun ⟨xs, z⟩ => hn i xs z) fun ⟨kvs, z⟩ => hm i kvs z).elim, A.pen⟩
end
/-- the frame of the def that tells: nothing caught, or an exception of the class c -/
def wFr (n : Nat) (c : R) : List R := .un :: c :: List.replicate n .un
theorem wFr_get {n i : Nat} {c d : R} (h : (wFr n c)[i]? = some d) : d = .un ∨ i = 1 ∧ d = c := by
  match i with
  | 0 => left; simpa [wFr] using h.symm
  | 1 => right; exact ⟨rfl, by simpa [wFr] using h.symm⟩
  | i + 2 =>
    left
    simp [wFr, List.getElem?_replicate] at h
    exact h.2.symm
def wEnd (S1 : Sq) : Fl → Out PV
  | .rt r S2 => (match toPV r with
    | some z => .ok z { S1 with p := S2.p }
    | none => .no)
  | _ => .no
/-- n: the frame's slots but two; cl: the classes; g: what is done behind the try -/
def wordF (n : Nat) (cl : List Str) (g : Sq → Fl) (fE : Sq → Out PV) : Sq → Out PV := fun S => match fE S with
  | .ok _ S1 => wEnd S1 (g ⟨wFr n (.d .none), S1.p⟩)
  | .ex c S1 => if c ∈ cl then wEnd S1 (g ⟨wFr n (.e c), S1.p⟩) else .no
  | .no => .no
section
variable {K : PySem.W.Frag} {F0 H0 F H F' H' H1 : Hp} {pa : Option Addr} {σ σ2 : L2.St} {S S1 : Sq} {Q : VK} {W : WX}
/-- behind the try: from the caller's state -/
theorem wEnd_rs {n : Nat} {c : R} {g : Sq → Fl} (A : Agr K F0 H0 pa σ F H S1) (x : Ex F' F) (hl : σ2.length = n + 2) (hs : SlotOk K pa F H σ2[1]? c) (hc : (∀ xs, c ≠ .l xs) ∧ ∀ kvs, c ≠ .m kvs)
    (z : OutP (wEnd S1 (g ⟨wFr n c, S1.p⟩)) (TP K F0 H0 pa σ F' Q) (EW K W F0 H0 pa σ)) : rs K WF0 g { nx := fun _ H' => Q .non H', rt := Q } σ2 H := by
  refine ⟨F, bareT H, pa, F, ⟨wFr n c, S1.p⟩, A.frame (by simp [wFr, hl]) (fun i d h => ?_) (fun i xs h => ?_) (fun i kvs h => ?_), ?_⟩
  · rcases wFr_get h with rfl | ⟨rfl, rfl⟩
    · trivial
    · exact hs
  · rcases wFr_get h with q | ⟨rfl, q⟩
    · cases q
    · exact hc.1 xs q.symm
  · rcases wFr_get h with q | ⟨rfl, q⟩
    · cases q
    · exact hc.2 kvs q.symm
  · cases o : g ⟨wFr n c, S1.p⟩ with
    | rt r S2 =>
      rw [o] at z
      intro σ' v F3 H3 B q
      unfold wEnd at z
      dsimp only at z
      split at z
      · rename_i w e1
        exact z v F3 H3 (x.trans B.fF) (A.called B.drop) (RelR.toP A B.drop q e1)
      · exact z.elim
    | nx S2 => rw [o] at z; exact z.elim
    | bk S2 => rw [o] at z; exact z.elim
    | ct S2 => rw [o] at z; exact z.elim
    | ex c S2 => rw [o] at z; exact z.elim
    | no => rw [o] at z; exact z.elim
end
/-- what the def makes of the lambda's reading -/
def TTw (K : PySem.W.Frag) (Ng : List Str) (CS : Addr) (g : Sq → Fl) : (XK → Hp → VK → Prop) → Hp → VK → Prop := fun tl H Q => ∀ f : Addr,
  tl (fun cls d H' => d = none ∧ PySem.W.exmOne K cls (.ref CS) = some true ∧ ∀ (a : Addr) (σ' : L2.St), H' a = none → σ'.length = Ng.length →
      rs K WF0 g { nx := fun _ H' => Q .non H', rt := Q } (((σ'.set 2 (some (.ref a))).set 1 (some (.ref a))).set 2 none) (upd H' a (exV cls a))) H
    (fun _ H' => rs K WF0 g { nx := fun _ H' => Q .non H', rt := Q } ((L2.start Ng [.ref f]).set 1 (some .non)) H')
section
variable {X : Cx} {W : WX} {k : Nat} {G : Gb} {N : List Str} {sc : Scope} {x a m e q top : Str} {Ng : List Str} {sg : Scope} {g : Addr} {cdg : Value} {gR : Sq → Fl} {rest : List Stmt} {p1 p2 p3 p4 p5 p6 p7 p8 p9 p10 p11 p12 : Pos} {j1 : Nat}
theorem word_gives (C : Cq G (k + 2) N sc X) (hr : Room (k + 2) X.A) (hNd : Ng.Nodup) (h0 : Ng[0]? = some a) (h1 : Ng[1]? = some m) (h2 : Ng[2]? = some e) (hm : sg.names.lookup m = some .local) (he : sg.names.lookup e = some .local) (ht : sg.names.lookup top = some .globalImplicit) (gt : G.mg top = some (.ref (He.ga G.K top)))
    (hrest : ∀ (X1 : Cx) (W : WX), Cq { G with gr := False } k Ng sg X1 → (∀ x, X1.fn x = true) → Takes X1 W → DSs X1 W rest gR)
    (hdt : (top == ("__debug__" : Str)) = false := by decide) (hde : (e == ("__debug__" : Str)) = false := by decide) (hce : (e == ("__classdict__" : Str)) = false := by decide)
    (hsw1 : ∀ E : Env, swapsWith (.Constant .none j1 p1) (some (.Name m p2)) p3.line E = pure false := by intro _; rfl) (hsw2 : ∀ E : Env, swapsWith (.Call (.Name a p4) [] [] p5) none p5.line E = pure false := by intro _; rfl) (hsw3 : ∀ E : Env, swapsWith (.Name e p9) (some (.Name m p8)) p10.line E = pure false := by intro _; rfl) :
    LamX.GivesTo X Ng x sg g cdg (.Assign [.Name m p2] (.Constant .none j1 p1) p3 :: .Try [.Expr (.Call (.Name a p4) [] [] p5) p5] [.ExceptHandler (some (.Name top p7)) (some e) [.Assign [.Name m p8] (.Name e p9) p10] p11] [] [] p12 :: rest) a q (TTw X.K Ng (He.ga G.K top) gR) := by
  intro f c' s H Q tl act hc h
  let X1 : Cx := (cxOf C8.CX0 X.prog X.w X.K X.mg X.base Ng x sg g cdg X.A X.stack s H C8.E0).nox
  have C1 : Cq { G with gr := False } (k + 1) Ng sg X1 := ⟨rfl, hNd, rfl, hr.deeper _, fun z => z.elim, rfl, PassesOwn.never, C.prog, C.wo, C.K, C.mg, C.base⟩
  have C0 : Cq { G with gr := False } k Ng sg X1 := ⟨rfl, hNd, rfl, (hr.deeper _).mono (Nat.le_succ _), fun z => z.elim, rfl, PassesOwn.never, C.prog, C.wo, C.K, C.mg, C.base⟩
  have hgl : Gl X1 top := ht
  have hmt : X1.mg top = some (.ref (He.ga G.K top)) := by
    show X.mg top = _
    rw [C.mg]; exact gt
  have d1 : PS X1 (.Assign [.Name m p2] (.Constant .none j1 p1) p3) (tAsg (tC .non) (gName 1)) := ps_set hNd h1 (.inl hm) pe_non (hsw1 _) (.inr hm)
  have d2 := ps_try_held (X := X1) (c := .ref (He.ga G.K top)) (i := 2) (j := 1) (body := [.Expr (.Call (.Name a p4) [] [] p5) p5]) (np := p7) (pos := p12) (pos' := p11) (p1 := p8) (p2 := p9) (p3 := p10) (Wout := WF0)
    (tb := fun W D σ H => ∃ Ech : XK, (∀ cls d σ' H', Ech cls d H' → W cls d σ' H') ∧ σ[0]? = some (some (.ref f)) ∧ H c' = some (LamX.CodeO c' q) ∧ tl Ech H fun _ H' => D.nx σ H')
    rfl rfl rfl hNd h2 h1 he hm ⟨hgl, hdt, .inl hmt⟩ LamX.takes0 (fun W pn xe tk _ => by
      refine ⟨fun pins s' σ H' D I h' => ?_⟩
      obtain ⟨Ech, hW, g1, g2, g3⟩ := h'
      exact (pss_one (ps_expr (act W pn xe Ech p4 p5 tk hW) (hsw2 _))).run pins s' σ H' D I ⟨g1, g2, g3⟩) hde hce hsw3
  have d3 : PSs X1 rest (rs X1.K WF0 gR) := hrest X1 WF0 C0 (fun _ => rfl) LamX.takes0
  refine ⟨_, pss_cons d1 (pss_cons d2 d3), ?_⟩
  have hX : X1.K = X.K := rfl
  refine ⟨fun cls d H' => d = none ∧ PySem.W.exmOne X.K cls (.ref (He.ga G.K top)) = some true ∧ ∀ (a : Addr) (σ' : L2.St), H' a = none → σ'.length = Ng.length →
      rs X.K WF0 gR { nx := fun _ H' => Q .non H', rt := Q } (((σ'.set 2 (some (.ref a))).set 1 (some (.ref a))).set 2 none) (upd H' a (exV cls a)), ?_, ?_, hc, ?_⟩
  · intro cls d σ' H' ⟨w1, w2, w3⟩ hl
    exact ⟨w1, true, w2, fun _ a ha => w3 a σ' ha hl, fun z => by cases z⟩
  · unfold L2.start
    simp
  · exact h f
/-- x(lambda: body) -/
theorem de_word {pg : Arguments} {bg : List Stmt} {dV kV doc pm cdv ct oc : Value} {an od : Option Addr} {osl : Array (Option Value)} {params : Arguments} {body : Expr} {scope : Scope} {p lpos pos : Pos} {c P : Addr} {n : Nat} {cl : List Str} {fE : Sq → Out PV}
    (C : Cq G (k + 2) N sc X) (V : ExcAll G.K G.mg cl top) (hx : sc.names.lookup x = some .globalImplicit) (hmx : G.mg x = some (.ref g)) (hk : PySem.W.keepIn G.K (.ref g) = true)
    (lk : G.K.lookup g = some ⟨oc, od, .func (PySem.W.fnOf x x pg bg sg dV kV doc pm an cdv ct), osl⟩) (hcg : PySem.W.codeIn G.K cdv x = true) (hb : L2.Binds G.K (PySem.W.fnOf x x pg bg sg dV kV doc pm an cdv ct) [a] []) (Sg : FnScope Ng [a] sg) (hNg : Ng[0]? = some a) (hva : Vis sg a) (hn : Ng.length = n + 2)
    (hG : LamX.GivesTo X Ng x sg g cdv bg a (X.env.qual ++ "<lambda>") (TTw X.K Ng (He.ga G.K top) gR))
    (TB : LamX.TabB G.base G.mg c P) (hcode : X.env.code = .ref c) (hmT : (P, X.env.qual ++ "<lambda>") ∈ TabSet.T) (hu : ∀ p ∈ TabSet.T, p.1 = P → p.2 = X.env.qual ++ "<lambda>") (L : LamX.LamS sc scope) (hdef : defaultsOf params X.env = ([], []))
    (hbind : ∀ (q : Str) (cl : List (Str × Addr)) (pm cv ctv : Value), bindArgs (PySem.W.kla_fn "<lambda>" q params body scope cl pm cv ctv) ⟨[], []⟩ = pure [])
    (hbody : ∀ (X' : Cx) (W' : WX), Cq { G with gr := False } k N scope X' → Takes X' W' → DE X' W' body fE)
    (hdb : (x == ("__debug__" : Str)) = false := by decide) (hd : (a == ("__debug__" : Str)) = false := by decide) (hcd : (a == ("__classdict__" : Str)) = false := by decide) :
    DE X W (.Call (.Name x p) [.Lambda params body scope lpos] [] pos) (wordF n cl gR fE) := by
  have hK : X.K = G.K := C.K
  have hM : X.mg = G.mg := C.mg
  have hB : X.base = G.base := C.base
  refine PE.weak (LamX.pe_lamcall (T := TabSet.T) (TT := TTw X.K Ng (He.ga G.K top) gR) (k := k) (Ng := Ng) (t := fun E => rd X.K (fun cls d _ H => E cls d H) fE) (glC C hx) (mgC C hmx) (by rw [hK]; exact hk) (by rw [hK]; exact lk) (by rw [hK]; exact hcg) (by rw [hK]; exact hb) Sg hNg hva hG
    (by rw [hB, hM]; exact TB) hcode hmT hu C.hd (by rw [C.scope]; exact L) hdef hbind (fun A outer s H E f c' hr => ?_) hdb hd hcd) fun σ H Q z => ?_
  · have C' : Cq { G with gr := False } k N scope (LamX.lamCx X A outer s H E scope f c') := ⟨C.names, C.nd, rfl, hr, fun z => z.elim, rfl, passes_of rfl, C.prog, C.wo, C.K, C.mg, C.base⟩
    exact hbody _ _ C' (takes_of rfl rfl rfl rfl)
  · obtain ⟨F0, H0, pa, F, S, A, z⟩ := z
    refine ⟨A.tabs, fun H1 eN T1 f0 => ⟨F, H0, pa, F, S, (A.extN eN T1).reF, ?_⟩⟩
    unfold wordF at z
    cases o : fE S with
    | no => rw [o] at z; exact z.elim
    | ok p S1 =>
      rw [o] at z
      intro v F' H' x1 A1 r1
      refine wEnd_rs (c := .d .none) ((A.extN eN T1).deF A1) x1 (by unfold L2.start; simp [hn]) ⟨.non, ?_, .non⟩ ⟨(fun xs z => nomatch z), (fun kvs z => nomatch z)⟩ z
      unfold L2.start
      rw [List.getElem?_set_self (by simp [hn])]
    | ex c0 S1 =>
      rw [o] at z
      dsimp only at z
      split at z
      · rename_i hc0
        intro F' H' A1
        have xF : Ex F F' := A1.fF
        have A1 := (A.extN eN T1).deF A1
        refine ⟨rfl, ?_, fun a σ' ha hl => ?_⟩
        · rw [hK]
          exact V.m c0 hc0
        have A2 := A1.newF (o := exV (.ref (He.ga X.K c0)) a) ha (fun ps z => by unfold exV at z; cases z)
        have z2 : OutP (wEnd S1 (gR ⟨wFr n (.e c0), S1.p⟩)) (TP X.K F0 H0 pa σ F Q) (EW X.K W F0 H0 pa σ) := z
        have xx : Ex F (upd F' a (exV (.ref (He.ga X.K c0)) a)) := xF.trans (Ex.new (A1.sub.none ha))
        refine wEnd_rs (c := .e c0) A2 xx (by simp [hl, hn]) ⟨a, ?_, upd_same⟩ ⟨(fun xs z => nomatch z), (fun kvs z => nomatch z)⟩ z2
        rw [List.getElem?_set_ne (by decide), List.getElem?_set_self (by simp [hl, hn])]
      · exact z.elim
end
end Q3
/-! Q3t: the law's own def; the def that tells, packed. -/
namespace Q3
open PySem PySem.Spec PyProof.Rows L2
variable [TabSet]
theorem Cq.mono {G : Gb} {j k : Nat} {N : List Str} {sc : Scope} {X : Cx} (C : Cq G k N sc X) (h : j ≤ k) : Cq G j N sc X :=
  ⟨C.names, C.nd, C.scope, C.hd.mono h, C.gd, C.calm, C.pass, C.prog, C.wo, C.K, C.mg, C.base⟩
/-- a context in which lambdas are made -/
def LamAt (G : Gb) (X : Cx) : Prop := ∃ c P, LamX.TabB G.base G.mg c P ∧ X.env.code = .ref c ∧ (P, X.env.qual ++ "<lambda>") ∈ TabSet.T ∧ ∀ p ∈ TabSet.T, p.1 = P → p.2 = X.env.qual ++ "<lambda>"
/-- the def that tells what a lambda raises -/
def HasW (G : Gb) (k : Nat) (x : Str) (n : Nat) (cl : List Str) (gR : Sq → Fl) : Prop :=
  ∃ (top a : Str) (g : Addr) (pg : Arguments) (bg : List Stmt) (sg : Scope) (dV kV doc pm cdv ct oc : Value) (an od : Option Addr) (osl : Array (Option Value)) (Ng : List Str),
    G.mg x = some (.ref g) ∧ PySem.W.keepIn G.K (.ref g) = true ∧ G.K.lookup g = some ⟨oc, od, .func (PySem.W.fnOf x x pg bg sg dV kV doc pm an cdv ct), osl⟩ ∧ PySem.W.codeIn G.K cdv x = true ∧
    L2.Binds G.K (PySem.W.fnOf x x pg bg sg dV kV doc pm an cdv ct) [a] [] ∧ FnScope Ng [a] sg ∧ Ng[0]? = some a ∧ Vis sg a ∧ Ng.length = n + 2 ∧ ExcAll G.K G.mg cl top ∧ (a == ("__debug__" : Str)) = false ∧ (a == ("__classdict__" : Str)) = false ∧
    ∀ (X : Cx) (N : List Str) (sc : Scope) (q : Str), Cq G (k + 2) N sc X → LamX.GivesTo X Ng x sg g cdv bg a q (TTw X.K Ng (He.ga G.K top) gR)
theorem hasW_of {G : Gb} {k n : Nat} {x a top : Str} {st : Stmt} {Ng cl : List Str} {gR : Sq → Fl} (D : HasD G.K G.mg x st)
    (hb : ∀ (kV doc pm : Value) (an : Option Addr) (cdv ct : Value) (us : List Value), us.length = [a].length → bindArgs (PySem.W.fnOf x x (defArgs st) (defBody st) (defScope st) .none kV doc pm an cdv ct) ⟨us, []⟩ = pure ([a].zip us))
    (S : FnScope Ng [a] (defScope st)) (h0 : Ng[0]? = some a) (hv : Vis (defScope st) a) (hn : Ng.length = n + 2) (V : ExcAll G.K G.mg cl top) (h1 : (a == ("__debug__" : Str)) = false) (h2 : (a == ("__classdict__" : Str)) = false)
    (h : ∀ (g : Addr) (cdv : Value) (X : Cx) (N : List Str) (sc : Scope) (q : Str), Cq G (k + 2) N sc X → LamX.GivesTo X Ng x (defScope st) g cdv (defBody st) a q (TTw X.K Ng (He.ga G.K top) gR)) : HasW G k x n cl gR := by
  obtain ⟨f, fd, F, m⟩ := D
  have B := F.bindsN hb
  obtain ⟨oc, od, dV, kV, doc, pm, an, cdv, ct, osl, rfl, lk, hcd, _, _⟩ := id F.ex
  exact ⟨top, a, f, _, _, _, dV, kV, doc, pm, cdv, ct, oc, an, od, osl, Ng, m, F.kp, lk, hcd, B, S, h0, hv, hn, V, h1, h2, fun X N sc q C => h f cdv X N sc q C⟩
theorem de_wordH {X : Cx} {W : WX} {k j n : Nat} {G : Gb} {N : List Str} {sc scope : Scope} {x : Str} {cl : List Str} {gR : Sq → Fl} {params : Arguments} {body : Expr} {p lpos pos : Pos} {fE : Sq → Out PV} (C0 : Cq G j N sc X) (hj : k + 2 ≤ j) (hW : HasW G k x n cl gR) (LA : LamAt G X)
    (hx : sc.names.lookup x = some .globalImplicit) (L : LamX.lamSB sc scope = true) (hdef : defaultsOf params X.env = ([], []))
    (hbind : ∀ (q : Str) (cl : List (Str × Addr)) (pm cv ctv : Value), bindArgs (PySem.W.kla_fn "<lambda>" q params body scope cl pm cv ctv) ⟨[], []⟩ = pure [])
    (hbody : ∀ (X' : Cx) (W' : WX), Cq { G with gr := False } k N scope X' → Takes X' W' → DE X' W' body fE) (hdb : (x == ("__debug__" : Str)) = false := by decide) :
    DE X W (.Call (.Name x p) [.Lambda params body scope lpos] [] pos) (wordF n cl gR fE) := by
  obtain ⟨top, a, g, pg, bg, sg, dV, kV, doc, pm, cdv, ct, oc, an, od, osl, Ng, h1, h2, h3, h4, h5, h6, h7, h8, h9, h10, h11, h12, h13⟩ := hW
  obtain ⟨c, P, l1, l2, l3, l4⟩ := LA
  have C := C0.mono hj
  exact de_word C h10 hx h1 h2 h3 h4 h5 h6 h7 h8 h9 (h13 X N sc _ C) l1 l2 l3 l4 (LamX.lamS_by L) hdef hbind hbody hdb h11 h12
section
variable {X : Cx} {W : WX} {N : List Str} {sc : Scope} {k : Nat} {G : Gb} {x : Str} {pos : Pos}
/-- the script's name -/
def fVarS (i : Nat) : Sq → Out PV := fun S => match S.r[i]? with
  | some (.sc _) => .ok (.s i) S
  | _ => .no
theorem de_varS (i : Nat) (C : Cq G k N sc X) (hN : N[i]? = some x := by rfl) (hv : sc.names.lookup x = some .local ∨ sc.names.lookup x = some .cell ∨ sc.names.lookup x = some .free := by first | exact Or.inl rfl | exact Or.inr (Or.inl rfl) | exact Or.inr (Or.inr rfl))
    (hd : (x == ("__debug__" : Str)) = false := by decide) (hcd : (x == ("__classdict__" : Str)) = false := by decide) : DE X W (.Name x pos) (fVarS i) := by
  refine PE.weak (pe_var (i := i) (by rw [C.names]; exact hN) (by show Vis X.env.scope x; rw [C.scope]; exact hv) hd hcd) fun σ H Q q => ?_
  obtain ⟨F0, H0, pa, F, S, A, z⟩ := q
  unfold fVarS at z
  split at z
  · rename_i ns o
    obtain ⟨a, e1, _⟩ := A.slots i _ o
    exact ⟨_, e1, z _ F H (Ex.refl F) A e1⟩
  · exact z.elim
end
/-- what the law is to answer: cells, the rest's function from the pen's start -/
def lawOk (n i : Nat) (fO : Fd) (gR : Sq → Fl) (ns : List Int) : Prop :=
  ∃ (cells : List Int) (S1 S2 : Sq), fO [.sc ns] none = .ok (.l [.list (cells.map .int), .int 0, .int 0]) S1 ∧ S1.p = none ∧
    gR ⟨(List.replicate n R.un).set i .pen, some ⟨cells, 0, 0⟩⟩ = .rt (.d (.bool true)) S2
theorem sqL_at {K : PySem.W.Frag} {H : Hp} {a : Addr} {xs : List V} (h : SqL K H a xs) : SqL K (fun b => if b = a then bareT H b else none) a xs := by
  rcases h with (h | ⟨o, h⟩) | h
  · exact .inl (.inl (by show (if a = a then _ else _) = _; rw [if_pos rfl]; exact bareT_of h fun _ z => nomatch z))
  · exact .inl (.inr ⟨o, by show (if a = a then _ else _) = _; rw [if_pos rfl]; exact bareT_of h fun _ z => nomatch z⟩)
  · exact .inr h
/-- THE LAW: pen = open(script), then the rest -/
theorem lawG {G : Gb} {k j n i : Nat} {st : Stmt} {N : List Str} {xs xp xo : Str} {fO : Fd} {gR : Sq → Fl} {f : Addr} {fd : FuncData} {rest : List Stmt} {p1 p2 p3 p4 p5 : Pos} (F : L2.FunD G.K "law" "law" (defArgs st) (defBody st) (defScope st) [] [] f fd) (S : FnScope N [xs] (defScope st)) (hn : N.length = n) (hi : N[i]? = some xp) (h0 : N[0]? = some xs) (hi0 : i ≠ 0)
    (hbody : defBody st = .Assign [.Name xp p1] (.Call (.Name xo p2) [.Name xs p3] [] p4) p5 :: rest) (hO : Has G j xo [xs] fO) (hj : j ≤ k) (hlo : (defScope st).names.lookup xo = some .globalImplicit) (hlp : Loc (defScope st) xp) (hls : (defScope st).names.lookup xs = some .local)
    (hb : ∀ X W, Cq G k N (defScope st) X → (∀ x, X.fn x = true) → Takes X W → X.env.qual = "law" ++ ".<locals>." → X.env.code = fd.code → DSs X W rest gR)
    (hd : (xs == ("__debug__" : Str)) = false := by decide) (hcd : (xs == ("__classdict__" : Str)) = false := by decide) (hdo : (xo == ("__debug__" : Str)) = false := by decide) (hsw : ∀ E : Env, swapsWith (.Call (.Name xo p2) [.Name xs p3] [] p4) (some (.Name xp p1)) p5.line E = pure false := by intro _; rfl) :
    FnG G (k + 1) f fd [xs] (fun vs H Q _ => ∃ (a : Addr) (ns : List Int), vs = [.ref a] ∧ SqL G.K H a (ns.map .int) ∧ LamX.Tabs TabSet.T H ∧ lawOk n i fO gR ns ∧ ∀ H', Q (.bl true) H') := by
  obtain ⟨oc, od, dV, kV, doc, pm, an, cdv, ct, osl, rfl, lk, hcd', _, _⟩ := F.ex
  refine fn_ofG lk hcd' S (fun vs _ _ _ h => by obtain ⟨a, ns, rfl, _⟩ := h; rfl) fun A outer s H vs Q E hr hgd hsp => ?_
  obtain ⟨a, ns, rfl, hS, hT, ⟨cells, S1, S2, e1, ep, e2⟩, hQ⟩ := hsp
  have C : Cq G k N (defScope st) (cxOf (L2.CX G.P G.w) G.P G.w G.K G.mg G.base N "law" (defScope st) f cdv A outer s H E) := ⟨rfl, S.nd, rfl, hr, hgd, rfl, passes_of rfl, rfl, rfl, rfl, rfl, rfl⟩
  have tk : Takes (cxOf (L2.CX G.P G.w) G.P G.w G.K G.mg G.base N "law" (defScope st) f cdv A outer s H E) (fun cls d _ H => E cls d H) := takes_of rfl rfl rfl rfl
  have dr := hb _ _ C (fun _ => rfl) tk rfl rfl
  have da := da_cons (W := fun cls d _ H => E cls d H) (de_varS (pos := p3) 0 C h0 (Or.inl hls) hd hcd) da_nil
  have dc := de_callH (pos := p4) (p := p2) C tk hO hj hlo rfl da (fl_cons fl_nil) hdo
  have hN : n = 1 + (n - 1) := by
    have : (0 : Nat) < N.length := (List.getElem?_eq_some_iff.mp h0).1
    omega
  rw [hbody]
  refine ⟨_, pss_cons (ps_set (by exact S.nd) hi hlp dc (hsw _) (.inl rfl)) dr, ?_⟩
  let F1 : Hp := fun b => if b = a then bareT H b else none
  have lenσ : (L2.start N [V.ref a]).length = n := by
    unfold L2.start
    simp [hn]
    omega
  have A0 : Agr G.K F1 (bareT H) none (L2.start N [V.ref a]) F1 H ⟨.sc ns :: List.replicate (n - 1) .un, none⟩ := by
    refine ⟨Ex.refl _, fun b o h => ?_, fun b o h _ => (bareT_some h).1, hT, fun b ps h => ?_, bareT_free, fun b o h => .inl h, ?_, fun l c h => ?_, fun l m b o _ => ?_, fun l b o => ?_, trivial⟩
    · have h : (if b = a then bareT H b else none) = some o := h
      split at h
      · exact (bareT_some h).1
      · cases h
    · have h : (if b = a then bareT H b else none) = some (.tbl ps) := h
      split at h
      · exact bareT_free b ps h
      · cases h
    · rw [lenσ]
      simp
      omega
    · match l with
      | 0 =>
        have h : some (R.sc ns) = some c := h
        cases h
        exact ⟨a, by unfold L2.start; simp, sqL_at hS⟩
      | l + 1 =>
        have h : (List.replicate (n - 1) R.un)[l]? = some c := by simpa using h
        rw [List.getElem?_replicate] at h
        split at h
        · cases h; trivial
        · cases h
    · exfalso
      match l, o with
      | 0, ⟨_, .inl ⟨xs, z⟩⟩ => cases (show some (R.sc ns) = _ from z)
      | 0, ⟨_, .inr ⟨xs, z⟩⟩ => cases (show some (R.sc ns) = _ from z)
      | l + 1, ⟨_, .inl ⟨xs, z⟩⟩ =>
        have z : (List.replicate (n - 1) R.un)[l]? = some (.l xs) := by simpa using z
        rw [List.getElem?_replicate] at z
        split at z <;> cases z
      | l + 1, ⟨_, .inr ⟨xs, z⟩⟩ =>
        have z : (List.replicate (n - 1) R.un)[l]? = some (.m xs) := by simpa using z
        rw [List.getElem?_replicate] at z
        split at z <;> cases z
    · exfalso
      match l, o with
      | 0, ⟨_, .inl ⟨xs, z⟩⟩ => cases (show some (R.sc ns) = _ from z)
      | 0, ⟨_, .inr ⟨xs, z⟩⟩ => cases (show some (R.sc ns) = _ from z)
      | l + 1, ⟨_, .inl ⟨xs, z⟩⟩ =>
        have z : (List.replicate (n - 1) R.un)[l]? = some (.l xs) := by simpa using z
        rw [List.getElem?_replicate] at z
        split at z <;> cases z
      | l + 1, ⟨_, .inr ⟨xs, z⟩⟩ =>
        have z : (List.replicate (n - 1) R.un)[l]? = some (.m xs) := by simpa using z
        rw [List.getElem?_replicate] at z
        split at z <;> cases z
  refine ⟨F1, bareT H, none, F1, _, A0, ?_⟩
  have ec : callF fO (fCons (fVarS 0) fNil) ⟨.sc ns :: List.replicate (n - 1) .un, none⟩ = .ok (.o (.l [.list (cells.map .int), .int 0, .int 0])) ⟨.sc ns :: List.replicate (n - 1) .un, none⟩ := by
    have q1 : fCons (fVarS 0) fNil ⟨.sc ns :: List.replicate (n - 1) .un, none⟩ = .ok [.s 0] ⟨.sc ns :: List.replicate (n - 1) .un, none⟩ := rfl
    have q2 : argsK ⟨.sc ns :: List.replicate (n - 1) .un, none⟩ [.s 0] = some ([.sc ns], ⟨.sc ns :: List.replicate (n - 1) .un, none⟩) := rfl
    simp only [callF, q1, Out.bind_ok, q2, e1, toPV, ep]
  rw [ec]
  intro v F' H' x1 A1 r1
  obtain ⟨t, vs, rfl, g1, g2, g3, g4, _, _⟩ := r1
  obtain ⟨c, rfl, hc⟩ : ∃ c, vs = [.ref c, .int 0, .int 0] ∧ F' c = some (.lst (cells.map .int)) := by
    cases g3 with
    | cons a1 t1 =>
      cases t1 with
      | cons a2 t2 =>
        cases t2 with
        | cons a3 t3 =>
          cases t3
          cases a2
          cases a3
          cases a1 with
          | lst w1 w2 =>
            have := w2.ints
            subst this
            exact ⟨_, rfl, w1⟩
  refine ⟨F', bareT H', some t, F', ⟨(List.replicate n R.un).set i .pen, some ⟨cells, 0, 0⟩⟩, ?_, ?_⟩
  · have hil : i < n := by
      rw [← hn]
      exact (List.getElem?_eq_some_iff.mp hi).1
    have own : ∀ l b, Own ((L2.start N [V.ref a]).set i (some (V.ref t))) ⟨(List.replicate n R.un).set i .pen, some ⟨cells, 0, 0⟩⟩ l b → False := fun l b o => by
      have key : ∀ c : R, ((List.replicate n R.un).set i .pen)[l]? = some c → c = .pen ∨ c = .un := fun c h => by
        by_cases q : l = i
        · subst q
          rw [List.getElem?_set_self (by simpa using hil)] at h
          exact .inl (Option.some.inj h).symm
        · rw [List.getElem?_set_ne (Ne.symm q), List.getElem?_replicate] at h
          split at h
          · exact .inr (Option.some.inj h).symm
          · cases h
      rcases o.2 with ⟨xs, z⟩ | ⟨xs, z⟩
      · rcases key _ z with q | q <;> cases q
      · rcases key _ z with q | q <;> cases q
    refine ⟨Ex.refl _, A1.sub, fun b o h _ => (bareT_some h).1, A1.tabs, A1.ft, bareT_free, fun b o h => .inl h, by simp [lenσ], fun l c h => ?_, fun l m b o _ => (own l b o).elim, fun l b o => (own l b o).elim, ⟨c, g1, g2, hc⟩⟩
    have h : ((List.replicate n R.un).set i .pen)[l]? = some c := h
    by_cases q : l = i
    · subst q
      rw [List.getElem?_set_self (by simpa using hil)] at h
      cases h
      exact ⟨t, rfl, by rw [List.getElem?_set_self (by rw [lenσ]; exact hil)]⟩
    · rw [List.getElem?_set_ne (Ne.symm q), List.getElem?_replicate] at h
      split at h
      · cases h; trivial
      · cases h
  · rw [e2]
    intro σ' v F3 H3 B q
    cases (show Dn G.K F3 v (.bool true) from q)
    exact hQ H3
end Q3
/-! Q3u: the end of a row whose law asks for repr (after HandS.EndTab's law_callTs, over FnG). -/
namespace Q3
open PySem PySem.Spec PyProof.Rows L2
variable [TabSet]
theorem law_runG {P : Program} {w : World} {K : PySem.W.Frag} {mg mb : Str → Option Value} {k : Nat} {fa a : Addr} {cs : List (Addr × Addr)} {fd : FuncData} {x : Str} {sp : Sp} {s₁ : Shared} {vs : List Value} {ns : List Int}
    (KX : K.In s₁.heap) (hns : s₁.heap.Ns mainGlobals mg) (hb : s₁.heap.Ns builtinsNs mb) (hbb : ∀ x : Str, x ≠ "__name__" → mb x = bootBuiltins x) (hlim : s₁.heap.NoLimit) (hg : s₁.gens = #[])
    (hT : ∀ p ∈ cs, s₁.heap.get? p.2 = some { cls := .none, data := .fields #[] }) (nT : ∀ p ∈ cs, K.lookup p.2 = none) (C : ∀ p ∈ cs, PySem.W.CodeHd s₁.heap p.1 p.2)
    (hbm : ∃ (bm : Addr) (ob : Obj), mg "__builtins__" = some (.ref bm) ∧ bm ≠ builtinsNs ∧ s₁.heap.get? bm = some ob ∧ ob.cls = .type "module" ∧ ob.dict = some builtinsNs ∧ ob.data = .plain)
    (ha : s₁.heap.get? a = some { cls := .type "list", data := .seq vs.toArray }) (hi : IntsAre vs ns) (hl : ns.length ≤ sizeLine) (hr : Room k callerA)
    (F : ∀ base : Heap, K.In base → base.Ns mainGlobals mg → (∀ p ∈ cs, LamX.TabB base mg p.1 p.2) → FnG ⟨P, w, K, mg, base, True⟩ k fa fd [x] sp) (hbind : ∀ (s : Shared) (u : Value), BindsTo s fd ⟨[u], []⟩ [(x, u)])
    (hsp : ∀ H : Hp, (∀ p ∈ cs, H p.2 = some (.tbl #[])) → SqL K H a (ns.map V.int) → sp [.ref a] H (fun v _ => v = .bl true) fun _ _ _ => False) :
    codeAny (model P w) callerA (.call (.ref fa) ⟨[.ref a], []⟩) (fun r s' => r = .ok (.ret (.bool true)) ∧ OldK s₁.heap s'.heap ∧ s'.os = s₁.os ∧ AllBare s'.gens) s₁ := by
  have rv := vals_ints hi
  have lenV := hi.length
  have isT : ∀ b : Addr, b ∈ cs.map (·.2) → s₁.heap.get? b = some { cls := .none, data := .fields #[] } := fun b hb => by
    obtain ⟨p, hp, e⟩ := List.mem_map.mp hb
    rw [← e]
    exact hT p hp
  have aT : a ∉ cs.map (·.2) := fun z => by
    have q := isT a z
    rw [ha] at q
    have z' : Data.seq vs.toArray _ = Data.fields #[] := congrArg Obj.data (Option.some.inj q)
    cases z'
  have memT : ∀ p ∈ cs, p.2 ∈ cs.map (·.2) := fun p hp => List.mem_map.mpr ⟨p, hp, rfl⟩
  -- from an abstract heap in which nothing but the script and the tables may be tracked
  have core : ∀ H : Hp, (∀ p ∈ cs, H p.2 = some (.tbl #[])) → (∀ b, H b = none ∨ b ∈ cs.map (·.2) ∨ ∃ o xs, H b = some (.frz o (.lst xs))) → SqL K H a (ns.map V.int) → HOk P w H s₁.heap → (∀ b, H b ≠ none → b = a ∨ b ∈ cs.map (·.2)) → (H a ≠ none → K.lookup a = none) →
      codeAny (model P w) callerA (.call (.ref fa) ⟨[.ref a], []⟩) (fun r s' => r = .ok (.ret (.bool true)) ∧ OldK s₁.heap s'.heap ∧ s'.os = s₁.os ∧ AllBare s'.gens) s₁ := by
    intro H hH hO hS hok hA hK
    have base_of : ∀ {b : Addr} {o : Obj}, s₁.heap.get? b = some o → H b = none → (hidT s₁.heap H).get? b = some o := fun e n => hidT_get e n
    have noD : ∀ {b : Addr} {o : Obj}, s₁.heap.get? b = some o → (∀ vs n, o.data ≠ .seq vs n) → o.data ≠ .fields #[] → H b = none := fun {b o} e h1 h2 => by
      cases q : H b with
      | none => rfl
      | some u =>
        rcases hA b (by rw [q]; simp) with e' | e'
        · rw [e', ha] at e
          cases e
          exact (h1 _ _ rfl).elim
        · rw [isT b e'] at e
          cases e
          exact (h2 rfl).elim
    have noA : ∀ {b : Addr} {o : Obj} {es : Array DictEntry} {ep : Nat}, s₁.heap.get? b = some o → o.data = .dict es ep → H b = none := fun {b o es ep} e d => by
      refine noD e (fun vs n z => ?_) fun z => ?_
      · rw [d] at z
        cases z
      · rw [d] at z
        cases z
    have nsK : ∀ {b : Addr} {m : Str → Option Value}, s₁.heap.Ns b m → (hidT s₁.heap H).Ns b m := fun {b m} ⟨o, es, ep, e, d, r⟩ => ⟨o, es, ep, base_of e (noA e d), d, r⟩
    have hKb : K.In (hidT s₁.heap H) := fun b o e => base_of (KX b o e) (by
      cases q : H b with
      | none => rfl
      | some u =>
        rcases hA b (by rw [q]; simp) with e' | e'
        · rw [e'] at e q
          rw [hK (by rw [q]; simp)] at e
          cases e
        · obtain ⟨p, hp, ep⟩ := List.mem_map.mp e'
          rw [← ep, nT p hp] at e
          cases e)
    have hM : L2.Mod K mg (hidT s₁.heap H) := ⟨hKb, nsK hns, ⟨mb, nsK hb, hbb⟩, let ⟨mc, h1, h2⟩ := hlim; ⟨mc, nsK h1, h2⟩⟩
    have TB : ∀ p ∈ cs, LamX.TabB (hidT s₁.heap H) mg p.1 p.2 := fun p hp => by
      have hTp := hT p hp
      refine ⟨?_, ?_, fun z => ?_⟩
      · obtain ⟨o, us, file, tf, flags, tg, inF, text, tt, e1, r1, r2, r3, r4, r5, r6, r7, r8, hne⟩ := C p hp
        refine ⟨o, us, file, tf, flags, tg, inF, text, tt, base_of e1 (noD e1 (fun vs n z => ?_) fun z => ?_), r1, r2, r3, r4, r5, r6, r7, r8, hne⟩
        · rw [r2] at z
          cases z
        · rw [r2] at z
          cases z
          simp at r3
      · obtain ⟨bm, ob, b1, b2, b3, b4, b5, b6⟩ := hbm
        have nG : bm ≠ mainGlobals := fun q => by
          obtain ⟨o, es, ep, e, hd, _⟩ := hns
          rw [q, e] at b3
          cases b3
          rw [hd] at b6
          cases b6
        have nP : bm ≠ p.2 := fun q => by
          rw [q, hTp] at b3
          cases b3
          cases b6
        refine ⟨bm, ob, b1, b2, nG, nP, base_of b3 (noD b3 (fun vs n z => ?_) fun z => ?_), b4, b5, b6⟩
        · rw [b6] at z
          cases z
        · rw [b6] at z
          cases z
      · obtain ⟨o, es, ep, e, hd, _⟩ := hns
        rw [z, hTp] at e
        cases e
        cases hd
    have e0 : Env0 P w K mg (hidT s₁.heap H) callerA [] s₁ H := ⟨rfl, hM, fun b o e => of_hidT e, Nat.le_of_eq (hidT_size _ _), trivial, fun b hb => absurd (show b ∈ ([] : List Addr) from hb) (by simp), hok, .of_eq hg⟩
    refine codeAny_mono ((F _ hKb (nsK hns) TB).run callerA [] s₁ H ⟨[.ref a], []⟩ [.ref a] [.ref a] _ _ hr (fun _ => rfl) e0 (hbind s₁ (.ref a)) (.cons rfl .nil) (hsp H hH hS)) fun r s' h => ?_
    cases r with
    | error e => obtain ⟨_, _, _, _, _, _, _, _, _, _, _, _, z⟩ := h; exact z.elim
    | ok fl =>
      cases fl with
      | next => exact False.elim h
      | brk => exact False.elim h
      | cont => exact False.elim h
      | ret u =>
        obtain ⟨v, H', os, bare, un, hok', r', q⟩ := h
        have q' : v = .bl true := q
        subst q'
        obtain rfl : u = Value.bool true := r'
        have key : ∀ b o, b ∉ cs.map (·.2) → s₁.heap.get? b = some o → s'.heap.get? b = some o := fun b o nb e => by
          cases q : H b with
          | none => exact un.keep b o e q (by intro z; exact absurd (show b ∈ ([] : List Addr) from z) (by simp)) (by simp)
          | some u =>
            rcases hO b with z | z | ⟨ob, xs, z⟩
            · rw [q] at z; cases z
            · exact absurd z nb
            · have z2 := un.frzs b ob _ z
              obtain ⟨e1, _⟩ := hok b _ z
              obtain ⟨e2, _⟩ := hok' b _ z2
              rw [e] at e1; cases e1
              exact e2
        have grown : ∀ p ∈ cs, ∃ more : Array Value, s'.heap.get? p.2 = some { cls := .none, data := .fields more } := fun p hp => by
          obtain ⟨more, z⟩ := un.tbls p.2 #[] (hH p hp)
          exact ⟨_, hok' p.2 _ z⟩
        refine ⟨rfl, ⟨fun b o e => ?_, fun b o e => ?_⟩, os, bare⟩
        · by_cases hb : b ∈ cs.map (·.2)
          · obtain ⟨p, hp, ep⟩ := List.mem_map.mp hb
            obtain ⟨more, hm⟩ := grown p hp
            rw [← ep] at e ⊢
            rw [hT p hp] at e
            cases e
            exact .inr (.inl ⟨((C p hp).tab (hT p hp)).isCodeTable, rfl, #[], more, rfl, by rw [Array.empty_append]; exact hm⟩)
          · exact .inl (key b o hb e)
        · by_cases hb : b ∈ cs.map (·.2)
          · obtain ⟨p, hp, ep⟩ := List.mem_map.mp hb
            obtain ⟨more, hm⟩ := grown p hp
            rw [← ep]
            exact ⟨_, hm⟩
          · exact ⟨o, key b o hb e⟩
  cases hk : K.lookup a with
  | some o =>
    have e := KX a o hk
    rw [ha] at e
    cases e
    refine core (fun b => if b ∈ cs.map (·.2) then some (.tbl #[]) else none) (fun p hp => if_pos (memT p hp)) (fun b => ?_) (.inr ⟨_, vs.toArray, _, hk, rfl, rfl, rfl, by rw [List.size_toArray, lenV]; exact hl, by simpa using rv⟩) (fun b u z => ?_) (fun b z => ?_) fun z => absurd (show (if a ∈ cs.map (·.2) then some (HO.tbl #[]) else none) = none from if_neg aT) z
    · by_cases hb : b ∈ cs.map (·.2)
      · exact .inr (.inl hb)
      · exact .inl (if_neg hb)
    · by_cases hb : b ∈ cs.map (·.2)
      · have z' := (if_pos hb).symm.trans z
        cases z'
        exact isT b hb
      · have z' := (if_neg hb).symm.trans z
        cases z'
    · by_cases hb : b ∈ cs.map (·.2)
      · exact .inr hb
      · exact absurd (if_neg hb) z
  | none =>
    refine core (fun b => if b = a then some (.frz { cls := .type "list", data := .seq vs.toArray } (.lst (ns.map V.int))) else if b ∈ cs.map (·.2) then some (.tbl #[]) else none) (fun p hp => (if_neg (show ¬ p.2 = a from fun z => aT (by rw [← z]; exact memT p hp))).trans (if_pos (memT p hp))) (fun b => ?_)
      (.inl (.inr ⟨{ cls := .type "list", data := .seq vs.toArray }, if_pos rfl⟩)) (fun b u z => ?_) (fun b z => ?_) fun _ => hk
    · by_cases hb : b = a
      · exact .inr (.inr ⟨_, _, if_pos hb⟩)
      · by_cases hb2 : b ∈ cs.map (·.2)
        · exact .inr (.inl hb2)
        · exact .inl ((if_neg hb).trans (if_neg hb2))
    · by_cases hb : b = a
      · have z' := (if_pos hb).symm.trans z
        cases z'
        rw [hb]
        exact ⟨ha, by rw [List.length_map]; exact hl, vs, _, rv, ha⟩
      · have z1 := (if_neg hb).symm.trans z
        by_cases hb2 : b ∈ cs.map (·.2)
        · have z' := (if_pos hb2).symm.trans z1
          cases z'
          exact isT b hb2
        · have z' := (if_neg hb2).symm.trans z1
          cases z'
    · by_cases hb : b = a
      · exact .inl hb
      · by_cases hb2 : b ∈ cs.map (·.2)
        · exact .inr hb2
        · exact absurd ((if_neg hb).trans (if_neg hb2)) z

theorem walk_G {l : PySem.W.OpenLaw} {n k : Nat} {q : Program} {loose : List Str} {XP : (Str → Option Value) → Heap → Prop} {YP : World → Heap → Prop} {d : DefRec} {x : Str}
    (hn : l.most = some n) (hn2 : n ≤ sizeLine) (hdf : d.params.defaults = []) (hr : Room k callerA)
    (F : ∀ (w : World) (mg : Str → Option Value) (fa : Addr) (h : Heap), YP w h → h.Ns mainGlobals mg → mg d.name = some (.ref fa) → ∃ (K : PySem.W.Frag) (fd : FuncData) (cs : List (Addr × Addr)) (sp : Sp), K.In h ∧
      (∀ p ∈ cs, h.get? p.2 = some { cls := .none, data := .fields #[] }) ∧ (∀ p ∈ cs, K.lookup p.2 = none) ∧ (∀ p ∈ cs, PySem.W.CodeHd h p.1 p.2) ∧ (∀ (s : Shared) (u : Value), BindsTo s fd ⟨[u], []⟩ [(x, u)]) ∧
      (∀ (H : Hp) (a : Addr) (ns : List Int), ns.length ≤ n → (∀ p ∈ cs, H p.2 = some (.tbl #[])) → SqL K H a (ns.map V.int) → sp [.ref a] H (fun v _ => v = .bl true) fun _ _ _ => False) ∧
      ∀ base : Heap, K.In base → base.Ns mainGlobals mg → (∀ p ∈ cs, LamX.TabB base mg p.1 p.2) → FnG ⟨l.prog, w, K, mg, base, True⟩ k fa fd [x] sp) :
    PySem.W.WalkO q loose XP YP l.row.toRowW d [] (fun f vs => PySem.call f vs) := by
  refine Att.attach_callB hn hdf fun w s₀ s₁ mg mb fa o pm cd doc a vs ns G Y ho hd hcd hmg hobj hints hlen hbits hg => ?_
  obtain ⟨K, fd, cs, sp, KX, hT, nT, C, hb, hsp, hF⟩ := F w mg fa _ Y G.T.g hmg
  exact law_runG KX G.T.g G.T.b G.T.builtins G.T.nolimit hg hT nT C G.T.bmain hobj hints (Nat.le_trans hlen hn2) hr hF hb fun H hH hS => hsp H a ns hlen hH hS
end Q3
/-! Q3v: the functions evaluated step by step (for simp). -/
namespace Q3
open PySem PySem.Spec PyProof.Rows L2
def valR : Option R → Option D
  | some (.d x) => some x
  | some (.l xs) => some (.list xs)
  | _ => none
@[simp] theorem valR_d (x : D) : valR (some (.d x)) = some x := rfl
@[simp] theorem valR_l (xs : List D) : valR (some (.l xs)) = some (.list xs) := rfl
@[simp] theorem val_s (S : Sq) (i : Nat) : S.val (.s i) = valR S.r[i]? := by
  show (match S.r[i]? with
    | some (.d x) => some x
    | some (.l xs) => some (.list xs)
    | _ => none) = _
  cases S.r[i]? with
  | none => rfl
  | some c => cases c <;> rfl
@[simp] theorem val_v (S : Sq) (x : D) : S.val (.v x) = some x := rfl
@[simp] theorem fz_s (i : Nat) : fz (.s i) = .s i := rfl
@[simp] theorem fz_v (x : D) : fz (.v x) = .v x := rfl
@[simp] theorem fz_o (xs : List D) : fz (.o (.l xs)) = .v (.list xs) := rfl
/-! names, constants -/
def var1 (i : Nat) (S : Sq) : Option R → Out PV
  | some (.d _) => .ok (.s i) S
  | some (.l _) => .ok (.s i) S
  | some .pen => .ok (.s i) S
  | some (.e _) => .ok (.s i) S
  | _ => .no
@[simp] theorem ev_var (i : Nat) (S : Sq) : fVar i S = var1 i S S.r[i]? := by
  unfold fVar var1
  split <;> rename_i h <;> simp_all
@[simp] theorem var1_d (i : Nat) (S : Sq) (x : D) : var1 i S (some (.d x)) = .ok (.s i) S := rfl
@[simp] theorem var1_l (i : Nat) (S : Sq) (x : List D) : var1 i S (some (.l x)) = .ok (.s i) S := rfl
@[simp] theorem var1_pen (i : Nat) (S : Sq) : var1 i S (some .pen) = .ok (.s i) S := rfl
@[simp] theorem var1_e (i : Nat) (S : Sq) (c : Str) : var1 i S (some (.e c)) = .ok (.s i) S := rfl
@[simp] theorem ev_c (x : D) (S : Sq) : fC x S = .ok (.v x) S := rfl
/-! two operands -/
def bin4 (S : Sq) : Option PV → Out PV
  | some z => .ok z S
  | none => .no
def bin3 (g : D → D → Option PV) (S : Sq) : Option D → Option D → Out PV
  | some x, some y => bin4 S (g x y)
  | _, _ => .no
def bin2 (g : D → D → Option PV) (p : PV) : Out PV → Out PV
  | .ok q S => bin3 g S (S.val p) (S.val (fz q))
  | .ex c S => .ex c S
  | .no => .no
def bin1 (g : D → D → Option PV) (fb : Sq → Out PV) : Out PV → Out PV
  | .ok p S => bin2 g (fz p) (fb S)
  | .ex c S => .ex c S
  | .no => .no
@[simp] theorem ev_bin (g : D → D → Option PV) (fa fb : Sq → Out PV) (S : Sq) : fBin g fa fb S = bin1 g fb (fa S) := by
  unfold fBin fzF
  cases fa S with
  | no => rfl
  | ex c S1 => rfl
  | ok p S1 =>
    show (((fb S1).bind fun q S2 => .ok (fz q) S2).bind _) = bin2 g (fz p) (fb S1)
    cases fb S1 with
    | no => rfl
    | ex c S2 => rfl
    | ok q S2 =>
      show (match S2.val (fz p), S2.val (fz q) with
        | some x, some y => (match g x y with
          | some z => Out.ok z S2
          | none => .no)
        | _, _ => .no) = bin3 g S2 (S2.val (fz p)) (S2.val (fz q))
      cases S2.val (fz p) with
      | none => rfl
      | some x =>
        cases S2.val (fz q) with
        | none => rfl
        | some y =>
          show _ = bin4 S2 (g x y)
          cases h : g x y <;> simp [bin4, h]
@[simp] theorem bin1_ok (g : D → D → Option PV) (fb : Sq → Out PV) (p : PV) (S : Sq) : bin1 g fb (.ok p S) = bin2 g (fz p) (fb S) := rfl
@[simp] theorem bin1_ex (g : D → D → Option PV) (fb : Sq → Out PV) (c : Str) (S : Sq) : bin1 g fb (.ex c S) = .ex c S := rfl
@[simp] theorem bin2_ok (g : D → D → Option PV) (p q : PV) (S : Sq) : bin2 g p (.ok q S) = bin3 g S (S.val p) (S.val (fz q)) := rfl
@[simp] theorem bin2_ex (g : D → D → Option PV) (p : PV) (c : Str) (S : Sq) : bin2 g p (.ex c S) = .ex c S := rfl
@[simp] theorem bin3_ok (g : D → D → Option PV) (S : Sq) (x y : D) : bin3 g S (some x) (some y) = bin4 S (g x y) := rfl
@[simp] theorem bin4_ok (S : Sq) (z : PV) : bin4 S (some z) = .ok z S := rfl
@[simp] theorem add_i (a b : Int) : gAdd (.int a) (.int b) = some (.v (.int (a + b))) := rfl
@[simp] theorem add_l (a b : List D) : gAdd (.list a) (.list b) = if a.length + b.length ≤ sizeLine then some (.o (.l (a ++ b))) else none := rfl
@[simp] theorem add_s (a b : Str) : gAdd (.str a) (.str b) = if a.length + b.length ≤ sizeLine then some (.v (.str (a ++ b))) else none := rfl
@[simp] theorem sub_i (a b : Int) : gSub (.int a) (.int b) = some (.v (.int (a - b))) := rfl
@[simp] theorem lt_i (a b : Int) : gLt (.int a) (.int b) = some (.v (.bool (decide (a < b)))) := rfl
@[simp] theorem le_i (a b : Int) : gLe (.int a) (.int b) = some (.v (.bool (decide (a ≤ b)))) := rfl
@[simp] theorem gt_i (a b : Int) : gGt (.int a) (.int b) = some (.v (.bool (decide (b < a)))) := rfl
@[simp] theorem ge_i (a b : Int) : gGe (.int a) (.int b) = some (.v (.bool (decide (b ≤ a)))) := rfl
@[simp] theorem mod_i (a b : Int) : gMod (.int a) (.int b) = if 0 < b then some (.v (.int (a % b))) else none := rfl
@[simp] theorem div_i (a b : Int) : gDiv (.int a) (.int b) = if CDiv a b then some (.v (.int (a / b))) else none := rfl
@[simp] theorem pow_i (a b : Int) : gPow (.int a) (.int b) = if CPowW a b then some (.v (.int (a ^ b.toNat))) else none := rfl
@[simp] theorem mul_i (a b : Int) : gMul (.int a) (.int b) = if CMul a b then some (.v (.int (a * b))) else none := rfl
@[simp] theorem mul_s (z : Str) (j : Int) : gMul (.str z) (.int j) = if 0 ≤ j ∧ j < 1000000 ∧ z.length * j.toNat ≤ sizeLine then some (.v (.str (strRep z j.toNat))) else none := rfl
@[simp] theorem ix_l (xs : List D) (i : Int) : gIx (.list xs) (.int i) = (atI xs i).map .v := rfl
@[simp] theorem ix_t (xs : List D) (i : Int) : gIx (.tuple xs) (.int i) = (atI xs i).map .v := rfl
@[simp] theorem ix_s (z : Str) (i : Int) : gIx (.str z) (.int i) = if z.length ≤ sizeLine then (atI z.cps.toList i).map fun c => .v (.str ⟨#[c]⟩) else none := rfl
/-! one operand -/
def one1 (g : D → Option PV) : Out PV → Out PV
  | .ok p S => one2 g S (S.val (fz p))
  | .ex c S => .ex c S
  | .no => .no
where one2 (g : D → Option PV) (S : Sq) : Option D → Out PV
  | some x => bin4 S (g x)
  | none => .no
@[simp] theorem ev_f1 (g : D → Option PV) (fa : Sq → Out PV) (S : Sq) : f1 g fa S = one1 g (fa S) := by
  unfold f1 fzF
  cases fa S with
  | no => rfl
  | ex c S1 => rfl
  | ok p S1 =>
    show (match S1.val (fz p) with
      | some x => (match g x with
        | some z => Out.ok z S1
        | none => .no)
      | none => .no) = one1.one2 g S1 (S1.val (fz p))
    cases S1.val (fz p) with
    | none => rfl
    | some x =>
      show _ = bin4 S1 (g x)
      cases h : g x <;> simp [bin4, h]
@[simp] theorem one1_ok (g : D → Option PV) (p : PV) (S : Sq) : one1 g (.ok p S) = one1.one2 g S (S.val (fz p)) := rfl
@[simp] theorem one1_ex (g : D → Option PV) (c : Str) (S : Sq) : one1 g (.ex c S) = .ex c S := rfl
@[simp] theorem one2_ok (g : D → Option PV) (S : Sq) (x : D) : one1.one2 g S (some x) = bin4 S (g x) := rfl
@[simp] theorem int1_i (i : Int) : gInt1 (.int i) = some (.v (.int i)) := rfl
@[simp] theorem len_l (xs : List D) : gLen (.list xs) = some (.v (.int xs.length)) := rfl
@[simp] theorem len_t (xs : List D) : gLen (.tuple xs) = some (.v (.int xs.length)) := rfl
@[simp] theorem len_s (z : Str) : gLen (.str z) = if z.length ≤ sizeLine then some (.v (.int z.length)) else none := rfl
/-! tests -/
def tst2 (S : Sq) : Option D → Out Bool
  | some (.bool b) => .ok b S
  | _ => .no
def tst1 : Out PV → Out Bool
  | .ok p S => tst2 S (S.val p)
  | .ex c S => .ex c S
  | .no => .no
@[simp] theorem ev_fB (fa : Sq → Out PV) (S : Sq) : fB fa S = tst1 (fa S) := by
  unfold fB
  cases fa S with
  | no => rfl
  | ex c S1 => rfl
  | ok p S1 =>
    show (match S1.val p with
      | some (.bool b) => Out.ok b S1
      | _ => .no) = tst2 S1 (S1.val p)
    unfold tst2
    split <;> rename_i h <;> simp_all
@[simp] theorem tst1_ok (p : PV) (S : Sq) : tst1 (.ok p S) = tst2 S (S.val p) := rfl
@[simp] theorem tst1_ex (c : Str) (S : Sq) : tst1 (.ex c S) = .ex c S := rfl
@[simp] theorem tst2_ok (S : Sq) (b : Bool) : tst2 S (some (.bool b)) = .ok b S := rfl
def and1 (g : Sq → Out Bool) : Out Bool → Out Bool
  | .ok b S => if b = true then g S else .ok false S
  | .ex c S => .ex c S
  | .no => .no
@[simp] theorem ev_and (f g : Sq → Out Bool) (S : Sq) : tAndF f g S = and1 g (f S) := by
  unfold tAndF and1
  cases f S <;> rfl
@[simp] theorem and1_ok (g : Sq → Out Bool) (b : Bool) (S : Sq) : and1 g (.ok b S) = if b = true then g S else .ok false S := rfl
def or1 (g : Sq → Out Bool) : Out Bool → Out Bool
  | .ok b S => if b = true then .ok true S else g S
  | .ex c S => .ex c S
  | .no => .no
@[simp] theorem ev_or (f g : Sq → Out Bool) (S : Sq) : tOrF f g S = or1 g (f S) := by
  unfold tOrF or1
  cases f S <;> rfl
@[simp] theorem or1_ok (g : Sq → Out Bool) (b : Bool) (S : Sq) : or1 g (.ok b S) = if b = true then .ok true S else g S := rfl
def not1 : Out Bool → Out Bool
  | .ok b S => .ok (!b) S
  | .ex c S => .ex c S
  | .no => .no
@[simp] theorem ev_not (f : Sq → Out Bool) (S : Sq) : tNotF f S = not1 (f S) := by
  unfold tNotF not1
  cases f S <;> rfl
@[simp] theorem not1_ok (b : Bool) (S : Sq) : not1 (.ok b S) = .ok (!b) S := rfl
def bv1 : Out Bool → Out PV
  | .ok b S => .ok (.v (.bool b)) S
  | .ex c S => .ex c S
  | .no => .no
@[simp] theorem ev_bv (f : Sq → Out Bool) (S : Sq) : bv f S = bv1 (f S) := by
  unfold bv bv1
  cases f S <;> rfl
@[simp] theorem bv1_ok (b : Bool) (S : Sq) : bv1 (.ok b S) = .ok (.v (.bool b)) S := rfl
def ife1 (fa fb : Sq → Out PV) : Out Bool → Out PV
  | .ok b S => if b = true then fa S else fb S
  | .ex c S => .ex c S
  | .no => .no
@[simp] theorem ev_fIf (t : Sq → Out Bool) (fa fb : Sq → Out PV) (S : Sq) : fIf t fa fb S = ife1 fa fb (t S) := by
  unfold fIf ife1
  cases t S <;> rfl
@[simp] theorem ife1_ok (fa fb : Sq → Out PV) (b : Bool) (S : Sq) : ife1 fa fb (.ok b S) = if b = true then fa S else fb S := rfl
/-! the pen -/
def pen1 (j : Int) (S : Sq) : Option R → Option Pen → Out PV
  | some .pen, some P => if j = 0 then .ok (.v (.list (P.cells.map .int))) S else if j = 1 then .ok (.v (.int P.at_)) S else if j = 2 then .ok (.v (.int P.rest)) S else .no
  | _, _ => .no
@[simp] theorem ev_pen (i : Nat) (j : Int) (S : Sq) : fPen i j S = pen1 j S S.r[i]? S.p := by
  unfold fPen pen1
  split <;> rename_i h <;> simp_all
@[simp] theorem pen1_0 (S : Sq) (P : Pen) : pen1 0 S (some .pen) (some P) = .ok (.v (.list (P.cells.map .int))) S := rfl
@[simp] theorem pen1_1 (S : Sq) (P : Pen) : pen1 1 S (some .pen) (some P) = .ok (.v (.int P.at_)) S := rfl
@[simp] theorem pen1_2 (S : Sq) (P : Pen) : pen1 2 S (some .pen) (some P) = .ok (.v (.int P.rest)) S := rfl
/-! argument lists, displays -/
def cons2 (p : PV) : Out (List PV) → Out (List PV)
  | .ok ps S => .ok (p :: ps) S
  | .ex c S => .ex c S
  | .no => .no
def cons1 (fr : Sq → Out (List PV)) : Out PV → Out (List PV)
  | .ok p S => cons2 (fz p) (fr S)
  | .ex c S => .ex c S
  | .no => .no
@[simp] theorem ev_cons (fa : Sq → Out PV) (fr : Sq → Out (List PV)) (S : Sq) : fCons fa fr S = cons1 fr (fa S) := by
  unfold fCons fzF
  cases fa S with
  | no => rfl
  | ex c S1 => rfl
  | ok p S1 =>
    show ((fr S1).bind fun ps S2 => .ok (fz p :: ps) S2) = cons2 (fz p) (fr S1)
    cases fr S1 <;> rfl
@[simp] theorem cons1_ok (fr : Sq → Out (List PV)) (p : PV) (S : Sq) : cons1 fr (.ok p S) = cons2 (fz p) (fr S) := rfl
@[simp] theorem cons2_ok (p : PV) (ps : List PV) (S : Sq) : cons2 p (.ok ps S) = .ok (p :: ps) S := rfl
@[simp] theorem ev_nil (S : Sq) : fNil S = .ok [] S := rfl
def keepR (S : Sq) (i : Nat) : Option R → Option (D × Sq)
  | some (.d x) => some (x, S)
  | some (.l xs) => some (.list xs, { S with r := S.r.set i (.d (.list xs)) })
  | _ => none
@[simp] theorem keep_s (S : Sq) (i : Nat) : S.keep (.s i) = keepR S i S.r[i]? := by
  unfold Sq.keep keepR
  first | rfl | (dsimp only; split <;> rename_i h <;> simp_all)
@[simp] theorem keepR_d (S : Sq) (i : Nat) (x : D) : keepR S i (some (.d x)) = some (x, S) := rfl
@[simp] theorem keepR_l (S : Sq) (i : Nat) (xs : List D) : keepR S i (some (.l xs)) = some (.list xs, { S with r := S.r.set i (.d (.list xs)) }) := rfl
@[simp] theorem keep_v (S : Sq) (x : D) : S.keep (.v x) = some (x, S) := rfl
def kall2 (d : D) : Option (List D × Sq) → Option (List D × Sq)
  | some (ds, S) => some (d :: ds, S)
  | none => none
def kall1 (ps : List PV) : Option (D × Sq) → Option (List D × Sq)
  | some (d, S) => kall2 d (keepAll S ps)
  | none => none
@[simp] theorem kall_nil (S : Sq) : keepAll S [] = some ([], S) := rfl
@[simp] theorem kall_cons (S : Sq) (p : PV) (ps : List PV) : keepAll S (p :: ps) = kall1 ps (S.keep p) := by
  unfold keepAll kall1
  cases S.keep p with
  | none => rfl
  | some t =>
    obtain ⟨d, S1⟩ := t
    show (match keepAll S1 ps with
      | some (ds, S2) => some (d :: ds, S2)
      | none => none) = kall2 d (keepAll S1 ps)
    cases keepAll S1 ps <;> rfl
@[simp] theorem kall1_some (ps : List PV) (d : D) (S : Sq) : kall1 ps (some (d, S)) = kall2 d (keepAll S ps) := rfl
@[simp] theorem kall2_some (d : D) (ds : List D) (S : Sq) : kall2 d (some (ds, S)) = some (d :: ds, S) := rfl
def dis2 (mk : List D → PV) : Option (List D × Sq) → Out PV
  | some (ds, S) => if ds.length ≤ sizeLine then .ok (mk ds) S else .no
  | none => .no
def dis1 (mk : List D → PV) : Out (List PV) → Out PV
  | .ok ps S => dis2 mk (keepAll S ps)
  | .ex c S => .ex c S
  | .no => .no
@[simp] theorem ev_tup (fs : Sq → Out (List PV)) (S : Sq) : fTup fs S = dis1 (fun ds => .v (.tuple ds)) (fs S) := by
  unfold fTup
  cases fs S with
  | no => rfl
  | ex c S1 => rfl
  | ok ps S1 =>
    show (match keepAll S1 ps with
      | some (ds, S2) => if ds.length ≤ sizeLine then Out.ok (.v (.tuple ds)) S2 else .no
      | none => .no) = dis2 _ (keepAll S1 ps)
    cases keepAll S1 ps <;> rfl
@[simp] theorem ev_lst (fs : Sq → Out (List PV)) (S : Sq) : fLst fs S = dis1 (fun ds => .o (.l ds)) (fs S) := by
  unfold fLst
  cases fs S with
  | no => rfl
  | ex c S1 => rfl
  | ok ps S1 =>
    show (match keepAll S1 ps with
      | some (ds, S2) => if ds.length ≤ sizeLine then Out.ok (.o (.l ds)) S2 else .no
      | none => .no) = dis2 _ (keepAll S1 ps)
    cases keepAll S1 ps <;> rfl
@[simp] theorem dis1_ok (mk : List D → PV) (ps : List PV) (S : Sq) : dis1 mk (.ok ps S) = dis2 mk (keepAll S ps) := rfl
@[simp] theorem dis2_ok (mk : List D → PV) (ds : List D) (S : Sq) : dis2 mk (some (ds, S)) = if ds.length ≤ sizeLine then .ok (mk ds) S else .no := rfl
/-! calls -/
def argR (S : Sq) (i : Nat) : Option R → Option (R × Sq)
  | some (.d x) => some (.d x, S)
  | some (.l xs) => some (.d (.list xs), { S with r := S.r.set i (.d (.list xs)) })
  | some .pen => some (.pen, S)
  | some (.sc ns) => some (.sc ns, S)
  | _ => none
@[simp] theorem arg_s (S : Sq) (i : Nat) : S.argK (.s i) = argR S i S.r[i]? := by
  unfold Sq.argK argR
  first | rfl | (dsimp only; split <;> rename_i h <;> simp_all)
@[simp] theorem argR_d (S : Sq) (i : Nat) (x : D) : argR S i (some (.d x)) = some (.d x, S) := rfl
@[simp] theorem argR_l (S : Sq) (i : Nat) (xs : List D) : argR S i (some (.l xs)) = some (.d (.list xs), { S with r := S.r.set i (.d (.list xs)) }) := rfl
@[simp] theorem argR_pen (S : Sq) (i : Nat) : argR S i (some .pen) = some (.pen, S) := rfl
@[simp] theorem arg_v (S : Sq) (x : D) : S.argK (.v x) = some (.d x, S) := rfl
def aall2 (d : R) : Option (List R × Sq) → Option (List R × Sq)
  | some (ds, S) => some (d :: ds, S)
  | none => none
def aall1 (ps : List PV) : Option (R × Sq) → Option (List R × Sq)
  | some (d, S) => aall2 d (argsK S ps)
  | none => none
@[simp] theorem aall_nil (S : Sq) : argsK S [] = some ([], S) := rfl
@[simp] theorem aall_cons (S : Sq) (p : PV) (ps : List PV) : argsK S (p :: ps) = aall1 ps (S.argK p) := by
  unfold argsK aall1
  cases S.argK p with
  | none => rfl
  | some t =>
    obtain ⟨d, S1⟩ := t
    show (match argsK S1 ps with
      | some (ds, S2) => some (d :: ds, S2)
      | none => none) = aall2 d (argsK S1 ps)
    cases argsK S1 ps <;> rfl
@[simp] theorem aall1_some (ps : List PV) (d : R) (S : Sq) : aall1 ps (some (d, S)) = aall2 d (argsK S ps) := rfl
@[simp] theorem aall2_some (d : R) (ds : List R) (S : Sq) : aall2 d (some (ds, S)) = some (d :: ds, S) := rfl
def call3 (S2 : Sq) : Out R → Out PV
  | .ok r S3 => bin4 { S2 with p := S3.p } (toPV r)
  | .ex c S3 => .ex c { S2 with p := S3.p }
  | .no => .no
def call2 (f : Fd) : Option (List R × Sq) → Out PV
  | some (rs, S2) => call3 S2 (f rs S2.p)
  | none => .no
def call1 (f : Fd) : Out (List PV) → Out PV
  | .ok ps S1 => call2 f (argsK S1 ps)
  | .ex c S => .ex c S
  | .no => .no
@[simp] theorem ev_call (f : Fd) (fs : Sq → Out (List PV)) (S : Sq) : callF f fs S = call1 f (fs S) := by
  unfold callF
  cases fs S with
  | no => rfl
  | ex c S1 => rfl
  | ok ps S1 =>
    show _ = call2 f (argsK S1 ps)
    simp only [Out.bind_ok]
    cases argsK S1 ps with
    | none => rfl
    | some t =>
      obtain ⟨rs, S2⟩ := t
      show _ = call3 S2 (f rs S2.p)
      dsimp only
      cases f rs S2.p with
      | no => rfl
      | ex c S3 => rfl
      | ok r S3 =>
        show _ = bin4 { S2 with p := S3.p } (toPV r)
        dsimp only
        cases toPV r <;> rfl
@[simp] theorem call1_ok (f : Fd) (ps : List PV) (S : Sq) : call1 f (.ok ps S) = call2 f (argsK S ps) := rfl
@[simp] theorem call2_ok (f : Fd) (rs : List R) (S : Sq) : call2 f (some (rs, S)) = call3 S (f rs S.p) := rfl
@[simp] theorem call3_ok (S2 S3 : Sq) (r : R) : call3 S2 (.ok r S3) = bin4 { S2 with p := S3.p } (toPV r) := rfl
@[simp] theorem call3_ex (S2 S3 : Sq) (c : Str) : call3 S2 (.ex c S3) = .ex c { S2 with p := S3.p } := rfl
@[simp] theorem toPV_d (x : D) : toPV (.d x) = some (.v x) := rfl
@[simp] theorem toPV_l (xs : List D) : toPV (.l xs) = some (.o (.l xs)) := rfl
/-! statements -/
def seq1 (g2 : Sq → Fl) : Fl → Fl
  | .nx S => g2 S
  | z => z
@[simp] theorem ev_seq (g1 g2 : Sq → Fl) (S : Sq) : seqF g1 g2 S = seq1 g2 (g1 S) := by
  unfold seqF seq1
  cases g1 S <;> rfl
@[simp] theorem seq1_nx (g2 : Sq → Fl) (S : Sq) : seq1 g2 (.nx S) = g2 S := rfl
@[simp] theorem seq1_rt (g2 : Sq → Fl) (r : R) (S : Sq) : seq1 g2 (.rt r S) = .rt r S := rfl
@[simp] theorem seq1_ex (g2 : Sq → Fl) (c : Str) (S : Sq) : seq1 g2 (.ex c S) = .ex c S := rfl
@[simp] theorem seq1_bk (g2 : Sq → Fl) (S : Sq) : seq1 g2 (.bk S) = .bk S := rfl
@[simp] theorem seq1_ct (g2 : Sq → Fl) (S : Sq) : seq1 g2 (.ct S) = .ct S := rfl
@[simp] theorem ev_nx (S : Sq) : nxF S = .nx S := rfl
@[simp] theorem ev_raise (x : Str) (S : Sq) : raiseF x S = .ex x S := rfl
def if1 (g1 g2 : Sq → Fl) : Out Bool → Fl
  | .ok b S => if b = true then g1 S else g2 S
  | .ex c S => .ex c S
  | .no => .no
@[simp] theorem ev_if (t : Sq → Out Bool) (g1 g2 : Sq → Fl) (S : Sq) : ifF t g1 g2 S = if1 g1 g2 (t S) := by
  unfold ifF if1
  cases t S <;> rfl
@[simp] theorem if1_ok (g1 g2 : Sq → Fl) (b : Bool) (S : Sq) : if1 g1 g2 (.ok b S) = if b = true then g1 S else g2 S := rfl
@[simp] theorem if1_ex (g1 g2 : Sq → Fl) (c : Str) (S : Sq) : if1 g1 g2 (.ex c S) = .ex c S := rfl
def resR (S : Sq) (i : Nat) : Option R → Option (R × Sq)
  | some (.d x) => some (.d x, S)
  | some (.l xs) => some (.d (.list xs), { S with r := S.r.set i (.d (.list xs)) })
  | some .pen => some (.pen, S)
  | _ => none
@[simp] theorem res_s (S : Sq) (i : Nat) : S.res (.s i) = resR S i S.r[i]? := by
  unfold Sq.res resR
  first | rfl | (dsimp only; split <;> rename_i h <;> simp_all)
@[simp] theorem resR_d (S : Sq) (i : Nat) (x : D) : resR S i (some (.d x)) = some (.d x, S) := rfl
@[simp] theorem resR_l (S : Sq) (i : Nat) (xs : List D) : resR S i (some (.l xs)) = some (.d (.list xs), { S with r := S.r.set i (.d (.list xs)) }) := rfl
@[simp] theorem res_v (S : Sq) (x : D) : S.res (.v x) = some (.d x, S) := rfl
@[simp] theorem res_o (S : Sq) (xs : List D) : S.res (.o (.l xs)) = some (.l xs, S) := rfl
def set2 (i : Nat) : Option (R × Sq) → Fl
  | some (c, S) => if i < S.r.length then .nx { S with r := S.r.set i c } else .no
  | none => .no
def set1 (i : Nat) : Out PV → Fl
  | .ok p S => set2 i (S.res p)
  | .ex c S => .ex c S
  | .no => .no
@[simp] theorem ev_set (i : Nat) (fa : Sq → Out PV) (S : Sq) : setF i fa S = set1 i (fa S) := by
  unfold setF
  cases fa S with
  | no => rfl
  | ex c S1 => rfl
  | ok p S1 =>
    show _ = set2 i (S1.res p)
    simp only [Out.fl_ok]
    cases S1.res p <;> rfl
@[simp] theorem set1_ok (i : Nat) (p : PV) (S : Sq) : set1 i (.ok p S) = set2 i (S.res p) := rfl
@[simp] theorem set1_ex (i : Nat) (c : Str) (S : Sq) : set1 i (.ex c S) = .ex c S := rfl
@[simp] theorem set2_ok (i : Nat) (c : R) (S : Sq) : set2 i (some (c, S)) = if i < S.r.length then .nx { S with r := S.r.set i c } else .no := rfl
def retR : Option R → Option R
  | some (.d x) => some (.d x)
  | some (.l xs) => some (.l xs)
  | _ => none
@[simp] theorem ret_s (S : Sq) (i : Nat) : S.ret (.s i) = retR S.r[i]? := by
  unfold Sq.ret retR
  first | rfl | (dsimp only; split <;> rename_i h <;> simp_all)
@[simp] theorem retR_d (x : D) : retR (some (.d x)) = some (.d x) := rfl
@[simp] theorem retR_l (xs : List D) : retR (some (.l xs)) = some (.l xs) := rfl
@[simp] theorem ret_v (S : Sq) (x : D) : S.ret (.v x) = some (.d x) := rfl
@[simp] theorem ret_o (S : Sq) (xs : List D) : S.ret (.o (.l xs)) = some (.l xs) := rfl
def ret2 (S : Sq) : Option R → Fl
  | some r => .rt r S
  | none => .no
def ret1 : Out PV → Fl
  | .ok p S => ret2 S (S.ret p)
  | .ex c S => .ex c S
  | .no => .no
@[simp] theorem ev_ret (fa : Sq → Out PV) (S : Sq) : retF fa S = ret1 (fa S) := by
  unfold retF
  cases fa S with
  | no => rfl
  | ex c S1 => rfl
  | ok p S1 =>
    show _ = ret2 S1 (S1.ret p)
    simp only [Out.fl_ok]
    cases S1.ret p <;> rfl
@[simp] theorem ret1_ok (p : PV) (S : Sq) : ret1 (.ok p S) = ret2 S (S.ret p) := rfl
@[simp] theorem ret1_ex (c : Str) (S : Sq) : ret1 (.ex c S) = .ex c S := rfl
@[simp] theorem ret2_ok (r : R) (S : Sq) : ret2 S (some r) = .rt r S := rfl
def penS2 (S : Sq) (j : Int) : Option R → Option Pen → Option D → Fl
  | some .pen, some P, some (.int n) => if j = 1 then .nx { S with p := some { P with at_ := n } } else if j = 2 then .nx { S with p := some { P with rest := n } } else .no
  | _, _, _ => .no
def penS1 (i : Nat) (j : Int) : Out PV → Fl
  | .ok p S => penS2 S j S.r[i]? S.p (S.val (fz p))
  | .ex c S => .ex c S
  | .no => .no
@[simp] theorem ev_penS (i : Nat) (j : Int) (fa : Sq → Out PV) (S : Sq) : penF i j fa S = penS1 i j (fa S) := by
  unfold penF fzF
  cases fa S with
  | no => rfl
  | ex c S1 => rfl
  | ok p S1 =>
    show _ = penS2 S1 j S1.r[i]? S1.p (S1.val (fz p))
    simp only [Out.bind_ok, Out.fl_ok]
    unfold penS2
    split <;> rename_i h <;> simp_all
@[simp] theorem penS1_ok (i : Nat) (j : Int) (p : PV) (S : Sq) : penS1 i j (.ok p S) = penS2 S j S.r[i]? S.p (S.val (fz p)) := rfl
@[simp] theorem penS2_1 (S : Sq) (P : Pen) (n : Int) : penS2 S 1 (some .pen) (some P) (some (.int n)) = .nx { S with p := some { P with at_ := n } } := rfl
@[simp] theorem penS2_2 (S : Sq) (P : Pen) (n : Int) : penS2 S 2 (some .pen) (some P) (some (.int n)) = .nx { S with p := some { P with rest := n } } := rfl
def run1 : Fl → Out R
  | .nx S => .ok (.d .none) S
  | .rt r S => .ok r S
  | .ex c S => .ex c S
  | _ => .no
@[simp] theorem ev_run (n : Nat) (g : Sq → Fl) (rs : List R) (p : Option Pen) : runB n g rs p = run1 (g ⟨rs ++ List.replicate (n - rs.length) .un, p⟩) := by
  unfold runB run1
  cases g ⟨rs ++ List.replicate (n - rs.length) .un, p⟩ <;> rfl
@[simp] theorem run1_nx (S : Sq) : run1 (.nx S) = .ok (.d .none) S := rfl
@[simp] theorem run1_rt (r : R) (S : Sq) : run1 (.rt r S) = .ok r S := rfl
@[simp] theorem run1_ex (c : Str) (S : Sq) : run1 (.ex c S) = .ex c S := rfl
/-! slots -/
@[simp] theorem rep_succ (n : Nat) : List.replicate (n + 1) R.un = .un :: List.replicate n .un := rfl
end Q3
/-! Q3w: loops and the rest, evaluated step by step. -/
namespace Q3
open PySem PySem.Spec PyProof.Rows L2
/-! a, b = x, y -/
def par4 (i j : Nat) (c : R) : Option (R × Sq) → Fl
  | some (c', S) => if i < S.r.length ∧ j < S.r.length then .nx { S with r := (S.r.set i c).set j c' } else .no
  | none => .no
def par3 (i j : Nat) (q : PV) : Option (R × Sq) → Fl
  | some (c, S) => par4 i j c (S.res q)
  | none => .no
def par2 (i j : Nat) (p : PV) : Out PV → Fl
  | .ok q S => par3 i j q (S.res p)
  | .ex c S => .ex c S
  | .no => .no
def par1 (i j : Nat) (fb : Sq → Out PV) : Out PV → Fl
  | .ok p S => par2 i j p (fb S)
  | .ex c S => .ex c S
  | .no => .no
@[simp] theorem ev_par (i j : Nat) (fa fb : Sq → Out PV) (S : Sq) : parF i j fa fb S = par1 i j fb (fa S) := by
  unfold parF
  cases fa S with
  | no => rfl
  | ex c S1 => rfl
  | ok p S1 =>
    show (fb S1).fl _ = par2 i j p (fb S1)
    cases fb S1 with
    | no => rfl
    | ex c S2 => rfl
    | ok q S2 =>
      show _ = par3 i j q (S2.res p)
      simp only [Out.fl_ok]
      cases S2.res p with
      | none => rfl
      | some t =>
        obtain ⟨c, S3⟩ := t
        show _ = par4 i j c (S3.res q)
        dsimp only
        cases S3.res q <;> rfl
@[simp] theorem par1_ok (i j : Nat) (fb : Sq → Out PV) (p : PV) (S : Sq) : par1 i j fb (.ok p S) = par2 i j p (fb S) := rfl
@[simp] theorem par2_ok (i j : Nat) (p q : PV) (S : Sq) : par2 i j p (.ok q S) = par3 i j q (S.res p) := rfl
@[simp] theorem par3_ok (i j : Nat) (q : PV) (c : R) (S : Sq) : par3 i j q (some (c, S)) = par4 i j c (S.res q) := rfl
@[simp] theorem par4_ok (i j : Nat) (c c' : R) (S : Sq) : par4 i j c (some (c', S)) = if i < S.r.length ∧ j < S.r.length then .nx { S with r := (S.r.set i c).set j c' } else .no := rfl
/-! xs.append(e) -/
def app3 (i : Nat) (d : D) (S : Sq) : Option R → Fl
  | some (.l xs) => if xs.length < sizeLine then .nx { S with r := S.r.set i (.l (xs ++ [d])) } else .no
  | _ => .no
def app2 (i : Nat) : Option (D × Sq) → Fl
  | some (d, S) => app3 i d S S.r[i]?
  | none => .no
def app1 (i : Nat) : Out PV → Fl
  | .ok p S => app2 i (S.keep (fz p))
  | .ex c S => .ex c S
  | .no => .no
@[simp] theorem ev_app (i : Nat) (fa : Sq → Out PV) (S : Sq) : appF i fa S = if isL S i = true then app1 i (fa S) else .no := by
  unfold appF fzF
  split
  · cases fa S with
    | no => rfl
    | ex c S1 => rfl
    | ok p S1 =>
      show _ = app2 i (S1.keep (fz p))
      simp only [Out.bind_ok, Out.fl_ok]
      cases S1.keep (fz p) with
      | none => rfl
      | some t =>
        obtain ⟨d, S2⟩ := t
        show _ = app3 i d S2 S2.r[i]?
        dsimp only
        unfold app3
        split <;> rename_i h <;> simp_all
  · rfl
@[simp] theorem app1_ok (i : Nat) (p : PV) (S : Sq) : app1 i (.ok p S) = app2 i (S.keep (fz p)) := rfl
@[simp] theorem app2_ok (i : Nat) (d : D) (S : Sq) : app2 i (some (d, S)) = app3 i d S S.r[i]? := rfl
@[simp] theorem app3_ok (i : Nat) (d : D) (S : Sq) (xs : List D) : app3 i d S (some (.l xs)) = if xs.length < sizeLine then .nx { S with r := S.r.set i (.l (xs ++ [d])) } else .no := rfl
/-! what is walked -/
def it2 : Option (D × Sq) → Out (List D)
  | some (d, S) => it3 S (itemsOf d)
  | none => .no
where it3 (S : Sq) : Option (List D) → Out (List D)
  | some xs => .ok xs S
  | none => .no
def it1 : Out PV → Out (List D)
  | .ok p S => it2 (S.keep (fz p))
  | .ex c S => .ex c S
  | .no => .no
@[simp] theorem ev_it (fa : Sq → Out PV) (S : Sq) : itF fa S = it1 (fa S) := by
  unfold itF fzF
  cases fa S with
  | no => rfl
  | ex c S1 => rfl
  | ok p S1 =>
    show _ = it2 (S1.keep (fz p))
    simp only [Out.bind_ok]
    cases S1.keep (fz p) with
    | none => rfl
    | some t =>
      obtain ⟨d, S2⟩ := t
      show _ = it2.it3 S2 (itemsOf d)
      dsimp only
      cases itemsOf d <;> rfl
@[simp] theorem it1_ok (p : PV) (S : Sq) : it1 (.ok p S) = it2 (S.keep (fz p)) := rfl
@[simp] theorem it2_ok (d : D) (S : Sq) : it2 (some (d, S)) = it2.it3 S (itemsOf d) := rfl
@[simp] theorem it3_ok (xs : List D) (S : Sq) : it2.it3 S (some xs) = .ok xs S := rfl
@[simp] theorem items_l (xs : List D) : itemsOf (.list xs) = some xs := rfl
@[simp] theorem items_t (xs : List D) : itemsOf (.tuple xs) = some xs := rfl
@[simp] theorem items_s (z : Str) : itemsOf (.str z) = some (signs z) := rfl
def Rng62 (j : Int) : Prop := -(2 ^ 62) ≤ j ∧ j < 2 ^ 62
instance {j : Int} : Decidable (Rng62 j) := by unfold Rng62; infer_instance
theorem rng62 {j : Int} (h0 : 0 ≤ j) (h1 : j < 1000000) : Rng62 j := ⟨by omega, by omega⟩
def rng2 (S : Sq) : Option D → Out (List D)
  | some (.int j) => if Rng62 j then .ok (rngD 0 j.toNat) S else .no
  | _ => .no
def rng1 : Out PV → Out (List D)
  | .ok p S => rng2 S (S.val (fz p))
  | .ex c S => .ex c S
  | .no => .no
@[simp] theorem ev_rng1 (fa : Sq → Out PV) (S : Sq) : rng1F fa S = rng1 (fa S) := by
  unfold rng1F fzF
  cases fa S with
  | no => rfl
  | ex c S1 => rfl
  | ok p S1 =>
    show _ = rng2 S1 (S1.val (fz p))
    simp only [Out.bind_ok]
    cases S1.val (fz p) with
    | none => rfl
    | some d =>
      cases d with
      | int j => rfl
      | _ => rfl
@[simp] theorem rng1_ok (p : PV) (S : Sq) : rng1 (.ok p S) = rng2 S (S.val (fz p)) := rfl
@[simp] theorem rng2_ok (S : Sq) (j : Int) : rng2 S (some (.int j)) = if Rng62 j then .ok (rngD 0 j.toNat) S else .no := rfl
def en2 : Option (D × Sq) → Out (List D)
  | some (.list xs, S2) => .ok (enumD 0 xs) S2
  | some (.tuple xs, S2) => .ok (enumD 0 xs) S2
  | _ => .no
def en1 : Out PV → Out (List D)
  | .ok p S => en2 (S.keep (fz p))
  | .ex c S => .ex c S
  | .no => .no
@[simp] theorem ev_enum (fa : Sq → Out PV) (S : Sq) : enumA fa S = en1 (fa S) := by
  unfold enumA fzF
  cases fa S with
  | no => rfl
  | ex c S1 => rfl
  | ok p S1 =>
    show _ = en2 (S1.keep (fz p))
    simp only [Out.bind_ok]
    unfold en2
    split <;> rename_i h <;> simp_all
@[simp] theorem en1_ok (p : PV) (S : Sq) : en1 (.ok p S) = en2 (S.keep (fz p)) := rfl
@[simp] theorem en2_l (xs : List D) (S : Sq) : en2 (some (.list xs, S)) = .ok (enumD 0 xs) S := rfl
@[simp] theorem en2_t (xs : List D) (S : Sq) : en2 (some (.tuple xs, S)) = .ok (enumD 0 xs) S := rfl
def for1 (t : Tg) (g : Sq → Fl) : Out (List D) → Fl
  | .ok ds S => forF t g ds S
  | .ex c S => .ex c S
  | .no => .no
@[simp] theorem ev_for (t : Tg) (fi : Sq → Out (List D)) (g : Sq → Fl) (S : Sq) : forS t fi g S = for1 t g (fi S) := by
  unfold forS
  cases fi S <;> rfl
@[simp] theorem for1_ok (t : Tg) (g : Sq → Fl) (ds : List D) (S : Sq) : for1 t g (.ok ds S) = forF t g ds S := rfl
/-- a loop that keeps P, each turn told -/
theorem forF_inv {t : Tg} {g : Sq → Fl} {P : Nat → Sq → Prop} : ∀ {ds : List D} {S : Sq} (k : Nat), P k S →
    (∀ (i : Nat) (d : D) (S : Sq), ds[i]? = some d → P (k + i) S → ∃ S1, t.put S d = some S1 ∧ ∃ S2, (g S1 = .nx S2 ∨ g S1 = .ct S2) ∧ P (k + i + 1) S2) → ∃ S', forF t g ds S = .nx S' ∧ P (k + ds.length) S'
  | [], S, k, h, _ => ⟨S, rfl, h⟩
  | d :: ds, S, k, h, f => by
    obtain ⟨S1, e1, S2, e2, h2⟩ := f 0 d S rfl h
    obtain ⟨S', e3, h3⟩ := forF_inv (t := t) (g := g) (P := P) (ds := ds) (S := S2) (k + 1) h2 fun i d S hd hp => by
      have q := f (i + 1) d S hd (by rw [show k + (i + 1) = k + 1 + i by omega]; exact hp)
      rw [show k + (i + 1) + 1 = k + 1 + i + 1 by omega] at q
      exact q
    refine ⟨S', ?_, by rw [List.length_cons, show k + (ds.length + 1) = k + 1 + ds.length by omega]; exact h3⟩
    unfold forF
    rw [e1]
    rcases e2 with e2 | e2
    · dsimp only; rw [e2]; exact e3
    · dsimp only; rw [e2]; exact e3
/-! comprehensions -/
def lc3 (r0 : List R) (vs : List Nat) : Out (List D) → Out PV
  | .ok out S => .ok (.o (.l out)) { S with r := backR r0 S.r vs }
  | .ex c S => .ex c S
  | .no => .no
def lc1 (t : Tg) (tt : Sq → Out Bool) (te : Sq → Out PV) (vs : List Nat) : Out (List D) → Out PV
  | .ok ds S => if plainAt S vs = true then lc3 S.r vs (lcF t tt te vs ds { S with r := wipeR S.r vs } []) else .no
  | .ex c S => .ex c S
  | .no => .no
@[simp] theorem ev_lc (t : Tg) (fi : Sq → Out (List D)) (tt : Sq → Out Bool) (te : Sq → Out PV) (vs : List Nat) (S : Sq) : lcS t fi tt te vs S = lc1 t tt te vs (fi S) := by
  unfold lcS
  cases fi S with
  | no => rfl
  | ex c S1 => rfl
  | ok ds S1 =>
    simp only [Out.bind_ok, lc1]
    split
    · cases lcF t tt te vs ds { S1 with r := wipeR S1.r vs } [] <;> rfl
    · rfl
@[simp] theorem lc1_ok (t : Tg) (tt : Sq → Out Bool) (te : Sq → Out PV) (vs : List Nat) (ds : List D) (S : Sq) : lc1 t tt te vs (.ok ds S) = if plainAt S vs = true then lc3 S.r vs (lcF t tt te vs ds { S with r := wipeR S.r vs } []) else .no := rfl
@[simp] theorem lc3_ok (r0 : List R) (vs : List Nat) (out : List D) (S : Sq) : lc3 r0 vs (.ok out S) = .ok (.o (.l out)) { S with r := backR r0 S.r vs } := rfl
/-- a comprehension that keeps P, each turn told: the test, the value -/
theorem lcF_inv {t : Tg} {tt : Sq → Out Bool} {te : Sq → Out PV} {vs : List Nat} {P : Nat → Sq → List D → Prop} : ∀ {ds : List D} {S : Sq} {acc : List D} (k : Nat), acc.length + ds.length ≤ sizeLine → P k S acc →
    (∀ (i : Nat) (d : D) (S : Sq) (acc : List D), ds[i]? = some d → P (k + i) S acc → ∃ S1, t.put { S with r := wipeR S.r vs } d = some S1 ∧ ∃ b S2, tt S1 = .ok b S2 ∧
      (b = false → P (k + i + 1) S2 acc) ∧ (b = true → ∃ p S3 y S4, te S2 = .ok p S3 ∧ S3.keep (fz p) = some (y, S4) ∧ P (k + i + 1) S4 (acc ++ [y]))) →
    ∃ S' out, lcF t tt te vs ds S acc = .ok out S' ∧ P (k + ds.length) S' out
  | [], S, acc, k, _, h, _ => ⟨S, acc, rfl, h⟩
  | d :: ds, S, acc, k, hz, h, f => by
    obtain ⟨S1, e1, b, S2, e2, hf, ht⟩ := f 0 d S acc rfl h
    have next : ∀ (i : Nat) (d : D) (S : Sq) (acc : List D), ds[i]? = some d → P (k + 1 + i) S acc → ∃ S1, t.put { S with r := wipeR S.r vs } d = some S1 ∧ ∃ b S2, tt S1 = .ok b S2 ∧
      (b = false → P (k + 1 + i + 1) S2 acc) ∧ (b = true → ∃ p S3 y S4, te S2 = .ok p S3 ∧ S3.keep (fz p) = some (y, S4) ∧ P (k + 1 + i + 1) S4 (acc ++ [y])) := fun i d S acc hd hp => by
      have q := f (i + 1) d S acc hd (by rw [show k + (i + 1) = k + 1 + i by omega]; exact hp)
      rw [show k + (i + 1) + 1 = k + 1 + i + 1 by omega] at q
      exact q
    have len : k + (d :: ds).length = k + 1 + ds.length := by simp; omega
    rw [len]
    simp only [List.length_cons] at hz
    unfold lcF
    rw [e1]
    dsimp only
    rw [e2]
    cases b with
    | false =>
      obtain ⟨S', out, e3, h3⟩ := lcF_inv (t := t) (tt := tt) (te := te) (vs := vs) (P := P) (ds := ds) (S := S2) (acc := acc) (k + 1) (by omega) (hf rfl) next
      exact ⟨S', out, e3, h3⟩
    | true =>
      obtain ⟨p, S3, y, S4, e4, e5, h4⟩ := ht rfl
      obtain ⟨S', out, e3, h3⟩ := lcF_inv (t := t) (tt := tt) (te := te) (vs := vs) (P := P) (ds := ds) (S := S4) (acc := acc ++ [y]) (k + 1) (by simp; omega) h4 next
      refine ⟨S', out, ?_, h3⟩
      simp only [Out.quiet, Out.bind_ok, if_true]
      unfold fzF
      rw [e4]
      simp only [Out.quiet, Out.bind_ok, e5]
      rw [if_pos (by omega)]
      exact e3
@[simp] theorem ev_yes (S : Sq) : yesF S = .ok true S := rfl
@[simp] theorem put_nm (S : Sq) (i : Nat) (d : D) : (Tg.nm i).put S d = if i < S.r.length then some { S with r := S.r.set i (.d d) } else none := rfl
@[simp] theorem put_tp (S : Sq) (is : List Nat) (ds : List D) : (Tg.tp is).put S (.tuple ds) = putAll S is ds := rfl
@[simp] theorem putAll_nil (S : Sq) : putAll S [] [] = some S := rfl
@[simp] theorem putAll_cons (S : Sq) (i : Nat) (is : List Nat) (d : D) (ds : List D) : putAll S (i :: is) (d :: ds) = if i < S.r.length then putAll { S with r := S.r.set i (.d d) } is ds else none := rfl
/-! None of a slot; chains; methods; slices -/
def sl1 (neg : Bool) (S : Sq) : Option R → Out PV
  | some (.d x) => .ok (.v (.bool (if neg then !isNone x else isNone x))) S
  | some (.e _) => .ok (.v (.bool neg)) S
  | _ => .no
@[simp] theorem ev_slN (i : Nat) (neg : Bool) (S : Sq) : fSlN i neg S = sl1 neg S S.r[i]? := by
  unfold fSlN sl1
  split <;> rename_i h <;> simp_all
@[simp] theorem sl1_d (neg : Bool) (S : Sq) (x : D) : sl1 neg S (some (.d x)) = .ok (.v (.bool (if neg then !isNone x else isNone x))) S := rfl
@[simp] theorem sl1_e (neg : Bool) (S : Sq) (c : Str) : sl1 neg S (some (.e c)) = .ok (.v (.bool neg)) S := rfl
@[simp] theorem isNone_none : isNone .none = true := rfl
@[simp] theorem isNone_int (i : Int) : isNone (.int i) = false := rfl
@[simp] theorem isNone_str (i : Str) : isNone (.str i) = false := rfl
@[simp] theorem isNone_bool (i : Bool) : isNone (.bool i) = false := rfl
@[simp] theorem isNone_list (i : List D) : isNone (.list i) = false := rfl
@[simp] theorem isNone_tuple (i : List D) : isNone (.tuple i) = false := rfl
def ch4 (q : Int → Int → Bool) (j : Int) (S : Sq) : Option D → Out PV
  | some (.int l) => .ok (.v (.bool (q j l))) S
  | _ => .no
def ch3 (q : Int → Int → Bool) (j : Int) : Out PV → Out PV
  | .ok z S => ch4 q j S (S.val (fz z))
  | .ex c S => .ex c S
  | .no => .no
def ch2 (p q : Int → Int → Bool) (fc : Sq → Out PV) (S : Sq) : Option D → Option D → Out PV
  | some (.int i), some (.int j) => if p i j = true then ch3 q j (fc S) else .ok (.v (.bool false)) S
  | _, _ => .no
def ch1 (p q : Int → Int → Bool) (fc : Sq → Out PV) (x : PV) : Out PV → Out PV
  | .ok y S => ch2 p q fc S (S.val x) (S.val (fz y))
  | .ex c S => .ex c S
  | .no => .no
def ch0 (p q : Int → Int → Bool) (fb fc : Sq → Out PV) : Out PV → Out PV
  | .ok x S => ch1 p q fc (fz x) (fb S)
  | .ex c S => .ex c S
  | .no => .no
@[simp] theorem ev_chain (p q : Int → Int → Bool) (fa fb fc : Sq → Out PV) (S : Sq) : fChain p q fa fb fc S = ch0 p q fb fc (fa S) := by
  unfold fChain fzF
  cases fa S with
  | no => rfl
  | ex c S1 => rfl
  | ok x S1 =>
    show _ = ch1 p q fc (fz x) (fb S1)
    simp only [Out.bind_ok]
    cases fb S1 with
    | no => rfl
    | ex c S2 => rfl
    | ok y S2 =>
      show _ = ch2 p q fc S2 (S2.val (fz x)) (S2.val (fz y))
      simp only [Out.bind_ok]
      cases S2.val (fz x) with
      | none => rfl
      | some dx =>
        cases S2.val (fz y) with
        | none => cases dx <;> rfl
        | some dy =>
          cases dx <;> cases dy <;> try rfl
          rename_i i j
          show (if p i j = true then _ else _) = (if p i j = true then _ else _)
          split
          · cases fc S2 with
            | no => rfl
            | ex c S3 => rfl
            | ok z S3 =>
              show _ = ch4 q j S3 (S3.val (fz z))
              simp only [Out.bind_ok]
              cases S3.val (fz z) with
              | none => rfl
              | some dz => cases dz <;> rfl
          · rfl
@[simp] theorem ch0_ok (p q : Int → Int → Bool) (fb fc : Sq → Out PV) (x : PV) (S : Sq) : ch0 p q fb fc (.ok x S) = ch1 p q fc (fz x) (fb S) := rfl
@[simp] theorem ch1_ok (p q : Int → Int → Bool) (fc : Sq → Out PV) (x y : PV) (S : Sq) : ch1 p q fc x (.ok y S) = ch2 p q fc S (S.val x) (S.val (fz y)) := rfl
@[simp] theorem ch2_ok (p q : Int → Int → Bool) (fc : Sq → Out PV) (S : Sq) (i j : Int) : ch2 p q fc S (some (.int i)) (some (.int j)) = if p i j = true then ch3 q j (fc S) else .ok (.v (.bool false)) S := rfl
@[simp] theorem ch3_ok (q : Int → Int → Bool) (j : Int) (z : PV) (S : Sq) : ch3 q j (.ok z S) = ch4 q j S (S.val (fz z)) := rfl
@[simp] theorem ch4_ok (q : Int → Int → Bool) (j l : Int) (S : Sq) : ch4 q j S (some (.int l)) = .ok (.v (.bool (q j l))) S := rfl
def m3 (g : D → D → Option PV) (p : PV) : Out PV → Out PV
  | .ok q S => bin3 g S (S.val p) (S.val (fz q))
  | .ex c S => .ex c S
  | .no => .no
def m1 (T : String) (g : D → D → Option PV) (fb : Sq → Out PV) : Out PV → Out PV
  | .ok p S => if tyOk T (S.val (fz p)) = true then m3 g (fz p) (fb S) else .no
  | .ex c S => .ex c S
  | .no => .no
@[simp] theorem ev_m1 (T : String) (g : D → D → Option PV) (fa fb : Sq → Out PV) (S : Sq) : fM1 T g fa fb S = m1 T g fb (fa S) := by
  unfold fM1 fzF
  cases fa S with
  | no => rfl
  | ex c S1 => rfl
  | ok p S1 =>
    simp only [Out.bind_ok, m1]
    split
    · cases fb S1 with
      | no => rfl
      | ex c S2 => rfl
      | ok q S2 =>
        show _ = bin3 g S2 (S2.val (fz p)) (S2.val (fz q))
        simp only [Out.bind_ok]
        cases S2.val (fz p) with
        | none => rfl
        | some x =>
          cases S2.val (fz q) with
          | none => rfl
          | some y =>
            show _ = bin4 S2 (g x y)
            dsimp only
            cases g x y <;> rfl
    · rfl
@[simp] theorem m1_ok (T : String) (g : D → D → Option PV) (fb : Sq → Out PV) (p : PV) (S : Sq) : m1 T g fb (.ok p S) = if tyOk T (S.val (fz p)) = true then m3 g (fz p) (fb S) else .no := rfl
@[simp] theorem m3_ok (g : D → D → Option PV) (p q : PV) (S : Sq) : m3 g p (.ok q S) = bin3 g S (S.val p) (S.val (fz q)) := rfl
@[simp] theorem tyOk_s (z : Str) : tyOk "str" (some (.str z)) = true := rfl
@[simp] theorem tyOk_l (z : List D) : tyOk "list" (some (.list z)) = true := rfl
end Q3
/-! Q3x: data whose shown text is short: repr of it. -/
namespace Q3
open PySem PySem.Spec PyProof.Rows L2
/-- shown data: no dict, depth, weight bounded, short ints -/
structure Rp (k w : Nat) (d : D) : Prop where
  sh : d.showable = true
  nd : d.hasDict = false
  dp : d.depth ≤ k
  lv : d.leavesShort 13 = true
  wt : d.weight ≤ w
theorem Rp.mono {k k2 w w2 : Nat} {d : D} (h : Rp k w d) (a : k ≤ k2) (b : w ≤ w2) : Rp k2 w2 d := ⟨h.sh, h.nd, Nat.le_trans h.dp a, h.lv, Nat.le_trans h.wt b⟩
theorem Rp.none : Rp 0 0 .none := ⟨rfl, rfl, Nat.le_refl _, rfl, Nat.le_refl _⟩
theorem Rp.bool (b : Bool) : Rp 0 0 (.bool b) := ⟨rfl, rfl, Nat.le_refl _, rfl, Nat.le_refl _⟩
theorem Rp.int {i : Int} (h : i.natAbs < 10 ^ 12) : Rp 0 40 (.int i) := by
  have hl : i = 0 ∨ i.natAbs.log2 < 40 := by
    by_cases z : i = 0
    · exact .inl z
    · refine .inr ?_
      rw [Nat.log2_lt (by omega)]
      exact Nat.lt_of_lt_of_le h (by decide)
  refine ⟨?_, rfl, Nat.le_refl _, ?_, ?_⟩
  · rw [PyData.showable]
    rcases hl with rfl | hl
    · decide
    · exact decide_eq_true (by omega)
  · rw [PyData.leavesShort]
    exact decide_eq_true (PyData.shown_int_le h)
  · rw [PyData.weight]
    rcases hl with rfl | hl
    · decide
    · split <;> omega
theorem Rp.nat {n : Nat} (h : n < 10 ^ 12) : Rp 0 40 (.int (n : Nat)) := Rp.int (by simpa using h)
theorem Rp.str {z : Str} (h : ∀ c ∈ z.cps.toList, c < 16 ^ 8) : Rp 0 z.cps.size (.str z) := by
  refine ⟨rfl, rfl, Nat.le_refl _, ?_, Nat.le_refl _⟩
  rw [PyData.leavesShort]
  exact List.all_eq_true.mpr fun c m => decide_eq_true (h c m)
structure RpAll (k w : Nat) (xs : List D) : Prop where
  sh : PyData.showableAll xs = true
  nd : PyData.hasDictAll xs = false
  dp : PyData.depthAll xs ≤ k
  lv : PyData.leavesShortAll 13 xs = true
  wt : PyData.weightAll xs ≤ w
theorem RpAll.nil : RpAll 0 0 [] := ⟨rfl, rfl, Nat.le_refl _, rfl, Nat.le_refl _⟩
theorem RpAll.cons {k w v : Nat} {x : D} {xs : List D} (h : Rp k w x) (t : RpAll k v xs) : RpAll k (w + 1 + v) (x :: xs) := by
  have h1 := h.dp
  have h2 := t.dp
  have h3 := h.wt
  have h4 := t.wt
  refine ⟨?_, ?_, ?_, ?_, ?_⟩
  · rw [PyData.showableAll, h.sh, t.sh]; rfl
  · rw [PyData.hasDictAll, h.nd, t.nd]; rfl
  · rw [PyData.depthAll]; omega
  · rw [PyData.leavesShortAll, h.lv, t.lv]; rfl
  · rw [PyData.weightAll]; omega
theorem RpAll.of {k w : Nat} : ∀ {xs : List D}, (∀ x ∈ xs, Rp k w x) → RpAll k ((w + 1) * xs.length) xs
  | [], _ => ⟨rfl, rfl, Nat.zero_le _, rfl, Nat.zero_le _⟩
  | x :: xs, h => by
    have t := RpAll.cons (h x List.mem_cons_self) (RpAll.of fun y m => h y (List.mem_cons_of_mem _ m))
    refine ⟨t.sh, t.nd, t.dp, t.lv, ?_⟩
    have := t.wt
    rw [List.length_cons, Nat.mul_add, Nat.mul_one]
    omega
theorem RpAll.mono {k k2 w w2 : Nat} {d : List D} (h : RpAll k w d) (a : k ≤ k2) (b : w ≤ w2) : RpAll k2 w2 d := ⟨h.sh, h.nd, Nat.le_trans h.dp a, h.lv, Nat.le_trans h.wt b⟩
theorem RpAll.tuple {k w : Nat} {xs : List D} (h : RpAll k w xs) : Rp (k + 1) w (.tuple xs) := ⟨by rw [PyData.showable]; exact h.sh, by rw [PyData.hasDict]; exact h.nd, by rw [PyData.depth]; exact Nat.succ_le_succ h.dp, by rw [PyData.leavesShort]; exact h.lv, by rw [PyData.weight]; exact h.wt⟩
theorem RpAll.list {k w : Nat} {xs : List D} (h : RpAll k w xs) : Rp (k + 1) w (.list xs) := ⟨by rw [PyData.showable]; exact h.sh, by rw [PyData.hasDict]; exact h.nd, by rw [PyData.depth]; exact Nat.succ_le_succ h.dp, by rw [PyData.leavesShort]; exact h.lv, by rw [PyData.weight]; exact h.wt⟩
theorem Rp.repr {k w : Nat} {d : D} (h : Rp k w d) (hk : k ≤ 64) (hw : w ≤ 2 ^ 20) : gRepr d = some (.v (.str d.shown)) := by
  have h3 := h.dp
  unfold gRepr
  rw [if_pos ⟨h.sh, h.nd, by omega, PyData.shown_fits (by decide) (by decide) h.lv (Nat.le_trans h.wt hw)⟩]
@[simp] theorem eq_s (a b : Str) : gEq (.str a) (.str b) = some (.v (.bool (decide (a = b)))) := rfl
@[simp] theorem ne_s (a b : Str) : gNe (.str a) (.str b) = some (.v (.bool (!decide (a = b)))) := rfl
theorem ne_self {d : D} (h : SeqAt.shaped d = true) : gNe d d = some (.v (.bool false)) := by
  have e := SeqAt.eqv_refl _ (SeqAt.canLay_of_shaped h)
  cases d <;> first | (simp; done) | (unfold gNe; dsimp only; rw [h, e]; rfl)
theorem eq_self {d : D} (h : SeqAt.shaped d = true) : gEq d d = some (.v (.bool true)) := by
  have e := SeqAt.eqv_refl _ (SeqAt.canLay_of_shaped h)
  cases d <;> first | (simp; done) | (unfold gEq; dsimp only; rw [h, e]; rfl)
end Q3
/-! Q4a: what is not followed; least and greatest; isinstance with several types; an empty dict. -/
namespace Q3
open PySem PySem.Spec PyProof.Rows L2
variable [TabSet]
section
variable {X : Cx} {W : WX} {a b c e : Expr} {fa fb fc : Sq → Out PV} {pos : Pos} {N : List Str} {sc : Scope} {k : Nat} {G : Gb}
/-- an expression that is not followed -/
def fNo : Sq → Out PV := fun _ => .no
theorem de_no : DE X W e fNo := ⟨fun pins s σ H Q I z => by
  obtain ⟨F0, H0, pa, F, S, A, z⟩ := z
  exact z.elim⟩
/-! ### least and greatest of a list of ints -/
def leastI : List Int → Int
  | [] => 0
  | [i] => i
  | i :: r => min i (leastI r)
def mostI : List Int → Int
  | [] => 0
  | [i] => i
  | i :: r => max i (mostI r)
theorem leastI_mem : ∀ {ns : List Int}, ns ≠ [] → leastI ns ∈ ns
  | [i], _ => List.mem_singleton.mpr rfl
  | i :: j :: r, _ => by
    have h := leastI_mem (ns := j :: r) (by simp)
    show min i (leastI (j :: r)) ∈ _
    by_cases q : i ≤ leastI (j :: r)
    · rw [Int.min_eq_left q]; exact List.mem_cons_self
    · rw [Int.min_eq_right (by omega)]; exact List.mem_cons_of_mem _ h
theorem leastI_le : ∀ {ns : List Int} {j : Int}, j ∈ ns → leastI ns ≤ j
  | [i], j, h => by rw [List.mem_singleton.mp h]; exact Int.le_refl _
  | i :: i2 :: r, j, h => by
    show min i (leastI (i2 :: r)) ≤ j
    rcases List.mem_cons.mp h with rfl | h
    · exact Int.min_le_left _ _
    · exact Int.le_trans (Int.min_le_right _ _) (leastI_le h)
theorem mostI_mem : ∀ {ns : List Int}, ns ≠ [] → mostI ns ∈ ns
  | [i], _ => List.mem_singleton.mpr rfl
  | i :: j :: r, _ => by
    have h := mostI_mem (ns := j :: r) (by simp)
    show max i (mostI (j :: r)) ∈ _
    by_cases q : i ≤ mostI (j :: r)
    · rw [Int.max_eq_right q]; exact List.mem_cons_of_mem _ h
    · rw [Int.max_eq_left (by omega)]; exact List.mem_cons_self
theorem le_mostI : ∀ {ns : List Int} {j : Int}, j ∈ ns → j ≤ mostI ns
  | [i], j, h => by rw [List.mem_singleton.mp h]; exact Int.le_refl _
  | i :: i2 :: r, j, h => by
    show j ≤ max i (mostI (i2 :: r))
    rcases List.mem_cons.mp h with rfl | h
    · exact Int.le_max_left _ _
    · exact Int.le_trans (le_mostI h) (Int.le_max_right _ _)
def gLeast : D → Option PV
  | .list xs => (intsOf xs).bind fun ns => if ns = [] then none else some (.v (.int (leastI ns)))
  | _ => none
def gMost : D → Option PV
  | .list xs => (intsOf xs).bind fun ns => if ns = [] then none else some (.v (.int (mostI ns)))
  | _ => none
theorem does_least {K : PySem.W.Frag} : Does1 K (rMin K) gLeast := by
  intro F H x d z Q sub hx hg h
  cases d <;> simp only [gLeast] at hg <;> try (cases hg; done)
  obtain ⟨ns, e1, e2⟩ := Option.bind_eq_some_iff.mp hg
  split at e2
  · cases e2
  · rename_i hne
    cases e2
    obtain ⟨l, vs, rfl, h1, h2⟩ := hx.list sub
    rw [intsOf_eq e1] at h2
    refine ⟨l, ns, rfl, SqL.of (by rw [h1, h2.ints]), List.length_pos_iff.mpr hne, fun m hm hle => ?_⟩
    have : m = leastI ns := Int.le_antisymm (hle _ (leastI_mem hne)) (leastI_le hm)
    rw [this]
    exact h _ _ (Gv.int _)
theorem does_most {K : PySem.W.Frag} : Does1 K (rMax K) gMost := by
  intro F H x d z Q sub hx hg h
  cases d <;> simp only [gMost] at hg <;> try (cases hg; done)
  obtain ⟨ns, e1, e2⟩ := Option.bind_eq_some_iff.mp hg
  split at e2
  · cases e2
  · rename_i hne
    cases e2
    obtain ⟨l, vs, rfl, h1, h2⟩ := hx.list sub
    rw [intsOf_eq e1] at h2
    refine ⟨l, ns, rfl, SqL.of (by rw [h1, h2.ints]), List.length_pos_iff.mpr hne, fun m hm hle => ?_⟩
    have : m = mostI ns := Int.le_antisymm (le_mostI hm) (hle _ (mostI_mem hne))
    rw [this]
    exact h _ _ (Gv.int _)
/-! ### {} -/
theorem de_dnew0 : DE X W (.Dict [] [] pos) (fC (.dict [])) := by
  refine PE.weak pe_dnewK fun σ H Q z => ?_
  obtain ⟨F0, H0, pa, F, S, A, z⟩ := z
  intro p hp
  exact z _ _ _ (Ex.new (A.sub.none hp)) (A.newF hp (fun _ z => nomatch z)) (.dct0 upd_same)
/-! ### isinstance(e, (T, ..)) -/
def tAll (vs : List V) : TA := fun _ H Q => Q vs H
inductive TyNames (X : Cx) : List Expr → List Ty → Prop
  | nil : TyNames X [] []
  | cons {e : Expr} {es : List Expr} {t : Ty} {ts : List Ty} : PE X e (tC (.ty t.nm)) → starEach (e :: es) X.env = (false, eval e X.env) :: starEach es X.env → TyNames X es ts → TyNames X (e :: es) (t :: ts)
theorem tn_cons (t : Ty) {p : Pos} {x : Str} {es : List Expr} {ts : List Ty} (C : Cq G k N sc X) (hx : sc.names.lookup x = some .globalImplicit) (mx : G.mg x = none) (r : TyNames X es ts) (hy : x = Str.ofString t.nm := by rfl)
    (hs : starEach (.Name x p :: es) X.env = (false, eval (.Name x p) X.env) :: starEach es X.env := by rfl) : TyNames X (.Name x p :: es) (t :: ts) := by
  subst hy
  refine .cons ?_ hs r
  cases t <;> exact pe_tyN (glC C hx) (mgC C mx) (by decide +kernel) (by decide) (by decide)
theorem TyNames.pa {es : List Expr} {ts : List Ty} (h : TyNames X es ts) : PA X es (tAll (ts.map fun t => .ty t.nm)) := by
  induction h with
  | nil => exact pa_nil
  | cons h1 h2 _ ih => exact PA.weak (pa_cons h1 ih h2) fun _ _ _ z => z
def gIsiT (ts : List Ty) (d : D) : Option PV := some (.v (.bool (ts.any fun t => isTy t d)))
theorem kit_tys {K : PySem.W.Frag} (d : D) : ∀ ts : List Ty, PySem.W.kitAny K (.type (tyName d)) (ts.map fun t => .type t.nm) = some (ts.any fun t => isTy t d)
  | [] => kitAny_nil
  | t :: ts => by
    rw [List.map_cons, List.any_cons]
    refine kitAny_cons (b := isTy t d) (kit_ty (kitTy t d)) (fun q => ?_) fun q => by rw [q]; rfl
    rw [q, Bool.false_or]
    exact kit_tys d ts
theorem tys_len (ts : List Ty) (h : ts.length ≤ 16) : (ts.map fun t => V.ty t.nm).length ≤ sizeLine := by
  rw [List.length_map, sizeLine_eq]; omega
theorem cls_all : ∀ ts : List Ty, Paired ClsV (ts.map fun t => V.ty t.nm) (ts.map fun t => Value.type t.nm)
  | [] => .nil
  | t :: ts => .cons (.ty _) (cls_all ts)
theorem de_isiT (ts : List Ty) {p tp : Pos} {es : List Expr} {kk} (C : Cq G k N sc X) (hi : sc.names.lookup ("isinstance" : Str) = some .globalImplicit) (mi : G.mg "isinstance" = none) (ha : DE X W a fa) (h : TyNames X es ts) (hts : ts.length ≤ 16 := by decide)
    (hst : starEach [a, .Tuple es kk tp] X.env = (false, eval a X.env) :: starEach [.Tuple es kk tp] X.env := by rfl) (hst2 : starEach [.Tuple es kk tp] X.env = (false, eval (.Tuple es kk tp) X.env) :: starEach [] X.env := by rfl) (hpl : (backTo pos (starEach [.Tuple es kk tp] X.env)).any (·.1) = false := by rfl) :
    DE X W (.Call (.Name "isinstance" p) [a, .Tuple es kk tp] [] pos) (f1 (gIsiT ts) fa) := by
  refine PE.weak (pe_callB call_isiT (glC C hi) (mgC C mi) (by decide +kernel) (pa_cons (de_fz ha) (pa_cons (pe_tup h.pa) pa_nil hst2) hst) (by decide) (by decide) hst hpl) fun σ H Q z => ?_
  obtain ⟨F0, H0, pa, F, S, A, z⟩ := z
  unfold f1 at z
  rw [OutP.bind] at z
  refine ⟨F0, H0, pa, F, S, A, z.imp (fun p S1 z v F1 H1 x1 A1 r1 => ?_) fun _ _ z => z⟩
  split at z
  · rename_i d e1
    split at z
    · rename_i w e2
      cases e2
      refine ⟨tys_len ts hts, fun q hq => ⟨v, q, _, _, _, _, rfl, upd_same, cls_all ts, Dv.ty (A1.sub.trans (Ex.new hq)) ?_, kit_tys d ts, z _ F1 _ x1 (A1.more (Ex.new hq)) (.bl _)⟩⟩
      rcases A1.val r1 e1 with h1 | ⟨a1, vs, xs, rfl, rfl, h1, h2⟩
      · exact .inl h1
      · exact .inr ⟨a1, vs, xs, rfl, rfl, Ex.new hq _ _ h1, h2⟩
    · exact z.elim
  · exact z.elim
end
end Q3
/-! Q4b: e[::-1] of lists, tuples, texts; tuple * int. -/
namespace Q3
open PySem PySem.Spec PyProof.Rows L2
variable [TabSet]
section
variable {prog : Program} {w : World} {A : Around} {E : Value → Shared → Prop} {s : Shared}
/-- the last place first -/
theorem rev_pick (xs : Array Value) : ((List.range xs.size).filterMap fun (m : Nat) => xs[(((xs.size : Int) - 1) + (m : Int) * (-1)).toNat]?).toArray = xs.toList.reverse.toArray := by
  have e1 : (List.range xs.size).filterMap (fun (m : Nat) => xs[(((xs.size : Int) - 1) + (m : Int) * (-1)).toNat]?) = ((List.range xs.size).map fun m => xs.size - 1 - m).filterMap (xs[·]?) := by
    rw [List.filterMap_map]
    have key : ∀ (f g : Nat → Option Value) (l : List Nat), (∀ m ∈ l, f m = g m) → l.filterMap f = l.filterMap g := fun f g l => by
      induction l with
      | nil => intro _; rfl
      | cons y l ih =>
        intro h
        rw [List.filterMap_cons, List.filterMap_cons, h y List.mem_cons_self, ih fun m hm => h m (List.mem_cons_of_mem _ hm)]
    refine key _ _ _ fun m hm => ?_
    have := List.mem_range.mp hm
    show _ = xs[xs.size - 1 - m]?
    congr 1
    omega
  rw [e1, PySem.W.krv_range, List.filterMap_reverse, PySem.W.krv_all]
theorem rev_applied {sl : Addr} {vl vu vs : Value} {n : Nat} {Q : Int × Int × Nat → Shared → Prop} (hs : s.heap.IsSliceOf sl vl vu vs) (pl : IsPart vl none) (pu : IsPart vu none) (ps : IsPart vs (some (-1)))
    (h : Q ((n : Int) - 1, -1, n) s) : wpAny (model prog w) A (Builtin.Slice.sliceApplied (.ref sl) (pure (n : Int))) Q E s := by
  obtain ⟨os, g1, g2, g3⟩ := id hs
  unfold Builtin.Slice.sliceApplied Builtin.Slice.sliceFields
  refine wpAny_bind (wpAny_bind (wpAny_field g1 g3 (x := vl) rfl (wpAny_bind (wpAny_field g1 g3 (x := vu) rfl (wpAny_bind (wpAny_field g1 g3 (x := vs) rfl (wpAny_pure ?_)))))))
  refine wpAny_bind (HT.slicePart_ ps ?_)
  show wpAny _ _ (if ((-1 : Int) == 0) = true then _ else _) _ _ s
  rw [if_neg (by decide)]
  refine wpAny_bind (HT.slicePart_ pl (wpAny_bind (HT.slicePart_ pu (wpAny_bind (wpAny_pure ?_)))))
  have e : Builtin.Slice.slicePlaces ((n : Int) - 1) (-1) (-1) = n := by
    unfold Builtin.Slice.slicePlaces
    have h1 : ¬ ((-1 : Int) > 0) := by decide
    rw [if_neg h1, show (-(-1) : Int) = 1 by decide, Int.ediv_one]
    split <;> omega
  show wpAny _ _ (pure ((n : Int) - 1, (-1 : Int), Builtin.Slice.slicePlaces ((n : Int) - 1) (-1) (-1))) _ _ s
  rw [e]
  exact wpAny_pure h
theorem getItem_rev_tup {t sl : Addr} {items : Array Value} {vl vu vs : Value} {Q : Value → Shared → Prop} (ht : IsTup s.heap t items) (hs : s.heap.IsSliceOf sl vl vu vs) (pl : IsPart vl none) (pu : IsPart vu none) (ps : IsPart vs (some (-1)))
    (h : Q (.ref s.heap.objs.size) { s with heap := s.heap.push { cls := .type "tuple", data := .seq items.toList.reverse.toArray } }) (hz : items.size ≤ sizeLine) : wpAny (model prog w) A (getItem (.ref t) (.ref sl)) Q E s := by
  have hsz : sizeOk (.seq items.toList.reverse.toArray) := by
    show items.toList.reverse.toArray.size ≤ sizeLine
    rw [List.size_toArray, List.length_reverse, Array.length_toList]
    exact hz
  obtain ⟨os, g1, g2, g3⟩ := id hs
  have hTs : s.TypeIs (.ref sl) "slice" := ⟨os, g1, g2⟩
  unfold getItem
  try with_reducible refine wpAny_holding ?_
  first | refine wpAny_bind (wpAny_pure ?_) | skip
  refine wpAny_bind (wpAny_sequenceKey ht.typeIs (by decide) ?_)
  refine wpAny_bind (wpAny_callSpecial?_slot (name := Str.ofString "__getitem__") ht.typeIs PyProof.Rows.slot_tuple_getitem
    (wpAny_call_entry PyProof.Rows.slot_tuple_getitem ht.typeIs entry_tuple_getitem ?_ (args_tuple_getitem _ _)))
  show wpAny _ _ (Builtin.Tuple.tupleItemsOf (.ref t) >>= _) _ _ s
  refine wpAny_bind (tupleItemsOf_ ht ?_)
  refine wpAny_bind (wpAny_typeOf hTs ?_)
  rw [if_pos (by decide)]
  refine wpAny_bind (rev_applied hs pl pu ps ?_)
  have hno : ¬ ((((items.size : Int) - 1) == 0 && (-1 : Int) == 1 && items.size == items.size) = true) := by simp
  show wpAny _ _ (if ((((items.size : Int) - 1) == 0 && (-1 : Int) == 1 && items.size == items.size)) = true then _ else _) _ _ s
  rw [if_neg hno, rev_pick]
  first
    | exact wpAny_bind (m := Builtin.Tuple.tupleExact _) (wpAny_newObj_type (wpAny_pure ⟨_, rfl, wpAny_pure h⟩) hsz)
    | exact wpAny_bind (m := Builtin.Tuple.tupleExact _) (wpAny_newObj_type (wpAny_bind (wpAny_pure (wpAny_pure ⟨_, rfl, wpAny_pure h⟩))) hsz)
    | exact wpAny_bind (wpAny_bind (m := Builtin.Tuple.tupleExact _) (wpAny_newObj_type (wpAny_pure ⟨_, rfl, wpAny_pure h⟩) hsz))
end
def revS (z : Str) : Str := ⟨z.cps.toList.reverse.toArray⟩
theorem revS_pick (z : Str) : ((Builtin.Str.strSliceIndices none none (-1) z.length).filterMap (z.cps[·]?)).toArray = z.cps.toList.reverse.toArray := by
  have e : Builtin.Str.strSliceIndices none none (-1) z.length = (List.range z.cps.size).map fun k => z.cps.size - 1 - k := by
    show PySem.sliceRange ((z.length : Int) - 1) (-1) (-1) = _
    exact PySem.W.krv_sliceRange z.cps.size
  rw [e, PySem.W.krv_range, List.filterMap_reverse, PySem.W.krv_all]
section
variable {X : Cx} {W : WX} {a b c e : Expr} {fa fb fc : Sq → Out PV} {pos : Pos} {N : List Str} {sc : Scope} {k : Nat} {G : Gb}
def rRevA (K : PySem.W.Frag) : V → Hp → VK → Prop := fun x H Q => (∃ a xs, x = .ref a ∧ SqL K H a xs ∧ ∀ p, H p = none → Q (.ref p) (upd H p (.lst xs.reverse))) ∨
  (∃ a xs, x = .ref a ∧ SqT K H a xs ∧ ∀ p, H p = none → Q (.ref p) (upd H p (.tup xs.reverse))) ∨ ∃ z : Str, x = .str z ∧ z.length ≤ sizeLine ∧ Q (.str (revS z)) H
def tRevA (K : PySem.W.Frag) (te : TE) : TE := fun σ H Q => te σ H fun x H1 => rRevA K x H1 Q
theorem pe_revA {te : TE} {n : Nat} {p1 p2 p3 : Pos} (he : PE X e te) : PE X (.Subscript e (.Slice none none (some (.UnaryOp .USub (.Constant (.int 1) n p1) p2)) p3) pos) (tRevA X.K te) := by
  refine ⟨fun pins s σ H Q I h => ?_⟩
  refine Subscript_ (thn (he.run pins s σ H _ I h) fun v s1 ⟨x, H1, I1, r1, q1⟩ => ?_)
  have hst : PO X (some (.UnaryOp .USub (.Constant (.int 1) n p1) p2)) (tPart (tUn (rU fun i => .int (-i)) (tC (.int 1)))) := po_some (pe_un un_neg pe_int)
  refine wpAny_Slice (thn (po_none.run pins s1 σ H1 (fun o H2 => o = none ∧ H2 = H1) I1 ⟨rfl, rfl⟩) fun vl s2 ⟨l, H2, I2, pl, el, e2⟩ => ?_)
  subst el e2
  refine thn (po_none.run pins s2 σ H2 (fun o H3 => o = none ∧ H3 = H2) I2 ⟨rfl, rfl⟩) fun vu s3 ⟨u, H3, I3, pu, eu, e3⟩ => ?_
  subst eu e3
  refine thn (hst.run pins s3 σ H3 (fun o H4 => o = some (-1) ∧ H4 = H3) I3 ⟨1, rfl, -1, rfl, rfl, rfl⟩) fun vs s4 ⟨o, H4, I4, ps, eo, e4⟩ => ?_
  subst eo e4
  have I5 : Inv X pins σ H4 { s4 with heap := s4.heap.push { cls := .type "slice", data := .fields #[vl, vu, vs] } } := I4.kept (t' := s4.toks) fun b ob q => Heap.get?_push_of_some _ q
  have sk : Heap.IsSliceOf (s4.heap.push { cls := .type "slice", data := .fields #[vl, vu, vs] }) s4.heap.objs.size vl vu vs := Heap.IsSliceOf.new _ vl vu vs
  show wpAny (model X.prog X.w) X.A (subscriptTail e (.Slice none none (some (.UnaryOp .USub (.Constant (.int 1) n p1) p2)) p3) v (.ref s4.heap.objs.size)) (EP X pins σ Q) X.xe { s4 with heap := s4.heap.push { cls := .type "slice", data := .fields #[vl, vu, vs] } }
  rcases q1 with ⟨a, xs, rfl, hx, q⟩ | ⟨a, xs, rfl, hx, q⟩ | ⟨z, rfl, hz, q⟩
  · cases r1
    obtain ⟨its, r, ht, hz⟩ := I5.list hx
    have hlen := r.length
    refine tail_any (ops := [.ref a, .ref s4.heap.objs.size]) ht.isList.typeIs (PySem.slot_list_getitem.lookup) ?_ (by with_unfolding_all rfl)
    refine wpAny_getItem_list_slice ht.isList sk pl pu ps (by decide) ?_ (by rw [List.size_toArray]; omega)
    rw [PySem.W.krv_pick]
    refine ⟨.ref _, _, I5.laid (t' := s4.toks) (o := .lst xs.reverse) (fun b ob q => Heap.get?_push_of_some _ q) (Nat.le_refl _) ?_, rfl, q _ (I5.hok.fresh (Nat.le_refl _))⟩
    exact ⟨by rw [List.length_reverse]; exact hz, _, 0, r.reverse, Heap.get?_push_size _ rfl⟩
  · cases r1
    obtain ⟨its, r, ht, hz⟩ := I5.tuple hx
    have hlen := r.length
    refine tail_any (ops := [.ref a, .ref s4.heap.objs.size]) ht.typeIs PyProof.Rows.slot_tuple_getitem.lookup ?_ (by with_unfolding_all rfl)
    refine getItem_rev_tup ht sk pl pu ps ?_ (by rw [List.size_toArray]; omega)
    refine ⟨.ref _, _, I5.laid (t' := s4.toks) (o := .tup xs.reverse) (fun b ob q => Heap.get?_push_of_some _ q) (Nat.le_refl _) ?_, rfl, q _ (I5.hok.fresh (Nat.le_refl _))⟩
    exact ⟨by rw [List.length_reverse]; exact hz, _, r.reverse, IsTup.new _ _⟩
  · obtain ⟨t, rfl⟩ := r1
    refine tail_any (ops := [.str z t, .ref s4.heap.objs.size]) (typeIs_str _ z t) F.slot_str_getitem.lookup ?_ (by with_unfolding_all rfl)
    obtain ⟨l, rfl, el⟩ := IsPart.raw pl
    obtain ⟨u, rfl, eu⟩ := IsPart.raw pu
    obtain ⟨st, rfl, est⟩ := IsPart.raw ps
    have hl : l = none := by cases l <;> simp_all
    have hu : u = none := by cases u <;> simp_all
    have hst1 : st.map (·.1) = some (-1) := by first | exact est | exact est.symm
    subst hl hu
    obtain ⟨os, g1, g2, g3⟩ := id sk
    refine wpAny_getItem_str_slice (l := none) (u := none) (st := st) ⟨os, g1, g2, g3⟩ (by rw [hst1]; rfl) ?_
    have ep : Builtin.Str.strSliceIndices ((none : Option (Int × Tok)).map (·.1)) ((none : Option (Int × Tok)).map (·.1)) ((st.map (·.1)).getD 1) z.length = Builtin.Str.strSliceIndices none none (-1) z.length := by rw [hst1]; rfl
    unfold sliceMade slicePicked
    rw [ep, hst1, if_neg (by simp), revS_pick]
    exact ⟨by show z.cps.toList.reverse.toArray.size ≤ sizeLine; rw [List.size_toArray, List.length_reverse, Array.length_toList]; exact hz, .str (revS z), H4, I5.tok _, ⟨_, rfl⟩, q⟩
def gRev : D → Option PV
  | .list xs => some (.o (.l xs.reverse))
  | .tuple xs => some (.v (.tuple xs.reverse))
  | .str z => if z.length ≤ sizeLine then some (.v (.str (revS z))) else none
  | _ => none
theorem de_rev {n : Nat} {p1 p2 p3 : Pos} (ha : DE X W a fa) : DE X W (.Subscript a (.Slice none none (some (.UnaryOp .USub (.Constant (.int 1) n p1) p2)) p3) pos) (f1 gRev fa) := by
  refine PE.weak (pe_revA (de_fz ha)) fun σ H Q z => ?_
  obtain ⟨F0, H0, pa, F, S, A, z⟩ := z
  unfold f1 at z
  rw [OutP.bind] at z
  refine ⟨F0, H0, pa, F, S, A, z.imp (fun p S1 z v F1 H1 x1 A1 r1 => ?_) fun _ _ z => z⟩
  have go : ∀ {w : PV} {v : V} {H' : Hp}, Gv X.K F1 H1 w v H' → OutP (.ok w S1) (TP X.K F0 H0 pa σ F Q) (EW X.K W F0 H0 pa σ) → Q v H' := fun g z => by
    obtain ⟨F', xF, A', r'⟩ := A1.gives g
    exact z _ F' _ (x1.trans xF) A' r'
  split at z
  · rename_i d e1
    have dv := A1.val r1 e1
    cases d with
    | list xs =>
      obtain ⟨l, vs, rfl, h1, h2⟩ := dv.list A1.sub
      exact .inl ⟨l, vs, rfl, SqL.of h1, fun p hp => go (.lst hp h2.reverse) z⟩
    | tuple xs =>
      obtain ⟨l, vs, rfl, h1, h2⟩ := dv.tuple
      exact .inr (.inl ⟨l, vs, rfl, SqT.of (A1.sub _ _ h1), fun p hp => go (.tup hp h2.reverse) z⟩)
    | str y =>
      rw [dv.str]
      simp only [gRev] at z
      split at z
      · rename_i w hw
        split at hw
        · rename_i hz
          cases hw
          exact .inr (.inr ⟨y, rfl, hz, go (Gv.str _) z⟩)
        · cases hw
      · exact z.elim
    | none => exact z.elim
    | bool _ => exact z.elim
    | int _ => exact z.elim
    | dict _ => exact z.elim
  · exact z.elim
end
end Q3
/-! Q4c: tuple * int. -/
namespace Q3
open PySem PySem.Spec PyProof.Rows L2
variable [TabSet]
theorem tuple_mul_same (l : Addr) (items : Array Value) (n : Nat) (dd : Option Addr) (sl : Array (Option Value)) (x : Int) (u : Tok) (c0 : (decide (x < -(2 ^ 63)) || decide (x ≥ 2 ^ 63)) = false) (c1 : (items.isEmpty || x == 1) = true) :
    Meets (Builtin.«tuple.__mul__» ⟨[.ref l, .int x u], []⟩) (fun _ R s => s.heap.get? l = some { cls := .type "tuple", dict := dd, data := .seq items n, slots := sl } ∧ R (.ok (.ret (Value.ref l))) s) :=
  .of_wp fun prog w A R s h => by
    obtain ⟨hp, g, d, tk, os⟩ := s
    obtain ⟨hl, h⟩ := h
    have f1 := AutoSeq1.idx_int
    wp_walk using wpAny_loadPart' hl
    repeat (first
      | (refine wpAny_ite_false (decide_eq_false (by rw [c0]; exact Bool.false_ne_true)) ?_; wp_walk using wpAny_loadPart' hl)
      | (refine wpAny_ite_true (decide_eq_true (by rw [c1])) ?_; wp_walk using wpAny_loadPart' hl))
    exact ⟨_, rfl, h⟩
theorem tuple_mul_none (l : Addr) (items : Array Value) (n : Nat) (dd : Option Addr) (sl : Array (Option Value)) (x : Int) (u : Tok) (c0 : (decide (x < -(2 ^ 63)) || decide (x ≥ 2 ^ 63)) = false) (c1 : (items.isEmpty || x == 1) = false) (c2 : (decide (x ≤ 0) || items.isEmpty) = true) :
    Meets (Builtin.«tuple.__mul__» ⟨[.ref l, .int x u], []⟩) (fun _ R s => s.heap.get? l = some { cls := .type "tuple", dict := dd, data := .seq items n, slots := sl } ∧
      R (.ok (.ret (Value.ref s.heap.objs.size))) { s with heap := s.heap.push { cls := Value.type "tuple", data := Data.seq #[] }, toks := s.toks }) :=
  .of_wp fun prog w A R s h => by
    obtain ⟨hp, g, d, tk, os⟩ := s
    obtain ⟨hl, h⟩ := h
    have f1 := AutoSeq1.idx_int
    wp_walk using wpAny_loadPart' hl
    repeat (first
      | (refine wpAny_ite_false (decide_eq_false (by rw [c0]; exact Bool.false_ne_true)) ?_; wp_walk using wpAny_loadPart' hl)
      | (refine wpAny_ite_false (decide_eq_false (by rw [c1]; exact Bool.false_ne_true)) ?_; wp_walk using wpAny_loadPart' hl)
      | (refine wpAny_ite_true (decide_eq_true (by rw [c2])) ?_; wp_walk using wpAny_loadPart' hl))
    exact ⟨_, rfl, h⟩
/-- t * k: t itself, or a new tuple -/
def rRepA (K : PySem.W.Frag) : R2 := fun x y H Q => ∃ l k xs, x = .ref l ∧ y = .int k ∧ SqT K H l xs ∧ k ≤ 1000 ∧ -1000 ≤ k ∧ xs.length ≤ 1000 ∧
  (xs = [] ∨ k = 1 → Q (.ref l) H) ∧ (xs ≠ [] → k ≤ 0 → ∀ p, H p = none → Q (.ref p) (upd H p (.tup []))) ∧ (xs ≠ [] → 2 ≤ k → ∀ p, H p = none → Q (.ref p) (upd H p (.tup (List.replicate k.toNat xs).flatten)))
section
variable {X : Cx} {W : WX} {a b c e : Expr} {fa fb fc : Sq → Out PV} {pos : Pos}
theorem op_repA : OpR X (binaryOp .Mult) (rRepA X.K) := by
  intro pins s σ H x y v u Q I rx ry h
  obtain ⟨l, k, xs, rfl, rfl, hT, h1, h0, hz, q1, q2, q3⟩ := h
  by_cases hb : xs ≠ [] ∧ 2 ≤ k
  · exact op_repT pins s σ H _ _ v u Q I rx ry ⟨l, k, xs, rfl, rfl, hT, hb.1, hb.2, h1, hz, q3 hb.1 hb.2⟩
  · cases rx
    obtain ⟨t, rfl⟩ := ry
    obtain ⟨its, r, ⟨⟨cls, dd, data, sl⟩, ho, hc, n, hd⟩, hs⟩ := I.tuple hT
    simp only at hc hd
    subst hc hd
    have hle : its.length = xs.length := r.length.symm
    have c0 : (decide (k < -(2 ^ 63)) || decide (k ≥ 2 ^ 63)) = false := by
      rw [decide_eq_false (by omega), decide_eq_false (by omega)] <;> rfl
    have hi : its.toArray.isEmpty = xs.isEmpty := by
      cases its with
      | nil => cases xs with
        | nil => rfl
        | cons _ _ => cases hle
      | cons _ _ => cases xs with
        | nil => cases hle
        | cons _ _ => rfl
    by_cases hsame : xs = [] ∨ k = 1
    · refine wpAny_binaryOp_repeat_ref (T := "tuple") (U := "int") (by decide) ⟨_, ho, rfl⟩ (fun s' => typeIs_int s' k t) noFill_tuple_mul F.fills_int_mul F.slot_int_rmul repeat_tuple F.slot_int_index.lookup
        (call_meets F.slot_int_rmul (typeIs_int s k t) F.entry_int_rmul (F.args_int_rmul_2 _ _) (int_rmul_tuple k t l its.toArray n dd sl)
          ⟨ho, rfl, ⟨_, ho, rfl⟩, call_meets F.slot_tuple_mul ⟨_, ho, rfl⟩ F.entry_tuple_mul (F.args_tuple_mul_2 _ _) (tuple_mul_same l its.toArray n dd sl k t c0 ?_) ⟨ho, ?_⟩⟩)
      · rw [hi]
        rcases hsame with rfl | rfl
        · rfl
        · simp
      · exact ⟨.ref l, H, I, rfl, q1 hsame⟩
    · have hne : xs ≠ [] := fun z => hsame (.inl z)
      have hk : k ≤ 0 := by
        have : ¬ 2 ≤ k := fun z => hb ⟨hne, z⟩
        have : k ≠ 1 := fun z => hsame (.inr z)
        omega
      have he : xs.isEmpty = false := by cases xs with
        | nil => exact absurd rfl hne
        | cons _ _ => rfl
      refine wpAny_binaryOp_repeat_ref (T := "tuple") (U := "int") (by decide) ⟨_, ho, rfl⟩ (fun s' => typeIs_int s' k t) noFill_tuple_mul F.fills_int_mul F.slot_int_rmul repeat_tuple F.slot_int_index.lookup
        (call_meets F.slot_int_rmul (typeIs_int s k t) F.entry_int_rmul (F.args_int_rmul_2 _ _) (int_rmul_tuple k t l its.toArray n dd sl)
          ⟨ho, rfl, ⟨_, ho, rfl⟩, call_meets F.slot_tuple_mul ⟨_, ho, rfl⟩ F.entry_tuple_mul (F.args_tuple_mul_2 _ _) (tuple_mul_none l its.toArray n dd sl k t c0 ?_ ?_) ⟨ho, ?_⟩⟩)
      · rw [hi, he, Bool.false_or]
        exact beq_eq_false_iff_ne.mpr (by omega)
      · rw [decide_eq_true hk, Bool.true_or]
      · refine ⟨.ref s.heap.objs.size, _, I.laid (t' := s.toks) (o := .tup []) (fun b ob q => Heap.get?_push_of_some _ q) (Nat.le_refl _) ?_, rfl, q2 hne hk _ (I.hok.fresh (Nat.le_refl _))⟩
        exact ⟨Nat.zero_le _, [], .nil, IsTup.new _ _⟩
def gMulA : D → D → Option PV
  | .tuple xs, .int j => if -1000 ≤ j ∧ j ≤ 1000 ∧ xs.length ≤ 1000 then some (.v (.tuple (List.replicate j.toNat xs).flatten)) else none
  | d, e => gMul d e
theorem does_mulA {K : PySem.W.Frag} : Does2 K (fun x y H Q => (rI CMul (fun i j => .int (i * j)) x y H Q ∨ rRep x y H Q ∨ rRepS x y H Q) ∨ rRepA K x y H Q) gMulA := by
  intro F H x y d e z Q sub hx hy hg h
  unfold gMulA at hg
  split at hg
  · rename_i xs j
    split at hg
    · rename_i hj
      cases hg
      obtain ⟨a, vs, rfl, h1, h2⟩ := hx.tuple
      rw [hy.int]
      have hl := h2.length
      refine .inr ⟨a, j, vs, rfl, rfl, SqT.of (sub _ _ h1), hj.2.1, hj.1, by rw [hl]; exact hj.2.2, fun q => ?_, fun hne hk p hp => ?_, fun hne hk p hp => h _ _ (.tup hp (h2.rep _))⟩
      · have e : (List.replicate j.toNat xs).flatten = xs := by
          rcases q with q | q
          · rw [h2.nil_iff.mp q]; simp
          · rw [q]; simp
        rw [e] at h
        exact h _ _ (.dn (.tup h1 h2))
      · have e : j.toNat = 0 := by omega
        rw [e] at h
        exact h _ _ (.tup hp .nil)
    · cases hg
  · exact .inl (does_mul F H x y _ _ z Q sub hx hy hg h)
theorem de_mulA (ha : DE X W a fa) (hb : DE X W b fb) : DE X W (.BinOp a .Mult b pos) (fBin gMulA fa fb) := de_bin (OpR.or (OpR.or op_mul (OpR.or op_rep op_repS)) op_repA) does_mulA ha hb
@[simp] theorem mulA_i (a b : Int) : gMulA (.int a) (.int b) = if CMul a b then some (.v (.int (a * b))) else none := rfl
@[simp] theorem mulA_s (z : Str) (j : Int) : gMulA (.str z) (.int j) = if 0 ≤ j ∧ j < 1000000 ∧ z.length * j.toNat ≤ sizeLine then some (.v (.str (strRep z j.toNat))) else none := rfl
@[simp] theorem mulA_l (xs : List D) (j : Int) : gMulA (.list xs) (.int j) = if 0 ≤ j ∧ j < 1000000 ∧ xs.length * j.toNat ≤ sizeLine then some (.o (.l (List.replicate j.toNat xs).flatten)) else none := rfl
@[simp] theorem mulA_t (xs : List D) (j : Int) : gMulA (.tuple xs) (.int j) = if -1000 ≤ j ∧ j ≤ 1000 ∧ xs.length ≤ 1000 then some (.v (.tuple (List.replicate j.toNat xs).flatten)) else none := rfl
end
end Q3
/-! Q4d: three targets, three values that are data. -/
namespace Q3
open PySem PySem.Spec PyProof.Rows L2
variable [TabSet]
def par3D2 (i j l : Nat) : Option (List D × Sq) → Fl
  | some ([x, y, z], S2) => if i < S2.r.length ∧ j < S2.r.length ∧ l < S2.r.length then .nx { S2 with r := ((S2.r.set i (.d x)).set j (.d y)).set l (.d z) } else .no
  | _ => .no
def par3D (i j l : Nat) (fs : Sq → Out (List PV)) : Sq → Fl := fun S => (fs S).fl fun ps S1 => par3D2 i j l (keepAll S1 ps)
section
variable {X : Cx} {W : WX} {a b c e : Expr} {fs : Sq → Out (List PV)} {pos : Pos} {N : List Str} {sc : Scope} {k : Nat} {G : Gb} {x y z : Str}
theorem ds_par3D (i j l : Nat) {px py pz pt : Pos} {kt k2 pt2} (C : Cq G k N sc X) (h : DA X W [a, b, c] fs) (hi : N[i]? = some x := by rfl) (hj : N[j]? = some y := by rfl) (hl : N[l]? = some z := by rfl) (hij : i ≠ j := by decide) (hil : i ≠ l := by decide) (hjl : j ≠ l := by decide)
    (hx : sc.names.lookup x = some .local := by rfl) (hy : sc.names.lookup y = some .local := by rfl) (hz : sc.names.lookup z = some .local := by rfl)
    (hw : swappedStores [.Tuple [.Name x px, .Name y py, .Name z pz] kt pt] (.Tuple [a, b, c] k2 pt2) X.env = pure (some [x, y, z]))
    (hs : swapsWithSole [.Tuple [.Name x px, .Name y py, .Name z pz] kt pt] (.Tuple [a, b, c] k2 pt2) pos.line X.env = pure false := by rfl) :
    DS X W (.Assign [.Tuple [.Name x px, .Name y py, .Name z pz] kt pt] (.Tuple [a, b, c] k2 pt2) pos) (par3D i j l fs) := by
  refine PS.weak (L2.ps_par3 C.calm (by rw [C.names]; exact C.nd) (by rw [C.names]; exact hi) (by rw [C.names]; exact hj) (by rw [C.names]; exact hl) hij hil hjl (by rw [C.scope]; exact hx) (by rw [C.scope]; exact hy) (by rw [C.scope]; exact hz) h hw hs) fun Z σ H q => ?_
  obtain ⟨F0, H0, pa, F, S, A, q⟩ := q
  refine ⟨F0, H0, pa, F, S, A, (fl_out (σ := σ) q).imp (fun ps S1 q vs F1 H1 x1 A1 r1 => ?_) fun _ _ q => q⟩
  unfold par3D2 at q
  split at q
  · rename_i x y z S2 e1
    split at q
    · rename_i hlt
      obtain ⟨F2, x2, A2, d2⟩ := A1.keepAll r1 e1
      cases d2 with
      | cons d1 d2 =>
        cases d2 with
        | cons d2 d3 =>
          cases d3 with
          | cons d3 d4 =>
            cases d4
            refine ⟨_, _, _, rfl, q _ F2 _ ?_⟩
            exact ((A2.store (c := .d x) hlt.1 d1).store (i := j) (c := .d y) (S := { S2 with r := S2.r.set i (.d x) }) (by simpa using hlt.2.1) d2).store (i := l) (c := .d z) (S := { S2 with r := (S2.r.set i (.d x)).set j (.d y) }) (by simpa using hlt.2.2) d3
    · exact q.elim
  · exact q.elim
end
/-! step by step -/
def par3D1 (i j l : Nat) : Out (List PV) → Fl
  | .ok ps S1 => par3D2 i j l (keepAll S1 ps)
  | .ex c S => .ex c S
  | .no => .no
@[simp] theorem ev_par3D (i j l : Nat) (fs : Sq → Out (List PV)) (S : Sq) : par3D i j l fs S = par3D1 i j l (fs S) := by
  unfold par3D par3D1
  cases fs S <;> rfl
@[simp] theorem par3D1_ok (i j l : Nat) (ps : List PV) (S : Sq) : par3D1 i j l (.ok ps S) = par3D2 i j l (keepAll S ps) := rfl
@[simp] theorem par3D2_ok (i j l : Nat) (x y z : D) (S : Sq) : par3D2 i j l (some ([x, y, z], S)) = if i < S.r.length ∧ j < S.r.length ∧ l < S.r.length then .nx { S with r := ((S.r.set i (.d x)).set j (.d y)).set l (.d z) } else .no := rfl
end Q3
/-! Q4e: a def that calls itself, so many levels deep. -/
namespace Q3
open PySem PySem.Spec PyProof.Rows L2
variable [TabSet]
theorem has_none {G : Gb} {k : Nat} {x : Str} {st : Stmt} {ps : List Str} (D : HasD G.K G.mg x st)
    (hb : ∀ (kV doc pm : Value) (an : Option Addr) (cdv ct : Value) (us : List Value), us.length = ps.length → bindArgs (PySem.W.fnOf x x (defArgs st) (defBody st) (defScope st) .none kV doc pm an cdv ct) ⟨us, []⟩ = pure (ps.zip us)) : Has G k x ps (fun _ _ => .no) := by
  obtain ⟨f, fd, F, m⟩ := D
  refine ⟨f, fd, m, F.kp, F.bindsN hb, fun vs H Q E z => z.1, fun A outer s H args us vs Q E _ _ _ _ _ z => ?_⟩
  obtain ⟨F0, H0, pa, rs, p, _, _, z⟩ := z.2
  exact z.elim
end Q3
/-! Q4f: repr of data with empty dicts in it: the place of the modules' dict is known not to be ours. -/
namespace Q3
open PySem PySem.Spec PyProof.Rows L2
/-! ### a head that tells one more object -/
def frY (n : Nat) (g : Addr → Option Obj) : PySem.W.Frag := He.frT g (sysModules :: He.asD g n)
def obsY (n : Nat) (fa : List He.Fa) (fn : List He.DefD) (ts : List He.Tab) (tf : List He.Defn) (ex : PySem.W.Frag → Bool) (g : Addr → Option Obj) : He.AlX := (He.obsT fa fn ts (frY n g), ex (frY n g) && He.tabsB g tf (frY n g))
theorem saysY_of {n : Nat} {fa : List He.Fa} {fn : List He.DefD} {ts : List He.Tab} {tf : List He.Defn} {ex : PySem.W.Frag → Bool} {w : World} {h : Heap} (e : obsY n fa fn ts tf ex h.get? = He.valX fn ts w) : He.SaysX fa fn ts tf ex w h (frY n h.get?) := by
  have e1 : He.obsT fa fn ts (frY n h.get?) = He.valT fn ts w := congrArg (fun z : He.AlX => z.1) e
  have e2 : (ex (frY n h.get?) && He.tabsB h.get? tf (frY n h.get?)) = true := congrArg (fun z : He.AlX => z.2) e
  obtain ⟨h1, h2⟩ := Bool.and_eq_true_iff.mp e2
  have key : ∀ p ∈ tf, PySem.W.codeHdIn (frY n h.get?) (He.cT (frY n h.get?) p).1 (He.cT (frY n h.get?) p).2 = true ∧ ∃ o, h.get? (He.cT (frY n h.get?) p).2 = some o ∧ He.emptyTab o = true := fun p hp => by
    obtain ⟨h3, h4⟩ := Bool.and_eq_true_iff.mp (List.all_eq_true.mp h2 p hp)
    refine ⟨h3, ?_⟩
    cases q : h.get? (He.cT (frY n h.get?) p).2 with
    | none => rw [q] at h4; cases h4
    | some o => rw [q] at h4; exact ⟨o, rfl, h4⟩
  exact ⟨e1, h1, fun p hp => (key p hp).1, fun p hp => by
    obtain ⟨_, o, q, z⟩ := key p hp
    exact He.frT_none q z, fun p hp => by
    obtain ⟨_, o, q, z⟩ := key p hp
    rw [q, He.emptyTab_eq z]⟩
def hookY (n : Nat) (fa : List He.Fa) (fn : List He.DefD) (ts : List He.Tab) (tf : List He.Defn) (ex : PySem.W.Frag → Bool) : PySem.W.Hook where
  α := He.AlX
  obs := fun s => obsY n fa fn ts tf ex s.heap.get?
  val := fun w => He.valX fn ts w
  says := fun w h => ∃ K : PySem.W.Frag, K.In h ∧ He.SaysX fa fn ts tf ex w h K
  of := fun _ _ e => ⟨_, He.frT_in, saysY_of e⟩
  keeps := fun _ _ _ ⟨K, hK, c⟩ k => ⟨K, PySem.W.Frag.In.keeps hK k, ⟨c.t, c.more, c.hd, c.out, fun p hp => k _ _ (c.empty p hp)⟩⟩
theorem obsY_eq {n : Nat} {fa : List He.Fa} {fn : List He.DefD} {ts : List He.Tab} {tf : List He.Defn} {ex : PySem.W.Frag → Bool} {g : Addr → Option Obj} {s : Shared} (h : ∀ a, g a = s.heap.get? a) : obsY n fa fn ts tf ex g = (hookY n fa fn ts tf ex).obs s := by
  have e : g = s.heap.get? := funext h
  rw [e] <;> rfl
variable [TabSet]
section
variable {X : Cx} {pins : List (Addr × Obj)} {σ : L2.St} {H : Hp} {s : Shared}
mutual
theorem Dn.readsH (I : Inv X pins σ H s) : ∀ (d : D) (v : V) (u : Value), Dn X.K H v d → RelV v u → ∃ as, Reads s.heap u d as ∧ ∀ a ∈ as, ∃ o, H a = some o
  | .none, _, _, h, r => by
    cases h; cases r
    exact ⟨[], Reads.none, fun _ m => nomatch m⟩
  | .bool b, _, _, h, r => by
    cases h; cases r
    exact ⟨[], Reads.bool b, fun _ m => nomatch m⟩
  | .int i, _, _, h, r => by
    cases h
    obtain ⟨t, rfl⟩ := r
    exact ⟨[], Reads.int i t, fun _ m => nomatch m⟩
  | .str x, _, _, h, r => by
    cases h
    obtain ⟨t, rfl⟩ := r
    exact ⟨[], Reads.str x t, fun _ m => nomatch m⟩
  | .list ds, _, _, h, r => by
    cases h with
    | lst h1 h2 =>
      cases r
      obtain ⟨its, rv, ⟨o, n, ho, hc, hd, hs⟩, _⟩ := I.list (SqL.of h1)
      obtain ⟨as, ra, q⟩ := DnAll.readsH I ds _ its h2 rv
      refine ⟨_, Reads.list ho hc hs (by simpa using ra), fun a m => ?_⟩
      rcases List.mem_cons.mp m with rfl | m
      · exact ⟨_, h1⟩
      · exact q a m
  | .tuple ds, _, _, h, r => by
    cases h with
    | tup h1 h2 =>
      cases r
      obtain ⟨its, rv, ⟨o, ho, hc, n, hs⟩, _⟩ := I.tuple (SqT.of h1)
      obtain ⟨as, ra, q⟩ := DnAll.readsH I ds _ its h2 rv
      exact ⟨_, Reads.tuple ho hc hs (by simpa using ra), q⟩
  | .dict kvs, _, _, h, r => by
    cases h with
    | dct0 h1 =>
      cases r
      obtain ⟨_, _, vs, kv, o, es, ep, ho, hx, hd, ko, pr, _⟩ := I.hok _ _ h1
      cases kv
      have e : es.toList = [] := by
        cases h : es.toList with
        | nil => rfl
        | cons a b => rw [h] at pr; cases pr
      refine ⟨_, Reads.dict (kvs := []) (as := []) (bs := []) ho hx.1 hd ?_ ?_, fun a m => ?_⟩
      · rw [e]; exact .nil
      · rw [e]; exact .nil
      · simp only [List.append_nil, List.mem_cons, List.not_mem_nil, or_false] at m
        rw [m]; exact ⟨_, h1⟩
theorem DnAll.readsH (I : Inv X pins σ H s) : ∀ (ds : List D) (vs : List V) (us : List Value), DnAll X.K H vs ds → Vals vs us → ∃ as, ReadsAll s.heap us ds as ∧ ∀ a ∈ as, ∃ o, H a = some o
  | [], _, _, h, r => by
    cases h; cases r
    exact ⟨_, ReadsAll.nil, fun _ m => nomatch m⟩
  | d :: ds, _, _, h, r => by
    cases h with
    | cons h1 h2 =>
      cases r with
      | cons r1 r2 =>
        obtain ⟨as, a, q1⟩ := Dn.readsH I d _ _ h1 r1
        obtain ⟨bs, b, q2⟩ := DnAll.readsH I ds _ _ h2 r2
        refine ⟨_, ReadsAll.cons a b, fun x m => ?_⟩
        rcases List.mem_append.mp m with m | m
        · exact q1 x m
        · exact q2 x m
end
end
section
variable {X : Cx} {W : WX} {a b c e : Expr} {fa fb fc : Sq → Out PV} {pos : Pos} {N : List Str} {sc : Scope} {k : Nat} {G : Gb}
def gReprD (d : D) : Option PV := if d.showable = true ∧ d.depth ≤ 64 ∧ d.shown.length ≤ sizeLine then some (.v (.str d.shown)) else none
def rReprD (K : PySem.W.Frag) : List V → Hp → VK → Prop := fun xs H Q => ∃ x d, xs = [x] ∧ Dn K H x d ∧ d.showable = true ∧ d.depth ≤ 64 ∧ d.shown.length ≤ sizeLine ∧ Q (.str d.shown) H
theorem call_reprD (hsm : ∃ o, X.K.lookup sysModules = some o) (hg : X.A.guards = some []) (hu : X.A.units + 65 < cLine) : CallR X (.builtin "repr") (rReprD X.K) := by
  intro pins s σ H xs us Q I r h
  obtain ⟨x, d, rfl, hx, h1, h3, h4, q⟩ := h
  obtain ⟨u, rfl, rx⟩ := vals1 r
  obtain ⟨as, rd, ha⟩ := Dn.readsH I d x u hx rx
  have hn : d.hasDict = true → sysModules ∉ as := fun _ m => by
    obtain ⟨o, ho⟩ := hsm
    obtain ⟨u, hu⟩ := ha _ m
    have := (I.bs _ _ (I.mod.kin _ _ ho)).2
    rw [hu] at this
    cases this
  cases hx with
  | non =>
    cases rx
    exact PySem.P.repr_of_none ⟨.str _, H, I.tok _, ⟨_, rfl⟩, q⟩
  | bl b =>
    cases rx
    refine PySem.P.repr_of_bool ⟨.str _, H, I.tok _, ⟨_, rfl⟩, ?_⟩
    cases b <;> exact q
  | int i =>
    obtain ⟨t, rfl⟩ := rx
    exact PySem.P.repr_of_int (by simpa [PyData.showable] using h1) ⟨.str _, H, I.tok _, ⟨_, rfl⟩, q⟩
  | str z =>
    obtain ⟨t, rfl⟩ := rx
    exact PySem.P.repr_of_str ⟨.str _, H, I.tok _, ⟨_, rfl⟩, q⟩ h4
  | lst e1 e2 =>
    cases rx
    exact repr_of_reads' rd h1 hn hg (by omega) (fun _ _ e => e) (fun h' u tk hk => ⟨.str _, H, I.kept hk, ⟨_, rfl⟩, q⟩) h4
  | tup e1 e2 =>
    cases rx
    exact repr_of_reads' rd h1 hn hg (by omega) (fun _ _ e => e) (fun h' u tk hk => ⟨.str _, H, I.kept hk, ⟨_, rfl⟩, q⟩) h4
  | dct0 e1 =>
    cases rx
    exact repr_of_reads' rd h1 hn hg (by omega) (fun _ _ e => e) (fun h' u tk hk => ⟨.str _, H, I.kept hk, ⟨_, rfl⟩, q⟩) h4
theorem does_reprD {K : PySem.W.Frag} : Does1 K (rReprD K) gReprD := by
  intro F H x d z Q sub hx hg h
  unfold gReprD at hg
  split at hg
  · rename_i q
    cases hg
    exact ⟨x, d, rfl, hx.dn sub, q.1, q.2.1, q.2.2, h _ _ (Gv.str _)⟩
  · cases hg
end
end Q3
namespace Q3
open PySem PySem.Spec PyProof.Rows L2
variable [TabSet]
def top (i : Nat) : Stmt := PySem.Challenge.pw_shakenwords_k31_machines_recognized.main.body.getD i (.Pass ⟨0, 0, 0, 0⟩)
def clL : List Str := ["NoWide", "NoMachine", "NoLetters", "NoWord", "NoCounts", "NoDigits", "NoPlace", "NoPiece", "NoPieces", "NoMatch", "TooGreat"]
structure Fx (K : PySem.W.Frag) (mg : Str → Option Value) : Prop where
  sm : ∃ o, K.lookup sysModules = some o
  all : ExcAll K mg clL "ShakenError"
  e_NoMachine : ExcG K mg "NoMachine"
  e_NoWide : ExcG K mg "NoWide"
  e_TooGreat : ExcG K mg "TooGreat"
  b_ValueError : mg "ValueError" = none
  b_all : mg "all" = none
  b_bool : mg "bool" = none
  b_dict : mg "dict" = none
  b_enumerate : mg "enumerate" = none
  b_int : mg "int" = none
  b_isinstance : mg "isinstance" = none
  b_len : mg "len" = none
  b_list : mg "list" = none
  b_min : mg "min" = none
  b_range : mg "range" = none
  b_repr : mg "repr" = none
  b_set : mg "set" = none
  b_sorted : mg "sorted" = none
  b_str : mg "str" = none
  b_sum : mg "sum" = none
  b_tuple : mg "tuple" = none
  i_MOST_LETTERS : ∃ t, mg "MOST_LETTERS" = some (.int 3 t)
  i_MOST_STATES : ∃ t, mg "MOST_STATES" = some (.int 4 t)
  i_MOST_SUM : ∃ t, mg "MOST_SUM" = some (.int 40 t)
  i_MOST_THREE : ∃ t, mg "MOST_THREE" = some (.int 3 t)
  i_MOST_WIDE : ∃ t, mg "MOST_WIDE" = some (.int 200 t)
  s_ALPHABET : ∃ t, mg "ALPHABET" = some (.str "abcdefghijklmnopqrstuvwxyz" t)
  d_is_within : HasD K mg "is_within" (top 19)
  d_are_letters : HasD K mg "are_letters" (top 20)
  d_are_ends : HasD K mg "are_ends" (top 21)
  d_is_row : HasD K mg "is_row" (top 22)
  d_is_wide_of : HasD K mg "is_wide_of" (top 23)
  d_is_wide : HasD K mg "is_wide" (top 24)
  d_is_machine : HasD K mg "is_machine" (top 25)
  d_need_wide : HasD K mg "need_wide" (top 26)
  d_need_machine : HasD K mg "need_machine" (top 27)
  d_reads : HasD K mg "reads" (top 32)
  d_least_of : HasD K mg "least_of" (top 37)
  d_unlike_word : HasD K mg "unlike_word" (top 39)
  d_word_for : HasD K mg "word_for" (top 48)
  d_pieces_of : HasD K mg "pieces_of" (top 58)
  d__law_spread : HasD K mg "_law_spread" (top 60)
  d__law_open : HasD K mg "_law_open" (top 61)
  d__law_take : HasD K mg "_law_take" (top 62)
  d__law_z_pick : HasD K mg "_law_z_pick" (top 63)
  d__law_z_letters : HasD K mg "_law_z_letters" (top 64)
  d__law_z_wide : HasD K mg "_law_z_wide" (top 65)
  d__law_z_machine : HasD K mg "_law_z_machine" (top 66)
  d__law_z_word : HasD K mg "_law_z_word" (top 67)
  d__law_z_between : HasD K mg "_law_z_between" (top 68)
  d__law_z_are_letters : HasD K mg "_law_z_are_letters" (top 69)
  d__law_z_are_ends : HasD K mg "_law_z_are_ends" (top 70)
  d__law_z_is_wide : HasD K mg "_law_z_is_wide" (top 71)
  d__law_z_is_machine : HasD K mg "_law_z_is_machine" (top 72)
  d__law_z_bent : HasD K mg "_law_z_bent" (top 73)
  d__law_z_long : HasD K mg "_law_z_long" (top 74)
variable {G : Gb}
/-! is_within -/
def N_is_within : List Str := ["thing", "least", "most"]
theorem sc_is_within : FnScope N_is_within ["thing", "least", "most"] (defScope (top 19)) := ⟨rfl, rfl, rfl, by decide +kernel, rfl, by decide +kernel, by decide +kernel⟩
def g_is_within : Sq → Fl := (retF (bv (tAndF (fB (f1 (gIsi .int) (fVar 0))) (tAndF (fB (bv (tNotF (fB (f1 (gIsi .bool) (fVar 0)))))) (fB (fChain (fun i j => decide (i ≤ j)) (fun i j => decide (i ≤ j)) (fVar 1) (fVar 0) (fVar 2)))))))
def F_is_within : Fd := runB 3 g_is_within
theorem d_is_within {X : Cx} {W : WX} (V : Fx G.K G.mg) (C : Cq G 0 N_is_within (defScope (top 19)) X) (hf : ∀ x, X.fn x = true) (tk : Takes X W) : DSs X W (defBody (top 19)) g_is_within :=
  (dss_one (ds_ret (de_and (de_isi .int C rfl rfl V.b_isinstance V.b_int (de_var 0 C)) (de_and (de_not (de_isi .bool C rfl rfl V.b_isinstance V.b_bool (de_var 0 C))) (de_one (de_chain op_le op_le (de_var 1 C) (de_var 0 C) (de_var 2 C)))))))
theorem h_is_within (V : Fx G.K G.mg) : Has G 1 "is_within" ["thing", "least", "most"] F_is_within := has_of V.d_is_within (fun _ _ _ _ _ _ us hl => match us, hl with | [_, _, _], _ => rfl) sc_is_within rfl fun X W C hf tk => d_is_within V C hf tk

/-! are_letters -/
def N_are_letters : List Str := ["thing", "one"]
theorem sc_are_letters : FnScope N_are_letters ["thing"] (defScope (top 20)) := ⟨rfl, rfl, rfl, by decide +kernel, rfl, by decide +kernel, by decide +kernel⟩
def g_are_letters : Sq → Fl := (seqF (ifF (tOrF (tNotF (fB (f1 (gIsi .str) (fVar 0)))) (tNotF (fB (fChain (fun i j => decide (i ≤ j)) (fun i j => decide (i ≤ j)) (fC (.int 1)) (f1 gLen (fVar 0)) (fC (.int 3)))))) (retF (fC (.bool false))) nxF) (retF (bv (tAndF (fB (fBin gEq (f1 gList (fVar 0)) (f1 gSset (fVar 0)))) (fB (f1 (gBools fun b => b.all id) (lcS (.nm 1) (itF (fVar 0)) yesF (fBin (gIn false) (fVar 1) (fC (.str "abcdefghijklmnopqrstuvwxyz"))) [1])))))))
def F_are_letters : Fd := runB 2 g_are_letters
theorem d_are_letters {X : Cx} {W : WX} (V : Fx G.K G.mg) (C : Cq G 0 N_are_letters (defScope (top 20)) X) (hf : ∀ x, X.fn x = true) (tk : Takes X W) : DSs X W (defBody (top 20)) g_are_letters :=
  (dss_cons (ds_if (dt_w (dw_or (dt_not (dt_val (de_isi .str C rfl rfl V.b_isinstance V.b_str (de_var 0 C)))) (dw_or1 (dt_not (dt_chain op_le op_le de_int (de_callB call_len does_len (glC C rfl) (mgC C V.b_len) (by decide +kernel) (de_var 0 C)) (de_globI (glC C rfl) (V.i_MOST_LETTERS.imp fun _ h => mgC C h))))))) (dss_one (ds_ret de_bl)) dss_nil) (dss_one (ds_ret (de_and (de_eq C (de_callTy (CallR.or call_list_of (call_list_strs C.calm)) does_list (glC C rfl) (mgC C V.b_list) (by decide +kernel) (de_var 0 C)) (de_sset C rfl rfl V.b_sorted V.b_set (de_var 0 C))) (de_one (de_callB (cr_all C.calm) (does_bools _) (glC C rfl) (mgC C V.b_all) (by decide +kernel) (de_lc (t := (.nm 1)) (own := [("one", 1)]) C (di_of (de_var 0 C)) (by decide +kernel) (fun X1 C1 f1 => (dg_nm 1 C1 rfl (Or.inl rfl) (Or.inr rfl))) (fun X1 C1 k1 => dts_nil) (fun X1 C1 k1 => (de_in C1 (de_var 1 C1) (de_globS (glC C1 rfl) (V.s_ALPHABET.imp fun _ h => mgC C1 h)))))))))))
theorem h_are_letters (V : Fx G.K G.mg) : Has G 1 "are_letters" ["thing"] F_are_letters := has_of V.d_are_letters (fun _ _ _ _ _ _ us hl => match us, hl with | [_], _ => rfl) sc_are_letters rfl fun X W C hf tk => d_are_letters V C hf tk

/-! are_ends -/
def N_are_ends : List Str := ["thing", "many", "one"]
theorem sc_are_ends : FnScope N_are_ends ["thing", "many"] (defScope (top 21)) := ⟨rfl, rfl, rfl, by decide +kernel, rfl, by decide +kernel, by decide +kernel⟩
def g_are_ends : Sq → Fl := (seqF (ifF (tOrF (tNotF (fB (f1 (gIsi .tuple) (fVar 0)))) (tNotF (fB (f1 (gBools fun b => b.all id) (lcS (.nm 2) (itF (fVar 0)) yesF (callF F_is_within (fCons (fVar 2) (fCons (fC (.int 0)) (fCons (fBin gSub (fVar 1) (fC (.int 1))) fNil)))) [2]))))) (retF (fC (.bool false))) nxF) (retF (fBin gEq (f1 gList (fVar 0)) (f1 gSset (fVar 0)))))
def F_are_ends : Fd := runB 3 g_are_ends
theorem d_are_ends {X : Cx} {W : WX} (V : Fx G.K G.mg) (C : Cq G 1 N_are_ends (defScope (top 21)) X) (hf : ∀ x, X.fn x = true) (tk : Takes X W) : DSs X W (defBody (top 21)) g_are_ends :=
  (dss_cons (ds_if (dt_w (dw_or (dt_not (dt_val (de_isi .tuple C rfl rfl V.b_isinstance V.b_tuple (de_var 0 C)))) (dw_or1 (dt_not (dt_val (de_callB (cr_all C.calm) (does_bools _) (glC C rfl) (mgC C V.b_all) (by decide +kernel) (de_lc (t := (.nm 2)) (own := [("one", 2)]) C (di_of (de_var 0 C)) (by decide +kernel) (fun X1 C1 f1 => (dg_nm 2 C1 rfl (Or.inl rfl) (Or.inr rfl))) (fun X1 C1 k1 => dts_nil) (fun X1 C1 k1 => (de_callH C1 k1 (h_is_within V) (by decide) rfl rfl (da_cons (de_var 2 C1) (da_cons de_int (da_cons (de_sub (de_var 1 C1) de_int) da_nil))) (fl_cons (fl_cons (fl_cons fl_nil)))))))))))) (dss_one (ds_ret de_bl)) dss_nil) (dss_one (ds_ret (de_eq C (de_callTy (CallR.or call_list_of (call_list_strs C.calm)) does_list (glC C rfl) (mgC C V.b_list) (by decide +kernel) (de_var 0 C)) (de_sset C rfl rfl V.b_sorted V.b_set (de_var 0 C))))))
theorem h_are_ends (V : Fx G.K G.mg) : Has G 2 "are_ends" ["thing", "many"] F_are_ends := has_of V.d_are_ends (fun _ _ _ _ _ _ us hl => match us, hl with | [_, _], _ => rfl) sc_are_ends rfl fun X W C hf tk => d_are_ends V C hf tk

/-! is_row -/
def N_is_row : List Str := ["thing", "letters", "many", "one"]
theorem sc_is_row : FnScope N_is_row ["thing", "letters", "many"] (defScope (top 22)) := ⟨rfl, rfl, rfl, by decide +kernel, rfl, by decide +kernel, by decide +kernel⟩
def g_is_row : Sq → Fl := (seqF (ifF (tOrF (tNotF (fB (f1 (gIsi .tuple) (fVar 0)))) (fB (fBin gNe (f1 gLen (fVar 0)) (f1 gLen (fVar 1))))) (retF (fC (.bool false))) nxF) (retF (f1 (gBools fun b => b.all id) (lcS (.nm 3) (itF (fVar 0)) yesF (bv (tOrF (fB (fSlN 3 false)) (fB (callF F_is_within (fCons (fVar 3) (fCons (fC (.int 0)) (fCons (fBin gSub (fVar 2) (fC (.int 1))) fNil))))))) [3]))))
def F_is_row : Fd := runB 4 g_is_row
theorem d_is_row {X : Cx} {W : WX} (V : Fx G.K G.mg) (C : Cq G 1 N_is_row (defScope (top 22)) X) (hf : ∀ x, X.fn x = true) (tk : Takes X W) : DSs X W (defBody (top 22)) g_is_row :=
  (dss_cons (ds_if (dt_w (dw_or (dt_not (dt_val (de_isi .tuple C rfl rfl V.b_isinstance V.b_tuple (de_var 0 C)))) (dw_or1 (dt_ne C (de_callB call_len does_len (glC C rfl) (mgC C V.b_len) (by decide +kernel) (de_var 0 C)) (de_callB call_len does_len (glC C rfl) (mgC C V.b_len) (by decide +kernel) (de_var 1 C)))))) (dss_one (ds_ret de_bl)) dss_nil) (dss_one (ds_ret (de_callB (cr_all C.calm) (does_bools _) (glC C rfl) (mgC C V.b_all) (by decide +kernel) (de_lc (t := (.nm 3)) (own := [("one", 3)]) C (di_of (de_var 0 C)) (by decide +kernel) (fun X1 C1 f1 => (dg_nm 3 C1 rfl (Or.inl rfl) (Or.inr rfl))) (fun X1 C1 k1 => dts_nil) (fun X1 C1 k1 => (de_or (de_slN 3 C1) (de_one (de_callH C1 k1 (h_is_within V) (by decide) rfl rfl (da_cons (de_var 3 C1) (da_cons de_int (da_cons (de_sub (de_var 2 C1) de_int) da_nil))) (fl_cons (fl_cons (fl_cons fl_nil))))))))))))
theorem h_is_row (V : Fx G.K G.mg) : Has G 2 "is_row" ["thing", "letters", "many"] F_is_row := has_of V.d_is_row (fun _ _ _ _ _ _ us hl => match us, hl with | [_, _, _], _ => rfl) sc_is_row rfl fun X W C hf tk => d_is_row V C hf tk

/-! is_wide_of -/
def N_is_wide_of : List Str := ["thing", "most", "many", "one"]
theorem sc_is_wide_of : FnScope N_is_wide_of ["thing", "most"] (defScope (top 23)) := ⟨rfl, rfl, rfl, by decide +kernel, rfl, by decide +kernel, by decide +kernel⟩
def g_is_wide_of : Sq → Fl := (seqF (ifF (tOrF (tNotF (fB (f1 (gIsi .tuple) (fVar 0)))) (tOrF (fB (fBin gNe (f1 gLen (fVar 0)) (fC (.int 3)))) (tNotF (fB (callF F_are_letters (fCons (fBin gIx (fVar 0) (fC (.int 0))) fNil)))))) (retF (fC (.bool false))) nxF) (seqF (ifF (tOrF (tNotF (fB (f1 (gIsi .tuple) (fBin gIx (fVar 0) (fC (.int 1)))))) (tNotF (fB (fChain (fun i j => decide (i ≤ j)) (fun i j => decide (i ≤ j)) (fC (.int 1)) (f1 gLen (fBin gIx (fVar 0) (fC (.int 1)))) (fVar 1))))) (retF (fC (.bool false))) nxF) (seqF (setF 2 (f1 gLen (fBin gIx (fVar 0) (fC (.int 1))))) (retF (bv (tAndF (fB (f1 (gBools fun b => b.all id) (lcS (.nm 3) (itF (fBin gIx (fVar 0) (fC (.int 1)))) yesF (callF F_is_row (fCons (fVar 3) (fCons (fBin gIx (fVar 0) (fC (.int 0))) (fCons (fVar 2) fNil)))) [3]))) (fB (callF F_are_ends (fCons (fBin gIx (fVar 0) (fC (.int 2))) (fCons (fVar 2) fNil))))))))))
def F_is_wide_of : Fd := runB 4 g_is_wide_of
theorem d_is_wide_of {X : Cx} {W : WX} (V : Fx G.K G.mg) (C : Cq G 2 N_is_wide_of (defScope (top 23)) X) (hf : ∀ x, X.fn x = true) (tk : Takes X W) : DSs X W (defBody (top 23)) g_is_wide_of :=
  (dss_cons (ds_if (dt_w (dw_or (dt_not (dt_val (de_isi .tuple C rfl rfl V.b_isinstance V.b_tuple (de_var 0 C)))) (dw_or (dt_ne C (de_callB call_len does_len (glC C rfl) (mgC C V.b_len) (by decide +kernel) (de_var 0 C)) de_int) (dw_or1 (dt_not (dt_val (de_callH C tk (h_are_letters V) (by decide) rfl rfl (da_cons (de_ix (de_var 0 C) de_int) da_nil) (fl_cons fl_nil)))))))) (dss_one (ds_ret de_bl)) dss_nil) (dss_cons (ds_if (dt_w (dw_or (dt_not (dt_val (de_isi .tuple C rfl rfl V.b_isinstance V.b_tuple (de_ix (de_var 0 C) de_int)))) (dw_or1 (dt_not (dt_chain op_le op_le de_int (de_callB call_len does_len (glC C rfl) (mgC C V.b_len) (by decide +kernel) (de_ix (de_var 0 C) de_int)) (de_var 1 C)))))) (dss_one (ds_ret de_bl)) dss_nil) (dss_cons (ds_set 2 C (de_callB call_len does_len (glC C rfl) (mgC C V.b_len) (by decide +kernel) (de_ix (de_var 0 C) de_int)) (hf := .inl (hf _))) (dss_one (ds_ret (de_and (de_callB (cr_all C.calm) (does_bools _) (glC C rfl) (mgC C V.b_all) (by decide +kernel) (de_lc (t := (.nm 3)) (own := [("one", 3)]) C (di_of (de_ix (de_var 0 C) de_int)) (by decide +kernel) (fun X1 C1 f1 => (dg_nm 3 C1 rfl (Or.inl rfl) (Or.inr rfl))) (fun X1 C1 k1 => dts_nil) (fun X1 C1 k1 => (de_callH C1 k1 (h_is_row V) (by decide) rfl rfl (da_cons (de_var 3 C1) (da_cons (de_ix (de_var 0 C1) de_int) (da_cons (de_var 2 C1) da_nil))) (fl_cons (fl_cons (fl_cons fl_nil))))))) (de_one (de_callH C tk (h_are_ends V) (by decide) rfl rfl (da_cons (de_ix (de_var 0 C) de_int) (da_cons (de_var 2 C) da_nil)) (fl_cons (fl_cons fl_nil))))))))))
theorem h_is_wide_of (V : Fx G.K G.mg) : Has G 3 "is_wide_of" ["thing", "most"] F_is_wide_of := has_of V.d_is_wide_of (fun _ _ _ _ _ _ us hl => match us, hl with | [_, _], _ => rfl) sc_is_wide_of rfl fun X W C hf tk => d_is_wide_of V C hf tk

/-! is_wide -/
def N_is_wide : List Str := ["thing"]
theorem sc_is_wide : FnScope N_is_wide ["thing"] (defScope (top 24)) := ⟨rfl, rfl, rfl, by decide +kernel, rfl, by decide +kernel, by decide +kernel⟩
def g_is_wide : Sq → Fl := (retF (callF F_is_wide_of (fCons (fVar 0) (fCons (fC (.int 200)) fNil))))
def F_is_wide : Fd := runB 1 g_is_wide
theorem d_is_wide {X : Cx} {W : WX} (V : Fx G.K G.mg) (C : Cq G 3 N_is_wide (defScope (top 24)) X) (hf : ∀ x, X.fn x = true) (tk : Takes X W) : DSs X W (defBody (top 24)) g_is_wide :=
  (dss_one (ds_ret (de_callH C tk (h_is_wide_of V) (by decide) rfl rfl (da_cons (de_var 0 C) (da_cons (de_globI (glC C rfl) (V.i_MOST_WIDE.imp fun _ h => mgC C h)) da_nil)) (fl_cons (fl_cons fl_nil)))))
theorem h_is_wide (V : Fx G.K G.mg) : Has G 4 "is_wide" ["thing"] F_is_wide := has_of V.d_is_wide (fun _ _ _ _ _ _ us hl => match us, hl with | [_], _ => rfl) sc_is_wide rfl fun X W C hf tk => d_is_wide V C hf tk

/-! is_machine -/
def N_is_machine : List Str := ["thing"]
theorem sc_is_machine : FnScope N_is_machine ["thing"] (defScope (top 25)) := ⟨rfl, rfl, rfl, by decide +kernel, rfl, by decide +kernel, by decide +kernel⟩
def g_is_machine : Sq → Fl := (retF (bv (tAndF (fB (callF F_is_wide_of (fCons (fVar 0) (fCons (fC (.int 4)) fNil)))) (fB (bv (tOrF (fB (fBin gLt (f1 gLen (fBin gIx (fVar 0) (fC (.int 0)))) (fC (.int 3)))) (fB (fBin gLe (f1 gLen (fBin gIx (fVar 0) (fC (.int 1)))) (fC (.int 3))))))))))
def F_is_machine : Fd := runB 1 g_is_machine
theorem d_is_machine {X : Cx} {W : WX} (V : Fx G.K G.mg) (C : Cq G 3 N_is_machine (defScope (top 25)) X) (hf : ∀ x, X.fn x = true) (tk : Takes X W) : DSs X W (defBody (top 25)) g_is_machine :=
  (dss_one (ds_ret (de_and (de_callH C tk (h_is_wide_of V) (by decide) rfl rfl (da_cons (de_var 0 C) (da_cons (de_globI (glC C rfl) (V.i_MOST_STATES.imp fun _ h => mgC C h)) da_nil)) (fl_cons (fl_cons fl_nil))) (de_one (de_or (de_lt (de_callB call_len does_len (glC C rfl) (mgC C V.b_len) (by decide +kernel) (de_ix (de_var 0 C) de_int)) (de_globI (glC C rfl) (V.i_MOST_LETTERS.imp fun _ h => mgC C h))) (de_one (de_le (de_callB call_len does_len (glC C rfl) (mgC C V.b_len) (by decide +kernel) (de_ix (de_var 0 C) de_int)) (de_globI (glC C rfl) (V.i_MOST_THREE.imp fun _ h => mgC C h)))))))))
theorem h_is_machine (V : Fx G.K G.mg) : Has G 4 "is_machine" ["thing"] F_is_machine := has_of V.d_is_machine (fun _ _ _ _ _ _ us hl => match us, hl with | [_], _ => rfl) sc_is_machine rfl fun X W C hf tk => d_is_machine V C hf tk

/-! need_wide -/
def N_need_wide : List Str := ["wide"]
theorem sc_need_wide : FnScope N_need_wide ["wide"] (defScope (top 26)) := ⟨rfl, rfl, rfl, by decide +kernel, rfl, by decide +kernel, by decide +kernel⟩
def g_need_wide : Sq → Fl := (ifF (tNotF (fB (callF F_is_wide (fCons (fVar 0) fNil)))) (raiseF "NoWide") nxF)
def F_need_wide : Fd := runB 1 g_need_wide
theorem d_need_wide {X : Cx} {W : WX} (V : Fx G.K G.mg) (C : Cq G 4 N_need_wide (defScope (top 26)) X) (hf : ∀ x, X.fn x = true) (tk : Takes X W) : DSs X W (defBody (top 26)) g_need_wide :=
  (dss_one (ds_if (dt_not (dt_val (de_callH C tk (h_is_wide V) (by decide) rfl rfl (da_cons (de_var 0 C) da_nil) (fl_cons fl_nil)))) (dss_one (ds_raiseG C tk V.e_NoWide rfl)) dss_nil))
theorem h_need_wide (V : Fx G.K G.mg) : Has G 5 "need_wide" ["wide"] F_need_wide := has_of V.d_need_wide (fun _ _ _ _ _ _ us hl => match us, hl with | [_], _ => rfl) sc_need_wide rfl fun X W C hf tk => d_need_wide V C hf tk

/-! need_machine -/
def N_need_machine : List Str := ["machine"]
theorem sc_need_machine : FnScope N_need_machine ["machine"] (defScope (top 27)) := ⟨rfl, rfl, rfl, by decide +kernel, rfl, by decide +kernel, by decide +kernel⟩
def g_need_machine : Sq → Fl := (ifF (tNotF (fB (callF F_is_machine (fCons (fVar 0) fNil)))) (raiseF "NoMachine") nxF)
def F_need_machine : Fd := runB 1 g_need_machine
theorem d_need_machine {X : Cx} {W : WX} (V : Fx G.K G.mg) (C : Cq G 4 N_need_machine (defScope (top 27)) X) (hf : ∀ x, X.fn x = true) (tk : Takes X W) : DSs X W (defBody (top 27)) g_need_machine :=
  (dss_one (ds_if (dt_not (dt_val (de_callH C tk (h_is_machine V) (by decide) rfl rfl (da_cons (de_var 0 C) da_nil) (fl_cons fl_nil)))) (dss_one (ds_raiseG C tk V.e_NoMachine rfl)) dss_nil))
theorem h_need_machine (V : Fx G.K G.mg) : Has G 5 "need_machine" ["machine"] F_need_machine := has_of V.d_need_machine (fun _ _ _ _ _ _ us hl => match us, hl with | [_], _ => rfl) sc_need_machine rfl fun X W C hf tk => d_need_machine V C hf tk

/-! reads -/
def N_reads : List Str := ["wide", "word"]
theorem sc_reads : FnScope N_reads ["wide", "word"] (defScope (top 32)) := ⟨rfl, rfl, rfl, by decide +kernel, rfl, by decide +kernel, by decide +kernel⟩
def g_reads : Sq → Fl := (seqF (dropF (callF F_need_wide (fCons (fVar 0) fNil))) (seqF (dropF fNo) (retF (fBin (gIn false) fNo (fBin gIx (fVar 0) (fC (.int 2)))))))
def F_reads : Fd := runB 2 g_reads
theorem d_reads {X : Cx} {W : WX} (V : Fx G.K G.mg) (C : Cq G 5 N_reads (defScope (top 32)) X) (hf : ∀ x, X.fn x = true) (tk : Takes X W) : DSs X W (defBody (top 32)) g_reads :=
  (dss_cons (ds_expr (de_callH C tk (h_need_wide V) (by decide) rfl rfl (da_cons (de_var 0 C) da_nil) (fl_cons fl_nil))) (dss_cons (ds_expr de_no) (dss_one (ds_ret (de_in C de_no (de_ix (de_var 0 C) de_int))))))
theorem h_reads (V : Fx G.K G.mg) : Has G 6 "reads" ["wide", "word"] F_reads := has_of V.d_reads (fun _ _ _ _ _ _ us hl => match us, hl with | [_, _], _ => rfl) sc_reads rfl fun X W C hf tk => d_reads V C hf tk

/-! least_of -/
def N_least_of : List Str := ["wide"]
theorem sc_least_of : FnScope N_least_of ["wide"] (defScope (top 37)) := ⟨rfl, rfl, rfl, by decide +kernel, rfl, by decide +kernel, by decide +kernel⟩
def g_least_of : Sq → Fl := (seqF (dropF (callF F_need_wide (fCons (fVar 0) fNil))) (retF fNo))
def F_least_of : Fd := runB 1 g_least_of
theorem d_least_of {X : Cx} {W : WX} (V : Fx G.K G.mg) (C : Cq G 5 N_least_of (defScope (top 37)) X) (hf : ∀ x, X.fn x = true) (tk : Takes X W) : DSs X W (defBody (top 37)) g_least_of :=
  (dss_cons (ds_expr (de_callH C tk (h_need_wide V) (by decide) rfl rfl (da_cons (de_var 0 C) da_nil) (fl_cons fl_nil))) (dss_one (ds_ret de_no)))
theorem h_least_of (V : Fx G.K G.mg) : Has G 6 "least_of" ["wide"] F_least_of := has_of V.d_least_of (fun _ _ _ _ _ _ us hl => match us, hl with | [_], _ => rfl) sc_least_of rfl fun X W C hf tk => d_least_of V C hf tk

/-! unlike_word -/
def N_unlike_word : List Str := ["wide", "other", "words", "order", "done", "pair", "at", "letter", "after"]
theorem sc_unlike_word : FnScope N_unlike_word ["wide", "other"] (defScope (top 39)) := ⟨rfl, rfl, rfl, by decide +kernel, rfl, by decide +kernel, by decide +kernel⟩
def g_unlike_word : Sq → Fl := (seqF (dropF (callF F_need_wide (fCons (fVar 0) fNil))) (seqF (dropF (callF F_need_wide (fCons (fVar 1) fNil))) (seqF (dropF fNo) (seqF (par3D 2 3 4 (fCons fNo (fCons (fLst (fCons (fTup (fCons (fC (.int 0)) (fCons (fC (.int 0)) fNil))) fNil)) (fCons (fC (.int 0)) fNil)))) (seqF (whF (fB (fBin gLt (fVar 4) (f1 gLen (fVar 3)))) (seqF (setF 5 (fBin gIx (fVar 3) (fVar 4))) (seqF (setF 4 (fBin gAdd (fVar 4) (fC (.int 1)))) (seqF (ifF (fB (fBin gNe (fBin (gIn false) (fBin gIx (fVar 5) (fC (.int 0))) (fBin gIx (fVar 0) (fC (.int 2)))) (fBin (gIn false) (fBin gIx (fVar 5) (fC (.int 1))) (fBin gIx (fVar 1) (fC (.int 2)))))) (retF (fBin gIx (fVar 2) (fVar 5))) nxF) (forS (.tp [6, 7]) (enumA (fBin gIx (fVar 0) (fC (.int 0)))) (seqF (setF 8 fNo) (ifF (fB (fBin (gIn true) (fVar 8) (fVar 2))) (seqF (setLF 2 (fBin gAdd (fBin gIx (fVar 2) (fVar 5)) (fVar 7)) (fVar 8)) (appF 3 (fVar 8))) nxF)))))) 100) (retF (fC .none)))))))
def F_unlike_word : Fd := runB 9 g_unlike_word
theorem d_unlike_word {X : Cx} {W : WX} (V : Fx G.K G.mg) (C : Cq G 5 N_unlike_word (defScope (top 39)) X) (hf : ∀ x, X.fn x = true) (tk : Takes X W) : DSs X W (defBody (top 39)) g_unlike_word :=
  (dss_cons (ds_expr (de_callH C tk (h_need_wide V) (by decide) rfl rfl (da_cons (de_var 0 C) da_nil) (fl_cons fl_nil))) (dss_cons (ds_expr (de_callH C tk (h_need_wide V) (by decide) rfl rfl (da_cons (de_var 1 C) da_nil) (fl_cons fl_nil))) (dss_cons (ds_expr de_no) (dss_cons (ds_par3D 2 3 4 C (da_cons de_no (da_cons (de_lst (da_cons (de_tup (da_cons de_int (da_cons de_int da_nil))) da_nil)) (da_cons de_int da_nil))) (hw := sw_of C rfl)) (dss_cons (ds_while 100 C (dt_lt (de_var 4 C) (de_callB call_len does_len (glC C rfl) (mgC C V.b_len) (by decide +kernel) (de_var 3 C))) (dss_cons (ds_set 5 C (de_ix (de_var 3 C) (de_var 4 C)) (hf := .inl (hf _))) (dss_cons (ds_set 4 C (de_add (de_var 4 C) de_int) (hf := .inl (hf _))) (dss_cons (ds_if (dt_ne C (de_in C (de_ix (de_var 5 C) de_int) (de_ix (de_var 0 C) de_int)) (de_in C (de_ix (de_var 5 C) de_int) (de_ix (de_var 1 C) de_int))) (dss_one (ds_ret (de_ix (de_var 2 C) (de_var 5 C)))) dss_nil) (dss_one (ds_for (t := (.tp [6, 7])) C (di_enumA (glC C rfl) (mgC C V.b_enumerate) (de_ix (de_var 0 C) de_int)) (dg_tp [6, 7] C (dgs_cons 6 C rfl (Or.inl rfl) (Or.inr rfl) (dgs_cons 7 C rfl (Or.inl rfl) (Or.inr rfl) dgs_nil))) (dss_cons (ds_set 8 C de_no (hf := .inl (hf _))) (dss_one (ds_if (dt_notIn C (de_var 8 C) (de_var 2 C)) (dss_cons (ds_setL 2 C (de_add (de_ix (de_var 2 C) (de_var 5 C)) (de_var 7 C)) (de_var 8 C)) (dss_one (ds_append 3 C (de_var 8 C)))) dss_nil))))))))) (dss_one (ds_ret de_non)))))))
theorem h_unlike_word (V : Fx G.K G.mg) : Has G 6 "unlike_word" ["wide", "other"] F_unlike_word := has_of V.d_unlike_word (fun _ _ _ _ _ _ us hl => match us, hl with | [_, _], _ => rfl) sc_unlike_word rfl fun X W C hf tk => d_unlike_word V C hf tk

/-! word_for -/
def N_word_for : List Str := ["machine", "counts"]
theorem sc_word_for : FnScope N_word_for ["machine", "counts"] (defScope (top 48)) := ⟨rfl, rfl, rfl, by decide +kernel, rfl, by decide +kernel, by decide +kernel⟩
def g_word_for : Sq → Fl := (seqF (dropF (callF F_need_machine (fCons (fVar 0) fNil))) (seqF (dropF fNo) (seqF (ifF (fB (fBin gGt (f1 gSum (fVar 1)) (fC (.int 40)))) (raiseF "TooGreat") nxF) (retF fNo))))
def F_word_for : Fd := runB 2 g_word_for
theorem d_word_for {X : Cx} {W : WX} (V : Fx G.K G.mg) (C : Cq G 5 N_word_for (defScope (top 48)) X) (hf : ∀ x, X.fn x = true) (tk : Takes X W) : DSs X W (defBody (top 48)) g_word_for :=
  (dss_cons (ds_expr (de_callH C tk (h_need_machine V) (by decide) rfl rfl (da_cons (de_var 0 C) da_nil) (fl_cons fl_nil))) (dss_cons (ds_expr de_no) (dss_cons (ds_if (dt_gt (de_callB (cr_sum C.calm) does_sum (glC C rfl) (mgC C V.b_sum) (by decide +kernel) (de_var 1 C)) (de_globI (glC C rfl) (V.i_MOST_SUM.imp fun _ h => mgC C h))) (dss_one (ds_raiseG C tk V.e_TooGreat rfl)) dss_nil) (dss_one (ds_ret de_no)))))
theorem h_word_for (V : Fx G.K G.mg) : Has G 6 "word_for" ["machine", "counts"] F_word_for := has_of V.d_word_for (fun _ _ _ _ _ _ us hl => match us, hl with | [_, _], _ => rfl) sc_word_for rfl fun X W C hf tk => d_word_for V C hf tk

/-! pieces_of -/
def N_pieces_of : List Str := ["machine", "found", "bases", "periods", "base"]
theorem sc_pieces_of : FnScope N_pieces_of ["machine"] (defScope (top 58)) := ⟨rfl, rfl, rfl, by decide +kernel, rfl, by decide +kernel, by decide +kernel⟩
def g_pieces_of : Sq → Fl := (seqF (dropF (callF F_need_machine (fCons (fVar 0) fNil))) (seqF (setF 1 (fLst fNil)) (seqF (forS (.tp [2, 3]) (itF fNo) (dropF fNo)) (retF (fVar 1)))))
def F_pieces_of : Fd := runB 5 g_pieces_of
theorem d_pieces_of {X : Cx} {W : WX} (V : Fx G.K G.mg) (C : Cq G 5 N_pieces_of (defScope (top 58)) X) (hf : ∀ x, X.fn x = true) (tk : Takes X W) : DSs X W (defBody (top 58)) g_pieces_of :=
  (dss_cons (ds_expr (de_callH C tk (h_need_machine V) (by decide) rfl rfl (da_cons (de_var 0 C) da_nil) (fl_cons fl_nil))) (dss_cons (ds_set 1 C (de_lst da_nil) (hf := .inl (hf _))) (dss_cons (ds_for (t := (.tp [2, 3])) C (di_of de_no) (dg_tp [2, 3] C (dgs_cons 2 C rfl (Or.inl rfl) (Or.inr rfl) (dgs_cons 3 C rfl (Or.inr rfl) (Or.inl (hf _)) dgs_nil))) (dss_one (ds_expr de_no))) (dss_one (ds_ret (de_var 1 C))))))
theorem h_pieces_of (V : Fx G.K G.mg) : Has G 6 "pieces_of" ["machine"] F_pieces_of := has_of V.d_pieces_of (fun _ _ _ _ _ _ us hl => match us, hl with | [_], _ => rfl) sc_pieces_of rfl fun X W C hf tk => d_pieces_of V C hf tk

/-! _law_spread -/
def N__law_spread : List Str := ["_law_cell", "_law_at", "_law_primes", "_law_one", "_law_two", "_law_three"]
theorem sc__law_spread : FnScope N__law_spread ["_law_cell", "_law_at"] (defScope (top 60)) := ⟨rfl, rfl, rfl, by decide +kernel, rfl, by decide +kernel, by decide +kernel⟩
def g__law_spread : Sq → Fl := (seqF (ifF (fB (fBin gGe (fVar 0) (fBin gPow (fC (.int 10)) (fC (.int 18))))) (retF (fVar 0)) nxF) (seqF (setF 2 (fLst (fCons (fC (.int 2147483629)) (fCons (fC (.int 2147483587)) (fCons (fC (.int 2147483579)) (fCons (fC (.int 2147483563)) (fCons (fC (.int 2147483549)) (fCons (fC (.int 2147483543)) (fCons (fC (.int 2147483497)) (fCons (fC (.int 2147483489)) fNil)))))))))) (seqF (setF 2 (fBin gAdd (fVar 2) (fLst (fCons (fC (.int 2147483477)) (fCons (fC (.int 2147483423)) (fCons (fC (.int 2147483399)) (fCons (fC (.int 2147483353)) (fCons (fC (.int 2147483323)) fNil)))))))) (seqF (setF 3 (fBin gMulA (fBin gMod (f1 gInt1 (fVar 0)) (fC (.int 1000000007))) (fBin gAdd (fBin gMulA (fC (.int 2)) (fVar 1)) (fC (.int 69069))))) (seqF (setF 3 (fBin gMod (f1 gInt1 (fBin gPow (fBin gAdd (fBin gAdd (fVar 3) (fBin gMulA (fVar 1) (fC (.int 40503)))) (fC (.int 977))) (fC (.int 3)))) (fBin gIx (fVar 2) (fBin gMod (f1 gInt1 (fVar 1)) (fC (.int 13)))))) (seqF (setF 4 (fBin gMod (f1 gInt1 (fBin gPow (fBin gAdd (fBin gAdd (fBin gMulA (fVar 3) (fBin gAdd (fVar 1) (fC (.int 3)))) (fBin gMod (f1 gInt1 (fVar 0)) (fC (.int 65537)))) (fC (.int 5))) (fC (.int 5)))) (fBin gIx (fVar 2) (fBin gMod (f1 gInt1 (fBin gAdd (fVar 1) (fC (.int 5)))) (fC (.int 13)))))) (seqF (setF 5 (fBin gMod (f1 gInt1 (fBin gPow (fBin gAdd (fBin gAdd (fVar 4) (fBin gMod (f1 gInt1 (fVar 3)) (fC (.int 1009)))) (fVar 1)) (fC (.int 3)))) (fBin gIx (fVar 2) (fBin gMod (f1 gInt1 (fBin gAdd (fVar 1) (fC (.int 7)))) (fC (.int 13)))))) (retF (fBin gAdd (fBin gMulA (fBin gAdd (fBin gMulA (fVar 3) (fC (.int 2147483647))) (fVar 4)) (fC (.int 2147483647))) (fVar 5))))))))))
def F__law_spread : Fd := runB 6 g__law_spread
theorem d__law_spread {X : Cx} {W : WX} (V : Fx G.K G.mg) (C : Cq G 0 N__law_spread (defScope (top 60)) X) (hf : ∀ x, X.fn x = true) (tk : Takes X W) : DSs X W (defBody (top 60)) g__law_spread :=
  (dss_cons (ds_if (dt_ge (de_var 0 C) (de_pow de_int de_int)) (dss_one (ds_ret (de_var 0 C))) dss_nil) (dss_cons (ds_set 2 C (de_lst (da_cons de_int (da_cons de_int (da_cons de_int (da_cons de_int (da_cons de_int (da_cons de_int (da_cons de_int (da_cons de_int da_nil))))))))) (hf := .inl (hf _))) (dss_cons (ds_set 2 C (de_add (de_var 2 C) (de_lst (da_cons de_int (da_cons de_int (da_cons de_int (da_cons de_int (da_cons de_int da_nil))))))) (hf := .inl (hf _))) (dss_cons (ds_set 3 C (de_mulA (de_mod (de_callTy call_int1 does_int1 (glC C rfl) (mgC C V.b_int) (by decide +kernel) (de_var 0 C)) de_int) (de_add (de_mulA de_int (de_var 1 C)) de_int)) (hf := .inl (hf _))) (dss_cons (ds_set 3 C (de_mod (de_callTy call_int1 does_int1 (glC C rfl) (mgC C V.b_int) (by decide +kernel) (de_pow (de_add (de_add (de_var 3 C) (de_mulA (de_var 1 C) de_int)) de_int) de_int)) (de_ix (de_var 2 C) (de_mod (de_callTy call_int1 does_int1 (glC C rfl) (mgC C V.b_int) (by decide +kernel) (de_var 1 C)) de_int))) (hf := .inl (hf _))) (dss_cons (ds_set 4 C (de_mod (de_callTy call_int1 does_int1 (glC C rfl) (mgC C V.b_int) (by decide +kernel) (de_pow (de_add (de_add (de_mulA (de_var 3 C) (de_add (de_var 1 C) de_int)) (de_mod (de_callTy call_int1 does_int1 (glC C rfl) (mgC C V.b_int) (by decide +kernel) (de_var 0 C)) de_int)) de_int) de_int)) (de_ix (de_var 2 C) (de_mod (de_callTy call_int1 does_int1 (glC C rfl) (mgC C V.b_int) (by decide +kernel) (de_add (de_var 1 C) de_int)) de_int))) (hf := .inl (hf _))) (dss_cons (ds_set 5 C (de_mod (de_callTy call_int1 does_int1 (glC C rfl) (mgC C V.b_int) (by decide +kernel) (de_pow (de_add (de_add (de_var 4 C) (de_mod (de_callTy call_int1 does_int1 (glC C rfl) (mgC C V.b_int) (by decide +kernel) (de_var 3 C)) de_int)) (de_var 1 C)) de_int)) (de_ix (de_var 2 C) (de_mod (de_callTy call_int1 does_int1 (glC C rfl) (mgC C V.b_int) (by decide +kernel) (de_add (de_var 1 C) de_int)) de_int))) (hf := .inl (hf _))) (dss_one (ds_ret (de_add (de_mulA (de_add (de_mulA (de_var 3 C) de_int) (de_var 4 C)) de_int) (de_var 5 C)))))))))))
theorem h__law_spread (V : Fx G.K G.mg) : Has G 1 "_law_spread" ["_law_cell", "_law_at"] F__law_spread := has_of V.d__law_spread (fun _ _ _ _ _ _ us hl => match us, hl with | [_, _], _ => rfl) sc__law_spread rfl fun X W C hf tk => d__law_spread V C hf tk

/-! _law_open -/
def N__law_open : List Str := ["_law_script", "_law_cells", "_law_nth", "_law_cell"]
theorem sc__law_open : FnScope N__law_open ["_law_script"] (defScope (top 61)) := ⟨rfl, rfl, rfl, by decide +kernel, rfl, by decide +kernel, by decide +kernel⟩
def g__law_open : Sq → Fl := (seqF (setF 1 (f1 gList (fScr 0 none (some 12)))) (seqF (forS (.tp [2, 3]) (enumA (fScr 0 (some 12) (some 63))) (setLF 1 (fBin gAdd (fBin gIx (fVar 1) (fBin gMod (f1 gInt1 (fVar 2)) (fC (.int 12)))) (fVar 3)) (fBin gMod (f1 gInt1 (fVar 2)) (fC (.int 12))))) (retF (fLst (fCons (fVar 1) (fCons (fC (.int 0)) (fCons (fC (.int 0)) fNil)))))))
def F__law_open : Fd := runB 4 g__law_open
theorem d__law_open {X : Cx} {W : WX} (V : Fx G.K G.mg) (C : Cq G 0 N__law_open (defScope (top 61)) X) (hf : ∀ x, X.fn x = true) (tk : Takes X W) : DSs X W (defBody (top 61)) g__law_open :=
  (dss_cons (ds_set 1 C (de_callTy (CallR.or call_list_of (call_list_strs C.calm)) does_list (glC C rfl) (mgC C V.b_list) (by decide +kernel) (de_scr 0 C po_n po_i)) (hf := .inl (hf _))) (dss_cons (ds_for (t := (.tp [2, 3])) C (di_enumA (glC C rfl) (mgC C V.b_enumerate) (de_scr 0 C po_i po_i)) (dg_tp [2, 3] C (dgs_cons 2 C rfl (Or.inl rfl) (Or.inr rfl) (dgs_cons 3 C rfl (Or.inl rfl) (Or.inr rfl) dgs_nil))) (dss_one (ds_setL 1 C (de_add (de_ix (de_var 1 C) (de_mod (de_callTy call_int1 does_int1 (glC C rfl) (mgC C V.b_int) (by decide +kernel) (de_var 2 C)) de_int)) (de_var 3 C)) (de_mod (de_callTy call_int1 does_int1 (glC C rfl) (mgC C V.b_int) (by decide +kernel) (de_var 2 C)) de_int)))) (dss_one (ds_ret (de_lst (da_cons (de_var 1 C) (da_cons de_int (da_cons de_int da_nil))))))))
theorem h__law_open (V : Fx G.K G.mg) : Has G 1 "_law_open" ["_law_script"] F__law_open := has_of V.d__law_open (fun _ _ _ _ _ _ us hl => match us, hl with | [_], _ => rfl) sc__law_open rfl fun X W C hf tk => d__law_open V C hf tk

/-! _law_take -/
def N__law_take : List Str := ["_law_pen", "_law_many", "_law_at", "_law_cell", "_law_found"]
theorem sc__law_take : FnScope N__law_take ["_law_pen", "_law_many"] (defScope (top 62)) := ⟨rfl, rfl, rfl, by decide +kernel, rfl, by decide +kernel, by decide +kernel⟩
def g__law_take : Sq → Fl := (seqF (ifF (fB (fBin gLt (fPen 0 2) (fVar 1))) (seqF (setF 2 (fPen 0 1)) (seqF (setF 3 (fC (.int 0))) (seqF (ifF (fB (fBin gLt (fVar 2) (f1 gLen (fPen 0 0)))) (setF 3 (fBin gIx (fPen 0 0) (fVar 2))) (ifF (fB (fBin gGt (f1 gLen (fPen 0 0)) (fC (.int 0)))) (setF 3 (fBin gMod (f1 gInt1 (fBin gIx (fPen 0 0) (fBin gMod (f1 gInt1 (fBin gAdd (fBin gMulA (fVar 2) (fC (.int 5))) (fC (.int 3)))) (f1 gLen (fPen 0 0))))) (fBin gAdd (fBin gPow (fC (.int 10)) (fC (.int 17))) (fVar 2)))) nxF)) (seqF (penF 0 1 (fBin gAdd (fVar 2) (fC (.int 1)))) (penF 0 2 (callF F__law_spread (fCons (fVar 3) (fCons (fVar 2) fNil)))))))) nxF) (seqF (setF 4 (fBin gMod (f1 gInt1 (fPen 0 2)) (fVar 1))) (seqF (penF 0 2 (fBin gDiv (fPen 0 2) (fVar 1))) (retF (fVar 4)))))
def F__law_take : Fd := runB 5 g__law_take
theorem d__law_take {X : Cx} {W : WX} (V : Fx G.K G.mg) (C : Cq G 1 N__law_take (defScope (top 62)) X) (hf : ∀ x, X.fn x = true) (tk : Takes X W) : DSs X W (defBody (top 62)) g__law_take :=
  (dss_cons (ds_if (dt_lt (de_pen 0 C) (de_var 1 C)) (dss_cons (ds_set 2 C (de_pen 0 C) (hf := .inl (hf _))) (dss_cons (ds_set 3 C de_int (hf := .inl (hf _))) (dss_cons (ds_if (dt_lt (de_var 2 C) (de_callB call_len does_len (glC C rfl) (mgC C V.b_len) (by decide +kernel) (de_pen 0 C))) (dss_one (ds_set 3 C (de_ix (de_pen 0 C) (de_var 2 C)) (hf := .inl (hf _)))) (dss_one (ds_if (dt_gt (de_callB call_len does_len (glC C rfl) (mgC C V.b_len) (by decide +kernel) (de_pen 0 C)) de_int) (dss_one (ds_set 3 C (de_mod (de_callTy call_int1 does_int1 (glC C rfl) (mgC C V.b_int) (by decide +kernel) (de_ix (de_pen 0 C) (de_mod (de_callTy call_int1 does_int1 (glC C rfl) (mgC C V.b_int) (by decide +kernel) (de_add (de_mulA (de_var 2 C) de_int) de_int)) (de_callB call_len does_len (glC C rfl) (mgC C V.b_len) (by decide +kernel) (de_pen 0 C))))) (de_add (de_pow de_int de_int) (de_var 2 C))) (hf := .inl (hf _)))) dss_nil))) (dss_cons (ds_pen 0 C (de_add (de_var 2 C) de_int)) (dss_one (ds_pen 0 C (de_callH C tk (h__law_spread V) (by decide) rfl rfl (da_cons (de_var 3 C) (da_cons (de_var 2 C) da_nil)) (fl_cons (fl_cons fl_nil))))))))) dss_nil) (dss_cons (ds_set 4 C (de_mod (de_callTy call_int1 does_int1 (glC C rfl) (mgC C V.b_int) (by decide +kernel) (de_pen 0 C)) (de_var 1 C)) (hf := .inl (hf _))) (dss_cons (ds_pen 0 C (de_div (de_pen 0 C) (de_var 1 C))) (dss_one (ds_ret (de_var 4 C))))))
theorem h__law_take (V : Fx G.K G.mg) : Has G 2 "_law_take" ["_law_pen", "_law_many"] F__law_take := has_of V.d__law_take (fun _ _ _ _ _ _ us hl => match us, hl with | [_, _], _ => rfl) sc__law_take rfl fun X W C hf tk => d__law_take V C hf tk

/-! _law_z_pick -/
def N__law_z_pick : List Str := ["_law_pen", "_law_some"]
theorem sc__law_z_pick : FnScope N__law_z_pick ["_law_pen", "_law_some"] (defScope (top 63)) := ⟨rfl, rfl, rfl, by decide +kernel, rfl, by decide +kernel, by decide +kernel⟩
def g__law_z_pick : Sq → Fl := (retF (fBin gIx (fVar 1) (callF F__law_take (fCons (fVar 0) (fCons (f1 gLen (fVar 1)) fNil)))))
def F__law_z_pick : Fd := runB 2 g__law_z_pick
theorem d__law_z_pick {X : Cx} {W : WX} (V : Fx G.K G.mg) (C : Cq G 2 N__law_z_pick (defScope (top 63)) X) (hf : ∀ x, X.fn x = true) (tk : Takes X W) : DSs X W (defBody (top 63)) g__law_z_pick :=
  (dss_one (ds_ret (de_ix (de_var 1 C) (de_callH C tk (h__law_take V) (by decide) rfl rfl (da_cons (de_var 0 C) (da_cons (de_callB call_len does_len (glC C rfl) (mgC C V.b_len) (by decide +kernel) (de_var 1 C)) da_nil)) (fl_cons (fl_cons fl_nil))))))
theorem h__law_z_pick (V : Fx G.K G.mg) : Has G 3 "_law_z_pick" ["_law_pen", "_law_some"] F__law_z_pick := has_of V.d__law_z_pick (fun _ _ _ _ _ _ us hl => match us, hl with | [_, _], _ => rfl) sc__law_z_pick rfl fun X W C hf tk => d__law_z_pick V C hf tk

/-! _law_z_letters -/
def N__law_z_letters : List Str := ["_law_pen", "_law_i", "_law_alphabet", "_law_j", "_law_k"]
theorem sc__law_z_letters : FnScope N__law_z_letters ["_law_pen"] (defScope (top 64)) := ⟨rfl, rfl, rfl, by decide +kernel, rfl, by decide +kernel, by decide +kernel⟩
def g__law_z_letters : Sq → Fl := (seqF (parF 1 2 (callF F__law_take (fCons (fVar 0) (fCons (fC (.int 24)) fNil))) (fC (.str "abcdefghijklmnopqrstuvwxyz"))) (seqF (setF 3 (fBin gAdd (fBin gAdd (fVar 1) (fC (.int 1))) (callF F__law_take (fCons (fVar 0) (fCons (fBin gSub (fC (.int 24)) (fVar 1)) fNil))))) (seqF (setF 4 (fBin gAdd (fBin gAdd (fVar 3) (fC (.int 1))) (callF F__law_take (fCons (fVar 0) (fCons (fBin gSub (fC (.int 25)) (fVar 3)) fNil))))) (retF (fBin gAdd (fBin gIx (fVar 2) (fVar 1)) (callF F__law_z_pick (fCons (fVar 0) (fCons (fLst (fCons (fC (.str "")) (fCons (fBin gIx (fVar 2) (fVar 3)) (fCons (fBin gIx (fVar 2) (fVar 3)) (fCons (fBin gIx (fVar 2) (fVar 3)) (fCons (fBin gAdd (fBin gIx (fVar 2) (fVar 3)) (fBin gIx (fVar 2) (fVar 4))) fNil)))))) fNil))))))))
def F__law_z_letters : Fd := runB 5 g__law_z_letters
theorem d__law_z_letters {X : Cx} {W : WX} (V : Fx G.K G.mg) (C : Cq G 3 N__law_z_letters (defScope (top 64)) X) (hf : ∀ x, X.fn x = true) (tk : Takes X W) : DSs X W (defBody (top 64)) g__law_z_letters :=
  (dss_cons (ds_par 1 2 C (de_callH C tk (h__law_take V) (by decide) rfl rfl (da_cons (de_var 0 C) (da_cons de_int da_nil)) (fl_cons (fl_cons fl_nil))) de_str (hw := sw_of C rfl)) (dss_cons (ds_set 3 C (de_add (de_add (de_var 1 C) de_int) (de_callH C tk (h__law_take V) (by decide) rfl rfl (da_cons (de_var 0 C) (da_cons (de_sub de_int (de_var 1 C)) da_nil)) (fl_cons (fl_cons fl_nil)))) (hf := .inl (hf _))) (dss_cons (ds_set 4 C (de_add (de_add (de_var 3 C) de_int) (de_callH C tk (h__law_take V) (by decide) rfl rfl (da_cons (de_var 0 C) (da_cons (de_sub de_int (de_var 3 C)) da_nil)) (fl_cons (fl_cons fl_nil)))) (hf := .inl (hf _))) (dss_one (ds_ret (de_add (de_ix (de_var 2 C) (de_var 1 C)) (de_callH C tk (h__law_z_pick V) (by decide) rfl rfl (da_cons (de_var 0 C) (da_cons (de_lst (da_cons de_str (da_cons (de_ix (de_var 2 C) (de_var 3 C)) (da_cons (de_ix (de_var 2 C) (de_var 3 C)) (da_cons (de_ix (de_var 2 C) (de_var 3 C)) (da_cons (de_add (de_ix (de_var 2 C) (de_var 3 C)) (de_ix (de_var 2 C) (de_var 4 C))) da_nil)))))) da_nil)) (fl_cons (fl_cons fl_nil)))))))))
theorem h__law_z_letters (V : Fx G.K G.mg) : Has G 4 "_law_z_letters" ["_law_pen"] F__law_z_letters := has_of V.d__law_z_letters (fun _ _ _ _ _ _ us hl => match us, hl with | [_], _ => rfl) sc__law_z_letters rfl fun X W C hf tk => d__law_z_letters V C hf tk

/-! _law_z_wide -/
def N__law_z_wide : List Str := ["_law_pen", "_law_letters", "_law_most", "_law_many", "_law_states", "_law_none", "_law_state", "_law_row", "_law_letter", "_law_ends"]
theorem sc__law_z_wide : FnScope N__law_z_wide ["_law_pen", "_law_letters", "_law_most"] (defScope (top 65)) := ⟨rfl, rfl, rfl, by decide +kernel, rfl, by decide +kernel, by decide +kernel⟩
def g__law_z_wide : Sq → Fl := (seqF (parF 3 4 (fBin gAdd (fC (.int 1)) (callF F__law_take (fCons (fVar 0) (fCons (fVar 2) fNil)))) (fLst fNil)) (seqF (setF 5 (callF F__law_take (fCons (fVar 0) (fCons (fC (.int 4)) fNil)))) (seqF (forS (.nm 6) (rng1F (fVar 3)) (seqF (setF 7 (fLst fNil)) (seqF (forS (.nm 8) (itF (fVar 1)) (appF 7 (fIf (fB (fBin gLt (callF F__law_take (fCons (fVar 0) (fCons (fC (.int 6)) fNil))) (fVar 5))) (fC .none) (callF F__law_take (fCons (fVar 0) (fCons (fVar 3) fNil)))))) (appF 4 (f1 gTuple (fVar 7)))))) (seqF (setF 9 (lcS (.nm 6) (rng1F (fVar 3)) (fB (fBin gEq (callF F__law_take (fCons (fVar 0) (fCons (fC (.int 2)) fNil))) (fC (.int 0)))) (fVar 6) [6])) (retF (fTup (fCons (fVar 1) (fCons (f1 gTuple (fVar 4)) (fCons (f1 gTuple (fIf (tOrF (fB (fBin gEq (callF F__law_take (fCons (fVar 0) (fCons (fC (.int 6)) fNil))) (fC (.int 0)))) (fB (fBin gNe (fVar 9) (fLst fNil)))) (fVar 9) (fLst (fCons (fBin gSub (fVar 3) (fC (.int 1))) fNil)))) fNil)))))))))
def F__law_z_wide : Fd := runB 10 g__law_z_wide
theorem d__law_z_wide {X : Cx} {W : WX} (V : Fx G.K G.mg) (C : Cq G 2 N__law_z_wide (defScope (top 65)) X) (hf : ∀ x, X.fn x = true) (tk : Takes X W) : DSs X W (defBody (top 65)) g__law_z_wide :=
  (dss_cons (ds_par 3 4 C (de_add de_int (de_callH C tk (h__law_take V) (by decide) rfl rfl (da_cons (de_var 0 C) (da_cons (de_var 2 C) da_nil)) (fl_cons (fl_cons fl_nil)))) (de_lst da_nil) (hw := sw_of C rfl)) (dss_cons (ds_set 5 C (de_callH C tk (h__law_take V) (by decide) rfl rfl (da_cons (de_var 0 C) (da_cons de_int da_nil)) (fl_cons (fl_cons fl_nil))) (hf := .inl (hf _))) (dss_cons (ds_for (t := (.nm 6)) C (di_range1 (glC C rfl) (mgC C V.b_range) (de_var 3 C)) (dg_nm 6 C rfl (Or.inl rfl) (Or.inr rfl)) (dss_cons (ds_set 7 C (de_lst da_nil) (hf := .inl (hf _))) (dss_cons (ds_for (t := (.nm 8)) C (di_of (de_var 1 C)) (dg_nm 8 C rfl (Or.inl rfl) (Or.inr rfl)) (dss_one (ds_append 7 C (de_if (dt_lt (de_callH C tk (h__law_take V) (by decide) rfl rfl (da_cons (de_var 0 C) (da_cons de_int da_nil)) (fl_cons (fl_cons fl_nil))) (de_var 5 C)) de_non (de_callH C tk (h__law_take V) (by decide) rfl rfl (da_cons (de_var 0 C) (da_cons (de_var 3 C) da_nil)) (fl_cons (fl_cons fl_nil))))))) (dss_one (ds_append 4 C (de_callTy call_tuple_of does_tuple (glC C rfl) (mgC C V.b_tuple) (by decide +kernel) (de_var 7 C))))))) (dss_cons (ds_setLc 9 (t := (.nm 6)) (own := [("_law_state", 6)]) C (di_range1 (glC C rfl) (mgC C V.b_range) (de_var 3 C)) (by decide +kernel) (fun X1 C1 f1 => (dg_nm 6 C1 rfl (Or.inl rfl) (Or.inr rfl))) (fun X1 C1 k1 => (dts_one (dt_eq C1 (de_callH C1 k1 (h__law_take V) (by decide) rfl rfl (da_cons (de_var 0 C1) (da_cons de_int da_nil)) (fl_cons (fl_cons fl_nil))) de_int))) (fun X1 C1 k1 => (de_var 6 C1))) (dss_one (ds_ret (de_tup (da_cons (de_var 1 C) (da_cons (de_callTy call_tuple_of does_tuple (glC C rfl) (mgC C V.b_tuple) (by decide +kernel) (de_var 4 C)) (da_cons (de_callTy call_tuple_of does_tuple (glC C rfl) (mgC C V.b_tuple) (by decide +kernel) (de_if (dt_w (dw_or (dt_eq C (de_callH C tk (h__law_take V) (by decide) rfl rfl (da_cons (de_var 0 C) (da_cons de_int da_nil)) (fl_cons (fl_cons fl_nil))) de_int) (dw_or1 (dt_ne C (de_var 9 C) (de_lst da_nil))))) (de_var 9 C) (de_lst (da_cons (de_sub (de_var 3 C) de_int) da_nil)))) da_nil))))))))))
theorem h__law_z_wide (V : Fx G.K G.mg) : Has G 3 "_law_z_wide" ["_law_pen", "_law_letters", "_law_most"] F__law_z_wide := has_of V.d__law_z_wide (fun _ _ _ _ _ _ us hl => match us, hl with | [_, _, _], _ => rfl) sc__law_z_wide rfl fun X W C hf tk => d__law_z_wide V C hf tk

/-! _law_z_machine -/
def N__law_z_machine : List Str := ["_law_pen", "_law_letters"]
theorem sc__law_z_machine : FnScope N__law_z_machine ["_law_pen", "_law_letters"] (defScope (top 66)) := ⟨rfl, rfl, rfl, by decide +kernel, rfl, by decide +kernel, by decide +kernel⟩
def g__law_z_machine : Sq → Fl := (retF (callF F__law_z_wide (fCons (fVar 0) (fCons (fVar 1) (fCons (callF F__law_z_pick (fCons (fVar 0) (fCons (fBin gIx (fLst (fCons (fLst (fCons (fC (.int 4)) (fCons (fC (.int 4)) (fCons (fC (.int 4)) fNil)))) (fCons (fLst (fCons (fC (.int 2)) (fCons (fC (.int 3)) (fCons (fC (.int 4)) fNil)))) (fCons (fLst (fCons (fC (.int 1)) (fCons (fC (.int 2)) (fCons (fC (.int 2)) (fCons (fC (.int 3)) fNil))))) fNil)))) (fBin gSub (f1 gLen (fVar 1)) (fC (.int 1)))) fNil))) fNil)))))
def F__law_z_machine : Fd := runB 2 g__law_z_machine
theorem d__law_z_machine {X : Cx} {W : WX} (V : Fx G.K G.mg) (C : Cq G 3 N__law_z_machine (defScope (top 66)) X) (hf : ∀ x, X.fn x = true) (tk : Takes X W) : DSs X W (defBody (top 66)) g__law_z_machine :=
  (dss_one (ds_ret (de_callH C tk (h__law_z_wide V) (by decide) rfl rfl (da_cons (de_var 0 C) (da_cons (de_var 1 C) (da_cons (de_callH C tk (h__law_z_pick V) (by decide) rfl rfl (da_cons (de_var 0 C) (da_cons (de_ix (de_lst (da_cons (de_lst (da_cons de_int (da_cons de_int (da_cons de_int da_nil)))) (da_cons (de_lst (da_cons de_int (da_cons de_int (da_cons de_int da_nil)))) (da_cons (de_lst (da_cons de_int (da_cons de_int (da_cons de_int (da_cons de_int da_nil))))) da_nil)))) (de_sub (de_callB call_len does_len (glC C rfl) (mgC C V.b_len) (by decide +kernel) (de_var 1 C)) de_int)) da_nil)) (fl_cons (fl_cons fl_nil))) da_nil))) (fl_cons (fl_cons (fl_cons fl_nil))))))
theorem h__law_z_machine (V : Fx G.K G.mg) : Has G 4 "_law_z_machine" ["_law_pen", "_law_letters"] F__law_z_machine := has_of V.d__law_z_machine (fun _ _ _ _ _ _ us hl => match us, hl with | [_, _], _ => rfl) sc__law_z_machine rfl fun X W C hf tk => d__law_z_machine V C hf tk

/-! _law_z_word -/
def N__law_z_word : List Str := ["_law_act", "_law_caught", "e", "_law_some", "_law_words"]
theorem sc__law_z_word : FnScope N__law_z_word ["_law_act"] (defScope (top 67)) := ⟨rfl, rfl, rfl, by decide +kernel, rfl, by decide +kernel, by decide +kernel⟩
def g__law_z_word : Sq → Fl := (seqF (ifF (fB (fSlN 1 false)) (retF (fC (.str "fine"))) nxF) (seqF (setF 3 (fLst (fCons (fIsE clL 1 "NoWide") (fCons (fIsE clL 1 "NoMachine") (fCons (fIsE clL 1 "NoLetters") fNil))))) (seqF (setF 3 (fBin gAdd (fVar 3) (fLst (fCons (fIsE clL 1 "NoWord") (fCons (fIsE clL 1 "NoCounts") (fCons (fIsE clL 1 "NoDigits") fNil)))))) (seqF (setF 3 (fBin gAdd (fVar 3) (fLst (fCons (fIsE clL 1 "NoPlace") (fCons (fIsE clL 1 "NoPiece") (fCons (fIsE clL 1 "NoPieces") fNil)))))) (seqF (setF 3 (fBin gAdd (fVar 3) (fLst (fCons (fIsE clL 1 "NoMatch") (fCons (fIsE clL 1 "TooGreat") fNil))))) (seqF (setF 4 (fLst (fCons (fC (.str "wide")) (fCons (fC (.str "machine")) (fCons (fC (.str "letters")) (fCons (fC (.str "word")) (fCons (fC (.str "counts")) (fCons (fC (.str "digits")) (fCons (fC (.str "place")) (fCons (fC (.str "piece")) (fCons (fC (.str "pieces")) (fCons (fC (.str "match")) (fCons (fC (.str "great")) fNil))))))))))))) (retF (fIf (tAndF (fB (fBin gEq (fM1 "list" gLCount (fVar 3) (fC (.bool true))) (fC (.int 1)))) (fB (fIsV clL 1))) (fBin gIx (fVar 4) (fM1 "list" gLIndex (fVar 3) (fC (.bool true)))) (fC (.str "odd"))))))))))
theorem d__law_z_word {X : Cx} {W : WX} (V : Fx G.K G.mg) (C : Cq G 6 N__law_z_word (defScope (top 67)) X) (hf : ∀ x, X.fn x = true) (tk : Takes X W) : DSs X W ((defBody (top 67)).drop 2) g__law_z_word :=
  (dss_cons (ds_if (dt_slN 1 C) (dss_one (ds_ret de_str)) dss_nil) (dss_cons (ds_set 3 C (de_lst (da_cons (de_isE 1 C V.all (by decide) V.b_isinstance rfl rfl) (da_cons (de_isE 1 C V.all (by decide) V.b_isinstance rfl rfl) (da_cons (de_isE 1 C V.all (by decide) V.b_isinstance rfl rfl) da_nil)))) (hf := .inl (hf _))) (dss_cons (ds_set 3 C (de_add (de_var 3 C) (de_lst (da_cons (de_isE 1 C V.all (by decide) V.b_isinstance rfl rfl) (da_cons (de_isE 1 C V.all (by decide) V.b_isinstance rfl rfl) (da_cons (de_isE 1 C V.all (by decide) V.b_isinstance rfl rfl) da_nil))))) (hf := .inl (hf _))) (dss_cons (ds_set 3 C (de_add (de_var 3 C) (de_lst (da_cons (de_isE 1 C V.all (by decide) V.b_isinstance rfl rfl) (da_cons (de_isE 1 C V.all (by decide) V.b_isinstance rfl rfl) (da_cons (de_isE 1 C V.all (by decide) V.b_isinstance rfl rfl) da_nil))))) (hf := .inl (hf _))) (dss_cons (ds_set 3 C (de_add (de_var 3 C) (de_lst (da_cons (de_isE 1 C V.all (by decide) V.b_isinstance rfl rfl) (da_cons (de_isE 1 C V.all (by decide) V.b_isinstance rfl rfl) da_nil)))) (hf := .inl (hf _))) (dss_cons (ds_set 4 C (de_lst (da_cons de_str (da_cons de_str (da_cons de_str (da_cons de_str (da_cons de_str (da_cons de_str (da_cons de_str (da_cons de_str (da_cons de_str (da_cons de_str (da_cons de_str da_nil)))))))))))) (hf := .inl (hf _))) (dss_one (ds_ret (de_if (dt_w (dw_and (dt_eq C (de_lcount (de_var 3 C) de_bl) de_int) (dw_and1 (dt_val (de_isV 1 C V.all V.b_isinstance V.b_ValueError rfl rfl))))) (de_ix (de_var 4 C) (de_lindex (de_var 3 C) de_bl)) de_str)))))))))
theorem h__law_z_word (V : Fx G.K G.mg) : HasW G 6 "_law_z_word" 3 clL g__law_z_word := hasW_of V.d__law_z_word (fun _ _ _ _ _ _ us hl => match us, hl with | [_], _ => rfl) sc__law_z_word rfl (Or.inl rfl) rfl V.all (by decide) (by decide)
  fun g cdv X N sc q C => word_gives (rest := (defBody (top 67)).drop 2) C C.hd (by decide +kernel) rfl rfl rfl rfl rfl rfl V.all.gt (fun X1 W C1 hf tk => d__law_z_word (G := { G with gr := False }) V C1 hf tk)

/-! _law_z_between -/
def N__law_z_between : List Str := ["_law_value", "_law_least", "_law_most"]
theorem sc__law_z_between : FnScope N__law_z_between ["_law_value", "_law_least", "_law_most"] (defScope (top 68)) := ⟨rfl, rfl, rfl, by decide +kernel, rfl, by decide +kernel, by decide +kernel⟩
def g__law_z_between : Sq → Fl := (retF (bv (tAndF (fB (f1 (gIsi .int) (fVar 0))) (tAndF (fB (bv (tNotF (fB (f1 (gIsi .bool) (fVar 0)))))) (fB (fChain (fun i j => decide (i ≤ j)) (fun i j => decide (i ≤ j)) (fVar 1) (fVar 0) (fVar 2)))))))
def F__law_z_between : Fd := runB 3 g__law_z_between
theorem d__law_z_between {X : Cx} {W : WX} (V : Fx G.K G.mg) (C : Cq G 0 N__law_z_between (defScope (top 68)) X) (hf : ∀ x, X.fn x = true) (tk : Takes X W) : DSs X W (defBody (top 68)) g__law_z_between :=
  (dss_one (ds_ret (de_and (de_isi .int C rfl rfl V.b_isinstance V.b_int (de_var 0 C)) (de_and (de_not (de_isi .bool C rfl rfl V.b_isinstance V.b_bool (de_var 0 C))) (de_one (de_chain op_le op_le (de_var 1 C) (de_var 0 C) (de_var 2 C)))))))
theorem h__law_z_between (V : Fx G.K G.mg) : Has G 1 "_law_z_between" ["_law_value", "_law_least", "_law_most"] F__law_z_between := has_of V.d__law_z_between (fun _ _ _ _ _ _ us hl => match us, hl with | [_, _, _], _ => rfl) sc__law_z_between rfl fun X W C hf tk => d__law_z_between V C hf tk

/-! _law_z_are_letters -/
def N__law_z_are_letters : List Str := ["_law_value", "_law_sign"]
theorem sc__law_z_are_letters : FnScope N__law_z_are_letters ["_law_value"] (defScope (top 69)) := ⟨rfl, rfl, rfl, by decide +kernel, rfl, by decide +kernel, by decide +kernel⟩
def g__law_z_are_letters : Sq → Fl := (seqF (ifF (tOrF (tNotF (fB (f1 (gIsi .str) (fVar 0)))) (tOrF (tNotF (fB (fChain (fun i j => decide (i ≤ j)) (fun i j => decide (i ≤ j)) (fC (.int 1)) (f1 gLen (fVar 0)) (fC (.int 3))))) (fB (fBin gNe (f1 gList (fVar 0)) (f1 gSset (fVar 0)))))) (retF (fC (.bool false))) nxF) (retF (fBin (gIn true) (fC (.bool false)) (lcS (.nm 1) (itF (fVar 0)) yesF (fBin (gIn false) (fVar 1) (fC (.str "abcdefghijklmnopqrstuvwxyz"))) [1]))))
def F__law_z_are_letters : Fd := runB 2 g__law_z_are_letters
theorem d__law_z_are_letters {X : Cx} {W : WX} (V : Fx G.K G.mg) (C : Cq G 0 N__law_z_are_letters (defScope (top 69)) X) (hf : ∀ x, X.fn x = true) (tk : Takes X W) : DSs X W (defBody (top 69)) g__law_z_are_letters :=
  (dss_cons (ds_if (dt_w (dw_or (dt_not (dt_val (de_isi .str C rfl rfl V.b_isinstance V.b_str (de_var 0 C)))) (dw_or (dt_not (dt_chain op_le op_le de_int (de_callB call_len does_len (glC C rfl) (mgC C V.b_len) (by decide +kernel) (de_var 0 C)) de_int)) (dw_or1 (dt_ne C (de_callTy (CallR.or call_list_of (call_list_strs C.calm)) does_list (glC C rfl) (mgC C V.b_list) (by decide +kernel) (de_var 0 C)) (de_sset C rfl rfl V.b_sorted V.b_set (de_var 0 C))))))) (dss_one (ds_ret de_bl)) dss_nil) (dss_one (ds_ret (de_notIn C de_bl (de_lc (t := (.nm 1)) (own := [("_law_sign", 1)]) C (di_of (de_var 0 C)) (by decide +kernel) (fun X1 C1 f1 => (dg_nm 1 C1 rfl (Or.inl rfl) (Or.inr rfl))) (fun X1 C1 k1 => dts_nil) (fun X1 C1 k1 => (de_in C1 (de_var 1 C1) de_str)))))))
theorem h__law_z_are_letters (V : Fx G.K G.mg) : Has G 1 "_law_z_are_letters" ["_law_value"] F__law_z_are_letters := has_of V.d__law_z_are_letters (fun _ _ _ _ _ _ us hl => match us, hl with | [_], _ => rfl) sc__law_z_are_letters rfl fun X W C hf tk => d__law_z_are_letters V C hf tk

/-! _law_z_are_ends -/
def N__law_z_are_ends : List Str := ["_law_value", "_law_many", "_law_one"]
theorem sc__law_z_are_ends : FnScope N__law_z_are_ends ["_law_value", "_law_many"] (defScope (top 70)) := ⟨rfl, rfl, rfl, by decide +kernel, rfl, by decide +kernel, by decide +kernel⟩
def g__law_z_are_ends : Sq → Fl := (seqF (ifF (tOrF (tNotF (fB (f1 (gIsi .tuple) (fVar 0)))) (fB (fBin (gIn false) (fC (.bool false)) (lcS (.nm 2) (itF (fVar 0)) yesF (callF F__law_z_between (fCons (fVar 2) (fCons (fC (.int 0)) (fCons (fBin gSub (fVar 1) (fC (.int 1))) fNil)))) [2])))) (retF (fC (.bool false))) nxF) (retF (fBin gEq (f1 gList (fVar 0)) (f1 gSset (fVar 0)))))
def F__law_z_are_ends : Fd := runB 3 g__law_z_are_ends
theorem d__law_z_are_ends {X : Cx} {W : WX} (V : Fx G.K G.mg) (C : Cq G 1 N__law_z_are_ends (defScope (top 70)) X) (hf : ∀ x, X.fn x = true) (tk : Takes X W) : DSs X W (defBody (top 70)) g__law_z_are_ends :=
  (dss_cons (ds_if (dt_w (dw_or (dt_not (dt_val (de_isi .tuple C rfl rfl V.b_isinstance V.b_tuple (de_var 0 C)))) (dw_or1 (dt_in C de_bl (de_lc (t := (.nm 2)) (own := [("_law_one", 2)]) C (di_of (de_var 0 C)) (by decide +kernel) (fun X1 C1 f1 => (dg_nm 2 C1 rfl (Or.inl rfl) (Or.inr rfl))) (fun X1 C1 k1 => dts_nil) (fun X1 C1 k1 => (de_callH C1 k1 (h__law_z_between V) (by decide) rfl rfl (da_cons (de_var 2 C1) (da_cons de_int (da_cons (de_sub (de_var 1 C1) de_int) da_nil))) (fl_cons (fl_cons (fl_cons fl_nil)))))))))) (dss_one (ds_ret de_bl)) dss_nil) (dss_one (ds_ret (de_eq C (de_callTy (CallR.or call_list_of (call_list_strs C.calm)) does_list (glC C rfl) (mgC C V.b_list) (by decide +kernel) (de_var 0 C)) (de_sset C rfl rfl V.b_sorted V.b_set (de_var 0 C))))))
theorem h__law_z_are_ends (V : Fx G.K G.mg) : Has G 2 "_law_z_are_ends" ["_law_value", "_law_many"] F__law_z_are_ends := has_of V.d__law_z_are_ends (fun _ _ _ _ _ _ us hl => match us, hl with | [_, _], _ => rfl) sc__law_z_are_ends rfl fun X W C hf tk => d__law_z_are_ends V C hf tk

/-! _law_z_is_wide -/
def N__law_z_is_wide : List Str := ["_law_value", "_law_most", "_law_row", "_law_one"]
theorem sc__law_z_is_wide : FnScope N__law_z_is_wide ["_law_value", "_law_most"] (defScope (top 71)) := ⟨rfl, rfl, rfl, by decide +kernel, rfl, by decide +kernel, by decide +kernel⟩
def g__law_z_is_wide : Sq → Fl := (seqF (ifF (tOrF (tNotF (fB (f1 (gIsi .tuple) (fVar 0)))) (tOrF (fB (fBin gNe (f1 gLen (fVar 0)) (fC (.int 3)))) (tNotF (fB (callF F__law_z_are_letters (fCons (fBin gIx (fVar 0) (fC (.int 0))) fNil)))))) (retF (fC (.bool false))) nxF) (seqF (ifF (tOrF (tNotF (fB (f1 (gIsi .tuple) (fBin gIx (fVar 0) (fC (.int 1)))))) (tNotF (fB (fChain (fun i j => decide (i ≤ j)) (fun i j => decide (i ≤ j)) (fC (.int 1)) (f1 gLen (fBin gIx (fVar 0) (fC (.int 1)))) (fVar 1))))) (retF (fC (.bool false))) nxF) (seqF (forS (.nm 2) (itF (fBin gIx (fVar 0) (fC (.int 1)))) (seqF (ifF (tOrF (tNotF (fB (f1 (gIsi .tuple) (fVar 2)))) (fB (fBin gNe (f1 gLen (fVar 2)) (f1 gLen (fBin gIx (fVar 0) (fC (.int 0))))))) (retF (fC (.bool false))) nxF) (ifF (fB (fBin (gIn false) (fC (.bool false)) (lcS (.nm 3) (itF (fVar 2)) yesF (bv (tOrF (fB (fSlN 3 false)) (fB (callF F__law_z_between (fCons (fVar 3) (fCons (fC (.int 0)) (fCons (fBin gSub (f1 gLen (fBin gIx (fVar 0) (fC (.int 1)))) (fC (.int 1))) fNil))))))) [3]))) (retF (fC (.bool false))) nxF))) (retF (callF F__law_z_are_ends (fCons (fBin gIx (fVar 0) (fC (.int 2))) (fCons (f1 gLen (fBin gIx (fVar 0) (fC (.int 1)))) fNil)))))))
def F__law_z_is_wide : Fd := runB 4 g__law_z_is_wide
theorem d__law_z_is_wide {X : Cx} {W : WX} (V : Fx G.K G.mg) (C : Cq G 2 N__law_z_is_wide (defScope (top 71)) X) (hf : ∀ x, X.fn x = true) (tk : Takes X W) : DSs X W (defBody (top 71)) g__law_z_is_wide :=
  (dss_cons (ds_if (dt_w (dw_or (dt_not (dt_val (de_isi .tuple C rfl rfl V.b_isinstance V.b_tuple (de_var 0 C)))) (dw_or (dt_ne C (de_callB call_len does_len (glC C rfl) (mgC C V.b_len) (by decide +kernel) (de_var 0 C)) de_int) (dw_or1 (dt_not (dt_val (de_callH C tk (h__law_z_are_letters V) (by decide) rfl rfl (da_cons (de_ix (de_var 0 C) de_int) da_nil) (fl_cons fl_nil)))))))) (dss_one (ds_ret de_bl)) dss_nil) (dss_cons (ds_if (dt_w (dw_or (dt_not (dt_val (de_isi .tuple C rfl rfl V.b_isinstance V.b_tuple (de_ix (de_var 0 C) de_int)))) (dw_or1 (dt_not (dt_chain op_le op_le de_int (de_callB call_len does_len (glC C rfl) (mgC C V.b_len) (by decide +kernel) (de_ix (de_var 0 C) de_int)) (de_var 1 C)))))) (dss_one (ds_ret de_bl)) dss_nil) (dss_cons (ds_for (t := (.nm 2)) C (di_of (de_ix (de_var 0 C) de_int)) (dg_nm 2 C rfl (Or.inl rfl) (Or.inr rfl)) (dss_cons (ds_if (dt_w (dw_or (dt_not (dt_val (de_isi .tuple C rfl rfl V.b_isinstance V.b_tuple (de_var 2 C)))) (dw_or1 (dt_ne C (de_callB call_len does_len (glC C rfl) (mgC C V.b_len) (by decide +kernel) (de_var 2 C)) (de_callB call_len does_len (glC C rfl) (mgC C V.b_len) (by decide +kernel) (de_ix (de_var 0 C) de_int)))))) (dss_one (ds_ret de_bl)) dss_nil) (dss_one (ds_if (dt_in C de_bl (de_lc (t := (.nm 3)) (own := [("_law_one", 3)]) C (di_of (de_var 2 C)) (by decide +kernel) (fun X1 C1 f1 => (dg_nm 3 C1 rfl (Or.inl rfl) (Or.inr rfl))) (fun X1 C1 k1 => dts_nil) (fun X1 C1 k1 => (de_or (de_slN 3 C1) (de_one (de_callH C1 k1 (h__law_z_between V) (by decide) rfl rfl (da_cons (de_var 3 C1) (da_cons de_int (da_cons (de_sub (de_callB call_len does_len (glC C1 rfl) (mgC C1 V.b_len) (by decide +kernel) (de_ix (de_var 0 C1) de_int)) de_int) da_nil))) (fl_cons (fl_cons (fl_cons fl_nil))))))))) (dss_one (ds_ret de_bl)) dss_nil)))) (dss_one (ds_ret (de_callH C tk (h__law_z_are_ends V) (by decide) rfl rfl (da_cons (de_ix (de_var 0 C) de_int) (da_cons (de_callB call_len does_len (glC C rfl) (mgC C V.b_len) (by decide +kernel) (de_ix (de_var 0 C) de_int)) da_nil)) (fl_cons (fl_cons fl_nil))))))))
theorem h__law_z_is_wide (V : Fx G.K G.mg) : Has G 3 "_law_z_is_wide" ["_law_value", "_law_most"] F__law_z_is_wide := has_of V.d__law_z_is_wide (fun _ _ _ _ _ _ us hl => match us, hl with | [_, _], _ => rfl) sc__law_z_is_wide rfl fun X W C hf tk => d__law_z_is_wide V C hf tk

/-! _law_z_is_machine -/
def N__law_z_is_machine : List Str := ["_law_value"]
theorem sc__law_z_is_machine : FnScope N__law_z_is_machine ["_law_value"] (defScope (top 72)) := ⟨rfl, rfl, rfl, by decide +kernel, rfl, by decide +kernel, by decide +kernel⟩
def g__law_z_is_machine : Sq → Fl := (retF (bv (tAndF (fB (callF F__law_z_is_wide (fCons (fVar 0) (fCons (fC (.int 4)) fNil)))) (fB (bv (tOrF (fB (fBin gLt (f1 gLen (fBin gIx (fVar 0) (fC (.int 0)))) (fC (.int 3)))) (fB (fBin gLt (f1 gLen (fBin gIx (fVar 0) (fC (.int 1)))) (fC (.int 4))))))))))
def F__law_z_is_machine : Fd := runB 1 g__law_z_is_machine
theorem d__law_z_is_machine {X : Cx} {W : WX} (V : Fx G.K G.mg) (C : Cq G 3 N__law_z_is_machine (defScope (top 72)) X) (hf : ∀ x, X.fn x = true) (tk : Takes X W) : DSs X W (defBody (top 72)) g__law_z_is_machine :=
  (dss_one (ds_ret (de_and (de_callH C tk (h__law_z_is_wide V) (by decide) rfl rfl (da_cons (de_var 0 C) (da_cons de_int da_nil)) (fl_cons (fl_cons fl_nil))) (de_one (de_or (de_lt (de_callB call_len does_len (glC C rfl) (mgC C V.b_len) (by decide +kernel) (de_ix (de_var 0 C) de_int)) de_int) (de_one (de_lt (de_callB call_len does_len (glC C rfl) (mgC C V.b_len) (by decide +kernel) (de_ix (de_var 0 C) de_int)) de_int)))))))
theorem h__law_z_is_machine (V : Fx G.K G.mg) : Has G 4 "_law_z_is_machine" ["_law_value"] F__law_z_is_machine := has_of V.d__law_z_is_machine (fun _ _ _ _ _ _ us hl => match us, hl with | [_], _ => rfl) sc__law_z_is_machine rfl fun X W C hf tk => d__law_z_is_machine V C hf tk

/-! _law_z_bent -/
def N__law_z_bent : List Str := ["_law_pen", "_law_value", "_law_some", "_law_k", "_law_way", "_law_bent", "_law_twice", "_law_other"]
theorem sc__law_z_bent : FnScope N__law_z_bent ["_law_pen", "_law_value"] (defScope (top 73)) := ⟨rfl, rfl, rfl, by decide +kernel, rfl, by decide +kernel, by decide +kernel⟩
def g__law_z_bent (fr : Fd) : Sq → Fl := (seqF (setF 2 (fLst (fCons (fC .none) (fCons (fC (.bool true)) (fCons (fC (.bool false)) (fCons (fC (.int 0)) (fCons (fC (.int 1)) (fCons (f1 gNeg (fC (.int 1))) (fCons (fC (.int 2)) (fCons (fC (.str "a")) (fCons (fC (.str "ba")) (fCons (fC (.str "")) (fCons (fTup fNil) (fCons (fLst fNil) (fCons (fC (.dict [])) (fCons (fTup (fCons (fC (.int 0)) fNil)) (fCons (fTup (fCons (fTup (fCons (fC (.int 0)) (fCons (fC (.int 0)) fNil))) fNil)) (fCons (fTup (fCons (fC (.int 0)) (fCons (fC (.int 1)) fNil))) (fCons (fC (.int 21)) (fCons (fTup (fCons (fC .none) (fCons (fC (.int 0)) fNil))) fNil)))))))))))))))))))) (seqF (ifF (tOrF (fB (f1 (gIsiT [.bool, .str, .dict]) (fVar 1))) (tOrF (tNotF (fB (f1 (gIsiT [.int, .tuple, .list]) (fVar 1)))) (fB (fBin gEq (callF F__law_take (fCons (fVar 0) (fCons (fC (.int 9)) fNil))) (fC (.int 0)))))) (retF (callF F__law_z_pick (fCons (fVar 0) (fCons (fVar 2) fNil)))) nxF) (seqF (ifF (fB (f1 (gIsi .int) (fVar 1))) (retF (callF F__law_z_pick (fCons (fVar 0) (fCons (fLst (fCons (fBin gAdd (fVar 1) (fC (.int 1))) (fCons (fBin gSub (fVar 1) (fC (.int 1))) (fCons (fIf (fB (fChain (fun i j => decide (i ≤ j)) (fun i j => decide (i < j)) (fC (.int 0)) (fVar 1) (fC (.int 2)))) (fBin gEq (fVar 1) (fC (.int 1))) (fBin gAdd (fVar 1) (fC (.int 2)))) (fCons (fC .none) (fCons (fBin gPow (fC (.int 10)) (fC (.int 31))) fNil)))))) fNil)))) nxF) (seqF (ifF (fB (fBin gEq (f1 gLen (fVar 1)) (fC (.int 0)))) (retF (callF F__law_z_pick (fCons (fVar 0) (fCons (fVar 2) fNil)))) nxF) (seqF (parF 3 4 (callF F__law_take (fCons (fVar 0) (fCons (f1 gLen (fVar 1)) fNil))) (callF F__law_take (fCons (fVar 0) (fCons (fC (.int 16)) fNil)))) (seqF (ifF (fB (fBin gGt (fVar 4) (fC (.int 4)))) (seqF (setF 5 (callF fr (fCons (fVar 0) (fCons (fBin gIx (fVar 1) (fVar 3)) fNil)))) (retF (fBin gAdd (fBin gAdd (fSl (fVar 1) fNoPart (fPart (fVar 3))) (fIf (fB (f1 (gIsi .list) (fVar 1))) (fLst (fCons (fVar 5) fNil)) (fTup (fCons (fVar 5) fNil)))) (fSl (fVar 1) (fPart (fBin gAdd (fVar 3) (fC (.int 1)))) fNoPart)))) nxF) (seqF (setF 6 (fBin gAdd (fBin gAdd (fSl (fVar 1) fNoPart (fPart (fVar 3))) (fSl (fVar 1) (fPart (fVar 3)) (fPart (fBin gAdd (fVar 3) (fC (.int 1)))))) (fSl (fVar 1) (fPart (fVar 3)) fNoPart))) (seqF (setF 7 (fIf (fB (f1 (gIsi .list) (fVar 1))) (f1 gTuple (fVar 1)) (f1 gList (fVar 1)))) (retF (fBin gIx (fLst (fCons (fBin gAdd (fSl (fVar 1) fNoPart (fPart (fVar 3))) (fSl (fVar 1) (fPart (fBin gAdd (fVar 3) (fC (.int 1)))) fNoPart)) (fCons (fVar 6) (fCons (fVar 7) (fCons (f1 gRev (fVar 1)) (fCons (fBin gAdd (fVar 1) (fVar 1)) fNil)))))) (fVar 4)))))))))))
def Fr__law_z_bent : Nat → Fd
  | 0 => fun _ _ => .no
  | m + 1 => runB 8 (g__law_z_bent (Fr__law_z_bent m))
def F__law_z_bent : Fd := Fr__law_z_bent 8
theorem d__law_z_bent {X : Cx} {W : WX} {m : Nat} {fr : Fd} (V : Fx G.K G.mg) (hr : Has G (3 + m + 1) "_law_z_bent" ["_law_pen", "_law_value"] fr) (C : Cq G (3 + m + 1) N__law_z_bent (defScope (top 73)) X) (hf : ∀ x, X.fn x = true) (tk : Takes X W) : DSs X W (defBody (top 73)) (g__law_z_bent fr) :=
  (dss_cons (ds_set 2 C (de_lst (da_cons de_non (da_cons de_bl (da_cons de_bl (da_cons de_int (da_cons de_int (da_cons (de_neg de_int) (da_cons de_int (da_cons de_str (da_cons de_str (da_cons de_str (da_cons (de_tup da_nil) (da_cons (de_lst da_nil) (da_cons de_dnew0 (da_cons (de_tup (da_cons de_int da_nil)) (da_cons (de_tup (da_cons (de_tup (da_cons de_int (da_cons de_int da_nil))) da_nil)) (da_cons (de_tup (da_cons de_int (da_cons de_int da_nil))) (da_cons de_int (da_cons (de_tup (da_cons de_non (da_cons de_int da_nil))) da_nil))))))))))))))))))) (hf := .inl (hf _))) (dss_cons (ds_if (dt_w (dw_or (dt_val (de_isiT [.bool, .str, .dict] C rfl V.b_isinstance (de_var 1 C) (tn_cons .bool C rfl V.b_bool (tn_cons .str C rfl V.b_str (tn_cons .dict C rfl V.b_dict .nil))))) (dw_or (dt_not (dt_val (de_isiT [.int, .tuple, .list] C rfl V.b_isinstance (de_var 1 C) (tn_cons .int C rfl V.b_int (tn_cons .tuple C rfl V.b_tuple (tn_cons .list C rfl V.b_list .nil)))))) (dw_or1 (dt_eq C (de_callH C tk (h__law_take V) (by omega) rfl rfl (da_cons (de_var 0 C) (da_cons de_int da_nil)) (fl_cons (fl_cons fl_nil))) de_int))))) (dss_one (ds_ret (de_callH C tk (h__law_z_pick V) (by omega) rfl rfl (da_cons (de_var 0 C) (da_cons (de_var 2 C) da_nil)) (fl_cons (fl_cons fl_nil))))) dss_nil) (dss_cons (ds_if (dt_val (de_isi .int C rfl rfl V.b_isinstance V.b_int (de_var 1 C))) (dss_one (ds_ret (de_callH C tk (h__law_z_pick V) (by omega) rfl rfl (da_cons (de_var 0 C) (da_cons (de_lst (da_cons (de_add (de_var 1 C) de_int) (da_cons (de_sub (de_var 1 C) de_int) (da_cons (de_if (dt_chain op_le op_lt de_int (de_var 1 C) de_int) (de_eq C (de_var 1 C) de_int) (de_add (de_var 1 C) de_int)) (da_cons de_non (da_cons (de_pow de_int de_int) da_nil)))))) da_nil)) (fl_cons (fl_cons fl_nil))))) dss_nil) (dss_cons (ds_if (dt_eq C (de_callB call_len does_len (glC C rfl) (mgC C V.b_len) (by decide +kernel) (de_var 1 C)) de_int) (dss_one (ds_ret (de_callH C tk (h__law_z_pick V) (by omega) rfl rfl (da_cons (de_var 0 C) (da_cons (de_var 2 C) da_nil)) (fl_cons (fl_cons fl_nil))))) dss_nil) (dss_cons (ds_par 3 4 C (de_callH C tk (h__law_take V) (by omega) rfl rfl (da_cons (de_var 0 C) (da_cons (de_callB call_len does_len (glC C rfl) (mgC C V.b_len) (by decide +kernel) (de_var 1 C)) da_nil)) (fl_cons (fl_cons fl_nil))) (de_callH C tk (h__law_take V) (by omega) rfl rfl (da_cons (de_var 0 C) (da_cons de_int da_nil)) (fl_cons (fl_cons fl_nil))) (hw := sw_of C rfl)) (dss_cons (ds_if (dt_gt (de_var 4 C) de_int) (dss_cons (ds_set 5 C (de_callH C tk hr (Nat.le_refl _) rfl rfl (da_cons (de_var 0 C) (da_cons (de_ix (de_var 1 C) (de_var 3 C)) da_nil)) (fl_cons (fl_cons fl_nil))) (hf := .inl (hf _))) (dss_one (ds_ret (de_add (de_add (de_sl (de_var 1 C) do_none (do_some (de_var 3 C))) (de_if (dt_val (de_isi .list C rfl rfl V.b_isinstance V.b_list (de_var 1 C))) (de_lst (da_cons (de_var 5 C) da_nil)) (de_tup (da_cons (de_var 5 C) da_nil)))) (de_sl (de_var 1 C) (do_some (de_add (de_var 3 C) de_int)) do_none))))) dss_nil) (dss_cons (ds_set 6 C (de_add (de_add (de_sl (de_var 1 C) do_none (do_some (de_var 3 C))) (de_sl (de_var 1 C) (do_some (de_var 3 C)) (do_some (de_add (de_var 3 C) de_int)))) (de_sl (de_var 1 C) (do_some (de_var 3 C)) do_none)) (hf := .inl (hf _))) (dss_cons (ds_set 7 C (de_if (dt_val (de_isi .list C rfl rfl V.b_isinstance V.b_list (de_var 1 C))) (de_callTy call_tuple_of does_tuple (glC C rfl) (mgC C V.b_tuple) (by decide +kernel) (de_var 1 C)) (de_callTy (CallR.or call_list_of (call_list_strs C.calm)) does_list (glC C rfl) (mgC C V.b_list) (by decide +kernel) (de_var 1 C))) (hf := .inl (hf _))) (dss_one (ds_ret (de_ix (de_lst (da_cons (de_add (de_sl (de_var 1 C) do_none (do_some (de_var 3 C))) (de_sl (de_var 1 C) (do_some (de_add (de_var 3 C) de_int)) do_none)) (da_cons (de_var 6 C) (da_cons (de_var 7 C) (da_cons (de_rev (de_var 1 C)) (da_cons (de_add (de_var 1 C) (de_var 1 C)) da_nil)))))) (de_var 4 C))))))))))))
theorem hr__law_z_bent (V : Fx G.K G.mg) : ∀ m, Has G (3 + m + 1) "_law_z_bent" ["_law_pen", "_law_value"] (Fr__law_z_bent m)
  | 0 => has_none V.d__law_z_bent (fun _ _ _ _ _ _ us hl => match us, hl with | [_, _], _ => rfl)
  | m + 1 => has_of V.d__law_z_bent (fun _ _ _ _ _ _ us hl => match us, hl with | [_, _], _ => rfl) sc__law_z_bent rfl fun X W C hf tk => d__law_z_bent V (hr__law_z_bent V m) C hf tk
theorem h__law_z_bent (V : Fx G.K G.mg) : Has G 12 "_law_z_bent" ["_law_pen", "_law_value"] F__law_z_bent := hr__law_z_bent V 8

/-! _law_z_long -/
def N__law_z_long : List Str := ["_law_pen", "_law_letters", "_law_many", "_law_rows", "_law_state", "_law_letter"]
theorem sc__law_z_long : FnScope N__law_z_long ["_law_pen", "_law_letters"] (defScope (top 74)) := ⟨rfl, rfl, rfl, by decide +kernel, rfl, by decide +kernel, by decide +kernel⟩
def g__law_z_long : Sq → Fl := (seqF (setF 2 (callF F__law_z_pick (fCons (fVar 0) (fCons (fLst (fCons (fC (.int 3)) (fCons (fC (.int 4)) (fCons (fC (.int 5)) (fCons (fC (.int 199)) (fCons (fC (.int 200)) (fCons (fC (.int 201)) fNil))))))) fNil)))) (seqF (setF 3 (lcS (.nm 4) (rng1F (fVar 2)) yesF (f1 gTuple (lcS (.nm 5) (itF (fVar 1)) yesF (fBin gMod (f1 gInt1 (fBin gAdd (fVar 4) (fC (.int 1)))) (fVar 2)) [5])) [4])) (retF (fTup (fCons (fVar 1) (fCons (f1 gTuple (fVar 3)) (fCons (fTup (fCons (callF F__law_take (fCons (fVar 0) (fCons (fVar 2) fNil))) fNil)) fNil)))))))
def F__law_z_long : Fd := runB 6 g__law_z_long
theorem d__law_z_long {X : Cx} {W : WX} (V : Fx G.K G.mg) (C : Cq G 3 N__law_z_long (defScope (top 74)) X) (hf : ∀ x, X.fn x = true) (tk : Takes X W) : DSs X W (defBody (top 74)) g__law_z_long :=
  (dss_cons (ds_set 2 C (de_callH C tk (h__law_z_pick V) (by decide) rfl rfl (da_cons (de_var 0 C) (da_cons (de_lst (da_cons de_int (da_cons de_int (da_cons de_int (da_cons de_int (da_cons de_int (da_cons de_int da_nil))))))) da_nil)) (fl_cons (fl_cons fl_nil))) (hf := .inl (hf _))) (dss_cons (ds_setLc 3 (t := (.nm 4)) (own := [("_law_state", 4)]) C (di_range1 (glC C rfl) (mgC C V.b_range) (de_var 2 C)) (by decide +kernel) (fun X1 C1 f1 => (dg_nm 4 C1 rfl (Or.inr rfl) (Or.inl ((f1 _).trans rfl)))) (fun X1 C1 k1 => dts_nil) (fun X1 C1 k1 => (de_callTy call_tuple_of does_tuple (glC C1 rfl) (mgC C1 V.b_tuple) (by decide +kernel) (de_lc (t := (.nm 5)) (own := [("_law_letter", 5)]) C1 (di_of (de_var 1 C1)) (by decide +kernel) (fun X2 C2 f2 => (dg_nm 5 C2 rfl (Or.inl rfl) (Or.inr rfl))) (fun X2 C2 k2 => dts_nil) (fun X2 C2 k2 => (de_mod (de_callTy call_int1 does_int1 (glC C2 rfl) (mgC C2 V.b_int) (by decide +kernel) (de_add (de_var 4 C2) de_int)) (de_var 2 C2))))))) (dss_one (ds_ret (de_tup (da_cons (de_var 1 C) (da_cons (de_callTy call_tuple_of does_tuple (glC C rfl) (mgC C V.b_tuple) (by decide +kernel) (de_var 3 C)) (da_cons (de_tup (da_cons (de_callH C tk (h__law_take V) (by decide) rfl rfl (da_cons (de_var 0 C) (da_cons (de_var 2 C) da_nil)) (fl_cons (fl_cons fl_nil))) da_nil)) da_nil))))))))
theorem h__law_z_long (V : Fx G.K G.mg) : Has G 4 "_law_z_long" ["_law_pen", "_law_letters"] F__law_z_long := has_of V.d__law_z_long (fun _ _ _ _ _ _ us hl => match us, hl with | [_, _], _ => rfl) sc__law_z_long rfl fun X W C hf tk => d__law_z_long V C hf tk

/-! law -/
def N_law : List Str := ["_law_script", "_law_pen", "_law_turn", "_law_letters", "_law_good", "_law_values", "_law_row", "_law_value", "_law_seen", "_law_wide", "_law_machine", "_law_again"]
theorem sc_law : FnScope N_law ["_law_script"] (defScope (top 75)) := ⟨rfl, rfl, rfl, by decide +kernel, rfl, by decide +kernel, by decide +kernel⟩
def g_law : Sq → Fl := (seqF (forS (.nm 2) (rng1F (fC (.int 5))) (seqF (setF 3 (callF F__law_z_letters (fCons (fVar 1) fNil))) (seqF (setF 4 (fLst (fCons (callF F__law_z_wide (fCons (fVar 1) (fCons (fVar 3) (fCons (fC (.int 6)) fNil)))) (fCons (callF F__law_z_machine (fCons (fVar 1) (fCons (fVar 3) fNil))) (fCons (callF F__law_z_long (fCons (fVar 1) (fCons (fVar 3) fNil))) fNil))))) (seqF (setF 5 (fBin gAdd (fVar 4) (lcS (.nm 11) (rng1F (fC (.int 9))) yesF (callF F__law_z_bent (fCons (fVar 1) (fCons (fBin gIx (fVar 4) (fBin gMod (f1 gInt1 (fVar 11)) (fC (.int 3)))) fNil))) [11]))) (seqF (appF 5 (fBin gAdd (fTup (fCons (fM0 "str" gUpper (fVar 3)) fNil)) (fSl (fBin gIx (fVar 4) (fC (.int 1))) (fPart (fC (.int 1))) fNoPart))) (seqF (appF 5 (fBin gAdd (fTup (fCons (fBin gAdd (f1 gRev (fVar 3)) (fSl (fVar 3) fNoPart (fPart (fC (.int 1))))) fNil)) (fSl (fBin gIx (fVar 4) (fC (.int 1))) (fPart (fC (.int 1))) fNoPart))) (seqF (appF 5 (fBin gAdd (fTup (fCons (fBin gAdd (fVar 3) (fC (.str "0"))) fNil)) (fSl (fBin gIx (fVar 4) (fC (.int 1))) (fPart (fC (.int 1))) fNoPart))) (seqF (appF 5 (fTup (fCons (callF F__law_z_pick (fCons (fVar 1) (fCons (fLst (fCons (fC (.str "A")) (fCons (fC (.str "_")) (fCons (fC (.str "0")) (fCons (fC (.str " ")) (fCons (fC (.str "~")) (fCons (fC (.str "z1")) fNil))))))) fNil))) (fCons (fTup (fCons (fTup (fCons (fC (.int 0)) fNil)) fNil)) (fCons (fTup (fCons (fC (.int 0)) fNil)) fNil))))) (seqF (setF 6 (fBin gMulA (fTup (fCons (fC (.int 0)) fNil)) (f1 gLeast (fLst (fCons (fBin gAdd (f1 gLen (fVar 3)) (fC (.int 1))) (fCons (fC (.int 3)) fNil)))))) (seqF (appF 5 (fTup (fCons (fBin gAdd (fSl (fVar 3) fNoPart (fPart (fC (.int 2)))) (callF F__law_z_pick (fCons (fVar 1) (fCons (fLst (fCons (fC (.str "~")) (fCons (fC (.str "{")) (fCons (fC (.str "|")) fNil)))) fNil)))) (fCons (fTup (fCons (fVar 6) fNil)) (fCons (fTup (fCons (fC (.int 0)) fNil)) fNil))))) (seqF (appF 5 (fTup (fCons (fBin gAdd (callF F__law_z_pick (fCons (fVar 1) (fCons (fLst (fCons (fC (.str "A")) (fCons (fC (.str "Z")) (fCons (fC (.str "_")) (fCons (fC (.str "0")) (fCons (fC (.str " ")) (fCons (fC (.str "Q")) fNil))))))) fNil))) (fSl (fVar 3) fNoPart (fPart (fC (.int 2))))) (fCons (fTup (fCons (fVar 6) fNil)) (fCons (fTup (fCons (fC (.int 0)) fNil)) fNil))))) (forS (.nm 7) (itF (fVar 5)) (seqF (par3D 8 9 10 (fCons (f1 gReprD (fVar 7)) (fCons (callF F__law_z_is_wide (fCons (fVar 7) (fCons (fC (.int 200)) fNil))) (fCons (callF F__law_z_is_machine (fCons (fVar 7) fNil)) fNil)))) (seqF (ifF (fB (fBin gNe (f1 gReprD (fLst (fCons (callF F_is_wide (fCons (fVar 7) fNil)) (fCons (callF F_is_machine (fCons (fVar 7) fNil)) fNil)))) (f1 gReprD (fLst (fCons (fVar 9) (fCons (fVar 10) fNil)))))) (retF (fC (.bool false))) nxF) (seqF (ifF (tAndF (tNotF (fB (fVar 9))) (fB (fBin gNe (wordF 3 clL g__law_z_word (callF F_least_of (fCons (fVar 7) fNil))) (fC (.str "wide"))))) (retF (fC (.bool false))) nxF) (seqF (ifF (tAndF (tNotF (fB (fVar 9))) (fB (fBin gNe (wordF 3 clL g__law_z_word (callF F_reads (fCons (fVar 7) (fCons (fC .none) fNil)))) (fC (.str "wide"))))) (retF (fC (.bool false))) nxF) (seqF (ifF (tAndF (tNotF (fB (fVar 9))) (fB (fBin gNe (wordF 3 clL g__law_z_word (callF F_unlike_word (fCons (fBin gIx (fVar 4) (fC (.int 0))) (fCons (fVar 7) fNil)))) (fC (.str "wide"))))) (retF (fC (.bool false))) nxF) (seqF (ifF (tAndF (tNotF (fB (fVar 9))) (fB (fBin gNe (wordF 3 clL g__law_z_word (callF F_unlike_word (fCons (fVar 7) (fCons (fBin gIx (fVar 4) (fC (.int 0))) fNil)))) (fC (.str "wide"))))) (retF (fC (.bool false))) nxF) (seqF (ifF (tAndF (tNotF (fB (fVar 10))) (fB (fBin gNe (wordF 3 clL g__law_z_word (callF F_word_for (fCons (fVar 7) (fCons (fC .none) fNil)))) (fC (.str "machine"))))) (retF (fC (.bool false))) nxF) (seqF (ifF (tAndF (tNotF (fB (fVar 10))) (fB (fBin gNe (wordF 3 clL g__law_z_word (callF F_pieces_of (fCons (fVar 7) fNil))) (fC (.str "machine"))))) (retF (fC (.bool false))) nxF) (ifF (fB (fBin gNe (f1 gReprD (fVar 7)) (fVar 8))) (retF (fC (.bool false))) nxF))))))))))))))))))))) (retF (fC (.bool true))))
theorem d_law {X : Cx} {W : WX} (V : Fx G.K G.mg) (R : G.gr) (C : Cq G 12 N_law (defScope (top 75)) X) (hf : ∀ x, X.fn x = true) (tk : Takes X W) (LA : LamAt G X) : DSs X W (defBody (top 75)).tail g_law :=
  (dss_cons (ds_for (t := (.nm 2)) C (di_range1 (glC C rfl) (mgC C V.b_range) de_int) (dg_nm 2 C rfl (Or.inl rfl) (Or.inr rfl)) (dss_cons (ds_set 3 C (de_callH C tk (h__law_z_letters V) (by decide) rfl rfl (da_cons (de_var 1 C) da_nil) (fl_cons fl_nil)) (hf := .inl (hf _))) (dss_cons (ds_set 4 C (de_lst (da_cons (de_callH C tk (h__law_z_wide V) (by decide) rfl rfl (da_cons (de_var 1 C) (da_cons (de_var 3 C) (da_cons de_int da_nil))) (fl_cons (fl_cons (fl_cons fl_nil)))) (da_cons (de_callH C tk (h__law_z_machine V) (by decide) rfl rfl (da_cons (de_var 1 C) (da_cons (de_var 3 C) da_nil)) (fl_cons (fl_cons fl_nil))) (da_cons (de_callH C tk (h__law_z_long V) (by decide) rfl rfl (da_cons (de_var 1 C) (da_cons (de_var 3 C) da_nil)) (fl_cons (fl_cons fl_nil))) da_nil)))) (hf := .inl (hf _))) (dss_cons (ds_set 5 C (de_add (de_var 4 C) (de_lc (t := (.nm 11)) (own := [("_law_again", 11)]) C (di_range1 (glC C rfl) (mgC C V.b_range) de_int) (by decide +kernel) (fun X1 C1 f1 => (dg_nm 11 C1 rfl (Or.inl rfl) (Or.inr rfl))) (fun X1 C1 k1 => dts_nil) (fun X1 C1 k1 => (de_callH C1 k1 (h__law_z_bent V) (by decide) rfl rfl (da_cons (de_var 1 C1) (da_cons (de_ix (de_var 4 C1) (de_mod (de_callTy call_int1 does_int1 (glC C1 rfl) (mgC C1 V.b_int) (by decide +kernel) (de_var 11 C1)) de_int)) da_nil)) (fl_cons (fl_cons fl_nil)))))) (hf := .inl (hf _))) (dss_cons (ds_append 5 C (de_add (de_tup (da_cons (de_upper (de_var 3 C)) da_nil)) (de_sl (de_ix (de_var 4 C) de_int) (do_some de_int) do_none))) (dss_cons (ds_append 5 C (de_add (de_tup (da_cons (de_add (de_rev (de_var 3 C)) (de_sl (de_var 3 C) do_none (do_some de_int))) da_nil)) (de_sl (de_ix (de_var 4 C) de_int) (do_some de_int) do_none))) (dss_cons (ds_append 5 C (de_add (de_tup (da_cons (de_add (de_var 3 C) de_str) da_nil)) (de_sl (de_ix (de_var 4 C) de_int) (do_some de_int) do_none))) (dss_cons (ds_append 5 C (de_tup (da_cons (de_callH C tk (h__law_z_pick V) (by decide) rfl rfl (da_cons (de_var 1 C) (da_cons (de_lst (da_cons de_str (da_cons de_str (da_cons de_str (da_cons de_str (da_cons de_str (da_cons de_str da_nil))))))) da_nil)) (fl_cons (fl_cons fl_nil))) (da_cons (de_tup (da_cons (de_tup (da_cons de_int da_nil)) da_nil)) (da_cons (de_tup (da_cons de_int da_nil)) da_nil))))) (dss_cons (ds_set 6 C (de_mulA (de_tup (da_cons de_int da_nil)) (de_callB (cr_min C.calm) does_least (glC C rfl) (mgC C V.b_min) (by decide +kernel) (de_lst (da_cons (de_add (de_callB call_len does_len (glC C rfl) (mgC C V.b_len) (by decide +kernel) (de_var 3 C)) de_int) (da_cons de_int da_nil))))) (hf := .inl (hf _))) (dss_cons (ds_append 5 C (de_tup (da_cons (de_add (de_sl (de_var 3 C) do_none (do_some de_int)) (de_callH C tk (h__law_z_pick V) (by decide) rfl rfl (da_cons (de_var 1 C) (da_cons (de_lst (da_cons de_str (da_cons de_str (da_cons de_str da_nil)))) da_nil)) (fl_cons (fl_cons fl_nil)))) (da_cons (de_tup (da_cons (de_var 6 C) da_nil)) (da_cons (de_tup (da_cons de_int da_nil)) da_nil))))) (dss_cons (ds_append 5 C (de_tup (da_cons (de_add (de_callH C tk (h__law_z_pick V) (by decide) rfl rfl (da_cons (de_var 1 C) (da_cons (de_lst (da_cons de_str (da_cons de_str (da_cons de_str (da_cons de_str (da_cons de_str (da_cons de_str da_nil))))))) da_nil)) (fl_cons (fl_cons fl_nil))) (de_sl (de_var 3 C) do_none (do_some de_int))) (da_cons (de_tup (da_cons (de_var 6 C) da_nil)) (da_cons (de_tup (da_cons de_int da_nil)) da_nil))))) (dss_one (ds_for (t := (.nm 7)) C (di_of (de_var 5 C)) (dg_nm 7 C rfl (Or.inr rfl) (Or.inl (hf _))) (dss_cons (ds_par3D 8 9 10 C (da_cons (de_callB (call_reprD (by rw [C.K]; exact V.sm) (C.gd R) (by have := C.hd.un; omega)) does_reprD (glC C rfl) (mgC C V.b_repr) (by decide +kernel) (de_var 7 C)) (da_cons (de_callH C tk (h__law_z_is_wide V) (by decide) rfl rfl (da_cons (de_var 7 C) (da_cons de_int da_nil)) (fl_cons (fl_cons fl_nil))) (da_cons (de_callH C tk (h__law_z_is_machine V) (by decide) rfl rfl (da_cons (de_var 7 C) da_nil) (fl_cons fl_nil)) da_nil))) (hw := sw_of C rfl)) (dss_cons (ds_if (dt_ne C (de_callB (call_reprD (by rw [C.K]; exact V.sm) (C.gd R) (by have := C.hd.un; omega)) does_reprD (glC C rfl) (mgC C V.b_repr) (by decide +kernel) (de_lst (da_cons (de_callH C tk (h_is_wide V) (by decide) rfl rfl (da_cons (de_var 7 C) da_nil) (fl_cons fl_nil)) (da_cons (de_callH C tk (h_is_machine V) (by decide) rfl rfl (da_cons (de_var 7 C) da_nil) (fl_cons fl_nil)) da_nil)))) (de_callB (call_reprD (by rw [C.K]; exact V.sm) (C.gd R) (by have := C.hd.un; omega)) does_reprD (glC C rfl) (mgC C V.b_repr) (by decide +kernel) (de_lst (da_cons (de_var 9 C) (da_cons (de_var 10 C) da_nil))))) (dss_one (ds_ret de_bl)) dss_nil) (dss_cons (ds_if (dt_w (dw_and (dt_not (dt_val (de_var 9 C))) (dw_and1 (dt_ne C (de_wordH C (by decide) (h__law_z_word V) LA rfl (by decide +kernel) rfl (fun _ _ _ _ _ => rfl) (fun X' W' C' tk' => (de_callH C' tk' (h_least_of V) (by decide) rfl rfl (da_cons (de_var 7 C') da_nil) (fl_cons fl_nil)))) de_str)))) (dss_one (ds_ret de_bl)) dss_nil) (dss_cons (ds_if (dt_w (dw_and (dt_not (dt_val (de_var 9 C))) (dw_and1 (dt_ne C (de_wordH C (by decide) (h__law_z_word V) LA rfl (by decide +kernel) rfl (fun _ _ _ _ _ => rfl) (fun X' W' C' tk' => (de_callH C' tk' (h_reads V) (by decide) rfl rfl (da_cons (de_var 7 C') (da_cons de_non da_nil)) (fl_cons (fl_cons fl_nil))))) de_str)))) (dss_one (ds_ret de_bl)) dss_nil) (dss_cons (ds_if (dt_w (dw_and (dt_not (dt_val (de_var 9 C))) (dw_and1 (dt_ne C (de_wordH C (by decide) (h__law_z_word V) LA rfl (by decide +kernel) rfl (fun _ _ _ _ _ => rfl) (fun X' W' C' tk' => (de_callH C' tk' (h_unlike_word V) (by decide) rfl rfl (da_cons (de_ix (de_var 4 C') de_int) (da_cons (de_var 7 C') da_nil)) (fl_cons (fl_cons fl_nil))))) de_str)))) (dss_one (ds_ret de_bl)) dss_nil) (dss_cons (ds_if (dt_w (dw_and (dt_not (dt_val (de_var 9 C))) (dw_and1 (dt_ne C (de_wordH C (by decide) (h__law_z_word V) LA rfl (by decide +kernel) rfl (fun _ _ _ _ _ => rfl) (fun X' W' C' tk' => (de_callH C' tk' (h_unlike_word V) (by decide) rfl rfl (da_cons (de_var 7 C') (da_cons (de_ix (de_var 4 C') de_int) da_nil)) (fl_cons (fl_cons fl_nil))))) de_str)))) (dss_one (ds_ret de_bl)) dss_nil) (dss_cons (ds_if (dt_w (dw_and (dt_not (dt_val (de_var 10 C))) (dw_and1 (dt_ne C (de_wordH C (by decide) (h__law_z_word V) LA rfl (by decide +kernel) rfl (fun _ _ _ _ _ => rfl) (fun X' W' C' tk' => (de_callH C' tk' (h_word_for V) (by decide) rfl rfl (da_cons (de_var 7 C') (da_cons de_non da_nil)) (fl_cons (fl_cons fl_nil))))) de_str)))) (dss_one (ds_ret de_bl)) dss_nil) (dss_cons (ds_if (dt_w (dw_and (dt_not (dt_val (de_var 10 C))) (dw_and1 (dt_ne C (de_wordH C (by decide) (h__law_z_word V) LA rfl (by decide +kernel) rfl (fun _ _ _ _ _ => rfl) (fun X' W' C' tk' => (de_callH C' tk' (h_pieces_of V) (by decide) rfl rfl (da_cons (de_var 7 C') da_nil) (fl_cons fl_nil)))) de_str)))) (dss_one (ds_ret de_bl)) dss_nil) (dss_one (ds_if (dt_ne C (de_callB (call_reprD (by rw [C.K]; exact V.sm) (C.gd R) (by have := C.hd.un; omega)) does_reprD (glC C rfl) (mgC C V.b_repr) (by decide +kernel) (de_var 7 C)) (de_var 8 C)) (dss_one (ds_ret de_bl)) dss_nil))))))))))))))))))))))) (dss_one (ds_ret de_bl)))
end Q3
set_option exponentiation.threshold 100001
namespace Q3
open PySem PySem.Spec PyProof.Rows L2
def Ret (f : Fd) (rs : List R) (p : Option Pen) (r : R) (p' : Option Pen) : Prop := ∃ S, f rs p = .ok r S ∧ S.p = p'
theorem sl_eq : sizeLine = 16777216 := sizeLine_eq
theorem cpow_of {i j : Int} (h0 : 0 ≤ j) (h : j ≤ 100) (hb : i.natAbs < 2 ^ 200) : CPowW i j := ⟨h0, h, Nat.lt_of_lt_of_le hb (Nat.pow_le_pow_right (by decide) (by decide))⟩
def primesL : List D := [.int 2147483629, .int 2147483587, .int 2147483579, .int 2147483563, .int 2147483549, .int 2147483543, .int 2147483497, .int 2147483489, .int 2147483477, .int 2147483423, .int 2147483399, .int 2147483353, .int 2147483323]
theorem atI_lt {α : Type} {xs : List α} {i : Int} (h0 : 0 ≤ i) (h : i < xs.length) : ∃ x, atI xs i = some x ∧ x ∈ xs := by
  unfold atI
  have e : ixN xs.length i = some i.toNat := by
    unfold ixN
    simp [h0, h]
  rw [e]
  have hi : i.toNat < xs.length := by omega
  exact ⟨xs[i.toNat], List.getElem?_eq_getElem hi, List.getElem_mem hi⟩
theorem primes_at (a : Int) : ∃ q : Int, atI primesL (a % 13) = some (.int q) ∧ 0 < q ∧ q < 2 ^ 31 := by
  obtain ⟨x, e, m⟩ := atI_lt (xs := primesL) (i := a % 13) (Int.emod_nonneg a (by decide)) (by have := Int.emod_lt_of_pos a (show (0 : Int) < 13 by decide); simpa [primesL] using this)
  rw [e]
  unfold primesL at m
  simp only [List.mem_cons, List.not_mem_nil, or_false] at m
  rcases m with rfl | rfl | rfl | rfl | rfl | rfl | rfl | rfl | rfl | rfl | rfl | rfl | rfl <;> exact ⟨_, rfl, by decide, by decide⟩
theorem spread_ok (c a : Int) (p : Option Pen) (h0 : 0 ≤ a) (h1 : a < 2 ^ 40) : ∃ v, Ret F__law_spread [.d (.int c), .d (.int a)] p (.d (.int v)) p := by
  unfold Ret F__law_spread
  have k0 : CPowW 10 18 := cpow_of (by decide) (by decide) (by decide)
  by_cases hc : (1000000000000000000 : Int) ≤ c
  · exact ⟨c, by simp [g__law_spread, k0, hc]⟩
  · obtain ⟨q1, e1, p1, l1⟩ := primes_at a
    obtain ⟨q2, e2, p2, l2⟩ := primes_at (a + 5)
    obtain ⟨q3, e3, p3, l3⟩ := primes_at (a + 7)
    unfold primesL at e1 e2 e3
    have c1 : CMul 2 a := .inl (by decide)
    have b0 : 0 ≤ c % 1000000007 ∧ c % 1000000007 < 1000000007 := ⟨Int.emod_nonneg c (by decide), Int.emod_lt_of_pos c (by decide)⟩
    have c2 : CMul (c % 1000000007) (2 * a + 69069) := .inl (by omega)
    have c3 : CMul a 40503 := .inr (by decide)
    have b1 : (c % 1000000007 * (2 * a + 69069)).natAbs < 2 ^ 100 := by
      rw [Int.natAbs_mul]
      calc (c % 1000000007).natAbs * (2 * a + 69069).natAbs < 2 ^ 31 * 2 ^ 42 := Nat.mul_lt_mul'' (by omega) (by omega)
        _ ≤ 2 ^ 100 := by decide
    have c4 : CPowW (c % 1000000007 * (2 * a + 69069) + a * 40503 + 977) 3 := cpow_of (by decide) (by decide) (by omega)
    have m1 : ∀ x : Int, 0 ≤ x % q1 ∧ x % q1 < 2 ^ 31 := fun x => ⟨Int.emod_nonneg x (by omega), by have := Int.emod_lt_of_pos x p1; omega⟩
    have m2 : ∀ x : Int, 0 ≤ x % q2 ∧ x % q2 < 2 ^ 31 := fun x => ⟨Int.emod_nonneg x (by omega), by have := Int.emod_lt_of_pos x p2; omega⟩
    have m3 : ∀ x : Int, 0 ≤ x % q3 ∧ x % q3 < 2 ^ 31 := fun x => ⟨Int.emod_nonneg x (by omega), by have := Int.emod_lt_of_pos x p3; omega⟩
    have c5 : ∀ x : Int, CMul (x % q1) (a + 3) := fun x => .inl (by have := m1 x; omega)
    have c6 : ∀ x : Int, CPowW (x % q1 * (a + 3) + c % 65537 + 5) 5 := fun x => cpow_of (by decide) (by decide) (by
      have h := m1 x
      have b : (x % q1 * (a + 3)).natAbs < 2 ^ 100 := by
        rw [Int.natAbs_mul]
        calc (x % q1).natAbs * (a + 3).natAbs < 2 ^ 31 * 2 ^ 42 := Nat.mul_lt_mul'' (by omega) (by omega)
          _ ≤ 2 ^ 100 := by decide
      have h3 : 0 ≤ c % 65537 ∧ c % 65537 < 65537 := ⟨Int.emod_nonneg c (by decide), Int.emod_lt_of_pos c (by decide)⟩
      omega)
    have c7 : ∀ x y : Int, CPowW (x % q2 + y % q1 % 1009 + a) 3 := fun x y => cpow_of (by decide) (by decide) (by
      have h := m2 x
      have h3 : 0 ≤ y % q1 % 1009 ∧ y % q1 % 1009 < 1009 := ⟨Int.emod_nonneg _ (by decide), Int.emod_lt_of_pos _ (by decide)⟩
      omega)
    have c8 : ∀ x : Int, CMul x 2147483647 := fun x => .inr (by decide)
    simp [g__law_spread, k0, hc, sl_eq, c1, c2, c3, c4, e1, e2, e3, p1, p2, p3, c5, c6, c7, c8]
    exact ⟨_, _, ⟨rfl, rfl⟩, rfl⟩
theorem Ret.ok {f : Fd} {rs : List R} {p p' : Option Pen} {r : R} (h : Ret f rs p r p') : ∃ r0, f rs p = .ok r ⟨r0, p'⟩ := by
  obtain ⟨⟨r0, p0⟩, e, q⟩ := h
  cases q
  exact ⟨r0, e⟩
/-- one drawing: a number below m, the place goes on by at most one -/
theorem take_ok (P : Pen) (m : Int) (hm : 0 < m) (hm2 : m < 1000000) (h0 : 0 ≤ P.at_) (h1 : P.at_ < 2 ^ 30) :
    ∃ v P', Ret F__law_take [.pen, .d (.int m)] (some P) (.d (.int v)) (some P') ∧ 0 ≤ v ∧ v < m ∧ 0 ≤ P'.at_ ∧ P'.at_ ≤ P.at_ + 1 := by
  have cd : ∀ x : Int, CDiv x m := fun x => ⟨hm, by omega⟩
  have fin : ∀ x : Int, 0 ≤ x % m ∧ x % m < m := fun x => ⟨Int.emod_nonneg x (by omega), Int.emod_lt_of_pos x hm⟩
  unfold Ret F__law_take
  by_cases hr : P.rest < m
  · -- the cell
    have k0 : CPowW 10 17 := cpow_of (by decide) (by decide) (by decide)
    have c5 : CMul P.at_ 5 := .inr (by decide)
    by_cases hl : P.at_ < P.cells.length
    · obtain ⟨x, ex, mx⟩ := atI_lt (xs := P.cells.map PyData.int) (i := P.at_) h0 (by simpa using hl)
      obtain ⟨c, _, rfl⟩ := List.mem_map.mp mx
      obtain ⟨v, hv⟩ := spread_ok c P.at_ (some { P with at_ := P.at_ + 1 }) h0 (by omega)
      obtain ⟨r0, ev⟩ := hv.ok
      refine ⟨v % m, ⟨P.cells, P.at_ + 1, v / m⟩, ?_, (fin v).1, (fin v).2, by show 0 ≤ P.at_ + 1; omega, Int.le_refl _⟩
      simp [g__law_take, hr, hl, ex, ev, cd, hm]
    · by_cases hz : P.cells.length = 0
      · have hz' : P.cells = [] := List.length_eq_zero_iff.mp hz
        obtain ⟨v, hv⟩ := spread_ok 0 P.at_ (some { P with at_ := P.at_ + 1 }) h0 (by omega)
        obtain ⟨r0, ev⟩ := hv.ok
        refine ⟨v % m, ⟨P.cells, P.at_ + 1, v / m⟩, ?_, (fin v).1, (fin v).2, by show 0 ≤ P.at_ + 1; omega, Int.le_refl _⟩
        rw [hz'] at hl ev ⊢
        simp at hl
        simp [g__law_take, hr, hz', Int.not_lt.mpr h0, ev, cd, hm]
      · have hz1 : (0 : Int) < P.cells.length := by omega
        have m5 : 0 ≤ (P.at_ * 5 + 3) % (P.cells.length : Int) ∧ (P.at_ * 5 + 3) % (P.cells.length : Int) < P.cells.length := ⟨Int.emod_nonneg _ (by omega), Int.emod_lt_of_pos _ hz1⟩
        obtain ⟨x, ex, mx⟩ := atI_lt (xs := P.cells.map PyData.int) (i := (P.at_ * 5 + 3) % (P.cells.length : Int)) m5.1 (by simpa using m5.2)
        obtain ⟨c, _, rfl⟩ := List.mem_map.mp mx
        have h17 : (0 : Int) < 100000000000000000 + P.at_ := by omega
        obtain ⟨v, hv⟩ := spread_ok (c % (100000000000000000 + P.at_)) P.at_ (some { P with at_ := P.at_ + 1 }) h0 (by omega)
        obtain ⟨r0, ev⟩ := hv.ok
        have hz2 : 0 < P.cells.length := by omega
        refine ⟨v % m, ⟨P.cells, P.at_ + 1, v / m⟩, ?_, (fin v).1, (fin v).2, by show 0 ≤ P.at_ + 1; omega, Int.le_refl _⟩
        simp [g__law_take, hr, hl, hz1, hz2, c5, ex, k0, h17, ev, cd, hm]
  · refine ⟨P.rest % m, ⟨P.cells, P.at_, P.rest / m⟩, ?_, (fin _).1, (fin _).2, h0, by show P.at_ ≤ P.at_ + 1; omega⟩
    simp [g__law_take, hr, cd, hm]
/-! ### the pen's place -/
/-- the pen at most at n -/
def At (n : Int) (p : Option Pen) : Prop := ∃ P, p = some P ∧ 0 ≤ P.at_ ∧ P.at_ ≤ n
theorem At.mono {n m : Int} {p : Option Pen} (h : At n p) (k : n ≤ m) : At m p := by
  obtain ⟨P, e, h0, h1⟩ := h
  exact ⟨P, e, h0, by omega⟩
theorem take_at {n m : Int} {p : Option Pen} (h : At n p) (hn : n < 2 ^ 30) (hm : 0 < m) (hm2 : m < 1000000) : ∃ v p' r0, F__law_take [.pen, .d (.int m)] p = .ok (.d (.int v)) ⟨r0, p'⟩ ∧ 0 ≤ v ∧ v < m ∧ At (n + 1) p' := by
  obtain ⟨P, rfl, h0, h1⟩ := h
  obtain ⟨v, P', r, a, b, c, d⟩ := take_ok P m hm hm2 h0 (by omega)
  obtain ⟨r0, e⟩ := r.ok
  exact ⟨v, some P', r0, e, a, b, P', rfl, c, by omega⟩
theorem pick_at {n : Int} {p : Option Pen} {xs : List D} (h : At n p) (hn : n < 2 ^ 30) (h0 : 0 < xs.length) (h1 : xs.length < 1000000) : ∃ x p' r0, F__law_z_pick [.pen, .d (.list xs)] p = .ok (.d x) ⟨r0, p'⟩ ∧ x ∈ xs ∧ At (n + 1) p' := by
  obtain ⟨v, p', r0, e, a, b, c⟩ := take_at (m := (xs.length : Int)) h hn (by omega) (by omega)
  obtain ⟨x, ex, mx⟩ := atI_lt (xs := xs) a b
  refine ⟨x, p', [.pen, .d (.list xs)], ?_, mx, c⟩
  simp [F__law_z_pick, g__law_z_pick, e, ex]
end Q3
namespace Q3
open PySem PySem.Spec PyProof.Rows L2
def alphaS : Str := "abcdefghijklmnopqrstuvwxyz"
theorem alpha_at {i : Int} (h0 : 0 ≤ i) (h1 : i < 26) : atI (Str.ofString "abcdefghijklmnopqrstuvwxyz").cps.toList i = some (97 + i.toNat) := by
  have key : ∀ n : Fin 26, atI (Str.ofString "abcdefghijklmnopqrstuvwxyz").cps.toList ((n : Nat) : Int) = some (97 + (n : Nat)) := by decide +kernel
  obtain ⟨n, rfl⟩ := Int.eq_ofNat_of_zero_le h0
  exact key ⟨n, by omega⟩
def Lets (z : Str) : Prop := ∃ cs : List Nat, z = ⟨cs.toArray⟩ ∧ cs.Pairwise (· < ·) ∧ 1 ≤ cs.length ∧ cs.length ≤ 3 ∧ ∀ c ∈ cs, 97 ≤ c ∧ c ≤ 122
@[simp] theorem len_one (c : Nat) : (⟨#[c]⟩ : Str).length = 1 := rfl
@[simp] theorem len_app (a b : Str) : (a ++ b).length = a.length + b.length := by
  show (a.cps ++ b.cps).size = _
  simp [Str.length]
theorem app_one (c : Nat) (cs : List Nat) : (⟨#[c]⟩ : Str) ++ ⟨cs.toArray⟩ = ⟨(c :: cs).toArray⟩ := by
  show Str.mk (#[c] ++ cs.toArray) = _
  simp
theorem letters_at {n : Int} {p : Option Pen} (h : At n p) (hn : n + 4 < 2 ^ 30) : ∃ z p' r0, F__law_z_letters [.pen] p = .ok (.d (.str z)) ⟨r0, p'⟩ ∧ Lets z ∧ At (n + 4) p' := by
  obtain ⟨i, p1, r1, e1, i0, i1, h1⟩ := take_at (m := 24) h (by omega) (by decide) (by decide)
  obtain ⟨t2, p2, r2, e2, j0, j1, h2⟩ := take_at (m := 24 - i) h1 (by omega) (by omega) (by omega)
  obtain ⟨t3, p3, r3, e3, k0, k1, h3⟩ := take_at (m := 25 - (i + 1 + t2)) h2 (by omega) (by omega) (by omega)
  have ai := alpha_at i0 (by omega : i < 26)
  have aj := alpha_at (i := i + 1 + t2) (by omega) (by omega)
  have ak := alpha_at (i := i + 1 + t2 + 1 + t3) (by omega) (by omega)
  have hs : (Str.ofString "abcdefghijklmnopqrstuvwxyz").length = 26 := by decide +kernel
  obtain ⟨x, p4, r4, e4, mx, h4⟩ := pick_at (xs := [.str "", .str ⟨#[97 + (i + 1 + t2).toNat]⟩, .str ⟨#[97 + (i + 1 + t2).toNat]⟩, .str ⟨#[97 + (i + 1 + t2).toNat]⟩, .str ⟨#[97 + (i + 1 + t2).toNat, 97 + (i + 1 + t2 + 1 + t3).toNat]⟩]) h3 (by omega) (by simp) (by simp)
  obtain ⟨cs, ex, hp, hl, hb⟩ : ∃ cs : List Nat, x = .str ⟨cs.toArray⟩ ∧ ((97 + i.toNat) :: cs).Pairwise (· < ·) ∧ cs.length ≤ 2 ∧ ∀ c ∈ cs, 97 ≤ c ∧ c ≤ 122 := by
    simp only [List.mem_cons, List.not_mem_nil, or_false] at mx
    rcases mx with rfl | rfl | rfl | rfl | rfl
    · exact ⟨[], rfl, by simp, by simp, by simp⟩
    · exact ⟨[_], rfl, by simp; omega, by simp, by simp; omega⟩
    · exact ⟨[_], rfl, by simp; omega, by simp, by simp; omega⟩
    · exact ⟨[_], rfl, by simp; omega, by simp, by simp; omega⟩
    · exact ⟨[_, _], rfl, by simp; omega, by simp, by simp; omega⟩
  subst ex
  have hz : (⟨cs.toArray⟩ : Str).length = cs.length := by simp [Str.length]
  have hz2 : 1 + cs.length ≤ 16777216 := by omega
  obtain ⟨r0, er⟩ : ∃ r0, F__law_z_letters [.pen] p = .ok (.d (.str ⟨((97 + i.toNat) :: cs).toArray⟩)) ⟨r0, p4⟩ := by
    simp [F__law_z_letters, g__law_z_letters, e1, e2, e3, e4, ai, aj, ak, hs, sl_eq, hz, hz2, app_one]
  refine ⟨_, p4, r0, er, ⟨_, rfl, hp, by simp, by simp; omega, fun c hc => ?_⟩, h4.mono (by omega)⟩
  rcases List.mem_cons.mp hc with rfl | hc
  · omega
  · exact hb c hc
end Q3
namespace Q3
open PySem PySem.Spec PyProof.Rows L2
def optD : Option Nat → D
  | none => .none
  | some n => .int (n : Nat)
def rowD (row : List (Option Nat)) : D := .tuple (row.map optD)
def RowOk (k many : Nat) (row : List (Option Nat)) : Prop := row.length = k ∧ ∀ s, some s ∈ row → s < many
/-- a drawn wide machine -/
def wideD (z : Str) (rows : List (List (Option Nat))) (ends : List Nat) : D := .tuple [.str z, .tuple (rows.map rowD), .tuple (ends.map fun n => .int (n : Nat))]
structure WideOk (z : Str) (rows : List (List (Option Nat))) (ends : List Nat) : Prop where
  h1 : 1 ≤ rows.length
  h2 : rows.length ≤ 8
  row : ∀ r ∈ rows, RowOk z.cps.size rows.length r
  up : ends.Pairwise (· < ·)
  lt : ∀ e ∈ ends, e < rows.length
theorem rngD_get {lo : Int} {n i : Nat} {d : D} (h : (rngD lo n)[i]? = some d) : i < n ∧ d = .int (lo + (i : Nat)) := by
  unfold rngD at h
  rw [List.getElem?_map] at h
  obtain ⟨j, e1, e2⟩ := Option.map_eq_some_iff.mp h
  obtain ⟨h1, h2⟩ := List.getElem?_eq_some_iff.mp e1
  simp at h1 h2
  subst h2
  exact ⟨h1, e2.symm⟩
@[simp] theorem rngD_len (lo : Int) (n : Nat) : (rngD lo n).length = n := by simp [rngD]
@[simp] theorem signs_len (z : Str) : (signs z).length = z.cps.size := by simp [signs]
theorem At.pos {n : Int} {p : Option Pen} (h : At n p) : 0 ≤ n := by
  obtain ⟨P, _, h0, h1⟩ := h
  omega
/-- one row -/
theorem row_loop {z : Str} {many none_ : Nat} {n : Int} {p : Option Pen} {a2 a4 a6 a8 a9 : R} (hz : z.cps.size ≤ 3) (hm0 : 0 < many) (hm : many ≤ 8) (h : At n p) (hn : n + 6 < 2 ^ 30) :
    ∃ row p' b8, forF (.nm 8) (appF 7 (fIf (fB (fBin gLt (callF F__law_take (fCons (fVar 0) (fCons (fC (.int 6)) fNil))) (fVar 5))) (fC .none) (callF F__law_take (fCons (fVar 0) (fCons (fVar 3) fNil))))) (signs z)
        ⟨[.pen, .d (.str z), a2, .d (.int (many : Nat)), a4, .d (.int (none_ : Nat)), a6, .l [], a8, a9], p⟩ =
      .nx ⟨[.pen, .d (.str z), a2, .d (.int (many : Nat)), a4, .d (.int (none_ : Nat)), a6, .l ((row : List (Option Nat)).map optD), b8, a9], p'⟩ ∧ RowOk z.cps.size many row ∧ At (n + 6) p' := by
  obtain ⟨S', e, row, p', b8, rfl, hl, hr, ha⟩ := forF_inv (t := .nm 8) (ds := signs z) (g := appF 7 (fIf (fB (fBin gLt (callF F__law_take (fCons (fVar 0) (fCons (fC (.int 6)) fNil))) (fVar 5))) (fC .none) (callF F__law_take (fCons (fVar 0) (fCons (fVar 3) fNil)))))
    (P := fun k S => ∃ (row : List (Option Nat)) (p' : Option Pen) (b8 : R), S = ⟨[.pen, .d (.str z), a2, .d (.int (many : Nat)), a4, .d (.int (none_ : Nat)), a6, .l (row.map optD), b8, a9], p'⟩ ∧ row.length = k ∧ (∀ s, some s ∈ row → s < many) ∧ At (n + 2 * k) p')
    (S := ⟨[.pen, .d (.str z), a2, .d (.int (many : Nat)), a4, .d (.int (none_ : Nat)), a6, .l [], a8, a9], p⟩) 0 ⟨[], p, a8, rfl, rfl, by simp, by simpa using h⟩ (by
      rintro i d S hd ⟨row, p1, b8, rfl, hl, hr, ha⟩
      have hi : i < z.cps.size := by
        have := (List.getElem?_eq_some_iff.mp hd).1
        simpa using this
      refine ⟨_, by simp; rfl, ?_⟩
      obtain ⟨v, p2, r2, e2, v0, v1, h2⟩ := take_at (m := 6) ha (by omega) (by decide) (by decide)
      have hlen : row.length < 16777216 := by omega
      by_cases hv : v < (none_ : Int)
      · refine ⟨_, .inl (by simp [isL, e2, hv, sl_eq, hlen]; rfl), row ++ [none], p2, .d d, by simp [optD], by simp; omega, fun s hs => ?_, h2.mono (by omega)⟩
        rcases List.mem_append.mp hs with hs | hs
        · exact hr s hs
        · simp at hs
      · obtain ⟨u, p3, r3, e3, u0, u1, h3⟩ := take_at (m := ((many : Nat) : Int)) h2 (by omega) (by omega) (by omega)
        obtain ⟨u', rfl⟩ := Int.eq_ofNat_of_zero_le u0
        refine ⟨_, .inl (by simp [isL, e2, e3, hv, sl_eq, hlen]; rfl), row ++ [some u'], p3, .d d, by simp [optD], by simp; omega, fun s hs => ?_, h3.mono (by omega)⟩
        rcases List.mem_append.mp hs with hs | hs
        · exact hr s hs
        · simp at hs
          omega)
  refine ⟨row, p', b8, e, ⟨by simpa using hl, hr⟩, ha.mono (by simp; omega)⟩
end Q3
namespace Q3
open PySem PySem.Spec PyProof.Rows L2
@[simp] theorem tuple_l (xs : List D) : gTuple (.list xs) = some (.v (.tuple xs)) := rfl
@[simp] theorem tuple_t (xs : List D) : gTuple (.tuple xs) = some (.v (.tuple xs)) := rfl
@[simp] theorem eq_i (a b : Int) : gEq (.int a) (.int b) = some (.v (.bool (a == b))) := rfl
theorem rows_loop {z : Str} {many none_ : Nat} {most : Int} {n : Int} {p : Option Pen} (hz : z.cps.size ≤ 3) (hm0 : 0 < many) (hm : many ≤ 8) (h : At n p) (hn : n + 60 < 2 ^ 30) :
    ∃ rows p' b6 b7 b8, forF (.nm 6) (seqF (setF 7 (fLst fNil)) (seqF (forS (.nm 8) (itF (fVar 1)) (appF 7 (fIf (fB (fBin gLt (callF F__law_take (fCons (fVar 0) (fCons (fC (.int 6)) fNil))) (fVar 5))) (fC .none) (callF F__law_take (fCons (fVar 0) (fCons (fVar 3) fNil)))))) (appF 4 (f1 gTuple (fVar 7))))) (rngD 0 many)
        ⟨[.pen, .d (.str z), .d (.int most), .d (.int (many : Nat)), .l [], .d (.int (none_ : Nat)), .un, .un, .un, .un], p⟩ =
      .nx ⟨[.pen, .d (.str z), .d (.int most), .d (.int (many : Nat)), .l ((rows : List (List (Option Nat))).map rowD), .d (.int (none_ : Nat)), b6, b7, b8, .un], p'⟩ ∧ rows.length = many ∧ (∀ r ∈ rows, RowOk z.cps.size many r) ∧ At (n + 48) p' ∧ (b6 = .un ∨ ∃ d, b6 = .d d) := by
  obtain ⟨S', e, rows, p', b6, b7, b8, rfl, hl, hr, ha, hb⟩ := forF_inv (t := .nm 6) (ds := rngD 0 many) (g := (seqF (setF 7 (fLst fNil)) (seqF (forS (.nm 8) (itF (fVar 1)) (appF 7 (fIf (fB (fBin gLt (callF F__law_take (fCons (fVar 0) (fCons (fC (.int 6)) fNil))) (fVar 5))) (fC .none) (callF F__law_take (fCons (fVar 0) (fCons (fVar 3) fNil)))))) (appF 4 (f1 gTuple (fVar 7))))))
    (P := fun k S => ∃ (rows : List (List (Option Nat))) (p' : Option Pen) (b6 b7 b8 : R), S = ⟨[.pen, .d (.str z), .d (.int most), .d (.int (many : Nat)), .l (rows.map rowD), .d (.int (none_ : Nat)), b6, b7, b8, .un], p'⟩ ∧ rows.length = k ∧ (∀ r ∈ rows, RowOk z.cps.size many r) ∧ At (n + 6 * k) p' ∧ (b6 = .un ∨ ∃ d, b6 = .d d))
    (S := ⟨[.pen, .d (.str z), .d (.int most), .d (.int (many : Nat)), .l [], .d (.int (none_ : Nat)), .un, .un, .un, .un], p⟩) 0 ⟨[], p, .un, .un, .un, rfl, rfl, by simp, by simpa using h, .inl rfl⟩ (by
      rintro i d S hd ⟨rows, p1, b6, b7, b8, rfl, hl, hr, ha, hb⟩
      obtain ⟨hi, rfl⟩ := rngD_get hd
      refine ⟨_, by simp; rfl, ?_⟩
      obtain ⟨row, p2, c8, e2, hrow, h2⟩ := row_loop (none_ := none_) (a2 := .d (.int most)) (a4 := .l (rows.map rowD)) (a6 := .d (.int (0 + (i : Nat)))) (a8 := b8) (a9 := .un) hz hm0 hm ha (by omega)
      have hlen : rows.length < 16777216 := by omega
      simp only [Int.zero_add] at e2
      refine ⟨_, .inl (by simp [isL, e2, sl_eq, hlen]; rfl), rows ++ [row], p2, .d (.int (0 + (i : Nat))), .l (row.map optD), c8, by simp [rowD], by simp; omega, fun r hs => ?_, h2.mono (by omega), .inr ⟨_, rfl⟩⟩
      rcases List.mem_append.mp hs with hs | hs
      · exact hr r hs
      · rw [List.mem_singleton.mp hs]; exact hrow)
  refine ⟨rows, p', b6, b7, b8, e, by simpa using hl, hr, ha.mono (by simp; omega), hb⟩
/-- the ends that are drawn -/
theorem ends_loop {z : Str} {many : Nat} {most : Int} {n : Int} {p : Option Pen} {a2 a4 a5 a7 a8 a9 : R} (hm : many ≤ 8) (h : At n p) (hn : n + 60 < 2 ^ 30) :
    ∃ ends p' b6, lcF (.nm 6) (fB (fBin gEq (callF F__law_take (fCons (fVar 0) (fCons (fC (.int 2)) fNil))) (fC (.int 0)))) (fVar 6) [6] (rngD 0 many)
        ⟨[.pen, .d (.str z), a2, .d (.int (many : Nat)), a4, a5, .un, a7, a8, a9], p⟩ [] =
      .ok ((ends : List Nat).map fun n => .int (n : Nat)) ⟨[.pen, .d (.str z), a2, .d (.int (many : Nat)), a4, a5, b6, a7, a8, a9], p'⟩ ∧ ends.Pairwise (· < ·) ∧ (∀ e ∈ ends, e < many) ∧ At (n + 8) p' := by
  obtain ⟨S', out, e, ends, p', b6, rfl, rfl, hp, hl, ha⟩ := lcF_inv (t := .nm 6) (tt := fB (fBin gEq (callF F__law_take (fCons (fVar 0) (fCons (fC (.int 2)) fNil))) (fC (.int 0)))) (te := fVar 6) (vs := [6]) (ds := rngD 0 many)
    (P := fun k S acc => ∃ (ends : List Nat) (p' : Option Pen) (b6 : R), S = ⟨[.pen, .d (.str z), a2, .d (.int (many : Nat)), a4, a5, b6, a7, a8, a9], p'⟩ ∧ acc = ends.map (fun n => .int (n : Nat)) ∧ ends.Pairwise (· < ·) ∧ (∀ e ∈ ends, e < k) ∧ At (n + k) p')
    (S := ⟨[.pen, .d (.str z), a2, .d (.int (many : Nat)), a4, a5, .un, a7, a8, a9], p⟩) (acc := []) 0 (by simp [sl_eq]; omega) ⟨[], p, .un, rfl, rfl, List.Pairwise.nil, by simp, by simpa using h⟩ (by
      rintro i d S acc hd ⟨ends, p1, b6, rfl, rfl, hp, hl, ha⟩
      obtain ⟨hi, rfl⟩ := rngD_get hd
      refine ⟨_, by simp [wipeR]; rfl, ?_⟩
      obtain ⟨v, p2, r2, e2, v0, v1, h2⟩ := take_at (m := 2) ha (by omega) (by decide) (by decide)
      refine ⟨v == 0, ⟨[.pen, .d (.str z), a2, .d (.int (many : Nat)), a4, a5, .d (.int ((i : Nat) : Int)), a7, a8, a9], p2⟩, by simp [e2], fun hv => ⟨ends, p2, _, rfl, rfl, hp, fun e he => by have := hl e he; omega, h2.mono (by omega)⟩, fun hv => ⟨.s 6, ⟨[.pen, .d (.str z), a2, .d (.int (many : Nat)), a4, a5, .d (.int ((i : Nat) : Int)), a7, a8, a9], p2⟩, .int ((i : Nat) : Int), ⟨[.pen, .d (.str z), a2, .d (.int (many : Nat)), a4, a5, .d (.int ((i : Nat) : Int)), a7, a8, a9], p2⟩, by simp, by simp, ends ++ [i], p2, .d (.int ((i : Nat) : Int)), rfl, by simp, ?_, fun e he => ?_, h2.mono (by omega)⟩⟩
      · rw [List.pairwise_append]
        exact ⟨hp, by simp, fun a ha b hb => by rw [List.mem_singleton.mp hb]; have := hl a ha; omega⟩
      · rcases List.mem_append.mp he with he | he
        · have := hl e he; omega
        · rw [List.mem_singleton.mp he]; omega)
  refine ⟨ends, p', b6, e, hp, fun e he => by have := hl e he; simpa using this, ha.mono (by simp; omega)⟩
theorem shaped_ints (l : List Nat) : SeqAt.shaped (.list (l.map fun n => .int (n : Nat))) = true := by
  have h1 : ∀ l : List Nat, PyData.canLayAll0 (l.map fun n => .int (n : Nat)) = true := by
    intro l
    induction l with
    | nil => rfl
    | cons a l ih => simpa [PyData.canLayAll0, PyData.canLay0] using ih
  have h2 : ∀ l : List Nat, PyData.depthAll (l.map fun n => .int (n : Nat)) = 0 := by
    intro l
    induction l with
    | nil => rfl
    | cons a l ih => simpa [PyData.depthAll, PyData.depth] using ih
  simp [SeqAt.shaped, PyData.canLay0, PyData.depth, h1, h2]
theorem ne_nil (l : List Nat) : gNe (.list (l.map fun n => .int (n : Nat))) (.list []) = some (.v (.bool (!l.isEmpty))) := by
  have h0 : SeqAt.shaped (.list []) = true := by decide
  unfold gNe
  dsimp only
  rw [shaped_ints, h0]
  cases l <;> rfl
theorem wide_step {z : Str} {most : Int} {p p1 p2 p3 p4 : Option Pen} {m0 many nn : Nat} {rows : List (List (Option Nat))} {ends : List Nat} {r1 r2 : List R} {b6 b7 b8 c6 : R}
    (e1 : F__law_take [.pen, .d (.int most)] p = .ok (.d (.int (m0 : Nat))) ⟨r1, p1⟩) (e2 : F__law_take [.pen, .d (.int 4)] p1 = .ok (.d (.int (nn : Nat))) ⟨r2, p2⟩) (big : (1 : Int) + (m0 : Int) = (many : Int))
    (k1 : Rng62 (many : Int))
    (e3 : forF (.nm 6) (seqF (setF 7 (fLst fNil)) (seqF (forS (.nm 8) (itF (fVar 1)) (appF 7 (fIf (fB (fBin gLt (callF F__law_take (fCons (fVar 0) (fCons (fC (.int 6)) fNil))) (fVar 5))) (fC .none) (callF F__law_take (fCons (fVar 0) (fCons (fVar 3) fNil)))))) (appF 4 (f1 gTuple (fVar 7))))) (rngD 0 many)
        ⟨[.pen, .d (.str z), .d (.int most), .d (.int (many : Nat)), .l [], .d (.int (nn : Nat)), .un, .un, .un, .un], p2⟩ =
      .nx ⟨[.pen, .d (.str z), .d (.int most), .d (.int (many : Nat)), .l (rows.map rowD), .d (.int (nn : Nat)), b6, b7, b8, .un], p3⟩)
    (e4 : lcF (.nm 6) (fB (fBin gEq (callF F__law_take (fCons (fVar 0) (fCons (fC (.int 2)) fNil))) (fC (.int 0)))) (fVar 6) [6] (rngD 0 many)
        ⟨[.pen, .d (.str z), .d (.int most), .d (.int (many : Nat)), .l (rows.map rowD), .d (.int (nn : Nat)), .un, b7, b8, .un], p3⟩ [] =
      .ok (ends.map fun n => .int (n : Nat)) ⟨[.pen, .d (.str z), .d (.int most), .d (.int (many : Nat)), .l (rows.map rowD), .d (.int (nn : Nat)), c6, b7, b8, .un], p4⟩)
    (fit : plainAt ⟨[.pen, .d (.str z), .d (.int most), .d (.int (many : Nat)), .l (rows.map rowD), .d (.int (nn : Nat)), b6, b7, b8, .un], p3⟩ [6] = true) :
    g__law_z_wide ⟨[.pen, .d (.str z), .d (.int most), .un, .un, .un, .un, .un, .un, .un], p⟩ = (retF (fTup (fCons (fVar 1) (fCons (f1 gTuple (fVar 4)) (fCons (f1 gTuple (fIf (tOrF (fB (fBin gEq (callF F__law_take (fCons (fVar 0) (fCons (fC (.int 6)) fNil))) (fC (.int 0)))) (fB (fBin gNe (fVar 9) (fLst fNil)))) (fVar 9) (fLst (fCons (fBin gSub (fVar 3) (fC (.int 1))) fNil)))) fNil)))))
      ⟨[.pen, .d (.str z), .d (.int most), .d (.int (many : Nat)), .l (rows.map rowD), .d (.int (nn : Nat)), b6, b7, b8, .l (ends.map fun n => .int (n : Nat))], p4⟩ := by
  have s1 : parF 3 4 (fBin gAdd (fC (.int 1)) (callF F__law_take (fCons (fVar 0) (fCons (fVar 2) fNil)))) (fLst fNil) ⟨[.pen, .d (.str z), .d (.int most), .un, .un, .un, .un, .un, .un, .un], p⟩ = .nx ⟨[.pen, .d (.str z), .d (.int most), .d (.int (many : Nat)), .l [], .un, .un, .un, .un, .un], p1⟩ := by
    simp [e1, big]
  have s2 : setF 5 (callF F__law_take (fCons (fVar 0) (fCons (fC (.int 4)) fNil))) ⟨[.pen, .d (.str z), .d (.int most), .d (.int (many : Nat)), .l [], .un, .un, .un, .un, .un], p1⟩ = .nx ⟨[.pen, .d (.str z), .d (.int most), .d (.int (many : Nat)), .l [], .d (.int (nn : Nat)), .un, .un, .un, .un], p2⟩ := by
    simp [e2]
  have s3 : rng1F (fVar 3) ⟨[.pen, .d (.str z), .d (.int most), .d (.int (many : Nat)), .l [], .d (.int (nn : Nat)), .un, .un, .un, .un], p2⟩ = .ok (rngD 0 many) ⟨[.pen, .d (.str z), .d (.int most), .d (.int (many : Nat)), .l [], .d (.int (nn : Nat)), .un, .un, .un, .un], p2⟩ := by
    simp [k1]
  have s4 : rng1F (fVar 3) ⟨[.pen, .d (.str z), .d (.int most), .d (.int (many : Nat)), .l (rows.map rowD), .d (.int (nn : Nat)), b6, b7, b8, .un], p3⟩ = .ok (rngD 0 many) ⟨[.pen, .d (.str z), .d (.int most), .d (.int (many : Nat)), .l (rows.map rowD), .d (.int (nn : Nat)), b6, b7, b8, .un], p3⟩ := by
    simp [k1]
  have s5 : setF 9 (lcS (.nm 6) (rng1F (fVar 3)) (fB (fBin gEq (callF F__law_take (fCons (fVar 0) (fCons (fC (.int 2)) fNil))) (fC (.int 0)))) (fVar 6) [6]) ⟨[.pen, .d (.str z), .d (.int most), .d (.int (many : Nat)), .l (rows.map rowD), .d (.int (nn : Nat)), b6, b7, b8, .un], p3⟩ =
      .nx ⟨[.pen, .d (.str z), .d (.int most), .d (.int (many : Nat)), .l (rows.map rowD), .d (.int (nn : Nat)), b6, b7, b8, .l (ends.map fun n => .int (n : Nat))], p4⟩ := by
    rw [ev_set, ev_lc, s4, lc1_ok, if_pos fit]
    have w : wipeR [R.pen, .d (.str z), .d (.int most), .d (.int (many : Nat)), .l (rows.map rowD), .d (.int (nn : Nat)), b6, b7, b8, .un] [6] = [.pen, .d (.str z), .d (.int most), .d (.int (many : Nat)), .l (rows.map rowD), .d (.int (nn : Nat)), .un, b7, b8, .un] := rfl
    rw [w, e4, lc3_ok, set1_ok, res_o, set2_ok]
    rfl
  unfold g__law_z_wide
  rw [ev_seq, s1, seq1_nx, ev_seq, s2, seq1_nx, ev_seq, ev_for, s3, for1_ok, e3, seq1_nx, ev_seq, s5, seq1_nx]
theorem wide_at {z : Str} {most : Int} {n : Int} {p : Option Pen} (hz : z.cps.size ≤ 3) (hm0 : 1 ≤ most) (hm : most ≤ 8) (h : At n p) (hn : n + 200 < 2 ^ 30) :
    ∃ rows ends p' r0, F__law_z_wide [.pen, .d (.str z), .d (.int most)] p = .ok (.d (wideD z rows ends)) ⟨r0, p'⟩ ∧ WideOk z rows ends ∧ At (n + 59) p' := by
  obtain ⟨v, p1, r1, e1, v0, v1, h1⟩ := take_at (m := most) h (by omega) (by omega) (by omega)
  obtain ⟨w, p2, r2, e2, w0, w1, h2⟩ := take_at (m := 4) h1 (by omega) (by omega) (by omega)
  obtain ⟨m0, rfl⟩ := Int.eq_ofNat_of_zero_le v0
  obtain ⟨nn, rfl⟩ := Int.eq_ofNat_of_zero_le w0
  obtain ⟨many, hmm⟩ : ∃ many : Nat, many = m0 + 1 := ⟨_, rfl⟩
  have hmany : many ≤ 8 := by omega
  obtain ⟨rows, p3, b6, b7, b8, e3, hl, hr, h3, hb⟩ := rows_loop (z := z) (many := many) (none_ := nn) (most := most) hz (by omega) hmany h2 (by omega)
  obtain ⟨ends, p4, c6, e4, hp, he, h4⟩ := ends_loop (z := z) (many := many) (most := most) (a2 := .d (.int most)) (a4 := .l (rows.map rowD)) (a5 := .d (.int (nn : Nat))) (a7 := b7) (a8 := b8) (a9 := .un) hmany h3 (by omega)
  obtain ⟨u, p5, r5, e5, u0, u1, h5⟩ := take_at (m := 6) h4 (by omega) (by decide) (by decide)
  have big : (1 : Int) + (m0 : Int) = (many : Int) := by omega
  have k1 : Rng62 (many : Int) := rng62 (by omega) (by omega)
  have fit : plainAt ⟨[.pen, .d (.str z), .d (.int most), .d (.int (many : Nat)), .l (rows.map rowD), .d (.int (nn : Nat)), b6, b7, b8, .un], p3⟩ [6] = true := by
    rcases hb with rfl | ⟨d6, rfl⟩ <;> simp [plainAt]
  have eg := wide_step e1 e2 big k1 e3 e4 fit
  have run : F__law_z_wide [.pen, .d (.str z), .d (.int most)] p = run1 (g__law_z_wide ⟨[.pen, .d (.str z), .d (.int most), .un, .un, .un, .un, .un, .un, .un], p⟩) := by
    have e : ([.pen, .d (.str z), .d (.int most)] : List R) ++ List.replicate (10 - ([.pen, .d (.str z), .d (.int most)] : List R).length) .un = [.pen, .d (.str z), .d (.int most), .un, .un, .un, .un, .un, .un, .un] := rfl
    unfold F__law_z_wide
    rw [ev_run, e]
  rw [eg] at run
  have hw : WideOk z rows ends → ∀ e, e < rows.length → True := fun _ _ _ => trivial
  by_cases hu : u = 0
  · obtain ⟨r0, er⟩ : ∃ r0, F__law_z_wide [.pen, .d (.str z), .d (.int most)] p = .ok (.d (wideD z rows ends)) ⟨r0, p5⟩ := by
      rw [run]
      simp [e5, hu, sl_eq, wideD]
    exact ⟨rows, ends, p5, r0, er, ⟨by omega, by omega, fun r hr' => by rw [hl]; exact hr r hr', hp, fun e h => by rw [hl]; exact he e h⟩, h5.mono (by omega)⟩
  · by_cases hk : ends = []
    · obtain ⟨r0, er⟩ : ∃ r0, F__law_z_wide [.pen, .d (.str z), .d (.int most)] p = .ok (.d (wideD z rows [m0])) ⟨r0, p5⟩ := by
        have em : (many : Int) - 1 = (m0 : Int) := by omega
        have q := ne_nil []
        simp only [List.map_nil] at q
        rw [run, hk]
        simp [e5, hu, sl_eq, wideD, q, em]
      exact ⟨rows, [m0], p5, r0, er, ⟨by omega, by omega, fun r hr' => by rw [hl]; exact hr r hr', by simp, fun e h => by rw [List.mem_singleton.mp h, hl]; omega⟩, h5.mono (by omega)⟩
    · obtain ⟨r0, er⟩ : ∃ r0, F__law_z_wide [.pen, .d (.str z), .d (.int most)] p = .ok (.d (wideD z rows ends)) ⟨r0, p5⟩ := by
        have q := ne_nil ends
        have hk2 : ends.isEmpty = false := by cases ends <;> simp_all
        rw [hk2] at q
        rw [run]
        simp [e5, hu, sl_eq, wideD, q]
      exact ⟨rows, ends, p5, r0, er, ⟨by omega, by omega, fun r hr' => by rw [hl]; exact hr r hr', hp, fun e h => by rw [hl]; exact he e h⟩, h5.mono (by omega)⟩
end Q3
namespace Q3
open PySem PySem.Spec PyProof.Rows L2
@[simp] theorem list_s (z : Str) : gList (.str z) = if z.cps.size < sizeLine then some (.o (.l (signs z))) else none := rfl
@[simp] theorem list_l (z : List D) : gList (.list z) = some (.o (.l z)) := rfl
@[simp] theorem list_t (z : List D) : gList (.tuple z) = some (.o (.l z)) := rfl
theorem signs_mem {z : Str} {d : D} (h : d ∈ signs z) : ∃ c, c ∈ z.cps.toList ∧ d = .str ⟨#[c]⟩ := by
  unfold signs at h
  obtain ⟨c, hc, rfl⟩ := List.mem_map.mp h
  exact ⟨c, hc, rfl⟩
@[simp] theorem isi_ev (t : Ty) (d : D) : gIsi t d = some (.v (.bool (isTy t d))) := rfl
theorem bools_map (f : D → Bool) (ds : List D) : gBools (fun b => b.all id) (.list (ds.map fun d => .bool (f d))) = some (.v (.bool (ds.all f))) := by
  have e : boolsOf (ds.map fun d => .bool (f d)) = some (ds.map f) := by
    induction ds with
    | nil => rfl
    | cons d ds ih => show (boolsOf _).map _ = _; rw [ih]; rfl
  show (boolsOf _).map _ = _
  rw [e]
  simp only [Option.map_some, List.all_map]
  rfl
theorem all_lc {v : Nat} {te : Sq → Out PV} {ds : List D} {S : Sq} {fi : Sq → Out (List D)} (f : D → Bool) (hi : fi S = .ok ds S) (fit : plainAt S [v] = true) (hv : v < S.r.length) (hn : ds.length ≤ sizeLine)
    (h : ∀ d ∈ ds, te { S with r := S.r.set v (.d d) } = .ok (.v (.bool (f d))) { S with r := S.r.set v (.d d) }) :
    f1 (gBools fun b => b.all id) (lcS (.nm v) fi yesF te [v]) S = .ok (.v (.bool (ds.all f))) S := by
  obtain ⟨S', out, e, ⟨c, rfl⟩, rfl⟩ := lcF_inv (t := .nm v) (tt := yesF) (te := te) (vs := [v]) (ds := ds)
    (P := fun k S' acc => (∃ c, S' = { S with r := S.r.set v c }) ∧ acc = (ds.take k).map fun d => .bool (f d))
    (S := { S with r := S.r.set v .un }) (acc := []) 0 (by simpa using hn) ⟨⟨.un, rfl⟩, by simp⟩ (by
      rintro i d S' acc hd ⟨⟨c, rfl⟩, rfl⟩
      refine ⟨{ S with r := S.r.set v (.d d) }, by simp [wipeR, hv], true, _, rfl, (fun q => by cases q), fun _ => ⟨_, _, .bool (f d), { S with r := S.r.set v (.d d) }, h d (List.mem_of_getElem? hd), rfl, ⟨_, rfl⟩, ?_⟩⟩
      rw [Nat.zero_add, List.take_add_one, hd]
      simp)
  have w : ({ S with r := wipeR S.r [v] } : Sq) = { S with r := S.r.set v .un } := rfl
  have b : backR S.r (S.r.set v c) [v] = S.r := by
    have e1 : S.r[v]? = some S.r[v] := List.getElem?_eq_getElem hv
    unfold backR backR
    rw [e1]
    simp
  rw [ev_f1, ev_lc, hi, lc1_ok, if_pos fit, w, e, lc3_ok]
  simp only [b]
  rw [one1_ok, fz_o, val_v, one2_ok]
  have q : (ds.take (0 + ds.length)) = ds := by simp
  rw [q, bools_map]
  rfl
theorem within_int (i a b : Int) (p : Option Pen) : ∃ r0, F_is_within [.d (.int i), .d (.int a), .d (.int b)] p = .ok (.d (.bool (decide (a ≤ i) && decide (i ≤ b)))) ⟨r0, p⟩ := by
  by_cases h : a ≤ i
  · exact ⟨[.d (.int i), .d (.int a), .d (.int b)], by simp [F_is_within, g_is_within, isTy, h]⟩
  · exact ⟨[.d (.int i), .d (.int a), .d (.int b)], by simp [F_is_within, g_is_within, isTy, h]⟩
end Q3
namespace Q3
open PySem PySem.Spec PyProof.Rows L2
@[simp] theorem ne_i (a b : Int) : gNe (.int a) (.int b) = some (.v (.bool (!(a == b)))) := rfl
theorem all_true {α : Type} (l : List α) : (l.all fun _ => true) = true := by
  induction l with
  | nil => rfl
  | cons a l ih => simpa using ih
theorem row_true {z : Str} {row : List (Option Nat)} {many : Nat} {p : Option Pen} (hz : z.cps.size ≤ 3) (h : RowOk z.cps.size many row) :
    ∃ r0, F_is_row [.d (rowD row), .d (.str z), .d (.int (many : Nat))] p = .ok (.d (.bool true)) ⟨r0, p⟩ := by
  obtain ⟨hl, hs⟩ := h
  have hzl : z.length ≤ 16777216 := by show z.cps.size ≤ _; omega
  have hrl : row.length = z.length := hl
  have e9 : (⟨[R.d (rowD row), .d (.str z), .d (.int (many : Nat))] ++ List.replicate (4 - [R.d (rowD row), .d (.str z), .d (.int (many : Nat))].length) .un, p⟩ : Sq) = ⟨[.d (rowD row), .d (.str z), .d (.int (many : Nat)), .un], p⟩ := rfl
  have s1 : ifF (tOrF (tNotF (fB (f1 (gIsi .tuple) (fVar 0)))) (fB (fBin gNe (f1 gLen (fVar 0)) (f1 gLen (fVar 1))))) (retF (fC (.bool false))) nxF ⟨[.d (rowD row), .d (.str z), .d (.int (many : Nat)), .un], p⟩ = .nx ⟨[.d (rowD row), .d (.str z), .d (.int (many : Nat)), .un], p⟩ := by
    simp [rowD, isTy, sl_eq, hzl, hrl]
  have s2 := all_lc (v := 3) (te := bv (tOrF (fB (fSlN 3 false)) (fB (callF F_is_within (fCons (fVar 3) (fCons (fC (.int 0)) (fCons (fBin gSub (fVar 2) (fC (.int 1))) fNil)))))))
    (ds := row.map optD) (S := ⟨[.d (rowD row), .d (.str z), .d (.int (many : Nat)), .un], p⟩) (fi := itF (fVar 0)) (fun _ => true) (by simp [rowD]) (by simp [plainAt]) (by simp) (by simp [sl_eq]; omega) (by
      intro d hd
      obtain ⟨o, ho, rfl⟩ := List.mem_map.mp hd
      cases o with
      | none => simp [optD]
      | some s =>
        obtain ⟨r0, e⟩ := within_int (s : Nat) 0 ((many : Int) - 1) p
        have hlt := hs s ho
        have q1 : decide ((0 : Int) ≤ (s : Nat)) = true := by simp
        have q2 : decide ((s : Int) ≤ (many : Int) - 1) = true := by simp; omega
        rw [q1, q2] at e
        simp [optD, e])
  refine ⟨[.d (rowD row), .d (.str z), .d (.int (many : Nat)), .un], ?_⟩
  unfold F_is_row g_is_row
  rw [ev_run, e9, ev_seq, s1, seq1_nx, ev_ret, s2, all_true]
  rfl
theorem ends_true {ends : List Nat} {many : Nat} {p : Option Pen} (hm : many ≤ 8) (up : ends.Pairwise (· < ·)) (lt : ∀ e ∈ ends, e < many) (hl : ends.length ≤ 8) :
    ∃ r0, F_are_ends [.d (.tuple (ends.map fun n => .int (n : Nat))), .d (.int (many : Nat))] p = .ok (.d (.bool true)) ⟨r0, p⟩ := by
  obtain ⟨E, hE⟩ : ∃ E, E = ends.map fun n => PyData.int (n : Nat) := ⟨_, rfl⟩
  rw [← hE]
  have e9 : (⟨[R.d (.tuple E), .d (.int (many : Nat))] ++ List.replicate (3 - [R.d (.tuple E), .d (.int (many : Nat))].length) .un, p⟩ : Sq) = ⟨[.d (.tuple E), .d (.int (many : Nat)), .un], p⟩ := rfl
  have s2 := all_lc (v := 2) (te := callF F_is_within (fCons (fVar 2) (fCons (fC (.int 0)) (fCons (fBin gSub (fVar 1) (fC (.int 1))) fNil))))
    (ds := E) (S := ⟨[.d (.tuple E), .d (.int (many : Nat)), .un], p⟩) (fi := itF (fVar 0)) (fun _ => true) (by simp) (by simp [plainAt]) (by simp) (by rw [hE]; simp [sl_eq]; omega) (by
      intro d hd
      rw [hE] at hd
      obtain ⟨s, ho, rfl⟩ := List.mem_map.mp hd
      obtain ⟨r0, e⟩ := within_int (s : Nat) 0 ((many : Int) - 1) p
      have hlt := lt s ho
      have q1 : decide ((0 : Int) ≤ (s : Nat)) = true := by simp
      have q2 : decide ((s : Int) ≤ (many : Int) - 1) = true := by simp; omega
      rw [q1, q2] at e
      simp [e])
  rw [all_true] at s2
  have s1 : ifF (tOrF (tNotF (fB (f1 (gIsi .tuple) (fVar 0)))) (tNotF (fB (f1 (gBools fun b => b.all id) (lcS (.nm 2) (itF (fVar 0)) yesF (callF F_is_within (fCons (fVar 2) (fCons (fC (.int 0)) (fCons (fBin gSub (fVar 1) (fC (.int 1))) fNil)))) [2]))))) (retF (fC (.bool false))) nxF ⟨[.d (.tuple E), .d (.int (many : Nat)), .un], p⟩ = .nx ⟨[.d (.tuple E), .d (.int (many : Nat)), .un], p⟩ := by
    rw [ev_if, ev_or]
    have q : tNotF (fB (f1 (gIsi .tuple) (fVar 0))) ⟨[.d (.tuple E), .d (.int (many : Nat)), .un], p⟩ = .ok false ⟨[.d (.tuple E), .d (.int (many : Nat)), .un], p⟩ := by simp [isTy]
    rw [q, or1_ok, if_neg (by decide), ev_not, ev_fB, s2]
    rfl
  have ei : intsOf E = some (List.map (fun n : Nat => (n : Int)) ends) := by
    rw [hE]
    clear hE s1 s2 e9 up lt hl
    induction ends with
    | nil => rfl
    | cons a l ih => show (intsOf _).map _ = _; rw [ih]; rfl
  have es : usortI (List.map (fun n : Nat => (n : Int)) ends) = List.map (fun n : Nat => (n : Int)) ends := usortI_id (List.pairwise_map.mpr (up.imp fun h => by omega))
  have ess : gSset (.tuple E) = some (.o (.l E)) := by
    show (match intsOf E with
      | some ns => if ns.length + 1 < scanBound then some (PV.o (.l ((usortI ns).map .int))) else none
      | none => none) = _
    rw [ei]
    show (if _ then _ else _) = _
    rw [if_pos (by simp [scanBound]; omega), es, List.map_map]
    rw [hE]
    rfl
  have eq : gEq (.list E) (.list E) = some (.v (.bool true)) := by
    have sh := shaped_ints ends
    rw [← hE] at sh
    unfold gEq
    dsimp only
    rw [sh]
    have q : (PyData.list E).canLay0 = true := by
      unfold SeqAt.shaped at sh
      exact (Bool.and_eq_true_iff.mp sh).1
    rw [SeqAt.eqv_refl _ q]
    rfl
  refine ⟨[.d (.tuple E), .d (.int (many : Nat)), .un], ?_⟩
  unfold F_are_ends g_are_ends
  rw [ev_run, e9, ev_seq, s1, seq1_nx, ev_ret]
  simp [ess, eq]
end Q3
namespace Q3
open PySem PySem.Spec PyProof.Rows L2
theorem inS_one (c : Nat) (z : Str) : inS ⟨#[c]⟩ z = decide (c ∈ z.cps.toList) := PySem.StrLaws.found_one z c
def inF (z : Str) : D → Bool
  | .str y => inS y z
  | _ => false
@[simp] theorem in_s (neg : Bool) (x y : Str) : gIn neg (.str x) (.str y) = some (.v (.bool (if neg then !inS x y else inS x y))) := rfl
theorem signs_all (t z : Str) : (signs t).all (inF z) = t.cps.toList.all fun c => decide (c ∈ z.cps.toList) := by
  unfold signs
  rw [List.all_map]
  refine congrArg (List.all _) (funext fun c => ?_)
  exact inS_one c z
theorem alpha_mem {c : Nat} (h0 : 97 ≤ c) (h1 : c ≤ 122) : c ∈ (Str.ofString "abcdefghijklmnopqrstuvwxyz").cps.toList := by
  have key : ∀ n : Fin 26, (97 + (n : Nat)) ∈ (Str.ofString "abcdefghijklmnopqrstuvwxyz").cps.toList := by decide +kernel
  have := key ⟨c - 97, by omega⟩
  rw [show 97 + (c - 97) = c by omega] at this
  exact this
theorem shaped_signs (z : Str) (hz : ∀ c ∈ z.cps.toList, c ≤ 122) : SeqAt.shaped (.list (signs z)) = true := by
  have h1 : ∀ l : List Nat, (∀ c ∈ l, c ≤ 122) → PyData.canLayAll0 (l.map fun c => .str ⟨#[c]⟩) = true := by
    intro l hl
    induction l with
    | nil => rfl
    | cons a l ih =>
      have q := ih fun c m => hl c (List.mem_cons_of_mem _ m)
      have qa := hl a List.mem_cons_self
      have qs : PyData.strOk ⟨#[a]⟩ = true := by simp [PyData.strOk]; omega
      simpa [PyData.canLayAll0, PyData.canLay0, qs] using q
  have h2 : ∀ l : List Nat, PyData.depthAll (l.map fun c => .str ⟨#[c]⟩) = 0 := by
    intro l
    induction l with
    | nil => rfl
    | cons a l ih => simpa [PyData.depthAll, PyData.depth] using ih
  unfold signs
  simp [SeqAt.shaped, PyData.canLay0, PyData.depth, h1 _ hz, h2]
theorem letters_true {z : Str} {p : Option Pen} (h : Lets z) : ∃ r0, F_are_letters [.d (.str z)] p = .ok (.d (.bool true)) ⟨r0, p⟩ := by
  obtain ⟨cs, rfl, up, l1, l3, hc⟩ := h
  obtain ⟨z, hz⟩ : ∃ z : Str, z = ⟨cs.toArray⟩ := ⟨_, rfl⟩
  have zs : z.cps.size = cs.length := by rw [hz]; simp
  have zl : z.cps.toList = cs := by rw [hz]
  rw [← hz]
  have hzl : z.length ≤ 16777216 := by show z.cps.size ≤ _; omega
  have hzl1 : (1 : Int) ≤ z.length := by show (1 : Int) ≤ (z.cps.size : Int); omega
  have hzl3 : (z.length : Int) ≤ 3 := by show (z.cps.size : Int) ≤ 3; omega
  have e9 : (⟨[R.d (.str z)] ++ List.replicate (2 - [R.d (.str z)].length) .un, p⟩ : Sq) = ⟨[.d (.str z), .un], p⟩ := rfl
  have s1 : ifF (tOrF (tNotF (fB (f1 (gIsi .str) (fVar 0)))) (tNotF (fB (fChain (fun i j => decide (i ≤ j)) (fun i j => decide (i ≤ j)) (fC (.int 1)) (f1 gLen (fVar 0)) (fC (.int 3)))))) (retF (fC (.bool false))) nxF ⟨[.d (.str z), .un], p⟩ = .nx ⟨[.d (.str z), .un], p⟩ := by
    simp [isTy, sl_eq, hzl, hzl1, hzl3]
  have s2 := all_lc (v := 1) (te := fBin (gIn false) (fVar 1) (fC (.str "abcdefghijklmnopqrstuvwxyz"))) (ds := signs z) (S := ⟨[.d (.str z), .un], p⟩) (fi := itF (fVar 0)) (inF "abcdefghijklmnopqrstuvwxyz") (by simp) (by simp [plainAt]) (by simp) (by simp [sl_eq]; omega) (by
      intro d hd
      obtain ⟨c, hc, rfl⟩ := signs_mem hd
      simp [inF])
  rw [signs_all] at s2
  have al : (z.cps.toList.all fun c => decide (c ∈ (Str.ofString "abcdefghijklmnopqrstuvwxyz").cps.toList)) = true := by
    rw [zl]
    exact List.all_eq_true.mpr fun c m => decide_eq_true (alpha_mem (hc c m).1 (hc c m).2)
  have ess : gSset (.str z) = some (.o (.l (signs z))) := by
    show (if _ then _ else _) = _
    rw [if_pos (by simp [scanBound]; omega), zl, usortN_id up]
    unfold signs
    rw [zl]
    rfl
  have eq : gEq (.list (signs z)) (.list (signs z)) = some (.v (.bool true)) := by
    have sh := shaped_signs z (by rw [zl]; exact fun c m => (hc c m).2)
    have q : (PyData.list (signs z)).canLay0 = true := SeqAt.canLay_of_shaped sh
    unfold gEq
    dsimp only
    rw [sh, SeqAt.eqv_refl _ q]
    rfl
  have s3 : fB (fBin gEq (f1 gList (fVar 0)) (f1 gSset (fVar 0))) ⟨[.d (.str z), .un], p⟩ = .ok true ⟨[.d (.str z), .un], p⟩ := by
    have hsz : z.cps.size < 16777216 := by omega
    simp [ess, eq, sl_eq, hsz]
  refine ⟨[.d (.str z), .un], ?_⟩
  unfold F_are_letters g_are_letters
  rw [ev_run, e9, ev_seq, s1, seq1_nx, ev_ret, ev_bv, ev_and, s3, and1_ok, if_pos rfl, ev_fB, s2]
  have al' : (z.cps.toList.all fun c => decide (c ∈ ("abcdefghijklmnopqrstuvwxyz" : Str).cps.toList)) = true := al
  rw [al']
  rfl
end Q3
namespace Q3
open PySem PySem.Spec PyProof.Rows L2
theorem Lets.size {z : Str} (h : Lets z) : 1 ≤ z.cps.size ∧ z.cps.size ≤ 3 := by
  obtain ⟨cs, rfl, up, l1, l3, hc⟩ := h
  exact ⟨by simpa using l1, by simpa using l3⟩
theorem up_len0 {n : Nat} : ∀ {l : List Nat} (lo : Nat), lo ≤ n → l.Pairwise (· < ·) → (∀ e ∈ l, lo ≤ e ∧ e < n) → l.length + lo ≤ n
  | [], lo, h0, _, _ => by simpa using h0
  | a :: l, lo, h0, h, lt => by
    obtain ⟨h1, h2⟩ := List.pairwise_cons.mp h
    have ha := lt a List.mem_cons_self
    have := up_len0 (n := n) (l := l) (a + 1) (by omega) h2 fun e m => ⟨h1 e m, (lt e (List.mem_cons_of_mem _ m)).2⟩
    simp only [List.length_cons]
    omega
theorem up_len {l : List Nat} {n : Nat} (h : l.Pairwise (· < ·)) (lt : ∀ e ∈ l, e < n) : l.length ≤ n := up_len0 0 (Nat.zero_le n) h fun e m => ⟨Nat.zero_le e, lt e m⟩
theorem wide_of_true {z : Str} {rows : List (List (Option Nat))} {ends : List Nat} {p : Option Pen} (L : Lets z) (w : WideOk z rows ends) : ∃ r0, F_is_wide_of [.d (wideD z rows ends), .d (.int 200)] p = .ok (.d (.bool true)) ⟨r0, p⟩ := by
  obtain ⟨hz1, hz⟩ := L.size
  obtain ⟨rl, el⟩ := letters_true (p := p) L
  have h1 := w.h1
  have h2 := w.h2
  have x0 : atI [PyData.str z, .tuple (rows.map rowD), .tuple (ends.map fun n => .int (n : Nat))] 0 = some (.str z) := rfl
  have x1 : atI [PyData.str z, .tuple (rows.map rowD), .tuple (ends.map fun n => .int (n : Nat))] 1 = some (.tuple (rows.map rowD)) := rfl
  have x2 : atI [PyData.str z, .tuple (rows.map rowD), .tuple (ends.map fun n => .int (n : Nat))] 2 = some (.tuple (ends.map fun n => .int (n : Nat))) := rfl
  have e9 : (⟨[R.d (wideD z rows ends), .d (.int 200)] ++ List.replicate (4 - [R.d (wideD z rows ends), .d (.int 200)].length) .un, p⟩ : Sq) = ⟨[.d (wideD z rows ends), .d (.int 200), .un, .un], p⟩ := rfl
  have s1 : ifF (tOrF (tNotF (fB (f1 (gIsi .tuple) (fVar 0)))) (tOrF (fB (fBin gNe (f1 gLen (fVar 0)) (fC (.int 3)))) (tNotF (fB (callF F_are_letters (fCons (fBin gIx (fVar 0) (fC (.int 0))) fNil)))))) (retF (fC (.bool false))) nxF ⟨[.d (wideD z rows ends), .d (.int 200), .un, .un], p⟩ = .nx ⟨[.d (wideD z rows ends), .d (.int 200), .un, .un], p⟩ := by
    simp [wideD, isTy, x0, el]
  have s2 : ifF (tOrF (tNotF (fB (f1 (gIsi .tuple) (fBin gIx (fVar 0) (fC (.int 1)))))) (tNotF (fB (fChain (fun i j => decide (i ≤ j)) (fun i j => decide (i ≤ j)) (fC (.int 1)) (f1 gLen (fBin gIx (fVar 0) (fC (.int 1)))) (fVar 1))))) (retF (fC (.bool false))) nxF ⟨[.d (wideD z rows ends), .d (.int 200), .un, .un], p⟩ = .nx ⟨[.d (wideD z rows ends), .d (.int 200), .un, .un], p⟩ := by
    have q1 : (1 : Int) ≤ (rows.length : Int) := by omega
    have q2 : (rows.length : Int) ≤ 200 := by omega
    simp [wideD, isTy, x1, q1, q2]
  have s3 : setF 2 (f1 gLen (fBin gIx (fVar 0) (fC (.int 1)))) ⟨[.d (wideD z rows ends), .d (.int 200), .un, .un], p⟩ = .nx ⟨[.d (wideD z rows ends), .d (.int 200), .d (.int (rows.length : Nat)), .un], p⟩ := by
    simp [wideD, x1]
  have s4 := all_lc (v := 3) (te := callF F_is_row (fCons (fVar 3) (fCons (fBin gIx (fVar 0) (fC (.int 0))) (fCons (fVar 2) fNil)))) (ds := rows.map rowD) (S := ⟨[.d (wideD z rows ends), .d (.int 200), .d (.int (rows.length : Nat)), .un], p⟩) (fi := itF (fBin gIx (fVar 0) (fC (.int 1)))) (fun _ => true)
    (by simp [wideD, x1]) (by simp [plainAt]) (by simp) (by simp [sl_eq]; omega) (by
      intro d hd
      obtain ⟨row, hr, rfl⟩ := List.mem_map.mp hd
      obtain ⟨r0, e⟩ := row_true (p := p) hz (w.row row hr)
      simp [wideD, x0, e])
  rw [all_true] at s4
  have hel := up_len w.up w.lt
  obtain ⟨r5, e5⟩ := ends_true (p := p) h2 w.up w.lt (by omega)
  refine ⟨[.d (wideD z rows ends), .d (.int 200), .d (.int (rows.length : Nat)), .un], ?_⟩
  unfold F_is_wide_of g_is_wide_of
  rw [ev_run, e9, ev_seq, s1, seq1_nx, ev_seq, s2, seq1_nx, ev_seq, s3, seq1_nx, ev_ret, ev_bv, ev_and, ev_fB, s4, tst1_ok, val_v, tst2_ok, and1_ok, if_pos rfl]
  simp [wideD, x2, e5]
theorem wide_true {z : Str} {rows : List (List (Option Nat))} {ends : List Nat} {p : Option Pen} (L : Lets z) (w : WideOk z rows ends) : ∃ r0, F_is_wide [.d (wideD z rows ends)] p = .ok (.d (.bool true)) ⟨r0, p⟩ := by
  obtain ⟨r1, e1⟩ := wide_of_true (p := p) L w
  exact ⟨[.d (wideD z rows ends)], by simp [F_is_wide, g_is_wide, e1]⟩
theorem need_wide_ok {z : Str} {rows : List (List (Option Nat))} {ends : List Nat} {p : Option Pen} (L : Lets z) (w : WideOk z rows ends) : ∃ r0, F_need_wide [.d (wideD z rows ends)] p = .ok (.d .none) ⟨r0, p⟩ := by
  obtain ⟨r1, e1⟩ := wide_true (p := p) L w
  exact ⟨[.d (wideD z rows ends)], by simp [F_need_wide, g_need_wide, e1]⟩
theorem need_wide_none {p : Option Pen} : ∃ r0, F_need_wide [.d .none] p = .ex "NoWide" ⟨r0, p⟩ := by
  exact ⟨[.d .none], by simp [F_need_wide, g_need_wide, F_is_wide, g_is_wide, F_is_wide_of, g_is_wide_of, isTy]⟩
end Q3
namespace Q3
open PySem PySem.Spec PyProof.Rows L2
/-! ### comprehensions over a row, without a test -/
theorem lc_map {v : Nat} {te : Sq → Out PV} {ds : List D} {S : Sq} {fi : Sq → Out (List D)} (f : D → D) (hi : fi S = .ok ds S) (fit : plainAt S [v] = true) (hv : v < S.r.length) (hn : ds.length ≤ sizeLine)
    (h : ∀ d ∈ ds, te { S with r := S.r.set v (.d d) } = .ok (.v (f d)) { S with r := S.r.set v (.d d) }) :
    lcS (.nm v) fi yesF te [v] S = .ok (.o (.l (ds.map f))) S := by
  obtain ⟨S', out, e, ⟨c, rfl⟩, rfl⟩ := lcF_inv (t := .nm v) (tt := yesF) (te := te) (vs := [v]) (ds := ds)
    (P := fun k S' acc => (∃ c, S' = { S with r := S.r.set v c }) ∧ acc = (ds.take k).map f)
    (S := { S with r := S.r.set v .un }) (acc := []) 0 (by simpa using hn) ⟨⟨.un, rfl⟩, by simp⟩ (by
      rintro i d S' acc hd ⟨⟨c, rfl⟩, rfl⟩
      refine ⟨{ S with r := S.r.set v (.d d) }, by simp [wipeR, hv], true, _, rfl, (fun q => by cases q), fun _ => ⟨_, _, f d, { S with r := S.r.set v (.d d) }, h d (List.mem_of_getElem? hd), rfl, ⟨_, rfl⟩, ?_⟩⟩
      rw [Nat.zero_add, List.take_add_one, hd]
      simp)
  have w : ({ S with r := wipeR S.r [v] } : Sq) = { S with r := S.r.set v .un } := rfl
  have b : backR S.r (S.r.set v c) [v] = S.r := by
    have e1 : S.r[v]? = some S.r[v] := List.getElem?_eq_getElem hv
    unfold backR backR
    rw [e1]
    simp
  rw [ev_lc, hi, lc1_ok, if_pos fit, w, e, lc3_ok]
  simp only [b]
  have q : (ds.take (0 + ds.length)) = ds := by simp
  rw [q]
theorem shaped_bools (l : List Bool) : SeqAt.shaped (.list (l.map .bool)) = true := by
  have h1 : PyData.canLayAll0 (l.map .bool) = true := by
    induction l with
    | nil => rfl
    | cons a l ih => simpa [PyData.canLayAll0, PyData.canLay0] using ih
  have h2 : PyData.depthAll (l.map .bool) = 0 := by
    clear h1
    induction l with
    | nil => rfl
    | cons a l ih => simpa [PyData.depthAll, PyData.depth] using ih
  simp [SeqAt.shaped, PyData.canLay0, PyData.depth, h1, h2]
theorem in_bools (neg : Bool) (l : List Bool) : gIn neg (.bool false) (.list (l.map .bool)) = some (.v (.bool (if neg then l.all id else !l.all id))) := by
  have h1 := shaped_bools l
  have h2 : SeqAt.shaped (.bool false) = true := rfl
  unfold gIn
  dsimp only
  rw [h1, h2]
  have e : ((l.map PyData.bool).any fun z => PyData.eqv z (.bool false)) = !l.all id := by
    clear h1 h2
    induction l with
    | nil => rfl
    | cons a l ih =>
      rw [List.map_cons, List.any_cons, List.all_cons, ih]
      cases a <;> rfl
  simp only [e]
  cases neg <;> simp
/-- `False in [e for v in ..]` -/
theorem in_lc {neg : Bool} {v : Nat} {te : Sq → Out PV} {ds : List D} {S : Sq} {fi : Sq → Out (List D)} (f : D → Bool) (hi : fi S = .ok ds S) (fit : plainAt S [v] = true) (hv : v < S.r.length) (hn : ds.length ≤ sizeLine)
    (h : ∀ d ∈ ds, te { S with r := S.r.set v (.d d) } = .ok (.v (.bool (f d))) { S with r := S.r.set v (.d d) }) :
    fBin (gIn neg) (fC (.bool false)) (lcS (.nm v) fi yesF te [v]) S = .ok (.v (.bool (if neg then ds.all f else !ds.all f))) S := by
  have e := lc_map (v := v) (te := te) (fi := fi) (fun d => .bool (f d)) hi fit hv hn h
  have e2 : (ds.map fun d => PyData.bool (f d)) = (ds.map f).map .bool := by rw [List.map_map]; rfl
  have e3 : ((ds.map f).all id) = ds.all f := by rw [List.all_map]; rfl
  rw [ev_bin, ev_c, bin1_ok, e, bin2_ok, fz_o, val_v, fz_v, val_v, bin3_ok, e2, in_bools, e3]
  rfl
/-! ### recognizers of numbers -/
def inB (lo hi : Int) : D → Bool
  | .int i => decide (lo ≤ i) && decide (i ≤ hi)
  | _ => false
theorem within_d (d : D) (a b : Int) (p : Option Pen) : ∃ r0, F_is_within [.d d, .d (.int a), .d (.int b)] p = .ok (.d (.bool (inB a b d))) ⟨r0, p⟩ := by
  refine ⟨[.d d, .d (.int a), .d (.int b)], ?_⟩
  cases d with
  | int i => by_cases h : a ≤ i <;> simp [F_is_within, g_is_within, isTy, h, inB]
  | _ => simp [F_is_within, g_is_within, isTy, inB]
theorem between_d (d : D) (a b : Int) (p : Option Pen) : ∃ r0, F__law_z_between [.d d, .d (.int a), .d (.int b)] p = .ok (.d (.bool (inB a b d))) ⟨r0, p⟩ := by
  refine ⟨[.d d, .d (.int a), .d (.int b)], ?_⟩
  cases d with
  | int i => by_cases h : a ≤ i <;> simp [F__law_z_between, g__law_z_between, isTy, h, inB]
  | _ => simp [F__law_z_between, g__law_z_between, isTy, inB]
/-! ### ends -/
theorem ints_of_in {lo hi : Int} : ∀ {xs : List D}, xs.all (inB lo hi) = true → ∃ ns, intsOf xs = some ns ∧ xs = ns.map .int
  | [], _ => ⟨[], rfl, rfl⟩
  | x :: xs, h => by
    rw [List.all_cons, Bool.and_eq_true] at h
    obtain ⟨ns, e1, e2⟩ := ints_of_in h.2
    cases x with
    | int i =>
      refine ⟨i :: ns, ?_, by rw [e2]; rfl⟩
      show (intsOf xs).map _ = _
      rw [e1]; rfl
    | _ => cases h.1
theorem shaped_intL (l : List Int) : SeqAt.shaped (.list (l.map .int)) = true := by
  have h1 : PyData.canLayAll0 (l.map .int) = true := by
    induction l with
    | nil => rfl
    | cons a l ih => simpa [PyData.canLayAll0, PyData.canLay0] using ih
  have h2 : PyData.depthAll (l.map .int) = 0 := by
    clear h1
    induction l with
    | nil => rfl
    | cons a l ih => simpa [PyData.depthAll, PyData.depth] using ih
  simp [SeqAt.shaped, PyData.canLay0, PyData.depth, h1, h2]
/-- ascending, no one twice, as the program asks it -/
def srtB (xs : List D) : Bool := match intsOf xs with
  | some ns => PyData.eqv (.list xs) (.list ((usortI ns).map .int))
  | none => false
def endsB (n : Int) : D → Bool
  | .tuple xs => xs.all (inB 0 (n - 1)) && srtB xs
  | _ => false
theorem srt_ev {xs : List D} {lo hi : Int} (h : xs.all (inB lo hi) = true) (hl : xs.length ≤ 4000) : ∃ z, gSset (.tuple xs) = some (.o (.l z)) ∧ gEq (.list xs) (.list z) = some (.v (.bool (srtB xs))) := by
  obtain ⟨ns, e1, e2⟩ := ints_of_in h
  have hn : ns.length = xs.length := by rw [e2, List.length_map]
  refine ⟨(usortI ns).map .int, ?_, ?_⟩
  · show (match intsOf xs with
      | some ns => if ns.length + 1 < scanBound then some (PV.o (.l ((usortI ns).map .int))) else none
      | none => none) = _
    rw [e1]
    show (if _ then _ else _) = _
    rw [if_pos (by rw [hn]; unfold scanBound; omega)]
  · have s1 := shaped_intL ns
    have s2 := shaped_intL (usortI ns)
    unfold gEq srtB
    dsimp only
    rw [e1, e2, s1, s2]
    rfl
theorem ends_d (d : D) (n : Int) (p : Option Pen) (hw : ∀ xs, d = .tuple xs → xs.length ≤ 4000) : ∃ r0, F_are_ends [.d d, .d (.int n)] p = .ok (.d (.bool (endsB n d))) ⟨r0, p⟩ := by
  refine ⟨[.d d, .d (.int n), .un], ?_⟩
  have e9 : (⟨[R.d d, .d (.int n)] ++ List.replicate (3 - [R.d d, .d (.int n)].length) .un, p⟩ : Sq) = ⟨[.d d, .d (.int n), .un], p⟩ := rfl
  unfold F_are_ends g_are_ends
  rw [ev_run, e9]
  cases d with
  | tuple xs =>
    have hl := hw xs rfl
    have a := all_lc (v := 2) (te := callF F_is_within (fCons (fVar 2) (fCons (fC (.int 0)) (fCons (fBin gSub (fVar 1) (fC (.int 1))) fNil)))) (ds := xs) (S := ⟨[.d (.tuple xs), .d (.int n), .un], p⟩) (fi := itF (fVar 0)) (inB 0 (n - 1)) (by simp) (by simp [plainAt]) (by simp) (by rw [sl_eq]; omega) (by
      intro d hd
      obtain ⟨r0, e⟩ := within_d d 0 (n - 1) p
      simp [e])
    rw [ev_seq, ev_if, ev_or]
    have q : tNotF (fB (f1 (gIsi .tuple) (fVar 0))) ⟨[.d (.tuple xs), .d (.int n), .un], p⟩ = .ok false ⟨[.d (.tuple xs), .d (.int n), .un], p⟩ := by simp [isTy]
    rw [q, or1_ok, if_neg (by decide), ev_not, ev_fB, a, tst1_ok, val_v, tst2_ok, not1_ok, if1_ok]
    cases h : xs.all (inB 0 (n - 1)) with
    | false =>
      simp [endsB, h]
    | true =>
      obtain ⟨z, e1, e2⟩ := srt_ev h hl
      simp [endsB, h, e1, e2]
  | _ => simp [isTy, endsB]
theorem z_ends_d (d : D) (n : Int) (p : Option Pen) (hw : ∀ xs, d = .tuple xs → xs.length ≤ 4000) : ∃ r0, F__law_z_are_ends [.d d, .d (.int n)] p = .ok (.d (.bool (endsB n d))) ⟨r0, p⟩ := by
  refine ⟨[.d d, .d (.int n), .un], ?_⟩
  have e9 : (⟨[R.d d, .d (.int n)] ++ List.replicate (3 - [R.d d, .d (.int n)].length) .un, p⟩ : Sq) = ⟨[.d d, .d (.int n), .un], p⟩ := rfl
  unfold F__law_z_are_ends g__law_z_are_ends
  rw [ev_run, e9]
  cases d with
  | tuple xs =>
    have hl := hw xs rfl
    have a := in_lc (neg := false) (v := 2) (te := callF F__law_z_between (fCons (fVar 2) (fCons (fC (.int 0)) (fCons (fBin gSub (fVar 1) (fC (.int 1))) fNil)))) (ds := xs) (S := ⟨[.d (.tuple xs), .d (.int n), .un], p⟩) (fi := itF (fVar 0)) (inB 0 (n - 1)) (by simp) (by simp [plainAt]) (by simp) (by rw [sl_eq]; omega) (by
      intro d hd
      obtain ⟨r0, e⟩ := between_d d 0 (n - 1) p
      simp [e])
    rw [ev_seq, ev_if, ev_or]
    have q : tNotF (fB (f1 (gIsi .tuple) (fVar 0))) ⟨[.d (.tuple xs), .d (.int n), .un], p⟩ = .ok false ⟨[.d (.tuple xs), .d (.int n), .un], p⟩ := by simp [isTy]
    rw [q, or1_ok, if_neg (by decide), ev_fB, a, tst1_ok, val_v, tst2_ok, if1_ok]
    cases h : xs.all (inB 0 (n - 1)) with
    | false =>
      simp [endsB, h]
    | true =>
      obtain ⟨z, e1, e2⟩ := srt_ev h hl
      simp [endsB, h, e1, e2]
  | _ => simp [isTy, endsB]
end Q3
namespace Q3
open PySem PySem.Spec PyProof.Rows L2
/-! ### data whose parts are bounded: lengths n, ints m -/
mutual
def okD (n m : Nat) : D → Bool
  | .none => true
  | .bool _ => true
  | .int i => decide (i.natAbs ≤ m)
  | .str z => decide (z.cps.size ≤ n) && z.cps.toList.all (fun c => decide (c < 128))
  | .list xs => decide (xs.length ≤ n) && okA n m xs
  | .tuple xs => decide (xs.length ≤ n) && okA n m xs
  | .dict kvs => kvs.isEmpty
def okA (n m : Nat) : List D → Bool
  | [] => true
  | x :: xs => okD n m x && okA n m xs
end
theorem okA_iff {n m : Nat} : ∀ {xs : List D}, okA n m xs = true ↔ ∀ x ∈ xs, okD n m x = true
  | [] => by simp [okA]
  | x :: xs => by simp [okA, okA_iff (xs := xs)]
theorem okA_app {n m : Nat} {xs ys : List D} (h1 : okA n m xs = true) (h2 : okA n m ys = true) : okA n m (xs ++ ys) = true :=
  okA_iff.mpr fun x hx => (List.mem_append.mp hx).elim (okA_iff.mp h1 x) (okA_iff.mp h2 x)
theorem okD_tup {n m : Nat} {xs : List D} (h : okD n m (.tuple xs) = true) : xs.length ≤ n ∧ ∀ x ∈ xs, okD n m x = true := by
  rw [okD, Bool.and_eq_true, decide_eq_true_eq] at h
  exact ⟨h.1, okA_iff.mp h.2⟩
theorem okD_lst {n m : Nat} {xs : List D} (h : okD n m (.list xs) = true) : xs.length ≤ n ∧ ∀ x ∈ xs, okD n m x = true := by
  rw [okD, Bool.and_eq_true, decide_eq_true_eq] at h
  exact ⟨h.1, okA_iff.mp h.2⟩
theorem okD_str {n m : Nat} {z : Str} (h : okD n m (.str z) = true) : z.cps.size ≤ n ∧ ∀ c ∈ z.cps.toList, c < 128 := by
  rw [okD, Bool.and_eq_true, decide_eq_true_eq] at h
  exact ⟨h.1, fun c m => of_decide_eq_true (List.all_eq_true.mp h.2 c m)⟩
mutual
theorem okD_mono {n m n2 m2 : Nat} (hn : n ≤ n2) (hm : m ≤ m2) : ∀ {d : D}, okD n m d = true → okD n2 m2 d = true
  | .none, _ => rfl
  | .bool _, _ => rfl
  | .int i, h => by
    rw [okD, decide_eq_true_eq] at h ⊢
    omega
  | .str z, h => by
    rw [okD, Bool.and_eq_true, decide_eq_true_eq] at h ⊢
    exact ⟨by omega, h.2⟩
  | .list xs, h => by
    rw [okD, Bool.and_eq_true, decide_eq_true_eq] at h ⊢
    exact ⟨by omega, okA_mono hn hm h.2⟩
  | .tuple xs, h => by
    rw [okD, Bool.and_eq_true, decide_eq_true_eq] at h ⊢
    exact ⟨by omega, okA_mono hn hm h.2⟩
  | .dict kvs, h => h
theorem okA_mono {n m n2 m2 : Nat} (hn : n ≤ n2) (hm : m ≤ m2) : ∀ {xs : List D}, okA n m xs = true → okA n2 m2 xs = true
  | [], _ => rfl
  | x :: xs, h => by
    rw [okA, Bool.and_eq_true] at h ⊢
    exact ⟨okD_mono hn hm h.1, okA_mono hn hm h.2⟩
end
/-! ### letters -/
def srtS (z : Str) : Bool := PyData.eqv (.list (signs z)) (.list ((usortN z.cps.toList).map fun c => .str ⟨#[c]⟩))
def alphaF : D → Bool := inF (Str.ofString "abcdefghijklmnopqrstuvwxyz")
def letB : D → Bool
  | .str z => (decide (1 ≤ (z.length : Int)) && decide ((z.length : Int) ≤ 3)) && (srtS z && (signs z).all alphaF)
  | _ => false
theorem shaped_strs {l : List Nat} (hl : ∀ c ∈ l, c < 128) : SeqAt.shaped (.list (l.map fun c => .str ⟨#[c]⟩)) = true := by
  have h1 : PyData.canLayAll0 (l.map fun c => .str ⟨#[c]⟩) = true := by
    induction l with
    | nil => rfl
    | cons a l ih =>
      have q := ih fun c m => hl c (List.mem_cons_of_mem _ m)
      have qa := hl a List.mem_cons_self
      have qs : PyData.strOk ⟨#[a]⟩ = true := by simp [PyData.strOk]; omega
      simpa [PyData.canLayAll0, PyData.canLay0, qs] using q
  have h2 : PyData.depthAll (l.map fun c => .str ⟨#[c]⟩) = 0 := by
    clear h1 hl
    induction l with
    | nil => rfl
    | cons a l ih => simpa [PyData.depthAll, PyData.depth] using ih
  simp [SeqAt.shaped, PyData.canLay0, PyData.depth, h1, h2]
theorem srtS_ev {z : Str} (hz : z.cps.size ≤ 4000) (hc : ∀ c ∈ z.cps.toList, c < 128) : gSset (.str z) = some (.o (.l ((usortN z.cps.toList).map fun c => .str ⟨#[c]⟩))) ∧
    gEq (.list (signs z)) (.list ((usortN z.cps.toList).map fun c => .str ⟨#[c]⟩)) = some (.v (.bool (srtS z))) ∧ gNe (.list (signs z)) (.list ((usortN z.cps.toList).map fun c => .str ⟨#[c]⟩)) = some (.v (.bool (!srtS z))) := by
  have s1 : SeqAt.shaped (.list (signs z)) = true := shaped_strs hc
  have s2 : SeqAt.shaped (.list ((usortN z.cps.toList).map fun c => .str ⟨#[c]⟩)) = true := shaped_strs (l := usortN z.cps.toList) fun c m => hc c (mem_usortN.mp m)
  refine ⟨?_, ?_, ?_⟩
  · show (if _ then _ else _) = _
    rw [if_pos (by unfold scanBound; omega)]
    rfl
  · unfold gEq srtS
    dsimp only
    rw [s1, s2]
    rfl
  · unfold gNe srtS
    dsimp only
    rw [s1, s2]
    rfl
theorem letters_d {n m : Nat} (hn : n ≤ 4000) {d : D} (h : okD n m d = true) (p : Option Pen) : ∃ r0, F_are_letters [.d d] p = .ok (.d (.bool (letB d))) ⟨r0, p⟩ := by
  refine ⟨[.d d, .un], ?_⟩
  have e9 : (⟨[R.d d] ++ List.replicate (2 - [R.d d].length) .un, p⟩ : Sq) = ⟨[.d d, .un], p⟩ := rfl
  unfold F_are_letters g_are_letters
  rw [ev_run, e9]
  cases d with
  | str z =>
    obtain ⟨hz, hc⟩ := okD_str h
    obtain ⟨g1, g2, g3⟩ := srtS_ev (by omega) hc
    have hzl : z.length ≤ sizeLine := by rw [sl_eq]; have : z.cps.size = z.length := rfl; omega
    have hzl2 : z.cps.size < sizeLine := by rw [sl_eq]; omega
    have a := all_lc (v := 1) (te := fBin (gIn false) (fVar 1) (fC (.str "abcdefghijklmnopqrstuvwxyz"))) (ds := signs z) (S := ⟨[.d (.str z), .un], p⟩) (fi := itF (fVar 0)) alphaF (by simp) (by simp [plainAt]) (by simp) (by rw [signs_len, sl_eq]; omega) (by
      intro d hd
      obtain ⟨c, _, rfl⟩ := signs_mem hd
      simp [alphaF, inF])
    by_cases h1 : (1 : Int) ≤ (z.length : Int)
    · by_cases h3 : (z.length : Int) ≤ 3
      · have s1 : ifF (tOrF (tNotF (fB (f1 (gIsi .str) (fVar 0)))) (tNotF (fB (fChain (fun i j => decide (i ≤ j)) (fun i j => decide (i ≤ j)) (fC (.int 1)) (f1 gLen (fVar 0)) (fC (.int 3)))))) (retF (fC (.bool false))) nxF ⟨[.d (.str z), .un], p⟩ = .nx ⟨[.d (.str z), .un], p⟩ := by
          simp [isTy, hzl, h1, h3]
        rw [ev_seq, s1, seq1_nx, ev_ret, ev_bv, ev_and]
        have s2 : fB (fBin gEq (f1 gList (fVar 0)) (f1 gSset (fVar 0))) ⟨[.d (.str z), .un], p⟩ = .ok (srtS z) ⟨[.d (.str z), .un], p⟩ := by
          simp [hzl2, g1, g2]
        rw [s2, and1_ok, ev_fB, a]
        cases q : srtS z <;> simp [letB, h1, h3, q]
      · simp [isTy, hzl, h1, h3, letB]
    · simp [isTy, hzl, h1, letB]
  | _ => simp [isTy, letB]
theorem z_letters_d {n m : Nat} (hn : n ≤ 4000) {d : D} (h : okD n m d = true) (p : Option Pen) : ∃ r0, F__law_z_are_letters [.d d] p = .ok (.d (.bool (letB d))) ⟨r0, p⟩ := by
  refine ⟨[.d d, .un], ?_⟩
  have e9 : (⟨[R.d d] ++ List.replicate (2 - [R.d d].length) .un, p⟩ : Sq) = ⟨[.d d, .un], p⟩ := rfl
  unfold F__law_z_are_letters g__law_z_are_letters
  rw [ev_run, e9]
  cases d with
  | str z =>
    obtain ⟨hz, hc⟩ := okD_str h
    obtain ⟨g1, g2, g3⟩ := srtS_ev (by omega) hc
    have hzl : z.length ≤ sizeLine := by rw [sl_eq]; have : z.cps.size = z.length := rfl; omega
    have hzl2 : z.cps.size < sizeLine := by rw [sl_eq]; omega
    have a := in_lc (neg := true) (v := 1) (te := fBin (gIn false) (fVar 1) (fC (.str "abcdefghijklmnopqrstuvwxyz"))) (ds := signs z) (S := ⟨[.d (.str z), .un], p⟩) (fi := itF (fVar 0)) alphaF (by simp) (by simp [plainAt]) (by simp) (by rw [signs_len, sl_eq]; omega) (by
      intro d hd
      obtain ⟨c, _, rfl⟩ := signs_mem hd
      simp [alphaF, inF])
    by_cases h1 : (1 : Int) ≤ (z.length : Int)
    · by_cases h3 : (z.length : Int) ≤ 3
      · cases q : srtS z with
        | true =>
          have s1 : ifF (tOrF (tNotF (fB (f1 (gIsi .str) (fVar 0)))) (tOrF (tNotF (fB (fChain (fun i j => decide (i ≤ j)) (fun i j => decide (i ≤ j)) (fC (.int 1)) (f1 gLen (fVar 0)) (fC (.int 3))))) (fB (fBin gNe (f1 gList (fVar 0)) (f1 gSset (fVar 0)))))) (retF (fC (.bool false))) nxF ⟨[.d (.str z), .un], p⟩ = .nx ⟨[.d (.str z), .un], p⟩ := by
            simp [isTy, hzl, hzl2, h1, h3, g1, g3, q]
          rw [ev_seq, s1, seq1_nx, ev_ret, a]
          simp [letB, h1, h3, q]
        | false => simp [isTy, hzl, hzl2, h1, h3, g1, g3, q, letB]
      · simp [isTy, hzl, h1, h3, letB]
    · simp [isTy, hzl, h1, letB]
  | _ => simp [isTy, letB]
end Q3
namespace Q3
open PySem PySem.Spec PyProof.Rows L2
/-! ### a state's row; a wide machine -/
def cellB (n : Int) (d : D) : Bool := isNone d || inB 0 (n - 1) d
def rowB (k : Nat) (n : Int) : D → Bool
  | .tuple xs => (xs.length == k) && xs.all (cellB n)
  | _ => false
def wideB (most : Int) : D → Bool
  | .tuple [.str z, .tuple rows, c] => letB (.str z) && ((decide ((1 : Int) ≤ rows.length) && decide ((rows.length : Int) ≤ most)) && (rows.all (rowB z.length rows.length) && endsB rows.length c))
  | _ => false
theorem row_d {d : D} {z : Str} {n : Int} {p : Option Pen} (hz : z.length ≤ 4000) (hd : ∀ xs, d = .tuple xs → xs.length ≤ 4000) : ∃ r0, F_is_row [.d d, .d (.str z), .d (.int n)] p = .ok (.d (.bool (rowB z.length n d))) ⟨r0, p⟩ := by
  refine ⟨[.d d, .d (.str z), .d (.int n), .un], ?_⟩
  have e9 : (⟨[R.d d, .d (.str z), .d (.int n)] ++ List.replicate (4 - [R.d d, .d (.str z), .d (.int n)].length) .un, p⟩ : Sq) = ⟨[.d d, .d (.str z), .d (.int n), .un], p⟩ := rfl
  have hzl : z.length ≤ sizeLine := by rw [sl_eq]; omega
  unfold F_is_row g_is_row
  rw [ev_run, e9]
  cases d with
  | tuple xs =>
    have hl := hd xs rfl
    have a := all_lc (v := 3) (te := bv (tOrF (fB (fSlN 3 false)) (fB (callF F_is_within (fCons (fVar 3) (fCons (fC (.int 0)) (fCons (fBin gSub (fVar 2) (fC (.int 1))) fNil))))))) (ds := xs) (S := ⟨[.d (.tuple xs), .d (.str z), .d (.int n), .un], p⟩) (fi := itF (fVar 0)) (cellB n) (by simp) (by simp [plainAt]) (by simp) (by rw [sl_eq]; omega) (by
      intro d hd
      obtain ⟨r0, e⟩ := within_d d 0 (n - 1) p
      cases hN : isNone d <;> simp [e, cellB, hN])
    by_cases hk : (xs.length : Int) = (z.length : Int)
    · have hk2 : xs.length = z.length := by omega
      have s1 : ifF (tOrF (tNotF (fB (f1 (gIsi .tuple) (fVar 0)))) (fB (fBin gNe (f1 gLen (fVar 0)) (f1 gLen (fVar 1))))) (retF (fC (.bool false))) nxF ⟨[.d (.tuple xs), .d (.str z), .d (.int n), .un], p⟩ = .nx ⟨[.d (.tuple xs), .d (.str z), .d (.int n), .un], p⟩ := by
        simp [isTy, hzl, hk]
      rw [ev_seq, s1, seq1_nx, ev_ret, a]
      simp [rowB, hk2]
    · have hk2 : ¬ xs.length = z.length := by omega
      simp [isTy, hzl, hk, rowB, hk2]
  | _ => simp [isTy, rowB]
theorem wideOf_d {n m : Nat} (hn : n ≤ 4000) {d : D} (h : okD n m d = true) (most : Int) (p : Option Pen) : ∃ r0, F_is_wide_of [.d d, .d (.int most)] p = .ok (.d (.bool (wideB most d))) ⟨r0, p⟩ := by
  suffices hs : ∃ S, g_is_wide_of ⟨[.d d, .d (.int most), .un, .un], p⟩ = .rt (.d (.bool (wideB most d))) S ∧ S.p = p by
    obtain ⟨S, e, hp⟩ := hs
    obtain ⟨r, q⟩ := S
    cases hp
    refine ⟨r, ?_⟩
    have e9 : (⟨[R.d d, .d (.int most)] ++ List.replicate (4 - [R.d d, .d (.int most)].length) .un, q⟩ : Sq) = ⟨[.d d, .d (.int most), .un, .un], q⟩ := rfl
    unfold F_is_wide_of
    rw [ev_run, e9, e, run1_rt]
  unfold g_is_wide_of
  cases d with
  | tuple xs =>
    obtain ⟨_, hx⟩ := okD_tup h
    match xs, hx with
    | [a, b, c], hx =>
      have x0 : atI [a, b, c] 0 = some a := rfl
      have x1 : atI [a, b, c] 1 = some b := rfl
      have x2 : atI [a, b, c] 2 = some c := rfl
      obtain ⟨rl, el⟩ := letters_d hn (hx a (by simp)) p
      cases hA : letB a with
      | false =>
        refine ⟨⟨[.d (.tuple [a, b, c]), .d (.int most), .un, .un], p⟩, ?_, rfl⟩
        have hw : wideB most (.tuple [a, b, c]) = false := by
          cases a <;> first | rfl | (cases b <;> first | rfl | (simp only [wideB, hA, Bool.false_and]))
        rw [hw]
        simp [isTy, x0, el, hA]
      | true =>
        obtain ⟨z, rfl⟩ : ∃ z, a = .str z := by
          cases a <;> first | (exact ⟨_, rfl⟩) | (cases hA)
        have hzz := (okD_str (hx _ (List.mem_cons_self))).1
        have hzl : z.length ≤ 4000 := by have : z.cps.size = z.length := rfl; omega
        have s1 : ifF (tOrF (tNotF (fB (f1 (gIsi .tuple) (fVar 0)))) (tOrF (fB (fBin gNe (f1 gLen (fVar 0)) (fC (.int 3)))) (tNotF (fB (callF F_are_letters (fCons (fBin gIx (fVar 0) (fC (.int 0))) fNil)))))) (retF (fC (.bool false))) nxF ⟨[.d (.tuple [.str z, b, c]), .d (.int most), .un, .un], p⟩ = .nx ⟨[.d (.tuple [.str z, b, c]), .d (.int most), .un, .un], p⟩ := by
          simp [isTy, x0, el, hA]
        rw [ev_seq, s1, seq1_nx]
        cases b with
        | tuple rows =>
          have hb := okD_tup (hx (.tuple rows) (by simp))
          by_cases h1 : (1 : Int) ≤ (rows.length : Int)
          · by_cases hm : (rows.length : Int) ≤ most
            · have s2 : ifF (tOrF (tNotF (fB (f1 (gIsi .tuple) (fBin gIx (fVar 0) (fC (.int 1)))))) (tNotF (fB (fChain (fun i j => decide (i ≤ j)) (fun i j => decide (i ≤ j)) (fC (.int 1)) (f1 gLen (fBin gIx (fVar 0) (fC (.int 1)))) (fVar 1))))) (retF (fC (.bool false))) nxF ⟨[.d (.tuple [.str z, .tuple rows, c]), .d (.int most), .un, .un], p⟩ = .nx ⟨[.d (.tuple [.str z, .tuple rows, c]), .d (.int most), .un, .un], p⟩ := by
                simp [isTy, x1, h1, hm]
              have s3 : setF 2 (f1 gLen (fBin gIx (fVar 0) (fC (.int 1)))) ⟨[.d (.tuple [.str z, .tuple rows, c]), .d (.int most), .un, .un], p⟩ = .nx ⟨[.d (.tuple [.str z, .tuple rows, c]), .d (.int most), .d (.int rows.length), .un], p⟩ := by
                simp [x1]
              have s4 := all_lc (v := 3) (te := callF F_is_row (fCons (fVar 3) (fCons (fBin gIx (fVar 0) (fC (.int 0))) (fCons (fVar 2) fNil)))) (ds := rows) (S := ⟨[.d (.tuple [.str z, .tuple rows, c]), .d (.int most), .d (.int rows.length), .un], p⟩) (fi := itF (fBin gIx (fVar 0) (fC (.int 1)))) (rowB z.length rows.length)
                (by simp [x1]) (by simp [plainAt]) (by simp) (by rw [sl_eq]; omega) (by
                  intro d hd
                  obtain ⟨r0, e⟩ := row_d (d := d) (n := rows.length) (p := p) hzl fun xs q => by
                    subst q
                    have := (okD_tup (hb.2 _ hd)).1
                    omega
                  simp [x0, e])
              rw [ev_seq, s2, seq1_nx, ev_seq, s3, seq1_nx, ev_ret, ev_bv, ev_and, ev_fB, s4, tst1_ok, val_v, tst2_ok, and1_ok]
              refine ⟨⟨[.d (.tuple [.str z, .tuple rows, c]), .d (.int most), .d (.int rows.length), .un], p⟩, ?_, rfl⟩
              cases hR : rows.all (rowB z.length rows.length) with
              | false =>
                simp [wideB, hA, h1, hm, hR]
              | true =>
                obtain ⟨r5, e5⟩ := ends_d c rows.length p fun xs q => by
                  subst q
                  have := (okD_tup (hx (.tuple xs) (by simp))).1
                  omega
                simp [wideB, hA, h1, hm, hR, x2, e5]
            · refine ⟨⟨[.d (.tuple [.str z, .tuple rows, c]), .d (.int most), .un, .un], p⟩, ?_, rfl⟩
              simp [isTy, x1, h1, hm, wideB]
          · refine ⟨⟨[.d (.tuple [.str z, .tuple rows, c]), .d (.int most), .un, .un], p⟩, ?_, rfl⟩
            simp [isTy, x1, h1, wideB]
        | none => exact ⟨⟨[.d (.tuple [.str z, .none, c]), .d (.int most), .un, .un], p⟩, by simp [isTy, x1, wideB], rfl⟩
        | bool v => exact ⟨⟨[.d (.tuple [.str z, .bool v, c]), .d (.int most), .un, .un], p⟩, by simp [isTy, x1, wideB], rfl⟩
        | int v => exact ⟨⟨[.d (.tuple [.str z, .int v, c]), .d (.int most), .un, .un], p⟩, by simp [isTy, x1, wideB], rfl⟩
        | str v => exact ⟨⟨[.d (.tuple [.str z, .str v, c]), .d (.int most), .un, .un], p⟩, by simp [isTy, x1, wideB], rfl⟩
        | list v => exact ⟨⟨[.d (.tuple [.str z, .list v, c]), .d (.int most), .un, .un], p⟩, by simp [isTy, x1, wideB], rfl⟩
        | dict v => exact ⟨⟨[.d (.tuple [.str z, .dict v, c]), .d (.int most), .un, .un], p⟩, by simp [isTy, x1, wideB], rfl⟩
    | [], _ => exact ⟨⟨[.d (.tuple []), .d (.int most), .un, .un], p⟩, by simp [isTy, wideB], rfl⟩
    | [a], _ => exact ⟨⟨[.d (.tuple [a]), .d (.int most), .un, .un], p⟩, by simp [isTy, wideB], rfl⟩
    | [a, b], _ => exact ⟨⟨[.d (.tuple [a, b]), .d (.int most), .un, .un], p⟩, by simp [isTy, wideB], rfl⟩
    | a :: b :: c :: e :: r, _ =>
      have hl : ¬ ((r.length : Int) + 1 + 1 + 1 + 1 = 3) := by omega
      exact ⟨⟨[.d (.tuple (a :: b :: c :: e :: r)), .d (.int most), .un, .un], p⟩, by simp [isTy, wideB, hl], rfl⟩
  | none => exact ⟨⟨[.d .none, .d (.int most), .un, .un], p⟩, by simp [isTy, wideB], rfl⟩
  | bool v => exact ⟨⟨[.d (.bool v), .d (.int most), .un, .un], p⟩, by simp [isTy, wideB], rfl⟩
  | int v => exact ⟨⟨[.d (.int v), .d (.int most), .un, .un], p⟩, by simp [isTy, wideB], rfl⟩
  | str v => exact ⟨⟨[.d (.str v), .d (.int most), .un, .un], p⟩, by simp [isTy, wideB], rfl⟩
  | list v => exact ⟨⟨[.d (.list v), .d (.int most), .un, .un], p⟩, by simp [isTy, wideB], rfl⟩
  | dict v => exact ⟨⟨[.d (.dict v), .d (.int most), .un, .un], p⟩, by simp [isTy, wideB], rfl⟩
end Q3
namespace Q3
open PySem PySem.Spec PyProof.Rows L2
/-! ### a loop that checks each item -/
theorem forF_all {v : Nat} {g : Sq → Fl} (f : D → Bool) {P : Sq → Prop} {r : R} : ∀ {ds : List D} {S : Sq}, P S →
    (∀ d ∈ ds, ∀ S, P S → ∃ S1, (Tg.nm v).put S d = some S1 ∧ (f d = true → ∃ S2, g S1 = .nx S2 ∧ P S2) ∧ (f d = false → ∃ S2, g S1 = .rt r S2 ∧ P S2)) →
    (ds.all f = true → ∃ S2, forF (.nm v) g ds S = .nx S2 ∧ P S2) ∧ (ds.all f = false → ∃ S2, forF (.nm v) g ds S = .rt r S2 ∧ P S2)
  | [], S, h, _ => ⟨fun _ => ⟨S, rfl, h⟩, (fun q => by cases q)⟩
  | d :: ds, S, h, k => by
    obtain ⟨S1, e1, ht, hf⟩ := k d List.mem_cons_self S h
    cases q : f d with
    | true =>
      obtain ⟨S2, e2, h2⟩ := ht q
      obtain ⟨a, b⟩ := forF_all (v := v) (g := g) f (P := P) (r := r) (ds := ds) (S := S2) h2 fun d m => k d (List.mem_cons_of_mem _ m)
      have step : forF (.nm v) g (d :: ds) S = forF (.nm v) g ds S2 := by simp only [forF, e1, e2]
      rw [step, List.all_cons, q, Bool.true_and]
      exact ⟨a, b⟩
    | false =>
      obtain ⟨S2, e2, h2⟩ := hf q
      have step : forF (.nm v) g (d :: ds) S = .rt r S2 := by simp only [forF, e1, e2]
      rw [List.all_cons, q, Bool.false_and]
      exact ⟨(fun z => by cases z), fun _ => ⟨S2, step, h2⟩⟩
theorem z_wideOf_d {n m : Nat} (hn : n ≤ 4000) {d : D} (h : okD n m d = true) (most : Int) (p : Option Pen) : ∃ r0, F__law_z_is_wide [.d d, .d (.int most)] p = .ok (.d (.bool (wideB most d))) ⟨r0, p⟩ := by
  suffices hs : ∃ S, g__law_z_is_wide ⟨[.d d, .d (.int most), .un, .un], p⟩ = .rt (.d (.bool (wideB most d))) S ∧ S.p = p by
    obtain ⟨S, e, hp⟩ := hs
    obtain ⟨r, q⟩ := S
    cases hp
    refine ⟨r, ?_⟩
    have e9 : (⟨[R.d d, .d (.int most)] ++ List.replicate (4 - [R.d d, .d (.int most)].length) .un, q⟩ : Sq) = ⟨[.d d, .d (.int most), .un, .un], q⟩ := rfl
    unfold F__law_z_is_wide
    rw [ev_run, e9, e, run1_rt]
  unfold g__law_z_is_wide
  cases d with
  | tuple xs =>
    obtain ⟨_, hx⟩ := okD_tup h
    match xs, hx with
    | [a, b, c], hx =>
      have x0 : atI [a, b, c] 0 = some a := rfl
      have x1 : atI [a, b, c] 1 = some b := rfl
      have x2 : atI [a, b, c] 2 = some c := rfl
      obtain ⟨rl, el⟩ := z_letters_d hn (hx a (by simp)) p
      cases hA : letB a with
      | false =>
        refine ⟨⟨[.d (.tuple [a, b, c]), .d (.int most), .un, .un], p⟩, ?_, rfl⟩
        have hw : wideB most (.tuple [a, b, c]) = false := by
          cases a <;> first | rfl | (cases b <;> first | rfl | (simp only [wideB, hA, Bool.false_and]))
        rw [hw]
        simp [isTy, x0, el, hA]
      | true =>
        obtain ⟨z, rfl⟩ : ∃ z, a = .str z := by
          cases a <;> first | (exact ⟨_, rfl⟩) | (cases hA)
        have hzz := (okD_str (hx _ (List.mem_cons_self))).1
        have hzl : z.length ≤ 4000 := by have : z.cps.size = z.length := rfl; omega
        have hzs : z.length ≤ sizeLine := by rw [sl_eq]; omega
        have s1 : ifF (tOrF (tNotF (fB (f1 (gIsi .tuple) (fVar 0)))) (tOrF (fB (fBin gNe (f1 gLen (fVar 0)) (fC (.int 3)))) (tNotF (fB (callF F__law_z_are_letters (fCons (fBin gIx (fVar 0) (fC (.int 0))) fNil)))))) (retF (fC (.bool false))) nxF ⟨[.d (.tuple [.str z, b, c]), .d (.int most), .un, .un], p⟩ = .nx ⟨[.d (.tuple [.str z, b, c]), .d (.int most), .un, .un], p⟩ := by
          simp [isTy, x0, el, hA]
        rw [ev_seq, s1, seq1_nx]
        cases b with
        | tuple rows =>
          have hb := okD_tup (hx (.tuple rows) (by simp))
          by_cases h1 : (1 : Int) ≤ (rows.length : Int)
          · by_cases hm : (rows.length : Int) ≤ most
            · have s2 : ifF (tOrF (tNotF (fB (f1 (gIsi .tuple) (fBin gIx (fVar 0) (fC (.int 1)))))) (tNotF (fB (fChain (fun i j => decide (i ≤ j)) (fun i j => decide (i ≤ j)) (fC (.int 1)) (f1 gLen (fBin gIx (fVar 0) (fC (.int 1)))) (fVar 1))))) (retF (fC (.bool false))) nxF ⟨[.d (.tuple [.str z, .tuple rows, c]), .d (.int most), .un, .un], p⟩ = .nx ⟨[.d (.tuple [.str z, .tuple rows, c]), .d (.int most), .un, .un], p⟩ := by
                simp [isTy, x1, h1, hm]
              have s3 : itF (fBin gIx (fVar 0) (fC (.int 1))) ⟨[.d (.tuple [.str z, .tuple rows, c]), .d (.int most), .un, .un], p⟩ = .ok rows ⟨[.d (.tuple [.str z, .tuple rows, c]), .d (.int most), .un, .un], p⟩ := by simp [x1]
              rw [ev_seq, s2, seq1_nx, ev_seq, ev_for, s3, for1_ok]
              have key := forF_all (v := 2) (g := (seqF (ifF (tOrF (tNotF (fB (f1 (gIsi .tuple) (fVar 2)))) (fB (fBin gNe (f1 gLen (fVar 2)) (f1 gLen (fBin gIx (fVar 0) (fC (.int 0))))))) (retF (fC (.bool false))) nxF) (ifF (fB (fBin (gIn false) (fC (.bool false)) (lcS (.nm 3) (itF (fVar 2)) yesF (bv (tOrF (fB (fSlN 3 false)) (fB (callF F__law_z_between (fCons (fVar 3) (fCons (fC (.int 0)) (fCons (fBin gSub (f1 gLen (fBin gIx (fVar 0) (fC (.int 1)))) (fC (.int 1))) fNil))))))) [3]))) (retF (fC (.bool false))) nxF)))
                (rowB z.length rows.length) (P := fun S => ∃ c2, S = ⟨[.d (.tuple [.str z, .tuple rows, c]), .d (.int most), c2, .un], p⟩) (r := .d (.bool false)) (ds := rows) (S := ⟨[.d (.tuple [.str z, .tuple rows, c]), .d (.int most), .un, .un], p⟩) ⟨.un, rfl⟩ (by
                  rintro d hd S ⟨c2, rfl⟩
                  refine ⟨⟨[.d (.tuple [.str z, .tuple rows, c]), .d (.int most), .d d, .un], p⟩, by simp, ?_⟩
                  suffices hq : (if rowB z.length rows.length d = true then Fl.nx ⟨[.d (.tuple [.str z, .tuple rows, c]), .d (.int most), .d d, .un], p⟩ else .rt (.d (.bool false)) ⟨[.d (.tuple [.str z, .tuple rows, c]), .d (.int most), .d d, .un], p⟩) = (seqF (ifF (tOrF (tNotF (fB (f1 (gIsi .tuple) (fVar 2)))) (fB (fBin gNe (f1 gLen (fVar 2)) (f1 gLen (fBin gIx (fVar 0) (fC (.int 0))))))) (retF (fC (.bool false))) nxF) (ifF (fB (fBin (gIn false) (fC (.bool false)) (lcS (.nm 3) (itF (fVar 2)) yesF (bv (tOrF (fB (fSlN 3 false)) (fB (callF F__law_z_between (fCons (fVar 3) (fCons (fC (.int 0)) (fCons (fBin gSub (f1 gLen (fBin gIx (fVar 0) (fC (.int 1)))) (fC (.int 1))) fNil))))))) [3]))) (retF (fC (.bool false))) nxF)) ⟨[.d (.tuple [.str z, .tuple rows, c]), .d (.int most), .d d, .un], p⟩ by
                    rw [← hq]
                    cases rowB z.length rows.length d
                    · exact ⟨(fun z => by cases z), fun _ => ⟨_, rfl, _, rfl⟩⟩
                    · exact ⟨fun _ => ⟨_, rfl, _, rfl⟩, (fun z => by cases z)⟩
                  have hdd := hb.2 d hd
                  cases d with
                  | tuple ys =>
                    have hl := (okD_tup hdd).1
                    have a := in_lc (neg := false) (v := 3) (te := bv (tOrF (fB (fSlN 3 false)) (fB (callF F__law_z_between (fCons (fVar 3) (fCons (fC (.int 0)) (fCons (fBin gSub (f1 gLen (fBin gIx (fVar 0) (fC (.int 1)))) (fC (.int 1))) fNil))))))) (ds := ys) (S := ⟨[.d (.tuple [.str z, .tuple rows, c]), .d (.int most), .d (.tuple ys), .un], p⟩) (fi := itF (fVar 2)) (cellB rows.length) (by simp) (by simp [plainAt]) (by simp) (by rw [sl_eq]; omega) (by
                      intro d hd
                      obtain ⟨r0, e⟩ := between_d d 0 ((rows.length : Int) - 1) p
                      cases hN : isNone d <;> simp [e, cellB, hN, x1])
                    by_cases hk : (ys.length : Int) = (z.length : Int)
                    · have hk2 : ys.length = z.length := by omega
                      have t1 : ifF (tOrF (tNotF (fB (f1 (gIsi .tuple) (fVar 2)))) (fB (fBin gNe (f1 gLen (fVar 2)) (f1 gLen (fBin gIx (fVar 0) (fC (.int 0))))))) (retF (fC (.bool false))) nxF ⟨[.d (.tuple [.str z, .tuple rows, c]), .d (.int most), .d (.tuple ys), .un], p⟩ = .nx ⟨[.d (.tuple [.str z, .tuple rows, c]), .d (.int most), .d (.tuple ys), .un], p⟩ := by
                        simp [isTy, hzs, x0, hk]
                      rw [ev_seq, t1, seq1_nx, ev_if, ev_fB, a, tst1_ok, val_v, tst2_ok, if1_ok]
                      cases hq : ys.all (cellB rows.length) <;> simp [rowB, hk2, hq]
                    · have hk2 : ¬ ys.length = z.length := by omega
                      simp [isTy, hzs, x0, hk, rowB, hk2]
                  | _ => simp [isTy, rowB])
              cases hR : rows.all (rowB z.length rows.length) with
              | false =>
                obtain ⟨S2, e2, c2, rfl⟩ := key.2 hR
                rw [e2, seq1_rt]
                exact ⟨⟨[.d (.tuple [.str z, .tuple rows, c]), .d (.int most), c2, .un], p⟩, by simp [wideB, hR], rfl⟩
              | true =>
                obtain ⟨S2, e2, c2, rfl⟩ := key.1 hR
                rw [e2, seq1_nx]
                obtain ⟨r5, e5⟩ := z_ends_d c rows.length p fun xs q => by
                  subst q
                  have := (okD_tup (hx (.tuple xs) (by simp))).1
                  omega
                exact ⟨⟨[.d (.tuple [.str z, .tuple rows, c]), .d (.int most), c2, .un], p⟩, by simp [wideB, hA, h1, hm, hR, x1, x2, e5], rfl⟩
            · refine ⟨⟨[.d (.tuple [.str z, .tuple rows, c]), .d (.int most), .un, .un], p⟩, ?_, rfl⟩
              simp [isTy, x1, h1, hm, wideB]
          · refine ⟨⟨[.d (.tuple [.str z, .tuple rows, c]), .d (.int most), .un, .un], p⟩, ?_, rfl⟩
            simp [isTy, x1, h1, wideB]
        | none => exact ⟨⟨[.d (.tuple [.str z, .none, c]), .d (.int most), .un, .un], p⟩, by simp [isTy, x1, wideB], rfl⟩
        | bool v => exact ⟨⟨[.d (.tuple [.str z, .bool v, c]), .d (.int most), .un, .un], p⟩, by simp [isTy, x1, wideB], rfl⟩
        | int v => exact ⟨⟨[.d (.tuple [.str z, .int v, c]), .d (.int most), .un, .un], p⟩, by simp [isTy, x1, wideB], rfl⟩
        | str v => exact ⟨⟨[.d (.tuple [.str z, .str v, c]), .d (.int most), .un, .un], p⟩, by simp [isTy, x1, wideB], rfl⟩
        | list v => exact ⟨⟨[.d (.tuple [.str z, .list v, c]), .d (.int most), .un, .un], p⟩, by simp [isTy, x1, wideB], rfl⟩
        | dict v => exact ⟨⟨[.d (.tuple [.str z, .dict v, c]), .d (.int most), .un, .un], p⟩, by simp [isTy, x1, wideB], rfl⟩
    | [], _ => exact ⟨⟨[.d (.tuple []), .d (.int most), .un, .un], p⟩, by simp [isTy, wideB], rfl⟩
    | [a], _ => exact ⟨⟨[.d (.tuple [a]), .d (.int most), .un, .un], p⟩, by simp [isTy, wideB], rfl⟩
    | [a, b], _ => exact ⟨⟨[.d (.tuple [a, b]), .d (.int most), .un, .un], p⟩, by simp [isTy, wideB], rfl⟩
    | a :: b :: c :: e :: r, _ =>
      have hl : ¬ ((r.length : Int) + 1 + 1 + 1 + 1 = 3) := by omega
      exact ⟨⟨[.d (.tuple (a :: b :: c :: e :: r)), .d (.int most), .un, .un], p⟩, by simp [isTy, wideB, hl], rfl⟩
  | none => exact ⟨⟨[.d .none, .d (.int most), .un, .un], p⟩, by simp [isTy, wideB], rfl⟩
  | bool v => exact ⟨⟨[.d (.bool v), .d (.int most), .un, .un], p⟩, by simp [isTy, wideB], rfl⟩
  | int v => exact ⟨⟨[.d (.int v), .d (.int most), .un, .un], p⟩, by simp [isTy, wideB], rfl⟩
  | str v => exact ⟨⟨[.d (.str v), .d (.int most), .un, .un], p⟩, by simp [isTy, wideB], rfl⟩
  | list v => exact ⟨⟨[.d (.list v), .d (.int most), .un, .un], p⟩, by simp [isTy, wideB], rfl⟩
  | dict v => exact ⟨⟨[.d (.dict v), .d (.int most), .un, .un], p⟩, by simp [isTy, wideB], rfl⟩
end Q3
namespace Q3
open PySem PySem.Spec PyProof.Rows L2
def fewB : D → Bool
  | .tuple [.str z, .tuple rows, _] => decide ((z.length : Int) < 3) || decide ((rows.length : Int) ≤ 3)
  | _ => false
def machB (d : D) : Bool := wideB 4 d && fewB d
theorem wideB_shape {most : Int} {d : D} (h : wideB most d = true) : ∃ z rows c, d = .tuple [.str z, .tuple rows, c] := by
  unfold wideB at h
  split at h
  · exact ⟨_, _, _, rfl⟩
  · cases h
section
variable {n m : Nat} {d : D} {p : Option Pen}
theorem wide_d (hn : n ≤ 4000) (h : okD n m d = true) : ∃ r0, F_is_wide [.d d] p = .ok (.d (.bool (wideB 200 d))) ⟨r0, p⟩ := by
  obtain ⟨r1, e1⟩ := wideOf_d hn h 200 p
  exact ⟨[.d d], by simp [F_is_wide, g_is_wide, e1]⟩
theorem mach_d (hn : n ≤ 4000) (h : okD n m d = true) : ∃ r0, F_is_machine [.d d] p = .ok (.d (.bool (machB d))) ⟨r0, p⟩ := by
  obtain ⟨r1, e1⟩ := wideOf_d hn h 4 p
  refine ⟨[.d d], ?_⟩
  cases hw : wideB 4 d with
  | false => rw [hw] at e1; simp [F_is_machine, g_is_machine, e1, machB, hw]
  | true =>
    rw [hw] at e1
    obtain ⟨z, rows, c, rfl⟩ := wideB_shape hw
    have x0 : atI [.str z, .tuple rows, c] 0 = some (.str z) := rfl
    have x1 : atI [.str z, .tuple rows, c] 1 = some (.tuple rows) := rfl
    have hzs : z.length ≤ sizeLine := by
      have := (okD_str ((okD_tup h).2 _ List.mem_cons_self)).1
      have e : z.cps.size = z.length := rfl
      rw [sl_eq]; omega
    by_cases hk : (z.length : Int) < 3
    · simp [F_is_machine, g_is_machine, e1, machB, hw, fewB, x0, x1, hzs, hk]
    · simp [F_is_machine, g_is_machine, e1, machB, hw, fewB, x0, x1, hzs, hk]
theorem z_mach_d (hn : n ≤ 4000) (h : okD n m d = true) : ∃ r0, F__law_z_is_machine [.d d] p = .ok (.d (.bool (machB d))) ⟨r0, p⟩ := by
  obtain ⟨r1, e1⟩ := z_wideOf_d hn h 4 p
  refine ⟨[.d d], ?_⟩
  cases hw : wideB 4 d with
  | false => rw [hw] at e1; simp [F__law_z_is_machine, g__law_z_is_machine, e1, machB, hw]
  | true =>
    rw [hw] at e1
    obtain ⟨z, rows, c, rfl⟩ := wideB_shape hw
    have x0 : atI [.str z, .tuple rows, c] 0 = some (.str z) := rfl
    have x1 : atI [.str z, .tuple rows, c] 1 = some (.tuple rows) := rfl
    have hzs : z.length ≤ sizeLine := by
      have := (okD_str ((okD_tup h).2 _ List.mem_cons_self)).1
      have e : z.cps.size = z.length := rfl
      rw [sl_eq]; omega
    have hq : decide ((rows.length : Int) < 4) = decide ((rows.length : Int) ≤ 3) := by
      by_cases q : (rows.length : Int) ≤ 3
      · rw [decide_eq_true q, decide_eq_true (by omega)]
      · rw [decide_eq_false q, decide_eq_false (by omega)]
    by_cases hk : (z.length : Int) < 3
    · simp [F__law_z_is_machine, g__law_z_is_machine, e1, machB, hw, fewB, x0, x1, hzs, hk]
    · simp [F__law_z_is_machine, g__law_z_is_machine, e1, machB, hw, fewB, x0, x1, hzs, hk, hq]
theorem needW_no (hn : n ≤ 4000) (h : okD n m d = true) (hw : wideB 200 d = false) : ∃ r0, F_need_wide [.d d] p = .ex "NoWide" ⟨r0, p⟩ := by
  obtain ⟨r1, e1⟩ := wide_d (p := p) hn h
  rw [hw] at e1
  exact ⟨[.d d], by simp [F_need_wide, g_need_wide, e1]⟩
theorem needM_no (hn : n ≤ 4000) (h : okD n m d = true) (hw : machB d = false) : ∃ r0, F_need_machine [.d d] p = .ex "NoMachine" ⟨r0, p⟩ := by
  obtain ⟨r1, e1⟩ := mach_d (p := p) hn h
  rw [hw] at e1
  exact ⟨[.d d], by simp [F_need_machine, g_need_machine, e1]⟩
/-! ### the functions refuse -/
def drop1 : Out PV → Fl
  | .ok _ S => .nx S
  | .ex c S => .ex c S
  | .no => .no
@[simp] theorem ev_drop (fa : Sq → Out PV) (S : Sq) : dropF fa S = drop1 (fa S) := by
  unfold dropF drop1
  cases fa S <;> rfl
@[simp] theorem drop1_ok (x : PV) (S : Sq) : drop1 (.ok x S) = .nx S := rfl
@[simp] theorem drop1_ex (c : Str) (S : Sq) : drop1 (.ex c S) = .ex c S := rfl
theorem least_no (hn : n ≤ 4000) (h : okD n m d = true) (hw : wideB 200 d = false) : ∃ r0, F_least_of [.d d] p = .ex "NoWide" ⟨r0, p⟩ := by
  obtain ⟨r1, e1⟩ := needW_no (p := p) hn h hw
  exact ⟨[.d d], by simp [F_least_of, g_least_of, e1]⟩
theorem reads_no {e : D} (hn : n ≤ 4000) (h : okD n m d = true) (hw : wideB 200 d = false) : ∃ r0, F_reads [.d d, .d e] p = .ex "NoWide" ⟨r0, p⟩ := by
  obtain ⟨r1, e1⟩ := needW_no (p := p) hn h hw
  exact ⟨[.d d, .d e], by simp [F_reads, g_reads, e1]⟩
theorem unlike_no {e : D} (hn : n ≤ 4000) (h : okD n m d = true) (hw : wideB 200 d = false) : ∃ r0, F_unlike_word [.d d, .d e] p = .ex "NoWide" ⟨r0, p⟩ := by
  obtain ⟨r1, e1⟩ := needW_no (p := p) hn h hw
  exact ⟨[.d d, .d e, .un, .un, .un, .un, .un, .un, .un], by simp [F_unlike_word, g_unlike_word, e1]⟩
theorem unlike_no2 {g : D} {q : List R} (hg : F_need_wide [.d g] p = .ok (.d .none) ⟨q, p⟩) (hn : n ≤ 4000) (h : okD n m d = true) (hw : wideB 200 d = false) : ∃ r0, F_unlike_word [.d g, .d d] p = .ex "NoWide" ⟨r0, p⟩ := by
  obtain ⟨r1, e1⟩ := needW_no (p := p) hn h hw
  exact ⟨[.d g, .d d, .un, .un, .un, .un, .un, .un, .un], by simp [F_unlike_word, g_unlike_word, hg, e1]⟩
theorem wordfor_no {e : D} (hn : n ≤ 4000) (h : okD n m d = true) (hw : machB d = false) : ∃ r0, F_word_for [.d d, .d e] p = .ex "NoMachine" ⟨r0, p⟩ := by
  obtain ⟨r1, e1⟩ := needM_no (p := p) hn h hw
  exact ⟨[.d d, .d e], by simp [F_word_for, g_word_for, e1]⟩
theorem pieces_no (hn : n ≤ 4000) (h : okD n m d = true) (hw : machB d = false) : ∃ r0, F_pieces_of [.d d] p = .ex "NoMachine" ⟨r0, p⟩ := by
  obtain ⟨r1, e1⟩ := needM_no (p := p) hn h hw
  exact ⟨[.d d, .un, .un, .un, .un], by simp [F_pieces_of, g_pieces_of, e1]⟩
end
theorem zw_mach (p : Option Pen) : ∃ r0, g__law_z_word ⟨wFr 3 (.e "NoMachine"), p⟩ = .rt (.d (.str "machine")) ⟨r0, p⟩ := ⟨_, by rfl⟩
theorem zw_wide (p : Option Pen) : ∃ r0, g__law_z_word ⟨wFr 3 (.e "NoWide"), p⟩ = .rt (.d (.str "wide")) ⟨r0, p⟩ := ⟨_, by rfl⟩
theorem wordF_ex {n : Nat} {cl : List Str} {g : Sq → Fl} {fE : Sq → Out PV} {S S1 : Sq} {c w : Str} {r0 : List R} (h : fE S = .ex c S1) (hc : c ∈ cl) (hg : g ⟨wFr n (.e c), S1.p⟩ = .rt (.d (.str w)) ⟨r0, S1.p⟩) : wordF n cl g fE S = .ok (.v (.str w)) S1 := by
  unfold wordF
  simp only [h, hc, if_true, hg]
  rfl
end Q3
namespace Q3
open PySem PySem.Spec PyProof.Rows L2
/-! ### data without lists, truths, dicts -/
mutual
def plD : D → Bool
  | .none => true
  | .bool _ => false
  | .int _ => true
  | .str _ => true
  | .list _ => false
  | .tuple xs => plA xs
  | .dict _ => false
def plA : List D → Bool
  | [] => true
  | x :: xs => plD x && plA xs
end
theorem plA_iff : ∀ {xs : List D}, plA xs = true ↔ ∀ x ∈ xs, plD x = true
  | [] => by simp [plA]
  | x :: xs => by simp [plA, plA_iff (xs := xs)]
theorem cut_take {xs : List D} {k : Nat} (h : k ≤ xs.length) : cutG xs none (some (k : Int)) = xs.take k := by
  unfold cutG
  rw [HT.sIx_none, HT.sIx_nat, Nat.min_eq_left h]
  simp
theorem cut_drop {xs : List D} {k : Nat} (h : k ≤ xs.length) : cutG xs (some (k : Int)) none = xs.drop k := by
  unfold cutG
  rw [HT.sIx_none, HT.sIx_nat, Nat.min_eq_left h]
  rw [List.take_of_length_le (by rw [List.length_drop]; exact Nat.le_refl _)]
theorem cut_one {xs : List D} {k : Nat} (h : k < xs.length) : cutG xs (some (k : Int)) (some ((k : Int) + 1)) = [xs[k]] := by
  unfold cutG
  rw [show ((k : Int) + 1) = ((k + 1 : Nat) : Int) by omega, HT.sIx_nat, HT.sIx_nat, Nat.min_eq_left (by omega : k ≤ xs.length), Nat.min_eq_left (by omega : k + 1 ≤ xs.length), show k + 1 - k = 1 by omega]
  rw [List.drop_eq_getElem_cons h]
  rfl
theorem w_app : ∀ (xs ys : List D), PyData.weightAll (xs ++ ys) = PyData.weightAll xs + PyData.weightAll ys
  | [], ys => by simp [PyData.weightAll]
  | x :: xs, ys => by
    rw [List.cons_append, PyData.weightAll, PyData.weightAll, w_app xs ys]
    omega
theorem w_split {xs : List D} {k : Nat} (h : k < xs.length) : PyData.weightAll xs = PyData.weightAll (xs.take k) + (xs[k].weight + 1) + PyData.weightAll (xs.drop (k + 1)) := by
  have e : xs = xs.take k ++ xs[k] :: xs.drop (k + 1) := by
    rw [← List.drop_eq_getElem_cons h, List.take_append_drop]
  have e2 := congrArg PyData.weightAll e
  rw [w_app, PyData.weightAll] at e2
  omega
theorem dp_all {k : Nat} : ∀ {xs : List D}, PyData.depthAll xs ≤ k ↔ ∀ x ∈ xs, x.depth ≤ k
  | [] => by simp [PyData.depthAll]
  | x :: xs => by
    rw [PyData.depthAll]
    simp only [List.mem_cons, forall_eq_or_imp]
    rw [← dp_all (xs := xs)]
    omega
theorem w_rev : ∀ (xs : List D), PyData.weightAll xs.reverse = PyData.weightAll xs
  | [] => rfl
  | x :: xs => by
    rw [List.reverse_cons, w_app, w_rev xs, PyData.weightAll, PyData.weightAll, PyData.weightAll]
    omega
/-- what a bend gives, from a value of weight w, depth k -/
structure BentOk (n m w k : Nat) (y : D) : Prop where
  ok : okD (2 * n + 20) m y = true
  wt : y.weight ≤ 2 * w + 120
  dp : y.depth ≤ k + 3
def someL : List D := [.none, .bool true, .bool false, .int 0, .int 1, .int (-1), .int 2, .str "a", .str "ba", .str "", .tuple [], .list [], .dict [], .tuple [.int 0], .tuple [.tuple [.int 0, .int 0]], .tuple [.int 0, .int 1], .int 21, .tuple [.none, .int 0]]
theorem some_ok {n m w k : Nat} {y : D} (h : y ∈ someL) (hm : 21 ≤ m) : BentOk n m w k y := by
  have key : ∀ y ∈ someL, okD 20 21 y = true ∧ y.weight ≤ 120 ∧ y.depth ≤ 3 := by decide +kernel
  obtain ⟨a, b, c⟩ := key y h
  exact ⟨okD_mono (by omega) hm a, by omega, by omega⟩
theorem pow31 : (10 : Nat) ^ 31 = 10000000000000000000000000000000 := by decide
theorem w_int {i : Int} (h : i.natAbs ≤ 10 ^ 32) : (PyData.int i).weight ≤ 120 := by
  rw [PyData.weight]
  split
  · omega
  · rename_i q
    have hz : i.natAbs ≠ 0 := by
      intro z
      have : i = 0 := by omega
      rw [this] at q
      exact q rfl
    have hl : i.natAbs.log2 < 107 := by
      rw [Nat.log2_lt hz]
      exact Nat.lt_of_le_of_lt h (by decide)
    omega
theorem int_ok {n w k : Nat} {i : Int} (h : i.natAbs ≤ 10 ^ 32) : BentOk n (10 ^ 32) w k (.int i) :=
  ⟨by rw [okD]; exact decide_eq_true h, Nat.le_trans (w_int h) (by omega), by show 0 ≤ _; omega⟩
end Q3
namespace Q3
open PySem PySem.Spec PyProof.Rows L2
theorem sl_t {i : Nat} {S : Sq} {xs : List D} {fl fh : Sq → Out (Option Int)} {lo hi : Option Int} (h : S.r[i]? = some (.d (.tuple xs))) (h2 : fl S = .ok lo S) (h3 : fh S = .ok hi S) : fSl (fVar i) fl fh S = .ok (.v (.tuple (cutG xs lo hi))) S := by
  have e1 : fVar i S = .ok (.s i) S := by rw [ev_var, h]; rfl
  have e2 : S.val (fz (.s i)) = some (.tuple xs) := by rw [fz_s, val_s, h]; rfl
  unfold fSl fzF
  simp only [e1, Out.bind_ok, h2, h3, e2]
  rfl
theorem part_at {f : Sq → Out PV} {S : Sq} {p : PV} {i : Int} (h1 : f S = .ok p S) (h2 : S.val p = some (.int i)) : fPart f S = .ok (some i) S := by
  unfold fPart
  simp only [h1, Out.bind_ok, h2]
theorem nopart_ok (S : Sq) : fNoPart S = .ok none S := rfl
@[simp] theorem neg_i (i : Int) : gNeg (.int i) = some (.v (.int (-i))) := rfl
@[simp] theorem isiT_ev (ts : List Ty) (d : D) : gIsiT ts d = some (.v (.bool (ts.any fun t => isTy t d))) := rfl
@[simp] theorem rev_t (xs : List D) : gRev (.tuple xs) = some (.v (.tuple xs.reverse)) := rfl
@[simp] theorem add_t (a b : List D) : gAdd (.tuple a) (.tuple b) = if a.length + b.length ≤ sizeLine then some (.v (.tuple (a ++ b))) else none := rfl
def bS (d : D) (c2 c3 c4 c5 c6 c7 : R) (p : Option Pen) : Sq := ⟨[.pen, .d d, c2, c3, c4, c5, c6, c7], p⟩
theorem b_some (d : D) (c2 c3 c4 c5 c6 c7 : R) (p : Option Pen) : setF 2 (fLst (fCons (fC .none) (fCons (fC (.bool true)) (fCons (fC (.bool false)) (fCons (fC (.int 0)) (fCons (fC (.int 1)) (fCons (f1 gNeg (fC (.int 1))) (fCons (fC (.int 2)) (fCons (fC (.str "a")) (fCons (fC (.str "ba")) (fCons (fC (.str "")) (fCons (fTup fNil) (fCons (fLst fNil) (fCons (fC (.dict [])) (fCons (fTup (fCons (fC (.int 0)) fNil)) (fCons (fTup (fCons (fTup (fCons (fC (.int 0)) (fCons (fC (.int 0)) fNil))) fNil)) (fCons (fTup (fCons (fC (.int 0)) (fCons (fC (.int 1)) fNil))) (fCons (fC (.int 21)) (fCons (fTup (fCons (fC .none) (fCons (fC (.int 0)) fNil))) fNil))))))))))))))))))) (bS d c2 c3 c4 c5 c6 c7 p) = .nx (bS d (.l someL) c3 c4 c5 c6 c7 p) := by
  unfold bS someL
  simp [sl_eq]
/-- some other value -/
theorem b_pick {n m w k : Nat} {d : D} {N : Int} {c3 c4 c5 c6 c7 : R} {p : Option Pen} (hm : 21 ≤ m) (h : At N p) (hN : N < 2 ^ 30) : ∃ y p' S, retF (callF F__law_z_pick (fCons (fVar 0) (fCons (fVar 2) fNil))) (bS d (.l someL) c3 c4 c5 c6 c7 p) = .rt (.d y) S ∧ S.p = p' ∧ BentOk n m w k y ∧ At (N + 1) p' := by
  obtain ⟨y, p1, r1, e1, my, h1⟩ := pick_at (xs := someL) h hN (by decide) (by decide)
  exact ⟨y, p1, bS d (.d (.list someL)) c3 c4 c5 c6 c7 p1, by unfold bS; simp [e1], rfl, some_ok my hm, h1⟩
theorem b_int {n : Nat} {i : Int} {N : Int} {c2 c3 c4 c5 c6 c7 : R} {p : Option Pen} {w k : Nat} (hi : i.natAbs ≤ 10 ^ 12) (h : At N p) (hN : N < 2 ^ 30) :
    ∃ y p' S, retF (callF F__law_z_pick (fCons (fVar 0) (fCons (fLst (fCons (fBin gAdd (fVar 1) (fC (.int 1))) (fCons (fBin gSub (fVar 1) (fC (.int 1))) (fCons (fIf (fB (fChain (fun i j => decide (i ≤ j)) (fun i j => decide (i < j)) (fC (.int 0)) (fVar 1) (fC (.int 2)))) (fBin gEq (fVar 1) (fC (.int 1))) (fBin gAdd (fVar 1) (fC (.int 2)))) (fCons (fC .none) (fCons (fBin gPow (fC (.int 10)) (fC (.int 31))) fNil)))))) fNil))) (bS (.int i) c2 c3 c4 c5 c6 c7 p) = .rt (.d y) S ∧ S.p = p' ∧ BentOk n (10 ^ 32) w k y ∧ At (N + 1) p' := by
  have k31 : CPowW 10 31 := cpow_of (by decide) (by decide) (by decide)
  obtain ⟨z, hz, ez⟩ : ∃ z, BentOk n (10 ^ 32) w k z ∧ fIf (fB (fChain (fun i j => decide (i ≤ j)) (fun i j => decide (i < j)) (fC (.int 0)) (fVar 1) (fC (.int 2)))) (fBin gEq (fVar 1) (fC (.int 1))) (fBin gAdd (fVar 1) (fC (.int 2))) (bS (.int i) c2 c3 c4 c5 c6 c7 p) = .ok (.v z) (bS (.int i) c2 c3 c4 c5 c6 c7 p) := by
    by_cases h0 : 0 ≤ i
    · by_cases h2 : i < 2
      · exact ⟨.bool (i == 1), ⟨rfl, by show 0 ≤ _; omega, by show 0 ≤ _; omega⟩, by unfold bS; simp [h0, h2]⟩
      · exact ⟨.int (i + 2), int_ok (Nat.le_trans (by omega : (i + 2).natAbs ≤ 10 ^ 12 + 2) (by decide)), by unfold bS; simp [h0, h2]⟩
    · exact ⟨.int (i + 2), int_ok (Nat.le_trans (by omega : (i + 2).natAbs ≤ 10 ^ 12 + 2) (by decide)), by unfold bS; simp [h0]⟩
  obtain ⟨y, p1, r1, e1, my, h1⟩ := pick_at (xs := [.int (i + 1), .int (i - 1), z, .none, .int 10000000000000000000000000000000]) h hN (by simp) (by simp)
  refine ⟨y, p1, bS (.int i) c2 c3 c4 c5 c6 c7 p1, ?_, rfl, ?_, h1⟩
  · unfold bS at *
    simp [-ev_fIf, ez, k31, e1, sl_eq]
  · simp only [List.mem_cons, List.not_mem_nil, or_false] at my
    rcases my with rfl | rfl | rfl | rfl | rfl
    · exact int_ok (Nat.le_trans (by omega : (i + 1).natAbs ≤ 10 ^ 12 + 1) (by decide))
    · exact int_ok (Nat.le_trans (by omega : (i - 1).natAbs ≤ 10 ^ 12 + 1) (by decide))
    · exact hz
    · exact ⟨rfl, by show 0 ≤ _; omega, by show 0 ≤ _; omega⟩
    · exact int_ok (by decide)
end Q3
namespace Q3
open PySem PySem.Spec PyProof.Rows L2
theorem ok_up {n : Nat} {d : D} (h : okD n (10 ^ 12) d = true) : okD (2 * n + 20) (10 ^ 32) d = true := okD_mono (by omega) (by decide) h
/-- parts put together again -/
theorem parts_ok {n w k : Nat} {ys : List D} (hl : ys.length ≤ 2 * n + 20) (h : ∀ y ∈ ys, okD (2 * n + 20) (10 ^ 32) y = true) (hw : PyData.weightAll ys ≤ 2 * w + 120) (hd : ∀ y ∈ ys, y.depth ≤ k + 2) : BentOk n (10 ^ 32) w k (.tuple ys) := by
  refine ⟨?_, by rw [PyData.weight]; exact hw, ?_⟩
  · rw [okD, Bool.and_eq_true, decide_eq_true_eq]
    exact ⟨hl, okA_iff.mpr h⟩
  · have := dp_all.mpr hd
    rw [PyData.depth]; omega
theorem partsL_ok {n w k : Nat} {ys : List D} (hl : ys.length ≤ 2 * n + 20) (h : ∀ y ∈ ys, okD (2 * n + 20) (10 ^ 32) y = true) (hw : PyData.weightAll ys ≤ 2 * w + 120) (hd : ∀ y ∈ ys, y.depth ≤ k + 2) : BentOk n (10 ^ 32) w k (.list ys) := by
  refine ⟨?_, by rw [PyData.weight]; exact hw, ?_⟩
  · rw [okD, Bool.and_eq_true, decide_eq_true_eq]
    exact ⟨hl, okA_iff.mpr h⟩
  · have := dp_all.mpr hd
    rw [PyData.depth]; omega
theorem bent_all {n : Nat} (hn : n ≤ 1000) : ∀ (f : Nat) (d : D) (N : Int) (p : Option Pen), okD n (10 ^ 12) d = true → plD d = true → d.depth < f → At N p → N + 10 * f < 2 ^ 30 →
    ∃ y p' r0, Fr__law_z_bent f [.pen, .d d] p = .ok (.d y) ⟨r0, p'⟩ ∧ BentOk n (10 ^ 32) d.weight d.depth y ∧ At (N + 4 * f) p'
  | 0, _, _, _, _, _, hd, _, _ => absurd hd (Nat.not_lt_zero _)
  | f + 1, d, N, p, hok, hpl, hd, h, hN => by
    suffices hs : ∃ y S p', g__law_z_bent (Fr__law_z_bent f) (bS d .un .un .un .un .un .un p) = .rt (.d y) S ∧ S.p = p' ∧ BentOk n (10 ^ 32) d.weight d.depth y ∧ At (N + 4 * (f + 1 : Nat)) p' by
      obtain ⟨y, S, p', e, rfl, hb, ha⟩ := hs
      have e9 : (⟨[R.pen, .d d] ++ List.replicate (8 - [R.pen, .d d].length) .un, p⟩ : Sq) = bS d .un .un .un .un .un .un p := rfl
      refine ⟨y, S.p, S.r, ?_, hb, ha⟩
      show runB 8 (g__law_z_bent (Fr__law_z_bent f)) [.pen, .d d] p = _
      rw [ev_run, e9, e, run1_rt]
    unfold g__law_z_bent
    rw [ev_seq, b_some, seq1_nx]
    cases d with
    | none =>
      obtain ⟨y, p', S, e, hp, hb, ha⟩ := b_pick (n := n) (m := 10 ^ 32) (w := PyData.weight .none) (k := PyData.depth .none) (d := .none) (c3 := .un) (c4 := .un) (c5 := .un) (c6 := .un) (c7 := .un) (by decide) h (by omega)
      refine ⟨y, S, p', ?_, hp, hb, ha.mono (by omega)⟩
      have t : (tOrF (fB (f1 (gIsiT [.bool, .str, .dict]) (fVar 1))) (tOrF (tNotF (fB (f1 (gIsiT [.int, .tuple, .list]) (fVar 1)))) (fB (fBin gEq (callF F__law_take (fCons (fVar 0) (fCons (fC (.int 9)) fNil))) (fC (.int 0)))))) (bS .none (.l someL) .un .un .un .un .un p) = .ok true (bS .none (.l someL) .un .un .un .un .un p) := by
        unfold bS; simp [isTy]
      rw [ev_seq, ev_if, t, if1_ok, if_pos rfl, e, seq1_rt]
    | bool b => cases hpl
    | list b => cases hpl
    | dict b => cases hpl
    | str z =>
      obtain ⟨y, p', S, e, hp, hb, ha⟩ := b_pick (n := n) (m := 10 ^ 32) (w := PyData.weight (.str z)) (k := PyData.depth (.str z)) (d := .str z) (c3 := .un) (c4 := .un) (c5 := .un) (c6 := .un) (c7 := .un) (by decide) h (by omega)
      refine ⟨y, S, p', ?_, hp, hb, ha.mono (by omega)⟩
      have t : (tOrF (fB (f1 (gIsiT [.bool, .str, .dict]) (fVar 1))) (tOrF (tNotF (fB (f1 (gIsiT [.int, .tuple, .list]) (fVar 1)))) (fB (fBin gEq (callF F__law_take (fCons (fVar 0) (fCons (fC (.int 9)) fNil))) (fC (.int 0)))))) (bS (.str z) (.l someL) .un .un .un .un .un p) = .ok true (bS (.str z) (.l someL) .un .un .un .un .un p) := by
        unfold bS; simp [isTy]
      rw [ev_seq, ev_if, t, if1_ok, if_pos rfl, e, seq1_rt]
    | int i =>
      obtain ⟨v, p1, r1, e1, v0, v1, h1⟩ := take_at (m := 9) h (by omega) (by decide) (by decide)
      have hi : i.natAbs ≤ 10 ^ 12 := by rw [okD, decide_eq_true_eq] at hok; exact hok
      have t : (tOrF (fB (f1 (gIsiT [.bool, .str, .dict]) (fVar 1))) (tOrF (tNotF (fB (f1 (gIsiT [.int, .tuple, .list]) (fVar 1)))) (fB (fBin gEq (callF F__law_take (fCons (fVar 0) (fCons (fC (.int 9)) fNil))) (fC (.int 0)))))) (bS (.int i) (.l someL) .un .un .un .un .un p) = .ok (v == 0) (bS (.int i) (.l someL) .un .un .un .un .un p1) := by
        unfold bS; simp [isTy, e1]
      by_cases hv : v = 0
      · obtain ⟨y, p', S, e, hp, hb, ha⟩ := b_pick (n := n) (m := 10 ^ 32) (w := PyData.weight (.int i)) (k := PyData.depth (.int i)) (d := .int i) (c3 := .un) (c4 := .un) (c5 := .un) (c6 := .un) (c7 := .un) (by decide) h1 (by omega)
        refine ⟨y, S, p', ?_, hp, hb, ha.mono (by omega)⟩
        rw [ev_seq, ev_if, t, if1_ok, if_pos (by simp [hv]), e, seq1_rt]
      · obtain ⟨y, p', S, e, hp, hb, ha⟩ := b_int (n := n) (w := PyData.weight (.int i)) (k := PyData.depth (.int i)) (i := i) (c2 := .l someL) (c3 := .un) (c4 := .un) (c5 := .un) (c6 := .un) (c7 := .un) hi h1 (by omega)
        refine ⟨y, S, p', ?_, hp, hb, ha.mono (by omega)⟩
        have t2 : fB (f1 (gIsi .int) (fVar 1)) (bS (.int i) (.l someL) .un .un .un .un .un p1) = .ok true (bS (.int i) (.l someL) .un .un .un .un .un p1) := by
          unfold bS; simp [isTy]
        rw [ev_seq, ev_if, t, if1_ok, if_neg (by simp [hv]), ev_nx, seq1_nx, ev_seq, ev_if, t2, if1_ok, if_pos rfl, e, seq1_rt]
    | tuple xs =>
      obtain ⟨v, p1, r1, e1, v0, v1, h1⟩ := take_at (m := 9) h (by omega) (by decide) (by decide)
      obtain ⟨hlen, hx⟩ := okD_tup hok
      have hpx : ∀ x ∈ xs, plD x = true := plA_iff.mp (by rw [plD] at hpl; exact hpl)
      have t : (tOrF (fB (f1 (gIsiT [.bool, .str, .dict]) (fVar 1))) (tOrF (tNotF (fB (f1 (gIsiT [.int, .tuple, .list]) (fVar 1)))) (fB (fBin gEq (callF F__law_take (fCons (fVar 0) (fCons (fC (.int 9)) fNil))) (fC (.int 0)))))) (bS (.tuple xs) (.l someL) .un .un .un .un .un p) = .ok (v == 0) (bS (.tuple xs) (.l someL) .un .un .un .un .un p1) := by
        unfold bS; simp [isTy, e1]
      by_cases hv : v = 0
      · obtain ⟨y, p', S, e, hp, hb, ha⟩ := b_pick (n := n) (m := 10 ^ 32) (w := PyData.weight (.tuple xs)) (k := PyData.depth (.tuple xs)) (d := .tuple xs) (c3 := .un) (c4 := .un) (c5 := .un) (c6 := .un) (c7 := .un) (by decide) h1 (by omega)
        refine ⟨y, S, p', ?_, hp, hb, ha.mono (by omega)⟩
        rw [ev_seq, ev_if, t, if1_ok, if_pos (by simp [hv]), e, seq1_rt]
      · have t2 : fB (f1 (gIsi .int) (fVar 1)) (bS (.tuple xs) (.l someL) .un .un .un .un .un p1) = .ok false (bS (.tuple xs) (.l someL) .un .un .un .un .un p1) := by
          unfold bS; simp [isTy]
        rw [ev_seq, ev_if, t, if1_ok, if_neg (by simp [hv]), ev_nx, seq1_nx, ev_seq, ev_if, t2, if1_ok, if_neg (by decide), ev_nx, seq1_nx]
        have t3 : fB (fBin gEq (f1 gLen (fVar 1)) (fC (.int 0))) (bS (.tuple xs) (.l someL) .un .un .un .un .un p1) = .ok ((xs.length : Int) == 0) (bS (.tuple xs) (.l someL) .un .un .un .un .un p1) := by
          unfold bS; simp
        by_cases hz : xs.length = 0
        · obtain ⟨y, p', S, e, hp, hb, ha⟩ := b_pick (n := n) (m := 10 ^ 32) (w := PyData.weight (.tuple xs)) (k := PyData.depth (.tuple xs)) (d := .tuple xs) (c3 := .un) (c4 := .un) (c5 := .un) (c6 := .un) (c7 := .un) (by decide) h1 (by omega)
          refine ⟨y, S, p', ?_, hp, hb, ha.mono (by omega)⟩
          rw [ev_seq, ev_if, t3, if1_ok, if_pos (by simp [hz]), e, seq1_rt]
        · have hw0 : PyData.weight (.tuple xs) = PyData.weightAll xs := by rw [PyData.weight]
          have hd0 : PyData.depth (.tuple xs) = PyData.depthAll xs + 1 := by rw [PyData.depth]
          have hdx : ∀ x ∈ xs, x.depth ≤ PyData.depthAll xs := dp_all.mp (Nat.le_refl _)
          obtain ⟨kk, p2, r2, e2, k0, k1, h2⟩ := take_at (m := (xs.length : Int)) h1 (by omega) (by omega) (by omega)
          obtain ⟨k, rfl⟩ := Int.eq_ofNat_of_zero_le k0
          have hk : k < xs.length := by omega
          obtain ⟨ww, p3, r3, e3, w0, w1, h3⟩ := take_at (m := 16) h2 (by omega) (by decide) (by decide)
          obtain ⟨way, rfl⟩ := Int.eq_ofNat_of_zero_le w0
          have ek : atI xs ((k : Nat) : Int) = some xs[k] := by
            unfold atI ixN
            simp [hk]
          rw [ev_seq, ev_if, t3, if1_ok, if_neg (fun z => hz (by have := beq_iff_eq.mp z; omega)), ev_nx, seq1_nx]
          have t4 : parF 3 4 (callF F__law_take (fCons (fVar 0) (fCons (f1 gLen (fVar 1)) fNil))) (callF F__law_take (fCons (fVar 0) (fCons (fC (.int 16)) fNil))) (bS (.tuple xs) (.l someL) .un .un .un .un .un p1) = .nx (bS (.tuple xs) (.l someL) (.d (.int (k : Nat))) (.d (.int (way : Nat))) .un .un .un p3) := by
            unfold bS; simp [e2, e3]
          rw [ev_seq, t4, seq1_nx]
          have t5 : fB (fBin gGt (fVar 4) (fC (.int 4))) (bS (.tuple xs) (.l someL) (.d (.int (k : Nat))) (.d (.int (way : Nat))) .un .un .un p3) = .ok (decide ((4 : Int) < (way : Int))) (bS (.tuple xs) (.l someL) (.d (.int (k : Nat))) (.d (.int (way : Nat))) .un .un .un p3) := by
            unfold bS; simp
          have s1 : ∀ (c5 c6 c7 : R) (q : Option Pen), fSl (fVar 1) fNoPart (fPart (fVar 3)) (bS (.tuple xs) (.l someL) (.d (.int (k : Nat))) (.d (.int (way : Nat))) c5 c6 c7 q) = .ok (.v (.tuple (xs.take k))) (bS (.tuple xs) (.l someL) (.d (.int (k : Nat))) (.d (.int (way : Nat))) c5 c6 c7 q) := fun c5 c6 c7 q => by
            rw [← cut_take (Nat.le_of_lt hk)]
            exact sl_t (by simp [bS]) (nopart_ok _) (part_at (p := .s 3) (i := (k : Int)) (by simp [bS]) (by simp [bS]))
          have s2 : ∀ (c5 c6 c7 : R) (q : Option Pen), fSl (fVar 1) (fPart (fBin gAdd (fVar 3) (fC (.int 1)))) fNoPart (bS (.tuple xs) (.l someL) (.d (.int (k : Nat))) (.d (.int (way : Nat))) c5 c6 c7 q) = .ok (.v (.tuple (xs.drop (k + 1)))) (bS (.tuple xs) (.l someL) (.d (.int (k : Nat))) (.d (.int (way : Nat))) c5 c6 c7 q) := fun c5 c6 c7 q => by
            rw [← cut_drop (by omega : k + 1 ≤ xs.length)]
            exact sl_t (by simp [bS]) (part_at (p := .v (.int ((k : Int) + 1))) (i := ((k + 1 : Nat) : Int)) (by simp [bS]) (by simp)) (nopart_ok _)
          have hlt : (xs.take k).length = k := by rw [List.length_take]; omega
          have hld : (xs.drop (k + 1)).length = xs.length - (k + 1) := List.length_drop ..
          have wsp := w_split hk
          have mt : ∀ y ∈ xs.take k, y ∈ xs := fun y m => List.mem_of_mem_take m
          have md : ∀ y ∈ xs.drop (k + 1), y ∈ xs := fun y m => List.mem_of_mem_drop m
          rw [ev_seq, ev_if, t5, if1_ok]
          by_cases hg : 4 < way
          · rw [if_pos (decide_eq_true (by omega))]
            obtain ⟨b, p4, r4, e4, hb, ha⟩ := bent_all hn f xs[k] (N + 1 + 1 + 1) p3 (hx _ (List.getElem_mem hk)) (hpx _ (List.getElem_mem hk)) (by have := hdx _ (List.getElem_mem hk); omega) h3 (by omega)
            have t6 : setF 5 (callF (Fr__law_z_bent f) (fCons (fVar 0) (fCons (fBin gIx (fVar 1) (fVar 3)) fNil))) (bS (.tuple xs) (.l someL) (.d (.int (k : Nat))) (.d (.int (way : Nat))) .un .un .un p3) = .nx (bS (.tuple xs) (.l someL) (.d (.int (k : Nat))) (.d (.int (way : Nat))) (.d b) .un .un p4) := by
              unfold bS; simp [ek, e4]
            have q1 := s1 (.d b) .un .un p4
            have q2 := s2 (.d b) .un .un p4
            have ql1 : (xs.take k).length + 1 ≤ 16777216 := by omega
            have ql2 : (xs.take k ++ [b]).length + (xs.drop (k + 1)).length ≤ 16777216 := by rw [List.length_append]; simp only [List.length_singleton]; omega
            refine ⟨.tuple (xs.take k ++ [b] ++ xs.drop (k + 1)), bS (.tuple xs) (.l someL) (.d (.int (k : Nat))) (.d (.int (way : Nat))) (.d b) .un .un p4, p4, ?_, rfl, ?_, ha.mono (by omega)⟩
            · rw [ev_seq, t6, seq1_nx]
              have fin : retF (fBin gAdd (fBin gAdd (fSl (fVar 1) fNoPart (fPart (fVar 3))) (fIf (fB (f1 (gIsi .list) (fVar 1))) (fLst (fCons (fVar 5) fNil)) (fTup (fCons (fVar 5) fNil)))) (fSl (fVar 1) (fPart (fBin gAdd (fVar 3) (fC (.int 1)))) fNoPart)) (bS (.tuple xs) (.l someL) (.d (.int (k : Nat))) (.d (.int (way : Nat))) (.d b) .un .un p4) = .rt (.d (.tuple (xs.take k ++ [b] ++ xs.drop (k + 1)))) (bS (.tuple xs) (.l someL) (.d (.int (k : Nat))) (.d (.int (way : Nat))) (.d b) .un .un p4) := by
                have q3 : fIf (fB (f1 (gIsi .list) (fVar 1))) (fLst (fCons (fVar 5) fNil)) (fTup (fCons (fVar 5) fNil)) (bS (.tuple xs) (.l someL) (.d (.int (k : Nat))) (.d (.int (way : Nat))) (.d b) .un .un p4) = .ok (.v (.tuple [b])) (bS (.tuple xs) (.l someL) (.d (.int (k : Nat))) (.d (.int (way : Nat))) (.d b) .un .un p4) := by
                  unfold bS; simp [isTy, sl_eq]
                rw [ev_ret, ev_bin, ev_bin, q1, bin1_ok, q3, bin2_ok, fz_v, val_v, fz_v, val_v, bin3_ok, add_t, if_pos (by rw [sl_eq]; exact ql1), bin4_ok, bin1_ok, q2, bin2_ok, fz_v, val_v, fz_v, val_v, bin3_ok, add_t, if_pos (by rw [sl_eq]; exact ql2), bin4_ok]
                rfl
              rw [fin, seq1_rt]
            · have hbk := hb.dp
              have hbw := hb.wt
              have hxk := hdx _ (List.getElem_mem hk)
              refine parts_ok ?_ ?_ ?_ ?_
              · simp only [List.length_append, List.length_singleton]; omega
              · intro y m
                rcases List.mem_append.mp m with m | m
                · rcases List.mem_append.mp m with m | m
                  · exact ok_up (hx y (mt y m))
                  · rw [List.mem_singleton.mp m]; exact hb.ok
                · exact ok_up (hx y (md y m))
              · rw [w_app, w_app, PyData.weightAll, PyData.weightAll, hw0]
                omega
              · intro y m
                rw [hd0]
                rcases List.mem_append.mp m with m | m
                · rcases List.mem_append.mp m with m | m
                  · have := hdx y (mt y m); omega
                  · rw [List.mem_singleton.mp m]; omega
                · have := hdx y (md y m); omega
          · rw [if_neg (by rw [decide_eq_false (by omega)]; decide), ev_nx, seq1_nx]
            have s3 : fSl (fVar 1) (fPart (fVar 3)) (fPart (fBin gAdd (fVar 3) (fC (.int 1)))) (bS (.tuple xs) (.l someL) (.d (.int (k : Nat))) (.d (.int (way : Nat))) .un .un .un p3) = .ok (.v (.tuple [xs[k]])) (bS (.tuple xs) (.l someL) (.d (.int (k : Nat))) (.d (.int (way : Nat))) .un .un .un p3) := by
              rw [← cut_one hk]
              exact sl_t (by simp [bS]) (part_at (p := .s 3) (i := (k : Int)) (by simp [bS]) (by simp [bS])) (part_at (p := .v (.int ((k : Int) + 1))) (i := (k : Int) + 1) (by simp [bS]) (by simp))
            have s4 : ∀ (c5 c6 c7 : R) (q : Option Pen), fSl (fVar 1) (fPart (fVar 3)) fNoPart (bS (.tuple xs) (.l someL) (.d (.int (k : Nat))) (.d (.int (way : Nat))) c5 c6 c7 q) = .ok (.v (.tuple (xs.drop k))) (bS (.tuple xs) (.l someL) (.d (.int (k : Nat))) (.d (.int (way : Nat))) c5 c6 c7 q) := fun c5 c6 c7 q => by
              rw [← cut_drop (by omega : k ≤ xs.length)]
              exact sl_t (by simp [bS]) (part_at (p := .s 3) (i := (k : Int)) (by simp [bS]) (by simp [bS])) (nopart_ok _)
            have hdk : (xs.drop k).length = xs.length - k := List.length_drop ..
            have t6 : setF 6 (fBin gAdd (fBin gAdd (fSl (fVar 1) fNoPart (fPart (fVar 3))) (fSl (fVar 1) (fPart (fVar 3)) (fPart (fBin gAdd (fVar 3) (fC (.int 1)))))) (fSl (fVar 1) (fPart (fVar 3)) fNoPart)) (bS (.tuple xs) (.l someL) (.d (.int (k : Nat))) (.d (.int (way : Nat))) .un .un .un p3) = .nx (bS (.tuple xs) (.l someL) (.d (.int (k : Nat))) (.d (.int (way : Nat))) .un (.d (.tuple (xs.take k ++ [xs[k]] ++ xs.drop k))) .un p3) := by
              rw [ev_set, ev_bin, ev_bin, s1, bin1_ok, s3, bin2_ok, fz_v, val_v, fz_v, val_v, bin3_ok, add_t, if_pos (by rw [sl_eq]; simp only [List.length_singleton]; omega), bin4_ok, bin1_ok, s4, bin2_ok, fz_v, val_v, fz_v, val_v, bin3_ok, add_t, if_pos (by rw [sl_eq, List.length_append]; simp only [List.length_singleton]; omega), bin4_ok]
              rfl
            have t7 : setF 7 (fIf (fB (f1 (gIsi .list) (fVar 1))) (f1 gTuple (fVar 1)) (f1 gList (fVar 1))) (bS (.tuple xs) (.l someL) (.d (.int (k : Nat))) (.d (.int (way : Nat))) .un (.d (.tuple (xs.take k ++ [xs[k]] ++ xs.drop k))) .un p3) = .nx (bS (.tuple xs) (.l someL) (.d (.int (k : Nat))) (.d (.int (way : Nat))) .un (.d (.tuple (xs.take k ++ [xs[k]] ++ xs.drop k))) (.l xs) p3) := by
              unfold bS; simp [isTy]
            rw [ev_seq, t6, seq1_nx, ev_seq, t7, seq1_nx]
            have hway : way = 0 ∨ way = 1 ∨ way = 2 ∨ way = 3 ∨ way = 4 := by omega
            have l5 : [PyData.tuple (xs.take k ++ xs.drop (k + 1)), .tuple (xs.take k ++ [xs[k]] ++ xs.drop k), .list xs, .tuple xs.reverse, .tuple (xs ++ xs)].length = 5 := rfl
            obtain ⟨y, ey, my⟩ : ∃ y, atI [PyData.tuple (xs.take k ++ xs.drop (k + 1)), .tuple (xs.take k ++ [xs[k]] ++ xs.drop k), .list xs, .tuple xs.reverse, .tuple (xs ++ xs)] ((way : Nat) : Int) = some y ∧ y ∈ [PyData.tuple (xs.take k ++ xs.drop (k + 1)), .tuple (xs.take k ++ [xs[k]] ++ xs.drop k), .list xs, .tuple xs.reverse, .tuple (xs ++ xs)] := atI_lt (by omega) (by rw [l5]; omega)
            refine ⟨y, bS (.tuple xs) (.l someL) (.d (.int (k : Nat))) (.d (.int (way : Nat))) .un (.d (.tuple (xs.take k ++ [xs[k]] ++ xs.drop k))) (.d (.list xs)) p3, p3, ?_, rfl, ?_, h3.mono (by omega)⟩
            · have g1 : fBin gAdd (fSl (fVar 1) fNoPart (fPart (fVar 3))) (fSl (fVar 1) (fPart (fBin gAdd (fVar 3) (fC (.int 1)))) fNoPart) (bS (.tuple xs) (.l someL) (.d (.int (k : Nat))) (.d (.int (way : Nat))) .un (.d (.tuple (xs.take k ++ [xs[k]] ++ xs.drop k))) (.l xs) p3) = .ok (.v (.tuple (xs.take k ++ xs.drop (k + 1)))) (bS (.tuple xs) (.l someL) (.d (.int (k : Nat))) (.d (.int (way : Nat))) .un (.d (.tuple (xs.take k ++ [xs[k]] ++ xs.drop k))) (.l xs) p3) := by
                rw [ev_bin, s1, bin1_ok, s2, bin2_ok, fz_v, val_v, fz_v, val_v, bin3_ok, add_t, if_pos (by rw [sl_eq]; omega), bin4_ok]
              have hxx : xs.length + xs.length ≤ 16777216 := by omega
              rw [ev_ret, ev_bin, ev_lst, ev_cons, g1, cons1_ok]
              unfold bS
              rw [show xs.take k ++ [xs[k]] ++ xs.drop k = xs.take (k + 1) ++ xs.drop k by simp] at ey
              simp [sl_eq, hxx, ey]
            · have wr := w_rev xs
              simp only [List.mem_cons, List.not_mem_nil, or_false] at my
              rcases my with rfl | rfl | rfl | rfl | rfl
              · refine parts_ok (by rw [List.length_append]; omega) (fun y m => ?_) (by rw [w_app, hw0]; omega) fun y m => ?_
                · rcases List.mem_append.mp m with m | m
                  · exact ok_up (hx y (mt y m))
                  · exact ok_up (hx y (md y m))
                · rw [hd0]
                  rcases List.mem_append.mp m with m | m
                  · have := hdx y (mt y m); omega
                  · have := hdx y (md y m); omega
              · have wd : PyData.weightAll (xs.drop k) = (xs[k].weight + 1) + PyData.weightAll (xs.drop (k + 1)) := by
                  rw [List.drop_eq_getElem_cons hk, PyData.weightAll]
                refine parts_ok (by rw [List.length_append, List.length_append]; simp only [List.length_singleton]; omega) (fun y m => ?_) (by rw [w_app, w_app, PyData.weightAll, PyData.weightAll, hw0]; omega) fun y m => ?_
                · rcases List.mem_append.mp m with m | m
                  · rcases List.mem_append.mp m with m | m
                    · exact ok_up (hx y (mt y m))
                    · rw [List.mem_singleton.mp m]; exact ok_up (hx _ (List.getElem_mem hk))
                  · exact ok_up (hx y (List.mem_of_mem_drop m))
                · rw [hd0]
                  rcases List.mem_append.mp m with m | m
                  · rcases List.mem_append.mp m with m | m
                    · have := hdx y (mt y m); omega
                    · rw [List.mem_singleton.mp m]; have := hdx _ (List.getElem_mem hk); omega
                  · have := hdx y (List.mem_of_mem_drop m); omega
              · refine partsL_ok (by omega) (fun y m => ok_up (hx y m)) (by rw [hw0]; omega) fun y m => ?_
                rw [hd0]; have := hdx y m; omega
              · refine parts_ok (by rw [List.length_reverse]; omega) (fun y m => ok_up (hx y (List.mem_reverse.mp m))) (by rw [hw0, wr]; omega) fun y m => ?_
                rw [hd0]; have := hdx y (List.mem_reverse.mp m); omega
              · refine parts_ok (by rw [List.length_append]; omega) (fun y m => ?_) (by rw [w_app, hw0]; omega) fun y m => ?_
                · rcases List.mem_append.mp m with m | m <;> exact ok_up (hx y m)
                · rw [hd0]
                  rcases List.mem_append.mp m with m | m <;> (have := hdx y m; omega)
end Q3
namespace Q3
open PySem PySem.Spec PyProof.Rows L2
/-! ### repr of bounded data -/
theorem log_32 {i : Int} (h : i.natAbs ≤ 10 ^ 32) : i.natAbs.log2 < 1920 := by
  by_cases hz : i.natAbs = 0
  · rw [hz]; decide
  · rw [Nat.log2_lt hz]
    exact Nat.lt_of_le_of_lt h (Nat.lt_of_lt_of_le (by decide : 10 ^ 32 < 2 ^ 200) (Nat.pow_le_pow_right (by decide) (by decide)))
theorem len_32 {i : Int} (h : i.natAbs ≤ 10 ^ 32) : (PyData.shown (.int i)).length ≤ 60 := by
  have e := int_text_length_le10 (k := 33) (by decide) (Nat.lt_of_le_of_lt h (by decide : 10 ^ 32 < 10 ^ 33))
  show (Str.ofString (toString i)).length ≤ 60
  rw [PySem.ofString_length]
  omega
mutual
theorem ok_show {n : Nat} : ∀ {d : D}, okD n (10 ^ 32) d = true → d.showable = true ∧ d.leavesShort 60 = true
  | .none, _ => ⟨rfl, rfl⟩
  | .bool _, _ => ⟨rfl, rfl⟩
  | .int i, h => by
    rw [okD, decide_eq_true_eq] at h
    exact ⟨by rw [PyData.showable]; exact decide_eq_true (log_32 h), by rw [PyData.leavesShort]; exact decide_eq_true (len_32 h)⟩
  | .str z, h => by
    refine ⟨rfl, ?_⟩
    rw [PyData.leavesShort]
    exact List.all_eq_true.mpr fun c m => decide_eq_true (Nat.lt_trans ((okD_str h).2 c m) (by decide))
  | .list xs, h => by
    rw [okD, Bool.and_eq_true] at h
    obtain ⟨a, b⟩ := ok_showA h.2
    exact ⟨by rw [PyData.showable]; exact a, by rw [PyData.leavesShort]; exact b⟩
  | .tuple xs, h => by
    rw [okD, Bool.and_eq_true] at h
    obtain ⟨a, b⟩ := ok_showA h.2
    exact ⟨by rw [PyData.showable]; exact a, by rw [PyData.leavesShort]; exact b⟩
  | .dict kvs, h => by
    rw [okD] at h
    cases kvs with
    | nil => exact ⟨rfl, rfl⟩
    | cons _ _ => cases h
theorem ok_showA {n : Nat} : ∀ {xs : List D}, okA n (10 ^ 32) xs = true → PyData.showableAll xs = true ∧ PyData.leavesShortAll 60 xs = true
  | [], _ => ⟨rfl, rfl⟩
  | x :: xs, h => by
    rw [okA, Bool.and_eq_true] at h
    obtain ⟨a, b⟩ := ok_show h.1
    obtain ⟨c, e⟩ := ok_showA h.2
    exact ⟨by rw [PyData.showableAll, a, c]; rfl, by rw [PyData.leavesShortAll, b, e]; rfl⟩
end
theorem repr_ok {n : Nat} {d : D} (h : okD n (10 ^ 32) d = true) (hw : d.weight ≤ 200000) (hd : d.depth ≤ 64) : gReprD d = some (.v (.str d.shown)) := by
  obtain ⟨a, b⟩ := ok_show h
  have c := PyData.shown_le 60 (by decide) d b
  unfold gReprD
  rw [if_pos ⟨a, hd, by rw [sl_eq]; omega⟩]
/-! ### the drawn machines -/
structure GoodD (d : D) : Prop where
  ok : okD 201 (10 ^ 12) d = true
  pl : plD d = true
  wt : d.weight ≤ 30000
  dp : d.depth ≤ 3
theorem wAll_le {w : Nat} : ∀ {xs : List D}, (∀ x ∈ xs, x.weight ≤ w) → PyData.weightAll xs ≤ (w + 1) * xs.length
  | [], _ => Nat.zero_le _
  | x :: xs, h => by
    have a := h x List.mem_cons_self
    have b := wAll_le fun y m => h y (List.mem_cons_of_mem _ m)
    rw [PyData.weightAll, List.length_cons, Nat.mul_add, Nat.mul_one]
    omega
theorem w_nat {n : Nat} (h : n < 256) : (PyData.int (n : Nat)).weight ≤ 8 := by
  rw [PyData.weight]
  split
  · omega
  · rename_i q
    have hz : ((n : Nat) : Int).natAbs ≠ 0 := by
      intro z
      have : n = 0 := by omega
      rw [this] at q
      exact q rfl
    have hl : ((n : Nat) : Int).natAbs.log2 < 8 := by
      rw [Nat.log2_lt hz]
      omega
    omega
theorem ok_nat {n k : Nat} (h : n < 1000) : okD k (10 ^ 12) (.int (n : Nat)) = true := by
  rw [okD, decide_eq_true_eq]
  omega
theorem ok_tuple {n m : Nat} {xs : List D} (hl : xs.length ≤ n) (h : ∀ x ∈ xs, okD n m x = true) : okD n m (.tuple xs) = true := by
  rw [okD, Bool.and_eq_true, decide_eq_true_eq]
  exact ⟨hl, okA_iff.mpr h⟩
theorem pl_tuple {xs : List D} (h : ∀ x ∈ xs, plD x = true) : plD (.tuple xs) = true := by
  rw [plD]; exact plA_iff.mpr h
theorem dp_tuple {k : Nat} {xs : List D} (h : ∀ x ∈ xs, x.depth ≤ k) : (PyData.tuple xs).depth ≤ k + 1 := by
  rw [PyData.depth]; have := dp_all.mpr h; omega
theorem wt_tuple {w : Nat} {xs : List D} (h : ∀ x ∈ xs, x.weight ≤ w) : (PyData.tuple xs).weight ≤ (w + 1) * xs.length := by
  rw [PyData.weight]; exact wAll_le h
theorem let_str {z : Str} (L : Lets z) {k m : Nat} (hk : 3 ≤ k) : okD k m (.str z) = true := by
  obtain ⟨hz1, hz⟩ := L.size
  obtain ⟨cs, rfl, up, l1, l3, hc⟩ := L
  rw [okD, Bool.and_eq_true, decide_eq_true_eq]
  exact ⟨by omega, List.all_eq_true.mpr fun c m => decide_eq_true (by have := (hc c (by simpa using m)).2; omega)⟩
/-- three parts -/
theorem good_of {z : Str} (L : Lets z) {b c : D} (hb : okD 201 (10 ^ 12) b = true) (hc : okD 201 (10 ^ 12) c = true) (pb : plD b = true) (pc : plD c = true) (wb : b.weight ≤ 10000) (wc : c.weight ≤ 10000) (db : b.depth ≤ 2) (dc : c.depth ≤ 2) : GoodD (.tuple [.str z, b, c]) := by
  have hz := L.size.2
  refine ⟨ok_tuple (by simp) ?_, pl_tuple ?_, ?_, dp_tuple ?_⟩
  · intro x m
    simp only [List.mem_cons, List.not_mem_nil, or_false] at m
    rcases m with rfl | rfl | rfl
    · exact let_str L (by decide)
    · exact hb
    · exact hc
  · intro x m
    simp only [List.mem_cons, List.not_mem_nil, or_false] at m
    rcases m with rfl | rfl | rfl
    · rfl
    · exact pb
    · exact pc
  · rw [PyData.weight, PyData.weightAll, PyData.weightAll, PyData.weightAll, PyData.weightAll, PyData.weight]
    omega
  · intro x m
    simp only [List.mem_cons, List.not_mem_nil, or_false] at m
    rcases m with rfl | rfl | rfl
    · show 0 ≤ 2; omega
    · exact db
    · exact dc
theorem good_wide {z : Str} {rows : List (List (Option Nat))} {ends : List Nat} (L : Lets z) (w : WideOk z rows ends) : GoodD (wideD z rows ends) := by
  have h2 := w.h2
  have hel := up_len w.up w.lt
  have hz := L.size.2
  have row : ∀ r ∈ rows, okD 201 (10 ^ 12) (rowD r) = true ∧ plD (rowD r) = true ∧ (rowD r).weight ≤ 27 ∧ (rowD r).depth ≤ 1 := fun r m => by
    have q := w.row r m
    have cell : ∀ x ∈ r.map optD, okD 201 (10 ^ 12) x = true ∧ plD x = true ∧ x.weight ≤ 8 ∧ x.depth ≤ 0 := fun x hx => by
      obtain ⟨o, mo, rfl⟩ := List.mem_map.mp hx
      cases o with
      | none => exact ⟨rfl, rfl, Nat.zero_le _, Nat.le_refl _⟩
      | some s =>
        have := q.2 s mo
        exact ⟨ok_nat (by omega), rfl, w_nat (by omega), Nat.le_refl _⟩
    refine ⟨ok_tuple (by rw [List.length_map, q.1]; omega) fun x m => (cell x m).1, pl_tuple fun x m => (cell x m).2.1, ?_, dp_tuple fun x m => (cell x m).2.2.2⟩
    have := wt_tuple (xs := r.map optD) fun x m => (cell x m).2.2.1
    rw [List.length_map, q.1] at this
    show (PyData.tuple (r.map optD)).weight ≤ 27
    omega
  have all : ∀ x ∈ rows.map rowD, okD 201 (10 ^ 12) x = true ∧ plD x = true ∧ x.weight ≤ 27 ∧ x.depth ≤ 1 := fun x hx => by
    obtain ⟨r, mr, rfl⟩ := List.mem_map.mp hx
    exact row r mr
  have en : ∀ x ∈ ends.map (fun n => PyData.int (n : Nat)), okD 201 (10 ^ 12) x = true ∧ plD x = true ∧ x.weight ≤ 8 ∧ x.depth ≤ 0 := fun x hx => by
    obtain ⟨r, mr, rfl⟩ := List.mem_map.mp hx
    have := w.lt r mr
    exact ⟨ok_nat (by omega), rfl, w_nat (by omega), Nat.le_refl _⟩
  have w1 := wt_tuple fun x m => (all x m).2.2.1
  have w2 := wt_tuple fun x m => (en x m).2.2.1
  rw [List.length_map] at w1 w2
  have d1 := dp_tuple fun x m => (all x m).2.2.2
  have d2 := dp_tuple fun x m => (en x m).2.2.2
  exact good_of L (ok_tuple (by rw [List.length_map]; omega) fun x m => (all x m).1) (ok_tuple (by rw [List.length_map]; omega) fun x m => (en x m).1) (pl_tuple fun x m => (all x m).2.1) (pl_tuple fun x m => (en x m).2.1) (by omega) (by omega) (by omega) (by omega)
theorem machine_at {z : Str} {n : Int} {p : Option Pen} (L : Lets z) (h : At n p) (hn : n + 400 < 2 ^ 30) :
    ∃ rows ends p' r0, F__law_z_machine [.pen, .d (.str z)] p = .ok (.d (wideD z rows ends)) ⟨r0, p'⟩ ∧ WideOk z rows ends ∧ At (n + 60) p' := by
  obtain ⟨hz1, hz⟩ := L.size
  have hzl : (z.length : Int) = 1 ∨ (z.length : Int) = 2 ∨ (z.length : Int) = 3 := by have : z.cps.size = z.length := rfl; omega
  obtain ⟨ms, e0, l0, l1, m0⟩ : ∃ ms : List D, atI [PyData.list [.int 4, .int 4, .int 4], .list [.int 2, .int 3, .int 4], .list [.int 1, .int 2, .int 2, .int 3]] ((z.length : Int) - 1) = some (.list ms) ∧ 0 < ms.length ∧ ms.length < 10 ∧ ∀ x ∈ ms, ∃ m : Int, x = .int m ∧ 1 ≤ m ∧ m ≤ 8 := by
    rcases hzl with q | q | q <;> rw [q] <;> refine ⟨_, rfl, by decide, by decide, ?_⟩ <;> (intro x hx; simp only [List.mem_cons, List.not_mem_nil, or_false] at hx)
    · rcases hx with rfl | rfl | rfl <;> exact ⟨_, rfl, by decide, by decide⟩
    · rcases hx with rfl | rfl | rfl <;> exact ⟨_, rfl, by decide, by decide⟩
    · rcases hx with rfl | rfl | rfl | rfl <;> exact ⟨_, rfl, by decide, by decide⟩
  obtain ⟨x, p1, r1, e1, mx, h1⟩ := pick_at (xs := ms) h (by omega) l0 (by omega)
  obtain ⟨m, rfl, m1, m8⟩ := m0 x mx
  obtain ⟨rows, ends, p2, r2, e2, w, h2⟩ := wide_at (z := z) hz m1 m8 h1 (by omega)
  have hzs : z.length ≤ 16777216 := by have : z.cps.size = z.length := rfl; omega
  refine ⟨rows, ends, p2, [.pen, .d (.str z)], ?_, w, h2.mono (by omega)⟩
  simp [F__law_z_machine, g__law_z_machine, sl_eq, hzs, e0, e1, e2]
end Q3
namespace Q3
open PySem PySem.Spec PyProof.Rows L2
def ringRow (z : Str) (many : Int) : D → D
  | .int s => .tuple ((signs z).map fun _ => .int ((s + 1) % many))
  | d => d
theorem long_at {z : Str} {n : Int} {p : Option Pen} (L : Lets z) (h : At n p) (hn : n + 400 < 2 ^ 30) :
    ∃ d p' r0, F__law_z_long [.pen, .d (.str z)] p = .ok (.d d) ⟨r0, p'⟩ ∧ GoodD d ∧ At (n + 2) p' := by
  obtain ⟨hz1, hz⟩ := L.size
  obtain ⟨x, p1, r1, e1, mx, h1⟩ := pick_at (xs := [.int 3, .int 4, .int 5, .int 199, .int 200, .int 201]) h (by omega) (by simp) (by simp)
  obtain ⟨m, rfl, m1, m8⟩ : ∃ m : Nat, x = .int (m : Nat) ∧ 3 ≤ m ∧ m ≤ 201 := by
    simp only [List.mem_cons, List.not_mem_nil, or_false] at mx
    rcases mx with rfl | rfl | rfl | rfl | rfl | rfl
    · exact ⟨3, rfl, by decide, by decide⟩
    · exact ⟨4, rfl, by decide, by decide⟩
    · exact ⟨5, rfl, by decide, by decide⟩
    · exact ⟨199, rfl, by decide, by decide⟩
    · exact ⟨200, rfl, by decide, by decide⟩
    · exact ⟨201, rfl, by decide, by decide⟩
  obtain ⟨v, p2, r2, e2, v0, v1, h2⟩ := take_at (m := (m : Int)) h1 (by omega) (by omega) (by omega)
  obtain ⟨a, rfl⟩ := Int.eq_ofNat_of_zero_le v0
  have k1 : Rng62 (m : Int) := rng62 (by omega) (by omega)
  have hm0 : (0 : Int) < (m : Int) := by omega
  have s1 : setF 2 (callF F__law_z_pick (fCons (fVar 0) (fCons (fLst (fCons (fC (.int 3)) (fCons (fC (.int 4)) (fCons (fC (.int 5)) (fCons (fC (.int 199)) (fCons (fC (.int 200)) (fCons (fC (.int 201)) fNil))))))) fNil))) ⟨[.pen, .d (.str z), .un, .un, .un, .un], p⟩ = .nx ⟨[.pen, .d (.str z), .d (.int (m : Nat)), .un, .un, .un], p1⟩ := by
    simp [e1, sl_eq]
  have s2 := lc_map (v := 4) (te := (f1 gTuple (lcS (.nm 5) (itF (fVar 1)) yesF (fBin gMod (f1 gInt1 (fBin gAdd (fVar 4) (fC (.int 1)))) (fVar 2)) [5]))) (ds := rngD 0 m) (S := ⟨[.pen, .d (.str z), .d (.int (m : Nat)), .un, .un, .un], p1⟩) (fi := rng1F (fVar 2)) (ringRow z m) (by simp [k1]) (by simp [plainAt]) (by simp) (by rw [rngD_len, sl_eq]; omega) (by
      intro d hd
      obtain ⟨i, hi⟩ := List.mem_iff_getElem?.mp hd
      obtain ⟨hi, rfl⟩ := rngD_get hi
      have q := lc_map (v := 5) (te := (fBin gMod (f1 gInt1 (fBin gAdd (fVar 4) (fC (.int 1)))) (fVar 2))) (ds := signs z) (S := ⟨[.pen, .d (.str z), .d (.int (m : Nat)), .un, .d (.int (0 + (i : Nat))), .un], p1⟩) (fi := itF (fVar 1)) (fun _ => .int ((0 + (i : Nat) + 1) % (m : Int))) (by simp) (by simp [plainAt]) (by simp) (by rw [signs_len, sl_eq]; omega) (by
        intro d hd
        have hm00 : 0 < m := by omega
        simp [hm00])
      have st : ({ (⟨[.pen, .d (.str z), .d (.int (m : Nat)), .un, .un, .un], p1⟩ : Sq) with r := ([.pen, .d (.str z), .d (.int (m : Nat)), .un, .un, .un] : List R).set 4 (.d (.int (0 + (i : Nat)))) } : Sq) = ⟨[.pen, .d (.str z), .d (.int (m : Nat)), .un, .d (.int (0 + (i : Nat))), .un], p1⟩ := rfl
      show f1 gTuple _ ({ (⟨[.pen, .d (.str z), .d (.int (m : Nat)), .un, .un, .un], p1⟩ : Sq) with r := ([.pen, .d (.str z), .d (.int (m : Nat)), .un, .un, .un] : List R).set 4 (.d (.int (0 + (i : Nat)))) } : Sq) = _
      rw [st, ev_f1, q, one1_ok, fz_o, val_v, one2_ok, tuple_l, bin4_ok]
      rfl)
  have s3 : setF 3 (lcS (.nm 4) (rng1F (fVar 2)) yesF (f1 gTuple (lcS (.nm 5) (itF (fVar 1)) yesF (fBin gMod (f1 gInt1 (fBin gAdd (fVar 4) (fC (.int 1)))) (fVar 2)) [5])) [4]) ⟨[.pen, .d (.str z), .d (.int (m : Nat)), .un, .un, .un], p1⟩ = .nx ⟨[.pen, .d (.str z), .d (.int (m : Nat)), .l ((rngD 0 m).map (ringRow z m)), .un, .un], p1⟩ := by
    rw [ev_set, s2]
    simp
  have e9 : (⟨[R.pen, .d (.str z)] ++ List.replicate (6 - [R.pen, .d (.str z)].length) .un, p⟩ : Sq) = ⟨[.pen, .d (.str z), .un, .un, .un, .un], p⟩ := rfl
  refine ⟨.tuple [.str z, .tuple ((rngD 0 m).map (ringRow z m)), .tuple [.int (a : Nat)]], p2, [.pen, .d (.str z), .d (.int (m : Nat)), .l ((rngD 0 m).map (ringRow z m)), .un, .un], ?_, ?_, h2.mono (by omega)⟩
  · unfold F__law_z_long g__law_z_long
    rw [ev_run, e9, ev_seq, s1, seq1_nx, ev_seq, s3, seq1_nx]
    simp [e2, sl_eq]
  · have row : ∀ x ∈ (rngD 0 m).map (ringRow z m), okD 201 (10 ^ 12) x = true ∧ plD x = true ∧ x.weight ≤ 27 ∧ x.depth ≤ 1 := fun x hx => by
      obtain ⟨d, hd, rfl⟩ := List.mem_map.mp hx
      obtain ⟨i, hi⟩ := List.mem_iff_getElem?.mp hd
      obtain ⟨hi, rfl⟩ := rngD_get hi
      have cell : ∀ x ∈ (signs z).map (fun _ => PyData.int ((0 + (i : Nat) + 1) % (m : Int))), okD 201 (10 ^ 12) x = true ∧ plD x = true ∧ x.weight ≤ 8 ∧ x.depth ≤ 0 := fun x hx => by
        obtain ⟨_, _, rfl⟩ := List.mem_map.mp hx
        obtain ⟨c, hc⟩ : ∃ c : Nat, (0 + (i : Nat) + 1 : Int) % (m : Int) = (c : Nat) ∧ c < m := by
          have a1 := Int.emod_nonneg (0 + (i : Nat) + 1 : Int) (show (m : Int) ≠ 0 by omega)
          have a2 := Int.emod_lt_of_pos (0 + (i : Nat) + 1 : Int) hm0
          exact ⟨((0 + (i : Nat) + 1 : Int) % (m : Int)).toNat, by omega, by omega⟩
        rw [hc.1]
        exact ⟨ok_nat (by omega), rfl, w_nat (by omega), Nat.le_refl _⟩
      have hl : ((signs z).map (fun _ => PyData.int ((0 + (i : Nat) + 1) % (m : Int)))).length = z.cps.size := by rw [List.length_map, signs_len]
      have w := wt_tuple fun x m => (cell x m).2.2.1
      rw [hl] at w
      exact ⟨ok_tuple (by rw [hl]; omega) fun x m => (cell x m).1, pl_tuple fun x m => (cell x m).2.1, by show (PyData.tuple _).weight ≤ 27; omega, dp_tuple fun x m => (cell x m).2.2.2⟩
    have hl : ((rngD 0 m).map (ringRow z m)).length = m := by rw [List.length_map, rngD_len]
    have w1 := wt_tuple fun x m => (row x m).2.2.1
    rw [hl] at w1
    have d1 := dp_tuple fun x m => (row x m).2.2.2
    refine good_of L (ok_tuple (by rw [hl]; omega) fun x m => (row x m).1) (ok_tuple (by simp) fun x hx => ?_) (pl_tuple fun x m => (row x m).2.1) (pl_tuple fun x hx => ?_) (by omega) ?_ (by omega) ?_
    · rw [List.mem_singleton.mp hx]; exact ok_nat (by omega)
    · rw [List.mem_singleton.mp hx]; rfl
    · have := w_nat (n := a) (by omega)
      rw [PyData.weight, PyData.weightAll, PyData.weightAll]
      omega
    · have : (PyData.tuple [PyData.int (a : Nat)]).depth = 1 := rfl
      omega
end Q3
namespace Q3
open PySem PySem.Spec PyProof.Rows L2
def t1 : Sq → Fl := (setF 3 (callF F__law_z_letters (fCons (fVar 1) fNil)))
def t2 : Sq → Fl := (setF 4 (fLst (fCons (callF F__law_z_wide (fCons (fVar 1) (fCons (fVar 3) (fCons (fC (.int 6)) fNil)))) (fCons (callF F__law_z_machine (fCons (fVar 1) (fCons (fVar 3) fNil))) (fCons (callF F__law_z_long (fCons (fVar 1) (fCons (fVar 3) fNil))) fNil)))))
def t3 : Sq → Fl := (setF 5 (fBin gAdd (fVar 4) (lcS (.nm 11) (rng1F (fC (.int 9))) yesF (callF F__law_z_bent (fCons (fVar 1) (fCons (fBin gIx (fVar 4) (fBin gMod (f1 gInt1 (fVar 11)) (fC (.int 3)))) fNil))) [11])))
def t4 : Sq → Fl := (appF 5 (fBin gAdd (fTup (fCons (fM0 "str" gUpper (fVar 3)) fNil)) (fSl (fBin gIx (fVar 4) (fC (.int 1))) (fPart (fC (.int 1))) fNoPart)))
def t5 : Sq → Fl := (appF 5 (fBin gAdd (fTup (fCons (fBin gAdd (f1 gRev (fVar 3)) (fSl (fVar 3) fNoPart (fPart (fC (.int 1))))) fNil)) (fSl (fBin gIx (fVar 4) (fC (.int 1))) (fPart (fC (.int 1))) fNoPart)))
def t6 : Sq → Fl := (appF 5 (fBin gAdd (fTup (fCons (fBin gAdd (fVar 3) (fC (.str "0"))) fNil)) (fSl (fBin gIx (fVar 4) (fC (.int 1))) (fPart (fC (.int 1))) fNoPart)))
def t7 : Sq → Fl := (appF 5 (fTup (fCons (callF F__law_z_pick (fCons (fVar 1) (fCons (fLst (fCons (fC (.str "A")) (fCons (fC (.str "_")) (fCons (fC (.str "0")) (fCons (fC (.str " ")) (fCons (fC (.str "~")) (fCons (fC (.str "z1")) fNil))))))) fNil))) (fCons (fTup (fCons (fTup (fCons (fC (.int 0)) fNil)) fNil)) (fCons (fTup (fCons (fC (.int 0)) fNil)) fNil)))))
def t8 : Sq → Fl := (setF 6 (fBin gMulA (fTup (fCons (fC (.int 0)) fNil)) (f1 gLeast (fLst (fCons (fBin gAdd (f1 gLen (fVar 3)) (fC (.int 1))) (fCons (fC (.int 3)) fNil))))))
def t9 : Sq → Fl := (appF 5 (fTup (fCons (fBin gAdd (fSl (fVar 3) fNoPart (fPart (fC (.int 2)))) (callF F__law_z_pick (fCons (fVar 1) (fCons (fLst (fCons (fC (.str "~")) (fCons (fC (.str "{")) (fCons (fC (.str "|")) fNil)))) fNil)))) (fCons (fTup (fCons (fVar 6) fNil)) (fCons (fTup (fCons (fC (.int 0)) fNil)) fNil)))))
def t10 : Sq → Fl := (appF 5 (fTup (fCons (fBin gAdd (callF F__law_z_pick (fCons (fVar 1) (fCons (fLst (fCons (fC (.str "A")) (fCons (fC (.str "Z")) (fCons (fC (.str "_")) (fCons (fC (.str "0")) (fCons (fC (.str " ")) (fCons (fC (.str "Q")) fNil))))))) fNil))) (fSl (fVar 3) fNoPart (fPart (fC (.int 2))))) (fCons (fTup (fCons (fVar 6) fNil)) (fCons (fTup (fCons (fC (.int 0)) fNil)) fNil)))))
def t11_1 : Sq → Fl := (par3D 8 9 10 (fCons (f1 gReprD (fVar 7)) (fCons (callF F__law_z_is_wide (fCons (fVar 7) (fCons (fC (.int 200)) fNil))) (fCons (callF F__law_z_is_machine (fCons (fVar 7) fNil)) fNil))))
def t11_2 : Sq → Fl := (ifF (fB (fBin gNe (f1 gReprD (fLst (fCons (callF F_is_wide (fCons (fVar 7) fNil)) (fCons (callF F_is_machine (fCons (fVar 7) fNil)) fNil)))) (f1 gReprD (fLst (fCons (fVar 9) (fCons (fVar 10) fNil)))))) (retF (fC (.bool false))) nxF)
def t11_3 : Sq → Fl := (ifF (tAndF (tNotF (fB (fVar 9))) (fB (fBin gNe (wordF 3 clL g__law_z_word (callF F_least_of (fCons (fVar 7) fNil))) (fC (.str "wide"))))) (retF (fC (.bool false))) nxF)
def t11_4 : Sq → Fl := (ifF (tAndF (tNotF (fB (fVar 9))) (fB (fBin gNe (wordF 3 clL g__law_z_word (callF F_reads (fCons (fVar 7) (fCons (fC .none) fNil)))) (fC (.str "wide"))))) (retF (fC (.bool false))) nxF)
def t11_5 : Sq → Fl := (ifF (tAndF (tNotF (fB (fVar 9))) (fB (fBin gNe (wordF 3 clL g__law_z_word (callF F_unlike_word (fCons (fBin gIx (fVar 4) (fC (.int 0))) (fCons (fVar 7) fNil)))) (fC (.str "wide"))))) (retF (fC (.bool false))) nxF)
def t11_6 : Sq → Fl := (ifF (tAndF (tNotF (fB (fVar 9))) (fB (fBin gNe (wordF 3 clL g__law_z_word (callF F_unlike_word (fCons (fVar 7) (fCons (fBin gIx (fVar 4) (fC (.int 0))) fNil)))) (fC (.str "wide"))))) (retF (fC (.bool false))) nxF)
def t11_7 : Sq → Fl := (ifF (tAndF (tNotF (fB (fVar 10))) (fB (fBin gNe (wordF 3 clL g__law_z_word (callF F_word_for (fCons (fVar 7) (fCons (fC .none) fNil)))) (fC (.str "machine"))))) (retF (fC (.bool false))) nxF)
def t11_8 : Sq → Fl := (ifF (tAndF (tNotF (fB (fVar 10))) (fB (fBin gNe (wordF 3 clL g__law_z_word (callF F_pieces_of (fCons (fVar 7) fNil))) (fC (.str "machine"))))) (retF (fC (.bool false))) nxF)
def t11_9 : Sq → Fl := (ifF (fB (fBin gNe (f1 gReprD (fVar 7)) (fVar 8))) (retF (fC (.bool false))) nxF)
def gIn11 : Sq → Fl := (seqF t11_1 (seqF t11_2 (seqF t11_3 (seqF t11_4 (seqF t11_5 (seqF t11_6 (seqF t11_7 (seqF t11_8 t11_9))))))))
def t11 : Sq → Fl := (forS (.nm 7) (itF (fVar 5)) gIn11)
def gTurn : Sq → Fl := (seqF t1 (seqF t2 (seqF t3 (seqF t4 (seqF t5 (seqF t6 (seqF t7 (seqF t8 (seqF t9 (seqF t10 t11))))))))))

/-- a value that the law looks at -/
structure ValD (d : D) : Prop where
  ok : okD 422 (10 ^ 32) d = true
  wt : d.weight ≤ 70000
  dp : d.depth ≤ 10
theorem GoodD.val {d : D} (h : GoodD d) : ValD d := ⟨okD_mono (by decide) (by decide) h.ok, Nat.le_trans h.wt (by decide), Nat.le_trans h.dp (by decide)⟩
def lS (a2 a3 a4 a5 a6 a7 a8 a9 a10 : R) (p : Option Pen) : Sq := ⟨[.un, .pen, a2, a3, a4, a5, a6, a7, a8, a9, a10, .un], p⟩
theorem t1_ok {n : Int} {p : Option Pen} {a2 a3 a4 a5 a6 a7 a8 a9 a10 : R} (h : At n p) (hn : n + 400 < 2 ^ 30) :
    ∃ z p', t1 (lS a2 a3 a4 a5 a6 a7 a8 a9 a10 p) = .nx (lS a2 (.d (.str z)) a4 a5 a6 a7 a8 a9 a10 p') ∧ Lets z ∧ At (n + 4) p' := by
  obtain ⟨z, p', r0, e, L, h'⟩ := letters_at h (by omega)
  refine ⟨z, p', ?_, L, h'⟩
  unfold t1 lS
  simp [e]
theorem t2_ok {z : Str} {n : Int} {p : Option Pen} {a2 a4 a5 a6 a7 a8 a9 a10 : R} (L : Lets z) (h : At n p) (hn : n + 800 < 2 ^ 30) :
    ∃ rows ends rows2 ends2 g3 p', t2 (lS a2 (.d (.str z)) a4 a5 a6 a7 a8 a9 a10 p) = .nx (lS a2 (.d (.str z)) (.l [wideD z rows ends, wideD z rows2 ends2, g3]) a5 a6 a7 a8 a9 a10 p') ∧ WideOk z rows ends ∧ WideOk z rows2 ends2 ∧ GoodD g3 ∧ At (n + 121) p' := by
  obtain ⟨rows, ends, p1, r1, e1, w1, h1⟩ := wide_at (z := z) (most := 6) L.size.2 (by decide) (by decide) h (by omega)
  obtain ⟨rows2, ends2, p2, r2, e2, w2, h2⟩ := machine_at L h1 (by omega)
  obtain ⟨g3, p3, r3, e3, w3, h3⟩ := long_at L h2 (by omega)
  refine ⟨rows, ends, rows2, ends2, g3, p3, ?_, w1, w2, w3, h3.mono (by omega)⟩
  unfold t2 lS
  simp [e1, e2, e3, sl_eq]
theorem t3_ok {a3 : R} {gs : List D} {n : Int} {p : Option Pen} {a2 a5 a6 a7 a8 a9 a10 : R} (hl : gs.length = 3) (hg : ∀ d ∈ gs, GoodD d) (h : At n p) (hn : n + 2000 < 2 ^ 30) :
    ∃ vs p', t3 (lS a2 a3 (.l gs) a5 a6 a7 a8 a9 a10 p) = .nx (lS a2 a3 (.l gs) (.l vs) a6 a7 a8 a9 a10 p') ∧ vs.length = 12 ∧ (∀ d ∈ vs, ValD d) ∧ At (n + 400) p' := by
  obtain ⟨S', out, e, b11, p2, rfl, ho, hv, h2⟩ := lcF_inv (t := .nm 11) (tt := yesF) (te := (callF F__law_z_bent (fCons (fVar 1) (fCons (fBin gIx (fVar 4) (fBin gMod (f1 gInt1 (fVar 11)) (fC (.int 3)))) fNil)))) (vs := [11]) (ds := rngD 0 9)
    (P := fun i S acc => ∃ (b11 : R) (p' : Option Pen), S = ⟨[.un, .pen, a2, a3, .l gs, a5, a6, a7, a8, a9, a10, b11], p'⟩ ∧ acc.length = i ∧ (∀ d ∈ acc, ValD d) ∧ At (n + 40 * i) p')
    (S := ⟨[.un, .pen, a2, a3, .l gs, a5, a6, a7, a8, a9, a10, .un], p⟩) (acc := []) 0 (by rw [rngD_len, sl_eq]; decide) ⟨.un, p, rfl, rfl, by simp, by simpa using h⟩ (by
      rintro i d S acc hd ⟨b11, p1, rfl, hl1, hv, h1⟩
      obtain ⟨hi, rfl⟩ := rngD_get hd
      rw [Nat.zero_add] at h1 hl1
      refine ⟨⟨[.un, .pen, a2, a3, .l gs, a5, a6, a7, a8, a9, a10, .d (.int (0 + (i : Nat)))], p1⟩, by simp [wipeR], true, _, rfl, (fun q => by cases q), fun _ => ?_⟩
      obtain ⟨k, hk, ek⟩ : ∃ k : Nat, k < 3 ∧ ((i : Nat) : Int) % 3 = (k : Nat) := ⟨i % 3, by omega, by omega⟩
      have hk2 : k < gs.length := by omega
      have ea : atI gs ((k : Nat) : Int) = some gs[k] := by
        unfold atI ixN
        simp [hk2]
      have hgk := hg _ (List.getElem_mem hk2)
      obtain ⟨y, p3, r3, e3, hb, h3⟩ := bent_all (n := 201) (by decide) 8 gs[k] (n + 40 * i) p1 hgk.ok hgk.pl (by have := hgk.dp; omega) h1 (by omega)
      have e3 : F__law_z_bent [.pen, .d gs[k]] p1 = .ok (.d y) ⟨r3, p3⟩ := e3
      refine ⟨.v y, ⟨[.un, .pen, a2, a3, .l gs, a5, a6, a7, a8, a9, a10, .d (.int (0 + (i : Nat)))], p3⟩, y, ⟨[.un, .pen, a2, a3, .l gs, a5, a6, a7, a8, a9, a10, .d (.int (0 + (i : Nat)))], p3⟩, by simp [ek, ea, e3], rfl, _, p3, rfl, by simp; omega, fun d hd => ?_, h3.mono (by omega)⟩
      rcases List.mem_append.mp hd with hd | hd
      · exact hv d hd
      · rw [List.mem_singleton.mp hd]
        have a1 := hb.wt
        have a2 := hb.dp
        have a3 := hgk.wt
        have a4 := hgk.dp
        exact ⟨hb.ok, by omega, by omega⟩)
  have ho2 : out.length = 9 := by simpa using ho
  have fit : plainAt ⟨[.un, .pen, a2, a3, .l gs, a5, a6, a7, a8, a9, a10, .un], p⟩ [11] = true := rfl
  have w : wipeR [R.un, .pen, a2, a3, .l gs, a5, a6, a7, a8, a9, a10, .un] [11] = [.un, .pen, a2, a3, .l gs, a5, a6, a7, a8, a9, a10, .un] := rfl
  have k9 : Rng62 9 := rng62 (by decide) (by decide)
  have s0 : rng1F (fC (.int 9)) ⟨[.un, .pen, a2, a3, .l gs, a5, a6, a7, a8, a9, a10, .un], p⟩ = .ok (rngD 0 9) ⟨[.un, .pen, a2, a3, .l gs, a5, a6, a7, a8, a9, a10, .un], p⟩ := by simp [k9]
  have s2 : lcS (.nm 11) (rng1F (fC (.int 9))) yesF (callF F__law_z_bent (fCons (fVar 1) (fCons (fBin gIx (fVar 4) (fBin gMod (f1 gInt1 (fVar 11)) (fC (.int 3)))) fNil))) [11] ⟨[.un, .pen, a2, a3, .l gs, a5, a6, a7, a8, a9, a10, .un], p⟩ = .ok (.o (.l out)) ⟨[.un, .pen, a2, a3, .l gs, a5, a6, a7, a8, a9, a10, .un], p2⟩ := by
    rw [ev_lc, s0, lc1_ok, if_pos fit, w, e, lc3_ok]
    rfl
  refine ⟨gs ++ out, p2, ?_, by rw [List.length_append, hl, ho2], fun d hd => ?_, h2.mono (by simp)⟩
  · unfold t3 lS
    have q : gs.length + out.length ≤ sizeLine := by rw [sl_eq]; omega
    have v4 : fVar 4 ⟨[.un, .pen, a2, a3, .l gs, a5, a6, a7, a8, a9, a10, .un], p⟩ = .ok (.s 4) ⟨[.un, .pen, a2, a3, .l gs, a5, a6, a7, a8, a9, a10, .un], p⟩ := by simp
    rw [ev_set, ev_bin, v4, bin1_ok, s2, bin2_ok]
    simp [q]
  · rcases List.mem_append.mp hd with hd | hd
    · exact (hg d hd).val
    · exact hv d hd
/-! ### the values by hand -/
theorem app_at {x : D} {fa : Sq → Out PV} {vs : List D} {a2 a3 a4 a6 a7 a8 a9 a10 : R} {p p' : Option Pen} (hl : vs.length < 1000) (h : fa (lS a2 a3 a4 (.l vs) a6 a7 a8 a9 a10 p) = .ok (.v x) (lS a2 a3 a4 (.l vs) a6 a7 a8 a9 a10 p')) : appF 5 fa (lS a2 a3 a4 (.l vs) a6 a7 a8 a9 a10 p) = .nx (lS a2 a3 a4 (.l (vs ++ [x])) a6 a7 a8 a9 a10 p') := by
  have q : vs.length < sizeLine := by rw [sl_eq]; omega
  rw [ev_app, if_pos (by rfl), h, app1_ok]
  unfold lS
  simp [q]
theorem sl_g {S : Sq} {fa : Sq → Out PV} {pv : PV} {xs : List D} {fl fh : Sq → Out (Option Int)} {lo hi : Option Int} (h : fa S = .ok pv S) (hv : S.val (fz pv) = some (.tuple xs)) (h2 : fl S = .ok lo S) (h3 : fh S = .ok hi S) : fSl fa fl fh S = .ok (.v (.tuple (cutG xs lo hi))) S := by
  unfold fSl fzF
  simp only [h, Out.bind_ok, h2, h3, hv]
  rfl
theorem sl_str_ok {S : Sq} {fa : Sq → Out PV} {pv : PV} {z : Str} {fl fh : Sq → Out (Option Int)} {lo hi : Option Int} (h : fa S = .ok pv S) (hv : S.val (fz pv) = some (.str z)) (h2 : fl S = .ok lo S) (h3 : fh S = .ok hi S) (hz : z.length ≤ sizeLine) : fSl fa fl fh S = .ok (.v (.str (cutS z lo hi))) S := by
  unfold fSl fzF
  simp only [h, Out.bind_ok, h2, h3, hv, gSl, hz, if_true]
theorem m0_at {T : String} {g : D → Option PV} {fa : Sq → Out PV} {S : Sq} {p z : PV} {x : D} (h1 : fa S = .ok p S) (h2 : S.val (fz p) = some x) (h3 : tyOk T (some x) = true) (h4 : g x = some z) : fM0 T g fa S = .ok z S := by
  unfold fM0 fzF
  simp only [h1, Out.bind_ok, h2, h3, h4, if_true]
/-- letters that may be other signs -/
def TxtB (t : Str) : Prop := t.cps.size ≤ 20 ∧ ∀ c ∈ t.cps.toList, c < 128
theorem TxtB.app {a b : Str} (h : TxtB a) (k : TxtB b) (hs : a.cps.size + b.cps.size ≤ 20) : TxtB (a ++ b) := by
  refine ⟨by show (a ++ b).length ≤ 20; rw [len_app]; exact hs, fun c m => ?_⟩
  have m : c ∈ (a.cps ++ b.cps).toList := m
  rw [Array.toList_append] at m
  rcases List.mem_append.mp m with m | m
  · exact h.2 c m
  · exact k.2 c m
theorem TxtB.lets {z : Str} (L : Lets z) : TxtB z := ⟨by have := L.size.2; omega, fun c m => by
  obtain ⟨cs, rfl, up, l1, l3, hc⟩ := L
  have := hc c (by simpa using m)
  omega⟩
theorem mem_cut {z : Str} {lo hi : Option Int} {c : Nat} (m : c ∈ (cutS z lo hi).cps.toList) : c ∈ z.cps.toList := by
  unfold cutS at m
  exact List.mem_of_mem_drop (List.mem_of_mem_take m)
theorem TxtB.cut {z : Str} (h : TxtB z) (lo hi : Option Int) : TxtB (cutS z lo hi) := ⟨by have := cutS_length z lo hi; have e : (cutS z lo hi).cps.size = (cutS z lo hi).length := rfl; have e2 : z.cps.size = z.length := rfl; have := h.1; omega, fun c m => h.2 c (mem_cut m)⟩
theorem TxtB.rev {z : Str} (h : TxtB z) : TxtB (revS z) := ⟨by unfold revS; simp; exact h.1, fun c m => h.2 c (by unfold revS at m; simpa using m)⟩
theorem val_of {t : Str} {b c : D} (h : TxtB t) (hb : okD 422 (10 ^ 32) b = true) (hc : okD 422 (10 ^ 32) c = true) (wb : b.weight ≤ 30000) (wc : c.weight ≤ 30000) (db : b.depth ≤ 8) (dc : c.depth ≤ 8) : ValD (.tuple [.str t, b, c]) := by
  refine ⟨ok_tuple (by simp) ?_, ?_, ?_⟩
  · intro x m
    simp only [List.mem_cons, List.not_mem_nil, or_false] at m
    rcases m with rfl | rfl | rfl
    · rw [okD, Bool.and_eq_true, decide_eq_true_eq]
      exact ⟨Nat.le_trans h.1 (by decide), List.all_eq_true.mpr fun c m => decide_eq_true (h.2 c m)⟩
    · exact hb
    · exact hc
  · have := h.1
    rw [PyData.weight, PyData.weightAll, PyData.weightAll, PyData.weightAll, PyData.weightAll, PyData.weight]
    omega
  · have := dp_tuple (k := 8) (xs := [.str t, b, c]) (by
      intro x m
      simp only [List.mem_cons, List.not_mem_nil, or_false] at m
      rcases m with rfl | rfl | rfl
      · show 0 ≤ 8; omega
      · exact db
      · exact dc)
    omega
/-- the second and third part of a good one -/
theorem GoodD.parts {z : Str} {b c : D} (h : GoodD (.tuple [.str z, b, c])) : okD 422 (10 ^ 32) b = true ∧ okD 422 (10 ^ 32) c = true ∧ b.weight ≤ 30000 ∧ c.weight ≤ 30000 ∧ b.depth ≤ 8 ∧ c.depth ≤ 8 := by
  have a := (okD_tup h.ok).2
  have w := h.wt
  have d := h.dp
  rw [PyData.weight, PyData.weightAll, PyData.weightAll, PyData.weightAll, PyData.weightAll] at w
  rw [PyData.depth] at d
  have dd := dp_all.mp (Nat.le_of_succ_le_succ d)
  have d1 := dd b (by simp)
  have d2 := dd c (by simp)
  exact ⟨okD_mono (by decide) (by decide) (a b (by simp)), okD_mono (by decide) (by decide) (a c (by simp)), by omega, by omega, by omega, by omega⟩
end Q3
namespace Q3
open PySem PySem.Spec PyProof.Rows L2
theorem upper_one (c : Nat) (h0 : 97 ≤ c) (h1 : c ≤ 122) : Unicode.upperOf c = [c - 32] := by
  have key : ∀ n : Fin 26, Unicode.upperOf (97 + (n : Nat)) = [97 + (n : Nat) - 32] := by decide +kernel
  have := key ⟨c - 97, by omega⟩
  rw [show 97 + (c - 97) = c by omega] at this
  exact this
theorem upper_appQ (a b : Str) : Txt.upper (a ++ b) = Txt.upper a ++ Txt.upper b := by
  have e : placed (a ++ b) (fun _ c => Unicode.upperOf c) = placed a (fun _ c => Unicode.upperOf c) ++ placed b (fun _ c => Unicode.upperOf c) := by
    unfold placed
    rw [PySem.Str.cps_append, Array.mapIdx_append, Array.flatten_append]
  exact congrArg Str.mk e
theorem upper_sing (c : Nat) : Txt.upper ⟨#[c]⟩ = ⟨(Unicode.upperOf c).toArray⟩ := by
  unfold Txt.upper placed
  simp
theorem upper_cs : ∀ l : List Nat, (∀ c ∈ l, 97 ≤ c ∧ c ≤ 122) → Txt.upper ⟨l.toArray⟩ = ⟨(l.map (· - 32)).toArray⟩
  | [], _ => rfl
  | c :: l, h => by
    have e : (⟨(c :: l).toArray⟩ : Str) = ⟨#[c]⟩ ++ ⟨l.toArray⟩ := (app_one c l).symm
    have hc := h c List.mem_cons_self
    rw [e, upper_appQ, upper_sing, upper_one c hc.1 hc.2, upper_cs l fun d m => h d (List.mem_cons_of_mem _ m)]
    show (⟨#[c - 32]⟩ : Str) ++ ⟨(l.map (· - 32)).toArray⟩ = _
    rw [app_one]
    rfl

theorem TxtB.up {z : Str} (L : Lets z) : TxtB (Txt.upper z) := by
  obtain ⟨cs, rfl, up, l1, l3, hc⟩ := L
  rw [upper_cs cs hc]
  refine ⟨by simp; omega, fun c m => ?_⟩
  have m : c ∈ cs.map (· - 32) := m
  obtain ⟨b, mb, rfl⟩ := List.mem_map.mp m
  have := hc b mb
  omega
section
variable {z : Str} {rows rows2 : List (List (Option Nat))} {ends ends2 : List Nat} {g3 : D} {n : Int} {p : Option Pen} {vs : List D} {a2 a6 a7 a8 a9 a10 : R}
/-- the state with the letters, the good ones, the values -/
abbrev vS (z : Str) (rows : List (List (Option Nat))) (ends : List Nat) (rows2 : List (List (Option Nat))) (ends2 : List Nat) (g3 : D) (vs : List D) (a2 a6 a7 a8 a9 a10 : R) (p : Option Pen) : Sq := lS a2 (.d (.str z)) (.l [wideD z rows ends, wideD z rows2 ends2, g3]) (.l vs) a6 a7 a8 a9 a10 p
def rowsD (rows : List (List (Option Nat))) : D := .tuple (rows.map rowD)
def endsD (ends : List Nat) : D := .tuple (ends.map fun n => .int (n : Nat))
theorem rest_ev : fSl (fBin gIx (fVar 4) (fC (.int 1))) (fPart (fC (.int 1))) fNoPart (vS z rows ends rows2 ends2 g3 vs a2 a6 a7 a8 a9 a10 p) = .ok (.v (.tuple [rowsD rows2, endsD ends2])) (vS z rows ends rows2 ends2 g3 vs a2 a6 a7 a8 a9 a10 p) := by
  have x1 : atI [wideD z rows ends, wideD z rows2 ends2, g3] 1 = some (wideD z rows2 ends2) := rfl
  have q := sl_g (S := vS z rows ends rows2 ends2 g3 vs a2 a6 a7 a8 a9 a10 p) (fa := fBin gIx (fVar 4) (fC (.int 1))) (pv := .v (wideD z rows2 ends2)) (xs := [.str z, rowsD rows2, endsD ends2]) (fl := fPart (fC (.int 1))) (fh := fNoPart) (by unfold vS lS; simp [x1]) rfl (part_at (p := .v (.int 1)) (i := 1) rfl rfl) (nopart_ok _)
  rw [q]
  have e : cutG [PyData.str z, rowsD rows2, endsD ends2] (some (1 : Int)) none = [rowsD rows2, endsD ends2] := cut_drop (xs := [PyData.str z, rowsD rows2, endsD ends2]) (k := 1) (by simp)
  rw [e]
theorem cat_ev {t : Str} {fa : Sq → Out PV} (h : fa (vS z rows ends rows2 ends2 g3 vs a2 a6 a7 a8 a9 a10 p) = .ok (.v (.str t)) (vS z rows ends rows2 ends2 g3 vs a2 a6 a7 a8 a9 a10 p)) :
    fBin gAdd (fTup (fCons fa fNil)) (fSl (fBin gIx (fVar 4) (fC (.int 1))) (fPart (fC (.int 1))) fNoPart) (vS z rows ends rows2 ends2 g3 vs a2 a6 a7 a8 a9 a10 p) = .ok (.v (.tuple [.str t, rowsD rows2, endsD ends2])) (vS z rows ends rows2 ends2 g3 vs a2 a6 a7 a8 a9 a10 p) := by
  have e1 : fTup (fCons fa fNil) (vS z rows ends rows2 ends2 g3 vs a2 a6 a7 a8 a9 a10 p) = .ok (.v (.tuple [.str t])) (vS z rows ends rows2 ends2 g3 vs a2 a6 a7 a8 a9 a10 p) := by
    rw [ev_tup, ev_cons, h]
    simp [sl_eq]
  rw [ev_bin, e1, bin1_ok, rest_ev, bin2_ok, fz_v, val_v, fz_v, val_v, bin3_ok, add_t, if_pos (by rw [sl_eq]; simp), bin4_ok]
  rfl
theorem t4_ok (L : Lets z) (w2 : WideOk z rows2 ends2) (hl : vs.length < 100) : ∃ d, t4 (vS z rows ends rows2 ends2 g3 vs a2 a6 a7 a8 a9 a10 p) = .nx (vS z rows ends rows2 ends2 g3 (vs ++ [d]) a2 a6 a7 a8 a9 a10 p) ∧ ValD d := by
  obtain ⟨h1, h2, h3, h4, h5, h6⟩ := (good_wide L w2).parts
  have hz := L.size.2
  refine ⟨_, app_at (by omega) (cat_ev (t := Txt.upper z) (m0_at (p := .s 3) (x := .str z) (by unfold vS lS; simp) (by unfold vS lS; simp) rfl (by simp only [gUpper]; rw [if_pos (by have : z.cps.size = z.length := rfl; omega)]))), val_of (.up L) h1 h2 h3 h4 h5 h6⟩
theorem t5_ok (L : Lets z) (w2 : WideOk z rows2 ends2) (hl : vs.length < 100) : ∃ d, t5 (vS z rows ends rows2 ends2 g3 vs a2 a6 a7 a8 a9 a10 p) = .nx (vS z rows ends rows2 ends2 g3 (vs ++ [d]) a2 a6 a7 a8 a9 a10 p) ∧ ValD d := by
  obtain ⟨h1, h2, h3, h4, h5, h6⟩ := (good_wide L w2).parts
  have hz := L.size.2
  have hzl : z.length ≤ 3 := hz
  have c1 := cutS_length z none (some (1 : Int))
  have r1 : (revS z).length = z.length := by show z.cps.toList.reverse.toArray.size = z.cps.size; simp
  have q : z.length ≤ sizeLine := by rw [sl_eq]; omega
  have e1 : fSl (fVar 3) fNoPart (fPart (fC (.int 1))) (vS z rows ends rows2 ends2 g3 vs a2 a6 a7 a8 a9 a10 p) = .ok (.v (.str (cutS z none (some 1)))) (vS z rows ends rows2 ends2 g3 vs a2 a6 a7 a8 a9 a10 p) :=
    sl_str_ok (pv := .s 3) (z := z) (by unfold vS lS; simp) (by unfold vS lS; simp) (nopart_ok _) (part_at (p := .v (.int 1)) (i := 1) rfl rfl) q
  have e2 : f1 gRev (fVar 3) (vS z rows ends rows2 ends2 g3 vs a2 a6 a7 a8 a9 a10 p) = .ok (.v (.str (revS z))) (vS z rows ends rows2 ends2 g3 vs a2 a6 a7 a8 a9 a10 p) := by
    unfold vS lS
    simp [gRev, q]
  have e3 : fBin gAdd (f1 gRev (fVar 3)) (fSl (fVar 3) fNoPart (fPart (fC (.int 1)))) (vS z rows ends rows2 ends2 g3 vs a2 a6 a7 a8 a9 a10 p) = .ok (.v (.str (revS z ++ cutS z none (some 1)))) (vS z rows ends rows2 ends2 g3 vs a2 a6 a7 a8 a9 a10 p) := by
    rw [ev_bin, e2, bin1_ok, e1, bin2_ok, fz_v, val_v, fz_v, val_v, bin3_ok, add_s, if_pos (by rw [sl_eq]; omega), bin4_ok]
  refine ⟨_, app_at (by omega) (cat_ev e3), val_of ((TxtB.lets L).rev.app ((TxtB.lets L).cut _ _) (by show (revS z).length + (cutS z none (some 1)).length ≤ 20; omega)) h1 h2 h3 h4 h5 h6⟩
theorem txt_lit {t : Str} (h : t.cps.toList.all (fun c => decide (c < 128)) = true) (hs : t.cps.size ≤ 20) : TxtB t := ⟨hs, fun c m => of_decide_eq_true (List.all_eq_true.mp h c m)⟩
theorem t6_ok (L : Lets z) (w2 : WideOk z rows2 ends2) (hl : vs.length < 100) : ∃ d, t6 (vS z rows ends rows2 ends2 g3 vs a2 a6 a7 a8 a9 a10 p) = .nx (vS z rows ends rows2 ends2 g3 (vs ++ [d]) a2 a6 a7 a8 a9 a10 p) ∧ ValD d := by
  obtain ⟨h1, h2, h3, h4, h5, h6⟩ := (good_wide L w2).parts
  have hz := L.size.2
  have hzl : z.length ≤ 3 := hz
  have l0 : (Str.ofString "0").length = 1 := by decide +kernel
  have e3 : fBin gAdd (fVar 3) (fC (.str "0")) (vS z rows ends rows2 ends2 g3 vs a2 a6 a7 a8 a9 a10 p) = .ok (.v (.str (z ++ Str.ofString "0"))) (vS z rows ends rows2 ends2 g3 vs a2 a6 a7 a8 a9 a10 p) := by
    have q : z.length + 1 ≤ 16777216 := by omega
    unfold vS lS
    simp [sl_eq, l0, q]
  refine ⟨_, app_at (by omega) (cat_ev e3), val_of ((TxtB.lets L).app (txt_lit (by decide +kernel) (by decide +kernel)) (by show z.length + (Str.ofString "0").length ≤ 20; omega)) h1 h2 h3 h4 h5 h6⟩
theorem small_ok {t : Str} {b c : D} (h : TxtB t) (hb : okD 3 1 b = true ∧ b.weight ≤ 100 ∧ b.depth ≤ 3) (hc : okD 3 1 c = true ∧ c.weight ≤ 100 ∧ c.depth ≤ 3) : ValD (.tuple [.str t, b, c]) :=
  val_of h (okD_mono (by decide) (by decide) hb.1) (okD_mono (by decide) (by decide) hc.1) (by omega) (by omega) (by omega) (by omega)
theorem t7_ok (h : At n p) (hn : n + 2000 < 2 ^ 30) (hl : vs.length < 100) : ∃ d p', t7 (vS z rows ends rows2 ends2 g3 vs a2 a6 a7 a8 a9 a10 p) = .nx (vS z rows ends rows2 ends2 g3 (vs ++ [d]) a2 a6 a7 a8 a9 a10 p') ∧ ValD d ∧ At (n + 1) p' := by
  obtain ⟨x, p1, r1, e1, mx, h1⟩ := pick_at (xs := [.str "A", .str "_", .str "0", .str " ", .str "~", .str "z1"]) h (by omega) (by simp) (by simp)
  obtain ⟨t, rfl, ht⟩ : ∃ t, x = .str t ∧ TxtB t := by
    simp only [List.mem_cons, List.not_mem_nil, or_false] at mx
    rcases mx with rfl | rfl | rfl | rfl | rfl | rfl <;> exact ⟨_, rfl, txt_lit (by decide +kernel) (by decide +kernel)⟩
  refine ⟨.tuple [.str t, .tuple [.tuple [.int 0]], .tuple [.int 0]], p1, app_at (by omega) ?_, small_ok ht (by decide +kernel) (by decide +kernel), h1⟩
  unfold lS
  simp [e1, sl_eq]
theorem mulA_tt (xs : List D) (j : Int) : gMulA (.tuple xs) (.int j) = if -1000 ≤ j ∧ j ≤ 1000 ∧ xs.length ≤ 1000 then some (.v (.tuple (List.replicate j.toNat xs).flatten)) else none := rfl
theorem least2 (a b : Int) : gLeast (.list [.int a, .int b]) = some (.v (.int (min a b))) := rfl
theorem t8_ok (L : Lets z) : ∃ zs : List D, t8 (vS z rows ends rows2 ends2 g3 vs a2 a6 a7 a8 a9 a10 p) = .nx (vS z rows ends rows2 ends2 g3 vs a2 (.d (.tuple zs)) a7 a8 a9 a10 p) ∧ okD 3 1 (.tuple [.tuple zs]) = true ∧ (PyData.tuple [.tuple zs]).weight ≤ 100 ∧ (PyData.tuple [.tuple zs]).depth ≤ 3 := by
  obtain ⟨hz1, hz⟩ := L.size
  have hzl : (z.length : Int) = 1 ∨ (z.length : Int) = 2 ∨ (z.length : Int) = 3 := by have : z.cps.size = z.length := rfl; omega
  have q : z.length ≤ 16777216 := by have : z.cps.size = z.length := rfl; omega
  have e1 : f1 gLeast (fLst (fCons (fBin gAdd (f1 gLen (fVar 3)) (fC (.int 1))) (fCons (fC (.int 3)) fNil))) (vS z rows ends rows2 ends2 g3 vs a2 a6 a7 a8 a9 a10 p) = .ok (.v (.int (min ((z.length : Int) + 1) 3))) (vS z rows ends rows2 ends2 g3 vs a2 a6 a7 a8 a9 a10 p) := by
    unfold vS lS
    simp [sl_eq, q, least2]
  have e2 : ∀ m : Int, min ((z.length : Int) + 1) 3 = m → (m = 2 ∨ m = 3) → t8 (vS z rows ends rows2 ends2 g3 vs a2 a6 a7 a8 a9 a10 p) = .nx (vS z rows ends rows2 ends2 g3 vs a2 (.d (.tuple (List.replicate m.toNat [PyData.int 0]).flatten)) a7 a8 a9 a10 p) := fun m em hm => by
    have e0 : fTup (fCons (fC (.int 0)) fNil) (vS z rows ends rows2 ends2 g3 vs a2 a6 a7 a8 a9 a10 p) = .ok (.v (.tuple [.int 0])) (vS z rows ends rows2 ends2 g3 vs a2 a6 a7 a8 a9 a10 p) := by
      simp [sl_eq]
    unfold t8
    rw [ev_set, ev_bin, e0, bin1_ok, e1, em, bin2_ok, fz_v, val_v, fz_v, val_v, bin3_ok, mulA_tt, if_pos (by rcases hm with rfl | rfl <;> decide), bin4_ok]
    unfold vS lS
    simp
  rcases hzl with e | e | e
  · exact ⟨_, e2 2 (by rw [e]; decide) (.inl rfl), by decide +kernel⟩
  · exact ⟨_, e2 3 (by rw [e]; decide) (.inr rfl), by decide +kernel⟩
  · exact ⟨_, e2 3 (by rw [e]; decide) (.inr rfl), by decide +kernel⟩
theorem t9_ok {zs : List D} (L : Lets z) (hzs : okD 3 1 (.tuple [.tuple zs]) = true ∧ (PyData.tuple [.tuple zs]).weight ≤ 100 ∧ (PyData.tuple [.tuple zs]).depth ≤ 3) (h : At n p) (hn : n + 2000 < 2 ^ 30) (hl : vs.length < 100) :
    ∃ d p', t9 (vS z rows ends rows2 ends2 g3 vs a2 (.d (.tuple zs)) a7 a8 a9 a10 p) = .nx (vS z rows ends rows2 ends2 g3 (vs ++ [d]) a2 (.d (.tuple zs)) a7 a8 a9 a10 p') ∧ ValD d ∧ At (n + 1) p' := by
  have hzl : z.length ≤ 3 := L.size.2
  obtain ⟨x, p1, r1, e1, mx, h1⟩ := pick_at (xs := [.str "~", .str "{", .str "|"]) h (by omega) (by simp) (by simp)
  obtain ⟨t, rfl, ht, lt⟩ : ∃ t, x = .str t ∧ TxtB t ∧ t.length = 1 := by
    simp only [List.mem_cons, List.not_mem_nil, or_false] at mx
    rcases mx with rfl | rfl | rfl <;> exact ⟨_, rfl, txt_lit (by decide +kernel) (by decide +kernel), by decide +kernel⟩
  have c1 := cutS_length z none (some (2 : Int))
  have q : z.length ≤ sizeLine := by rw [sl_eq]; omega
  have e2 : fSl (fVar 3) fNoPart (fPart (fC (.int 2))) (vS z rows ends rows2 ends2 g3 vs a2 (.d (.tuple zs)) a7 a8 a9 a10 p) = .ok (.v (.str (cutS z none (some 2)))) (vS z rows ends rows2 ends2 g3 vs a2 (.d (.tuple zs)) a7 a8 a9 a10 p) :=
    sl_str_ok (pv := .s 3) (z := z) (by unfold vS lS; simp) (by unfold vS lS; simp) (nopart_ok _) (part_at (p := .v (.int 2)) (i := 2) rfl rfl) q
  have q2 : (cutS z none (some 2)).length + 1 ≤ 16777216 := by omega
  refine ⟨.tuple [.str (cutS z none (some 2) ++ t), .tuple [.tuple zs], .tuple [.int 0]], p1, app_at (by omega) ?_, small_ok (((TxtB.lets L).cut _ _).app ht (by show (cutS z none (some 2)).length + t.length ≤ 20; omega)) hzs (by decide +kernel), h1⟩
  rw [ev_tup, ev_cons, ev_bin, e2, bin1_ok]
  unfold vS lS
  simp [e1, sl_eq, lt, q2]
theorem t10_ok {zs : List D} (L : Lets z) (hzs : okD 3 1 (.tuple [.tuple zs]) = true ∧ (PyData.tuple [.tuple zs]).weight ≤ 100 ∧ (PyData.tuple [.tuple zs]).depth ≤ 3) (h : At n p) (hn : n + 2000 < 2 ^ 30) (hl : vs.length < 100) :
    ∃ d p', t10 (vS z rows ends rows2 ends2 g3 vs a2 (.d (.tuple zs)) a7 a8 a9 a10 p) = .nx (vS z rows ends rows2 ends2 g3 (vs ++ [d]) a2 (.d (.tuple zs)) a7 a8 a9 a10 p') ∧ ValD d ∧ At (n + 1) p' := by
  have hzl : z.length ≤ 3 := L.size.2
  obtain ⟨x, p1, r1, e1, mx, h1⟩ := pick_at (xs := [.str "A", .str "Z", .str "_", .str "0", .str " ", .str "Q"]) h (by omega) (by simp) (by simp)
  obtain ⟨t, rfl, ht, lt⟩ : ∃ t, x = .str t ∧ TxtB t ∧ t.length = 1 := by
    simp only [List.mem_cons, List.not_mem_nil, or_false] at mx
    rcases mx with rfl | rfl | rfl | rfl | rfl | rfl <;> exact ⟨_, rfl, txt_lit (by decide +kernel) (by decide +kernel), by decide +kernel⟩
  have c1 := cutS_length z none (some (2 : Int))
  have q : z.length ≤ sizeLine := by rw [sl_eq]; omega
  have e2 : fSl (fVar 3) fNoPart (fPart (fC (.int 2))) (vS z rows ends rows2 ends2 g3 vs a2 (.d (.tuple zs)) a7 a8 a9 a10 p1) = .ok (.v (.str (cutS z none (some 2)))) (vS z rows ends rows2 ends2 g3 vs a2 (.d (.tuple zs)) a7 a8 a9 a10 p1) :=
    sl_str_ok (pv := .s 3) (z := z) (by unfold vS lS; simp) (by unfold vS lS; simp) (nopart_ok _) (part_at (p := .v (.int 2)) (i := 2) rfl rfl) q
  have q2 : 1 + (cutS z none (some 2)).length ≤ 16777216 := by omega
  have e3 : callF F__law_z_pick (fCons (fVar 1) (fCons (fLst (fCons (fC (.str "A")) (fCons (fC (.str "Z")) (fCons (fC (.str "_")) (fCons (fC (.str "0")) (fCons (fC (.str " ")) (fCons (fC (.str "Q")) fNil))))))) fNil)) (vS z rows ends rows2 ends2 g3 vs a2 (.d (.tuple zs)) a7 a8 a9 a10 p) = .ok (.v (.str t)) (vS z rows ends rows2 ends2 g3 vs a2 (.d (.tuple zs)) a7 a8 a9 a10 p1) := by
    unfold vS lS
    simp [e1, sl_eq]
  refine ⟨.tuple [.str (t ++ cutS z none (some 2)), .tuple [.tuple zs], .tuple [.int 0]], p1, app_at (by omega) ?_, small_ok (ht.app ((TxtB.lets L).cut _ _) (by show t.length + (cutS z none (some 2)).length ≤ 20; omega)) hzs (by decide +kernel), h1⟩
  rw [ev_tup, ev_cons, ev_bin, e3, bin1_ok, e2]
  unfold vS lS
  simp [sl_eq, lt, q2]
end
end Q3
namespace Q3
open PySem PySem.Spec PyProof.Rows L2
/-! ### a look at one value -/
def wS (a2 a3 : R) (g1 g2 g3 : D) (vs : List D) (a6 : R) (d : D) (p : Option Pen) (a8 a9 a10 : R) : Sq := ⟨[.un, .pen, a2, a3, .l [g1, g2, g3], .d (.list vs), a6, .d d, a8, a9, a10, .un], p⟩
theorem two_bools (a b : Bool) : gReprD (.list [.bool a, .bool b]) = some (.v (.str (PyData.list [.bool a, .bool b]).shown)) :=
  repr_ok (n := 4) (by cases a <;> cases b <;> decide +kernel) (by cases a <;> cases b <;> decide +kernel) (by cases a <;> cases b <;> decide +kernel)
theorem ck {S S1 : Sq} {i : Nat} {b : Bool} {c w : Str} {fE : Sq → Out PV} (hi : S.r[i]? = some (.d (.bool b))) (hw : ∀ p, ∃ r0, g__law_z_word ⟨wFr 3 (.e c), p⟩ = .rt (.d (.str w)) ⟨r0, p⟩) (hc : c ∈ clL) (h : b = false → fE S = .ex c S1 ∧ S1 = S) :
    ifF (tAndF (tNotF (fB (fVar i))) (fB (fBin gNe (wordF 3 clL g__law_z_word fE) (fC (.str w))))) (retF (fC (.bool false))) nxF S = .nx S := by
  have t : tNotF (fB (fVar i)) S = .ok (!b) S := by simp [hi]
  cases b with
  | true =>
    rw [ev_if, ev_and, t]
    rfl
  | false =>
    obtain ⟨e, rfl⟩ := h rfl
    obtain ⟨r0, e2⟩ := hw S1.p
    have q := wordF_ex (cl := clL) e hc e2
    rw [ev_if, ev_and, t, and1_ok, if_pos (show (!false) = true from rfl), ev_fB, ev_bin, q]
    simp
theorem in_ok {a2 a3 a6 a8 a9 a10 : R} {z : Str} {rows : List (List (Option Nat))} {ends : List Nat} {g2 g3 d : D} {vs : List D} {p : Option Pen} (L : Lets z) (w : WideOk z rows ends) (hd : ValD d) :
    ∃ b8 b9 b10, gIn11 (wS a2 a3 (wideD z rows ends) g2 g3 vs a6 d p a8 a9 a10) = .nx (wS a2 a3 (wideD z rows ends) g2 g3 vs a6 d p b8 b9 b10) := by
  have hn : (422 : Nat) ≤ 4000 := by decide
  have er : gReprD d = some (.v (.str d.shown)) := repr_ok hd.ok (by have := hd.wt; omega) (by have := hd.dp; omega)
  obtain ⟨r1, e1⟩ := z_wideOf_d (p := p) hn hd.ok 200
  obtain ⟨r2, e2⟩ := z_mach_d (p := p) hn hd.ok
  obtain ⟨r3, e3⟩ := wide_d (p := p) hn hd.ok
  obtain ⟨r4, e4⟩ := mach_d (p := p) hn hd.ok
  have er2 := two_bools (wideB 200 d) (machB d)
  obtain ⟨b9, h9⟩ : ∃ b, b = wideB 200 d := ⟨_, rfl⟩
  obtain ⟨b10, h10⟩ : ∃ b, b = machB d := ⟨_, rfl⟩
  rw [← h9] at e1 e3 er2
  rw [← h10] at e2 e4 er2
  have x0 : atI [wideD z rows ends, g2, g3] 0 = some (wideD z rows ends) := rfl
  obtain ⟨r5, e5⟩ := need_wide_ok (p := p) L w
  have s1 : t11_1 (wS a2 a3 (wideD z rows ends) g2 g3 vs a6 d p a8 a9 a10) = .nx (wS a2 a3 (wideD z rows ends) g2 g3 vs a6 d p (.d (.str d.shown)) (.d (.bool b9)) (.d (.bool b10))) := by
    letI : TabSet := ⟨[]⟩
    unfold t11_1 wS
    simp [er, e1, e2]
  have s2 : t11_2 (wS a2 a3 (wideD z rows ends) g2 g3 vs a6 d p (.d (.str d.shown)) (.d (.bool b9)) (.d (.bool b10))) = .nx (wS a2 a3 (wideD z rows ends) g2 g3 vs a6 d p (.d (.str d.shown)) (.d (.bool b9)) (.d (.bool b10))) := by
    unfold t11_2 wS
    simp [e3, e4, er2, sl_eq]
  have s3 : t11_3 (wS a2 a3 (wideD z rows ends) g2 g3 vs a6 d p (.d (.str d.shown)) (.d (.bool b9)) (.d (.bool b10))) = .nx (wS a2 a3 (wideD z rows ends) g2 g3 vs a6 d p (.d (.str d.shown)) (.d (.bool b9)) (.d (.bool b10))) :=
    ck (S1 := wS a2 a3 (wideD z rows ends) g2 g3 vs a6 d p (.d (.str d.shown)) (.d (.bool b9)) (.d (.bool b10))) (i := 9) (b := b9) (c := "NoWide") (w := "wide") (by unfold wS; simp) zw_wide (by decide) fun q => by
      obtain ⟨r6, e6⟩ := least_no (p := p) hn hd.ok (by rw [← h9]; exact q)
      exact ⟨by unfold wS; simp [e6], rfl⟩
  have s4 : t11_4 (wS a2 a3 (wideD z rows ends) g2 g3 vs a6 d p (.d (.str d.shown)) (.d (.bool b9)) (.d (.bool b10))) = .nx (wS a2 a3 (wideD z rows ends) g2 g3 vs a6 d p (.d (.str d.shown)) (.d (.bool b9)) (.d (.bool b10))) :=
    ck (S1 := wS a2 a3 (wideD z rows ends) g2 g3 vs a6 d p (.d (.str d.shown)) (.d (.bool b9)) (.d (.bool b10))) (i := 9) (b := b9) (c := "NoWide") (w := "wide") (by unfold wS; simp) zw_wide (by decide) fun q => by
      obtain ⟨r6, e6⟩ := reads_no (p := p) (e := .none) hn hd.ok (by rw [← h9]; exact q)
      exact ⟨by unfold wS; simp [e6], rfl⟩
  have s5 : t11_5 (wS a2 a3 (wideD z rows ends) g2 g3 vs a6 d p (.d (.str d.shown)) (.d (.bool b9)) (.d (.bool b10))) = .nx (wS a2 a3 (wideD z rows ends) g2 g3 vs a6 d p (.d (.str d.shown)) (.d (.bool b9)) (.d (.bool b10))) :=
    ck (S1 := wS a2 a3 (wideD z rows ends) g2 g3 vs a6 d p (.d (.str d.shown)) (.d (.bool b9)) (.d (.bool b10))) (i := 9) (b := b9) (c := "NoWide") (w := "wide") (by unfold wS; simp) zw_wide (by decide) fun q => by
      obtain ⟨r6, e6⟩ := unlike_no2 (p := p) e5 hn hd.ok (by rw [← h9]; exact q)
      exact ⟨by unfold wS; simp [x0, e6], rfl⟩
  have s6 : t11_6 (wS a2 a3 (wideD z rows ends) g2 g3 vs a6 d p (.d (.str d.shown)) (.d (.bool b9)) (.d (.bool b10))) = .nx (wS a2 a3 (wideD z rows ends) g2 g3 vs a6 d p (.d (.str d.shown)) (.d (.bool b9)) (.d (.bool b10))) :=
    ck (S1 := wS a2 a3 (wideD z rows ends) g2 g3 vs a6 d p (.d (.str d.shown)) (.d (.bool b9)) (.d (.bool b10))) (i := 9) (b := b9) (c := "NoWide") (w := "wide") (by unfold wS; simp) zw_wide (by decide) fun q => by
      obtain ⟨r6, e6⟩ := unlike_no (p := p) (e := wideD z rows ends) hn hd.ok (by rw [← h9]; exact q)
      exact ⟨by unfold wS; simp [x0, e6], rfl⟩
  have s7 : t11_7 (wS a2 a3 (wideD z rows ends) g2 g3 vs a6 d p (.d (.str d.shown)) (.d (.bool b9)) (.d (.bool b10))) = .nx (wS a2 a3 (wideD z rows ends) g2 g3 vs a6 d p (.d (.str d.shown)) (.d (.bool b9)) (.d (.bool b10))) :=
    ck (S1 := wS a2 a3 (wideD z rows ends) g2 g3 vs a6 d p (.d (.str d.shown)) (.d (.bool b9)) (.d (.bool b10))) (i := 10) (b := b10) (c := "NoMachine") (w := "machine") (by unfold wS; simp) zw_mach (by decide) fun q => by
      obtain ⟨r6, e6⟩ := wordfor_no (p := p) (e := .none) hn hd.ok (by rw [← h10]; exact q)
      exact ⟨by unfold wS; simp [e6], rfl⟩
  have s8 : t11_8 (wS a2 a3 (wideD z rows ends) g2 g3 vs a6 d p (.d (.str d.shown)) (.d (.bool b9)) (.d (.bool b10))) = .nx (wS a2 a3 (wideD z rows ends) g2 g3 vs a6 d p (.d (.str d.shown)) (.d (.bool b9)) (.d (.bool b10))) :=
    ck (S1 := wS a2 a3 (wideD z rows ends) g2 g3 vs a6 d p (.d (.str d.shown)) (.d (.bool b9)) (.d (.bool b10))) (i := 10) (b := b10) (c := "NoMachine") (w := "machine") (by unfold wS; simp) zw_mach (by decide) fun q => by
      obtain ⟨r6, e6⟩ := pieces_no (p := p) hn hd.ok (by rw [← h10]; exact q)
      exact ⟨by unfold wS; simp [e6], rfl⟩
  have s9 : t11_9 (wS a2 a3 (wideD z rows ends) g2 g3 vs a6 d p (.d (.str d.shown)) (.d (.bool b9)) (.d (.bool b10))) = .nx (wS a2 a3 (wideD z rows ends) g2 g3 vs a6 d p (.d (.str d.shown)) (.d (.bool b9)) (.d (.bool b10))) := by
    unfold t11_9 wS
    simp [er]
  refine ⟨.d (.str d.shown), .d (.bool b9), .d (.bool b10), ?_⟩
  unfold gIn11
  rw [ev_seq, s1, seq1_nx, ev_seq, s2, seq1_nx, ev_seq, s3, seq1_nx, ev_seq, s4, seq1_nx, ev_seq, s5, seq1_nx, ev_seq, s6, seq1_nx, ev_seq, s7, seq1_nx, ev_seq, s8, seq1_nx, s9]
theorem t11_ok {a2 a3 a6 a7 a8 a9 a10 : R} {z : Str} {rows : List (List (Option Nat))} {ends : List Nat} {g2 g3 : D} {vs : List D} {p : Option Pen} (L : Lets z) (w : WideOk z rows ends) (hv : ∀ d ∈ vs, ValD d) :
    ∃ b7 b8 b9 b10, t11 (lS a2 a3 (.l [wideD z rows ends, g2, g3]) (.l vs) a6 a7 a8 a9 a10 p) = .nx (lS a2 a3 (.l [wideD z rows ends, g2, g3]) (.d (.list vs)) a6 b7 b8 b9 b10 p) := by
  obtain ⟨S', e, b7, b8, b9, b10, rfl⟩ := forF_inv (t := .nm 7) (ds := vs) (g := gIn11)
    (P := fun _ S => ∃ b7 b8 b9 b10, S = lS a2 a3 (.l [wideD z rows ends, g2, g3]) (.d (.list vs)) a6 b7 b8 b9 b10 p)
    (S := lS a2 a3 (.l [wideD z rows ends, g2, g3]) (.d (.list vs)) a6 a7 a8 a9 a10 p) 0 ⟨_, _, _, _, rfl⟩ (by
      rintro i d S hd ⟨b7, b8, b9, b10, rfl⟩
      obtain ⟨c8, c9, c10, e⟩ := in_ok (a2 := a2) (a3 := a3) (a6 := a6) (a8 := b8) (a9 := b9) (a10 := b10) (g2 := g2) (g3 := g3) (vs := vs) (p := p) L w (hv d (List.mem_of_getElem? hd))
      exact ⟨_, by unfold lS; simp; rfl, _, .inl e, _, _, _, _, rfl⟩)
  refine ⟨b7, b8, b9, b10, ?_⟩
  have s0 : itF (fVar 5) (lS a2 a3 (.l [wideD z rows ends, g2, g3]) (.l vs) a6 a7 a8 a9 a10 p) = .ok vs (lS a2 a3 (.l [wideD z rows ends, g2, g3]) (.d (.list vs)) a6 a7 a8 a9 a10 p) := by unfold lS; simp
  unfold t11
  rw [ev_for, s0, for1_ok, e]
theorem turn_ok {n : Int} {p : Option Pen} {a2 a3 a4 a5 a6 a7 a8 a9 a10 : R} (h : At n p) (hn : n + 6000 < 2 ^ 30) :
    ∃ b3 b4 b5 b6 b7 b8 b9 b10 p', gTurn (lS a2 a3 a4 a5 a6 a7 a8 a9 a10 p) = .nx (lS a2 b3 b4 b5 b6 b7 b8 b9 b10 p') ∧ At (n + 600) p' := by
  obtain ⟨z, p1, e1, L, h1⟩ := t1_ok (a2 := a2) (a3 := a3) (a4 := a4) (a5 := a5) (a6 := a6) (a7 := a7) (a8 := a8) (a9 := a9) (a10 := a10) h (by omega)
  obtain ⟨rows, ends, rows2, ends2, g3, p2, e2, w1, w2, hg3, h2⟩ := t2_ok (a2 := a2) (a4 := a4) (a5 := a5) (a6 := a6) (a7 := a7) (a8 := a8) (a9 := a9) (a10 := a10) L h1 (by omega)
  have hg : ∀ d ∈ [wideD z rows ends, wideD z rows2 ends2, g3], GoodD d := by
    intro d m
    simp only [List.mem_cons, List.not_mem_nil, or_false] at m
    rcases m with rfl | rfl | rfl
    · exact good_wide L w1
    · exact good_wide L w2
    · exact hg3
  obtain ⟨vs, p3, e3, l3, v3, h3⟩ := t3_ok (a2 := a2) (a3 := .d (.str z)) (a5 := a5) (a6 := a6) (a7 := a7) (a8 := a8) (a9 := a9) (a10 := a10) (gs := [wideD z rows ends, wideD z rows2 ends2, g3]) rfl hg h2 (by omega)
  obtain ⟨d4, e4, v4⟩ := t4_ok (rows := rows) (ends := ends) (rows2 := rows2) (ends2 := ends2) (g3 := g3) (p := p3) (vs := vs) (a2 := a2) (a6 := a6) (a7 := a7) (a8 := a8) (a9 := a9) (a10 := a10) L w2 (by omega)
  obtain ⟨d5, e5, v5⟩ := t5_ok (rows := rows) (ends := ends) (rows2 := rows2) (ends2 := ends2) (g3 := g3) (p := p3) (vs := vs ++ [d4]) (a2 := a2) (a6 := a6) (a7 := a7) (a8 := a8) (a9 := a9) (a10 := a10) L w2 (by simp; omega)
  obtain ⟨d6, e6, v6⟩ := t6_ok (rows := rows) (ends := ends) (rows2 := rows2) (ends2 := ends2) (g3 := g3) (p := p3) (vs := vs ++ [d4] ++ [d5]) (a2 := a2) (a6 := a6) (a7 := a7) (a8 := a8) (a9 := a9) (a10 := a10) L w2 (by simp; omega)
  obtain ⟨d7, p7, e7, v7, h7⟩ := t7_ok (z := z) (rows := rows) (ends := ends) (rows2 := rows2) (ends2 := ends2) (g3 := g3) (p := p3) (vs := vs ++ [d4] ++ [d5] ++ [d6]) (a2 := a2) (a6 := a6) (a7 := a7) (a8 := a8) (a9 := a9) (a10 := a10) h3 (by omega) (by simp; omega)
  obtain ⟨zs, e8, hz8⟩ := t8_ok (rows := rows) (ends := ends) (rows2 := rows2) (ends2 := ends2) (g3 := g3) (p := p7) (vs := vs ++ [d4] ++ [d5] ++ [d6] ++ [d7]) (a2 := a2) (a6 := a6) (a7 := a7) (a8 := a8) (a9 := a9) (a10 := a10) L
  obtain ⟨d9, p9, e9, v9, h9⟩ := t9_ok (rows := rows) (ends := ends) (rows2 := rows2) (ends2 := ends2) (g3 := g3) (p := p7) (vs := vs ++ [d4] ++ [d5] ++ [d6] ++ [d7]) (a2 := a2) (a7 := a7) (a8 := a8) (a9 := a9) (a10 := a10) L hz8 h7 (by omega) (by simp; omega)
  obtain ⟨d10, p10, e10, v10, h10⟩ := t10_ok (rows := rows) (ends := ends) (rows2 := rows2) (ends2 := ends2) (g3 := g3) (p := p9) (vs := vs ++ [d4] ++ [d5] ++ [d6] ++ [d7] ++ [d9]) (a2 := a2) (a7 := a7) (a8 := a8) (a9 := a9) (a10 := a10) L hz8 h9 (by omega) (by simp; omega)
  have hv : ∀ d ∈ vs ++ [d4] ++ [d5] ++ [d6] ++ [d7] ++ [d9] ++ [d10], ValD d := by
    intro d m
    simp only [List.mem_append, List.mem_singleton] at m
    rcases m with (((((m | rfl) | rfl) | rfl) | rfl) | rfl) | rfl
    · exact v3 d m
    · exact v4
    · exact v5
    · exact v6
    · exact v7
    · exact v9
    · exact v10
  obtain ⟨b7, b8, b9, b10, e11⟩ := t11_ok (a2 := a2) (a3 := .d (.str z)) (a6 := .d (.tuple zs)) (a7 := a7) (a8 := a8) (a9 := a9) (a10 := a10) (g2 := wideD z rows2 ends2) (g3 := g3) (p := p10) L w1 hv
  refine ⟨.d (.str z), .l [wideD z rows ends, wideD z rows2 ends2, g3], .d (.list (vs ++ [d4] ++ [d5] ++ [d6] ++ [d7] ++ [d9] ++ [d10])), .d (.tuple zs), b7, b8, b9, b10, p10, ?_, h10.mono (by omega)⟩
  · unfold gTurn
    rw [ev_seq, e1, seq1_nx, ev_seq, e2, seq1_nx, ev_seq, e3, seq1_nx, ev_seq, e4, seq1_nx, ev_seq, e5, seq1_nx, ev_seq, e6, seq1_nx, ev_seq, e7, seq1_nx, ev_seq, e8, seq1_nx, ev_seq, e9, seq1_nx, ev_seq, e10, seq1_nx, e11]
end Q3
namespace Q3
open PySem PySem.Spec PyProof.Rows L2
theorem atI_nat {α : Type} (xs : List α) (i : Nat) (h : i < xs.length) : atI xs ((i : Nat) : Int) = xs[i]? := by
  unfold atI
  have e : ixN xs.length ((i : Nat) : Int) = some i := by
    unfold ixN
    simp [h]
  rw [e]
  rfl
theorem atI_map {α : Type} {f : α → D} {xs : List α} {i : Nat} {x : α} (h : xs[i]? = some x) : atI (xs.map f) ((i : Nat) : Int) = some (f x) := by
  have hlt := (List.getElem?_eq_some_iff.mp h).1
  rw [atI_nat _ _ (by simpa using hlt), List.getElem?_map, h]
  rfl
theorem forF_cons_nx {t : Tg} {g : Sq → Fl} {d : D} {ds : List D} {S S1 S2 : Sq} (h1 : t.put S d = some S1) (h2 : g S1 = .nx S2) : forF t g (d :: ds) S = forF t g ds S2 := by
  simp only [forF, h1, h2]
theorem setL_ok {i : Nat} {fa fb : Sq → Out PV} {S S1 S2 S3 : Sq} {p q : PV} {n : Int} {d : D} {xs : List D} {j : Nat} (h1 : fa S = .ok p S1) (hL : isL S1 i = true) (h2 : fb S1 = .ok q S2) (h3 : S2.val (fz q) = some (.int n)) (h4 : S2.keep (fz p) = some (d, S3))
    (h5 : S3.r[i]? = some (.l xs)) (h6 : ixN xs.length n = some j) : setLF i fa fb S = .nx { S3 with r := S3.r.set i (.l (xs.set j d)) } := by
  unfold setLF fzF
  simp only [h1, Out.bind_ok, Out.fl, hL, if_true, h2, h3, h4, h5, h6]
def gOpn : Sq → Fl := setLF 1 (fBin gAdd (fBin gIx (fVar 1) (fBin gMod (f1 gInt1 (fVar 2)) (fC (.int 12)))) (fVar 3)) (fBin gMod (f1 gInt1 (fVar 2)) (fC (.int 12)))
theorem open_step {ns xs : List Int} {i : Nat} {b : Int} {a2 a3 : R} (hl : xs.length = 12) :
    ∃ xs' : List Int, xs'.length = 12 ∧ gOpn ⟨[.sc ns, .l (xs.map .int), .d (.int (i : Nat)), .d (.int b)], none⟩ = .nx ⟨[.sc ns, .l (xs'.map .int), .d (.int (i : Nat)), .d (.int b)], none⟩ := by
  obtain ⟨j, hj0, em⟩ : ∃ j : Nat, j < 12 ∧ ((i : Nat) : Int) % 12 = (j : Int) := ⟨i % 12, by omega, by omega⟩
  have hj : j < xs.length := by omega
  have ea : atI (xs.map PyData.int) ((j : Nat) : Int) = some (.int xs[j]) := atI_map (List.getElem?_eq_getElem hj)
  have ei : ixN (xs.map PyData.int).length ((j : Nat) : Int) = some j := by
    rw [List.length_map]
    unfold ixN
    simp [hj]
  refine ⟨xs.set j (xs[j] + b), by simpa using hl, ?_⟩
  have h1 : fBin gAdd (fBin gIx (fVar 1) (fBin gMod (f1 gInt1 (fVar 2)) (fC (.int 12)))) (fVar 3) ⟨[.sc ns, .l (xs.map .int), .d (.int (i : Nat)), .d (.int b)], none⟩ = .ok (.v (.int (xs[j] + b))) ⟨[.sc ns, .l (xs.map .int), .d (.int (i : Nat)), .d (.int b)], none⟩ := by
    simp [em, ea]
  have h2 : fBin gMod (f1 gInt1 (fVar 2)) (fC (.int 12)) ⟨[.sc ns, .l (xs.map .int), .d (.int (i : Nat)), .d (.int b)], none⟩ = .ok (.v (.int (j : Int))) ⟨[.sc ns, .l (xs.map .int), .d (.int (i : Nat)), .d (.int b)], none⟩ := by
    simp [em]
  have h4 : Sq.keep ⟨[.sc ns, .l (xs.map .int), .d (.int (i : Nat)), .d (.int b)], none⟩ (fz (.v (.int (xs[j] + b)))) = some (.int (xs[j] + b), ⟨[.sc ns, .l (xs.map .int), .d (.int (i : Nat)), .d (.int b)], none⟩) := rfl
  unfold gOpn
  rw [setL_ok h1 rfl h2 rfl h4 rfl ei]
  simp [List.map_set]
theorem open_loop {ns : List Int} : ∀ (bs : List Int) (k : Nat) (xs : List Int) (a2 a3 : R), (bs ≠ [] → xs.length = 12) →
    ∃ (xs' : List Int) (c2 c3 : R), forF (.tp [2, 3]) gOpn (enumD k (bs.map .int)) ⟨[.sc ns, .l (xs.map .int), a2, a3], none⟩ = .nx ⟨[.sc ns, .l (xs'.map .int), c2, c3], none⟩
  | [], _, xs, a2, a3, _ => ⟨xs, a2, a3, rfl⟩
  | b :: bs, k, xs, a2, a3, h => by
    obtain ⟨xs1, l1, e1⟩ := open_step (ns := ns) (i := k) (b := b) (a2 := a2) (a3 := a3) (h (by simp))
    obtain ⟨xs', c2, c3, e2⟩ := open_loop bs (k + 1) xs1 (.d (.int (k : Nat))) (.d (.int b)) fun _ => l1
    have pu : (Tg.tp [2, 3]).put ⟨[.sc ns, .l (xs.map .int), a2, a3], none⟩ (.tuple [.int (k : Nat), .int b]) = some ⟨[.sc ns, .l (xs.map .int), .d (.int (k : Nat)), .d (.int b)], none⟩ := by simp
    exact ⟨xs', c2, c3, by rw [List.map_cons, enumD, forF_cons_nx pu e1, e2]⟩
theorem law_open (ns : List Int) : ∃ (cells : List Int) (S1 : Sq), F__law_open [.sc ns] none = .ok (.l [.list (cells.map .int), .int 0, .int 0]) S1 ∧ S1.p = none := by
  have e9 : (⟨[R.sc ns] ++ List.replicate (4 - [R.sc ns].length) .un, none⟩ : Sq) = ⟨[.sc ns, .un, .un, .un], none⟩ := rfl
  have s1 : setF 1 (f1 gList (fScr 0 none (some 12))) ⟨[.sc ns, .un, .un, .un], none⟩ = .nx ⟨[.sc ns, .l ((cutG ns none (some 12)).map .int), .un, .un], none⟩ := by
    rw [ev_set, ev_f1]
    rfl
  have s2 : enumA (fScr 0 (some 12) (some 63)) ⟨[.sc ns, .l ((cutG ns none (some 12)).map .int), .un, .un], none⟩ = .ok (enumD 0 ((cutG ns (some 12) (some 63)).map .int)) ⟨[.sc ns, .l ((cutG ns none (some 12)).map .int), .un, .un], none⟩ := by
    rw [ev_enum]
    rfl
  have hh : cutG ns (some 12) (some 63) ≠ [] → (cutG ns none (some 12)).length = 12 := by
    intro h
    have h0 : 0 < (cutG ns (some 12) (some 63)).length := List.length_pos_iff.mpr h
    unfold cutG HT.sIx at h0 ⊢
    simp at h0 ⊢
    omega
  obtain ⟨xs', c2, c3, e⟩ := open_loop (ns := ns) (cutG ns (some 12) (some 63)) 0 (cutG ns none (some 12)) .un .un hh
  unfold gOpn at e
  refine ⟨xs', ?_⟩
  unfold F__law_open g__law_open
  rw [ev_run, e9, ev_seq, s1, seq1_nx, ev_seq, ev_for, s2, for1_ok, e, seq1_nx]
  exact ⟨⟨[.sc ns, .d (.list (xs'.map .int)), c2, c3], none⟩, by simp [sl_eq], rfl⟩

theorem g_law_eq : g_law = seqF (forS (.nm 2) (rng1F (fC (.int 5))) gTurn) (retF (fC (.bool true))) := rfl
theorem law_plain (ns : List Int) (h : ns.length ≤ 63) : lawOk 12 1 F__law_open g_law ns := by
  obtain ⟨cells, S1, e1, hp⟩ := law_open ns
  refine ⟨cells, S1, ?_⟩
  obtain ⟨S', e, b2, b3, b4, b5, b6, b7, b8, b9, b10, p', rfl, ha⟩ := forF_inv (t := .nm 2) (ds := rngD 0 5) (g := gTurn)
    (P := fun i S => ∃ a2 a3 a4 a5 a6 a7 a8 a9 a10 p', S = lS a2 a3 a4 a5 a6 a7 a8 a9 a10 p' ∧ At (600 * i) p')
    (S := lS .un .un .un .un .un .un .un .un .un (some ⟨cells, 0, 0⟩)) 0 ⟨.un, .un, .un, .un, .un, .un, .un, .un, .un, _, rfl, ⟨_, rfl, Int.le_refl _, by simp⟩⟩ (by
      rintro i d S hd ⟨a2, a3, a4, a5, a6, a7, a8, a9, a10, p, rfl, ha⟩
      obtain ⟨hi, rfl⟩ := rngD_get hd
      obtain ⟨b3, b4, b5, b6, b7, b8, b9, b10, p', e, h'⟩ := turn_ok (a2 := .d (.int (0 + (i : Nat)))) (a3 := a3) (a4 := a4) (a5 := a5) (a6 := a6) (a7 := a7) (a8 := a8) (a9 := a9) (a10 := a10) ha (by omega)
      exact ⟨lS (.d (.int (0 + (i : Nat)))) a3 a4 a5 a6 a7 a8 a9 a10 p, by unfold lS; simp, _, .inl e, _, _, _, _, _, _, _, _, _, _, rfl, h'.mono (by omega)⟩)
  refine ⟨lS b2 b3 b4 b5 b6 b7 b8 b9 b10 p', e1, hp, ?_⟩
  have k5 : Rng62 5 := rng62 (by decide) (by decide)
  have s0 : rng1F (fC (.int 5)) (lS .un .un .un .un .un .un .un .un .un (some ⟨cells, 0, 0⟩)) = .ok (rngD 0 5) (lS .un .un .un .un .un .un .un .un .un (some ⟨cells, 0, 0⟩)) := by simp [k5]
  show g_law (lS .un .un .un .un .un .un .un .un .un (some ⟨cells, 0, 0⟩)) = _
  rw [g_law_eq, ev_seq, ev_for, s0, for1_ok, e, seq1_nx]
  rfl
end Q3
namespace Q3
open PySem PySem.Spec PyProof.Rows L2
variable [TabSet]
def dd_is_within : He.DefD := ⟨("is_within", none), "is_within", "is_within", defArgs (top 19), defBody (top 19), defScope (top 19), [], []⟩
def dd_are_letters : He.DefD := ⟨("are_letters", none), "are_letters", "are_letters", defArgs (top 20), defBody (top 20), defScope (top 20), [], []⟩
def dd_are_ends : He.DefD := ⟨("are_ends", none), "are_ends", "are_ends", defArgs (top 21), defBody (top 21), defScope (top 21), [], []⟩
def dd_is_row : He.DefD := ⟨("is_row", none), "is_row", "is_row", defArgs (top 22), defBody (top 22), defScope (top 22), [], []⟩
def dd_is_wide_of : He.DefD := ⟨("is_wide_of", none), "is_wide_of", "is_wide_of", defArgs (top 23), defBody (top 23), defScope (top 23), [], []⟩
def dd_is_wide : He.DefD := ⟨("is_wide", none), "is_wide", "is_wide", defArgs (top 24), defBody (top 24), defScope (top 24), [], []⟩
def dd_is_machine : He.DefD := ⟨("is_machine", none), "is_machine", "is_machine", defArgs (top 25), defBody (top 25), defScope (top 25), [], []⟩
def dd_need_wide : He.DefD := ⟨("need_wide", none), "need_wide", "need_wide", defArgs (top 26), defBody (top 26), defScope (top 26), [], []⟩
def dd_need_machine : He.DefD := ⟨("need_machine", none), "need_machine", "need_machine", defArgs (top 27), defBody (top 27), defScope (top 27), [], []⟩
def dd_reads : He.DefD := ⟨("reads", none), "reads", "reads", defArgs (top 32), defBody (top 32), defScope (top 32), [], []⟩
def dd_least_of : He.DefD := ⟨("least_of", none), "least_of", "least_of", defArgs (top 37), defBody (top 37), defScope (top 37), [], []⟩
def dd_unlike_word : He.DefD := ⟨("unlike_word", none), "unlike_word", "unlike_word", defArgs (top 39), defBody (top 39), defScope (top 39), [], []⟩
def dd_word_for : He.DefD := ⟨("word_for", none), "word_for", "word_for", defArgs (top 48), defBody (top 48), defScope (top 48), [], []⟩
def dd_pieces_of : He.DefD := ⟨("pieces_of", none), "pieces_of", "pieces_of", defArgs (top 58), defBody (top 58), defScope (top 58), [], []⟩
def dd__law_spread : He.DefD := ⟨("_law_spread", none), "_law_spread", "_law_spread", defArgs (top 60), defBody (top 60), defScope (top 60), [], []⟩
def dd__law_open : He.DefD := ⟨("_law_open", none), "_law_open", "_law_open", defArgs (top 61), defBody (top 61), defScope (top 61), [], []⟩
def dd__law_take : He.DefD := ⟨("_law_take", none), "_law_take", "_law_take", defArgs (top 62), defBody (top 62), defScope (top 62), [], []⟩
def dd__law_z_pick : He.DefD := ⟨("_law_z_pick", none), "_law_z_pick", "_law_z_pick", defArgs (top 63), defBody (top 63), defScope (top 63), [], []⟩
def dd__law_z_letters : He.DefD := ⟨("_law_z_letters", none), "_law_z_letters", "_law_z_letters", defArgs (top 64), defBody (top 64), defScope (top 64), [], []⟩
def dd__law_z_wide : He.DefD := ⟨("_law_z_wide", none), "_law_z_wide", "_law_z_wide", defArgs (top 65), defBody (top 65), defScope (top 65), [], []⟩
def dd__law_z_machine : He.DefD := ⟨("_law_z_machine", none), "_law_z_machine", "_law_z_machine", defArgs (top 66), defBody (top 66), defScope (top 66), [], []⟩
def dd__law_z_word : He.DefD := ⟨("_law_z_word", none), "_law_z_word", "_law_z_word", defArgs (top 67), defBody (top 67), defScope (top 67), [], []⟩
def dd__law_z_between : He.DefD := ⟨("_law_z_between", none), "_law_z_between", "_law_z_between", defArgs (top 68), defBody (top 68), defScope (top 68), [], []⟩
def dd__law_z_are_letters : He.DefD := ⟨("_law_z_are_letters", none), "_law_z_are_letters", "_law_z_are_letters", defArgs (top 69), defBody (top 69), defScope (top 69), [], []⟩
def dd__law_z_are_ends : He.DefD := ⟨("_law_z_are_ends", none), "_law_z_are_ends", "_law_z_are_ends", defArgs (top 70), defBody (top 70), defScope (top 70), [], []⟩
def dd__law_z_is_wide : He.DefD := ⟨("_law_z_is_wide", none), "_law_z_is_wide", "_law_z_is_wide", defArgs (top 71), defBody (top 71), defScope (top 71), [], []⟩
def dd__law_z_is_machine : He.DefD := ⟨("_law_z_is_machine", none), "_law_z_is_machine", "_law_z_is_machine", defArgs (top 72), defBody (top 72), defScope (top 72), [], []⟩
def dd__law_z_bent : He.DefD := ⟨("_law_z_bent", none), "_law_z_bent", "_law_z_bent", defArgs (top 73), defBody (top 73), defScope (top 73), [], []⟩
def dd__law_z_long : He.DefD := ⟨("_law_z_long", none), "_law_z_long", "_law_z_long", defArgs (top 74), defBody (top 74), defScope (top 74), [], []⟩
def dd_law : He.DefD := ⟨("law", none), "law", "law", defArgs (top 75), defBody (top 75), defScope (top 75), [], []⟩
def fnL : List He.DefD := [dd_is_within, dd_are_letters, dd_are_ends, dd_is_row, dd_is_wide_of, dd_is_wide, dd_is_machine, dd_need_wide, dd_need_machine, dd_reads, dd_least_of, dd_unlike_word, dd_word_for, dd_pieces_of, dd__law_spread, dd__law_open, dd__law_take, dd__law_z_pick, dd__law_z_letters, dd__law_z_wide, dd__law_z_machine, dd__law_z_word, dd__law_z_between, dd__law_z_are_letters, dd__law_z_are_ends, dd__law_z_is_wide, dd__law_z_is_machine, dd__law_z_bent, dd__law_z_long, dd_law]
def fa0 : List He.Fa := [.glo "is_within", .glo "are_letters", .glo "are_ends", .glo "is_row", .glo "is_wide_of", .glo "is_wide", .glo "is_machine", .glo "need_wide", .glo "need_machine", .glo "reads", .glo "least_of", .glo "unlike_word"]
def fa1 : List He.Fa := [.glo "word_for", .glo "pieces_of", .glo "_law_spread", .glo "_law_open", .glo "_law_take", .glo "_law_z_pick", .glo "_law_z_letters", .glo "_law_z_wide", .glo "_law_z_machine", .glo "_law_z_word", .glo "_law_z_between", .glo "_law_z_are_letters"]
def fa2 : List He.Fa := [.glo "_law_z_are_ends", .glo "_law_z_is_wide", .glo "_law_z_is_machine", .glo "_law_z_bent", .glo "_law_z_long", .glo "law", .glo "ShakenError", .glo "NoWide", .glo "NoMachine", .glo "NoLetters", .glo "NoWord", .glo "NoCounts"]
def fa3 : List He.Fa := [.glo "NoDigits", .glo "NoPlace", .glo "NoPiece", .glo "NoPieces", .glo "NoMatch", .glo "TooGreat", .free "ValueError", .free "all", .free "bool", .free "dict", .free "enumerate", .free "int"]
def fa4 : List He.Fa := [.free "isinstance", .free "len", .free "list", .free "min", .free "range", .free "repr", .free "set", .free "sorted", .free "str", .free "sum", .free "tuple", .exc "NoMachine"]
def fa5 : List He.Fa := [.exc "NoWide", .exc "TooGreat", .int "MOST_LETTERS" 3, .int "MOST_STATES" 4, .int "MOST_SUM" 40, .int "MOST_THREE" 3, .int "MOST_WIDE" 200, .str "ALPHABET" "abcdefghijklmnopqrstuvwxyz"]
def faL : List He.Fa := fa0 ++ fa1 ++ fa2 ++ fa3 ++ fa4 ++ fa5
def loose0 : List Str := ["ShakenError", "NoWide", "NoMachine", "NoLetters", "NoWord", "NoCounts", "NoDigits", "NoPlace", "NoPiece", "NoPieces", "NoMatch", "TooGreat"]
def loose1 : List Str := ["ALPHABET", "MOST_LETTERS", "MOST_STATES", "MOST_WIDE", "MOST_THREE", "is_within", "are_letters", "are_ends", "is_row", "is_wide_of", "is_wide", "is_machine"]
def loose2 : List Str := ["need_wide", "need_machine", "need_same", "is_word", "need_word", "state_after", "reads", "useful", "numbered", "classes_of", "raw_least", "least_of"]
def loose3 : List Str := ["next_pair", "unlike_word", "MOST_SUM", "is_count", "are_counts", "need_counts", "raised", "ends_by", "word_from", "word_for", "edges_of", "rings_of"]
def loose4 : List Str := ["short_ways", "is_spanned", "needed_periods", "is_more_of", "needed_bases", "groups_of", "pieces_of", "_law_spread", "_law_open", "_law_take", "_law_z_pick", "_law_z_letters"]
def loose5 : List Str := ["_law_z_wide", "_law_z_machine", "_law_z_word", "_law_z_between", "_law_z_are_letters", "_law_z_are_ends", "_law_z_is_wide", "_law_z_is_machine", "_law_z_bent", "_law_z_long"]
def looseL : List Str := loose0 ++ loose1 ++ loose2 ++ loose3 ++ loose4 ++ loose5
def excB (K : PySem.W.Frag) (D : Addr) : Bool := decide (PySem.W.findIn K (.ref D) "__getattribute__" = some (some (.builtin "BaseException.__getattribute__"))) && (decide (PySem.W.findIn K (.ref D) "__getattr__" = some none) && (decide (PySem.W.subIn K (.ref D) (.type "BaseException") = some true) &&
  (PySem.W.hasDictIn K D && (decide (PySem.W.findIn K (.ref D) "__class__" = some (some (.builtin "object.__class__"))) && (decide (PySem.W.specialIn K (.builtin "object.__class__") "__get__" = some (some (.builtin "getset_descriptor.__get__"))) && (decide (PySem.W.takesIn K (.builtin "object.__class__") = some true) && decide (PySem.W.mroIn K D (.type "object") = some true)))))))
theorem excB_ok {K : PySem.W.Frag} {D : Addr} (h : excB K D = true) : ExcC K D := by
  unfold excB at h
  simp only [Bool.and_eq_true, decide_eq_true_eq] at h
  obtain ⟨h1, h2, h3, h4, h5, h6, h7, h8⟩ := h
  exact ⟨h1, h2, h3, h4, h5, h6, h7, h8⟩
def exB (cl : List Str) (K : PySem.W.Frag) : Bool := (K.lookup PySem.sysModules).isSome && cl.all fun x => excB K (He.ga K x) && (decide (PySem.W.kitOne K (.ref (He.ga K x)) (.type "ValueError") = some true) && (decide (PySem.W.exmOne K (.ref (He.ga K x)) (.ref (He.ga K "ShakenError")) = some true) &&
  cl.all fun y => decide (PySem.W.kitOne K (.ref (He.ga K x)) (.ref (He.ga K y)) = some (x == y))))
def tfL : List He.Defn := [("law", none)]
abbrev Rw : PySem.W.OpenRow := PySem.W.OpenLaw.row PySem.Challenge.rw_shakenwords_k31_machines_recognized
abbrev hkL : PySem.W.Hook := Q3.hookY 4 faL fnL [] tfL (exB clL)
def obL (s : PySem.W.SharedT) : He.AlX := Q3.obsY 4 faL fnL [] tfL (exB clL) (HandSHeadRun.getT s)
theorem obL_eq (s : PySem.W.SharedT) : obL s = hkL.obs s.abs := Q3.obsY_eq (HandSHeadRun.getT_eq s)
theorem runL (w : World) : HandSHeadRun.RunEq Rw (PySem.W.view Rw.prog [75]) hkL obL 20000 looseL w := by
  intro os
  kernel_rfl
section
variable {K : PySem.W.Frag} {h : Heap} {mg : Str → Option Value}
theorem fxL (X : K.In h) (Gn : h.Ns mainGlobals mg) (c : He.SaysD faL fnL K) (m : exB clL K = true) : Fx K mg := by
  have hx : ∀ x ∈ clL, ExcC K (He.ga K x) ∧ PySem.W.kitOne K (.ref (He.ga K x)) (.type "ValueError") = some true ∧ PySem.W.exmOne K (.ref (He.ga K x)) (.ref (He.ga K "ShakenError")) = some true ∧ ∀ y ∈ clL, PySem.W.kitOne K (.ref (He.ga K x)) (.ref (He.ga K y)) = some (x == y) := fun x hx => by
    have q := List.all_eq_true.mp (Bool.and_eq_true_iff.mp m).2 x hx
    simp only [Bool.and_eq_true, decide_eq_true_eq, List.all_eq_true] at q
    obtain ⟨q1, q2, q3, q4⟩ := q
    exact ⟨excB_ok q1, q2, q3, q4⟩
  have hg : ∀ x ∈ clL, mg x = some (.ref (He.ga K x)) := by
    intro x hx
    unfold clL at hx
    simp only [List.mem_cons, List.not_mem_nil, or_false] at hx
    rcases hx with rfl | rfl | rfl | rfl | rfl | rfl | rfl | rfl | rfl | rfl | rfl
    · exact He.glo_ok X Gn (c.fact 31 (f := .glo "NoWide") rfl)
    · exact He.glo_ok X Gn (c.fact 32 (f := .glo "NoMachine") rfl)
    · exact He.glo_ok X Gn (c.fact 33 (f := .glo "NoLetters") rfl)
    · exact He.glo_ok X Gn (c.fact 34 (f := .glo "NoWord") rfl)
    · exact He.glo_ok X Gn (c.fact 35 (f := .glo "NoCounts") rfl)
    · exact He.glo_ok X Gn (c.fact 36 (f := .glo "NoDigits") rfl)
    · exact He.glo_ok X Gn (c.fact 37 (f := .glo "NoPlace") rfl)
    · exact He.glo_ok X Gn (c.fact 38 (f := .glo "NoPiece") rfl)
    · exact He.glo_ok X Gn (c.fact 39 (f := .glo "NoPieces") rfl)
    · exact He.glo_ok X Gn (c.fact 40 (f := .glo "NoMatch") rfl)
    · exact He.glo_ok X Gn (c.fact 41 (f := .glo "TooGreat") rfl)
  exact {
    sm := Option.isSome_iff_exists.mp (Bool.and_eq_true_iff.mp m).1
    all := ⟨hg, He.glo_ok X Gn (c.fact 30 (f := .glo "ShakenError") rfl), fun x h => (hx x h).1, fun x h => (hx x h).2.2.2, fun x h => (hx x h).2.1, fun x h => (hx x h).2.2.1⟩
    e_NoMachine := (He.exc_ok (c.fact 59 (f := .exc "NoMachine") rfl)).elim fun a1 a2 => ⟨He.glo_ok X Gn (c.fact 32 (f := .glo "NoMachine") rfl), a1, a2.1, a2.2.1, a2.2.2⟩
    e_NoWide := (He.exc_ok (c.fact 60 (f := .exc "NoWide") rfl)).elim fun a1 a2 => ⟨He.glo_ok X Gn (c.fact 31 (f := .glo "NoWide") rfl), a1, a2.1, a2.2.1, a2.2.2⟩
    e_TooGreat := (He.exc_ok (c.fact 61 (f := .exc "TooGreat") rfl)).elim fun a1 a2 => ⟨He.glo_ok X Gn (c.fact 41 (f := .glo "TooGreat") rfl), a1, a2.1, a2.2.1, a2.2.2⟩
    b_ValueError := He.free_ok X Gn (c.fact 42 (f := .free "ValueError") rfl)
    b_all := He.free_ok X Gn (c.fact 43 (f := .free "all") rfl)
    b_bool := He.free_ok X Gn (c.fact 44 (f := .free "bool") rfl)
    b_dict := He.free_ok X Gn (c.fact 45 (f := .free "dict") rfl)
    b_enumerate := He.free_ok X Gn (c.fact 46 (f := .free "enumerate") rfl)
    b_int := He.free_ok X Gn (c.fact 47 (f := .free "int") rfl)
    b_isinstance := He.free_ok X Gn (c.fact 48 (f := .free "isinstance") rfl)
    b_len := He.free_ok X Gn (c.fact 49 (f := .free "len") rfl)
    b_list := He.free_ok X Gn (c.fact 50 (f := .free "list") rfl)
    b_min := He.free_ok X Gn (c.fact 51 (f := .free "min") rfl)
    b_range := He.free_ok X Gn (c.fact 52 (f := .free "range") rfl)
    b_repr := He.free_ok X Gn (c.fact 53 (f := .free "repr") rfl)
    b_set := He.free_ok X Gn (c.fact 54 (f := .free "set") rfl)
    b_sorted := He.free_ok X Gn (c.fact 55 (f := .free "sorted") rfl)
    b_str := He.free_ok X Gn (c.fact 56 (f := .free "str") rfl)
    b_sum := He.free_ok X Gn (c.fact 57 (f := .free "sum") rfl)
    b_tuple := He.free_ok X Gn (c.fact 58 (f := .free "tuple") rfl)
    i_MOST_LETTERS := He.int_ok X Gn (c.fact 62 (f := .int "MOST_LETTERS" 3) rfl)
    i_MOST_STATES := He.int_ok X Gn (c.fact 63 (f := .int "MOST_STATES" 4) rfl)
    i_MOST_SUM := He.int_ok X Gn (c.fact 64 (f := .int "MOST_SUM" 40) rfl)
    i_MOST_THREE := He.int_ok X Gn (c.fact 65 (f := .int "MOST_THREE" 3) rfl)
    i_MOST_WIDE := He.int_ok X Gn (c.fact 66 (f := .int "MOST_WIDE" 200) rfl)
    s_ALPHABET := He.str_ok X Gn (c.fact 67 (f := .str "ALPHABET" "abcdefghijklmnopqrstuvwxyz") rfl)
    d_is_within := (c.def_ 0 (d := dd_is_within) rfl).elim fun _ F => ⟨_, _, F, He.glo_ok X Gn (c.fact 0 (f := .glo "is_within") rfl)⟩
    d_are_letters := (c.def_ 1 (d := dd_are_letters) rfl).elim fun _ F => ⟨_, _, F, He.glo_ok X Gn (c.fact 1 (f := .glo "are_letters") rfl)⟩
    d_are_ends := (c.def_ 2 (d := dd_are_ends) rfl).elim fun _ F => ⟨_, _, F, He.glo_ok X Gn (c.fact 2 (f := .glo "are_ends") rfl)⟩
    d_is_row := (c.def_ 3 (d := dd_is_row) rfl).elim fun _ F => ⟨_, _, F, He.glo_ok X Gn (c.fact 3 (f := .glo "is_row") rfl)⟩
    d_is_wide_of := (c.def_ 4 (d := dd_is_wide_of) rfl).elim fun _ F => ⟨_, _, F, He.glo_ok X Gn (c.fact 4 (f := .glo "is_wide_of") rfl)⟩
    d_is_wide := (c.def_ 5 (d := dd_is_wide) rfl).elim fun _ F => ⟨_, _, F, He.glo_ok X Gn (c.fact 5 (f := .glo "is_wide") rfl)⟩
    d_is_machine := (c.def_ 6 (d := dd_is_machine) rfl).elim fun _ F => ⟨_, _, F, He.glo_ok X Gn (c.fact 6 (f := .glo "is_machine") rfl)⟩
    d_need_wide := (c.def_ 7 (d := dd_need_wide) rfl).elim fun _ F => ⟨_, _, F, He.glo_ok X Gn (c.fact 7 (f := .glo "need_wide") rfl)⟩
    d_need_machine := (c.def_ 8 (d := dd_need_machine) rfl).elim fun _ F => ⟨_, _, F, He.glo_ok X Gn (c.fact 8 (f := .glo "need_machine") rfl)⟩
    d_reads := (c.def_ 9 (d := dd_reads) rfl).elim fun _ F => ⟨_, _, F, He.glo_ok X Gn (c.fact 9 (f := .glo "reads") rfl)⟩
    d_least_of := (c.def_ 10 (d := dd_least_of) rfl).elim fun _ F => ⟨_, _, F, He.glo_ok X Gn (c.fact 10 (f := .glo "least_of") rfl)⟩
    d_unlike_word := (c.def_ 11 (d := dd_unlike_word) rfl).elim fun _ F => ⟨_, _, F, He.glo_ok X Gn (c.fact 11 (f := .glo "unlike_word") rfl)⟩
    d_word_for := (c.def_ 12 (d := dd_word_for) rfl).elim fun _ F => ⟨_, _, F, He.glo_ok X Gn (c.fact 12 (f := .glo "word_for") rfl)⟩
    d_pieces_of := (c.def_ 13 (d := dd_pieces_of) rfl).elim fun _ F => ⟨_, _, F, He.glo_ok X Gn (c.fact 13 (f := .glo "pieces_of") rfl)⟩
    d__law_spread := (c.def_ 14 (d := dd__law_spread) rfl).elim fun _ F => ⟨_, _, F, He.glo_ok X Gn (c.fact 14 (f := .glo "_law_spread") rfl)⟩
    d__law_open := (c.def_ 15 (d := dd__law_open) rfl).elim fun _ F => ⟨_, _, F, He.glo_ok X Gn (c.fact 15 (f := .glo "_law_open") rfl)⟩
    d__law_take := (c.def_ 16 (d := dd__law_take) rfl).elim fun _ F => ⟨_, _, F, He.glo_ok X Gn (c.fact 16 (f := .glo "_law_take") rfl)⟩
    d__law_z_pick := (c.def_ 17 (d := dd__law_z_pick) rfl).elim fun _ F => ⟨_, _, F, He.glo_ok X Gn (c.fact 17 (f := .glo "_law_z_pick") rfl)⟩
    d__law_z_letters := (c.def_ 18 (d := dd__law_z_letters) rfl).elim fun _ F => ⟨_, _, F, He.glo_ok X Gn (c.fact 18 (f := .glo "_law_z_letters") rfl)⟩
    d__law_z_wide := (c.def_ 19 (d := dd__law_z_wide) rfl).elim fun _ F => ⟨_, _, F, He.glo_ok X Gn (c.fact 19 (f := .glo "_law_z_wide") rfl)⟩
    d__law_z_machine := (c.def_ 20 (d := dd__law_z_machine) rfl).elim fun _ F => ⟨_, _, F, He.glo_ok X Gn (c.fact 20 (f := .glo "_law_z_machine") rfl)⟩
    d__law_z_word := (c.def_ 21 (d := dd__law_z_word) rfl).elim fun _ F => ⟨_, _, F, He.glo_ok X Gn (c.fact 21 (f := .glo "_law_z_word") rfl)⟩
    d__law_z_between := (c.def_ 22 (d := dd__law_z_between) rfl).elim fun _ F => ⟨_, _, F, He.glo_ok X Gn (c.fact 22 (f := .glo "_law_z_between") rfl)⟩
    d__law_z_are_letters := (c.def_ 23 (d := dd__law_z_are_letters) rfl).elim fun _ F => ⟨_, _, F, He.glo_ok X Gn (c.fact 23 (f := .glo "_law_z_are_letters") rfl)⟩
    d__law_z_are_ends := (c.def_ 24 (d := dd__law_z_are_ends) rfl).elim fun _ F => ⟨_, _, F, He.glo_ok X Gn (c.fact 24 (f := .glo "_law_z_are_ends") rfl)⟩
    d__law_z_is_wide := (c.def_ 25 (d := dd__law_z_is_wide) rfl).elim fun _ F => ⟨_, _, F, He.glo_ok X Gn (c.fact 25 (f := .glo "_law_z_is_wide") rfl)⟩
    d__law_z_is_machine := (c.def_ 26 (d := dd__law_z_is_machine) rfl).elim fun _ F => ⟨_, _, F, He.glo_ok X Gn (c.fact 26 (f := .glo "_law_z_is_machine") rfl)⟩
    d__law_z_bent := (c.def_ 27 (d := dd__law_z_bent) rfl).elim fun _ F => ⟨_, _, F, He.glo_ok X Gn (c.fact 27 (f := .glo "_law_z_bent") rfl)⟩
    d__law_z_long := (c.def_ 28 (d := dd__law_z_long) rfl).elim fun _ F => ⟨_, _, F, He.glo_ok X Gn (c.fact 28 (f := .glo "_law_z_long") rfl)⟩ }
end
theorem endL {w : World} {K : PySem.W.Frag} {h : Heap} {mg : Str → Option Value} {fa : Addr} {fd : FuncData} {exF : PySem.W.Frag → Bool} (KX : K.In h) (c : He.SaysX faL fnL [] tfL exF w h K) (V : Fx K mg) (ef : fa = He.fAd K ("law", none)) (F : L2.FunD K "law" "law" (defArgs (top 75)) (defBody (top 75)) (defScope (top 75)) [] [] fa fd) :
    ∃ (K : PySem.W.Frag) (fd : FuncData) (cs : List (Addr × Addr)) (sp : Sp), K.In h ∧
      (∀ p ∈ cs, h.get? p.2 = some { cls := .none, data := .fields #[] }) ∧ (∀ p ∈ cs, K.lookup p.2 = none) ∧ (∀ p ∈ cs, PySem.W.CodeHd h p.1 p.2) ∧ (∀ (s : Shared) (u : Value), BindsTo s fd ⟨[u], []⟩ [("_law_script", u)]) ∧
      (∀ (H : Hp) (a : Addr) (ns : List Int), ns.length ≤ 63 → (∀ p ∈ cs, H p.2 = some (.tbl #[])) → SqL K H a (ns.map L2.V.int) → sp [.ref a] H (fun v _ => v = .bl true) fun _ _ _ => False) ∧
      ∀ base : Heap, K.In base → base.Ns mainGlobals mg → (∀ p ∈ cs, LamX.TabB base mg p.1 p.2) → FnG ⟨PySem.Challenge.rw_shakenwords_k31_machines_recognized.prog, w, K, mg, base, True⟩ 13 fa fd ["_law_script"] sp := by
  obtain ⟨oc, od, dV, kV, doc, pm, an, cdv, ct, osl, e, lk, hcd, _, _⟩ := id F.ex
  obtain ⟨cc, ec⟩ := He.codeIn_ref hcd
  have hfc : fd.code = .ref cc := by rw [e]; exact ec
  have hco : He.codeOf K ("law", none) = cc := He.codeOf_eq (by rw [← ef]; exact lk) hfc
  let ts : TabSet := ⟨[((He.cT K ("law", none)).2, ("law" : Str) ++ ".<locals>." ++ "<lambda>")]⟩
  refine ⟨K, fd, tfL.map (He.cT K), fun vs H Q _ => ∃ (a : Addr) (ns : List Int), vs = [.ref a] ∧ SqL K H a (ns.map .int) ∧ LamX.Tabs ts.T H ∧ lawOk 12 1 F__law_open g_law ns ∧ ∀ H', Q (.bl true) H', KX, fun p hp => ?_, fun p hp => ?_, fun p hp => ?_, fun s u => F.bindsA (ps := ["_law_script"]) (fun _ _ _ _ _ _ us hl => match us, hl with | [_], _ => rfl) s [u] rfl, fun H a ns hl hT hS => ⟨a, ns, rfl, hS, fun p hp => ?_, law_plain ns hl, fun _ => rfl⟩, fun base hK hN hB => ?_⟩
  · obtain ⟨q, hq, rfl⟩ := List.mem_map.mp hp
    exact c.empty q hq
  · obtain ⟨q, hq, rfl⟩ := List.mem_map.mp hp
    exact c.out q hq
  · obtain ⟨q, hq, rfl⟩ := List.mem_map.mp hp
    exact PySem.W.codeHd_of_K KX (c.hd q hq)
  · rw [List.mem_singleton.mp hp]
    exact LamX.TabS.nil (hT _ (List.mem_map.mpr ⟨("law", none), List.mem_singleton.mpr rfl, rfl⟩))
  · refine @lawG ts ⟨PySem.Challenge.rw_shakenwords_k31_machines_recognized.prog, w, K, mg, base, True⟩ 12 _ 12 1 (top 75) N_law "_law_script" "_law_pen" "_law_open" F__law_open g_law fa fd _ _ _ _ _ _ F sc_law rfl rfl rfl (by decide) rfl (h__law_open V) (by decide) rfl (by first | exact Or.inl rfl | exact Or.inr rfl) rfl (fun X W C hf tk hq hc => d_law V True.intro C hf tk ⟨(He.cT K ("law", none)).1, (He.cT K ("law", none)).2, hB _ (List.mem_map.mpr ⟨("law", none), List.mem_singleton.mpr rfl, rfl⟩), ?_, ?_, fun p hp _ => ?_⟩) (by decide) (by decide) (by decide) (by intro _; rfl)
    · rw [hc, hfc]
      show Value.ref cc = .ref (He.codeOf K ("law", none))
      rw [hco]
    · rw [hq]
      exact List.mem_singleton.mpr rfl
    · rw [List.mem_singleton.mp hp, hq]
end Q3
open PySem PySem.W PySem.Calls PyProof.Rows
theorem PySem.Challenge.cw_shakenwords_k31_machines_recognized_holds : PySem.Challenge.rw_shakenwords_k31_machines_recognized.Holds := by
  w_on; o_law
  letI : Q3.TabSet := ⟨[]⟩
  refine HandSHeadRun.head_any (r := OpenLaw.row PySem.Challenge.rw_shakenwords_k31_machines_recognized) (q := view (OpenLaw.row PySem.Challenge.rw_shakenwords_k31_machines_recognized).prog [75]) (H := Q3.hkL) (ob := Q3.obL) (M := 20000) (loose := Q3.looseL) (d := HandSHeadRun.topDef (OpenLaw.row PySem.Challenge.rw_shakenwords_k31_machines_recognized).prog 75) (kwd := []) Q3.obL_eq
    (by kernel_rfl) (fun s => by kernel_rfl) Q3.runL (by kernel_rfl) (by kernel_rfl) (by kernel_rfl) (by rfl) (by first | assumption | decide +kernel) (by decide +kernel) ⟨rfl, rfl, rfl, rfl, rfl, by decide +kernel⟩ ?hw ?hc
  case hw => w_witness2
  case hc =>
    refine Q3.walk_G (l := PySem.Challenge.rw_shakenwords_k31_machines_recognized) (n := 63) (k := 13) (x := "_law_script") rfl (by decide) (by kernel_rfl) ⟨rfl, by decide, by decide⟩ ?F
    intro w mg fa h Y Gn hmg0
    obtain ⟨K, KX, c⟩ := Y
    have hmg : mg ("law" : PySem.Str) = some (.ref fa) := by
      have e : (HandSHeadRun.topDef (OpenLaw.row PySem.Challenge.rw_shakenwords_k31_machines_recognized).prog 75).name = ("law" : PySem.Str) := by kernel_rfl
      rw [← e]
      exact hmg0
    obtain ⟨fd, F⟩ := c.t.d.def_ 29 (d := Q3.dd_law) rfl
    have e := hmg.symm.trans (He.glo_ok KX Gn (c.t.d.fact 29 (f := .glo "law") rfl))
    cases e
    have V : Q3.Fx K mg := Q3.fxL KX Gn c.t.d c.more
    exact Q3.endL KX c V rfl F
