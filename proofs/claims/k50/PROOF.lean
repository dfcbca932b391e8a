import PyProof.Rows.All
import Wide.All
import OpenK.AllK
import Wide.FinOn
import KE.KStateDown
import KE.KDictKeyed
import HandS.ForMost
import HandS.Exc
import HandS.ExcOwn
import HandS.WordsExc
import HandS.HeadHook2
import HandS.Lambda
import HandS.ExcIs
import HandS.SetBool
import HandS.Dict
import PyProof.TupleKey
import PyProof.P3Eq
import PyProof.FactsAll.NoneType_1
import HandS.IsInst
import HandS.TupAny
import HandS.TupMul
import HandS.Style
import HandS.Small
import HandS.Wide
import PyProof.StrOps2
import HandS.Iter
import HandS.Defaults
import HandS.HeadEnd
import HandS.Replace
import HandS.SortInts
import HandS.StrMore
import PyProof.ListStr
import HandS.Text
import HandS.Deep
import KE.GoesMore
import PyProof.EnumMake
import HandS.SetFor
import HandS.SetTxt0
import PyProof.Rows.SortShellAny
import HandS.Strs
import HandS.Words
import HandS.ExcValue
import HandS.EndTab
import HandS.HeadHook4
import KE.KRevSl
import HandS.TupLen
import HandS.More
import KE.KDictDisplayH
import PyProof.ZipIter
import PyProof.EnumIter
import HandS.Zip
import KE.GoesEnumKw
import PyProof.Rows.CallKwBuiltin
import HandS.NoneIn
import HandS.Conv
import KE.DataMinMax
import KE.KTupSum
import HandS.Head0
import HandS.Head1
import HandS.Head2
import PySem.Challenge.RW_shakenwords_k50_errors_by_hand
set_option Elab.async false
set_option linter.all false
set_option maxRecDepth 100000
set_option maxHeartbeats 8000000
namespace Q3
open PySem PySem.Spec PyProof.Rows L2
def frY (n : Nat) (g : Addr → Option Obj) : PySem.W.Frag := He.frT g (sysModules :: He.asD g n)
def obsY (n : Nat) (fa : List He.Fa) (fn : List He.DefD) (ts : List He.Tab) (tf : List He.Defn) (ex : PySem.W.Frag → Bool) (g : Addr → Option Obj) : He.AlX := (He.obsT fa fn ts (frY n g), ex (frY n g) && He.tabsB g tf (frY n g))
theorem saysY_of {n : Nat} {fa : List He.Fa} {fn : List He.DefD} {ts : List He.Tab} {tf : List He.Defn} {ex : PySem.W.Frag → Bool} {w : World} {h : Heap} (e : obsY n fa fn ts tf ex h.get? = He.valX fn ts w) : He.SaysX fa fn ts tf ex w h (frY n h.get?) := by
  have e1 : He.obsT fa fn ts (frY n h.get?) = He.valT fn ts w := congrArg (fun z : He.AlX => z.1) e
  have e2 : (ex (frY n h.get?) && He.tabsB h.get? tf (frY n h.get?)) = true := congrArg (fun z : He.AlX => z.2) e
  obtain ⟨h1, h2⟩ := Bool.and_eq_true_iff.mp e2
  have key : ∀ p ∈ tf, PySem.W.codeHdIn (frY n h.get?) (He.cT (frY n h.get?) p).1 (He.cT (frY n h.get?) p).2 = true ∧ ∃ o, h.get? (He.cT (frY n h.get?) p).2 = some o ∧ He.emptyTab o = true := fun p hp => by
    obtain ⟨h3, h4⟩ := Bool.and_eq_true_iff.mp (List.all_eq_true.mp h2 p hp)
    refine ⟨h3, ?_⟩
    cases q : h.get? (He.cT (frY n h.get?) p).2 with
    | none => rw [q] at h4; cases h4
    | some o => rw [q] at h4; exact ⟨o, rfl, h4⟩
  exact ⟨e1, h1, fun p hp => (key p hp).1, fun p hp => by
    obtain ⟨_, o, q, z⟩ := key p hp
    exact He.frT_none q z, fun p hp => by
    obtain ⟨_, o, q, z⟩ := key p hp
    rw [q, He.emptyTab_eq z]⟩
def hookY (n : Nat) (fa : List He.Fa) (fn : List He.DefD) (ts : List He.Tab) (tf : List He.Defn) (ex : PySem.W.Frag → Bool) : PySem.W.Hook where
  α := He.AlX
  obs := fun s => obsY n fa fn ts tf ex s.heap.get?
  val := fun w => He.valX fn ts w
  says := fun w h => ∃ K : PySem.W.Frag, K.In h ∧ He.SaysX fa fn ts tf ex w h K
  of := fun _ _ e => ⟨_, He.frT_in, saysY_of e⟩
  keeps := fun _ _ _ ⟨K, hK, c⟩ k => ⟨K, PySem.W.Frag.In.keeps hK k, ⟨c.t, c.more, c.hd, c.out, fun p hp => k _ _ (c.empty p hp)⟩⟩
theorem obsY_eq {n : Nat} {fa : List He.Fa} {fn : List He.DefD} {ts : List He.Tab} {tf : List He.Defn} {ex : PySem.W.Frag → Bool} {g : Addr → Option Obj} {s : Shared} (h : ∀ a, g a = s.heap.get? a) : obsY n fa fn ts tf ex g = (hookY n fa fn ts tf ex).obs s := by
  have e : g = s.heap.get? := funext h
  rw [e] <;> rfl
def top (i : Nat) : Stmt := PySem.Challenge.pw_shakenwords_k50_errors_by_hand.main.body.getD i (.Pass ⟨0, 0, 0, 0⟩)
def clL : List Str := ["NoWide", "NoMachine", "NoLetters", "NoWord", "NoCounts", "NoDigits", "NoPlace", "NoPiece", "NoPieces", "NoPair", "NoMany", "NoLot", "NoBasket", "NoLetter", "NoUndo", "NoThings", "NoMatch", "HasTable", "HasLasso", "TooGreat"]
def dd_are_letters : He.DefD := ⟨("are_letters", none), "are_letters", "are_letters", defArgs (top 25), defBody (top 25), defScope (top 25), [], []⟩
def dd_need_letters : He.DefD := ⟨("need_letters", none), "need_letters", "need_letters", defArgs (top 26), defBody (top 26), defScope (top 26), [], []⟩
def dd_is_word : He.DefD := ⟨("is_word", none), "is_word", "is_word", defArgs (top 27), defBody (top 27), defScope (top 27), [], []⟩
def dd_raw_counts : He.DefD := ⟨("raw_counts", none), "raw_counts", "raw_counts", defArgs (top 29), defBody (top 29), defScope (top 29), [], []⟩
def dd_counts_of : He.DefD := ⟨("counts_of", none), "counts_of", "counts_of", defArgs (top 30), defBody (top 30), defScope (top 30), [], []⟩
def dd__law_spread : He.DefD := ⟨("_law_spread", none), "_law_spread", "_law_spread", defArgs (top 32), defBody (top 32), defScope (top 32), [], []⟩
def dd__law_open : He.DefD := ⟨("_law_open", none), "_law_open", "_law_open", defArgs (top 33), defBody (top 33), defScope (top 33), [], []⟩
def dd__law_take : He.DefD := ⟨("_law_take", none), "_law_take", "_law_take", defArgs (top 34), defBody (top 34), defScope (top 34), [], []⟩
def dd__law_z_pick : He.DefD := ⟨("_law_z_pick", none), "_law_z_pick", "_law_z_pick", defArgs (top 35), defBody (top 35), defScope (top 35), [], []⟩
def dd__law_z_kinds : He.DefD := ⟨("_law_z_kinds", none), "_law_z_kinds", "_law_z_kinds", defArgs (top 36), defBody (top 36), defScope (top 36), [], []⟩
def dd_law : He.DefD := ⟨("law", none), "law", "law", defArgs (top 37), defBody (top 37), defScope (top 37), [], []⟩
def fnL : List He.DefD := [dd_are_letters, dd_need_letters, dd_is_word, dd_raw_counts, dd_counts_of, dd__law_spread, dd__law_open, dd__law_take, dd__law_z_pick, dd__law_z_kinds, dd_law]
def fa0 : List He.Fa := [.glo "are_letters", .glo "need_letters", .glo "is_word", .glo "raw_counts", .glo "counts_of", .glo "_law_spread", .glo "_law_open", .glo "_law_take", .glo "_law_z_pick", .glo "_law_z_kinds", .glo "law", .glo "ShakenError"]
def fa1 : List He.Fa := [.glo "NoWide", .glo "NoMachine", .glo "NoLetters", .glo "NoWord", .glo "NoCounts", .glo "NoDigits", .glo "NoPlace", .glo "NoPiece", .glo "NoPieces", .glo "NoPair", .glo "NoMany", .glo "NoLot"]
def fa2 : List He.Fa := [.glo "NoBasket", .glo "NoLetter", .glo "NoUndo", .glo "NoThings", .glo "NoMatch", .glo "HasTable", .glo "HasLasso", .glo "TooGreat", .free "ArithmeticError", .free "LookupError", .free "TypeError", .free "ValueError"]
def fa3 : List He.Fa := [.free "all", .free "enumerate", .free "int", .free "isinstance", .free "len", .free "list", .free "range", .free "set", .free "sorted", .free "str", .free "tuple", .exc "HasLasso"]
def fa4 : List He.Fa := [.exc "HasTable", .exc "NoBasket", .exc "NoCounts", .exc "NoDigits", .exc "NoLetter", .exc "NoLetters", .exc "NoLot", .exc "NoMachine", .exc "NoMany", .exc "NoMatch", .exc "NoPair", .exc "NoPiece"]
def fa5 : List He.Fa := [.exc "NoPieces", .exc "NoPlace", .exc "NoThings", .exc "NoUndo", .exc "NoWide", .exc "NoWord", .exc "TooGreat", .int "MOST_LETTERS" 3, .str "ALPHABET" "abcdefghijklmnopqrstuvwxyz"]
def faL : List He.Fa := fa0 ++ fa1 ++ fa2 ++ fa3 ++ fa4 ++ fa5
def loose0 : List Str := ["ShakenError", "NoWide", "NoMachine", "NoLetters", "NoWord", "NoCounts", "NoDigits", "NoPlace", "NoPiece", "NoPieces", "NoPair", "NoMany"]
def loose1 : List Str := ["NoLot", "NoBasket", "NoLetter", "NoUndo", "NoThings", "NoMatch", "HasTable", "HasLasso", "TooGreat", "ALPHABET", "MOST_LETTERS", "are_letters"]
def loose2 : List Str := ["need_letters", "is_word", "raw_counts", "counts_of", "_law_spread", "_law_open", "_law_take", "_law_z_pick", "_law_z_kinds"]
def looseL : List Str := loose0 ++ loose1 ++ loose2
def excB (K : PySem.W.Frag) (D : Addr) : Bool := decide (PySem.W.findIn K (.ref D) "__getattribute__" = some (some (.builtin "BaseException.__getattribute__"))) && (decide (PySem.W.findIn K (.ref D) "__getattr__" = some none) && (decide (PySem.W.subIn K (.ref D) (.type "BaseException") = some true) &&
  (PySem.W.hasDictIn K D && (decide (PySem.W.findIn K (.ref D) "__class__" = some (some (.builtin "object.__class__"))) && (decide (PySem.W.specialIn K (.builtin "object.__class__") "__get__" = some (some (.builtin "getset_descriptor.__get__"))) && (decide (PySem.W.takesIn K (.builtin "object.__class__") = some true) && decide (PySem.W.mroIn K D (.type "object") = some true)))))))
def exB (cl : List Str) (K : PySem.W.Frag) : Bool := (K.lookup PySem.sysModules).isSome && cl.all fun x => (decide (PySem.W.kitOne K (.ref (He.ga K x)) (.ref (He.ga K "ShakenError")) = some true) && (decide (PySem.W.kitOne K (.ref (He.ga K x)) (.type "LookupError") = some false) && (decide (PySem.W.kitOne K (.ref (He.ga K x)) (.type "ArithmeticError") = some false) && decide (PySem.W.kitOne K (.ref (He.ga K x)) (.type "TypeError") = some false)))) && excB K (He.ga K x) && (decide (PySem.W.kitOne K (.ref (He.ga K x)) (.type "ValueError") = some true) && (decide (PySem.W.exmOne K (.ref (He.ga K x)) (.ref (He.ga K "ShakenError")) = some true) && (decide (PySem.W.exmOne K (.ref (He.ga K x)) (.ref (He.ga K x)) = some true) &&
  cl.all fun y => decide (PySem.W.kitOne K (.ref (He.ga K x)) (.ref (He.ga K y)) = some (x == y)))))
def tfL : List He.Defn := []
abbrev Rw : PySem.W.OpenRow := PySem.W.OpenLaw.row PySem.Challenge.rw_shakenwords_k50_errors_by_hand
abbrev hkL : PySem.W.Hook := Q3.hookY 4 faL fnL [] tfL (exB clL)
def obL (s : PySem.W.SharedT) : He.AlX := Q3.obsY 4 faL fnL [] tfL (exB clL) (HandSHeadRun.getT s)
theorem obL_eq (s : PySem.W.SharedT) : obL s = hkL.obs s.abs := Q3.obsY_eq (HandSHeadRun.getT_eq s)
theorem runL (w : World) : HandSHeadRun.RunEq Rw (PySem.W.view Rw.prog [37]) hkL obL 20000 looseL w := by
  intro os
  kernel_rfl
end Q3
/-! Q2a: data as keys of dicts: tuples of numbers, None and such tuples. -/
namespace Q3
open PySem PySem.Spec PyProof.Rows L2
abbrev D := PyData
mutual
/-- what may stand in a tuple that is a key -/
def keyD : D → Bool
  | .none => true
  | .int _ => true
  | .tuple xs => keyA xs
  | _ => false
def keyA : List D → Bool
  | [] => true
  | x :: xs => keyD x && keyA xs
end
def hashN : Int := 4238894112
mutual
def hashD : D → Int
  | .none => hashN
  | .int i => hashInt i
  | .bool b => PpSet.hB b
  | .tuple xs => reduceHash (Builtin.Tuple.tupleHashOf (hashA xs))
  | _ => 0
def hashA : List D → List Int
  | [] => []
  | x :: xs => hashD x :: hashA xs
end
mutual
def drawD : D → Nat
  | .tuple xs => drawA xs + 1
  | _ => 1
def drawA : List D → Nat
  | [] => 0
  | x :: xs => drawD x + drawA xs
end
section
variable {prog : Program} {w : World} {A : Around} {E : Value → Shared → Prop} {s : Shared}
theorem pyHash_none {Q : Int → Shared → Prop} (h : Q hashN { s with toks := s.toks + 1 }) : wpAny (model prog w) A (pyHash .none) Q E s := by
  have hT : s.TypeIs .none "NoneType" := rfl
  unfold pyHash
  have hv : [Value.none].any Value.onHeap = false := rfl
  refine wpAny_bind ?_
  rw [cRoomFor, if_neg (by rw [hv]; exact Bool.false_ne_true)]; refine wpAny_pure ?_
  refine wpAny_bind (wpAny_specialOf hT PySem.F.slot_NoneType_hash.lookup ?_)
  show wpAny _ _ (if (some (Value.builtin "NoneType.__hash__") == some Value.none) = true then _ else _) Q E s
  rw [if_neg (by rw [beq_builtin_none]; exact Bool.false_ne_true)]
  refine wpAny_bind (wpAny_specialOf hT PySem.F.slot_NoneType_hash.lookup ?_)
  show wpAny _ _ (callSpecialIfBoundUnlessNone? .none "__hash__" _ >>= _) Q E s
  refine wpAny_bind (wpAny_callSpecialIfBoundUnlessNone?_slot hT PySem.F.slot_NoneType_hash
    (wpAny_call_entry PySem.F.slot_NoneType_hash hT PySem.F.entry_NoneType_hash ?_ (PySem.F.args_NoneType_hash_1 _)))
  unfold Builtin.«NoneType.__hash__»
  refine wpAny_bind (wpAny_of_eq (a := (Value.none, [])) rfl ?_)
  show wpAny _ _ (retInt 0xFCA86420) _ _ _
  refine wpAny_ret_mkInt ?_
  show wpAny _ _ (if (decide (-(2 : Int) ^ 63 ≤ 0xFCA86420) && decide ((0xFCA86420 : Int) < 2 ^ 63)) = true then _ else _) Q E _
  rw [if_pos (by decide)]
  exact wpAny_pure h
theorem keyA_iff : ∀ {xs : List D}, keyA xs = true ↔ ∀ x ∈ xs, keyD x = true
  | [] => by simp [keyA]
  | x :: xs => by simp [keyA, keyA_iff (xs := xs)]
theorem depthAll_le {k : Nat} : ∀ {xs : List D}, PyData.depthAll xs ≤ k ↔ ∀ x ∈ xs, x.depth ≤ k
  | [] => by simp [PyData.depthAll]
  | x :: xs => by
    rw [PyData.depthAll]
    simp only [List.mem_cons, forall_eq_or_imp]
    rw [← depthAll_le (xs := xs)]
    omega
theorem hashA_app : ∀ (xs : List D) (x : D), hashA (xs ++ [x]) = hashA xs ++ [hashD x]
  | [], x => rfl
  | y :: xs, x => by rw [List.cons_append, hashA, hashA, hashA_app xs x]; rfl
theorem drawA_app : ∀ (xs : List D) (x : D), drawA (xs ++ [x]) = drawA xs + drawD x
  | [], x => by simp [drawA]
  | y :: xs, x => by rw [List.cons_append, drawA, drawA, drawA_app xs x]; omega
theorem hash_data : ∀ (n : Nat) (d : D) (A : Around) (E : Value → Shared → Prop) (s : Shared) (v : Value) (as : List Addr) (Q : Int → Shared → Prop), d.depth ≤ n → Reads s.heap v d as → keyD d = true → A.units + n < cLine → Q (hashD d) { s with toks := s.toks + drawD d } → wpAny (model prog w) A (pyHash v) Q E s
  | _, .none, A, E, s, v, as, Q, _, r, _, _, h => by
    cases r
    exact pyHash_none h
  | _, .int i, A, E, s, v, as, Q, _, r, _, _, h => by
    cases r
    exact wpAny_pyHash_int h
  | _, .bool _, _, _, _, _, _, _, _, _, k, _, _ => nomatch k
  | _, .str _, _, _, _, _, _, _, _, _, k, _, _ => nomatch k
  | _, .list _, _, _, _, _, _, _, _, _, k, _, _ => nomatch k
  | _, .dict _, _, _, _, _, _, _, _, _, k, _, _ => nomatch k
  | 0, .tuple xs, _, _, _, _, _, _, hd, _, _, _, _ => by rw [PyData.depth] at hd; omega
  | n + 1, .tuple xs, A, E, s, v, as, Q, hd, r, k, hu, h => by
    cases r with
    | @tuple a o vs m _ _ ho hc hdt ra =>
      have hT : s.TypeIs (.ref a) "tuple" := ⟨o, ho, hc⟩
      have hk : ∀ x ∈ xs, keyD x = true := keyA_iff.mp (by rw [keyD] at k; exact k)
      have hdx : ∀ x ∈ xs, x.depth ≤ n := depthAll_le.mp (by rw [PyData.depth] at hd; omega)
      unfold pyHash
      first | unfold pyHashByItsType | skip
      first | refine wpAny_bind (wpAny_cRoomFor_or (.inr (by omega)) ?_) | skip
      refine wpAny_bind (wpAny_specialOf hT PySem.F.slot_tuple_hash.lookup ?_)
      show wpAny _ _ (if (some (Value.builtin "tuple.__hash__") == some Value.none) = true then _ else _) Q E s
      rw [if_neg (by rw [beq_builtin_none]; exact Bool.false_ne_true)]
      refine wpAny_bind (wpAny_specialOf hT PySem.F.slot_tuple_hash.lookup ?_)
      show wpAny _ _ (callSpecialIfBoundUnlessNone? (.ref a) "__hash__" _ >>= _) Q E s
      refine wpAny_bind (wpAny_callSpecialIfBoundUnlessNone?_slot hT PySem.F.slot_tuple_hash (wpAny_call_entry PySem.F.slot_tuple_hash hT PySem.F.entry_tuple_hash ?_ (PySem.F.args_tuple_hash_1 _)))
      show wpAny _ _ (Builtin.Tuple.tupleItemsOf (.ref a) >>= _) _ _ s
      refine wpAny_bind (wpAny_tupleItemsOf ho hdt ?_)
      refine wpAny_bind ?_
      rw [← Array.forIn_toList]
      refine wpAny_forIn_list _
        (fun rest (b : Array Int) s' => ∃ done left las, xs = done ++ left ∧ ReadsAll s.heap rest left las ∧ b.toList = hashA done ∧ s' = { s with toks := s.toks + drawA done })
        _ ?_ ?_ _ _ ⟨[], xs, _, rfl, ra, rfl, rfl⟩
      · rintro x rest b s' ⟨done, left, las, hx, hl, hb, rfl⟩
        cases hl with
        | @cons _ _ y ys _ _ r1 r2 =>
          have my : y ∈ xs := by rw [hx]; simp
          have nx : xs = (done ++ [y]) ++ ys := by rw [hx]; simp
          refine wpAny_bind (hash_data n y _ _ { s with toks := s.toks + drawA done } _ _ _ (hdx y my) r1 (hk y my) (by show A.units + 1 + n < cLine; omega) ?_)
          first
            | exact wpAny_pure ⟨done ++ [y], ys, _, nx, r2, by rw [Array.toList_push, hb, hashA_app], by rw [drawA_app, ← Nat.add_assoc]⟩
            | exact wpAny_bind (wpAny_pure (wpAny_pure ⟨done ++ [y], ys, _, nx, r2, by rw [Array.toList_push, hb, hashA_app], by rw [drawA_app, ← Nat.add_assoc]⟩))
      · rintro b s' ⟨done, left, las, hx, hl, hb, rfl⟩
        cases hl
        rw [List.append_nil] at hx
        subst hx
        show wpAny _ _ (retInt (Builtin.Tuple.tupleHashOf b.toList)) _ _ _
        rw [hb]
        refine wpAny_ret_mkInt ?_
        show wpAny _ _ (if (decide (-(2 : Int) ^ 63 ≤ Builtin.Tuple.tupleHashOf (hashA xs)) && decide (Builtin.Tuple.tupleHashOf (hashA xs) < 2 ^ 63)) = true then _ else _) Q E _
        rw [hashD, drawD] at h
        unfold reduceHash at h
        by_cases hr : (decide (-(2 : Int) ^ 63 ≤ Builtin.Tuple.tupleHashOf (hashA xs)) && decide (Builtin.Tuple.tupleHashOf (hashA xs) < 2 ^ 63)) = true
        · rw [if_pos hr]
          rw [if_pos hr] at h
          exact wpAny_pure (by simpa [Nat.add_assoc] using h)
        · rw [if_neg hr]
          rw [if_neg hr] at h
          exact wpAny_bind (wpAny_rule (wpAny_pure (by simpa [Nat.add_assoc] using h)))
end
end Q3
/-! Q2b: tuples as keys; a dict at the level of its entries. -/
namespace Q3
open PySem PySem.Spec PyProof.Rows L2
/-! ### tuples -/
theorem keyD_lay : ∀ (n : Nat) (d : D), d.depth ≤ n → keyD d = true → d.canLay0 = true
  | _, .none, _, _ => rfl
  | _, .int _, _, _ => rfl
  | _, .bool _, _, k => nomatch k
  | _, .str _, _, k => nomatch k
  | _, .list _, _, k => nomatch k
  | _, .dict _, _, k => nomatch k
  | 0, .tuple xs, hd, _ => by rw [PyData.depth] at hd; omega
  | n + 1, .tuple xs, hd, k => by
    have hk : ∀ x ∈ xs, keyD x = true := keyA_iff.mp (by rw [keyD] at k; exact k)
    have hdx : ∀ x ∈ xs, x.depth ≤ n := depthAll_le.mp (by rw [PyData.depth] at hd; omega)
    rw [PyData.canLay0]
    have all : ∀ ys : List D, (∀ y ∈ ys, y ∈ xs) → PyData.canLayAll0 ys = true := fun ys => by
      induction ys with
      | nil => intro _; rfl
      | cons y ys ih =>
        intro h
        have my := h y List.mem_cons_self
        rw [PyData.canLayAll0, keyD_lay n y (hdx y my) (hk y my), ih fun z m => h z (List.mem_cons_of_mem _ m)]
        rfl
    exact all xs fun _ m => m
mutual
theorem eqv_key : ∀ {d e : D}, keyD d = true → keyD e = true → PyData.eqv d e = true → d = e
  | .none, e, _, k, h => by
    cases e <;> first | rfl | (simp [keyD] at k; done) | (simp [PyData.eqv] at h; done)
  | .int i, e, _, k, h => by
    cases e <;> first | (simp [keyD] at k; done) | (simp [PyData.eqv] at h; done) | (simp [PyData.eqv] at h; rw [h])
  | .tuple xs, e, k1, k, h => by
    cases e with
    | tuple ys =>
      rw [PyData.eqv] at h
      rw [keyD] at k1 k
      rw [eqvA_key k1 k h]
    | none => simp [PyData.eqv] at h
    | int _ => simp [PyData.eqv] at h
    | bool _ => simp [keyD] at k
    | str _ => simp [keyD] at k
    | list _ => simp [keyD] at k
    | dict _ => simp [keyD] at k
  | .bool _, _, k, _, _ => nomatch k
  | .str _, _, k, _, _ => nomatch k
  | .list _, _, k, _, _ => nomatch k
  | .dict _, _, k, _, _ => nomatch k
theorem eqvA_key : ∀ {xs ys : List D}, keyA xs = true → keyA ys = true → PyData.eqvAll xs ys = true → xs = ys
  | [], [], _, _, _ => rfl
  | [], _ :: _, _, _, h => by simp [PyData.eqvAll] at h
  | _ :: _, [], _, _, h => by simp [PyData.eqvAll] at h
  | x :: xs, y :: ys, k1, k2, h => by
    rw [keyA, Bool.and_eq_true] at k1 k2
    rw [PyData.eqvAll, Bool.and_eq_true] at h
    rw [eqv_key k1.1 k2.1 h.1, eqvA_key k1.2 k2.2 h.2]
end
theorem eqv_key_iff {d e : D} (n : Nat) (hd : d.depth ≤ n) (k1 : keyD d = true) (k2 : keyD e = true) : PyData.eqv d e = true ↔ d = e :=
  ⟨eqv_key k1 k2, fun h => by rw [← h]; exact SeqAt.eqv_refl d (keyD_lay n d hd k1)⟩
mutual
def beqD : D → D → Bool
  | .none, .none => true
  | .bool a, .bool b => a == b
  | .int a, .int b => a == b
  | .str a, .str b => a == b
  | .list xs, .list ys => beqL xs ys
  | .tuple xs, .tuple ys => beqL xs ys
  | .dict xs, .dict ys => beqM xs ys
  | _, _ => false
def beqL : List D → List D → Bool
  | [], [] => true
  | x :: xs, y :: ys => beqD x y && beqL xs ys
  | _, _ => false
def beqM : List (D × D) → List (D × D) → Bool
  | [], [] => true
  | (a, b) :: xs, (c, d) :: ys => beqD a c && beqD b d && beqM xs ys
  | _, _ => false
end
mutual
theorem beqD_self : ∀ d : D, beqD d d = true
  | .none => rfl
  | .bool _ => by simp [beqD]
  | .int _ => by simp [beqD]
  | .str _ => by simp [beqD]
  | .list xs => by rw [beqD]; exact beqL_self xs
  | .tuple xs => by rw [beqD]; exact beqL_self xs
  | .dict xs => by rw [beqD]; exact beqM_self xs
theorem beqL_self : ∀ d : List D, beqL d d = true
  | [] => rfl
  | x :: xs => by rw [beqL, beqD_self x, beqL_self xs]; rfl
theorem beqM_self : ∀ d : List (D × D), beqM d d = true
  | [] => rfl
  | (a, b) :: xs => by rw [beqM, beqD_self a, beqD_self b, beqM_self xs]; rfl
end
mutual
theorem beqD_eq : ∀ d e : D, beqD d e = true → d = e
  | .none, e, h => by cases e <;> first | rfl | (simp [beqD] at h)
  | .bool _, e, h => by cases e <;> first | (simp [beqD] at h; done) | (simp [beqD] at h; rw [h])
  | .int _, e, h => by cases e <;> first | (simp [beqD] at h; done) | (simp [beqD] at h; rw [h])
  | .str _, e, h => by cases e <;> first | (simp [beqD] at h; done) | (simp [beqD] at h; rw [h])
  | .list xs, e, h => by
    cases e with
    | list ys => rw [beqD] at h; rw [beqL_eq xs ys h]
    | _ => simp [beqD] at h
  | .tuple xs, e, h => by
    cases e with
    | tuple ys => rw [beqD] at h; rw [beqL_eq xs ys h]
    | _ => simp [beqD] at h
  | .dict xs, e, h => by
    cases e with
    | dict ys => rw [beqD] at h; rw [beqM_eq xs ys h]
    | _ => simp [beqD] at h
theorem beqL_eq : ∀ d e : List D, beqL d e = true → d = e
  | [], [], _ => rfl
  | [], _ :: _, h => by simp [beqL] at h
  | _ :: _, [], h => by simp [beqL] at h
  | x :: xs, y :: ys, h => by
    rw [beqL, Bool.and_eq_true] at h
    rw [beqD_eq x y h.1, beqL_eq xs ys h.2]
theorem beqM_eq : ∀ d e : List (D × D), beqM d e = true → d = e
  | [], [], _ => rfl
  | [], _ :: _, h => by simp [beqM] at h
  | _ :: _, [], h => by simp [beqM] at h
  | (a, b) :: xs, (c, d) :: ys, h => by
    rw [beqM, Bool.and_eq_true, Bool.and_eq_true] at h
    rw [beqD_eq a c h.1.1, beqD_eq b d h.1.2, beqM_eq xs ys h.2]
end
instance decD : DecidableEq D := fun a b => decidable_of_iff (beqD a b = true) ⟨beqD_eq a b, fun h => by rw [h]; exact beqD_self b⟩
/-- a tuple that is a key -/
def KeyT (d : D) : Prop := keyD d = true ∧ d.depth ≤ 7 ∧ ∃ xs, d = .tuple xs
instance (d : D) : Decidable (KeyT d) := by
  unfold KeyT
  have : Decidable (∃ xs, d = .tuple xs) := match d with
    | .tuple xs => .isTrue ⟨xs, rfl⟩
    | .none => .isFalse fun ⟨_, h⟩ => nomatch h
    | .bool _ => .isFalse fun ⟨_, h⟩ => nomatch h
    | .int _ => .isFalse fun ⟨_, h⟩ => nomatch h
    | .str _ => .isFalse fun ⟨_, h⟩ => nomatch h
    | .list _ => .isFalse fun ⟨_, h⟩ => nomatch h
    | .dict _ => .isFalse fun ⟨_, h⟩ => nomatch h
  infer_instance
def tIs (h : Heap) (d : D) (a : Addr) : Prop := KeyT d ∧ ∃ as, Reads h (.ref a) d as
theorem reads_keep {h h' : Heap} {x : Addr} {o : Obj} {es ep} (ho : h.get? x = some o) (hd : o.data = .dict es ep) (hs : Heap.SameBut x h h') : ∀ (n : Nat) (d : D) (v : Value) (as : List Addr), d.depth ≤ n → keyD d = true → Reads h v d as → ∃ bs, Reads h' v d bs
  | _, .none, _, _, _, _, r => by cases r; exact ⟨_, Reads.none⟩
  | _, .int i, _, _, _, _, r => by cases r; exact ⟨_, Reads.int _ _⟩
  | _, .bool _, _, _, _, k, _ => nomatch k
  | _, .str _, _, _, _, k, _ => nomatch k
  | _, .list _, _, _, _, k, _ => nomatch k
  | _, .dict _, _, _, _, k, _ => nomatch k
  | 0, .tuple xs, _, _, hd, _, _ => by rw [PyData.depth] at hd; omega
  | n + 1, .tuple xs, v, as, hdd, k, r => by
    cases r with
    | @tuple a o2 vs m _ _ ho2 hc hdt ra =>
      have hne : a ≠ x := by
        rintro rfl
        rw [ho] at ho2
        cases ho2
        rw [hd] at hdt
        exact nomatch hdt
      have hk : ∀ y ∈ xs, keyD y = true := keyA_iff.mp (by rw [keyD] at k; exact k)
      have hdx : ∀ y ∈ xs, y.depth ≤ n := depthAll_le.mp (by rw [PyData.depth] at hdd; omega)
      have all : ∀ (ys : List D) (us : List Value) (cs : List Addr), (∀ y ∈ ys, y ∈ xs) → ReadsAll h us ys cs → ∃ bs, ReadsAll h' us ys bs := fun ys => by
        induction ys with
        | nil => intro us cs _ q; cases q; exact ⟨_, ReadsAll.nil⟩
        | cons y ys ih =>
          intro us cs hy q
          cases q with
          | cons r1 r2 =>
            have my := hy y List.mem_cons_self
            obtain ⟨b1, q1⟩ := reads_keep ho hd hs n y _ _ (hdx y my) (hk y my) r1
            obtain ⟨b2, q2⟩ := ih _ _ (fun z m => hy z (List.mem_cons_of_mem _ m)) r2
            exact ⟨_, ReadsAll.cons q1 q2⟩
      obtain ⟨bs, q⟩ := all xs _ _ (fun _ m => m) ra
      exact ⟨_, Reads.tuple ((hs.2 a hne).trans ho2) hc hdt q⟩
theorem quiet_data {prog : Program} {w : World} : ∀ (n : Nat) (d : D) (A : Around) (E : Value → Shared → Prop) (s : Shared) (v : Value) (as : List Addr) (Q : Bool → Shared → Prop), d.depth ≤ n → keyD d = true → Reads s.heap v d as → Q true s → wpAny (model prog w) A (eqIsQuiet n v) Q E s
  | n, .none, A, E, s, v, as, Q, _, _, r, h => by
    cases r
    rw [eqIsQuiet_byValue n rfl]
    exact wpAny_pure h
  | n, .int i, A, E, s, v, as, Q, _, _, r, h => by
    cases r
    rw [eqIsQuiet_byValue n rfl]
    exact wpAny_pure h
  | _, .bool _, _, _, _, _, _, _, _, k, _, _ => nomatch k
  | _, .str _, _, _, _, _, _, _, _, k, _, _ => nomatch k
  | _, .list _, _, _, _, _, _, _, _, k, _, _ => nomatch k
  | _, .dict _, _, _, _, _, _, _, _, k, _, _ => nomatch k
  | 0, .tuple xs, _, _, _, _, _, _, hd, _, _, _ => by rw [PyData.depth] at hd; omega
  | n + 1, .tuple xs, A, E, s, v, as, Q, hdd, k, r, h => by
    cases r with
    | @tuple a o vs m _ _ ho hc hdt ra =>
      have hT : s.TypeIs (.ref a) "tuple" := ⟨o, ho, hc⟩
      have hk : ∀ y ∈ xs, keyD y = true := keyA_iff.mp (by rw [keyD] at k; exact k)
      have hdx : ∀ y ∈ xs, y.depth ≤ n := depthAll_le.mp (by rw [PyData.depth] at hdd; omega)
      unfold eqIsQuiet
      refine wpAny_bind (wpAny_specialOf hT PySem.F.slot_tuple_eq.lookup ?_)
      show wpAny _ _ (isInstance (.ref a) (.type "tuple") >>= _) _ _ s
      refine wpAny_bind (wpAny_isInstance hT isSubtype_tuple_tuple ?_)
      simp only [Bool.not_true, Bool.false_eq_true, if_false]
      refine wpAny_bind (wpAny_seqItems ho hdt ?_)
      refine wpAny_bind ?_
      show wpAny _ _ (forIn vs _ _) _ _ s
      rw [← Array.forIn_toList]
      refine wpAny_forIn_list _ (fun rest r s' => r.1 = none ∧ s' = s ∧ ∃ ys las, (∀ y ∈ ys, y ∈ xs) ∧ ReadsAll s.heap rest ys las) _ ?_ ?_ _ _ ⟨rfl, rfl, xs, _, fun _ m => m, ra⟩
      · rintro x rest r s' ⟨hr, rfl, ys, las, hy, hall⟩
        cases hall with
        | @cons _ _ y ys' _ _ r1 r2 =>
          have my := hy y List.mem_cons_self
          refine wpAny_bind (quiet_data n y _ _ _ _ _ _ (hdx y my) (hk y my) r1 ?_)
          simp only [Bool.not_true, Bool.false_eq_true, if_false]
          exact wpAny_pure ⟨rfl, rfl, ys', _, fun z m => hy z (List.mem_cons_of_mem _ m), r2⟩
      · rintro ⟨r1, r2⟩ s' ⟨hr, rfl, _⟩
        simp only at hr
        subst hr
        exact wpAny_pure h
/-- room for keys -/
def KeyRoom (A : Around) : Prop := A.units + 16 < cLine
def tKind (prog : Program) (w : World) : HeapKind prog w D where
  is := tIs
  hash := hashD
  draws := drawD
  room := KeyRoom
  inj := fun hx hy => by
    obtain ⟨⟨k1, d1, _⟩, as, r1⟩ := hx
    obtain ⟨_, bs, r2⟩ := hy
    exact SeqAt.Reads.unique _ _ _ _ _ (keyD_lay _ _ d1 k1) r1 r2
  keeps := fun hx ho hd hs => by
    obtain ⟨⟨k1, d1, e⟩, as, r1⟩ := hx
    obtain ⟨bs, r2⟩ := reads_keep ho hd hs 7 _ _ _ d1 k1 r1
    exact ⟨⟨k1, d1, e⟩, bs, r2⟩
  pyHash := fun hu hk h => by
    obtain ⟨⟨k1, d1, _⟩, as, r1⟩ := hk
    exact hash_data 7 _ _ _ _ _ _ _ d1 r1 k1 (by unfold KeyRoom at hu; omega) h
  eqBool := fun {A E s x y a b Q} hu hx hy h => by
    obtain ⟨⟨k1, d1, _⟩, as, r1⟩ := hx
    obtain ⟨⟨k2, d2, _⟩, bs, r2⟩ := hy
    refine SeqAt.eqAt_reads _ _ _ _ _ _ _ _ r1 r2 (keyD_lay _ _ d1 k1) (keyD_lay _ _ d2 k2) (by unfold KeyRoom at hu; have := Nat.min_le_left x.depth y.depth; omega) _ _ _ _ ?_
    have e : PyData.eqv x y = decide (x = y) := by
      rw [Bool.eq_iff_iff, decide_eq_true_eq]
      exact eqv_key_iff 7 d1 k1 k2
    rw [e]; exact h
  quiet := fun {A E s k a Q} hk h => by
    obtain ⟨⟨k1, d1, _⟩, as, r1⟩ := hk
    exact quiet_data 8 _ _ _ _ _ _ _ (Nat.le_trans d1 (by decide)) k1 r1 h
/-! ### a dict at the level of its entries -/
def kvE (e : D × V × V) (n : DictEntry) : Prop := RelV e.2.1 n.key ∧ RelV e.2.2 n.val ∧ n.hash = hashD e.1
/-- a dict whose keys are all truths or all tuples; each entry: the key's data, the key, the value -/
def dctE (es : List (D × V × V)) (ep0 : Nat) (a : Addr) : HO := .ext fun h => (a == sysModules) = false ∧ es.length ≤ sizeLine ∧ ∃ o ents ep, h.get? a = some o ∧ o.ExactDict ∧ o.data = .dict ents ep ∧ Paired kvE es ents.toList ∧ ep = ep0
def KMode (ks : List D) : Prop := ks.Nodup ∧ ((∀ k ∈ ks, ∃ i, k = .int i) ∨ (∀ k ∈ ks, ∃ b, k = .bool b) ∨ ∀ k ∈ ks, KeyT k)
/-- a dict's keys are texts (and there is one at least) -/
def TextK {β : Type} (es : List (Key × β)) : Prop := es ≠ [] ∧ ∀ e ∈ es, ∃ x, e.1 = .inr x
/-- a key of a dict whose keys are whole numbers and texts -/
def kD : Key → D
  | .inl i => .int i
  | .inr x => .str x
end Q3
/-! Q3a: heap-free states and what it means that a heap bears one. -/
namespace Q3
open PySem PySem.Spec PyProof.Rows L2
/-- the tables of code objects that a law's lambdas write in -/
class TabSet where
  T : List (Addr × Str)
variable [TabSet]
/-- what a slot holds: nothing, data that stays, a list of its own, a dict of its own, the law's pen -/
inductive R where
  | un | d (x : D) | l (xs : List D) | m (kvs : List (D × D)) | pen | e (c : Str) | sc (ns : List Int) | es (cs : List Str)
structure Pen where
  cells : List Int
  at_ : Int
  rest : Int
structure Sq where
  r : List R
  p : Option Pen
/-- an expression's value: a slot's, data, a new list -/
inductive PV where
  | s (i : Nat) | v (x : D) | o (c : R)
inductive Out (α : Type) where
  | ok (a : α) (s : Sq) | ex (c : Str) (s : Sq) | no
def Out.bind {α β : Type} (o : Out α) (k : α → Sq → Out β) : Out β := match o with
  | .ok a s => k a s
  | .ex c s => .ex c s
  | .no => .no
@[simp] theorem Out.bind_ok {α β : Type} (a : α) (s : Sq) (k : α → Sq → Out β) : (Out.ok a s).bind k = k a s := rfl
@[simp] theorem Out.bind_ex {α β : Type} (c : Str) (s : Sq) (k : α → Sq → Out β) : (Out.ex c s : Out α).bind k = .ex c s := rfl
@[simp] theorem Out.bind_no {α β : Type} (k : α → Sq → Out β) : (Out.no : Out α).bind k = .no := rfl
/-- how a statement ends -/
inductive Fl where
  | nx (s : Sq) | rt (r : R) (s : Sq) | bk (s : Sq) | ct (s : Sq) | ex (c : Str) (s : Sq) | no

/-! ### data in a heap -/
mutual
inductive Dn (K : PySem.W.Frag) (H : Hp) : V → D → Prop
  | non : Dn K H .non .none
  | bl (b : Bool) : Dn K H (.bl b) (.bool b)
  | int (i : Int) : Dn K H (.int i) (.int i)
  | str (x : Str) : Dn K H (.str x) (.str x)
  | lst {a : Addr} {xs : List V} {ds : List D} : H a = some (.lst xs) → DnAll K H xs ds → Dn K H (.ref a) (.list ds)
  | tup {a : Addr} {xs : List V} {ds : List D} : H a = some (.tup xs) → DnAll K H xs ds → Dn K H (.ref a) (.tuple ds)
  | dctK {a : Addr} {es : List (Key × V)} {kvs : List (D × D)} : H a = some (.dK es) → TextK es → kvs.map (·.1) = es.map (fun e => kD e.1) → DnAll K H (es.map (·.2)) (kvs.map (·.2)) → Dn K H (.ref a) (.dict kvs)
  | dctE {a : Addr} {es : List (D × V × V)} {ep : Nat} {kvs : List (D × D)} : H a = some (dctE es ep a) → kvs.map (·.1) = es.map (·.1) → KMode (kvs.map (·.1)) → DnAll K H (es.map (·.2.1)) (kvs.map (·.1)) → DnAll K H (es.map (·.2.2)) (kvs.map (·.2)) → Dn K H (.ref a) (.dict kvs)
inductive DnAll (K : PySem.W.Frag) (H : Hp) : List V → List D → Prop
  | nil : DnAll K H [] []
  | cons {v : V} {vs : List V} {d : D} {ds : List D} : Dn K H v d → DnAll K H vs ds → DnAll K H (v :: vs) (d :: ds)
end
def Ex (H H' : Hp) : Prop := ∀ a o, H a = some o → H' a = some o
theorem Ex.refl (H : Hp) : Ex H H := fun _ _ h => h
theorem Ex.trans {H H1 H2 : Hp} (a : Ex H H1) (b : Ex H1 H2) : Ex H H2 := fun x o h => b x o (a x o h)
theorem Ex.new {H : Hp} {p : Addr} {o : HO} (h : H p = none) : Ex H (upd H p o) := fun a u e => by
  rw [upd_ne (ne_of_none e h)]; exact e
theorem Ex.none {H H' : Hp} (e : Ex H H') {p : Addr} (h : H' p = none) : H p = none := by
  cases q : H p with
  | none => rfl
  | some o => rw [e p o q] at h; cases h
theorem ex_l {K : PySem.W.Frag} {H H' : Hp} {a : Addr} {xs : List V} (e : Ex H H') (h : SqL K H a xs) : SqL K H' a xs := by
  rcases h with (h | ⟨o, h⟩) | h
  · exact .inl (.inl (e _ _ h))
  · exact .inl (.inr ⟨o, e _ _ h⟩)
  · exact .inr h
theorem ex_t {K : PySem.W.Frag} {H H' : Hp} {a : Addr} {xs : List V} (e : Ex H H') (h : SqT K H a xs) : SqT K H' a xs := by
  rcases h with (h | ⟨o, h⟩) | h
  · exact .inl (.inl (e _ _ h))
  · exact .inl (.inr ⟨o, e _ _ h⟩)
  · exact .inr h
mutual
theorem Dn.mono {K : PySem.W.Frag} {H H' : Hp} (e : Ex H H') : ∀ {d : D} {v : V}, Dn K H v d → Dn K H' v d
  | _, _, .non => .non
  | _, _, .bl _ => .bl _
  | _, _, .int _ => .int _
  | _, _, .str _ => .str _
  | _, _, .lst h1 h2 => .lst (e _ _ h1) (DnAll.mono e h2)
  | _, _, .tup h1 h2 => .tup (e _ _ h1) (DnAll.mono e h2)
  | _, _, .dctK h1 ht h2 h3 => .dctK (e _ _ h1) ht h2 (DnAll.mono e h3)
  | _, _, .dctE h1 h2 h3 h4 h5 => .dctE (e _ _ h1) h2 h3 (DnAll.mono e h4) (DnAll.mono e h5)
theorem DnAll.mono {K : PySem.W.Frag} {H H' : Hp} (e : Ex H H') : ∀ {ds : List D} {vs : List V}, DnAll K H vs ds → DnAll K H' vs ds
  | _, _, .nil => .nil
  | _, _, .cons h1 h2 => .cons (Dn.mono e h1) (DnAll.mono e h2)
end
/-- the object o at a is a dict of the data kvs, in a heap F -/
def DctA (K : PySem.W.Frag) (F : Hp) (a : Addr) (o : HO) (kvs : List (D × D)) : Prop :=
  (∃ es : List (Key × V), o = .dK es ∧ TextK es ∧ kvs.map (·.1) = es.map (fun e => kD e.1) ∧ DnAll K F (es.map (·.2)) (kvs.map (·.2))) ∨
  ∃ (es : List (D × V × V)) (ep : Nat), o = dctE es ep a ∧ kvs.map (·.1) = es.map (·.1) ∧ KMode (kvs.map (·.1)) ∧ DnAll K F (es.map (·.2.1)) (kvs.map (·.1)) ∧ DnAll K F (es.map (·.2.2)) (kvs.map (·.2))
theorem DctA.mono {K : PySem.W.Frag} {F F' : Hp} {a : Addr} {o : HO} {kvs : List (D × D)} (e : Ex F F') (h : DctA K F a o kvs) : DctA K F' a o kvs := by
  rcases h with ⟨es, h1, ht, h2, h3⟩ | ⟨es, ep, h1, h2, h3, h4, h5⟩
  · exact .inl ⟨es, h1, ht, h2, h3.mono e⟩
  · exact .inr ⟨es, ep, h1, h2, h3, h4.mono e, h5.mono e⟩
theorem DctA.notbl {K : PySem.W.Frag} {F : Hp} {a : Addr} {o : HO} {kvs : List (D × D)} (h : DctA K F a o kvs) (ps : Array Value) : o ≠ .tbl ps := by
  rcases h with ⟨es, rfl, _⟩ | ⟨es, ep, rfl, _⟩ <;> exact fun z => nomatch z
theorem DctA.dn {K : PySem.W.Frag} {F F' : Hp} {a : Addr} {o : HO} {kvs : List (D × D)} (h : DctA K F a o kvs) (e : Ex F F') (q : F' a = some o) : Dn K F' (.ref a) (.dict kvs) := by
  rcases h with ⟨es, rfl, ht, h2, h3⟩ | ⟨es, ep, rfl, h2, h3, h4, h5⟩
  · exact .dctK q ht h2 (h3.mono e)
  · exact .dctE q h2 h3 (h4.mono e) (h5.mono e)
theorem Dn.dctA {K : PySem.W.Frag} {F : Hp} {v : V} {kvs : List (D × D)} (h : Dn K F v (.dict kvs)) : ∃ a o, v = .ref a ∧ F a = some o ∧ DctA K F a o kvs := by
  cases h with
  | dctK h1 ht h2 h3 => exact ⟨_, _, rfl, h1, .inl ⟨_, rfl, ht, h2, h3⟩⟩
  | dctE h1 h2 h3 h4 h5 => exact ⟨_, _, rfl, h1, .inr ⟨_, _, rfl, h2, h3, h4, h5⟩⟩
section
variable {K : PySem.W.Frag} {H : Hp}
theorem DnAll.length : ∀ {ds : List D} {vs : List V}, DnAll K H vs ds → vs.length = ds.length
  | [], _, h => by cases h; rfl
  | _ :: _, _, h => by
    cases h with
    | cons _ h2 => simp [DnAll.length h2]
theorem DnAll.get : ∀ {ds : List D} {vs : List V} {i : Nat} {d : D}, DnAll K H vs ds → ds[i]? = some d → ∃ v, vs[i]? = some v ∧ Dn K H v d
  | [], _, _, _, _, e => by simp at e
  | _ :: _, _, 0, d, h, e => by
    cases h with
    | cons h1 _ =>
      simp at e; subst e
      exact ⟨_, rfl, h1⟩
  | _ :: ds, _, i + 1, d, h, e => by
    cases h with
    | cons _ h2 =>
      obtain ⟨v, e1, e2⟩ := DnAll.get (i := i) h2 (by simpa using e)
      exact ⟨v, by simpa using e1, e2⟩
theorem DnAll.getV : ∀ {ds : List D} {vs : List V} {i : Nat} {v : V}, DnAll K H vs ds → vs[i]? = some v → ∃ d, ds[i]? = some d ∧ Dn K H v d := fun {ds vs i v} h e => by
  have hl := h.length
  have hi : i < ds.length := by rw [← hl]; exact (List.getElem?_eq_some_iff.mp e).1
  obtain ⟨v', e1, e2⟩ := h.get (List.getElem?_eq_getElem hi)
  rw [e] at e1; cases e1
  exact ⟨_, List.getElem?_eq_getElem hi, e2⟩
theorem DnAll.append : ∀ {ds es : List D} {vs ws : List V}, DnAll K H vs ds → DnAll K H ws es → DnAll K H (vs ++ ws) (ds ++ es)
  | [], _, _, _, h, k => by cases h; exact k
  | _ :: _, _, _, _, h, k => by
    cases h with
    | cons h1 h2 => exact .cons h1 (h2.append k)
theorem DnAll.take : ∀ {ds : List D} {vs : List V} (n : Nat), DnAll K H vs ds → DnAll K H (vs.take n) (ds.take n)
  | _, _, 0, _ => by simp; exact .nil
  | [], _, _ + 1, h => by cases h; exact .nil
  | _ :: _, _, n + 1, h => by
    cases h with
    | cons h1 h2 => exact .cons h1 (h2.take n)
theorem DnAll.drop : ∀ {ds : List D} {vs : List V} (n : Nat), DnAll K H vs ds → DnAll K H (vs.drop n) (ds.drop n)
  | _, _, 0, h => by simpa using h
  | [], _, _ + 1, h => by cases h; exact .nil
  | _ :: _, _, n + 1, h => by
    cases h with
    | cons h1 h2 => simpa using h2.drop n
theorem DnAll.set : ∀ {ds : List D} {vs : List V} {v : V} {d : D} (i : Nat), DnAll K H vs ds → Dn K H v d → DnAll K H (vs.set i v) (ds.set i d)
  | [], _, _, _, _, h, _ => by cases h; simp; exact .nil
  | _ :: _, _, _, _, 0, h, k => by
    cases h with
    | cons _ h2 => exact .cons k h2
  | _ :: _, _, _, _, i + 1, h, k => by
    cases h with
    | cons h1 h2 => exact .cons h1 (h2.set i k)
theorem DnAll.reverse : ∀ {ds : List D} {vs : List V}, DnAll K H vs ds → DnAll K H vs.reverse ds.reverse
  | [], _, h => by cases h; exact .nil
  | _ :: _, _, h => by
    cases h with
    | cons h1 h2 =>
      rw [List.reverse_cons, List.reverse_cons]
      exact h2.reverse.append (.cons h1 .nil)
theorem DnAll.ints : ∀ {ns : List Int} {vs : List V}, DnAll K H vs (ns.map .int) → vs = ns.map .int
  | [], _, h => by cases h; rfl
  | _ :: _, _, h => by
    cases h with
    | cons h1 h2 =>
      cases h1
      rw [DnAll.ints h2]; rfl
theorem DnAll.of_ints : ∀ ns : List Int, DnAll K H (ns.map .int) (ns.map .int)
  | [] => .nil
  | n :: ns => .cons (.int n) (DnAll.of_ints ns)
theorem DnAll.bls : ∀ {bs : List Bool} {vs : List V}, DnAll K H vs (bs.map .bool) → vs = bs.map .bl
  | [], _, h => by cases h; rfl
  | _ :: _, _, h => by
    cases h with
    | cons h1 h2 =>
      cases h1
      rw [DnAll.bls h2]; rfl
theorem DnAll.strs : ∀ {xs : List Str} {vs : List V}, DnAll K H vs (xs.map .str) → vs = xs.map .str
  | [], _, h => by cases h; rfl
  | _ :: _, _, h => by
    cases h with
    | cons h1 h2 =>
      cases h1
      rw [DnAll.strs h2]; rfl
end

/-! ### a state in a heap -/
/-- slot i's own object stands at a -/
def Own (σ : L2.St) (S : Sq) (i : Nat) (a : Addr) : Prop := σ[i]? = some (some (.ref a)) ∧ ((∃ xs, S.r[i]? = some (.l xs)) ∨ ∃ kvs, S.r[i]? = some (.m kvs))
/-- an exception object of the class cls that is held at a -/
def exV (cls : Value) (a : Addr) : HO := .ext fun h => ∃ (oe : Obj) (vs : Array Value), h.get? a = some oe ∧ Zc cls none oe ∧ oe.data = .fields vs
/-- a list of exceptions that stays -/
def EsAt (K : PySem.W.Frag) (F : Hp) (a : Addr) (cs : List Str) : Prop := ∃ vs, F a = some (.lst vs) ∧ Paired (fun v c => ∃ b, v = L2.V.ref b ∧ F b = some (exV (.ref (He.ga K c)) b)) vs cs
theorem ex_pe {K : PySem.W.Frag} {F F' : Hp} (x : Ex F F') : ∀ {vs : List V} {cs : List Str}, Paired (fun v c => ∃ b, v = L2.V.ref b ∧ F b = some (exV (.ref (He.ga K c)) b)) vs cs → Paired (fun v c => ∃ b, v = L2.V.ref b ∧ F' b = some (exV (.ref (He.ga K c)) b)) vs cs
  | _, _, .nil => .nil
  | _, _, .cons ⟨b, e, h⟩ t => .cons ⟨b, e, x _ _ h⟩ (ex_pe x t)
theorem ex_es {K : PySem.W.Frag} {F F' : Hp} {a : Addr} {cs : List Str} (x : Ex F F') (h : EsAt K F a cs) : EsAt K F' a cs := by
  obtain ⟨vs, h1, h2⟩ := h
  exact ⟨vs, x _ _ h1, ex_pe x h2⟩
def SlotOk (K : PySem.W.Frag) (pa : Option Addr) (F H : Hp) (o : Option (Option V)) : R → Prop
  | .un => True
  | .d x => ∃ v, o = some (some v) ∧ Dn K F v x
  | .l xs => ∃ a vs, o = some (some (.ref a)) ∧ H a = some (.lst vs) ∧ F a = none ∧ DnAll K F vs xs
  | .m kvs => ∃ a ho, o = some (some (.ref a)) ∧ H a = some ho ∧ F a = none ∧ DctA K F a ho kvs
  | .pen => ∃ q, pa = some q ∧ o = some (some (.ref q))
  | .e c => ∃ a, o = some (some (.ref a)) ∧ F a = some (exV (.ref (He.ga K c)) a)
  | .sc ns => ∃ a, o = some (some (.ref a)) ∧ SqL K F a (ns.map .int)
  | .es cs => ∃ a, o = some (some (.ref a)) ∧ EsAt K F a cs
def PenOk (K : PySem.W.Frag) (F H : Hp) : Option Addr → Option Pen → Prop
  | none, none => True
  | some q, some P => ∃ c, H q = some (.lst [.ref c, .int P.at_, .int P.rest]) ∧ F q = none ∧ F c = some (.lst (P.cells.map .int))
  | _, _ => False
theorem PenOk.at {K : PySem.W.Frag} {F H : Hp} {pa : Option Addr} {q : Addr} {p : Option Pen} (h : PenOk K F H pa p) (e : some q = pa) : ∃ P c, p = some P ∧ H q = some (.lst [.ref c, .int P.at_, .int P.rest]) ∧ F q = none ∧ F c = some (.lst (P.cells.map .int)) := by
  subst e
  cases p with
  | none => exact h.elim
  | some P => obtain ⟨c, h⟩ := h; exact ⟨P, c, rfl, h⟩
theorem PenOk.imp {K : PySem.W.Frag} {F H F' H' : Hp} {pa : Option Addr} {p : Option Pen} (h : PenOk K F H pa p) (w : ∀ q c o o', some q = pa → H q = some o → F q = none → F c = some o' → H' q = some o ∧ F' q = none ∧ F' c = some o') : PenOk K F' H' pa p := by
  cases pa with
  | none => cases p with
    | none => trivial
    | some P => exact h.elim
  | some q => cases p with
    | none => exact h.elim
    | some P => obtain ⟨c, h1, h2, h3⟩ := h; obtain ⟨k1, k2, k3⟩ := w q c _ _ rfl h1 h2 h3; exact ⟨c, k1, k2, k3⟩
/-- all but the tables -/
def bareT (H : Hp) : Hp := fun a => match H a with
  | some (.tbl _) => none
  | o => o
theorem bareT_some {H : Hp} {a : Addr} {o : HO} (h : bareT H a = some o) : H a = some o ∧ ∀ ps, o ≠ .tbl ps := by
  unfold bareT at h
  split at h
  · cases h
  · rename_i n
    refine ⟨h, fun ps z => n ps ?_⟩
    rw [h, z]
theorem bareT_of {H : Hp} {a : Addr} {o : HO} (h : H a = some o) (n : ∀ ps, o ≠ .tbl ps) : bareT H a = some o := by
  unfold bareT
  rw [h]
  cases o <;> first | rfl | exact absurd rfl (n _)
theorem bareT_free {H : Hp} (a : Addr) (ps : Array Value) : bareT H a ≠ some (.tbl ps) := fun h => (bareT_some h).2 ps rfl
theorem ft_upd {F : Hp} {t : Addr} {o : HO} (h : ∀ a ps, F a ≠ some (.tbl ps)) (n : ∀ ps, o ≠ .tbl ps) : ∀ a ps, upd F t o a ≠ some (.tbl ps) := fun a ps e => by
  by_cases q : a = t
  · subst q
    rw [upd_same] at e
    exact n ps (Option.some.inj e)
  · rw [upd_ne q] at e
    exact h a ps e
/-- F0, H0: the entry (H0 is kept but for the pen); F: what stays as it is; H: all -/
structure Agr (K : PySem.W.Frag) (F0 H0 : Hp) (pa : Option Addr) (σ : L2.St) (F H : Hp) (S : Sq) : Prop where
  fF : Ex F0 F
  sub : Ex F H
  hH : ∀ a o, H0 a = some o → some a ≠ pa → H a = some o
  tabs : LamX.Tabs TabSet.T H
  ft : ∀ a ps, F a ≠ some (.tbl ps)
  n0 : ∀ a ps, H0 a ≠ some (.tbl ps)
  new : ∀ a o, F a = some o → F0 a = some o ∨ H0 a = none
  len : S.r.length = σ.length
  slots : ∀ (i : Nat) (c : R), S.r[i]? = some c → SlotOk K pa F H σ[i]? c
  dist : ∀ i j a, Own σ S i a → Own σ S j a → i = j
  ownN : ∀ i a, Own σ S i a → H0 a = none ∧ some a ≠ pa
  pen : PenOk K F H pa S.p
def Sq.val (S : Sq) : PV → Option D
  | .s i => match S.r[i]? with
    | some (.d x) => some x
    | some (.l xs) => some (.list xs)
    | some (.m kvs) => some (.dict kvs)
    | _ => none
  | .v x => some x
  | .o (.l xs) => some (.list xs)
  | .o (.m kvs) => some (.dict kvs)
  | .o _ => none
/-- a new list that is nobody's -/
def OwnV (K : PySem.W.Frag) (H0 : Hp) (pa : Option Addr) (σ : L2.St) (F H : Hp) (S : Sq) (v : V) : R → Prop
  | .l xs => ∃ t vs, v = .ref t ∧ H t = some (.lst vs) ∧ F t = none ∧ DnAll K F vs xs ∧ H0 t = none ∧ (∀ i, ¬ Own σ S i t) ∧ some t ≠ pa
  | .m kvs => ∃ t ho, v = .ref t ∧ H t = some ho ∧ F t = none ∧ DctA K F t ho kvs ∧ H0 t = none ∧ (∀ i, ¬ Own σ S i t) ∧ some t ≠ pa
  | _ => False
def RelP (K : PySem.W.Frag) (H0 : Hp) (pa : Option Addr) (σ : L2.St) (F H : Hp) (S : Sq) (v : V) : PV → Prop
  | .s i => σ[i]? = some (some v)
  | .v x => Dn K F v x
  | .o c => OwnV K H0 pa σ F H S v c
section
variable {K : PySem.W.Frag} {F0 H0 F H F' H' : Hp} {pa : Option Addr} {σ : L2.St} {S S' : Sq} {v : V} {pv : PV} {d : D}
/-- a view: the value is seen as data now -/
def Dv (K : PySem.W.Frag) (F H : Hp) (v : V) (d : D) : Prop := Dn K F v d ∨ (∃ a vs xs, v = .ref a ∧ d = .list xs ∧ H a = some (.lst vs) ∧ DnAll K F vs xs) ∨ ∃ a ho kvs, v = .ref a ∧ d = .dict kvs ∧ H a = some ho ∧ DctA K F a ho kvs
theorem Dv.dn (e : Ex F H) (h : Dv K F H v d) : Dn K H v d := by
  rcases h with h | ⟨a, vs, xs, rfl, rfl, h1, h2⟩ | ⟨a, ho, kvs, rfl, rfl, h1, h2⟩
  · exact h.mono e
  · exact .lst h1 (h2.mono e)
  · exact h2.dn e h1
theorem Dv.list {xs : List D} (e : Ex F H) (h : Dv K F H v (.list xs)) : ∃ a vs, v = .ref a ∧ H a = some (.lst vs) ∧ DnAll K F vs xs := by
  rcases h with h | ⟨a, vs, ys, rfl, q, h1, h2⟩ | ⟨a, ho, kvs, rfl, q, h1, h2⟩
  · cases h with
    | lst h1 h2 => exact ⟨_, _, rfl, e _ _ h1, h2⟩
  · cases q
    exact ⟨a, vs, rfl, h1, h2⟩
  · cases q
theorem Dv.dict {kvs : List (D × D)} (e : Ex F H) (h : Dv K F H v (.dict kvs)) : ∃ a ho, v = .ref a ∧ H a = some ho ∧ DctA K F a ho kvs := by
  rcases h with h | ⟨a, vs, ys, rfl, q, h1, h2⟩ | ⟨a, ho, kvs, rfl, q, h1, h2⟩
  · obtain ⟨a, o, rfl, h1, h2⟩ := h.dctA
    exact ⟨a, o, rfl, e _ _ h1, h2⟩
  · cases q
  · cases q
    exact ⟨a, ho, rfl, h1, h2⟩
theorem Dv.tuple {xs : List D} (h : Dv K F H v (.tuple xs)) : ∃ a vs, v = .ref a ∧ F a = some (.tup vs) ∧ DnAll K F vs xs := by
  rcases h with h | ⟨a, vs, ys, rfl, q, h1, h2⟩ | ⟨a, ho, kvs, rfl, q, h1, h2⟩
  · cases h with
    | tup h1 h2 => exact ⟨_, _, rfl, h1, h2⟩
  · cases q
  · cases q
theorem Dv.int {i : Int} (h : Dv K F H v (.int i)) : v = .int i := by
  rcases h with h | ⟨_, _, _, _, q, _⟩ | ⟨_, _, _, _, q, _⟩
  · cases h; rfl
  · cases q
  · cases q
theorem Dv.bl {b : Bool} (h : Dv K F H v (.bool b)) : v = .bl b := by
  rcases h with h | ⟨_, _, _, _, q, _⟩ | ⟨_, _, _, _, q, _⟩
  · cases h; rfl
  · cases q
  · cases q
theorem Dv.str {x : Str} (h : Dv K F H v (.str x)) : v = .str x := by
  rcases h with h | ⟨_, _, _, _, q, _⟩ | ⟨_, _, _, _, q, _⟩
  · cases h; rfl
  · cases q
  · cases q
theorem Dv.non (h : Dv K F H v .none) : v = .non := by
  rcases h with h | ⟨_, _, _, _, q, _⟩ | ⟨_, _, _, _, q, _⟩
  · cases h; rfl
  · cases q
  · cases q
theorem Agr.val (A : Agr K F0 H0 pa σ F H S) (r : RelP K H0 pa σ F H S v pv) (e : S.val pv = some d) : Dv K F H v d := by
  cases pv with
  | s i =>
    unfold Sq.val at e
    dsimp only at e
    cases q : S.r[i]? with
    | none => rw [q] at e; cases e
    | some c =>
      rw [q] at e
      have so := A.slots i c q
      have r' : σ[i]? = some (some v) := r
      cases c with
      | d x =>
        cases e
        obtain ⟨w, e1, e2⟩ := so
        rw [r'] at e1; cases e1
        exact .inl e2
      | l xs =>
        cases e
        obtain ⟨a, vs, e1, e2, e3, e4⟩ := so
        rw [r'] at e1; cases e1
        exact .inr (.inl ⟨a, vs, xs, rfl, rfl, e2, e4⟩)
      | un => cases e
      | m kvs =>
        cases e
        obtain ⟨a, ho, e1, e2, e3, e4⟩ := so
        rw [r'] at e1; cases e1
        exact .inr (.inr ⟨a, ho, kvs, rfl, rfl, e2, e4⟩)
      | e c => cases e
      | sc ns => cases e
      | es cs => cases e
      | pen => cases e
  | v x =>
    cases e
    exact .inl r
  | o c =>
    cases c with
    | l xs =>
      cases e
      obtain ⟨t, vs, rfl, h1, _, h2, _⟩ := r
      exact .inr (.inl ⟨t, vs, xs, rfl, rfl, h1, h2⟩)
    | un => cases e
    | d x => cases e
    | m kvs =>
      cases e
      obtain ⟨t, ho, rfl, h1, _, h2, _⟩ := r
      exact .inr (.inr ⟨t, ho, kvs, rfl, rfl, h1, h2⟩)
    | e c => cases e
    | sc ns => cases e
    | es cs => cases e
    | pen => cases e
/-- freezing an object at t -/
theorem Agr.freezeO {t : Addr} {ho : HO} (A : Agr K F0 H0 pa σ F H S) (ht : H t = some ho) (hno : ∀ ps, ho ≠ .tbl ps) (hn : F t = none) (h0 : H0 t = none) (no : ∀ i, ¬ Own σ S i t) (hp : some t ≠ pa) : Agr K F0 H0 pa σ (upd F t ho) H S := by
  have ex : Ex F (upd F t ho) := Ex.new hn
  refine ⟨A.fF.trans ex, fun a o e => ?_, A.hH, A.tabs, ft_upd A.ft hno, A.n0, fun a o e => ?_, A.len, fun i c e => ?_, A.dist, A.ownN, ?_⟩
  · by_cases q : a = t
    · subst q; rw [upd_same] at e; cases e; exact ht
    · rw [upd_ne q] at e; exact A.sub a o e
  · by_cases q : a = t
    · subst q; exact .inr h0
    · rw [upd_ne q] at e; exact A.new a o e
  · have so := A.slots i c e
    cases c with
    | un => trivial
    | d x => obtain ⟨w, e1, e2⟩ := so; exact ⟨w, e1, e2.mono ex⟩
    | l xs =>
      obtain ⟨a, ws, e1, e2, e3, e4⟩ := so
      have q : a ≠ t := fun z => no i ⟨by rw [e1, z], .inl ⟨xs, e⟩⟩
      exact ⟨a, ws, e1, e2, by rw [upd_ne q]; exact e3, e4.mono ex⟩
    | m kvs =>
      obtain ⟨a, ho, e1, e2, e3, e4⟩ := so
      have q : a ≠ t := fun z => no i ⟨by rw [e1, z], .inr ⟨kvs, e⟩⟩
      exact ⟨a, ho, e1, e2, by rw [upd_ne q]; exact e3, e4.mono ex⟩
    | e c => obtain ⟨w, z1, z2⟩ := so; exact ⟨w, z1, ex _ _ z2⟩
    | sc ns => obtain ⟨w, z1, z2⟩ := so; exact ⟨w, z1, ex_l ex z2⟩
    | es cs => obtain ⟨w, z1, z2⟩ := so; exact ⟨w, z1, ex_es ex z2⟩
    | pen => exact so
  · exact A.pen.imp fun q c o o' e h1 h2 h3 => ⟨h1, by rw [upd_ne fun z => hp (by rw [← z]; exact e)]; exact h2, ex _ _ h3⟩
theorem Agr.freeze {t : Addr} {vs : List V} (A : Agr K F0 H0 pa σ F H S) (ht : H t = some (.lst vs)) (hn : F t = none) (h0 : H0 t = none) (no : ∀ i, ¬ Own σ S i t) (hp : some t ≠ pa) : Agr K F0 H0 pa σ (upd F t (.lst vs)) H S :=
  A.freezeO ht (fun _ z => nomatch z) hn h0 no hp
/-- a new object of all, staying or not -/
theorem Agr.more {H' : Hp} (A : Agr K F0 H0 pa σ F H S) (e : Ex H H') : Agr K F0 H0 pa σ F H' S := by
  refine ⟨A.fF, A.sub.trans e, fun a o h hp => e _ _ (A.hH a o h hp), A.tabs.ext e, A.ft, A.n0, A.new, A.len, fun i c h => ?_, A.dist, A.ownN, ?_⟩
  · have so := A.slots i c h
    cases c with
    | un => trivial
    | d x => exact so
    | l xs =>
      obtain ⟨a, ws, e1, e2, e3, e4⟩ := so
      exact ⟨a, ws, e1, e _ _ e2, e3, e4⟩
    | m kvs =>
      obtain ⟨a, ho, e1, e2, e3, e4⟩ := so
      exact ⟨a, ho, e1, e _ _ e2, e3, e4⟩
    | e c => exact so
    | sc ns => exact so
    | es cs => exact so
    | pen => exact so
  · exact A.pen.imp fun q c o o' _ h1 h2 h3 => ⟨e _ _ h1, h2, h3⟩
theorem Agr.own_there {i : Nat} {a : Addr} (A : Agr K F0 H0 pa σ F H S) (o : Own σ S i a) : H a ≠ none := by
  obtain ⟨h1, h2⟩ := o
  rcases h2 with ⟨xs, h2⟩ | ⟨kvs, h2⟩
  · obtain ⟨b, vs, e1, e2, _⟩ := A.slots i _ h2
    rw [h1] at e1; cases e1
    rw [e2]; simp
  · obtain ⟨b, ho, e1, e2, _⟩ := A.slots i _ h2
    rw [h1] at e1; cases e1
    rw [e2]; simp
theorem Agr.own_thereT {i : Nat} {a : Addr} (A : Agr K F0 H0 pa σ F H S) (o : Own σ S i a) : bareT H a ≠ none := by
  obtain ⟨h1, h2⟩ := o
  rcases h2 with ⟨xs, h2⟩ | ⟨kvs, h2⟩
  · obtain ⟨b, vs, e1, e2, _⟩ := A.slots i _ h2
    rw [h1] at e1; cases e1
    rw [bareT_of e2 fun _ z => nomatch z]; simp
  · obtain ⟨b, ho, e1, e2, _, e4⟩ := A.slots i _ h2
    rw [h1] at e1; cases e1
    rw [bareT_of e2 e4.notbl]; simp
theorem Agr.nopenT {p : Addr} (A : Agr K F0 H0 pa σ F H S) (hp : bareT H p = none) : some p ≠ pa := fun e => by
  obtain ⟨P, c, _, h1, _⟩ := A.pen.at e
  rw [bareT_of h1 fun _ z => nomatch z] at hp; cases hp
theorem Agr.notTab {p : Addr} (A : Agr K F0 H0 pa σ F H S) (hp : ∀ ps, H p ≠ some (.tbl ps)) : p ∉ TabSet.T.map Prod.fst := fun e => by
  obtain ⟨q, hq, rfl⟩ := List.mem_map.mp e
  obtain ⟨ps, h, _⟩ := A.tabs q hq
  exact hp ps h
theorem Agr.freshT {p : Addr} (A : Agr K F0 H0 pa σ F H S) (hp : bareT H p = none) (hq : some p ≠ pa) : H0 p = none := by
  cases q : H0 p with
  | none => rfl
  | some o =>
    rw [bareT_of (A.hH p o q hq) fun ps z => A.n0 p ps (by rw [q, z])] at hp; cases hp
theorem Agr.fresh0 {p : Addr} (A : Agr K F0 H0 pa σ F H S) (hp : H p = none) (hq : some p ≠ pa) : H0 p = none := by
  cases q : H0 p with
  | none => rfl
  | some o =>
    rw [A.hH p o q hq] at hp; cases hp
theorem Agr.nopen {p : Addr} (A : Agr K F0 H0 pa σ F H S) (hp : H p = none) : some p ≠ pa := fun e => by
  obtain ⟨P, c, _, h1, _⟩ := A.pen.at e
  rw [h1] at hp; cases hp
/-- a new tuple that stays -/
theorem Agr.newF {p : Addr} {o : HO} (A : Agr K F0 H0 pa σ F H S) (hp : H p = none) (hno : ∀ ps, o ≠ .tbl ps) : Agr K F0 H0 pa σ (upd F p o) (upd H p o) S := by
  have hF : F p = none := A.sub.none hp
  have eF : Ex F (upd F p o) := Ex.new hF
  have B := A.more (Ex.new (o := o) hp)
  have np := A.nopen hp
  refine ⟨A.fF.trans eF, fun a u e => ?_, B.hH, B.tabs, ft_upd A.ft hno, A.n0, fun a u e => ?_, A.len, fun i c e => ?_, A.dist, A.ownN, ?_⟩
  · by_cases q : a = p
    · subst q; rw [upd_same] at e ⊢; exact e
    · rw [upd_ne q] at e ⊢; exact A.sub a u e
  · by_cases q : a = p
    · subst q; exact .inr (A.fresh0 hp np)
    · rw [upd_ne q] at e; exact A.new a u e
  · have so := B.slots i c e
    cases c with
    | un => trivial
    | d x => obtain ⟨w, e1, e2⟩ := so; exact ⟨w, e1, e2.mono eF⟩
    | l xs =>
      obtain ⟨a, ws, e1, e2, e3, e4⟩ := so
      have q : a ≠ p := fun z => A.own_there (i := i) (a := a) ⟨e1, .inl ⟨xs, e⟩⟩ (by rw [z]; exact hp)
      exact ⟨a, ws, e1, e2, by rw [upd_ne q]; exact e3, e4.mono eF⟩
    | m kvs =>
      obtain ⟨a, ho, e1, e2, e3, e4⟩ := so
      have q : a ≠ p := fun z => A.own_there (i := i) (a := a) ⟨e1, .inr ⟨kvs, e⟩⟩ (by rw [z]; exact hp)
      exact ⟨a, ho, e1, e2, by rw [upd_ne q]; exact e3, e4.mono eF⟩
    | e c => obtain ⟨w, z1, z2⟩ := so; exact ⟨w, z1, eF _ _ z2⟩
    | sc ns => obtain ⟨w, z1, z2⟩ := so; exact ⟨w, z1, ex_l eF z2⟩
    | es cs => obtain ⟨w, z1, z2⟩ := so; exact ⟨w, z1, ex_es eF z2⟩
    | pen => exact so
  · exact B.pen.imp fun q c o o' e h1 h2 h3 => ⟨h1, by rw [upd_ne fun z => np (by rw [← z]; exact e)]; exact h2, eF _ _ h3⟩
/-- a new list of one's own -/
theorem Agr.newO {p : Addr} {vs : List V} {xs : List D} (A : Agr K F0 H0 pa σ F H S) (hp : H p = none) (h : DnAll K F vs xs) :
    Agr K F0 H0 pa σ F (upd H p (.lst vs)) S ∧ OwnV K H0 pa σ F (upd H p (.lst vs)) S (.ref p) (.l xs) :=
  ⟨A.more (Ex.new hp), p, vs, rfl, upd_same, A.sub.none hp, h, A.fresh0 hp (A.nopen hp), fun i o => A.own_there o hp, A.nopen hp⟩
/-- a new dict of one's own -/
theorem Agr.newM {p : Addr} {ho : HO} {kvs : List (D × D)} (A : Agr K F0 H0 pa σ F H S) (hp : H p = none) (h : DctA K F p ho kvs) :
    Agr K F0 H0 pa σ F (upd H p ho) S ∧ OwnV K H0 pa σ F (upd H p ho) S (.ref p) (.m kvs) :=
  ⟨A.more (Ex.new hp), p, ho, rfl, upd_same, A.sub.none hp, h, A.fresh0 hp (A.nopen hp), fun i o => A.own_there o hp, A.nopen hp⟩
end
/-- all but what the slots own, but the pen -/
noncomputable def hide (σ : L2.St) (S : Sq) (pa : Option Addr) (H : Hp) : Hp := fun a => open Classical in if (∃ i, Own σ S i a) ∨ some a = pa then none else bareT H a
theorem hide_some {σ : L2.St} {S : Sq} {pa : Option Addr} {H : Hp} {a : Addr} {o : HO} (h : hide σ S pa H a = some o) : H a = some o ∧ (∀ i, ¬ Own σ S i a) ∧ some a ≠ pa := by
  unfold hide at h
  split at h
  · cases h
  · rename_i q
    exact ⟨(bareT_some h).1, fun i w => q (.inl ⟨i, w⟩), fun w => q (.inr w)⟩
theorem hide_of {σ : L2.St} {S : Sq} {pa : Option Addr} {H : Hp} {a : Addr} (n : ∀ i, ¬ Own σ S i a) (np : some a ≠ pa) : hide σ S pa H a = bareT H a := by
  unfold hide
  rw [if_neg]
  rintro (⟨i, w⟩ | w)
  · exact n i w
  · exact np w
theorem hide_own {σ : L2.St} {S : Sq} {pa : Option Addr} {H : Hp} {a : Addr} (h : (∃ i, Own σ S i a) ∨ some a = pa) : hide σ S pa H a = none := by
  unfold hide
  rw [if_pos h]
section
variable {K : PySem.W.Frag} {F0 H0 F H F' H' : Hp} {pa : Option Addr} {σ : L2.St} {S S' : Sq} {v : V} {pv : PV} {d : D}
theorem hide_free {σ : L2.St} {S : Sq} {pa : Option Addr} {H : Hp} (a : Addr) (ps : Array Value) : hide σ S pa H a ≠ some (.tbl ps) := fun h => by
  unfold hide at h
  split at h
  · cases h
  · exact bareT_free a ps h
theorem Agr.rebase (A : Agr K F0 H0 pa σ F H S) : Agr K F (hide σ S pa H) pa σ F H S :=
  ⟨Ex.refl F, A.sub, fun a o h _ => (hide_some h).1, A.tabs, A.ft, hide_free, fun a o h => .inl h, A.len, A.slots, A.dist, fun i a w => ⟨hide_own (.inl ⟨i, w⟩), (A.ownN i a w).2⟩, A.pen⟩
theorem Agr.hidden {a : Addr} (A : Agr K F0 H0 pa σ F H S) (h : hide σ S pa H a = none) (np : some a ≠ pa) : H0 a = none := by
  cases q : H0 a with
  | none => rfl
  | some o =>
    by_cases w : ∃ i, Own σ S i a
    · obtain ⟨i, w⟩ := w
      rw [(A.ownN i a w).1] at q; cases q
    · rw [hide_of (fun i z => w ⟨i, z⟩) np] at h
      rw [A.freshT h np] at q; cases q
theorem Agr.unbase (A : Agr K F0 H0 pa σ F H S) (B : Agr K F (hide σ S pa H) pa σ F' H' S') : Agr K F0 H0 pa σ F' H' S' := by
  refine ⟨A.fF.trans B.fF, B.sub, fun a o h np => ?_, B.tabs, B.ft, A.n0, fun a o h => ?_, B.len, B.slots, B.dist, fun i a w => ?_, B.pen⟩
  · have e := A.hH a o h np
    refine B.hH a o ?_ np
    rw [hide_of (fun i w => ?_) np]
    · exact bareT_of e fun ps z => A.n0 a ps (by rw [h, z])
    · rw [(A.ownN i a w).1] at h; cases h
  · rcases B.new a o h with e | e
    · exact A.new a o e
    · by_cases np : some a = pa
      · obtain ⟨P, c, _, _, h2, _⟩ := B.pen.at np
        rw [h2] at h; cases h
      · exact .inr (A.hidden e np)
  · obtain ⟨h1, h2⟩ := B.ownN i a w
    exact ⟨A.hidden h1 h2, h2⟩
/-- what is nobody's stays so -/
theorem OwnV.stay {c : R} (A : Agr K F0 H0 pa σ F H S) (B : Agr K F (hide σ S pa H) pa σ F' H' S') (o : OwnV K H0 pa σ F H S v c) : OwnV K H0 pa σ F' H' S' v c := by
  cases c with
  | l xs =>
    obtain ⟨t, vs, rfl, h1, h2, h3, h4, h5, h6⟩ := o
    have e : hide σ S pa H t = some (.lst vs) := by rw [hide_of h5 h6]; exact bareT_of h1 fun _ z => nomatch z
    refine ⟨t, vs, rfl, B.hH t _ e h6, ?_, h3.mono B.fF, h4, fun i w => ?_, h6⟩
    · cases q : F' t with
      | none => rfl
      | some u =>
        rcases B.new t u q with z | z
        · rw [h2] at z; cases z
        · rw [e] at z; cases z
    · have z := (B.ownN i t w).1
      rw [e] at z; cases z
  | m kvs =>
    obtain ⟨t, ho, rfl, h1, h2, h3, h4, h5, h6⟩ := o
    have e : hide σ S pa H t = some ho := by rw [hide_of h5 h6]; exact bareT_of h1 h3.notbl
    refine ⟨t, ho, rfl, B.hH t _ e h6, ?_, h3.mono B.fF, h4, fun i w => ?_, h6⟩
    · cases q : F' t with
      | none => rfl
      | some u =>
        rcases B.new t u q with z | z
        · rw [h2] at z; cases z
        · rw [e] at z; cases z
    · have z := (B.ownN i t w).1
      rw [e] at z; cases z
  | _ => exact False.elim o
end
def fz : PV → PV
  | .o (.l xs) => .v (.list xs)
  | .o (.m kvs) => .v (.dict kvs)
  | p => p

/-! ### what an operation on values gives -/
inductive Gv (K : PySem.W.Frag) (F H : Hp) : PV → V → Hp → Prop
  | dn {v : V} {d : D} : Dn K F v d → Gv K F H (.v d) v H
  | tup {p : Addr} {vs : List V} {ds : List D} : H p = none → DnAll K F vs ds → Gv K F H (.v (.tuple ds)) (.ref p) (upd H p (.tup vs))
  | lst {p : Addr} {vs : List V} {ds : List D} : H p = none → DnAll K F vs ds → Gv K F H (.o (.l ds)) (.ref p) (upd H p (.lst vs))
  | dct {p : Addr} {ho : HO} {kvs : List (D × D)} : H p = none → DctA K F p ho kvs → Gv K F H (.o (.m kvs)) (.ref p) (upd H p ho)
theorem Agr.gives {K : PySem.W.Frag} {F0 H0 F H H' : Hp} {pa : Option Addr} {σ : L2.St} {S : Sq} {v : V} {z : PV} (A : Agr K F0 H0 pa σ F H S) (g : Gv K F H z v H') :
    ∃ F', Ex F F' ∧ Agr K F0 H0 pa σ F' H' S ∧ RelP K H0 pa σ F' H' S v z := by
  cases g with
  | dn h => exact ⟨F, Ex.refl F, A, h⟩
  | tup hp h => exact ⟨_, Ex.new (A.sub.none hp), A.newF hp (fun _ z => nomatch z), .tup upd_same (h.mono (Ex.new (A.sub.none hp)))⟩
  | lst hp h => exact ⟨F, Ex.refl F, (A.newO hp h).1, (A.newO hp h).2⟩
  | dct hp h => exact ⟨F, Ex.refl F, (A.newM hp h).1, (A.newM hp h).2⟩

/-! ### readings -/
/-- an outcome by its ways -/
def OutP {α : Type} (o : Out α) (T : α → Sq → Prop) (E : Str → Sq → Prop) : Prop := match o with
  | .ok a s => T a s
  | .ex c s => E c s
  | .no => False
theorem OutP.bind {α β : Type} {o : Out α} {k : α → Sq → Out β} {T : β → Sq → Prop} {E : Str → Sq → Prop} : OutP (o.bind k) T E = OutP o (fun a s => OutP (k a s) T E) E := by
  cases o <;> rfl
theorem OutP.imp {α : Type} {o : Out α} {T T' : α → Sq → Prop} {E E' : Str → Sq → Prop} (h : OutP o T E) (hT : ∀ a s, T a s → T' a s) (hE : ∀ c s, E c s → E' c s) : OutP o T' E' := by
  cases o with
  | ok a s => exact hT a s h
  | ex c s => exact hE c s h
  | no => exact h
def TP (K : PySem.W.Frag) (F0 H0 : Hp) (pa : Option Addr) (σ : L2.St) (F : Hp) (Q : VK) (pv : PV) (S' : Sq) : Prop := ∀ v F' H', Ex F F' → Agr K F0 H0 pa σ F' H' S' → RelP K H0 pa σ F' H' S' v pv → Q v H'
def TB (K : PySem.W.Frag) (F0 H0 : Hp) (pa : Option Addr) (σ : L2.St) (F : Hp) (Q : Bool → Hp → Prop) (b : Bool) (S' : Sq) : Prop := ∀ F' H', Ex F F' → Agr K F0 H0 pa σ F' H' S' → Q b H'
def TL (K : PySem.W.Frag) (F0 H0 : Hp) (pa : Option Addr) (σ : L2.St) (F : Hp) (Q : List V → Hp → Prop) (ps : List PV) (S' : Sq) : Prop := ∀ vs F' H', Ex F F' → Agr K F0 H0 pa σ F' H' S' → Paired (RelP K H0 pa σ F' H' S') vs ps → Q vs H'
def EW (K : PySem.W.Frag) (W : WX) (F0 H0 : Hp) (pa : Option Addr) (σ : L2.St) (c : Str) (S' : Sq) : Prop := ∀ F' H', Agr K F0 H0 pa σ F' H' S' → W (.ref (He.ga K c)) none σ H'
def rd (K : PySem.W.Frag) (W : WX) (f : Sq → Out PV) : TE := fun σ H Q => ∃ F0 H0 pa F S, Agr K F0 H0 pa σ F H S ∧ OutP (f S) (TP K F0 H0 pa σ F Q) (EW K W F0 H0 pa σ)
def rdT (K : PySem.W.Frag) (W : WX) (f : Sq → Out Bool) : TT := fun σ H Q => ∃ F0 H0 pa F S, Agr K F0 H0 pa σ F H S ∧ OutP (f S) (TB K F0 H0 pa σ F Q) (EW K W F0 H0 pa σ)
def rdA (K : PySem.W.Frag) (W : WX) (f : Sq → Out (List PV)) : TA := fun σ H Q => ∃ F0 H0 pa F S, Agr K F0 H0 pa σ F H S ∧ OutP (f S) (TL K F0 H0 pa σ F Q) (EW K W F0 H0 pa σ)
theorem TP.up {K : PySem.W.Frag} {F0 H0 F F' : Hp} {pa : Option Addr} {σ : L2.St} {Q : VK} {pv : PV} {S : Sq} (h : TP K F0 H0 pa σ F Q pv S) (e : Ex F F') : TP K F0 H0 pa σ F' Q pv S := fun v F2 H2 x => h v F2 H2 (e.trans x)
theorem TB.up {K : PySem.W.Frag} {F0 H0 F F' : Hp} {pa : Option Addr} {σ : L2.St} {Q : Bool → Hp → Prop} {b : Bool} {S : Sq} (h : TB K F0 H0 pa σ F Q b S) (e : Ex F F') : TB K F0 H0 pa σ F' Q b S := fun F2 H2 x => h F2 H2 (e.trans x)
theorem TL.up {K : PySem.W.Frag} {F0 H0 F F' : Hp} {pa : Option Addr} {σ : L2.St} {Q : List V → Hp → Prop} {ps : List PV} {S : Sq} (h : TL K F0 H0 pa σ F Q ps S) (e : Ex F F') : TL K F0 H0 pa σ F' Q ps S := fun v F2 H2 x => h v F2 H2 (e.trans x)
def RelR (K : PySem.W.Frag) (H0 : Hp) (pa : Option Addr) (F H : Hp) (p : Option Pen) (v : V) : R → Prop
  | .d x => Dn K F v x
  | .l xs => OwnV K H0 pa [] F H ⟨[], p⟩ v (.l xs)
  | .m kvs => OwnV K H0 pa [] F H ⟨[], p⟩ v (.m kvs)
  | _ => False
/-- a statement's ways -/
def FlP (K : PySem.W.Frag) (W : WX) (F0 H0 : Hp) (pa : Option Addr) (Z : Ends) : Fl → Prop
  | .nx S' => ∀ σ' F' H', Agr K F0 H0 pa σ' F' H' S' → Z.nx σ' H'
  | .rt r S' => ∀ σ' v F' H', Agr K F0 H0 pa σ' F' H' S' → RelR K H0 pa F' H' S'.p v r → Z.rt v H'
  | .bk S' => ∀ σ' F' H', Agr K F0 H0 pa σ' F' H' S' → Z.bk σ' H'
  | .ct S' => ∀ σ' F' H', Agr K F0 H0 pa σ' F' H' S' → Z.ct σ' H'
  | .ex c S' => ∀ σ' F' H', Agr K F0 H0 pa σ' F' H' S' → W (.ref (He.ga K c)) none σ' H'
  | .no => False
def rs (K : PySem.W.Frag) (W : WX) (g : Sq → Fl) : TS := fun Z σ H => ∃ F0 H0 pa F S, Agr K F0 H0 pa σ F H S ∧ FlP K W F0 H0 pa Z (g S)
theorem PE.weak {X : Cx} {e : Expr} {t t' : TE} (h : PE X e t) (w : ∀ σ H Q, t' σ H Q → t σ H Q) : PE X e t' := ⟨fun pins s σ H Q I q => h.run pins s σ H Q I (w _ _ _ q)⟩
theorem PT.weak {X : Cx} {e : Expr} {t t' : TT} (h : PT X e t) (w : ∀ σ H Q, t' σ H Q → t σ H Q) : PT X e t' := ⟨fun pins s σ H Q I q => h.run pins s σ H Q I (w _ _ _ q)⟩
theorem PW.weak {X : Cx} {e : Expr} {t t' : TT} (h : PW X e t) (w : ∀ σ H Q, t' σ H Q → t σ H Q) : PW X e t' := ⟨fun wh pins s σ H Q I q => h.run wh pins s σ H Q I (w _ _ _ q)⟩
theorem PA.weak {X : Cx} {e : List Expr} {t t' : TA} (h : PA X e t) (w : ∀ σ H Q, t' σ H Q → t σ H Q) : PA X e t' := ⟨fun pos pins s σ H Q I q => h.run pos pins s σ H Q I (w _ _ _ q)⟩
theorem PS.weak {X : Cx} {e : Stmt} {t t' : TS} (h : PS X e t) (w : ∀ Z σ H, t' Z σ H → t Z σ H) : PS X e t' := ⟨fun pins s σ H Z I q => h.run pins s σ H Z I (w _ _ _ q)⟩
theorem PSs.weak {X : Cx} {e : List Stmt} {t t' : TS} (h : PSs X e t) (w : ∀ Z σ H, t' Z σ H → t Z σ H) : PSs X e t' := ⟨fun pins s σ H Z I q => h.run pins s σ H Z I (w _ _ _ q)⟩
/-- the program's own things -/
structure Gb where
  P : Program
  w : World
  K : PySem.W.Frag
  mg : Str → Option Value
  base : Heap
  /-- repr is asked for -/
  gr : Prop
/-- what a context must have: N its names, sc its scope, k its room -/
structure Cq (G : Gb) (k : Nat) (N : List Str) (sc : Scope) (X : Cx) : Prop where
  names : X.N = N
  nd : N.Nodup
  scope : X.env.scope = sc
  hd : Room k X.A
  gd : G.gr → X.A.guards = some []
  calm : X.calm = true
  pass : PassesOwn (model X.prog X.w) X.A X.env X.xe
  prog : X.prog = G.P
  wo : X.w = G.w
  K : X.K = G.K
  mg : X.mg = G.mg
  base : X.base = G.base
abbrev DE (X : Cx) (W : WX) (e : Expr) (f : Sq → Out PV) : Prop := PE X e (rd X.K W f)
abbrev DT (X : Cx) (W : WX) (e : Expr) (f : Sq → Out Bool) : Prop := PT X e (rdT X.K W f)
abbrev DW (X : Cx) (W : WX) (e : Expr) (f : Sq → Out Bool) : Prop := PW X e (rdT X.K W f)
abbrev DA (X : Cx) (W : WX) (es : List Expr) (f : Sq → Out (List PV)) : Prop := PA X es (rdA X.K W f)
abbrev DS (X : Cx) (W : WX) (s : Stmt) (g : Sq → Fl) : Prop := PS X s (rs X.K W g)
abbrev DSs (X : Cx) (W : WX) (s : List Stmt) (g : Sq → Fl) : Prop := PSs X s (rs X.K W g)
end Q3
/-! Q3b: expressions. -/
namespace Q3
open PySem PySem.Spec PyProof.Rows L2
variable [TabSet]
section
variable {X : Cx} {W : WX} {a b c e : Expr} {fa fb fc : Sq → Out PV} {pos : Pos} {N : List Str} {sc : Scope} {k : Nat} {G : Gb}
/-! ### freezing a value -/
def fzF (f : Sq → Out PV) : Sq → Out PV := fun S => (f S).bind fun p S' => .ok (fz p) S'
theorem fz_ok {K : PySem.W.Frag} {F0 H0 F H : Hp} {pa : Option Addr} {σ : L2.St} {S : Sq} {v : V} {pv : PV} (A : Agr K F0 H0 pa σ F H S) (r : RelP K H0 pa σ F H S v pv) :
    ∃ F', Ex F F' ∧ Agr K F0 H0 pa σ F' H S ∧ RelP K H0 pa σ F' H S v (fz pv) := by
  cases pv with
  | s i => exact ⟨F, Ex.refl F, A, r⟩
  | v x => exact ⟨F, Ex.refl F, A, r⟩
  | o c =>
    cases c with
    | l xs =>
      obtain ⟨t, vs, rfl, h1, h2, h3, h4, h5, h6⟩ := r
      exact ⟨_, Ex.new h2, A.freeze h1 h2 h4 h5 h6, .lst upd_same (h3.mono (Ex.new h2))⟩
    | un => exact ⟨F, Ex.refl F, A, r⟩
    | d x => exact ⟨F, Ex.refl F, A, r⟩
    | m kvs =>
      obtain ⟨t, ho, rfl, h1, h2, h3, h4, h5, h6⟩ := r
      exact ⟨_, Ex.new h2, A.freezeO h1 h3.notbl h2 h4 h5 h6, h3.dn (Ex.new h2) upd_same⟩
    | e c => exact ⟨F, Ex.refl F, A, r⟩
    | sc ns => exact ⟨F, Ex.refl F, A, r⟩
    | es cs => exact ⟨F, Ex.refl F, A, r⟩
    | pen => exact ⟨F, Ex.refl F, A, r⟩
theorem rd_fz {K : PySem.W.Frag} {σ : L2.St} {H : Hp} {Q : VK} (q : rd K W (fzF fa) σ H Q) : rd K W fa σ H Q := by
  obtain ⟨F0, H0, pa, F, S, A, z⟩ := q
  unfold fzF at z
  rw [OutP.bind] at z
  refine ⟨F0, H0, pa, F, S, A, z.imp (fun pv S' z v F' H' x A' r => ?_) fun _ _ z => z⟩
  obtain ⟨F'', x2, A2, r2⟩ := fz_ok A' r
  exact z v F'' H' (x.trans x2) A2 r2
theorem de_fz (h : DE X W e fa) : DE X W e (fzF fa) := PE.weak h fun σ H Q q => rd_fz q
/-! ### names, constants -/
def fVar (i : Nat) : Sq → Out PV := fun S => match S.r[i]? with
  | some (.d _) => .ok (.s i) S
  | some (.l _) => .ok (.s i) S
  | some (.m _) => .ok (.s i) S
  | some .pen => .ok (.s i) S
  | some (.e _) => .ok (.s i) S
  | _ => .no
def fC (x : D) : Sq → Out PV := fun S => .ok (.v x) S
theorem de_var (i : Nat) {x : Str} (C : Cq G k N sc X) (hN : N[i]? = some x := by rfl) (hv : sc.names.lookup x = some .local ∨ sc.names.lookup x = some .cell ∨ sc.names.lookup x = some .free := by first | exact Or.inl rfl | exact Or.inr (Or.inl rfl) | exact Or.inr (Or.inr rfl))
    (hd : (x == ("__debug__" : Str)) = false := by decide) (hcd : (x == ("__classdict__" : Str)) = false := by decide) : DE X W (.Name x pos) (fVar i) := by
  refine PE.weak (pe_var (i := i) (by rw [C.names]; exact hN) (by show Vis X.env.scope x; rw [C.scope]; exact hv) hd hcd) fun σ H Q q => ?_
  obtain ⟨F0, H0, pa, F, S, A, z⟩ := q
  unfold fVar at z
  cases o : S.r[i]? with
  | none => rw [o] at z; exact z.elim
  | some c =>
    rw [o] at z
    have so := A.slots i c o
    cases c with
    | un => exact z.elim
    | m kvs =>
      obtain ⟨a, ho, e1, _⟩ := so
      exact ⟨_, e1, z _ F H (Ex.refl F) A e1⟩
    | e c =>
      obtain ⟨a, e1, _⟩ := so
      exact ⟨_, e1, z _ F H (Ex.refl F) A e1⟩
    | sc ns => exact z.elim
    | es cs => exact z.elim
    | d x =>
      obtain ⟨v, e1, e2⟩ := so
      exact ⟨v, e1, z v F H (Ex.refl F) A e1⟩
    | l xs =>
      obtain ⟨a, vs, e1, _⟩ := so
      exact ⟨_, e1, z _ F H (Ex.refl F) A e1⟩
    | pen =>
      obtain ⟨q, _, so⟩ := so
      exact ⟨_, so, z _ F H (Ex.refl F) A so⟩
theorem de_c {x : D} {v : V} (h : PE X e (tC v)) (hx : ∀ F, Dn X.K F v x) : DE X W e (fC x) := PE.weak h fun σ H Q ⟨F0, H0, pa, F, S, A, z⟩ => z v F H (Ex.refl F) A (hx F)
theorem de_int {i : Int} {j : Nat} : DE X W (.Constant (.int i) j pos) (fC (.int i)) := de_c pe_int fun _ => .int i
theorem de_bl {x : Bool} {j : Nat} : DE X W (.Constant (.bool x) j pos) (fC (.bool x)) := de_c pe_bl fun _ => .bl x
theorem de_non {j : Nat} : DE X W (.Constant .none j pos) (fC .none) := de_c pe_non fun _ => .non
theorem de_str {x : Str} {j : Nat} : DE X W (.Constant (.str x) j pos) (fC (.str x)) := de_c pe_str fun _ => .str x
theorem de_globI {x : Str} {i : Int} (hg : Gl X x) (hm : ∃ t, X.mg x = some (.int i t)) (hd : (x == ("__debug__" : Str)) = false := by decide) : DE X W (.Name x pos) (fC (.int i)) := by
  obtain ⟨t, hm⟩ := hm
  exact de_c (pe_glob (v := .int i) hg hm ⟨t, rfl⟩ hd) fun _ => .int i
theorem de_globS {x z : Str} (hg : Gl X x) (hm : ∃ t, X.mg x = some (.str z t)) (hd : (x == ("__debug__" : Str)) = false := by decide) : DE X W (.Name x pos) (fC (.str z)) := by
  obtain ⟨t, hm⟩ := hm
  exact de_c (pe_glob (v := .str z) hg hm ⟨t, rfl⟩ hd) fun _ => .str z

/-! ### operations of two -/
def fBin (g : D → D → Option PV) (fa fb : Sq → Out PV) : Sq → Out PV := fun S => (fzF fa S).bind fun p S1 => (fzF fb S1).bind fun q S2 => match S2.val p, S2.val q with
  | some x, some y => (match g x y with
    | some z => .ok z S2
    | none => .no)
  | _, _ => .no
/-- r does what g says -/
def Does2 (K : PySem.W.Frag) (r : R2) (g : D → D → Option PV) : Prop := ∀ F H x y d e z Q, Ex F H → Dv K F H x d → Dv K F H y e → g d e = some z → (∀ v H', Gv K F H z v H' → Q v H') → r x y H Q
theorem RelP.fz_keep {K : PySem.W.Frag} {H0 F H F' H' : Hp} {pa : Option Addr} {σ : L2.St} {S S' : Sq} {v : V} {pv : PV} (r : RelP K H0 pa σ F H S v (fz pv)) (x : Ex F F') : RelP K H0 pa σ F' H' S' v (fz pv) := by
  cases pv with
  | s i => exact r
  | v d => exact Dn.mono x r
  | o c =>
    cases c with
    | l xs => exact Dn.mono x (show Dn K F v (.list xs) from r)
    | un => exact False.elim r
    | d z => exact False.elim r
    | m z => exact Dn.mono x (show Dn K F v (.dict z) from r)
    | e c => exact False.elim r
    | sc ns => exact False.elim r
    | es cs => exact False.elim r
    | pen => exact False.elim r
/-- two parts in a row: the first one's value still holds -/
theorem rd_two {K : PySem.W.Frag} {k : PV → PV → Sq → Out PV} {σ : L2.St} {H : Hp} {Q : VK} {R : V → V → Hp → Prop} (h : rd K W (fun S => (fzF fa S).bind fun p S1 => (fzF fb S1).bind fun q S2 => k p q S2) σ H Q)
    (n : ∀ F0 H0 pa F H' S' p q v u, Agr K F0 H0 pa σ F H' S' → RelP K H0 pa σ F H' S' v p → RelP K H0 pa σ F H' S' u q → OutP (k p q S') (TP K F0 H0 pa σ F Q) (EW K W F0 H0 pa σ) → R v u H') :
    rd K W (fzF fa) σ H fun v H1 => rd K W (fzF fb) σ H1 fun u H2 => R v u H2 := by
  obtain ⟨F0, H0, pa, F, S, A, z⟩ := h
  refine ⟨F0, H0, pa, F, S, A, ?_⟩
  rw [OutP.bind] at z
  unfold fzF at z ⊢
  rw [OutP.bind] at z ⊢
  refine z.imp (fun p S1 z v F1 H1 x1 A1 r1 => ⟨F0, H0, pa, F1, S1, A1, ?_⟩) fun _ _ z => z
  have z : OutP (((fb S1).bind fun q S2 => .ok (fz q) S2).bind fun q S2 => k (fz p) q S2) (TP K F0 H0 pa σ F Q) (EW K W F0 H0 pa σ) := z
  rw [OutP.bind, OutP.bind] at z
  rw [OutP.bind]
  refine z.imp (fun q S2 z u F2 H2 x2 A2 r2 => ?_) fun _ _ z => z
  exact n F0 H0 pa F2 H2 S2 (fz p) (fz q) v u A2 (r1.fz_keep x2) r2 (OutP.imp z (fun _ _ y => y.up (x1.trans x2)) fun _ _ y => y)
theorem rd_op2 {r : R2} {g : D → D → Option PV} (dz : Does2 X.K r g) {σ : L2.St} {H : Hp} {Q : VK} (h : rd X.K W (fBin g fa fb) σ H Q) : tOp r (rd X.K W (fzF fa)) (rd X.K W (fzF fb)) σ H Q :=
  rd_two (k := fun p q S2 => match S2.val p, S2.val q with
    | some x, some y => (match g x y with
      | some z => .ok z S2
      | none => .no)
    | _, _ => .no) h fun F0 H0 pa F H' S' p q v u A rp rq z => by
    cases e1 : S'.val p with
    | none => rw [e1] at z; exact z.elim
    | some x =>
      cases e2 : S'.val q with
      | none => rw [e1, e2] at z; exact z.elim
      | some y =>
        rw [e1, e2] at z
        dsimp only at z
        cases e3 : g x y with
        | none => rw [e3] at z; exact z.elim
        | some w =>
          rw [e3] at z
          refine dz F H' v u x y w Q A.sub (A.val rp e1) (A.val rq e2) e3 fun t H'' gv => ?_
          obtain ⟨F', xF, A', r'⟩ := A.gives gv
          exact z t F' H'' xF A' r'
theorem de_bin {op : Operator} {r : R2} {g : D → D → Option PV} (ho : OpR X (binaryOp op) r) (dz : Does2 X.K r g) (ha : DE X W a fa) (hb : DE X W b fb) : DE X W (.BinOp a op b pos) (fBin g fa fb) :=
  PE.weak (pe_op ho (de_fz ha) (de_fz hb)) fun _ _ _ q => rd_op2 dz q
theorem de_cmp {op : CmpOp} {r : R2} {g : D → D → Option PV} (ho : OpR X (compareOp op) r) (dz : Does2 X.K r g) (ha : DE X W a fa) (hb : DE X W b fb) (hm : behindInMarks op b = false := by first | exact nomark _ | rfl) : DE X W (.Compare a [op] [b] pos) (fBin g fa fb) :=
  PE.weak (pe_cmpR ho (de_fz ha) (de_fz hb) hm) fun _ _ _ q => rd_op2 dz q
theorem OpR.or {f : Value → Value → Sem Value} {r r' : R2} (h : OpR X f r) (h' : OpR X f r') : OpR X f (fun x y H Q => r x y H Q ∨ r' x y H Q) := fun pins s σ H x y v u Q I rx ry z => z.elim (h pins s σ H x y v u Q I rx ry) (h' pins s σ H x y v u Q I rx ry)
/-! ### + -/
def gAdd : D → D → Option PV
  | .int i, .int j => some (.v (.int (i + j)))
  | .str x, .str y => if x.length + y.length ≤ sizeLine then some (.v (.str (x ++ y))) else none
  | .list xs, .list ys => if xs.length + ys.length ≤ sizeLine then some (.o (.l (xs ++ ys))) else none
  | .tuple xs, .tuple ys => if xs.length + ys.length ≤ sizeLine then some (.v (.tuple (xs ++ ys))) else none
  | _, _ => none
theorem Gv.int {K : PySem.W.Frag} {F H : Hp} (i : Int) : Gv K F H (.v (.int i)) (.int i) H := .dn (.int i)
theorem Gv.bl {K : PySem.W.Frag} {F H : Hp} (b : Bool) : Gv K F H (.v (.bool b)) (.bl b) H := .dn (.bl b)
theorem Gv.str {K : PySem.W.Frag} {F H : Hp} (x : Str) : Gv K F H (.v (.str x)) (.str x) H := .dn (.str x)
theorem DnAll.nil_iff {K : PySem.W.Frag} {H : Hp} {vs : List V} {ds : List D} (h : DnAll K H vs ds) : vs = [] ↔ ds = [] := by
  cases h <;> simp
abbrev rAddS : R2 := fun x y H Q => ∃ i j, x = .str i ∧ y = .str j ∧ i.length + j.length ≤ sizeLine ∧ Q (.str (i ++ j)) H
theorem does_add {K : PySem.W.Frag} : Does2 K (fun x y H Q => (rI0 fun i j => .int (i + j)) x y H Q ∨ rAddS x y H Q ∨ rCat x y H Q ∨ rCatA K x y H Q) gAdd := by
  intro F H x y d e z Q sub hx hy hg h
  cases d <;> cases e <;> simp only [gAdd] at hg <;> try (cases hg; done)
  · cases hg
    rw [hx.int, hy.int]
    exact .inl ⟨_, _, rfl, rfl, h _ _ (Gv.int _)⟩
  · split at hg
    · cases hg
      rw [hx.str, hy.str]
      rename_i hz
      exact .inr (.inl ⟨_, _, rfl, rfl, hz, h _ _ (Gv.str _)⟩)
    · cases hg
  · split at hg
    · cases hg
      rename_i hz
      obtain ⟨a, vs, rfl, h1, h2⟩ := hx.list sub
      obtain ⟨b, ws, rfl, h3, h4⟩ := hy.list sub
      exact .inr (.inr (.inl ⟨a, b, vs, ws, rfl, rfl, h1, h3, by rw [h2.length, h4.length]; exact hz, fun p hp => h _ _ (.lst hp (h2.append h4))⟩))
    · cases hg
  · split at hg
    · cases hg
      rename_i hz
      obtain ⟨a, vs, rfl, h1, h2⟩ := hx.tuple
      obtain ⟨b, ws, rfl, h3, h4⟩ := hy.tuple
      refine .inr (.inr (.inr ⟨a, b, vs, ws, rfl, rfl, SqT.of (sub _ _ h1), SqT.of (sub _ _ h3), by rw [h2.length, h4.length]; exact hz, fun q => ?_, fun _ q => ?_, fun _ _ p hp => h _ _ (.tup hp (h2.append h4))⟩))
      · have e := h2.nil_iff.mp q
        subst e
        exact h _ _ (.dn (.tup h3 h4))
      · have e := h4.nil_iff.mp q
        subst e
        rw [List.append_nil] at h
        exact h _ _ (.dn (.tup h1 h2))
    · cases hg
theorem de_add (ha : DE X W a fa) (hb : DE X W b fb) : DE X W (.BinOp a .Add b pos) (fBin gAdd fa fb) :=
  de_bin (OpR.or op_add (OpR.or op_add_str (OpR.or op_cat op_catA))) does_add ha hb
end
end Q3
/-! Q3c: more operations. -/
namespace Q3
open PySem PySem.Spec PyProof.Rows L2
variable [TabSet]
section
variable {X : Cx} {pins : List (Addr × Obj)} {σ : L2.St} {H : Hp} {s : Shared}
theorem kD_reads {h : Heap} {k : Key} {u : Value} (r : RelV (kV k) u) : Reads h u (kD k) [] := by
  cases k with
  | inl i => obtain ⟨t, e⟩ := (show ∃ t, u = Value.int i t from r); subst e; exact Reads.int i t
  | inr x => obtain ⟨t, e⟩ := (show ∃ t, u = Value.str x t from r); subst e; exact Reads.str x t
theorem keyIs_rel {k : Key} {u : Value} (h : keyIs k u = true) : RelV (kV k) u := by
  rcases keyIs_shape h with ⟨i, t, rfl, rfl⟩ | ⟨x, t, rfl, rfl⟩
  · exact ⟨t, rfl⟩
  · exact ⟨t, rfl⟩
/-- the entries of a dict whose keys are numbers and texts -/
theorem dkEnts {P : Program} {w : World} {K : PySem.W.Frag} {H : Hp} : ∀ {es : List (Key × V)} {vs : List (Key × Value)} {ents : List DictEntry}, KV es vs → Pairs (mixKind P w) ents vs →
    Vals (es.map fun e => kV e.1) (ents.map (·.key)) ∧ Vals (es.map (·.2)) (ents.map (·.val)) ∧ DnAll K H (es.map fun e => kV e.1) (es.map fun e => kD e.1)
  | [], _, _, .nil, p => by cases p; exact ⟨.nil, .nil, .nil⟩
  | e :: es, _, _, .cons r rs, p => by
    cases p with
    | cons p1 p0 p2 =>
      obtain ⟨h1, h2, h3⟩ := dkEnts (P := P) (w := w) (K := K) (H := H) rs p2
      obtain ⟨k1, k2⟩ := r
      have hk : RelV (kV e.1) _ := keyIs_rel (by rw [k1]; exact p1)
      refine ⟨.cons hk h1, .cons ?_ h2, .cons ?_ h3⟩
      · have k3 := k2
        rw [← p0] at k3
        exact k3
      · show Dn K H (kV e.1) (kD e.1)
        cases e.1 with
        | inl i => exact .int i
        | inr x => exact .str x
theorem kvEnts : ∀ {es : List (D × V × V)} {ents : List DictEntry}, Paired kvE es ents → Vals (es.map (·.2.1)) (ents.map (·.key)) ∧ Vals (es.map (·.2.2)) (ents.map (·.val))
  | [], _, p => by cases p; exact ⟨.nil, .nil⟩
  | e :: es, _, p => by
    cases p with
    | cons p1 p2 =>
      obtain ⟨h1, h2⟩ := kvEnts p2
      exact ⟨.cons p1.1 h1, .cons p1.2.1 h2⟩
theorem kReads {h : Heap} : ∀ {es : List (Key × V)} {us : List Value}, Vals (es.map fun e => kV e.1) us → ∃ as, ReadsAll h us (es.map fun e => kD e.1) as
  | [], _, r => by cases r; exact ⟨_, ReadsAll.nil⟩
  | e :: es, _, r => by
    cases r with
    | cons r1 r2 =>
      obtain ⟨as, a⟩ := kReads (h := h) r2
      exact ⟨_, ReadsAll.cons (kD_reads r1) a⟩
mutual
theorem Dn.reads (I : Inv X pins σ H s) : ∀ (d : D) (v : V) (u : Value), Dn X.K H v d → RelV v u → ∃ as, Reads s.heap u d as
  | _, _, _, .non, r => by
    cases r
    exact ⟨_, Reads.none⟩
  | _, _, _, .bl b, r => by
    cases r
    exact ⟨_, Reads.bool b⟩
  | _, _, _, .int i, r => by
    obtain ⟨t, rfl⟩ := r
    exact ⟨_, Reads.int i t⟩
  | _, _, _, .str x, r => by
    obtain ⟨t, rfl⟩ := r
    exact ⟨_, Reads.str x t⟩
  | _, _, _, .lst h1 h2, r => by
    cases r
    obtain ⟨its, rv, ⟨o, n, ho, hc, hd, hs⟩, _⟩ := I.list (SqL.of h1)
    obtain ⟨as, ra⟩ := DnAll.reads I _ _ its h2 rv
    exact ⟨_, Reads.list ho hc hs (by simpa using ra)⟩
  | _, _, _, .tup h1 h2, r => by
    cases r
    obtain ⟨its, rv, ⟨o, ho, hc, n, hs⟩, _⟩ := I.tuple (SqT.of h1)
    obtain ⟨as, ra⟩ := DnAll.reads I _ _ its h2 rv
    exact ⟨_, Reads.tuple ho hc hs (by simpa using ra)⟩
  | _, _, _, .dctK h1 _ h2 h3, r => by
    cases r
    obtain ⟨_, _, vs, kv, o, es, ep, ho, hx, hd, ko, pr, _⟩ := I.hok _ _ h1
    obtain ⟨q1, q2, q3⟩ := dkEnts (K := X.K) (H := H) kv pr
    obtain ⟨as, ra⟩ := kReads (h := s.heap) q1
    obtain ⟨bs, rb⟩ := DnAll.reads I _ _ _ h3 q2
    exact ⟨_, Reads.dict ho hx.1 hd (by rw [h2]; exact ra) rb⟩
  | _, _, _, .dctE h1 h2 h3 h4 h5, r => by
    cases r
    obtain ⟨⟨_, _, o, es, ep, ho, hx, hd, pr, _⟩, _⟩ := I.hok _ _ h1
    obtain ⟨q1, q2⟩ := kvEnts pr
    obtain ⟨as, ra⟩ := DnAll.reads I _ _ _ h4 q1
    obtain ⟨bs, rb⟩ := DnAll.reads I _ _ _ h5 q2
    exact ⟨_, Reads.dict ho hx.1 hd ra rb⟩
theorem DnAll.reads (I : Inv X pins σ H s) : ∀ (ds : List D) (vs : List V) (us : List Value), DnAll X.K H vs ds → Vals vs us → ∃ as, ReadsAll s.heap us ds as
  | _, _, _, .nil, r => by
    cases r
    exact ⟨_, ReadsAll.nil⟩
  | _, _, _, .cons h1 h2, r => by
    cases r with
    | cons r1 r2 =>
      obtain ⟨as, a⟩ := Dn.reads I _ _ _ h1 r1
      obtain ⟨bs, b⟩ := DnAll.reads I _ _ _ h2 r2
      exact ⟨_, ReadsAll.cons a b⟩
end
end
section
variable {X : Cx} {W : WX} {a b c e : Expr} {fa fb fc : Sq → Out PV} {pos : Pos} {N : List Str} {sc : Scope} {k : Nat} {G : Gb}
/-! ### == and != -/
def rEqQ (K : PySem.W.Frag) (f : Bool → Bool) : R2 := fun x y H Q => ∃ d e, Dn K H x d ∧ Dn K H y e ∧ SeqAt.shaped d = true ∧ SeqAt.shaped e = true ∧ Q (.bl (f (PyData.eqv d e))) H
theorem op_eqQ (hu : X.A.units + 64 < cLine) : OpR X (compareOp .Eq) (rEqQ X.K id) := by
  intro pins s σ H x y v u Q I rx ry h
  obtain ⟨d, e, hd, he, sd, se, q⟩ := h
  obtain ⟨as, r1⟩ := Dn.reads I d x v hd rx
  obtain ⟨bs, r2⟩ := Dn.reads I e y u he ry
  exact SeqAt.compareEq_shaped r1 r2 sd se hu ⟨.bl _, H, I, rfl, q⟩
theorem op_neQ (hu : X.A.units + 64 < cLine) : OpR X (compareOp .NotEq) (rEqQ X.K not) := by
  intro pins s σ H x y v u Q I rx ry h
  obtain ⟨d, e, hd, he, sd, se, q⟩ := h
  obtain ⟨as, r1⟩ := Dn.reads I d x v hd rx
  obtain ⟨bs, r2⟩ := Dn.reads I e y u he ry
  exact SeqAt.compareNe_shaped r1 r2 sd se hu ⟨.bl _, H, I, rfl, q⟩
/-- texts are compared as they are; all else by its shape -/
def gEq : D → D → Option PV
  | .str a, .str b => some (.v (.bool (decide (a = b))))
  | d, e => if SeqAt.shaped d && SeqAt.shaped e then some (.v (.bool (PyData.eqv d e))) else none
def gNe : D → D → Option PV
  | .str a, .str b => some (.v (.bool (!decide (a = b))))
  | d, e => if SeqAt.shaped d && SeqAt.shaped e then some (.v (.bool (!PyData.eqv d e))) else none
theorem dec_str {a b : Str} : decide (V.str a = V.str b) = decide (a = b) := by
  rw [Bool.eq_iff_iff]
  simp
theorem gEq_some {d e : D} {z : PV} (h : gEq d e = some z) : (∃ a b, d = .str a ∧ e = .str b ∧ z = .v (.bool (decide (a = b)))) ∨ (SeqAt.shaped d = true ∧ SeqAt.shaped e = true ∧ z = .v (.bool (PyData.eqv d e))) := by
  unfold gEq at h
  split at h
  · cases h; exact .inl ⟨_, _, rfl, rfl, rfl⟩
  · split at h
    · rename_i q
      have q := Bool.and_eq_true_iff.mp q
      cases h
      exact .inr ⟨q.1, q.2, rfl⟩
    · cases h
theorem gNe_some {d e : D} {z : PV} (h : gNe d e = some z) : (∃ a b, d = .str a ∧ e = .str b ∧ z = .v (.bool (!decide (a = b)))) ∨ (SeqAt.shaped d = true ∧ SeqAt.shaped e = true ∧ z = .v (.bool (!PyData.eqv d e))) := by
  unfold gNe at h
  split at h
  · cases h; exact .inl ⟨_, _, rfl, rfl, rfl⟩
  · split at h
    · rename_i q
      have q := Bool.and_eq_true_iff.mp q
      cases h
      exact .inr ⟨q.1, q.2, rfl⟩
    · cases h
def rEqA (K : PySem.W.Frag) : R2 := fun x y H Q => rEqQ K id x y H Q ∨ rEq x y H Q
def rNeA (K : PySem.W.Frag) : R2 := fun x y H Q => rEqQ K not x y H Q ∨ rNe x y H Q
theorem op_eqA (hu : X.A.units + 64 < cLine) : OpR X (compareOp .Eq) (rEqA X.K) := OpR.or (op_eqQ hu) op_eq
theorem op_neA (hu : X.A.units + 64 < cLine) : OpR X (compareOp .NotEq) (rNeA X.K) := OpR.or (op_neQ hu) op_ne
theorem does_eq {K : PySem.W.Frag} : Does2 K (rEqA K) gEq := by
  intro F H x y d e z Q sub hx hy hg h
  rcases gEq_some hg with ⟨a, b, rfl, rfl, rfl⟩ | ⟨q1, q2, rfl⟩
  · rw [hx.str, hy.str]
    exact .inr ⟨rfl, by rw [dec_str]; exact h _ _ (Gv.bl _)⟩
  · exact .inl ⟨d, e, hx.dn sub, hy.dn sub, q1, q2, h _ _ (Gv.bl _)⟩
theorem does_ne {K : PySem.W.Frag} : Does2 K (rNeA K) gNe := by
  intro F H x y d e z Q sub hx hy hg h
  rcases gNe_some hg with ⟨a, b, rfl, rfl, rfl⟩ | ⟨q1, q2, rfl⟩
  · rw [hx.str, hy.str]
    exact .inr ⟨rfl, by rw [dec_str]; exact h _ _ (Gv.bl _)⟩
  · exact .inl ⟨d, e, hx.dn sub, hy.dn sub, q1, q2, h _ _ (Gv.bl _)⟩
theorem de_eq (C : Cq G k N sc X) (ha : DE X W a fa) (hb : DE X W b fb) : DE X W (.Compare a [.Eq] [b] pos) (fBin gEq fa fb) := de_cmp (op_eqA (by have := C.hd.un; omega)) does_eq ha hb
theorem de_ne (C : Cq G k N sc X) (ha : DE X W a fa) (hb : DE X W b fb) : DE X W (.Compare a [.NotEq] [b] pos) (fBin gNe fa fb) := de_cmp (op_neA (by have := C.hd.un; omega)) does_ne ha hb
/-! ### order of ints -/
def gInt (p : Int → Int → Option PV) : D → D → Option PV
  | .int i, .int j => p i j
  | _, _ => none
theorem gInt_some {p : Int → Int → Option PV} {d e : D} {z : PV} (h : gInt p d e = some z) : ∃ i j, d = .int i ∧ e = .int j ∧ p i j = some z := by
  cases d <;> cases e <;> simp only [gInt] at h <;> first | (cases h; done) | exact ⟨_, _, rfl, rfl, h⟩
theorem does_I0 {K : PySem.W.Frag} {g : Int → Int → V} {p : Int → Int → D} (hg : ∀ F i j, Dn K F (g i j) (p i j)) : Does2 K (rI0 g) (gInt fun i j => some (.v (p i j))) := by
  intro F H x y d e z Q sub hx hy q h
  obtain ⟨i, j, rfl, rfl, q⟩ := gInt_some q
  cases q
  rw [hx.int, hy.int]
  exact ⟨i, j, rfl, rfl, h _ _ (.dn (hg F i j))⟩
theorem does_I {K : PySem.W.Frag} {C : Int → Int → Prop} [∀ i j, Decidable (C i j)] {g : Int → Int → V} {p : Int → Int → D} (hg : ∀ F i j, Dn K F (g i j) (p i j)) : Does2 K (rI C g) (gInt fun i j => if C i j then some (.v (p i j)) else none) := by
  intro F H x y d e z Q sub hx hy q h
  obtain ⟨i, j, rfl, rfl, q2⟩ := gInt_some q
  clear q
  split at q2
  · rename_i hc
    cases q2
    rw [hx.int, hy.int]
    exact ⟨i, j, rfl, rfl, hc, h _ _ (.dn (hg F i j))⟩
  · cases q2
def gLt : D → D → Option PV := gInt fun i j => some (.v (.bool (decide (i < j))))
def gLe : D → D → Option PV := gInt fun i j => some (.v (.bool (decide (i ≤ j))))
def gGt : D → D → Option PV := gInt fun i j => some (.v (.bool (decide (j < i))))
def gGe : D → D → Option PV := gInt fun i j => some (.v (.bool (decide (j ≤ i))))
def gSub : D → D → Option PV := gInt fun i j => some (.v (.int (i - j)))
theorem de_lt (ha : DE X W a fa) (hb : DE X W b fb) : DE X W (.Compare a [.Lt] [b] pos) (fBin gLt fa fb) := de_cmp op_lt (does_I0 fun _ _ _ => .bl _) ha hb
theorem de_le (ha : DE X W a fa) (hb : DE X W b fb) : DE X W (.Compare a [.LtE] [b] pos) (fBin gLe fa fb) := de_cmp op_le (does_I0 fun _ _ _ => .bl _) ha hb
theorem de_gt (ha : DE X W a fa) (hb : DE X W b fb) : DE X W (.Compare a [.Gt] [b] pos) (fBin gGt fa fb) := de_cmp op_gt (does_I0 fun _ _ _ => .bl _) ha hb
theorem de_ge (ha : DE X W a fa) (hb : DE X W b fb) : DE X W (.Compare a [.GtE] [b] pos) (fBin gGe fa fb) := de_cmp op_ge (does_I0 fun _ _ _ => .bl _) ha hb
theorem de_sub (ha : DE X W a fa) (hb : DE X W b fb) : DE X W (.BinOp a .Sub b pos) (fBin gSub fa fb) := de_bin op_sub (does_I0 fun _ _ _ => .int _) ha hb
/-! ### % // ** -/
def gMod : D → D → Option PV := gInt fun i j => if 0 < j then some (.v (.int (i % j))) else none
instance {i j : Int} : Decidable (CDivW i j) := by unfold CDivW; infer_instance
instance {i j : Int} : Decidable (CMul i j) := by unfold CMul; infer_instance
def gDiv : D → D → Option PV := gInt fun i j => if CDivW i j then some (.v (.int (i / j))) else none
theorem de_mod (ha : DE X W a fa) (hb : DE X W b fb) : DE X W (.BinOp a .Mod b pos) (fBin gMod fa fb) := de_bin op_mod (does_I (C := fun _ j => 0 < j) fun _ _ _ => .int _) ha hb
theorem de_div (ha : DE X W a fa) (hb : DE X W b fb) : DE X W (.BinOp a .FloorDiv b pos) (fBin gDiv fa fb) := de_bin op_fdivW (does_I (C := CDivW) fun _ _ _ => .int _) ha hb
def CPowW (i j : Int) : Prop := 0 ≤ j ∧ j ≤ 100 ∧ i.natAbs < 2 ^ 100000
instance {i j : Int} : Decidable (CPowW i j) := by unfold CPowW; infer_instance
theorem op_powW : OpR X (binaryOp .Pow) (rI CPowW fun i j => .int (i ^ j.toNat)) := opI fun i j _ _ _ _ _ hc q => pow_int hc.1 (by
  obtain ⟨h1, h2, h3⟩ := hc
  have hb : Builtin.Int.intBits i ≤ 100000 := by
    unfold Builtin.Int.intBits
    split
    · exact Nat.zero_le _
    · have hn : i.natAbs ≠ 0 := by
        rename_i hz
        intro q
        have : i = 0 := by omega
        simp [this] at hz
      have := (Nat.log2_lt hn).mpr h3
      omega
  have hb' : (Builtin.Int.intBits i : Int) ≤ 100000 := by omega
  calc (Builtin.Int.intBits i : Int) * j ≤ 100000 * j := Int.mul_le_mul_of_nonneg_right hb' h1
    _ ≤ 100000 * 100 := Int.mul_le_mul_of_nonneg_left h2 (by decide)
    _ ≤ 2 ^ 27 := by decide) q
def gPow : D → D → Option PV := gInt fun i j => if CPowW i j then some (.v (.int (i ^ j.toNat))) else none
theorem de_pow (ha : DE X W a fa) (hb : DE X W b fb) : DE X W (.BinOp a .Pow b pos) (fBin gPow fa fb) := de_bin op_powW (does_I (C := CPowW) fun _ _ _ => .int _) ha hb
/-! ### * -/
def strRep (x : Str) (k : Nat) : Str := ⟨(List.replicate k x.cps.toList).flatten.toArray⟩
theorem strRep_fold (x : Str) : ∀ (k : Nat) (acc : Array Nat), (List.replicate k x.cps).foldl (· ++ ·) acc = acc ++ (List.replicate k x.cps.toList).flatten.toArray
  | 0, acc => by simp
  | k + 1, acc => by
    rw [List.replicate_succ, List.foldl_cons, strRep_fold x k, List.replicate_succ, List.flatten_cons, Array.append_assoc]
    congr 1
    apply Array.ext'
    simp
def rRepS : R2 := fun x y H Q => ∃ z k, x = .str z ∧ y = .int k ∧ 0 ≤ k ∧ k < 1000000 ∧ z.length * k.toNat ≤ sizeLine ∧ Q (.str (strRep z k.toNat)) H
theorem op_repS : OpR X (binaryOp .Mult) rRepS := by
  intro pins s σ H x y v u Q I rx ry h
  obtain ⟨z, k, rfl, rfl, h0, h1, hz, q⟩ := h
  obtain ⟨t, rfl⟩ := rx
  obtain ⟨t', rfl⟩ := ry
  have hsl := sizeLine_eq
  refine PySem.P.mul_str ?_ (fun h2 h3 => ?_) (fun h2 h3 => ?_) ?_
  · rw [decide_eq_false (by omega), decide_eq_false (by omega)]; rfl
  · have hk : 0 < k := by omega
    intro h4
    have h5 : (z.length : Int) * k ≤ 16777216 := by
      have e : ((z.length * k.toNat : Nat) : Int) = (z.length : Int) * k := by
        rw [Int.natCast_mul, Int.toNat_of_nonneg h0]
      rw [← e]; omega
    have h6 : (2 ^ 63 - 1) / k < (z.length : Int) := h4
    rw [Int.ediv_lt_iff_lt_mul hk] at h6
    omega
  · exact decide_eq_false (show ¬ _ by omega)
  · split
    · rename_i h2
      have e : k = 0 := by omega
      subst e
      exact ⟨by decide, .str _, H, I.tok _, ⟨_, rfl⟩, q⟩
    · split
      · rename_i h2 h3
        have e : strRep z k.toNat = z := by
          rcases Bool.or_eq_true_iff.mp h3 with h3 | h3
          · have h3 : k = 1 := by simpa using h3
            subst h3
            unfold strRep
            simp
          · have h3 : z.length = 0 := by simpa using h3
            have e0 : z.cps = #[] := Array.eq_empty_of_size_eq_zero h3
            unfold strRep
            obtain ⟨c⟩ := z
            simp only at e0
            subst e0
            simp
        rw [e] at q
        exact ⟨.str _, H, I, ⟨_, rfl⟩, q⟩
      · have e : (⟨(List.replicate k.toNat z.cps).foldl (· ++ ·) #[]⟩ : Str) = strRep z k.toNat := by
          unfold strRep
          rw [strRep_fold]
          simp
        rw [e]
        refine ⟨?_, .str _, H, I.tok _, ⟨_, rfl⟩, q⟩
        show (strRep z k.toNat).cps.size ≤ sizeLine
        unfold strRep
        simp only [List.size_toArray, List.length_flatten, List.map_replicate, List.sum_replicate_nat, Array.length_toList]
        rw [Nat.mul_comm]
        exact hz
def gMul : D → D → Option PV
  | .int i, .int j => if CMul i j then some (.v (.int (i * j))) else none
  | .list xs, .int j => if 0 ≤ j ∧ j < 1000000 ∧ xs.length * j.toNat ≤ sizeLine then some (.o (.l (List.replicate j.toNat xs).flatten)) else none
  | .str z, .int j => if 0 ≤ j ∧ j < 1000000 ∧ z.length * j.toNat ≤ sizeLine then some (.v (.str (strRep z j.toNat))) else none
  | _, _ => none
theorem DnAll.rep {K : PySem.W.Frag} {H : Hp} {vs : List V} {ds : List D} (h : DnAll K H vs ds) : ∀ n : Nat, DnAll K H (List.replicate n vs).flatten (List.replicate n ds).flatten
  | 0 => .nil
  | n + 1 => by
    rw [List.replicate_succ, List.replicate_succ, List.flatten_cons, List.flatten_cons]
    exact h.append (h.rep n)
theorem does_mul {K : PySem.W.Frag} : Does2 K (fun x y H Q => rI CMul (fun i j => .int (i * j)) x y H Q ∨ rRep x y H Q ∨ rRepS x y H Q) gMul := by
  intro F H x y d e z Q sub hx hy hg h
  cases d <;> cases e <;> simp only [gMul] at hg <;> try (cases hg; done)
  · split at hg
    · rename_i hc
      cases hg
      rw [hx.int, hy.int]
      exact .inl ⟨_, _, rfl, rfl, hc, h _ _ (Gv.int _)⟩
    · cases hg
  · split at hg
    · rename_i hc
      cases hg
      rw [hx.str, hy.int]
      exact .inr (.inr ⟨_, _, rfl, rfl, hc.1, hc.2.1, hc.2.2, h _ _ (Gv.str _)⟩)
    · cases hg
  · split at hg
    · rename_i hc
      cases hg
      obtain ⟨l, vs, rfl, h1, h2⟩ := hx.list sub
      rw [hy.int]
      exact .inr (.inl ⟨l, _, vs, rfl, rfl, h1, by omega, by omega, by rw [h2.length]; exact hc.2.2, fun p hp => h _ _ (.lst hp (h2.rep _))⟩)
    · cases hg
theorem de_mul (ha : DE X W a fa) (hb : DE X W b fb) : DE X W (.BinOp a .Mult b pos) (fBin gMul fa fb) := de_bin (OpR.or op_mul (OpR.or op_rep op_repS)) does_mul ha hb
/-! ### is None -/
def isNone : D → Bool
  | .none => true
  | _ => false
def gIsN : D → D → Option PV
  | d, .none => some (.v (.bool (isNone d)))
  | _, _ => none
def gNotN : D → D → Option PV
  | d, .none => some (.v (.bool (!isNone d)))
  | _, _ => none
theorem Dv.isN {K : PySem.W.Frag} {F H : Hp} {v : V} {d : D} (h : Dv K F H v d) : decide (v = .non) = isNone d := by
  rcases h with h | ⟨a, vs, xs, rfl, rfl, _⟩ | ⟨a, ho, kvs, rfl, rfl, _⟩
  · cases h <;> first | rfl | exact decide_eq_false (fun q => nomatch q) | exact decide_eq_true rfl
  · exact decide_eq_false (fun q => nomatch q)
  · exact decide_eq_false (fun q => nomatch q)
theorem does_isN {K : PySem.W.Frag} : Does2 K (fun x y H Q => y = .non ∧ Q (.bl (decide (x = .non))) H) gIsN := by
  intro F H x y d e z Q sub hx hy hg h
  cases e <;> simp only [gIsN] at hg <;> try (cases hg; done)
  cases hg
  refine ⟨hy.non, ?_⟩
  rw [hx.isN]
  exact h _ _ (Gv.bl _)
theorem does_notN {K : PySem.W.Frag} : Does2 K (fun x y H Q => y = .non ∧ Q (.bl (!decide (x = .non))) H) gNotN := by
  intro F H x y d e z Q sub hx hy hg h
  cases e <;> simp only [gNotN] at hg <;> try (cases hg; done)
  cases hg
  refine ⟨hy.non, ?_⟩
  rw [hx.isN]
  exact h _ _ (Gv.bl _)
theorem de_isN (ha : DE X W a fa) (hb : DE X W b fb) : DE X W (.Compare a [.Is] [b] pos) (fBin gIsN fa fb) := de_cmp op_isN does_isN ha hb
theorem de_notN (ha : DE X W a fa) (hb : DE X W b fb) : DE X W (.Compare a [.IsNot] [b] pos) (fBin gNotN fa fb) := de_cmp op_notN does_notN ha hb
/-! ### in -/
def inS (x y : Str) : Bool := !(Builtin.Str.occurrences y x 0 y.length 1).isEmpty
def gIn (neg : Bool) : D → D → Option PV
  | .str x, .str y => some (.v (.bool (if neg then !inS x y else inS x y)))
  | d, .list ds => if SeqAt.shaped d && SeqAt.shaped (.list ds) then some (.v (.bool (if neg then !ds.any fun z => PyData.eqv z d else ds.any fun z => PyData.eqv z d))) else none
  | d, .tuple ds => if SeqAt.shaped d && SeqAt.shaped (.tuple ds) then some (.v (.bool (if neg then !ds.any fun z => PyData.eqv z d else ds.any fun z => PyData.eqv z d))) else none
  | _, _ => none
theorem gIn_cases {neg : Bool} {d e : D} {z : PV} (h : gIn neg d e = some z) : (∃ x y, d = .str x ∧ e = .str y ∧ z = .v (.bool (if neg then !inS x y else inS x y))) ∨
    ∃ ds, (e = .list ds ∨ e = .tuple ds) ∧ SeqAt.shaped d = true ∧ SeqAt.shaped e = true ∧ z = .v (.bool (if neg then !ds.any fun z => PyData.eqv z d else ds.any fun z => PyData.eqv z d)) := by
  cases e with
  | str y =>
    cases d <;> simp only [gIn] at h <;> first | (cases h; done) | (cases h; exact .inl ⟨_, _, rfl, rfl, rfl⟩)
  | list ds =>
    have h' : (if SeqAt.shaped d && SeqAt.shaped (.list ds) then some (PV.v (.bool (if neg then !ds.any fun z => PyData.eqv z d else ds.any fun z => PyData.eqv z d))) else none) = some z := by cases d <;> exact h
    split at h'
    · rename_i q
      have q := Bool.and_eq_true_iff.mp q
      cases h'
      exact .inr ⟨ds, .inl rfl, q.1, q.2, rfl⟩
    · cases h'
  | tuple ds =>
    have h' : (if SeqAt.shaped d && SeqAt.shaped (.tuple ds) then some (PV.v (.bool (if neg then !ds.any fun z => PyData.eqv z d else ds.any fun z => PyData.eqv z d))) else none) = some z := by cases d <;> exact h
    split at h'
    · rename_i q
      have q := Bool.and_eq_true_iff.mp q
      cases h'
      exact .inr ⟨ds, .inr rfl, q.1, q.2, rfl⟩
    · cases h'
  | none => cases d <;> cases h
  | bool b => cases d <;> cases h
  | int i => cases d <;> cases h
  | dict kvs => cases d <;> cases h
def rInQ (K : PySem.W.Frag) (neg : Bool) : R2 := fun x y H Q => (∃ i j, x = .str i ∧ y = .str j ∧ Q (.bl (if neg then !inS i j else inS i j)) H) ∨
  ∃ d e ds, (e = .list ds ∨ e = .tuple ds) ∧ Dn K H x d ∧ Dn K H y e ∧ SeqAt.shaped d = true ∧ SeqAt.shaped e = true ∧ Q (.bl (if neg then !ds.any fun z => PyData.eqv z d else ds.any fun z => PyData.eqv z d)) H
theorem op_inQ (hu : X.A.units + 65 < cLine) : OpR X (compareOp .In) (rInQ X.K false) := by
  intro pins s σ H x y v u Q I rx ry h
  rcases h with h | ⟨d, e, ds, he, hd, hy, sd, se, q⟩
  · exact op_in_str pins s σ H x y v u Q I rx ry h
  · obtain ⟨as, r1⟩ := Dn.reads I d x v hd rx
    obtain ⟨bs, r2⟩ := Dn.reads I e y u hy ry
    rcases he with rfl | rfl
    · exact SeqAt.in_list_reads r2 r1 (SeqAt.canLay_of_shaped se) (SeqAt.canLay_of_shaped sd) (room_in_shaped sd hu) ⟨.bl _, H, I, rfl, q⟩
    · exact SeqAt.in_tuple_reads r2 r1 (SeqAt.canLay_of_shaped se) (SeqAt.canLay_of_shaped sd) (room_in_shaped sd hu) ⟨.bl _, H, I, rfl, q⟩
theorem op_notInQ (hu : X.A.units + 65 < cLine) : OpR X (compareOp .NotIn) (rInQ X.K true) := by
  intro pins s σ H x y v u Q I rx ry h
  rcases h with h | ⟨d, e, ds, he, hd, hy, sd, se, q⟩
  · exact op_notin_str pins s σ H x y v u Q I rx ry h
  · obtain ⟨as, r1⟩ := Dn.reads I d x v hd rx
    obtain ⟨bs, r2⟩ := Dn.reads I e y u hy ry
    rcases he with rfl | rfl
    · exact SeqAt.notIn_list_reads r2 r1 (SeqAt.canLay_of_shaped se) (SeqAt.canLay_of_shaped sd) (room_in_shaped sd hu) ⟨.bl _, H, I, rfl, q⟩
    · exact SeqAt.notIn_tuple_reads r2 r1 (SeqAt.canLay_of_shaped se) (SeqAt.canLay_of_shaped sd) (room_in_shaped sd hu) ⟨.bl _, H, I, rfl, q⟩
theorem does_in {K : PySem.W.Frag} (neg : Bool) : Does2 K (rInQ K neg) (gIn neg) := by
  intro F H x y d e z Q sub hx hy hg h
  rcases gIn_cases hg with ⟨i, j, rfl, rfl, rfl⟩ | ⟨ds, he, sd, se, rfl⟩
  · exact .inl ⟨i, j, hx.str, hy.str, h _ _ (Gv.bl _)⟩
  · exact .inr ⟨d, e, ds, he, hx.dn sub, hy.dn sub, sd, se, h _ _ (Gv.bl _)⟩
theorem de_in (C : Cq G k N sc X) (ha : DE X W a fa) (hb : DE X W b fb) (hm : behindInMarks .In b = false := by rfl) : DE X W (.Compare a [.In] [b] pos) (fBin (gIn false) fa fb) := de_cmp (op_inQ (by have := C.hd.un; omega)) (does_in false) ha hb hm
theorem de_notIn (C : Cq G k N sc X) (ha : DE X W a fa) (hb : DE X W b fb) (hm : behindInMarks .NotIn b = false := by rfl) : DE X W (.Compare a [.NotIn] [b] pos) (fBin (gIn true) fa fb) := de_cmp (op_notInQ (by have := C.hd.un; omega)) (does_in true) ha hb hm
/-! ### a <= b <= c of ints -/
def fChain (p q : Int → Int → Bool) (fa fb fc : Sq → Out PV) : Sq → Out PV := fun S => (fzF fa S).bind fun x S1 => (fzF fb S1).bind fun y S2 => match S2.val x, S2.val y with
  | some (.int i), some (.int j) => if p i j = true then (fzF fc S2).bind fun z S3 => (match S3.val z with
    | some (.int l) => .ok (.v (.bool (q j l))) S3
    | _ => .no) else .ok (.v (.bool false)) S2
  | _, _ => .no
theorem Dv.of_int {K : PySem.W.Frag} {F0 H0 F H : Hp} {pa : Option Addr} {σ : L2.St} {S : Sq} {v : V} {pv : PV} {i : Int} (A : Agr K F0 H0 pa σ F H S) (r : RelP K H0 pa σ F H S v pv) (e : S.val pv = some (.int i)) : v = .int i := (A.val r e).int
theorem de_chain {op op' : CmpOp} {p q : Int → Int → Bool} (ho : OpR X (compareOp op) (rI0 fun i j => .bl (p i j))) (ho' : OpR X (compareOp op') (rI0 fun i j => .bl (q i j))) (ha : DE X W a fa) (hb : DE X W b fb) (hc : DE X W c fc)
    (hm : lastMarks [op, op'] [b, c] = false := by with_unfolding_all rfl) : DE X W (.Compare a [op, op'] [b, c] pos) (fChain p q fa fb fc) := by
  refine PE.weak (pe_chain ho ho' (de_fz ha) (de_fz hb) (de_fz hc) hm) fun σ H Q z => ?_
  refine rd_two (Q := Q) (R := fun x y H2 => (rI0 fun i j => V.bl (p i j)) x y H2 fun z H3 => ∃ k, z = .bl k ∧ (if k = true then rd X.K W (fzF fc) σ H3 fun w' H4 => (rI0 fun i j => V.bl (q i j)) y w' H4 Q else Q (.bl false) H3)) z fun F0 H0 pa F H' S' x y v u A rx ry z => ?_
  split at z
  · rename_i i j e1 e2
    have ev := Dv.of_int A rx e1
    have eu := Dv.of_int A ry e2
    subst ev eu
    refine ⟨i, j, rfl, rfl, _, rfl, ?_⟩
    by_cases hp : p i j = true
    · rw [if_pos hp] at z ⊢
      rw [OutP.bind] at z
      refine ⟨F0, H0, pa, F, S', A, z.imp (fun w S3 z v F3 H3 x3 A3 r3 => ?_) fun _ _ z => z⟩
      split at z
      · rename_i l e3
        rw [Dv.of_int A3 r3 e3]
        exact ⟨j, l, rfl, rfl, z _ F3 H3 x3 A3 (.bl _)⟩
      · exact z.elim
    · rw [if_neg hp] at z ⊢
      exact z _ F H' (Ex.refl F) A (.bl _)
  · exact z.elim
/-! ### tests -/
def fB (f : Sq → Out PV) : Sq → Out Bool := fun S => (f S).bind fun p S' => match S'.val p with
  | some (.bool b) => .ok b S'
  | _ => .no
theorem dt_val (h : DE X W e fa) (he : ∀ whole, isTrue e X.env whole = (do let v ← whole; standAt e.pos; holding [v] (truthy v)) := by intro _; rfl) : DT X W e (fB fa) := by
  refine PT.weak (pt_val h he) fun σ H Q z => ?_
  obtain ⟨F0, H0, pa, F, S, A, z⟩ := z
  unfold fB at z
  rw [OutP.bind] at z
  refine ⟨F0, H0, pa, F, S, A, z.imp (fun w S3 z v F3 H3 x3 A3 r3 => ?_) fun _ _ z => z⟩
  split at z
  · rename_i b e3
    exact ⟨b, (A3.val r3 e3).bl, z F3 H3 x3 A3⟩
  · exact z.elim
def tAndF (f g : Sq → Out Bool) : Sq → Out Bool := fun S => (f S).bind fun b S' => if b = true then g S' else .ok false S'
def tOrF (f g : Sq → Out Bool) : Sq → Out Bool := fun S => (f S).bind fun b S' => if b = true then .ok true S' else g S'
def tNotF (f : Sq → Out Bool) : Sq → Out Bool := fun S => (f S).bind fun b S' => .ok (!b) S'
variable {ta tb : Sq → Out Bool} {rest : List Expr}
theorem dw_and1 (ha : DT X W a ta) : DW X W (.BoolOp .And [a] pos) ta := pw_and1 ha
theorem dw_or1 (ha : DT X W a ta) : DW X W (.BoolOp .Or [a] pos) ta := pw_or1 ha
theorem dw_and (ha : DT X W a ta) (hb : DW X W (.BoolOp .And (b :: rest) pos) tb) : DW X W (.BoolOp .And (a :: b :: rest) pos) (tAndF ta tb) := by
  refine PW.weak (pw_and ha hb) fun σ H Q z => ?_
  obtain ⟨F0, H0, pa, F, S, A, z⟩ := z
  unfold tAndF at z
  rw [OutP.bind] at z
  refine ⟨F0, H0, pa, F, S, A, z.imp (fun w S3 z F3 H3 x3 A3 => ?_) fun _ _ z => z⟩
  cases w with
  | true => exact ⟨F0, H0, pa, F3, S3, A3, OutP.imp z (fun _ _ y => y.up x3) fun _ _ y => y⟩
  | false => exact z F3 H3 x3 A3
theorem dw_or (ha : DT X W a ta) (hb : DW X W (.BoolOp .Or (b :: rest) pos) tb) : DW X W (.BoolOp .Or (a :: b :: rest) pos) (tOrF ta tb) := by
  refine PW.weak (pw_or ha hb) fun σ H Q z => ?_
  obtain ⟨F0, H0, pa, F, S, A, z⟩ := z
  unfold tOrF at z
  rw [OutP.bind] at z
  refine ⟨F0, H0, pa, F, S, A, z.imp (fun w S3 z F3 H3 x3 A3 => ?_) fun _ _ z => z⟩
  cases w with
  | false => exact ⟨F0, H0, pa, F3, S3, A3, OutP.imp z (fun _ _ y => y.up x3) fun _ _ y => y⟩
  | true => exact z F3 H3 x3 A3
theorem dt_w (h : DW X W e ta) : DT X W e ta := h.pt
theorem dt_not (ha : DT X W a ta) : DT X W (.UnaryOp .Not a pos) (tNotF ta) := by
  refine PT.weak (pt_not ha) fun σ H Q z => ?_
  obtain ⟨F0, H0, pa, F, S, A, z⟩ := z
  unfold tNotF at z
  rw [OutP.bind] at z
  exact ⟨F0, H0, pa, F, S, A, z.imp (fun w S3 z F3 H3 x3 A3 => z F3 H3 x3 A3) fun _ _ z => z⟩
/-- and, or, not as values -/
def bv (f : Sq → Out Bool) : Sq → Out PV := fun S => (f S).bind fun b S' => .ok (.v (.bool b)) S'
theorem de_one {op : BoolOp} (h : DE X W a fa) : DE X W (.BoolOp op [a] pos) (bv (fB fa)) := by
  refine PE.weak (pe_one h) fun σ H Q z => ?_
  obtain ⟨F0, H0, pa, F, S, A, z⟩ := z
  unfold bv fB at z
  rw [OutP.bind, OutP.bind] at z
  refine ⟨F0, H0, pa, F, S, A, z.imp (fun w S3 z v F3 H3 x3 A3 r3 => ?_) fun _ _ z => z⟩
  split at z
  · rename_i b e3
    rw [(A3.val r3 e3).bl]
    exact z _ F3 H3 x3 A3 (.bl _)
  · exact z.elim
theorem de_and (ha : DE X W a fa) (hb : DE X W (.BoolOp .And (b :: rest) pos) (bv tb)) : DE X W (.BoolOp .And (a :: b :: rest) pos) (bv (tAndF (fB fa) tb)) := by
  refine PE.weak (pe_and ha hb) fun σ H Q z => ?_
  obtain ⟨F0, H0, pa, F, S, A, z⟩ := z
  unfold bv tAndF fB at z
  rw [OutP.bind, OutP.bind, OutP.bind] at z
  refine ⟨F0, H0, pa, F, S, A, z.imp (fun w S3 z v F3 H3 x3 A3 r3 => ?_) fun _ _ z => z⟩
  split at z
  · rename_i c e3
    rw [(A3.val r3 e3).bl]
    refine ⟨c, rfl, ?_⟩
    cases c with
    | true =>
      refine ⟨F0, H0, pa, F3, S3, A3, ?_⟩
      unfold bv
      rw [OutP.bind]
      exact OutP.imp z (fun _ _ y => TP.up y x3) fun _ _ y => y
    | false => exact z _ F3 H3 x3 A3 (.bl _)
  · exact z.elim
theorem de_or (ha : DE X W a fa) (hb : DE X W (.BoolOp .Or (b :: rest) pos) (bv tb)) : DE X W (.BoolOp .Or (a :: b :: rest) pos) (bv (tOrF (fB fa) tb)) := by
  refine PE.weak (pe_or ha hb) fun σ H Q z => ?_
  obtain ⟨F0, H0, pa, F, S, A, z⟩ := z
  unfold bv tOrF fB at z
  rw [OutP.bind, OutP.bind, OutP.bind] at z
  refine ⟨F0, H0, pa, F, S, A, z.imp (fun w S3 z v F3 H3 x3 A3 r3 => ?_) fun _ _ z => z⟩
  split at z
  · rename_i c e3
    rw [(A3.val r3 e3).bl]
    refine ⟨c, rfl, ?_⟩
    cases c with
    | false =>
      refine ⟨F0, H0, pa, F3, S3, A3, ?_⟩
      unfold bv
      rw [OutP.bind]
      exact OutP.imp z (fun _ _ y => TP.up y x3) fun _ _ y => y
    | true => exact z _ F3 H3 x3 A3 (.bl _)
  · exact z.elim
theorem de_not (ha : DE X W a fa) : DE X W (.UnaryOp .Not a pos) (bv (tNotF (fB fa))) := by
  refine PE.weak (pe_not ha) fun σ H Q z => ?_
  obtain ⟨F0, H0, pa, F, S, A, z⟩ := z
  unfold bv tNotF fB at z
  rw [OutP.bind, OutP.bind, OutP.bind] at z
  refine ⟨F0, H0, pa, F, S, A, z.imp (fun w S3 z v F3 H3 x3 A3 r3 => ?_) fun _ _ z => z⟩
  split at z
  · rename_i c e3
    rw [(A3.val r3 e3).bl]
    exact ⟨c, rfl, z _ F3 H3 x3 A3 (.bl _)⟩
  · exact z.elim
def fIf (t : Sq → Out Bool) (fa fb : Sq → Out PV) : Sq → Out PV := fun S => (t S).bind fun c S' => if c = true then fa S' else fb S'
theorem de_if (hc : DT X W c ta) (ha : DE X W a fa) (hb : DE X W b fb) : DE X W (.IfExp c a b pos) (fIf ta fa fb) := by
  refine PE.weak (pe_ifExp hc ha hb) fun σ H Q z => ?_
  obtain ⟨F0, H0, pa, F, S, A, z⟩ := z
  unfold fIf at z
  rw [OutP.bind] at z
  refine ⟨F0, H0, pa, F, S, A, z.imp (fun w S3 z F3 H3 x3 A3 => ?_) fun _ _ z => z⟩
  cases w with
  | true => exact ⟨F0, H0, pa, F3, S3, A3, OutP.imp z (fun _ _ y => y.up x3) fun _ _ y => y⟩
  | false => exact ⟨F0, H0, pa, F3, S3, A3, OutP.imp z (fun _ _ y => y.up x3) fun _ _ y => y⟩
end
end Q3
/-! Q3d: places, slices, displays, calls of built-ins. -/
namespace Q3
open PySem PySem.Spec PyProof.Rows L2
variable [TabSet]
section
variable {X : Cx} {W : WX} {a b c e : Expr} {fa fb fc : Sq → Out PV} {pos : Pos} {N : List Str} {sc : Scope} {k : Nat} {G : Gb}
/-! ### xs[i] -/
def gIx : D → D → Option PV
  | .list xs, .int i => (atI xs i).map .v
  | .tuple xs, .int i => (atI xs i).map .v
  | .str z, .int i => if z.length ≤ sizeLine then (atI z.cps.toList i).map fun c => .v (.str ⟨#[c]⟩) else none
  | _, _ => none
theorem DnAll.atI {K : PySem.W.Frag} {H : Hp} {vs : List V} {ds : List D} {i : Int} {d : D} (h : DnAll K H vs ds) (e : L2.atI ds i = some d) : ∃ v, L2.atI vs i = some v ∧ Dn K H v d := by
  unfold L2.atI at e ⊢
  rw [h.length]
  cases q : ixN ds.length i with
  | none => rw [q] at e; cases e
  | some j =>
    rw [q] at e
    exact h.get (show ds[j]? = some d from e)
theorem does_ix {K : PySem.W.Frag} : Does2 K (rIx K) gIx := by
  intro F H x y d e z Q sub hx hy hg h
  cases d <;> cases e <;> simp only [gIx] at hg <;> try (cases hg; done)
  · split at hg
    · rename_i hz
      obtain ⟨c, e1, e2⟩ := Option.map_eq_some_iff.mp hg
      cases e2
      rw [hx.str, hy.int]
      exact .inr (.inr ⟨_, _, c, rfl, rfl, hz, e1, h _ _ (Gv.str _)⟩)
    · cases hg
  · obtain ⟨c, e1, e2⟩ := Option.map_eq_some_iff.mp hg
    cases e2
    obtain ⟨l, vs, rfl, h1, h2⟩ := hx.list sub
    obtain ⟨v, e3, e4⟩ := h2.atI e1
    rw [hy.int]
    exact .inl ⟨l, vs, _, v, rfl, rfl, SqL.of h1, e3, h _ _ (.dn e4)⟩
  · obtain ⟨c, e1, e2⟩ := Option.map_eq_some_iff.mp hg
    cases e2
    obtain ⟨l, vs, rfl, h1, h2⟩ := hx.tuple
    obtain ⟨v, e3, e4⟩ := h2.atI e1
    rw [hy.int]
    exact .inr (.inl ⟨l, vs, _, v, rfl, rfl, SqT.of (sub _ _ h1), e3, h _ _ (.dn e4)⟩)
theorem de_ix (ha : DE X W a fa) (hb : DE X W b fb) (hs : PlainIx b := by intro _ _; rfl) : DE X W (.Subscript a b pos) (fBin gIx fa fb) :=
  PE.weak (pe_ix ix_seq (de_fz ha) (de_fz hb) hs) fun _ _ _ q => rd_op2 does_ix q
/-- the pen's places -/
def fPen (i : Nat) (j : Int) : Sq → Out PV := fun S => match S.r[i]?, S.p with
  | some .pen, some P => if j = 0 then .ok (.v (.list (P.cells.map .int))) S else if j = 1 then .ok (.v (.int P.at_)) S else if j = 2 then .ok (.v (.int P.rest)) S else .no
  | _, _ => .no
theorem de_pen (i : Nat) {j : Int} {n : Nat} {x : Str} {p1 p2 : Pos} (C : Cq G k N sc X) (hN : N[i]? = some x := by rfl) (hv : sc.names.lookup x = some .local ∨ sc.names.lookup x = some .cell ∨ sc.names.lookup x = some .free := by first | exact Or.inl rfl | exact Or.inr (Or.inl rfl) | exact Or.inr (Or.inr rfl))
    (hd : (x == ("__debug__" : Str)) = false := by decide) (hcd : (x == ("__classdict__" : Str)) = false := by decide) : DE X W (.Subscript (.Name x p1) (.Constant (.int j) n p2) pos) (fPen i j) := by
  refine PE.weak (pe_ix ix_seq (pe_var (i := i) (by rw [C.names]; exact hN) (by show Vis X.env.scope x; rw [C.scope]; exact hv) hd hcd) (pe_int (i := j) (j := n)) (by intro _ _; rfl)) fun σ H Q q => ?_
  obtain ⟨F0, H0, pa, F, S, A, z⟩ := q
  unfold fPen at z
  split at z
  · rename_i P e1 e2
    obtain ⟨pa, eq, so⟩ := A.slots i _ e1
    obtain ⟨P', c, eP, h1, h2, h3⟩ := A.pen.at eq.symm
    rw [e2] at eP; cases eP
    refine ⟨.ref pa, so, ?_⟩
    by_cases j0 : j = 0
    · subst j0
      rw [if_pos rfl] at z
      exact .inl ⟨pa, _, 0, .ref c, rfl, rfl, SqL.of h1, rfl, z _ F H (Ex.refl F) A (.lst h3 (DnAll.of_ints _))⟩
    · rw [if_neg j0] at z
      by_cases j1 : j = 1
      · subst j1
        rw [if_pos rfl] at z
        exact .inl ⟨pa, _, 1, .int P.at_, rfl, rfl, SqL.of h1, rfl, z _ F H (Ex.refl F) A (.int _)⟩
      · rw [if_neg j1] at z
        by_cases j2 : j = 2
        · subst j2
          rw [if_pos rfl] at z
          exact .inl ⟨pa, _, 2, .int P.rest, rfl, rfl, SqL.of h1, rfl, z _ F H (Ex.refl F) A (.int _)⟩
        · rw [if_neg j2] at z
          exact z.elim
  · exact z.elim
/-! ### slices -/
def rdO (K : PySem.W.Frag) (W : WX) (f : Sq → Out (Option Int)) : TO := fun σ H Q => ∃ F0 H0 pa F S, Agr K F0 H0 pa σ F H S ∧ OutP (f S) (fun o S' => ∀ F' H', Ex F F' → Agr K F0 H0 pa σ F' H' S' → Q o H') (EW K W F0 H0 pa σ)
def DO (X : Cx) (W : WX) (e : Option Expr) (f : Sq → Out (Option Int)) : Prop := PO X e (rdO X.K W f)
def fNoPart : Sq → Out (Option Int) := fun S => .ok none S
def fPart (f : Sq → Out PV) : Sq → Out (Option Int) := fun S => (f S).bind fun p S' => match S'.val p with
  | some (.int i) => .ok (some i) S'
  | _ => .no
theorem do_none : DO X W none fNoPart := ⟨fun pins s σ H Q I ⟨F0, H0, pa, F, S, A, z⟩ => po_none.run pins s σ H Q I (z F H (Ex.refl F) A)⟩
theorem do_some (h : DE X W e fa) : DO X W (some e) (fPart fa) := ⟨fun pins s σ H Q I ⟨F0, H0, pa, F, S, A, z⟩ => (po_some h).run pins s σ H Q I (by
  unfold fPart at z
  rw [OutP.bind] at z
  refine ⟨F0, H0, pa, F, S, A, z.imp (fun w S3 z v F3 H3 x3 A3 r3 => ?_) fun _ _ z => z⟩
  split at z
  · rename_i i e3
    exact ⟨i, (A3.val r3 e3).int, z F3 H3 x3 A3⟩
  · exact z.elim)⟩
def cutG {α : Type} (xs : List α) (lo hi : Option Int) : List α := (xs.drop (HT.sIx xs.length 0 lo)).take (HT.sIx xs.length xs.length hi - HT.sIx xs.length 0 lo)
def gSl : D → Option Int → Option Int → Option PV
  | .list xs, lo, hi => some (.o (.l (cutG xs lo hi)))
  | .tuple xs, lo, hi => some (.v (.tuple (cutG xs lo hi)))
  | .str z, lo, hi => if z.length ≤ sizeLine then some (.v (.str (cutS z lo hi))) else none
  | _, _, _ => none
theorem DnAll.cut {K : PySem.W.Frag} {H : Hp} {vs : List V} {ds : List D} (h : DnAll K H vs ds) (lo hi : Option Int) : DnAll K H (cutV vs lo hi) (cutG ds lo hi) := by
  unfold cutV cutG
  rw [h.length]
  exact (h.drop _).take _
theorem cutG_whole {α : Type} {xs : List α} {lo hi : Option Int} (h : HT.sIx xs.length 0 lo = 0 ∧ HT.sIx xs.length xs.length hi = xs.length) : cutG xs lo hi = xs := by
  unfold cutG
  rw [h.1, h.2]
  simp
def rSlQ (K : PySem.W.Frag) : V → Option Int → Option Int → Hp → VK → Prop := fun x lo hi H Q => rSlL K x lo hi H Q ∨ rSlA K x lo hi H Q ∨ rSlS x lo hi H Q
theorem sl_any : SlR X (rSlQ X.K) := sl_list.or (sl_tupA.or sl_str)
theorem does_sl {K : PySem.W.Frag} {F H : Hp} {x : V} {d : D} {lo hi : Option Int} {z : PV} {Q : VK} (sub : Ex F H) (hx : Dv K F H x d) (hg : gSl d lo hi = some z) (h : ∀ v H', Gv K F H z v H' → Q v H') : rSlQ K x lo hi H Q := by
  cases d <;> simp only [gSl] at hg <;> try (cases hg; done)
  · split at hg
    · rename_i hz
      cases hg
      rw [hx.str]
      exact .inr (.inr ⟨_, rfl, hz, h _ _ (Gv.str _)⟩)
    · cases hg
  · cases hg
    obtain ⟨l, vs, rfl, h1, h2⟩ := hx.list sub
    exact .inl ⟨l, vs, rfl, SqL.of h1, fun p hp => h _ _ (.lst hp (h2.cut lo hi))⟩
  · cases hg
    obtain ⟨l, vs, rfl, h1, h2⟩ := hx.tuple
    refine .inr (.inl ⟨l, vs, rfl, SqT.of (sub _ _ h1), fun q => ?_, fun _ p hp => h _ _ (.tup hp (h2.cut lo hi))⟩)
    rw [h2.length] at q
    rw [cutG_whole q] at h
    exact h _ _ (.dn (.tup h1 h2))
def fSl (fa : Sq → Out PV) (fl fh : Sq → Out (Option Int)) : Sq → Out PV := fun S => (fzF fa S).bind fun p S1 => (fl S1).bind fun lo S2 => (fh S2).bind fun hi S3 => match S3.val p with
  | some d => (match gSl d lo hi with
    | some z => .ok z S3
    | none => .no)
  | none => .no
theorem de_sl {lo hi : Option Expr} {fl fh : Sq → Out (Option Int)} {p2 : Pos} (ha : DE X W a fa) (hl : DO X W lo fl) (hh : DO X W hi fh) : DE X W (.Subscript a (.Slice lo hi none p2) pos) (fSl fa fl fh) := by
  refine PE.weak (pe_slice sl_any (de_fz ha) hl hh) fun σ H Q z => ?_
  obtain ⟨F0, H0, pa, F, S, A, z⟩ := z
  unfold fSl at z
  rw [OutP.bind] at z
  unfold fzF at z
  rw [OutP.bind] at z
  refine ⟨F0, H0, pa, F, S, A, ?_⟩
  unfold fzF
  rw [OutP.bind]
  refine z.imp (fun p S1 z v F1 H1 x1 A1 r1 => ⟨F0, H0, pa, F1, S1, A1, ?_⟩) fun _ _ z => z
  have z : OutP ((fl S1).bind fun lo S2 => (fh S2).bind fun hi S3 => match S3.val (fz p) with
    | some d => (match gSl d lo hi with
      | some z => .ok z S3
      | none => .no)
    | none => .no) (TP X.K F0 H0 pa σ F Q) (EW X.K W F0 H0 pa σ) := z
  rw [OutP.bind] at z
  refine z.imp (fun lo S2 z F2 H2 x2 A2 => ⟨F0, H0, pa, F2, S2, A2, ?_⟩) fun _ _ z => z
  rw [OutP.bind] at z
  refine z.imp (fun hi S3 z F3 H3 x3 A3 => ?_) fun _ _ z => z
  split at z
  · rename_i d e1
    split at z
    · rename_i w e2
      refine does_sl A3.sub (A3.val (r1.fz_keep (x2.trans x3)) e1) e2 fun t H'' gv => ?_
      obtain ⟨F', xF, A', r'⟩ := A3.gives gv
      exact z t F' H'' (x1.trans (x2.trans (x3.trans xF))) A' r'
    · exact z.elim
  · exact z.elim
/-! ### keeping values; displays -/
def Sq.keep (S : Sq) : PV → Option (D × Sq)
  | .v x => some (x, S)
  | .s i => match S.r[i]? with
    | some (.d x) => some (x, S)
    | some (.l xs) => some (.list xs, { S with r := S.r.set i (.d (.list xs)) })
    | some (.m kvs) => some (.dict kvs, { S with r := S.r.set i (.d (.dict kvs)) })
    | _ => none
  | .o _ => none
theorem Own.set_d {σ : L2.St} {S : Sq} {i j : Nat} {x : D} {a : Addr} (o : Own σ { S with r := S.r.set i (.d x) } j a) : Own σ S j a ∧ j ≠ i := by
  obtain ⟨h1, h2⟩ := o
  by_cases e : j = i
  · subst e
    exfalso
    rcases h2 with ⟨xs, h2⟩ | ⟨kvs, h2⟩
    · have h2 : (S.r.set j (.d x))[j]? = some (.l xs) := h2
      by_cases hj : j < S.r.length
      · rw [List.getElem?_set_self hj] at h2; cases h2
      · rw [List.getElem?_eq_none_iff.mpr (by simpa using hj)] at h2; cases h2
    · have h2 : (S.r.set j (.d x))[j]? = some (.m kvs) := h2
      by_cases hj : j < S.r.length
      · rw [List.getElem?_set_self hj] at h2; cases h2
      · rw [List.getElem?_eq_none_iff.mpr (by simpa using hj)] at h2; cases h2
  · refine ⟨⟨h1, ?_⟩, e⟩
    rcases h2 with ⟨xs, h2⟩ | ⟨kvs, h2⟩
    · exact .inl ⟨xs, by rw [← h2]; exact (List.getElem?_set_ne (Ne.symm e)).symm⟩
    · exact .inr ⟨kvs, by rw [← h2]; exact (List.getElem?_set_ne (Ne.symm e)).symm⟩
/-- the slot's own object becomes data that stays -/
theorem Agr.frozenO {K : PySem.W.Frag} {F0 H0 F H : Hp} {pa : Option Addr} {σ : L2.St} {S : Sq} {i : Nat} {a : Addr} {ho : HO} {x : D} (A : Agr K F0 H0 pa σ F H S) (ow : Own σ S i a) (e2 : H a = some ho) (hno : ∀ ps, ho ≠ .tbl ps) (e3 : F a = none) (dn : Dn K (upd F a ho) (.ref a) x) :
    Ex F (upd F a ho) ∧ Agr K F0 H0 pa σ (upd F a ho) H { S with r := S.r.set i (.d x) } := by
  have hi : i < S.r.length := by
    rcases ow.2 with ⟨xs, h⟩ | ⟨xs, h⟩ <;> exact (List.getElem?_eq_some_iff.mp h).1
  have e1 := ow.1
  have ex : Ex F (upd F a ho) := Ex.new e3
  refine ⟨ex, ⟨A.fF.trans ex, fun b o q => ?_, A.hH, A.tabs, ft_upd A.ft hno, A.n0, fun b o q => ?_, by simpa using A.len, fun j c q => ?_, fun j l b p q => A.dist j l b p.set_d.1 q.set_d.1, fun j b p => A.ownN j b p.set_d.1, ?_⟩⟩
  · by_cases z : b = a
    · subst z; rw [upd_same] at q; cases q; exact e2
    · rw [upd_ne z] at q; exact A.sub b o q
  · by_cases z : b = a
    · subst z; exact .inr (A.ownN i b ow).1
    · rw [upd_ne z] at q; exact A.new b o q
  · have q : (S.r.set i (.d x))[j]? = some c := q
    by_cases z : j = i
    · subst z
      rw [List.getElem?_set_self hi] at q
      cases q
      exact ⟨_, e1, dn⟩
    · rw [List.getElem?_set_ne (Ne.symm z)] at q
      have so := A.slots j c q
      cases c with
      | un => trivial
      | d x => obtain ⟨w, p1, p2⟩ := so; exact ⟨w, p1, p2.mono ex⟩
      | l ys =>
        obtain ⟨b, ws, p1, p2, p3, p4⟩ := so
        have y : b ≠ a := fun w => z (A.dist j i a ⟨by rw [← w]; exact p1, .inl ⟨ys, q⟩⟩ ow)
        exact ⟨b, ws, p1, p2, by rw [upd_ne y]; exact p3, p4.mono ex⟩
      | m kvs =>
        obtain ⟨b, ho', p1, p2, p3, p4⟩ := so
        have y : b ≠ a := fun w => z (A.dist j i a ⟨by rw [← w]; exact p1, .inr ⟨kvs, q⟩⟩ ow)
        exact ⟨b, ho', p1, p2, by rw [upd_ne y]; exact p3, p4.mono ex⟩
      | e c => obtain ⟨w, z1, z2⟩ := so; exact ⟨w, z1, ex _ _ z2⟩
      | sc ns => obtain ⟨w, z1, z2⟩ := so; exact ⟨w, z1, ex_l ex z2⟩
      | es cs => obtain ⟨w, z1, z2⟩ := so; exact ⟨w, z1, ex_es ex z2⟩
      | pen => exact so
  · exact A.pen.imp fun q c o o' e h1 h2 h3 => ⟨h1, by rw [upd_ne fun z => (A.ownN i a ow).2 (by rw [← z]; exact e)]; exact h2, ex _ _ h3⟩
theorem Agr.frozenU {K : PySem.W.Frag} {F0 H0 F H : Hp} {pa : Option Addr} {σ : L2.St} {S : Sq} {i : Nat} {xs : List D} (A : Agr K F0 H0 pa σ F H S) (h : S.r[i]? = some (.l xs)) :
    ∃ F' a vs, F' = upd F a (.lst vs) ∧ Ex F F' ∧ σ[i]? = some (some (.ref a)) ∧ F' a = some (.lst vs) ∧ DnAll K F' vs xs ∧ Agr K F0 H0 pa σ F' H { S with r := S.r.set i (.d (.list xs)) } := by
  obtain ⟨a, vs, e1, e2, e3, e4⟩ := A.slots i _ h
  obtain ⟨ex, B⟩ := A.frozenO ⟨e1, .inl ⟨xs, h⟩⟩ e2 (fun _ z => nomatch z) e3 (.lst upd_same (e4.mono (Ex.new e3)))
  exact ⟨_, a, vs, rfl, ex, e1, upd_same, e4.mono ex, B⟩
theorem Agr.frozenM {K : PySem.W.Frag} {F0 H0 F H : Hp} {pa : Option Addr} {σ : L2.St} {S : Sq} {i : Nat} {kvs : List (D × D)} (A : Agr K F0 H0 pa σ F H S) (h : S.r[i]? = some (.m kvs)) :
    ∃ F' a ho, F' = upd F a ho ∧ Ex F F' ∧ σ[i]? = some (some (.ref a)) ∧ F' a = some ho ∧ H a = some ho ∧ DctA K F' a ho kvs ∧ Agr K F0 H0 pa σ F' H { S with r := S.r.set i (.d (.dict kvs)) } := by
  obtain ⟨a, ho, e1, e2, e3, e4⟩ := A.slots i _ h
  obtain ⟨ex, B⟩ := A.frozenO ⟨e1, .inr ⟨kvs, h⟩⟩ e2 e4.notbl e3 (e4.dn (Ex.new e3) upd_same)
  exact ⟨_, a, ho, rfl, ex, e1, upd_same, e2, e4.mono ex, B⟩
theorem Agr.frozen {K : PySem.W.Frag} {F0 H0 F H : Hp} {pa : Option Addr} {σ : L2.St} {S : Sq} {i : Nat} {xs : List D} (A : Agr K F0 H0 pa σ F H S) (h : S.r[i]? = some (.l xs)) :
    ∃ F' a vs, Ex F F' ∧ σ[i]? = some (some (.ref a)) ∧ F' a = some (.lst vs) ∧ DnAll K F' vs xs ∧ Agr K F0 H0 pa σ F' H { S with r := S.r.set i (.d (.list xs)) } := by
  obtain ⟨F', a, vs, _, h⟩ := A.frozenU h
  exact ⟨F', a, vs, h⟩
theorem Agr.keep {K : PySem.W.Frag} {F0 H0 F H : Hp} {pa : Option Addr} {σ : L2.St} {S S' : Sq} {v : V} {pv : PV} {d : D} (A : Agr K F0 H0 pa σ F H S) (r : RelP K H0 pa σ F H S v pv) (e : S.keep pv = some (d, S')) :
    ∃ F', Ex F F' ∧ Agr K F0 H0 pa σ F' H S' ∧ Dn K F' v d := by
  cases pv with
  | v x => cases e; exact ⟨F, Ex.refl F, A, r⟩
  | o c => cases e
  | s i =>
    unfold Sq.keep at e
    dsimp only at e
    cases q : S.r[i]? with
    | none => rw [q] at e; cases e
    | some c =>
      rw [q] at e
      cases c with
      | d x =>
        cases e
        obtain ⟨w, e1, e2⟩ := A.slots i _ q
        rw [show σ[i]? = some (some v) from r] at e1; cases e1
        exact ⟨F, Ex.refl F, A, e2⟩
      | l xs =>
        cases e
        obtain ⟨F', a, vs, x, e1, e2, e3, A'⟩ := A.frozen q
        rw [show σ[i]? = some (some v) from r] at e1; cases e1
        exact ⟨F', x, A', .lst e2 e3⟩
      | un => cases e
      | m kvs =>
        cases e
        obtain ⟨F', a, ho, _, x, e1, e2, _, e3, A'⟩ := A.frozenM q
        rw [show σ[i]? = some (some v) from r] at e1; cases e1
        exact ⟨F', x, A', e3.dn (Ex.refl _) e2⟩
      | e c => cases e
      | sc ns => cases e
      | es cs => cases e
      | pen => cases e
/-- an argument list: each one frozen -/
def fNil : Sq → Out (List PV) := fun S => .ok [] S
def fCons (fa : Sq → Out PV) (fr : Sq → Out (List PV)) : Sq → Out (List PV) := fun S => (fzF fa S).bind fun p S1 => (fr S1).bind fun ps S2 => .ok (p :: ps) S2
variable {es : List Expr} {fs : Sq → Out (List PV)}
theorem da_nil : DA X W [] fNil := PA.weak pa_nil fun σ H Q ⟨F0, H0, pa, F, S, A, z⟩ => z [] F H (Ex.refl F) A .nil
theorem da_cons (ha : DE X W e fa) (hr : DA X W es fs) (hs : starEach (e :: es) X.env = (false, eval e X.env) :: starEach es X.env := by rfl) : DA X W (e :: es) (fCons fa fs) := by
  refine PA.weak (pa_cons (de_fz ha) hr hs) fun σ H Q z => ?_
  obtain ⟨F0, H0, pa, F, S, A, z⟩ := z
  unfold fCons fzF at z
  rw [OutP.bind, OutP.bind] at z
  refine ⟨F0, H0, pa, F, S, A, ?_⟩
  unfold fzF
  rw [OutP.bind]
  refine z.imp (fun p S1 z v F1 H1 x1 A1 r1 => ⟨F0, H0, pa, F1, S1, A1, ?_⟩) fun _ _ z => z
  have z : OutP ((fs S1).bind fun ps S2 => .ok (fz p :: ps) S2) (TL X.K F0 H0 pa σ F Q) (EW X.K W F0 H0 pa σ) := z
  rw [OutP.bind] at z
  exact z.imp (fun ps S2 z vs F2 H2 x2 A2 r2 => z (v :: vs) F2 H2 (x1.trans x2) A2 (.cons (r1.fz_keep x2) r2)) fun _ _ z => z
def keepAll : Sq → List PV → Option (List D × Sq)
  | S, [] => some ([], S)
  | S, p :: ps => match S.keep p with
    | some (d, S1) => (match keepAll S1 ps with
      | some (ds, S2) => some (d :: ds, S2)
      | none => none)
    | none => none
/-- what is seen at all is seen behind keeping another one -/
def Frz (p : PV) : Prop := ∀ c, p ≠ .o c
theorem RelP.anyS {K : PySem.W.Frag} {H0 F H F' H' : Hp} {pa : Option Addr} {σ : L2.St} {S S' : Sq} {v : V} {pv : PV} (n : Frz pv) (r : RelP K H0 pa σ F H S v pv) (x : Ex F F') : RelP K H0 pa σ F' H' S' v pv := by
  cases pv with
  | s i => exact r
  | v d => exact Dn.mono x r
  | o c => exact absurd rfl (n c)
theorem Agr.keepAll {K : PySem.W.Frag} {F0 H0 : Hp} {pa : Option Addr} {σ : L2.St} : ∀ {ps : List PV} {S S' : Sq} {F H : Hp} {vs : List V} {ds : List D}, Agr K F0 H0 pa σ F H S → Paired (RelP K H0 pa σ F H S) vs ps → Q3.keepAll S ps = some (ds, S') →
    ∃ F', Ex F F' ∧ Agr K F0 H0 pa σ F' H S' ∧ DnAll K F' vs ds
  | [], S, S', F, H, vs, ds, A, r, e => by
    cases r
    cases e
    exact ⟨F, Ex.refl F, A, .nil⟩
  | p :: ps, S, S', F, H, vs, ds, A, r, e => by
    cases r with
    | @cons _ _ vs' _ r1 r2 =>
      unfold Q3.keepAll at e
      cases q : S.keep p with
      | none => rw [q] at e; cases e
      | some t =>
        obtain ⟨d, S1⟩ := t
        rw [q] at e
        dsimp only at e
        cases q2 : Q3.keepAll S1 ps with
        | none => rw [q2] at e; cases e
        | some t2 =>
          obtain ⟨ds', S2⟩ := t2
          rw [q2] at e
          cases e
          obtain ⟨F1, x1, A1, d1⟩ := A.keep r1 q
          have r2' : Paired (RelP K H0 pa σ F1 H S1) vs' ps := by
            have fr : ∀ {ps : List PV} {S1 S2 : Sq} {ds : List D}, Q3.keepAll S1 ps = some (ds, S2) → ∀ p ∈ ps, Frz p := by
              intro ps
              induction ps with
              | nil => intro _ _ _ _ p hp; cases hp
              | cons p ps ih =>
                intro S1 S2 ds h q hq
                unfold Q3.keepAll at h
                cases y : S1.keep p with
                | none => rw [y] at h; cases h
                | some t =>
                  rw [y] at h
                  dsimp only at h
                  cases y2 : Q3.keepAll t.2 ps with
                  | none => rw [y2] at h; cases h
                  | some t2 =>
                    rcases List.mem_cons.mp hq with rfl | hq
                    · intro c z
                      rw [z] at y
                      cases y
                    · exact ih y2 q hq
            have fr := fr q2
            have gen : ∀ {vs : List V} {ps : List PV}, Paired (RelP K H0 pa σ F H S) vs ps → (∀ p ∈ ps, Frz p) → Paired (RelP K H0 pa σ F1 H S1) vs ps := by
              intro vs ps r
              induction r with
              | nil => intro _; exact .nil
              | cons a _ ih => intro f; exact .cons (a.anyS (f _ List.mem_cons_self) x1) (ih fun p hp => f p (List.mem_cons_of_mem _ hp))
            exact gen r2 fr
          obtain ⟨F2, x2, A2, d2⟩ := Agr.keepAll A1 r2' q2
          exact ⟨F2, x1.trans x2, A2, .cons (d1.mono x2) d2⟩
def fTup (fs : Sq → Out (List PV)) : Sq → Out PV := fun S => (fs S).bind fun ps S1 => match keepAll S1 ps with
  | some (ds, S2) => if ds.length ≤ sizeLine then .ok (.v (.tuple ds)) S2 else .no
  | none => .no
def fLst (fs : Sq → Out (List PV)) : Sq → Out PV := fun S => (fs S).bind fun ps S1 => match keepAll S1 ps with
  | some (ds, S2) => if ds.length ≤ sizeLine then .ok (.o (.l ds)) S2 else .no
  | none => .no
theorem de_tup {x1} (h : DA X W es fs) : DE X W (.Tuple es x1 pos) (fTup fs) := by
  refine PE.weak (pe_tup h) fun σ H Q z => ?_
  obtain ⟨F0, H0, pa, F, S, A, z⟩ := z
  unfold fTup at z
  rw [OutP.bind] at z
  refine ⟨F0, H0, pa, F, S, A, z.imp (fun ps S1 z vs F1 H1 x1 A1 r1 => ?_) fun _ _ z => z⟩
  split at z
  · rename_i ds S2 e1
    split at z
    · rename_i hz
      obtain ⟨F2, x2, A2, d2⟩ := A1.keepAll r1 e1
      refine ⟨by rw [d2.length]; exact hz, fun p hp => ?_⟩
      obtain ⟨F', xF, A', r'⟩ := A2.gives (.tup hp d2)
      exact z _ F' _ (x1.trans (x2.trans xF)) A' r'
    · exact z.elim
  · exact z.elim
theorem de_lst (h : DA X W es fs) : DE X W (.List es pos) (fLst fs) := by
  refine PE.weak (pe_lst h) fun σ H Q z => ?_
  obtain ⟨F0, H0, pa, F, S, A, z⟩ := z
  unfold fLst at z
  rw [OutP.bind] at z
  refine ⟨F0, H0, pa, F, S, A, z.imp (fun ps S1 z vs F1 H1 x1 A1 r1 => ?_) fun _ _ z => z⟩
  split at z
  · rename_i ds S2 e1
    split at z
    · rename_i hz
      obtain ⟨F2, x2, A2, d2⟩ := A1.keepAll r1 e1
      refine ⟨by rw [d2.length]; exact hz, fun p hp => ?_⟩
      obtain ⟨F', xF, A', r'⟩ := A2.gives (.lst hp d2)
      exact z _ F' _ (x1.trans (x2.trans xF)) A' r'
    · exact z.elim
  · exact z.elim
/-! ### calls of built-ins -/
def f1 (g : D → Option PV) (fa : Sq → Out PV) : Sq → Out PV := fun S => (fzF fa S).bind fun p S1 => match S1.val p with
  | some x => (match g x with
    | some z => .ok z S1
    | none => .no)
  | none => .no
def Does1 (K : PySem.W.Frag) (r : List V → Hp → VK → Prop) (g : D → Option PV) : Prop := ∀ F H x d z Q, Ex F H → Dv K F H x d → g d = some z → (∀ v H', Gv K F H z v H' → Q v H') → r [x] H Q
theorem rd_call1 {K : PySem.W.Frag} {r : List V → Hp → VK → Prop} {g : D → Option PV} (dz : Does1 K r g) {σ : L2.St} {H : Hp} {Q : VK} (z : rd K W (f1 g fa) σ H Q) : tCB r (tCons (rd K W (fzF fa)) tNil) σ H Q := by
  obtain ⟨F0, H0, pa, F, S, A, z⟩ := z
  unfold f1 at z
  rw [OutP.bind] at z
  refine ⟨F0, H0, pa, F, S, A, z.imp (fun p S1 z v F1 H1 x1 A1 r1 => ?_) fun _ _ z => z⟩
  split at z
  · rename_i d e1
    split at z
    · rename_i w e2
      refine dz F1 H1 v d w Q A1.sub (A1.val r1 e1) e2 fun t H'' gv => ?_
      obtain ⟨F', xF, A', r'⟩ := A1.gives gv
      exact z t F' H'' (x1.trans xF) A' r'
    · exact z.elim
  · exact z.elim
theorem de_callB {id : String} {r : List V → Hp → VK → Prop} {g : D → Option PV} {x : Str} {p : Pos} (hc : CallR X (.builtin id) r) (dz : Does1 X.K r g) (hg : Gl X x) (hm : X.mg x = none) (hv : bootBuiltins x = some (.builtin id)) (ha : DE X W a fa)
    (hst : starEach [a] X.env = (false, eval a X.env) :: starEach [] X.env := by rfl) (hn : x ≠ "__name__" := by decide) (hdb : (x == ("__debug__" : Str)) = false := by decide) (hpl : (backTo pos (starEach [] X.env)).any (·.1) = false := by rfl) :
    DE X W (.Call (.Name x p) [a] [] pos) (f1 g fa) := PE.weak (pe_callB hc hg hm hv (pa_cons (de_fz ha) pa_nil hst) hn hdb hst hpl) fun _ _ _ z => rd_call1 dz z
theorem de_callTy {T : String} {r : List V → Hp → VK → Prop} {g : D → Option PV} {x : Str} {p : Pos} (hc : CallR X (.type T) r) (dz : Does1 X.K r g) (hg : Gl X x) (hm : X.mg x = none) (hv : bootBuiltins x = some (.type T)) (ha : DE X W a fa)
    (hst : starEach [a] X.env = (false, eval a X.env) :: starEach [] X.env := by rfl) (hn : x ≠ "__name__" := by decide) (hdb : (x == ("__debug__" : Str)) = false := by decide) (hpl : (backTo pos (starEach [] X.env)).any (·.1) = false := by rfl) :
    DE X W (.Call (.Name x p) [a] [] pos) (f1 g fa) := PE.weak (pe_callTy hc hg hm hv (pa_cons (de_fz ha) pa_nil hst) hn hdb hst hpl) fun _ _ _ z => rd_call1 dz z
end
end Q3
/-! Q3e: statements. -/
namespace Q3
open PySem PySem.Spec PyProof.Rows L2
variable [TabSet]
section
variable {K : PySem.W.Frag} {F0 H0 F H F' H' : Hp} {pa : Option Addr} {σ : L2.St} {S S' : Sq} {v : V} {pv : PV} {d : D} {i : Nat}
/-! ### storing -/
/-- a value that may be put into a slot -/
def Fit (K : PySem.W.Frag) (H0 : Hp) (pa : Option Addr) (σ : L2.St) (F H : Hp) (S : Sq) (v : V) : R → Prop
  | .d x => Dn K F v x
  | .l xs => OwnV K H0 pa σ F H S v (.l xs)
  | .m kvs => OwnV K H0 pa σ F H S v (.m kvs)
  | .pen => ∃ q, pa = some q ∧ v = .ref q
  | _ => False
theorem Own.of_set {σ : L2.St} {S : Sq} {i j : Nat} {a : Addr} {v : V} {c : R} (hij : j ≠ i) : Own (σ.set i (some v)) { S with r := S.r.set i c } j a ↔ Own σ S j a := by
  unfold Own
  show (_ ∧ ((∃ xs, (S.r.set i c)[j]? = _) ∨ ∃ kvs, (S.r.set i c)[j]? = _)) ↔ _
  rw [List.getElem?_set_ne (Ne.symm hij), List.getElem?_set_ne (Ne.symm hij)]
theorem Own.at_set {σ : L2.St} {S : Sq} {i : Nat} {a : Addr} {v : V} {c : R} (h : Own (σ.set i (some v)) { S with r := S.r.set i c } i a) : v = .ref a ∧ ((∃ xs, c = .l xs) ∨ ∃ kvs, c = .m kvs) := by
  obtain ⟨h1, h2⟩ := h
  have hi : i < σ.length := by
    have := (List.getElem?_eq_some_iff.mp h1).1
    simpa using this
  rw [List.getElem?_set_self hi] at h1
  cases h1
  refine ⟨rfl, ?_⟩
  rcases h2 with ⟨xs, h2⟩ | ⟨kvs, h2⟩
  · have h2 : (S.r.set i c)[i]? = some (.l xs) := h2
    have hi2 : i < S.r.length := by
      have := (List.getElem?_eq_some_iff.mp h2).1
      simpa using this
    rw [List.getElem?_set_self hi2] at h2
    cases h2
    exact .inl ⟨xs, rfl⟩
  · have h2 : (S.r.set i c)[i]? = some (.m kvs) := h2
    have hi2 : i < S.r.length := by
      have := (List.getElem?_eq_some_iff.mp h2).1
      simpa using this
    rw [List.getElem?_set_self hi2] at h2
    cases h2
    exact .inr ⟨kvs, rfl⟩
theorem Agr.store {c : R} (A : Agr K F0 H0 pa σ F H S) (hi : i < S.r.length) (f : Fit K H0 pa σ F H S v c) : Agr K F0 H0 pa (σ.set i (some v)) F H { S with r := S.r.set i c } := by
  have hσ : i < σ.length := by rw [← A.len]; exact hi
  have fresh : ∀ a, Own (σ.set i (some v)) { S with r := S.r.set i c } i a → H0 a = none ∧ some a ≠ pa ∧ ∀ j, ¬ Own σ S j a := fun a w => by
    obtain ⟨e, q⟩ := w.at_set
    rcases q with ⟨xs, rfl⟩ | ⟨kvs, rfl⟩
    · obtain ⟨t, vs, e1, _, _, _, h4, h5, h6⟩ := f
      rw [e] at e1; cases e1
      exact ⟨h4, h6, h5⟩
    · obtain ⟨t, ho, e1, _, _, _, h4, h5, h6⟩ := f
      rw [e] at e1; cases e1
      exact ⟨h4, h6, h5⟩
  refine ⟨A.fF, A.sub, A.hH, A.tabs, A.ft, A.n0, A.new, by simpa using A.len, fun j q e => ?_, fun j l a p q => ?_, fun j a p => ?_, A.pen⟩
  · have e : (S.r.set i c)[j]? = some q := e
    by_cases z : j = i
    · subst z
      rw [List.getElem?_set_self hi] at e
      rw [List.getElem?_set_self hσ]
      cases e
      cases c with
      | un => trivial
      | d x => exact ⟨v, rfl, f⟩
      | l xs =>
        obtain ⟨t, vs, rfl, h1, h2, h3, _⟩ := f
        exact ⟨t, vs, rfl, h1, h2, h3⟩
      | m kvs =>
        obtain ⟨t, ho, rfl, h1, h2, h3, _⟩ := f
        exact ⟨t, ho, rfl, h1, h2, h3⟩
      | e c => exact False.elim f
      | sc ns => exact False.elim f
      | es cs => exact False.elim f
      | pen =>
        obtain ⟨p, e1, rfl⟩ := f
        exact ⟨p, e1, rfl⟩
    · rw [List.getElem?_set_ne (Ne.symm z)] at e
      rw [List.getElem?_set_ne (Ne.symm z)]
      exact A.slots j q e
  · by_cases z : j = i
    · by_cases y : l = i
      · rw [z, y]
      · subst z
        exact absurd ((Own.of_set y).mp q) ((fresh a p).2.2 l)
    · by_cases y : l = i
      · subst y
        exact absurd ((Own.of_set z).mp p) ((fresh a q).2.2 j)
      · exact A.dist j l a ((Own.of_set z).mp p) ((Own.of_set y).mp q)
  · by_cases z : j = i
    · subst z
      exact ⟨(fresh a p).1, (fresh a p).2.1⟩
    · exact A.ownN j a ((Own.of_set z).mp p)
/-- what a slot is to hold -/
def Sq.res (S : Sq) : PV → Option (R × Sq)
  | .v x => some (.d x, S)
  | .o (.l xs) => some (.l xs, S)
  | .o (.m kvs) => some (.m kvs, S)
  | .o _ => none
  | .s i => match S.r[i]? with
    | some (.d x) => some (.d x, S)
    | some (.l xs) => some (.d (.list xs), { S with r := S.r.set i (.d (.list xs)) })
    | some (.m kvs) => some (.d (.dict kvs), { S with r := S.r.set i (.d (.dict kvs)) })
    | some .pen => some (.pen, S)
    | _ => none
theorem Agr.res {c : R} (A : Agr K F0 H0 pa σ F H S) (r : RelP K H0 pa σ F H S v pv) (e : S.res pv = some (c, S')) : ∃ F', Ex F F' ∧ Agr K F0 H0 pa σ F' H S' ∧ Fit K H0 pa σ F' H S' v c := by
  cases pv with
  | v x => cases e; exact ⟨F, Ex.refl F, A, r⟩
  | o q =>
    cases q with
    | l xs => cases e; exact ⟨F, Ex.refl F, A, r⟩
    | un => cases e
    | d x => cases e
    | m kvs => cases e; exact ⟨F, Ex.refl F, A, r⟩
    | e c => cases e
    | sc ns => cases e
    | es cs => cases e
    | pen => cases e
  | s i =>
    unfold Sq.res at e
    dsimp only at e
    cases q : S.r[i]? with
    | none => rw [q] at e; cases e
    | some y =>
      rw [q] at e
      cases y with
      | d x =>
        cases e
        obtain ⟨w, e1, e2⟩ := A.slots i _ q
        rw [show σ[i]? = some (some v) from r] at e1; cases e1
        exact ⟨F, Ex.refl F, A, e2⟩
      | l xs =>
        cases e
        obtain ⟨F', a, vs, x, e1, e2, e3, A'⟩ := A.frozen q
        rw [show σ[i]? = some (some v) from r] at e1; cases e1
        exact ⟨F', x, A', .lst e2 e3⟩
      | pen =>
        cases e
        obtain ⟨p, e1, e2⟩ := A.slots i _ q
        rw [show σ[i]? = some (some v) from r] at e2; cases e2
        exact ⟨F, Ex.refl F, A, p, e1, rfl⟩
      | un => cases e
      | m kvs =>
        cases e
        obtain ⟨F', a, ho, _, x, e1, e2, _, e3, A'⟩ := A.frozenM q
        rw [show σ[i]? = some (some v) from r] at e1; cases e1
        exact ⟨F', x, A', e3.dn (Ex.refl _) e2⟩
      | e c => cases e
      | sc ns => cases e
      | es cs => cases e
theorem tabs_lst {T : List (Addr × Str)} {H : Hp} {a : Addr} {vs ws : List V} (h : LamX.Tabs T H) (e : H a = some (.lst vs)) : LamX.Tabs T (upd H a (.lst ws)) := fun p hp => by
  obtain ⟨ps, h1, h2, h3⟩ := h p hp
  refine ⟨ps, by rw [upd_ne fun z => by rw [z, e] at h1; cases h1]; exact h1, h2, fun pos cv hc => ?_⟩
  obtain ⟨c, e1, e2⟩ := h3 pos cv hc
  refine ⟨c, e1, by rw [upd_ne fun z => by rw [z, e] at e2; unfold LamX.CodeO at e2; cases e2]; exact e2⟩
theorem dctE_code {es : List (D × V × V)} {ep0 : Nat} {a : Addr} {q : Str} : dctE es ep0 a ≠ LamX.CodeO a q := fun z => by
  injection z with z
  let oc : Obj := { cls := .none, data := .fields #[.none, .str q 0] }
  let h : Heap := { objs := Array.replicate (a + 1) oc }
  have hg : h.get? a = some oc := by
    unfold Heap.get?
    show (match (Array.replicate (a + 1) oc)[a]? with
      | some ⟨_, _, .freed, _⟩ => none
      | o => o) = _
    rw [Array.getElem?_replicate, if_pos (Nat.lt_succ_self a)]
  have w : ∃ (oc : Obj) (vs : Array Value) (t : Tok), h.get? a = some oc ∧ oc.data = .fields vs ∧ vs[1]? = some (.str q t) := ⟨oc, _, 0, hg, rfl, rfl⟩
  rw [← congrFun z h] at w
  obtain ⟨_, _, o, ents, ep, e1, _, e2, _⟩ := w
  rw [hg] at e1; cases e1
  cases e2
theorem DctA.nocode {o : HO} {a : Addr} {kvs : List (D × D)} (h : DctA K F a o kvs) (q : Str) : o ≠ LamX.CodeO a q := by
  rcases h with ⟨es, rfl, _⟩ | ⟨es, ep, rfl, _⟩
  · exact fun z => nomatch z
  · exact dctE_code
theorem tabs_o {T : List (Addr × Str)} {H : Hp} {a : Addr} {o o' : HO} (h : LamX.Tabs T H) (e : H a = some o) (n : ∀ ps, o ≠ .tbl ps) (nc : ∀ q, o ≠ LamX.CodeO a q) : LamX.Tabs T (upd H a o') := fun p hp => by
  obtain ⟨ps, h1, h2, h3⟩ := h p hp
  refine ⟨ps, by rw [upd_ne fun z => n ps (by rw [z, e] at h1; exact Option.some.inj h1)]; exact h1, h2, fun pos cv hc => ?_⟩
  obtain ⟨c, e1, e2⟩ := h3 pos cv hc
  refine ⟨c, e1, by rw [upd_ne fun z => by subst z; rw [e] at e2; exact nc _ (Option.some.inj e2)]; exact e2⟩
/-- writing into one's own object -/
theorem Agr.writeO {a : Addr} {o o' : HO} {c' : R} (A : Agr K F0 H0 pa σ F H S) (ow : Own σ S i a) (e2 : H a = some o) (e3 : F a = none) (n : ∀ ps, o ≠ .tbl ps) (nc : ∀ q, o ≠ LamX.CodeO a q)
    (so : SlotOk K pa F (upd H a o') σ[i]? c') :
    Agr K F0 H0 pa σ F (upd H a o') { S with r := S.r.set i c' } := by
  have e := ow.1
  have hi : i < S.r.length := by
    rcases ow.2 with ⟨xs, h⟩ | ⟨xs, h⟩ <;> exact (List.getElem?_eq_some_iff.mp h).1
  have same : ∀ j b, Own σ { S with r := S.r.set i c' } j b → Own σ S j b := fun j b p => by
    obtain ⟨p1, p2⟩ := p
    by_cases z : j = i
    · subst z; exact ⟨p1, ow.2⟩
    · refine ⟨p1, ?_⟩
      rcases p2 with ⟨zs, p2⟩ | ⟨kvs, p2⟩
      · have p2 : (S.r.set i c')[j]? = _ := p2
        rw [List.getElem?_set_ne (Ne.symm z)] at p2
        exact .inl ⟨zs, p2⟩
      · have p2 : (S.r.set i c')[j]? = _ := p2
        rw [List.getElem?_set_ne (Ne.symm z)] at p2
        exact .inr ⟨kvs, p2⟩
  refine ⟨A.fF, fun b o q => ?_, fun b o q np => ?_, tabs_o A.tabs e2 n nc, A.ft, A.n0, A.new, by simpa using A.len, fun j c q => ?_, fun j l b p q => A.dist j l b (same j b p) (same l b q), fun j b p => A.ownN j b (same j b p), ?_⟩
  · rw [upd_ne fun z => by rw [z, e3] at q; cases q]; exact A.sub b o q
  · rw [upd_ne fun z => by rw [z, (A.ownN i a ow).1] at q; cases q]; exact A.hH b o q np
  · have q : (S.r.set i c')[j]? = some c := q
    by_cases z : j = i
    · subst z
      rw [List.getElem?_set_self hi] at q
      cases q
      exact so
    · rw [List.getElem?_set_ne (Ne.symm z)] at q
      have so := A.slots j c q
      cases c with
      | un => trivial
      | d x => exact so
      | l zs =>
        obtain ⟨b, us, p1, p2, p3, p4⟩ := so
        exact ⟨b, us, p1, by rw [upd_ne fun w => z (A.dist j i a ⟨by rw [← w]; exact p1, .inl ⟨zs, q⟩⟩ ow)]; exact p2, p3, p4⟩
      | m kvs =>
        obtain ⟨b, us, p1, p2, p3, p4⟩ := so
        exact ⟨b, us, p1, by rw [upd_ne fun w => z (A.dist j i a ⟨by rw [← w]; exact p1, .inr ⟨kvs, q⟩⟩ ow)]; exact p2, p3, p4⟩
      | e c => exact so
      | sc ns => exact so
      | es cs => exact so
      | pen => exact so
  · exact A.pen.imp fun q c o o' e' h1 h2 h3 => ⟨by rw [upd_ne fun z => (A.ownN i a ow).2 (by rw [← z]; exact e')]; exact h1, h2, h3⟩
/-- writing into one's own list -/
theorem Agr.write {xs ys : List D} {a : Addr} {ws : List V} (A : Agr K F0 H0 pa σ F H S) (h : S.r[i]? = some (.l xs)) (e : σ[i]? = some (some (.ref a))) (w : DnAll K F ws ys) :
    Agr K F0 H0 pa σ F (upd H a (.lst ws)) { S with r := S.r.set i (.l ys) } := by
  obtain ⟨a', vs, e1, e2, e3, e4⟩ := A.slots i _ h
  rw [e] at e1; cases e1
  exact A.writeO ⟨e, .inl ⟨xs, h⟩⟩ e2 e3 (fun _ z => nomatch z) (fun _ z => nomatch z) ⟨a, ws, e, upd_same, e3, w⟩
/-- writing into one's own dict -/
theorem Agr.writeM {kvs kvs' : List (D × D)} {a : Addr} {ho' : HO} (A : Agr K F0 H0 pa σ F H S) (h : S.r[i]? = some (.m kvs)) (e : σ[i]? = some (some (.ref a))) (w : DctA K F a ho' kvs') :
    Agr K F0 H0 pa σ F (upd H a ho') { S with r := S.r.set i (.m kvs') } := by
  obtain ⟨a', ho, e1, e2, e3, e4⟩ := A.slots i _ h
  rw [e] at e1; cases e1
  exact A.writeO ⟨e, .inr ⟨kvs, h⟩⟩ e2 e3 e4.notbl e4.nocode ⟨a, ho', e, upd_same, e3, w⟩
/-- writing into the pen -/
theorem Agr.penned {P P' : Pen} {q : Addr} {c : Addr} (A : Agr K F0 H0 pa σ F H S) (hq : some q = pa) (hP : S.p = some P) (hc : H q = some (.lst [.ref c, .int P.at_, .int P.rest])) (e : P'.cells = P.cells) :
    Agr K F0 H0 pa σ F (upd H q (.lst [.ref c, .int P'.at_, .int P'.rest])) { S with p := some P' } := by
  obtain ⟨P2, c2, eP, h1, h2, h3⟩ := A.pen.at hq
  rw [hP] at eP; cases eP
  rw [h1] at hc; cases hc
  have np : ∀ i a, Own σ S i a → a ≠ q := fun i a w z => (A.ownN i a w).2 (by rw [z]; exact hq)
  refine ⟨A.fF, fun b o x => ?_, fun b o x n => ?_, tabs_lst A.tabs h1, A.ft, A.n0, A.new, A.len, fun j d x => ?_, fun j l b => A.dist j l b, fun j b p => A.ownN j b p, ?_⟩
  · rw [upd_ne fun z => by rw [z, h2] at x; cases x]; exact A.sub b o x
  · rw [upd_ne fun z => n (by rw [z]; exact hq)]; exact A.hH b o x n
  · have so := A.slots j d x
    cases d with
    | un => trivial
    | d x => exact so
    | l zs =>
      obtain ⟨b, us, p1, p2, p3, p4⟩ := so
      exact ⟨b, us, p1, by rw [upd_ne (np j b ⟨p1, .inl ⟨zs, x⟩⟩)]; exact p2, p3, p4⟩
    | m kvs =>
      obtain ⟨b, us, p1, p2, p3, p4⟩ := so
      exact ⟨b, us, p1, by rw [upd_ne (np j b ⟨p1, .inr ⟨kvs, x⟩⟩)]; exact p2, p3, p4⟩
    | e c => exact so
    | sc ns => exact so
    | es cs => exact so
    | pen => exact so
  · subst hq
    exact ⟨c, upd_same, h2, by rw [e]; exact h3⟩
theorem OwnV.store {c : R} {v w : V} {b : R} (f : Fit K H0 pa σ F H S w b) (o : OwnV K H0 pa σ F H S v c) (n : v ≠ w) (hi : i < S.r.length) : OwnV K H0 pa (σ.set i (some w)) F H { S with r := S.r.set i b } v c := by
  cases c with
  | l xs =>
    obtain ⟨t, vs, rfl, h1, h2, h3, h4, h5, h6⟩ := o
    refine ⟨t, vs, rfl, h1, h2, h3, h4, fun j p => ?_, h6⟩
    by_cases z : j = i
    · subst z
      exact n p.at_set.1.symm
    · exact h5 j ((Own.of_set z).mp p)
  | m kvs =>
    obtain ⟨t, ho, rfl, h1, h2, h3, h4, h5, h6⟩ := o
    refine ⟨t, ho, rfl, h1, h2, h3, h4, fun j p => ?_, h6⟩
    by_cases z : j = i
    · subst z
      exact n p.at_set.1.symm
    · exact h5 j ((Own.of_set z).mp p)
  | _ => exact False.elim o
end
section
variable {X : Cx} {W : WX} {a b c e : Expr} {fa fb fc : Sq → Out PV} {pos : Pos} {N : List Str} {sc : Scope} {k : Nat} {G : Gb} {i : Nat} {x : Str} {g g1 g2 : Sq → Fl} {st : Stmt} {sts : List Stmt}
/-! ### blocks -/
def seqF (g1 g2 : Sq → Fl) : Sq → Fl := fun S => match g1 S with
  | .nx S' => g2 S'
  | z => z
def nxF : Sq → Fl := fun S => .nx S
def noF : Sq → Fl := fun _ => .no
theorem dss_nil : DSs X W [] nxF := PSs.weak pss_nil fun Z σ H ⟨F0, H0, pa, F, S, A, z⟩ => z σ F H A
theorem dss_cons (h1 : DS X W st g1) (h2 : DSs X W sts g2) : DSs X W (st :: sts) (seqF g1 g2) := PSs.weak (pss_cons h1 h2) fun Z σ H ⟨F0, H0, pa, F, S, A, z⟩ => by
  refine ⟨F0, H0, pa, F, S, A, ?_⟩
  unfold seqF at z
  cases o : g1 S with
  | nx S' => rw [o] at z; exact fun σ' F' H' A' => ⟨F0, H0, pa, F', S', A', z⟩
  | rt r S' => rw [o] at z; exact z
  | bk S' => rw [o] at z; exact z
  | ct S' => rw [o] at z; exact z
  | ex c S' => rw [o] at z; exact z
  | no => rw [o] at z; exact z
theorem dss_one (h : DS X W st g) : DSs X W [st] g := PSs.weak (pss_one h) fun Z σ H z => z
/-- what is never reached -/
theorem ds_no : DS X W st noF := PS.weak ps_never fun Z σ H ⟨F0, H0, pa, F, S, A, z⟩ => z.elim
theorem dss_no : DSs X W sts noF := PSs.weak pss_never fun Z σ H ⟨F0, H0, pa, F, S, A, z⟩ => z.elim
theorem ds_pass : DS X W (.Pass pos) nxF := PS.weak ps_pass fun Z σ H ⟨F0, H0, pa, F, S, A, z⟩ => z σ F H A
def bkF : Sq → Fl := fun S => .bk S
def ctF : Sq → Fl := fun S => .ct S
theorem ds_break : DS X W (.Break pos) bkF := PS.weak ps_break fun Z σ H ⟨F0, H0, pa, F, S, A, z⟩ => z σ F H A
theorem ds_continue : DS X W (.Continue pos) ctF := PS.weak ps_continue fun Z σ H ⟨F0, H0, pa, F, S, A, z⟩ => z σ F H A
/-- an outcome as a statement's -/
def Out.fl {α : Type} (o : Out α) (t : α → Sq → Fl) : Fl := match o with
  | .ok a s => t a s
  | .ex c s => .ex c s
  | .no => .no
@[simp] theorem Out.fl_ok {α : Type} (a : α) (s : Sq) (t : α → Sq → Fl) : (Out.ok a s).fl t = t a s := rfl
@[simp] theorem Out.fl_ex {α : Type} (c : Str) (s : Sq) (t : α → Sq → Fl) : (Out.ex c s : Out α).fl t = .ex c s := rfl
@[simp] theorem Out.fl_no {α : Type} (t : α → Sq → Fl) : (Out.no : Out α).fl t = .no := rfl
theorem fl_out {α : Type} {K : PySem.W.Frag} {F0 H0 : Hp} {pa : Option Addr} {σ : L2.St} {Z : Ends} {o : Out α} {t : α → Sq → Fl} (z : FlP K W F0 H0 pa Z (o.fl t)) : OutP o (fun a s => FlP K W F0 H0 pa Z (t a s)) (EW K W F0 H0 pa σ) := by
  cases o with
  | ok a s => exact z
  | ex c s => exact fun F' H' A' => z σ F' H' A'
  | no => exact z
def ifF (t : Sq → Out Bool) (g1 g2 : Sq → Fl) : Sq → Fl := fun S => (t S).fl fun b S' => if b = true then g1 S' else g2 S'
theorem ds_if {tc : Sq → Out Bool} {s1 s2 : List Stmt} (hc : DT X W c tc) (h1 : DSs X W s1 g1) (h2 : DSs X W s2 g2) : DS X W (.If c s1 s2 pos) (ifF tc g1 g2) := PS.weak (ps_if hc h1 h2) fun Z σ H ⟨F0, H0, pa, F, S, A, z⟩ => by
  refine ⟨F0, H0, pa, F, S, A, (fl_out (σ := σ) z).imp (fun b S' z F' H' x' A' => ?_) fun _ _ z => z⟩
  cases b with
  | true => exact ⟨F0, H0, pa, F', S', A', z⟩
  | false => exact ⟨F0, H0, pa, F', S', A', z⟩
/-- name = e -/
def setF (i : Nat) (fa : Sq → Out PV) : Sq → Fl := fun S => (fa S).fl fun p S1 => match S1.res p with
  | some (c, S2) => if i < S2.r.length then .nx { S2 with r := S2.r.set i c } else .no
  | none => .no
theorem rs_set {K : PySem.W.Frag} {Z : Ends} {σ : L2.St} {H : Hp} (z : rs K W (setF i fa) Z σ H) : tAsg (rd K W fa) (gName i) Z σ H := by
  obtain ⟨F0, H0, pa, F, S, A, z⟩ := z
  refine ⟨F0, H0, pa, F, S, A, (fl_out (σ := σ) z).imp (fun p S1 z v F1 H1 x1 A1 r1 => ?_) fun _ _ z => z⟩
  show Z.nx (σ.set i (some v)) H1
  split at z
  · rename_i c S2 e1
    split at z
    · rename_i hi
      obtain ⟨F2, x2, A2, f⟩ := A1.res r1 e1
      exact z _ F2 H1 (A2.store hi f)
    · exact z.elim
  · exact z.elim
theorem ds_set (i : Nat) {p : Pos} (C : Cq G k N sc X) (he : DE X W e fa) (hi : N[i]? = some x := by rfl) (hx : Loc sc x := by first | exact Or.inl rfl | exact Or.inr rfl) (hs : swapsWith e (some (.Name x p)) pos.line X.env = pure false := by rfl)
    (hf : X.fn x = true ∨ sc.names.lookup x = some .local := by first | exact .inl rfl | exact .inr rfl | assumption) : DS X W (.Assign [.Name x p] e pos) (setF i fa) :=
  PS.weak (ps_set (by rw [C.names]; exact C.nd) (by rw [C.names]; exact hi) (by rw [C.scope]; exact hx) he hs (by rw [C.scope]; exact hf)) fun Z σ H z => rs_set z
/-- e alone -/
def dropF (fa : Sq → Out PV) : Sq → Fl := fun S => (fa S).fl fun _ S1 => .nx S1
theorem ds_expr (he : DE X W e fa) (hs : swapsWith e none pos.line X.env = pure false := by rfl) : DS X W (.Expr e pos) (dropF fa) := PS.weak (ps_expr he hs) fun Z σ H ⟨F0, H0, pa, F, S, A, z⟩ => by
  exact ⟨F0, H0, pa, F, S, A, (fl_out (σ := σ) z).imp (fun p S1 z v F1 H1 x1 A1 r1 => z σ F1 H1 A1) fun _ _ z => z⟩
/-- return e -/
def Sq.ret (S : Sq) : PV → Option R
  | .v x => some (.d x)
  | .o (.l xs) => some (.l xs)
  | .o (.m kvs) => some (.m kvs)
  | .o _ => none
  | .s i => match S.r[i]? with
    | some (.d x) => some (.d x)
    | some (.l xs) => some (.l xs)
    | some (.m kvs) => some (.m kvs)
    | _ => none
def retF (fa : Sq → Out PV) : Sq → Fl := fun S => (fa S).fl fun p S1 => match S1.ret p with
  | some r => .rt r S1
  | none => .no
theorem Agr.ret {K : PySem.W.Frag} {F0 H0 F H : Hp} {pa : Option Addr} {σ : L2.St} {S : Sq} {v : V} {pv : PV} {r : R} (A : Agr K F0 H0 pa σ F H S) (q : RelP K H0 pa σ F H S v pv) (e : S.ret pv = some r) : RelR K H0 pa F H S.p v r := by
  have no : ∀ t i, ¬ Own [] ⟨[], S.p⟩ i t := fun t i w => by
    have := w.1
    simp at this
  cases pv with
  | v x => cases e; exact q
  | o c =>
    cases c with
    | l xs =>
      cases e
      obtain ⟨t, vs, rfl, h1, h2, h3, h4, h5, h6⟩ := q
      exact ⟨t, vs, rfl, h1, h2, h3, h4, no t, h6⟩
    | un => cases e
    | d x => cases e
    | m kvs =>
      cases e
      obtain ⟨t, ho, rfl, h1, h2, h3, h4, h5, h6⟩ := q
      exact ⟨t, ho, rfl, h1, h2, h3, h4, no t, h6⟩
    | e c => cases e
    | sc ns => cases e
    | es cs => cases e
    | pen => cases e
  | s i =>
    unfold Sq.ret at e
    dsimp only at e
    cases z : S.r[i]? with
    | none => rw [z] at e; cases e
    | some c =>
      rw [z] at e
      have so := A.slots i c z
      cases c with
      | d x =>
        cases e
        obtain ⟨w, e1, e2⟩ := so
        rw [show σ[i]? = some (some v) from q] at e1; cases e1
        exact e2
      | l xs =>
        cases e
        obtain ⟨a, vs, e1, e2, e3, e4⟩ := so
        rw [show σ[i]? = some (some v) from q] at e1; cases e1
        have w : Own σ S i a := ⟨q, .inl ⟨xs, z⟩⟩
        exact ⟨a, vs, rfl, e2, e3, e4, (A.ownN i a w).1, no a, (A.ownN i a w).2⟩
      | un => cases e
      | m kvs =>
        cases e
        obtain ⟨a, ho, e1, e2, e3, e4⟩ := so
        rw [show σ[i]? = some (some v) from q] at e1; cases e1
        have w : Own σ S i a := ⟨q, .inr ⟨kvs, z⟩⟩
        exact ⟨a, ho, rfl, e2, e3, e4, (A.ownN i a w).1, no a, (A.ownN i a w).2⟩
      | e c => cases e
      | sc ns => cases e
      | es cs => cases e
      | pen => cases e
theorem ds_ret (he : DE X W e fa) : DS X W (.Return (some e) pos) (retF fa) := PS.weak (ps_ret he) fun Z σ H ⟨F0, H0, pa, F, S, A, z⟩ => by
  refine ⟨F0, H0, pa, F, S, A, (fl_out (σ := σ) z).imp (fun p S1 z v F1 H1 x1 A1 r1 => ?_) fun _ _ z => z⟩
  split at z
  · rename_i r e1
    exact z σ v F1 H1 A1 (A1.ret r1 e1)
  · exact z.elim
/-- raise X('..') -/
structure ExcF (X : Cx) (x : Str) : Prop where
  g : X.mg x = some (.ref (He.ga X.K x))
  q : PySem.W.excIn X.K (He.ga X.K x) He.veBase "ValueError.__new__" = true
  kp : PySem.W.keepIn X.K (.ref (He.ga X.K x)) = true
  b : PySem.W.subIn X.K (.ref (He.ga X.K x)) (.type "BaseException") = some true
  t : PySem.W.typeIn X.K (.ref (He.ga X.K x)) = some (.type "type")
def raiseF (x : Str) : Sq → Fl := fun S => .ex x S
theorem ds_raise {m : Str} {j : Nat} {p p1 p2 : Pos} (C : Cq G k N sc X) (tk : Takes X W) (E : ExcF X x) (hg : Gl X x) (hdb : (x == ("__debug__" : Str)) = false := by decide) : DS X W (.Raise (some (.Call (.Name x p) [.Constant (.str m) j p1] [] p2)) none pos) (raiseF x) :=
  PS.weak (ps_raise C.calm tk (pmk_own PySem.F.excBase_ValueError E.q E.g E.kp (raises_own E.b E.t) hg hdb)) fun Z σ H ⟨F0, H0, pa, F, S, A, z⟩ => z σ F H A
/-- xs.append(e), xs a slot's own list -/
def isL (S : Sq) (i : Nat) : Bool := match S.r[i]? with
  | some (.l _) => true
  | _ => false
theorem isL_iff {S : Sq} {i : Nat} (h : isL S i = true) : ∃ xs, S.r[i]? = some (.l xs) := by
  unfold isL at h
  split at h
  · exact ⟨_, by assumption⟩
  · cases h
def appF (i : Nat) (fa : Sq → Out PV) : Sq → Fl := fun S => if isL S i = true then (fzF fa S).fl fun p S1 => (match S1.keep p with
  | some (d, S2) => (match S2.r[i]? with
    | some (.l xs) => if xs.length < sizeLine then .nx { S2 with r := S2.r.set i (.l (xs ++ [d])) } else .no
    | _ => .no)
  | none => .no) else .no
theorem ds_append (i : Nat) {p apos : Pos} (C : Cq G k N sc X) (he : DE X W e fa) (hi : N[i]? = some x := by rfl) (hv : sc.names.lookup x = some .local ∨ sc.names.lookup x = some .cell ∨ sc.names.lookup x = some .free := by first | exact Or.inl rfl | exact Or.inr (Or.inl rfl) | exact Or.inr (Or.inr rfl))
    (hs : swapsWith (.Call (.Attribute (.Name x p) "append" apos) [e] [] pos) none pos.line X.env = pure false := by rfl) (hbase : attributeBase (.Name x p) "append" X.env (eval (.Name x p) X.env) = eval (.Name x p) X.env := by rfl)
    (hfew : ((backTo pos (starEach [e] X.env)).all (fun x => !x.1) && (backToKw pos (keywordEach [] X.env)).all (fun x => x.1.isSome)
      && decide ([e].length + ([] : List Keyword).length + (if ([] : List Keyword).isEmpty then 0 else 1) < 30)) = true := by rfl)
    (hline : (apos.endLine == pos.line) = true := by rfl) (hst : starEach [e] X.env = (false, eval e X.env) :: starEach [] X.env := by rfl) (hplain : (backTo pos (starEach [] X.env)).any (·.1) = false := by rfl)
    (hd : (x == ("__debug__" : Str)) = false := by decide) (hcd : (x == ("__classdict__" : Str)) = false := by decide) {pos' : Pos} (hpos : pos' = pos := by rfl) :
    DS X W (.Expr (.Call (.Attribute (.Name x p) "append" apos) [e] [] pos) pos') (appF i fa) := by
  subst hpos
  refine PS.weak (ps_expr (pe_bm PySem.F.plainAttrs_list PySem.F.slot_list_append PySem.F.type_list_append mt_append (pe_var (i := i) (by rw [C.names]; exact hi) (by show Vis X.env.scope x; rw [C.scope]; exact hv) hd hcd) (pa_cons (de_fz he) pa_nil hst) hbase hfew hline hst hplain) hs) fun Z σ H z => ?_
  obtain ⟨F0, H0, pa, F, S, A, z⟩ := z
  unfold appF at z
  split at z
  · rename_i h0
    obtain ⟨xs0, h0⟩ := isL_iff h0
    obtain ⟨a, vs0, e1, e2, e3, e4⟩ := A.slots i _ h0
    refine ⟨.ref a, e1, .inl ⟨rfl, vs0, SqL.of e2⟩, F0, H0, pa, F, S, A, (fl_out (σ := σ) z).imp (fun q S1 z v F1 H1 x1 A1 r1 => ?_) fun _ _ z => z⟩
    split at z
    · rename_i d S2 q1
      obtain ⟨F2, x2, A2, d2⟩ := A1.keep r1 q1
      split at z
      · rename_i xs q2
        split at z
        · rename_i hz
          obtain ⟨a', vs, p1, p2, p3, p4⟩ := A2.slots i _ q2
          rw [e1] at p1; cases p1
          exact ⟨a, vs, v, rfl, rfl, p2, by rw [p4.length]; exact hz, z σ F2 _ (A2.write q2 e1 (p4.append (.cons d2 .nil)))⟩
        · exact z.elim
      · exact z.elim
    · exact z.elim
  · exact z.elim
/-- xs[k] = e, xs a slot's own list -/
def setLF (i : Nat) (fa fb : Sq → Out PV) : Sq → Fl := fun S => (fzF fa S).fl fun p S1 => if isL S1 i = true then (fzF fb S1).fl fun q S2 => (match S2.val q, S2.keep p with
  | some (.int n), some (d, S3) => (match S3.r[i]? with
    | some (.l xs) => (match ixN xs.length n with
      | some j => .nx { S3 with r := S3.r.set i (.l (xs.set j d)) }
      | none => .no)
    | _ => .no)
  | _, _ => .no) else .no
theorem ds_setL (i : Nat) {p p1 : Pos} (C : Cq G k N sc X) (he : DE X W e fa) (hb : DE X W b fb) (hi : N[i]? = some x := by rfl) (hv : sc.names.lookup x = some .local ∨ sc.names.lookup x = some .cell ∨ sc.names.lookup x = some .free := by first | exact Or.inl rfl | exact Or.inr (Or.inl rfl) | exact Or.inr (Or.inr rfl))
    (ha : ∀ v, assign (.Subscript (.Name x p) b p1) X.env v = (do
      let ov ← holding [v] (eval (.Name x p) X.env)
      let iv ← holding [v, ov] (eval b X.env)
      standAt p1
      holding [v, ov, iv] (setItem ov iv v)
      release [v, ov, iv] []) := by intro _; rfl) (hs : swapsWithSole [.Subscript (.Name x p) b p1] e pos.line X.env = pure false := by rfl) (hw : swappedStores [.Subscript (.Name x p) b p1] e X.env = pure none := by rfl)
    (h1 : (assignEach [.Subscript (.Name x p) b p1] X.env).map (·.2) = [assign (.Subscript (.Name x p) b p1) X.env] := by rfl)
    (hd : (x == ("__debug__" : Str)) = false := by decide) (hcd : (x == ("__classdict__" : Str)) = false := by decide) :
    DS X W (.Assign [.Subscript (.Name x p) b p1] e pos) (setLF i fa fb) := by
  refine PS.weak (ps_asg (de_fz he) (pg_sub (pe_var (i := i) (by rw [C.names]; exact hi) (by show Vis X.env.scope x; rw [C.scope]; exact hv) hd hcd) (de_fz hb) set_list ha) hs hw h1) fun Z σ H z => ?_
  obtain ⟨F0, H0, pa, F, S, A, z⟩ := z
  refine ⟨F0, H0, pa, F, S, A, (fl_out (σ := σ) z).imp (fun q S1 z v F1 H1 x1 A1 r1 => ?_) fun _ _ z => z⟩
  split at z
  · rename_i h0
    obtain ⟨xs0, h0⟩ := isL_iff h0
    obtain ⟨a, vs0, e1, e2, e3, e4⟩ := A1.slots i _ h0
    refine ⟨.ref a, e1, F0, H0, pa, F1, S1, A1, (fl_out (σ := σ) z).imp (fun w S2 z u F2 H2 x2 A2 r2 => ?_) fun _ _ z => z⟩
    split at z
    · rename_i n d S3 q1 q2
      have hu := (A2.val r2 q1).int
      have fr : Frz q := fun c y => by
        rw [y] at q2
        cases q2
      obtain ⟨F3, x3, A3, d3⟩ := A2.keep (r1.anyS fr x2) q2
      split at z
      · rename_i xs q3
        split at z
        · rename_i j q4
          obtain ⟨a', vs, p1, p2, p3, p4⟩ := A3.slots i _ q3
          rw [e1] at p1; cases p1
          exact ⟨a, vs, n, j, rfl, hu, p2, by rw [p4.length]; exact q4, z σ F3 _ (A3.write q3 e1 (p4.set j d3))⟩
        · exact z.elim
      · exact z.elim
    · exact z.elim
  · exact z.elim
/-- pen[j] = e -/
def penF (i : Nat) (j : Int) (fa : Sq → Out PV) : Sq → Fl := fun S => (fzF fa S).fl fun p S1 => match S1.r[i]?, S1.p, S1.val p with
  | some .pen, some P, some (.int n) => if j = 1 then .nx { S1 with p := some { P with at_ := n } } else if j = 2 then .nx { S1 with p := some { P with rest := n } } else .no
  | _, _, _ => .no
theorem ds_pen (i : Nat) {j : Int} {m : Nat} {p p1 p2 : Pos} (C : Cq G k N sc X) (he : DE X W e fa) (hi : N[i]? = some x := by rfl) (hv : sc.names.lookup x = some .local ∨ sc.names.lookup x = some .cell ∨ sc.names.lookup x = some .free := by first | exact Or.inl rfl | exact Or.inr (Or.inl rfl) | exact Or.inr (Or.inr rfl))
    (ha : ∀ v, assign (.Subscript (.Name x p) (.Constant (.int j) m p2) p1) X.env v = (do
      let ov ← holding [v] (eval (.Name x p) X.env)
      let iv ← holding [v, ov] (eval (.Constant (.int j) m p2) X.env)
      standAt p1
      holding [v, ov, iv] (setItem ov iv v)
      release [v, ov, iv] []) := by intro _; rfl) (hs : swapsWithSole [.Subscript (.Name x p) (.Constant (.int j) m p2) p1] e pos.line X.env = pure false := by rfl) (hw : swappedStores [.Subscript (.Name x p) (.Constant (.int j) m p2) p1] e X.env = pure none := by rfl)
    (h1 : (assignEach [.Subscript (.Name x p) (.Constant (.int j) m p2) p1] X.env).map (·.2) = [assign (.Subscript (.Name x p) (.Constant (.int j) m p2) p1) X.env] := by rfl)
    (hd : (x == ("__debug__" : Str)) = false := by decide) (hcd : (x == ("__classdict__" : Str)) = false := by decide) :
    DS X W (.Assign [.Subscript (.Name x p) (.Constant (.int j) m p2) p1] e pos) (penF i j fa) := by
  refine PS.weak (ps_asg (de_fz he) (pg_sub (pe_var (i := i) (by rw [C.names]; exact hi) (by show Vis X.env.scope x; rw [C.scope]; exact hv) hd hcd) (pe_int (i := j) (j := m)) set_list ha) hs hw h1) fun Z σ H z => ?_
  obtain ⟨F0, H0, pa, F, S, A, z⟩ := z
  refine ⟨F0, H0, pa, F, S, A, (fl_out (σ := σ) z).imp (fun q S1 z v F1 H1 x1 A1 r1 => ?_) fun _ _ z => z⟩
  split at z
  · rename_i P n q1 q2 q3
    obtain ⟨q0, ep, e1⟩ := A1.slots i _ q1
    obtain ⟨P', c, eP, p1, p2, p3⟩ := A1.pen.at ep.symm
    rw [q2] at eP; cases eP
    have hv := (A1.val r1 q3).int
    refine ⟨.ref q0, e1, ?_⟩
    by_cases j1 : j = 1
    · subst j1
      rw [if_pos rfl] at z
      refine ⟨q0, _, 1, 1, rfl, rfl, p1, rfl, ?_⟩
      rw [hv]
      exact z σ F1 _ (A1.penned (P' := { P with at_ := n }) ep.symm q2 p1 rfl)
    · rw [if_neg j1] at z
      by_cases j2 : j = 2
      · subst j2
        rw [if_pos rfl] at z
        refine ⟨q0, _, 2, 2, rfl, rfl, p1, rfl, ?_⟩
        rw [hv]
        exact z σ F1 _ (A1.penned (P' := { P with rest := n }) ep.symm q2 p1 rfl)
      · rw [if_neg j2] at z
        exact z.elim
  · exact z.elim
end
end Q3
/-! Q3f: loops. -/
namespace Q3
open PySem PySem.Spec PyProof.Rows L2
variable [TabSet]
/-! ### what is walked -/
structure Yields (K : PySem.W.Frag) (F : Hp) (J : It) (ds : List D) : Prop where
  stop : ∀ H, Ex F H → J.stop ds.length H
  go : ∀ i H, Ex F H → i < ds.length → J.go i H
  yld : ∀ i H x H' d, Ex F H → ds[i]? = some d → J.yld i H x H' → Gv K F H (.v d) x H'
theorem Gv.up {K : PySem.W.Frag} {F F' H H' : Hp} {p : PV} {v : V} (g : Gv K F H p v H') (e : Ex F F') : Gv K F' H p v H' := by
  cases g with
  | dn h => exact .dn (h.mono e)
  | tup hp h => exact .tup hp (h.mono e)
  | lst hp h => exact .lst hp (h.mono e)
  | dct hp h => exact .dct hp (h.mono e)
def rdI (K : PySem.W.Frag) (W : WX) (fi : Sq → Out (List D)) : TI := fun σ H R => ∃ F0 H0 pa F S, Agr K F0 H0 pa σ F H S ∧ OutP (fi S) (fun ds S' => ∀ J F' H', Ex F F' → Agr K F0 H0 pa σ F' H' S' → Yields K F' J ds → R J H') (EW K W F0 H0 pa σ)
abbrev DI (X : Cx) (W : WX) (tg it : Expr) (fi : Sq → Out (List D)) : Prop := PI X tg it (rdI X.K W fi)
/-- a dict that may be walked: its keys are no texts -/
def walkK (kvs : List (D × D)) : Bool := kvs.all fun e => match e.1 with
  | .str _ => false
  | _ => true
/-- the items of what may be walked -/
def itemsOf : D → Option (List D)
  | .list xs => some xs
  | .tuple xs => some xs
  | .str z => some (z.cps.toList.map fun c => .str ⟨#[c]⟩)
  | .dict kvs => if walkK kvs = true then some (kvs.map (·.1)) else none
  | _ => none
def itF (fa : Sq → Out PV) : Sq → Out (List D) := fun S => (fzF fa S).bind fun p S1 => match S1.keep p with
  | some (d, S2) => (match itemsOf d with
    | some xs => .ok xs S2
    | none => .no)
  | none => .no
/-! ### a dict's keys, in their order -/
def ItkE (d : Addr) (es : List (D × V × V)) (ep : Nat) : It where
  go := fun i H => i < es.length ∧ H d = some (dctE es ep d)
  yld := fun i H x H' => (∃ e, es[i]? = some e ∧ e.2.1 = x) ∧ H' = H
  stop := fun i H => es.length ≤ i ∧ H d = some (dctE es ep d)
theorem dctE_at {X : Cx} {pins : List (Addr × Obj)} {σ : L2.St} {H : Hp} {s : Shared} {d : Addr} {es : List (D × V × V)} {ep : Nat} (I : Inv X pins σ H s) (h : H d = some (dctE es ep d)) :
    ∃ (o : Obj) (ents : Array DictEntry), (d == sysModules) = false ∧ s.heap.get? d = some o ∧ o.ExactDict ∧ o.data = .dict ents ep ∧ ents.size = es.length ∧ Paired kvE es ents.toList := by
  obtain ⟨⟨ns, len, o, ents, ep', ho, hx, hd, pr, rfl⟩, _⟩ := I.hok _ _ h
  exact ⟨o, ents, ns, ho, hx, hd, by rw [← Array.length_toList]; exact (Paired.length pr).symm, pr⟩
theorem turn_keysE {P : Program} {w : World} {K : PySem.W.Frag} {tg : Expr} {d : Addr} {es : List (D × V × V)} {ep : Nat} (it : Addr) : Turn P w K tg (ItkE d es ep) [it] it (fun i h => h.IsKeyIter it d i es.length ep) where
  mem := List.mem_singleton.mpr rfl
  obj := fun i h z b hb => by
    rw [List.mem_singleton] at hb
    subst hb
    obtain ⟨oi, e1, _, e2⟩ := z
    exact ⟨oi, e1, fun v q => by rw [e2] at q; cases q⟩
  keep := fun i h h' z k => z.at fun oi q => k it (List.mem_singleton.mpr rfl) oi q
  item := by
    intro X hP hw hK hc i pins s σ H E I hf z hg
    subst hP hw hK
    obtain ⟨o, ents, ns, g1, g2, g3, g4, g5⟩ := dctE_at I hg.2
    obtain ⟨k0, k1, k2, k3, k4, k5⟩ := hf it (List.mem_singleton.mpr rfl)
    have hi : i < es.length := hg.1
    have he : es[i]? = some es[i] := List.getElem?_eq_getElem hi
    obtain ⟨en, e1, r1, _⟩ := paired_get g5 he
    rw [Array.getElem?_toList] at e1
    refine next_key_item z g1 g3 g4 e1 fun h' z' sb => ?_
    have I' : Inv X pins σ H { s with heap := h' } := I.turned (t' := s.toks) (fun b ob hb q => (sb.2 b hb).trans q) k0 k1 k3 k4 k5
    obtain ⟨oi, e2, e3, e4⟩ := id z'
    exact ⟨en.key, rfl, go_of (s := { s with heap := h' }) e2 e3 e4 (by decide) ⟨es[i].2.1, H, I', r1, ⟨⟨es[i], he, rfl⟩, rfl⟩, z', fun b hb => (hf b hb).1⟩⟩
  done := by
    intro X hP hw hK hc i pins s σ H E I hf z hg
    subst hP hw hK
    obtain ⟨o, ents, ns, g1, g2, g3, g4, g5⟩ := dctE_at I hg.2
    obtain ⟨k0, k1, k2, k3, k4, k5⟩ := hf it (List.mem_singleton.mpr rfl)
    exact next_key_end (I.ok.hd hc) z g1 g3 g4 hg.1 fun h' eb => ⟨rfl, I.turned (t' := s.toks) (fun b ob hb q => eb b ob hb q) k0 k1 k3 k4 k5⟩
  self := fun A i s Q E z h => by
    refine wpAny_pyIter_slot z.typeIs PySem.F.slot_dict_keyiterator_iter (wpAny_call_entry PySem.F.slot_dict_keyiterator_iter z.typeIs PySem.F.entry_dict_keyiterator_iter ?_ (PySem.F.args_dict_keyiterator_iter_1 _))
    exact wpAny_pure ⟨_, rfl, "dict_keyiterator", _, z.typeIs, PySem.F.slot_dict_keyiterator_next.lookup, h⟩
def iKeysE (td : TE) : TI := fun σ H R => td σ H fun x H1 => ∃ (d : Addr) (es : List (D × V × V)) (ep : Nat), x = .ref d ∧ H1 d = some (dctE es ep d) ∧ R (ItkE d es ep) H1
theorem pi_keysE {X : Cx} {tg e : Expr} {td : TE} (he : PE X e td) : PI X tg e (iKeysE td) := by
  refine ⟨fun pins s σ H R I h => thn (he.run pins s σ H _ I h) fun u s1 ⟨x, H1, I1, rx, d, es, ep, ex, hd, q⟩ => ?_⟩
  subst ex
  obtain rfl : u = Value.ref d := rx
  obtain ⟨o, ents, ns, g1, g2, g3, g4, _⟩ := dctE_at I1 hd
  refine iter_keys ns g1 g2 g3 (pi_one (tk := s1.toks) I1 _ (turn_keysE _) ⟨_, Heap.get?_push_size _ rfl, rfl, ?_⟩ q)
  rw [g4] <;> rfl
theorem yields_keys {K : PySem.W.Frag} {F : Hp} {a : Addr} {es : List (D × V × V)} {ep : Nat} {ds : List D} (h : F a = some (dctE es ep a)) (hd : DnAll K F (es.map (·.2.1)) ds) : Yields K F (ItkE a es ep) ds where
  stop := fun H e => ⟨by rw [← hd.length, List.length_map]; exact Nat.le_refl _, e _ _ h⟩
  go := fun i H e hi => ⟨by rw [← hd.length, List.length_map] at hi; exact hi, e _ _ h⟩
  yld := fun i H x H' d e hd' y => by
    obtain ⟨⟨en, e1, e2⟩, rfl⟩ := y
    obtain ⟨v, e3, e4⟩ := hd.get hd'
    rw [List.getElem?_map, e1] at e3
    cases e3
    rw [← e2]
    exact .dn e4
theorem dn_walk {K : PySem.W.Frag} {F : Hp} {v : V} {kvs : List (D × D)} (h : Dn K F v (.dict kvs)) (w : walkK kvs = true) : ∃ (a : Addr) (es : List (D × V × V)) (ep : Nat), v = .ref a ∧ F a = some (dctE es ep a) ∧ DnAll K F (es.map (·.2.1)) (kvs.map (·.1)) := by
  cases h with
  | @dctK a es _ h1 ht h2 h3 =>
    exfalso
    cases es with
    | nil => exact ht.1 rfl
    | cons e es =>
      obtain ⟨x, hx⟩ := ht.2 e List.mem_cons_self
      cases kvs with
      | nil => simp at h2
      | cons p kvs =>
        rw [List.map_cons, List.map_cons] at h2
        injection h2 with h0 _
        rw [hx] at h0
        have z := List.all_eq_true.mp w p List.mem_cons_self
        rw [h0] at z
        cases z
  | dctE h1 h2 h3 h4 h5 => exact ⟨_, _, _, rfl, h1, h4⟩
section
variable {K : PySem.W.Frag} {F : Hp}
theorem yields_list {a : Addr} {vs : List V} {ds : List D} (h : F a = some (.lst vs)) (hd : DnAll K F vs ds) : Yields K F (Itl K a) ds where
  stop := fun H e => ⟨vs, SqL.of (e _ _ h), by rw [hd.length]; exact Nat.le_refl _⟩
  go := fun i H e hi => by
    obtain ⟨v, e1, _⟩ := hd.get (List.getElem?_eq_getElem hi)
    exact ⟨vs, v, SqL.of (e _ _ h), e1⟩
  yld := fun i H x H' d e hd' y => by
    obtain ⟨rfl, q⟩ := y
    obtain ⟨v, e1, e2⟩ := hd.get hd'
    have z := q vs (SqL.of (e _ _ h))
    rw [e1] at z; cases z
    exact .dn e2
theorem yields_tup {a : Addr} {vs : List V} {ds : List D} (h : F a = some (.tup vs)) (hd : DnAll K F vs ds) : Yields K F (Itt K a) ds where
  stop := fun H e => ⟨vs, SqT.of (e _ _ h), by rw [hd.length]; exact Nat.le_refl _⟩
  go := fun i H e hi => by
    obtain ⟨v, e1, _⟩ := hd.get (List.getElem?_eq_getElem hi)
    exact ⟨vs, v, SqT.of (e _ _ h), e1⟩
  yld := fun i H x H' d e hd' y => by
    obtain ⟨rfl, q⟩ := y
    obtain ⟨v, e1, e2⟩ := hd.get hd'
    have z := q vs (SqT.of (e _ _ h))
    rw [e1] at z; cases z
    exact .dn e2
theorem yields_str {z : Str} : Yields K F (Its z) (z.cps.toList.map fun c => .str ⟨#[c]⟩) where
  stop := fun H e => by show z.cps.size ≤ _; simp
  go := fun i H e hi => by show i < z.cps.size; simpa using hi
  yld := fun i H x H' d e hd' y => by
    obtain ⟨rfl, c, q, rfl⟩ := y
    rw [List.getElem?_map, Array.getElem?_toList, q] at hd'
    cases hd'
    exact .dn (.str _)
def rngD (lo : Int) (n : Nat) : List D := (List.range n).map fun i => .int (lo + (i : Nat))
theorem yields_rng {lo : Int} {n : Nat} : Yields K F (Itr lo n) (rngD lo n) where
  stop := fun H e => by show n ≤ _; simp [rngD]
  go := fun i H e hi => by show i < n; simpa [rngD] using hi
  yld := fun i H x H' d e hd' y => by
    obtain ⟨rfl, rfl⟩ := y
    unfold rngD at hd'
    rw [List.getElem?_map] at hd'
    obtain ⟨j, e1, e2⟩ := Option.map_eq_some_iff.mp hd'
    have hj : j = i := by
      obtain ⟨h1, h2⟩ := List.getElem?_eq_some_iff.mp e1
      simpa using h2.symm
    subst hj e2
    exact .dn (.int _)
def enumD : Nat → List D → List D
  | _, [] => []
  | n, d :: ds => .tuple [.int (n : Nat), d] :: enumD (n + 1) ds
theorem enumD_length : ∀ (n : Nat) (ds : List D), (enumD n ds).length = ds.length
  | _, [] => rfl
  | n, _ :: ds => by rw [enumD, List.length_cons, List.length_cons, enumD_length]
theorem enumD_get : ∀ (n i : Nat) (ds : List D), (enumD n ds)[i]? = ds[i]?.map fun d => .tuple [.int ((n + i : Nat) : Int), d]
  | _, _, [] => by simp [enumD]
  | n, 0, d :: ds => by simp [enumD]
  | n, i + 1, d :: ds => by
    rw [enumD, List.getElem?_cons_succ, List.getElem?_cons_succ, enumD_get (n + 1) i ds]
    congr 1
    funext d
    rw [show n + 1 + i = n + (i + 1) by omega]
theorem yields_enum {a : Addr} {vs : List V} {ds : List D} (h : F a = some (.lst vs)) (hd : DnAll K F vs ds) : Yields K F (Ite K a) (enumD 0 ds) where
  stop := fun H e => ⟨vs, SqL.of (e _ _ h), by rw [enumD_length, hd.length]; exact Nat.le_refl _⟩
  go := fun i H e hi => by
    rw [enumD_length] at hi
    obtain ⟨v, e1, _⟩ := hd.get (List.getElem?_eq_getElem hi)
    exact ⟨vs, v, SqL.of (e _ _ h), e1⟩
  yld := fun i H x H' d e hd' y => by
    obtain ⟨T, v, rfl, hT, rfl, q⟩ := y
    rw [enumD_get] at hd'
    obtain ⟨d', e1, e2⟩ := Option.map_eq_some_iff.mp hd'
    obtain ⟨w, e3, e4⟩ := hd.get e1
    have z := q vs (SqL.of (e _ _ h))
    rw [e3] at z; cases z
    subst e2
    rw [Nat.zero_add]
    exact .tup hT (.cons (.int _) (.cons e4 .nil))
end
section
variable {X : Cx} {W : WX} {a b c e tg : Expr} {fa fb fc : Sq → Out PV} {pos : Pos} {N : List Str} {sc : Scope} {k : Nat} {G : Gb}
theorem di_of (he : DE X W e fa) : DI X W tg e (itF fa) := by
  refine ⟨fun pins s σ H R I h => ?_⟩
  obtain ⟨F0, H0, pa, F, S, A, z⟩ := h
  unfold itF at z
  cases o : fzF fa S with
  | no => rw [o] at z; exact z.elim
  | ex c S' =>
    rw [o] at z
    refine (pi_list (tg := tg) (de_fz he)).run pins s σ H R I ⟨F0, H0, pa, F, S, A, ?_⟩
    rw [o]
    exact z
  | ok p S1 =>
    rw [o] at z
    have z : OutP (match S1.keep p with
      | some (d, S2) => (match itemsOf d with
        | some xs => Out.ok xs S2
        | none => .no)
      | none => .no) (fun ds S' => ∀ J F' H', Ex F F' → Agr X.K F0 H0 pa σ F' H' S' → Yields X.K F' J ds → R J H') (EW X.K W F0 H0 pa σ) := z
    cases q : S1.keep p with
    | none => rw [q] at z; exact z.elim
    | some t =>
      obtain ⟨d, S2⟩ := t
      rw [q] at z
      dsimp only at z
      cases d with
      | list xs =>
        refine (pi_list (tg := tg) (de_fz he)).run pins s σ H R I ⟨F0, H0, pa, F, S, A, ?_⟩
        rw [o]
        intro v F1 H1 x1 A1 r1
        obtain ⟨F2, x2, A2, d2⟩ := A1.keep r1 q
        cases d2 with
        | lst h1 h2 => exact ⟨_, rfl, ⟨_, SqL.of (A2.sub _ _ h1)⟩, z _ F2 H1 (x1.trans x2) A2 (yields_list h1 h2)⟩
      | tuple xs =>
        refine (pi_tup (tg := tg) (de_fz he)).run pins s σ H R I ⟨F0, H0, pa, F, S, A, ?_⟩
        rw [o]
        intro v F1 H1 x1 A1 r1
        obtain ⟨F2, x2, A2, d2⟩ := A1.keep r1 q
        cases d2 with
        | tup h1 h2 => exact ⟨_, rfl, ⟨_, SqT.of (A2.sub _ _ h1)⟩, z _ F2 H1 (x1.trans x2) A2 (yields_tup h1 h2)⟩
      | str y =>
        refine (pi_str (tg := tg) (de_fz he)).run pins s σ H R I ⟨F0, H0, pa, F, S, A, ?_⟩
        rw [o]
        intro v F1 H1 x1 A1 r1
        obtain ⟨F2, x2, A2, d2⟩ := A1.keep r1 q
        cases d2
        exact ⟨_, rfl, z _ F2 H1 (x1.trans x2) A2 yields_str⟩
      | none => exact z.elim
      | bool b => exact z.elim
      | int i => exact z.elim
      | dict kvs =>
        by_cases wk : walkK kvs = true
        · have ei : itemsOf (.dict kvs) = some (kvs.map (·.1)) := by show (if walkK kvs = true then _ else _) = _; rw [if_pos wk]
          rw [ei] at z
          refine (pi_keysE (tg := tg) (de_fz he)).run pins s σ H R I ⟨F0, H0, pa, F, S, A, ?_⟩
          rw [o]
          intro v F1 H1 x1 A1 r1
          obtain ⟨F2, x2, A2, d2⟩ := A1.keep r1 q
          obtain ⟨a, es, ep, rfl, h1, h2⟩ := dn_walk d2 wk
          exact ⟨a, es, ep, rfl, A2.sub _ _ h1, z _ F2 H1 (x1.trans x2) A2 (yields_keys h1 h2)⟩
        · have ei : itemsOf (.dict kvs) = none := by show (if walkK kvs = true then _ else _) = _; rw [if_neg wk]
          rw [ei] at z
          exact z.elim
/-- range(n) -/
def rng1F (fa : Sq → Out PV) : Sq → Out (List D) := fun S => (fzF fa S).bind fun p S1 => match S1.val p with
  | some (.int j) => if -(2 ^ 62) ≤ j ∧ j < 2 ^ 62 then .ok (rngD 0 j.toNat) S1 else .no
  | _ => .no
theorem di_range1 {p : Pos} (hg : Gl X "range") (hm : X.mg "range" = none) (ha : DE X W a fa) (hs : starEach [a] X.env = [(false, eval a X.env)] := by rfl) (hst : starEach [a] X.env = (false, eval a X.env) :: starEach [] X.env := by rfl) : DI X W tg (.Call (.Name "range" p) [a] [] pos) (rng1F fa) := by
  refine ⟨fun pins s σ H R I h => (pi_range1 (tg := tg) hg hm (pa_cons (de_fz ha) pa_nil hst) hs).run pins s σ H R I ?_⟩
  obtain ⟨F0, H0, pa, F, S, A, z⟩ := h
  unfold rng1F at z
  rw [OutP.bind] at z
  refine ⟨F0, H0, pa, F, S, A, z.imp (fun p S1 z v F1 H1 x1 A1 r1 => ?_) fun _ _ z => z⟩
  split at z
  · rename_i j q
    split at z
    · rename_i hj
      exact ⟨j, by rw [(A1.val r1 q).int], hj.1, hj.2, z _ F1 H1 x1 A1 yields_rng⟩
    · exact z.elim
  · exact z.elim
/-- enumerate(xs), a list -/
def enumF (fa : Sq → Out PV) : Sq → Out (List D) := fun S => (fzF fa S).bind fun p S1 => match S1.keep p with
  | some (.list xs, S2) => .ok (enumD 0 xs) S2
  | _ => .no
theorem di_enum {p : Pos} {elts : List Expr} {kk : Nat} {tpos : Pos} (hg : Gl X "enumerate") (hm : X.mg "enumerate" = none) (ha : DE X W a fa) (hs : starEach [a] X.env = [(false, eval a X.env)] := by rfl) (hst : starEach [a] X.env = (false, eval a X.env) :: starEach [] X.env := by rfl) :
    DI X W (.Tuple elts kk tpos) (.Call (.Name "enumerate" p) [a] [] pos) (enumF fa) := by
  refine ⟨fun pins s σ H R I h => (pi_enum hg hm (pa_cons (de_fz ha) pa_nil hst) hs).run pins s σ H R I ?_⟩
  obtain ⟨F0, H0, pa, F, S, A, z⟩ := h
  unfold enumF at z
  rw [OutP.bind] at z
  refine ⟨F0, H0, pa, F, S, A, z.imp (fun p S1 z v F1 H1 x1 A1 r1 => ?_) fun _ _ z => z⟩
  split at z
  · rename_i xs S2 q
    obtain ⟨F2, x2, A2, d2⟩ := A1.keep r1 q
    cases d2 with
    | lst h1 h2 => exact ⟨_, _, rfl, SqL.of (A2.sub _ _ h1), z _ F2 H1 (x1.trans x2) A2 (yields_enum h1 h2)⟩
  · exact z.elim
/-! ### targets -/
inductive Tg where
  | nm (i : Nat) | tp (is : List Nat)
def putAll (S : Sq) : List Nat → List D → Option Sq
  | [], [] => some S
  | i :: is, d :: ds => if i < S.r.length then putAll { S with r := S.r.set i (.d d) } is ds else none
  | _, _ => none
def Tg.put (S : Sq) : Tg → D → Option Sq
  | .nm i, d => if i < S.r.length then some { S with r := S.r.set i (.d d) } else none
  | .tp is, .tuple ds => putAll S is ds
  | _, _ => none
def gNs : List Nat → TGs
  | [] => gNil
  | i :: is => gCons (gName i) (gNs is)
def Tg.rd (K : PySem.W.Frag) : Tg → TG
  | .nm i => gName i
  | .tp is => gTup K is.length (gNs is)
def Tg.is : Tg → List Nat
  | .nm i => [i]
  | .tp is => is
/-- slots but these stay -/
def SameBut (is : List Nat) (σ σ' : L2.St) : Prop := σ'.length = σ.length ∧ ∀ j, j ∉ is → σ'[j]? = σ[j]?
theorem putAll_ok {K : PySem.W.Frag} {F0 H0 F H : Hp} {pa : Option Addr} : ∀ {is : List Nat} {ds : List D} {vs : List V} {σ : L2.St} {S S' : Sq} {Q : L2.St → Hp → Prop}, Agr K F0 H0 pa σ F H S → DnAll K F vs ds → putAll S is ds = some S' →
    (∀ σ', Agr K F0 H0 pa σ' F H S' → SameBut is σ σ' → Q σ' H) → gNs is vs σ H Q
  | [], [], vs, σ, S, S', Q, A, hd, e, h => by
    cases hd; cases e
    exact ⟨rfl, h σ A ⟨rfl, fun _ _ => rfl⟩⟩
  | [], _ :: _, _, _, _, _, _, _, _, e, _ => by cases e
  | _ :: _, [], _, _, _, _, _, _, _, e, _ => by cases e
  | i :: is, d :: ds, vs, σ, S, S', Q, A, hd, e, h => by
    cases hd with
    | @cons v vs' _ _ h1 h2 =>
      unfold putAll at e
      split at e
      · rename_i hi
        refine ⟨v, vs', rfl, putAll_ok (A.store (c := .d d) hi h1) h2 e fun σ' A' sb => h σ' A' ⟨by rw [sb.1]; simp, fun j hj => ?_⟩⟩
        rw [sb.2 j (fun z => hj (List.mem_cons_of_mem _ z)), List.getElem?_set_ne fun z => hj (by rw [z]; exact List.mem_cons_self)]
      · cases e
theorem Tg.ok {K : PySem.W.Frag} {F0 H0 F H : Hp} {pa : Option Addr} {t : Tg} {d : D} {v : V} {σ : L2.St} {S S' : Sq} {Q : L2.St → Hp → Prop} (A : Agr K F0 H0 pa σ F H S) (hd : Dn K F v d) (e : t.put S d = some S')
    (h : ∀ σ', Agr K F0 H0 pa σ' F H S' → SameBut t.is σ σ' → Q σ' H) : t.rd K v σ H Q := by
  cases t with
  | nm i =>
    have e : (if i < S.r.length then some { S with r := S.r.set i (.d d) } else none) = some S' := e
    by_cases hi : i < S.r.length
    · rw [if_pos hi] at e
      cases e
      refine h _ (A.store (c := .d d) hi hd) ⟨by simp, fun j hj => ?_⟩
      rw [List.getElem?_set_ne fun z => hj (by rw [z]; exact List.mem_cons_self)]
    · rw [if_neg hi] at e
      cases e
  | tp is =>
    cases d with
    | tuple ds =>
      cases hd with
      | tup h1 h2 =>
        have hl : is.length = ds.length := by
          have gen : ∀ {is : List Nat} {ds : List D} {S S' : Sq}, putAll S is ds = some S' → is.length = ds.length := by
            intro is
            induction is with
            | nil => intro ds S S' e; cases ds with
              | nil => rfl
              | cons _ _ => cases e
            | cons i is ih => intro ds S S' e; cases ds with
              | nil => cases e
              | cons d ds =>
                unfold putAll at e
                split at e
                · simp [ih e]
                · cases e
          exact gen (show putAll S is ds = some S' from e)
        exact ⟨_, _, rfl, SqT.of (A.sub _ _ h1), by rw [h2.length, hl], putAll_ok A h2 e h⟩
    | _ => cases e
/-- what stays now is the new ground -/
theorem Agr.reF {K : PySem.W.Frag} {F0 H0 F H : Hp} {pa : Option Addr} {σ : L2.St} {S : Sq} (A : Agr K F0 H0 pa σ F H S) : Agr K F H0 pa σ F H S := ⟨Ex.refl F, A.sub, A.hH, A.tabs, A.ft, A.n0, fun a o h => .inl h, A.len, A.slots, A.dist, A.ownN, A.pen⟩
theorem Agr.deF {K : PySem.W.Frag} {F0 H0 F H F' H' : Hp} {pa : Option Addr} {σ σ' : L2.St} {S S' : Sq} (A : Agr K F0 H0 pa σ F H S) (B : Agr K F H0 pa σ' F' H' S') : Agr K F0 H0 pa σ' F' H' S' :=
  ⟨A.fF.trans B.fF, B.sub, B.hH, B.tabs, B.ft, B.n0, fun a o h => (B.new a o h).elim (A.new a o) .inr, B.len, B.slots, B.dist, B.ownN, B.pen⟩
theorem FlP.deF {K : PySem.W.Frag} {W : WX} {F0 H0 F H : Hp} {pa : Option Addr} {σ : L2.St} {S : Sq} {Z : Ends} {z : Fl} (A : Agr K F0 H0 pa σ F H S) (h : FlP K W F0 H0 pa Z z) : FlP K W F H0 pa Z z := by
  cases z with
  | nx S' => exact fun σ' F' H' B => h σ' F' H' (A.deF B)
  | rt r S' => exact fun σ' v F' H' B q => h σ' v F' H' (A.deF B) q
  | bk S' => exact fun σ' F' H' B => h σ' F' H' (A.deF B)
  | ct S' => exact fun σ' F' H' B => h σ' F' H' (A.deF B)
  | ex c S' => exact fun σ' F' H' B => h σ' F' H' (A.deF B)
  | no => exact h
/-! ### for -/
def forF (t : Tg) (g : Sq → Fl) : List D → Sq → Fl
  | [], S => .nx S
  | d :: ds, S => match t.put S d with
    | some S1 => (match g S1 with
      | .nx S2 => forF t g ds S2
      | .ct S2 => forF t g ds S2
      | .bk S2 => .nx S2
      | z => z)
    | none => .no
def forS (t : Tg) (fi : Sq → Out (List D)) (g : Sq → Fl) : Sq → Fl := fun S => (fi S).fl fun ds S1 => forF t g ds S1
theorem ds_for {t : Tg} {it : Expr} {fi : Sq → Out (List D)} {body : List Stmt} {g : Sq → Fl} (C : Cq G k N sc X) (hi : DI X W tg it fi) (hg : PG X tg (t.rd X.K)) (hb : DSs X W body g)
    (hs : ∀ x, foldedSetIterable it X.env x = pure x := by intro _; rfl) : DS X W (.For tg it body [] pos) (forS t fi g) := by
  refine PS.weak (ps_for C.pass C.calm hi hg hb hs) fun Z σ H z => ?_
  obtain ⟨F0, H0, pa, F, S, A, z⟩ := z
  refine ⟨F0, H0, pa, F, S, A, (fl_out (σ := σ) z).imp (fun ds S1 z J F1 H1 x1 A1 y => ?_) fun _ _ z => z⟩
  refine ⟨fun i m σ H => m = ds.length - i ∧ i ≤ ds.length ∧ ∃ F S, Agr X.K F1 H0 pa σ F H S ∧ FlP X.K W F1 H0 pa Z (forF t g (ds.drop i) S), ⟨ds.length, by simp, Nat.zero_le _, F1, S1, A1.reF, FlP.deF A1 z⟩, ?_⟩
  rintro i m σ H ⟨rfl, hi, F, S, A, z⟩
  by_cases hlt : i < ds.length
  · refine .inr ⟨y.go i H (A.fF.trans A.sub) hlt, fun σ' H' => ∃ F S, Agr X.K F1 H0 pa σ' F H' S ∧ FlP X.K W F1 H0 pa Z (forF t g (ds.drop (i + 1)) S), fun σ' H' h => ⟨ds.length - (i + 1), by omega, rfl, hlt, h⟩, fun x H' hy => ?_⟩
    have hd : ds.drop i = ds[i] :: ds.drop (i + 1) := List.drop_eq_getElem_cons hlt
    rw [hd] at z
    unfold forF at z
    have gv := (y.yld i H x H' ds[i] (A.fF.trans A.sub) (List.getElem?_eq_getElem hlt) hy).up A.fF
    obtain ⟨F2, x2, A2, r2⟩ := A.gives gv
    split at z
    · rename_i S2 e2
      refine Tg.ok A2 r2 e2 fun σ2 A3 _ => ⟨F1, H0, pa, F2, S2, A3, ?_⟩
      cases o : g S2 with
      | nx S3 => rw [o] at z; exact fun σ' F' H' A' => ⟨F', S3, A', z⟩
      | ct S3 => rw [o] at z; exact fun σ' F' H' A' => ⟨F', S3, A', z⟩
      | bk S3 => rw [o] at z; exact z
      | rt r S3 => rw [o] at z; exact z
      | ex c S3 => rw [o] at z; exact z
      | no => rw [o] at z; exact z
    · exact z.elim
  · have e : i = ds.length := by omega
    subst e
    rw [List.drop_length] at z
    exact .inl ⟨y.stop H (A.fF.trans A.sub), z σ F H A⟩
/-! ### while -/
def whF (t : Sq → Out Bool) (g : Sq → Fl) : Nat → Sq → Fl
  | 0, _ => .no
  | n + 1, S => (t S).fl fun b S1 => if b = true then (match g S1 with
      | .nx S2 => whF t g n S2
      | .ct S2 => whF t g n S2
      | .bk S2 => .nx S2
      | z => z) else .nx S1
theorem ds_while (n : Nat) {tc : Sq → Out Bool} {body : List Stmt} {g : Sq → Fl} (C : Cq G k N sc X) (hc : DT X W c tc) (hb : DSs X W body g) : DS X W (.While c body [] pos) (whF tc g n) := by
  refine PS.weak (ps_while C.pass hc hb) fun Z σ H z => ?_
  obtain ⟨F0, H0, pa, F, S, A, z⟩ := z
  refine ⟨fun m σ H => ∃ F S, Agr X.K F0 H0 pa σ F H S ∧ FlP X.K W F0 H0 pa Z (whF tc g m S), ⟨n, F, S, A, z⟩, ?_⟩
  rintro m σ H ⟨F, S, A, z⟩
  cases m with
  | zero => exact z.elim
  | succ m =>
    unfold whF at z
    refine ⟨F0, H0, pa, F, S, A, (fl_out (σ := σ) z).imp (fun b S1 z F1 H1 x1 A1 => ?_) fun _ _ z => z⟩
    cases b with
    | false => exact z σ F1 H1 A1
    | true =>
      refine ⟨fun σ' H' => ∃ F S, Agr X.K F0 H0 pa σ' F H' S ∧ FlP X.K W F0 H0 pa Z (whF tc g m S), fun σ' H' h => ⟨m, Nat.lt_succ_self m, h⟩, F0, H0, pa, F1, S1, A1, ?_⟩
      simp only [if_true] at z
      cases o : g S1 with
      | nx S3 => rw [o] at z; exact fun σ' F' H' A' => ⟨F', S3, A', z⟩
      | ct S3 => rw [o] at z; exact fun σ' F' H' A' => ⟨F', S3, A', z⟩
      | bk S3 => rw [o] at z; exact z
      | rt r S3 => rw [o] at z; exact z
      | ex c S3 => rw [o] at z; exact z
      | no => rw [o] at z; exact z
/-! ### comprehensions -/
def relS (scope sc : Scope) : Scope := { scope with names := scope.names.map fun (n, k) => if (k == .free && sc.kind == .function && sc.names.lookup n == some .cell) then (n, .cell) else (n, k) }
theorem Cq.blk {scope : Scope} {s : Shared} {H : Hp} {cl : List (Str × Addr)} {A0 : Addr} {fp : List Addr} (C : Cq G k N sc X) : Cq G k N (relS scope sc) (X.blk s H scope (compEnvC scope cl A0 X.env) fp) := by
  obtain ⟨h1, h2, h3, h4, h5, h6, h7, h8, h9, h10, h11, h12⟩ := C
  subst h3
  exact ⟨h1, h2, rfl, h4, h5, h6, PassesOwn.never, h8, h9, h10, h11, h12⟩
def Out.quiet {α : Type} : Out α → Out α
  | .ex _ _ => .no
  | o => o
theorem OutP.quiet {α : Type} {o : Out α} {T : α → Sq → Prop} {E E' : Str → Sq → Prop} (h : OutP o.quiet T E) : OutP o T E' := by
  cases o with
  | ok a s => exact h
  | ex c s => exact False.elim h
  | no => exact h
def wipeR (r : List R) : List Nat → List R
  | [] => r
  | v :: vs => (wipeR r vs).set v .un
def plainAt (S : Sq) (vs : List Nat) : Bool := vs.all fun v => match S.r[v]? with
  | some .un => true
  | some (.d _) => true
  | _ => false
/-- the outer slots behind a comprehension: its own names as they were -/
def backR (r0 : List R) (r : List R) : List Nat → List R
  | [] => r
  | v :: vs => (backR r0 r vs).set v (match r0[v]? with
    | some c => c
    | none => .un)
def lcF (t : Tg) (tt : Sq → Out Bool) (te : Sq → Out PV) (vs : List Nat) : List D → Sq → List D → Out (List D)
  | [], S, acc => .ok acc S
  | d :: ds, S, acc => match t.put { S with r := wipeR S.r vs } d with
    | some S1 => (tt S1).quiet.bind fun b S2 => if b = true then (fzF te S2).quiet.bind fun p S3 => (match S3.keep p with
      | some (y, S4) => if acc.length < sizeLine then lcF t tt te vs ds S4 (acc ++ [y]) else .no
      | none => .no) else lcF t tt te vs ds S2 acc
    | none => .no
def lcS (t : Tg) (fi : Sq → Out (List D)) (tt : Sq → Out Bool) (te : Sq → Out PV) (vs : List Nat) : Sq → Out PV := fun S => (fi S).bind fun ds S1 => if plainAt S1 vs = true then (lcF t tt te vs ds { S1 with r := wipeR S1.r vs } []).bind fun out S2 => .ok (.o (.l out)) { S2 with r := backR S1.r S2.r vs } else .no
theorem wipeR_length (r : List R) : ∀ vs : List Nat, (wipeR r vs).length = r.length
  | [] => rfl
  | v :: vs => by rw [wipeR, List.length_set, wipeR_length r vs]
theorem backR_length (r0 r : List R) : ∀ vs : List Nat, (backR r0 r vs).length = r.length
  | [] => rfl
  | v :: vs => by rw [backR, List.length_set, backR_length r0 r vs]
theorem wipeR_get (r : List R) : ∀ (vs : List Nat) (j : Nat), (wipeR r vs)[j]? = if j ∈ vs then (if j < r.length then some .un else none) else r[j]?
  | [], j => by simp [wipeR]
  | v :: vs, j => by
    rw [wipeR]
    by_cases e : v = j
    · subst e
      rw [if_pos List.mem_cons_self]
      by_cases h : v < r.length
      · rw [List.getElem?_set_self (by rw [wipeR_length]; exact h), if_pos h]
      · rw [if_neg h, List.getElem?_eq_none (by rw [List.length_set, wipeR_length]; omega)]
    · rw [List.getElem?_set_ne e, wipeR_get r vs j]
      have : (j ∈ v :: vs) ↔ j ∈ vs := by simp [Ne.symm e]
      simp only [this]
theorem backR_get (r0 r : List R) (hl : r0.length = r.length) : ∀ (vs : List Nat) (j : Nat), (backR r0 r vs)[j]? = if j ∈ vs then r0[j]? else r[j]?
  | [], j => by simp [backR]
  | v :: vs, j => by
    rw [backR]
    by_cases e : v = j
    · subst e
      rw [if_pos List.mem_cons_self]
      by_cases h : v < r.length
      · rw [List.getElem?_set_self (by rw [backR_length]; exact h), List.getElem?_eq_getElem (by omega)]
      · rw [List.getElem?_eq_none (by rw [List.length_set, backR_length]; omega), List.getElem?_eq_none (by omega)]
    · rw [List.getElem?_set_ne e, backR_get r0 r hl vs j]
      have : (j ∈ v :: vs) ↔ j ∈ vs := by simp [Ne.symm e]
      simp only [this]
theorem wipe_get (σ : L2.St) : ∀ (vs : List Nat) (j : Nat), (wipe σ vs)[j]? = if j ∈ vs then (if j < σ.length then some none else none) else σ[j]?
  | [], j => by simp [wipe]
  | v :: vs, j => by
    rw [wipe]
    by_cases e : v = j
    · subst e
      rw [if_pos List.mem_cons_self]
      by_cases h : v < σ.length
      · rw [List.getElem?_set_self (by rw [wipe_length]; exact h), if_pos h]
      · rw [if_neg h, List.getElem?_eq_none (by rw [List.length_set, wipe_length]; omega)]
    · rw [List.getElem?_set_ne e, wipe_get σ vs j]
      have : (j ∈ v :: vs) ↔ j ∈ vs := by simp [Ne.symm e]
      simp only [this]
theorem wipe_same {σ σ' : L2.St} {is vs : List Nat} (h : SameBut is (wipe σ vs) σ') (hs : ∀ i ∈ is, i ∈ vs) : wipe σ' vs = wipe σ vs := by
  refine List.ext_getElem? fun j => ?_
  have hl : σ'.length = σ.length := by rw [h.1, wipe_length]
  rw [wipe_get, wipe_get, hl]
  by_cases e : j ∈ vs
  · rw [if_pos e, if_pos e]
  · rw [if_neg e, if_neg e, h.2 j (fun z => e (hs j z)), wipe_get, if_neg e]
theorem Own.wipe {σ : L2.St} {S : Sq} {vs : List Nat} {j : Nat} {a : Addr} (h : Own (wipe σ vs) { S with r := wipeR S.r vs } j a) : Own σ S j a ∧ j ∉ vs := by
  obtain ⟨h1, h2⟩ := h
  rw [wipe_get] at h1
  by_cases e : j ∈ vs
  · rw [if_pos e] at h1
    split at h1 <;> cases h1
  · rw [if_neg e] at h1
    refine ⟨⟨h1, ?_⟩, e⟩
    rcases h2 with ⟨xs, h2⟩ | ⟨kvs, h2⟩
    · have h2 : (wipeR S.r vs)[j]? = _ := h2
      rw [wipeR_get, if_neg e] at h2
      exact .inl ⟨xs, h2⟩
    · have h2 : (wipeR S.r vs)[j]? = _ := h2
      rw [wipeR_get, if_neg e] at h2
      exact .inr ⟨kvs, h2⟩
/-- some slots forgotten -/
theorem Agr.wiped {K : PySem.W.Frag} {F0 H0 F H : Hp} {pa : Option Addr} {σ : L2.St} {S : Sq} (A : Agr K F0 H0 pa σ F H S) (vs : List Nat) : Agr K F0 H0 pa (wipe σ vs) F H { S with r := wipeR S.r vs } := by
  refine ⟨A.fF, A.sub, A.hH, A.tabs, A.ft, A.n0, A.new, ?_, fun j c e => ?_, fun j l a p q => A.dist j l a p.wipe.1 q.wipe.1, fun j a p => A.ownN j a p.wipe.1, A.pen⟩
  · show (wipeR S.r vs).length = _
    rw [wipeR_length, wipe_length]
    exact A.len
  · have e : (wipeR S.r vs)[j]? = some c := e
    rw [wipeR_get] at e
    rw [wipe_get]
    by_cases z : j ∈ vs
    · rw [if_pos z] at e
      split at e
      · cases e; trivial
      · cases e
    · rw [if_neg z] at e
      rw [if_neg z]
      exact A.slots j c e
/-- one more object that is kept apart -/
theorem Agr.apart {K : PySem.W.Frag} {F0 H0 F H : Hp} {pa : Option Addr} {σ : L2.St} {S : Sq} {t : Addr} {vs ws : List V} (A : Agr K F0 (upd H0 t (.lst vs)) pa σ F H S) (ht : H t = some (.lst vs)) (hp : some t ≠ pa) (h0 : F0 t = none) (hn : H0 t = none) : Agr K F0 H0 pa σ F (upd H t (.lst ws)) S := by
  have hF : F t = none := by
    cases q : F t with
    | none => rfl
    | some u =>
      rcases A.new t u q with z | z
      · rw [h0] at z; cases z
      · rw [upd_same] at z; cases z
  have np : ∀ i a, Own σ S i a → a ≠ t := fun i a w z => by
    have y := (A.ownN i a w).1
    rw [z, upd_same] at y; cases y
  refine ⟨A.fF, fun a u e => ?_, fun a u e n => ?_, tabs_lst A.tabs ht, A.ft, fun a ps e => A.n0 a ps (by rw [upd_ne fun z => by rw [z, hn] at e; cases e]; exact e), fun a u e => ?_, A.len, fun j c e => ?_, A.dist, fun i a w => ⟨?_, (A.ownN i a w).2⟩, ?_⟩
  · rw [upd_ne fun z => by rw [z, hF] at e; cases e]; exact A.sub a u e
  · have ne : a ≠ t := fun z => by rw [z, hn] at e; cases e
    rw [upd_ne ne]
    exact A.hH a u (by rw [upd_ne ne]; exact e) n
  · rcases A.new a u e with z | z
    · exact .inl z
    · by_cases y : a = t
      · rw [y, upd_same] at z; cases z
      · rw [upd_ne y] at z; exact .inr z
  · have so := A.slots j c e
    cases c with
    | un => trivial
    | d x => exact so
    | l xs =>
      obtain ⟨b, us, p1, p2, p3, p4⟩ := so
      exact ⟨b, us, p1, by rw [upd_ne (np j b ⟨p1, .inl ⟨xs, e⟩⟩)]; exact p2, p3, p4⟩
    | m kvs =>
      obtain ⟨b, us, p1, p2, p3, p4⟩ := so
      exact ⟨b, us, p1, by rw [upd_ne (np j b ⟨p1, .inr ⟨kvs, e⟩⟩)]; exact p2, p3, p4⟩
    | e c => exact so
    | sc ns => exact so
    | es cs => exact so
    | pen => exact so
  · have y := (A.ownN i a w).1
    rw [upd_ne (np i a w)] at y
    exact y
  · exact A.pen.imp fun q c o o' e h1 h2 h3 => ⟨by rw [upd_ne fun z => hp (by rw [← z]; exact e)]; exact h1, h2, h3⟩
theorem Agr.more1 {K : PySem.W.Frag} {F0 H0 F H : Hp} {pa : Option Addr} {σ : L2.St} {S : Sq} {t : Addr} {o : HO} (A : Agr K F0 H0 pa σ F H S) (ht : H t = some o) (h0 : F t = none) (no : ∀ i, ¬ Own σ S i t) (hno : ∀ ps, o ≠ .tbl ps) : Agr K F (upd H0 t o) pa σ F H S := by
  refine ⟨Ex.refl F, A.sub, fun a u e n => ?_, A.tabs, A.ft, ft_upd A.n0 hno, fun a u e => .inl e, A.len, A.slots, A.dist, fun i a w => ⟨?_, (A.ownN i a w).2⟩, A.pen⟩
  · by_cases y : a = t
    · rw [y, upd_same] at e; cases e; rw [y]; exact ht
    · rw [upd_ne y] at e; exact A.hH a u e n
  · rw [upd_ne fun z => no i (by rw [← z]; exact w)]
    exact (A.ownN i a w).1
end
end Q3
/-! Q3g: comprehensions. -/
namespace Q3
open PySem PySem.Spec PyProof.Rows L2
variable [TabSet]
theorem Gv.ex {K : PySem.W.Frag} {F H H' : Hp} {p : PV} {v : V} (g : Gv K F H p v H') : Ex H H' := by
  cases g with
  | dn h => exact Ex.refl _
  | tup hp h => exact Ex.new hp
  | lst hp h => exact Ex.new hp
  | dct hp h => exact Ex.new hp
theorem upd_id {H : Hp} {a : Addr} {o : HO} (h : H a = some o) : upd H a o = H := by
  funext b
  by_cases e : b = a
  · rw [e, upd_same, h]
  · rw [upd_ne e]
abbrev WF0 : WX := fun _ _ _ _ => False
def yesF : Sq → Out Bool := fun S => .ok true S
abbrev DTs (X : Cx) (W : WX) (ifs : List Expr) (f : Sq → Out Bool) : Prop := PTs X ifs (rdT X.K W f)
section
variable {X : Cx} {W : WX} {a b c e tg it elt : Expr} {fa fb fc te : Sq → Out PV} {tt : Sq → Out Bool} {fi : Sq → Out (List D)} {pos : Pos} {N : List Str} {sc : Scope} {k : Nat} {G : Gb} {vs : List Nat} {t : Tg}
theorem dts_nil : DTs X W [] yesF := ⟨fun pins s σ H Q I ⟨F0, H0, pa, F, S, A, z⟩ => pts_nil.run pins s σ H Q I (z F H (Ex.refl F) A)⟩
theorem dts_one (h : DT X W c tt) : DTs X W [c] tt := pts_one h
def Sw (vs : List Nat) (S : Sq) : Sq := { S with r := wipeR S.r vs }
theorem rd_lc {K : PySem.W.Frag} {σ : L2.St} {H : Hp} {Q : VK} (hs : ∀ i ∈ t.is, i ∈ vs) (z : rd K W (lcS t fi tt te vs) σ H Q) : tLc (rdI K W fi) (t.rd K) (rdT K WF0 tt) (rd K WF0 (fzF te)) vs σ H Q := by
  obtain ⟨F0, H0, pa, Fa, S0, A0, z⟩ := z
  unfold lcS at z
  rw [OutP.bind] at z
  refine ⟨F0, H0, pa, Fa, S0, A0, z.imp (fun ds S1 z J F1 H1 x1 A1 y => ?_) fun _ _ z => z⟩
  intro L hL
  by_cases hpl : plainAt S1 vs = true
  rotate_left
  · rw [if_neg hpl] at z; exact z.elim
  rw [if_pos hpl] at z
  rw [OutP.bind] at z
  have hB : H1 L = none := hL
  have npa : some L ≠ pa := A1.nopen hL
  have B1 : Agr K F1 (hide (wipe σ vs) (Sw vs S1) pa H1) pa (wipe σ vs) F1 H1 (Sw vs S1) := (A1.wiped vs).rebase
  have hHL : hide (wipe σ vs) (Sw vs S1) pa H1 L = none := by
    cases q : hide (wipe σ vs) (Sw vs S1) pa H1 L with
    | none => rfl
    | some o => rw [(hide_some q).1] at hL; cases hL
  have hF1 : F1 L = none := A1.sub.none hL
  generalize hH0 : hide (wipe σ vs) (Sw vs S1) pa H1 = H0' at B1 hHL
  have unb : ∀ {F H S}, Agr K F1 H0' pa (wipe σ vs) F H S → Agr K F0 H0 pa (wipe σ vs) F H S := fun B => (A1.wiped vs).unbase (by rw [← hH0] at B; exact B)
  let Inv := fun (i : Nat) (H : Hp) => ∃ F S acc vsa, Agr K F1 H0' pa (wipe σ vs) F H (Sw vs S) ∧ H L = some (.lst vsa) ∧ F L = none ∧ (∀ j, ¬ Own (wipe σ vs) (Sw vs S) j L) ∧ DnAll K F vsa acc ∧
    OutP (lcF t tt te vs (ds.drop i) S acc) (fun out S2 => TP K F0 H0 pa σ Fa Q (.o (.l out)) { S2 with r := backR S1.r S2.r vs }) (EW K W F0 H0 pa σ)
  have wid : ∀ (r : List R), wipeR (wipeR r vs) vs = wipeR r vs := fun r => List.ext_getElem? fun j => by
    rw [wipeR_get, wipeR_get]
    by_cases e : j ∈ vs
    · rw [if_pos e, if_pos e, wipeR_length]
    · rw [if_neg e, if_neg e]
  have start : Inv 0 (upd H1 L (.lst [])) := by
    refine ⟨F1, Sw vs S1, [], [], ?_, upd_same, hF1, fun j w => ?_, .nil, ?_⟩
    · have e : Sw vs (Sw vs S1) = Sw vs S1 := by
        unfold Sw
        show (⟨wipeR (wipeR S1.r vs) vs, S1.p⟩ : Sq) = _
        rw [wid]
      rw [e]
      exact B1.more (Ex.new hL)
    · have e : Sw vs (Sw vs S1) = Sw vs S1 := by
        unfold Sw
        show (⟨wipeR (wipeR S1.r vs) vs, S1.p⟩ : Sq) = _
        rw [wid]
      rw [e] at w
      exact B1.own_there w hL
    · rw [List.drop_zero]; exact z
  refine ⟨fun i m H => m = ds.length - i ∧ i ≤ ds.length ∧ Inv i H, ⟨ds.length, by simp, Nat.zero_le _, start⟩, ?_⟩
  rintro i m H ⟨rfl, hi, F, S, acc, vsa, A, hD, hFL, no, hacc, z⟩
  by_cases hlt : i < ds.length
  · refine .inr ⟨y.go i H (A.fF.trans A.sub) hlt, Inv (i + 1), fun H' h => ⟨ds.length - (i + 1), by omega, rfl, hlt, h⟩, fun x H' hy => ?_⟩
    have hd : ds.drop i = ds[i] :: ds.drop (i + 1) := List.drop_eq_getElem_cons hlt
    rw [hd] at z
    unfold lcF at z
    have gv := (y.yld i H x H' ds[i] (A.fF.trans A.sub) (List.getElem?_eq_getElem hlt) hy).up A.fF
    have A' := A.more1 hD hFL no fun _ z => nomatch z
    obtain ⟨F2, x2, A2, r2⟩ := A'.gives gv
    cases e2 : t.put { S with r := wipeR S.r vs } ds[i] with
    | none => rw [e2] at z; exact z.elim
    | some S1' =>
      rw [e2] at z
      dsimp only at z
      rw [OutP.bind] at z
      refine Tg.ok A2 r2 e2 fun σ2 A3 sb => ⟨wipe_same sb hs, ?_⟩
      have hw : wipe σ2 vs = wipe σ vs := wipe_same sb hs
      refine ⟨F, upd H0' L (.lst vsa), pa, F2, S1', A3, OutP.imp (OutP.quiet z) (fun bb S2 z F3 H3 x3 A4 => ?_) fun _ _ z => z⟩
      have back : ∀ {F5 H5 S5 us ys}, Agr K F (upd H0' L (.lst vsa)) pa σ2 F5 H5 S5 → DnAll K F5 us ys → Agr K F1 H0' pa (wipe σ vs) F5 (upd H5 L (.lst us)) (Sw vs S5) ∧ F5 L = none ∧ ∀ j, ¬ Own (wipe σ vs) (Sw vs S5) j L := fun {F5 H5 S5 us ys} B hu => by
        have C1 := A.deF (B.apart (ws := us) (B.hH L _ upd_same npa) npa hFL hHL)
        have C2 := C1.wiped vs
        rw [hw] at C2
        refine ⟨C2, ?_, fun j w => ?_⟩
        · cases q : F5 L with
          | none => rfl
          | some u =>
            rcases B.new L u q with z | z
            · rw [hFL] at z; cases z
            · rw [upd_same] at z; cases z
        · rw [← hw] at w
          have q := (B.ownN j L w.wipe.1).1
          rw [upd_same] at q; cases q
      cases bb with
      | false =>
        simp only [Bool.false_eq_true, if_false] at z ⊢
        obtain ⟨b1, b2, b3⟩ := back A4 (hacc.mono (x2.trans x3))
        have hD3 : H3 L = some (.lst vsa) := A4.hH L _ upd_same npa
        rw [upd_id hD3] at b1
        exact ⟨F3, S2, acc, vsa, b1, hD3, b2, b3, hacc.mono (x2.trans x3), z⟩
      | true =>
        simp only [if_true] at z ⊢
        rw [OutP.bind] at z
        refine ⟨F, upd H0' L (.lst vsa), pa, F3, S2, A4, OutP.imp (OutP.quiet z) (fun p S3 z v F4 H4 x4 A5 r5 => ?_) fun _ _ z => z⟩
        split at z
        · rename_i y' S4 e4
          split at z
          · rename_i hz
            obtain ⟨F5, x5, A6, d6⟩ := A5.keep r5 e4
            have hD4 : H4 L = some (.lst vsa) := A6.hH L _ upd_same npa
            have hu : DnAll K F5 (vsa ++ [v]) (acc ++ [y']) := (hacc.mono (x2.trans (x3.trans (x4.trans x5)))).append (.cons d6 .nil)
            obtain ⟨b1, b2, b3⟩ := back A6 hu
            exact ⟨vsa, hD4, by rw [hacc.length]; exact hz, F5, S4, acc ++ [y'], vsa ++ [v], b1, upd_same, b2, b3, hu, z⟩
          · exact z.elim
        · exact z.elim
  · have e : i = ds.length := by omega
    subst e
    rw [List.drop_length] at z
    refine .inl ⟨y.stop H (A.fF.trans A.sub), ?_⟩
    have z : TP K F0 H0 pa σ Fa Q (.o (.l acc)) { S with r := backR S1.r S.r vs } := z
    have U := unb A
    have lenS : S1.r.length = S.r.length := by
      have h1 := A1.len
      have h2 := A.len
      have h2 : (wipeR S.r vs).length = (wipe σ vs).length := h2
      rw [wipeR_length, wipe_length] at h2
      omega
    have slotEq : ∀ (j : Nat), j ∉ vs → (backR S1.r S.r vs)[j]? = (wipeR S.r vs)[j]? := fun j hj => by rw [backR_get _ _ lenS, wipeR_get, if_neg hj, if_neg hj]
    have plain : ∀ (j : Nat) (c : R), j ∈ vs → (backR S1.r S.r vs)[j]? = some c → S1.r[j]? = some c ∧ (c = .un ∨ ∃ x, c = .d x) := fun j c hj e => by
      rw [backR_get _ _ lenS, if_pos hj] at e
      refine ⟨e, ?_⟩
      have q := List.all_eq_true.mp hpl j hj
      rw [e] at q
      cases c with
      | un => exact .inl rfl
      | d x => exact .inr ⟨x, rfl⟩
      | l xs => cases q
      | m kvs => cases q
      | e c => cases q
      | sc ns => cases q
      | es cs => cases q
      | pen => cases q
    have own : ∀ j a, Own σ { S with r := backR S1.r S.r vs } j a → Own (wipe σ vs) (Sw vs S) j a := fun j a w => by
      obtain ⟨w1, w2⟩ := w
      by_cases hj : j ∈ vs
      · exfalso
        rcases w2 with ⟨xs, w2⟩ | ⟨kvs, w2⟩
        · rcases (plain j _ hj w2).2 with q | ⟨_, q⟩ <;> cases q
        · rcases (plain j _ hj w2).2 with q | ⟨_, q⟩ <;> cases q
      · refine ⟨by rw [wipe_get, if_neg hj]; exact w1, ?_⟩
        rcases w2 with ⟨xs, w2⟩ | ⟨kvs, w2⟩
        · exact .inl ⟨xs, by rw [← w2]; exact (slotEq j hj).symm⟩
        · exact .inr ⟨kvs, by rw [← w2]; exact (slotEq j hj).symm⟩
    have Afin : Agr K F0 H0 pa σ F H { S with r := backR S1.r S.r vs } := by
      refine ⟨U.fF, U.sub, U.hH, U.tabs, U.ft, U.n0, U.new, ?_, fun j c e => ?_, fun j l a p q => U.dist j l a (own j a p) (own l a q), fun j a p => U.ownN j a (own j a p), U.pen⟩
      · show (backR S1.r S.r vs).length = _
        rw [backR_length, ← lenS]
        exact A1.len
      · by_cases hj : j ∈ vs
        · obtain ⟨e1, e2⟩ := plain j c hj e
          have so := A1.slots j c e1
          rcases e2 with rfl | ⟨x, rfl⟩
          · trivial
          · obtain ⟨w, p1, p2⟩ := so
            exact ⟨w, p1, p2.mono A.fF⟩
        · have e' : (wipeR S.r vs)[j]? = some c := by rw [← slotEq j hj]; exact e
          have so := U.slots j c e'
          rw [wipe_get, if_neg hj] at so
          exact so
    refine z _ F H (x1.trans A.fF) Afin ⟨L, vsa, rfl, hD, hFL, hacc, A1.fresh0 hL npa, fun j w => no j (own j L w), npa⟩
theorem de_lc {ifs : List Expr} {scope : Scope} {own : List (Str × Nat)} (C : Cq G k N sc X) (hi : DI X W tg it fi) (ok : blkC N sc scope own = true)
    (hg : ∀ X' : Cx, Cq G k N (relS scope sc) X' → (∀ x, X'.fn x = (scope.names.lookup x == some .cell)) → PG X' tg (t.rd X'.K)) (ht : ∀ X' : Cx, Cq G k N (relS scope sc) X' → Takes X' WF0 → DTs X' WF0 ifs tt)
    (he : ∀ X' : Cx, Cq G k N (relS scope sc) X' → Takes X' WF0 → DE X' WF0 elt te) (hsub : ∀ i ∈ t.is, i ∈ own.map (·.2) := by decide) (hs : ∀ x, foldedSetIterable it X.env x = pure x := by intro _; rfl) :
    DE X W (.ListComp elt [⟨tg, it, ifs, 0⟩] scope pos) (lcS t fi tt te (own.map (·.2))) := by
  have ok' : BlkOk X.N X.env.scope scope own := by rw [C.names, C.scope]; exact blkOk_by ok
  exact PE.weak (pe_lc C.calm (by rw [C.names]; exact C.nd) hi ok' (fun s H A0 cl fp => hg _ C.blk fun _ => rfl) (fun s H A0 cl fp => ht _ C.blk takes0) (fun s H A0 cl fp => de_fz (he _ C.blk takes0)) hs) fun σ H Q z => rd_lc hsub z
/-- name = [..] on one line -/
theorem ds_setLc (i : Nat) {ifs : List Expr} {scope : Scope} {own : List (Str × Nat)} {x : Str} {p : Pos} (C : Cq G k N sc X) (hi : DI X W tg it fi) (ok : blkC N sc scope own = true)
    (hg : ∀ X' : Cx, Cq G k N (relS scope sc) X' → (∀ x, X'.fn x = (scope.names.lookup x == some .cell)) → PG X' tg (t.rd X'.K)) (ht : ∀ X' : Cx, Cq G k N (relS scope sc) X' → Takes X' WF0 → DTs X' WF0 ifs tt)
    (he : ∀ X' : Cx, Cq G k N (relS scope sc) X' → Takes X' WF0 → DE X' WF0 elt te) (hsub : ∀ i ∈ t.is, i ∈ own.map (·.2) := by decide) (hs : ∀ x, foldedSetIterable it X.env x = pure x := by intro _; rfl) {pos' : Pos}
    (hN : N[i]? = some x := by rfl) (hx : sc.names.lookup x = some .local := by rfl) (hk : sc.kind = .function := by rfl) (hl : (p.line == pos.line) = true := by rfl) (ha : (scope.names.any fun (n, k) => n == x && (k == .local || k == .cell)) = false := by decide +kernel) :
    DS X W (.Assign [.Name x p] (.ListComp elt [⟨tg, it, ifs, 0⟩] scope pos) pos') (setF i (lcS t fi tt te (own.map (·.2)))) := by
  have ok' : BlkOk X.N X.env.scope scope own := by rw [C.names, C.scope]; exact blkOk_by ok
  refine PS.weak (ps_setLc (wi := rdI X.K W fi) (g := t.rd X.K) (tt := rdT X.K WF0 tt) (te := rd X.K WF0 (fzF te)) C.calm (by rw [C.names]; exact C.nd) (by rw [C.names]; exact hN) (by rw [C.scope]; exact hx) (sw_true (by rw [C.scope]; exact hk) (by rw [C.scope]; exact hx) hl ha) hi ok' (fun s H A0 cl fp => hg _ C.blk fun _ => rfl) (fun s H A0 cl fp => ht _ C.blk takes0) (fun s H A0 cl fp => de_fz (he _ C.blk takes0)) hs) fun Z σ H z => ?_
  have q := rs_set z
  exact rd_lc (W := W) hsub q
end
end Q3
/-! Q3h: defs and their calls. -/
namespace Q3
open PySem PySem.Spec PyProof.Rows L2
variable [TabSet]
/-- what a def computes: of its arguments and the pen, a value and the pen -/
abbrev Fd := List R → Option Pen → Out R
def ArgR (K : PySem.W.Frag) (pa : Option Addr) (F : Hp) (v : V) : R → Prop
  | .d x => Dn K F v x
  | .pen => ∃ q, pa = some q ∧ v = .ref q
  | .sc ns => ∃ a, v = .ref a ∧ SqL K F a (ns.map .int)
  | .e c => ∃ a, v = .ref a ∧ F a = some (exV (.ref (He.ga K c)) a)
  | _ => False
def spF (K : PySem.W.Frag) (f : Fd) : Sp := fun vs H Q E => ∃ F0 H0 pa rs p, Agr K F0 H0 pa [] F0 H ⟨[], p⟩ ∧ Paired (ArgR K pa F0) vs rs ∧
  OutP (f rs p) (fun r S' => ∀ v F' H', Agr K F0 H0 pa [] F' H' ⟨[], S'.p⟩ → RelR K H0 pa F' H' S'.p v r → Q v H') (fun c S' => ∀ F' H', Agr K F0 H0 pa [] F' H' ⟨[], S'.p⟩ → E (.ref (He.ga K c)) none H')
/-- a def that keeps its promise where no repr is around -/
structure FnG (G : Gb) (k : Nat) (f : Addr) (fd : FuncData) (ps : List Str) (sp : Sp) : Prop where
  len : ∀ vs H Q E, sp vs H Q E → vs.length = ps.length
  run : ∀ (A : Around) (outer : List Env) (s : Shared) (H : Hp) (args : Args) (us : List Value) (vs : List V) (Q : VK) (E : XK), Room k A → (G.gr → A.guards = some []) → Env0 G.P G.w G.K G.mg G.base A outer s H → BindsTo s fd args (ps.zip us) → Vals vs us → sp vs H Q E →
    codeAny (model G.P G.w) A (.call (.ref f) args) (CR (L2.CX G.P G.w) outer G.P G.w H s Q E) s
theorem FnG.mono {G : Gb} {j k : Nat} {f : Addr} {fd : FuncData} {ps : List Str} {sp : Sp} (F : FnG G j f fd ps sp) (h : j ≤ k) : FnG G k f fd ps sp := ⟨F.len, fun A outer s H args us vs Q E hr => F.run A outer s H args us vs Q E (hr.mono h)⟩
theorem FnG.imp {G : Gb} {k : Nat} {f : Addr} {fd : FuncData} {ps : List Str} {sp sp' : Sp} (F : FnG G k f fd ps sp) (h : ∀ vs H Q E, sp' vs H Q E → sp vs H Q E) : FnG G k f fd ps sp' :=
  ⟨fun vs H Q E q => F.len vs H Q E (h _ _ _ _ q), fun A outer s H args us vs Q E hr hg he hb hv hs => F.run A outer s H args us vs Q E hr hg he hb hv (h _ _ _ _ hs)⟩
theorem fn_ofG {G : Gb} {k : Nat} {f : Addr} {name qual : Str} {params : Arguments} {body : List Stmt} {scope : Scope} {dV kV doc pm cdv ct oc : Value} {an od : Option Addr}
    {osl : Array (Option Value)} {N ps : List Str} {sp : Sp} (lk : G.K.lookup f = some ⟨oc, od, .func (PySem.W.fnOf name qual params body scope dV kV doc pm an cdv ct), osl⟩) (hcd : PySem.W.codeIn G.K cdv qual = true) (S : FnScope N ps scope)
    (len : ∀ vs H Q E, sp vs H Q E → vs.length = ps.length)
    (hbody : ∀ (A : Around) (outer : List Env) (s : Shared) (H : Hp) (vs : List V) (Q : VK) (E : XK), Room k (A.deeper (envOfC qual scope s.heap.objs.size f cdv)) → (G.gr → A.guards = some []) → sp vs H Q E →
      ∃ t, PSs (cxOf (L2.CX G.P G.w) G.P G.w G.K G.mg G.base N qual scope f cdv A outer s H E) body t ∧ t { nx := fun _ H' => Q .non H', rt := Q } (L2.start N vs) H) :
    FnG G (k + 1) f (PySem.W.fnOf name qual params body scope dV kV doc pm an cdv ct) ps sp := by
  refine ⟨len, fun A outer s H args us vs Q E hr hgd e0 hb r hsp => ?_⟩
  have hl := len _ _ _ _ hsp
  have KX : G.K.In s.heap := e0.mod.kin.keeps fun b o e => (e0.bs b o e).1
  have lim : s.heap.NoLimit := e0.mod.nolimit.keeps fun b o e => (e0.bs b o e).1
  have hkind : ∀ y ∈ ps.zip us, scope.names.lookup y.1 = some .local ∨ (scope.names.lookup y.1 = some .cell ∧ ((cellsFrom (s.heap.objs.size + 1) scope.names []).lookup y.1).isSome = true) := fun ⟨n, v⟩ hy => by
    rcases S.par n (List.of_mem_zip hy).1 with q | q
    · exact .inl q
    · exact .inr ⟨q, PySem.W.cellsFrom_some _ _ _ (.inl q)⟩
  refine codeAny_call_function hr.depth (KX _ _ lk) rfl S.co S.gen rfl (PySem.W.codeRec_of KX hcd) (hb _ _ _ _ ?_)
  refine wpAny_newFunctionEnv_cells S.kind hkind fun env he s1 x => ?_
  subst he
  refine ⟨lim.keeps x.toInCall.keep, codeAny_func ?_⟩
  obtain ⟨t, ht, hq⟩ := hbody A outer s H vs Q E (hr.deeper _) hgd hsp
  have I : Inv (cxOf (L2.CX G.P G.w) G.P G.w G.K G.mg G.base N qual scope f cdv A outer s H E) [] (L2.start N vs) H s1 := inv_start S hr.hd e0 hl r x
  refine wpAny_mono (ht.run [] s1 (L2.start N vs) H _ I hq) (fun fl s' hs => ?_) fun e s' hs => hs
  have fin : ∀ {σ' : L2.St} {H' : Hp} {v : V} {u : Value}, Inv (cxOf (L2.CX G.P G.w) G.P G.w G.K G.mg G.base N qual scope f cdv A outer s H E) [] σ' H' s' → RelV v u → Q v H' → CE outer G.P G.w H s Q u s' :=
    fun {σ' H' v u} J rv q => ⟨v, H', J.os, J.bare, J.base, J.hok, rv, q⟩
  cases fl with
  | ret u =>
    obtain ⟨v, σ', H', J, rv, q⟩ := hs
    exact fin J rv q
  | next =>
    obtain ⟨σ', H', J, q⟩ := hs
    exact fin (v := V.non) (u := Value.none) J rfl q
  | brk =>
    obtain ⟨_, _, _, q⟩ := hs
    exact False.elim q
  | cont =>
    obtain ⟨_, _, _, q⟩ := hs
    exact False.elim q
/-- the body's function as the def's -/
def runB (n : Nat) (g : Sq → Fl) : Fd := fun rs p => match g ⟨rs ++ List.replicate (n - rs.length) .un, p⟩ with
  | .nx S => .ok (.d .none) S
  | .rt r S => .ok r S
  | .ex c S => .ex c S
  | _ => .no
theorem Own.none {S : Sq} {i : Nat} {a : Addr} (h : Own [] S i a) : False := by
  have := h.1
  simp at this
theorem Agr.drop {K : PySem.W.Frag} {F0 H0 F H : Hp} {pa : Option Addr} {σ : L2.St} {S : Sq} (A : Agr K F0 H0 pa σ F H S) : Agr K F0 H0 pa [] F H ⟨[], S.p⟩ :=
  ⟨A.fF, A.sub, A.hH, A.tabs, A.ft, A.n0, A.new, rfl, fun i c e => by simp at e, fun i j a h => h.none.elim, fun i a h => h.none.elim, A.pen⟩
theorem paired_get {α β : Type} {P : α → β → Prop} : ∀ {xs : List α} {ys : List β} {i : Nat} {y : β}, Paired P xs ys → ys[i]? = some y → ∃ x, xs[i]? = some x ∧ P x y
  | _, _, _, _, .nil, e => by simp at e
  | _, _, 0, _, .cons h _, e => by simp at e; subst e; exact ⟨_, rfl, h⟩
  | _, _, i + 1, y, .cons _ t, e => by
    obtain ⟨x, e1, e2⟩ := paired_get (i := i) t (by simpa using e)
    exact ⟨x, by simpa using e1, e2⟩
theorem paired_length {α β : Type} {P : α → β → Prop} : ∀ {xs : List α} {ys : List β}, Paired P xs ys → xs.length = ys.length
  | _, _, .nil => rfl
  | _, _, .cons _ t => by simp [paired_length t]
/-- THE RULE: a def whose body's function is g -/
theorem fnG {G : Gb} {k n : Nat} {x qual : Str} {params : Arguments} {body : List Stmt} {scope : Scope} {kws : List (Str × V)} {f : Addr} {fd : FuncData} {N ps : List Str} {dvs : List V} {g : Sq → Fl} (F : L2.FunD G.K x qual params body scope dvs kws f fd) (S : FnScope N ps scope) (hn : N.length = n)
    (hb : ∀ X W, Cq G k N scope X → (∀ x, X.fn x = true) → Takes X W → X.env.qual = qual ++ ".<locals>." → X.env.code = fd.code → DSs X W body g) : FnG G (k + 1) f fd ps (fun vs H Q E => vs.length = ps.length ∧ spF G.K (runB n g) vs H Q E) := by
  obtain ⟨oc, od, dV, kV, doc, pm, an, cdv, ct, osl, rfl, lk, hcd, _, _⟩ := F.ex
  refine fn_ofG lk hcd S (fun _ _ _ _ h => h.1) fun A outer s H vs Q E hr hgd hsp => ?_
  obtain ⟨hl, F0, H0, pa, rs, p, A0, pr, z⟩ := hsp
  have C : Cq G k N scope (cxOf (L2.CX G.P G.w) G.P G.w G.K G.mg G.base N qual scope f cdv A outer s H E) := ⟨rfl, S.nd, rfl, hr, hgd, rfl, passes_of rfl, rfl, rfl, rfl, rfl, rfl⟩
  refine ⟨_, hb _ (fun cls d _ H => E cls d H) C (fun _ => rfl) (takes_of rfl rfl rfl rfl) rfl rfl, F0, H0, pa, F0, ⟨rs ++ List.replicate (n - rs.length) .un, p⟩, ?_, ?_⟩
  · have hlr := paired_length pr
    have hps : ps.length ≤ N.length := by
      have := congrArg List.length S.pre
      rw [List.length_take] at this
      omega
    refine ⟨Ex.refl _, A0.sub, A0.hH, A0.tabs, A0.ft, A0.n0, fun a o h => .inl h, ?_, fun i c e => ?_, fun i j a h => ?_, fun i a h => ?_, A0.pen⟩
    · show (rs ++ List.replicate (n - rs.length) R.un).length = (L2.start N vs).length
      unfold L2.start
      simp only [List.length_append, List.length_replicate, List.length_map]
      omega
    · have e : (rs ++ List.replicate (n - rs.length) R.un)[i]? = some c := e
      by_cases hi : i < rs.length
      · rw [List.getElem?_append_left hi] at e
        obtain ⟨v, e1, e2⟩ := paired_get pr e
        have es : (L2.start N vs)[i]? = some (some v) := by
          unfold L2.start
          rw [List.getElem?_append_left (by rw [List.length_map, hlr]; exact hi), List.getElem?_map, e1]
          rfl
        rw [es]
        cases c with
        | d x => exact ⟨v, rfl, e2⟩
        | pen => obtain ⟨q, q1, rfl⟩ := e2; exact ⟨q, q1, rfl⟩
        | un => trivial
        | l xs => exact False.elim e2
        | m kvs => exact False.elim e2
        | e c => obtain ⟨q, rfl, q2⟩ := e2; exact ⟨q, rfl, q2⟩
        | sc ns => obtain ⟨q, rfl, q2⟩ := e2; exact ⟨q, rfl, q2⟩
        | es cs => exact False.elim e2
      · rw [List.getElem?_append_right (by omega), List.getElem?_replicate] at e
        split at e
        · cases e; trivial
        · cases e
    · exfalso
      rcases h.2 with ⟨xs, e⟩ | ⟨kvs, e⟩
      · have e : (rs ++ List.replicate (n - rs.length) R.un)[i]? = some (.l xs) := e
        by_cases hi : i < rs.length
        · rw [List.getElem?_append_left hi] at e
          obtain ⟨v, e1, e2⟩ := paired_get pr e
          exact e2
        · rw [List.getElem?_append_right (by omega), List.getElem?_replicate] at e
          split at e <;> cases e
      · have e : (rs ++ List.replicate (n - rs.length) R.un)[i]? = some (.m kvs) := e
        by_cases hi : i < rs.length
        · rw [List.getElem?_append_left hi] at e
          obtain ⟨v, e1, e2⟩ := paired_get pr e
          exact e2
        · rw [List.getElem?_append_right (by omega), List.getElem?_replicate] at e
          split at e <;> cases e
    · exfalso
      rcases h.2 with ⟨xs, e⟩ | ⟨kvs, e⟩
      · have e : (rs ++ List.replicate (n - rs.length) R.un)[i]? = some (.l xs) := e
        by_cases hi : i < rs.length
        · rw [List.getElem?_append_left hi] at e
          obtain ⟨v, e1, e2⟩ := paired_get pr e
          exact e2
        · rw [List.getElem?_append_right (by omega), List.getElem?_replicate] at e
          split at e <;> cases e
      · have e : (rs ++ List.replicate (n - rs.length) R.un)[i]? = some (.m kvs) := e
        by_cases hi : i < rs.length
        · rw [List.getElem?_append_left hi] at e
          obtain ⟨v, e1, e2⟩ := paired_get pr e
          exact e2
        · rw [List.getElem?_append_right (by omega), List.getElem?_replicate] at e
          split at e <;> cases e
  · unfold runB at z
    cases o : g ⟨rs ++ List.replicate (n - rs.length) .un, p⟩ with
    | nx S' => rw [o] at z; exact fun σ' F' H' A' => z .non F' H' A'.drop .non
    | rt r S' => rw [o] at z; exact fun σ' v F' H' A' q => z v F' H' A'.drop q
    | bk S' => rw [o] at z; exact z.elim
    | ct S' => rw [o] at z; exact z.elim
    | ex c S' => rw [o] at z; exact fun σ' F' H' A' => z F' H' A'.drop
    | no => rw [o] at z; exact z.elim
/-! ### calls -/
def Sq.argK (S : Sq) : PV → Option (R × Sq)
  | .v x => some (.d x, S)
  | .s i => match S.r[i]? with
    | some (.d x) => some (.d x, S)
    | some (.l xs) => some (.d (.list xs), { S with r := S.r.set i (.d (.list xs)) })
    | some (.m kvs) => some (.d (.dict kvs), { S with r := S.r.set i (.d (.dict kvs)) })
    | some .pen => some (.pen, S)
    | some (.sc ns) => some (.sc ns, S)
    | some (.e c) => some (.e c, S)
    | _ => none
  | .o _ => none
def argsK : Sq → List PV → Option (List R × Sq)
  | S, [] => some ([], S)
  | S, p :: ps => match S.argK p with
    | some (r, S1) => (match argsK S1 ps with
      | some (rs, S2) => some (r :: rs, S2)
      | none => none)
    | none => none
theorem ArgR.mono {K : PySem.W.Frag} {pa : Option Addr} {F F' : Hp} {v : V} {r : R} (h : ArgR K pa F v r) (x : Ex F F') : ArgR K pa F' v r := by
  cases r with
  | d y => exact Dn.mono x h
  | pen => exact h
  | un => exact False.elim h
  | l xs => exact False.elim h
  | m kvs => exact False.elim h
  | e c => obtain ⟨q, q1, q2⟩ := h; exact ⟨q, q1, x _ _ q2⟩
  | sc ns => obtain ⟨q, q1, q2⟩ := h; exact ⟨q, q1, ex_l x q2⟩
  | es cs => exact False.elim h
theorem Agr.argK {K : PySem.W.Frag} {F0 H0 F H : Hp} {pa : Option Addr} {σ : L2.St} {S S' : Sq} {v : V} {pv : PV} {c : R} (A : Agr K F0 H0 pa σ F H S) (r : RelP K H0 pa σ F H S v pv) (e : S.argK pv = some (c, S')) :
    ∃ F', Ex F F' ∧ Agr K F0 H0 pa σ F' H S' ∧ ArgR K pa F' v c := by
  cases pv with
  | v x => cases e; exact ⟨F, Ex.refl F, A, r⟩
  | o q => cases e
  | s i =>
    unfold Sq.argK at e
    dsimp only at e
    cases q : S.r[i]? with
    | none => rw [q] at e; cases e
    | some y =>
      rw [q] at e
      cases y with
      | d x =>
        cases e
        obtain ⟨w, e1, e2⟩ := A.slots i _ q
        rw [show σ[i]? = some (some v) from r] at e1; cases e1
        exact ⟨F, Ex.refl F, A, e2⟩
      | l xs =>
        cases e
        obtain ⟨F', a, vs, x, e1, e2, e3, A'⟩ := A.frozen q
        rw [show σ[i]? = some (some v) from r] at e1; cases e1
        exact ⟨F', x, A', .lst e2 e3⟩
      | pen =>
        cases e
        obtain ⟨p, e1, e2⟩ := A.slots i _ q
        rw [show σ[i]? = some (some v) from r] at e2; cases e2
        exact ⟨F, Ex.refl F, A, p, e1, rfl⟩
      | un => cases e
      | m kvs =>
        cases e
        obtain ⟨F', a, ho, _, x, e1, e2, _, e3, A'⟩ := A.frozenM q
        rw [show σ[i]? = some (some v) from r] at e1; cases e1
        exact ⟨F', x, A', e3.dn (Ex.refl _) e2⟩
      | e c =>
        cases e
        obtain ⟨w, e1, e2⟩ := A.slots i _ q
        rw [show σ[i]? = some (some v) from r] at e1; cases e1
        exact ⟨F, Ex.refl F, A, w, rfl, e2⟩
      | sc ns =>
        cases e
        obtain ⟨w, e1, e2⟩ := A.slots i _ q
        rw [show σ[i]? = some (some v) from r] at e1; cases e1
        exact ⟨F, Ex.refl F, A, w, rfl, e2⟩
      | es cs => cases e
theorem argK_frz {S S' : Sq} {p : PV} {c : R} (e : S.argK p = some (c, S')) : Frz p := fun q z => by
  rw [z] at e
  cases e
theorem argsK_frz : ∀ {ps : List PV} {S S' : Sq} {rs : List R}, argsK S ps = some (rs, S') → ∀ p ∈ ps, Frz p
  | [], _, _, _, _, p, hp => by cases hp
  | p :: ps, S, S', rs, h, q, hq => by
    unfold argsK at h
    cases y : S.argK p with
    | none => rw [y] at h; cases h
    | some t =>
      obtain ⟨c, S1⟩ := t
      rw [y] at h
      dsimp only at h
      cases y2 : argsK S1 ps with
      | none => rw [y2] at h; cases h
      | some t2 =>
        obtain ⟨cs, S2⟩ := t2
        rcases List.mem_cons.mp hq with rfl | hq
        · exact argK_frz y
        · exact argsK_frz y2 q hq
theorem relP_all {K : PySem.W.Frag} {H0 F H F' H' : Hp} {pa : Option Addr} {σ : L2.St} {S S' : Sq} (x : Ex F F') : ∀ {vs : List V} {ps : List PV}, Paired (RelP K H0 pa σ F H S) vs ps → (∀ p ∈ ps, Frz p) → Paired (RelP K H0 pa σ F' H' S') vs ps
  | _, _, .nil, _ => .nil
  | _, _, .cons a t, f => .cons (a.anyS (f _ List.mem_cons_self) x) (relP_all x t fun p hp => f p (List.mem_cons_of_mem _ hp))
theorem Agr.argsK {K : PySem.W.Frag} {F0 H0 : Hp} {pa : Option Addr} {σ : L2.St} : ∀ {ps : List PV} {S S' : Sq} {F H : Hp} {vs : List V} {rs : List R}, Agr K F0 H0 pa σ F H S → Paired (RelP K H0 pa σ F H S) vs ps → Q3.argsK S ps = some (rs, S') →
    ∃ F', Ex F F' ∧ Agr K F0 H0 pa σ F' H S' ∧ Paired (ArgR K pa F') vs rs
  | [], S, S', F, H, vs, rs, A, r, e => by
    cases r
    cases e
    exact ⟨F, Ex.refl F, A, .nil⟩
  | p :: ps, S, S', F, H, vs, rs, A, r, e => by
    cases r with
    | @cons v _ vs' _ r1 r2 =>
      unfold Q3.argsK at e
      cases q : S.argK p with
      | none => rw [q] at e; cases e
      | some t =>
        obtain ⟨c, S1⟩ := t
        rw [q] at e
        dsimp only at e
        cases q2 : Q3.argsK S1 ps with
        | none => rw [q2] at e; cases e
        | some t2 =>
          obtain ⟨cs, S2⟩ := t2
          rw [q2] at e
          cases e
          obtain ⟨F1, x1, A1, d1⟩ := A.argK r1 q
          obtain ⟨F2, x2, A2, d2⟩ := Agr.argsK A1 (relP_all x1 r2 (argsK_frz q2)) q2
          exact ⟨F2, x1.trans x2, A2, .cons (d1.mono x2) d2⟩
def toPV : R → Option PV
  | .d x => some (.v x)
  | .l xs => some (.o (.l xs))
  | .m kvs => some (.o (.m kvs))
  | _ => none
/-- f(..): own lists among the arguments are frozen -/
def callF (f : Fd) (fs : Sq → Out (List PV)) : Sq → Out PV := fun S => (fs S).bind fun ps S1 => match argsK S1 ps with
  | some (rs, S2) => (match f rs S2.p with
    | .ok r S3 => (match toPV r with
      | some z => .ok z { S2 with p := S3.p }
      | none => .no)
    | .ex c S3 => .ex c { S2 with p := S3.p }
    | .no => .no)
  | none => .no
/-- behind a call -/
theorem Agr.called {K : PySem.W.Frag} {F0 H0 F H F' H' : Hp} {pa : Option Addr} {σ : L2.St} {S : Sq} {p : Option Pen} (A : Agr K F0 H0 pa σ F H S) (B : Agr K F (bareT H) pa [] F' H' ⟨[], p⟩) : Agr K F0 H0 pa σ F' H' { S with p := p } := by
  refine ⟨A.fF.trans B.fF, B.sub, fun a o h n => B.hH a o (bareT_of (A.hH a o h n) fun ps z => A.n0 a ps (by rw [h, z])) n, B.tabs, B.ft, A.n0, fun a o h => ?_, A.len, fun i c e => ?_, A.dist, A.ownN, B.pen⟩
  · rcases B.new a o h with z | z
    · exact A.new a o z
    · refine .inr ?_
      exact A.freshT z (A.nopenT z)
  · have so := A.slots i c e
    cases c with
    | un => trivial
    | d x => obtain ⟨w, e1, e2⟩ := so; exact ⟨w, e1, e2.mono B.fF⟩
    | l xs =>
      obtain ⟨a, vs, e1, e2, e3, e4⟩ := so
      have w : Own σ S i a := ⟨e1, .inl ⟨xs, e⟩⟩
      refine ⟨a, vs, e1, B.hH a _ (bareT_of e2 fun _ z => nomatch z) (A.ownN i a w).2, ?_, e4.mono B.fF⟩
      cases q : F' a with
      | none => rfl
      | some u =>
        rcases B.new a u q with z | z
        · rw [e3] at z; cases z
        · rw [bareT_of e2 fun _ z => nomatch z] at z; cases z
    | m kvs =>
      obtain ⟨a, ho, e1, e2, e3, e4⟩ := so
      have w : Own σ S i a := ⟨e1, .inr ⟨kvs, e⟩⟩
      refine ⟨a, ho, e1, B.hH a _ (bareT_of e2 e4.notbl) (A.ownN i a w).2, ?_, e4.mono B.fF⟩
      cases q : F' a with
      | none => rfl
      | some u =>
        rcases B.new a u q with z | z
        · rw [e3] at z; cases z
        · rw [bareT_of e2 e4.notbl] at z; cases z
    | e c => obtain ⟨w, z1, z2⟩ := so; exact ⟨w, z1, B.fF _ _ z2⟩
    | sc ns => obtain ⟨w, z1, z2⟩ := so; exact ⟨w, z1, ex_l B.fF z2⟩
    | es cs => obtain ⟨w, z1, z2⟩ := so; exact ⟨w, z1, ex_es B.fF z2⟩
    | pen => exact so
theorem RelR.toP {K : PySem.W.Frag} {F0 H0 F H F' H' : Hp} {pa : Option Addr} {σ : L2.St} {S : Sq} {p : Option Pen} {v : V} {r : R} {z : PV} (A : Agr K F0 H0 pa σ F H S) (B : Agr K F (bareT H) pa [] F' H' ⟨[], p⟩) (h : RelR K (bareT H) pa F' H' p v r) (e : toPV r = some z) : RelP K H0 pa σ F' H' { S with p := p } v z := by
  cases r with
  | d x => cases e; exact h
  | l xs =>
    cases e
    obtain ⟨t, vs, rfl, h1, h2, h3, h4, _, h6⟩ := h
    exact ⟨t, vs, rfl, h1, h2, h3, A.freshT h4 h6, fun i w => A.own_thereT w h4, h6⟩
  | un => cases e
  | m kvs =>
    cases e
    obtain ⟨t, ho, rfl, h1, h2, h3, h4, _, h6⟩ := h
    exact ⟨t, ho, rfl, h1, h2, h3, A.freshT h4 h6, fun i w => A.own_thereT w h4, h6⟩
  | e c => cases e
  | sc ns => cases e
  | es cs => cases e
  | pen => cases e
section
variable {X : Cx} {W : WX} {N : List Str} {sc : Scope} {k j : Nat} {G : Gb} {x : Str} {p pos : Pos} {e : Expr} {es : List Expr} {fs : Sq → Out (List PV)} {f : Addr} {fd : FuncData} {ps : List Str} {fn : Fd}
theorem de_call (C : Cq G k N sc X) (tk : Takes X W) (F : FnG G j f fd ps (fun vs H Q E => vs.length = ps.length ∧ spF G.K fn vs H Q E)) (hj : j ≤ k) (hg : Gl X x) (hm : G.mg x = some (.ref f)) (hk : PySem.W.keepIn G.K (.ref f) = true) (hb : Binds G.K fd ps []) (hlen : (e :: es).length = ps.length)
    (ha : DA X W (e :: es) fs) (hdb : (x == ("__debug__" : Str)) = false := by decide) (he : starEach (e :: es) X.env = (false, eval e X.env) :: starEach es X.env := by rfl) (hpl : (backTo pos (starEach es X.env)).any (·.1) = false := by rfl) (hfl : ∀ S ps S', fs S = .ok ps S' → ps.length = (e :: es).length) :
    DE X W (.Call (.Name x p) (e :: es) [] pos) (callF fn fs) := by
  obtain ⟨c1, c2, c3, c4, c5, c6, c7, c8, c9, c10, c11, c12⟩ := C
  refine ⟨fun pins s σ H Q I h => ?_⟩
  obtain ⟨F0, H0, pa, F1, S, A, z⟩ := h
  refine wpAny_Call_Name_kw (ld_glob I hg (by rw [c11]; exact hm) ?_ hdb)
  have KIn : X.K.In X.base := I.ok.mod.kin
  refine PySem.W.callWith_K (h₀ := X.base) KIn (by rw [c10]; exact hk) (thn (ha.run pos pins s σ H (fun vs H1 => ∃ F2 S1 qs, Ex F1 F2 ∧ Agr X.K F0 H0 pa σ F2 H1 S1 ∧ Paired (RelP X.K H0 pa σ F2 H1 S1) vs qs ∧ qs.length = (e :: es).length ∧ OutP (match argsK S1 qs with
    | some (rs, S2) => (match fn rs S2.p with
      | .ok r S3 => (match toPV r with
        | some z => Out.ok z { S2 with p := S3.p }
        | none => .no)
      | .ex c S3 => .ex c { S2 with p := S3.p }
      | .no => .no)
    | none => .no) (TP X.K F0 H0 pa σ F1 Q) (EW X.K W F0 H0 pa σ)) I ⟨F0, H0, pa, F1, S, A, ?_⟩) fun us s1 ⟨vs, H1, I1, r, q⟩ => ⟨I1.kIn, ?_⟩) he hpl
  · unfold callF at z
    rw [OutP.bind] at z
    cases o : fs S with
    | no => rw [o] at z; exact z.elim
    | ex c S' => rw [o] at z; exact z
    | ok qs S1 =>
      rw [o] at z
      exact fun vs F2 H2 x2 A2 r2 => ⟨F2, S1, qs, x2, A2, r2, hfl S qs S1 o, z⟩
  · obtain ⟨F2, S1, qs, x2, A2, r2, hql, z⟩ := q
    cases q1 : argsK S1 qs with
    | none => rw [q1] at z; exact z.elim
    | some t =>
      obtain ⟨rs, S2⟩ := t
      rw [q1] at z
      dsimp only at z
      obtain ⟨F3, x3, A3, pr⟩ := A2.argsK r2 q1
      have hvl : vs.length = ps.length := by rw [paired_length r2, hql, hlen]
      have b := hb s1 us (by rw [← c10]; exact I1.kIn) (by rw [List.append_nil, ← r.length]; exact hvl)
      rw [List.append_nil] at b
      have A3' : Agr G.K F3 (bareT H1) pa [] F3 H1 ⟨[], S2.p⟩ := by
        rw [← c10]
        exact ⟨Ex.refl _, A3.sub, fun a o h _ => (bareT_some h).1, A3.tabs, A3.ft, bareT_free, fun a o h => .inl h, rfl, fun i c e => by simp at e, fun i j a h => h.none.elim, fun i a h => h.none.elim, A3.pen⟩
      have e0 : Env0 G.P G.w G.K G.mg G.base X.A X.stack s1 H1 := by
        have := I1.env0
        rw [c8, c9, c10, c11, c12] at this
        exact this
      have sp : spF G.K fn vs H1 (fun v H' => Q v H') (fun cls d H' => W cls d σ H') := by
        refine ⟨F3, bareT H1, pa, rs, S2.p, A3', by rw [← c10]; exact pr, ?_⟩
        cases of : fn rs S2.p with
        | no => rw [of] at z; exact z.elim
        | ok r S3 =>
          rw [of] at z
          intro v F' H' B q
          dsimp only at z
          split at z
          · rename_i w e1
            rw [← c10] at B q
            exact z v F' H' (x2.trans (x3.trans B.fF)) (A3.called B) (RelR.toP A3 B q e1)
          · exact z.elim
        | ex c S3 =>
          rw [of] at z
          intro F' H' B
          rw [← c10] at B ⊢
          exact z F' H' (A3.called B)
      refine wpAny_call ?_
      have run := F.run X.A X.stack s1 H1 ⟨us, []⟩ us vs Q (fun cls d H' => W cls d σ H') (c4.mono hj) c5 e0 b r ⟨hvl, sp⟩
      rw [c8, c9]
      refine codeAny_mono run fun r' s' hq => ?_
      cases r' with
      | error e' =>
        refine tk e' s' (XE.of_call I1 (fun cls d H' h => h) ?_)
        rw [c8, c9]
        exact hq
      | ok fl =>
        cases fl with
        | ret u => exact I1.after (by rw [c8, c9]; exact hq)
        | next => exact False.elim hq
        | brk => exact False.elim hq
        | cont => exact False.elim hq
end
end Q3
/-! Q3i: targets, globals, built-ins. -/
namespace Q3
open PySem PySem.Spec PyProof.Rows L2
variable [TabSet]
section
variable {X : Cx} {W : WX} {a b c e : Expr} {es : List Expr} {fa fb fc : Sq → Out PV} {pos : Pos} {N : List Str} {sc : Scope} {k : Nat} {G : Gb} {x : Str}
theorem glC (C : Cq G k N sc X) (h : sc.names.lookup x = some .globalImplicit) : Gl X x := by
  show X.env.scope.names.lookup x = _
  rw [C.scope]; exact h
theorem mgC (C : Cq G k N sc X) {o : Option Value} (h : G.mg x = o) : X.mg x = o := by rw [C.mg]; exact h
/-! ### targets -/
theorem dg_nm (i : Nat) (C : Cq G k N sc X) (hi : N[i]? = some x) (hx : Loc sc x) (hf : X.fn x = true ∨ sc.names.lookup x = some .local) : PG X (.Name x pos) ((Tg.nm i).rd X.K) :=
  pg_name (by rw [C.names]; exact C.nd) (by rw [C.names]; exact hi) (by rw [C.scope]; exact hx) (by rw [C.scope]; exact hf)
theorem dgs_nil : PGs X [] (gNs []) := pgs_nil
theorem dgs_cons (i : Nat) {is : List Nat} (C : Cq G k N sc X) (hi : N[i]? = some x) (hx : Loc sc x) (hf : X.fn x = true ∨ sc.names.lookup x = some .local) (h2 : PGs X es (gNs is))
    (hs : (assignEach (.Name x pos :: es) X.env).map (·.2) = assign (.Name x pos) X.env :: (assignEach es X.env).map (·.2) := by rfl) : PGs X (.Name x pos :: es) (gNs (i :: is)) :=
  pgs_cons (t := gName i) (u := gNs is) (dg_nm i C hi hx hf) h2 hs
theorem dg_tp (is : List Nat) {kk : Nat} (C : Cq G k N sc X) (h : PGs X es (gNs is)) (hn : (assignEach es X.env).length = is.length := by rfl) (hst : (assignEach es X.env).findIdx? (·.1) = none := by rfl) : PG X (.Tuple es kk pos) ((Tg.tp is).rd X.K) :=
  pg_tup C.calm h hn hst
/-! ### one argument -/
def gLen : D → Option PV
  | .str z => if z.length ≤ sizeLine then some (.v (.int z.length)) else none
  | .list xs => some (.v (.int xs.length))
  | .tuple xs => some (.v (.int xs.length))
  | _ => none
theorem does_len {K : PySem.W.Frag} : Does1 K (fun xs H Q => ∃ x n, xs = [x] ∧ LenV K x H n ∧ Q (.int n) H) gLen := by
  intro F H x d z Q sub hx hg h
  cases d <;> simp only [gLen] at hg <;> try (cases hg; done)
  · split at hg
    · rename_i hz
      cases hg
      rw [hx.str]
      exact ⟨_, _, rfl, ⟨hz, rfl⟩, h _ _ (Gv.int _)⟩
    · cases hg
  · cases hg
    obtain ⟨l, vs, rfl, h1, h2⟩ := hx.list sub
    exact ⟨_, vs.length, rfl, .inl ⟨vs, SqL.of h1, rfl⟩, by rw [h2.length]; exact h _ _ (Gv.int _)⟩
  · cases hg
    obtain ⟨l, vs, rfl, h1, h2⟩ := hx.tuple
    exact ⟨_, vs.length, rfl, .inr ⟨vs, SqT.of (sub _ _ h1), rfl⟩, by rw [h2.length]; exact h _ _ (Gv.int _)⟩
def gInt1 : D → Option PV
  | .int i => some (.v (.int i))
  | .bool b => some (.v (.int (if b then 1 else 0)))
  | _ => none
theorem does_int1 {K : PySem.W.Frag} : Does1 K (fun xs H Q => (∃ i, xs = [.int i] ∧ Q (.int i) H) ∨ ∃ k, xs = [.bl k] ∧ Q (.int (if k then 1 else 0)) H) gInt1 := by
  intro F H x d z Q sub hx hg h
  cases d <;> simp only [gInt1] at hg <;> try (cases hg; done)
  · cases hg
    rw [hx.bl]
    exact .inr ⟨_, rfl, h _ _ (Gv.int _)⟩
  · cases hg
    rw [hx.int]
    exact .inl ⟨_, rfl, h _ _ (Gv.int _)⟩
def signs (z : Str) : List D := z.cps.toList.map fun c => .str ⟨#[c]⟩
def gList : D → Option PV
  | .list xs => some (.o (.l xs))
  | .tuple xs => some (.o (.l xs))
  | .str z => if z.cps.size < sizeLine then some (.o (.l (signs z))) else none
  | _ => none
theorem paired_of {α β : Type} {P : α → β → Prop} : ∀ {xs : List α} {ys : List β}, xs.length = ys.length → (∀ (i : Nat) (x : α) (y : β), xs[i]? = some x → ys[i]? = some y → P x y) → Paired P xs ys
  | [], [], _, _ => .nil
  | [], _ :: _, h, _ => by cases h
  | _ :: _, [], h, _ => by cases h
  | x :: xs, y :: ys, h, f => .cons (f 0 x y rfl rfl) (paired_of (by simpa using h) fun i a b h1 h2 => f (i + 1) a b (by simpa using h1) (by simpa using h2))
def rListS : List V → Hp → VK → Prop := fun xs H Q => ∃ z : Str, xs = [.str z] ∧ z.cps.size < sizeLine ∧ ∀ l, H l = none → Q (.ref l) (upd H l (.lst (z.cps.toList.map fun c => .str ⟨#[c]⟩)))
theorem call_list_strs (hc : X.calm = true) : CallR X (.type "list") rListS := by
  intro pins s σ H xs us Q I r h
  obtain ⟨z, rfl, hz, q⟩ := h
  obtain ⟨u, rfl, t, rfl⟩ := vals1 r
  refine PySem.call_list_str (I.ok.hd hc) z t (fun h' tk acc' c' hk e hacc => ?_) (Nat.le_of_lt hz)
  have rv : Vals (z.cps.toList.map fun c => V.str ⟨#[c]⟩) acc'.toList := by
    refine paired_of (by rw [List.length_map, Array.length_toList, Array.length_toList, hacc.1]) fun i x y hx hy => ?_
    rw [List.getElem?_map, Array.getElem?_toList] at hx
    obtain ⟨c, e1, e2⟩ := Option.map_eq_some_iff.mp hx
    rw [Array.getElem?_toList] at hy
    obtain ⟨c', t', e3, e4⟩ := hacc.2 i y hy
    rw [e1] at e3; cases e3
    subst e2 e4
    exact ⟨_, rfl⟩
  refine ⟨.ref s.heap.objs.size, _, I.laid (t' := tk) hk (Nat.le_refl _) (show ObjOk X.prog X.w _ h' _ (.lst _) from ⟨?_, acc'.toList, c', rv, by simpa using e⟩), rfl, q _ (I.hok.fresh (Nat.le_refl _))⟩
  rw [List.length_map, Array.length_toList]; exact Nat.le_of_lt hz
theorem DnAll.signs {K : PySem.W.Frag} {F : Hp} (z : Str) : DnAll K F (z.cps.toList.map fun c => V.str ⟨#[c]⟩) (signs z) := by
  unfold Q3.signs
  generalize z.cps.toList = l
  induction l with
  | nil => exact .nil
  | cons c l ih => exact .cons (.str _) ih
theorem does_list {K : PySem.W.Frag} : Does1 K (fun xs H Q => (∃ p ys, xs = [.ref p] ∧ (SqL K H p ys ∨ SqT K H p ys) ∧ ∀ l, H l = none → Q (.ref l) (upd H l (.lst ys))) ∨ rListS xs H Q) gList := by
  intro F H x d z Q sub hx hg h
  cases d <;> simp only [gList] at hg <;> try (cases hg; done)
  · split at hg
    · rename_i hz
      cases hg
      rw [hx.str]
      exact .inr ⟨_, rfl, hz, fun l hl => h _ _ (.lst hl (DnAll.signs _))⟩
    · cases hg
  · cases hg
    obtain ⟨l, vs, rfl, h1, h2⟩ := hx.list sub
    exact .inl ⟨_, vs, rfl, .inl (SqL.of h1), fun l hl => h _ _ (.lst hl h2)⟩
  · cases hg
    obtain ⟨l, vs, rfl, h1, h2⟩ := hx.tuple
    exact .inl ⟨_, vs, rfl, .inr (SqT.of (sub _ _ h1)), fun l hl => h _ _ (.lst hl h2)⟩
def gTuple : D → Option PV
  | .list xs => some (.v (.tuple xs))
  | .tuple xs => some (.v (.tuple xs))
  | _ => none
theorem does_tuple {K : PySem.W.Frag} : Does1 K (fun xs H Q => ∃ p ys, xs = [.ref p] ∧ ((SqL K H p ys ∧ ∀ l, H l = none → Q (.ref l) (upd H l (.tup ys))) ∨ (SqT K H p ys ∧ Q (.ref p) H))) gTuple := by
  intro F H x d z Q sub hx hg h
  cases d <;> simp only [gTuple] at hg <;> try (cases hg; done)
  · cases hg
    obtain ⟨l, vs, rfl, h1, h2⟩ := hx.list sub
    exact ⟨_, vs, rfl, .inl ⟨SqL.of h1, fun l hl => h _ _ (.tup hl h2)⟩⟩
  · cases hg
    obtain ⟨l, vs, rfl, h1, h2⟩ := hx.tuple
    exact ⟨_, vs, rfl, .inr ⟨SqT.of (sub _ _ h1), h _ _ (.dn (.tup h1 h2))⟩⟩
def boolsOf : List D → Option (List Bool)
  | [] => some []
  | .bool b :: r => (boolsOf r).map (b :: ·)
  | _ :: _ => none
theorem boolsOf_eq : ∀ {ds : List D} {bs : List Bool}, boolsOf ds = some bs → ds = bs.map .bool
  | [], bs, h => by cases h; rfl
  | d :: r, bs, h => by
    cases d <;> simp only [boolsOf] at h <;> try (cases h; done)
    obtain ⟨b', e1, e2⟩ := Option.map_eq_some_iff.mp h
    subst e2
    rw [boolsOf_eq e1]; rfl
theorem boolsOf_map (bs : List Bool) : boolsOf (bs.map .bool) = some bs := by
  induction bs with
  | nil => rfl
  | cons b bs ih => show (boolsOf (bs.map PyData.bool)).map (b :: ·) = _; rw [ih]; rfl
def gBools (f : List Bool → Bool) : D → Option PV
  | .list xs => (boolsOf xs).map fun bs => .v (.bool (f bs))
  | _ => none
theorem does_bools {K : PySem.W.Frag} (f : List Bool → Bool) : Does1 K (fun vs H Q => ∃ (a : Addr) (bs : List Bool), vs = [V.ref a] ∧ SqL K H a (bs.map V.bl) ∧ Q (.bl (f bs)) H) (gBools f) := by
  intro F H x d z Q sub hx hg h
  cases d <;> simp only [gBools] at hg <;> try (cases hg; done)
  obtain ⟨bs, e1, e2⟩ := Option.map_eq_some_iff.mp hg
  subst e2
  obtain ⟨l, vs, rfl, h1, h2⟩ := hx.list sub
  rw [boolsOf_eq e1] at h2
  exact ⟨l, bs, rfl, SqL.of (by rw [h1, h2.bls]), h _ _ (Gv.bl _)⟩
def intsOf : List D → Option (List Int)
  | [] => some []
  | .int b :: r => (intsOf r).map (b :: ·)
  | _ :: _ => none
theorem intsOf_eq : ∀ {ds : List D} {bs : List Int}, intsOf ds = some bs → ds = bs.map .int
  | [], bs, h => by cases h; rfl
  | d :: r, bs, h => by
    cases d <;> simp only [intsOf] at h <;> try (cases h; done)
    obtain ⟨b', e1, e2⟩ := Option.map_eq_some_iff.mp h
    subst e2
    rw [intsOf_eq e1]; rfl
theorem intsOf_map (bs : List Int) : intsOf (bs.map .int) = some bs := by
  induction bs with
  | nil => rfl
  | cons b bs ih => show (intsOf (bs.map PyData.int)).map (b :: ·) = _; rw [ih]; rfl
def gSum : D → Option PV
  | .list xs => (intsOf xs).map fun ns => .v (.int ns.sum)
  | _ => none
theorem does_sum {K : PySem.W.Frag} : Does1 K (rSum K) gSum := by
  intro F H x d z Q sub hx hg h
  cases d <;> simp only [gSum] at hg <;> try (cases hg; done)
  obtain ⟨ns, e1, e2⟩ := Option.map_eq_some_iff.mp hg
  subst e2
  obtain ⟨l, vs, rfl, h1, h2⟩ := hx.list sub
  rw [intsOf_eq e1] at h2
  exact ⟨l, ns, rfl, SqL.of (by rw [h1, h2.ints]), h _ _ (Gv.int _)⟩
/-- the ints in order -/
def sortI (ns : List Int) : List Int := ns.mergeSort (fun a b => decide (a ≤ b))
theorem sortI_perm (ns : List Int) : (sortI ns).Perm ns := List.mergeSort_perm _ _
theorem sortI_sorted (ns : List Int) : (sortI ns).Pairwise (· ≤ ·) := by
  have h := List.pairwise_mergeSort (le := fun (a b : Int) => decide (a ≤ b)) (fun a b c h1 h2 => by simp at *; omega) (fun a b => by simp; omega) ns
  exact h.imp fun h => by simpa using h
theorem sortI_uniq {ns ns' : List Int} (p : ns'.Perm ns) (s : ns'.Pairwise (· ≤ ·)) : ns' = sortI ns :=
  List.Perm.eq_of_pairwise (le := (· ≤ ·)) (fun a b _ _ h1 h2 => Int.le_antisymm h1 h2) s (sortI_sorted ns) (p.trans (sortI_perm ns).symm)
def gSort : D → Option PV
  | .list xs => (intsOf xs).map fun ns => .o (.l ((sortI ns).map .int))
  | _ => none
theorem does_sort {K : PySem.W.Frag} : Does1 K (rSortedI K) gSort := by
  intro F H x d z Q sub hx hg h
  cases d <;> simp only [gSort] at hg <;> try (cases hg; done)
  obtain ⟨ns, e1, e2⟩ := Option.map_eq_some_iff.mp hg
  subst e2
  obtain ⟨l, vs, rfl, h1, h2⟩ := hx.list sub
  rw [intsOf_eq e1] at h2
  refine ⟨l, ns, rfl, SqL.of (by rw [h1, h2.ints]), fun ns' p hp hs hn => ?_⟩
  rw [sortI_uniq hp hs]
  exact h _ _ (.lst hn (DnAll.of_ints _))
/-! ### isinstance(e, T) -/
inductive Ty where
  | int | bool | str | tuple | list | dict
def Ty.nm : Ty → String
  | .int => "int" | .bool => "bool" | .str => "str" | .tuple => "tuple" | .list => "list" | .dict => "dict"
def isTy : Ty → D → Bool
  | .int, .int _ => true
  | .int, .bool _ => true
  | .bool, .bool _ => true
  | .str, .str _ => true
  | .tuple, .tuple _ => true
  | .list, .list _ => true
  | .dict, .dict _ => true
  | _, _ => false
theorem pe_tyN {T : String} {p : Pos} (hg : Gl X x) (hm : X.mg x = none) (hv : bootBuiltins x = some (.type T)) (hn : x ≠ "__name__" := by decide) (hdb : (x == ("__debug__" : Str)) = false := by decide) : PE X (.Name x p) (tC (.ty T)) :=
  ⟨fun pins s σ H Q I h => ld_blt I hg hm hv ⟨.ty T, H, I, rfl, h⟩ hn hdb⟩
def tyName : D → String
  | .none => "NoneType" | .bool _ => "bool" | .int _ => "int" | .str _ => "str" | .list _ => "list" | .tuple _ => "tuple" | .dict _ => "dict"
theorem kitTy (t : Ty) (d : D) : kitB (tyName d) t.nm = some (isTy t d) := by
  cases t <;> cases d <;> (show kitB _ _ = some _) <;> simp only [tyName, Ty.nm, isTy] <;> decide +kernel
/-- no dict that holds anything -/
def noM : D → Bool
  | .dict (_ :: _) => false
  | _ => true
theorem Dv.ty {K : PySem.W.Frag} {F H : Hp} {v : V} {d : D} (sub : Ex F H) (h : Dv K F H v d) (nm : noM d = true) : TyX K H v (.type (tyName d)) ∨ ∃ a es ep, v = .ref a ∧ tyName d = "dict" ∧ H a = some (dctE es ep a) := by
  rcases h with h | ⟨a, vs, xs, rfl, rfl, h1, _⟩ | ⟨a, ho, kvs, rfl, rfl, h1, h2⟩
  · cases h with
    | non => exact .inl (.base .non)
    | bl b => exact .inl (.base (.bl b))
    | int i => exact .inl (.base (.int i))
    | str z => exact .inl (.base (.str z))
    | lst h1 _ => exact .inl (.base (.lst (sub _ _ h1)))
    | tup h1 _ => exact .inl (.base (.tup (sub _ _ h1)))
    | dctK h1 _ _ _ => exact .inl (.base (.dK (sub _ _ h1)))
    | dctE h1 _ _ _ _ => exact .inr ⟨_, _, _, rfl, rfl, sub _ _ h1⟩
  · exact .inl (.base (.lst h1))
  · rcases h2 with ⟨es, rfl, _⟩ | ⟨es, ep, rfl, _, h3, _⟩
    · exact .inl (.base (.dK h1))
    · exact .inr ⟨_, _, _, rfl, rfl, h1⟩
/-- what the library's isinstance rules ask, for a dict by its entries -/
theorem kit_ofE {X : Cx} {pins : List (Addr × Obj)} {σ : L2.St} {H : Hp} {s : Shared} {u : Value} {a : Addr} {es : List (D × V × V)} {ep : Nat} (I : Inv X pins σ H s) (rx : RelV (.ref a) u) (h : H a = some (dctE es ep a)) : ∃ P : Heap → Prop, PySem.W.KitX X.K u (.type "dict") P ∧ P s.heap ∧ u ≠ .builtin "__main__.__loader__#opaque" := by
  cases (show u = Value.ref a from rx)
  obtain ⟨⟨_, _, o, _, _, h1, h2, _⟩, _⟩ := I.hok a _ h
  exact ⟨_, PySem.W.kitx_dict, ⟨o, h1, h2.1⟩, fun z => nomatch z⟩
def rIsiE (K : PySem.W.Frag) : List V → Hp → VK → Prop := fun xs H Q => ∃ (a : Addr) (es : List (D × V × V)) (ep : Nat) (c : V) (u : Value) (b : Bool), xs = [.ref a, c] ∧ H a = some (dctE es ep a) ∧ ClsV c u ∧ PySem.W.kitOne K (.type "dict") u = some b ∧ Q (.bl b) H
theorem call_isiE {X : Cx} : CallR X (.builtin "isinstance") (fun xs H Q => rIsi X.K xs H Q ∨ rIsiE X.K xs H Q) := by
  intro pins s σ H xs us Q I r h
  rcases h with h | ⟨a, es, ep, c, u, b, rfl, h1, k, e, q⟩
  · exact call_isi pins s σ H xs us Q I r h
  · obtain ⟨u1, u2, rfl, r1, r2⟩ := vals2 r
    have e2 := k.eq r2
    subst e2
    obtain ⟨P, Z, p, hx⟩ := kit_ofE I r1 h1
    exact PySem.W.kia_one Z I.kIn p e hx fun tk => ⟨.bl b, H, I.tok tk, rfl, q⟩
def gIsi (t : Ty) (d : D) : Option PV := if noM d = true then some (.v (.bool (isTy t d))) else none
theorem de_isi (t : Ty) {p p1 : Pos} (C : Cq G k N sc X) (hi : sc.names.lookup ("isinstance" : Str) = some .globalImplicit) (hx : sc.names.lookup (Str.ofString t.nm) = some .globalImplicit) (mi : G.mg "isinstance" = none) (mx : G.mg (Str.ofString t.nm) = none) (ha : DE X W a fa)
    {y : Str} (hy : y = Str.ofString t.nm := by rfl) (hst : starEach [a, .Name y p1] X.env = (false, eval a X.env) :: starEach [.Name y p1] X.env := by rfl) (hpl : (backTo pos (starEach [.Name y p1] X.env)).any (·.1) = false := by rfl) :
    DE X W (.Call (.Name "isinstance" p) [a, .Name y p1] [] pos) (f1 (gIsi t) fa) := by
  subst hy
  have hT : PE X (.Name (Str.ofString t.nm) p1) (tC (.ty t.nm)) := by
    cases t <;> exact pe_tyN (glC C hx) (mgC C mx) (by decide +kernel) (by decide) (by decide)
  refine PE.weak (pe_callB call_isiE (glC C hi) (mgC C mi) (by decide +kernel) (pa_cons (de_fz ha) (pa_cons hT pa_nil (by rfl)) hst) (by decide) (by decide) hst hpl) fun σ H Q z => ?_
  obtain ⟨F0, H0, pa, F, S, A, z⟩ := z
  unfold f1 at z
  rw [OutP.bind] at z
  refine ⟨F0, H0, pa, F, S, A, z.imp (fun p S1 z v F1 H1 x1 A1 r1 => ?_) fun _ _ z => z⟩
  split at z
  · rename_i d e1
    split at z
    · rename_i w e2
      unfold gIsi at e2
      split at e2
      · rename_i nm
        cases e2
        rcases Dv.ty A1.sub (A1.val r1 e1) nm with ty | ⟨a, es, ep, rfl, hn, h1⟩
        · exact .inl ⟨v, .ty t.nm, _, _, _, rfl, .ty _, ty, kit_ty (kitTy t d), z _ F1 H1 x1 A1 (.bl _)⟩
        · have kt := kit_ty (K := X.K) (kitTy t d)
          rw [hn] at kt
          exact .inr ⟨a, es, ep, .ty t.nm, _, _, rfl, h1, .ty _, kt, z _ F1 H1 x1 A1 (.bl _)⟩
      · cases e2
    · exact z.elim
  · exact z.elim
end
end Q3
/-! Q3j: a, b = x, y. -/
namespace Q3
open PySem PySem.Spec PyProof.Rows L2
variable [TabSet]
section
variable {K : PySem.W.Frag} {F0 H0 F H F' H' : Hp} {pa : Option Addr} {σ : L2.St} {S S' S1 S2 : Sq} {v w : V} {pv qv : PV} {d : D} {i j : Nat} {c c' : R}
/-- two values beside each other: no two are the same new list -/
def Apart (v w : V) : PV → PV → Prop
  | .o _, .o _ => v ≠ w
  | _, _ => True
/-- an own object of either kind -/
def OwnA (K : PySem.W.Frag) (F : Hp) (t : Addr) (ho : HO) : R → Prop
  | .l xs => ∃ vs, ho = .lst vs ∧ DnAll K F vs xs
  | .m kvs => DctA K F t ho kvs
  | _ => False
theorem OwnA.mono {t : Addr} {ho : HO} {c : R} (e : Ex F F') (h : OwnA K F t ho c) : OwnA K F' t ho c := by
  cases c with
  | l xs => obtain ⟨vs, e1, e2⟩ := h; exact ⟨vs, e1, e2.mono e⟩
  | m kvs => exact DctA.mono e h
  | _ => exact False.elim h
theorem OwnA.notbl {t : Addr} {ho : HO} {c : R} (h : OwnA K F t ho c) (ps : Array Value) : ho ≠ .tbl ps := by
  cases c with
  | l xs => obtain ⟨vs, rfl, _⟩ := h; exact fun z => nomatch z
  | m kvs => exact DctA.notbl h ps
  | _ => exact False.elim h
theorem OwnV.open {u : V} {b : R} (o : OwnV K H0 pa σ F H S u b) : ∃ t ho, u = .ref t ∧ H t = some ho ∧ F t = none ∧ OwnA K F t ho b ∧ H0 t = none ∧ (∀ i, ¬ Own σ S i t) ∧ some t ≠ pa := by
  cases b with
  | l xs => obtain ⟨t, vs, e, h1, h2, h3, h4⟩ := o; exact ⟨t, _, e, h1, h2, ⟨vs, rfl, h3⟩, h4⟩
  | m kvs => obtain ⟨t, ho, e, h1, h2, h3, h4⟩ := o; exact ⟨t, _, e, h1, h2, h3, h4⟩
  | _ => exact False.elim o
theorem OwnV.mk {u : V} {b : R} (o : ∃ t ho, u = .ref t ∧ H t = some ho ∧ F t = none ∧ OwnA K F t ho b ∧ H0 t = none ∧ (∀ i, ¬ Own σ S i t) ∧ some t ≠ pa) : OwnV K H0 pa σ F H S u b := by
  obtain ⟨t, ho, e, h1, h2, h3, h4⟩ := o
  cases b with
  | l xs => obtain ⟨vs, rfl, h3⟩ := h3; exact ⟨t, vs, e, h1, h2, h3, h4⟩
  | m kvs => exact ⟨t, ho, e, h1, h2, h3, h4⟩
  | _ => exact False.elim h3
theorem Dn.there {t : Addr} {x : D} (h : Dn K F (.ref t) x) : F t ≠ none := by
  cases h with
  | lst q _ => rw [q]; simp
  | tup q _ => rw [q]; simp
  | dctK q _ _ _ => rw [q]; simp
  | dctE q _ _ _ _ => rw [q]; simp
theorem OwnV.frozenAt {u : V} {b : R} {a : Addr} {ho : HO} {x : D} (o : OwnV K H0 pa σ F H S u b) (w : Own σ S i a) (ex : Ex F (upd F a ho)) : OwnV K H0 pa σ (upd F a ho) H { S with r := S.r.set i (.d x) } u b := by
  obtain ⟨t, ho', e, h1, h2, h3, h4, h5, h6⟩ := o.open
  have ne : t ≠ a := fun z => h5 i (by rw [z]; exact w)
  exact .mk ⟨t, ho', e, h1, by rw [upd_ne ne]; exact h2, h3.mono ex, h4, fun j p => h5 j p.set_d.1, h6⟩
/-- an own value stays when another value is taken -/
theorem OwnV.res {u : V} {b : R} (A : Agr K F0 H0 pa σ F H S) (r : RelP K H0 pa σ F H S v pv) (e : S.res pv = some (c, S')) (o : OwnV K H0 pa σ F H S u b) :
    ∃ F', Ex F F' ∧ Agr K F0 H0 pa σ F' H S' ∧ Fit K H0 pa σ F' H S' v c ∧ OwnV K H0 pa σ F' H S' u b := by
  cases pv with
  | v x => cases e; exact ⟨F, Ex.refl F, A, r, o⟩
  | o q =>
    cases q with
    | l xs => cases e; exact ⟨F, Ex.refl F, A, r, o⟩
    | un => cases e
    | d x => cases e
    | m kvs => cases e; exact ⟨F, Ex.refl F, A, r, o⟩
    | pen => cases e
    | e c => cases e
    | sc ns => cases e
    | es cs => cases e
  | s i =>
    unfold Sq.res at e
    dsimp only at e
    cases q : S.r[i]? with
    | none => rw [q] at e; cases e
    | some y =>
      rw [q] at e
      cases y with
      | d x =>
        cases e
        obtain ⟨w, e1, e2⟩ := A.slots i _ q
        rw [show σ[i]? = some (some v) from r] at e1; cases e1
        exact ⟨F, Ex.refl F, A, e2, o⟩
      | l xs =>
        cases e
        obtain ⟨F', a, vs, eF, x, e1, e2, e3, A'⟩ := A.frozenU q
        rw [show σ[i]? = some (some v) from r] at e1; cases e1
        refine ⟨F', x, A', .lst e2 e3, ?_⟩
        subst eF
        exact o.frozenAt ⟨r, .inl ⟨xs, q⟩⟩ x
      | pen =>
        cases e
        obtain ⟨p, e1, e2⟩ := A.slots i _ q
        rw [show σ[i]? = some (some v) from r] at e2; cases e2
        exact ⟨F, Ex.refl F, A, ⟨p, e1, rfl⟩, o⟩
      | un => cases e
      | m kvs =>
        cases e
        obtain ⟨F', a, ho, eF, x, e1, e2, _, e3, A'⟩ := A.frozenM q
        rw [show σ[i]? = some (some v) from r] at e1; cases e1
        refine ⟨F', x, A', e3.dn (Ex.refl _) e2, ?_⟩
        subst eF
        exact o.frozenAt ⟨r, .inr ⟨kvs, q⟩⟩ x
      | e c => cases e
      | sc ns => cases e
      | es cs => cases e
theorem OwnV.up {u : V} {b : R} {p : Addr} {o : HO} (A : Agr K F0 H0 pa σ F H S) (x : OwnV K H0 pa σ F H S u b) (hp : H p = none) : OwnV K H0 pa σ F (upd H p o) S u b := by
  obtain ⟨t, ho', e, h1, h⟩ := x.open
  exact .mk ⟨t, ho', e, by rw [upd_ne fun z => by rw [z, hp] at h1; cases h1]; exact h1, h⟩
/-- both put into their slots -/
theorem Agr.store2 (A : Agr K F0 H0 pa σ F H S) (r : RelP K H0 pa σ F H S v pv) (r' : RelP K H0 pa σ F H S w qv) (ap : Apart v w pv qv) (e1 : S.res pv = some (c, S1)) (e2 : S1.res qv = some (c', S2)) (hi : i < S2.r.length) (hj : j < S2.r.length) :
    ∃ F', Ex F F' ∧ Agr K F0 H0 pa ((σ.set i (some v)).set j (some w)) F' H { S2 with r := (S2.r.set i c).set j c' } := by
  have frzQ : (∀ q, qv ≠ .o q) → ∀ F1, Ex F F1 → RelP K H0 pa σ F1 H S1 w qv := fun n F1 x => r'.anyS n x
  -- the first one
  have one : ∃ F1, Ex F F1 ∧ Agr K F0 H0 pa σ F1 H S1 ∧ Fit K H0 pa σ F1 H S1 v c ∧ RelP K H0 pa σ F1 H S1 w qv := by
    cases qv with
    | s k =>
      obtain ⟨F1, x, A1, f⟩ := A.res r e1
      exact ⟨F1, x, A1, f, r'⟩
    | v x =>
      obtain ⟨F1, y, A1, f⟩ := A.res r e1
      exact ⟨F1, y, A1, f, Dn.mono y r'⟩
    | o b =>
      obtain ⟨F1, x, A1, f, o⟩ := OwnV.res A r e1 r'
      exact ⟨F1, x, A1, f, o⟩
  obtain ⟨F1, x1, A1, f1, r1⟩ := one
  -- the second one
  have two : ∃ F2, Ex F1 F2 ∧ Agr K F0 H0 pa σ F2 H S2 ∧ Fit K H0 pa σ F2 H S2 v c ∧ Fit K H0 pa σ F2 H S2 w c' := by
    cases c with
    | d x =>
      obtain ⟨F2, x2, A2, f2⟩ := A1.res r1 e2
      exact ⟨F2, x2, A2, Dn.mono x2 f1, f2⟩
    | l xs =>
      obtain ⟨F2, x2, A2, f2, o⟩ := OwnV.res (b := .l xs) A1 r1 e2 f1
      exact ⟨F2, x2, A2, o, f2⟩
    | pen =>
      obtain ⟨F2, x2, A2, f2⟩ := A1.res r1 e2
      exact ⟨F2, x2, A2, f1, f2⟩
    | un => exact False.elim f1
    | m kvs =>
      obtain ⟨F2, x2, A2, f2, o⟩ := OwnV.res (b := .m kvs) A1 r1 e2 f1
      exact ⟨F2, x2, A2, o, f2⟩
    | e c => exact False.elim f1
    | sc ns => exact False.elim f1
    | es cs => exact False.elim f1
  obtain ⟨F2, x2, A2, f1', f2⟩ := two
  have A3 := A2.store hi f1'
  refine ⟨F2, x1.trans x2, A3.store (i := j) (S := { S2 with r := S2.r.set i c }) (by simpa using hj) ?_⟩
  have own : ∀ q : OwnV K H0 pa σ F2 H S2 w c', (c' = .un ∨ (∃ x, c' = .d x) ∨ c' = .pen → False) → OwnV K H0 pa (σ.set i (some v)) F2 H { S2 with r := S2.r.set i c } w c' := fun f2 nd => by
    refine OwnV.store f1' f2 (fun z => ?_) hi
    -- w is no other's
    have hq : ∃ b, qv = .o b := by
      cases qv with
      | o b => exact ⟨b, rfl⟩
      | v x => cases e2; exact (nd (.inr (.inl ⟨_, rfl⟩))).elim
      | s k =>
        unfold Sq.res at e2
        dsimp only at e2
        split at e2 <;> cases e2 <;> exact (nd (by simp)).elim
    obtain ⟨b, rfl⟩ := hq
    obtain ⟨t, ho, ew, h1, h2, h3, h4, h5, h6⟩ := f2.open
    subst ew
    subst z
    cases pv with
    | o b' => exact ap rfl
    | v x =>
      cases e1
      exact Dn.there (show Dn K F2 (.ref t) x from f1') h2
    | s k =>
      cases c with
      | d x => exact Dn.there (show Dn K F2 (.ref t) x from f1') h2
      | l ys =>
        unfold Sq.res at e1
        dsimp only at e1
        split at e1 <;> cases e1
      | pen =>
        obtain ⟨q, e3, e4⟩ := f1'
        cases e4
        exact h6 e3.symm
      | un => exact False.elim f1'
      | m kvs =>
        unfold Sq.res at e1
        dsimp only at e1
        split at e1 <;> cases e1
      | e c => exact False.elim f1'
      | sc ns => exact False.elim f1'
      | es cs => exact False.elim f1'
  cases c' with
  | d x => exact f2
  | pen => exact f2
  | l xs => exact own f2 (by simp)
  | m kvs => exact own f2 (by simp)
  | un => exact False.elim f2
  | e c => exact False.elim f2
  | sc ns => exact False.elim f2
  | es cs => exact False.elim f2
end
section
variable {X : Cx} {W : WX} {a b c e : Expr} {fa fb fc : Sq → Out PV} {pos : Pos} {N : List Str} {sc : Scope} {k : Nat} {G : Gb} {x y : Str} {i j : Nat}
def rd2 (K : PySem.W.Frag) (W : WX) (fa fb : Sq → Out PV) : TA := fun σ H Q => ∃ F0 H0 pa F S, Agr K F0 H0 pa σ F H S ∧ OutP ((fa S).bind fun p S1 => (fb S1).bind fun q S2 => .ok (p, q) S2)
  (fun pq S' => ∀ v w F' H', Ex F F' → Agr K F0 H0 pa σ F' H' S' → RelP K H0 pa σ F' H' S' v pq.1 → RelP K H0 pa σ F' H' S' w pq.2 → Apart v w pq.1 pq.2 → Q [v, w] H') (EW K W F0 H0 pa σ)
theorem RelP.unbase {K : PySem.W.Frag} {F0 H0 F H F' H' : Hp} {pa : Option Addr} {σ : L2.St} {S S' : Sq} {w : V} {q : PV} (A : Agr K F0 H0 pa σ F H S) (r : RelP K (hide σ S pa H) pa σ F' H' S' w q) : RelP K H0 pa σ F' H' S' w q := by
  cases q with
  | s k => exact r
  | v x => exact r
  | o b =>
    cases b with
    | l xs =>
      obtain ⟨t, us, rfl, h1, h2, h3, h4, h5, h6⟩ := r
      exact ⟨t, us, rfl, h1, h2, h3, A.hidden h4 h6, h5, h6⟩
    | un => exact False.elim r
    | d x => exact False.elim r
    | m kvs =>
      obtain ⟨t, us, rfl, h1, h2, h3, h4, h5, h6⟩ := r
      exact ⟨t, us, rfl, h1, h2, h3, A.hidden h4 h6, h5, h6⟩
    | pen => exact False.elim r
    | e c => exact False.elim r
    | sc ns => exact False.elim r
    | es cs => exact False.elim r
theorem pa_two (ha : DE X W a fa) (hb : DE X W b fb) (hs : starEach [a, b] X.env = (false, eval a X.env) :: starEach [b] X.env := by rfl) (hs2 : starEach [b] X.env = (false, eval b X.env) :: starEach [] X.env := by rfl) : PA X [a, b] (rd2 X.K W fa fb) := by
  refine PA.weak (pa_cons ha (pa_cons hb pa_nil hs2) hs) fun σ H Q z => ?_
  obtain ⟨F0, H0, pa, F, S, A, z⟩ := z
  rw [OutP.bind] at z
  refine ⟨F0, H0, pa, F, S, A, z.imp (fun p S1 z v F1 H1 x1 A1 r1 => ⟨F1, hide σ S1 pa H1, pa, F1, S1, A1.rebase, ?_⟩) fun _ _ z => z⟩
  rw [OutP.bind] at z
  refine z.imp (fun q S2 z w F2 H2 x2 B r2 => ?_) fun c S2 z F2 H2 B => z F2 H2 (A1.unbase B)
  have A2 := A1.unbase B
  refine z v w F2 H2 (x1.trans x2) A2 ?_ (RelP.unbase A1 r2) ?_
  · cases p with
    | s k => exact r1
    | v x => exact Dn.mono x2 r1
    | o b => exact OwnV.stay A1 B r1
  · show Apart v w p q
    cases p with
    | s k => trivial
    | v x => trivial
    | o b =>
      cases q with
      | s k => trivial
      | v x => trivial
      | o b' =>
        intro z
        subst z
        obtain ⟨t, ho, rfl, h1, h2, h3, h4, h5, h6⟩ := OwnV.open r1
        obtain ⟨t', ho', e, g1, g2, g3, g4, g5, g6⟩ := OwnV.open r2
        cases e
        rw [hide_of h5 h6, bareT_of h1 h3.notbl] at g4
        cases g4
def parF (i j : Nat) (fa fb : Sq → Out PV) : Sq → Fl := fun S => (fa S).fl fun p S1 => (fb S1).fl fun q S2 => match S2.res p with
  | some (c, S3) => (match S3.res q with
    | some (c', S4) => if i < S4.r.length ∧ j < S4.r.length then .nx { S4 with r := (S4.r.set i c).set j c' } else .no
    | none => .no)
  | none => .no
theorem fl_bind {α β : Type} {K : PySem.W.Frag} {F0 H0 : Hp} {pa : Option Addr} {σ : L2.St} {Z : Ends} {o : Out α} {k : α → Sq → Out β} {t : α → β → Sq → Fl} (z : FlP K W F0 H0 pa Z (o.fl fun a S => (k a S).fl fun b S' => t a b S')) :
    OutP (o.bind fun a S => (k a S).bind fun b S' => .ok (a, b) S') (fun ab S' => FlP K W F0 H0 pa Z (t ab.1 ab.2 S')) (EW K W F0 H0 pa σ) := by
  rw [OutP.bind]
  refine (fl_out (σ := σ) z).imp (fun a S z => ?_) fun _ _ z => z
  rw [OutP.bind]
  exact (fl_out (σ := σ) z).imp (fun b S z => z) fun _ _ z => z
/-- a, b = x, y; plain local names -/
theorem ds_par (i j : Nat) {px py pt : Pos} {kt k2 pt2} (C : Cq G k N sc X) (ha : DE X W a fa) (hb : DE X W b fb) (hi : N[i]? = some x := by rfl) (hj : N[j]? = some y := by rfl) (hij : i ≠ j := by decide)
    (hx : sc.names.lookup x = some .local := by rfl) (hy : sc.names.lookup y = some .local := by rfl)
    (hw : swappedStores [.Tuple [.Name x px, .Name y py] kt pt] (.Tuple [a, b] k2 pt2) X.env = pure (some [x, y]))
    (hs : swapsWithSole [.Tuple [.Name x px, .Name y py] kt pt] (.Tuple [a, b] k2 pt2) pos.line X.env = pure false := by rfl) (hst : starEach [a, b] X.env = (false, eval a X.env) :: starEach [b] X.env := by rfl) (hs2 : starEach [b] X.env = (false, eval b X.env) :: starEach [] X.env := by rfl) :
    DS X W (.Assign [.Tuple [.Name x px, .Name y py] kt pt] (.Tuple [a, b] k2 pt2) pos) (parF i j fa fb) := by
  refine PS.weak (L2.ps_par C.calm (by rw [C.names]; exact C.nd) (by rw [C.names]; exact hi) (by rw [C.names]; exact hj) hij (by rw [C.scope]; exact hx) (by rw [C.scope]; exact hy) (pa_two ha hb hst hs2) hw hs) fun Z σ H z => ?_
  obtain ⟨F0, H0, pa, F, S, A, z⟩ := z
  refine ⟨F0, H0, pa, F, S, A, (fl_bind (σ := σ) z).imp (fun pq S2 z v w F2 H2 x2 A2 r1 r2 ap => ⟨v, w, rfl, ?_⟩) fun _ _ z => z⟩
  split at z
  · rename_i c S3 e1
    split at z
    · rename_i c' S4 e2
      split at z
      · rename_i hl
        obtain ⟨F', x', A'⟩ := A2.store2 r1 r2 ap e1 e2 hl.1 hl.2
        exact z _ F' H2 A'
      · exact z.elim
    · exact z.elim
  · exact z.elim
/-- a, b = x, y by a pair that is unpacked -/
theorem ds_parC (i j : Nat) {px py pt : Pos} {kt k2 pt2} (C : Cq G k N sc X) (ha : DE X W a fa) (hb : DE X W b fb) (hi : N[i]? = some x := by rfl) (hj : N[j]? = some y := by rfl)
    (hx : Loc sc x := by first | exact Or.inl rfl | exact Or.inr rfl) (hy : Loc sc y := by first | exact Or.inl rfl | exact Or.inr rfl) (hfx : X.fn x = true ∨ sc.names.lookup x = some .local) (hfy : X.fn y = true ∨ sc.names.lookup y = some .local)
    (hw : swappedStores [.Tuple [.Name x px, .Name y py] kt pt] (.Tuple [a, b] k2 pt2) X.env = pure none := by rfl)
    (hs : swapsWithSole [.Tuple [.Name x px, .Name y py] kt pt] (.Tuple [a, b] k2 pt2) pos.line X.env = pure false := by rfl) (hst : starEach [a, b] X.env = (false, eval a X.env) :: starEach [b] X.env := by rfl) (hs2 : starEach [b] X.env = (false, eval b X.env) :: starEach [] X.env := by rfl)
    (h1 : (assignEach [.Tuple [.Name x px, .Name y py] kt pt] X.env).map (·.2) = [assign (.Tuple [.Name x px, .Name y py] kt pt) X.env] := by rfl)
    (hn : (assignEach [.Name x px, .Name y py] X.env).length = 2 := by rfl) (hst' : (assignEach [.Name x px, .Name y py] X.env).findIdx? (·.1) = none := by rfl)
    (hq1 : (assignEach (.Name x px :: [.Name y py]) X.env).map (·.2) = assign (.Name x px) X.env :: (assignEach [.Name y py] X.env).map (·.2) := by rfl) (hq2 : (assignEach (.Name y py :: []) X.env).map (·.2) = assign (.Name y py) X.env :: (assignEach [] X.env).map (·.2) := by rfl) :
    DS X W (.Assign [.Tuple [.Name x px, .Name y py] kt pt] (.Tuple [a, b] k2 pt2) pos) (parF i j fa fb) := by
  refine PS.weak (ps_asg (pe_tup (pa_two ha hb hst hs2)) (dg_tp [i, j] C (dgs_cons i C hi hx hfx (dgs_cons j C hj hy hfy dgs_nil hq2) hq1) hn hst') hs hw h1) fun Z σ H z => ?_
  obtain ⟨F0, H0, pa, F, S, A, z⟩ := z
  refine ⟨F0, H0, pa, F, S, A, (fl_bind (σ := σ) z).imp (fun pq S2 z v w F2 H2 x2 A2 r1 r2 ap => ⟨by show 2 ≤ sizeLine; decide, fun p hp => ?_⟩) fun _ _ z => z⟩
  refine ⟨p, [v, w], rfl, SqT.of upd_same, rfl, v, [w], rfl, w, [], rfl, rfl, ?_⟩
  have up : ∀ {u q}, RelP X.K H0 pa σ F2 H2 S2 u q → RelP X.K H0 pa σ F2 (upd H2 p (.tup [v, w])) S2 u q := fun {u q} r => by
    cases q with
    | s k => exact r
    | v x => exact r
    | o b => exact OwnV.up A2 r hp
  split at z
  · rename_i c S3 e1
    split at z
    · rename_i c' S4 e2
      split at z
      · rename_i hl
        obtain ⟨F', x', A'⟩ := (A2.more (Ex.new hp)).store2 (up r1) (up r2) ap e1 e2 hl.1 hl.2
        exact z _ F' _ A'
      · exact z.elim
    · exact z.elim
  · exact z.elim
end
end Q3
/-! Q3k: methods, repr, enumerate of a tuple. -/
namespace Q3
open PySem PySem.Spec PyProof.Rows L2
variable [TabSet]
section
variable {X : Cx} {W : WX} {a b c e o : Expr} {fa fb fc : Sq → Out PV} {pos : Pos} {N : List Str} {sc : Scope} {k : Nat} {G : Gb} {x : Str}
/-! ### text.m(e), list.m(e) -/
def tyOk : String → Option D → Bool
  | "str", some (.str _) => true
  | "list", some (.list _) => true
  | _, _ => false
theorem tyOk_some {T : String} {o : Option D} (h : tyOk T o = true) : ∃ d, o = some d := by
  cases o with
  | some d => exact ⟨d, rfl⟩
  | none =>
    unfold tyOk at h
    split at h <;> first | contradiction | (rename_i e; cases e) | skip
theorem Dv.tyV {K : PySem.W.Frag} {F H : Hp} {v : V} {d : D} {T : String} (sub : Ex F H) (h : Dv K F H v d) (t : tyOk T (some d) = true) : tyV K T v H := by
  unfold tyOk at t
  split at t
  · rename_i z e
    cases e
    rw [h.str]
    rfl
  · rename_i z e
    cases e
    obtain ⟨a, vs, rfl, h1, _⟩ := h.list sub
    exact .inl ⟨rfl, vs, SqL.of h1⟩
  · cases t
def DoesM (K : PySem.W.Frag) (r : V → List V → Hp → VK → Prop) (g : D → D → Option PV) : Prop := ∀ F H x y d e z Q, Ex F H → Dv K F H x d → Dv K F H y e → g d e = some z → (∀ v H', Gv K F H z v H' → Q v H') → r x [y] H Q
def fM1 (T : String) (g : D → D → Option PV) (fa fb : Sq → Out PV) : Sq → Out PV := fun S => (fzF fa S).bind fun p S1 => if tyOk T (S1.val p) = true then (fzF fb S1).bind fun q S2 => (match S2.val p, S2.val q with
  | some x, some y => (match g x y with
    | some z => .ok z S2
    | none => .no)
  | _, _ => .no) else .no
theorem rd_m1 {K : PySem.W.Frag} {T : String} {r : V → List V → Hp → VK → Prop} {g : D → D → Option PV} (dz : DoesM K r g) {σ : L2.St} {H : Hp} {Q : VK} (z : rd K W (fM1 T g fa fb) σ H Q) : tBM K T r (rd K W (fzF fa)) (tCons (rd K W (fzF fb)) tNil) σ H Q := by
  obtain ⟨F0, H0, pa, F, S, A, z⟩ := z
  unfold fM1 at z
  rw [OutP.bind] at z
  unfold fzF at z
  rw [OutP.bind] at z
  refine ⟨F0, H0, pa, F, S, A, ?_⟩
  unfold fzF
  rw [OutP.bind]
  refine z.imp (fun p S1 z v F1 H1 x1 A1 r1 => ?_) fun _ _ z => z
  have z : OutP (if tyOk T (S1.val (fz p)) = true then ((fb S1).bind fun q S2 => .ok (fz q) S2).bind fun q S2 => (match S2.val (fz p), S2.val q with
    | some x, some y => (match g x y with
      | some z => Out.ok z S2
      | none => .no)
    | _, _ => .no) else .no) (TP K F0 H0 pa σ F Q) (EW K W F0 H0 pa σ) := z
  split at z
  · rename_i ht
    obtain ⟨d0, e0⟩ := tyOk_some ht
    rw [e0] at ht
    refine ⟨Dv.tyV A1.sub (A1.val r1 e0) ht, F0, H0, pa, F1, S1, A1, ?_⟩
    rw [OutP.bind] at z
    rw [OutP.bind] at z ⊢
    refine z.imp (fun q S2 z w F2 H2 x2 A2 r2 => ?_) fun _ _ z => z
    have z : OutP (match S2.val (fz p), S2.val (fz q) with
      | some x, some y => (match g x y with
        | some z => Out.ok z S2
        | none => .no)
      | _, _ => .no) (TP K F0 H0 pa σ F Q) (EW K W F0 H0 pa σ) := z
    show r v [w] H2 Q
    split at z
    · rename_i x y e1 e2
      split at z
      · rename_i u e3
        refine dz F2 H2 v w x y u Q A2.sub (A2.val (r1.fz_keep x2) e1) (A2.val r2 e2) e3 fun t H'' gv => ?_
        obtain ⟨F', xF, A', r'⟩ := A2.gives gv
        exact z t F' H'' (x1.trans (x2.trans xF)) A' r'
      · exact z.elim
    · exact z.elim
  · exact z.elim
theorem de_m1 {T id : String} {name : Str} {apos : Pos} {r : V → List V → Hp → VK → Prop} {g : D → D → Option PV} (pt : PlainAttrs T) (slot : Slot T name id) (hty : typeOf (.builtin id) = pure (.type "method_descriptor")) (hm : MtR X id r) (dz : DoesM X.K r g) (ho : DE X W o fa) (he : DE X W e fb)
    (hbase : attributeBase o name X.env (eval o X.env) = eval o X.env := by rfl)
    (hfew : ((backTo pos (starEach [e] X.env)).all (fun x => !x.1) && (backToKw pos (keywordEach [] X.env)).all (fun x => x.1.isSome)
      && decide ([e].length + ([] : List Keyword).length + (if ([] : List Keyword).isEmpty then 0 else 1) < 30)) = true := by rfl)
    (hline : (apos.endLine == pos.line) = true := by rfl) (hs : starEach [e] X.env = (false, eval e X.env) :: starEach [] X.env := by rfl) (hplain : (backTo pos (starEach [] X.env)).any (·.1) = false := by rfl) :
    DE X W (.Call (.Attribute o name apos) [e] [] pos) (fM1 T g fa fb) :=
  PE.weak (pe_bm pt slot hty hm (de_fz ho) (pa_cons (de_fz he) pa_nil hs) hbase hfew hline hs hplain) fun _ _ _ z => rd_m1 dz z
/-- text.m() -/
def fM0 (T : String) (g : D → Option PV) (fa : Sq → Out PV) : Sq → Out PV := fun S => (fzF fa S).bind fun p S1 => if tyOk T (S1.val p) = true then (match S1.val p with
  | some x => (match g x with
    | some z => .ok z S1
    | none => .no)
  | _ => .no) else .no
def DoesM0 (K : PySem.W.Frag) (r : V → List V → Hp → VK → Prop) (g : D → Option PV) : Prop := ∀ F H x d z Q, Ex F H → Dv K F H x d → g d = some z → (∀ v H', Gv K F H z v H' → Q v H') → r x [] H Q
theorem de_m0 {T id : String} {name : Str} {apos : Pos} {r : V → List V → Hp → VK → Prop} {g : D → Option PV} (pt : PlainAttrs T) (slot : Slot T name id) (hty : typeOf (.builtin id) = pure (.type "method_descriptor")) (hm : MtR X id r) (dz : DoesM0 X.K r g) (ho : DE X W o fa)
    (hbase : attributeBase o name X.env (eval o X.env) = eval o X.env := by rfl) (hline : (apos.endLine == pos.line) = true := by rfl) : DE X W (.Call (.Attribute o name apos) [] [] pos) (fM0 T g fa) := by
  refine PE.weak (pe_bm0 pt slot hty hm (de_fz ho) hbase hline) fun σ H Q z => ?_
  obtain ⟨F0, H0, pa, F, S, A, z⟩ := z
  unfold fM0 at z
  rw [OutP.bind] at z
  refine ⟨F0, H0, pa, F, S, A, z.imp (fun p S1 z v F1 H1 x1 A1 r1 => ?_) fun _ _ z => z⟩
  split at z
  · rename_i ht
    split at z
    · rename_i d e1
      rw [e1] at ht
      refine ⟨Dv.tyV A1.sub (A1.val r1 e1) ht, ?_⟩
      split at z
      · rename_i u e3
        refine dz F1 H1 v d u Q A1.sub (A1.val r1 e1) e3 fun t H'' gv => ?_
        obtain ⟨F', xF, A', r'⟩ := A1.gives gv
        exact z t F' H'' (x1.trans xF) A' r'
      · exact z.elim
    · exact z.elim
  · exact z.elim
/-! str.index, str.count, str.join, str.upper -/
def gSIndex : D → D → Option PV
  | .str a, .str b => (match Builtin.Str.occurrences a b 0 a.length 1 with
    | i :: _ => some (.v (.int (i : Nat)))
    | [] => none)
  | _, _ => none
theorem does_sindex {K : PySem.W.Frag} : DoesM K (fun x xs H Q => ∃ a b i rest, x = .str a ∧ xs = [.str b] ∧ Builtin.Str.occurrences a b 0 a.length 1 = i :: rest ∧ Q (.int (i : Nat)) H) gSIndex := by
  intro F H x y d e z Q sub hx hy hg h
  cases d <;> cases e <;> simp only [gSIndex] at hg <;> try (cases hg; done)
  split at hg
  · rename_i i rest q
    cases hg
    rw [hx.str, hy.str]
    exact ⟨_, _, i, rest, rfl, rfl, q, h _ _ (Gv.int _)⟩
  · cases hg
theorem de_sindex {apos : Pos} (ho : DE X W o fa) (he : DE X W e fb)
    (hbase : attributeBase o "index" X.env (eval o X.env) = eval o X.env := by rfl)
    (hfew : ((backTo pos (starEach [e] X.env)).all (fun x => !x.1) && (backToKw pos (keywordEach [] X.env)).all (fun x => x.1.isSome)
      && decide ([e].length + ([] : List Keyword).length + (if ([] : List Keyword).isEmpty then 0 else 1) < 30)) = true := by rfl)
    (hline : (apos.endLine == pos.line) = true := by rfl) (hs : starEach [e] X.env = (false, eval e X.env) :: starEach [] X.env := by rfl) (hplain : (backTo pos (starEach [] X.env)).any (·.1) = false := by rfl) :
    DE X W (.Call (.Attribute o "index" apos) [e] [] pos) (fM1 "str" gSIndex fa fb) := de_m1 F.plainAttrs_str F.slot_str_index F.type_str_index mt_sindex does_sindex ho he hbase hfew hline hs hplain
def strsOf : List D → Option (List Str)
  | [] => some []
  | .str b :: r => (strsOf r).map (b :: ·)
  | _ :: _ => none
theorem strsOf_eq : ∀ {ds : List D} {bs : List Str}, strsOf ds = some bs → ds = bs.map .str
  | [], bs, h => by cases h; rfl
  | d :: r, bs, h => by
    cases d <;> simp only [strsOf] at h <;> try (cases h; done)
    obtain ⟨b', e1, e2⟩ := Option.map_eq_some_iff.mp h
    subst e2
    rw [strsOf_eq e1]; rfl
theorem strsOf_map (bs : List Str) : strsOf (bs.map .str) = some bs := by
  induction bs with
  | nil => rfl
  | cons b bs ih => show (strsOf (bs.map PyData.str)).map (b :: ·) = _; rw [ih]; rfl
def gJoin : D → D → Option PV
  | .str a, .list ds => (match strsOf ds with
    | some ys => if (ys.map (·.length)).sum + ys.length * a.length ≤ 16777216 then some (.v (.str (Txt.join a ys))) else none
    | none => none)
  | _, _ => none
theorem does_join {K : PySem.W.Frag} : DoesM K (fun x xs H Q => ∃ a p, ∃ ys : List Str, x = .str a ∧ xs = [.ref p] ∧ (SqL K H p (ys.map V.str) ∨ SqT K H p (ys.map V.str)) ∧
    (ys.map (·.length)).sum + ys.length * a.length ≤ 16777216 ∧ Q (.str (Txt.join a ys)) H) gJoin := by
  intro F H x y d e z Q sub hx hy hg h
  cases d <;> cases e <;> simp only [gJoin] at hg <;> try (cases hg; done)
  split at hg
  · rename_i ys q
    split at hg
    · rename_i hz
      cases hg
      rw [hx.str]
      obtain ⟨l, vs, rfl, h1, h2⟩ := hy.list sub
      rw [strsOf_eq q] at h2
      exact ⟨_, l, ys, rfl, rfl, .inl (SqL.of (by rw [h1, h2.strs])), hz, h _ _ (Gv.str _)⟩
    · cases hg
  · cases hg
theorem de_join {apos : Pos} (ho : DE X W o fa) (he : DE X W e fb)
    (hbase : attributeBase o "join" X.env (eval o X.env) = eval o X.env := by rfl)
    (hfew : ((backTo pos (starEach [e] X.env)).all (fun x => !x.1) && (backToKw pos (keywordEach [] X.env)).all (fun x => x.1.isSome)
      && decide ([e].length + ([] : List Keyword).length + (if ([] : List Keyword).isEmpty then 0 else 1) < 30)) = true := by rfl)
    (hline : (apos.endLine == pos.line) = true := by rfl) (hs : starEach [e] X.env = (false, eval e X.env) :: starEach [] X.env := by rfl) (hplain : (backTo pos (starEach [] X.env)).any (·.1) = false := by rfl) :
    DE X W (.Call (.Attribute o "join" apos) [e] [] pos) (fM1 "str" gJoin fa fb) := de_m1 F.plainAttrs_str F.slot_str_join F.type_str_join mt_join does_join ho he hbase hfew hline hs hplain
def gUpper : D → Option PV
  | .str a => if a.length ≤ 5592405 then some (.v (.str (Txt.upper a))) else none
  | _ => none
theorem does_upper {K : PySem.W.Frag} : DoesM0 K (fun x xs H Q => ∃ a, x = .str a ∧ xs = [] ∧ a.length ≤ 5592405 ∧ Q (.str (Txt.upper a)) H) gUpper := by
  intro F H x d z Q sub hx hg h
  cases d <;> simp only [gUpper] at hg <;> try (cases hg; done)
  split at hg
  · rename_i hz
    cases hg
    rw [hx.str]
    exact ⟨_, rfl, rfl, hz, h _ _ (Gv.str _)⟩
  · cases hg
theorem de_upper {apos : Pos} (ho : DE X W o fa) (hbase : attributeBase o "upper" X.env (eval o X.env) = eval o X.env := by rfl) (hline : (apos.endLine == pos.line) = true := by rfl) : DE X W (.Call (.Attribute o "upper" apos) [] [] pos) (fM0 "str" gUpper fa) :=
  de_m0 F.plainAttrs_str F.slot_str_upper F.type_str_upper mt_upper does_upper ho hbase hline
/-! ### repr(e) -/
def gRepr (d : D) : Option PV := if d.showable = true ∧ d.hasDict = false ∧ d.depth ≤ 64 ∧ d.shown.length ≤ sizeLine then some (.v (.str d.shown)) else none
def rRepr (K : PySem.W.Frag) : List V → Hp → VK → Prop := fun xs H Q => ∃ x d, xs = [x] ∧ Dn K H x d ∧ d.showable = true ∧ d.hasDict = false ∧ d.depth ≤ 64 ∧ d.shown.length ≤ sizeLine ∧ Q (.str d.shown) H
theorem call_repr (hg : X.A.guards = some []) (hu : X.A.units + 65 < cLine) : CallR X (.builtin "repr") (rRepr X.K) := by
  intro pins s σ H xs us Q I r h
  obtain ⟨x, d, rfl, hx, h1, h2, h3, h4, q⟩ := h
  obtain ⟨u, rfl, rx⟩ := vals1 r
  obtain ⟨as, rd⟩ := Dn.reads I d x u hx rx
  cases hx with
  | non =>
    cases rx
    exact PySem.P.repr_of_none ⟨.str _, H, I.tok _, ⟨_, rfl⟩, q⟩
  | bl b =>
    cases rx
    refine PySem.P.repr_of_bool ⟨.str _, H, I.tok _, ⟨_, rfl⟩, ?_⟩
    cases b <;> exact q
  | int i =>
    obtain ⟨t, rfl⟩ := rx
    exact PySem.P.repr_of_int (by simpa [PyData.showable] using h1) ⟨.str _, H, I.tok _, ⟨_, rfl⟩, q⟩
  | str z =>
    obtain ⟨t, rfl⟩ := rx
    exact PySem.P.repr_of_str ⟨.str _, H, I.tok _, ⟨_, rfl⟩, q⟩ h4
  | lst e1 e2 =>
    cases rx
    exact repr_of_reads' rd h1 (PyData.noDict_hsm h2) hg (by omega) (fun _ _ e => e) (fun h' u tk hk => ⟨.str _, H, I.kept hk, ⟨_, rfl⟩, q⟩) h4
  | tup e1 e2 =>
    cases rx
    exact repr_of_reads' rd h1 (PyData.noDict_hsm h2) hg (by omega) (fun _ _ e => e) (fun h' u tk hk => ⟨.str _, H, I.kept hk, ⟨_, rfl⟩, q⟩) h4
  | dctK e1 _ _ _ => cases rx; exact repr_of_reads' rd h1 (PyData.noDict_hsm h2) hg (by omega) (fun _ _ e => e) (fun h' u tk hk => ⟨.str _, H, I.kept hk, ⟨_, rfl⟩, q⟩) h4
  | dctE e1 _ _ _ _ => cases rx; exact repr_of_reads' rd h1 (PyData.noDict_hsm h2) hg (by omega) (fun _ _ e => e) (fun h' u tk hk => ⟨.str _, H, I.kept hk, ⟨_, rfl⟩, q⟩) h4
theorem does_repr {K : PySem.W.Frag} : Does1 K (rRepr K) gRepr := by
  intro F H x d z Q sub hx hg h
  unfold gRepr at hg
  split at hg
  · rename_i q
    cases hg
    exact ⟨x, d, rfl, hx.dn sub, q.1, q.2.1, q.2.2.1, q.2.2.2, h _ _ (Gv.str _)⟩
  · cases hg
end
end Q3
/-! Q3l: enumerate of a tuple, range(a, b). -/
namespace PySem
open Sem (wp)
open AutoSeq1 (wpAny_loadPart')
theorem meets_enumerate_newT (l : Addr) (items : Array Value) (n : Nat) (dct : Option Addr) (sl : Array (Option Value)) :
    Meets (Builtin.«enumerate.__new__» ⟨[.type "enumerate", .ref l], []⟩) (fun _ R s => s.heap.get? l = some { cls := .type "tuple", dict := dct, data := .seq items n, slots := sl } ∧
      R (.ok (.ret (.ref (s.heap.push { cls := .type "tuple_iterator", data := .fields #[.ref l, .int 0 0] }).objs.size)))
        { s with heap := (s.heap.push { cls := .type "tuple_iterator", data := .fields #[.ref l, .int 0 0] }).push { cls := .type "enumerate", data := .fields #[.none, .bool false, .ref s.heap.objs.size, rawInt 0, .none, .none] } }) :=
  .of_wp fun prog w A R s h => by
    obtain ⟨hp, g, d, tk, os⟩ := s; obtain ⟨hl, h⟩ := h
    have hsub := sub_enumerate
    have hL : Heap.IsTuple (Shared.heap ⟨hp, g, d, tk, os⟩) l items := ⟨_, hl, rfl, n, rfl⟩
    wp_walk using wpAny_loadPart' hl
    refine wpAny_stack_any fun st => wpAny_pure ?_
    split
    · rename_i c _ _ _ _ _
      cases (c == Value.type "enumerate")
      · wp_walk using wpAny_loadPart' hl, wpAny_pyIter_tuple hL
        exact ⟨_, rfl, h⟩
      · wp_walk using wpAny_loadPart' hl, wpAny_pyIter_tuple hL
        exact ⟨_, rfl, h⟩
    · wp_walk using wpAny_loadPart' hl, wpAny_pyIter_tuple hL
      exact ⟨_, rfl, h⟩
section
variable {prog : Program} {w : World} {A : Around} {E : Value → Shared → Prop} {s : Shared}
theorem call_enumerate_tuple {l : Addr} {items : Array Value} {Q : Value → Shared → Prop} (hL : s.heap.IsTuple l items)
    (h : ∀ h', IsEnum h' (s.heap.objs.size + 1) s.heap.objs.size 0 .none → h'.IsTupleIter s.heap.objs.size l 0 → h'.objs.size = s.heap.objs.size + 2 →
      (∀ b o, s.heap.get? b = some o → h'.get? b = some o) → Q (.ref (s.heap.objs.size + 1)) { s with heap := h' }) :
    wpAny (model prog w) A (call (.type "enumerate") [.ref l]) Q E s := by
  obtain ⟨⟨c, dct, dt, sl⟩, hl, hc, n, hd⟩ := hL
  replace hc : c = .type "tuple" := hc
  replace hd : dt = .seq items n := hd
  subst hc hd
  refine callType_new F.called_enumerate (by decide) (F.typeCall_enumerate_1 _) (F.newCall_enumerate_1 _) (fun obj => F.args_object_init_2 obj _) F.entry_enumerate_new
    (meets_enumerate_newT l items n dct sl) ⟨hl, ?_⟩
  have hz : (s.heap.push { cls := .type "tuple_iterator", data := .fields #[.ref l, .int 0 0] }).objs.size = s.heap.objs.size + 1 := Heap.size_push ..
  show _ ∧ _
  rw [hz]
  have he : IsEnum ((s.heap.push { cls := .type "tuple_iterator", data := .fields #[.ref l, .int 0 0] }).push
      { cls := .type "enumerate", data := .fields #[.none, .bool false, .ref s.heap.objs.size, rawInt 0, .none, .none] }) (s.heap.objs.size + 1) s.heap.objs.size 0 .none := by
    have := Heap.get?_push_size (s.heap.push { cls := .type "tuple_iterator", data := .fields #[.ref l, .int 0 0] })
      (o := { cls := .type "enumerate", data := .fields #[.none, .bool false, .ref s.heap.objs.size, rawInt 0, .none, .none] }) rfl
    rw [hz] at this; exact this
  refine ⟨⟨_, he, rfl⟩, h _ he ⟨_, Heap.get?_push_of_some _ (Heap.get?_push_size _ rfl), rfl, rfl⟩ (by rw [Heap.size_push, hz]) fun b o x => Heap.get?_push_of_some _ (Heap.get?_push_of_some _ x)⟩
end
end PySem
namespace Q3
open PySem PySem.Spec PyProof.Rows L2
variable [TabSet]
def IteT (K : PySem.W.Frag) (a : Addr) : It :=
  ⟨fun i H => ∃ (xs : List V) (x : V), SqT K H a xs ∧ xs[i]? = some x, fun i H v H' => ∃ T x, v = .ref T ∧ H T = none ∧ H' = upd H T (.tup [.int (i : Nat), x]) ∧ ∀ xs, SqT K H a xs → xs[i]? = some x, fun i H => ∃ xs : List V, SqT K H a xs ∧ xs.length ≤ i⟩
theorem turn_enumT {P : Program} {w : World} {K : PySem.W.Frag} {elts : List Expr} {kk : Nat} {tpos : Pos} (a e it : Addr) (hai : a ≠ it) :
    Turn P w K (.Tuple elts kk tpos) (IteT K a) [e, it] e (fun i h => (∃ old, IsEnum h e it ((i : Nat) : Int) old) ∧ h.IsTupleIter it a i ∧ e ≠ it) where
  mem := by simp
  obj := fun i h st b hb => by
    obtain ⟨⟨old, he⟩, ⟨o, ho, hc, hd⟩, _⟩ := st
    have e' : b = e ∨ b = it := by simpa using hb
    rcases e' with z | z
    · rw [z]; exact ⟨_, he, fun v q => nomatch q⟩
    · rw [z]; exact ⟨o, ho, fun v q => by rw [hd] at q; cases q⟩
  keep := fun i h h' st k => let ⟨⟨old, he⟩, hi, hne⟩ := st; ⟨⟨old, k e (by simp) _ he⟩, hi.at fun o q => k it (by simp) o q, hne⟩
  item := by
    intro X hP hw hK hc i pins s σ H E I hf st hg
    subst hP hw hK
    obtain ⟨⟨old, he⟩, hit, hne⟩ := st
    obtain ⟨xs, x, hq, hx⟩ := hg
    obtain ⟨its, rv, p, hz⟩ := I.tuple hq
    obtain ⟨u, hu, ru⟩ := rv.get hx
    have hel : e < s.heap.objs.size := Heap.lt_size he
    have hil : it < s.heap.objs.size := by obtain ⟨_, q, _⟩ := hit; exact Heap.lt_size q
    have hlt : i < its.toArray.size := by
      have := (List.getElem?_eq_some_iff.mp hu).1
      simpa using this
    have hea : e ≠ a := fun z => by
      obtain ⟨o, ho, hcl, _⟩ := id p
      rw [← z, he] at ho
      cases ho
      exact absurd (show Value.type "enumerate" = Value.type "tuple" from hcl) (by decide)
    refine wpAny_pyNext_enum_itemD (Draws.tuple (A := X.A.in1) (by exact I.ok.hd hc) it a hai its.toArray) he ⟨hit, p⟩ hlt hne (by simpa using ⟨hne, hea⟩) fun y h' tk hy ho hst' hT hsz hk => ?_
    have ey : y = u := by
      have : its.toArray[i]? = some y := hy
      rw [List.getElem?_toArray, hu] at this
      exact (Option.some.inj this).symm
    subst ey
    refine ⟨_, rfl, wpAny_letOwnedTupleGo_enum (s := { s with heap := h', toks := tk + 1 }) ho fun h'' he' sb => ?_⟩
    have hT2 : h''.get? s.heap.objs.size = some { cls := .type "tuple", data := .seq #[.int i tk, y] } := (sb.2 _ (Nat.ne_of_gt hel)).trans hT
    have new : ObjOk X.prog X.w (upd H s.heap.objs.size (.tup [.int (i : Nat), x])) h'' s.heap.objs.size (.tup [.int (i : Nat), x]) :=
      ⟨by show 2 ≤ sizeLine; decide, [.int i tk, y], .cons ⟨_, rfl⟩ (.cons ru .nil), ⟨_, hT2, rfl, _, rfl⟩⟩
    have I1 : Inv X pins σ (upd H s.heap.objs.size (.tup [.int (i : Nat), x])) { s with heap := h'', toks := tk + 1 } :=
      I.turnedNew (ch := [e, it]) (fun b ob hb q => (sb.2 b (fun z => hb (by simp [z]))).trans (hk b ob (fun z => hb (by simp [z])) (fun z => hb (by simp [z])) q)) hf (Nat.le_refl _) new
    refine ⟨.ref s.heap.objs.size, _, I1, rfl, ⟨_, x, rfl, I.hok.fresh (Nat.le_refl _), rfl, fun ys hy => by rw [I.tuple_inj hy hq]; exact hx⟩, ⟨⟨y, ?_⟩, hst'.1.at fun o q => (sb.2 it (Ne.symm hne)).trans q, hne⟩, fun b hb => ?_⟩
    · have e1 : ((i + 1 : Nat) : Int) = (i : Int) + 1 := by omega
      rw [e1]; exact he'
    · have hb' : b < s.heap.objs.size := by
        have e' : b = e ∨ b = it := by simpa using hb
        rcases e' with z | z
        · rw [z]; exact hel
        · rw [z]; exact hil
      rw [upd_ne (Nat.ne_of_lt hb')]
      exact (hf b hb).1
  done := by
    intro X hP hw hK hc i pins s σ H E I hf st hg
    subst hP hw hK
    obtain ⟨⟨old, he⟩, hit, hne⟩ := st
    obtain ⟨xs, hq, hx⟩ := hg
    obtain ⟨its, rv, p, hz⟩ := I.tuple hq
    obtain ⟨f0, f1, f2, f3, f4, f5⟩ := hf it (by simp)
    have hl := rv.length
    -- the state is at its end, seen as the end of its first items
    have D := Draws.tuple (prog := X.prog) (w := X.w) (A := X.A.in1) (by exact I.ok.hd hc) it a hai its.toArray
    have hT : s.TypeIs (.ref e) "enumerate" := ⟨_, he, rfl⟩
    unfold pyNext
    refine wpAny_bind (wpAny_attempt (wpAny_callSpecial?_slot (name := Str.ofString "__next__") hT F.slot_enumerate_next
      (wpAny_call_entry F.slot_enumerate_next hT F.entry_enumerate_next ?_ (F.args_enumerate_next_1 _))))
    show wpAny _ _ (field (.ref e) 2 >>= _) _ _ _
    refine wpAny_bind (wpAny_field he rfl (x := .ref it) rfl ?_)
    refine wpAny_bind (wpAny_nextOf_tuple_end (by exact I.ok.hd hc) hit p (by simp; omega) fun h' x he' hx' => ?_)
    obtain ⟨o, ho, hc'⟩ := hx'
    refine wpAny_bind (wpAny_isInstance (T := "StopIteration") (b := true) ⟨o, ho, hc'⟩ isSubtype_stop ?_)
    exact wpAny_pure ⟨rfl, I.turned (t' := s.toks) (fun b o hb q => he' b o hb q) f0 f1 f3 f4 f5⟩
  self := fun A i s Q E st h => let ⟨⟨_, he⟩, _⟩ := st; wpAny_pyIter_enum he h
def iEnumT (K : PySem.W.Frag) (ta : TA) : TI := fun σ H R => ta σ H fun vs H1 => ∃ a xs, vs = [.ref a] ∧ SqT K H1 a xs ∧ R (IteT K a) H1
theorem pi_enumT {X : Cx} {e : Expr} {ta : TA} {p pos tpos : Pos} {elts : List Expr} {kk : Nat} (hg : Gl X "enumerate") (hm : X.mg "enumerate" = none) (ha : PA X [e] ta) (hs : starEach [e] X.env = [(false, eval e X.env)] := by rfl) :
    PI X (.Tuple elts kk tpos) (.Call (.Name "enumerate" p) [e] [] pos) (iEnumT X.K ta) := by
  refine ⟨fun pins s σ H R I h => ?_⟩
  refine Call_ (ld_blt I hg hm boot_enumerate (PyProof.Rows.callWith_type1 (thn (ha.run pos pins s σ H _ I h) fun us s1 ⟨vs, H1, I1, r1, q1⟩ => ?_) hs rfl))
  obtain ⟨a, xs, ex, hq, q⟩ := q1
  subst ex
  cases r1 with
  | cons r rr =>
    cases rr
    cases r
    obtain ⟨its, rv, p', hz⟩ := I1.tuple hq
    have hlt : a < s1.heap.objs.size := by obtain ⟨o, ho, _⟩ := id p'; exact Heap.lt_size ho
    refine PySem.call_enumerate_tuple (show s1.heap.IsTuple a its.toArray from p') fun h' he hit hsz hk => wpAny_pyIter_enum he ?_
    have I2 : Inv X pins σ H1 { s1 with heap := h' } := I1.kept (t' := s1.toks) hk
    refine ⟨s1.heap.objs.size + 1, [s1.heap.objs.size + 1, s1.heap.objs.size], _, _, H1, rfl, I2, turn_enumT a (s1.heap.objs.size + 1) s1.heap.objs.size (Nat.ne_of_lt hlt), ⟨⟨.none, he⟩, hit, Nat.succ_ne_self _⟩, fun b hb => ?_, q⟩
    have e' : b = s1.heap.objs.size + 1 ∨ b = s1.heap.objs.size := by simpa using hb
    have hle : s1.heap.objs.size ≤ b := by
      rcases e' with z | z
      · rw [z]; exact Nat.le_add_right _ _
      · rw [z]; exact Nat.le_refl _
    exact I1.fpOk hle (I1.hok.fresh hle)
theorem yields_enumT {K : PySem.W.Frag} {F : Hp} {a : Addr} {vs : List V} {ds : List D} (h : F a = some (.tup vs)) (hd : DnAll K F vs ds) : Yields K F (IteT K a) (enumD 0 ds) where
  stop := fun H e => ⟨vs, SqT.of (e _ _ h), by rw [enumD_length, hd.length]; exact Nat.le_refl _⟩
  go := fun i H e hi => by
    rw [enumD_length] at hi
    obtain ⟨v, e1, _⟩ := hd.get (List.getElem?_eq_getElem hi)
    exact ⟨vs, v, SqT.of (e _ _ h), e1⟩
  yld := fun i H x H' d e hd' y => by
    obtain ⟨T, v, rfl, hT, rfl, q⟩ := y
    rw [enumD_get] at hd'
    obtain ⟨d', e1, e2⟩ := Option.map_eq_some_iff.mp hd'
    obtain ⟨w, e3, e4⟩ := hd.get e1
    have z := q vs (SqT.of (e _ _ h))
    rw [e3] at z; cases z
    subst e2
    rw [Nat.zero_add]
    exact .tup hT (.cons (.int _) (.cons e4 .nil))
section
variable {X : Cx} {W : WX} {a b c e tg : Expr} {fa fb fc : Sq → Out PV} {pos : Pos} {N : List Str} {sc : Scope} {k : Nat} {G : Gb}
/-- enumerate(xs), a list or a tuple -/
def enumA (fa : Sq → Out PV) : Sq → Out (List D) := fun S => (fzF fa S).bind fun p S1 => match S1.keep p with
  | some (.list xs, S2) => .ok (enumD 0 xs) S2
  | some (.tuple xs, S2) => .ok (enumD 0 xs) S2
  | _ => .no
theorem di_enumA {p : Pos} {elts : List Expr} {kk : Nat} {tpos : Pos} (hg : Gl X "enumerate") (hm : X.mg "enumerate" = none) (ha : DE X W a fa) (hs : starEach [a] X.env = [(false, eval a X.env)] := by rfl) (hst : starEach [a] X.env = (false, eval a X.env) :: starEach [] X.env := by rfl) :
    DI X W (.Tuple elts kk tpos) (.Call (.Name "enumerate" p) [a] [] pos) (enumA fa) := by
  refine ⟨fun pins s σ H R I h => ?_⟩
  obtain ⟨F0, H0, pa, F, S, A, z⟩ := h
  unfold enumA at z
  cases o : fzF fa S with
  | no => rw [o] at z; exact z.elim
  | ex c S' =>
    rw [o] at z
    refine (pi_enum hg hm (pa_cons (de_fz ha) pa_nil hst) hs).run pins s σ H R I ⟨F0, H0, pa, F, S, A, ?_⟩
    rw [o]
    exact z
  | ok p S1 =>
    rw [o] at z
    have z : OutP (match S1.keep p with
      | some (.list xs, S2) => Out.ok (enumD 0 xs) S2
      | some (.tuple xs, S2) => .ok (enumD 0 xs) S2
      | _ => .no) (fun ds S' => ∀ J F' H', Ex F F' → Agr X.K F0 H0 pa σ F' H' S' → Yields X.K F' J ds → R J H') (EW X.K W F0 H0 pa σ) := z
    split at z
    · rename_i xs S2 q
      refine (pi_enum hg hm (pa_cons (de_fz ha) pa_nil hst) hs).run pins s σ H R I ⟨F0, H0, pa, F, S, A, ?_⟩
      rw [o]
      intro v F1 H1 x1 A1 r1
      obtain ⟨F2, x2, A2, d2⟩ := A1.keep r1 q
      cases d2 with
      | lst h1 h2 => exact ⟨_, _, rfl, SqL.of (A2.sub _ _ h1), z _ F2 H1 (x1.trans x2) A2 (yields_enum h1 h2)⟩
    · rename_i xs S2 q
      refine (pi_enumT hg hm (pa_cons (de_fz ha) pa_nil hst) hs).run pins s σ H R I ⟨F0, H0, pa, F, S, A, ?_⟩
      rw [o]
      intro v F1 H1 x1 A1 r1
      obtain ⟨F2, x2, A2, d2⟩ := A1.keep r1 q
      cases d2 with
      | tup h1 h2 => exact ⟨_, _, rfl, SqT.of (A2.sub _ _ h1), z _ F2 H1 (x1.trans x2) A2 (yields_enumT h1 h2)⟩
    · exact z.elim
/-- range(a, b) -/
def rng2F (fa fb : Sq → Out PV) : Sq → Out (List D) := fun S => (fzF fa S).bind fun p S1 => (fzF fb S1).bind fun q S2 => match S2.val p, S2.val q with
  | some (.int i), some (.int j) => if -(2 ^ 62) ≤ i ∧ i < 2 ^ 62 ∧ -(2 ^ 62) ≤ j ∧ j < 2 ^ 62 then .ok (rngD i (j - i).toNat) S2 else .no
  | _, _ => .no
theorem di_range2 {p : Pos} (hg : Gl X "range") (hm : X.mg "range" = none) (ha : DE X W a fa) (hb : DE X W b fb) (hs : starEach [a, b] X.env = [(false, eval a X.env), (false, eval b X.env)] := by rfl) (hs2 : starEach [b] X.env = [(false, eval b X.env)] := by rfl)
    (h1 : starEach [a, b] X.env = (false, eval a X.env) :: starEach [b] X.env := by rfl) (h2 : starEach [b] X.env = (false, eval b X.env) :: starEach [] X.env := by rfl) : DI X W tg (.Call (.Name "range" p) [a, b] [] pos) (rng2F fa fb) := by
  refine ⟨fun pins s σ H R I h => (pi_range2 (tg := tg) hg hm (pa_cons (de_fz ha) (pa_cons (de_fz hb) pa_nil h2) h1) hs hs2).run pins s σ H R I ?_⟩
  obtain ⟨F0, H0, pa, F, S, A, z⟩ := h
  unfold rng2F fzF at z
  rw [OutP.bind, OutP.bind] at z
  refine ⟨F0, H0, pa, F, S, A, ?_⟩
  unfold fzF
  rw [OutP.bind]
  refine z.imp (fun p S1 z v F1 H1 x1 A1 r1 => ⟨F0, H0, pa, F1, S1, A1, ?_⟩) fun _ _ z => z
  have z : OutP (((fb S1).bind fun q S2 => .ok (fz q) S2).bind fun q S2 => match S2.val (fz p), S2.val q with
    | some (.int i), some (.int j) => if -(2 ^ 62) ≤ i ∧ i < 2 ^ 62 ∧ -(2 ^ 62) ≤ j ∧ j < 2 ^ 62 then Out.ok (rngD i (j - i).toNat) S2 else .no
    | _, _ => .no) (fun ds S' => ∀ J F' H', Ex F F' → Agr X.K F0 H0 pa σ F' H' S' → Yields X.K F' J ds → R J H') (EW X.K W F0 H0 pa σ) := z
  rw [OutP.bind, OutP.bind] at z
  rw [OutP.bind]
  refine z.imp (fun q S2 z w F2 H2 x2 A2 r2 => ?_) fun _ _ z => z
  have z : OutP (match S2.val (fz p), S2.val (fz q) with
    | some (.int i), some (.int j) => if -(2 ^ 62) ≤ i ∧ i < 2 ^ 62 ∧ -(2 ^ 62) ≤ j ∧ j < 2 ^ 62 then Out.ok (rngD i (j - i).toNat) S2 else .no
    | _, _ => .no) (fun ds S' => ∀ J F' H', Ex F F' → Agr X.K F0 H0 pa σ F' H' S' → Yields X.K F' J ds → R J H') (EW X.K W F0 H0 pa σ) := z
  split at z
  · rename_i i j e1 e2
    split at z
    · rename_i hz
      exact ⟨i, j, by rw [(A2.val (r1.fz_keep x2) e1).int, (A2.val r2 e2).int], ⟨hz.1, hz.2.1, hz.2.2.1, hz.2.2.2⟩, z _ F2 H2 (x1.trans x2) A2 yields_rng⟩
    · exact z.elim
  · exact z.elim
end
end Q3
/-! Q3m: sorted(set(text)), sorted(set(tuple of ints)). -/
namespace Q3
open PySem PySem.Spec PyProof.Rows L2
open PySem.Froz (sing is_str)
/-! ### sets of signs -/
def keyC (e : Int × Value) : Nat := match e.2 with
  | .str k _ => k.cps.getD 0 0
  | _ => 0
def GoodC (w : World) (e : Int × Value) : Prop := ∃ c tk, e.2 = Value.str (sing c) tk ∧ e.1 = hashStr w (sing c)
/-- the set of the signs l at a -/
def SetC (w : World) (h : Heap) (a : Addr) (l : List Nat) : Prop :=
  ∃ o es ep t, h.get? a = some o ∧ o.ExactSet ∧ o.data = .set es ep t ∧ (∀ e ∈ es.toList, GoodC w e) ∧ (es.toList.map keyC).Perm l ∧ l.Nodup ∧ l.length < scanBound ∧ t.fits es.size = true ∧ Ris t.place.toList ∧ (w.params.followText "set-order" = true ∨ t.led = true)
theorem sing_inj {c d : Nat} (h : sing c = sing d) : c = d := by
  have q2 : [c] = [d] := congrArg (fun y : Str => y.cps.toList) h
  exact (List.cons.inj q2).1
theorem keyC_of {w : World} {e : Int × Value} {c : Nat} {tk : Tok} (h : e.2 = Value.str (sing c) tk) : keyC e = c := by
  unfold keyC
  rw [h]
  rfl
section
variable {P : Program} {w : World} {h h' : Heap} {a : Addr} {l : List Nat}
theorem SetC.at (R : SetC w h a l) (k : ∀ o, h.get? a = some o → h'.get? a = some o) : SetC w h' a l := by
  obtain ⟨o, es, ep, t, ho, r⟩ := R
  exact ⟨o, es, ep, t, k o ho, r⟩
theorem goodC_elems {xs : List (Int × Value)} (g : ∀ e ∈ xs, GoodC w e) : ElemsOf (strKind P w) xs := fun e he => by
  obtain ⟨c, tk, h1, h2⟩ := g e he
  exact ⟨⟨sing c, by rw [h1]; exact is_str _ _, h2⟩, by rw [h1] <;> rfl⟩
theorem goodC_is {e : Int × Value} (g : GoodC w e) (c : Nat) : (strKind P w).is (sing c) e.2 = true ↔ keyC e = c := by
  obtain ⟨c0, tk, h1, _⟩ := g
  rw [keyC_of (w := w) h1, h1]
  show (sing c0 == sing c) = true ↔ c0 = c
  rw [beq_iff_eq]
  exact ⟨sing_inj, fun e => by rw [e]⟩
end
section
variable {P : Program} {w : World} {A : Around} {E : Value → Shared → Prop} {s : Shared} {a : Addr} {l : List Nat}
theorem setC_tail {g : Bool → Sem Unit} (hg : ∀ (b : Bool) (s₁ : Shared) (Q' : Unit → Shared → Prop), Q' () s₁ → wpAny (model P w) A (g b) Q' E s₁)
    {o : Obj} {es : Array (Int × Value)} {ep : Nat} {t : SetTable} (ho : s.heap.get? a = some o) (hex : o.ExactSet) (hd : o.data = .set es ep t)
    {es1 : Array (Int × Value)} {t2 : SetTable} {l' : List Nat} (g1 : ∀ e ∈ es1.toList, GoodC w e) (p1 : (es1.toList.map keyC).Perm l') (nd1 : l'.Nodup)
    (hb1 : l'.length < scanBound) (hf2 : t2.fits es1.size = true) (hr : Ris t2.place.toList) (hl : w.params.followText "set-order" = true ∨ t2.led = true) {wasDummy : Bool} {R : Option Bool → Shared → Prop}
    (hR : ∀ h', Heap.SameBut a s.heap h' → SetC w h' a l' → R (some true) { s with heap := h' }) :
    wpAny (model P w) A (do
        storeSet a es1 t2
        if (!wasDummy && t2.tooFull) = true then do
            g (relayAll t2 es1 (SetTable.grown es1.size)).2.2
            storeSet a (relayAll t2 es1 (SetTable.grown es1.size)).1 (relayAll t2 es1 (SetTable.grown es1.size)).2.1
            pure (some true)
          else pure (some true)) R E s := by
  have hsz1 : es1.size = l'.length := by rw [← Array.length_toList, ← p1.length_eq, List.length_map]
  refine wpAny_bind (wpAny_storeSet_of ho hd ?_ (fits_of_scanBound (by rw [hsz1]; exact hb1)))
  have ho1 := L2.store_at (es' := es1) (t' := t2) ho hd
  have sb1 := Heap.SameBut.update s.heap a (Obj.putSet es1 t2)
  split
  · have pm := relayAll_perm t2 es1 (SetTable.grown es1.size)
    have hf3 := relayAll_fits t2 es1 (SetTable.grown es1.size)
    have hr3 := relayAll_ris t2 es1 (SetTable.grown es1.size)
    have hl3 := relayAll_led t2 es1 (SetTable.grown es1.size)
    generalize relayAll t2 es1 (SetTable.grown es1.size) = Z at pm hf3 hr3 hl3 ⊢
    obtain ⟨es2, t3, gave⟩ := Z
    dsimp only at pm hf3 hr3 hl3 ⊢
    have hsz : es2.size = es1.size := by rw [← Array.length_toList, pm.length_eq, Array.length_toList]
    refine wpAny_bind (hg _ _ _ ?_)
    refine wpAny_bind (wpAny_storeSet_of ho1 rfl ?_ (fits_of_scanBound (by rw [hsz, hsz1]; exact hb1)))
    have ho2 := L2.store_at (es' := es2) (t' := t3) ho1 rfl
    refine wpAny_pure (hR _ (sb1.trans (Heap.SameBut.update _ a _)) ?_)
    exact ⟨_, es2, _, t3, ho2, hex, rfl, fun e he => g1 e (pm.mem_iff.mp he), (pm.map keyC).trans p1, nd1, hb1, hf3, hr3, hl.imp id fun z => by rw [hl3]; exact z⟩
  · exact wpAny_pure (hR _ sb1 ⟨_, es1, _, t2, ho1, hex, rfl, g1, p1, nd1, hb1, hf2, hr, hl⟩)
theorem setC_add {c : Nat} {tk : Tok} {Q : Bool → Shared → Prop} (R : SetC w s.heap a l) (room : l.length + 1 < scanBound)
    (hQ : ∀ b h', Heap.SameBut a s.heap h' → SetC w h' a (if c ∈ l then l else c :: l) → Q b { s with heap := h' }) :
    wpAny (model P w) A (setAddHashed a (.str (sing c) tk) (hashStr w (sing c))) Q E s := by
  obtain ⟨o, es, ep, t, ho, hex, hd, g, pm0, nd, hb, hf, hr, hl⟩ := R
  have hkey : (strKind P w).is (sing c) (.str (sing c) tk) = true := is_str _ _
  have hsc : (Value.str (sing c) tk).scannable = true := rfl
  have hel : ElemsOf (strKind P w) es.toList := goodC_elems g
  have hsz : es.size = l.length := by rw [← Array.length_toList, ← pm0.length_eq, List.length_map]
  have hbs : es.size < scanBound := by rw [hsz]; exact hb
  have hmem : c ∈ l ↔ ∃ e ∈ es.toList, (strKind P w).is (sing c) e.2 = true := by
    rw [← pm0.mem_iff, List.mem_map]
    constructor
    · rintro ⟨e, he, q⟩
      exact ⟨e, he, (goodC_is (P := P) (g e he) c).2 q⟩
    · rintro ⟨e, he, q⟩
      exact ⟨e, he, (goodC_is (P := P) (g e he) c).1 q⟩
  unfold setAddHashed setAddHashedIn
  refine wpAny_holding (wpAny_bind (wpAny_setState_of ho hd hf ?_))
  dsimp only
  rw [byScan_of hsc hbs hel]
  simp only [↓reduceIte]
  unfold setAddByScan
  refine wpAny_bind ?_
  refine wpAny_bind (wpAny_rule ?_)
  refine wpAny_bind (wpAny_setScan_of (knd := strKind P w) (k := sing c) hkey ho hd hf hel ?_)
  cases hfi : List.findIdx? (fun e => (strKind P w).is (sing c) e.2) es.toList with
  | some j =>
    dsimp only
    obtain ⟨hj, pj, _⟩ := List.findIdx?_eq_some_iff_getElem.mp hfi
    have hc : c ∈ l := hmem.2 ⟨es.toList[j], List.getElem_mem hj, pj⟩
    refine wpAny_pure (wpAny_pure ?_)
    refine hQ _ s.heap (Heap.SameBut.refl a s.heap) ?_
    rw [if_pos hc]
    exact ⟨o, es, ep, t, ho, hex, hd, g, pm0, nd, hb, hf, hr, hl⟩
  | none =>
    dsimp only
    have hnk : c ∉ l := fun z => by
      obtain ⟨e, he, q⟩ := hmem.1 z
      have cc := List.findIdx?_eq_none_iff.mp hfi e he
      rw [q] at cc
      cases cc
    rw [if_neg hnk] at hQ
    have hgw : ∀ (b : Bool) {s₁ : Shared} {Q' : Unit → Shared → Prop}, Q' () s₁ → wpAny (model P w) A (match b with | true => rule "set.scan.the-table-gave-way" | false => pure ()) Q' E s₁ :=
      fun b s₁ Q' q => by cases b <;> first | exact wpAny_pure q | exact wpAny_rule q
    have pm := layNew_perm t es (hashStr w (sing c)) (.str (sing c) tk)
    have hf1 := layNew_fits t es (hashStr w (sing c)) (.str (sing c) tk)
    have hr1 := layNew_ris t es (hashStr w (sing c)) (.str (sing c) tk) hr
    have hl1 := layNew_led t es (hashStr w (sing c)) (.str (sing c) tk)
    generalize layNew t es (hashStr w (sing c)) (.str (sing c) tk) = Z at pm hf1 hr1 hl1 ⊢
    obtain ⟨es1, t1, wasDummy, gave⟩ := Z
    dsimp only at pm hf1 hr1 hl1 ⊢
    rw [Array.toList_push] at pm
    have pc : es1.toList.Perm ((hashStr w (sing c), Value.str (sing c) tk) :: es.toList) := pm.trans (List.perm_append_singleton _ _)
    have pk : (es1.toList.map keyC).Perm (c :: l) := (pc.map keyC).trans (List.Perm.cons _ pm0)
    have g1 : ∀ e ∈ es1.toList, GoodC w e := fun e he => by
      rcases List.mem_cons.mp (pc.mem_iff.mp he) with z | z
      · rw [z]; exact ⟨c, tk, rfl, rfl⟩
      · exact g e z
    have nd1 : (c :: l).Nodup := List.nodup_cons.mpr ⟨hnk, nd⟩
    have hb1 : (c :: l).length < scanBound := room
    have hled : w.params.followText "set-order" = true ∨ t1.led = true := hl.imp id fun z => by rw [hl1]; exact z
    refine wpAny_bind (hgw _ ?_)
    split
    · refine wpAny_bind ?_
      rw [hashByValue_scannable 8 hsc]
      refine wpAny_pure ?_
      refine setC_tail ?_ ho hex hd g1 pk nd1 hb1 ?_ ?_ ?_ ?_
      · intro b s₁ Q' q; cases b <;> first | exact wpAny_pure q | exact wpAny_rule q
      · first | (split <;> first | exact hf1 | exact SetTable.fits_plain_off hf1) | exact hf1
      · first | (split <;> exact hr1) | exact hr1
      · first | (split <;> exact hled) | exact hled
      · intro h' sb r; dsimp only; exact wpAny_pure (hQ _ h' sb r)
    · refine wpAny_bind (wpAny_pure ?_)
      simp only [↓reduceIte]
      refine setC_tail ?_ ho hex hd g1 pk nd1 hb1 hf1 hr1 hled ?_
      · intro b s₁ Q' q; cases b <;> first | exact wpAny_pure q | exact wpAny_rule q
      · intro h' sb r; dsimp only; exact wpAny_pure (hQ _ h' sb r)
/-- the signs in the order of their coming -/
def addC (l : List Nat) (c : Nat) : List Nat := if c ∈ l then l else c :: l
theorem addC_length (l : List Nat) (c : Nat) : (addC l c).length ≤ l.length + 1 := by
  unfold addC
  split
  · exact Nat.le_succ _
  · exact Nat.le_refl _
theorem set_update_signs {I : Addr} {fp wr : List Addr} {G : Array GenState → Array GenState → Prop} {n : Nat} {Pv : Nat → Value → Prop} {St : Nat → Shared → Prop} {R : Result → Shared → Prop}
    (W : WalksS P w A.in1 I fp wr G n Pv St) (S : Addr) (hSf : S ∉ fp) (cs : List Nat) (hn : n = cs.length) (hb : cs.length + 1 < scanBound) (hval : ∀ i v, Pv i v → ∃ c t, cs[i]? = some c ∧ v = .str (sing c) t) :
    ∀ (k i : Nat) (s : Shared), n - i = k → i ≤ n → St i s → SetC w s.heap S ((cs.take i).foldl addC []) →
      (∀ s', Moved (S :: wr) G s s' → SetC w s'.heap S (cs.foldl addC []) → R (.ok (.ret .none)) s') →
      codeAny (model P w) A (.builtin "set.update.loop" ⟨[.ref S, .ref I], []⟩) R s := by
  have hSw : S ∉ wr := fun h => hSf (W.sub _ h)
  have hsub : ∀ b ∈ wr, b ∈ S :: wr := fun b hb => List.mem_cons_of_mem _ hb
  have hlen : ∀ (xs : List Nat) (l : List Nat), (xs.foldl addC l).length ≤ l.length + xs.length := by
    intro xs
    induction xs with
    | nil => intro l; exact Nat.le_refl _
    | cons x xs ih =>
      intro l
      have h1 := ih (addC l x)
      have h2 := addC_length l x
      simp only [List.foldl_cons, List.length_cons]
      omega
  intro k
  induction k with
  | zero =>
    intro i s hk' hi hst hS hR
    have hin : i = n := by omega
    subst hin
    refine codeAny_builtin F.entry_set_update_loop ?_
    rw [Around.under_plainId F.plain_set_update_loop _]
    show wpAny _ A.in1 (pyNext (.ref I) >>= _) _ _ s
    refine wpAny_bind (W.done s _ _ hst fun s' hm => ?_)
    show wpAny _ A.in1 (ret Value.none) _ _ s'
    have e : cs.take i = cs := List.take_of_length_le (by omega)
    rw [e] at hS
    exact wpAny_pure (hR s' (hm.mono hsub) (hS.at fun o e => hm.heap S o hSw e))
  | succ k ih =>
    intro i s hk' hi hst hS hR
    have hlt : i < n := by omega
    refine codeAny_builtin F.entry_set_update_loop ?_
    rw [Around.under_plainId F.plain_set_update_loop _]
    show wpAny _ A.in1 (pyNext (.ref I) >>= _) _ _ s
    refine wpAny_bind (W.item i s _ _ hlt hst fun v s' hP hst' hm => ?_)
    obtain ⟨z, t, hz, rfl⟩ := hval i v hP
    have hS' : SetC w s'.heap S ((cs.take i).foldl addC []) := hS.at fun o e => hm.heap S o hSw e
    show wpAny _ A.in1 (holding [Value.str (sing z) t] (setAdd S (.str (sing z) t)) >>= _) _ _ s'
    refine wpAny_bind (wpAny_holding ?_)
    unfold setAdd
    refine wpAny_holding ?_
    refine wpAny_bind ((strKind P w).pyHash (k := sing z) (is_str _ _) ?_)
    have hroom : ((cs.take i).foldl addC []).length + 1 < scanBound := by
      have h1 := hlen (cs.take i) []
      have h2 : (cs.take i).length ≤ i := List.length_take_le _ _
      simp only [List.length_nil] at h1
      omega
    refine setC_add (s := { s' with toks := s'.toks + 1 }) hS' hroom fun b h' hsb hS2 => ?_
    have hS3 : SetC w h' S ((cs.take (i + 1)).foldl addC []) := by
      rw [List.take_add_one, hz]
      rw [List.foldl_append]
      exact hS2
    refine wpAny_pure ⟨plainId_quiet F.plain_set_update_loop _, ih (i + 1) _ (by omega) hlt (W.frame _ s' _ _ hst' (Nat.le_succ _) fun b hb o e => ?_) hS3 fun s'' hm'' hS'' => ?_⟩
    · rw [hsb.2 b (fun h : b = S => hSf (by rw [← h]; exact hb))]; exact e
    · refine hR s'' (Moved.trans W.gtrans ((hm.mono hsub).then_heap (Nat.le_succ _) fun b o hb e => ?_) hm'') hS''
      rw [hsb.2 b (fun h : b = S => hb (by rw [h]; exact List.mem_cons_self))]; exact e
theorem setC_new_at {w : World} {h : Heap} {a : Addr} (ho : h.get? a = some { cls := .type "set", dict := none, data := .set #[] 0 (.fresh 0 0 (!w.params.followText "set-order")) }) : SetC w h a [] :=
  ⟨_, #[], 0, _, ho, ⟨rfl, rfl, rfl⟩, rfl, (fun e he => by simp at he), .nil, List.nodup_nil, (by decide), (by rfl), List.Pairwise.nil, by
    show _ ∨ (!w.params.followText "set-order") = true
    cases w.params.followText "set-order"
    · exact .inr rfl
    · exact .inl rfl⟩
set_option maxRecDepth 100000 in
set_option maxHeartbeats 3200000 in
theorem call_set_text {z : Str} {t : Tok} {Q : Value → Shared → Prop} (hh : A.handled = none) (hb : z.cps.size + 1 < scanBound)
    (h : ∀ (h' : Heap) (tk : Nat), SetC w h' s.heap.objs.size (z.cps.toList.foldl addC []) → (∀ b o, s.heap.get? b = some o → h'.get? b = some o) → Q (.ref s.heap.objs.size) { s with heap := h', toks := tk }) :
    wpAny (model P w) A (call (.type "set") [.str z t]) Q E s := by
  obtain ⟨c, tl, hmro⟩ := F.called_set.mro
  have hmade := F.called_set.made
  have hsub := F.called_set.sub
  refine wpAny_call (codeAny_of_tree ?_)
  show wpAny _ _ (callAny (.type "set") _) _ _ _
  refine wpAny_pure ⟨Code.quiet_builtin _ (by decide +kernel), codeAny_builtin F.entry_type_call ?_⟩
  rw [Around.under_plain (weight_type_call_type "set" [.str z t] []) rfl]
  have h1 := F.called_set.notType
  have h2 := F.called_set.canCreate
  have hct := F.typeCall_set_1 (.str z t)
  repeat (any_goals (first | assumption | wp_step))

  refine codeAny_mono (code_set_led1 (.str z t) (E := E) (Q₁ := fun obj s₁ => obj = .ref s.heap.objs.size ∧ s₁ = { s with heap := s.heap.push { cls := .type "set", dict := none, data := .set #[] 0 (.fresh 0 0 (!w.params.followText "set-order")) } }) ⟨rfl, rfl⟩) fun r s₁ hr => ?_
  cases r with
  | error e => exact hr
  | ok fl =>
    cases fl with
    | ret obj =>
      obtain ⟨rfl, rfl⟩ := hr
      have hS : (s.heap.push { cls := .type "set", dict := none, data := .set #[] 0 (.fresh 0 0 (!w.params.followText "set-order")) }).get? s.heap.objs.size = some { cls := .type "set", dict := none, data := .set #[] 0 (.fresh 0 0 (!w.params.followText "set-order")) } := Heap.get?_push_size _ rfl
      have hT : Shared.TypeIs { s with heap := s.heap.push { cls := .type "set", dict := none, data := .set #[] 0 (.fresh 0 0 (!w.params.followText "set-order")) } } (.ref s.heap.objs.size) "set" := ⟨_, hS, rfl⟩
      have hli := F.called_set.init.lookup
      have hbi := F.called_set.init.bind (.ref s.heap.objs.size)
      repeat (any_goals (first | assumption | wp_step))

      refine codeAny_mono (codeAny_call_builtin (R := wants (fun r s₂ => r = .none ∧ ∃ h' tk, s₂ = { s with heap := h', toks := tk } ∧ SetC w h' s.heap.objs.size (z.cps.toList.foldl addC []) ∧
          (∀ b o, s.heap.get? b = some o → h'.get? b = some o)) E) F.called_set.init.plain F.entry_set_init (check_set_init_1 hT ?_)) fun r₂ s₂ hr₂ => ?_
      · have hsls := F.sub_str_set
        have hslf := F.sub_str_frozenset
        have hne : (Value.type "str" == Value.type "dict") = false := by decide
        unfold Builtin.«set.__init__» noKeywords Builtin.Frozenset.updateFrom
        generalize hPI : pyIter = PI
        wp_walk
        subst hPI

        refine wpAny_pyIter_str fun o St W hst => ?_
        refine wpAny_bind (wpAny_runValue ?_)
        have hh3 : A.in1.in1.in1.handled = none := by simp [hh]
        have hSf : s.heap.objs.size ∉ [(s.heap.push { cls := .type "set", dict := none, data := .set #[] 0 (.fresh 0 0 (!w.params.followText "set-order")) }).objs.size] := by
          rw [Heap.size_push]; simp
        have hval : ∀ (i : Nat) (v : Value), SignAt z i v → ∃ c t, z.cps.toList[i]? = some c ∧ v = .str (sing c) t := fun i v hv => by
          obtain ⟨c, u, e1, e2⟩ := hv
          exact ⟨c, u, by rw [Array.getElem?_toList]; exact e1, e2⟩
        refine set_update_signs ((W A.in1.in1.in1 hh3).toS) s.heap.objs.size
          hSf z.cps.toList (by rw [Array.length_toList]) (by rw [Array.length_toList]; exact hb) hval (z.cps.size - 0) 0 _ (by omega) (Nat.zero_le _)
          hst ?hS0 ?hR
        case hS0 =>
          exact setC_new_at (Heap.get?_push_of_some _ hS)
        case hR =>
          intro s' hm hS'
          obtain ⟨h', g2, d', tk', os'⟩ := s'
          have eg : g2 = s.gens := hm.gens
          have ed : d' = s.drawn := hm.drawn
          have eo : os' = s.os := hm.os
          subst eg; subst ed; subst eo
          show wpAny _ _ _ _ _ _
          refine wpAny_pure ?_
          show wpAny _ _ (ret Value.none) _ _ _
          refine wpAny_pure ⟨rfl, h', tk', rfl, hS', fun b o e => ?_⟩
          have hb0 : b < s.heap.objs.size := Heap.lt_size e
          have hb1 : b ≠ s.heap.objs.size := Nat.ne_of_lt hb0
          have hb2 : b ≠ (s.heap.push { cls := .type "set", dict := none, data := .set #[] 0 (.fresh 0 0 (!w.params.followText "set-order")) }).objs.size := by
            rw [Heap.size_push]; exact Nat.ne_of_lt (Nat.lt_succ_of_lt hb0)
          exact hm.heap b o (by simp only [List.mem_cons, List.mem_singleton, List.not_mem_nil, or_false, not_or]; exact ⟨hb1, hb2⟩) (Heap.get?_push_of_some _ (Heap.get?_push_of_some _ e))

      · cases r₂ with
        | error e => exact hr₂
        | ok fl₂ =>
          cases fl₂ with
          | ret r =>
            obtain ⟨rfl, h', tk, rfl, hS', hk'⟩ := hr₂
            repeat (any_goals (first | assumption | wp_step))
            exact h _ _ hS' hk'
          | _ => exact hr₂.elim
    | _ => exact hr.elim
end
end Q3
/-! Q3n: sorted(set(e)). -/
namespace Q3
open PySem PySem.Spec PyProof.Rows L2
open PySem.Froz (sing is_str)

/-! ### the members in order, Nat -/
def insN (x : Nat) : List Nat → List Nat
  | [] => [x]
  | y :: r => if x < y then x :: y :: r else if x = y then y :: r else y :: insN x r
def usortN (l : List Nat) : List Nat := l.foldr insN []
theorem mem_insN {x z : Nat} : ∀ {l : List Nat}, z ∈ insN x l ↔ z = x ∨ z ∈ l
  | [] => by simp [insN]
  | y :: r => by
    unfold insN
    split
    · simp
    · split
      · rename_i h; subst h; simp
      · rw [List.mem_cons, mem_insN (l := r), List.mem_cons]
        constructor
        · rintro (h | h | h)
          · exact .inr (.inl h)
          · exact .inl h
          · exact .inr (.inr h)
        · rintro (h | h | h)
          · exact .inr (.inl h)
          · exact .inl h
          · exact .inr (.inr h)
theorem mem_usortN {z : Nat} : ∀ {l : List Nat}, z ∈ usortN l ↔ z ∈ l
  | [] => Iff.rfl
  | y :: r => by
    show z ∈ insN y (usortN r) ↔ _
    rw [mem_insN, mem_usortN (l := r), List.mem_cons]
theorem insN_lt {x : Nat} : ∀ {l : List Nat}, l.Pairwise (· < ·) → (insN x l).Pairwise (· < ·)
  | [], _ => by simp [insN]
  | y :: r, h => by
    obtain ⟨h1, h2⟩ := List.pairwise_cons.mp h
    unfold insN
    split
    · rename_i hx
      refine List.pairwise_cons.mpr ⟨fun z hz => ?_, h⟩
      rcases List.mem_cons.mp hz with e | e
      · omega
      · have := h1 z e; omega
    · split
      · exact h
      · refine List.pairwise_cons.mpr ⟨fun z hz => ?_, insN_lt h2⟩
        rcases mem_insN.mp hz with e | e
        · omega
        · exact h1 z e
theorem usortN_lt : ∀ l : List Nat, (usortN l).Pairwise (· < ·)
  | [] => List.Pairwise.nil
  | _ :: r => insN_lt (usortN_lt r)
theorem lt_uniqN : ∀ {a b : List Nat}, a.Pairwise (· < ·) → b.Pairwise (· < ·) → (∀ z, z ∈ a ↔ z ∈ b) → a = b
  | [], [], _, _, _ => rfl
  | [], y :: _, _, _, h => absurd ((h y).mpr List.mem_cons_self) (by simp)
  | x :: _, [], _, _, h => absurd ((h x).mp List.mem_cons_self) (by simp)
  | x :: a, y :: b, h1, h2, h => by
    obtain ⟨p1, p2⟩ := List.pairwise_cons.mp h1
    obtain ⟨q1, q2⟩ := List.pairwise_cons.mp h2
    have e : x = y := by
      rcases List.mem_cons.mp ((h x).mp List.mem_cons_self) with e | e
      · exact e
      · rcases List.mem_cons.mp ((h y).mpr List.mem_cons_self) with e' | e'
        · exact e'.symm
        · have := q1 x e
          have := p1 y e'
          omega
    subst e
    rw [lt_uniqN p2 q2 fun z => ?_]
    constructor
    · intro hz
      rcases List.mem_cons.mp ((h z).mp (List.mem_cons_of_mem _ hz)) with e | e
      · have := p1 z hz
        omega
      · exact e
    · intro hz
      rcases List.mem_cons.mp ((h z).mpr (List.mem_cons_of_mem _ hz)) with e | e
      · have := q1 z hz
        omega
      · exact e
theorem usortN_id {l : List Nat} (h : l.Pairwise (· < ·)) : usortN l = l := lt_uniqN (usortN_lt l) h fun _ => mem_usortN
theorem usortN_fix {l : List Nat} : usortN l = l ↔ l.Pairwise (· < ·) := ⟨fun h => by rw [← h]; exact usortN_lt l, usortN_id⟩

/-! ### the members in order, Int -/
def insI (x : Int) : List Int → List Int
  | [] => [x]
  | y :: r => if x < y then x :: y :: r else if x = y then y :: r else y :: insI x r
def usortI (l : List Int) : List Int := l.foldr insI []
theorem mem_insI {x z : Int} : ∀ {l : List Int}, z ∈ insI x l ↔ z = x ∨ z ∈ l
  | [] => by simp [insI]
  | y :: r => by
    unfold insI
    split
    · simp
    · split
      · rename_i h; subst h; simp
      · rw [List.mem_cons, mem_insI (l := r), List.mem_cons]
        constructor
        · rintro (h | h | h)
          · exact .inr (.inl h)
          · exact .inl h
          · exact .inr (.inr h)
        · rintro (h | h | h)
          · exact .inr (.inl h)
          · exact .inl h
          · exact .inr (.inr h)
theorem mem_usortI {z : Int} : ∀ {l : List Int}, z ∈ usortI l ↔ z ∈ l
  | [] => Iff.rfl
  | y :: r => by
    show z ∈ insI y (usortI r) ↔ _
    rw [mem_insI, mem_usortI (l := r), List.mem_cons]
theorem insI_lt {x : Int} : ∀ {l : List Int}, l.Pairwise (· < ·) → (insI x l).Pairwise (· < ·)
  | [], _ => by simp [insI]
  | y :: r, h => by
    obtain ⟨h1, h2⟩ := List.pairwise_cons.mp h
    unfold insI
    split
    · rename_i hx
      refine List.pairwise_cons.mpr ⟨fun z hz => ?_, h⟩
      rcases List.mem_cons.mp hz with e | e
      · omega
      · have := h1 z e; omega
    · split
      · exact h
      · refine List.pairwise_cons.mpr ⟨fun z hz => ?_, insI_lt h2⟩
        rcases mem_insI.mp hz with e | e
        · omega
        · exact h1 z e
theorem usortI_lt : ∀ l : List Int, (usortI l).Pairwise (· < ·)
  | [] => List.Pairwise.nil
  | _ :: r => insI_lt (usortI_lt r)
theorem lt_uniqI : ∀ {a b : List Int}, a.Pairwise (· < ·) → b.Pairwise (· < ·) → (∀ z, z ∈ a ↔ z ∈ b) → a = b
  | [], [], _, _, _ => rfl
  | [], y :: _, _, _, h => absurd ((h y).mpr List.mem_cons_self) (by simp)
  | x :: _, [], _, _, h => absurd ((h x).mp List.mem_cons_self) (by simp)
  | x :: a, y :: b, h1, h2, h => by
    obtain ⟨p1, p2⟩ := List.pairwise_cons.mp h1
    obtain ⟨q1, q2⟩ := List.pairwise_cons.mp h2
    have e : x = y := by
      rcases List.mem_cons.mp ((h x).mp List.mem_cons_self) with e | e
      · exact e
      · rcases List.mem_cons.mp ((h y).mpr List.mem_cons_self) with e' | e'
        · exact e'.symm
        · have := q1 x e
          have := p1 y e'
          omega
    subst e
    rw [lt_uniqI p2 q2 fun z => ?_]
    constructor
    · intro hz
      rcases List.mem_cons.mp ((h z).mp (List.mem_cons_of_mem _ hz)) with e | e
      · have := p1 z hz
        omega
      · exact e
    · intro hz
      rcases List.mem_cons.mp ((h z).mpr (List.mem_cons_of_mem _ hz)) with e | e
      · have := q1 z hz
        omega
      · exact e
theorem usortI_id {l : List Int} (h : l.Pairwise (· < ·)) : usortI l = l := lt_uniqI (usortI_lt l) h fun _ => mem_usortI
theorem usortI_fix {l : List Int} : usortI l = l ↔ l.Pairwise (· < ·) := ⟨fun h => by rw [← h]; exact usortI_lt l, usortI_id⟩
theorem insN_len (x : Nat) : ∀ l : List Nat, (insN x l).length ≤ l.length + 1
  | [] => Nat.le_refl _
  | y :: r => by
    have := insN_len x r
    unfold insN
    split
    · exact Nat.le_refl _
    · split
      · exact Nat.le_succ _
      · simp only [List.length_cons]; omega
theorem usortN_len : ∀ l : List Nat, (usortN l).length ≤ l.length
  | [] => Nat.le_refl _
  | x :: r => by
    have h1 := insN_len x (usortN r)
    have h2 := usortN_len r
    show (insN x (usortN r)).length ≤ _
    simp only [List.length_cons]; omega
theorem insI_len (x : Int) : ∀ l : List Int, (insI x l).length ≤ l.length + 1
  | [] => Nat.le_refl _
  | y :: r => by
    have := insI_len x r
    unfold insI
    split
    · exact Nat.le_refl _
    · split
      · exact Nat.le_succ _
      · simp only [List.length_cons]; omega
theorem usortI_len : ∀ l : List Int, (usortI l).length ≤ l.length
  | [] => Nat.le_refl _
  | x :: r => by
    have h1 := insI_len x (usortI r)
    have h2 := usortI_len r
    show (insI x (usortI r)).length ≤ _
    simp only [List.length_cons]; omega
theorem mem_addC {l : List Nat} {c z : Nat} : z ∈ addC l c ↔ z = c ∨ z ∈ l := by
  unfold addC
  split
  · rename_i h
    constructor
    · exact .inr
    · rintro (e | e)
      · rw [e]; exact h
      · exact e
  · rw [List.mem_cons]
theorem mem_addAll {z : Nat} : ∀ {cs l : List Nat}, z ∈ cs.foldl addC l ↔ z ∈ cs ∨ z ∈ l
  | [], l => by simp
  | c :: cs, l => by
    rw [List.foldl_cons, mem_addAll (cs := cs), mem_addC, List.mem_cons]
    constructor
    · rintro (h | h | h)
      · exact .inl (.inr h)
      · exact .inl (.inl h)
      · exact .inr h
    · rintro ((h | h) | h)
      · exact .inr (.inl h)
      · exact .inl h
      · exact .inr (.inr h)
theorem le_of_sortedS : ∀ {cs : List Nat}, sortedS (cs.map sing) = true → cs.Pairwise (· ≤ ·)
  | [], _ => List.Pairwise.nil
  | [c], _ => by simp
  | c :: d :: r, h => by
    have h' : (!ltCps (sing d).cps.toList (sing c).cps.toList && risingS (sing d) (r.map sing)) = true := h
    obtain ⟨h1, h2⟩ := Bool.and_eq_true_iff.mp h'
    have ih : (d :: r).Pairwise (· ≤ ·) := le_of_sortedS (cs := d :: r) h2
    have hcd : c ≤ d := by
      have e : ltCps [d] [c] = false := Bool.not_eq_true' _ ▸ h1
      simp [ltCps] at e
      omega
    refine List.pairwise_cons.mpr ⟨fun z hz => ?_, ih⟩
    rcases List.mem_cons.mp hz with e | e
    · rw [e]; exact hcd
    · have := (List.pairwise_cons.mp ih).1 z e
      omega
theorem ltN_of_le_nodup {l : List Nat} (h : l.Pairwise (· ≤ ·)) (d : l.Nodup) : l.Pairwise (· < ·) := by
  have := h.and d
  exact this.imp fun ⟨h1, h2⟩ => Nat.lt_of_le_of_ne h1 h2
theorem of_signs : ∀ {ys : List Str} {l : List Nat}, ys.Perm (l.map sing) → ∃ cs : List Nat, ys = cs.map sing ∧ cs.Perm l
  | ys, l, h => by
    have hall : ∀ y ∈ ys, sing (y.cps.getD 0 0) = y := fun y hy => by
      obtain ⟨c, _, e⟩ := List.mem_map.mp (h.mem_iff.mp hy)
      rw [← e]
      rfl
    refine ⟨ys.map fun y => y.cps.getD 0 0, ?_, ?_⟩
    · rw [List.map_map]
      conv => lhs; rw [← List.map_id ys]
      exact List.map_congr_left fun y hy => (hall y hy).symm
    · have q := h.map fun y : Str => y.cps.getD 0 0
      rw [List.map_map] at q
      have e : ((fun y : Str => y.cps.getD 0 0) ∘ sing) = id := by funext c; rfl
      rw [e, List.map_id] at q
      exact q
section
variable {P : Program} {w : World} {A : Around} {E : Value → Shared → Prop} {s : Shared} {a : Addr}
theorem strs_of : ∀ (l : List Value), (∀ v ∈ l, ∃ c tk, v = Value.str (sing c) tk) → StrsAre l (l.map fun v => sing (keyC (0, v)))
  | [], _ => .nil
  | v :: l, h => by
    obtain ⟨c, tk, rfl⟩ := h v List.mem_cons_self
    exact .cons (sing c) tk (strs_of l fun u hu => h u (List.mem_cons_of_mem _ hu))
/-- sorted(set of signs) -/
theorem sorted_setC {l : List Nat} {Q : Value → Shared → Prop} (R : SetC w s.heap a l) (hh : A.handled = none)
    (hQ : ∀ s' p (out : Array Value) (c : Nat), (∀ b o, s.heap.get? b = some o → s'.heap.get? b = some o) → s'.gens = s.gens → s'.os = s.os → s.heap.objs.size ≤ p →
      s'.heap.get? p = some (seqObj "list" out c) → StrsAre out.toList ((usortN l).map sing) → Q (.ref p) s') :
    wpAny (model P w) A (call (.builtin "sorted") [.ref a]) Q E s := by
  obtain ⟨o, es, ep, t, ho, hex, hd, g, pm0, nd, hb, hf, hr, hl⟩ := R
  have hsz : es.size = l.length := by rw [← Array.length_toList, ← pm0.length_eq, List.length_map]
  refine Calls.call_function_entry kind_sorted plain_sorted entry_sorted (args_sorted1 _) ?_
  unfold Builtin.«sorted»
  refine wpAny_bind (m := checkCount "sorted" 1 1 _) (wpAny_pure ?_)
  refine wpAny_bind (collect_set (A := A.in1) hh ⟨o, ho, hex.1, hd⟩ hf (by rw [hsz]; exact hb) hr hl fun s1 vs k1 hz g1 o1 pm => ?_)
  have hvl : vs.length = l.length := by rw [pm.length_eq, List.length_map, Array.length_toList]; exact hsz
  have hS : StrsAre vs (vs.map fun v => sing (keyC (0, v))) := strs_of vs fun v hv => by
    obtain ⟨e, he, q⟩ := List.mem_map.mp (pm.mem_iff.mp hv)
    obtain ⟨k, tk, h1, _⟩ := g e he
    exact ⟨k, tk, by rw [← q]; exact h1⟩
  have pk : (vs.map fun v => sing (keyC (0, v))).Perm (l.map sing) := by
    have q := pm.map fun v => sing (keyC (0, v))
    rw [List.map_map] at q
    have q2 := pm0.map sing
    rw [List.map_map] at q2
    refine q.trans (List.Perm.trans (.of_eq (List.map_congr_left fun e he => rfl)) q2)
  have hL : vs.length ≤ sizeLine := by
    rw [hvl]
    unfold scanBound at hb
    rw [sizeLine_eq]
    omega
  refine wpAny_bind (wpAny_newList ?_ hL)
  have hoL : (s1.heap.push (seqObj "list" vs.toArray 0)).get? s1.heap.objs.size = some (seqObj "list" vs.toArray 0) := Heap.get?_push_size _ rfl
  refine wpAny_bind (wpAny_holding (wpAny_call_entry slot_list_sort ⟨_, hoL, rfl⟩ entry_list_sort (list_sort_treeKAny strKind_oneLt hoL hS.keysOf (fun v₁ v₂ rest e => keyKind_strs (by rw [← e]; exact hS)) hL fun st' hp hs => ?_) (args_list_sort _)))
  obtain ⟨ss', a1, a2, a3⟩ := sorted_out_str hS hp hs
  obtain ⟨c, hc⟩ := sortedHeap_at (vs := vs) (out := (arrOf st').map (·.2)) hoL
  obtain ⟨cs, rfl, pc⟩ := of_signs (a2.trans pk)
  have ecs : cs = usortN l := lt_uniqN (ltN_of_le_nodup (le_of_sortedS a3) (pc.nodup_iff.mpr nd)) (usortN_lt l) fun z => by rw [pc.mem_iff, mem_usortN]
  rw [ecs] at a1
  refine ⟨_, rfl, wpAny_pure ⟨_, rfl, hQ _ s1.heap.objs.size _ c (fun b u e => ?_) g1 o1 hz hc a1⟩⟩
  have q := k1 b u e
  have hlt := Heap.lt_size q
  show (sortedHeap (s1.heap.push (seqObj "list" vs.toArray 0)) s1.heap.objs.size vs _).get? b = some u
  rw [sortedHeap_old (Nat.ne_of_lt hlt) (by rw [size_push']; exact Nat.lt_succ_of_lt hlt)]
  exact Heap.get?_push_of_some _ q
/-- sorted(set of ints), any number -/
theorem sorted_setI {S : Int → Bool} {n : Nat} {Q : Value → Shared → Prop} (R : SetR w s.heap a S n) (hh : A.handled = none)
    (hQ : ∀ s' p (out : Array Value) (c : Nat) (ns : List Int), (∀ b o, s.heap.get? b = some o → s'.heap.get? b = some o) → s'.gens = s.gens → s'.os = s.os → s.heap.objs.size ≤ p →
      s'.heap.get? p = some (seqObj "list" out c) → IntsAre out.toList ns → ns.Pairwise (· < ·) → (∀ k, k ∈ ns ↔ S k = true) → Q (.ref p) s') :
    wpAny (model P w) A (call (.builtin "sorted") [.ref a]) Q E s := by
  obtain ⟨o, es, ep, t, ho, hex, hd, g, nd, hm, hb, hf, hn, hr, hl⟩ := R
  refine Calls.call_function_entry kind_sorted plain_sorted entry_sorted (args_sorted1 _) ?_
  unfold Builtin.«sorted»
  refine wpAny_bind (m := checkCount "sorted" 1 1 _) (wpAny_pure ?_)
  refine wpAny_bind (collect_set (A := A.in1) hh ⟨o, ho, hex.1, hd⟩ hf hb hr hl fun s1 vs k1 hz g1 o1 pm => ?_)
  have hvl : vs.length = es.size := by rw [pm.length_eq, List.length_map, Array.length_toList]
  have hI : IntsAre vs (vs.map Builtin.Re.reRawOf) := ints_of vs fun v hv => by
    obtain ⟨e, he, q⟩ := List.mem_map.mp (pm.mem_iff.mp hv)
    obtain ⟨k, tk, h1, _⟩ := g e he
    exact ⟨k, tk, by rw [← q]; exact h1⟩
  have pk : (vs.map Builtin.Re.reRawOf).Perm (es.toList.map keyOf) := by
    have q := pm.map Builtin.Re.reRawOf
    rw [List.map_map] at q
    exact q
  have hL : vs.length ≤ sizeLine := by
    rw [hvl]
    unfold scanBound at hb
    rw [sizeLine_eq]
    omega
  refine wpAny_bind (wpAny_newList ?_ hL)
  have hoL : (s1.heap.push (seqObj "list" vs.toArray 0)).get? s1.heap.objs.size = some (seqObj "list" vs.toArray 0) := Heap.get?_push_size _ rfl
  refine wpAny_bind (wpAny_holding (wpAny_call_entry slot_list_sort ⟨_, hoL, rfl⟩ entry_list_sort (list_sort_treeAny hoL hI hL fun out ns' a1 a2 a3 => ⟨_, rfl, ?_⟩) (args_list_sort _)))
  obtain ⟨c, hc⟩ := sortedHeap_at (vs := vs) (out := out) hoL
  have pn : ns'.Perm (es.toList.map keyOf) := a2.trans pk
  refine wpAny_pure ⟨_, rfl, hQ _ s1.heap.objs.size out c ns' (fun b u e => ?_) g1 o1 hz hc a1 (lt_of_le_nodup ns' a3 (pn.nodup_iff.mpr nd)) (fun k => by rw [pn.mem_iff, ← hm k])⟩
  have q := k1 b u e
  have hlt := Heap.lt_size q
  show (sortedHeap (s1.heap.push (seqObj "list" vs.toArray 0)) s1.heap.objs.size vs out).get? b = some u
  rw [sortedHeap_old (Nat.ne_of_lt hlt) (by rw [size_push']; exact Nat.lt_succ_of_lt hlt)]
  exact Heap.get?_push_of_some _ q
end
/-! ### over the layer -/
def SetCO (w : World) (a : Addr) (l : List Nat) : HO := .ext fun h => SetC w h a l
section
variable {X : Cx}
def rSet (K : PySem.W.Frag) (w : World) : List V → Hp → VK → Prop := fun xs H Q => (∃ z : Str, xs = [.str z] ∧ z.cps.size + 1 < scanBound ∧ ∀ p, H p = none → Q (.ref p) (upd H p (SetCO w p (z.cps.toList.foldl addC [])))) ∨
  ∃ (p0 : Addr) (ns : List Int), xs = [.ref p0] ∧ SqT K H p0 (ns.map V.int) ∧ ns.length + 1 < scanBound ∧ ∀ p c, H p = none → Q (.ref p) (upd H p (SetO w p (fun j => decide (j ∈ ns)) c))
theorem call_set (hc : X.calm = true) : CallR X (.type "set") (rSet X.K X.w) := by
  intro pins s σ H xs us Q I r h
  rcases h with ⟨z, rfl, hz, q⟩ | ⟨p0, ns, rfl, hp, hz, q⟩
  · obtain ⟨u, rfl, t, rfl⟩ := vals1 r
    refine call_set_text (I.ok.hd hc) hz fun h' tk R k => ?_
    have new : ObjOk X.prog X.w (upd H s.heap.objs.size (SetCO X.w s.heap.objs.size (z.cps.toList.foldl addC []))) h' s.heap.objs.size (SetCO X.w s.heap.objs.size (z.cps.toList.foldl addC [])) := by
      have ⟨o, _, _, _, ho, _⟩ := R
      exact ⟨R, ⟨o, ho⟩, fun h1 h2 p k => SetC.at p k⟩
    exact ⟨.ref _, _, I.laid (t' := tk) k (Nat.le_refl _) new, rfl, q _ (I.hok.fresh (Nat.le_refl _))⟩
  · obtain ⟨its, rv, pl, hl⟩ := I.tuple hp
    rw [Vals.ref1 r]
    refine call_set_tupI ns (I.ok.hd hc) (show s.heap.IsTuple p0 its.toArray from pl) (by simpa using ints_of_vals rv) hz fun h' tk c R _ k => ?_
    exact ⟨.ref _, _, I.laid (t' := tk) k (Nat.le_refl _) (setO_new R), rfl, q _ c (I.hok.fresh (Nat.le_refl _))⟩
def rSortSet (w : World) : List V → Hp → VK → Prop := fun xs H Q => (∃ (a : Addr) (l : List Nat), xs = [.ref a] ∧ H a = some (SetCO w a l) ∧ ∀ p, H p = none → Q (.ref p) (upd H p (.lst ((usortN l).map fun c => .str (sing c))))) ∨
  ∃ (a : Addr) (ns : List Int) (c : Nat), xs = [.ref a] ∧ H a = some (SetO w a (fun j => decide (j ∈ ns)) c) ∧ (usortI ns).length ≤ sizeLine ∧ ∀ p, H p = none → Q (.ref p) (upd H p (.lst ((usortI ns).map .int)))
theorem vals_signs {us : List Value} {l : List Nat} (h : StrsAre us (l.map sing)) : Vals (l.map fun c => V.str (sing c)) us := by
  have q := vals_of_strs h
  rw [List.map_map] at q
  exact q
theorem call_sortSet (hc : X.calm = true) : CallR X (.builtin "sorted") (rSortSet X.w) := by
  intro pins s σ H vs us Q I r h
  rcases h with ⟨a, l, rfl, ha, q⟩ | ⟨a, ns, n, rfl, ha, hz, q⟩
  · have R : SetC X.w s.heap a l := (I.hok a _ ha).1
    have hll : l.length < scanBound := by
      have ⟨_, _, _, _, _, _, _, _, _, _, hb, _⟩ := R
      exact hb
    rw [Vals.ref1 r]
    refine sorted_setC R (I.ok.hd hc) fun s' p out c k g o hp hg hi => ?_
    have hn : H p = none := I.hok.fresh hp
    have hlen : ((usortN l).map fun c => V.str (sing c)).length ≤ sizeLine := by
      have ⟨_, _, _, _, _, _, _, _, _, nd, hb, _⟩ := R
      rw [List.length_map]
      have e := usortN_len l
      unfold scanBound at hb
      rw [sizeLine_eq]
      omega
    have J : Inv X pins σ (upd H p (.lst ((usortN l).map fun c => V.str (sing c)))) { s with heap := s'.heap, gens := s'.gens, drawn := s'.drawn, toks := s'.toks } :=
      I.call (ch := []) (Un.laid k hp hn) (I.hok.laid k hp ⟨hlen, out.toList, c, vals_signs hi, hg⟩) (by rw [g]; exact I.bare) (fun _ z => nomatch z)
    have e : s' = { s with heap := s'.heap, gens := s'.gens, drawn := s'.drawn, toks := s'.toks } := by
      obtain ⟨h1, h2, h3, h4, h5⟩ := s'
      have e5 : h5 = s.os := o
      subst e5
      rfl
    rw [e]
    exact ⟨.ref p, _, J, rfl, q p hn⟩
  · have R := setO_get I ha
    rw [Vals.ref1 r]
    refine sorted_setI R (I.ok.hd hc) fun s' p out c ns' k g o hp hg hi hs hm => ?_
    have hn : H p = none := I.hok.fresh hp
    have en : ns' = usortI ns := lt_uniqI hs (usortI_lt ns) fun z => by rw [hm z, mem_usortI]; exact decide_eq_true_iff
    subst en
    have hlen : ((usortI ns).map V.int).length ≤ sizeLine := by rw [List.length_map]; exact hz
    have J : Inv X pins σ (upd H p (.lst ((usortI ns).map V.int))) { s with heap := s'.heap, gens := s'.gens, drawn := s'.drawn, toks := s'.toks } :=
      I.call (ch := []) (Un.laid k hp hn) (I.hok.laid k hp ⟨hlen, out.toList, c, vals_of_ints hi, hg⟩) (by rw [g]; exact I.bare) (fun _ z => nomatch z)
    have e : s' = { s with heap := s'.heap, gens := s'.gens, drawn := s'.drawn, toks := s'.toks } := by
      obtain ⟨h1, h2, h3, h4, h5⟩ := s'
      have e5 : h5 = s.os := o
      subst e5
      rfl
    rw [e]
    exact ⟨.ref p, _, J, rfl, q p hn⟩
end

def gSset : D → Option PV
  | .str z => if z.cps.size + 1 < scanBound then some (.o (.l ((usortN z.cps.toList).map fun c => .str (sing c)))) else none
  | .tuple xs => (match intsOf xs with
    | some ns => if ns.length + 1 < scanBound then some (.o (.l ((usortI ns).map .int))) else none
    | none => none)
  | _ => none
theorem usortN_add (cs : List Nat) : usortN (cs.foldl addC []) = usortN cs := lt_uniqN (usortN_lt _) (usortN_lt _) fun z => by rw [mem_usortN, mem_usortN, mem_addAll]; simp
theorem DnAll.sings {K : PySem.W.Frag} {F : Hp} : ∀ l : List Nat, DnAll K F (l.map fun c => V.str (sing c)) (l.map fun c => .str (sing c))
  | [] => .nil
  | _ :: r => .cons (.str _) (DnAll.sings r)
section
variable [TabSet] {X : Cx} {W : WX} {a : Expr} {fa : Sq → Out PV} {pos : Pos} {N : List Str} {sc : Scope} {k : Nat} {G : Gb}
theorem de_sset {p p1 pos1 : Pos} (C : Cq G k N sc X) (hi : sc.names.lookup ("sorted" : Str) = some .globalImplicit) (hi2 : sc.names.lookup ("set" : Str) = some .globalImplicit) (mi : G.mg "sorted" = none) (mi2 : G.mg "set" = none) (ha : DE X W a fa)
    (hst : starEach [a] X.env = (false, eval a X.env) :: starEach [] X.env := by rfl) (hpl : (backTo pos1 (starEach [] X.env)).any (·.1) = false := by rfl)
    (hst2 : starEach [.Call (.Name "set" p1) [a] [] pos1] X.env = (false, eval (.Call (.Name "set" p1) [a] [] pos1) X.env) :: starEach [] X.env := by rfl) (hpl2 : (backTo pos (starEach [] X.env)).any (·.1) = false := by rfl) :
    DE X W (.Call (.Name "sorted" p) [.Call (.Name "set" p1) [a] [] pos1] [] pos) (f1 gSset fa) := by
  refine PE.weak (pe_callB (call_sortSet C.calm) (glC C hi) (mgC C mi) (by decide +kernel) (pa_cons (pe_callTy (call_set C.calm) (glC C hi2) (mgC C mi2) (by decide +kernel) (pa_cons (de_fz ha) pa_nil hst) (by decide) (by decide) hst hpl) pa_nil hst2) (by decide) (by decide) hst2 hpl2) fun σ H Q z => ?_
  obtain ⟨F0, H0, pa, F, S, A, z⟩ := z
  unfold f1 at z
  rw [OutP.bind] at z
  refine ⟨F0, H0, pa, F, S, A, z.imp (fun p S1 z v F1 H1 x1 A1 r1 => ?_) fun _ _ z => z⟩
  split at z
  · rename_i d e1
    have dv := A1.val r1 e1
    split at z
    · rename_i w e2
      cases d <;> simp only [gSset] at e2 <;> try (cases e2; done)
      · split at e2
        · rename_i hz
          cases e2
          rw [dv.str]
          refine .inl ⟨_, rfl, hz, fun p hp => .inl ⟨p, _, rfl, upd_same, fun p2 hp2 => ?_⟩⟩
          rw [usortN_add]
          obtain ⟨B, o⟩ := (A1.more (Ex.new hp)).newO (vs := (usortN _).map fun c => V.str (sing c)) hp2 (DnAll.sings _)
          exact z _ F1 _ x1 B o
        · cases e2
      · split at e2
        · rename_i ns q
          split at e2
          · rename_i hz
            cases e2
            obtain ⟨l, vs, rfl, h1, h2⟩ := dv.tuple
            rw [intsOf_eq q] at h2
            have ev := h2.ints
            subst ev
            refine .inr ⟨l, ns, rfl, SqT.of (A1.sub _ _ h1), hz, fun p c hp => .inr ⟨p, ns, c, rfl, upd_same, ?_, fun p2 hp2 => ?_⟩⟩
            · have h3 := usortI_len ns
              unfold scanBound at hz
              rw [sizeLine_eq]
              omega
            · obtain ⟨B, o⟩ := (A1.more (Ex.new hp)).newO (vs := (usortI ns).map V.int) hp2 (DnAll.of_ints _)
              exact z _ F1 _ x1 B o
          · cases e2
        · cases e2
    · exact z.elim
  · exact z.elim
end
end Q3
/-! Q3o: what a generated text uses. -/
namespace Q3
open PySem PySem.Spec PyProof.Rows L2
variable [TabSet]
/-- a def of the program with what it computes -/
def Has (G : Gb) (k : Nat) (x : Str) (ps : List Str) (fn : Fd) : Prop :=
  ∃ f fd, G.mg x = some (.ref f) ∧ PySem.W.keepIn G.K (.ref f) = true ∧ Binds G.K fd ps [] ∧ FnG G k f fd ps (fun vs H Q E => vs.length = ps.length ∧ spF G.K fn vs H Q E)
def FL (n : Nat) (fs : Sq → Out (List PV)) : Prop := ∀ S ps S', fs S = .ok ps S' → ps.length = n
theorem fl_nil : FL 0 fNil := fun S ps S' h => by
  unfold fNil at h
  cases h; rfl
theorem fl_cons {n : Nat} {fa : Sq → Out PV} {fr : Sq → Out (List PV)} (h : FL n fr) : FL (n + 1) (fCons fa fr) := fun S ps S' e => by
  unfold fCons at e
  cases o : fzF fa S with
  | no => rw [o] at e; cases e
  | ex c s => rw [o] at e; cases e
  | ok p S1 =>
    rw [o] at e
    have e : (fr S1).bind (fun ps S2 => .ok (p :: ps) S2) = .ok ps S' := e
    cases o2 : fr S1 with
    | no => rw [o2] at e; cases e
    | ex c s => rw [o2] at e; cases e
    | ok qs S2 =>
      rw [o2] at e
      cases e
      simp [h S1 qs _ o2]
/-- an own class of exceptions -/
structure ExcG (K : PySem.W.Frag) (mg : Str → Option Value) (x : Str) : Prop where
  g : mg x = some (.ref (He.ga K x))
  q : PySem.W.excIn K (He.ga K x) He.veBase "ValueError.__new__" = true
  kp : PySem.W.keepIn K (.ref (He.ga K x)) = true
  b : PySem.W.subIn K (.ref (He.ga K x)) (.type "BaseException") = some true
  t : PySem.W.typeIn K (.ref (He.ga K x)) = some (.type "type")
section
variable {X : Cx} {W : WX} {a b c e : Expr} {es : List Expr} {fa fb fc : Sq → Out PV} {fs : Sq → Out (List PV)} {pos p : Pos} {N : List Str} {sc : Scope} {k j : Nat} {G : Gb} {x : Str} {ps : List Str} {fn : Fd}
theorem excF (C : Cq G k N sc X) (E : ExcG G.K G.mg x) : ExcF X x := by
  obtain ⟨c1, c2, c3, c4, c5, c6, c7, c8, c9, c10, c11, c12⟩ := C
  exact ⟨by rw [c10, c11]; exact E.g, by rw [c10]; exact E.q, by rw [c10]; exact E.kp, by rw [c10]; exact E.b, by rw [c10]; exact E.t⟩
theorem de_callH (C : Cq G k N sc X) (tk : Takes X W) (h : Has G j x ps fn) (hj : j ≤ k) (hl : sc.names.lookup x = some .globalImplicit) (hlen : (e :: es).length = ps.length)
    (ha : DA X W (e :: es) fs) (hfl : FL (e :: es).length fs) (hdb : (x == ("__debug__" : Str)) = false := by decide) (he : starEach (e :: es) X.env = (false, eval e X.env) :: starEach es X.env := by rfl) (hpl : (backTo pos (starEach es X.env)).any (·.1) = false := by rfl) :
    DE X W (.Call (.Name x p) (e :: es) [] pos) (callF fn fs) := by
  obtain ⟨f, fd, h1, h2, h3, h4⟩ := h
  exact de_call C tk h4 hj (glC C hl) h1 h2 h3 hlen ha hdb he hpl hfl
theorem ds_raiseG {m : Str} {i : Nat} {p p1 p2 : Pos} (C : Cq G k N sc X) (tk : Takes X W) (E : ExcG G.K G.mg x) (hl : sc.names.lookup x = some .globalImplicit) (hdb : (x == ("__debug__" : Str)) = false := by decide) : DS X W (.Raise (some (.Call (.Name x p) [.Constant (.str m) i p1] [] p2)) none pos) (raiseF x) :=
  ds_raise C tk (excF C E) (glC C hl) hdb
/-- -e -/
def gNeg : D → Option PV
  | .int i => some (.v (.int (-i)))
  | _ => none
theorem de_neg (ha : DE X W a fa) : DE X W (.UnaryOp .USub a pos) (f1 gNeg fa) := by
  refine PE.weak (pe_un un_neg (de_fz ha)) fun σ H Q z => ?_
  obtain ⟨F0, H0, pa, F, S, A, z⟩ := z
  unfold f1 at z
  rw [OutP.bind] at z
  refine ⟨F0, H0, pa, F, S, A, z.imp (fun p S1 z v F1 H1 x1 A1 r1 => ?_) fun _ _ z => z⟩
  split at z
  · rename_i d e1
    split at z
    · rename_i w e2
      have hv := A1.val r1 e1
      cases d <;> simp only [gNeg] at e2 <;> try (cases e2; done)
      cases e2
      rw [hv.int]
      exact ⟨_, rfl, z _ F1 H1 x1 A1 (.int _)⟩
    · exact z.elim
  · exact z.elim
/-- is the slot's value None? an exception isn't -/
def fSlN (i : Nat) (neg : Bool) : Sq → Out PV := fun S => match S.r[i]? with
  | some (.d x) => .ok (.v (.bool (if neg then !isNone x else isNone x))) S
  | some (.e _) => .ok (.v (.bool neg)) S
  | _ => .no
theorem rd_slN {K : PySem.W.Frag} {σ : L2.St} {H : Hp} {Q : VK} {i : Nat} {neg : Bool} (z : rd K W (fSlN i neg) σ H Q) : ∃ v, σ[i]? = some (some v) ∧ Q (.bl (if neg then !decide (v = .non) else decide (v = .non))) H := by
  obtain ⟨F0, H0, pa, F, S, A, z⟩ := z
  unfold fSlN at z
  split at z
  · rename_i x q
    obtain ⟨v, e1, e2⟩ := A.slots i _ q
    refine ⟨v, e1, ?_⟩
    rw [Dv.isN (H := H) (.inl e2)]
    exact z _ F H (Ex.refl F) A (.bl _)
  · rename_i c q
    obtain ⟨a, e1, e2⟩ := A.slots i _ q
    refine ⟨_, e1, ?_⟩
    have e : decide (V.ref a = V.non) = false := decide_eq_false fun z => nomatch z
    rw [e]
    have := z (.bl neg) F H (Ex.refl F) A (.bl _)
    cases neg <;> exact this
  · exact z.elim
theorem de_slN (i : Nat) {n : Nat} {p1 p2 : Pos} (C : Cq G k N sc X) (hN : N[i]? = some x := by rfl) (hv : sc.names.lookup x = some .local ∨ sc.names.lookup x = some .cell ∨ sc.names.lookup x = some .free := by first | exact Or.inl rfl | exact Or.inr (Or.inl rfl) | exact Or.inr (Or.inr rfl))
    (hd : (x == ("__debug__" : Str)) = false := by decide) (hcd : (x == ("__classdict__" : Str)) = false := by decide) : DE X W (.Compare (.Name x p1) [.Is] [.Constant .none n p2] pos) (fSlN i false) :=
  PE.weak (pe_cmpR op_isN (pe_var (i := i) (by rw [C.names]; exact hN) (by show Vis X.env.scope x; rw [C.scope]; exact hv) hd hcd) pe_non (nomark _)) fun _ _ _ z => by
    obtain ⟨v, e1, q⟩ := rd_slN z
    exact ⟨v, e1, rfl, q⟩
theorem de_slNN (i : Nat) {n : Nat} {p1 p2 : Pos} (C : Cq G k N sc X) (hN : N[i]? = some x := by rfl) (hv : sc.names.lookup x = some .local ∨ sc.names.lookup x = some .cell ∨ sc.names.lookup x = some .free := by first | exact Or.inl rfl | exact Or.inr (Or.inl rfl) | exact Or.inr (Or.inr rfl))
    (hd : (x == ("__debug__" : Str)) = false := by decide) (hcd : (x == ("__classdict__" : Str)) = false := by decide) : DE X W (.Compare (.Name x p1) [.IsNot] [.Constant .none n p2] pos) (fSlN i true) :=
  PE.weak (pe_cmpR op_notN (pe_var (i := i) (by rw [C.names]; exact hN) (by show Vis X.env.scope x; rw [C.scope]; exact hv) hd hcd) pe_non (nomark _)) fun _ _ _ z => by
    obtain ⟨v, e1, q⟩ := rd_slN z
    exact ⟨v, e1, rfl, q⟩
/-- a slice of the script -/
def fScr (i : Nat) (lo hi : Option Int) : Sq → Out PV := fun S => match S.r[i]? with
  | some (.sc ns) => .ok (.o (.l ((cutG ns lo hi).map .int))) S
  | _ => .no
theorem de_scr (i : Nat) {lo hi : Option Expr} {p1 p2 : Pos} {il ih : Option Int} (C : Cq G k N sc X) (hl : PO X lo fun σ H Q => Q il H) (hh : PO X hi fun σ H Q => Q ih H) (hN : N[i]? = some x := by rfl) (hv : sc.names.lookup x = some .local ∨ sc.names.lookup x = some .cell ∨ sc.names.lookup x = some .free := by first | exact Or.inl rfl | exact Or.inr (Or.inl rfl) | exact Or.inr (Or.inr rfl))
    (hd : (x == ("__debug__" : Str)) = false := by decide) (hcd : (x == ("__classdict__" : Str)) = false := by decide) : DE X W (.Subscript (.Name x p1) (.Slice lo hi none p2) pos) (fScr i il ih) := by
  refine PE.weak (pe_slice sl_list (pe_var (i := i) (by rw [C.names]; exact hN) (by show Vis X.env.scope x; rw [C.scope]; exact hv) hd hcd) hl hh) fun σ H Q z => ?_
  obtain ⟨F0, H0, pa, F, S, A, z⟩ := z
  unfold fScr at z
  split at z
  · rename_i ns q
    obtain ⟨a, e1, e2⟩ := A.slots i _ q
    refine ⟨_, e1, a, _, rfl, ex_l A.sub e2, fun p hp => ?_⟩
    have e : cutV (ns.map V.int) il ih = (cutG ns il ih).map V.int := by
      unfold cutV cutG
      rw [List.length_map, List.map_take, List.map_drop]
    rw [e]
    obtain ⟨B, o⟩ := A.newO (vs := (cutG ns il ih).map V.int) hp (DnAll.of_ints _)
    exact z _ F _ (Ex.refl F) B o
  · exact z.elim
theorem po_i {i : Int} {n : Nat} {p : Pos} : PO X (some (.Constant (.int i) n p)) fun σ H Q => Q (some i) H := ⟨fun pins s σ H Q I h => (po_some pe_int).run pins s σ H Q I ⟨i, rfl, h⟩⟩
theorem po_n : PO X none fun σ H Q => Q none H := ⟨fun pins s σ H Q I h => po_none.run pins s σ H Q I h⟩
end
end Q3
/-! Q3p: defs of the text. -/
namespace Q3
open PySem PySem.Spec PyProof.Rows L2
variable [TabSet]
section
variable {X : Cx} {N : List Str} {sc : Scope} {k : Nat} {G : Gb}
theorem sw_env {ts : List Expr} {v : Expr} {e e' : Env} (h : e.scope = e'.scope) : swappedStores ts v e = swappedStores ts v e' := by
  have hb : e.blockKind = e'.blockKind := by unfold Env.blockKind; rw [h]
  have hk : e.kindOf = e'.kindOf := by funext x; unfold Env.kindOf; rw [h]
  unfold swappedStores
  rw [hb, hk]
theorem sw_of {ts : List Expr} {v : Expr} {r : Sem (Option (List Str))} (C : Cq G k N sc X) (h : swappedStores ts v { X.env with scope := sc } = r) : swappedStores ts v X.env = r := by
  rw [← h]
  exact sw_env C.scope
end
/-! ### comparisons as tests -/
section
variable {X : Cx} {W : WX} {a b c e : Expr} {fa fb fc : Sq → Out PV} {pos : Pos} {N : List Str} {sc : Scope} {k : Nat} {G : Gb} {x : Str}
theorem rd_of_fB {K : PySem.W.Frag} {σ : L2.St} {H : Hp} {Q : Bool → Hp → Prop} (z : rdT K W (fB fa) σ H Q) : rd K W fa σ H fun v H1 => ∃ k, v = .bl k ∧ Q k H1 := by
  obtain ⟨F0, H0, pa, F, S, A, z⟩ := z
  unfold fB at z
  rw [OutP.bind] at z
  refine ⟨F0, H0, pa, F, S, A, z.imp (fun w S3 z v F3 H3 x3 A3 r3 => ?_) fun _ _ z => z⟩
  split at z
  · rename_i b e3
    exact ⟨b, (A3.val r3 e3).bl, z F3 H3 x3 A3⟩
  · exact z.elim
theorem dt_cmp {op : CmpOp} {r : R2} {g : D → D → Option PV} (ho : OpR X (compareOp op) r) (dz : Does2 X.K r g) (ha : DE X W a fa) (hb : DE X W b fb) (hm : behindInMarks op b = false := by first | exact nomark _ | rfl) : DT X W (.Compare a [op] [b] pos) (fB (fBin g fa fb)) :=
  PT.weak (pt_cmpR ho (de_fz ha) (de_fz hb) hm) fun _ _ _ z => rd_op2 dz (rd_of_fB z)
theorem dt_eq (C : Cq G k N sc X) (ha : DE X W a fa) (hb : DE X W b fb) : DT X W (.Compare a [.Eq] [b] pos) (fB (fBin gEq fa fb)) := dt_cmp (op_eqA (by have := C.hd.un; omega)) does_eq ha hb
theorem dt_ne (C : Cq G k N sc X) (ha : DE X W a fa) (hb : DE X W b fb) : DT X W (.Compare a [.NotEq] [b] pos) (fB (fBin gNe fa fb)) := dt_cmp (op_neA (by have := C.hd.un; omega)) does_ne ha hb
theorem dt_lt (ha : DE X W a fa) (hb : DE X W b fb) : DT X W (.Compare a [.Lt] [b] pos) (fB (fBin gLt fa fb)) := dt_cmp op_lt (does_I0 fun _ _ _ => .bl _) ha hb
theorem dt_le (ha : DE X W a fa) (hb : DE X W b fb) : DT X W (.Compare a [.LtE] [b] pos) (fB (fBin gLe fa fb)) := dt_cmp op_le (does_I0 fun _ _ _ => .bl _) ha hb
theorem dt_gt (ha : DE X W a fa) (hb : DE X W b fb) : DT X W (.Compare a [.Gt] [b] pos) (fB (fBin gGt fa fb)) := dt_cmp op_gt (does_I0 fun _ _ _ => .bl _) ha hb
theorem dt_ge (ha : DE X W a fa) (hb : DE X W b fb) : DT X W (.Compare a [.GtE] [b] pos) (fB (fBin gGe fa fb)) := dt_cmp op_ge (does_I0 fun _ _ _ => .bl _) ha hb
theorem dt_isN (ha : DE X W a fa) (hb : DE X W b fb) : DT X W (.Compare a [.Is] [b] pos) (fB (fBin gIsN fa fb)) := dt_cmp op_isN does_isN ha hb
theorem dt_notN (ha : DE X W a fa) (hb : DE X W b fb) : DT X W (.Compare a [.IsNot] [b] pos) (fB (fBin gNotN fa fb)) := dt_cmp op_notN does_notN ha hb
theorem dt_in (C : Cq G k N sc X) (ha : DE X W a fa) (hb : DE X W b fb) (hm : behindInMarks .In b = false := by rfl) : DT X W (.Compare a [.In] [b] pos) (fB (fBin (gIn false) fa fb)) := dt_cmp (op_inQ (by have := C.hd.un; omega)) (does_in false) ha hb hm
theorem dt_notIn (C : Cq G k N sc X) (ha : DE X W a fa) (hb : DE X W b fb) (hm : behindInMarks .NotIn b = false := by rfl) : DT X W (.Compare a [.NotIn] [b] pos) (fB (fBin (gIn true) fa fb)) := dt_cmp (op_notInQ (by have := C.hd.un; omega)) (does_in true) ha hb hm
theorem dt_slN (i : Nat) {n : Nat} {p1 p2 : Pos} (C : Cq G k N sc X) (hN : N[i]? = some x := by rfl) (hv : sc.names.lookup x = some .local ∨ sc.names.lookup x = some .cell ∨ sc.names.lookup x = some .free := by first | exact Or.inl rfl | exact Or.inr (Or.inl rfl) | exact Or.inr (Or.inr rfl))
    (hd : (x == ("__debug__" : Str)) = false := by decide) (hcd : (x == ("__classdict__" : Str)) = false := by decide) : DT X W (.Compare (.Name x p1) [.Is] [.Constant .none n p2] pos) (fB (fSlN i false)) :=
  PT.weak (pt_cmpR op_isN (pe_var (i := i) (by rw [C.names]; exact hN) (by show Vis X.env.scope x; rw [C.scope]; exact hv) hd hcd) pe_non (nomark _)) fun _ _ _ z => by
    obtain ⟨v, e1, q⟩ := rd_slN (rd_of_fB z)
    exact ⟨v, e1, rfl, q⟩
theorem dt_slNN (i : Nat) {n : Nat} {p1 p2 : Pos} (C : Cq G k N sc X) (hN : N[i]? = some x := by rfl) (hv : sc.names.lookup x = some .local ∨ sc.names.lookup x = some .cell ∨ sc.names.lookup x = some .free := by first | exact Or.inl rfl | exact Or.inr (Or.inl rfl) | exact Or.inr (Or.inr rfl))
    (hd : (x == ("__debug__" : Str)) = false := by decide) (hcd : (x == ("__classdict__" : Str)) = false := by decide) : DT X W (.Compare (.Name x p1) [.IsNot] [.Constant .none n p2] pos) (fB (fSlN i true)) :=
  PT.weak (pt_cmpR op_notN (pe_var (i := i) (by rw [C.names]; exact hN) (by show Vis X.env.scope x; rw [C.scope]; exact hv) hd hcd) pe_non (nomark _)) fun _ _ _ z => by
    obtain ⟨v, e1, q⟩ := rd_slN (rd_of_fB z)
    exact ⟨v, e1, rfl, q⟩
/-- a <= b <= c as a test -/
theorem dt_chain {op op' : CmpOp} {p q : Int → Int → Bool} (ho : OpR X (compareOp op) (rI0 fun i j => .bl (p i j))) (ho' : OpR X (compareOp op') (rI0 fun i j => .bl (q i j))) (ha : DE X W a fa) (hb : DE X W b fb) (hc : DE X W c fc)
    (hm : lastMarks [op, op'] [b, c] = false := by with_unfolding_all rfl) : DT X W (.Compare a [op, op'] [b, c] pos) (fB (fChain p q fa fb fc)) := by
  refine PT.weak (pt_chain ho ho' (de_fz ha) (de_fz hb) (de_fz hc) hm) fun σ H Q z => ?_
  have z := rd_of_fB z
  refine rd_two (Q := _) (R := fun x y H2 => (rI0 fun i j => V.bl (p i j)) x y H2 fun z H3 => ∃ k, z = .bl k ∧ (if k = true then rd X.K W (fzF fc) σ H3 fun w' H4 => (rI0 fun i j => V.bl (q i j)) y w' H4 fun z' H5 => ∃ k', z' = .bl k' ∧ Q k' H5 else ∃ k', V.bl false = .bl k' ∧ Q k' H3)) z fun F0 H0 pa F H' S' x y v u A rx ry z => ?_
  split at z
  · rename_i i j e1 e2
    have ev := Dv.of_int A rx e1
    have eu := Dv.of_int A ry e2
    subst ev eu
    refine ⟨i, j, rfl, rfl, _, rfl, ?_⟩
    by_cases hp : p i j = true
    · rw [if_pos hp] at z ⊢
      rw [OutP.bind] at z
      refine ⟨F0, H0, pa, F, S', A, z.imp (fun w S3 z v F3 H3 x3 A3 r3 => ?_) fun _ _ z => z⟩
      split at z
      · rename_i l e3
        rw [Dv.of_int A3 r3 e3]
        obtain ⟨k', e4, e5⟩ := z _ F3 H3 x3 A3 (.bl _)
        cases e4
        exact ⟨j, l, rfl, rfl, _, rfl, e5⟩
      · exact z.elim
    · rw [if_neg hp] at z ⊢
      exact z _ F H' (Ex.refl F) A (.bl _)
  · exact z.elim
end
/-- a def of the text as the program has it -/
def HasD (K : PySem.W.Frag) (mg : Str → Option Value) (x : Str) (st : Stmt) : Prop := ∃ f fd, FunD K x x (defArgs st) (defBody st) (defScope st) [] [] f fd ∧ mg x = some (.ref f)
theorem has_of {G : Gb} {k n : Nat} {x : Str} {st : Stmt} {N ps : List Str} {g : Sq → Fl} (D : HasD G.K G.mg x st)
    (hb : ∀ (kV doc pm : Value) (an : Option Addr) (cdv ct : Value) (us : List Value), us.length = ps.length → bindArgs (PySem.W.fnOf x x (defArgs st) (defBody st) (defScope st) .none kV doc pm an cdv ct) ⟨us, []⟩ = pure (ps.zip us))
    (S : FnScope N ps (defScope st)) (hn : N.length = n) (h : ∀ X W, Cq G k N (defScope st) X → (∀ x, X.fn x = true) → Takes X W → DSs X W (defBody st) g) : Has G (k + 1) x ps (runB n g) := by
  obtain ⟨f, fd, F, m⟩ := D
  exact ⟨f, fd, m, F.kp, F.bindsN hb, fnG F S hn fun X W C f t _ _ => h X W C f t⟩
end Q3
/-! Q3q: an exception that is caught and held. -/
namespace Q3
open PySem PySem.Spec PyProof.Rows L2
section
variable {X : Cx} {pins : List (Addr × Obj)} {σ : L2.St} {H : Hp} {s : Shared}
theorem exV_ok {P : Program} {w : World} {H : Hp} {h : Heap} {a : Addr} {cls : Value} {oe : Obj} {vs : Array Value} (e : h.get? a = some oe) (z : Zc cls none oe) (d : oe.data = .fields vs) : ObjOk P w H h a (exV cls a) :=
  ⟨⟨oe, vs, e, z, d⟩, ⟨oe, e⟩, fun _ _ ⟨o, v, q, r⟩ k => ⟨o, v, k o q, r⟩⟩
/-- an object that is there and untracked is told -/
theorem track {a : Addr} {cls : Value} {oe : Obj} {vs : Array Value} (I : Inv X pins σ H s) (he : s.heap.get? a = some oe) (hz : Zc cls none oe) (hd : oe.data = .fields vs) (na : H a = none) (nL : a ≠ X.env.locals) (hp : ∀ p ∈ X.pn ++ pins, p.1 ≠ a)
    (hb : ∀ o, X.s_0.heap.get? a = some o → X.H_0 a = none → a ∉ X.ex → False) : Inv X pins σ (upd H a (exV cls a)) s := by
  have ne : ∀ {b : Addr} {o : HO}, H b = some o → b ≠ a := fun e z => by rw [z, na] at e; cases e
  refine ⟨I.ok, I.os, I.bare, ⟨I.base.keep, I.base.slot, fun b o e n hx => ?_, I.base.there, fun b xs e => ?_, fun b o u e => ?_, fun b ps e => ?_⟩, I.loc, I.cell, ?_, fun x c e => ?_, fun p hm => ?_, fun b u e => ?_, I.len⟩
  · by_cases q : b = a
    · subst q
      exact (hb o e n hx).elim
    · rw [upd_ne q]; exact I.base.free b o e n hx
  · have := I.base.tups b xs e
    rw [upd_ne (ne this)]; exact this
  · have := I.base.frzs b o u e
    rw [upd_ne (ne this)]; exact this
  · obtain ⟨more, h⟩ := I.base.tbls b ps e
    exact ⟨more, by rw [upd_ne (ne h)]; exact h⟩
  · rw [upd_ne (Ne.symm nL)]; exact I.free
  · have hc : c ≠ a := fun z => by
      obtain ⟨v, o, ho, hd'⟩ := I.cell x c e
      rw [z, he] at ho
      cases ho
      rw [hd] at hd'
      cases hd'
    rw [upd_ne hc]; exact I.freeC x c e
  · obtain ⟨h1, h2, h3, h4, h5⟩ := I.pin p hm
    exact ⟨h1, by rw [upd_ne (hp p hm)]; exact h2, h3, h4, h5⟩
  · by_cases q : b = a
    · subst q
      rw [upd_same] at e
      cases e
      exact exV_ok he hz hd
    · rw [upd_ne q] at e
      exact (I.hok b u e).stay (fun c v _ q => q) (fun c q => by rw [upd_ne (ne q)]; exact q) fun c xs q => by rw [upd_ne (ne q)]; exact q
end
section
variable {X : Cx} {x n m : Str} {c : Value} {i j : Nat} {body : List Stmt} {np pos pos' p1 p2 p3 : Pos} {tb : WX → TS} {Wout : WX}
/-- what 'except x as n: m = n' wishes: slot i is n's, slot j is m's -/
def wHeld (K : PySem.W.Frag) (c : Value) (i j L : Nat) (Wout : WX) (D : Ends) : WX := fun cls d σ H => σ.length = L → d = none ∧
    ∃ b, PySem.W.exmOne K cls c = some b ∧ (b = true → ∀ a, H a = none → D.nx ((((σ.set i (some (.ref a))).set j (some (.ref a)))).set i none) (upd H a (exV cls a))) ∧ (b = false → Wout cls d σ H)
theorem ps_try_held (hs : X.stack = X.env :: X.outer) (hf : X.env.frame = some X.env.locals) (hex : X.ex = []) (hN : X.N.Nodup) (hi : X.N[i]? = some n) (hj : X.N[j]? = some m) (hln : X.env.kindOf n = some .local) (hlm : X.env.kindOf m = some .local) (hc : Names X x c) (tk : Takes X Wout)
    (hb : ∀ (W : WX) (pn : List (Addr × Obj)) (xe : Value → Shared → Prop), Takes (X.tr pn xe) W → PassesOwn (model X.prog X.w) X.A X.env xe → PSs (X.tr pn xe) body (tb W))
    (hdn : (n == ("__debug__" : Str)) = false := by decide) (hcn : (n == ("__classdict__" : Str)) = false := by decide) (hsw : ∀ e : Env, swapsWith (.Name n p2) (some (.Name m p1)) p3.line e = pure false := by intro _; rfl) :
    PS X (.Try body [.ExceptHandler (some (.Name x np)) (some n) [.Assign [.Name m p1] (.Name n p2) p3] pos'] [] [] pos) (fun D σ H => tb (wHeld X.K c i j X.N.length Wout D) D σ H) := by
  refine ⟨fun pins s σ H D I h => ?_⟩
  have ok := I.ok
  have hfr : X.A.frames = some (X.env :: X.outer) := by rw [ok.frames, hs]
  have hloc : Loc X.env.scope n := .inl hln
  refine wpAny_Try_except ?_
  refine wpAny_mono ((hb (wHeld X.K c i j X.N.length Wout D) (X.pn ++ pins) (fun e s₁ => wpAny (model X.prog X.w) X.A (noteFrame e X.env) (fun _ s₂ => wpAny (model X.prog X.w) X.A (setFlight e none) (fun _ s₃ =>
    wpAny (model X.prog X.w) X.A (handleBy e X.env [.ExceptHandler (some (.Name x np)) (some n) [.Assign [.Name m p1] (.Name n p2) p3] pos']) (SP X pins D) X.xe s₃) X.xe s₂) X.xe s₁) (fun u s' xx => ?_) PassesOwn.looking).run [] s σ H D (I.toTry _) h) (fun f s1 hsp => ?_) (fun e s1 he => he)
  · obtain ⟨a, B, sI, pins', σ', H', cls, d, rfl, J', nb, up, sky, na, os, ag, w⟩ := xx
    have J : Inv X pins σ' H' sI := J'.ofTry ok
    obtain ⟨hd0, b, hb1, hyes, hno⟩ := w J.len
    subst hd0
    have sky' : Sky B (X.env :: X.outer) a (Zc cls none) X.env.locals s'.heap := by rw [← hs]; exact sky
    show wpAny (model X.prog X.w) X.A (noteFrame (.ref a) X.env) _ _ _
    refine Sky.land Zc.steady hfr hf sky' fun h3 fl3 up3 => ?_
    have J3 : Inv X pins σ' H' { s' with heap := h3 } := J.landed nb fl3.1 (up.trans up3) os ag
    obtain ⟨oe3, vs3, he3, hz3, hd3⟩ := fl3.there
    have hBa : B.get? a = none := fl3.2.1
    have notFr : ∀ {h : Heap} {o : Obj} {vs : Array Value}, h.FunFrames B (X.env :: X.outer) → h.get? a = some o → o.data = .fields vs → a ∉ frs (X.env :: X.outer) := fun {h o vs} ff e dd hm => by
      obtain ⟨_, o', e', hnf⟩ := ff.mem hm
      rw [e] at e'; cases e'
      exact hnf _ dd
    have nfr := notFr fl3.2.2.1 he3 hd3
    have nL : a ≠ X.env.locals := fun z => nfr (List.mem_filterMap.mpr ⟨X.env, List.mem_cons_self, by rw [hf, z]⟩)
    have nF : a ∉ X.fs := fun hm => by
      obtain ⟨e, he, q⟩ := List.mem_filterMap.mp hm
      exact nfr (List.mem_filterMap.mpr ⟨e, List.mem_cons_of_mem _ he, q⟩)
    have nfrX : a ∉ frs X.stack := by rw [hs]; exact nfr
    have hbase : ∀ o, X.s_0.heap.get? a = some o → X.H_0 a = none → a ∉ X.ex → False := fun o e n hx => by
      have q := J.base.keep a o e n nF hx
      rw [nb a o q nfrX] at hBa
      cases hBa
    have hpin : ∀ p ∈ X.pn ++ pins, p.1 ≠ a := fun p hm z => by
      obtain ⟨h1, h2, h3, h4, h5⟩ := J.pin p hm
      have q := nb p.1 p.2 h1 (by rw [z]; exact nfrX)
      rw [z, hBa] at q
      cases q
    have S3 := J3.suite he3 hd3 na nL nF
    refine wpAny_handleBy_cons (codeAny_handlers_test ?_) (by intro q; cases q)
    have LT : PySem.W.Looks (model X.prog X.w) h3 (typeOf (.ref a)) cls := fun A Q E s k q => wpAny_typeOf_ref (k _ _ he3) (by rw [hz3.1]; exact q)
    have LM := PySem.W.exm_one (M := model X.prog X.w) (J3.kIn) LT hb1
    have test : ∀ {Q : Value → Shared → Prop} {E : Value → Shared → Prop}, Q c { s' with heap := h3 } → wpAny (model X.prog X.w) (X.A.mark (some (.ref a))) (eval (.Name x np) X.env) Q E { s' with heap := h3 } := fun {Q E} q => by
      obtain ⟨hg, hdbg, hm | ⟨hm, hv, hnn⟩⟩ := hc
      · exact ld_glob (X := X.suite a ((a, oe3) :: (X.pn ++ pins))) S3 hg hm q hdbg
      · exact ld_blt (X := X.suite a ((a, oe3) :: (X.pn ++ pins))) S3 hg hm hv q hnn hdbg
    refine test (LM.here ?_)
    cases b with
    | true =>
      refine codeAny_handlers_suite_as ?_
      refine HandSPX.lands_againZ fl3 fun h4 fl4 up4 => ?_
      have J4 : Inv X pins σ' H' { s' with heap := h4 } := J.landed nb fl4.1 ((up.trans up3).trans up4) os ag
      obtain ⟨oe4, vs4, he4, hz4, hd4⟩ := fl4.there
      have S4 := J4.suite he4 hd4 na nL nF
      have hin : i < σ'.length := by rw [J.len]; exact (List.getElem?_eq_some_iff.mp hi).1
      refine store_ok (X := X.suite a ((a, oe4) :: (X.pn ++ pins))) (v := .ref a) S4 hN hi hloc rfl (fun s5 S5 => ?_) (.inr hln)
      have hsuite : PSs (X.suite a ((a, oe4) :: (X.pn ++ pins))) [.Assign [.Name m p1] (.Name n p2) p3] (tAsg (tVar i) (gName j)) :=
        pss_one (ps_set (X := X.suite a ((a, oe4) :: (X.pn ++ pins))) hN hj (.inl hlm) (pe_var (X := X.suite a ((a, oe4) :: (X.pn ++ pins))) (i := i) hi (.inl hln) hdn hcn) (hsw _) (.inr hlm))
      refine wpAny_mono (hsuite.run [] s5 _ H' { nx := fun σ6 H6 => σ6 = (σ'.set i (some (.ref a))).set j (some (.ref a)) ∧ H6 = H', rt := fun _ _ => False, bk := fun _ _ => False, ct := fun _ _ => False } S5 ⟨.ref a, by rw [List.getElem?_set_self hin], rfl, rfl⟩) (fun f s6 hsp => ?_) (fun _ _ z => False.elim z)
      cases f with
      | next =>
        obtain ⟨σ6, H6, S6, rfl, rfl⟩ := hsp
        have K6 : Inv X ((a, oe4) :: pins) ((σ'.set i (some (.ref a))).set j (some (.ref a))) H6 s6 :=
          ⟨ok, S6.os, S6.bare, S6.base, S6.loc, S6.cell, S6.free, S6.freeC, fun p hp => S6.pin p (by
            have hp' : p ∈ (a, oe4) :: (X.pn ++ pins) := by
              rcases List.mem_append.mp hp with z | z
              · exact List.mem_cons_of_mem _ (List.mem_append_left _ z)
              · rcases List.mem_cons.mp z with z | z
                · rw [z]; exact List.mem_cons_self
                · exact List.mem_cons_of_mem _ (List.mem_append_right _ z)
            exact List.mem_append_left _ hp'), S6.hok, S6.len⟩
        refine gone_ok K6 hN hi hln fun s7 J7 => ?_
        obtain ⟨g1, g2, _⟩ := J7.pin (a, oe4) (List.mem_append_right _ List.mem_cons_self)
        have J8 : Inv X pins ((((σ'.set i (some (.ref a))).set j (some (.ref a)))).set i none) H6 s7 := ⟨J7.ok, J7.os, J7.bare, J7.base, J7.loc, J7.cell, J7.free, J7.freeC, fun p hp => J7.pin p (by
          rcases List.mem_append.mp hp with z | z
          · exact List.mem_append_left _ z
          · exact List.mem_append_right _ (List.mem_cons_of_mem _ z)), J7.hok, J7.len⟩
        exact ⟨_, _, track J8 g1 hz4 hd4 g2 nL hpin hbase, hyes rfl a na⟩
      | brk => obtain ⟨_, _, _, z⟩ := hsp; exact z.elim
      | cont => obtain ⟨_, _, _, z⟩ := hsp; exact z.elim
      | ret u => obtain ⟨_, _, _, _, _, z⟩ := hsp; exact z.elim
    | false =>
      show wpAny _ X.A (handleBy (.ref a) X.env []) _ _ _
      refine wpAny_handleBy_nil ?_
      obtain ⟨k1, k2, k3, oe, vs, T, oT, ts', he, hz, hd, h1, hr⟩ := id fl3
      unfold PySem.passOn
      refine wpAny_bind (wpAny_field he hd h1 ?_)
      rw [if_neg (show ¬ ((Value.ref T == Value.none) = true) from by simp)]
      have fin : wpAny (model X.prog X.w) X.A (setFlight (.ref a) X.env.frame) (fun _ s4 => wpAny (model X.prog X.w) X.A (throw (.ref a) : Sem Flow) (SP X pins D) X.xe s4) X.xe { s' with heap := h3 } := by
        rw [hf]
        refine HandSPX.setFlight_upZ fl3 fun h4 hh4 up4 => wpAny_throw (tk _ _ ?_)
        exact ⟨a, B, sI, pins, σ', H', cls, none, rfl, J, nb, (up.trans up3).trans up4, .inr (.inr (by rw [hs]; exact hh4)), na, os, ag, hno rfl⟩
      first
        | exact wpAny_bind (wpAny_pure (wpAny_bind fin))
        | exact wpAny_bind fin
  · cases f with
    | next =>
      obtain ⟨σ', H', J', q⟩ := hsp
      exact wpAny_execs_nil ⟨σ', H', J'.ofTry ok, q⟩
    | brk =>
      obtain ⟨σ', H', J', q⟩ := hsp
      exact ⟨σ', H', J'.ofTry ok, q⟩
    | cont =>
      obtain ⟨σ', H', J', q⟩ := hsp
      exact ⟨σ', H', J'.ofTry ok, q⟩
    | ret u =>
      obtain ⟨v, σ', H', J', r, q⟩ := hsp
      exact ⟨v, σ', H', J'.ofTry ok, r, q⟩
/-- isinstance of a held exception -/
def rIsHeld (K : PySem.W.Frag) : List V → Hp → VK → Prop := fun xs H Q => ∃ (a D : Addr) (c : V) (cv : Value) (b : Bool), xs = [.ref a, c] ∧ H a = some (exV (.ref D) a) ∧ ExcC K D ∧ ClsV c cv ∧ PySem.W.kitOne K (.ref D) cv = some b ∧ Q (.bl b) H
theorem call_isHeld {X : Cx} : CallR X (.builtin "isinstance") (rIsHeld X.K) := by
  intro pins s σ H xs us Q I r h
  obtain ⟨a, D, c, cv, b, rfl, ha, C, hcv, e, q⟩ := h
  obtain ⟨u1, u2, rfl, r1, r2⟩ := vals2 r
  cases r1
  have ec := hcv.eq r2
  subst ec
  obtain ⟨⟨oe, vs, hget, hz, hv⟩, _, _⟩ := I.hok a _ ha
  have J : PySem.W.InstAt s.heap a oe D none := by
    obtain ⟨oc, od, oda, osl⟩ := oe
    obtain ⟨h1, h2⟩ := hz
    dsimp only at h1 h2 hv
    subst h1 h2 hv
    exact ⟨hget, rfl, rfl, trivial⟩
  exact PySem.W.kia_one (PySem.W.handS_kitx_exc C.hg C.hk C.hs C.hd C.ha C.hn C.ht C.hm) I.kIn J e (fun z => nomatch z) fun tk => ⟨.bl b, H, I.kept (t' := tk) fun _ _ z => z, rfl, q⟩
end
end Q3
/-! Q3r: the classes of a held exception; places and counts of truths. -/
namespace Q3
open PySem PySem.Spec PyProof.Rows L2
variable [TabSet]
/-- what is known of the classes cl, all below top -/
structure ExcAll (K : PySem.W.Frag) (mg : Str → Option Value) (cl : List Str) (top : Str) : Prop where
  g : ∀ x ∈ cl, mg x = some (.ref (He.ga K x))
  gt : mg top = some (.ref (He.ga K top))
  c : ∀ x ∈ cl, ExcC K (He.ga K x)
  k : ∀ x ∈ cl, ∀ y ∈ cl, PySem.W.kitOne K (.ref (He.ga K x)) (.ref (He.ga K y)) = some (x == y)
  v : ∀ x ∈ cl, PySem.W.kitOne K (.ref (He.ga K x)) (.type "ValueError") = some true
  m : ∀ x ∈ cl, PySem.W.exmOne K (.ref (He.ga K x)) (.ref (He.ga K top)) = some true
  ms : ∀ x ∈ cl, PySem.W.exmOne K (.ref (He.ga K x)) (.ref (He.ga K x)) = some true
section
variable {X : Cx} {W : WX} {a b c e o : Expr} {fa fb fc : Sq → Out PV} {pos : Pos} {N : List Str} {sc : Scope} {k : Nat} {G : Gb} {x y : Str} {cl : List Str} {top : Str}
/-- isinstance(v, an own class), v a slot's held exception -/
def fIsE (cl : List Str) (i : Nat) (y : Str) : Sq → Out PV := fun S => match S.r[i]? with
  | some (.e c) => if c ∈ cl then .ok (.v (.bool (c == y))) S else .no
  | _ => .no
theorem de_isE (i : Nat) {p p1 p2 : Pos} (C : Cq G k N sc X) (V : ExcAll G.K G.mg cl top) (hy : y ∈ cl) (mi : G.mg "isinstance" = none) (li : sc.names.lookup ("isinstance" : Str) = some .globalImplicit) (ly : sc.names.lookup y = some .globalImplicit) (hN : N[i]? = some x := by rfl) (hv : sc.names.lookup x = some .local ∨ sc.names.lookup x = some .cell ∨ sc.names.lookup x = some .free := by first | exact Or.inl rfl | exact Or.inr (Or.inl rfl) | exact Or.inr (Or.inr rfl))
    (hd : (x == ("__debug__" : Str)) = false := by decide) (hcd : (x == ("__classdict__" : Str)) = false := by decide) (hyd : (y == ("__debug__" : Str)) = false := by decide) (hst : starEach [.Name x p1, .Name y p2] X.env = (false, eval (.Name x p1) X.env) :: starEach [.Name y p2] X.env := by rfl) (hpl : (backTo pos (starEach [.Name y p2] X.env)).any (·.1) = false := by rfl) :
    DE X W (.Call (.Name "isinstance" p) [.Name x p1, .Name y p2] [] pos) (fIsE cl i y) := by
  refine PE.weak (pe_callB call_isHeld (glC C li) (mgC C mi) (by decide +kernel) (pa_cons (pe_var (i := i) (by rw [C.names]; exact hN) (by show Vis X.env.scope x; rw [C.scope]; exact hv) hd hcd) (pa_cons (pe_glob (v := .ref (He.ga G.K y)) (glC C ly) (mgC C (V.g y hy)) rfl hyd) pa_nil (by rfl)) hst) (by decide) (by decide) hst hpl) fun σ H Q z => ?_
  obtain ⟨F0, H0, pa, F, S, A, z⟩ := z
  unfold fIsE at z
  split at z
  · rename_i c0 q
    split at z
    · rename_i hc
      obtain ⟨a, e1, e2⟩ := A.slots i _ q
      have hK : X.K = G.K := C.K
      refine ⟨.ref a, e1, a, _, _, _, _, rfl, A.sub _ _ e2, ?_, .own _, ?_, z _ F H (Ex.refl F) A (.bl _)⟩
      · rw [hK]; exact V.c c0 hc
      · rw [hK]; exact V.k c0 hc y hy
    · exact z.elim
  · exact z.elim
/-- isinstance(v, ValueError) -/
def fIsV (cl : List Str) (i : Nat) : Sq → Out PV := fun S => match S.r[i]? with
  | some (.e c) => if c ∈ cl then .ok (.v (.bool true)) S else .no
  | _ => .no
theorem de_isV (i : Nat) {p p1 p2 : Pos} (C : Cq G k N sc X) (V : ExcAll G.K G.mg cl top) (mi : G.mg "isinstance" = none) (mv : G.mg "ValueError" = none) (li : sc.names.lookup ("isinstance" : Str) = some .globalImplicit) (ly : sc.names.lookup ("ValueError" : Str) = some .globalImplicit) (hN : N[i]? = some x := by rfl) (hv : sc.names.lookup x = some .local ∨ sc.names.lookup x = some .cell ∨ sc.names.lookup x = some .free := by first | exact Or.inl rfl | exact Or.inr (Or.inl rfl) | exact Or.inr (Or.inr rfl))
    (hd : (x == ("__debug__" : Str)) = false := by decide) (hcd : (x == ("__classdict__" : Str)) = false := by decide) (hst : starEach [.Name x p1, .Name "ValueError" p2] X.env = (false, eval (.Name x p1) X.env) :: starEach [.Name "ValueError" p2] X.env := by rfl) (hpl : (backTo pos (starEach [.Name "ValueError" p2] X.env)).any (·.1) = false := by rfl) :
    DE X W (.Call (.Name "isinstance" p) [.Name x p1, .Name "ValueError" p2] [] pos) (fIsV cl i) := by
  refine PE.weak (pe_callB call_isHeld (glC C li) (mgC C mi) (by decide +kernel) (pa_cons (pe_var (i := i) (by rw [C.names]; exact hN) (by show Vis X.env.scope x; rw [C.scope]; exact hv) hd hcd) (pa_cons (pe_tyN (T := "ValueError") (glC C ly) (mgC C mv) (by decide +kernel)) pa_nil (by rfl)) hst) (by decide) (by decide) hst hpl) fun σ H Q z => ?_
  obtain ⟨F0, H0, pa, F, S, A, z⟩ := z
  unfold fIsV at z
  split at z
  · rename_i c0 q
    split at z
    · rename_i hc
      obtain ⟨a, e1, e2⟩ := A.slots i _ q
      have hK : X.K = G.K := C.K
      refine ⟨.ref a, e1, a, _, _, _, _, rfl, A.sub _ _ e2, ?_, .ty _, ?_, z _ F H (Ex.refl F) A (.bl _)⟩
      · rw [hK]; exact V.c c0 hc
      · rw [hK]; exact V.v c0 hc
    · exact z.elim
  · exact z.elim
/-! ### xs.index(b), xs.count(b): truths -/
def gLIndex : D → D → Option PV
  | .list xs, .bool b => (match boolsOf xs with
    | some bs => (match bs.findIdx? (· == b) with
      | some j => some (.v (.int (j : Nat)))
      | none => none)
    | none => none)
  | _, _ => none
theorem flat_bls : ∀ bs : List Bool, (bs.map V.bl).all flatV = true
  | [] => rfl
  | _ :: r => flat_bls r
theorem does_lindex {K : PySem.W.Frag} : DoesM K (rIndex K) gLIndex := by
  intro F H x y d e z Q sub hx hy hg h
  cases d <;> cases e <;> simp only [gLIndex] at hg <;> try (cases hg; done)
  split at hg
  · rename_i bs q
    split at hg
    · rename_i j qj
      cases hg
      obtain ⟨l, vs, rfl, h1, h2⟩ := hx.list sub
      rw [boolsOf_eq q] at h2
      have ev := h2.bls
      subst ev
      rw [hy.bl]
      obtain ⟨hj, pj, pn⟩ := List.findIdx?_eq_some_iff_getElem.mp qj
      refine ⟨l, bs.map V.bl, _, j, .bl bs[j], rfl, rfl, SqL.of h1, rfl, flat_bls bs, by rw [List.getElem?_map, List.getElem?_eq_getElem hj]; rfl, pj, fun m z' hm hz => ?_, h _ _ (Gv.int _)⟩
      rw [List.getElem?_map] at hz
      obtain ⟨b', e1, e2⟩ := Option.map_eq_some_iff.mp hz
      subst e2
      obtain ⟨hm', e3⟩ := List.getElem?_eq_some_iff.mp e1
      have := pn m hm
      rw [e3] at this
      show (b' == _) = false
      simpa using this
    · cases hg
  · cases hg
theorem de_lindex {apos : Pos} (ho : DE X W o fa) (he : DE X W e fb)
    (hbase : attributeBase o "index" X.env (eval o X.env) = eval o X.env := by rfl)
    (hfew : ((backTo pos (starEach [e] X.env)).all (fun x => !x.1) && (backToKw pos (keywordEach [] X.env)).all (fun x => x.1.isSome)
      && decide ([e].length + ([] : List Keyword).length + (if ([] : List Keyword).isEmpty then 0 else 1) < 30)) = true := by rfl)
    (hline : (apos.endLine == pos.line) = true := by rfl) (hs : starEach [e] X.env = (false, eval e X.env) :: starEach [] X.env := by rfl) (hplain : (backTo pos (starEach [] X.env)).any (·.1) = false := by rfl) :
    DE X W (.Call (.Attribute o "index" apos) [e] [] pos) (fM1 "list" gLIndex fa fb) := de_m1 F.plainAttrs_list F.slot_list_index F.type_list_index mt_index does_lindex ho he hbase hfew hline hs hplain
def rCntV (K : PySem.W.Frag) : V → List V → Hp → VK → Prop := fun x xs H Q => ∃ (p : Addr) (ys : List V) (y : V), x = .ref p ∧ xs = [y] ∧ SqL K H p ys ∧ flatV y = true ∧ ys.all flatV = true ∧ Q (.int (ys.countP fun z => eqV z y : Nat)) H
theorem countP_eqU {y : V} : ∀ {ys : List V} {us : List Value}, Vals ys us → ys.all flatV = true → us.countP (eqU y) = ys.countP fun z => eqV z y
  | _, _, .nil, _ => rfl
  | z :: ys, u :: us, .cons r t, f => by
    rw [List.all_cons, Bool.and_eq_true] at f
    rw [List.countP_cons, List.countP_cons, countP_eqU t f.2, eqU_of r f.1]
theorem mt_countV : MtR X "list.count" (rCntV X.K) := by
  intro pins s σ H x xs v us Q I rx rxs h
  obtain ⟨p, ys, y, rfl, rfl, hs, fy, fs, q⟩ := h
  cases rx
  obtain ⟨u, rfl, ru⟩ := rxs.one
  obtain ⟨its, rv, ⟨⟨cls, dd, data, sl⟩, n, ho, hc, hdn, hd⟩, hlen⟩ := I.list hs
  simp only at hc hd
  subst hc hd
  refine call_meets PySem.F.slot_list_count ⟨_, ho, rfl⟩ PySem.F.entry_list_count (PySem.F.args_list_count_2 _ _)
    (SeqAt.list_countAt p its.toArray n dd sl u (eqU y)) ⟨ho, fun w hw => mem_eqAt ru fy rv fs w (by simpa using hw), ?_⟩
  have ec : its.toArray.toList.countP (eqU y) = ys.countP fun z => eqV z y := countP_eqU rv fs
  refine ⟨.int (ys.countP fun z => eqV z y : Nat), H, I.tok _, ⟨s.toks, ?_⟩, q⟩
  show Value.int ((its.toArray.toList.countP (eqU y) : Nat) : Int) s.toks = _
  rw [ec]
def gLCount : D → D → Option PV
  | .list xs, .bool b => (match boolsOf xs with
    | some bs => some (.v (.int (bs.count b : Nat)))
    | none => none)
  | _, _ => none
theorem does_lcount {K : PySem.W.Frag} : DoesM K (rCntV K) gLCount := by
  intro F H x y d e z Q sub hx hy hg h
  cases d <;> cases e <;> simp only [gLCount] at hg <;> try (cases hg; done)
  split at hg
  · rename_i bs q
    cases hg
    obtain ⟨l, vs, rfl, h1, h2⟩ := hx.list sub
    rw [boolsOf_eq q] at h2
    have ev := h2.bls
    subst ev
    rw [hy.bl]
    refine ⟨l, bs.map V.bl, _, rfl, rfl, SqL.of h1, rfl, flat_bls bs, ?_⟩
    rw [List.countP_map]
    exact h _ _ (Gv.int _)
  · cases hg
theorem de_lcount {apos : Pos} (ho : DE X W o fa) (he : DE X W e fb)
    (hbase : attributeBase o "count" X.env (eval o X.env) = eval o X.env := by rfl)
    (hfew : ((backTo pos (starEach [e] X.env)).all (fun x => !x.1) && (backToKw pos (keywordEach [] X.env)).all (fun x => x.1.isSome)
      && decide ([e].length + ([] : List Keyword).length + (if ([] : List Keyword).isEmpty then 0 else 1) < 30)) = true := by rfl)
    (hline : (apos.endLine == pos.line) = true := by rfl) (hs : starEach [e] X.env = (false, eval e X.env) :: starEach [] X.env := by rfl) (hplain : (backTo pos (starEach [] X.env)).any (·.1) = false := by rfl) :
    DE X W (.Call (.Attribute o "count" apos) [e] [] pos) (fM1 "list" gLCount fa fb) := de_m1 F.plainAttrs_list F.slot_list_count F.type_list_count mt_countV does_lcount ho he hbase hfew hline hs hplain
end
end Q3
/-! Q3s: word(lambda: e): what e raises, told by a word. -/
namespace Q3
open PySem PySem.Spec PyProof.Rows L2
variable [TabSet]
section
variable {K : PySem.W.Frag} {F0 H0 F H F' H' H1 : Hp} {pa : Option Addr} {σ σ2 : L2.St} {S S' : Sq}
theorem Agr.extN (A : Agr K F0 H0 pa σ F H S) (e : LamX.ExtN H H1) (t : LamX.Tabs TabSet.T H1) : Agr K F0 H0 pa σ F H1 S := by
  have nt : ∀ {a : Addr} {vs : List V}, H a = some (.lst vs) → H1 a = some (.lst vs) := fun h => e _ _ h fun _ z => nomatch z
  refine ⟨A.fF, fun a o h => e a o (A.sub a o h) fun ps z => A.ft a ps (by rw [h, z]), fun a o h n => e a o (A.hH a o h n) fun ps z => A.n0 a ps (by rw [h, z]), t, A.ft, A.n0, A.new, A.len, fun i c h => ?_, A.dist, A.ownN, ?_⟩
  · have so := A.slots i c h
    cases c with
    | un => trivial
    | d x => exact so
    | l xs =>
      obtain ⟨a, ws, e1, e2, e3, e4⟩ := so
      exact ⟨a, ws, e1, nt e2, e3, e4⟩
    | m kvs =>
      obtain ⟨a, ws, e1, e2, e3, e4⟩ := so
      refine ⟨a, ws, e1, e a _ e2 e4.notbl, e3, e4⟩
    | pen => exact so
    | e c => exact so
    | sc ns => exact so
    | es cs => exact so
  · exact A.pen.imp fun q c o o' hq h1 h2 h3 => by
      refine ⟨?_, h2, h3⟩
      obtain ⟨P, c', _, g1, _⟩ := A.pen.at hq
      rw [g1] at h1
      cases h1
      exact nt g1
/-- another frame over what stays now -/
theorem Agr.frame {r : List R} (A : Agr K F0 H0 pa σ F H S) (hl : r.length = σ2.length) (hs : ∀ (i : Nat) (c : R), r[i]? = some c → SlotOk K pa F H σ2[i]? c) (hn : ∀ (i : Nat) (xs : List D), r[i]? ≠ some (.l xs)) (hm : ∀ (i : Nat) kvs, r[i]? ≠ some (.m kvs)) : Agr K F (bareT H) pa σ2 F H ⟨r, S.p⟩ :=
  ⟨Ex.refl F, A.sub, fun a o h _ => (bareT_some h).1, A.tabs, A.ft, bareT_free, fun a o h => .inl h, hl, hs, fun i j a o _ => (o.2.elim (fun ⟨xs, z⟩ => hn i xs z) fun ⟨kvs, z⟩ => hm i kvs z).elim, fun i a o => (o.2.elim (fun ⟨xs, z⟩ => hn i xs z) fun ⟨kvs, z⟩ => hm i kvs z).elim, A.pen⟩
end
/-- the frame of the def that tells: nothing caught, or an exception of the class c -/
def wFr (n : Nat) (c : R) : List R := .un :: c :: List.replicate n .un
theorem wFr_get {n i : Nat} {c d : R} (h : (wFr n c)[i]? = some d) : d = .un ∨ i = 1 ∧ d = c := by
  match i with
  | 0 => left; simpa [wFr] using h.symm
  | 1 => right; exact ⟨rfl, by simpa [wFr] using h.symm⟩
  | i + 2 =>
    left
    simp [wFr, List.getElem?_replicate] at h
    exact h.2.symm
def wEnd (S1 : Sq) : Fl → Out PV
  | .rt r S2 => (match toPV r with
    | some z => .ok z { S1 with p := S2.p }
    | none => .no)
  | _ => .no
/-- n: the frame's slots but two; cl: the classes; g: what is done behind the try -/
def wordF (n : Nat) (cl : List Str) (g : Sq → Fl) (fE : Sq → Out PV) : Sq → Out PV := fun S => match fE S with
  | .ok _ S1 => wEnd S1 (g ⟨wFr n (.d .none), S1.p⟩)
  | .ex c S1 => if c ∈ cl then wEnd S1 (g ⟨wFr n (.e c), S1.p⟩) else .no
  | .no => .no
section
variable {K : PySem.W.Frag} {F0 H0 F H F' H' H1 : Hp} {pa : Option Addr} {σ σ2 : L2.St} {S S1 : Sq} {Q : VK} {W : WX}
/-- behind the try: from the caller's state -/
theorem wEnd_rs {n : Nat} {c : R} {g : Sq → Fl} (A : Agr K F0 H0 pa σ F H S1) (x : Ex F' F) (hl : σ2.length = n + 2) (hs : SlotOk K pa F H σ2[1]? c) (hc : (∀ xs, c ≠ .l xs) ∧ ∀ kvs, c ≠ .m kvs)
    (z : OutP (wEnd S1 (g ⟨wFr n c, S1.p⟩)) (TP K F0 H0 pa σ F' Q) (EW K W F0 H0 pa σ)) : rs K WF0 g { nx := fun _ H' => Q .non H', rt := Q } σ2 H := by
  refine ⟨F, bareT H, pa, F, ⟨wFr n c, S1.p⟩, A.frame (by simp [wFr, hl]) (fun i d h => ?_) (fun i xs h => ?_) (fun i kvs h => ?_), ?_⟩
  · rcases wFr_get h with rfl | ⟨rfl, rfl⟩
    · trivial
    · exact hs
  · rcases wFr_get h with q | ⟨rfl, q⟩
    · cases q
    · exact hc.1 xs q.symm
  · rcases wFr_get h with q | ⟨rfl, q⟩
    · cases q
    · exact hc.2 kvs q.symm
  · cases o : g ⟨wFr n c, S1.p⟩ with
    | rt r S2 =>
      rw [o] at z
      intro σ' v F3 H3 B q
      unfold wEnd at z
      dsimp only at z
      split at z
      · rename_i w e1
        exact z v F3 H3 (x.trans B.fF) (A.called B.drop) (RelR.toP A B.drop q e1)
      · exact z.elim
    | nx S2 => rw [o] at z; exact z.elim
    | bk S2 => rw [o] at z; exact z.elim
    | ct S2 => rw [o] at z; exact z.elim
    | ex c S2 => rw [o] at z; exact z.elim
    | no => rw [o] at z; exact z.elim
end
/-- what the def makes of the lambda's reading -/
def TTw (K : PySem.W.Frag) (Ng : List Str) (CS : Addr) (g : Sq → Fl) : (XK → Hp → VK → Prop) → Hp → VK → Prop := fun tl H Q => ∀ f : Addr,
  tl (fun cls d H' => d = none ∧ PySem.W.exmOne K cls (.ref CS) = some true ∧ ∀ (a : Addr) (σ' : L2.St), H' a = none → σ'.length = Ng.length →
      rs K WF0 g { nx := fun _ H' => Q .non H', rt := Q } (((σ'.set 2 (some (.ref a))).set 1 (some (.ref a))).set 2 none) (upd H' a (exV cls a))) H
    (fun _ H' => rs K WF0 g { nx := fun _ H' => Q .non H', rt := Q } ((L2.start Ng [.ref f]).set 1 (some .non)) H')
section
variable {X : Cx} {W : WX} {k : Nat} {G : Gb} {N : List Str} {sc : Scope} {x a m e q top : Str} {Ng : List Str} {sg : Scope} {g : Addr} {cdg : Value} {gR : Sq → Fl} {rest : List Stmt} {p1 p2 p3 p4 p5 p6 p7 p8 p9 p10 p11 p12 : Pos} {j1 : Nat}
theorem word_gives (C : Cq G (k + 2) N sc X) (hr : Room (k + 2) X.A) (hNd : Ng.Nodup) (h0 : Ng[0]? = some a) (h1 : Ng[1]? = some m) (h2 : Ng[2]? = some e) (hm : sg.names.lookup m = some .local) (he : sg.names.lookup e = some .local) (ht : sg.names.lookup top = some .globalImplicit) (gt : G.mg top = some (.ref (He.ga G.K top)))
    (hrest : ∀ (X1 : Cx) (W : WX), Cq { G with gr := False } k Ng sg X1 → (∀ x, X1.fn x = true) → Takes X1 W → DSs X1 W rest gR)
    (hdt : (top == ("__debug__" : Str)) = false := by decide) (hde : (e == ("__debug__" : Str)) = false := by decide) (hce : (e == ("__classdict__" : Str)) = false := by decide)
    (hsw1 : ∀ E : Env, swapsWith (.Constant .none j1 p1) (some (.Name m p2)) p3.line E = pure false := by intro _; rfl) (hsw2 : ∀ E : Env, swapsWith (.Call (.Name a p4) [] [] p5) none p5.line E = pure false := by intro _; rfl) (hsw3 : ∀ E : Env, swapsWith (.Name e p9) (some (.Name m p8)) p10.line E = pure false := by intro _; rfl) :
    LamX.GivesTo X Ng x sg g cdg (.Assign [.Name m p2] (.Constant .none j1 p1) p3 :: .Try [.Expr (.Call (.Name a p4) [] [] p5) p5] [.ExceptHandler (some (.Name top p7)) (some e) [.Assign [.Name m p8] (.Name e p9) p10] p11] [] [] p12 :: rest) a q (TTw X.K Ng (He.ga G.K top) gR) := by
  intro f c' s H Q tl act hc h
  let X1 : Cx := (cxOf C8.CX0 X.prog X.w X.K X.mg X.base Ng x sg g cdg X.A X.stack s H C8.E0).nox
  have C1 : Cq { G with gr := False } (k + 1) Ng sg X1 := ⟨rfl, hNd, rfl, hr.deeper _, fun z => z.elim, rfl, PassesOwn.never, C.prog, C.wo, C.K, C.mg, C.base⟩
  have C0 : Cq { G with gr := False } k Ng sg X1 := ⟨rfl, hNd, rfl, (hr.deeper _).mono (Nat.le_succ _), fun z => z.elim, rfl, PassesOwn.never, C.prog, C.wo, C.K, C.mg, C.base⟩
  have hgl : Gl X1 top := ht
  have hmt : X1.mg top = some (.ref (He.ga G.K top)) := by
    show X.mg top = _
    rw [C.mg]; exact gt
  have d1 : PS X1 (.Assign [.Name m p2] (.Constant .none j1 p1) p3) (tAsg (tC .non) (gName 1)) := ps_set hNd h1 (.inl hm) pe_non (hsw1 _) (.inr hm)
  have d2 := ps_try_held (X := X1) (c := .ref (He.ga G.K top)) (i := 2) (j := 1) (body := [.Expr (.Call (.Name a p4) [] [] p5) p5]) (np := p7) (pos := p12) (pos' := p11) (p1 := p8) (p2 := p9) (p3 := p10) (Wout := WF0)
    (tb := fun W D σ H => ∃ Ech : XK, (∀ cls d σ' H', Ech cls d H' → W cls d σ' H') ∧ σ[0]? = some (some (.ref f)) ∧ H c' = some (LamX.CodeO c' q) ∧ tl Ech H fun _ H' => D.nx σ H')
    rfl rfl rfl hNd h2 h1 he hm ⟨hgl, hdt, .inl hmt⟩ LamX.takes0 (fun W pn xe tk _ => by
      refine ⟨fun pins s' σ H' D I h' => ?_⟩
      obtain ⟨Ech, hW, g1, g2, g3⟩ := h'
      exact (pss_one (ps_expr (act W pn xe Ech p4 p5 tk hW) (hsw2 _))).run pins s' σ H' D I ⟨g1, g2, g3⟩) hde hce hsw3
  have d3 : PSs X1 rest (rs X1.K WF0 gR) := hrest X1 WF0 C0 (fun _ => rfl) LamX.takes0
  refine ⟨_, pss_cons d1 (pss_cons d2 d3), ?_⟩
  have hX : X1.K = X.K := rfl
  refine ⟨fun cls d H' => d = none ∧ PySem.W.exmOne X.K cls (.ref (He.ga G.K top)) = some true ∧ ∀ (a : Addr) (σ' : L2.St), H' a = none → σ'.length = Ng.length →
      rs X.K WF0 gR { nx := fun _ H' => Q .non H', rt := Q } (((σ'.set 2 (some (.ref a))).set 1 (some (.ref a))).set 2 none) (upd H' a (exV cls a)), ?_, ?_, hc, ?_⟩
  · intro cls d σ' H' ⟨w1, w2, w3⟩ hl
    exact ⟨w1, true, w2, fun _ a ha => w3 a σ' ha hl, fun z => by cases z⟩
  · unfold L2.start
    simp
  · exact h f
/-- x(lambda: body) -/
theorem de_word {pg : Arguments} {bg : List Stmt} {dV kV doc pm cdv ct oc : Value} {an od : Option Addr} {osl : Array (Option Value)} {params : Arguments} {body : Expr} {scope : Scope} {p lpos pos : Pos} {c P : Addr} {n : Nat} {cl : List Str} {fE : Sq → Out PV}
    (C : Cq G (k + 2) N sc X) (V : ExcAll G.K G.mg cl top) (hx : sc.names.lookup x = some .globalImplicit) (hmx : G.mg x = some (.ref g)) (hk : PySem.W.keepIn G.K (.ref g) = true)
    (lk : G.K.lookup g = some ⟨oc, od, .func (PySem.W.fnOf x x pg bg sg dV kV doc pm an cdv ct), osl⟩) (hcg : PySem.W.codeIn G.K cdv x = true) (hb : L2.Binds G.K (PySem.W.fnOf x x pg bg sg dV kV doc pm an cdv ct) [a] []) (Sg : FnScope Ng [a] sg) (hNg : Ng[0]? = some a) (hva : Vis sg a) (hn : Ng.length = n + 2)
    (hG : LamX.GivesTo X Ng x sg g cdv bg a (X.env.qual ++ "<lambda>") (TTw X.K Ng (He.ga G.K top) gR))
    (TB : LamX.TabB G.base G.mg c P) (hcode : X.env.code = .ref c) (hmT : (P, X.env.qual ++ "<lambda>") ∈ TabSet.T) (hu : ∀ p ∈ TabSet.T, p.1 = P → p.2 = X.env.qual ++ "<lambda>") (L : LamX.LamS sc scope) (hdef : defaultsOf params X.env = ([], []))
    (hbind : ∀ (q : Str) (cl : List (Str × Addr)) (pm cv ctv : Value), bindArgs (PySem.W.kla_fn "<lambda>" q params body scope cl pm cv ctv) ⟨[], []⟩ = pure [])
    (hbody : ∀ (X' : Cx) (W' : WX), Cq { G with gr := False } k N scope X' → Takes X' W' → DE X' W' body fE)
    (hdb : (x == ("__debug__" : Str)) = false := by decide) (hd : (a == ("__debug__" : Str)) = false := by decide) (hcd : (a == ("__classdict__" : Str)) = false := by decide) :
    DE X W (.Call (.Name x p) [.Lambda params body scope lpos] [] pos) (wordF n cl gR fE) := by
  have hK : X.K = G.K := C.K
  have hM : X.mg = G.mg := C.mg
  have hB : X.base = G.base := C.base
  refine PE.weak (LamX.pe_lamcall (T := TabSet.T) (TT := TTw X.K Ng (He.ga G.K top) gR) (k := k) (Ng := Ng) (t := fun E => rd X.K (fun cls d _ H => E cls d H) fE) (glC C hx) (mgC C hmx) (by rw [hK]; exact hk) (by rw [hK]; exact lk) (by rw [hK]; exact hcg) (by rw [hK]; exact hb) Sg hNg hva hG
    (by rw [hB, hM]; exact TB) hcode hmT hu C.hd (by rw [C.scope]; exact L) hdef hbind (fun A outer s H E f c' hr => ?_) hdb hd hcd) fun σ H Q z => ?_
  · have C' : Cq { G with gr := False } k N scope (LamX.lamCx X A outer s H E scope f c') := ⟨C.names, C.nd, rfl, hr, fun z => z.elim, rfl, passes_of rfl, C.prog, C.wo, C.K, C.mg, C.base⟩
    exact hbody _ _ C' (takes_of rfl rfl rfl rfl)
  · obtain ⟨F0, H0, pa, F, S, A, z⟩ := z
    refine ⟨A.tabs, fun H1 eN T1 f0 => ⟨F, H0, pa, F, S, (A.extN eN T1).reF, ?_⟩⟩
    unfold wordF at z
    cases o : fE S with
    | no => rw [o] at z; exact z.elim
    | ok p S1 =>
      rw [o] at z
      intro v F' H' x1 A1 r1
      refine wEnd_rs (c := .d .none) ((A.extN eN T1).deF A1) x1 (by unfold L2.start; simp [hn]) ⟨.non, ?_, .non⟩ ⟨(fun xs z => nomatch z), (fun kvs z => nomatch z)⟩ z
      unfold L2.start
      rw [List.getElem?_set_self (by simp [hn])]
    | ex c0 S1 =>
      rw [o] at z
      dsimp only at z
      split at z
      · rename_i hc0
        intro F' H' A1
        have xF : Ex F F' := A1.fF
        have A1 := (A.extN eN T1).deF A1
        refine ⟨rfl, ?_, fun a σ' ha hl => ?_⟩
        · rw [hK]
          exact V.m c0 hc0
        have A2 := A1.newF (o := exV (.ref (He.ga X.K c0)) a) ha (fun ps z => by unfold exV at z; cases z)
        have z2 : OutP (wEnd S1 (gR ⟨wFr n (.e c0), S1.p⟩)) (TP X.K F0 H0 pa σ F Q) (EW X.K W F0 H0 pa σ) := z
        have xx : Ex F (upd F' a (exV (.ref (He.ga X.K c0)) a)) := xF.trans (Ex.new (A1.sub.none ha))
        refine wEnd_rs (c := .e c0) A2 xx (by simp [hl, hn]) ⟨a, ?_, upd_same⟩ ⟨(fun xs z => nomatch z), (fun kvs z => nomatch z)⟩ z2
        rw [List.getElem?_set_ne (by decide), List.getElem?_set_self (by simp [hl, hn])]
      · exact z.elim
end
end Q3
/-! Q3t: the law's own def; the def that tells, packed. -/
namespace Q3
open PySem PySem.Spec PyProof.Rows L2
variable [TabSet]
theorem Cq.mono {G : Gb} {j k : Nat} {N : List Str} {sc : Scope} {X : Cx} (C : Cq G k N sc X) (h : j ≤ k) : Cq G j N sc X :=
  ⟨C.names, C.nd, C.scope, C.hd.mono h, C.gd, C.calm, C.pass, C.prog, C.wo, C.K, C.mg, C.base⟩
/-- a context in which lambdas are made -/
def LamAt (G : Gb) (X : Cx) : Prop := ∃ c P, LamX.TabB G.base G.mg c P ∧ X.env.code = .ref c ∧ (P, X.env.qual ++ "<lambda>") ∈ TabSet.T ∧ ∀ p ∈ TabSet.T, p.1 = P → p.2 = X.env.qual ++ "<lambda>"
/-- the def that tells what a lambda raises -/
def HasW (G : Gb) (k : Nat) (x : Str) (n : Nat) (cl : List Str) (gR : Sq → Fl) : Prop :=
  ∃ (top a : Str) (g : Addr) (pg : Arguments) (bg : List Stmt) (sg : Scope) (dV kV doc pm cdv ct oc : Value) (an od : Option Addr) (osl : Array (Option Value)) (Ng : List Str),
    G.mg x = some (.ref g) ∧ PySem.W.keepIn G.K (.ref g) = true ∧ G.K.lookup g = some ⟨oc, od, .func (PySem.W.fnOf x x pg bg sg dV kV doc pm an cdv ct), osl⟩ ∧ PySem.W.codeIn G.K cdv x = true ∧
    L2.Binds G.K (PySem.W.fnOf x x pg bg sg dV kV doc pm an cdv ct) [a] [] ∧ FnScope Ng [a] sg ∧ Ng[0]? = some a ∧ Vis sg a ∧ Ng.length = n + 2 ∧ ExcAll G.K G.mg cl top ∧ (a == ("__debug__" : Str)) = false ∧ (a == ("__classdict__" : Str)) = false ∧
    ∀ (X : Cx) (N : List Str) (sc : Scope) (q : Str), Cq G (k + 2) N sc X → LamX.GivesTo X Ng x sg g cdv bg a q (TTw X.K Ng (He.ga G.K top) gR)
theorem hasW_of {G : Gb} {k n : Nat} {x a top : Str} {st : Stmt} {Ng cl : List Str} {gR : Sq → Fl} (D : HasD G.K G.mg x st)
    (hb : ∀ (kV doc pm : Value) (an : Option Addr) (cdv ct : Value) (us : List Value), us.length = [a].length → bindArgs (PySem.W.fnOf x x (defArgs st) (defBody st) (defScope st) .none kV doc pm an cdv ct) ⟨us, []⟩ = pure ([a].zip us))
    (S : FnScope Ng [a] (defScope st)) (h0 : Ng[0]? = some a) (hv : Vis (defScope st) a) (hn : Ng.length = n + 2) (V : ExcAll G.K G.mg cl top) (h1 : (a == ("__debug__" : Str)) = false) (h2 : (a == ("__classdict__" : Str)) = false)
    (h : ∀ (g : Addr) (cdv : Value) (X : Cx) (N : List Str) (sc : Scope) (q : Str), Cq G (k + 2) N sc X → LamX.GivesTo X Ng x (defScope st) g cdv (defBody st) a q (TTw X.K Ng (He.ga G.K top) gR)) : HasW G k x n cl gR := by
  obtain ⟨f, fd, F, m⟩ := D
  have B := F.bindsN hb
  obtain ⟨oc, od, dV, kV, doc, pm, an, cdv, ct, osl, rfl, lk, hcd, _, _⟩ := id F.ex
  exact ⟨top, a, f, _, _, _, dV, kV, doc, pm, cdv, ct, oc, an, od, osl, Ng, m, F.kp, lk, hcd, B, S, h0, hv, hn, V, h1, h2, fun X N sc q C => h f cdv X N sc q C⟩
theorem de_wordH {X : Cx} {W : WX} {k j n : Nat} {G : Gb} {N : List Str} {sc scope : Scope} {x : Str} {cl : List Str} {gR : Sq → Fl} {params : Arguments} {body : Expr} {p lpos pos : Pos} {fE : Sq → Out PV} (C0 : Cq G j N sc X) (hj : k + 2 ≤ j) (hW : HasW G k x n cl gR) (LA : LamAt G X)
    (hx : sc.names.lookup x = some .globalImplicit) (L : LamX.lamSB sc scope = true) (hdef : defaultsOf params X.env = ([], []))
    (hbind : ∀ (q : Str) (cl : List (Str × Addr)) (pm cv ctv : Value), bindArgs (PySem.W.kla_fn "<lambda>" q params body scope cl pm cv ctv) ⟨[], []⟩ = pure [])
    (hbody : ∀ (X' : Cx) (W' : WX), Cq { G with gr := False } k N scope X' → Takes X' W' → DE X' W' body fE) (hdb : (x == ("__debug__" : Str)) = false := by decide) :
    DE X W (.Call (.Name x p) [.Lambda params body scope lpos] [] pos) (wordF n cl gR fE) := by
  obtain ⟨top, a, g, pg, bg, sg, dV, kV, doc, pm, cdv, ct, oc, an, od, osl, Ng, h1, h2, h3, h4, h5, h6, h7, h8, h9, h10, h11, h12, h13⟩ := hW
  obtain ⟨c, P, l1, l2, l3, l4⟩ := LA
  have C := C0.mono hj
  exact de_word C h10 hx h1 h2 h3 h4 h5 h6 h7 h8 h9 (h13 X N sc _ C) l1 l2 l3 l4 (LamX.lamS_by L) hdef hbind hbody hdb h11 h12
section
variable {X : Cx} {W : WX} {N : List Str} {sc : Scope} {k : Nat} {G : Gb} {x : Str} {pos : Pos}
/-- the script's name -/
def fVarS (i : Nat) : Sq → Out PV := fun S => match S.r[i]? with
  | some (.sc _) => .ok (.s i) S
  | _ => .no
theorem de_varS (i : Nat) (C : Cq G k N sc X) (hN : N[i]? = some x := by rfl) (hv : sc.names.lookup x = some .local ∨ sc.names.lookup x = some .cell ∨ sc.names.lookup x = some .free := by first | exact Or.inl rfl | exact Or.inr (Or.inl rfl) | exact Or.inr (Or.inr rfl))
    (hd : (x == ("__debug__" : Str)) = false := by decide) (hcd : (x == ("__classdict__" : Str)) = false := by decide) : DE X W (.Name x pos) (fVarS i) := by
  refine PE.weak (pe_var (i := i) (by rw [C.names]; exact hN) (by show Vis X.env.scope x; rw [C.scope]; exact hv) hd hcd) fun σ H Q q => ?_
  obtain ⟨F0, H0, pa, F, S, A, z⟩ := q
  unfold fVarS at z
  split at z
  · rename_i ns o
    obtain ⟨a, e1, _⟩ := A.slots i _ o
    exact ⟨_, e1, z _ F H (Ex.refl F) A e1⟩
  · exact z.elim
end
/-- what the law is to answer: cells, the rest's function from the pen's start -/
def lawOk (n i : Nat) (fO : Fd) (gR : Sq → Fl) (ns : List Int) : Prop :=
  ∃ (cells : List Int) (S1 S2 : Sq), fO [.sc ns] none = .ok (.l [.list (cells.map .int), .int 0, .int 0]) S1 ∧ S1.p = none ∧
    gR ⟨(List.replicate n R.un).set i .pen, some ⟨cells, 0, 0⟩⟩ = .rt (.d (.bool true)) S2
theorem sqL_at {K : PySem.W.Frag} {H : Hp} {a : Addr} {xs : List V} (h : SqL K H a xs) : SqL K (fun b => if b = a then bareT H b else none) a xs := by
  rcases h with (h | ⟨o, h⟩) | h
  · exact .inl (.inl (by show (if a = a then _ else _) = _; rw [if_pos rfl]; exact bareT_of h fun _ z => nomatch z))
  · exact .inl (.inr ⟨o, by show (if a = a then _ else _) = _; rw [if_pos rfl]; exact bareT_of h fun _ z => nomatch z⟩)
  · exact .inr h
/-- THE LAW: pen = open(script), then the rest -/
theorem lawG {G : Gb} {k j n i : Nat} {st : Stmt} {N : List Str} {xs xp xo : Str} {fO : Fd} {gR : Sq → Fl} {f : Addr} {fd : FuncData} {rest : List Stmt} {p1 p2 p3 p4 p5 : Pos} (F : L2.FunD G.K "law" "law" (defArgs st) (defBody st) (defScope st) [] [] f fd) (S : FnScope N [xs] (defScope st)) (hn : N.length = n) (hi : N[i]? = some xp) (h0 : N[0]? = some xs) (hi0 : i ≠ 0)
    (hbody : defBody st = .Assign [.Name xp p1] (.Call (.Name xo p2) [.Name xs p3] [] p4) p5 :: rest) (hO : Has G j xo [xs] fO) (hj : j ≤ k) (hlo : (defScope st).names.lookup xo = some .globalImplicit) (hlp : Loc (defScope st) xp) (hls : (defScope st).names.lookup xs = some .local)
    (hb : ∀ X W, Cq G k N (defScope st) X → (∀ x, X.fn x = true) → Takes X W → X.env.qual = "law" ++ ".<locals>." → X.env.code = fd.code → DSs X W rest gR)
    (hd : (xs == ("__debug__" : Str)) = false := by decide) (hcd : (xs == ("__classdict__" : Str)) = false := by decide) (hdo : (xo == ("__debug__" : Str)) = false := by decide) (hsw : ∀ E : Env, swapsWith (.Call (.Name xo p2) [.Name xs p3] [] p4) (some (.Name xp p1)) p5.line E = pure false := by intro _; rfl) :
    FnG G (k + 1) f fd [xs] (fun vs H Q _ => ∃ (a : Addr) (ns : List Int), vs = [.ref a] ∧ SqL G.K H a (ns.map .int) ∧ LamX.Tabs TabSet.T H ∧ lawOk n i fO gR ns ∧ ∀ H', Q (.bl true) H') := by
  obtain ⟨oc, od, dV, kV, doc, pm, an, cdv, ct, osl, rfl, lk, hcd', _, _⟩ := F.ex
  refine fn_ofG lk hcd' S (fun vs _ _ _ h => by obtain ⟨a, ns, rfl, _⟩ := h; rfl) fun A outer s H vs Q E hr hgd hsp => ?_
  obtain ⟨a, ns, rfl, hS, hT, ⟨cells, S1, S2, e1, ep, e2⟩, hQ⟩ := hsp
  have C : Cq G k N (defScope st) (cxOf (L2.CX G.P G.w) G.P G.w G.K G.mg G.base N "law" (defScope st) f cdv A outer s H E) := ⟨rfl, S.nd, rfl, hr, hgd, rfl, passes_of rfl, rfl, rfl, rfl, rfl, rfl⟩
  have tk : Takes (cxOf (L2.CX G.P G.w) G.P G.w G.K G.mg G.base N "law" (defScope st) f cdv A outer s H E) (fun cls d _ H => E cls d H) := takes_of rfl rfl rfl rfl
  have dr := hb _ _ C (fun _ => rfl) tk rfl rfl
  have da := da_cons (W := fun cls d _ H => E cls d H) (de_varS (pos := p3) 0 C h0 (Or.inl hls) hd hcd) da_nil
  have dc := de_callH (pos := p4) (p := p2) C tk hO hj hlo rfl da (fl_cons fl_nil) hdo
  have hN : n = 1 + (n - 1) := by
    have : (0 : Nat) < N.length := (List.getElem?_eq_some_iff.mp h0).1
    omega
  rw [hbody]
  refine ⟨_, pss_cons (ps_set (by exact S.nd) hi hlp dc (hsw _) (.inl rfl)) dr, ?_⟩
  let F1 : Hp := fun b => if b = a then bareT H b else none
  have lenσ : (L2.start N [V.ref a]).length = n := by
    unfold L2.start
    simp [hn]
    omega
  have A0 : Agr G.K F1 (bareT H) none (L2.start N [V.ref a]) F1 H ⟨.sc ns :: List.replicate (n - 1) .un, none⟩ := by
    refine ⟨Ex.refl _, fun b o h => ?_, fun b o h _ => (bareT_some h).1, hT, fun b ps h => ?_, bareT_free, fun b o h => .inl h, ?_, fun l c h => ?_, fun l m b o _ => ?_, fun l b o => ?_, trivial⟩
    · have h : (if b = a then bareT H b else none) = some o := h
      split at h
      · exact (bareT_some h).1
      · cases h
    · have h : (if b = a then bareT H b else none) = some (.tbl ps) := h
      split at h
      · exact bareT_free b ps h
      · cases h
    · rw [lenσ]
      simp
      omega
    · match l with
      | 0 =>
        have h : some (R.sc ns) = some c := h
        cases h
        exact ⟨a, by unfold L2.start; simp, sqL_at hS⟩
      | l + 1 =>
        have h : (List.replicate (n - 1) R.un)[l]? = some c := by simpa using h
        rw [List.getElem?_replicate] at h
        split at h
        · cases h; trivial
        · cases h
    · exfalso
      match l, o with
      | 0, ⟨_, .inl ⟨xs, z⟩⟩ => cases (show some (R.sc ns) = _ from z)
      | 0, ⟨_, .inr ⟨xs, z⟩⟩ => cases (show some (R.sc ns) = _ from z)
      | l + 1, ⟨_, .inl ⟨xs, z⟩⟩ =>
        have z : (List.replicate (n - 1) R.un)[l]? = some (.l xs) := by simpa using z
        rw [List.getElem?_replicate] at z
        split at z <;> cases z
      | l + 1, ⟨_, .inr ⟨xs, z⟩⟩ =>
        have z : (List.replicate (n - 1) R.un)[l]? = some (.m xs) := by simpa using z
        rw [List.getElem?_replicate] at z
        split at z <;> cases z
    · exfalso
      match l, o with
      | 0, ⟨_, .inl ⟨xs, z⟩⟩ => cases (show some (R.sc ns) = _ from z)
      | 0, ⟨_, .inr ⟨xs, z⟩⟩ => cases (show some (R.sc ns) = _ from z)
      | l + 1, ⟨_, .inl ⟨xs, z⟩⟩ =>
        have z : (List.replicate (n - 1) R.un)[l]? = some (.l xs) := by simpa using z
        rw [List.getElem?_replicate] at z
        split at z <;> cases z
      | l + 1, ⟨_, .inr ⟨xs, z⟩⟩ =>
        have z : (List.replicate (n - 1) R.un)[l]? = some (.m xs) := by simpa using z
        rw [List.getElem?_replicate] at z
        split at z <;> cases z
  refine ⟨F1, bareT H, none, F1, _, A0, ?_⟩
  have ec : callF fO (fCons (fVarS 0) fNil) ⟨.sc ns :: List.replicate (n - 1) .un, none⟩ = .ok (.o (.l [.list (cells.map .int), .int 0, .int 0])) ⟨.sc ns :: List.replicate (n - 1) .un, none⟩ := by
    have q1 : fCons (fVarS 0) fNil ⟨.sc ns :: List.replicate (n - 1) .un, none⟩ = .ok [.s 0] ⟨.sc ns :: List.replicate (n - 1) .un, none⟩ := rfl
    have q2 : argsK ⟨.sc ns :: List.replicate (n - 1) .un, none⟩ [.s 0] = some ([.sc ns], ⟨.sc ns :: List.replicate (n - 1) .un, none⟩) := rfl
    simp only [callF, q1, Out.bind_ok, q2, e1, toPV, ep]
  rw [ec]
  intro v F' H' x1 A1 r1
  obtain ⟨t, vs, rfl, g1, g2, g3, g4, _, _⟩ := r1
  obtain ⟨c, rfl, hc⟩ : ∃ c, vs = [.ref c, .int 0, .int 0] ∧ F' c = some (.lst (cells.map .int)) := by
    cases g3 with
    | cons a1 t1 =>
      cases t1 with
      | cons a2 t2 =>
        cases t2 with
        | cons a3 t3 =>
          cases t3
          cases a2
          cases a3
          cases a1 with
          | lst w1 w2 =>
            have := w2.ints
            subst this
            exact ⟨_, rfl, w1⟩
  refine ⟨F', bareT H', some t, F', ⟨(List.replicate n R.un).set i .pen, some ⟨cells, 0, 0⟩⟩, ?_, ?_⟩
  · have hil : i < n := by
      rw [← hn]
      exact (List.getElem?_eq_some_iff.mp hi).1
    have own : ∀ l b, Own ((L2.start N [V.ref a]).set i (some (V.ref t))) ⟨(List.replicate n R.un).set i .pen, some ⟨cells, 0, 0⟩⟩ l b → False := fun l b o => by
      have key : ∀ c : R, ((List.replicate n R.un).set i .pen)[l]? = some c → c = .pen ∨ c = .un := fun c h => by
        by_cases q : l = i
        · subst q
          rw [List.getElem?_set_self (by simpa using hil)] at h
          exact .inl (Option.some.inj h).symm
        · rw [List.getElem?_set_ne (Ne.symm q), List.getElem?_replicate] at h
          split at h
          · exact .inr (Option.some.inj h).symm
          · cases h
      rcases o.2 with ⟨xs, z⟩ | ⟨xs, z⟩
      · rcases key _ z with q | q <;> cases q
      · rcases key _ z with q | q <;> cases q
    refine ⟨Ex.refl _, A1.sub, fun b o h _ => (bareT_some h).1, A1.tabs, A1.ft, bareT_free, fun b o h => .inl h, by simp [lenσ], fun l c h => ?_, fun l m b o _ => (own l b o).elim, fun l b o => (own l b o).elim, ⟨c, g1, g2, hc⟩⟩
    have h : ((List.replicate n R.un).set i .pen)[l]? = some c := h
    by_cases q : l = i
    · subst q
      rw [List.getElem?_set_self (by simpa using hil)] at h
      cases h
      exact ⟨t, rfl, by rw [List.getElem?_set_self (by rw [lenσ]; exact hil)]⟩
    · rw [List.getElem?_set_ne (Ne.symm q), List.getElem?_replicate] at h
      split at h
      · cases h; trivial
      · cases h
  · rw [e2]
    intro σ' v F3 H3 B q
    cases (show Dn G.K F3 v (.bool true) from q)
    exact hQ H3
end Q3
/-! Q3u: the end of a row whose law asks for repr (after HandS.EndTab's law_callTs, over FnG). -/
namespace Q3
open PySem PySem.Spec PyProof.Rows L2
variable [TabSet]
theorem law_runG {P : Program} {w : World} {K : PySem.W.Frag} {mg mb : Str → Option Value} {k : Nat} {fa a : Addr} {cs : List (Addr × Addr)} {fd : FuncData} {x : Str} {sp : Sp} {s₁ : Shared} {vs : List Value} {ns : List Int}
    (KX : K.In s₁.heap) (hns : s₁.heap.Ns mainGlobals mg) (hb : s₁.heap.Ns builtinsNs mb) (hbb : ∀ x : Str, x ≠ "__name__" → mb x = bootBuiltins x) (hlim : s₁.heap.NoLimit) (hg : s₁.gens = #[])
    (hT : ∀ p ∈ cs, s₁.heap.get? p.2 = some { cls := .none, data := .fields #[] }) (nT : ∀ p ∈ cs, K.lookup p.2 = none) (C : ∀ p ∈ cs, PySem.W.CodeHd s₁.heap p.1 p.2)
    (hbm : ∃ (bm : Addr) (ob : Obj), mg "__builtins__" = some (.ref bm) ∧ bm ≠ builtinsNs ∧ s₁.heap.get? bm = some ob ∧ ob.cls = .type "module" ∧ ob.dict = some builtinsNs ∧ ob.data = .plain)
    (ha : s₁.heap.get? a = some { cls := .type "list", data := .seq vs.toArray }) (hi : IntsAre vs ns) (hl : ns.length ≤ sizeLine) (hr : Room k callerA)
    (F : ∀ base : Heap, K.In base → base.Ns mainGlobals mg → (∀ p ∈ cs, LamX.TabB base mg p.1 p.2) → FnG ⟨P, w, K, mg, base, True⟩ k fa fd [x] sp) (hbind : ∀ (s : Shared) (u : Value), BindsTo s fd ⟨[u], []⟩ [(x, u)])
    (hsp : ∀ H : Hp, (∀ p ∈ cs, H p.2 = some (.tbl #[])) → SqL K H a (ns.map V.int) → sp [.ref a] H (fun v _ => v = .bl true) fun _ _ _ => False) :
    codeAny (model P w) callerA (.call (.ref fa) ⟨[.ref a], []⟩) (fun r s' => r = .ok (.ret (.bool true)) ∧ OldK s₁.heap s'.heap ∧ s'.os = s₁.os ∧ AllBare s'.gens) s₁ := by
  have rv := vals_ints hi
  have lenV := hi.length
  have isT : ∀ b : Addr, b ∈ cs.map (·.2) → s₁.heap.get? b = some { cls := .none, data := .fields #[] } := fun b hb => by
    obtain ⟨p, hp, e⟩ := List.mem_map.mp hb
    rw [← e]
    exact hT p hp
  have aT : a ∉ cs.map (·.2) := fun z => by
    have q := isT a z
    rw [ha] at q
    have z' : Data.seq vs.toArray _ = Data.fields #[] := congrArg Obj.data (Option.some.inj q)
    cases z'
  have memT : ∀ p ∈ cs, p.2 ∈ cs.map (·.2) := fun p hp => List.mem_map.mpr ⟨p, hp, rfl⟩
  -- from an abstract heap in which nothing but the script and the tables may be tracked
  have core : ∀ H : Hp, (∀ p ∈ cs, H p.2 = some (.tbl #[])) → (∀ b, H b = none ∨ b ∈ cs.map (·.2) ∨ ∃ o xs, H b = some (.frz o (.lst xs))) → SqL K H a (ns.map V.int) → HOk P w H s₁.heap → (∀ b, H b ≠ none → b = a ∨ b ∈ cs.map (·.2)) → (H a ≠ none → K.lookup a = none) →
      codeAny (model P w) callerA (.call (.ref fa) ⟨[.ref a], []⟩) (fun r s' => r = .ok (.ret (.bool true)) ∧ OldK s₁.heap s'.heap ∧ s'.os = s₁.os ∧ AllBare s'.gens) s₁ := by
    intro H hH hO hS hok hA hK
    have base_of : ∀ {b : Addr} {o : Obj}, s₁.heap.get? b = some o → H b = none → (hidT s₁.heap H).get? b = some o := fun e n => hidT_get e n
    have noD : ∀ {b : Addr} {o : Obj}, s₁.heap.get? b = some o → (∀ vs n, o.data ≠ .seq vs n) → o.data ≠ .fields #[] → H b = none := fun {b o} e h1 h2 => by
      cases q : H b with
      | none => rfl
      | some u =>
        rcases hA b (by rw [q]; simp) with e' | e'
        · rw [e', ha] at e
          cases e
          exact (h1 _ _ rfl).elim
        · rw [isT b e'] at e
          cases e
          exact (h2 rfl).elim
    have noA : ∀ {b : Addr} {o : Obj} {es : Array DictEntry} {ep : Nat}, s₁.heap.get? b = some o → o.data = .dict es ep → H b = none := fun {b o es ep} e d => by
      refine noD e (fun vs n z => ?_) fun z => ?_
      · rw [d] at z
        cases z
      · rw [d] at z
        cases z
    have nsK : ∀ {b : Addr} {m : Str → Option Value}, s₁.heap.Ns b m → (hidT s₁.heap H).Ns b m := fun {b m} ⟨o, es, ep, e, d, r⟩ => ⟨o, es, ep, base_of e (noA e d), d, r⟩
    have hKb : K.In (hidT s₁.heap H) := fun b o e => base_of (KX b o e) (by
      cases q : H b with
      | none => rfl
      | some u =>
        rcases hA b (by rw [q]; simp) with e' | e'
        · rw [e'] at e q
          rw [hK (by rw [q]; simp)] at e
          cases e
        · obtain ⟨p, hp, ep⟩ := List.mem_map.mp e'
          rw [← ep, nT p hp] at e
          cases e)
    have hM : L2.Mod K mg (hidT s₁.heap H) := ⟨hKb, nsK hns, ⟨mb, nsK hb, hbb⟩, let ⟨mc, h1, h2⟩ := hlim; ⟨mc, nsK h1, h2⟩⟩
    have TB : ∀ p ∈ cs, LamX.TabB (hidT s₁.heap H) mg p.1 p.2 := fun p hp => by
      have hTp := hT p hp
      refine ⟨?_, ?_, fun z => ?_⟩
      · obtain ⟨o, us, file, tf, flags, tg, inF, text, tt, e1, r1, r2, r3, r4, r5, r6, r7, r8, hne⟩ := C p hp
        refine ⟨o, us, file, tf, flags, tg, inF, text, tt, base_of e1 (noD e1 (fun vs n z => ?_) fun z => ?_), r1, r2, r3, r4, r5, r6, r7, r8, hne⟩
        · rw [r2] at z
          cases z
        · rw [r2] at z
          cases z
          simp at r3
      · obtain ⟨bm, ob, b1, b2, b3, b4, b5, b6⟩ := hbm
        have nG : bm ≠ mainGlobals := fun q => by
          obtain ⟨o, es, ep, e, hd, _⟩ := hns
          rw [q, e] at b3
          cases b3
          rw [hd] at b6
          cases b6
        have nP : bm ≠ p.2 := fun q => by
          rw [q, hTp] at b3
          cases b3
          cases b6
        refine ⟨bm, ob, b1, b2, nG, nP, base_of b3 (noD b3 (fun vs n z => ?_) fun z => ?_), b4, b5, b6⟩
        · rw [b6] at z
          cases z
        · rw [b6] at z
          cases z
      · obtain ⟨o, es, ep, e, hd, _⟩ := hns
        rw [z, hTp] at e
        cases e
        cases hd
    have e0 : Env0 P w K mg (hidT s₁.heap H) callerA [] s₁ H := ⟨rfl, hM, fun b o e => of_hidT e, Nat.le_of_eq (hidT_size _ _), trivial, fun b hb => absurd (show b ∈ ([] : List Addr) from hb) (by simp), hok, .of_eq hg⟩
    refine codeAny_mono ((F _ hKb (nsK hns) TB).run callerA [] s₁ H ⟨[.ref a], []⟩ [.ref a] [.ref a] _ _ hr (fun _ => rfl) e0 (hbind s₁ (.ref a)) (.cons rfl .nil) (hsp H hH hS)) fun r s' h => ?_
    cases r with
    | error e => obtain ⟨_, _, _, _, _, _, _, _, _, _, _, _, z⟩ := h; exact z.elim
    | ok fl =>
      cases fl with
      | next => exact False.elim h
      | brk => exact False.elim h
      | cont => exact False.elim h
      | ret u =>
        obtain ⟨v, H', os, bare, un, hok', r', q⟩ := h
        have q' : v = .bl true := q
        subst q'
        obtain rfl : u = Value.bool true := r'
        have key : ∀ b o, b ∉ cs.map (·.2) → s₁.heap.get? b = some o → s'.heap.get? b = some o := fun b o nb e => by
          cases q : H b with
          | none => exact un.keep b o e q (by intro z; exact absurd (show b ∈ ([] : List Addr) from z) (by simp)) (by simp)
          | some u =>
            rcases hO b with z | z | ⟨ob, xs, z⟩
            · rw [q] at z; cases z
            · exact absurd z nb
            · have z2 := un.frzs b ob _ z
              obtain ⟨e1, _⟩ := hok b _ z
              obtain ⟨e2, _⟩ := hok' b _ z2
              rw [e] at e1; cases e1
              exact e2
        have grown : ∀ p ∈ cs, ∃ more : Array Value, s'.heap.get? p.2 = some { cls := .none, data := .fields more } := fun p hp => by
          obtain ⟨more, z⟩ := un.tbls p.2 #[] (hH p hp)
          exact ⟨_, hok' p.2 _ z⟩
        refine ⟨rfl, ⟨fun b o e => ?_, fun b o e => ?_⟩, os, bare⟩
        · by_cases hb : b ∈ cs.map (·.2)
          · obtain ⟨p, hp, ep⟩ := List.mem_map.mp hb
            obtain ⟨more, hm⟩ := grown p hp
            rw [← ep] at e ⊢
            rw [hT p hp] at e
            cases e
            exact .inr (.inl ⟨((C p hp).tab (hT p hp)).isCodeTable, rfl, #[], more, rfl, by rw [Array.empty_append]; exact hm⟩)
          · exact .inl (key b o hb e)
        · by_cases hb : b ∈ cs.map (·.2)
          · obtain ⟨p, hp, ep⟩ := List.mem_map.mp hb
            obtain ⟨more, hm⟩ := grown p hp
            rw [← ep]
            exact ⟨_, hm⟩
          · exact ⟨o, key b o hb e⟩
  cases hk : K.lookup a with
  | some o =>
    have e := KX a o hk
    rw [ha] at e
    cases e
    refine core (fun b => if b ∈ cs.map (·.2) then some (.tbl #[]) else none) (fun p hp => if_pos (memT p hp)) (fun b => ?_) (.inr ⟨_, vs.toArray, _, hk, rfl, rfl, rfl, by rw [List.size_toArray, lenV]; exact hl, by simpa using rv⟩) (fun b u z => ?_) (fun b z => ?_) fun z => absurd (show (if a ∈ cs.map (·.2) then some (HO.tbl #[]) else none) = none from if_neg aT) z
    · by_cases hb : b ∈ cs.map (·.2)
      · exact .inr (.inl hb)
      · exact .inl (if_neg hb)
    · by_cases hb : b ∈ cs.map (·.2)
      · have z' := (if_pos hb).symm.trans z
        cases z'
        exact isT b hb
      · have z' := (if_neg hb).symm.trans z
        cases z'
    · by_cases hb : b ∈ cs.map (·.2)
      · exact .inr hb
      · exact absurd (if_neg hb) z
  | none =>
    refine core (fun b => if b = a then some (.frz { cls := .type "list", data := .seq vs.toArray } (.lst (ns.map V.int))) else if b ∈ cs.map (·.2) then some (.tbl #[]) else none) (fun p hp => (if_neg (show ¬ p.2 = a from fun z => aT (by rw [← z]; exact memT p hp))).trans (if_pos (memT p hp))) (fun b => ?_)
      (.inl (.inr ⟨{ cls := .type "list", data := .seq vs.toArray }, if_pos rfl⟩)) (fun b u z => ?_) (fun b z => ?_) fun _ => hk
    · by_cases hb : b = a
      · exact .inr (.inr ⟨_, _, if_pos hb⟩)
      · by_cases hb2 : b ∈ cs.map (·.2)
        · exact .inr (.inl hb2)
        · exact .inl ((if_neg hb).trans (if_neg hb2))
    · by_cases hb : b = a
      · have z' := (if_pos hb).symm.trans z
        cases z'
        rw [hb]
        exact ⟨ha, by rw [List.length_map]; exact hl, vs, _, rv, ha⟩
      · have z1 := (if_neg hb).symm.trans z
        by_cases hb2 : b ∈ cs.map (·.2)
        · have z' := (if_pos hb2).symm.trans z1
          cases z'
          exact isT b hb2
        · have z' := (if_neg hb2).symm.trans z1
          cases z'
    · by_cases hb : b = a
      · exact .inl hb
      · by_cases hb2 : b ∈ cs.map (·.2)
        · exact .inr hb2
        · exact absurd ((if_neg hb).trans (if_neg hb2)) z

theorem walk_G {l : PySem.W.OpenLaw} {n k : Nat} {q : Program} {loose : List Str} {XP : (Str → Option Value) → Heap → Prop} {YP : World → Heap → Prop} {d : DefRec} {x : Str}
    (hn : l.most = some n) (hn2 : n ≤ sizeLine) (hdf : d.params.defaults = []) (hr : Room k callerA)
    (F : ∀ (w : World) (mg : Str → Option Value) (fa : Addr) (h : Heap), YP w h → h.Ns mainGlobals mg → mg d.name = some (.ref fa) → ∃ (K : PySem.W.Frag) (fd : FuncData) (cs : List (Addr × Addr)) (sp : Sp), K.In h ∧
      (∀ p ∈ cs, h.get? p.2 = some { cls := .none, data := .fields #[] }) ∧ (∀ p ∈ cs, K.lookup p.2 = none) ∧ (∀ p ∈ cs, PySem.W.CodeHd h p.1 p.2) ∧ (∀ (s : Shared) (u : Value), BindsTo s fd ⟨[u], []⟩ [(x, u)]) ∧
      (∀ (H : Hp) (a : Addr) (ns : List Int), ns.length ≤ n → (∀ p ∈ cs, H p.2 = some (.tbl #[])) → SqL K H a (ns.map V.int) → sp [.ref a] H (fun v _ => v = .bl true) fun _ _ _ => False) ∧
      ∀ base : Heap, K.In base → base.Ns mainGlobals mg → (∀ p ∈ cs, LamX.TabB base mg p.1 p.2) → FnG ⟨l.prog, w, K, mg, base, True⟩ k fa fd [x] sp) :
    PySem.W.WalkO q loose XP YP l.row.toRowW d [] (fun f vs => PySem.call f vs) := by
  refine Att.attach_callB hn hdf fun w s₀ s₁ mg mb fa o pm cd doc a vs ns G Y ho hd hcd hmg hobj hints hlen hbits hg => ?_
  obtain ⟨K, fd, cs, sp, KX, hT, nT, C, hb, hsp, hF⟩ := F w mg fa _ Y G.T.g hmg
  exact law_runG KX G.T.g G.T.b G.T.builtins G.T.nolimit hg hT nT C G.T.bmain hobj hints (Nat.le_trans hlen hn2) hr hF hb fun H hH hS => hsp H a ns hlen hH hS
end Q3
/-! Q3v: the functions evaluated step by step (for simp). -/
namespace Q3
open PySem PySem.Spec PyProof.Rows L2
def valR : Option R → Option D
  | some (.d x) => some x
  | some (.l xs) => some (.list xs)
  | some (.m kvs) => some (.dict kvs)
  | _ => none
@[simp] theorem valR_m (kvs : List (D × D)) : valR (some (.m kvs)) = some (.dict kvs) := rfl
@[simp] theorem valR_d (x : D) : valR (some (.d x)) = some x := rfl
@[simp] theorem valR_l (xs : List D) : valR (some (.l xs)) = some (.list xs) := rfl
@[simp] theorem val_s (S : Sq) (i : Nat) : S.val (.s i) = valR S.r[i]? := by
  show (match S.r[i]? with
    | some (.d x) => some x
    | some (.l xs) => some (.list xs)
    | some (.m kvs) => some (.dict kvs)
    | _ => none) = _
  cases S.r[i]? with
  | none => rfl
  | some c => cases c <;> rfl
@[simp] theorem val_v (S : Sq) (x : D) : S.val (.v x) = some x := rfl
@[simp] theorem fz_s (i : Nat) : fz (.s i) = .s i := rfl
@[simp] theorem fz_v (x : D) : fz (.v x) = .v x := rfl
@[simp] theorem fz_o (xs : List D) : fz (.o (.l xs)) = .v (.list xs) := rfl
@[simp] theorem fz_om (kvs : List (D × D)) : fz (.o (.m kvs)) = .v (.dict kvs) := rfl
/-! names, constants -/
def var1 (i : Nat) (S : Sq) : Option R → Out PV
  | some (.d _) => .ok (.s i) S
  | some (.l _) => .ok (.s i) S
  | some (.m _) => .ok (.s i) S
  | some .pen => .ok (.s i) S
  | some (.e _) => .ok (.s i) S
  | _ => .no
@[simp] theorem ev_var (i : Nat) (S : Sq) : fVar i S = var1 i S S.r[i]? := by
  unfold fVar var1
  split <;> rename_i h <;> simp_all
@[simp] theorem var1_d (i : Nat) (S : Sq) (x : D) : var1 i S (some (.d x)) = .ok (.s i) S := rfl
@[simp] theorem var1_l (i : Nat) (S : Sq) (x : List D) : var1 i S (some (.l x)) = .ok (.s i) S := rfl
@[simp] theorem var1_m (i : Nat) (S : Sq) (x : List (D × D)) : var1 i S (some (.m x)) = .ok (.s i) S := rfl
@[simp] theorem var1_pen (i : Nat) (S : Sq) : var1 i S (some .pen) = .ok (.s i) S := rfl
@[simp] theorem var1_e (i : Nat) (S : Sq) (c : Str) : var1 i S (some (.e c)) = .ok (.s i) S := rfl
@[simp] theorem ev_c (x : D) (S : Sq) : fC x S = .ok (.v x) S := rfl
/-! two operands -/
def bin4 (S : Sq) : Option PV → Out PV
  | some z => .ok z S
  | none => .no
def bin3 (g : D → D → Option PV) (S : Sq) : Option D → Option D → Out PV
  | some x, some y => bin4 S (g x y)
  | _, _ => .no
def bin2 (g : D → D → Option PV) (p : PV) : Out PV → Out PV
  | .ok q S => bin3 g S (S.val p) (S.val (fz q))
  | .ex c S => .ex c S
  | .no => .no
def bin1 (g : D → D → Option PV) (fb : Sq → Out PV) : Out PV → Out PV
  | .ok p S => bin2 g (fz p) (fb S)
  | .ex c S => .ex c S
  | .no => .no
@[simp] theorem ev_bin (g : D → D → Option PV) (fa fb : Sq → Out PV) (S : Sq) : fBin g fa fb S = bin1 g fb (fa S) := by
  unfold fBin fzF
  cases fa S with
  | no => rfl
  | ex c S1 => rfl
  | ok p S1 =>
    show (((fb S1).bind fun q S2 => .ok (fz q) S2).bind _) = bin2 g (fz p) (fb S1)
    cases fb S1 with
    | no => rfl
    | ex c S2 => rfl
    | ok q S2 =>
      show (match S2.val (fz p), S2.val (fz q) with
        | some x, some y => (match g x y with
          | some z => Out.ok z S2
          | none => .no)
        | _, _ => .no) = bin3 g S2 (S2.val (fz p)) (S2.val (fz q))
      cases S2.val (fz p) with
      | none => rfl
      | some x =>
        cases S2.val (fz q) with
        | none => rfl
        | some y =>
          show _ = bin4 S2 (g x y)
          cases h : g x y <;> simp [bin4, h]
@[simp] theorem bin1_ok (g : D → D → Option PV) (fb : Sq → Out PV) (p : PV) (S : Sq) : bin1 g fb (.ok p S) = bin2 g (fz p) (fb S) := rfl
@[simp] theorem bin1_ex (g : D → D → Option PV) (fb : Sq → Out PV) (c : Str) (S : Sq) : bin1 g fb (.ex c S) = .ex c S := rfl
@[simp] theorem bin2_ok (g : D → D → Option PV) (p q : PV) (S : Sq) : bin2 g p (.ok q S) = bin3 g S (S.val p) (S.val (fz q)) := rfl
@[simp] theorem bin2_ex (g : D → D → Option PV) (p : PV) (c : Str) (S : Sq) : bin2 g p (.ex c S) = .ex c S := rfl
@[simp] theorem bin3_ok (g : D → D → Option PV) (S : Sq) (x y : D) : bin3 g S (some x) (some y) = bin4 S (g x y) := rfl
@[simp] theorem bin4_ok (S : Sq) (z : PV) : bin4 S (some z) = .ok z S := rfl
@[simp] theorem add_i (a b : Int) : gAdd (.int a) (.int b) = some (.v (.int (a + b))) := rfl
@[simp] theorem add_l (a b : List D) : gAdd (.list a) (.list b) = if a.length + b.length ≤ sizeLine then some (.o (.l (a ++ b))) else none := rfl
@[simp] theorem add_s (a b : Str) : gAdd (.str a) (.str b) = if a.length + b.length ≤ sizeLine then some (.v (.str (a ++ b))) else none := rfl
@[simp] theorem sub_i (a b : Int) : gSub (.int a) (.int b) = some (.v (.int (a - b))) := rfl
@[simp] theorem lt_i (a b : Int) : gLt (.int a) (.int b) = some (.v (.bool (decide (a < b)))) := rfl
@[simp] theorem le_i (a b : Int) : gLe (.int a) (.int b) = some (.v (.bool (decide (a ≤ b)))) := rfl
@[simp] theorem gt_i (a b : Int) : gGt (.int a) (.int b) = some (.v (.bool (decide (b < a)))) := rfl
@[simp] theorem ge_i (a b : Int) : gGe (.int a) (.int b) = some (.v (.bool (decide (b ≤ a)))) := rfl
@[simp] theorem mod_i (a b : Int) : gMod (.int a) (.int b) = if 0 < b then some (.v (.int (a % b))) else none := rfl
@[simp] theorem div_i (a b : Int) : gDiv (.int a) (.int b) = if CDivW a b then some (.v (.int (a / b))) else none := rfl
@[simp] theorem pow_i (a b : Int) : gPow (.int a) (.int b) = if CPowW a b then some (.v (.int (a ^ b.toNat))) else none := rfl
@[simp] theorem mul_i (a b : Int) : gMul (.int a) (.int b) = if CMul a b then some (.v (.int (a * b))) else none := rfl
@[simp] theorem mul_s (z : Str) (j : Int) : gMul (.str z) (.int j) = if 0 ≤ j ∧ j < 1000000 ∧ z.length * j.toNat ≤ sizeLine then some (.v (.str (strRep z j.toNat))) else none := rfl
@[simp] theorem ix_l (xs : List D) (i : Int) : gIx (.list xs) (.int i) = (atI xs i).map .v := rfl
@[simp] theorem ix_t (xs : List D) (i : Int) : gIx (.tuple xs) (.int i) = (atI xs i).map .v := rfl
@[simp] theorem ix_s (z : Str) (i : Int) : gIx (.str z) (.int i) = if z.length ≤ sizeLine then (atI z.cps.toList i).map fun c => .v (.str ⟨#[c]⟩) else none := rfl
/-! one operand -/
def one1 (g : D → Option PV) : Out PV → Out PV
  | .ok p S => one2 g S (S.val (fz p))
  | .ex c S => .ex c S
  | .no => .no
where one2 (g : D → Option PV) (S : Sq) : Option D → Out PV
  | some x => bin4 S (g x)
  | none => .no
@[simp] theorem ev_f1 (g : D → Option PV) (fa : Sq → Out PV) (S : Sq) : f1 g fa S = one1 g (fa S) := by
  unfold f1 fzF
  cases fa S with
  | no => rfl
  | ex c S1 => rfl
  | ok p S1 =>
    show (match S1.val (fz p) with
      | some x => (match g x with
        | some z => Out.ok z S1
        | none => .no)
      | none => .no) = one1.one2 g S1 (S1.val (fz p))
    cases S1.val (fz p) with
    | none => rfl
    | some x =>
      show _ = bin4 S1 (g x)
      cases h : g x <;> simp [bin4, h]
@[simp] theorem one1_ok (g : D → Option PV) (p : PV) (S : Sq) : one1 g (.ok p S) = one1.one2 g S (S.val (fz p)) := rfl
@[simp] theorem one1_ex (g : D → Option PV) (c : Str) (S : Sq) : one1 g (.ex c S) = .ex c S := rfl
@[simp] theorem one2_ok (g : D → Option PV) (S : Sq) (x : D) : one1.one2 g S (some x) = bin4 S (g x) := rfl
@[simp] theorem int1_i (i : Int) : gInt1 (.int i) = some (.v (.int i)) := rfl
@[simp] theorem len_l (xs : List D) : gLen (.list xs) = some (.v (.int xs.length)) := rfl
@[simp] theorem len_t (xs : List D) : gLen (.tuple xs) = some (.v (.int xs.length)) := rfl
@[simp] theorem len_s (z : Str) : gLen (.str z) = if z.length ≤ sizeLine then some (.v (.int z.length)) else none := rfl
/-! tests -/
def tst2 (S : Sq) : Option D → Out Bool
  | some (.bool b) => .ok b S
  | _ => .no
def tst1 : Out PV → Out Bool
  | .ok p S => tst2 S (S.val p)
  | .ex c S => .ex c S
  | .no => .no
@[simp] theorem ev_fB (fa : Sq → Out PV) (S : Sq) : fB fa S = tst1 (fa S) := by
  unfold fB
  cases fa S with
  | no => rfl
  | ex c S1 => rfl
  | ok p S1 =>
    show (match S1.val p with
      | some (.bool b) => Out.ok b S1
      | _ => .no) = tst2 S1 (S1.val p)
    unfold tst2
    split <;> rename_i h <;> simp_all
@[simp] theorem tst1_ok (p : PV) (S : Sq) : tst1 (.ok p S) = tst2 S (S.val p) := rfl
@[simp] theorem tst1_ex (c : Str) (S : Sq) : tst1 (.ex c S) = .ex c S := rfl
@[simp] theorem tst2_ok (S : Sq) (b : Bool) : tst2 S (some (.bool b)) = .ok b S := rfl
def and1 (g : Sq → Out Bool) : Out Bool → Out Bool
  | .ok b S => if b = true then g S else .ok false S
  | .ex c S => .ex c S
  | .no => .no
@[simp] theorem ev_and (f g : Sq → Out Bool) (S : Sq) : tAndF f g S = and1 g (f S) := by
  unfold tAndF and1
  cases f S <;> rfl
@[simp] theorem and1_ok (g : Sq → Out Bool) (b : Bool) (S : Sq) : and1 g (.ok b S) = if b = true then g S else .ok false S := rfl
def or1 (g : Sq → Out Bool) : Out Bool → Out Bool
  | .ok b S => if b = true then .ok true S else g S
  | .ex c S => .ex c S
  | .no => .no
@[simp] theorem ev_or (f g : Sq → Out Bool) (S : Sq) : tOrF f g S = or1 g (f S) := by
  unfold tOrF or1
  cases f S <;> rfl
@[simp] theorem or1_ok (g : Sq → Out Bool) (b : Bool) (S : Sq) : or1 g (.ok b S) = if b = true then .ok true S else g S := rfl
def not1 : Out Bool → Out Bool
  | .ok b S => .ok (!b) S
  | .ex c S => .ex c S
  | .no => .no
@[simp] theorem ev_not (f : Sq → Out Bool) (S : Sq) : tNotF f S = not1 (f S) := by
  unfold tNotF not1
  cases f S <;> rfl
@[simp] theorem not1_ok (b : Bool) (S : Sq) : not1 (.ok b S) = .ok (!b) S := rfl
def bv1 : Out Bool → Out PV
  | .ok b S => .ok (.v (.bool b)) S
  | .ex c S => .ex c S
  | .no => .no
@[simp] theorem ev_bv (f : Sq → Out Bool) (S : Sq) : bv f S = bv1 (f S) := by
  unfold bv bv1
  cases f S <;> rfl
@[simp] theorem bv1_ok (b : Bool) (S : Sq) : bv1 (.ok b S) = .ok (.v (.bool b)) S := rfl
def ife1 (fa fb : Sq → Out PV) : Out Bool → Out PV
  | .ok b S => if b = true then fa S else fb S
  | .ex c S => .ex c S
  | .no => .no
@[simp] theorem ev_fIf (t : Sq → Out Bool) (fa fb : Sq → Out PV) (S : Sq) : fIf t fa fb S = ife1 fa fb (t S) := by
  unfold fIf ife1
  cases t S <;> rfl
@[simp] theorem ife1_ok (fa fb : Sq → Out PV) (b : Bool) (S : Sq) : ife1 fa fb (.ok b S) = if b = true then fa S else fb S := rfl
/-! the pen -/
def pen1 (j : Int) (S : Sq) : Option R → Option Pen → Out PV
  | some .pen, some P => if j = 0 then .ok (.v (.list (P.cells.map .int))) S else if j = 1 then .ok (.v (.int P.at_)) S else if j = 2 then .ok (.v (.int P.rest)) S else .no
  | _, _ => .no
@[simp] theorem ev_pen (i : Nat) (j : Int) (S : Sq) : fPen i j S = pen1 j S S.r[i]? S.p := by
  unfold fPen pen1
  split <;> rename_i h <;> simp_all
@[simp] theorem pen1_0 (S : Sq) (P : Pen) : pen1 0 S (some .pen) (some P) = .ok (.v (.list (P.cells.map .int))) S := rfl
@[simp] theorem pen1_1 (S : Sq) (P : Pen) : pen1 1 S (some .pen) (some P) = .ok (.v (.int P.at_)) S := rfl
@[simp] theorem pen1_2 (S : Sq) (P : Pen) : pen1 2 S (some .pen) (some P) = .ok (.v (.int P.rest)) S := rfl
/-! argument lists, displays -/
def cons2 (p : PV) : Out (List PV) → Out (List PV)
  | .ok ps S => .ok (p :: ps) S
  | .ex c S => .ex c S
  | .no => .no
def cons1 (fr : Sq → Out (List PV)) : Out PV → Out (List PV)
  | .ok p S => cons2 (fz p) (fr S)
  | .ex c S => .ex c S
  | .no => .no
@[simp] theorem ev_cons (fa : Sq → Out PV) (fr : Sq → Out (List PV)) (S : Sq) : fCons fa fr S = cons1 fr (fa S) := by
  unfold fCons fzF
  cases fa S with
  | no => rfl
  | ex c S1 => rfl
  | ok p S1 =>
    show ((fr S1).bind fun ps S2 => .ok (fz p :: ps) S2) = cons2 (fz p) (fr S1)
    cases fr S1 <;> rfl
@[simp] theorem cons1_ok (fr : Sq → Out (List PV)) (p : PV) (S : Sq) : cons1 fr (.ok p S) = cons2 (fz p) (fr S) := rfl
@[simp] theorem cons2_ok (p : PV) (ps : List PV) (S : Sq) : cons2 p (.ok ps S) = .ok (p :: ps) S := rfl
@[simp] theorem ev_nil (S : Sq) : fNil S = .ok [] S := rfl
def keepR (S : Sq) (i : Nat) : Option R → Option (D × Sq)
  | some (.d x) => some (x, S)
  | some (.l xs) => some (.list xs, { S with r := S.r.set i (.d (.list xs)) })
  | some (.m kvs) => some (.dict kvs, { S with r := S.r.set i (.d (.dict kvs)) })
  | _ => none
@[simp] theorem keep_s (S : Sq) (i : Nat) : S.keep (.s i) = keepR S i S.r[i]? := by
  unfold Sq.keep keepR
  first | rfl | (dsimp only; split <;> rename_i h <;> simp_all)
@[simp] theorem keepR_d (S : Sq) (i : Nat) (x : D) : keepR S i (some (.d x)) = some (x, S) := rfl
@[simp] theorem keepR_l (S : Sq) (i : Nat) (xs : List D) : keepR S i (some (.l xs)) = some (.list xs, { S with r := S.r.set i (.d (.list xs)) }) := rfl
@[simp] theorem keepR_m (S : Sq) (i : Nat) (kvs : List (D × D)) : keepR S i (some (.m kvs)) = some (.dict kvs, { S with r := S.r.set i (.d (.dict kvs)) }) := rfl
@[simp] theorem keep_v (S : Sq) (x : D) : S.keep (.v x) = some (x, S) := rfl
def kall2 (d : D) : Option (List D × Sq) → Option (List D × Sq)
  | some (ds, S) => some (d :: ds, S)
  | none => none
def kall1 (ps : List PV) : Option (D × Sq) → Option (List D × Sq)
  | some (d, S) => kall2 d (keepAll S ps)
  | none => none
@[simp] theorem kall_nil (S : Sq) : keepAll S [] = some ([], S) := rfl
@[simp] theorem kall_cons (S : Sq) (p : PV) (ps : List PV) : keepAll S (p :: ps) = kall1 ps (S.keep p) := by
  unfold keepAll kall1
  cases S.keep p with
  | none => rfl
  | some t =>
    obtain ⟨d, S1⟩ := t
    show (match keepAll S1 ps with
      | some (ds, S2) => some (d :: ds, S2)
      | none => none) = kall2 d (keepAll S1 ps)
    cases keepAll S1 ps <;> rfl
@[simp] theorem kall1_some (ps : List PV) (d : D) (S : Sq) : kall1 ps (some (d, S)) = kall2 d (keepAll S ps) := rfl
@[simp] theorem kall2_some (d : D) (ds : List D) (S : Sq) : kall2 d (some (ds, S)) = some (d :: ds, S) := rfl
def dis2 (mk : List D → PV) : Option (List D × Sq) → Out PV
  | some (ds, S) => if ds.length ≤ sizeLine then .ok (mk ds) S else .no
  | none => .no
def dis1 (mk : List D → PV) : Out (List PV) → Out PV
  | .ok ps S => dis2 mk (keepAll S ps)
  | .ex c S => .ex c S
  | .no => .no
@[simp] theorem ev_tup (fs : Sq → Out (List PV)) (S : Sq) : fTup fs S = dis1 (fun ds => .v (.tuple ds)) (fs S) := by
  unfold fTup
  cases fs S with
  | no => rfl
  | ex c S1 => rfl
  | ok ps S1 =>
    show (match keepAll S1 ps with
      | some (ds, S2) => if ds.length ≤ sizeLine then Out.ok (.v (.tuple ds)) S2 else .no
      | none => .no) = dis2 _ (keepAll S1 ps)
    cases keepAll S1 ps <;> rfl
@[simp] theorem ev_lst (fs : Sq → Out (List PV)) (S : Sq) : fLst fs S = dis1 (fun ds => .o (.l ds)) (fs S) := by
  unfold fLst
  cases fs S with
  | no => rfl
  | ex c S1 => rfl
  | ok ps S1 =>
    show (match keepAll S1 ps with
      | some (ds, S2) => if ds.length ≤ sizeLine then Out.ok (.o (.l ds)) S2 else .no
      | none => .no) = dis2 _ (keepAll S1 ps)
    cases keepAll S1 ps <;> rfl
@[simp] theorem dis1_ok (mk : List D → PV) (ps : List PV) (S : Sq) : dis1 mk (.ok ps S) = dis2 mk (keepAll S ps) := rfl
@[simp] theorem dis2_ok (mk : List D → PV) (ds : List D) (S : Sq) : dis2 mk (some (ds, S)) = if ds.length ≤ sizeLine then .ok (mk ds) S else .no := rfl
/-! calls -/
def argR (S : Sq) (i : Nat) : Option R → Option (R × Sq)
  | some (.d x) => some (.d x, S)
  | some (.l xs) => some (.d (.list xs), { S with r := S.r.set i (.d (.list xs)) })
  | some (.m kvs) => some (.d (.dict kvs), { S with r := S.r.set i (.d (.dict kvs)) })
  | some .pen => some (.pen, S)
  | some (.sc ns) => some (.sc ns, S)
  | some (.e c) => some (.e c, S)
  | _ => none
@[simp] theorem argR_e (S : Sq) (i : Nat) (c : Str) : argR S i (some (.e c)) = some (.e c, S) := rfl
@[simp] theorem arg_s (S : Sq) (i : Nat) : S.argK (.s i) = argR S i S.r[i]? := by
  unfold Sq.argK argR
  first | rfl | (dsimp only; split <;> rename_i h <;> simp_all)
@[simp] theorem argR_m (S : Sq) (i : Nat) (kvs : List (D × D)) : argR S i (some (.m kvs)) = some (.d (.dict kvs), { S with r := S.r.set i (.d (.dict kvs)) }) := rfl
@[simp] theorem argR_d (S : Sq) (i : Nat) (x : D) : argR S i (some (.d x)) = some (.d x, S) := rfl
@[simp] theorem argR_l (S : Sq) (i : Nat) (xs : List D) : argR S i (some (.l xs)) = some (.d (.list xs), { S with r := S.r.set i (.d (.list xs)) }) := rfl
@[simp] theorem argR_pen (S : Sq) (i : Nat) : argR S i (some .pen) = some (.pen, S) := rfl
@[simp] theorem arg_v (S : Sq) (x : D) : S.argK (.v x) = some (.d x, S) := rfl
def aall2 (d : R) : Option (List R × Sq) → Option (List R × Sq)
  | some (ds, S) => some (d :: ds, S)
  | none => none
def aall1 (ps : List PV) : Option (R × Sq) → Option (List R × Sq)
  | some (d, S) => aall2 d (argsK S ps)
  | none => none
@[simp] theorem aall_nil (S : Sq) : argsK S [] = some ([], S) := rfl
@[simp] theorem aall_cons (S : Sq) (p : PV) (ps : List PV) : argsK S (p :: ps) = aall1 ps (S.argK p) := by
  unfold argsK aall1
  cases S.argK p with
  | none => rfl
  | some t =>
    obtain ⟨d, S1⟩ := t
    show (match argsK S1 ps with
      | some (ds, S2) => some (d :: ds, S2)
      | none => none) = aall2 d (argsK S1 ps)
    cases argsK S1 ps <;> rfl
@[simp] theorem aall1_some (ps : List PV) (d : R) (S : Sq) : aall1 ps (some (d, S)) = aall2 d (argsK S ps) := rfl
@[simp] theorem aall2_some (d : R) (ds : List R) (S : Sq) : aall2 d (some (ds, S)) = some (d :: ds, S) := rfl
def call3 (S2 : Sq) : Out R → Out PV
  | .ok r S3 => bin4 { S2 with p := S3.p } (toPV r)
  | .ex c S3 => .ex c { S2 with p := S3.p }
  | .no => .no
def call2 (f : Fd) : Option (List R × Sq) → Out PV
  | some (rs, S2) => call3 S2 (f rs S2.p)
  | none => .no
def call1 (f : Fd) : Out (List PV) → Out PV
  | .ok ps S1 => call2 f (argsK S1 ps)
  | .ex c S => .ex c S
  | .no => .no
@[simp] theorem ev_call (f : Fd) (fs : Sq → Out (List PV)) (S : Sq) : callF f fs S = call1 f (fs S) := by
  unfold callF
  cases fs S with
  | no => rfl
  | ex c S1 => rfl
  | ok ps S1 =>
    show _ = call2 f (argsK S1 ps)
    simp only [Out.bind_ok]
    cases argsK S1 ps with
    | none => rfl
    | some t =>
      obtain ⟨rs, S2⟩ := t
      show _ = call3 S2 (f rs S2.p)
      dsimp only
      cases f rs S2.p with
      | no => rfl
      | ex c S3 => rfl
      | ok r S3 =>
        show _ = bin4 { S2 with p := S3.p } (toPV r)
        dsimp only
        cases toPV r <;> rfl
@[simp] theorem call1_ok (f : Fd) (ps : List PV) (S : Sq) : call1 f (.ok ps S) = call2 f (argsK S ps) := rfl
/-- what a call gives, its slots forgotten -/
inductive Rz where
  | ok (r : R) (p : Option Pen) | ex (c : Str) (p : Option Pen) | no
def rz : Out R → Rz
  | .ok r S => .ok r S.p
  | .ex c S => .ex c S.p
  | .no => .no
@[simp] theorem rz_ok (r : R) (S : Sq) : rz (.ok r S) = .ok r S.p := rfl
@[simp] theorem rz_ex (c : Str) (S : Sq) : rz (.ex c S) = .ex c S.p := rfl
def callZ (S2 : Sq) : Rz → Out PV
  | .ok r p => bin4 { S2 with p := p } (toPV r)
  | .ex c p => .ex c { S2 with p := p }
  | .no => .no
@[simp] theorem callZ_ok (S2 : Sq) (r : R) (p : Option Pen) : callZ S2 (.ok r p) = bin4 { S2 with p := p } (toPV r) := rfl
@[simp] theorem callZ_ex (S2 : Sq) (c : Str) (p : Option Pen) : callZ S2 (.ex c p) = .ex c { S2 with p := p } := rfl
theorem call3_z (S : Sq) (o : Out R) : call3 S o = callZ S (rz o) := by cases o <;> rfl
theorem call2_ok (f : Fd) (rs : List R) (S : Sq) : call2 f (some (rs, S)) = call3 S (f rs S.p) := rfl
@[simp] theorem call2_z (f : Fd) (rs : List R) (S : Sq) : call2 f (some (rs, S)) = callZ S (rz (f rs S.p)) := by rw [call2_ok, call3_z]
@[simp] theorem call3_ok (S2 S3 : Sq) (r : R) : call3 S2 (.ok r S3) = bin4 { S2 with p := S3.p } (toPV r) := rfl
@[simp] theorem call3_ex (S2 S3 : Sq) (c : Str) : call3 S2 (.ex c S3) = .ex c { S2 with p := S3.p } := rfl
@[simp] theorem toPV_d (x : D) : toPV (.d x) = some (.v x) := rfl
@[simp] theorem toPV_m (kvs : List (D × D)) : toPV (.m kvs) = some (.o (.m kvs)) := rfl
@[simp] theorem toPV_l (xs : List D) : toPV (.l xs) = some (.o (.l xs)) := rfl
/-! statements -/
def seq1 (g2 : Sq → Fl) : Fl → Fl
  | .nx S => g2 S
  | z => z
@[simp] theorem ev_seq (g1 g2 : Sq → Fl) (S : Sq) : seqF g1 g2 S = seq1 g2 (g1 S) := by
  unfold seqF seq1
  cases g1 S <;> rfl
@[simp] theorem seq1_nx (g2 : Sq → Fl) (S : Sq) : seq1 g2 (.nx S) = g2 S := rfl
@[simp] theorem seq1_rt (g2 : Sq → Fl) (r : R) (S : Sq) : seq1 g2 (.rt r S) = .rt r S := rfl
@[simp] theorem seq1_ex (g2 : Sq → Fl) (c : Str) (S : Sq) : seq1 g2 (.ex c S) = .ex c S := rfl
@[simp] theorem seq1_bk (g2 : Sq → Fl) (S : Sq) : seq1 g2 (.bk S) = .bk S := rfl
@[simp] theorem seq1_ct (g2 : Sq → Fl) (S : Sq) : seq1 g2 (.ct S) = .ct S := rfl
@[simp] theorem ev_nx (S : Sq) : nxF S = .nx S := rfl
@[simp] theorem ev_raise (x : Str) (S : Sq) : raiseF x S = .ex x S := rfl
def if1 (g1 g2 : Sq → Fl) : Out Bool → Fl
  | .ok b S => if b = true then g1 S else g2 S
  | .ex c S => .ex c S
  | .no => .no
@[simp] theorem ev_if (t : Sq → Out Bool) (g1 g2 : Sq → Fl) (S : Sq) : ifF t g1 g2 S = if1 g1 g2 (t S) := by
  unfold ifF if1
  cases t S <;> rfl
@[simp] theorem if1_ok (g1 g2 : Sq → Fl) (b : Bool) (S : Sq) : if1 g1 g2 (.ok b S) = if b = true then g1 S else g2 S := rfl
@[simp] theorem if1_ex (g1 g2 : Sq → Fl) (c : Str) (S : Sq) : if1 g1 g2 (.ex c S) = .ex c S := rfl
def resR (S : Sq) (i : Nat) : Option R → Option (R × Sq)
  | some (.d x) => some (.d x, S)
  | some (.l xs) => some (.d (.list xs), { S with r := S.r.set i (.d (.list xs)) })
  | some (.m kvs) => some (.d (.dict kvs), { S with r := S.r.set i (.d (.dict kvs)) })
  | some .pen => some (.pen, S)
  | _ => none
@[simp] theorem res_s (S : Sq) (i : Nat) : S.res (.s i) = resR S i S.r[i]? := by
  unfold Sq.res resR
  first | rfl | (dsimp only; split <;> rename_i h <;> simp_all)
@[simp] theorem resR_m (S : Sq) (i : Nat) (kvs : List (D × D)) : resR S i (some (.m kvs)) = some (.d (.dict kvs), { S with r := S.r.set i (.d (.dict kvs)) }) := rfl
@[simp] theorem resR_d (S : Sq) (i : Nat) (x : D) : resR S i (some (.d x)) = some (.d x, S) := rfl
@[simp] theorem resR_l (S : Sq) (i : Nat) (xs : List D) : resR S i (some (.l xs)) = some (.d (.list xs), { S with r := S.r.set i (.d (.list xs)) }) := rfl
@[simp] theorem res_v (S : Sq) (x : D) : S.res (.v x) = some (.d x, S) := rfl
@[simp] theorem res_om (S : Sq) (kvs : List (D × D)) : S.res (.o (.m kvs)) = some (.m kvs, S) := rfl
@[simp] theorem res_o (S : Sq) (xs : List D) : S.res (.o (.l xs)) = some (.l xs, S) := rfl
def set2 (i : Nat) : Option (R × Sq) → Fl
  | some (c, S) => if i < S.r.length then .nx { S with r := S.r.set i c } else .no
  | none => .no
def set1 (i : Nat) : Out PV → Fl
  | .ok p S => set2 i (S.res p)
  | .ex c S => .ex c S
  | .no => .no
@[simp] theorem ev_set (i : Nat) (fa : Sq → Out PV) (S : Sq) : setF i fa S = set1 i (fa S) := by
  unfold setF
  cases fa S with
  | no => rfl
  | ex c S1 => rfl
  | ok p S1 =>
    show _ = set2 i (S1.res p)
    simp only [Out.fl_ok]
    cases S1.res p <;> rfl
@[simp] theorem set1_ok (i : Nat) (p : PV) (S : Sq) : set1 i (.ok p S) = set2 i (S.res p) := rfl
@[simp] theorem set1_ex (i : Nat) (c : Str) (S : Sq) : set1 i (.ex c S) = .ex c S := rfl
@[simp] theorem set2_ok (i : Nat) (c : R) (S : Sq) : set2 i (some (c, S)) = if i < S.r.length then .nx { S with r := S.r.set i c } else .no := rfl
def retR : Option R → Option R
  | some (.d x) => some (.d x)
  | some (.l xs) => some (.l xs)
  | some (.m kvs) => some (.m kvs)
  | _ => none
@[simp] theorem retR_m (kvs : List (D × D)) : retR (some (.m kvs)) = some (.m kvs) := rfl
@[simp] theorem ret_s (S : Sq) (i : Nat) : S.ret (.s i) = retR S.r[i]? := by
  unfold Sq.ret retR
  first | rfl | (dsimp only; split <;> rename_i h <;> simp_all)
@[simp] theorem retR_d (x : D) : retR (some (.d x)) = some (.d x) := rfl
@[simp] theorem retR_l (xs : List D) : retR (some (.l xs)) = some (.l xs) := rfl
@[simp] theorem ret_v (S : Sq) (x : D) : S.ret (.v x) = some (.d x) := rfl
@[simp] theorem ret_om (S : Sq) (kvs : List (D × D)) : S.ret (.o (.m kvs)) = some (.m kvs) := rfl
@[simp] theorem val_om (S : Sq) (kvs : List (D × D)) : S.val (.o (.m kvs)) = some (.dict kvs) := rfl
@[simp] theorem ret_o (S : Sq) (xs : List D) : S.ret (.o (.l xs)) = some (.l xs) := rfl
def ret2 (S : Sq) : Option R → Fl
  | some r => .rt r S
  | none => .no
def ret1 : Out PV → Fl
  | .ok p S => ret2 S (S.ret p)
  | .ex c S => .ex c S
  | .no => .no
@[simp] theorem ev_ret (fa : Sq → Out PV) (S : Sq) : retF fa S = ret1 (fa S) := by
  unfold retF
  cases fa S with
  | no => rfl
  | ex c S1 => rfl
  | ok p S1 =>
    show _ = ret2 S1 (S1.ret p)
    simp only [Out.fl_ok]
    cases S1.ret p <;> rfl
@[simp] theorem ret1_ok (p : PV) (S : Sq) : ret1 (.ok p S) = ret2 S (S.ret p) := rfl
@[simp] theorem ret1_ex (c : Str) (S : Sq) : ret1 (.ex c S) = .ex c S := rfl
@[simp] theorem ret2_ok (r : R) (S : Sq) : ret2 S (some r) = .rt r S := rfl
def penS2 (S : Sq) (j : Int) : Option R → Option Pen → Option D → Fl
  | some .pen, some P, some (.int n) => if j = 1 then .nx { S with p := some { P with at_ := n } } else if j = 2 then .nx { S with p := some { P with rest := n } } else .no
  | _, _, _ => .no
def penS1 (i : Nat) (j : Int) : Out PV → Fl
  | .ok p S => penS2 S j S.r[i]? S.p (S.val (fz p))
  | .ex c S => .ex c S
  | .no => .no
@[simp] theorem ev_penS (i : Nat) (j : Int) (fa : Sq → Out PV) (S : Sq) : penF i j fa S = penS1 i j (fa S) := by
  unfold penF fzF
  cases fa S with
  | no => rfl
  | ex c S1 => rfl
  | ok p S1 =>
    show _ = penS2 S1 j S1.r[i]? S1.p (S1.val (fz p))
    simp only [Out.bind_ok, Out.fl_ok]
    unfold penS2
    split <;> rename_i h <;> simp_all
@[simp] theorem penS1_ok (i : Nat) (j : Int) (p : PV) (S : Sq) : penS1 i j (.ok p S) = penS2 S j S.r[i]? S.p (S.val (fz p)) := rfl
@[simp] theorem penS2_1 (S : Sq) (P : Pen) (n : Int) : penS2 S 1 (some .pen) (some P) (some (.int n)) = .nx { S with p := some { P with at_ := n } } := rfl
@[simp] theorem penS2_2 (S : Sq) (P : Pen) (n : Int) : penS2 S 2 (some .pen) (some P) (some (.int n)) = .nx { S with p := some { P with rest := n } } := rfl
def run1 : Fl → Out R
  | .nx S => .ok (.d .none) S
  | .rt r S => .ok r S
  | .ex c S => .ex c S
  | _ => .no
@[simp] theorem ev_run (n : Nat) (g : Sq → Fl) (rs : List R) (p : Option Pen) : runB n g rs p = run1 (g ⟨rs ++ List.replicate (n - rs.length) .un, p⟩) := by
  unfold runB run1
  cases g ⟨rs ++ List.replicate (n - rs.length) .un, p⟩ <;> rfl
@[simp] theorem run1_nx (S : Sq) : run1 (.nx S) = .ok (.d .none) S := rfl
@[simp] theorem run1_rt (r : R) (S : Sq) : run1 (.rt r S) = .ok r S := rfl
@[simp] theorem run1_ex (c : Str) (S : Sq) : run1 (.ex c S) = .ex c S := rfl
/-! slots -/
@[simp] theorem rep_succ (n : Nat) : List.replicate (n + 1) R.un = .un :: List.replicate n .un := rfl
end Q3
/-! Q3w: loops and the rest, evaluated step by step. -/
namespace Q3
open PySem PySem.Spec PyProof.Rows L2
/-! a, b = x, y -/
def par4 (i j : Nat) (c : R) : Option (R × Sq) → Fl
  | some (c', S) => if i < S.r.length ∧ j < S.r.length then .nx { S with r := (S.r.set i c).set j c' } else .no
  | none => .no
def par3 (i j : Nat) (q : PV) : Option (R × Sq) → Fl
  | some (c, S) => par4 i j c (S.res q)
  | none => .no
def par2 (i j : Nat) (p : PV) : Out PV → Fl
  | .ok q S => par3 i j q (S.res p)
  | .ex c S => .ex c S
  | .no => .no
def par1 (i j : Nat) (fb : Sq → Out PV) : Out PV → Fl
  | .ok p S => par2 i j p (fb S)
  | .ex c S => .ex c S
  | .no => .no
@[simp] theorem ev_par (i j : Nat) (fa fb : Sq → Out PV) (S : Sq) : parF i j fa fb S = par1 i j fb (fa S) := by
  unfold parF
  cases fa S with
  | no => rfl
  | ex c S1 => rfl
  | ok p S1 =>
    show (fb S1).fl _ = par2 i j p (fb S1)
    cases fb S1 with
    | no => rfl
    | ex c S2 => rfl
    | ok q S2 =>
      show _ = par3 i j q (S2.res p)
      simp only [Out.fl_ok]
      cases S2.res p with
      | none => rfl
      | some t =>
        obtain ⟨c, S3⟩ := t
        show _ = par4 i j c (S3.res q)
        dsimp only
        cases S3.res q <;> rfl
@[simp] theorem par1_ok (i j : Nat) (fb : Sq → Out PV) (p : PV) (S : Sq) : par1 i j fb (.ok p S) = par2 i j p (fb S) := rfl
@[simp] theorem par2_ok (i j : Nat) (p q : PV) (S : Sq) : par2 i j p (.ok q S) = par3 i j q (S.res p) := rfl
@[simp] theorem par3_ok (i j : Nat) (q : PV) (c : R) (S : Sq) : par3 i j q (some (c, S)) = par4 i j c (S.res q) := rfl
@[simp] theorem par4_ok (i j : Nat) (c c' : R) (S : Sq) : par4 i j c (some (c', S)) = if i < S.r.length ∧ j < S.r.length then .nx { S with r := (S.r.set i c).set j c' } else .no := rfl
/-! xs.append(e) -/
def app3 (i : Nat) (d : D) (S : Sq) : Option R → Fl
  | some (.l xs) => if xs.length < sizeLine then .nx { S with r := S.r.set i (.l (xs ++ [d])) } else .no
  | _ => .no
def app2 (i : Nat) : Option (D × Sq) → Fl
  | some (d, S) => app3 i d S S.r[i]?
  | none => .no
def app1 (i : Nat) : Out PV → Fl
  | .ok p S => app2 i (S.keep (fz p))
  | .ex c S => .ex c S
  | .no => .no
@[simp] theorem ev_app (i : Nat) (fa : Sq → Out PV) (S : Sq) : appF i fa S = if isL S i = true then app1 i (fa S) else .no := by
  unfold appF fzF
  split
  · cases fa S with
    | no => rfl
    | ex c S1 => rfl
    | ok p S1 =>
      show _ = app2 i (S1.keep (fz p))
      simp only [Out.bind_ok, Out.fl_ok]
      cases S1.keep (fz p) with
      | none => rfl
      | some t =>
        obtain ⟨d, S2⟩ := t
        show _ = app3 i d S2 S2.r[i]?
        dsimp only
        unfold app3
        split <;> rename_i h <;> simp_all
  · rfl
@[simp] theorem app1_ok (i : Nat) (p : PV) (S : Sq) : app1 i (.ok p S) = app2 i (S.keep (fz p)) := rfl
@[simp] theorem app2_ok (i : Nat) (d : D) (S : Sq) : app2 i (some (d, S)) = app3 i d S S.r[i]? := rfl
@[simp] theorem app3_ok (i : Nat) (d : D) (S : Sq) (xs : List D) : app3 i d S (some (.l xs)) = if xs.length < sizeLine then .nx { S with r := S.r.set i (.l (xs ++ [d])) } else .no := rfl
/-! what is walked -/
def it2 : Option (D × Sq) → Out (List D)
  | some (d, S) => it3 S (itemsOf d)
  | none => .no
where it3 (S : Sq) : Option (List D) → Out (List D)
  | some xs => .ok xs S
  | none => .no
def it1 : Out PV → Out (List D)
  | .ok p S => it2 (S.keep (fz p))
  | .ex c S => .ex c S
  | .no => .no
@[simp] theorem ev_it (fa : Sq → Out PV) (S : Sq) : itF fa S = it1 (fa S) := by
  unfold itF fzF
  cases fa S with
  | no => rfl
  | ex c S1 => rfl
  | ok p S1 =>
    show _ = it2 (S1.keep (fz p))
    simp only [Out.bind_ok]
    cases S1.keep (fz p) with
    | none => rfl
    | some t =>
      obtain ⟨d, S2⟩ := t
      show _ = it2.it3 S2 (itemsOf d)
      dsimp only
      cases itemsOf d <;> rfl
@[simp] theorem it1_ok (p : PV) (S : Sq) : it1 (.ok p S) = it2 (S.keep (fz p)) := rfl
@[simp] theorem it2_ok (d : D) (S : Sq) : it2 (some (d, S)) = it2.it3 S (itemsOf d) := rfl
@[simp] theorem it3_ok (xs : List D) (S : Sq) : it2.it3 S (some xs) = .ok xs S := rfl
@[simp] theorem items_l (xs : List D) : itemsOf (.list xs) = some xs := rfl
@[simp] theorem items_t (xs : List D) : itemsOf (.tuple xs) = some xs := rfl
@[simp] theorem items_m (kvs : List (D × D)) : itemsOf (.dict kvs) = if walkK kvs = true then some (kvs.map (·.1)) else none := rfl
@[simp] theorem items_s (z : Str) : itemsOf (.str z) = some (signs z) := rfl
def Rng62 (j : Int) : Prop := -(2 ^ 62) ≤ j ∧ j < 2 ^ 62
instance {j : Int} : Decidable (Rng62 j) := by unfold Rng62; infer_instance
theorem rng62 {j : Int} (h0 : 0 ≤ j) (h1 : j < 1000000) : Rng62 j := ⟨by omega, by omega⟩
def rng2 (S : Sq) : Option D → Out (List D)
  | some (.int j) => if Rng62 j then .ok (rngD 0 j.toNat) S else .no
  | _ => .no
def rng1 : Out PV → Out (List D)
  | .ok p S => rng2 S (S.val (fz p))
  | .ex c S => .ex c S
  | .no => .no
@[simp] theorem ev_rng1 (fa : Sq → Out PV) (S : Sq) : rng1F fa S = rng1 (fa S) := by
  unfold rng1F fzF
  cases fa S with
  | no => rfl
  | ex c S1 => rfl
  | ok p S1 =>
    show _ = rng2 S1 (S1.val (fz p))
    simp only [Out.bind_ok]
    cases S1.val (fz p) with
    | none => rfl
    | some d =>
      cases d with
      | int j => rfl
      | _ => rfl
@[simp] theorem rng1_ok (p : PV) (S : Sq) : rng1 (.ok p S) = rng2 S (S.val (fz p)) := rfl
@[simp] theorem rng2_ok (S : Sq) (j : Int) : rng2 S (some (.int j)) = if Rng62 j then .ok (rngD 0 j.toNat) S else .no := rfl
def en2 : Option (D × Sq) → Out (List D)
  | some (.list xs, S2) => .ok (enumD 0 xs) S2
  | some (.tuple xs, S2) => .ok (enumD 0 xs) S2
  | _ => .no
def en1 : Out PV → Out (List D)
  | .ok p S => en2 (S.keep (fz p))
  | .ex c S => .ex c S
  | .no => .no
@[simp] theorem ev_enum (fa : Sq → Out PV) (S : Sq) : enumA fa S = en1 (fa S) := by
  unfold enumA fzF
  cases fa S with
  | no => rfl
  | ex c S1 => rfl
  | ok p S1 =>
    show _ = en2 (S1.keep (fz p))
    simp only [Out.bind_ok]
    unfold en2
    split <;> rename_i h <;> simp_all
@[simp] theorem en1_ok (p : PV) (S : Sq) : en1 (.ok p S) = en2 (S.keep (fz p)) := rfl
@[simp] theorem en2_l (xs : List D) (S : Sq) : en2 (some (.list xs, S)) = .ok (enumD 0 xs) S := rfl
@[simp] theorem en2_t (xs : List D) (S : Sq) : en2 (some (.tuple xs, S)) = .ok (enumD 0 xs) S := rfl
def for1 (t : Tg) (g : Sq → Fl) : Out (List D) → Fl
  | .ok ds S => forF t g ds S
  | .ex c S => .ex c S
  | .no => .no
@[simp] theorem ev_for (t : Tg) (fi : Sq → Out (List D)) (g : Sq → Fl) (S : Sq) : forS t fi g S = for1 t g (fi S) := by
  unfold forS
  cases fi S <;> rfl
@[simp] theorem for1_ok (t : Tg) (g : Sq → Fl) (ds : List D) (S : Sq) : for1 t g (.ok ds S) = forF t g ds S := rfl
/-- a loop that keeps P, each turn told -/
theorem forF_inv {t : Tg} {g : Sq → Fl} {P : Nat → Sq → Prop} : ∀ {ds : List D} {S : Sq} (k : Nat), P k S →
    (∀ (i : Nat) (d : D) (S : Sq), ds[i]? = some d → P (k + i) S → ∃ S1, t.put S d = some S1 ∧ ∃ S2, (g S1 = .nx S2 ∨ g S1 = .ct S2) ∧ P (k + i + 1) S2) → ∃ S', forF t g ds S = .nx S' ∧ P (k + ds.length) S'
  | [], S, k, h, _ => ⟨S, rfl, h⟩
  | d :: ds, S, k, h, f => by
    obtain ⟨S1, e1, S2, e2, h2⟩ := f 0 d S rfl h
    obtain ⟨S', e3, h3⟩ := forF_inv (t := t) (g := g) (P := P) (ds := ds) (S := S2) (k + 1) h2 fun i d S hd hp => by
      have q := f (i + 1) d S hd (by rw [show k + (i + 1) = k + 1 + i by omega]; exact hp)
      rw [show k + (i + 1) + 1 = k + 1 + i + 1 by omega] at q
      exact q
    refine ⟨S', ?_, by rw [List.length_cons, show k + (ds.length + 1) = k + 1 + ds.length by omega]; exact h3⟩
    unfold forF
    rw [e1]
    rcases e2 with e2 | e2
    · dsimp only; rw [e2]; exact e3
    · dsimp only; rw [e2]; exact e3
/-! comprehensions -/
def lc3 (r0 : List R) (vs : List Nat) : Out (List D) → Out PV
  | .ok out S => .ok (.o (.l out)) { S with r := backR r0 S.r vs }
  | .ex c S => .ex c S
  | .no => .no
def lc1 (t : Tg) (tt : Sq → Out Bool) (te : Sq → Out PV) (vs : List Nat) : Out (List D) → Out PV
  | .ok ds S => if plainAt S vs = true then lc3 S.r vs (lcF t tt te vs ds { S with r := wipeR S.r vs } []) else .no
  | .ex c S => .ex c S
  | .no => .no
@[simp] theorem ev_lc (t : Tg) (fi : Sq → Out (List D)) (tt : Sq → Out Bool) (te : Sq → Out PV) (vs : List Nat) (S : Sq) : lcS t fi tt te vs S = lc1 t tt te vs (fi S) := by
  unfold lcS
  cases fi S with
  | no => rfl
  | ex c S1 => rfl
  | ok ds S1 =>
    simp only [Out.bind_ok, lc1]
    split
    · cases lcF t tt te vs ds { S1 with r := wipeR S1.r vs } [] <;> rfl
    · rfl
theorem lc1_ok (t : Tg) (tt : Sq → Out Bool) (te : Sq → Out PV) (vs : List Nat) (ds : List D) (S : Sq) : lc1 t tt te vs (.ok ds S) = if plainAt S vs = true then lc3 S.r vs (lcF t tt te vs ds { S with r := wipeR S.r vs } []) else .no := rfl
@[simp] theorem lc3_ok (r0 : List R) (vs : List Nat) (out : List D) (S : Sq) : lc3 r0 vs (.ok out S) = .ok (.o (.l out)) { S with r := backR r0 S.r vs } := rfl
/-- a comprehension that keeps P, each turn told: the test, the value -/
theorem lcF_inv {t : Tg} {tt : Sq → Out Bool} {te : Sq → Out PV} {vs : List Nat} {P : Nat → Sq → List D → Prop} : ∀ {ds : List D} {S : Sq} {acc : List D} (k : Nat), acc.length + ds.length ≤ sizeLine → P k S acc →
    (∀ (i : Nat) (d : D) (S : Sq) (acc : List D), ds[i]? = some d → P (k + i) S acc → ∃ S1, t.put { S with r := wipeR S.r vs } d = some S1 ∧ ∃ b S2, tt S1 = .ok b S2 ∧
      (b = false → P (k + i + 1) S2 acc) ∧ (b = true → ∃ p S3 y S4, te S2 = .ok p S3 ∧ S3.keep (fz p) = some (y, S4) ∧ P (k + i + 1) S4 (acc ++ [y]))) →
    ∃ S' out, lcF t tt te vs ds S acc = .ok out S' ∧ P (k + ds.length) S' out
  | [], S, acc, k, _, h, _ => ⟨S, acc, rfl, h⟩
  | d :: ds, S, acc, k, hz, h, f => by
    obtain ⟨S1, e1, b, S2, e2, hf, ht⟩ := f 0 d S acc rfl h
    have next : ∀ (i : Nat) (d : D) (S : Sq) (acc : List D), ds[i]? = some d → P (k + 1 + i) S acc → ∃ S1, t.put { S with r := wipeR S.r vs } d = some S1 ∧ ∃ b S2, tt S1 = .ok b S2 ∧
      (b = false → P (k + 1 + i + 1) S2 acc) ∧ (b = true → ∃ p S3 y S4, te S2 = .ok p S3 ∧ S3.keep (fz p) = some (y, S4) ∧ P (k + 1 + i + 1) S4 (acc ++ [y])) := fun i d S acc hd hp => by
      have q := f (i + 1) d S acc hd (by rw [show k + (i + 1) = k + 1 + i by omega]; exact hp)
      rw [show k + (i + 1) + 1 = k + 1 + i + 1 by omega] at q
      exact q
    have len : k + (d :: ds).length = k + 1 + ds.length := by simp; omega
    rw [len]
    simp only [List.length_cons] at hz
    unfold lcF
    rw [e1]
    dsimp only
    rw [e2]
    cases b with
    | false =>
      obtain ⟨S', out, e3, h3⟩ := lcF_inv (t := t) (tt := tt) (te := te) (vs := vs) (P := P) (ds := ds) (S := S2) (acc := acc) (k + 1) (by omega) (hf rfl) next
      exact ⟨S', out, e3, h3⟩
    | true =>
      obtain ⟨p, S3, y, S4, e4, e5, h4⟩ := ht rfl
      obtain ⟨S', out, e3, h3⟩ := lcF_inv (t := t) (tt := tt) (te := te) (vs := vs) (P := P) (ds := ds) (S := S4) (acc := acc ++ [y]) (k + 1) (by simp; omega) h4 next
      refine ⟨S', out, ?_, h3⟩
      simp only [Out.quiet, Out.bind_ok, if_true]
      unfold fzF
      rw [e4]
      simp only [Out.quiet, Out.bind_ok, e5]
      rw [if_pos (by omega)]
      exact e3
@[simp] theorem ev_yes (S : Sq) : yesF S = .ok true S := rfl
@[simp] theorem put_nm (S : Sq) (i : Nat) (d : D) : (Tg.nm i).put S d = if i < S.r.length then some { S with r := S.r.set i (.d d) } else none := rfl
@[simp] theorem put_tp (S : Sq) (is : List Nat) (ds : List D) : (Tg.tp is).put S (.tuple ds) = putAll S is ds := rfl
@[simp] theorem putAll_nil (S : Sq) : putAll S [] [] = some S := rfl
@[simp] theorem putAll_cons (S : Sq) (i : Nat) (is : List Nat) (d : D) (ds : List D) : putAll S (i :: is) (d :: ds) = if i < S.r.length then putAll { S with r := S.r.set i (.d d) } is ds else none := rfl
/-! None of a slot; chains; methods; slices -/
def sl1 (neg : Bool) (S : Sq) : Option R → Out PV
  | some (.d x) => .ok (.v (.bool (if neg then !isNone x else isNone x))) S
  | some (.e _) => .ok (.v (.bool neg)) S
  | _ => .no
@[simp] theorem ev_slN (i : Nat) (neg : Bool) (S : Sq) : fSlN i neg S = sl1 neg S S.r[i]? := by
  unfold fSlN sl1
  split <;> rename_i h <;> simp_all
@[simp] theorem sl1_d (neg : Bool) (S : Sq) (x : D) : sl1 neg S (some (.d x)) = .ok (.v (.bool (if neg then !isNone x else isNone x))) S := rfl
@[simp] theorem sl1_e (neg : Bool) (S : Sq) (c : Str) : sl1 neg S (some (.e c)) = .ok (.v (.bool neg)) S := rfl
@[simp] theorem isNone_none : isNone .none = true := rfl
@[simp] theorem isNone_int (i : Int) : isNone (.int i) = false := rfl
@[simp] theorem isNone_str (i : Str) : isNone (.str i) = false := rfl
@[simp] theorem isNone_bool (i : Bool) : isNone (.bool i) = false := rfl
@[simp] theorem isNone_list (i : List D) : isNone (.list i) = false := rfl
@[simp] theorem isNone_tuple (i : List D) : isNone (.tuple i) = false := rfl
def ch4 (q : Int → Int → Bool) (j : Int) (S : Sq) : Option D → Out PV
  | some (.int l) => .ok (.v (.bool (q j l))) S
  | _ => .no
def ch3 (q : Int → Int → Bool) (j : Int) : Out PV → Out PV
  | .ok z S => ch4 q j S (S.val (fz z))
  | .ex c S => .ex c S
  | .no => .no
def ch2 (p q : Int → Int → Bool) (fc : Sq → Out PV) (S : Sq) : Option D → Option D → Out PV
  | some (.int i), some (.int j) => if p i j = true then ch3 q j (fc S) else .ok (.v (.bool false)) S
  | _, _ => .no
def ch1 (p q : Int → Int → Bool) (fc : Sq → Out PV) (x : PV) : Out PV → Out PV
  | .ok y S => ch2 p q fc S (S.val x) (S.val (fz y))
  | .ex c S => .ex c S
  | .no => .no
def ch0 (p q : Int → Int → Bool) (fb fc : Sq → Out PV) : Out PV → Out PV
  | .ok x S => ch1 p q fc (fz x) (fb S)
  | .ex c S => .ex c S
  | .no => .no
@[simp] theorem ev_chain (p q : Int → Int → Bool) (fa fb fc : Sq → Out PV) (S : Sq) : fChain p q fa fb fc S = ch0 p q fb fc (fa S) := by
  unfold fChain fzF
  cases fa S with
  | no => rfl
  | ex c S1 => rfl
  | ok x S1 =>
    show _ = ch1 p q fc (fz x) (fb S1)
    simp only [Out.bind_ok]
    cases fb S1 with
    | no => rfl
    | ex c S2 => rfl
    | ok y S2 =>
      show _ = ch2 p q fc S2 (S2.val (fz x)) (S2.val (fz y))
      simp only [Out.bind_ok]
      cases S2.val (fz x) with
      | none => rfl
      | some dx =>
        cases S2.val (fz y) with
        | none => cases dx <;> rfl
        | some dy =>
          cases dx <;> cases dy <;> try rfl
          rename_i i j
          show (if p i j = true then _ else _) = (if p i j = true then _ else _)
          split
          · cases fc S2 with
            | no => rfl
            | ex c S3 => rfl
            | ok z S3 =>
              show _ = ch4 q j S3 (S3.val (fz z))
              simp only [Out.bind_ok]
              cases S3.val (fz z) with
              | none => rfl
              | some dz => cases dz <;> rfl
          · rfl
@[simp] theorem ch0_ok (p q : Int → Int → Bool) (fb fc : Sq → Out PV) (x : PV) (S : Sq) : ch0 p q fb fc (.ok x S) = ch1 p q fc (fz x) (fb S) := rfl
@[simp] theorem ch1_ok (p q : Int → Int → Bool) (fc : Sq → Out PV) (x y : PV) (S : Sq) : ch1 p q fc x (.ok y S) = ch2 p q fc S (S.val x) (S.val (fz y)) := rfl
@[simp] theorem ch2_ok (p q : Int → Int → Bool) (fc : Sq → Out PV) (S : Sq) (i j : Int) : ch2 p q fc S (some (.int i)) (some (.int j)) = if p i j = true then ch3 q j (fc S) else .ok (.v (.bool false)) S := rfl
@[simp] theorem ch3_ok (q : Int → Int → Bool) (j : Int) (z : PV) (S : Sq) : ch3 q j (.ok z S) = ch4 q j S (S.val (fz z)) := rfl
@[simp] theorem ch4_ok (q : Int → Int → Bool) (j l : Int) (S : Sq) : ch4 q j S (some (.int l)) = .ok (.v (.bool (q j l))) S := rfl
def m3 (g : D → D → Option PV) (p : PV) : Out PV → Out PV
  | .ok q S => bin3 g S (S.val p) (S.val (fz q))
  | .ex c S => .ex c S
  | .no => .no
def m1 (T : String) (g : D → D → Option PV) (fb : Sq → Out PV) : Out PV → Out PV
  | .ok p S => if tyOk T (S.val (fz p)) = true then m3 g (fz p) (fb S) else .no
  | .ex c S => .ex c S
  | .no => .no
@[simp] theorem ev_m1 (T : String) (g : D → D → Option PV) (fa fb : Sq → Out PV) (S : Sq) : fM1 T g fa fb S = m1 T g fb (fa S) := by
  unfold fM1 fzF
  cases fa S with
  | no => rfl
  | ex c S1 => rfl
  | ok p S1 =>
    simp only [Out.bind_ok, m1]
    split
    · cases fb S1 with
      | no => rfl
      | ex c S2 => rfl
      | ok q S2 =>
        show _ = bin3 g S2 (S2.val (fz p)) (S2.val (fz q))
        simp only [Out.bind_ok]
        cases S2.val (fz p) with
        | none => rfl
        | some x =>
          cases S2.val (fz q) with
          | none => rfl
          | some y =>
            show _ = bin4 S2 (g x y)
            dsimp only
            cases g x y <;> rfl
    · rfl
@[simp] theorem m1_ok (T : String) (g : D → D → Option PV) (fb : Sq → Out PV) (p : PV) (S : Sq) : m1 T g fb (.ok p S) = if tyOk T (S.val (fz p)) = true then m3 g (fz p) (fb S) else .no := rfl
@[simp] theorem m3_ok (g : D → D → Option PV) (p q : PV) (S : Sq) : m3 g p (.ok q S) = bin3 g S (S.val p) (S.val (fz q)) := rfl
@[simp] theorem tyOk_s (z : Str) : tyOk "str" (some (.str z)) = true := rfl
@[simp] theorem tyOk_l (z : List D) : tyOk "list" (some (.list z)) = true := rfl
/-- one turn of a for -/
def turn (t : Tg) (g : Sq → Fl) (d : D) (S : Sq) : Fl := match t.put S d with
  | some S1 => g S1
  | none => .no
def turn1 (g : Sq → Fl) : Option Sq → Fl
  | some S1 => g S1
  | none => .no
@[simp] theorem ev_turn (t : Tg) (g : Sq → Fl) (d : D) (S : Sq) : turn t g d S = turn1 g (t.put S d) := by
  unfold turn turn1
  cases t.put S d <;> rfl
@[simp] theorem turn1_ok (g : Sq → Fl) (S : Sq) : turn1 g (some S) = g S := rfl
theorem for_of {t : Tg} {g : Sq → Fl} {ds : List D} {S : Sq} {L : Fl} (hL : forF t g ds S = L) (P : Nat → Sq → Prop) (h0 : P 0 S)
    (step : ∀ (i : Nat) (d : D) (S : Sq), ds[i]? = some d → P i S → ∃ S2, turn t g d S = .nx S2 ∧ P (i + 1) S2) : ∃ S', L = .nx S' ∧ P ds.length S' := by
  obtain ⟨S', e, h⟩ := forF_inv (t := t) (g := g) (P := P) (ds := ds) (S := S) 0 h0 fun i d S hd hp => by
    obtain ⟨S2, e, h⟩ := step i d S hd (by rw [Nat.zero_add] at hp; exact hp)
    unfold turn at e
    cases q : t.put S d with
    | none => rw [q] at e; cases e
    | some S1 =>
      rw [q] at e
      exact ⟨S1, rfl, S2, .inl e, by rw [Nat.zero_add]; exact h⟩
  rw [Nat.zero_add] at h
  exact ⟨S', by rw [← hL, e], h⟩
/-- a loop that may end early -/
theorem for_or {t : Tg} {g : Sq → Fl} {Z : Fl → Prop} : ∀ {ds : List D} {S : Sq} {L : Fl} (hL : forF t g ds S = L) (P : Nat → Sq → Prop) (h0 : P 0 S)
    (step : ∀ (i : Nat) (d : D) (S : Sq), ds[i]? = some d → P i S → (∃ S2, turn t g d S = .nx S2 ∧ P (i + 1) S2) ∨ (∃ r S2, turn t g d S = .rt r S2 ∧ Z (.rt r S2)) ∨ ∃ S2, turn t g d S = .bk S2 ∧ Z (.nx S2))
    (fin : ∀ S, P ds.length S → Z (.nx S)), Z L
  | [], S, L, hL, P, h0, _, fin => by
    rw [← hL]
    exact fin S h0
  | d :: ds, S, L, hL, P, h0, step, fin => by
    have q := step 0 d S rfl h0
    unfold forF at hL
    unfold turn at q
    cases c : t.put S d with
    | none =>
      rw [c] at q
      rcases q with ⟨S2, e, _⟩ | ⟨r, S2, e, _⟩ | ⟨S2, e, _⟩ <;> cases e
    | some S1 =>
      rw [c] at q hL
      dsimp only at q hL
      rcases q with ⟨S2, e, h⟩ | ⟨r, S2, e, h⟩ | ⟨S2, e, h⟩
      · rw [e] at hL
        exact for_or hL (fun i => P (i + 1)) h (fun i x S hx hp => step (i + 1) x S hx hp) fin
      · rw [e] at hL
        rw [← hL]; exact h
      · rw [e] at hL
        rw [← hL]; exact h
theorem wh_of {tt : Sq → Out Bool} {g : Sq → Fl} {Z : Fl → Prop} : ∀ {n : Nat} {S : Sq} {L : Fl} (hL : whF tt g n S = L) (P : Nat → Sq → Prop) (h0 : P 0 S) (hn : ∀ S, ¬ P n S)
    (step : ∀ (i : Nat) (S : Sq), i < n → P i S → (∃ S1 S2, tt S = .ok true S1 ∧ g S1 = .nx S2 ∧ P (i + 1) S2) ∨ (∃ S1, tt S = .ok false S1 ∧ Z (.nx S1)) ∨ ∃ S1 r S2, tt S = .ok true S1 ∧ g S1 = .rt r S2 ∧ Z (.rt r S2)), Z L
  | 0, S, L, hL, P, h0, hn, _ => absurd h0 (hn S)
  | n + 1, S, L, hL, P, h0, hn, step => by
    unfold whF at hL
    rcases step 0 S (Nat.succ_pos _) h0 with ⟨S1, S2, e1, e2, h⟩ | ⟨S1, e1, h⟩ | ⟨S1, r, S2, e1, e2, h⟩
    · rw [e1] at hL
      simp only [Out.fl_ok, if_true] at hL
      rw [e2] at hL
      exact wh_of hL (fun i => P (i + 1)) h (fun S => hn S) (fun i S hi hp => step (i + 1) S (by omega) hp)
    · rw [e1] at hL
      simp only [Out.fl_ok] at hL
      rw [← hL]
      exact h
    · rw [e1] at hL
      simp only [Out.fl_ok, if_true] at hL
      rw [e2] at hL
      rw [← hL]
      exact h
/-! comprehensions that leave the state -/
def lct3 (S : Sq) : Option (D × Sq) → Out (Option D)
  | some (y, S4) => .ok (some y) S4
  | none => .no
def lct2 : Out PV → Out (Option D)
  | .ok p S => lct3 S (S.keep (fz p))
  | _ => .no
def lct1 (te : Sq → Out PV) : Out Bool → Out (Option D)
  | .ok b S => if b = true then lct2 (te S) else .ok none S
  | _ => .no
def lct0 (tt : Sq → Out Bool) (te : Sq → Out PV) : Option Sq → Out (Option D)
  | some S => lct1 te (tt S)
  | none => .no
@[simp] theorem lct3_ok (S S4 : Sq) (y : D) : lct3 S (some (y, S4)) = .ok (some y) S4 := rfl
@[simp] theorem lct2_ok (p : PV) (S : Sq) : lct2 (.ok p S) = lct3 S (S.keep (fz p)) := rfl
@[simp] theorem lct1_ok (te : Sq → Out PV) (b : Bool) (S : Sq) : lct1 te (.ok b S) = if b = true then lct2 (te S) else .ok none S := rfl
@[simp] theorem lct0_ok (tt : Sq → Out Bool) (te : Sq → Out PV) (S : Sq) : lct0 tt te (some S) = lct1 te (tt S) := rfl
/-- one turn, from any state whose names of its own are wiped -/
theorem lc_turn {t : Tg} {tt : Sq → Out Bool} {te : Sq → Out PV} {vs : List Nat} {d : D} {ds : List D} {S S' : Sq} {acc : List D} {o : Option D} (h : lct0 tt te (t.put { S with r := wipeR S.r vs } d) = .ok o S') (hn : acc.length < sizeLine) :
    lcF t tt te vs (d :: ds) S acc = lcF t tt te vs ds S' (acc ++ o.toList) := by
  conv => lhs; unfold lcF
  cases c : t.put { S with r := wipeR S.r vs } d with
  | none => rw [c] at h; cases h
  | some S1 =>
    rw [c] at h
    dsimp only
    rw [lct0_ok] at h
    cases e : tt S1 with
    | no => rw [e] at h; cases h
    | ex x S2 => rw [e] at h; cases h
    | ok b S2 =>
      rw [e] at h
      simp only [Out.quiet, Out.bind_ok]
      cases b with
      | false =>
        cases h
        simp
      | true =>
        simp only [lct1_ok, if_true] at h ⊢
        unfold fzF
        cases e2 : te S2 with
        | no => rw [e2] at h; cases h
        | ex x S3 => rw [e2] at h; cases h
        | ok p S3 =>
          rw [e2] at h
          simp only [Out.quiet, Out.bind_ok]
          rw [lct2_ok] at h
          cases e3 : S3.keep (fz p) with
          | none => rw [e3] at h; cases h
          | some q =>
            obtain ⟨y, S4⟩ := q
            rw [e3] at h
            cases h
            dsimp only
            rw [if_pos hn]
            rfl
theorem lcF_pure {t : Tg} {tt : Sq → Out Bool} {te : Sq → Out PV} {vs : List Nat} {S0 : Sq} (f : D → Option D) : ∀ {ds : List D} {S : Sq} {acc : List D}, acc.length + ds.length ≤ sizeLine →
    wipeR S.r vs = wipeR S0.r vs → S.p = S0.p → (∀ d ∈ ds, ∃ S', lct0 tt te (t.put { S0 with r := wipeR S0.r vs } d) = .ok (f d) S' ∧ wipeR S'.r vs = wipeR S0.r vs ∧ S'.p = S0.p) →
    ∃ S', lcF t tt te vs ds S acc = .ok (acc ++ ds.filterMap f) S' ∧ wipeR S'.r vs = wipeR S0.r vs ∧ S'.p = S0.p
  | [], S, acc, _, h1, h2, _ => ⟨S, by simp [lcF], h1, h2⟩
  | d :: ds, S, acc, hn, h1, h2, h => by
    obtain ⟨S1, e1, w1, p1⟩ := h d List.mem_cons_self
    have e2 : lct0 tt te (t.put { S with r := wipeR S.r vs } d) = .ok (f d) S1 := by
      have : ({ S with r := wipeR S.r vs } : Sq) = { S0 with r := wipeR S0.r vs } := by rw [h1, h2]
      rw [this, e1]
    rw [List.length_cons] at hn
    rw [lc_turn e2 (by omega)]
    obtain ⟨S2, e3, w2, p2⟩ := lcF_pure f (ds := ds) (S := S1) (acc := acc ++ (f d).toList) (by
      rw [List.length_append]
      have : (f d).toList.length ≤ 1 := by cases f d <;> simp
      omega) w1 p1 fun x hx => h x (List.mem_cons_of_mem _ hx)
    refine ⟨S2, ?_, w2, p2⟩
    rw [e3]
    cases q : f d <;> simp [q]
theorem wipeR_len (r : List R) (vs : List Nat) : (wipeR r vs).length = r.length := by
  letI : TabSet := ⟨[]⟩
  exact wipeR_length r vs
theorem wipeR_idem (r : List R) : ∀ vs : List Nat, ∀ x, x ∈ vs → x < r.length → (wipeR r vs)[x]? = some .un
  | v :: vs, x, h, hx => by
    unfold wipeR
    by_cases e : v = x
    · subst e
      rw [List.getElem?_set_self (by rw [wipeR_len]; exact hx)]
    · rw [List.getElem?_set_ne e]
      exact wipeR_idem r vs x (by
        rcases List.mem_cons.mp h with q | q
        · exact absurd q.symm e
        · exact q) hx
  | [], x, h, _ => by cases h
theorem wipeR_ne (r : List R) : ∀ vs : List Nat, ∀ x, x ∉ vs → (wipeR r vs)[x]? = r[x]?
  | [], x, _ => rfl
  | v :: vs, x, h => by
    unfold wipeR
    rw [List.getElem?_set_ne (by rintro rfl; exact h List.mem_cons_self)]
    exact wipeR_ne r vs x fun m => h (List.mem_cons_of_mem _ m)
theorem backR_ln (r0 r : List R) : ∀ vs : List Nat, (backR r0 r vs).length = r.length
  | [] => rfl
  | v :: vs => by unfold backR; rw [List.length_set, backR_ln r0 r vs]
theorem backR_at (r0 r : List R) (hl : r.length = r0.length) : ∀ vs : List Nat, ∀ x, (backR r0 r vs)[x]? = if x ∈ vs then r0[x]? else r[x]?
  | [], x => by simp [backR]
  | v :: vs, x => by
    unfold backR
    by_cases e : v = x
    · subst e
      simp only [List.mem_cons, true_or, if_true]
      by_cases hv : v < r0.length
      · rw [List.getElem?_set_self (by rw [backR_ln, hl]; exact hv), List.getElem?_eq_getElem hv]
      · rw [List.getElem?_eq_none (by rw [List.length_set, backR_ln, hl]; omega), List.getElem?_eq_none (by omega)]
    · rw [List.getElem?_set_ne e, backR_at r0 r hl vs x]
      have : (x ∈ v :: vs) ↔ x ∈ vs := by
        rw [List.mem_cons]
        exact ⟨fun h => h.resolve_left fun q => e q.symm, .inr⟩
      simp only [this]
theorem back_eq {r0 r : List R} {vs : List Nat} (h : wipeR r vs = wipeR r0 vs) : backR r0 r vs = r0 := by
  have hl : r.length = r0.length := by rw [← wipeR_len r vs, h, wipeR_len]
  apply List.ext_getElem?
  intro x
  rw [backR_at r0 r hl]
  split
  · rfl
  · rename_i m
    rw [← wipeR_ne r vs x m, h, wipeR_ne r0 vs x m]
/-- a comprehension whose turns leave the state as it is -/
theorem lc_pure {t : Tg} {tt : Sq → Out Bool} {te : Sq → Out PV} {vs : List Nat} {ds : List D} {S : Sq} (f : D → Option D) (fit : plainAt S vs = true) (hn : ds.length ≤ sizeLine)
    (h : ∀ d ∈ ds, ∃ S', lct0 tt te (t.put { S with r := wipeR S.r vs } d) = .ok (f d) S' ∧ wipeR S'.r vs = wipeR S.r vs ∧ S'.p = S.p) :
    lc1 t tt te vs (.ok ds S) = .ok (.o (.l (ds.filterMap f))) S := by
  have ww : ∀ (r : List R) (vs : List Nat), wipeR (wipeR r vs) vs = wipeR r vs := fun r vs => by
    apply List.ext_getElem?
    intro x
    by_cases m : x ∈ vs
    · by_cases hx : x < r.length
      · rw [wipeR_idem _ vs x m (by rw [wipeR_len]; exact hx), wipeR_idem _ vs x m hx]
      · rw [List.getElem?_eq_none (by rw [wipeR_len, wipeR_len]; omega), List.getElem?_eq_none (by rw [wipeR_len]; omega)]
    · rw [wipeR_ne _ vs x m]
  obtain ⟨S', e, w, hp⟩ := lcF_pure (t := t) (tt := tt) (te := te) (vs := vs) (S0 := S) f (ds := ds) (S := { S with r := wipeR S.r vs }) (acc := []) (by simpa using hn) (ww _ _) rfl h
  rw [lc1_ok, if_pos fit, e, lc3_ok, back_eq w]
  simp only [List.nil_append]
  congr 1
  cases S; cases S'
  simp only at hp
  rw [hp]
/-- the same without a test -/
theorem lc_all {t : Tg} {te : Sq → Out PV} {vs : List Nat} {ds : List D} {S : Sq} (f : D → D) (fit : plainAt S vs = true) (hn : ds.length ≤ sizeLine)
    (h : ∀ d ∈ ds, ∃ S', lct0 yesF te (t.put { S with r := wipeR S.r vs } d) = .ok (some (f d)) S' ∧ wipeR S'.r vs = wipeR S.r vs ∧ S'.p = S.p) :
    lc1 t yesF te vs (.ok ds S) = .ok (.o (.l (ds.map f))) S := by
  rw [lc_pure (fun d => some (f d)) fit hn h]
  have : ∀ l : List D, l.filterMap (fun d => some (f d)) = l.map f := fun l => by
    induction l with
    | nil => rfl
    | cons a t ih => simp
  rw [this]
/-- a comprehension told turn by turn -/
theorem lc_of {t : Tg} {te : Sq → Out PV} {vs : List Nat} {ds : List D} {S : Sq} {L : Out PV} (hL : lc1 t yesF te vs (.ok ds S) = L) (fit : plainAt S vs = true) (hn : ds.length ≤ sizeLine) (P : Nat → Option Pen → List D → Prop) (h0 : P 0 S.p [])
    (step : ∀ (i : Nat) (d : D) (p : Option Pen) (acc : List D), ds[i]? = some d → P i p acc → ∃ y S', lct0 yesF te (t.put ⟨wipeR S.r vs, p⟩ d) = .ok (some y) S' ∧ wipeR S'.r vs = wipeR S.r vs ∧ P (i + 1) S'.p (acc ++ [y])) :
    ∃ out p', L = .ok (.o (.l out)) ⟨S.r, p'⟩ ∧ P ds.length p' out := by
  have ww : ∀ (r : List R) (vs : List Nat), wipeR (wipeR r vs) vs = wipeR r vs := fun r vs => by
    apply List.ext_getElem?
    intro x
    by_cases m : x ∈ vs
    · by_cases hx : x < r.length
      · rw [wipeR_idem _ vs x m (by rw [wipeR_len]; exact hx), wipeR_idem _ vs x m hx]
      · rw [List.getElem?_eq_none (by rw [wipeR_len, wipeR_len]; omega), List.getElem?_eq_none (by rw [wipeR_len]; omega)]
    · rw [wipeR_ne _ vs x m]
  have key : ∀ (ds : List D) (k : Nat) (S1 : Sq) (acc : List D), acc.length + ds.length ≤ sizeLine → wipeR S1.r vs = wipeR S.r vs → P k S1.p acc →
      (∀ (i : Nat) (d : D) (p : Option Pen) (acc : List D), ds[i]? = some d → P (k + i) p acc → ∃ y S', lct0 yesF te (t.put ⟨wipeR S.r vs, p⟩ d) = .ok (some y) S' ∧ wipeR S'.r vs = wipeR S.r vs ∧ P (k + i + 1) S'.p (acc ++ [y])) →
      ∃ out S', lcF t yesF te vs ds S1 acc = .ok out S' ∧ wipeR S'.r vs = wipeR S.r vs ∧ P (k + ds.length) S'.p out := fun ds => by
    induction ds with
    | nil => exact fun k S1 acc _ w h _ => ⟨acc, S1, rfl, w, h⟩
    | cons d ds ih =>
      intro k S1 acc hl w h st
      obtain ⟨y, S2, e, w2, h2⟩ := st 0 d S1.p acc rfl h
      rw [List.length_cons] at hl
      have e2 : lct0 yesF te (t.put { S1 with r := wipeR S1.r vs } d) = .ok (some y) S2 := by rw [w]; exact e
      rw [lc_turn e2 (by omega)]
      obtain ⟨out, S3, e3, w3, h3⟩ := ih (k + 1) S2 (acc ++ [y]) (by simp; omega) w2 h2 fun i x p acc hx hp => by
        have q := st (i + 1) x p acc hx (by rw [show k + (i + 1) = k + 1 + i by omega]; exact hp)
        rw [show k + (i + 1) + 1 = k + 1 + i + 1 by omega] at q
        exact q
      refine ⟨out, S3, e3, w3, ?_⟩
      rw [List.length_cons, show k + (ds.length + 1) = k + 1 + ds.length by omega]
      exact h3
  obtain ⟨out, S', e, w, h⟩ := key ds 0 { S with r := wipeR S.r vs } [] (by simpa using hn) (ww _ _) h0 fun i d p acc hd hp => by
    rw [Nat.zero_add] at hp ⊢
    exact step i d p acc hd hp
  rw [Nat.zero_add] at h
  refine ⟨out, S'.p, ?_, h⟩
  rw [← hL, lc1_ok, if_pos fit, e, lc3_ok, back_eq w]
end Q3
/-! Q3x: data whose shown text is short: repr of it. -/
namespace Q3
open PySem PySem.Spec PyProof.Rows L2
/-- shown data: no dict, depth, weight bounded, short ints -/
structure Rp (k w : Nat) (d : D) : Prop where
  sh : d.showable = true
  nd : d.hasDict = false
  dp : d.depth ≤ k
  lv : d.leavesShort 13 = true
  wt : d.weight ≤ w
theorem Rp.mono {k k2 w w2 : Nat} {d : D} (h : Rp k w d) (a : k ≤ k2) (b : w ≤ w2) : Rp k2 w2 d := ⟨h.sh, h.nd, Nat.le_trans h.dp a, h.lv, Nat.le_trans h.wt b⟩
theorem Rp.none : Rp 0 0 .none := ⟨rfl, rfl, Nat.le_refl _, rfl, Nat.le_refl _⟩
theorem Rp.bool (b : Bool) : Rp 0 0 (.bool b) := ⟨rfl, rfl, Nat.le_refl _, rfl, Nat.le_refl _⟩
theorem Rp.int {i : Int} (h : i.natAbs < 10 ^ 12) : Rp 0 40 (.int i) := by
  have hl : i = 0 ∨ i.natAbs.log2 < 40 := by
    by_cases z : i = 0
    · exact .inl z
    · refine .inr ?_
      rw [Nat.log2_lt (by omega)]
      exact Nat.lt_of_lt_of_le h (by decide)
  refine ⟨?_, rfl, Nat.le_refl _, ?_, ?_⟩
  · rw [PyData.showable]
    rcases hl with rfl | hl
    · decide
    · exact decide_eq_true (by omega)
  · rw [PyData.leavesShort]
    exact decide_eq_true (PyData.shown_int_le h)
  · rw [PyData.weight]
    rcases hl with rfl | hl
    · decide
    · split <;> omega
theorem Rp.nat {n : Nat} (h : n < 10 ^ 12) : Rp 0 40 (.int (n : Nat)) := Rp.int (by simpa using h)
theorem Rp.str {z : Str} (h : ∀ c ∈ z.cps.toList, c < 16 ^ 8) : Rp 0 z.cps.size (.str z) := by
  refine ⟨rfl, rfl, Nat.le_refl _, ?_, Nat.le_refl _⟩
  rw [PyData.leavesShort]
  exact List.all_eq_true.mpr fun c m => decide_eq_true (h c m)
structure RpAll (k w : Nat) (xs : List D) : Prop where
  sh : PyData.showableAll xs = true
  nd : PyData.hasDictAll xs = false
  dp : PyData.depthAll xs ≤ k
  lv : PyData.leavesShortAll 13 xs = true
  wt : PyData.weightAll xs ≤ w
theorem RpAll.nil : RpAll 0 0 [] := ⟨rfl, rfl, Nat.le_refl _, rfl, Nat.le_refl _⟩
theorem RpAll.cons {k w v : Nat} {x : D} {xs : List D} (h : Rp k w x) (t : RpAll k v xs) : RpAll k (w + 1 + v) (x :: xs) := by
  have h1 := h.dp
  have h2 := t.dp
  have h3 := h.wt
  have h4 := t.wt
  refine ⟨?_, ?_, ?_, ?_, ?_⟩
  · rw [PyData.showableAll, h.sh, t.sh]; rfl
  · rw [PyData.hasDictAll, h.nd, t.nd]; rfl
  · rw [PyData.depthAll]; omega
  · rw [PyData.leavesShortAll, h.lv, t.lv]; rfl
  · rw [PyData.weightAll]; omega
theorem RpAll.of {k w : Nat} : ∀ {xs : List D}, (∀ x ∈ xs, Rp k w x) → RpAll k ((w + 1) * xs.length) xs
  | [], _ => ⟨rfl, rfl, Nat.zero_le _, rfl, Nat.zero_le _⟩
  | x :: xs, h => by
    have t := RpAll.cons (h x List.mem_cons_self) (RpAll.of fun y m => h y (List.mem_cons_of_mem _ m))
    refine ⟨t.sh, t.nd, t.dp, t.lv, ?_⟩
    have := t.wt
    rw [List.length_cons, Nat.mul_add, Nat.mul_one]
    omega
theorem RpAll.mono {k k2 w w2 : Nat} {d : List D} (h : RpAll k w d) (a : k ≤ k2) (b : w ≤ w2) : RpAll k2 w2 d := ⟨h.sh, h.nd, Nat.le_trans h.dp a, h.lv, Nat.le_trans h.wt b⟩
theorem RpAll.tuple {k w : Nat} {xs : List D} (h : RpAll k w xs) : Rp (k + 1) w (.tuple xs) := ⟨by rw [PyData.showable]; exact h.sh, by rw [PyData.hasDict]; exact h.nd, by rw [PyData.depth]; exact Nat.succ_le_succ h.dp, by rw [PyData.leavesShort]; exact h.lv, by rw [PyData.weight]; exact h.wt⟩
theorem RpAll.list {k w : Nat} {xs : List D} (h : RpAll k w xs) : Rp (k + 1) w (.list xs) := ⟨by rw [PyData.showable]; exact h.sh, by rw [PyData.hasDict]; exact h.nd, by rw [PyData.depth]; exact Nat.succ_le_succ h.dp, by rw [PyData.leavesShort]; exact h.lv, by rw [PyData.weight]; exact h.wt⟩
theorem Rp.repr {k w : Nat} {d : D} (h : Rp k w d) (hk : k ≤ 64) (hw : w ≤ 2 ^ 20) : gRepr d = some (.v (.str d.shown)) := by
  have h3 := h.dp
  unfold gRepr
  rw [if_pos ⟨h.sh, h.nd, by omega, PyData.shown_fits (by decide) (by decide) h.lv (Nat.le_trans h.wt hw)⟩]
@[simp] theorem eq_s (a b : Str) : gEq (.str a) (.str b) = some (.v (.bool (decide (a = b)))) := rfl
@[simp] theorem ne_s (a b : Str) : gNe (.str a) (.str b) = some (.v (.bool (!decide (a = b)))) := rfl
theorem ne_self {d : D} (h : SeqAt.shaped d = true) : gNe d d = some (.v (.bool false)) := by
  have e := SeqAt.eqv_refl _ (SeqAt.canLay_of_shaped h)
  cases d <;> first | (simp; done) | (unfold gNe; dsimp only; rw [h, e]; rfl)
theorem eq_self {d : D} (h : SeqAt.shaped d = true) : gEq d d = some (.v (.bool true)) := by
  have e := SeqAt.eqv_refl _ (SeqAt.canLay_of_shaped h)
  cases d <;> first | (simp; done) | (unfold gEq; dsimp only; rw [h, e]; rfl)
end Q3
/-! Q4a: what is not followed; least and greatest; isinstance with several types; an empty dict. -/
namespace Q3
open PySem PySem.Spec PyProof.Rows L2
variable [TabSet]
section
variable {X : Cx} {W : WX} {a b c e : Expr} {fa fb fc : Sq → Out PV} {pos : Pos} {N : List Str} {sc : Scope} {k : Nat} {G : Gb}
/-- an expression that is not followed -/
def fNo : Sq → Out PV := fun _ => .no
theorem de_no : DE X W e fNo := ⟨fun pins s σ H Q I z => by
  obtain ⟨F0, H0, pa, F, S, A, z⟩ := z
  exact z.elim⟩
/-! ### least and greatest of a list of ints -/
def leastI : List Int → Int
  | [] => 0
  | [i] => i
  | i :: r => min i (leastI r)
def mostI : List Int → Int
  | [] => 0
  | [i] => i
  | i :: r => max i (mostI r)
theorem leastI_mem : ∀ {ns : List Int}, ns ≠ [] → leastI ns ∈ ns
  | [i], _ => List.mem_singleton.mpr rfl
  | i :: j :: r, _ => by
    have h := leastI_mem (ns := j :: r) (by simp)
    show min i (leastI (j :: r)) ∈ _
    by_cases q : i ≤ leastI (j :: r)
    · rw [Int.min_eq_left q]; exact List.mem_cons_self
    · rw [Int.min_eq_right (by omega)]; exact List.mem_cons_of_mem _ h
theorem leastI_le : ∀ {ns : List Int} {j : Int}, j ∈ ns → leastI ns ≤ j
  | [i], j, h => by rw [List.mem_singleton.mp h]; exact Int.le_refl _
  | i :: i2 :: r, j, h => by
    show min i (leastI (i2 :: r)) ≤ j
    rcases List.mem_cons.mp h with rfl | h
    · exact Int.min_le_left _ _
    · exact Int.le_trans (Int.min_le_right _ _) (leastI_le h)
theorem mostI_mem : ∀ {ns : List Int}, ns ≠ [] → mostI ns ∈ ns
  | [i], _ => List.mem_singleton.mpr rfl
  | i :: j :: r, _ => by
    have h := mostI_mem (ns := j :: r) (by simp)
    show max i (mostI (j :: r)) ∈ _
    by_cases q : i ≤ mostI (j :: r)
    · rw [Int.max_eq_right q]; exact List.mem_cons_of_mem _ h
    · rw [Int.max_eq_left (by omega)]; exact List.mem_cons_self
theorem le_mostI : ∀ {ns : List Int} {j : Int}, j ∈ ns → j ≤ mostI ns
  | [i], j, h => by rw [List.mem_singleton.mp h]; exact Int.le_refl _
  | i :: i2 :: r, j, h => by
    show j ≤ max i (mostI (i2 :: r))
    rcases List.mem_cons.mp h with rfl | h
    · exact Int.le_max_left _ _
    · exact Int.le_trans (le_mostI h) (Int.le_max_right _ _)
def gLeast : D → Option PV
  | .list xs => (intsOf xs).bind fun ns => if ns = [] then none else some (.v (.int (leastI ns)))
  | _ => none
def gMost : D → Option PV
  | .list xs => (intsOf xs).bind fun ns => if ns = [] then none else some (.v (.int (mostI ns)))
  | _ => none
theorem does_least {K : PySem.W.Frag} : Does1 K (rMin K) gLeast := by
  intro F H x d z Q sub hx hg h
  cases d <;> simp only [gLeast] at hg <;> try (cases hg; done)
  obtain ⟨ns, e1, e2⟩ := Option.bind_eq_some_iff.mp hg
  split at e2
  · cases e2
  · rename_i hne
    cases e2
    obtain ⟨l, vs, rfl, h1, h2⟩ := hx.list sub
    rw [intsOf_eq e1] at h2
    refine ⟨l, ns, rfl, SqL.of (by rw [h1, h2.ints]), List.length_pos_iff.mpr hne, fun m hm hle => ?_⟩
    have : m = leastI ns := Int.le_antisymm (hle _ (leastI_mem hne)) (leastI_le hm)
    rw [this]
    exact h _ _ (Gv.int _)
theorem does_most {K : PySem.W.Frag} : Does1 K (rMax K) gMost := by
  intro F H x d z Q sub hx hg h
  cases d <;> simp only [gMost] at hg <;> try (cases hg; done)
  obtain ⟨ns, e1, e2⟩ := Option.bind_eq_some_iff.mp hg
  split at e2
  · cases e2
  · rename_i hne
    cases e2
    obtain ⟨l, vs, rfl, h1, h2⟩ := hx.list sub
    rw [intsOf_eq e1] at h2
    refine ⟨l, ns, rfl, SqL.of (by rw [h1, h2.ints]), List.length_pos_iff.mpr hne, fun m hm hle => ?_⟩
    have : m = mostI ns := Int.le_antisymm (le_mostI hm) (hle _ (mostI_mem hne))
    rw [this]
    exact h _ _ (Gv.int _)
/-! ### {} -/
def fDct0 : Sq → Out PV := fun S => .ok (.o (.m [])) S
theorem DctA.nil {K : PySem.W.Frag} {F : Hp} {p : Addr} : DctA K F p (dctE [] 0 p) [] := .inr ⟨[], 0, rfl, rfl, ⟨List.nodup_nil, .inl fun _ m => nomatch m⟩, .nil, .nil⟩
theorem dctE_empty {P : Program} {w : World} {H : Hp} (h : Heap) (hb : sysModules < h.objs.size) : ObjOk P w H (h.push { cls := .type "dict", data := .dict #[] }) h.objs.size (dctE [] 0 h.objs.size) := by
  refine ⟨⟨beq_eq_false_iff_ne.mpr (Ne.symm (Nat.ne_of_lt hb)), Nat.zero_le _, _, #[], 0, Heap.get?_push_size _ rfl, ⟨rfl, rfl, rfl⟩, rfl, .nil, rfl⟩, ⟨_, Heap.get?_push_size _ rfl⟩, fun h1 h2 p q => ?_⟩
  obtain ⟨x1, x2, o, ents, ep, e, r⟩ := p
  exact ⟨x1, x2, o, ents, ep, q o e, r⟩
def tDNewE : TE := fun _ H Q => ∀ p, H p = none → Q (.ref p) (upd H p (dctE [] 0 p))
theorem pe_dnewE {X : Cx} {pos : Pos} : PE X (.Dict [] [] pos) tDNewE := ⟨fun pins s σ H Q I h =>
  wpAny_Dict_empty ⟨.ref s.heap.objs.size, _, I.laid (a := s.heap.objs.size) (o := dctE [] 0 s.heap.objs.size) (t' := s.toks) (fun _ _ q => Heap.get?_push_of_some _ q) (Nat.le_refl _) (dctE_empty s.heap I.big), rfl, h _ (I.hok.fresh (Nat.le_refl _))⟩⟩
theorem de_dnew0 : DE X W (.Dict [] [] pos) fDct0 := by
  refine PE.weak pe_dnewE fun σ H Q z => ?_
  obtain ⟨F0, H0, pa, F, S, A, z⟩ := z
  intro p hp
  obtain ⟨B, o⟩ := A.newM hp DctA.nil
  exact z _ _ _ (Ex.refl F) B o
/-- isinstance of a dict by its entries, several types -/
def rIsiTE (K : PySem.W.Frag) : List V → Hp → VK → Prop := fun xs H Q => ∃ (a : Addr) (es : List (D × V × V)) (ep : Nat) (tp : Addr) (cs : List V) (us : List Value) (b : Bool), xs = [.ref a, .ref tp] ∧ H a = some (dctE es ep a) ∧ H tp = some (.tup cs) ∧ Paired ClsV cs us ∧ PySem.W.kitAny K (.type "dict") us = some b ∧ Q (.bl b) H
theorem call_isiTE {X : Cx} : CallR X (.builtin "isinstance") (fun xs H Q => rIsiT X.K xs H Q ∨ rIsiTE X.K xs H Q) := by
  intro pins s σ H xs us Q I r h
  rcases h with h | ⟨a, es, ep, tp, cs, ws, b, rfl, h1, hT, k, e, q⟩
  · exact call_isiT pins s σ H xs us Q I r h
  · obtain ⟨u1, u2, rfl, r1, r2⟩ := vals2 r
    cases (show u2 = Value.ref tp from r2)
    obtain ⟨P, Z, p, hx⟩ := kit_ofE I r1 h1
    obtain ⟨_, its, rv, o, h1, h2, n, h3⟩ := (show ObjOk X.prog X.w H s.heap tp (.tup cs) from I.hok tp _ hT)
    have e3 := ClsV.all k rv
    subst e3
    obtain ⟨oc, od, dt, sl⟩ := o
    simp only at h2 h3
    subst h2 h3
    exact PySem.W.kia_tup Z I.kIn p h1 e hx fun tk => ⟨.bl b, H, I.tok tk, rfl, q⟩
/-! ### isinstance(e, (T, ..)) -/
def tAll (vs : List V) : TA := fun _ H Q => Q vs H
inductive TyNames (X : Cx) : List Expr → List Ty → Prop
  | nil : TyNames X [] []
  | cons {e : Expr} {es : List Expr} {t : Ty} {ts : List Ty} : PE X e (tC (.ty t.nm)) → starEach (e :: es) X.env = (false, eval e X.env) :: starEach es X.env → TyNames X es ts → TyNames X (e :: es) (t :: ts)
theorem tn_cons (t : Ty) {p : Pos} {x : Str} {es : List Expr} {ts : List Ty} (C : Cq G k N sc X) (hx : sc.names.lookup x = some .globalImplicit) (mx : G.mg x = none) (r : TyNames X es ts) (hy : x = Str.ofString t.nm := by rfl)
    (hs : starEach (.Name x p :: es) X.env = (false, eval (.Name x p) X.env) :: starEach es X.env := by rfl) : TyNames X (.Name x p :: es) (t :: ts) := by
  subst hy
  refine .cons ?_ hs r
  cases t <;> exact pe_tyN (glC C hx) (mgC C mx) (by decide +kernel) (by decide) (by decide)
theorem TyNames.pa {es : List Expr} {ts : List Ty} (h : TyNames X es ts) : PA X es (tAll (ts.map fun t => .ty t.nm)) := by
  induction h with
  | nil => exact pa_nil
  | cons h1 h2 _ ih => exact PA.weak (pa_cons h1 ih h2) fun _ _ _ z => z
def gIsiT (ts : List Ty) (d : D) : Option PV := if noM d = true then some (.v (.bool (ts.any fun t => isTy t d))) else none
theorem kit_tys {K : PySem.W.Frag} (d : D) : ∀ ts : List Ty, PySem.W.kitAny K (.type (tyName d)) (ts.map fun t => .type t.nm) = some (ts.any fun t => isTy t d)
  | [] => kitAny_nil
  | t :: ts => by
    rw [List.map_cons, List.any_cons]
    refine kitAny_cons (b := isTy t d) (kit_ty (kitTy t d)) (fun q => ?_) fun q => by rw [q]; rfl
    rw [q, Bool.false_or]
    exact kit_tys d ts
theorem tys_len (ts : List Ty) (h : ts.length ≤ 16) : (ts.map fun t => V.ty t.nm).length ≤ sizeLine := by
  rw [List.length_map, sizeLine_eq]; omega
theorem cls_all : ∀ ts : List Ty, Paired ClsV (ts.map fun t => V.ty t.nm) (ts.map fun t => Value.type t.nm)
  | [] => .nil
  | t :: ts => .cons (.ty _) (cls_all ts)
theorem de_isiT (ts : List Ty) {p tp : Pos} {es : List Expr} {kk} (C : Cq G k N sc X) (hi : sc.names.lookup ("isinstance" : Str) = some .globalImplicit) (mi : G.mg "isinstance" = none) (ha : DE X W a fa) (h : TyNames X es ts) (hts : ts.length ≤ 16 := by decide)
    (hst : starEach [a, .Tuple es kk tp] X.env = (false, eval a X.env) :: starEach [.Tuple es kk tp] X.env := by rfl) (hst2 : starEach [.Tuple es kk tp] X.env = (false, eval (.Tuple es kk tp) X.env) :: starEach [] X.env := by rfl) (hpl : (backTo pos (starEach [.Tuple es kk tp] X.env)).any (·.1) = false := by rfl) :
    DE X W (.Call (.Name "isinstance" p) [a, .Tuple es kk tp] [] pos) (f1 (gIsiT ts) fa) := by
  refine PE.weak (pe_callB call_isiTE (glC C hi) (mgC C mi) (by decide +kernel) (pa_cons (de_fz ha) (pa_cons (pe_tup h.pa) pa_nil hst2) hst) (by decide) (by decide) hst hpl) fun σ H Q z => ?_
  obtain ⟨F0, H0, pa, F, S, A, z⟩ := z
  unfold f1 at z
  rw [OutP.bind] at z
  refine ⟨F0, H0, pa, F, S, A, z.imp (fun p S1 z v F1 H1 x1 A1 r1 => ?_) fun _ _ z => z⟩
  split at z
  · rename_i d e1
    split at z
    · rename_i w e2
      unfold gIsiT at e2
      split at e2
      rotate_left
      · cases e2
      rename_i nm
      cases e2
      refine ⟨tys_len ts hts, fun q hq => ?_⟩
      have dv : Dv X.K F1 (upd H1 q (.tup (ts.map fun t => V.ty t.nm))) v d := by
        rcases A1.val r1 e1 with h1 | ⟨a1, vs, xs, rfl, rfl, h1, h2⟩ | ⟨a1, vs, xs, rfl, rfl, h1, h2⟩
        · exact .inl h1
        · exact .inr (.inl ⟨a1, vs, xs, rfl, rfl, Ex.new hq _ _ h1, h2⟩)
        · exact .inr (.inr ⟨a1, vs, xs, rfl, rfl, Ex.new hq _ _ h1, h2⟩)
      rcases Dv.ty (A1.sub.trans (Ex.new hq)) dv nm with ty | ⟨a, es, ep, rfl, hn, h1⟩
      · exact .inl ⟨v, q, _, _, _, _, rfl, upd_same, cls_all ts, ty, kit_tys d ts, z _ F1 _ x1 (A1.more (Ex.new hq)) (.bl _)⟩
      · have kt := kit_tys (K := X.K) d ts
        rw [hn] at kt
        exact .inr ⟨a, es, ep, q, _, _, _, rfl, h1, upd_same, cls_all ts, kt, z _ F1 _ x1 (A1.more (Ex.new hq)) (.bl _)⟩
    · exact z.elim
  · exact z.elim
end
end Q3
/-! Q4b: e[::-1] of lists, tuples, texts; tuple * int. -/
namespace Q3
open PySem PySem.Spec PyProof.Rows L2
variable [TabSet]
section
variable {prog : Program} {w : World} {A : Around} {E : Value → Shared → Prop} {s : Shared}
/-- the last place first -/
theorem rev_pick (xs : Array Value) : ((List.range xs.size).filterMap fun (m : Nat) => xs[(((xs.size : Int) - 1) + (m : Int) * (-1)).toNat]?).toArray = xs.toList.reverse.toArray := by
  have e1 : (List.range xs.size).filterMap (fun (m : Nat) => xs[(((xs.size : Int) - 1) + (m : Int) * (-1)).toNat]?) = ((List.range xs.size).map fun m => xs.size - 1 - m).filterMap (xs[·]?) := by
    rw [List.filterMap_map]
    have key : ∀ (f g : Nat → Option Value) (l : List Nat), (∀ m ∈ l, f m = g m) → l.filterMap f = l.filterMap g := fun f g l => by
      induction l with
      | nil => intro _; rfl
      | cons y l ih =>
        intro h
        rw [List.filterMap_cons, List.filterMap_cons, h y List.mem_cons_self, ih fun m hm => h m (List.mem_cons_of_mem _ hm)]
    refine key _ _ _ fun m hm => ?_
    have := List.mem_range.mp hm
    show _ = xs[xs.size - 1 - m]?
    congr 1
    omega
  rw [e1, PySem.W.krv_range, List.filterMap_reverse, PySem.W.krv_all]
theorem rev_applied {sl : Addr} {vl vu vs : Value} {n : Nat} {Q : Int × Int × Nat → Shared → Prop} (hs : s.heap.IsSliceOf sl vl vu vs) (pl : IsPart vl none) (pu : IsPart vu none) (ps : IsPart vs (some (-1)))
    (h : Q ((n : Int) - 1, -1, n) s) : wpAny (model prog w) A (Builtin.Slice.sliceApplied (.ref sl) (pure (n : Int))) Q E s := by
  obtain ⟨os, g1, g2, g3⟩ := id hs
  unfold Builtin.Slice.sliceApplied Builtin.Slice.sliceFields
  refine wpAny_bind (wpAny_bind (wpAny_field g1 g3 (x := vl) rfl (wpAny_bind (wpAny_field g1 g3 (x := vu) rfl (wpAny_bind (wpAny_field g1 g3 (x := vs) rfl (wpAny_pure ?_)))))))
  refine wpAny_bind (HT.slicePart_ ps ?_)
  show wpAny _ _ (if ((-1 : Int) == 0) = true then _ else _) _ _ s
  rw [if_neg (by decide)]
  refine wpAny_bind (HT.slicePart_ pl (wpAny_bind (HT.slicePart_ pu (wpAny_bind (wpAny_pure ?_)))))
  have e : Builtin.Slice.slicePlaces ((n : Int) - 1) (-1) (-1) = n := by
    unfold Builtin.Slice.slicePlaces
    have h1 : ¬ ((-1 : Int) > 0) := by decide
    rw [if_neg h1, show (-(-1) : Int) = 1 by decide, Int.ediv_one]
    split <;> omega
  show wpAny _ _ (pure ((n : Int) - 1, (-1 : Int), Builtin.Slice.slicePlaces ((n : Int) - 1) (-1) (-1))) _ _ s
  rw [e]
  exact wpAny_pure h
theorem getItem_rev_tup {t sl : Addr} {items : Array Value} {vl vu vs : Value} {Q : Value → Shared → Prop} (ht : IsTup s.heap t items) (hs : s.heap.IsSliceOf sl vl vu vs) (pl : IsPart vl none) (pu : IsPart vu none) (ps : IsPart vs (some (-1)))
    (h : Q (.ref s.heap.objs.size) { s with heap := s.heap.push { cls := .type "tuple", data := .seq items.toList.reverse.toArray } }) (hz : items.size ≤ sizeLine) : wpAny (model prog w) A (getItem (.ref t) (.ref sl)) Q E s := by
  have hsz : sizeOk (.seq items.toList.reverse.toArray) := by
    show items.toList.reverse.toArray.size ≤ sizeLine
    rw [List.size_toArray, List.length_reverse, Array.length_toList]
    exact hz
  obtain ⟨os, g1, g2, g3⟩ := id hs
  have hTs : s.TypeIs (.ref sl) "slice" := ⟨os, g1, g2⟩
  unfold getItem
  try with_reducible refine wpAny_holding ?_
  first | refine wpAny_bind (wpAny_pure ?_) | skip
  refine wpAny_bind (wpAny_sequenceKey ht.typeIs (by decide) ?_)
  refine wpAny_bind (wpAny_callSpecial?_slot (name := Str.ofString "__getitem__") ht.typeIs PyProof.Rows.slot_tuple_getitem
    (wpAny_call_entry PyProof.Rows.slot_tuple_getitem ht.typeIs entry_tuple_getitem ?_ (args_tuple_getitem _ _)))
  show wpAny _ _ (Builtin.Tuple.tupleItemsOf (.ref t) >>= _) _ _ s
  refine wpAny_bind (tupleItemsOf_ ht ?_)
  refine wpAny_bind (wpAny_typeOf hTs ?_)
  rw [if_pos (by decide)]
  refine wpAny_bind (rev_applied hs pl pu ps ?_)
  have hno : ¬ ((((items.size : Int) - 1) == 0 && (-1 : Int) == 1 && items.size == items.size) = true) := by simp
  show wpAny _ _ (if ((((items.size : Int) - 1) == 0 && (-1 : Int) == 1 && items.size == items.size)) = true then _ else _) _ _ s
  rw [if_neg hno, rev_pick]
  first
    | exact wpAny_bind (m := Builtin.Tuple.tupleExact _) (wpAny_newObj_type (wpAny_pure ⟨_, rfl, wpAny_pure h⟩) hsz)
    | exact wpAny_bind (m := Builtin.Tuple.tupleExact _) (wpAny_newObj_type (wpAny_bind (wpAny_pure (wpAny_pure ⟨_, rfl, wpAny_pure h⟩))) hsz)
    | exact wpAny_bind (wpAny_bind (m := Builtin.Tuple.tupleExact _) (wpAny_newObj_type (wpAny_pure ⟨_, rfl, wpAny_pure h⟩) hsz))
end
def revS (z : Str) : Str := ⟨z.cps.toList.reverse.toArray⟩
theorem revS_pick (z : Str) : ((Builtin.Str.strSliceIndices none none (-1) z.length).filterMap (z.cps[·]?)).toArray = z.cps.toList.reverse.toArray := by
  have e : Builtin.Str.strSliceIndices none none (-1) z.length = (List.range z.cps.size).map fun k => z.cps.size - 1 - k := by
    show PySem.sliceRange ((z.length : Int) - 1) (-1) (-1) = _
    exact PySem.W.krv_sliceRange z.cps.size
  rw [e, PySem.W.krv_range, List.filterMap_reverse, PySem.W.krv_all]
section
variable {X : Cx} {W : WX} {a b c e : Expr} {fa fb fc : Sq → Out PV} {pos : Pos} {N : List Str} {sc : Scope} {k : Nat} {G : Gb}
def rRevA (K : PySem.W.Frag) : V → Hp → VK → Prop := fun x H Q => (∃ a xs, x = .ref a ∧ SqL K H a xs ∧ ∀ p, H p = none → Q (.ref p) (upd H p (.lst xs.reverse))) ∨
  (∃ a xs, x = .ref a ∧ SqT K H a xs ∧ ∀ p, H p = none → Q (.ref p) (upd H p (.tup xs.reverse))) ∨ ∃ z : Str, x = .str z ∧ z.length ≤ sizeLine ∧ Q (.str (revS z)) H
def tRevA (K : PySem.W.Frag) (te : TE) : TE := fun σ H Q => te σ H fun x H1 => rRevA K x H1 Q
theorem pe_revA {te : TE} {n : Nat} {p1 p2 p3 : Pos} (he : PE X e te) : PE X (.Subscript e (.Slice none none (some (.UnaryOp .USub (.Constant (.int 1) n p1) p2)) p3) pos) (tRevA X.K te) := by
  refine ⟨fun pins s σ H Q I h => ?_⟩
  refine Subscript_ (thn (he.run pins s σ H _ I h) fun v s1 ⟨x, H1, I1, r1, q1⟩ => ?_)
  have hst : PO X (some (.UnaryOp .USub (.Constant (.int 1) n p1) p2)) (tPart (tUn (rU fun i => .int (-i)) (tC (.int 1)))) := po_some (pe_un un_neg pe_int)
  refine wpAny_Slice (thn (po_none.run pins s1 σ H1 (fun o H2 => o = none ∧ H2 = H1) I1 ⟨rfl, rfl⟩) fun vl s2 ⟨l, H2, I2, pl, el, e2⟩ => ?_)
  subst el e2
  refine thn (po_none.run pins s2 σ H2 (fun o H3 => o = none ∧ H3 = H2) I2 ⟨rfl, rfl⟩) fun vu s3 ⟨u, H3, I3, pu, eu, e3⟩ => ?_
  subst eu e3
  refine thn (hst.run pins s3 σ H3 (fun o H4 => o = some (-1) ∧ H4 = H3) I3 ⟨1, rfl, -1, rfl, rfl, rfl⟩) fun vs s4 ⟨o, H4, I4, ps, eo, e4⟩ => ?_
  subst eo e4
  have I5 : Inv X pins σ H4 { s4 with heap := s4.heap.push { cls := .type "slice", data := .fields #[vl, vu, vs] } } := I4.kept (t' := s4.toks) fun b ob q => Heap.get?_push_of_some _ q
  have sk : Heap.IsSliceOf (s4.heap.push { cls := .type "slice", data := .fields #[vl, vu, vs] }) s4.heap.objs.size vl vu vs := Heap.IsSliceOf.new _ vl vu vs
  show wpAny (model X.prog X.w) X.A (subscriptTail e (.Slice none none (some (.UnaryOp .USub (.Constant (.int 1) n p1) p2)) p3) v (.ref s4.heap.objs.size)) (EP X pins σ Q) X.xe { s4 with heap := s4.heap.push { cls := .type "slice", data := .fields #[vl, vu, vs] } }
  rcases q1 with ⟨a, xs, rfl, hx, q⟩ | ⟨a, xs, rfl, hx, q⟩ | ⟨z, rfl, hz, q⟩
  · cases r1
    obtain ⟨its, r, ht, hz⟩ := I5.list hx
    have hlen := r.length
    refine tail_any (ops := [.ref a, .ref s4.heap.objs.size]) ht.isList.typeIs (PySem.slot_list_getitem.lookup) ?_ (by with_unfolding_all rfl)
    refine wpAny_getItem_list_slice ht.isList sk pl pu ps (by decide) ?_ (by rw [List.size_toArray]; omega)
    rw [PySem.W.krv_pick]
    refine ⟨.ref _, _, I5.laid (t' := s4.toks) (o := .lst xs.reverse) (fun b ob q => Heap.get?_push_of_some _ q) (Nat.le_refl _) ?_, rfl, q _ (I5.hok.fresh (Nat.le_refl _))⟩
    exact ⟨by rw [List.length_reverse]; exact hz, _, 0, r.reverse, Heap.get?_push_size _ rfl⟩
  · cases r1
    obtain ⟨its, r, ht, hz⟩ := I5.tuple hx
    have hlen := r.length
    refine tail_any (ops := [.ref a, .ref s4.heap.objs.size]) ht.typeIs PyProof.Rows.slot_tuple_getitem.lookup ?_ (by with_unfolding_all rfl)
    refine getItem_rev_tup ht sk pl pu ps ?_ (by rw [List.size_toArray]; omega)
    refine ⟨.ref _, _, I5.laid (t' := s4.toks) (o := .tup xs.reverse) (fun b ob q => Heap.get?_push_of_some _ q) (Nat.le_refl _) ?_, rfl, q _ (I5.hok.fresh (Nat.le_refl _))⟩
    exact ⟨by rw [List.length_reverse]; exact hz, _, r.reverse, IsTup.new _ _⟩
  · obtain ⟨t, rfl⟩ := r1
    refine tail_any (ops := [.str z t, .ref s4.heap.objs.size]) (typeIs_str _ z t) F.slot_str_getitem.lookup ?_ (by with_unfolding_all rfl)
    obtain ⟨l, rfl, el⟩ := IsPart.raw pl
    obtain ⟨u, rfl, eu⟩ := IsPart.raw pu
    obtain ⟨st, rfl, est⟩ := IsPart.raw ps
    have hl : l = none := by cases l <;> simp_all
    have hu : u = none := by cases u <;> simp_all
    have hst1 : st.map (·.1) = some (-1) := by first | exact est | exact est.symm
    subst hl hu
    obtain ⟨os, g1, g2, g3⟩ := id sk
    refine wpAny_getItem_str_slice (l := none) (u := none) (st := st) ⟨os, g1, g2, g3⟩ (by rw [hst1]; rfl) ?_
    have ep : Builtin.Str.strSliceIndices ((none : Option (Int × Tok)).map (·.1)) ((none : Option (Int × Tok)).map (·.1)) ((st.map (·.1)).getD 1) z.length = Builtin.Str.strSliceIndices none none (-1) z.length := by rw [hst1]; rfl
    unfold sliceMade slicePicked
    rw [ep, hst1, if_neg (by simp), revS_pick]
    exact ⟨by show z.cps.toList.reverse.toArray.size ≤ sizeLine; rw [List.size_toArray, List.length_reverse, Array.length_toList]; exact hz, .str (revS z), H4, I5.tok _, ⟨_, rfl⟩, q⟩
def gRev : D → Option PV
  | .list xs => some (.o (.l xs.reverse))
  | .tuple xs => some (.v (.tuple xs.reverse))
  | .str z => if z.length ≤ sizeLine then some (.v (.str (revS z))) else none
  | _ => none
theorem de_rev {n : Nat} {p1 p2 p3 : Pos} (ha : DE X W a fa) : DE X W (.Subscript a (.Slice none none (some (.UnaryOp .USub (.Constant (.int 1) n p1) p2)) p3) pos) (f1 gRev fa) := by
  refine PE.weak (pe_revA (de_fz ha)) fun σ H Q z => ?_
  obtain ⟨F0, H0, pa, F, S, A, z⟩ := z
  unfold f1 at z
  rw [OutP.bind] at z
  refine ⟨F0, H0, pa, F, S, A, z.imp (fun p S1 z v F1 H1 x1 A1 r1 => ?_) fun _ _ z => z⟩
  have go : ∀ {w : PV} {v : V} {H' : Hp}, Gv X.K F1 H1 w v H' → OutP (.ok w S1) (TP X.K F0 H0 pa σ F Q) (EW X.K W F0 H0 pa σ) → Q v H' := fun g z => by
    obtain ⟨F', xF, A', r'⟩ := A1.gives g
    exact z _ F' _ (x1.trans xF) A' r'
  split at z
  · rename_i d e1
    have dv := A1.val r1 e1
    cases d with
    | list xs =>
      obtain ⟨l, vs, rfl, h1, h2⟩ := dv.list A1.sub
      exact .inl ⟨l, vs, rfl, SqL.of h1, fun p hp => go (.lst hp h2.reverse) z⟩
    | tuple xs =>
      obtain ⟨l, vs, rfl, h1, h2⟩ := dv.tuple
      exact .inr (.inl ⟨l, vs, rfl, SqT.of (A1.sub _ _ h1), fun p hp => go (.tup hp h2.reverse) z⟩)
    | str y =>
      rw [dv.str]
      simp only [gRev] at z
      split at z
      · rename_i w hw
        split at hw
        · rename_i hz
          cases hw
          exact .inr (.inr ⟨y, rfl, hz, go (Gv.str _) z⟩)
        · cases hw
      · exact z.elim
    | none => exact z.elim
    | bool _ => exact z.elim
    | int _ => exact z.elim
    | dict _ => exact z.elim
  · exact z.elim
end
end Q3
/-! Q4c: tuple * int. -/
namespace Q3
open PySem PySem.Spec PyProof.Rows L2
variable [TabSet]
theorem tuple_mul_same (l : Addr) (items : Array Value) (n : Nat) (dd : Option Addr) (sl : Array (Option Value)) (x : Int) (u : Tok) (c0 : (decide (x < -(2 ^ 63)) || decide (x ≥ 2 ^ 63)) = false) (c1 : (items.isEmpty || x == 1) = true) :
    Meets (Builtin.«tuple.__mul__» ⟨[.ref l, .int x u], []⟩) (fun _ R s => s.heap.get? l = some { cls := .type "tuple", dict := dd, data := .seq items n, slots := sl } ∧ R (.ok (.ret (Value.ref l))) s) :=
  .of_wp fun prog w A R s h => by
    obtain ⟨hp, g, d, tk, os⟩ := s
    obtain ⟨hl, h⟩ := h
    have f1 := AutoSeq1.idx_int
    wp_walk using wpAny_loadPart' hl
    repeat (first
      | (refine wpAny_ite_false (decide_eq_false (by rw [c0]; exact Bool.false_ne_true)) ?_; wp_walk using wpAny_loadPart' hl)
      | (refine wpAny_ite_true (decide_eq_true (by rw [c1])) ?_; wp_walk using wpAny_loadPart' hl))
    exact ⟨_, rfl, h⟩
theorem tuple_mul_none (l : Addr) (items : Array Value) (n : Nat) (dd : Option Addr) (sl : Array (Option Value)) (x : Int) (u : Tok) (c0 : (decide (x < -(2 ^ 63)) || decide (x ≥ 2 ^ 63)) = false) (c1 : (items.isEmpty || x == 1) = false) (c2 : (decide (x ≤ 0) || items.isEmpty) = true) :
    Meets (Builtin.«tuple.__mul__» ⟨[.ref l, .int x u], []⟩) (fun _ R s => s.heap.get? l = some { cls := .type "tuple", dict := dd, data := .seq items n, slots := sl } ∧
      R (.ok (.ret (Value.ref s.heap.objs.size))) { s with heap := s.heap.push { cls := Value.type "tuple", data := Data.seq #[] }, toks := s.toks }) :=
  .of_wp fun prog w A R s h => by
    obtain ⟨hp, g, d, tk, os⟩ := s
    obtain ⟨hl, h⟩ := h
    have f1 := AutoSeq1.idx_int
    wp_walk using wpAny_loadPart' hl
    repeat (first
      | (refine wpAny_ite_false (decide_eq_false (by rw [c0]; exact Bool.false_ne_true)) ?_; wp_walk using wpAny_loadPart' hl)
      | (refine wpAny_ite_false (decide_eq_false (by rw [c1]; exact Bool.false_ne_true)) ?_; wp_walk using wpAny_loadPart' hl)
      | (refine wpAny_ite_true (decide_eq_true (by rw [c2])) ?_; wp_walk using wpAny_loadPart' hl))
    exact ⟨_, rfl, h⟩
/-- t * k: t itself, or a new tuple -/
def rRepA (K : PySem.W.Frag) : R2 := fun x y H Q => ∃ l k xs, x = .ref l ∧ y = .int k ∧ SqT K H l xs ∧ k ≤ 1000 ∧ -1000 ≤ k ∧ xs.length ≤ 1000 ∧
  (xs = [] ∨ k = 1 → Q (.ref l) H) ∧ (xs ≠ [] → k ≤ 0 → ∀ p, H p = none → Q (.ref p) (upd H p (.tup []))) ∧ (xs ≠ [] → 2 ≤ k → ∀ p, H p = none → Q (.ref p) (upd H p (.tup (List.replicate k.toNat xs).flatten)))
section
variable {X : Cx} {W : WX} {a b c e : Expr} {fa fb fc : Sq → Out PV} {pos : Pos}
theorem op_repA : OpR X (binaryOp .Mult) (rRepA X.K) := by
  intro pins s σ H x y v u Q I rx ry h
  obtain ⟨l, k, xs, rfl, rfl, hT, h1, h0, hz, q1, q2, q3⟩ := h
  by_cases hb : xs ≠ [] ∧ 2 ≤ k
  · exact op_repT pins s σ H _ _ v u Q I rx ry ⟨l, k, xs, rfl, rfl, hT, hb.1, hb.2, h1, hz, q3 hb.1 hb.2⟩
  · cases rx
    obtain ⟨t, rfl⟩ := ry
    obtain ⟨its, r, ⟨⟨cls, dd, data, sl⟩, ho, hc, n, hd⟩, hs⟩ := I.tuple hT
    simp only at hc hd
    subst hc hd
    have hle : its.length = xs.length := r.length.symm
    have c0 : (decide (k < -(2 ^ 63)) || decide (k ≥ 2 ^ 63)) = false := by
      rw [decide_eq_false (by omega), decide_eq_false (by omega)] <;> rfl
    have hi : its.toArray.isEmpty = xs.isEmpty := by
      cases its with
      | nil => cases xs with
        | nil => rfl
        | cons _ _ => cases hle
      | cons _ _ => cases xs with
        | nil => cases hle
        | cons _ _ => rfl
    by_cases hsame : xs = [] ∨ k = 1
    · refine wpAny_binaryOp_repeat_ref (T := "tuple") (U := "int") (by decide) ⟨_, ho, rfl⟩ (fun s' => typeIs_int s' k t) noFill_tuple_mul F.fills_int_mul F.slot_int_rmul repeat_tuple F.slot_int_index.lookup
        (call_meets F.slot_int_rmul (typeIs_int s k t) F.entry_int_rmul (F.args_int_rmul_2 _ _) (int_rmul_tuple k t l its.toArray n dd sl)
          ⟨ho, rfl, ⟨_, ho, rfl⟩, call_meets F.slot_tuple_mul ⟨_, ho, rfl⟩ F.entry_tuple_mul (F.args_tuple_mul_2 _ _) (tuple_mul_same l its.toArray n dd sl k t c0 ?_) ⟨ho, ?_⟩⟩)
      · rw [hi]
        rcases hsame with rfl | rfl
        · rfl
        · simp
      · exact ⟨.ref l, H, I, rfl, q1 hsame⟩
    · have hne : xs ≠ [] := fun z => hsame (.inl z)
      have hk : k ≤ 0 := by
        have : ¬ 2 ≤ k := fun z => hb ⟨hne, z⟩
        have : k ≠ 1 := fun z => hsame (.inr z)
        omega
      have he : xs.isEmpty = false := by cases xs with
        | nil => exact absurd rfl hne
        | cons _ _ => rfl
      refine wpAny_binaryOp_repeat_ref (T := "tuple") (U := "int") (by decide) ⟨_, ho, rfl⟩ (fun s' => typeIs_int s' k t) noFill_tuple_mul F.fills_int_mul F.slot_int_rmul repeat_tuple F.slot_int_index.lookup
        (call_meets F.slot_int_rmul (typeIs_int s k t) F.entry_int_rmul (F.args_int_rmul_2 _ _) (int_rmul_tuple k t l its.toArray n dd sl)
          ⟨ho, rfl, ⟨_, ho, rfl⟩, call_meets F.slot_tuple_mul ⟨_, ho, rfl⟩ F.entry_tuple_mul (F.args_tuple_mul_2 _ _) (tuple_mul_none l its.toArray n dd sl k t c0 ?_ ?_) ⟨ho, ?_⟩⟩)
      · rw [hi, he, Bool.false_or]
        exact beq_eq_false_iff_ne.mpr (by omega)
      · rw [decide_eq_true hk, Bool.true_or]
      · refine ⟨.ref s.heap.objs.size, _, I.laid (t' := s.toks) (o := .tup []) (fun b ob q => Heap.get?_push_of_some _ q) (Nat.le_refl _) ?_, rfl, q2 hne hk _ (I.hok.fresh (Nat.le_refl _))⟩
        exact ⟨Nat.zero_le _, [], .nil, IsTup.new _ _⟩
def gMulA : D → D → Option PV
  | .tuple xs, .int j => if -1000 ≤ j ∧ j ≤ 1000 ∧ xs.length ≤ 1000 then some (.v (.tuple (List.replicate j.toNat xs).flatten)) else none
  | d, e => gMul d e
theorem does_mulA {K : PySem.W.Frag} : Does2 K (fun x y H Q => (rI CMul (fun i j => .int (i * j)) x y H Q ∨ rRep x y H Q ∨ rRepS x y H Q) ∨ rRepA K x y H Q) gMulA := by
  intro F H x y d e z Q sub hx hy hg h
  unfold gMulA at hg
  split at hg
  · rename_i xs j
    split at hg
    · rename_i hj
      cases hg
      obtain ⟨a, vs, rfl, h1, h2⟩ := hx.tuple
      rw [hy.int]
      have hl := h2.length
      refine .inr ⟨a, j, vs, rfl, rfl, SqT.of (sub _ _ h1), hj.2.1, hj.1, by rw [hl]; exact hj.2.2, fun q => ?_, fun hne hk p hp => ?_, fun hne hk p hp => h _ _ (.tup hp (h2.rep _))⟩
      · have e : (List.replicate j.toNat xs).flatten = xs := by
          rcases q with q | q
          · rw [h2.nil_iff.mp q]; simp
          · rw [q]; simp
        rw [e] at h
        exact h _ _ (.dn (.tup h1 h2))
      · have e : j.toNat = 0 := by omega
        rw [e] at h
        exact h _ _ (.tup hp .nil)
    · cases hg
  · exact .inl (does_mul F H x y _ _ z Q sub hx hy hg h)
theorem de_mulA (ha : DE X W a fa) (hb : DE X W b fb) : DE X W (.BinOp a .Mult b pos) (fBin gMulA fa fb) := de_bin (OpR.or (OpR.or op_mul (OpR.or op_rep op_repS)) op_repA) does_mulA ha hb
@[simp] theorem mulA_i (a b : Int) : gMulA (.int a) (.int b) = if CMul a b then some (.v (.int (a * b))) else none := rfl
@[simp] theorem mulA_s (z : Str) (j : Int) : gMulA (.str z) (.int j) = if 0 ≤ j ∧ j < 1000000 ∧ z.length * j.toNat ≤ sizeLine then some (.v (.str (strRep z j.toNat))) else none := rfl
@[simp] theorem mulA_l (xs : List D) (j : Int) : gMulA (.list xs) (.int j) = if 0 ≤ j ∧ j < 1000000 ∧ xs.length * j.toNat ≤ sizeLine then some (.o (.l (List.replicate j.toNat xs).flatten)) else none := rfl
@[simp] theorem mulA_t (xs : List D) (j : Int) : gMulA (.tuple xs) (.int j) = if -1000 ≤ j ∧ j ≤ 1000 ∧ xs.length ≤ 1000 then some (.v (.tuple (List.replicate j.toNat xs).flatten)) else none := rfl
end
end Q3
/-! Q4d: three targets, three values that are data. -/
namespace Q3
open PySem PySem.Spec PyProof.Rows L2
variable [TabSet]
def par3D2 (i j l : Nat) : Option (List D × Sq) → Fl
  | some ([x, y, z], S2) => if i < S2.r.length ∧ j < S2.r.length ∧ l < S2.r.length then .nx { S2 with r := ((S2.r.set i (.d x)).set j (.d y)).set l (.d z) } else .no
  | _ => .no
def par3D (i j l : Nat) (fs : Sq → Out (List PV)) : Sq → Fl := fun S => (fs S).fl fun ps S1 => par3D2 i j l (keepAll S1 ps)
section
variable {X : Cx} {W : WX} {a b c e : Expr} {fs : Sq → Out (List PV)} {pos : Pos} {N : List Str} {sc : Scope} {k : Nat} {G : Gb} {x y z : Str}
theorem ds_par3D (i j l : Nat) {px py pz pt : Pos} {kt k2 pt2} (C : Cq G k N sc X) (h : DA X W [a, b, c] fs) (hi : N[i]? = some x := by rfl) (hj : N[j]? = some y := by rfl) (hl : N[l]? = some z := by rfl) (hij : i ≠ j := by decide) (hil : i ≠ l := by decide) (hjl : j ≠ l := by decide)
    (hx : sc.names.lookup x = some .local := by rfl) (hy : sc.names.lookup y = some .local := by rfl) (hz : sc.names.lookup z = some .local := by rfl)
    (hw : swappedStores [.Tuple [.Name x px, .Name y py, .Name z pz] kt pt] (.Tuple [a, b, c] k2 pt2) X.env = pure (some [x, y, z]))
    (hs : swapsWithSole [.Tuple [.Name x px, .Name y py, .Name z pz] kt pt] (.Tuple [a, b, c] k2 pt2) pos.line X.env = pure false := by rfl) :
    DS X W (.Assign [.Tuple [.Name x px, .Name y py, .Name z pz] kt pt] (.Tuple [a, b, c] k2 pt2) pos) (par3D i j l fs) := by
  refine PS.weak (L2.ps_par3 C.calm (by rw [C.names]; exact C.nd) (by rw [C.names]; exact hi) (by rw [C.names]; exact hj) (by rw [C.names]; exact hl) hij hil hjl (by rw [C.scope]; exact hx) (by rw [C.scope]; exact hy) (by rw [C.scope]; exact hz) h hw hs) fun Z σ H q => ?_
  obtain ⟨F0, H0, pa, F, S, A, q⟩ := q
  refine ⟨F0, H0, pa, F, S, A, (fl_out (σ := σ) q).imp (fun ps S1 q vs F1 H1 x1 A1 r1 => ?_) fun _ _ q => q⟩
  unfold par3D2 at q
  split at q
  · rename_i x y z S2 e1
    split at q
    · rename_i hlt
      obtain ⟨F2, x2, A2, d2⟩ := A1.keepAll r1 e1
      cases d2 with
      | cons d1 d2 =>
        cases d2 with
        | cons d2 d3 =>
          cases d3 with
          | cons d3 d4 =>
            cases d4
            refine ⟨_, _, _, rfl, q _ F2 _ ?_⟩
            exact ((A2.store (c := .d x) hlt.1 d1).store (i := j) (c := .d y) (S := { S2 with r := S2.r.set i (.d x) }) (by simpa using hlt.2.1) d2).store (i := l) (c := .d z) (S := { S2 with r := (S2.r.set i (.d x)).set j (.d y) }) (by simpa using hlt.2.2) d3
    · exact q.elim
  · exact q.elim
end
/-! step by step -/
def par3D1 (i j l : Nat) : Out (List PV) → Fl
  | .ok ps S1 => par3D2 i j l (keepAll S1 ps)
  | .ex c S => .ex c S
  | .no => .no
@[simp] theorem ev_par3D (i j l : Nat) (fs : Sq → Out (List PV)) (S : Sq) : par3D i j l fs S = par3D1 i j l (fs S) := by
  unfold par3D par3D1
  cases fs S <;> rfl
@[simp] theorem par3D1_ok (i j l : Nat) (ps : List PV) (S : Sq) : par3D1 i j l (.ok ps S) = par3D2 i j l (keepAll S ps) := rfl
@[simp] theorem par3D2_ok (i j l : Nat) (x y z : D) (S : Sq) : par3D2 i j l (some ([x, y, z], S)) = if i < S.r.length ∧ j < S.r.length ∧ l < S.r.length then .nx { S with r := ((S.r.set i (.d x)).set j (.d y)).set l (.d z) } else .no := rfl
end Q3
/-! Q4e: a def that calls itself, so many levels deep. -/
namespace Q3
open PySem PySem.Spec PyProof.Rows L2
variable [TabSet]
theorem has_none {G : Gb} {k : Nat} {x : Str} {st : Stmt} {ps : List Str} (D : HasD G.K G.mg x st)
    (hb : ∀ (kV doc pm : Value) (an : Option Addr) (cdv ct : Value) (us : List Value), us.length = ps.length → bindArgs (PySem.W.fnOf x x (defArgs st) (defBody st) (defScope st) .none kV doc pm an cdv ct) ⟨us, []⟩ = pure (ps.zip us)) : Has G k x ps (fun _ _ => .no) := by
  obtain ⟨f, fd, F, m⟩ := D
  refine ⟨f, fd, m, F.kp, F.bindsN hb, fun vs H Q E z => z.1, fun A outer s H args us vs Q E _ _ _ _ _ z => ?_⟩
  obtain ⟨F0, H0, pa, rs, p, _, _, z⟩ := z.2
  exact z.elim
end Q3
/-! Q4f: repr of data with empty dicts in it: the place of the modules' dict is known not to be ours. -/
namespace Q3
open PySem PySem.Spec PyProof.Rows L2
/-! ### a head that tells one more object -/
variable [TabSet]
section
variable {X : Cx} {pins : List (Addr × Obj)} {σ : L2.St} {H : Hp} {s : Shared}
theorem kReadsH {h : Heap} : ∀ {es : List (Key × V)} {us : List Value}, Vals (es.map fun e => kV e.1) us → ReadsAll h us (es.map fun e => kD e.1) []
  | [], _, r => by cases r; exact ReadsAll.nil
  | e :: es, _, r => by
    cases r with
    | cons r1 r2 => exact ReadsAll.cons (kD_reads r1) (kReadsH (h := h) r2)
mutual
theorem Dn.readsH (I : Inv X pins σ H s) : ∀ (d : D) (v : V) (u : Value), Dn X.K H v d → RelV v u → ∃ as, Reads s.heap u d as ∧ ∀ a ∈ as, ∃ o, H a = some o
  | _, _, _, .non, r => by
    cases r
    exact ⟨[], Reads.none, fun _ m => nomatch m⟩
  | _, _, _, .bl b, r => by
    cases r
    exact ⟨[], Reads.bool b, fun _ m => nomatch m⟩
  | _, _, _, .int i, r => by
    obtain ⟨t, rfl⟩ := r
    exact ⟨[], Reads.int i t, fun _ m => nomatch m⟩
  | _, _, _, .str x, r => by
    obtain ⟨t, rfl⟩ := r
    exact ⟨[], Reads.str x t, fun _ m => nomatch m⟩
  | _, _, _, .lst h1 h2, r => by
    cases r
    obtain ⟨its, rv, ⟨o, n, ho, hc, hd, hs⟩, _⟩ := I.list (SqL.of h1)
    obtain ⟨as, ra, q⟩ := DnAll.readsH I _ _ its h2 rv
    refine ⟨_, Reads.list ho hc hs (by simpa using ra), fun a m => ?_⟩
    rcases List.mem_cons.mp m with rfl | m
    · exact ⟨_, h1⟩
    · exact q a m
  | _, _, _, .tup h1 h2, r => by
    cases r
    obtain ⟨its, rv, ⟨o, ho, hc, n, hs⟩, _⟩ := I.tuple (SqT.of h1)
    obtain ⟨as, ra, q⟩ := DnAll.readsH I _ _ its h2 rv
    exact ⟨_, Reads.tuple ho hc hs (by simpa using ra), q⟩
  | _, _, _, .dctK h1 _ h2 h3, r => by
    cases r
    obtain ⟨_, _, vs, kv, o, es, ep, ho, hx, hd, ko, pr, _⟩ := I.hok _ _ h1
    obtain ⟨q1, q2, q3⟩ := dkEnts (K := X.K) (H := H) kv pr
    obtain ⟨bs, rb, q⟩ := DnAll.readsH I _ _ _ h3 q2
    refine ⟨_, Reads.dict ho hx.1 hd (by rw [h2]; exact kReadsH q1) rb, fun a m => ?_⟩
    rcases List.mem_append.mp m with m | m
    · rw [List.mem_singleton.mp m]; exact ⟨_, h1⟩
    · exact q a m
  | _, _, _, .dctE h1 h2 h3 h4 h5, r => by
    cases r
    obtain ⟨⟨_, _, o, es, ep, ho, hx, hd, pr, _⟩, _⟩ := I.hok _ _ h1
    obtain ⟨q1, q2⟩ := kvEnts pr
    obtain ⟨as, ra, p⟩ := DnAll.readsH I _ _ _ h4 q1
    obtain ⟨bs, rb, q⟩ := DnAll.readsH I _ _ _ h5 q2
    refine ⟨_, Reads.dict ho hx.1 hd ra rb, fun a m => ?_⟩
    rcases List.mem_append.mp m with m | m
    · rcases List.mem_cons.mp m with rfl | m
      · exact ⟨_, h1⟩
      · exact p a m
    · exact q a m
theorem DnAll.readsH (I : Inv X pins σ H s) : ∀ (ds : List D) (vs : List V) (us : List Value), DnAll X.K H vs ds → Vals vs us → ∃ as, ReadsAll s.heap us ds as ∧ ∀ a ∈ as, ∃ o, H a = some o
  | _, _, _, .nil, r => by
    cases r
    exact ⟨_, ReadsAll.nil, fun _ m => nomatch m⟩
  | _, _, _, .cons h1 h2, r => by
    cases r with
    | cons r1 r2 =>
      obtain ⟨as, a, q1⟩ := Dn.readsH I _ _ _ h1 r1
      obtain ⟨bs, b, q2⟩ := DnAll.readsH I _ _ _ h2 r2
      refine ⟨_, ReadsAll.cons a b, fun x m => ?_⟩
      rcases List.mem_append.mp m with m | m
      · exact q1 x m
      · exact q2 x m
end
end
section
variable {X : Cx} {W : WX} {a b c e : Expr} {fa fb fc : Sq → Out PV} {pos : Pos} {N : List Str} {sc : Scope} {k : Nat} {G : Gb}
def gReprD (d : D) : Option PV := if d.showable = true ∧ d.depth ≤ 64 ∧ d.shown.length ≤ sizeLine then some (.v (.str d.shown)) else none
def rReprD (K : PySem.W.Frag) : List V → Hp → VK → Prop := fun xs H Q => ∃ x d, xs = [x] ∧ Dn K H x d ∧ d.showable = true ∧ d.depth ≤ 64 ∧ d.shown.length ≤ sizeLine ∧ Q (.str d.shown) H
theorem call_reprD (hsm : ∃ o, X.K.lookup sysModules = some o) (hg : X.A.guards = some []) (hu : X.A.units + 65 < cLine) : CallR X (.builtin "repr") (rReprD X.K) := by
  intro pins s σ H xs us Q I r h
  obtain ⟨x, d, rfl, hx, h1, h3, h4, q⟩ := h
  obtain ⟨u, rfl, rx⟩ := vals1 r
  obtain ⟨as, rd, ha⟩ := Dn.readsH I d x u hx rx
  have hn : d.hasDict = true → sysModules ∉ as := fun _ m => by
    obtain ⟨o, ho⟩ := hsm
    obtain ⟨u, hu⟩ := ha _ m
    have := (I.bs _ _ (I.mod.kin _ _ ho)).2
    rw [hu] at this
    cases this
  cases hx with
  | non =>
    cases rx
    exact PySem.P.repr_of_none ⟨.str _, H, I.tok _, ⟨_, rfl⟩, q⟩
  | bl b =>
    cases rx
    refine PySem.P.repr_of_bool ⟨.str _, H, I.tok _, ⟨_, rfl⟩, ?_⟩
    cases b <;> exact q
  | int i =>
    obtain ⟨t, rfl⟩ := rx
    exact PySem.P.repr_of_int (by simpa [PyData.showable] using h1) ⟨.str _, H, I.tok _, ⟨_, rfl⟩, q⟩
  | str z =>
    obtain ⟨t, rfl⟩ := rx
    exact PySem.P.repr_of_str ⟨.str _, H, I.tok _, ⟨_, rfl⟩, q⟩ h4
  | lst e1 e2 =>
    cases rx
    exact repr_of_reads' rd h1 hn hg (by omega) (fun _ _ e => e) (fun h' u tk hk => ⟨.str _, H, I.kept hk, ⟨_, rfl⟩, q⟩) h4
  | tup e1 e2 =>
    cases rx
    exact repr_of_reads' rd h1 hn hg (by omega) (fun _ _ e => e) (fun h' u tk hk => ⟨.str _, H, I.kept hk, ⟨_, rfl⟩, q⟩) h4
  | dctK e1 _ _ _ =>
    cases rx
    exact repr_of_reads' rd h1 hn hg (by omega) (fun _ _ e => e) (fun h' u tk hk => ⟨.str _, H, I.kept hk, ⟨_, rfl⟩, q⟩) h4
  | dctE e1 _ _ _ _ =>
    cases rx
    exact repr_of_reads' rd h1 hn hg (by omega) (fun _ _ e => e) (fun h' u tk hk => ⟨.str _, H, I.kept hk, ⟨_, rfl⟩, q⟩) h4
theorem does_reprD {K : PySem.W.Frag} : Does1 K (rReprD K) gReprD := by
  intro F H x d z Q sub hx hg h
  unfold gReprD at hg
  split at hg
  · rename_i q
    cases hg
    exact ⟨x, d, rfl, hx.dn sub, q.1, q.2.1, q.2.2, h _ _ (Gv.str _)⟩
  · cases hg
end
end Q3
/-! Q5a: dicts: get, put, in. -/
namespace Q3
open PySem PySem.Spec PyProof.Rows L2
variable [TabSet]
/-! ### tables of data -/
def getM {β : Type} (l : List (D × β)) (k : D) : Option β := (l.find? fun e => decide (e.1 = k)).map (·.2)
def putM {β : Type} (l : List (D × β)) (k : D) (v : β) : List (D × β) := if (l.any fun e => decide (e.1 = k)) = true then l.map (fun e => if e.1 = k then (e.1, v) else e) else l ++ [(k, v)]
section
variable {κ β γ : Type} [DecidableEq κ] {f : κ → D} {R : β → γ → Prop}
def OptR (R : β → γ → Prop) : Option β → Option γ → Prop
  | none, none => True
  | some a, some b => R a b
  | _, _ => False
theorem OptR.some_of {o : Option β} {v : β} {u : Option γ} (h : OptR R o u) (e : o = some v) : ∃ b, u = some b ∧ R v b := by
  subst e
  cases u with
  | none => exact False.elim h
  | some b => exact ⟨b, rfl, h⟩
theorem OptR.isSome {o : Option β} {u : Option γ} (h : OptR R o u) : o.isSome = u.isSome := by
  cases o <;> cases u <;> first | rfl | exact False.elim h
theorem getM_rel (hf : ∀ a b, f a = f b → a = b) (k : κ) : ∀ {l : List (D × β)} {m : List (κ × γ)}, Paired (fun p (q : κ × γ) => p.1 = f q.1 ∧ R p.2 q.2) l m → OptR R (getM l (f k)) ((m.find? fun e => decide (e.1 = k)).map (·.2))
  | _, _, .nil => trivial
  | p :: l, q :: m, .cons h t => by
    obtain ⟨h1, h2⟩ := h
    unfold getM
    by_cases e : q.1 = k
    · rw [List.find?_cons_of_pos (by simp [h1, e]), List.find?_cons_of_pos (by simp [e])]; exact h2
    · rw [List.find?_cons_of_neg (by simpa [h1] using fun z => e (hf _ _ z)), List.find?_cons_of_neg (by simpa using e)]
      exact getM_rel hf k t
theorem any_rel (hf : ∀ a b, f a = f b → a = b) (k : κ) : ∀ {l : List (D × β)} {m : List (κ × γ)}, Paired (fun p (q : κ × γ) => p.1 = f q.1 ∧ R p.2 q.2) l m → (l.any fun e => decide (e.1 = f k)) = m.any fun e => decide (e.1 = k)
  | _, _, .nil => rfl
  | p :: l, q :: m, .cons h t => by
    rw [List.any_cons, List.any_cons, any_rel hf k t, h.1]
    congr 1
    by_cases e : q.1 = k
    · rw [decide_eq_true e, decide_eq_true (by rw [e])]
    · rw [decide_eq_false e, decide_eq_false fun z => e (hf _ _ z)]
theorem repl_rel (hf : ∀ a b, f a = f b → a = b) (k : κ) {v : β} {u : γ} (r : R v u) : ∀ {l : List (D × β)} {m : List (κ × γ)}, Paired (fun p (q : κ × γ) => p.1 = f q.1 ∧ R p.2 q.2) l m →
    Paired (fun p (q : κ × γ) => p.1 = f q.1 ∧ R p.2 q.2) (l.map fun e => if e.1 = f k then (e.1, v) else e) (m.map fun e => if e.1 = k then (e.1, u) else e)
  | _, _, .nil => .nil
  | p :: l, q :: m, .cons h t => by
    refine .cons ?_ (repl_rel hf k r t)
    by_cases e : q.1 = k
    · show (if p.1 = f k then (p.1, v) else p).1 = f (if q.1 = k then (q.1, u) else q).1 ∧ R (if p.1 = f k then (p.1, v) else p).2 (if q.1 = k then (q.1, u) else q).2
      rw [if_pos e, if_pos (by rw [h.1, e])]; exact ⟨h.1, r⟩
    · show (if p.1 = f k then (p.1, v) else p).1 = f (if q.1 = k then (q.1, u) else q).1 ∧ R (if p.1 = f k then (p.1, v) else p).2 (if q.1 = k then (q.1, u) else q).2
      rw [if_neg e, if_neg fun z => e (hf _ _ (by rw [← h.1]; exact z))]; exact h
theorem putM_rel (hf : ∀ a b, f a = f b → a = b) (k : κ) {v : β} {u : γ} (r : R v u) {l : List (D × β)} {m : List (κ × γ)} (h : Paired (fun p (q : κ × γ) => p.1 = f q.1 ∧ R p.2 q.2) l m) :
    Paired (fun p (q : κ × γ) => p.1 = f q.1 ∧ R p.2 q.2) (putM l (f k) v) (if (m.any fun e => decide (e.1 = k)) = true then m.map (fun e => if e.1 = k then (e.1, u) else e) else m ++ [(k, u)]) := by
  unfold putM
  rw [any_rel hf k h]
  split
  · exact repl_rel hf k r h
  · exact Paired.snoc h ⟨rfl, r⟩
end
theorem length_putM {β : Type} (l : List (D × β)) (k : D) (v : β) : (putM l k v).length ≤ l.length + 1 := by
  unfold putM
  split
  · rw [List.length_map]; omega
  · rw [List.length_append, List.length_cons, List.length_nil]; omega
/-- which keys a dict may have: 1 numbers, 2 truths, 3 tuples, 4 texts -/
def kmode (d : D) : Nat := match d with
  | .int _ => 1
  | .str _ => 4
  | .bool _ => 2
  | d => if KeyT d then 3 else 0
theorem kmode1 {d : D} (h : kmode d = 1) : ∃ i, d = .int i := by
  unfold kmode at h
  split at h
  · exact ⟨_, rfl⟩
  · cases h
  · cases h
  · split at h <;> cases h
theorem kmode4 {d : D} (h : kmode d = 4) : ∃ x, d = .str x := by
  unfold kmode at h
  split at h
  · cases h
  · exact ⟨_, rfl⟩
  · cases h
  · split at h <;> cases h
theorem kmode2 {d : D} (h : kmode d = 2) : ∃ b, d = .bool b := by
  unfold kmode at h
  split at h
  · cases h
  · cases h
  · exact ⟨_, rfl⟩
  · split at h <;> cases h
theorem kmode3 {d : D} (h : kmode d = 3) : KeyT d := by
  unfold kmode at h
  split at h
  · cases h
  · cases h
  · cases h
  · split at h
    · assumption
    · cases h
theorem kmode_le (d : D) : kmode d = 0 ∨ kmode d = 1 ∨ kmode d = 2 ∨ kmode d = 3 ∨ kmode d = 4 := by
  unfold kmode
  split
  · simp
  · simp
  · simp
  · split <;> simp
theorem kmode_T {d : D} (h : KeyT d) : kmode d = 3 := by
  obtain ⟨xs, rfl⟩ := h.2.2
  show (if KeyT (.tuple xs) then 3 else 0) = 3
  rw [if_pos h]
/-- k may be asked for in a dict of the keys of kvs -/
def keyOk {β : Type} (kvs : List (D × β)) (k : D) : Bool := decide (kmode k ≠ 0) && kvs.all fun e => decide (kmode e.1 = kmode k)
theorem kD_inj : ∀ a b : Key, kD a = kD b → a = b
  | .inl _, .inl _, h => by injection h with h; rw [h]
  | .inr _, .inr _, h => by injection h with h; rw [h]
  | .inl _, .inr _, h => nomatch h
  | .inr _, .inl _, h => nomatch h
theorem bool_injD : ∀ a b : Bool, (PyData.bool a) = .bool b → a = b := fun _ _ h => by injection h
section
variable {K : PySem.W.Frag} {F H : Hp} {a : Addr} {ho : HO} {kvs : List (D × D)} {k : D}
theorem pair_of {κ : Type} {f : κ → D} : ∀ {es : List (κ × V)} {kvs : List (D × D)}, kvs.map (·.1) = es.map (fun e => f e.1) → DnAll K F (es.map (·.2)) (kvs.map (·.2)) → Paired (fun (p : D × D) (q : κ × V) => p.1 = f q.1 ∧ Dn K F q.2 p.2) kvs es
  | [], [], _, _ => .nil
  | [], _ :: _, h, _ => by simp at h
  | _ :: _, [], h, _ => by simp at h
  | e :: es, p :: kvs, h1, h2 => by
    rw [List.map_cons, List.map_cons] at h1
    injection h1 with h0 h1
    cases h2 with
    | cons q1 q2 => exact .cons ⟨h0, q1⟩ (pair_of h1 q2)
theorem of_pair {κ : Type} {f : κ → D} : ∀ {es : List (κ × V)} {kvs : List (D × D)}, Paired (fun (p : D × D) (q : κ × V) => p.1 = f q.1 ∧ Dn K F q.2 p.2) kvs es → kvs.map (·.1) = es.map (fun e => f e.1) ∧ DnAll K F (es.map (·.2)) (kvs.map (·.2))
  | _, _, .nil => ⟨rfl, .nil⟩
  | e :: es, p :: kvs, .cons h t => by
    obtain ⟨h1, h2⟩ := of_pair t
    exact ⟨by rw [List.map_cons, List.map_cons, h1, h.1], .cons h.2 h2⟩
theorem pair3_of : ∀ {es : List (D × V × V)} {kvs : List (D × D)}, kvs.map (·.1) = es.map (·.1) → DnAll K F (es.map (·.2.1)) (kvs.map (·.1)) → DnAll K F (es.map (·.2.2)) (kvs.map (·.2)) → Paired (fun (p : D × D) (q : D × V × V) => p.1 = q.1 ∧ Dn K F q.2.1 p.1 ∧ Dn K F q.2.2 p.2) kvs es
  | [], [], _, _, _ => .nil
  | [], _ :: _, h, _, _ => by simp at h
  | _ :: _, [], h, _, _ => by simp at h
  | e :: es, p :: r, h2, h4, h5 => by
    rw [List.map_cons, List.map_cons] at h2
    injection h2 with h0 h2
    cases h4 with
    | cons q1 q2 =>
      cases h5 with
      | cons r1 r2 => exact .cons ⟨h0, q1, r1⟩ (pair3_of h2 q2 r2)
/-- the two forms -/
theorem DctA.forms (m : DctA K F a ho kvs) : (∃ es, ho = .dK es ∧ TextK es ∧ Paired (fun (p : D × D) (q : Key × V) => p.1 = kD q.1 ∧ Dn K F q.2 p.2) kvs es) ∨
    ∃ es ep, ho = dctE es ep a ∧ KMode (kvs.map (·.1)) ∧ Paired (fun (p : D × D) (q : D × V × V) => p.1 = q.1 ∧ Dn K F q.2.1 p.1 ∧ Dn K F q.2.2 p.2) kvs es := by
  rcases m with ⟨es, rfl, ht, h2, h3⟩ | ⟨es, ep, rfl, h2, h3, h4, h5⟩
  · exact .inl ⟨es, rfl, ht, pair_of h2 h3⟩
  · exact .inr ⟨es, ep, rfl, h3, pair3_of h2 h4 h5⟩
theorem text_mode {es : List (Key × V)} {kvs : List (D × D)} (h : Paired (fun (p : D × D) (q : Key × V) => p.1 = kD q.1 ∧ Dn K F q.2 p.2) kvs es) (t : TextK es) : kvs ≠ [] ∧ ∀ p ∈ kvs, kmode p.1 = 4 := by
  have all : ∀ {kvs : List (D × D)} {es : List (Key × V)}, Paired (fun (p : D × D) (q : Key × V) => p.1 = kD q.1 ∧ Dn K F q.2 p.2) kvs es → (∀ e ∈ es, ∃ x, e.1 = .inr x) → ∀ p ∈ kvs, kmode p.1 = 4 := by
    intro kvs es h
    induction h with
    | nil => intro _ p m; cases m
    | @cons p e _ _ h _ ih =>
      intro t q m
      rcases List.mem_cons.mp m with rfl | m
      · obtain ⟨x, hx⟩ := t e List.mem_cons_self
        rw [h.1, hx]; rfl
      · exact ih (fun e m => t e (List.mem_cons_of_mem _ m)) q m
  refine ⟨?_, all h t.2⟩
  rintro rfl
  cases h
  exact t.1 rfl
end
end Q3
/-! Q5b: dicts: what the operations do. -/
namespace Q3
open PySem PySem.Spec PyProof.Rows L2
variable [TabSet]
section
variable {X : Cx} {pins : List (Addr × Obj)} {σ : L2.St} {F H : Hp} {s : Shared} {a : Addr} {ho : HO} {kvs : List (D × D)} {k d : D} {y v : V} {u r : Value} {A : Around} {E : Value → Shared → Prop}
/-- a dict that is not of numbers and texts, by its entries -/
structure EF (K : PySem.W.Frag) (F : Hp) (s : Shared) (a : Addr) (kvs : List (D × D)) (es : List (D × V × V)) (o : Obj) (ents : Array DictEntry) (ep : Nat) : Prop where
  ho : s.heap.get? a = some o
  ex : o.ExactDict
  dt : o.data = .dict ents ep
  kv : Paired kvE es ents.toList
  rel : Paired (fun (p : D × D) (q : D × V × V) => p.1 = q.1 ∧ Dn K F q.2.1 p.1 ∧ Dn K F q.2.2 p.2) kvs es
  ns : (a == sysModules) = false
  len : es.length ≤ sizeLine
  nd : (kvs.map (·.1)).Nodup
theorem DctA.ef (I : Inv X pins σ H s) (q : H a = some ho) (m : DctA X.K F a ho kvs) (hk : keyOk kvs k = true) (h1 : kmode k ≠ 4) : ∃ es o ents ep, EF X.K F s a kvs es o ents ep ∧ Mut (H a) := by
  rcases m.forms with ⟨es, rfl, ht, rel⟩ | ⟨es, ep0, rfl, md, rel⟩
  · exfalso
    obtain ⟨ne, t⟩ := text_mode rel ht
    unfold keyOk at hk
    rw [Bool.and_eq_true] at hk
    cases kvs with
    | nil => exact ne rfl
    | cons p r =>
      have z := List.all_eq_true.mp hk.2 p List.mem_cons_self
      have z : kmode p.1 = kmode k := of_decide_eq_true z
      exact h1 (z.symm.trans (t p List.mem_cons_self))
  · obtain ⟨⟨ns, len, o, ents, ep, ho, hx, hd, pr, _⟩, _⟩ := I.hok _ _ q
    exact ⟨es, o, ents, ep, ⟨ho, hx, hd, pr, rel, ns, len, md.1⟩, by rw [q]; trivial⟩
def rel3 (e : D × V × V) (x : D × Addr × Value) : Prop := e.1 = x.1 ∧ e.2.1 = .ref x.2.1 ∧ RelV e.2.2 x.2.2
/-- as a dict of tuples -/
theorem toH (I : Inv X pins σ H s) (sub : Ex F H) : ∀ {kvs : List (D × D)} {es : List (D × V × V)} {ents : List DictEntry}, (∀ p ∈ kvs, KeyT p.1) → Paired (fun (p : D × D) (q : D × V × V) => p.1 = q.1 ∧ Dn X.K F q.2.1 p.1 ∧ Dn X.K F q.2.2 p.2) kvs es → Paired kvE es ents →
    ∃ xs : List (D × Addr × Value), ents = xs.map (entryOfKey (tKind X.prog X.w)) ∧ (∀ x ∈ xs, (tKind X.prog X.w).is s.heap x.1 x.2.1) ∧ Paired rel3 es xs ∧ Paired (fun (p : D × D) (q : D × Addr × Value) => p.1 = q.1 ∧ ∃ v, Dn X.K F v p.2 ∧ RelV v q.2.2) kvs xs ∧ kvs.map (·.1) = xs.map (·.1)
  | [], _, _, _, r, p => by cases r; cases p; exact ⟨[], rfl, fun _ m => (nomatch m), .nil, .nil, rfl⟩
  | p :: kvs, _, _, t, r, z => by
    cases r with
    | @cons _ e _ es r1 r2 =>
      cases z with
      | @cons _ n _ ents z1 z2 =>
        obtain ⟨xs, h1, h2, h3, h4, h5⟩ := toH I sub (fun q m => t q (List.mem_cons_of_mem _ m)) r2 z2
        have kt := t p List.mem_cons_self
        obtain ⟨e1, e2, e3⟩ := r1
        obtain ⟨z1, zv, zh⟩ := z1
        have hb : ∃ b, e.2.1 = .ref b := by
          obtain ⟨ys, ey⟩ := kt.2.2
          rw [ey] at e2
          cases h : e.2.1 with
          | ref b => exact ⟨b, rfl⟩
          | _ => rw [h] at e2; cases e2
        obtain ⟨b, hb⟩ := hb
        rw [hb] at z1
        have z1 : n.key = .ref b := z1
        rw [hb] at e2
        obtain ⟨as, ra⟩ := Dn.reads I p.1 (.ref b) (.ref b) (e2.mono sub) rfl
        refine ⟨(p.1, b, n.val) :: xs, ?_, fun x m => ?_, .cons ⟨e1.symm, hb, zv⟩ h3, .cons ⟨rfl, e.2.2, e3, zv⟩ h4, by rw [List.map_cons, List.map_cons, h5]⟩
        · rw [List.map_cons, ← h1]
          congr 1
          obtain ⟨nh, nk, nv⟩ := n
          show DictEntry.mk nh nk nv = DictEntry.mk (hashD p.1) (.ref b) nv
          rw [show nh = _ from zh, show nk = _ from z1, e1]
        · rcases List.mem_cons.mp m with rfl | m
          · exact ⟨kt, as, ra⟩
          · exact h2 x m
theorem EF.dictH {es : List (D × V × V)} {o : Obj} {ents : Array DictEntry} {ep : Nat} (I : Inv X pins σ H s) (sub : Ex F H) (e : EF X.K F s a kvs es o ents ep) (t : ∀ p ∈ kvs, KeyT p.1) :
    ∃ xs : List (D × Addr × Value), s.heap.DictOfH (tKind X.prog X.w) a xs ∧ Paired rel3 es xs ∧ Paired (fun (p : D × D) (q : D × Addr × Value) => p.1 = id q.1 ∧ ∃ v, Dn X.K F v p.2 ∧ RelV v q.2.2) kvs xs := by
  obtain ⟨xs, h1, h2, h3, h4, h5⟩ := toH I sub t e.rel e.kv
  exact ⟨xs, ⟨o, ents, ep, e.ho, e.ex, e.dt, h1, h2, by rw [← h5]; exact e.nd⟩, h3, h4⟩
def relB (e : D × V × V) (x : Bool × Value) : Prop := e.1 = .bool x.1 ∧ e.2.1 = .bl x.1 ∧ RelV e.2.2 x.2
theorem toB {P : Program} {w : World} {K : PySem.W.Frag} : ∀ {kvs : List (D × D)} {es : List (D × V × V)} {ents : List DictEntry}, (∀ p ∈ kvs, ∃ b, p.1 = .bool b) → Paired (fun (p : D × D) (q : D × V × V) => p.1 = q.1 ∧ Dn K F q.2.1 p.1 ∧ Dn K F q.2.2 p.2) kvs es → Paired kvE es ents →
    ∃ xs : List (Bool × Value), Pairs (PpSet.boolK P w) ents xs ∧ (∀ n ∈ ents, ∃ k, (PpSet.boolK P w).is k n.key = true ∧ n.hash = (PpSet.boolK P w).hash k) ∧ Paired relB es xs ∧ Paired (fun (p : D × D) (q : Bool × Value) => p.1 = .bool q.1 ∧ ∃ v, Dn K F v p.2 ∧ RelV v q.2) kvs xs
  | [], _, _, _, r, p => by cases r; cases p; exact ⟨[], .nil, fun _ m => (nomatch m), .nil, .nil⟩
  | p :: kvs, _, _, t, r, z => by
    cases r with
    | @cons _ e _ es r1 r2 =>
      cases z with
      | @cons _ n _ ents z1 z2 =>
        obtain ⟨xs, h1, h2, h3, h4⟩ := toB (P := P) (w := w) (fun q m => t q (List.mem_cons_of_mem _ m)) r2 z2
        obtain ⟨b, kt⟩ := t p List.mem_cons_self
        obtain ⟨e1, e2, e3⟩ := r1
        obtain ⟨z1, zv, zh⟩ := z1
        have hb : e.2.1 = .bl b := by
          rw [kt] at e2
          cases h : e.2.1 with
          | bl c => rw [h] at e2; cases e2; rfl
          | _ => rw [h] at e2; cases e2
        rw [hb] at z1
        have z1 : n.key = .bool b := z1
        have zi : (PpSet.boolK P w).is b n.key = true := by rw [z1]; exact PpSet.boolK_is P w b
        refine ⟨(b, n.val) :: xs, .cons zi rfl h1, fun x m => ?_, .cons ⟨by rw [← e1, kt], hb, zv⟩ h3, .cons ⟨kt, e.2.2, e3, zv⟩ h4⟩
        rcases List.mem_cons.mp m with rfl | m
        · exact ⟨b, zi, by rw [zh, ← e1, kt]; rfl⟩
        · exact h2 x m
theorem nodup_bool {xs : List (Bool × Value)} {kvs : List (D × D)} {R : D × D → Bool × Value → Prop} (h : Paired (fun (p : D × D) (q : Bool × Value) => p.1 = .bool q.1 ∧ R p q) kvs xs) (nd : (kvs.map (·.1)).Nodup) : (xs.map (·.1)).Nodup := by
  have e : ∀ {kvs : List (D × D)} {xs : List (Bool × Value)}, Paired (fun (p : D × D) (q : Bool × Value) => p.1 = .bool q.1 ∧ R p q) kvs xs → kvs.map (·.1) = (xs.map (·.1)).map PyData.bool := by
    intro kvs xs h
    induction h with
    | nil => rfl
    | cons h t ih => rw [List.map_cons, List.map_cons, List.map_cons, ih, h.1]
  rw [e h] at nd
  exact (List.pairwise_map.mp nd).imp fun h e => h (by rw [e])
theorem EF.dictB {es : List (D × V × V)} {o : Obj} {ents : Array DictEntry} {ep : Nat} {P : Program} {w : World} {K : PySem.W.Frag} (e : EF K F s a kvs es o ents ep) (t : ∀ p ∈ kvs, ∃ b, p.1 = .bool b) :
    ∃ xs : List (Bool × Value), s.heap.DictOf (PpSet.boolK P w) a xs ∧ Paired relB es xs ∧ Paired (fun (p : D × D) (q : Bool × Value) => p.1 = .bool q.1 ∧ ∃ v, Dn K F v p.2 ∧ RelV v q.2) kvs xs := by
  obtain ⟨xs, h1, h2, h3, h4⟩ := toB (P := P) (w := w) t e.rel e.kv
  exact ⟨xs, ⟨o, ents, ep, e.ho, e.ex, e.dt, fun n m => h2 n (by simpa using m), h1, nodup_bool h4 e.nd⟩, h3, h4⟩
/-- a dict of numbers as one of the kit's -/
def relK (e : D × V × V) (x : Key × Value) : Prop := ∃ i, x.1 = .inl i ∧ e.1 = .int i ∧ e.2.1 = .int i ∧ RelV e.2.2 x.2
theorem toK {P : Program} {w : World} {K : PySem.W.Frag} : ∀ {kvs : List (D × D)} {es : List (D × V × V)} {ents : List DictEntry}, (∀ p ∈ kvs, ∃ i, p.1 = .int i) → Paired (fun (p : D × D) (q : D × V × V) => p.1 = q.1 ∧ Dn K F q.2.1 p.1 ∧ Dn K F q.2.2 p.2) kvs es → Paired kvE es ents →
    ∃ (ks : List (Key × V)) (xs : List (Key × Value)), Pairs (mixKind P w) ents xs ∧ (∀ n ∈ ents, ∃ k, (mixKind P w).is k n.key = true ∧ n.hash = (mixKind P w).hash k) ∧ Paired relK es xs ∧ KV ks xs ∧ Paired (fun (p : D × D) (q : Key × V) => p.1 = kD q.1 ∧ Dn K F q.2 p.2) kvs ks
  | [], _, _, _, r, p => by cases r; cases p; exact ⟨[], [], .nil, fun _ m => (nomatch m), .nil, .nil, .nil⟩
  | p :: kvs, _, _, t, r, z => by
    cases r with
    | @cons _ e _ es r1 r2 =>
      cases z with
      | @cons _ n _ ents z1 z2 =>
        obtain ⟨ks, xs, h1, h2, h3, h4, h5⟩ := toK (P := P) (w := w) (fun q m => t q (List.mem_cons_of_mem _ m)) r2 z2
        obtain ⟨i, kt⟩ := t p List.mem_cons_self
        obtain ⟨e1, e2, e3⟩ := r1
        obtain ⟨z1, zv, zh⟩ := z1
        have hb : e.2.1 = .int i := by
          rw [kt] at e2
          cases h : e.2.1 with
          | int c => rw [h] at e2; cases e2; rfl
          | _ => rw [h] at e2; cases e2
        rw [hb] at z1
        have zi : (mixKind P w).is (.inl i) n.key = true := kV_is (k := .inl i) z1
        refine ⟨(.inl i, e.2.2) :: ks, (.inl i, n.val) :: xs, .cons zi rfl h1, fun x m => ?_, .cons ⟨i, rfl, by rw [← e1, kt], hb, zv⟩ h3, .cons ⟨rfl, zv⟩ h4, .cons ⟨kt, e3⟩ h5⟩
        rcases List.mem_cons.mp m with rfl | m
        · exact ⟨.inl i, zi, by rw [zh, ← e1, kt]; rfl⟩
        · exact h2 x m
theorem nodup_key {xs : List (Key × Value)} {ks : List (Key × V)} {kvs : List (D × D)} {K : PySem.W.Frag} (h : Paired (fun (p : D × D) (q : Key × V) => p.1 = kD q.1 ∧ Dn K F q.2 p.2) kvs ks) (g : KV ks xs) (nd : (kvs.map (·.1)).Nodup) : (xs.map (·.1)).Nodup := by
  have e : ∀ {kvs : List (D × D)} {ks : List (Key × V)}, Paired (fun (p : D × D) (q : Key × V) => p.1 = kD q.1 ∧ Dn K F q.2 p.2) kvs ks → kvs.map (·.1) = (ks.map (·.1)).map kD := by
    intro kvs xs h
    induction h with
    | nil => rfl
    | cons h t ih => rw [List.map_cons, List.map_cons, List.map_cons, ih, h.1]
  have e2 : ∀ {ks : List (Key × V)} {xs : List (Key × Value)}, KV ks xs → ks.map (·.1) = xs.map (·.1) := by
    intro ks xs h
    unfold KV at h
    induction h with
    | nil => rfl
    | cons h t ih => rw [List.map_cons, List.map_cons, ih, h.1]
  rw [e h, e2 g] at nd
  exact (List.pairwise_map.mp nd).imp fun h e => h (by rw [e])
theorem EF.dictK {es : List (D × V × V)} {o : Obj} {ents : Array DictEntry} {ep : Nat} {P : Program} {w : World} {K : PySem.W.Frag} (e : EF K F s a kvs es o ents ep) (t : ∀ p ∈ kvs, ∃ i, p.1 = .int i) :
    ∃ (ks : List (Key × V)) (xs : List (Key × Value)), s.heap.DictOf (mixKind P w) a xs ∧ Paired relK es xs ∧ KV ks xs ∧ Paired (fun (p : D × D) (q : Key × V) => p.1 = kD q.1 ∧ Dn K F q.2 p.2) kvs ks := by
  obtain ⟨ks, xs, h1, h2, h3, h4, h5⟩ := toK (P := P) (w := w) t e.rel e.kv
  exact ⟨ks, xs, ⟨o, ents, ep, e.ho, e.ex, e.dt, fun n m => h2 n (by simpa using m), h1, nodup_key h5 h4 e.nd⟩, h3, h4, h5⟩
/-- numbers or texts -/
theorem DctA.kit (I : Inv X pins σ H s) (q : H a = some ho) (m : DctA X.K F a ho kvs) (t : (∀ p ∈ kvs, ∃ i, p.1 = .int i) ∨ ∀ p ∈ kvs, ∃ x, p.1 = .str x) :
    ∃ (ks : List (Key × V)) (xs : List (Key × Value)), (a == sysModules) = false ∧ Mut (H a) ∧ s.heap.DictOf (mixKind X.prog X.w) a xs ∧ KV ks xs ∧ Paired (fun (p : D × D) (q : Key × V) => p.1 = kD q.1 ∧ Dn X.K F q.2 p.2) kvs ks := by
  rcases m.forms with ⟨es, rfl, ht, rel⟩ | ⟨es, ep0, rfl, md, rel⟩
  · obtain ⟨z, hd, vs, kv, dd⟩ := I.hok _ _ q
    exact ⟨es, vs, hd, by rw [q]; trivial, dd, kv, rel⟩
  · obtain ⟨⟨ns, len, o, ents, ep, ho, hx, hd, pr, _⟩, _⟩ := I.hok _ _ q
    have ef : EF X.K F s a kvs es o ents ep := ⟨ho, hx, hd, pr, rel, ns, len, md.1⟩
    have ti : ∀ p ∈ kvs, ∃ i, p.1 = .int i := by
      rcases t with t | t
      · exact t
      · intro p hp
        exfalso
        obtain ⟨x, e⟩ := t p hp
        have hm := List.mem_map_of_mem (f := fun p : D × D => p.1) hp
        rcases md.2 with md | md | md
        · obtain ⟨i, e2⟩ := md _ hm
          have e2 : p.1 = .int i := e2
          rw [e] at e2; cases e2
        · obtain ⟨i, e2⟩ := md _ hm
          have e2 : p.1 = .bool i := e2
          rw [e] at e2; cases e2
        · obtain ⟨_, _, i, e2⟩ := md _ hm
          have e2 : p.1 = .tuple i := e2
          rw [e] at e2; cases e2
    obtain ⟨ks, xs, d1, _, d3, d4⟩ := ef.dictK (P := X.prog) (w := X.w) ti
    exact ⟨ks, xs, ns, by rw [q]; trivial, d1, d3, d4⟩
theorem val_rel {K : PySem.W.Frag} {ks : List (Key × V)} {xs : List (Key × Value)} (h : Paired (fun (p : D × D) (q : Key × V) => p.1 = kD q.1 ∧ Dn K F q.2 p.2) kvs ks) (g : KV ks xs) : Paired (fun (p : D × D) (q : Key × Value) => p.1 = kD q.1 ∧ ∃ v, Dn K F v p.2 ∧ RelV v q.2) kvs xs := by
  unfold KV at g
  induction h generalizing xs with
  | nil => cases g; exact .nil
  | cons h t ih =>
    cases g with
    | cons g1 g2 => exact .cons ⟨by rw [h.1, g1.1], _, h.2, g1.2⟩ (ih g2)
/-! ### in -/
theorem keyOk_all (hk : keyOk kvs k = true) : kmode k ≠ 0 ∧ ∀ p ∈ kvs, kmode p.1 = kmode k := by
  unfold keyOk at hk
  rw [Bool.and_eq_true] at hk
  exact ⟨of_decide_eq_true hk.1, fun p m => of_decide_eq_true (List.all_eq_true.mp hk.2 p m)⟩
theorem dn_kD {K : PySem.W.Frag} {kk : Key} (h : Dn K F y (kD kk)) : y = kV kk := by
  cases kk with
  | inl i => cases h; rfl
  | inr x => cases h; rfl
theorem dn_T {K : PySem.W.Frag} (h : Dn K F y k) (t : KeyT k) : ∃ b, y = .ref b := by
  obtain ⟨ys, ey⟩ := t.2.2
  subst ey
  cases h
  exact ⟨_, rfl⟩
theorem dn_B {K : PySem.W.Frag} {b : Bool} (h : Dn K F y (.bool b)) : y = .bl b := by
  cases h
  rfl
theorem keyRoom {A : Around} (hu : A.units + 20 < cLine) : KeyRoom A.in1 := by
  show A.units + 1 + 16 < cLine
  omega
/-- the ways of a key -/
theorem mode_cases (I : Inv X pins σ H s) (q : H a = some ho) (m : DctA X.K F a ho kvs) (sub : Ex F H) (hk : keyOk kvs k = true) (dk : Dn X.K F y k) (ry : RelV y u) :
    (∃ x ks xs, (a == sysModules) = false ∧ Mut (H a) ∧ k = .str x ∧ y = .str x ∧ s.heap.DictOf (mixKind X.prog X.w) a xs ∧ KV ks xs ∧ Paired (fun (p : D × D) (q : Key × V) => p.1 = kD q.1 ∧ Dn X.K F q.2 p.2) kvs ks ∧ (∀ p ∈ kvs, ∃ x, p.1 = .str x)) ∨
    (∃ i es o ents ep ks xs, EF X.K F s a kvs es o ents ep ∧ Mut (H a) ∧ k = .int i ∧ y = .int i ∧ s.heap.DictOf (mixKind X.prog X.w) a xs ∧ Paired relK es xs ∧ KV ks xs ∧ Paired (fun (p : D × D) (q : Key × V) => p.1 = kD q.1 ∧ Dn X.K F q.2 p.2) kvs ks ∧ (∀ p ∈ kvs, ∃ i, p.1 = .int i)) ∨
    (∃ b es o ents ep xs, EF X.K F s a kvs es o ents ep ∧ Mut (H a) ∧ k = .bool b ∧ u = .bool b ∧ s.heap.DictOf (PpSet.boolK X.prog X.w) a xs ∧ Paired relB es xs ∧ Paired (fun (p : D × D) (q : Bool × Value) => p.1 = .bool q.1 ∧ ∃ v, Dn X.K F v p.2 ∧ RelV v q.2) kvs xs ∧ (∀ p ∈ kvs, ∃ b, p.1 = .bool b)) ∨
    (∃ b es o ents ep xs, EF X.K F s a kvs es o ents ep ∧ Mut (H a) ∧ y = .ref b ∧ u = .ref b ∧ (tKind X.prog X.w).is s.heap k b ∧ s.heap.DictOfH (tKind X.prog X.w) a xs ∧ Paired rel3 es xs ∧ Paired (fun (p : D × D) (q : D × Addr × Value) => p.1 = id q.1 ∧ ∃ v, Dn X.K F v p.2 ∧ RelV v q.2.2) kvs xs ∧ (∀ p ∈ kvs, KeyT p.1)) := by
  obtain ⟨h0, hall⟩ := keyOk_all hk
  rcases kmode_le k with h1 | h1 | h1 | h1 | h1
  · exact absurd h1 h0
  · right; left
    obtain ⟨i, rfl⟩ := kmode1 h1
    obtain ⟨es, o, ents, ep, e, mu⟩ := m.ef I q hk (by rw [h1]; decide)
    have t : ∀ p ∈ kvs, ∃ i, p.1 = .int i := fun p hp => kmode1 ((hall p hp).trans h1)
    obtain ⟨ks, xs, d1, d2, d3, d4⟩ := e.dictK (P := X.prog) (w := X.w) t
    exact ⟨i, es, o, ents, ep, ks, xs, e, mu, rfl, dn_kD (kk := .inl i) dk, d1, d2, d3, d4, t⟩
  · right; right; left
    obtain ⟨b, rfl⟩ := kmode2 h1
    obtain ⟨es, o, ents, ep, e, mu⟩ := m.ef I q hk (by rw [h1]; decide)
    have t : ∀ p ∈ kvs, ∃ b, p.1 = .bool b := fun p hp => kmode2 ((hall p hp).trans h1)
    obtain ⟨xs, d1, d2, d3⟩ := e.dictB (P := X.prog) (w := X.w) t
    have ey := dn_B dk
    subst ey
    exact ⟨b, es, o, ents, ep, xs, e, mu, rfl, ry, d1, d2, d3, t⟩
  · right; right; right
    have kt := kmode3 h1
    obtain ⟨es, o, ents, ep, e, mu⟩ := m.ef I q hk (by rw [h1]; decide)
    have t : ∀ p ∈ kvs, KeyT p.1 := fun p hp => kmode3 ((hall p hp).trans h1)
    obtain ⟨xs, d1, d2, d3⟩ := e.dictH I sub t
    obtain ⟨b, rfl⟩ := dn_T dk kt
    obtain ⟨as, ra⟩ := Dn.reads I k (.ref b) (.ref b) (dk.mono sub) rfl
    exact ⟨b, es, o, ents, ep, xs, e, mu, rfl, ry, ⟨kt, as, ra⟩, d1, d2, d3, t⟩
  · left
    obtain ⟨x, rfl⟩ := kmode4 h1
    have t : ∀ p ∈ kvs, ∃ x, p.1 = .str x := fun p hp => kmode4 ((hall p hp).trans h1)
    obtain ⟨ks, xs, d0, mu, d1, d3, d4⟩ := m.kit I q (.inr t)
    exact ⟨x, ks, xs, d0, mu, rfl, dn_kD (kk := .inr x) dk, d1, d3, d4, t⟩
/-- for what only reads -/
theorem read_cases (I : Inv X pins σ H s) (q : H a = some ho) (m : DctA X.K F a ho kvs) (sub : Ex F H) (hk : keyOk kvs k = true) (dk : Dn X.K F y k) (ry : RelV y u) :
    (∃ (κ : Type) (de : DecidableEq κ) (knd : @KeyKind X.prog X.w κ de) (f : κ → D) (kk : κ) (xs : List (κ × Value)), (∀ a b, f a = f b → a = b) ∧ k = f kk ∧ knd.is kk u = true ∧ (a == sysModules) = false ∧ s.heap.DictOf knd a xs ∧ Paired (fun (p : D × D) (q : κ × Value) => p.1 = f q.1 ∧ ∃ v, Dn X.K F v p.2 ∧ RelV v q.2) kvs xs) ∨
    (∃ b xs, u = .ref b ∧ (a == sysModules) = false ∧ (tKind X.prog X.w).is s.heap k b ∧ s.heap.DictOfH (tKind X.prog X.w) a xs ∧ Paired (fun (p : D × D) (q : D × Addr × Value) => p.1 = id q.1 ∧ ∃ v, Dn X.K F v p.2 ∧ RelV v q.2.2) kvs xs) := by
  rcases mode_cases I q m sub hk dk ry with ⟨x, ks, xs, d0, mu, rfl, rfl, d1, d3, d4, t⟩ | ⟨i, es, o, ents, ep, ks, xs, e, mu, rfl, rfl, d1, d2, d3, d4, t⟩ | ⟨b, es, o, ents, ep, xs, e, mu, rfl, rfl, dd, r1, r2, _⟩ | ⟨b, es, o, ents, ep, xs, e, mu, rfl, rfl, ki, dd, r1, r2, _⟩
  · exact .inl ⟨Key, _, mixKind X.prog X.w, kD, .inr x, xs, kD_inj, rfl, kV_is (k := .inr x) ry, d0, d1, val_rel d4 d3⟩
  · exact .inl ⟨Key, _, mixKind X.prog X.w, kD, .inl i, xs, kD_inj, rfl, kV_is (k := .inl i) ry, e.ns, d1, val_rel d4 d3⟩
  · exact .inl ⟨Bool, _, PpSet.boolK X.prog X.w, .bool, b, xs, bool_injD, rfl, PpSet.boolK_is X.prog X.w b, e.ns, dd, r2⟩
  · exact .inr ⟨b, xs, rfl, e.ns, ki, dd, r2⟩
theorem valueAt_getMG {κ : Type} [DecidableEq κ] {f : κ → D} {kk : κ} {xs : List (κ × Value)} (fi : ∀ a b, f a = f b → a = b) (rel : Paired (fun (p : D × D) (q : κ × Value) => p.1 = f q.1 ∧ ∃ v, Dn X.K F v p.2 ∧ RelV v q.2) kvs xs) : OptR (fun d (x : Value) => ∃ v, Dn X.K F v d ∧ RelV v x) (getM kvs (f kk)) (valueAt xs kk) :=
  getM_rel (R := fun d (x : Value) => ∃ v, Dn X.K F v d ∧ RelV v x) fi kk rel
theorem atKey_getM {xs : List (D × Addr × Value)} (rel : Paired (fun (p : D × D) (q : D × Addr × Value) => p.1 = id q.1 ∧ ∃ v, Dn X.K F v p.2 ∧ RelV v q.2.2) kvs xs) : OptR (fun d (x : Addr × Value) => ∃ v, Dn X.K F v d ∧ RelV v x.2) (getM kvs k) (atKey xs k) :=
  getM_rel (R := fun d (x : Addr × Value) => ∃ v, Dn X.K F v d ∧ RelV v x.2) (f := id) (fun _ _ h => h) k rel
theorem M_in {Q : Value → Shared → Prop} (hu : A.units + 20 < cLine) (I : Inv X pins σ H s) (q : H a = some ho) (m : DctA X.K F a ho kvs) (sub : Ex F H) (hk : keyOk kvs k = true) (dk : Dn X.K F y k) (ry : RelV y u)
    (h : ∀ s', Inv X pins σ H s' → Q (.bool (getM kvs k).isSome) s') : wpAny (model X.prog X.w) A (compareOp .In u (.ref a)) Q E s := by
  rcases read_cases I q m sub hk dk ry with ⟨κ, de, knd, f, kk, xs, fi, rfl, ki, ns, dd, r2⟩ | ⟨b, xs, rfl, ns, ki, dd, r2⟩
  · refine wpAny_in_of ki ns dd.mapOf ?_
    rw [← (valueAt_getMG fi r2).isSome]
    exact h _ (I.tok _)
  · refine wpAny_in_heap (keyRoom hu) ki ns dd ?_
    rw [← (atKey_getM r2).isSome]
    exact h _ (I.tok _)
theorem M_notIn {Q : Value → Shared → Prop} (hu : A.units + 20 < cLine) (I : Inv X pins σ H s) (q : H a = some ho) (m : DctA X.K F a ho kvs) (sub : Ex F H) (hk : keyOk kvs k = true) (dk : Dn X.K F y k) (ry : RelV y u)
    (h : ∀ s', Inv X pins σ H s' → Q (.bool (!(getM kvs k).isSome)) s') : wpAny (model X.prog X.w) A (compareOp .NotIn u (.ref a)) Q E s := by
  rcases read_cases I q m sub hk dk ry with ⟨κ, de, knd, f, kk, xs, fi, rfl, ki, ns, dd, r2⟩ | ⟨b, xs, rfl, ns, ki, dd, r2⟩
  · refine wpAny_notIn_of ki ns dd.mapOf ?_
    rw [← (valueAt_getMG fi r2).isSome]
    exact h _ (I.tok _)
  · refine wpAny_notIn_heap (keyRoom hu) ki ns dd ?_
    rw [← (atKey_getM r2).isSome]
    exact h _ (I.tok _)
theorem M_getItem {Q : Value → Shared → Prop} (hu : A.units + 20 < cLine) (I : Inv X pins σ H s) (q : H a = some ho) (m : DctA X.K F a ho kvs) (sub : Ex F H) (hk : keyOk kvs k = true) (dk : Dn X.K F y k) (ry : RelV y u) (hg : getM kvs k = some d)
    (h : ∀ v w s', Inv X pins σ H s' → Dn X.K F v d → RelV v w → Q w s') : wpAny (model X.prog X.w) A (getItem (.ref a) u) Q E s := by
  rcases read_cases I q m sub hk dk ry with ⟨κ, de, knd, f, kk, xs, fi, rfl, ki, ns, dd, r2⟩ | ⟨b, xs, rfl, ns, ki, dd, r2⟩
  · obtain ⟨w, e1, v, e2, e3⟩ := (valueAt_getMG fi r2).some_of hg
    exact wpAny_getItem_of ki dd.mapOf e1 (h v w _ (I.tok _) e2 e3)
  · obtain ⟨w, e1, v, e2, e3⟩ := (atKey_getM r2).some_of hg
    exact wpAny_getItem_heap (keyRoom hu) ki dd e1 (h v w.2 _ (I.tok _) e2 e3)
/-- d.get(y, x) -/
theorem M_get2 {z : V} {r : Value} {dz : D} {Q : Value → Shared → Prop} (hu : A.units + 20 < cLine) (I : Inv X pins σ H s) (q : H a = some ho) (m : DctA X.K F a ho kvs) (sub : Ex F H) (hk : keyOk kvs k = true) (dk : Dn X.K F y k) (ry : RelV y u) (dx : Dn X.K F z dz) (rz : RelV z r)
    (h : ∀ v w s', Inv X pins σ H s' → Dn X.K F v ((getM kvs k).getD dz) → RelV v w → Q w s') : wpAny (model X.prog X.w) A (call (.builtin "dict.get") [.ref a, u, r]) Q E s := by
  rcases read_cases I q m sub hk dk ry with ⟨κ, de, knd, f, kk, xs, fi, rfl, ki, ns, dd, r2⟩ | ⟨b, xs, rfl, ns, ki, dd, r2⟩
  · refine call_meetsIn PySem.F.slot_dict_get dd.mapOf.typeIs PySem.F.entry_dict_get (PySem.F.args_dict_get_3 _ _ _) (meets_dict_get_default knd a ki ns r) ⟨_, dd.mapOf, ?_⟩
    have z := valueAt_getMG (kk := kk) fi r2
    cases e1 : getM kvs (f kk) with
    | none =>
      cases e2 : valueAt xs kk with
      | none => exact h _ _ _ (I.tok _) (by rw [e1]; exact dx) rz
      | some v => rw [e1, e2] at z; exact False.elim z
    | some d =>
      obtain ⟨v, e2, w, e3, e4⟩ := z.some_of e1
      rw [e2]
      exact h w _ _ (I.tok _) (by rw [e1]; exact e3) e4
  · refine call_meetsIn PySem.F.slot_dict_get dd.typeIs PySem.F.entry_dict_get (PySem.F.args_dict_get_3 _ _ _) (meetsH_dict_get_default (tKind X.prog X.w) a b ns r) ⟨keyRoom hu, k, xs, ki, dd, ?_⟩
    have z := atKey_getM (k := k) r2
    cases e1 : getM kvs k with
    | none =>
      cases e2 : atKey xs k with
      | none => exact h _ _ _ (I.tok _) (by rw [e1]; exact dx) rz
      | some v => rw [e1, e2] at z; exact False.elim z
    | some d =>
      obtain ⟨v, e2, w, e3, e4⟩ := z.some_of e1
      rw [e2]
      exact h w _ _ (I.tok _) (by rw [e1]; exact e3) e4
/-! ### d[y] = v -/
def putE (es : List (D × V × V)) (k : D) (y v : V) : List (D × V × V) := if (es.any fun e => decide (e.1 = k)) = true then es.map (fun e => if e.1 = k then (e.1, e.2.1, v) else e) else es ++ [(k, y, v)]
theorem length_putE (es : List (D × V × V)) (k : D) (y v : V) : (putE es k y v).length ≤ es.length + 1 := by
  unfold putE
  split
  · rw [List.length_map]; omega
  · rw [List.length_append, List.length_cons, List.length_nil]; omega
theorem any_at {xs : List (D × Addr × Value)} : (xs.any fun e => decide (e.1 = k)) = (atKey xs k).isSome := by
  unfold atKey
  rw [Option.isSome_map]
  induction xs with
  | nil => rfl
  | cons x xs ih =>
    rw [List.any_cons, List.find?_cons]
    by_cases e : x.1 = k
    · simp [e]
    · simp [e, ih]
theorem putE_H {es : List (D × V × V)} {xs : List (D × Addr × Value)} {b : Addr} (h : Paired rel3 es xs) (rv : RelV v r) : Paired rel3 (putE es k (.ref b) v) (storedH xs k b r) := by
  have ha : (es.any fun e => decide (e.1 = k)) = xs.any fun e => decide (e.1 = k) := by
    induction h with
    | nil => rfl
    | cons h t ih => rw [List.any_cons, List.any_cons, ih, h.1]
  unfold putE storedH
  rw [ha, any_at]
  split
  · clear ha
    rename_i hs
    clear hs
    induction h with
    | nil => exact .nil
    | @cons e x _ _ h t ih =>
      refine .cons ?_ ih
      unfold putAt
      by_cases q : x.1 = k
      · rw [if_pos q]
        show rel3 (if e.1 = k then (e.1, e.2.1, v) else e) _
        rw [if_pos (h.1.trans q)]
        exact ⟨h.1, h.2.1, rv⟩
      · rw [if_neg q]
        show rel3 (if e.1 = k then (e.1, e.2.1, v) else e) _
        rw [if_neg fun z => q (h.1.symm.trans z)]
        exact h
  · exact Paired.snoc h ⟨rfl, rfl, rv⟩
theorem putE_B {es : List (D × V × V)} {xs : List (Bool × Value)} {b : Bool} (h : Paired relB es xs) (rv : RelV v r) : Paired relB (putE es (.bool b) (.bl b) v) (stored xs b r) := by
  have ha : (es.any fun e => decide (e.1 = .bool b)) = xs.any fun e => decide (e.1 = b) := by
    induction h with
    | nil => rfl
    | @cons e x _ _ h t ih =>
      rw [List.any_cons, List.any_cons, ih, h.1]
      congr 1
      by_cases q : x.1 = b
      · rw [q]; simp
      · rw [decide_eq_false q, decide_eq_false fun z => q (bool_injD _ _ z)]
  unfold putE stored
  rw [ha]
  split
  · clear ha
    rename_i hs
    clear hs
    induction h with
    | nil => exact .nil
    | @cons e x _ _ h t ih =>
      refine .cons ?_ ih
      by_cases q : x.1 = b
      · show relB (if e.1 = .bool b then (e.1, e.2.1, v) else e) (if x.1 = b then (x.1, r) else x)
        rw [if_pos q, if_pos (by rw [h.1, q])]
        exact ⟨h.1, h.2.1, rv⟩
      · show relB (if e.1 = .bool b then (e.1, e.2.1, v) else e) (if x.1 = b then (x.1, r) else x)
        rw [if_neg q, if_neg fun z => q (bool_injD _ _ (h.1.symm.trans z))]
        exact h
  · exact Paired.snoc h ⟨rfl, rfl, rv⟩
theorem putE_K {es : List (D × V × V)} {xs : List (Key × Value)} {i : Int} (h : Paired relK es xs) (rv : RelV v r) : Paired relK (putE es (.int i) (.int i) v) (stored xs (.inl i) r) := by
  have iff : ∀ {e : D × V × V} {x : Key × Value}, relK e x → (e.1 = .int i ↔ x.1 = .inl i) := by
    rintro e x ⟨j, h1, h2, _⟩
    rw [h1, h2]
    constructor
    · intro z; injection z with z; rw [z]
    · intro z; injection z with z; rw [z]
  have ha : (es.any fun e => decide (e.1 = .int i)) = xs.any fun e => decide (e.1 = .inl i) := by
    induction h with
    | nil => rfl
    | @cons e x _ _ h t ih =>
      rw [List.any_cons, List.any_cons, ih]
      congr 1
      exact decide_eq_decide.mpr (iff h)
  unfold putE stored
  rw [ha]
  split
  · clear ha
    rename_i hs
    clear hs
    induction h with
    | nil => exact .nil
    | @cons e x _ _ h t ih =>
      refine .cons ?_ ih
      by_cases q : x.1 = .inl i
      · show relK (if e.1 = .int i then (e.1, e.2.1, v) else e) (if x.1 = .inl i then (x.1, r) else x)
        rw [if_pos q, if_pos ((iff h).mpr q)]
        obtain ⟨j, h1, h2, h3, _⟩ := h
        exact ⟨j, h1, h2, h3, rv⟩
      · show relK (if e.1 = .int i then (e.1, e.2.1, v) else e) (if x.1 = .inl i then (x.1, r) else x)
        rw [if_neg q, if_neg fun z => q ((iff h).mp z)]
        exact h
  · exact Paired.snoc h ⟨i, rfl, rfl, rfl, rv⟩
theorem nodup_putM {β : Type} {l : List (D × β)} {v : β} (nd : (l.map (·.1)).Nodup) : ((putM l k v).map (·.1)).Nodup := by
  unfold putM
  split
  · rw [List.map_map]
    have e : ((fun x : D × β => x.1) ∘ fun e : D × β => if e.1 = k then (e.1, v) else e) = fun x => x.1 := by
      funext x
      show (if x.1 = k then (x.1, v) else x).1 = x.1
      split <;> rfl
    rw [e]
    exact nd
  · rename_i h
    rw [List.map_append, List.map_cons, List.map_nil]
    refine List.nodup_append.mpr ⟨nd, List.nodup_cons.mpr ⟨(fun m => nomatch m), List.nodup_nil⟩, fun x hx z hz e => ?_⟩
    rw [List.mem_singleton] at hz
    obtain ⟨p, hp, rfl⟩ := List.mem_map.mp hx
    refine h (List.any_eq_true.mpr ⟨p, hp, ?_⟩)
    rw [decide_eq_true_eq]
    exact e.trans hz
theorem mem_putM {β : Type} {l : List (D × β)} {v : β} {p : D × β} (h : p ∈ putM l k v) : p.1 = k ∨ ∃ p' ∈ l, p.1 = p'.1 := by
  unfold putM at h
  split at h
  · obtain ⟨q, hq, rfl⟩ := List.mem_map.mp h
    exact .inr ⟨q, hq, by split <;> rfl⟩
  · rcases List.mem_append.mp h with h | h
    · exact .inr ⟨p, h, rfl⟩
    · rw [List.mem_singleton] at h
      subst h
      exact .inl rfl
theorem putM_ne {β : Type} {l : List (D × β)} {v : β} : (putM l k v).map (·.1) ≠ [] := by
  unfold putM
  split
  · rename_i h
    cases l with
    | nil => cases h
    | cons _ _ => simp
  · simp
/-- the relation of the data and the entries after a write -/
theorem rel_put {K : PySem.W.Frag} {es : List (D × V × V)} (dk : Dn K F y k) (dv : Dn K F v d) (h : Paired (fun (p : D × D) (q : D × V × V) => p.1 = q.1 ∧ Dn K F q.2.1 p.1 ∧ Dn K F q.2.2 p.2) kvs es) :
    Paired (fun (p : D × D) (q : D × V × V) => p.1 = q.1 ∧ Dn K F q.2.1 p.1 ∧ Dn K F q.2.2 p.2) (putM kvs k d) (putE es k y v) := by
  have ha : (kvs.any fun e => decide (e.1 = k)) = es.any fun e => decide (e.1 = k) := by
    induction h with
    | nil => rfl
    | cons h t ih => rw [List.any_cons, List.any_cons, ih, h.1]
  unfold putM putE
  rw [ha]
  split
  · clear ha
    rename_i hs
    clear hs
    induction h with
    | nil => exact .nil
    | @cons p e _ _ h t ih =>
      refine .cons ?_ ih
      obtain ⟨h1, h2, h3⟩ := h
      show (if p.1 = k then (p.1, d) else p).1 = (if e.1 = k then (e.1, e.2.1, v) else e).1 ∧ Dn K F (if e.1 = k then (e.1, e.2.1, v) else e).2.1 (if p.1 = k then (p.1, d) else p).1 ∧ Dn K F (if e.1 = k then (e.1, e.2.1, v) else e).2.2 (if p.1 = k then (p.1, d) else p).2
      by_cases q : p.1 = k
      · rw [if_pos q, if_pos (h1.symm.trans q)]
        exact ⟨h1, h2, dv⟩
      · rw [if_neg q, if_neg fun z => q (h1.trans z)]
        exact ⟨h1, h2, h3⟩
  · exact Paired.snoc h ⟨rfl, dk, dv⟩
theorem rel_split {K : PySem.W.Frag} : ∀ {es : List (D × V × V)} {kvs : List (D × D)}, Paired (fun (p : D × D) (q : D × V × V) => p.1 = q.1 ∧ Dn K F q.2.1 p.1 ∧ Dn K F q.2.2 p.2) kvs es → kvs.map (·.1) = es.map (·.1) ∧ DnAll K F (es.map (·.2.1)) (kvs.map (·.1)) ∧ DnAll K F (es.map (·.2.2)) (kvs.map (·.2))
  | _, _, .nil => ⟨rfl, .nil, .nil⟩
  | _, _, .cons h t => by
    obtain ⟨h1, h2, h3⟩ := rel_split t
    obtain ⟨e1, e2, e3⟩ := h
    exact ⟨by rw [List.map_cons, List.map_cons, h1, e1], .cons e2 h2, .cons e3 h3⟩
theorem dctE_new {es : List (D × V × V)} {ep0 : Nat} {h' : Heap} {P : Program} {w : World} {H' : Hp} (ns : (a == sysModules) = false) (len : es.length ≤ sizeLine) (z : ∃ o ents ep, h'.get? a = some o ∧ o.ExactDict ∧ o.data = .dict ents ep ∧ Paired kvE es ents.toList ∧ ep = ep0) : ObjOk P w H' h' a (dctE es ep0 a) := by
  refine ⟨⟨ns, len, z⟩, ?_, fun h1 h2 p q => ?_⟩
  · obtain ⟨o, _, _, e, _⟩ := z
    exact ⟨o, e⟩
  · obtain ⟨x1, x2, o, ents, ep, e, r⟩ := p
    exact ⟨x1, x2, o, ents, ep, q o e, r⟩
theorem kv_of3 {P : Program} {w : World} : ∀ {es : List (D × V × V)} {xs : List (D × Addr × Value)}, Paired rel3 es xs → Paired kvE es (xs.map (entryOfKey (tKind P w)))
  | _, _, .nil => .nil
  | e :: _, x :: _, .cons h t => by
    obtain ⟨h1, h2, h3⟩ := h
    refine .cons ⟨?_, h3, ?_⟩ (kv_of3 t)
    · rw [h2]; rfl
    · show hashD x.1 = hashD e.1
      rw [h1]
theorem kv_ofB {P : Program} {w : World} : ∀ {es : List (D × V × V)} {xs : List (Bool × Value)} {ents : List DictEntry}, Paired relB es xs → Pairs (PpSet.boolK P w) ents xs → (∀ n ∈ ents, ∃ k, (PpSet.boolK P w).is k n.key = true ∧ n.hash = (PpSet.boolK P w).hash k) → Paired kvE es ents
  | _, _, _, .nil, p, _ => by cases p; exact .nil
  | e :: _, x :: _, _, .cons h t, p, ks => by
    cases p with
    | @cons n _ _ _ p1 p2 p3 =>
      obtain ⟨h1, h2, h3⟩ := h
      have nk : n.key = .bool x.1 := PpSet.isB_shape p1
      refine .cons ⟨?_, ?_, ?_⟩ (kv_ofB t p3 fun m hm => ks m (List.mem_cons_of_mem _ hm))
      · rw [h2, nk]; rfl
      · rw [p2]; exact h3
      · obtain ⟨b, k1, k2⟩ := ks n List.mem_cons_self
        rw [k2, h1]
        have : n.key = .bool b := PpSet.isB_shape k1
        rw [nk] at this
        injection this with this
        rw [← this]; rfl
theorem kv_ofK {P : Program} {w : World} : ∀ {es : List (D × V × V)} {xs : List (Key × Value)} {ents : List DictEntry}, Paired relK es xs → Pairs (mixKind P w) ents xs → (∀ n ∈ ents, ∃ k, (mixKind P w).is k n.key = true ∧ n.hash = (mixKind P w).hash k) → Paired kvE es ents
  | _, _, _, .nil, p, _ => by cases p; exact .nil
  | e :: _, x :: _, _, .cons h t, p, ks => by
    cases p with
    | @cons n _ _ _ p1 p2 p3 =>
      obtain ⟨i, h1, h2, h3, h4⟩ := h
      rw [h1] at p1
      obtain ⟨tk, nk⟩ : ∃ tk, n.key = .int i tk := Value.isInt_shape p1
      refine .cons ⟨?_, ?_, ?_⟩ (kv_ofK t p3 fun m hm => ks m (List.mem_cons_of_mem _ hm))
      · rw [h3, nk]; exact ⟨tk, rfl⟩
      · rw [p2]; exact h4
      · obtain ⟨b, k1, k2⟩ := ks n List.mem_cons_self
        have := (mixKind P w).inj n.key b (.inl i) k1 p1
        subst this
        rw [k2, h2]; rfl
/-- the object behind a write of a text -/
theorem text_put {K : PySem.W.Frag} {ks : List (Key × V)} {x : Str} {v : V} (t : ∀ p ∈ kvs, ∃ x, p.1 = .str x) (h : Paired (fun (p : D × D) (q : Key × V) => p.1 = kD q.1 ∧ Dn K F q.2 p.2) kvs ks) : TextK (putK ks (.inr x) v) := by
  have all : ∀ {kvs : List (D × D)} {ks : List (Key × V)}, Paired (fun (p : D × D) (q : Key × V) => p.1 = kD q.1 ∧ Dn K F q.2 p.2) kvs ks → (∀ p ∈ kvs, ∃ x, p.1 = .str x) → ∀ e ∈ ks, ∃ x, e.1 = .inr x := by
    intro kvs ks h
    induction h with
    | nil => intro _ e m; cases m
    | @cons p e _ _ h _ ih =>
      intro t q m
      rcases List.mem_cons.mp m with rfl | m
      · obtain ⟨x, hx⟩ := t p List.mem_cons_self
        have z := h.1
        rw [hx] at z
        cases hq : q.1 with
        | inl i => rw [hq] at z; cases z
        | inr y => exact ⟨y, rfl⟩
      · exact ih (fun p m => t p (List.mem_cons_of_mem _ m)) q m
  have al := all h t
  unfold putK
  split
  · rename_i ha
    constructor
    · intro z
      rw [List.map_eq_nil_iff] at z
      rw [z] at ha
      cases ha
    · intro e m
      obtain ⟨e', m', rfl⟩ := List.mem_map.mp m
      obtain ⟨y, hy⟩ := al e' m'
      refine ⟨y, ?_⟩
      split <;> exact hy
  · constructor
    · simp
    · intro e m
      rcases List.mem_append.mp m with m | m
      · exact al e m
      · rw [List.mem_singleton] at m
        subst m
        exact ⟨x, rfl⟩
theorem M_setItem {Q : Unit → Shared → Prop} (hu : A.units + 20 < cLine) (I : Inv X pins σ H s) (q : H a = some ho) (m : DctA X.K F a ho kvs) (sub : Ex F H) (hk : keyOk kvs k = true) (hl : kvs.length < sizeLine) (dk : Dn X.K F y k) (ry : RelV y u) (dv : Dn X.K F v d) (rv : RelV v r)
    (h : ∀ ho' s', Inv X pins σ (upd H a ho') s' → DctA X.K F a ho' (putM kvs k d) → Q () s') : wpAny (model X.prog X.w) A (setItem (.ref a) u r) Q E s := by
  rcases mode_cases I q m sub hk dk ry with ⟨x, ks, xs, d0, mu, rfl, rfl, dd, kv, rel, t⟩ | ⟨i, es, o, ents, ep, ks, xs, e, mu, rfl, rfl, dd, r1, kv, rel, t⟩ | ⟨b, es, o, ents, ep, xs, e, mu, rfl, rfl, dd, r1, r2, t⟩ | ⟨b, es, o, ents, ep, xs, e, mu, rfl, rfl, ki, dd, r1, r2, t⟩
  · have hl2 : ks.length < sizeLine := by rw [← Paired.length rel]; exact hl
    have hz : xs.length ≤ sizeLine := by rw [← kv.length]; omega
    have hp := length_putK ks (.inr x) v
    refine wpAny_setItem_pairs (hsz := hz) (kV_is (k := .inr x) ry) dd fun h' dd' hs => h (.dK (putK ks (.inr x) v)) _ (d_write I mu hs ?_ (dk_new (by omega) d0 (kv.put (.inr x) rv) dd')) ?_
    · obtain ⟨o, _, _, e1, _⟩ := dd'
      exact ⟨o, e1⟩
    · have z := putM_rel (R := fun d v => Dn X.K F v d) kD_inj (.inr x) dv rel
      obtain ⟨z1, z2⟩ := of_pair z
      exact .inl ⟨_, rfl, text_put t rel, z1, z2⟩
  · have hz : xs.length ≤ sizeLine := by rw [← kv.length, ← Paired.length rel]; omega
    have he : es.length < sizeLine := by rw [← Paired.length e.rel]; exact hl
    refine wpAny_setItem_pairs (hsz := hz) (kV_is (k := .inl i) ry) dd fun h' dd' hs => ?_
    obtain ⟨o', ents', ep', g1, g2, g3, g4, g5, g6⟩ := dd'
    have hp := length_putE es (.int i) (.int i) v
    refine h (dctE (putE es (.int i) (.int i) v) ep' a) _ (d_write I mu hs ⟨o', g1⟩ (dctE_new e.ns (by omega) ⟨o', ents', ep', g1, g2, g3, kv_ofK (P := X.prog) (w := X.w) (putE_K r1 rv) g5 fun n hn => g4 n (by simpa using hn), rfl⟩)) ?_
    obtain ⟨z1, z2, z3⟩ := rel_split (rel_put dk dv e.rel)
    refine .inr ⟨_, _, rfl, z1, ⟨nodup_putM e.nd, .inl fun x hx => ?_⟩, z2, z3⟩
    obtain ⟨p, hp, rfl⟩ := List.mem_map.mp hx
    rcases mem_putM hp with z | ⟨p', hp', z⟩
    · exact ⟨i, z⟩
    · rw [z]; exact t p' hp'
  · have ey := dn_B dk
    subst ey
    have hz : xs.length < sizeLine := by rw [← Paired.length r2]; exact hl
    have he : es.length < sizeLine := by rw [← Paired.length e.rel]; exact hl
    refine wpAny_setItem_pairs (hsz := by omega) (PpSet.boolK_is X.prog X.w b) dd fun h' dd' hs => ?_
    obtain ⟨o', ents', ep', g1, g2, g3, g4, g5, g6⟩ := dd'
    have hp := length_putE es (.bool b) (.bl b) v
    refine h (dctE (putE es (.bool b) (.bl b) v) ep' a) _ (d_write I mu hs ⟨o', g1⟩ (dctE_new e.ns (by omega) ⟨o', ents', ep', g1, g2, g3, kv_ofB (P := X.prog) (w := X.w) (putE_B r1 rv) g5 fun n hn => g4 n (by simpa using hn), rfl⟩)) ?_
    obtain ⟨z1, z2, z3⟩ := rel_split (rel_put dk dv e.rel)
    refine .inr ⟨_, _, rfl, z1, ⟨nodup_putM e.nd, .inr (.inl fun x hx => ?_)⟩, z2, z3⟩
    obtain ⟨p, hp, rfl⟩ := List.mem_map.mp hx
    rcases mem_putM hp with z | ⟨p', hp', z⟩
    · exact ⟨b, z⟩
    · rw [z]; exact t p' hp'
  · have kt : KeyT k := ki.1
    have hz : xs.length < sizeLine := by rw [← Paired.length r2]; exact hl
    have he : es.length < sizeLine := by rw [← Paired.length e.rel]; exact hl
    refine wpAny_setItem_heap (hsz := by omega) (keyRoom hu) ki dd fun h' dd' hs => ?_
    obtain ⟨o', ents', ep', g1, g2, g3, g4, g5, g6⟩ := dd'
    have hp := length_putE es k (.ref b) v
    refine h (dctE (putE es k (.ref b) v) ep' a) _ (d_write I mu hs ⟨o', g1⟩ (dctE_new e.ns (by omega) ⟨o', ents', ep', g1, g2, g3, by rw [g4]; exact kv_of3 (putE_H r1 rv), rfl⟩)) ?_
    obtain ⟨z1, z2, z3⟩ := rel_split (rel_put dk dv e.rel)
    refine .inr ⟨_, _, rfl, z1, ⟨nodup_putM e.nd, .inr (.inr fun x hx => ?_)⟩, z2, z3⟩
    obtain ⟨p, hp, rfl⟩ := List.mem_map.mp hx
    rcases mem_putM hp with z | ⟨p', hp', z⟩
    · rw [z]; exact kt
    · rw [z]; exact t p' hp'
end
end Q3
/-! Q5c: dicts in expressions and statements. -/
namespace Q3
open PySem PySem.Spec PyProof.Rows L2
variable [TabSet]
section
variable {X : Cx} {W : WX} {a b c e : Expr} {fa fb fc : Sq → Out PV} {pos : Pos} {N : List Str} {sc : Scope} {k : Nat} {G : Gb} {i : Nat} {x : Str}
/-- what is a key stays -/
theorem Dv.key {K : PySem.W.Frag} {F H : Hp} {v : V} {d : D} (h : Dv K F H v d) (n : kmode d ≠ 0) : Dn K F v d := by
  rcases h with h | ⟨a, vs, xs, rfl, rfl, _⟩ | ⟨a, ho, kvs, rfl, rfl, _⟩
  · exact h
  · exfalso
    apply n
    show (if KeyT (.list xs) then 3 else 0) = 0
    rw [if_neg fun z => by obtain ⟨ys, e⟩ := z.2.2; cases e]
  · exfalso
    apply n
    show (if KeyT (.dict kvs) then 3 else 0) = 0
    rw [if_neg fun z => by obtain ⟨ys, e⟩ := z.2.2; cases e]
theorem keyOk_ne {kvs : List (D × D)} {d : D} (h : keyOk kvs d = true) : kmode d ≠ 0 := (keyOk_all h).1
theorem roomU {A : Around} (h : A.units + 65 < cLine) : A.units + 20 < cLine := by omega
/-! ### in -/
def gInM (neg : Bool) : D → D → Option PV
  | d, .dict kvs => if keyOk kvs d = true then some (.v (.bool (if neg then !(getM kvs d).isSome else (getM kvs d).isSome))) else none
  | d, e => gIn neg d e
def rInM (K : PySem.W.Frag) (neg : Bool) : R2 := fun x y H Q => ∃ F a ho kvs d, y = .ref a ∧ H a = some ho ∧ Ex F H ∧ DctA K F a ho kvs ∧ keyOk kvs d = true ∧ Dn K F x d ∧ Q (.bl (if neg then !(getM kvs d).isSome else (getM kvs d).isSome)) H
theorem op_inM (hu : X.A.units + 65 < cLine) : OpR X (compareOp .In) (fun x y H Q => rInQ X.K false x y H Q ∨ rInM X.K false x y H Q) := by
  intro pins s σ H x y v u Q I rx ry h
  rcases h with h | ⟨F, a, ho, kvs, d, rfl, h1, h2, h3, h4, h5, q⟩
  · exact op_inQ hu pins s σ H x y v u Q I rx ry h
  · cases ry
    exact M_in (roomU hu) I h1 h3 h2 h4 h5 rx fun s' I' => ⟨.bl _, H, I', rfl, q⟩
theorem op_notInM (hu : X.A.units + 65 < cLine) : OpR X (compareOp .NotIn) (fun x y H Q => rInQ X.K true x y H Q ∨ rInM X.K true x y H Q) := by
  intro pins s σ H x y v u Q I rx ry h
  rcases h with h | ⟨F, a, ho, kvs, d, rfl, h1, h2, h3, h4, h5, q⟩
  · exact op_notInQ hu pins s σ H x y v u Q I rx ry h
  · cases ry
    exact M_notIn (roomU hu) I h1 h3 h2 h4 h5 rx fun s' I' => ⟨.bl _, H, I', rfl, q⟩
theorem does_inM {K : PySem.W.Frag} (neg : Bool) : Does2 K (fun x y H Q => rInQ K neg x y H Q ∨ rInM K neg x y H Q) (gInM neg) := by
  intro F H x y d e z Q sub hx hy hg h
  cases e with
  | dict kvs =>
    have hg : (if keyOk kvs d = true then some (PV.v (.bool (if neg then !(getM kvs d).isSome else (getM kvs d).isSome))) else none) = some z := hg
    split at hg
    · rename_i hk
      cases hg
      obtain ⟨a, ho, rfl, h1, h2⟩ := hy.dict sub
      exact .inr ⟨F, a, ho, _, d, rfl, h1, sub, h2, hk, hx.key (keyOk_ne hk), h _ _ (Gv.bl _)⟩
    · cases hg
  | _ => exact .inl (does_in neg F H x y d _ z Q sub hx hy hg h)
theorem de_inM (C : Cq G k N sc X) (ha : DE X W a fa) (hb : DE X W b fb) (hm : behindInMarks .In b = false := by rfl) : DE X W (.Compare a [.In] [b] pos) (fBin (gInM false) fa fb) := de_cmp (op_inM (by have := C.hd.un; omega)) (does_inM false) ha hb hm
theorem de_notInM (C : Cq G k N sc X) (ha : DE X W a fa) (hb : DE X W b fb) (hm : behindInMarks .NotIn b = false := by rfl) : DE X W (.Compare a [.NotIn] [b] pos) (fBin (gInM true) fa fb) := de_cmp (op_notInM (by have := C.hd.un; omega)) (does_inM true) ha hb hm
theorem dt_inM (C : Cq G k N sc X) (ha : DE X W a fa) (hb : DE X W b fb) (hm : behindInMarks .In b = false := by rfl) : DT X W (.Compare a [.In] [b] pos) (fB (fBin (gInM false) fa fb)) := dt_cmp (op_inM (by have := C.hd.un; omega)) (does_inM false) ha hb hm
theorem dt_notInM (C : Cq G k N sc X) (ha : DE X W a fa) (hb : DE X W b fb) (hm : behindInMarks .NotIn b = false := by rfl) : DT X W (.Compare a [.NotIn] [b] pos) (fB (fBin (gInM true) fa fb)) := dt_cmp (op_notInM (by have := C.hd.un; omega)) (does_inM true) ha hb hm
/-! ### d[k] -/
def gIxM : D → D → Option PV
  | .dict kvs, d => if keyOk kvs d = true then (getM kvs d).map .v else none
  | d, e => gIx d e
def rIxM (K : PySem.W.Frag) : R2 := fun x y H Q => ∃ F a ho kvs d z, x = .ref a ∧ H a = some ho ∧ Ex F H ∧ DctA K F a ho kvs ∧ keyOk kvs d = true ∧ Dn K F y d ∧ getM kvs d = some z ∧ ∀ v, Dn K F v z → Q v H
theorem dict_type {pins : List (Addr × Obj)} {σ : L2.St} {F H : Hp} {s : Shared} {a : Addr} {ho : HO} {kvs : List (D × D)} (I : Inv X pins σ H s) (h1 : H a = some ho) (h3 : DctA X.K F a ho kvs) : ∃ o ents ep, s.heap.get? a = some o ∧ o.ExactDict ∧ o.data = .dict ents ep ∧ (a == sysModules) = false ∧ ents.size = kvs.length := by
  rcases h3 with ⟨es, rfl, _, h4, _⟩ | ⟨es, ep0, rfl, h4, _⟩
  · obtain ⟨z, hd, vs, kv, o, ents, ep, ho, hx, hd', ko, pr, _⟩ := I.hok _ _ h1
    refine ⟨o, ents, ep, ho, hx, hd', hd, ?_⟩
    have l1 := congrArg List.length h4
    rw [List.length_map, List.length_map] at l1
    rw [l1, Paired.length kv, ← pr.length, Array.length_toList]
  · obtain ⟨⟨ns, len, o, ents, ep, ho, hx, hd, pr, _⟩, _⟩ := I.hok _ _ h1
    refine ⟨o, ents, ep, ho, hx, hd, ns, ?_⟩
    have l1 := congrArg List.length h4
    rw [List.length_map, List.length_map] at l1
    rw [l1, Paired.length pr, Array.length_toList]
theorem ix_dict (hu : X.A.units + 65 < cLine) : IxR X (rIxM X.K) := by
  intro value slice pins s σ H x y v u Q I rx ry h hs
  obtain ⟨F, a, ho, kvs, d, z, rfl, h1, h2, h3, h4, h5, h6, q⟩ := h
  cases rx
  obtain ⟨o, ents, ep, e1, e2, e3, _⟩ := dict_type I h1 h3
  exact tail_any (T := "dict") ⟨o, e1, e2.1⟩ PySem.F.slot_dict_getitem.lookup (M_getItem (roomU hu) I h1 h3 h2 h4 h5 ry h6 fun v w s' I' hv rw' => ⟨v, H, I', rw', q v hv⟩) hs
theorem does_ixM {K : PySem.W.Frag} : Does2 K (fun x y H Q => rIx K x y H Q ∨ rIxM K x y H Q) gIxM := by
  intro F H x y d e z Q sub hx hy hg h
  cases d with
  | dict kvs =>
    have hg : (if keyOk kvs e = true then (getM kvs e).map PV.v else none) = some z := hg
    split at hg
    · rename_i hk
      obtain ⟨w, e1, rfl⟩ := Option.map_eq_some_iff.mp hg
      obtain ⟨a, ho, rfl, h1, h2⟩ := hx.dict sub
      exact .inr ⟨F, a, ho, _, e, w, rfl, h1, sub, h2, hk, hy.key (keyOk_ne hk), e1, fun v hv => h _ _ (.dn hv)⟩
    · cases hg
  | _ => exact .inl (does_ix F H x y _ e z Q sub hx hy hg h)
theorem de_ixM (C : Cq G k N sc X) (ha : DE X W a fa) (hb : DE X W b fb) (hs : PlainIx b := by intro _ _; rfl) : DE X W (.Subscript a b pos) (fBin gIxM fa fb) :=
  PE.weak (pe_ix (ix_seq.or (ix_dict (by have := C.hd.un; omega))) (de_fz ha) (de_fz hb) hs) fun _ _ _ q => rd_op2 does_ixM q
/-! ### len(d) -/
def gLenM : D → Option PV
  | .dict kvs => if kvs.length ≤ sizeLine then some (.v (.int kvs.length)) else none
  | d => gLen d
def rLenM (K : PySem.W.Frag) : List V → Hp → VK → Prop := fun xs H Q => ∃ F a ho kvs, xs = [.ref a] ∧ H a = some ho ∧ DctA K F a ho kvs ∧ kvs.length ≤ sizeLine ∧ Q (.int kvs.length) H
theorem wpAny_len_raw {prog : Program} {w : World} {A : Around} {E : Value → Shared → Prop} {s : Shared} {d : Addr} {ents : Array DictEntry} {ep : Nat} {Q : Value → Shared → Prop} (hd : (d == sysModules) = false) (hm : s.heap.DictRaw d ents ep) (hfit : (ents.size : Int) < 2 ^ 63) (ty : s.TypeIs (.ref d) "dict")
    (h : Q (.int ents.size (s.toks + 1)) { s with toks := s.toks + 1 + 1 }) : wpAny (model prog w) A (Builtin.«len» ⟨[.ref d], []⟩) (fun fin s' => ∃ r, fin = .done (.ret r) ∧ Q r s') E s := by
  unfold Builtin.«len»
  refine wpAny_bind (m := oneArg "len" _) (wpAny_pure ?_)
  refine wpAny_bind (m := callSpecial? (.ref d) (Str.ofString "__len__")) (wpAny_callSpecial?_slot (name := Str.ofString "__len__") ty PySem.F.slot_dict_len (call_len_raw hd hm ?_))
  show wpAny _ _ _ _ _ { s with toks := s.toks + 1 }
  refine wpAny_bind (wpAny_holding (wpAny_pure ?_))
  refine wpAny_bind (wpAny_letGo ?_)
  show wpAny _ _ (if ((ents.size : Nat) : Int) < 0 then _ else _) _ _ _
  rw [if_neg (by omega)]
  show wpAny _ _ (if ((ents.size : Nat) : Int) ≥ 2 ^ 63 then _ else _) _ _ _
  rw [if_neg (by omega)]
  exact wpAny_bind (wpAny_mkInt (wpAny_pure ⟨_, rfl, h⟩))
theorem call_lenM : CallR X (.builtin "len") (fun xs H Q => (∃ x n, xs = [x] ∧ LenV X.K x H n ∧ Q (.int n) H) ∨ rLenM X.K xs H Q) := by
  intro pins s σ H xs us Q I r h
  rcases h with h | ⟨F, a, ho, kvs, rfl, h1, h2, hz, q⟩
  · exact call_len pins s σ H xs us Q I r h
  · obtain ⟨u, rfl, rx⟩ := vals1 r
    cases rx
    obtain ⟨o, ents, ep, e1, e2, e3, e4, e5⟩ := dict_type I h1 h2
    have hl := line63
    exact Calls.call_function_entry kind_len plain_len entry_len (args_len1 _) (wpAny_len_raw e4 ⟨o, e1, e2, e3⟩ (by rw [e5]; omega) ⟨o, e1, e2.1⟩ ⟨.int _, H, I.tok _, ⟨_, rfl⟩, by rw [e5]; exact q⟩)
theorem does_lenM {K : PySem.W.Frag} : Does1 K (fun xs H Q => (∃ x n, xs = [x] ∧ LenV K x H n ∧ Q (.int n) H) ∨ rLenM K xs H Q) gLenM := by
  intro F H x d z Q sub hx hg h
  cases d with
  | dict kvs =>
    have hg : (if kvs.length ≤ sizeLine then some (PV.v (.int kvs.length)) else none) = some z := hg
    split at hg
    · rename_i hz
      cases hg
      obtain ⟨a, ho, rfl, h1, h2⟩ := hx.dict sub
      exact .inr ⟨F, a, ho, _, rfl, h1, h2, hz, h _ _ (Gv.int _)⟩
    · cases hg
  | _ => exact .inl (does_len F H x _ z Q sub hx hg h)
/-! ### d[k] = e, d a slot's own list or dict -/
def isLM (S : Sq) (i : Nat) : Bool := match S.r[i]? with
  | some (.l _) => true
  | some (.m _) => true
  | _ => false
def setFM (i : Nat) (fa fb : Sq → Out PV) : Sq → Fl := fun S => (fzF fa S).fl fun p S1 => if isLM S1 i = true then (fzF fb S1).fl fun q S2 => (match S2.val q, S2.keep p with
  | some n, some (d, S3) => (match S3.r[i]? with
    | some (.l xs) => (match n with
      | .int n => (match ixN xs.length n with
        | some j => .nx { S3 with r := S3.r.set i (.l (xs.set j d)) }
        | none => .no)
      | _ => .no)
    | some (.m kvs) => if keyOk kvs n = true ∧ kvs.length < sizeLine then .nx { S3 with r := S3.r.set i (.m (putM kvs n d)) } else .no
    | _ => .no)
  | _, _ => .no) else .no
def rSetM (K : PySem.W.Frag) : V → V → V → Hp → (Hp → Prop) → Prop := fun o y v H Q => ∃ F a ho kvs n d, o = .ref a ∧ H a = some ho ∧ Ex F H ∧ DctA K F a ho kvs ∧ keyOk kvs n = true ∧ kvs.length < sizeLine ∧ Dn K F y n ∧ Dn K F v d ∧ ∀ ho', DctA K F a ho' (putM kvs n d) → Q (upd H a ho')
theorem PSet.or {t t' : TSet} (h : PSet X t) (h' : PSet X t') : PSet X (fun o i v H Q => t o i v H Q ∨ t' o i v H Q) := by
  intro pins s σ H o i v ov iv u Q I ro ri rv q
  rcases q with q | q
  · exact h pins s σ H o i v ov iv u Q I ro ri rv q
  · exact h' pins s σ H o i v ov iv u Q I ro ri rv q
theorem set_dict (hu : X.A.units + 65 < cLine) : PSet X (rSetM X.K) := by
  intro pins s σ H o y v ov iv u Q I ro ri rv h
  obtain ⟨F, a, ho, kvs, n, d, rfl, h1, h2, h3, h4, h5, h6, h7, q⟩ := h
  cases ro
  exact M_setItem (roomU hu) I h1 h3 h2 h4 h5 h6 ri h7 rv fun ho' s' I' m => ⟨_, I', q ho' m⟩
theorem isLM_own {K : PySem.W.Frag} {F0 H0 F H : Hp} {pa : Option Addr} {σ : L2.St} {S : Sq} (A : Agr K F0 H0 pa σ F H S) (h : isLM S i = true) : ∃ a, σ[i]? = some (some (.ref a)) := by
  unfold isLM at h
  split at h
  · rename_i xs e
    obtain ⟨a, vs, e1, _⟩ := A.slots i _ e
    exact ⟨a, e1⟩
  · rename_i xs e
    obtain ⟨a, vs, e1, _⟩ := A.slots i _ e
    exact ⟨a, e1⟩
  · cases h
theorem ds_setM (i : Nat) {p p1 : Pos} (C : Cq G k N sc X) (he : DE X W e fa) (hb : DE X W b fb) (hi : N[i]? = some x := by rfl) (hv : sc.names.lookup x = some .local ∨ sc.names.lookup x = some .cell ∨ sc.names.lookup x = some .free := by first | exact Or.inl rfl | exact Or.inr (Or.inl rfl) | exact Or.inr (Or.inr rfl))
    (ha : ∀ v, assign (.Subscript (.Name x p) b p1) X.env v = (do
      let ov ← holding [v] (eval (.Name x p) X.env)
      let iv ← holding [v, ov] (eval b X.env)
      standAt p1
      holding [v, ov, iv] (setItem ov iv v)
      release [v, ov, iv] []) := by intro _; rfl) (hs : swapsWithSole [.Subscript (.Name x p) b p1] e pos.line X.env = pure false := by rfl) (hw : swappedStores [.Subscript (.Name x p) b p1] e X.env = pure none := by rfl)
    (h1 : (assignEach [.Subscript (.Name x p) b p1] X.env).map (·.2) = [assign (.Subscript (.Name x p) b p1) X.env] := by rfl)
    (hd : (x == ("__debug__" : Str)) = false := by decide) (hcd : (x == ("__classdict__" : Str)) = false := by decide) :
    DS X W (.Assign [.Subscript (.Name x p) b p1] e pos) (setFM i fa fb) := by
  refine PS.weak (ps_asg (de_fz he) (pg_sub (pe_var (i := i) (by rw [C.names]; exact hi) (by show Vis X.env.scope x; rw [C.scope]; exact hv) hd hcd) (de_fz hb) (PSet.or set_list (set_dict (by have := C.hd.un; omega))) ha) hs hw h1) fun Z σ H z => ?_
  obtain ⟨F0, H0, pa, F, S, A, z⟩ := z
  refine ⟨F0, H0, pa, F, S, A, (fl_out (σ := σ) z).imp (fun q S1 z v F1 H1 x1 A1 r1 => ?_) fun _ _ z => z⟩
  split at z
  · rename_i h0
    obtain ⟨a, e1⟩ := isLM_own A1 h0
    refine ⟨.ref a, e1, F0, H0, pa, F1, S1, A1, (fl_out (σ := σ) z).imp (fun w S2 z u F2 H2 x2 A2 r2 => ?_) fun _ _ z => z⟩
    split at z
    · rename_i n d S3 q1 q2
      have hu := A2.val r2 q1
      have fr : Frz q := fun c y => by
        rw [y] at q2
        cases q2
      obtain ⟨F3, x3, A3, d3⟩ := A2.keep (r1.anyS fr x2) q2
      split at z
      · rename_i xs q3
        split at z
        · rename_i n
          split at z
          · rename_i j q4
            obtain ⟨a', vs, p1, p2, p3, p4⟩ := A3.slots i _ q3
            rw [e1] at p1; cases p1
            exact .inl ⟨a, vs, n, j, rfl, hu.int, p2, by rw [p4.length]; exact q4, z σ F3 _ (A3.write q3 e1 (p4.set j d3))⟩
          · exact z.elim
        · exact z.elim
      · rename_i kvs q3
        split at z
        · rename_i q4
          obtain ⟨a', ho, p1, p2, p3, p4⟩ := A3.slots i _ q3
          rw [e1] at p1; cases p1
          exact .inr ⟨F3, a, ho, kvs, n, d, rfl, p2, A3.sub, p4, q4.1, q4.2, (hu.key (keyOk_ne q4.1)).mono x3, d3, fun ho' m => z σ F3 _ (A3.writeM q3 e1 m)⟩
        · exact z.elim
      · exact z.elim
    · exact z.elim
  · exact z.elim
end
end Q3
/-! Q5d: unpacking, {k: v}, d.get(k, x). -/
namespace Q3
open PySem PySem.Spec PyProof.Rows L2
variable [TabSet]
section
variable {X : Cx} {W : WX} {a b c e : Expr} {fa fb fc : Sq → Out PV} {pos : Pos} {N : List Str} {sc : Scope} {k : Nat} {G : Gb} {i : Nat} {x : Str}
/-! ### a, b, .. = e -/
def unpF (is : List Nat) (fa : Sq → Out PV) : Sq → Fl := fun S => (fzF fa S).fl fun p S1 => match S1.keep p with
  | some (.tuple ds, S2) => (match putAll S2 is ds with
    | some S3 => .nx S3
    | none => .no)
  | _ => .no
theorem ds_unp (is : List Nat) {es : List Expr} {kk : Nat} {tp : Pos} (he : DE X W e fa) (hg : PG X (.Tuple es kk tp) ((Tg.tp is).rd X.K)) (hs : swapsWithSole [.Tuple es kk tp] e pos.line X.env = pure false := by rfl) (hw : swappedStores [.Tuple es kk tp] e X.env = pure none := by rfl)
    (h1 : (assignEach [.Tuple es kk tp] X.env).map (·.2) = [assign (.Tuple es kk tp) X.env] := by rfl) : DS X W (.Assign [.Tuple es kk tp] e pos) (unpF is fa) := by
  refine PS.weak (ps_asg (de_fz he) hg hs hw h1) fun Z σ H z => ?_
  obtain ⟨F0, H0, pa, F, S, A, z⟩ := z
  refine ⟨F0, H0, pa, F, S, A, (fl_out (σ := σ) z).imp (fun p S1 z v F1 H1 x1 A1 r1 => ?_) fun _ _ z => z⟩
  split at z
  · rename_i ds S2 q
    split at z
    · rename_i S3 q2
      obtain ⟨F2, x2, A2, d2⟩ := A1.keep r1 q
      exact Tg.ok (t := .tp is) A2 d2 q2 fun σ' A' _ => z σ' F2 H1 A'
    · exact z.elim
  · exact z.elim
end
/-! ### storing while a display is made -/
section
variable {X : Cx} {pins : List (Addr × Obj)} {σ : L2.St} {F H : Hp} {s : Shared} {a : Addr} {ho : HO} {kvs : List (D × D)} {k d : D} {y v : V} {u r : Value} {A : Around} {E : Value → Shared → Prop}
theorem M_dictSet {Q : Unit → Shared → Prop} (hu : A.units + 20 < cLine) (I : Inv X pins σ H s) (q : H a = some ho) (m : DctA X.K F a ho kvs) (sub : Ex F H) (hk : keyOk kvs k = true) (hl : kvs.length < sizeLine) (dk : Dn X.K F y k) (ry : RelV y u) (dv : Dn X.K F v d) (rv : RelV v r)
    (h : ∀ ho' s', Inv X pins σ (upd H a ho') s' → DctA X.K F a ho' (putM kvs k d) → Q () s') : wpAny (model X.prog X.w) A (dictSet a u r) Q E s := by
  rcases mode_cases I q m sub hk dk ry with ⟨x, ks, xs, d0, mu, rfl, rfl, dd, kv, rel, t⟩ | ⟨i, es, o, ents, ep, ks, xs, e, mu, rfl, rfl, dd, r1, kv, rel, t⟩ | ⟨b, es, o, ents, ep, xs, e, mu, rfl, rfl, dd, r1, r2, t⟩ | ⟨b, es, o, ents, ep, xs, e, mu, rfl, rfl, ki, dd, r1, r2, t⟩
  · have hl2 : ks.length < sizeLine := by rw [← Paired.length rel]; exact hl
    have hz : xs.length ≤ sizeLine := by rw [← kv.length]; omega
    have hp := length_putK ks (.inr x) v
    refine wpAny_dictSet_pairs (hsz := hz) (kV_is (k := .inr x) ry) dd fun h' dd' hs => h (.dK (putK ks (.inr x) v)) _ (d_write I mu hs ?_ (dk_new (by omega) d0 (kv.put (.inr x) rv) dd')) ?_
    · obtain ⟨o, _, _, e1, _⟩ := dd'
      exact ⟨o, e1⟩
    · have z := putM_rel (R := fun d v => Dn X.K F v d) kD_inj (.inr x) dv rel
      obtain ⟨z1, z2⟩ := of_pair z
      exact .inl ⟨_, rfl, text_put t rel, z1, z2⟩
  · have hz : xs.length ≤ sizeLine := by rw [← kv.length, ← Paired.length rel]; omega
    have he : es.length < sizeLine := by rw [← Paired.length e.rel]; exact hl
    refine wpAny_dictSet_pairs (hsz := hz) (kV_is (k := .inl i) ry) dd fun h' dd' hs => ?_
    obtain ⟨o', ents', ep', g1, g2, g3, g4, g5, g6⟩ := dd'
    have hp := length_putE es (.int i) (.int i) v
    refine h (dctE (putE es (.int i) (.int i) v) ep' a) _ (d_write I mu hs ⟨o', g1⟩ (dctE_new e.ns (by omega) ⟨o', ents', ep', g1, g2, g3, kv_ofK (P := X.prog) (w := X.w) (putE_K r1 rv) g5 fun n hn => g4 n (by simpa using hn), rfl⟩)) ?_
    obtain ⟨z1, z2, z3⟩ := rel_split (rel_put dk dv e.rel)
    refine .inr ⟨_, _, rfl, z1, ⟨nodup_putM e.nd, .inl fun x hx => ?_⟩, z2, z3⟩
    obtain ⟨p, hp, rfl⟩ := List.mem_map.mp hx
    rcases mem_putM hp with z | ⟨p', hp', z⟩
    · exact ⟨i, z⟩
    · rw [z]; exact t p' hp'
  · have ey := dn_B dk
    subst ey
    have hz : xs.length < sizeLine := by rw [← Paired.length r2]; exact hl
    have he : es.length < sizeLine := by rw [← Paired.length e.rel]; exact hl
    refine wpAny_dictSet_pairs (hsz := by omega) (PpSet.boolK_is X.prog X.w b) dd fun h' dd' hs => ?_
    obtain ⟨o', ents', ep', g1, g2, g3, g4, g5, g6⟩ := dd'
    have hp := length_putE es (.bool b) (.bl b) v
    refine h (dctE (putE es (.bool b) (.bl b) v) ep' a) _ (d_write I mu hs ⟨o', g1⟩ (dctE_new e.ns (by omega) ⟨o', ents', ep', g1, g2, g3, kv_ofB (P := X.prog) (w := X.w) (putE_B r1 rv) g5 fun n hn => g4 n (by simpa using hn), rfl⟩)) ?_
    obtain ⟨z1, z2, z3⟩ := rel_split (rel_put dk dv e.rel)
    refine .inr ⟨_, _, rfl, z1, ⟨nodup_putM e.nd, .inr (.inl fun x hx => ?_)⟩, z2, z3⟩
    obtain ⟨p, hp, rfl⟩ := List.mem_map.mp hx
    rcases mem_putM hp with z | ⟨p', hp', z⟩
    · exact ⟨b, z⟩
    · rw [z]; exact t p' hp'
  · have kt : KeyT k := ki.1
    have hz : xs.length < sizeLine := by rw [← Paired.length r2]; exact hl
    have he : es.length < sizeLine := by rw [← Paired.length e.rel]; exact hl
    refine wpAny_dictSet_heap (hsz := by omega) (show KeyRoom A by unfold KeyRoom; omega) ki dd fun h' dd' hs => ?_
    obtain ⟨o', ents', ep', g1, g2, g3, g4, g5, g6⟩ := dd'
    have hp := length_putE es k (.ref b) v
    refine h (dctE (putE es k (.ref b) v) ep' a) _ (d_write I mu hs ⟨o', g1⟩ (dctE_new e.ns (by omega) ⟨o', ents', ep', g1, g2, g3, by rw [g4]; exact kv_of3 (putE_H r1 rv), rfl⟩)) ?_
    obtain ⟨z1, z2, z3⟩ := rel_split (rel_put dk dv e.rel)
    refine .inr ⟨_, _, rfl, z1, ⟨nodup_putM e.nd, .inr (.inr fun x hx => ?_)⟩, z2, z3⟩
    obtain ⟨p, hp, rfl⟩ := List.mem_map.mp hx
    rcases mem_putM hp with z | ⟨p', hp', z⟩
    · rw [z]; exact kt
    · rw [z]; exact t p' hp'
end
section
variable {K : PySem.W.Frag} {F0 H0 F H : Hp} {pa : Option Addr} {σ : L2.St} {S : Sq} {t : Addr} {o o' : HO}
theorem Agr.freeG (A : Agr K F0 (upd H0 t o) pa σ F H S) (h0 : F0 t = none) : F t = none := by
  cases q : F t with
  | none => rfl
  | some u =>
    rcases A.new t u q with z | z
    · rw [h0] at z; cases z
    · rw [upd_same] at z; cases z
theorem Agr.apartO (A : Agr K F0 (upd H0 t o) pa σ F H S) (ht : H t = some o) (n : ∀ ps, o ≠ .tbl ps) (nc : ∀ q, o ≠ LamX.CodeO t q) (hp : some t ≠ pa) (h0 : F0 t = none) (hn : H0 t = none) : Agr K F0 H0 pa σ F (upd H t o') S := by
  have hF : F t = none := A.freeG h0
  have np : ∀ i a, Own σ S i a → a ≠ t := fun i a w z => by
    have y := (A.ownN i a w).1
    rw [z, upd_same] at y; cases y
  refine ⟨A.fF, fun a u e => ?_, fun a u e n => ?_, tabs_o A.tabs ht n nc, A.ft, fun a ps e => A.n0 a ps (by rw [upd_ne fun z => by rw [z, hn] at e; cases e]; exact e), fun a u e => ?_, A.len, fun j c e => ?_, A.dist, fun i a w => ⟨?_, (A.ownN i a w).2⟩, ?_⟩
  · rw [upd_ne fun z => by rw [z, hF] at e; cases e]; exact A.sub a u e
  · have ne : a ≠ t := fun z => by rw [z, hn] at e; cases e
    rw [upd_ne ne]
    exact A.hH a u (by rw [upd_ne ne]; exact e) n
  · rcases A.new a u e with z | z
    · exact .inl z
    · by_cases y : a = t
      · rw [y, upd_same] at z; cases z
      · rw [upd_ne y] at z; exact .inr z
  · have so := A.slots j c e
    cases c with
    | un => trivial
    | d x => exact so
    | l xs =>
      obtain ⟨b, us, p1, p2, p3, p4⟩ := so
      exact ⟨b, us, p1, by rw [upd_ne (np j b ⟨p1, .inl ⟨xs, e⟩⟩)]; exact p2, p3, p4⟩
    | m kvs =>
      obtain ⟨b, us, p1, p2, p3, p4⟩ := so
      exact ⟨b, us, p1, by rw [upd_ne (np j b ⟨p1, .inr ⟨kvs, e⟩⟩)]; exact p2, p3, p4⟩
    | e c => exact so
    | sc ns => exact so
    | es cs => exact so
    | pen => exact so
  · have y := (A.ownN i a w).1
    rw [upd_ne (np i a w)] at y
    exact y
  · exact A.pen.imp fun q c o o' e h1 h2 h3 => ⟨by rw [upd_ne fun z => hp (by rw [← z]; exact e)]; exact h1, h2, h3⟩
end
section
variable {X : Cx} {W : WX} {a b c e f o : Expr} {fa fb fc : Sq → Out PV} {pos apos cpos : Pos} {N : List Str} {sc : Scope} {k : Nat} {G : Gb} {i : Nat} {x : Str} {ta tb tc : TE}
def tDisp1 (K : PySem.W.Frag) (ta tb : TE) : TE := fun σ H Q => ∀ p, H p = none → ta σ (upd H p (dctE [] 0 p)) fun x H1 => tb σ H1 fun y H2 => H2 p = some (dctE [] 0 p) ∧ ∃ F k d, Ex F H2 ∧ keyOk ([] : List (D × D)) k = true ∧ Dn K F x k ∧ Dn K F y d ∧ ∀ ho', DctA K F p ho' [(k, d)] → Q (.ref p) (upd H2 p ho')
theorem pe_disp1 (hu : X.A.units + 65 < cLine) (ha : PE X a ta) (hb : PE X b tb) : PE X (.Dict [some a] [b] pos) (tDisp1 X.K ta tb) := by
  refine ⟨fun pins s σ H Q I q => ?_⟩
  have hn := I.hok.fresh (Nat.le_refl s.heap.objs.size)
  have I1 := I.laid (a := s.heap.objs.size) (o := dctE [] 0 s.heap.objs.size) (h' := s.heap.push { cls := .type "dict", data := .dict #[] }) (t' := s.toks) (fun _ _ q => Heap.get?_push_of_some _ q) (Nat.le_refl _) (dctE_empty s.heap I.big)
  have hall : ([some a] : List (Option Expr)).all (·.isSome) = true := rfl
  have hpl := pairTrees_length [some a] [b] X.env pos hall rfl
  have h0 : pairTrees [some a] [b] X.env pos ≠ [] := fun z => by rw [z] at hpl; cases hpl
  rw [arm_eval_Dict, zip_pairTrees [some a] [b] X.env pos hall rfl, dictDisplay_pairs _ h0 (by rw [hpl]; exact (by decide : (1 : Nat) < 17))]
  refine wpAny_bind (wpAny_standAt (wpAny_bind ?_))
  unfold subDict
  refine wpAny_bind (wpAny_alloc ?_)
  refine wpAny_bind (wpAny_holding ?_)
  rw [if_pos (by rw [hpl]; exact (by decide : (1 : Nat) ≤ 15))]
  have step : wpAny (model X.prog X.w) X.A (evalPairs (pairTrees [some a] [b] X.env pos)) (fun vs s2 => ∃ u w2 x y H2, vs = [(u, w2)] ∧ Inv X pins σ H2 s2 ∧ RelV x u ∧ RelV y w2 ∧ H2 s.heap.objs.size = some (dctE [] 0 s.heap.objs.size) ∧ ∃ F k d, Ex F H2 ∧ keyOk ([] : List (D × D)) k = true ∧ Dn X.K F x k ∧ Dn X.K F y d ∧ ∀ ho', DctA X.K F s.heap.objs.size ho' [(k, d)] → Q (.ref s.heap.objs.size) (upd H2 s.heap.objs.size ho')) X.xe _ :=
    pairTrees_cons_walk (thn (ha.run pins _ σ _ _ I1 (q _ hn)) fun u s1 ⟨x, H1, I1, rx, q1⟩ => thn (hb.run pins s1 σ H1 _ I1 q1) fun w2 s2 ⟨y, H2, I2, ry, q2⟩ => pairTrees_nil_walk ⟨u, w2, x, y, H2, rfl, I2, rx, ry, q2⟩)
  refine wpAny_bind (wpAny_mono step (fun vs s2 z => ?_) fun _ _ e => e)
  obtain ⟨u, w2, x, y, H2, rfl, I2, rx, ry, e1, F, k, d, sub, hk, dk, dv, q2⟩ := z
  refine wpAny_holding ?_
  refine wpAny_bind ?_
  show wpAny _ _ (forIn [(u, w2)] PUnit.unit _) _ _ s2
  rw [List.forIn_cons]
  refine wpAny_bind (wpAny_bind (M_dictSet (roomU hu) I2 e1 DctA.nil sub hk (by rw [sizeLine_eq]; decide) dk rx dv ry fun ho' s' I' m => wpAny_pure ?_))
  show wpAny _ _ (forIn [] PUnit.unit _) _ _ _
  rw [List.forIn_nil]
  exact wpAny_pure (wpAny_pure (wpAny_pure (wpAny_pure ⟨.ref s.heap.objs.size, _, I', rfl, q2 ho' m⟩)))
def fDisp1 (fa fb : Sq → Out PV) : Sq → Out PV := fun S => (fzF fa S).bind fun p S1 => match S1.keep p with
  | some (k, S4) => (fzF fb S4).bind fun q S2 => (match S2.keep q with
    | some (d, S3) => if keyOk ([] : List (D × D)) k = true then .ok (.o (.m [(k, d)])) S3 else .no
    | none => .no)
  | none => .no
theorem de_disp1 (C : Cq G k N sc X) (ha : DE X W a fa) (hb : DE X W b fb) : DE X W (.Dict [some a] [b] pos) (fDisp1 fa fb) := by
  refine PE.weak (pe_disp1 (by have := C.hd.un; omega) (de_fz ha) (de_fz hb)) fun σ H Q z => ?_
  obtain ⟨F0, H0, pa, F, S, A, z⟩ := z
  intro p hp
  have np := A.nopen hp
  have h0 : H0 p = none := A.fresh0 hp np
  have hF : F p = none := A.sub.none hp
  have A1 := A.more (Ex.new (o := dctE [] 0 p) hp)
  have A2 := A1.more1 upd_same hF (fun i w => A.own_there w hp) (fun _ z => nomatch z)
  have back : ∀ {S1 F1 H1}, Agr X.K F (upd H0 p (dctE [] 0 p)) pa σ F1 H1 S1 → Agr X.K F0 H0 pa σ F1 H1 S1 := fun {S1 F1 H1} B => by
    have e := B.hH p _ upd_same np
    have B' := B.apartO (o' := dctE [] 0 p) e (fun _ z => nomatch z) (fun _ => dctE_code) np hF h0
    rw [upd_id e] at B'
    exact A.deF B'
  unfold fDisp1 at z
  rw [OutP.bind] at z
  refine ⟨F, _, pa, F, S, A2, z.imp (fun q1 S1 z v F1 H1 x1 B0 r1 => ?_) fun c S1 z F1 H1 B1 => z F1 H1 (back B1)⟩
  split at z
  · rename_i k S4 e1
    obtain ⟨F4, x4, B1, dk⟩ := B0.keep r1 e1
    rw [OutP.bind] at z
    refine ⟨F, _, pa, F4, S4, B1, z.imp (fun q2 S2 z w F2 H2 x2 B2 r2 => ?_) fun c S1 z F1 H1 B1 => z F1 H1 (back B1)⟩
    split at z
    · rename_i d S3 e2
      split at z
      · rename_i hk
        obtain ⟨F3, x3, B3, d3⟩ := B2.keep r2 e2
        have e := B3.hH p _ upd_same np
        refine ⟨e, F3, k, d, B3.sub, hk, dk.mono (x2.trans x3), d3, fun ho' m => ?_⟩
        refine z _ F3 _ (x1.trans (x4.trans (x2.trans x3))) (A.deF (B3.apartO (o' := ho') e (fun _ z => nomatch z) (fun _ => dctE_code) np hF h0)) ?_
        exact ⟨p, ho', rfl, upd_same, B3.freeG hF, m, h0, (fun i w => by have y := (B3.ownN i p w).1; rw [upd_same] at y; cases y), np⟩
      · exact z.elim
    · exact z.elim
  · exact z.elim
/-! ### d.get(k, x) -/
def tGet2 (K : PySem.W.Frag) (td ty tx : TE) : TE := fun σ H Q => td σ H fun x H1 => ∃ a ho F kvs, x = .ref a ∧ H1 a = some ho ∧ DctA K F a ho kvs ∧ ty σ H1 fun y H2 => tx σ H2 fun z H3 => ∃ F ho kvs k dz, H3 a = some ho ∧ Ex F H3 ∧ DctA K F a ho kvs ∧ keyOk kvs k = true ∧ Dn K F y k ∧ Dn K F z dz ∧ ∀ v, Dn K F v ((getM kvs k).getD dz) → Q v H3
theorem pe_get2 (hu : X.A.units + 65 < cLine) (ho : PE X o ta) (he : PE X e tb) (hf : PE X f tc) (m : M2 X o "get" apos e f cpos) : PE X (.Call (.Attribute o "get" apos) [e, f] [] cpos) (tGet2 X.K ta tb tc) := by
  refine ⟨fun pins s σ H Q I h => ?_⟩
  refine wpAny_Call_method m.base m.few m.line PySem.F.plainAttrs_dict PySem.F.slot_dict_get PySem.F.type_dict_get (thn (ho.run pins s σ H _ I h) fun u s1 ⟨x, H1, I1, rx, a, ho, F, kvs, ex, h1, h2, q1⟩ => ?_)
  subst ex
  obtain rfl : u = Value.ref a := rx
  obtain ⟨o, ents, ep, e1, e2, e3, _⟩ := dict_type I1 h1 h2
  refine ⟨⟨o, e1, e2.1⟩, fun b q => ?_, ?_⟩
  · cases q
    exact ⟨o, e1, e2.2.1⟩
  rw [m.trees]
  refine Calls.callWith_builtin rfl (Calls.evalArgs_plain (Calls.spliced_cons (thn (he.run pins s1 σ H1 _ I1 q1) fun iv s2 ⟨y, H2, I2, ry, q2⟩ =>
    Calls.spliced_cons (thn (hf.run pins s2 σ H2 _ I2 q2) fun fv s3 ⟨z, H3, I3, rz, F, ho, kvs, k, dz, g1, g2, g3, g4, g5, g6, q3⟩ => Calls.spliced_nil ?_))))
  exact M_get2 (roomU hu) I3 g1 g3 g2 g4 g5 ry g6 rz fun v w s' I' hv rw' => ⟨v, H3, I', rw', q3 v hv⟩
def isDict : Option D → Bool
  | some (.dict _) => true
  | _ => false
def frzB : PV → Bool
  | .o _ => false
  | _ => true
theorem frzB_iff {p : PV} (h : frzB p = true) : Frz p := fun c e => by rw [e] at h; cases h
def fGet2 (fa fb fc : Sq → Out PV) : Sq → Out PV := fun S => (fzF fa S).bind fun p S1 => if (frzB p && isDict (S1.val p)) = true then (fzF fb S1).bind fun q S3 => (match S3.keep q with
    | some (k, S4) => (fzF fc S4).bind fun r S5 => (match S5.val p, S5.keep r with
      | some (.dict kvs), some (dz, S6) => if keyOk kvs k = true then .ok (.v ((getM kvs k).getD dz)) S6 else .no
      | _, _ => .no)
    | none => .no)
  else .no
theorem de_get2 (C : Cq G k N sc X) (ha : DE X W a fa) (hb : DE X W b fb) (hc : DE X W c fc) (hbase : attributeBase a "get" X.env (eval a X.env) = eval a X.env := by rfl)
    (hfew : ((backTo cpos (starEach [b, c] X.env)).all (fun x => !x.1) && (backToKw cpos (keywordEach [] X.env)).all (fun x => x.1.isSome)
      && decide (([b, c] : List Expr).length + ([] : List Keyword).length + (if ([] : List Keyword).isEmpty then 0 else 1) < 30)) = true := by rfl)
    (hline : (apos.endLine == cpos.line) = true := by rfl) (htr : backTo cpos (starEach [b, c] X.env) = [(false, eval b X.env), (false, eval c X.env)] := by rfl) :
    DE X W (.Call (.Attribute a "get" apos) [b, c] [] cpos) (fGet2 fa fb fc) := by
  refine PE.weak (pe_get2 (by have := C.hd.un; omega) (de_fz ha) (de_fz hb) (de_fz hc) ⟨hbase, hfew, hline, htr⟩) fun σ H Q z => ?_
  obtain ⟨F0, H0, pa, F, S, A, z⟩ := z
  unfold fGet2 at z
  rw [OutP.bind] at z
  refine ⟨F0, H0, pa, F, S, A, z.imp (fun p S1 z v F1 H1 x1 A1 r1 => ?_) fun _ _ z => z⟩
  split at z
  · rename_i hd
    rw [Bool.and_eq_true] at hd
    have fr := frzB_iff hd.1
    cases e1 : S1.val p with
    | none => rw [e1] at hd; cases hd.2
    | some d =>
      cases d with
      | dict kvs =>
        obtain ⟨t, ho, rfl, g1, g2⟩ := (A1.val r1 e1).dict A1.sub
        refine ⟨t, ho, F1, kvs, rfl, g1, g2, F0, H0, pa, F1, S1, A1, ?_⟩
        rw [OutP.bind] at z
        refine z.imp (fun q S3 z w F3 H3 x3 A3 r3 => ?_) fun _ _ z => z
        split at z
        · rename_i k S4 e3
          obtain ⟨F4, x4, A4, d4⟩ := A3.keep r3 e3
          refine ⟨F0, H0, pa, F4, S4, A4, ?_⟩
          rw [OutP.bind] at z
          refine z.imp (fun r S5 z w2 F5 H5 x5 A5 r5 => ?_) fun _ _ z => z
          split at z
          · rename_i kvs' dz S6 e5 e6
            have rp := r1.anyS (S' := S5) (H' := H5) fr (x3.trans (x4.trans x5))
            obtain ⟨t', ho', et, k1, k2⟩ := (A5.val rp e5).dict A5.sub
            cases et
            obtain ⟨F6, x6, A6, d6⟩ := A5.keep r5 e6
            split at z
            · rename_i hk
              have xx := x3.trans (x4.trans (x5.trans x6))
              exact ⟨F6, ho', kvs', k, dz, k1, A6.sub, k2.mono x6, hk, d4.mono (x5.trans x6), d6, fun v hv => z v F6 H5 (x1.trans xx) A6 hv⟩
            · exact z.elim
          · exact z.elim
        · exact z.elim
      | _ => rw [e1] at hd; cases hd.2
  · exact z.elim
end
end Q3
/-! Q5e: three targets, three values, own lists and dicts among them. -/
namespace Q3
open PySem PySem.Spec PyProof.Rows L2
variable [TabSet]
def evN : List (Sq → Out PV) → Sq → Out (List PV)
  | [], S => .ok [] S
  | f :: fs, S => (f S).bind fun p S1 => (evN fs S1).bind fun ps S2 => .ok (p :: ps) S2
def ApAll (v : V) (p : PV) : List V → List PV → Prop
  | w :: ws, q :: qs => Apart v w p q ∧ ApAll v p ws qs
  | _, _ => True
def Aparts : List V → List PV → Prop
  | v :: vs, p :: ps => ApAll v p vs ps ∧ Aparts vs ps
  | _, _ => True
section
variable {K : PySem.W.Frag} {F0 H0 F H F' H' : Hp} {pa : Option Addr} {σ : L2.St} {S S' S1 S2 : Sq} {v w : V} {pv qv : PV} {d : D} {i j : Nat} {c c' : R}
def rdN (K : PySem.W.Frag) (W : WX) (fs : List (Sq → Out PV)) : TA := fun σ H Q => ∃ F0 H0 pa F S, Agr K F0 H0 pa σ F H S ∧ OutP (evN fs S)
  (fun ps S' => ∀ vs F' H', Ex F F' → Agr K F0 H0 pa σ F' H' S' → Paired (RelP K H0 pa σ F' H' S') vs ps → Aparts vs ps → Q vs H') (EW K W F0 H0 pa σ)
theorem ap_all (A1 : Agr K F0 H0 pa σ F H S) {b : R} {F2 H2 : Hp} {S2 : Sq} (o : OwnV K H0 pa σ F H S v b) (B : Agr K F (hide σ S pa H) pa σ F2 H2 S2) : ∀ {ws : List V} {qs : List PV}, Paired (RelP K (hide σ S pa H) pa σ F2 H2 S2) ws qs → ApAll v (.o b) ws qs
  | _, _, .nil => trivial
  | w :: ws, q :: qs, .cons r2 h2 => by
    refine ⟨?_, ap_all A1 o B h2⟩
    cases q with
    | s k => trivial
    | v x => trivial
    | o b' =>
      intro z
      subst z
      obtain ⟨t, ho, rfl, h1, h2, h3, h4, h5, h6⟩ := OwnV.open o
      obtain ⟨t', ho', e, g1, g2, g3, g4, g5, g6⟩ := OwnV.open r2
      cases e
      rw [hide_of h5 h6, bareT_of h1 h3.notbl] at g4
      cases g4
theorem ap_triv {p : PV} (hp : ∀ b, p ≠ .o b) : ∀ {ws : List V} {qs : List PV}, ApAll v p ws qs
  | [], _ => trivial
  | _ :: _, [] => trivial
  | w :: ws, q :: qs => by
    refine ⟨?_, ap_triv hp⟩
    cases p with
    | s k => trivial
    | v x => trivial
    | o b => exact absurd rfl (hp b)
theorem unbaseAll (A : Agr K F0 H0 pa σ F H S) : ∀ {ws : List V} {qs : List PV}, Paired (RelP K (hide σ S pa H) pa σ F' H' S') ws qs → Paired (RelP K H0 pa σ F' H' S') ws qs
  | _, _, .nil => .nil
  | w :: ws, q :: qs, .cons h t => .cons (RelP.unbase A h) (unbaseAll A t)
/-! ### stored one after the other -/
def resN (S : Sq) : List PV → Option (List R × Sq)
  | [] => some ([], S)
  | p :: ps => match S.res p with
    | some (c, S1) => (match resN S1 ps with
      | some (cs, S2) => some (c :: cs, S2)
      | none => none)
    | none => none
def isOwn : R → Bool
  | .l _ => true
  | .m _ => true
  | _ => false
theorem OwnV.isOwn {b : R} (o : OwnV K H0 pa σ F H S v b) : isOwn b = true := by
  cases b <;> first | rfl | exact False.elim o
theorem Agr.resU (A : Agr K F0 H0 pa σ F H S) (r : RelP K H0 pa σ F H S v pv) (e : S.res pv = some (c, S')) :
    ∃ F', Ex F F' ∧ Agr K F0 H0 pa σ F' H S' ∧ Fit K H0 pa σ F' H S' v c ∧ ∀ u b, OwnV K H0 pa σ F H S u b → OwnV K H0 pa σ F' H S' u b := by
  cases pv with
  | v x => cases e; exact ⟨F, Ex.refl F, A, r, fun _ _ o => o⟩
  | o q =>
    cases q with
    | l xs => cases e; exact ⟨F, Ex.refl F, A, r, fun _ _ o => o⟩
    | m kvs => cases e; exact ⟨F, Ex.refl F, A, r, fun _ _ o => o⟩
    | _ => cases e
  | s i =>
    unfold Sq.res at e
    dsimp only at e
    cases q : S.r[i]? with
    | none => rw [q] at e; cases e
    | some y =>
      rw [q] at e
      cases y with
      | d x =>
        cases e
        obtain ⟨w, e1, e2⟩ := A.slots i _ q
        rw [show σ[i]? = some (some v) from r] at e1; cases e1
        exact ⟨F, Ex.refl F, A, e2, fun _ _ o => o⟩
      | l xs =>
        cases e
        obtain ⟨F', a, vs, eF, x, e1, e2, e3, A'⟩ := A.frozenU q
        rw [show σ[i]? = some (some v) from r] at e1; cases e1
        subst eF
        exact ⟨_, x, A', .lst e2 e3, fun u b o => o.frozenAt ⟨r, .inl ⟨xs, q⟩⟩ x⟩
      | m kvs =>
        cases e
        obtain ⟨F', a, ho, eF, x, e1, e2, _, e3, A'⟩ := A.frozenM q
        rw [show σ[i]? = some (some v) from r] at e1; cases e1
        subst eF
        exact ⟨_, x, A', e3.dn (Ex.refl _) e2, fun u b o => o.frozenAt ⟨r, .inr ⟨kvs, q⟩⟩ x⟩
      | pen =>
        cases e
        obtain ⟨p, e1, e2⟩ := A.slots i _ q
        rw [show σ[i]? = some (some v) from r] at e2; cases e2
        exact ⟨F, Ex.refl F, A, ⟨p, e1, rfl⟩, fun _ _ o => o⟩
      | un => cases e
      | e c => cases e
      | sc ns => cases e
      | es cs => cases e
theorem res_own (e : S.res pv = some (c, S')) (h : isOwn c = true) : ∃ b, pv = .o b := by
  cases pv with
  | o b => exact ⟨b, rfl⟩
  | v x => cases e; cases h
  | s k =>
    unfold Sq.res at e
    dsimp only at e
    split at e <;> cases e <;> cases h
theorem Fit.up {b : R} (f : Fit K H0 pa σ F H S w b) (x : Ex F F') (h : ∀ u b, OwnV K H0 pa σ F H S u b → OwnV K H0 pa σ F' H S' u b) : Fit K H0 pa σ F' H S' w b := by
  cases b with
  | d y => exact Dn.mono x f
  | l xs => exact h w (.l xs) f
  | m kvs => exact h w (.m kvs) f
  | pen => exact f
  | un => exact f
  | e c => exact f
  | sc ns => exact f
  | es cs => exact f
theorem relU {ps : List PV} {vs : List V} (h : Paired (RelP K H0 pa σ F H S) vs ps) (x : Ex F F') (k : ∀ u b, OwnV K H0 pa σ F H S u b → OwnV K H0 pa σ F' H S' u b) : Paired (RelP K H0 pa σ F' H S') vs ps := by
  induction h with
  | nil => exact .nil
  | @cons v p _ _ h t ih =>
    refine .cons ?_ ih
    cases p with
    | s k => exact h
    | v y => exact Dn.mono x h
    | o b => exact k _ _ h
theorem Agr.resN : ∀ {ps : List PV} {S S' : Sq} {F : Hp} {vs : List V} {cs : List R}, Agr K F0 H0 pa σ F H S → Paired (RelP K H0 pa σ F H S) vs ps → Q3.resN S ps = some (cs, S') →
    ∃ F', Ex F F' ∧ Agr K F0 H0 pa σ F' H S' ∧ Paired (Fit K H0 pa σ F' H S') vs cs ∧ ∀ u b, OwnV K H0 pa σ F H S u b → OwnV K H0 pa σ F' H S' u b
  | [], S, S', F, vs, cs, A, r, e => by
    cases r; cases e
    exact ⟨F, Ex.refl F, A, .nil, fun _ _ o => o⟩
  | p :: ps, S, S', F, vs, cs, A, r, e => by
    cases r with
    | cons r1 r2 =>
      unfold Q3.resN at e
      cases q : S.res p with
      | none => rw [q] at e; cases e
      | some y =>
        obtain ⟨c, S1⟩ := y
        rw [q] at e
        dsimp only at e
        cases q2 : Q3.resN S1 ps with
        | none => rw [q2] at e; cases e
        | some y2 =>
          obtain ⟨cs', S2⟩ := y2
          rw [q2] at e
          cases e
          obtain ⟨F1, x1, A1, f1, k1⟩ := A.resU r1 q
          obtain ⟨F2, x2, A2, f2, k2⟩ := Agr.resN A1 (relU r2 x1 k1) q2
          exact ⟨F2, x1.trans x2, A2, .cons (f1.up x2 k2) f2, fun u b o => k2 u b (k1 u b o)⟩
def DfAll (v : V) (c : R) : List V → List R → Prop
  | w :: ws, q :: qs => (isOwn c = true → isOwn q = true → v ≠ w) ∧ DfAll v c ws qs
  | _, _ => True
def Diffs : List V → List R → Prop
  | v :: vs, p :: ps => DfAll v p vs ps ∧ Diffs vs ps
  | _, _ => True
theorem resN_cons {p : PV} {ps : List PV} {S S' : Sq} {cs : List R} (e : resN S (p :: ps) = some (cs, S')) : ∃ c S1 cs', S.res p = some (c, S1) ∧ resN S1 ps = some (cs', S') ∧ cs = c :: cs' := by
  unfold resN at e
  cases q : S.res p with
  | none => rw [q] at e; cases e
  | some y =>
    obtain ⟨c, S1⟩ := y
    rw [q] at e
    dsimp only at e
    cases q2 : resN S1 ps with
    | none => rw [q2] at e; cases e
    | some y2 =>
      obtain ⟨cs', S2⟩ := y2
      rw [q2] at e
      cases e
      exact ⟨c, S1, cs', rfl, q2, rfl⟩
theorem dfAll_of {p : PV} {c : R} (hc : isOwn c = true → ∃ b, p = .o b) : ∀ {ps : List PV} {vs : List V} {S S' : Sq} {cs : List R}, ApAll v p vs ps → resN S ps = some (cs, S') → DfAll v c vs cs
  | [], vs, S, S', cs, a, e => by
    cases e
    cases vs <;> trivial
  | q :: qs, [], _, _, _, _, _ => by unfold DfAll; trivial
  | q :: qs, w :: ws, S, S', cs, a, e => by
    obtain ⟨c', S1, cs', e1, e2, rfl⟩ := resN_cons e
    refine ⟨fun h1 h2 => ?_, dfAll_of hc a.2 e2⟩
    obtain ⟨b, rfl⟩ := hc h1
    obtain ⟨b', rfl⟩ := res_own e1 h2
    exact a.1
theorem diffs_of : ∀ {ps : List PV} {vs : List V} {S S' : Sq} {cs : List R}, Aparts vs ps → resN S ps = some (cs, S') → Diffs vs cs
  | [], vs, S, S', cs, a, e => by
    cases e
    cases vs <;> trivial
  | q :: qs, [], _, _, _, _, _ => by unfold Diffs; trivial
  | q :: qs, w :: ws, S, S', cs, a, e => by
    obtain ⟨c', S1, cs', e1, e2, rfl⟩ := resN_cons e
    exact ⟨dfAll_of (fun h => res_own e1 h) a.1 e2, diffs_of a.2 e2⟩
/-- what is to be stored stays so while another one is stored -/
theorem Fit.store {b : R} (f : Fit K H0 pa σ F H S v c) (o : Fit K H0 pa σ F H S w b) (n : isOwn c = true → isOwn b = true → v ≠ w) (hi : i < S.r.length) : Fit K H0 pa (σ.set i (some v)) F H { S with r := S.r.set i c } w b := by
  have own : OwnV K H0 pa σ F H S w b → OwnV K H0 pa (σ.set i (some v)) F H { S with r := S.r.set i c } w b := fun o => by
    refine OwnV.store f o (fun z => ?_) hi
    obtain ⟨t, ho, ew, h1, h2, h3, h4, h5, h6⟩ := o.open
    subst ew
    subst z
    cases c with
    | d x => exact Dn.there (show Dn K F (.ref t) x from f) h2
    | l ys => exact n rfl o.isOwn rfl
    | m ys => exact n rfl o.isOwn rfl
    | pen =>
      obtain ⟨q, e3, e4⟩ := f
      cases e4
      exact h6 e3.symm
    | un => exact False.elim f
    | e c => exact False.elim f
    | sc ns => exact False.elim f
    | es cs => exact False.elim f
  cases b with
  | d y => exact o
  | l xs => exact own o
  | m kvs => exact own o
  | pen => exact o
  | un => exact o
  | e c => exact o
  | sc ns => exact o
  | es cs => exact o
def setN : List R → List Nat → List R → List R
  | r, i :: is, c :: cs => setN (r.set i c) is cs
  | r, _, _ => r
def setV : L2.St → List Nat → List V → L2.St
  | σ, i :: is, v :: vs => setV (σ.set i (some v)) is vs
  | σ, _, _ => σ
theorem Agr.storeN : ∀ {is : List Nat} {vs : List V} {cs : List R} {σ : L2.St} {S : Sq}, Agr K F0 H0 pa σ F H S → Paired (Fit K H0 pa σ F H S) vs cs → Diffs vs cs → (∀ i ∈ is, i < S.r.length) → is.length = vs.length → Agr K F0 H0 pa (setV σ is vs) F H { S with r := setN S.r is cs }
  | [], vs, cs, σ, S, A, _, _, _, hl => by
    cases vs with
    | nil => cases cs <;> exact A
    | cons _ _ => cases hl
  | i :: is, [], _, _, _, _, _, _, _, h => by cases h
  | i :: is, v :: vs, cs, σ, S, A, f, df, hi, hl => by
    cases f with
    | @cons _ c _ cs f1 f2 =>
      have hi1 := hi i List.mem_cons_self
      have fs : ∀ {vs : List V} {cs : List R}, Paired (Fit K H0 pa σ F H S) vs cs → DfAll v c vs cs → Paired (Fit K H0 pa (σ.set i (some v)) F H { S with r := S.r.set i c }) vs cs := by
        intro vs cs h
        induction h with
        | nil => intro _; exact .nil
        | cons h t ih => intro d; exact .cons (f1.store h d.1 hi1) (ih d.2)
      exact Agr.storeN (S := { S with r := S.r.set i c }) (A.store hi1 f1) (fs f2 df.1) df.2 (fun j hj => by
        show j < (S.r.set i c).length
        rw [List.length_set]; exact hi j (List.mem_cons_of_mem _ hj)) (by simpa using hl)
end
section
variable {X : Cx} {W : WX} {a b c e : Expr} {es : List Expr} {fa fb fc : Sq → Out PV} {fs : List (Sq → Out PV)} {pos : Pos} {N : List Str} {sc : Scope} {k : Nat} {G : Gb} {x y z : Str}
theorem pa_nilO : PA X [] (rdN X.K W []) := PA.weak pa_nil fun σ H Q ⟨F0, H0, pa, F, S, A, z⟩ => z [] F H (Ex.refl F) A .nil trivial
theorem pa_consO (ha : DE X W a fa) (hr : PA X es (rdN X.K W fs)) (hs : starEach (a :: es) X.env = (false, eval a X.env) :: starEach es X.env := by rfl) : PA X (a :: es) (rdN X.K W (fa :: fs)) := by
  refine PA.weak (pa_cons ha hr hs) fun σ H Q z => ?_
  obtain ⟨F0, H0, pa, F, S, A, z⟩ := z
  unfold evN at z
  rw [OutP.bind] at z
  refine ⟨F0, H0, pa, F, S, A, z.imp (fun p S1 z v F1 H1 x1 A1 r1 => ⟨F1, hide σ S1 pa H1, pa, F1, S1, A1.rebase, ?_⟩) fun _ _ z => z⟩
  rw [OutP.bind] at z
  refine z.imp (fun qs S2 z ws F2 H2 x2 B r2 ap => ?_) fun c S2 z F2 H2 B => z F2 H2 (A1.unbase B)
  refine z (v :: ws) F2 H2 (x1.trans x2) (A1.unbase B) (.cons ?_ (unbaseAll A1 r2)) ⟨?_, ap⟩
  · cases p with
    | s k => exact r1
    | v x => exact Dn.mono x2 r1
    | o b => exact OwnV.stay A1 B r1
  · cases p with
    | s k => exact ap_triv (fun b z => by cases z)
    | v x => exact ap_triv (fun b z => by cases z)
    | o b => exact ap_all A1 r1 B r2
def par3F2 (is : List Nat) : Option (List R × Sq) → Fl
  | some (cs, S2) => if cs.length = is.length ∧ ∀ i ∈ is, i < S2.r.length then .nx { S2 with r := setN S2.r is cs } else .no
  | none => .no
def par3F (is : List Nat) (fs : List (Sq → Out PV)) : Sq → Fl := fun S => (evN fs S).fl fun ps S1 => par3F2 is (resN S1 ps)
theorem ds_par3 (i j l : Nat) {px py pz pt : Pos} {kt k2 pt2} (C : Cq G k N sc X) (ha : DE X W a fa) (hb : DE X W b fb) (hc : DE X W c fc) (hi : N[i]? = some x := by rfl) (hj : N[j]? = some y := by rfl) (hl : N[l]? = some z := by rfl) (hij : i ≠ j := by decide) (hil : i ≠ l := by decide) (hjl : j ≠ l := by decide)
    (hx : sc.names.lookup x = some .local := by rfl) (hy : sc.names.lookup y = some .local := by rfl) (hz : sc.names.lookup z = some .local := by rfl)
    (hw : swappedStores [.Tuple [.Name x px, .Name y py, .Name z pz] kt pt] (.Tuple [a, b, c] k2 pt2) X.env = pure (some [x, y, z]))
    (hs : swapsWithSole [.Tuple [.Name x px, .Name y py, .Name z pz] kt pt] (.Tuple [a, b, c] k2 pt2) pos.line X.env = pure false := by rfl)
    (h1 : starEach [a, b, c] X.env = (false, eval a X.env) :: starEach [b, c] X.env := by rfl) (h2 : starEach [b, c] X.env = (false, eval b X.env) :: starEach [c] X.env := by rfl) (h3 : starEach [c] X.env = (false, eval c X.env) :: starEach [] X.env := by rfl) :
    DS X W (.Assign [.Tuple [.Name x px, .Name y py, .Name z pz] kt pt] (.Tuple [a, b, c] k2 pt2) pos) (par3F [i, j, l] [fa, fb, fc]) := by
  refine PS.weak (L2.ps_par3 C.calm (by rw [C.names]; exact C.nd) (by rw [C.names]; exact hi) (by rw [C.names]; exact hj) (by rw [C.names]; exact hl) hij hil hjl (by rw [C.scope]; exact hx) (by rw [C.scope]; exact hy) (by rw [C.scope]; exact hz) (pa_consO ha (pa_consO hb (pa_consO hc pa_nilO h3) h2) h1) hw hs) fun Z σ H q => ?_
  obtain ⟨F0, H0, pa, F, S, A, q⟩ := q
  refine ⟨F0, H0, pa, F, S, A, (fl_out (σ := σ) q).imp (fun ps S1 q vs F1 H1 x1 A1 r1 ap => ?_) fun _ _ q => q⟩
  cases e1 : resN S1 ps with
  | none => rw [e1] at q; exact q.elim
  | some y =>
    obtain ⟨cs, S2⟩ := y
    rw [e1] at q
    unfold par3F2 at q
    dsimp only at q
    split at q
    · rename_i hlt
      obtain ⟨F2, x2, A2, f2, _⟩ := A1.resN r1 e1
      have hl2 := paired_length f2
      have hlen : vs.length = 3 := by rw [hl2, hlt.1]; rfl
      obtain ⟨v1, v2, v3, rfl⟩ : ∃ v1 v2 v3, vs = [v1, v2, v3] := by
        match vs, hlen with
        | [v1, v2, v3], _ => exact ⟨v1, v2, v3, rfl⟩
      exact ⟨_, _, _, rfl, q _ F2 _ (A2.storeN (is := [i, j, l]) f2 (diffs_of ap e1) hlt.2 rfl)⟩
    · exact q.elim
end
end Q3
/-! Q5f: comprehensions with two fors. -/
namespace Q3
open PySem PySem.Spec PyProof.Rows L2
variable [TabSet]
section
variable {X : Cx} {W : WX} {a b c e tg it tg1 it1 elt : Expr} {fa fb fc te : Sq → Out PV} {tt tt1 : Sq → Out Bool} {fi fi1 : Sq → Out (List D)} {pos : Pos} {N : List Str} {sc : Scope} {k : Nat} {G : Gb} {vs vs1 : List Nat} {t t1 : Tg}
/-- where a comprehension's loop stands -/
def LcAt (K : PySem.W.Frag) (F1 H0' : Hp) (pa : Option Addr) (σ : L2.St) (vs : List Nat) (L : Addr) (run : Sq → List D → Prop) (H : Hp) : Prop :=
  ∃ F S acc vsa, Agr K F1 H0' pa (wipe σ vs) F H (Sw vs S) ∧ H L = some (.lst vsa) ∧ F L = none ∧ (∀ j, ¬ Own (wipe σ vs) (Sw vs S) j L) ∧ DnAll K F vsa acc ∧ run S acc
theorem lc_step {K : PySem.W.Frag} {F1 H0' : Hp} {pa : Option Addr} {σ : L2.St} {L : Addr} {ds : List D} {J : It} {i : Nat} {H : Hp} {P : List D → Sq → Prop} {E : Str → Sq → Prop} (hs : ∀ i ∈ t.is, i ∈ vs) (npa : some L ≠ pa) (hHL : H0' L = none) (y : Yields K F1 J ds) (hlt : i < ds.length)
    (h : LcAt K F1 H0' pa σ vs L (fun S acc => OutP (lcF t tt te vs (ds.drop i) S acc) P E) H) :
    J.go i H ∧ ∀ x H', J.yld i H x H' → t.rd K x (wipe σ vs) H' fun σ2 H2 => wipe σ2 vs = wipe σ vs ∧ rdT K WF0 tt σ2 H2 fun b H3 =>
      if b = true then rd K WF0 (fzF te) σ2 H3 fun y H4 => ∃ acc, H4 L = some (.lst acc) ∧ acc.length < sizeLine ∧ LcAt K F1 H0' pa σ vs L (fun S acc => OutP (lcF t tt te vs (ds.drop (i + 1)) S acc) P E) (upd H4 L (.lst (acc ++ [y])))
      else LcAt K F1 H0' pa σ vs L (fun S acc => OutP (lcF t tt te vs (ds.drop (i + 1)) S acc) P E) H3 := by
  obtain ⟨F, S, acc, vsa, A, hD, hFL, no, hacc, z⟩ := h
  refine ⟨y.go i H (A.fF.trans A.sub) hlt, fun x H' hy => ?_⟩
  have hd : ds.drop i = ds[i] :: ds.drop (i + 1) := List.drop_eq_getElem_cons hlt
  rw [hd] at z
  unfold lcF at z
  have gv := (y.yld i H x H' ds[i] (A.fF.trans A.sub) (List.getElem?_eq_getElem hlt) hy).up A.fF
  have A' := A.more1 hD hFL no fun _ z => nomatch z
  obtain ⟨F2, x2, A2, r2⟩ := A'.gives gv
  cases e2 : t.put { S with r := wipeR S.r vs } ds[i] with
  | none => rw [e2] at z; exact z.elim
  | some S1' =>
    rw [e2] at z
    dsimp only at z
    rw [OutP.bind] at z
    refine Tg.ok A2 r2 e2 fun σ2 A3 sb => ⟨wipe_same sb hs, ?_⟩
    have hw : wipe σ2 vs = wipe σ vs := wipe_same sb hs
    refine ⟨F, upd H0' L (.lst vsa), pa, F2, S1', A3, OutP.imp (OutP.quiet z) (fun bb S2 z F3 H3 x3 A4 => ?_) fun _ _ z => z⟩
    have back : ∀ {F5 H5 S5 us ys}, Agr K F (upd H0' L (.lst vsa)) pa σ2 F5 H5 S5 → DnAll K F5 us ys → Agr K F1 H0' pa (wipe σ vs) F5 (upd H5 L (.lst us)) (Sw vs S5) ∧ F5 L = none ∧ ∀ j, ¬ Own (wipe σ vs) (Sw vs S5) j L := fun {F5 H5 S5 us ys} B hu => by
      have C1 := A.deF (B.apart (ws := us) (B.hH L _ upd_same npa) npa hFL hHL)
      have C2 := C1.wiped vs
      rw [hw] at C2
      refine ⟨C2, ?_, fun j w => ?_⟩
      · cases q : F5 L with
        | none => rfl
        | some u =>
          rcases B.new L u q with z | z
          · rw [hFL] at z; cases z
          · rw [upd_same] at z; cases z
      · rw [← hw] at w
        have q := (B.ownN j L w.wipe.1).1
        rw [upd_same] at q; cases q
    cases bb with
    | false =>
      simp only [Bool.false_eq_true, if_false] at z ⊢
      obtain ⟨b1, b2, b3⟩ := back A4 (hacc.mono (x2.trans x3))
      have hD3 : H3 L = some (.lst vsa) := A4.hH L _ upd_same npa
      rw [upd_id hD3] at b1
      exact ⟨F3, S2, acc, vsa, b1, hD3, b2, b3, hacc.mono (x2.trans x3), z⟩
    | true =>
      simp only [if_true] at z ⊢
      rw [OutP.bind] at z
      refine ⟨F, upd H0' L (.lst vsa), pa, F3, S2, A4, OutP.imp (OutP.quiet z) (fun p S3 z v F4 H4 x4 A5 r5 => ?_) fun _ _ z => z⟩
      split at z
      · rename_i y' S4 e4
        split at z
        · rename_i hz
          obtain ⟨F5, x5, A6, d6⟩ := A5.keep r5 e4
          have hD4 : H4 L = some (.lst vsa) := A6.hH L _ upd_same npa
          have hu : DnAll K F5 (vsa ++ [v]) (acc ++ [y']) := (hacc.mono (x2.trans (x3.trans (x4.trans x5)))).append (.cons d6 .nil)
          obtain ⟨b1, b2, b3⟩ := back A6 hu
          exact ⟨vsa, hD4, by rw [hacc.length]; exact hz, F5, S4, acc ++ [y'], vsa ++ [v], b1, upd_same, b2, b3, hu, z⟩
        · exact z.elim
      · exact z.elim
/-- the outer loop of two -/
def lcF2 (t : Tg) (tt : Sq → Out Bool) (fi1 : Sq → Out (List D)) (t1 : Tg) (tt1 : Sq → Out Bool) (te : Sq → Out PV) (vs vs1 : List Nat) : List D → Sq → List D → Out (List D)
  | [], S, acc => .ok acc S
  | d :: ds, S, acc => match t.put { S with r := wipeR S.r vs } d with
    | some S1 => (tt S1).quiet.bind fun b S2 => if b = true then (fi1 S2).quiet.bind fun ds1 S3 => (lcF t1 tt1 te vs1 ds1 { S3 with r := wipeR S3.r vs1 } acc).bind fun acc' S4 => lcF2 t tt fi1 t1 tt1 te vs vs1 ds S4 acc' else lcF2 t tt fi1 t1 tt1 te vs vs1 ds S2 acc
    | none => .no
def lcS2 (t : Tg) (fi : Sq → Out (List D)) (tt : Sq → Out Bool) (t1 : Tg) (fi1 : Sq → Out (List D)) (tt1 : Sq → Out Bool) (te : Sq → Out PV) (vs vs1 : List Nat) : Sq → Out PV := fun S => (fi S).bind fun ds S1 => if plainAt S1 vs = true then (lcF2 t tt fi1 t1 tt1 te vs vs1 ds { S1 with r := wipeR S1.r vs } []).bind fun out S2 => .ok (.o (.l out)) { S2 with r := backR S1.r S2.r vs } else .no
theorem wipe_wipe {σ : L2.St} (hv : ∀ i ∈ vs1, i ∈ vs) : wipe (wipe σ vs1) vs = wipe σ vs := List.ext_getElem? fun j => by
  rw [wipe_get, wipe_get, wipe_length, wipe_get]
  by_cases e : j ∈ vs
  · rw [if_pos e, if_pos e]
  · rw [if_neg e, if_neg e, if_neg fun z => e (hv j z)]
theorem wipeR_wipeR {r : List R} (hv : ∀ i ∈ vs1, i ∈ vs) : wipeR (wipeR r vs1) vs = wipeR r vs := List.ext_getElem? fun j => by
  rw [wipeR_get, wipeR_get, wipeR_length, wipeR_get]
  by_cases e : j ∈ vs
  · rw [if_pos e, if_pos e]
  · rw [if_neg e, if_neg e, if_neg fun z => e (hv j z)]
theorem sw_sw {S : Sq} (hv : ∀ i ∈ vs1, i ∈ vs) : Sw vs (Sw vs1 S) = Sw vs S := by
  unfold Sw
  show (⟨wipeR (wipeR S.r vs1) vs, S.p⟩ : Sq) = _
  rw [wipeR_wipeR hv]
theorem rd_lc2 {K : PySem.W.Frag} {σ : L2.St} {H : Hp} {Q : VK} (hs : ∀ i ∈ t.is, i ∈ vs) (hs1 : ∀ i ∈ t1.is, i ∈ vs1) (hv : ∀ i ∈ vs1, i ∈ vs) (z : rd K W (lcS2 t fi tt t1 fi1 tt1 te vs vs1) σ H Q) : tLc2 (rdI K W fi) (t.rd K) (rdT K WF0 tt) (rdI K WF0 fi1) (t1.rd K) (rdT K WF0 tt1) (rd K WF0 (fzF te)) vs vs1 σ H Q := by
  obtain ⟨F0, H0, pa, Fa, S0, A0, z⟩ := z
  unfold lcS2 at z
  rw [OutP.bind] at z
  refine ⟨F0, H0, pa, Fa, S0, A0, z.imp (fun ds S1 z J F1 H1 x1 A1 y => ?_) fun _ _ z => z⟩
  intro L hL
  by_cases hpl : plainAt S1 vs = true
  rotate_left
  · rw [if_neg hpl] at z; exact z.elim
  rw [if_pos hpl] at z
  rw [OutP.bind] at z
  have hB : H1 L = none := hL
  have npa : some L ≠ pa := A1.nopen hL
  have B1 : Agr K F1 (hide (wipe σ vs) (Sw vs S1) pa H1) pa (wipe σ vs) F1 H1 (Sw vs S1) := (A1.wiped vs).rebase
  have hHL : hide (wipe σ vs) (Sw vs S1) pa H1 L = none := by
    cases q : hide (wipe σ vs) (Sw vs S1) pa H1 L with
    | none => rfl
    | some o => rw [(hide_some q).1] at hL; cases hL
  have hF1 : F1 L = none := A1.sub.none hL
  generalize hH0 : hide (wipe σ vs) (Sw vs S1) pa H1 = H0' at B1 hHL
  have unb : ∀ {F H S}, Agr K F1 H0' pa (wipe σ vs) F H S → Agr K F0 H0 pa (wipe σ vs) F H S := fun B => (A1.wiped vs).unbase (by rw [← hH0] at B; exact B)
  let Inv := fun (i : Nat) (H : Hp) => ∃ F S acc vsa, Agr K F1 H0' pa (wipe σ vs) F H (Sw vs S) ∧ H L = some (.lst vsa) ∧ F L = none ∧ (∀ j, ¬ Own (wipe σ vs) (Sw vs S) j L) ∧ DnAll K F vsa acc ∧
    OutP (lcF2 t tt fi1 t1 tt1 te vs vs1 (ds.drop i) S acc) (fun out S2 => TP K F0 H0 pa σ Fa Q (.o (.l out)) { S2 with r := backR S1.r S2.r vs }) (EW K W F0 H0 pa σ)
  have wid : ∀ (r : List R), wipeR (wipeR r vs) vs = wipeR r vs := fun r => List.ext_getElem? fun j => by
    rw [wipeR_get, wipeR_get]
    by_cases e : j ∈ vs
    · rw [if_pos e, if_pos e, wipeR_length]
    · rw [if_neg e, if_neg e]
  have start : Inv 0 (upd H1 L (.lst [])) := by
    refine ⟨F1, Sw vs S1, [], [], ?_, upd_same, hF1, fun j w => ?_, .nil, ?_⟩
    · have e : Sw vs (Sw vs S1) = Sw vs S1 := by
        unfold Sw
        show (⟨wipeR (wipeR S1.r vs) vs, S1.p⟩ : Sq) = _
        rw [wid]
      rw [e]
      exact B1.more (Ex.new hL)
    · have e : Sw vs (Sw vs S1) = Sw vs S1 := by
        unfold Sw
        show (⟨wipeR (wipeR S1.r vs) vs, S1.p⟩ : Sq) = _
        rw [wid]
      rw [e] at w
      exact B1.own_there w hL
    · rw [List.drop_zero]; exact z
  refine ⟨fun i m H => m = ds.length - i ∧ i ≤ ds.length ∧ Inv i H, ⟨ds.length, by simp, Nat.zero_le _, start⟩, ?_⟩
  rintro i m H ⟨rfl, hi, F, S, acc, vsa, A, hD, hFL, no, hacc, z⟩
  by_cases hlt : i < ds.length
  · refine .inr ⟨y.go i H (A.fF.trans A.sub) hlt, Inv (i + 1), fun H' h => ⟨ds.length - (i + 1), by omega, rfl, hlt, h⟩, fun x H' hy => ?_⟩
    have hd : ds.drop i = ds[i] :: ds.drop (i + 1) := List.drop_eq_getElem_cons hlt
    rw [hd] at z
    unfold lcF2 at z
    have gv := (y.yld i H x H' ds[i] (A.fF.trans A.sub) (List.getElem?_eq_getElem hlt) hy).up A.fF
    have A' := A.more1 hD hFL no fun _ z => nomatch z
    obtain ⟨F2, x2, A2, r2⟩ := A'.gives gv
    cases e2 : t.put { S with r := wipeR S.r vs } ds[i] with
    | none => rw [e2] at z; exact z.elim
    | some S1' =>
      rw [e2] at z
      dsimp only at z
      rw [OutP.bind] at z
      refine Tg.ok A2 r2 e2 fun σ2 A3 sb => ⟨wipe_same sb hs, ?_⟩
      have hw : wipe σ2 vs = wipe σ vs := wipe_same sb hs
      refine ⟨F, upd H0' L (.lst vsa), pa, F2, S1', A3, OutP.imp (OutP.quiet z) (fun bb S2 z F3 H3 x3 A4 => ?_) fun _ _ z => z⟩
      have back : ∀ {F5 H5 S5 us ys}, Agr K F (upd H0' L (.lst vsa)) pa σ2 F5 H5 S5 → DnAll K F5 us ys → Agr K F1 H0' pa (wipe σ vs) F5 (upd H5 L (.lst us)) (Sw vs S5) ∧ F5 L = none ∧ ∀ j, ¬ Own (wipe σ vs) (Sw vs S5) j L := fun {F5 H5 S5 us ys} B hu => by
        have C1 := A.deF (B.apart (ws := us) (B.hH L _ upd_same npa) npa hFL hHL)
        have C2 := C1.wiped vs
        rw [hw] at C2
        refine ⟨C2, ?_, fun j w => ?_⟩
        · cases q : F5 L with
          | none => rfl
          | some u =>
            rcases B.new L u q with z | z
            · rw [hFL] at z; cases z
            · rw [upd_same] at z; cases z
        · rw [← hw] at w
          have q := (B.ownN j L w.wipe.1).1
          rw [upd_same] at q; cases q
      cases bb with
      | false =>
        simp only [Bool.false_eq_true, if_false] at z ⊢
        obtain ⟨b1, b2, b3⟩ := back A4 (hacc.mono (x2.trans x3))
        have hD3 : H3 L = some (.lst vsa) := A4.hH L _ upd_same npa
        rw [upd_id hD3] at b1
        exact ⟨F3, S2, acc, vsa, b1, hD3, b2, b3, hacc.mono (x2.trans x3), z⟩
      | true =>
        simp only [if_true] at z ⊢
        rw [OutP.bind] at z
        refine ⟨F, upd H0' L (.lst vsa), pa, F3, S2, A4, OutP.imp (OutP.quiet z) (fun ds1 S3 z J1 F4 H4 x4 A5 y1 => ?_) fun _ _ z => z⟩
        have hD4 : H4 L = some (.lst vsa) := A5.hH L _ upd_same npa
        have hacc4 := hacc.mono (x2.trans (x3.trans x4))
        have hF4 : F4 L = none := (back A5 hacc4).2.1
        have C1 : Agr K F1 H0' pa σ2 F4 H4 S3 := by
          have q := A.deF (A5.apart (ws := vsa) hD4 npa hFL hHL)
          rw [upd_id hD4] at q
          exact q
        have C2 : Agr K F4 H0' pa (wipe σ2 vs1) F4 H4 (Sw vs1 S3) := (C1.wiped vs1).reF
        have wid1 : Sw vs1 (Sw vs1 S3) = Sw vs1 S3 := sw_sw fun _ h => h
        rw [OutP.bind] at z
        refine ⟨fun j m H => m = ds1.length - j ∧ j ≤ ds1.length ∧ LcAt K F4 H0' pa σ2 vs1 L (fun S acc => OutP (lcF t1 tt1 te vs1 (ds1.drop j) S acc) _ _) H, ⟨ds1.length, by simp, Nat.zero_le _, F4, Sw vs1 S3, acc, vsa, by rw [wid1]; exact C2, hD4, hF4, fun j w => ?_, hacc4, by rw [List.drop_zero]; exact z⟩, ?_⟩
        · rw [wid1] at w
          have q := (C2.ownN j L w).1
          have w' : Own σ2 S3 j L := w.wipe.1
          have q := (A5.ownN j L w').1
          rw [upd_same] at q; cases q
        · rintro j m H5 ⟨rfl, hj, h5⟩
          by_cases hlt1 : j < ds1.length
          · obtain ⟨g1, g2⟩ := lc_step hs1 npa hHL y1 hlt1 h5
            refine .inr ⟨g1, _, fun H' h => ⟨ds1.length - (j + 1), by omega, rfl, hlt1, h⟩, fun x H' hy => ?_⟩
            exact g2 x H' hy
          · have e : j = ds1.length := by omega
            subst e
            obtain ⟨F6, S6, acc6, vsa6, A6, hD6, hF6, no6, hacc6, z6⟩ := h5
            rw [List.drop_length] at z6
            refine .inl ⟨y1.stop H5 (A6.fF.trans A6.sub), F6, S6, acc6, vsa6, ?_, hD6, hF6, fun j w => ?_, hacc6, z6⟩
            · have q := ((C1.wiped vs1).deF A6).wiped vs
              rw [wipe_wipe hv, hw] at q
              have e : ({ Sw vs1 S6 with r := wipeR (Sw vs1 S6).r vs } : Sq) = Sw vs S6 := sw_sw hv
              rw [e] at q
              exact q
            · have q := ((C1.wiped vs1).deF A6).wiped vs
              have e : ({ Sw vs1 S6 with r := wipeR (Sw vs1 S6).r vs } : Sq) = Sw vs S6 := sw_sw hv
              rw [e, wipe_wipe hv, hw] at q
              have w2 : Own (wipe σ2 vs1) (Sw vs1 S6) j L := by
                have w3 : Own (wipe (wipe σ2 vs1) vs) ({ Sw vs1 S6 with r := wipeR (Sw vs1 S6).r vs } : Sq) j L := by
                  rw [e, wipe_wipe hv, hw]; exact w
                exact w3.wipe.1
              exact no6 j w2
  · have e : i = ds.length := by omega
    subst e
    rw [List.drop_length] at z
    refine .inl ⟨y.stop H (A.fF.trans A.sub), ?_⟩
    have z : TP K F0 H0 pa σ Fa Q (.o (.l acc)) { S with r := backR S1.r S.r vs } := z
    have U := unb A
    have lenS : S1.r.length = S.r.length := by
      have h1 := A1.len
      have h2 := A.len
      have h2 : (wipeR S.r vs).length = (wipe σ vs).length := h2
      rw [wipeR_length, wipe_length] at h2
      omega
    have slotEq : ∀ (j : Nat), j ∉ vs → (backR S1.r S.r vs)[j]? = (wipeR S.r vs)[j]? := fun j hj => by rw [backR_get _ _ lenS, wipeR_get, if_neg hj, if_neg hj]
    have plain : ∀ (j : Nat) (c : R), j ∈ vs → (backR S1.r S.r vs)[j]? = some c → S1.r[j]? = some c ∧ (c = .un ∨ ∃ x, c = .d x) := fun j c hj e => by
      rw [backR_get _ _ lenS, if_pos hj] at e
      refine ⟨e, ?_⟩
      have q := List.all_eq_true.mp hpl j hj
      rw [e] at q
      cases c with
      | un => exact .inl rfl
      | d x => exact .inr ⟨x, rfl⟩
      | l xs => cases q
      | m kvs => cases q
      | e c => cases q
      | sc ns => cases q
      | es cs => cases q
      | pen => cases q
    have own : ∀ j a, Own σ { S with r := backR S1.r S.r vs } j a → Own (wipe σ vs) (Sw vs S) j a := fun j a w => by
      obtain ⟨w1, w2⟩ := w
      by_cases hj : j ∈ vs
      · exfalso
        rcases w2 with ⟨xs, w2⟩ | ⟨kvs, w2⟩
        · rcases (plain j _ hj w2).2 with q | ⟨_, q⟩ <;> cases q
        · rcases (plain j _ hj w2).2 with q | ⟨_, q⟩ <;> cases q
      · refine ⟨by rw [wipe_get, if_neg hj]; exact w1, ?_⟩
        rcases w2 with ⟨xs, w2⟩ | ⟨kvs, w2⟩
        · exact .inl ⟨xs, by rw [← w2]; exact (slotEq j hj).symm⟩
        · exact .inr ⟨kvs, by rw [← w2]; exact (slotEq j hj).symm⟩
    have Afin : Agr K F0 H0 pa σ F H { S with r := backR S1.r S.r vs } := by
      refine ⟨U.fF, U.sub, U.hH, U.tabs, U.ft, U.n0, U.new, ?_, fun j c e => ?_, fun j l a p q => U.dist j l a (own j a p) (own l a q), fun j a p => U.ownN j a (own j a p), U.pen⟩
      · show (backR S1.r S.r vs).length = _
        rw [backR_length, ← lenS]
        exact A1.len
      · by_cases hj : j ∈ vs
        · obtain ⟨e1, e2⟩ := plain j c hj e
          have so := A1.slots j c e1
          rcases e2 with rfl | ⟨x, rfl⟩
          · trivial
          · obtain ⟨w, p1, p2⟩ := so
            exact ⟨w, p1, p2.mono A.fF⟩
        · have e' : (wipeR S.r vs)[j]? = some c := by rw [← slotEq j hj]; exact e
          have so := U.slots j c e'
          rw [wipe_get, if_neg hj] at so
          exact so
    refine z _ F H (x1.trans A.fF) Afin ⟨L, vsa, rfl, hD, hFL, hacc, A1.fresh0 hL npa, fun j w => no j (own j L w), npa⟩
theorem de_lc2 {ifs ifs1 : List Expr} {scope : Scope} {own : List (Str × Nat)} (C : Cq G k N sc X) (hi : DI X W tg it fi) (ok : blkC N sc scope own = true)
    (hg : ∀ X' : Cx, Cq G k N (relS scope sc) X' → (∀ x, X'.fn x = (scope.names.lookup x == some .cell)) → PG X' tg (t.rd X'.K)) (ht : ∀ X' : Cx, Cq G k N (relS scope sc) X' → Takes X' WF0 → DTs X' WF0 ifs tt)
    (hi1 : ∀ X' : Cx, Cq G k N (relS scope sc) X' → Takes X' WF0 → DI X' WF0 tg1 it1 fi1)
    (hg1 : ∀ X' : Cx, Cq G k N (relS scope sc) X' → (∀ x, X'.fn x = (scope.names.lookup x == some .cell)) → PG X' tg1 (t1.rd X'.K)) (ht1 : ∀ X' : Cx, Cq G k N (relS scope sc) X' → Takes X' WF0 → DTs X' WF0 ifs1 tt1)
    (he : ∀ X' : Cx, Cq G k N (relS scope sc) X' → Takes X' WF0 → DE X' WF0 elt te) (hsub : ∀ i ∈ t.is, i ∈ own.map (·.2) := by decide) (hsub1 : ∀ i ∈ t1.is, i ∈ vs1 := by decide) (hv : ∀ i ∈ vs1, i ∈ own.map (·.2) := by decide) (hs : ∀ x, foldedSetIterable it X.env x = pure x := by intro _; rfl) (hs1 : ∀ env x, foldedSetIterable it1 env x = pure x := by intro _ _; rfl) :
    DE X W (.ListComp elt [⟨tg, it, ifs, 0⟩, ⟨tg1, it1, ifs1, 0⟩] scope pos) (lcS2 t fi tt t1 fi1 tt1 te (own.map (·.2)) vs1) := by
  have ok' : BlkOk X.N X.env.scope scope own := by rw [C.names, C.scope]; exact blkOk_by ok
  exact PE.weak (pe_lc2 C.calm (by rw [C.names]; exact C.nd) hi ok' hv (fun s H A0 cl fp => hg _ C.blk fun _ => rfl) (fun s H A0 cl fp => ht _ C.blk takes0) (fun s H A0 cl fp => hi1 _ C.blk takes0) (fun s H A0 cl fp => hg1 _ C.blk fun _ => rfl) (fun s H A0 cl fp => ht1 _ C.blk takes0) (fun s H A0 cl fp => de_fz (he _ C.blk takes0)) hs hs1) fun σ H Q z => rd_lc2 hsub hsub1 hv z
end
end Q3
/-! Q5g: a comprehension into a cell. -/
namespace Q3
open PySem PySem.Spec PyProof.Rows L2
variable [TabSet]
theorem sw_cell {X : Cx} {N : List Str} {sc : Scope} {k : Nat} {G : Gb} {elt : Expr} {gs : List Comprehension} {scope : Scope} {pos py : Pos} {y : Str} {l : Nat} (C : Cq G k N sc X) (hy : sc.names.lookup y = some .cell) : swapsWith (.ListComp elt gs scope pos) (some (.Name y py)) l X.env = pure false := by
  have ky : X.env.kindOf y = some .cell := by unfold Env.kindOf; rw [C.scope]; exact hy
  unfold swapsWith
  dsimp only
  rw [ky]
  show pure (_ && false && _ && _) = pure false
  rw [Bool.and_false, Bool.false_and, Bool.false_and]
section
variable {X : Cx} {W : WX} {a b c e tg it tg1 it1 elt : Expr} {fa fb fc te : Sq → Out PV} {tt tt1 : Sq → Out Bool} {fi fi1 : Sq → Out (List D)} {pos : Pos} {N : List Str} {sc : Scope} {k : Nat} {G : Gb} {vs vs1 : List Nat} {t t1 : Tg}
theorem ds_setLc2 (i : Nat) {ifs ifs1 : List Expr} {scope : Scope} {own : List (Str × Nat)} {x : Str} {p : Pos} (C : Cq G k N sc X) (hi : DI X W tg it fi) (ok : blkC N sc scope own = true)
    (hg : ∀ X' : Cx, Cq G k N (relS scope sc) X' → (∀ x, X'.fn x = (scope.names.lookup x == some .cell)) → PG X' tg (t.rd X'.K)) (ht : ∀ X' : Cx, Cq G k N (relS scope sc) X' → Takes X' WF0 → DTs X' WF0 ifs tt)
    (hi1 : ∀ X' : Cx, Cq G k N (relS scope sc) X' → Takes X' WF0 → DI X' WF0 tg1 it1 fi1)
    (hg1 : ∀ X' : Cx, Cq G k N (relS scope sc) X' → (∀ x, X'.fn x = (scope.names.lookup x == some .cell)) → PG X' tg1 (t1.rd X'.K)) (ht1 : ∀ X' : Cx, Cq G k N (relS scope sc) X' → Takes X' WF0 → DTs X' WF0 ifs1 tt1)
    (he : ∀ X' : Cx, Cq G k N (relS scope sc) X' → Takes X' WF0 → DE X' WF0 elt te) (hsub : ∀ i ∈ t.is, i ∈ own.map (·.2) := by decide) (hsub1 : ∀ i ∈ t1.is, i ∈ vs1 := by decide) (hv : ∀ i ∈ vs1, i ∈ own.map (·.2) := by decide) (hs : ∀ x, foldedSetIterable it X.env x = pure x := by intro _; rfl) (hs1 : ∀ env x, foldedSetIterable it1 env x = pure x := by intro _ _; rfl) {pos' : Pos}
    (hN : N[i]? = some x := by rfl) (hx : sc.names.lookup x = some .local := by rfl) (hk : sc.kind = .function := by rfl) (hl : (p.line == pos.line) = true := by rfl) (ha : (scope.names.any fun (n, k) => n == x && (k == .local || k == .cell)) = false := by decide +kernel) :
    DS X W (.Assign [.Name x p] (.ListComp elt [⟨tg, it, ifs, 0⟩, ⟨tg1, it1, ifs1, 0⟩] scope pos) pos') (setF i (lcS2 t fi tt t1 fi1 tt1 te (own.map (·.2)) vs1)) := by
  have ok' : BlkOk X.N X.env.scope scope own := by rw [C.names, C.scope]; exact blkOk_by ok
  refine PS.weak (ps_setLc2 (wi := rdI X.K W fi) (g := t.rd X.K) (tt := rdT X.K WF0 tt) (wi1 := rdI X.K WF0 fi1) (g1 := t1.rd X.K) (tt1 := rdT X.K WF0 tt1) (te := rd X.K WF0 (fzF te)) (vs1 := vs1) C.calm (by rw [C.names]; exact C.nd) (by rw [C.names]; exact hN) (by rw [C.scope]; exact hx) (sw_true (by rw [C.scope]; exact hk) (by rw [C.scope]; exact hx) hl ha) hi ok' hv (fun s H A0 cl fp => hg _ C.blk fun _ => rfl) (fun s H A0 cl fp => ht _ C.blk takes0) (fun s H A0 cl fp => hi1 _ C.blk takes0) (fun s H A0 cl fp => hg1 _ C.blk fun _ => rfl) (fun s H A0 cl fp => ht1 _ C.blk takes0) (fun s H A0 cl fp => de_fz (he _ C.blk takes0)) hs hs1) fun Z σ H z => ?_
  have q := rs_set z
  exact rd_lc2 (W := W) hsub hsub1 hv q
end
end Q3
/-! Q6a: zip over lists and tuples, one of each too, strict or not. -/
namespace Q3
open PySem PySem.Spec PyProof.Rows L2
open PySem.Builtin.SmallTypes (nextOf nextOrEnd)
/-- an iterator of the items xs, by its state behind so many items; its own object it, what it walks l -/
structure ItrOk (prog : Program) (w : World) (it l : Addr) (xs : Array Value) (St : Nat → Heap → Prop) : Prop where
  ne : l ≠ it
  obj : ∀ {k h}, St k h → ∃ o, h.get? it = some o ∧ ∀ v, o.data ≠ .cell v
  objl : ∀ {k h}, St k h → ∃ o, h.get? l = some o
  keep : ∀ {k h h'}, St k h → (∀ o, h.get? it = some o → h'.get? it = some o) → (∀ o, h.get? l = some o → h'.get? l = some o) → St k h'
  item : ∀ {A : Around} {E : Value → Shared → Prop} {s : Shared} {k : Nat} {x : Value} {Q : Value → Shared → Prop}, St k s.heap → xs[k]? = some x → (∀ h', St (k + 1) h' → Heap.SameBut it s.heap h' → Q x { s with heap := h' }) → wpAny (model prog w) A (nextOf (.ref it)) Q E s
  stop : ∀ {A : Around} {E : Value → Shared → Prop} {s : Shared} {k : Nat} {Q : Value → Shared → Prop}, A.handled = none → St k s.heap → xs[k]? = none → (∀ h' e, Heap.ExtBut it s.heap h' → (∃ o, h'.get? e = some o ∧ o.cls = .type "StopIteration") → E (.ref e) { s with heap := h' }) → wpAny (model prog w) A (nextOf (.ref it)) Q E s
theorem itr_list {prog : Program} {w : World} {it l : Addr} {xs : Array Value} (ne : l ≠ it) : ItrOk prog w it l xs (fun k h => h.IsListIter it l k ∧ h.IsList l xs) where
  ne := ne
  obj := fun ⟨⟨o, e, _, d⟩, _⟩ => ⟨o, e, fun v q => by rw [d] at q; cases q⟩
  objl := fun ⟨_, ⟨o, e, _⟩⟩ => ⟨o, e⟩
  keep := fun ⟨a, ⟨o, e, r⟩⟩ k1 k2 => ⟨a.at k1, ⟨o, k2 _ e, r⟩⟩
  item := fun ⟨a, b⟩ hx h => wpAny_nextOf_list_item a b hx fun h' c d => h h' ⟨c, b.extBut d.extBut ne⟩ d
  stop := fun hh ⟨a, b⟩ hx h => wpAny_nextOf_list_end hh a b hx h
theorem itr_tuple {prog : Program} {w : World} {it l : Addr} {xs : Array Value} (ne : l ≠ it) : ItrOk prog w it l xs (fun k h => h.IsTupleIter it l k ∧ h.IsTuple l xs) where
  ne := ne
  obj := fun ⟨⟨o, e, _, d⟩, _⟩ => ⟨o, e, fun v q => by rw [d] at q; cases q⟩
  objl := fun ⟨_, ⟨o, e, _⟩⟩ => ⟨o, e⟩
  keep := fun ⟨a, ⟨o, e, r⟩⟩ k1 k2 => ⟨a.at k1, ⟨o, k2 _ e, r⟩⟩
  item := fun ⟨a, b⟩ hx h => wpAny_nextOf_tuple_item a b hx fun h' c d => h h' ⟨c, b.extBut d.extBut ne⟩ d
  stop := fun hh ⟨a, b⟩ hx h => wpAny_nextOf_tuple_end hh a b hx h
/-- a zip object; b: strict -/
abbrev ZipO (h : Heap) (z TI TO : Addr) (f0 : Value) (b : Bool) : Prop :=
  h.get? z = some { cls := .type "zip", dict := none, data := .fields #[f0, .bool false, .bool b, .ref TI, .ref TO], slots := #[] }
section
variable {prog : Program} {w : World} {A : Around} {E : Value → Shared → Prop} {s : Shared} {it l i1 i2 l1 l2 z TI TO : Addr} {xs ys : Array Value} {St St1 St2 : Nat → Heap → Prop} {k : Nat} {x y a b : Value} {st : Bool}
theorem draw_item {Q : Option Value → Shared → Prop} (I : ItrOk prog w it l xs St) (st : Bool) (hs : St k s.heap) (hx : xs[k]? = some x) (h : ∀ h', St (k + 1) h' → Heap.SameBut it s.heap h' → Q (some x) { s with heap := h' }) :
    wpAny (model prog w) A (if st = true then nextOrEnd (.ref it) else (nextOf (.ref it) >>= fun v => pure (some v))) Q E s := by
  cases st with
  | false =>
    rw [if_neg (by decide)]
    exact wpAny_bind (I.item hs hx fun h' a b => wpAny_pure (h h' a b))
  | true =>
    rw [if_pos rfl]
    unfold nextOrEnd
    exact wpAny_bind (wpAny_attempt (I.item hs hx fun h' a b => wpAny_pure (h h' a b)))
theorem end_strict {Q : Option Value → Shared → Prop} (hh : A.handled = none) (I : ItrOk prog w it l xs St) (hs : St k s.heap) (hx : xs[k]? = none) (h : ∀ h', Heap.ExtBut it s.heap h' → Q none { s with heap := h' }) :
    wpAny (model prog w) A (nextOrEnd (.ref it)) Q E s := by
  unfold nextOrEnd
  refine wpAny_bind (wpAny_attempt (I.stop hh hs hx fun h' e hb he => ?_))
  obtain ⟨o, ho, hc⟩ := he
  show wpAny _ _ (isInstance (.ref e) (.type "StopIteration") >>= _) _ _ _
  refine wpAny_bind (wpAny_isInstance (T := "StopIteration") (b := true) ⟨o, ho, hc⟩ isSubtype_stop ?_)
  exact wpAny_pure (h h' hb)
structure Zst (St1 St2 : Nat → Heap → Prop) (z TI TO i1 i2 : Addr) (st : Bool) (k : Nat) (h : Heap) : Prop where
  hz : ZipO h z TI TO .none st
  hi : IsPair h TI (.ref i1) (.ref i2)
  ho : ∃ a b, IsPair h TO a b
  s1 : St1 k h
  s2 : St2 k h
theorem zipN_item {Q : Value → Shared → Prop} (D : ZipApart z TI TO i1 i2 l1 l2) (I1 : ItrOk prog w i1 l1 xs St1) (I2 : ItrOk prog w i2 l2 ys St2) (Z : Zst St1 St2 z TI TO i1 i2 st k s.heap) (hx : xs[k]? = some x) (hy : ys[k]? = some y)
    (hQ : ∀ h', ZipO h' z TI TO (rawInt s.heap.objs.size) st → IsPair h' TO x y → St1 (k + 1) h' → St2 (k + 1) h' → IsPair h' s.heap.objs.size x y → h'.objs.size = s.heap.objs.size + 1 →
      (∀ c o, c ≠ z → c ≠ TO → c ≠ i1 → c ≠ i2 → s.heap.get? c = some o → h'.get? c = some o) → Q (.ref s.heap.objs.size) { s with heap := h' }) :
    wpAny (model prog w) A (Builtin.«zip.__next__» ⟨[.ref z], []⟩) (fun fin s' => ∃ v, fin = .done (.ret v) ∧ Q v s') E s := by
  obtain ⟨hz, hi, ⟨a, b, ho⟩, s1, s2⟩ := Z
  show wpAny _ _ (field (.ref z) 2 >>= _) _ _ _
  refine wpAny_bind (wpAny_field hz rfl (x := .bool st) rfl ?_)
  have est : (Value.bool st == Value.bool true) = st := by cases st <;> rfl
  rw [est]
  show wpAny _ _ (field (.ref z) 3 >>= _) _ _ _
  refine wpAny_bind (wpAny_field hz rfl (x := .ref TI) rfl ?_)
  refine wpAny_bind (wpAny_seqItems hi rfl ?_)
  show wpAny _ _ (Builtin.SmallTypes.ownedTupleIsFree (.ref z) >>= _) _ _ _
  refine wpAny_bind ?_
  unfold Builtin.SmallTypes.ownedTupleIsFree
  refine wpAny_bind (wpAny_field hz rfl (x := .none) rfl (wpAny_pure ?_))
  simp only [if_true]
  refine wpAny_bind (wpAny_rule ?_)
  refine wpAny_bind (wpAny_field hz rfl (x := .ref TO) rfl ?_)
  refine wpAny_bind (wpAny_setField_rec hz (by simp) fun g1 z1 b1 => ?_)
  replace z1 : ZipO g1 z TI TO .ellipsis st := z1
  refine wpAny_bind ?_
  simp only [List.zipIdx_cons, List.zipIdx_nil, List.forIn_cons, List.forIn_nil]
  refine wpAny_bind (wpAny_bind (wpAny_onRaise ?_))
  show wpAny _ _ (if st = true then nextOrEnd (.ref i1) else (nextOf (.ref i1) >>= fun v => pure (some v))) _ _ _
  have up : ∀ {c d : Addr} {p q : Heap}, Heap.SameBut d p q → c ≠ d → ∀ o, p.get? c = some o → q.get? c = some o := fun sb n o e => sb.extBut _ _ n e
  refine draw_item I1 st (I1.keep s1 (up b1 D.i1z) (up b1 D.l1z)) hx fun g2 t2 b2 => ?_
  have o2 : IsPair g2 TO a b := up b2 D.TOi1 _ (up b1 D.TOz _ ho)
  refine wpAny_bind (wpAny_seqItems o2 rfl ?_)
  refine wpAny_bind (wpAny_updateSeq_pair o2 fun g3 o3 b3 => ?_)
  replace o3 : IsPair g3 TO x b := o3
  refine wpAny_bind (wpAny_letGo (wpAny_pure ?_))
  refine wpAny_bind (wpAny_bind (wpAny_onRaise ?_))
  show wpAny _ _ (if st = true then nextOrEnd (.ref i2) else (nextOf (.ref i2) >>= fun v => pure (some v))) _ _ _
  have u1 := I2.keep s2 (up b1 D.i2z) (up b1 D.l2z)
  have u2 := I2.keep u1 (up b2 D.i12.symm) (up b2 D.l2i1)
  have u3 := I2.keep u2 (up b3 D.TOi2.symm) (up b3 D.l2TO)
  refine draw_item I2 st u3 hy fun g4 t4 b4 => ?_
  have o4 : IsPair g4 TO x b := up b4 D.TOi2 _ o3
  refine wpAny_bind (wpAny_seqItems o4 rfl ?_)
  refine wpAny_bind (wpAny_updateSeq_pair o4 fun g5 o5 b5 => ?_)
  replace o5 : IsPair g5 TO x y := o5
  refine wpAny_bind (wpAny_letGo (wpAny_pure (wpAny_pure ?_)))
  refine wpAny_bind (wpAny_seqItems o5 rfl ?_)
  refine wpAny_bind (wpAny_newTuple ?_)
  have hsz : g5.objs.size = s.heap.objs.size := by rw [b5.1, b4.1, b3.1, b2.1, b1.1]
  have z5 : ZipO g5 z TI TO .ellipsis st := up b5 D.TOz.symm _ (up b4 D.i2z.symm _ (up b3 D.TOz.symm _ (up b2 D.i1z.symm _ z1)))
  have k5 : ∀ c o, c ≠ z → c ≠ TO → c ≠ i1 → c ≠ i2 → s.heap.get? c = some o → g5.get? c = some o := fun c o c1 c2 c3 c4 e =>
    up b5 c2 _ (up b4 c4 _ (up b3 c2 _ (up b2 c3 _ (up b1 c1 _ e))))
  have v1 : St1 (k + 1) g5 := I1.keep (I1.keep (I1.keep t2 (up b3 D.TOi1.symm) (up b3 D.l1TO)) (up b4 D.i12) (up b4 D.l1i2)) (up b5 D.TOi1.symm) (up b5 D.l1TO)
  have v2 : St2 (k + 1) g5 := I2.keep t4 (up b5 D.TOi2.symm) (up b5 D.l2TO)
  have hzlt : z < g5.objs.size := Heap.lt_size z5
  show wpAny _ _ (Builtin.SmallTypes.ownedTupleHandOut (.ref z) (.ref g5.objs.size) >>= _) _ _ _
  refine wpAny_bind ?_
  unfold Builtin.SmallTypes.ownedTupleHandOut
  have z6 : ZipO (g5.push { cls := .type "tuple", data := .seq #[x, y] }) z TI TO .ellipsis st := Heap.get?_push_of_some _ z5
  refine wpAny_bind (wpAny_setField_rec z6 (by simp) fun g7 z7 b7 => ?_)
  replace z7 : ZipO g7 z TI TO (rawInt g5.objs.size) st := z7
  refine wpAny_setField_rec z7 (by simp) fun g8 z8 b8 => ?_
  replace z8 : ZipO g8 z TI TO (rawInt g5.objs.size) st := z8
  have fin : ∀ c o, c ≠ z → g5.get? c = some o → g8.get? c = some o := fun c o c1 e => up b8 c1 _ (up b7 c1 _ (Heap.get?_push_of_some _ e))
  have p8 : IsPair g8 g5.objs.size x y := up b8 (Nat.ne_of_gt hzlt) _ (up b7 (Nat.ne_of_gt hzlt) _ (Heap.get?_push_size _ rfl))
  have e8 : g8.objs.size = g5.objs.size + 1 := by rw [b8.1, b7.1, Heap.size_push]
  rw [hsz] at z8 p8 e8
  refine wpAny_pure ⟨_, rfl, ?_⟩
  show Q (.ref g5.objs.size) _
  rw [hsz]
  exact hQ g8 z8 (fin _ _ D.TOz o5) (I1.keep v1 (fun o => fin _ o D.i1z) fun o => fin _ o D.l1z) (I2.keep v2 (fun o => fin _ o D.i2z) fun o => fin _ o D.l2z) p8 e8 fun c o c1 c2 c3 c4 e => fin c o c1 (k5 c o c1 c2 c3 c4 e)
theorem stop_iter {α : Type} {Q : α → Shared → Prop} (hh : A.handled = none) (hE : ∀ h' e, (∀ c o, s.heap.get? c = some o → h'.get? c = some o) → (∃ o, h'.get? e = some o ∧ o.cls = .type "StopIteration") → E (.ref e) { s with heap := h' }) :
    wpAny (model prog w) A (Builtin.SmallTypes.stopIteration : Sem α) Q E s := by
  unfold Builtin.SmallTypes.stopIteration
  refine wpAny_bind ?_
  simp only [newExc, newTuple]
  refine wpAny_bind (wpAny_newObj_type ?_ (by size_fits))
  refine wpAny_bind (m := firstArgMember _ _) (wpAny_of_eq (a := Value.none) (by first | rfl | (simp only [firstArgMember]; rfl)) ?_)
  refine wpAny_newObj_type ?_ (by size_fits)
  simp only [raiseNew]
  refine wpAny_bind (wpAny_handled ?_)
  rw [hh]
  refine wpAny_bind (wpAny_pure (wpAny_throw ?_))
  exact hE _ _ (fun c o e => Heap.get?_push_of_some _ (Heap.get?_push_of_some _ e)) ⟨_, Heap.get?_push_size _ rfl, rfl⟩
/-- the end: one of them is at its end; if strict, both -/
theorem zipN_end {Q : Fin → Shared → Prop} (hh : A.handled = none) (D : ZipApart z TI TO i1 i2 l1 l2) (I1 : ItrOk prog w i1 l1 xs St1) (I2 : ItrOk prog w i2 l2 ys St2) (Z : Zst St1 St2 z TI TO i1 i2 st k s.heap) (he : xs[k]? = none ∨ ys[k]? = none) (hst : st = true → xs[k]? = none ∧ ys[k]? = none)
    (hE : ∀ h' e, (∀ c o, c ≠ z → c ≠ TO → c ≠ i1 → c ≠ i2 → s.heap.get? c = some o → h'.get? c = some o) → (∃ o, h'.get? e = some o ∧ o.cls = .type "StopIteration") → E (.ref e) { s with heap := h' }) :
    wpAny (model prog w) A (Builtin.«zip.__next__» ⟨[.ref z], []⟩) Q E s := by
  obtain ⟨hz, hi, ⟨a, b, ho⟩, s1, s2⟩ := Z
  show wpAny _ _ (field (.ref z) 2 >>= _) _ _ _
  refine wpAny_bind (wpAny_field hz rfl (x := .bool st) rfl ?_)
  have est : (Value.bool st == Value.bool true) = st := by cases st <;> rfl
  rw [est]
  show wpAny _ _ (field (.ref z) 3 >>= _) _ _ _
  refine wpAny_bind (wpAny_field hz rfl (x := .ref TI) rfl ?_)
  refine wpAny_bind (wpAny_seqItems hi rfl ?_)
  show wpAny _ _ (Builtin.SmallTypes.ownedTupleIsFree (.ref z) >>= _) _ _ _
  refine wpAny_bind ?_
  unfold Builtin.SmallTypes.ownedTupleIsFree
  refine wpAny_bind (wpAny_field hz rfl (x := .none) rfl (wpAny_pure ?_))
  simp only [if_true]
  refine wpAny_bind (wpAny_rule ?_)
  refine wpAny_bind (wpAny_field hz rfl (x := .ref TO) rfl ?_)
  refine wpAny_bind (wpAny_setField_rec hz (by simp) fun g1 z1 b1 => ?_)
  replace z1 : ZipO g1 z TI TO .ellipsis st := z1
  refine wpAny_bind ?_
  simp only [List.zipIdx_cons, List.zipIdx_nil, List.forIn_cons, List.forIn_nil]
  have up : ∀ {c d : Addr} {p q : Heap}, Heap.SameBut d p q → c ≠ d → ∀ o, p.get? c = some o → q.get? c = some o := fun sb n o e => sb.extBut _ _ n e
  have w1 := I1.keep s1 (up b1 D.i1z) (up b1 D.l1z)
  have u1 := I2.keep s2 (up b1 D.i2z) (up b1 D.l2z)
  cases st with
  | false =>
    refine wpAny_bind (wpAny_bind (wpAny_onRaise ?_))
    show wpAny _ _ (nextOf (.ref i1) >>= _) _ _ _
    cases hx : xs[k]? with
    | none =>
      refine wpAny_bind (I1.stop hh w1 hx fun g2 e b2 he => ?_)
      obtain ⟨oe, hoe, hce⟩ := he
      have z2 : ZipO g2 z TI TO .ellipsis false := b2 _ _ D.i1z.symm z1
      have hez : e ≠ z := fun x => by subst x; rw [z2] at hoe; cases hoe; simp at hce
      exact wpAny_setField_rec z2 (by simp) fun g3 _ b3 => hE g3 e (fun c o c1 _ c3 _ x => up b3 c1 _ (b2 _ _ c3 (up b1 c1 _ x))) ⟨oe, up b3 hez _ hoe, hce⟩
    | some x =>
      have hy : ys[k]? = none := by rcases he with h | h; rw [hx] at h; cases h; exact h
      refine wpAny_bind (I1.item w1 hx fun g2 t2 b2 => wpAny_pure ?_)
      have o2 : IsPair g2 TO a b := up b2 D.TOi1 _ (up b1 D.TOz _ ho)
      refine wpAny_bind (wpAny_seqItems o2 rfl ?_)
      refine wpAny_bind (wpAny_updateSeq_pair o2 fun g3 o3 b3 => ?_)
      refine wpAny_bind (wpAny_letGo (wpAny_pure ?_))
      refine wpAny_bind (wpAny_bind (wpAny_onRaise ?_))
      show wpAny _ _ (nextOf (.ref i2) >>= _) _ _ _
      have u2 := I2.keep u1 (up b2 D.i12.symm) (up b2 D.l2i1)
      have u3 := I2.keep u2 (up b3 D.TOi2.symm) (up b3 D.l2TO)
      refine wpAny_bind (I2.stop hh u3 hy fun g4 e b4 he => ?_)
      obtain ⟨oe, hoe, hce⟩ := he
      have z4 : ZipO g4 z TI TO .ellipsis false := b4 _ _ D.i2z.symm (up b3 D.TOz.symm _ (up b2 D.i1z.symm _ z1))
      have hez : e ≠ z := fun x => by subst x; rw [z4] at hoe; cases hoe; simp at hce
      exact wpAny_setField_rec z4 (by simp) fun g5 _ b5 => hE g5 e (fun c o c1 c2 c3 c4 x => up b5 c1 _ (b4 _ _ c4 (up b3 c2 _ (up b2 c3 _ (up b1 c1 _ x))))) ⟨oe, up b5 hez _ hoe, hce⟩
  | true =>
    obtain ⟨hx, hy⟩ := hst rfl
    refine wpAny_bind (wpAny_bind (wpAny_onRaise ?_))
    show wpAny _ _ (nextOrEnd (.ref i1)) _ _ _
    refine end_strict hh I1 w1 hx fun g2 b2 => ?_
    have z2 : ZipO g2 z TI TO .ellipsis true := b2 _ _ D.i1z.symm z1
    show wpAny _ _ (setField (.ref z) 0 .none >>= _) _ _ _
    refine wpAny_bind (wpAny_setField_rec z2 (by simp) fun g3 z3 b3 => ?_)
    have u2 := I2.keep u1 (fun o e => b2 _ _ D.i12.symm e) (fun o e => b2 _ _ D.l2i1 e)
    have u3 := I2.keep u2 (up b3 D.i2z) (up b3 D.l2z)
    refine wpAny_bind ?_
    show wpAny _ _ (forIn [(Value.ref i2, 1)] PUnit.unit _ >>= _) _ _ _
    rw [List.forIn_cons]
    refine wpAny_bind (wpAny_bind ?_)
    show wpAny _ _ (nextOrEnd (.ref i2) >>= _) _ _ _
    refine wpAny_bind (end_strict hh I2 u3 hy fun g4 b4 => ?_)
    rw [if_neg (by decide)]
    refine wpAny_pure ?_
    show wpAny _ _ (forIn [] PUnit.unit _) _ _ _
    rw [List.forIn_nil]
    refine wpAny_pure (wpAny_bind (wpAny_rule ?_))
    exact stop_iter hh fun h' e kp he => hE h' e (fun c o c1 c2 c3 c4 x => kp _ _ (b4 _ _ c4 (up b3 c1 _ (b2 _ _ c3 (up b1 c1 _ x))))) he
theorem next_item {Q : Option Value → Shared → Prop} (D : ZipApart z TI TO i1 i2 l1 l2) (I1 : ItrOk prog w i1 l1 xs St1) (I2 : ItrOk prog w i2 l2 ys St2) (Z : Zst St1 St2 z TI TO i1 i2 st k s.heap) (hx : xs[k]? = some x) (hy : ys[k]? = some y)
    (hQ : ∀ h', ZipO h' z TI TO (rawInt s.heap.objs.size) st → IsPair h' TO x y → St1 (k + 1) h' → St2 (k + 1) h' → IsPair h' s.heap.objs.size x y → h'.objs.size = s.heap.objs.size + 1 →
      (∀ c o, c ≠ z → c ≠ TO → c ≠ i1 → c ≠ i2 → s.heap.get? c = some o → h'.get? c = some o) → Q (some (.ref s.heap.objs.size)) { s with heap := h' }) :
    wpAny (model prog w) A (pyNext (.ref z)) Q E s := by
  have hT : s.TypeIs (.ref z) "zip" := ⟨_, Z.hz, rfl⟩
  unfold pyNext
  exact wpAny_bind (wpAny_attempt (wpAny_callSpecial?_slot (name := Str.ofString "__next__") hT PySem.F.slot_zip_next
    (wpAny_call_entry PySem.F.slot_zip_next hT PySem.F.entry_zip_next
      (zipN_item D I1 I2 Z hx hy fun h' a1 a2 a3 a4 a5 a6 a7 => wpAny_pure (hQ h' a1 a2 a3 a4 a5 a6 a7)) (PySem.F.args_zip_next_1 _))))
theorem next_end {Q : Option Value → Shared → Prop} (hh : A.handled = none) (D : ZipApart z TI TO i1 i2 l1 l2) (I1 : ItrOk prog w i1 l1 xs St1) (I2 : ItrOk prog w i2 l2 ys St2) (Z : Zst St1 St2 z TI TO i1 i2 st k s.heap) (he : xs[k]? = none ∨ ys[k]? = none) (hst : st = true → xs[k]? = none ∧ ys[k]? = none)
    (hQ : ∀ h', (∀ c o, c ≠ z → c ≠ TO → c ≠ i1 → c ≠ i2 → s.heap.get? c = some o → h'.get? c = some o) → Q none { s with heap := h' }) : wpAny (model prog w) A (pyNext (.ref z)) Q E s := by
  have hT : s.TypeIs (.ref z) "zip" := ⟨_, Z.hz, rfl⟩
  unfold pyNext
  refine wpAny_bind (wpAny_attempt (wpAny_callSpecial?_slot (name := Str.ofString "__next__") hT PySem.F.slot_zip_next
    (wpAny_call_entry PySem.F.slot_zip_next hT PySem.F.entry_zip_next (zipN_end hh D I1 I2 Z he hst fun h' e hk he => ?_) (PySem.F.args_zip_next_1 _))))
  obtain ⟨o, ho, hc⟩ := he
  refine wpAny_bind (wpAny_isInstance (T := "StopIteration") (b := true) ⟨o, ho, hc⟩ isSubtype_stop ?_)
  exact wpAny_pure (hQ _ hk)
end
end Q3
/-! Q6b: zip(a, b) as what is walked. -/
namespace Q3
open PySem PySem.Spec PyProof.Rows L2
open PySem.Builtin.SmallTypes (nextOf nextOrEnd)
/-- a list (b) or a tuple -/
def SrcA (b : Bool) (h : Heap) (l : Addr) (xs : Array Value) : Prop := match b with
  | true => h.IsList l xs
  | false => h.IsTuple l xs
def itC : Bool → String
  | true => "list_iterator"
  | false => "tuple_iterator"
def StA (b : Bool) (it l : Addr) (xs : Array Value) (k : Nat) (h : Heap) : Prop := match b with
  | true => h.IsListIter it l k ∧ h.IsList l xs
  | false => h.IsTupleIter it l k ∧ h.IsTuple l xs
theorem itr_any {prog : Program} {w : World} {it l : Addr} {xs : Array Value} (b : Bool) (ne : l ≠ it) : ItrOk prog w it l xs (StA b it l xs) := by
  cases b with
  | true => exact itr_list ne
  | false => exact itr_tuple ne
theorem SrcA.push {b : Bool} {h : Heap} {l : Addr} {xs : Array Value} (x : SrcA b h l xs) (o : Obj) : SrcA b (h.push o) l xs := by
  cases b with
  | true => exact Heap.IsList.push x o
  | false => exact Heap.IsTuple.push x o
theorem SrcA.lt {b : Bool} {h : Heap} {l : Addr} {xs : Array Value} (x : SrcA b h l xs) : l < h.objs.size := by
  cases b with
  | true => obtain ⟨_, e, _⟩ := (show h.IsList l xs from x); exact Heap.lt_size e
  | false => obtain ⟨_, e, _⟩ := (show h.IsTuple l xs from x); exact Heap.lt_size e
section
variable {prog : Program} {w : World} {A : Around} {E : Value → Shared → Prop} {s : Shared}
theorem pyIter_any {b : Bool} {l : Addr} {xs : Array Value} {Q : Value → Shared → Prop} (hl : SrcA b s.heap l xs)
    (hQ : Q (.ref s.heap.objs.size) { s with heap := s.heap.push { cls := .type (itC b), data := .fields #[.ref l, .int 0 0] } }) : wpAny (model prog w) A (pyIter (.ref l)) Q E s := by
  cases b with
  | true => exact wpAny_pyIter_list hl hQ
  | false => exact wpAny_pyIter_tuple hl hQ
end
abbrev zN1 (h : Heap) (b1 : Bool) (l1 : Addr) : Heap := h.push { cls := .type (itC b1), data := .fields #[.ref l1, .int 0 0] }
abbrev zN2 (h : Heap) (b1 b2 : Bool) (l1 l2 : Addr) : Heap := (zN1 h b1 l1).push { cls := .type (itC b2), data := .fields #[.ref l2, .int 0 0] }
abbrev zN3 (h : Heap) (b1 b2 : Bool) (l1 l2 : Addr) : Heap := (zN2 h b1 b2 l1 l2).push { cls := .type "tuple", data := .seq #[.ref h.objs.size, .ref (zN1 h b1 l1).objs.size] }
abbrev zN4 (h : Heap) (b1 b2 : Bool) (l1 l2 : Addr) : Heap := (zN3 h b1 b2 l1 l2).push { cls := .type "tuple", data := .seq #[.none, .none] }
abbrev zN5 (h : Heap) (b1 b2 : Bool) (l1 l2 : Addr) : Heap := (zN4 h b1 b2 l1 l2).push { cls := .type "zip", data := .fields #[.none, .bool false, .bool false, .ref (zN2 h b1 b2 l1 l2).objs.size, .ref (zN3 h b1 b2 l1 l2).objs.size] }
theorem meets_zipN (b1 b2 : Bool) (l1 l2 : Addr) (xs ys : Array Value) :
    Meets (Builtin.«zip.__new__» ⟨[.type "zip", .ref l1, .ref l2], []⟩) (fun _ R s => SrcA b1 s.heap l1 xs ∧ SrcA b2 s.heap l2 ys ∧
      R (.ok (.ret (.ref (zN4 s.heap b1 b2 l1 l2).objs.size))) { s with heap := zN5 s.heap b1 b2 l1 l2 }) :=
  .of_wp fun prog w A R s h => by
    obtain ⟨hp, g, d, tk, os⟩ := s; obtain ⟨hl1, hl2, h⟩ := h
    have hsub := sub_zip
    have hL1 : SrcA b1 (Shared.heap ⟨hp, g, d, tk, os⟩) l1 xs := hl1
    have hL2 : SrcA b2 (Shared.heap ⟨hp.push { cls := .type (itC b1), data := .fields #[.ref l1, .int 0 0] }, g, d, tk, os⟩) l2 ys := SrcA.push hl2 _
    wp_walk using pyIter_any hL1, pyIter_any hL2
    exact ⟨_, rfl, h⟩
section
variable {prog : Program} {w : World} {A : Around} {E : Value → Shared → Prop} {s : Shared}
theorem st_new {b : Bool} {it l : Addr} {xs : Array Value} {h : Heap} (e : h.get? it = some { cls := .type (itC b), data := .fields #[.ref l, .int 0 0] }) (x : SrcA b h l xs) : StA b it l xs 0 h := by
  cases b with
  | true => exact ⟨⟨_, e, rfl, rfl⟩, x⟩
  | false => exact ⟨⟨_, e, rfl, rfl⟩, x⟩
theorem call_zipN {b1 b2 : Bool} {l1 l2 : Addr} {xs ys : Array Value} {Q : Value → Shared → Prop} (hl1 : SrcA b1 s.heap l1 xs) (hl2 : SrcA b2 s.heap l2 ys)
    (h : ∀ h', Zst (StA b1 s.heap.objs.size l1 xs) (StA b2 (s.heap.objs.size + 1) l2 ys) (s.heap.objs.size + 4) (s.heap.objs.size + 2) (s.heap.objs.size + 3) s.heap.objs.size (s.heap.objs.size + 1) false 0 h' →
      h'.objs.size = s.heap.objs.size + 5 → (∀ c o, s.heap.get? c = some o → h'.get? c = some o) → Q (.ref (s.heap.objs.size + 4)) { s with heap := h' }) :
    wpAny (model prog w) A (call (.type "zip") [.ref l1, .ref l2]) Q E s := by
  refine callType_new PySem.F.called_zip (by decide) (PySem.F.typeCall_zip_2 _ _) (PySem.F.newCall_zip_2 _ _) (fun obj => PySem.F.args_object_init_3 obj _ _) PySem.F.entry_zip_new
    (meets_zipN b1 b2 l1 l2 xs ys) ⟨hl1, hl2, ?_⟩
  have z1 : (zN1 s.heap b1 l1).objs.size = s.heap.objs.size + 1 := Heap.size_push ..
  have z2 : (zN2 s.heap b1 b2 l1 l2).objs.size = s.heap.objs.size + 2 := by rw [Heap.size_push, z1]
  have z3 : (zN3 s.heap b1 b2 l1 l2).objs.size = s.heap.objs.size + 3 := by rw [Heap.size_push, z2]
  have z4 : (zN4 s.heap b1 b2 l1 l2).objs.size = s.heap.objs.size + 4 := by rw [Heap.size_push, z3]
  have z5 : (zN5 s.heap b1 b2 l1 l2).objs.size = s.heap.objs.size + 5 := by rw [Heap.size_push, z4]
  have g5 : (zN5 s.heap b1 b2 l1 l2).get? (zN4 s.heap b1 b2 l1 l2).objs.size = some _ := Heap.get?_push_size _ rfl
  have g4 : (zN5 s.heap b1 b2 l1 l2).get? (zN3 s.heap b1 b2 l1 l2).objs.size = some _ := Heap.get?_push_of_some _ (Heap.get?_push_size _ rfl)
  have g3 : (zN5 s.heap b1 b2 l1 l2).get? (zN2 s.heap b1 b2 l1 l2).objs.size = some _ := Heap.get?_push_of_some _ (Heap.get?_push_of_some _ (Heap.get?_push_size _ rfl))
  have g2 : (zN5 s.heap b1 b2 l1 l2).get? (zN1 s.heap b1 l1).objs.size = some _ := Heap.get?_push_of_some _ (Heap.get?_push_of_some _ (Heap.get?_push_of_some _ (Heap.get?_push_size _ rfl)))
  have g1 : (zN5 s.heap b1 b2 l1 l2).get? s.heap.objs.size = some _ := Heap.get?_push_of_some _ (Heap.get?_push_of_some _ (Heap.get?_push_of_some _ (Heap.get?_push_of_some _ (Heap.get?_push_size _ rfl))))
  have p1 : SrcA b1 (zN5 s.heap b1 b2 l1 l2) l1 xs := ((((hl1.push _).push _).push _).push _).push _
  have p2 : SrcA b2 (zN5 s.heap b1 b2 l1 l2) l2 ys := ((((hl2.push _).push _).push _).push _).push _
  show _ ∧ _
  rw [z2, z3, z4] at g5
  rw [z1, z2] at g3
  rw [z3] at g4
  rw [z1] at g2
  rw [z4]
  exact ⟨⟨_, g5, rfl⟩, h _ ⟨g5, g3, ⟨_, _, g4⟩, st_new g1 p1, st_new g2 p2⟩ z5 fun c o x =>
    Heap.get?_push_of_some _ (Heap.get?_push_of_some _ (Heap.get?_push_of_some _ (Heap.get?_push_of_some _ (Heap.get?_push_of_some _ x))))⟩
theorem letGo_zipN {elts : List Expr} {x1} {pos : Pos} {z TI TO T : Addr} {st : Bool} {Q : Unit → Shared → Prop} (hz : ZipO s.heap z TI TO (rawInt T) st)
    (hQ : ∀ h', ZipO h' z TI TO .none st → Heap.SameBut z s.heap h' → Q () { s with heap := h' }) : wpAny (model prog w) A (letOwnedTupleGo (.Tuple elts x1 pos) (.ref z) (.ref T)) Q E s := by
  unfold letOwnedTupleGo
  refine wpAny_bind (wpAny_load hz ?_)
  show wpAny _ _ (if (["enumerate", "zip", "dict_itemiterator", "dict_reverseitemiterator", "odict_iterator", "itertools.zip_longest", "itertools.pairwise"].contains "zip" &&
      (#[rawInt T, .bool false, .bool st, .ref TI, .ref TO] : Array Value)[0]? == some (rawInt T)) = true then _ else _) Q E s
  rw [if_pos (by simp)]
  refine wpAny_bind (wpAny_rule ?_)
  show wpAny _ _ (setField (.ref z) 0 .none) Q E s
  exact wpAny_setField_rec hz (by simp) fun h' hz' hs' => hQ h' hz' hs'
theorem pyIter_zipN {z TI TO : Addr} {f0 : Value} {st : Bool} {Q : Value → Shared → Prop} (hz : ZipO s.heap z TI TO f0 st) (h : Q (.ref z) s) : wpAny (model prog w) A (pyIter (.ref z)) Q E s := by
  have hT : s.TypeIs (.ref z) "zip" := ⟨_, hz, rfl⟩
  refine wpAny_pyIter_slot hT PySem.F.slot_zip_iter (wpAny_call_entry PySem.F.slot_zip_iter hT PySem.F.entry_zip_iter ?_ (PySem.F.args_zip_iter_1 _))
  show wpAny _ _ (ret (.ref z)) _ _ s
  exact wpAny_pure ⟨_, rfl, "zip", _, hT, PySem.F.slot_zip_next.lookup, h⟩
end
end Q3
/-! Q6c: zip(a, b) in for and comprehensions. -/
namespace Q3
open PySem PySem.Spec PyProof.Rows L2
variable [TabSet]
def SqA (K : PySem.W.Frag) (b : Bool) (H : Hp) (a : Addr) (xs : List V) : Prop := match b with
  | true => SqL K H a xs
  | false => SqT K H a xs
def ItA (b : Bool) (it l : Addr) (k : Nat) (h : Heap) : Prop := match b with
  | true => h.IsListIter it l k
  | false => h.IsTupleIter it l k
theorem ItA.obj {b : Bool} {it l : Addr} {k : Nat} {h : Heap} (x : ItA b it l k h) : ∃ o, h.get? it = some o ∧ ∀ v, o.data ≠ .cell v := by
  cases b with
  | true => obtain ⟨o, e, _, d⟩ := (show h.IsListIter it l k from x); exact ⟨o, e, fun v q => by rw [d] at q; cases q⟩
  | false => obtain ⟨o, e, _, d⟩ := (show h.IsTupleIter it l k from x); exact ⟨o, e, fun v q => by rw [d] at q; cases q⟩
theorem ItA.at {b : Bool} {it l : Addr} {k : Nat} {h h' : Heap} (x : ItA b it l k h) (e : ∀ o, h.get? it = some o → h'.get? it = some o) : ItA b it l k h' := by
  cases b with
  | true => exact Heap.IsListIter.at x e
  | false => exact Heap.IsTupleIter.at x e
theorem StA.it {b : Bool} {it l : Addr} {xs : Array Value} {k : Nat} {h : Heap} (x : StA b it l xs k h) : ItA b it l k h := by
  cases b with
  | true => exact x.1
  | false => exact x.1
theorem StA.of {b : Bool} {it l : Addr} {xs : Array Value} {k : Nat} {h : Heap} (x : ItA b it l k h) (y : SrcA b h l xs) : StA b it l xs k h := by
  cases b with
  | true => exact ⟨x, y⟩
  | false => exact ⟨x, y⟩
section
variable {X : Cx} {pins : List (Addr × Obj)} {σ : L2.St} {H : Hp} {s : Shared} {a : Addr} {xs ys : List V}
theorem sqA_src {b : Bool} (I : Inv X pins σ H s) (h : SqA X.K b H a xs) : ∃ its : List Value, Vals xs its ∧ SrcA b s.heap a its.toArray := by
  cases b with
  | true =>
    obtain ⟨its, rv, p, _⟩ := I.list h
    exact ⟨its, rv, p.isList⟩
  | false =>
    obtain ⟨its, rv, p, _⟩ := I.tuple h
    exact ⟨its, rv, p⟩
theorem sqA_inj {b : Bool} (I : Inv X pins σ H s) (h : SqA X.K b H a xs) (k : SqA X.K b H a ys) : xs = ys := by
  cases b with
  | true => exact I.list_inj h k
  | false => exact I.tuple_inj h k
end
def ItzN (K : PySem.W.Frag) (b1 b2 : Bool) (a b : Addr) (st : Bool) : It :=
  ⟨fun i H => ∃ (xs ys : List V) (x y : V), SqA K b1 H a xs ∧ SqA K b2 H b ys ∧ xs[i]? = some x ∧ ys[i]? = some y,
    fun i H v H' => ∃ T x y, v = .ref T ∧ H T = none ∧ H' = upd H T (.tup [x, y]) ∧ (∀ xs, SqA K b1 H a xs → xs[i]? = some x) ∧ ∀ ys, SqA K b2 H b ys → ys[i]? = some y,
    fun i H => ∃ xs ys : List V, SqA K b1 H a xs ∧ SqA K b2 H b ys ∧ (xs.length ≤ i ∨ ys.length ≤ i) ∧ (st = true → xs.length ≤ i ∧ ys.length ≤ i)⟩
structure Zt (b1 b2 st : Bool) (a b z TI TO i1 i2 : Addr) (i : Nat) (h : Heap) : Prop where
  hz : ZipO h z TI TO .none st
  hi : IsPair h TI (.ref i1) (.ref i2)
  ho : ∃ x y, IsPair h TO x y
  h1 : ItA b1 i1 a i h
  h2 : ItA b2 i2 b i h
theorem turn_zipN {P : Program} {w : World} {K : PySem.W.Frag} {elts : List Expr} {kk : Nat} {tpos : Pos} {b1 b2 st : Bool} {a b z TI TO i1 i2 : Addr} (D : ZipApart z TI TO i1 i2 a b) :
    Turn P w K (.Tuple elts kk tpos) (ItzN K b1 b2 a b st) [z, TI, TO, i1, i2] z (Zt b1 b2 st a b z TI TO i1 i2) where
  mem := by simp
  obj := fun i h st c hc => by
    obtain ⟨hz, hTI, ⟨x, y, hTO⟩, h1, h2⟩ := st
    have e' : c = z ∨ c = TI ∨ c = TO ∨ c = i1 ∨ c = i2 := by simpa using hc
    rcases e' with rfl | rfl | rfl | rfl | rfl
    · exact ⟨_, hz, fun v q => nomatch q⟩
    · exact ⟨_, hTI, fun v q => nomatch q⟩
    · exact ⟨_, hTO, fun v q => nomatch q⟩
    · exact h1.obj
    · exact h2.obj
  keep := fun i h h' st k => by
    obtain ⟨hz, hTI, ⟨x, y, hTO⟩, h1, h2⟩ := st
    exact ⟨k z (by simp) _ hz, k TI (by simp) _ hTI, ⟨x, y, k TO (by simp) _ hTO⟩, h1.at fun o q => k i1 (by simp) o q, h2.at fun o q => k i2 (by simp) o q⟩
  item := by
    intro X hP hw hK hc i pins s σ H E I hf st' hg
    subst hP hw hK
    obtain ⟨hz, hTI, ho, h1, h2⟩ := st'
    obtain ⟨xs, ys, x, y, hqx, hqy, hx, hy⟩ := hg
    obtain ⟨its, rv, p⟩ := sqA_src I hqx
    obtain ⟨its2, rv2, p2⟩ := sqA_src I hqy
    obtain ⟨u, hu, ru⟩ := rv.get hx
    obtain ⟨u2, hu2, ru2⟩ := rv2.get hy
    have hzl : z < s.heap.objs.size := Heap.lt_size hz
    have Z : Zst (StA b1 i1 a its.toArray) (StA b2 i2 b its2.toArray) z TI TO i1 i2 st i s.heap := ⟨hz, hTI, ho, .of h1 p, .of h2 p2⟩
    refine next_item D (itr_any b1 D.l1i1) (itr_any b2 D.l2i2) Z (x := u) (y := u2) (by simpa using hu) (by simpa using hu2) fun h' z' TO' g1 g2 hT hsz hk => ?_
    refine ⟨_, rfl, letGo_zipN (s := { s with heap := h' }) z' fun h'' z'' sb => ?_⟩
    have hT2 : h''.get? s.heap.objs.size = some { cls := .type "tuple", data := .seq #[u, u2] } := (sb.2 _ (Nat.ne_of_gt hzl)).trans hT
    have new : ObjOk X.prog X.w (upd H s.heap.objs.size (.tup [x, y])) h'' s.heap.objs.size (.tup [x, y]) :=
      ⟨by show 2 ≤ sizeLine; decide, [u, u2], .cons ru (.cons ru2 .nil), ⟨_, hT2, rfl, _, rfl⟩⟩
    have I1 : Inv X pins σ (upd H s.heap.objs.size (.tup [x, y])) { s with heap := h'' } :=
      I.turnedNew (t' := s.toks) (ch := [z, TI, TO, i1, i2]) (fun c o hb q => (sb.2 c (fun q' => hb (by simp [q']))).trans (hk c o (fun q' => hb (by simp [q'])) (fun q' => hb (by simp [q'])) (fun q' => hb (by simp [q'])) (fun q' => hb (by simp [q'])) q)) hf (Nat.le_refl _) new
    refine ⟨.ref s.heap.objs.size, _, I1, rfl, ⟨_, x, y, rfl, I.hok.fresh (Nat.le_refl _), rfl, fun l hl => by rw [sqA_inj I hl hqx]; exact hx, fun l hl => by rw [sqA_inj I hl hqy]; exact hy⟩, ⟨z'', ?_, ⟨u, u2, ?_⟩, ?_, ?_⟩, fun c hcm => ?_⟩
    · exact (sb.2 _ D.TIz).trans (hk _ _ D.TIz D.TITO D.TIi1 D.TIi2 hTI)
    · exact (sb.2 _ D.TOz).trans TO'
    · exact g1.it.at fun o q => (sb.2 _ D.i1z).trans q
    · exact g2.it.at fun o q => (sb.2 _ D.i2z).trans q
    · have hlt : c < s.heap.objs.size := by
        have e' : c = z ∨ c = TI ∨ c = TO ∨ c = i1 ∨ c = i2 := by simpa using hcm
        rcases e' with q | q | q | q | q
        · rw [q]; exact hzl
        · rw [q]; exact Heap.lt_size hTI
        · obtain ⟨_, _, hTO⟩ := ho
          rw [q]; exact Heap.lt_size hTO
        · rw [q]; obtain ⟨_, e1, _⟩ := h1.obj; exact Heap.lt_size e1
        · rw [q]; obtain ⟨_, e2, _⟩ := h2.obj; exact Heap.lt_size e2
      rw [upd_ne (Nat.ne_of_lt hlt)]
      exact (hf c hcm).1
  done := by
    intro X hP hw hK hc i pins s σ H E I hf st' hg
    subst hP hw hK
    obtain ⟨hz, hTI, ho, h1, h2⟩ := st'
    obtain ⟨xs, ys, hqx, hqy, hend, hst⟩ := hg
    obtain ⟨its, rv, p⟩ := sqA_src I hqx
    obtain ⟨its2, rv2, p2⟩ := sqA_src I hqy
    have l1 := rv.length
    have l2 := rv2.length
    have Z : Zst (StA b1 i1 a its.toArray) (StA b2 i2 b its2.toArray) z TI TO i1 i2 st i s.heap := ⟨hz, hTI, ho, .of h1 p, .of h2 p2⟩
    have n1 : xs.length ≤ i → its.toArray[i]? = none := fun q => by simp; omega
    have n2 : ys.length ≤ i → its2.toArray[i]? = none := fun q => by simp; omega
    exact next_end (I.ok.hd hc) D (itr_any b1 D.l1i1) (itr_any b2 D.l2i2) Z (hend.elim (fun q => .inl (n1 q)) fun q => .inr (n2 q)) (fun q => ⟨n1 (hst q).1, n2 (hst q).2⟩) fun h' hk => ⟨rfl, I.turnedL (t' := s.toks) (ch := [z, TI, TO, i1, i2]) (fun c o hb q =>
      hk c o (fun q' => hb (by simp [q'])) (fun q' => hb (by simp [q'])) (fun q' => hb (by simp [q'])) (fun q' => hb (by simp [q'])) q) hf⟩
  self := fun A i s Q E st h => pyIter_zipN st.hz h
def iZipN (K : PySem.W.Frag) (ta : TA) : TI := fun σ H R => ta σ H fun vs H1 => ∃ b1 b2 a b xs ys, vs = [.ref a, .ref b] ∧ SqA K b1 H1 a xs ∧ SqA K b2 H1 b ys ∧ R (ItzN K b1 b2 a b false) H1
theorem pi_zipN {X : Cx} {e e2 : Expr} {ta : TA} {p pos tpos : Pos} {elts : List Expr} {kk : Nat} (hg : Gl X "zip") (hm : X.mg "zip" = none) (ha : PA X [e, e2] ta)
    (hs : starEach [e, e2] X.env = (false, eval e X.env) :: starEach [e2] X.env := by rfl) (hpl : (backTo pos (starEach [e2] X.env)).any (·.1) = false := by rfl) :
    PI X (.Tuple elts kk tpos) (.Call (.Name "zip" p) [e, e2] [] pos) (iZipN X.K ta) := by
  refine ⟨fun pins s σ H R I h => ?_⟩
  refine Call_ (ld_blt I hg hm PyProof.Rows.boot_zip (PyProof.Rows.callWith_type1 (thn (ha.run pos pins s σ H _ I h) fun us s1 ⟨vs, H1, I1, r1, q1⟩ => ?_) hs hpl))
  obtain ⟨b1, b2, a, b, xs, ys, ex, hqx, hqy, q⟩ := q1
  subst ex
  cases r1 with
  | cons r rr =>
    cases rr with
    | cons r' rr =>
      cases rr
      cases r
      cases r'
      have fresh5 : ∀ c, c ∈ [s1.heap.objs.size + 4, s1.heap.objs.size + 2, s1.heap.objs.size + 3, s1.heap.objs.size, s1.heap.objs.size + 1] → FpOk X pins H1 c := fun c hcm => by
        have hle : s1.heap.objs.size ≤ c := by
          simp only [List.mem_cons, List.not_mem_nil, or_false] at hcm
          omega
        exact I1.fpOk hle (I1.hok.fresh hle)
      obtain ⟨its, rv, p1⟩ := sqA_src I1 hqx
      obtain ⟨its2, rv2, p2⟩ := sqA_src I1 hqy
      refine call_zipN p1 p2 fun h' Z hsz hk => pyIter_zipN Z.hz ?_
      have I2 : Inv X pins σ H1 { s1 with heap := h' } := I1.kept (t' := s1.toks) hk
      exact ⟨s1.heap.objs.size + 4, [s1.heap.objs.size + 4, s1.heap.objs.size + 2, s1.heap.objs.size + 3, s1.heap.objs.size, s1.heap.objs.size + 1], _, _, H1, rfl, I2, turn_zipN (PySem.W.ktu_apart s1.heap.objs.size a b p1.lt p2.lt), ⟨Z.hz, Z.hi, Z.ho, Z.s1.it, Z.s2.it⟩, fresh5, q⟩
end Q3
/-! Q6d: zip(a, b) in for and comprehensions, by data. -/
namespace Q3
open PySem PySem.Spec PyProof.Rows L2
variable [TabSet]
def zipD (xs ys : List D) : List D := (xs.zip ys).map fun p => .tuple [p.1, p.2]
theorem zipD_get (xs ys : List D) (i : Nat) : (zipD xs ys)[i]? = (xs.zip ys)[i]?.map fun p => .tuple [p.1, p.2] := List.getElem?_map ..
theorem zipD_length (xs ys : List D) : (zipD xs ys).length = min xs.length ys.length := by
  unfold zipD
  rw [List.length_map, List.length_zip]
def seqOf : D → Option (Bool × List D)
  | .list xs => some (true, xs)
  | .tuple xs => some (false, xs)
  | _ => none
theorem seq_at {K : PySem.W.Frag} {F : Hp} {v : V} {d : D} {b : Bool} {ds : List D} (h : Dn K F v d) (e : seqOf d = some (b, ds)) : ∃ a vs, v = .ref a ∧ DnAll K F vs ds ∧ ∀ H, Ex F H → SqA K b H a vs := by
  cases d <;> simp only [seqOf] at e <;> try (cases e; done)
  · cases e
    cases h with
    | lst h1 h2 => exact ⟨_, _, rfl, h2, fun H x => SqL.of (x _ _ h1)⟩
  · cases e
    cases h with
    | tup h1 h2 => exact ⟨_, _, rfl, h2, fun H x => SqT.of (x _ _ h1)⟩
theorem sqA_same {K : PySem.W.Frag} {F : Hp} {b : Bool} {a : Addr} {vs ws : List V} (h : ∀ H, Ex F H → SqA K b H a vs) : True := trivial
theorem yields_zipN {K : PySem.W.Frag} {F : Hp} {b1 b2 : Bool} {a b : Addr} {vs ws : List V} {ds es : List D} (h1 : ∀ H, Ex F H → SqA K b1 H a vs) (h2 : ∀ H, Ex F H → SqA K b2 H b ws) (d1 : DnAll K F vs ds) (d2 : DnAll K F ws es) : Yields K F (ItzN K b1 b2 a b false) (zipD ds es) where
  stop := fun H e => by
    refine ⟨vs, ws, h1 H e, h2 H e, ?_, fun z => nomatch z⟩
    rw [zipD_length, d1.length, d2.length]
    omega
  go := fun i H e hi => by
    rw [zipD_length] at hi
    obtain ⟨v, e1, _⟩ := d1.get (List.getElem?_eq_getElem (show i < ds.length by omega))
    obtain ⟨w, e2, _⟩ := d2.get (List.getElem?_eq_getElem (show i < es.length by omega))
    exact ⟨vs, ws, v, w, h1 H e, h2 H e, e1, e2⟩
  yld := fun i H x H' d e hd y => by
    obtain ⟨T, v, w, rfl, hT, rfl, q1, q2⟩ := y
    rw [zipD_get] at hd
    obtain ⟨p, e1, e2⟩ := Option.map_eq_some_iff.mp hd
    obtain ⟨g1, g2⟩ := List.getElem?_zip_eq_some.mp e1
    obtain ⟨v', k1, k2⟩ := d1.get g1
    obtain ⟨w', k3, k4⟩ := d2.get g2
    have z1 := q1 vs (h1 H e)
    have z2 := q2 ws (h2 H e)
    rw [k1] at z1; cases z1
    rw [k3] at z2; cases z2
    subst e2
    exact .tup hT (.cons k2 (.cons k4 .nil))
def zipS (fs : Sq → Out (List PV)) : Sq → Out (List D) := fun S => (fs S).bind fun ps S1 => match keepAll S1 ps with
  | some ([d, e], S2) => (match seqOf d, seqOf e with
    | some (_, xs), some (_, ys) => .ok (zipD xs ys) S2
    | _, _ => .no)
  | _ => .no
section
variable {X : Cx} {W : WX} {a b c e : Expr} {fa fb fc : Sq → Out PV} {fs : Sq → Out (List PV)} {pos : Pos} {N : List Str} {sc : Scope} {k : Nat} {G : Gb}
theorem di_zip {p tpos : Pos} {elts : List Expr} {kk : Nat} (hg : Gl X "zip") (hm : X.mg "zip" = none) (ha : DA X W [a, b] fs) (hs : starEach [a, b] X.env = (false, eval a X.env) :: starEach [b] X.env := by rfl) (hpl : (backTo pos (starEach [b] X.env)).any (·.1) = false := by rfl) :
    DI X W (.Tuple elts kk tpos) (.Call (.Name "zip" p) [a, b] [] pos) (zipS fs) := by
  refine ⟨fun pins s σ H R I h => (pi_zipN hg hm ha hs hpl).run pins s σ H R I ?_⟩
  obtain ⟨F0, H0, pa, F, S, A, z⟩ := h
  unfold zipS at z
  rw [OutP.bind] at z
  refine ⟨F0, H0, pa, F, S, A, z.imp (fun ps S1 z vs F1 H1 x1 A1 r1 => ?_) fun _ _ z => z⟩
  split at z
  · rename_i d e S2 q
    obtain ⟨F2, x2, A2, d2⟩ := A1.keepAll r1 q
    split at z
    · rename_i b1 xs b2 ys e1 e2
      cases d2 with
      | cons k1 k2 =>
        cases k2 with
        | cons k2 k3 =>
          cases k3
          obtain ⟨a1, vs1, rfl, g1, g2⟩ := seq_at k1 e1
          obtain ⟨a2, vs2, rfl, g3, g4⟩ := seq_at k2 e2
          exact ⟨b1, b2, a1, a2, vs1, vs2, rfl, g2 H1 A2.sub, g4 H1 A2.sub, z _ F2 H1 (x1.trans x2) A2 (yields_zipN g2 g4 g1 g3)⟩
    · exact z.elim
  · exact z.elim
end
/-! step by step -/
def zipS2 : Option (List D × Sq) → Out (List D)
  | some ([d, e], S2) => (match seqOf d, seqOf e with
    | some (_, xs), some (_, ys) => .ok (zipD xs ys) S2
    | _, _ => .no)
  | _ => .no
def zipS1 : Out (List PV) → Out (List D)
  | .ok ps S1 => zipS2 (keepAll S1 ps)
  | .ex c S => .ex c S
  | .no => .no
@[simp] theorem ev_zip (fs : Sq → Out (List PV)) (S : Sq) : zipS fs S = zipS1 (fs S) := by
  unfold zipS zipS1
  cases fs S <;> first | rfl | skip
@[simp] theorem zipS1_ok (ps : List PV) (S : Sq) : zipS1 (.ok ps S) = zipS2 (keepAll S ps) := rfl
@[simp] theorem zipS2_ll (xs ys : List D) (S : Sq) : zipS2 (some ([.list xs, .list ys], S)) = .ok (zipD xs ys) S := rfl
@[simp] theorem zipS2_lt (xs ys : List D) (S : Sq) : zipS2 (some ([.list xs, .tuple ys], S)) = .ok (zipD xs ys) S := rfl
@[simp] theorem zipS2_tl (xs ys : List D) (S : Sq) : zipS2 (some ([.tuple xs, .list ys], S)) = .ok (zipD xs ys) S := rfl
@[simp] theorem zipS2_tt (xs ys : List D) (S : Sq) : zipS2 (some ([.tuple xs, .tuple ys], S)) = .ok (zipD xs ys) S := rfl
end Q3
/-! Q6e: calls that leave defaults out. -/
namespace Q3
open PySem PySem.Spec PyProof.Rows L2
variable [TabSet]
theorem pairedApp {α β : Type} {P : α → β → Prop} : ∀ {as : List α} {bs : List β} {cs : List α} {ds : List β}, Paired P as bs → Paired P cs ds → Paired P (as ++ cs) (bs ++ ds)
  | _, _, _, _, .nil, h => h
  | _, _, _, _, .cons a t, h => .cons a (pairedApp t h)
/-- f(..), dd: the defaults left out -/
def callFd (f : Fd) (dd : List R) (fs : Sq → Out (List PV)) : Sq → Out PV := fun S => (fs S).bind fun ps S1 => match argsK S1 ps with
  | some (rs, S2) => (match f (rs ++ dd) S2.p with
    | .ok r S3 => (match toPV r with
      | some z => .ok z { S2 with p := S3.p }
      | none => .no)
    | .ex c S3 => .ex c { S2 with p := S3.p }
    | .no => .no)
  | none => .no
section
variable {X : Cx} {W : WX} {N : List Str} {sc : Scope} {k j : Nat} {G : Gb} {x : Str} {p pos : Pos} {e : Expr} {es : List Expr} {fs : Sq → Out (List PV)} {f : Addr} {fd : FuncData} {ps : List Str} {fn : Fd}
theorem de_callD {dvs : List V} {dd : List R} {ds : List Value} (hd : Vals dvs ds) (hdd : ∀ pa F, Paired (ArgR G.K pa F) dvs dd) (C : Cq G k N sc X) (tk : Takes X W) (F : FnG G j f fd ps (fun vs H Q E => vs.length = ps.length ∧ spF G.K fn vs H Q E)) (hj : j ≤ k) (hg : Gl X x) (hm : G.mg x = some (.ref f)) (hk : PySem.W.keepIn G.K (.ref f) = true) (hb : Binds G.K fd ps ds) (hlen : (e :: es).length + dvs.length = ps.length)
    (ha : DA X W (e :: es) fs) (hdb : (x == ("__debug__" : Str)) = false := by decide) (he : starEach (e :: es) X.env = (false, eval e X.env) :: starEach es X.env := by rfl) (hpl : (backTo pos (starEach es X.env)).any (·.1) = false := by rfl) (hfl : ∀ S ps S', fs S = .ok ps S' → ps.length = (e :: es).length) :
    DE X W (.Call (.Name x p) (e :: es) [] pos) (callFd fn dd fs) := by
  obtain ⟨c1, c2, c3, c4, c5, c6, c7, c8, c9, c10, c11, c12⟩ := C
  refine ⟨fun pins s σ H Q I h => ?_⟩
  obtain ⟨F0, H0, pa, F1, S, A, z⟩ := h
  refine wpAny_Call_Name_kw (ld_glob I hg (by rw [c11]; exact hm) ?_ hdb)
  have KIn : X.K.In X.base := I.ok.mod.kin
  refine PySem.W.callWith_K (h₀ := X.base) KIn (by rw [c10]; exact hk) (thn (ha.run pos pins s σ H (fun vs H1 => ∃ F2 S1 qs, Ex F1 F2 ∧ Agr X.K F0 H0 pa σ F2 H1 S1 ∧ Paired (RelP X.K H0 pa σ F2 H1 S1) vs qs ∧ qs.length = (e :: es).length ∧ OutP (match argsK S1 qs with
    | some (rs, S2) => (match fn (rs ++ dd) S2.p with
      | .ok r S3 => (match toPV r with
        | some z => Out.ok z { S2 with p := S3.p }
        | none => .no)
      | .ex c S3 => .ex c { S2 with p := S3.p }
      | .no => .no)
    | none => .no) (TP X.K F0 H0 pa σ F1 Q) (EW X.K W F0 H0 pa σ)) I ⟨F0, H0, pa, F1, S, A, ?_⟩) fun us s1 ⟨vs, H1, I1, r, q⟩ => ⟨I1.kIn, ?_⟩) he hpl
  · unfold callFd at z
    rw [OutP.bind] at z
    cases o : fs S with
    | no => rw [o] at z; exact z.elim
    | ex c S' => rw [o] at z; exact z
    | ok qs S1 =>
      rw [o] at z
      exact fun vs F2 H2 x2 A2 r2 => ⟨F2, S1, qs, x2, A2, r2, hfl S qs S1 o, z⟩
  · obtain ⟨F2, S1, qs, x2, A2, r2, hql, z⟩ := q
    cases q1 : argsK S1 qs with
    | none => rw [q1] at z; exact z.elim
    | some t =>
      obtain ⟨rs, S2⟩ := t
      rw [q1] at z
      dsimp only at z
      obtain ⟨F3, x3, A3, pr⟩ := A2.argsK r2 q1
      have hvl : (vs ++ dvs).length = ps.length := by rw [List.length_append, paired_length r2, hql, hlen]
      have rr : Vals (vs ++ dvs) (us ++ ds) := r.append hd
      have b := hb s1 us (by rw [← c10]; exact I1.kIn) (by rw [← rr.length]; exact hvl)
      have A3' : Agr G.K F3 (bareT H1) pa [] F3 H1 ⟨[], S2.p⟩ := by
        rw [← c10]
        exact ⟨Ex.refl _, A3.sub, fun a o h _ => (bareT_some h).1, A3.tabs, A3.ft, bareT_free, fun a o h => .inl h, rfl, fun i c e => by simp at e, fun i j a h => h.none.elim, fun i a h => h.none.elim, A3.pen⟩
      have e0 : Env0 G.P G.w G.K G.mg G.base X.A X.stack s1 H1 := by
        have := I1.env0
        rw [c8, c9, c10, c11, c12] at this
        exact this
      have sp : spF G.K fn (vs ++ dvs) H1 (fun v H' => Q v H') (fun cls d H' => W cls d σ H') := by
        refine ⟨F3, bareT H1, pa, rs ++ dd, S2.p, A3', pairedApp (by rw [← c10]; exact pr) (hdd pa F3), ?_⟩
        cases of : fn (rs ++ dd) S2.p with
        | no => rw [of] at z; exact z.elim
        | ok r S3 =>
          rw [of] at z
          intro v F' H' B q
          dsimp only at z
          split at z
          · rename_i w e1
            rw [← c10] at B q
            exact z v F' H' (x2.trans (x3.trans B.fF)) (A3.called B) (RelR.toP A3 B q e1)
          · exact z.elim
        | ex c S3 =>
          rw [of] at z
          intro F' H' B
          rw [← c10] at B ⊢
          exact z F' H' (A3.called B)
      refine wpAny_call ?_
      have run := F.run X.A X.stack s1 H1 ⟨us, []⟩ (us ++ ds) (vs ++ dvs) Q (fun cls d H' => W cls d σ H') (c4.mono hj) c5 e0 b rr ⟨hvl, sp⟩
      rw [c8, c9]
      refine codeAny_mono run fun r' s' hq => ?_
      cases r' with
      | error e' =>
        refine tk e' s' (XE.of_call I1 (fun cls d H' h => h) ?_)
        rw [c8, c9]
        exact hq
      | ok fl =>
        cases fl with
        | ret u => exact I1.after (by rw [c8, c9]; exact hq)
        | next => exact False.elim hq
        | brk => exact False.elim hq
        | cont => exact False.elim hq
end
/-- a def of the text that has defaults -/
def HasDd (K : PySem.W.Frag) (mg : Str → Option Value) (x : Str) (st : Stmt) (dvs : List V) : Prop := ∃ f fd, FunD K x x (defArgs st) (defBody st) (defScope st) dvs [] f fd ∧ mg x = some (.ref f)
/-- such a def with what it computes: called with n values, the defaults dvs behind the first j left out -/
def HasF (G : Gb) (k : Nat) (x : Str) (ps : List Str) (dvs : List V) (fn : Fd) : Prop :=
  ∃ f fd ds, G.mg x = some (.ref f) ∧ PySem.W.keepIn G.K (.ref f) = true ∧ Binds G.K fd ps ds ∧ Vals dvs ds ∧ FnG G k f fd ps (fun vs H Q E => vs.length = ps.length ∧ spF G.K fn vs H Q E)
theorem hasF_of {G : Gb} {k m n : Nat} {x : Str} {st : Stmt} {N ps : List Str} {g : Sq → Fl} {dvs : List V} (D : HasDd G.K G.mg x st dvs) (hd : dvs ≠ []) (hm : m + dvs.length = ps.length)
    (hb : ∀ (T : Addr) (kV doc pm : Value) (an : Option Addr) (cdv ct : Value) (us its : List Value), us.length = m → its.length = dvs.length →
      ∃ k, bindArgs (PySem.W.fnOf x x (defArgs st) (defBody st) (defScope st) (.ref T) kV doc pm an cdv ct) ⟨us, []⟩ = seqItems? (.ref T) >>= k ∧ k (some its.toArray) = pure (ps.zip (us ++ its.drop 0)))
    (S : FnScope N ps (defScope st)) (hn : N.length = n) (h : ∀ X W, Cq G k N (defScope st) X → (∀ x, X.fn x = true) → Takes X W → DSs X W (defBody st) g) : HasF G (k + 1) x ps dvs (runB n g) := by
  obtain ⟨f, fd, F, mm⟩ := D
  obtain ⟨ds, v, B⟩ := F.binds1 m 0 hd (by simpa using hm) hb
  exact ⟨f, fd, ds, mm, F.kp, B, by simpa using v, fnG F S hn fun X W C f t _ _ => h X W C f t⟩
theorem de_callF {X : Cx} {W : WX} {N : List Str} {sc : Scope} {k j : Nat} {G : Gb} {x : Str} {p pos : Pos} {e : Expr} {es : List Expr} {fs : Sq → Out (List PV)} {ps : List Str} {fn : Fd} {dvs : List V} {dd : List R} (C : Cq G k N sc X) (tk : Takes X W) (h : HasF G j x ps dvs fn) (hdd : ∀ pa F, Paired (ArgR G.K pa F) dvs dd) (hj : j ≤ k) (hl : sc.names.lookup x = some .globalImplicit) (hlen : (e :: es).length + dvs.length = ps.length)
    (ha : DA X W (e :: es) fs) (hfl : FL (e :: es).length fs) (hdb : (x == ("__debug__" : Str)) = false := by decide) (he : starEach (e :: es) X.env = (false, eval e X.env) :: starEach es X.env := by rfl) (hpl : (backTo pos (starEach es X.env)).any (·.1) = false := by rfl) :
    DE X W (.Call (.Name x p) (e :: es) [] pos) (callFd fn dd fs) := by
  obtain ⟨f, fd, ds, h1, h2, h3, h5, h4⟩ := h
  exact de_callD h5 hdd C tk h4 hj (glC C hl) h1 h2 h3 hlen ha hdb he hpl hfl
theorem dd_int {K : PySem.W.Frag} (i : Int) : ∀ pa F, Paired (ArgR K pa F) [V.int i] [R.d (.int i)] := fun _ _ => .cons (.int i) .nil
end Q3
/-! Q6f: zip(a, b, strict=True) in for and comprehensions. -/
namespace Q3
open PySem PySem.Spec PyProof.Rows L2
open PySem.Builtin.SmallTypes (nextOf nextOrEnd)
theorem typeCall_zipS (a b c : Value) : checkTypeCall "zip" ⟨[a, b], [(Str.ofString "strict", c)]⟩ = pure () := by kernel_rfl
theorem newCall_zipS (a b c : Value) : checkBuiltinCall "zip.__new__" ⟨[.type "zip", a, b], [(Str.ofString "strict", c)]⟩ = pure () := by kernel_rfl
theorem args_initS (o a b c : Value) : argsOk "object.__init__" ⟨[o, a, b], [(Str.ofString "strict", c)]⟩ := by unfold argsOk; kernel_rfl
abbrev zN5s (h : Heap) (b1 b2 : Bool) (l1 l2 : Addr) : Heap := (zN4 h b1 b2 l1 l2).push { cls := .type "zip", data := .fields #[.none, .bool false, .bool true, .ref (zN2 h b1 b2 l1 l2).objs.size, .ref (zN3 h b1 b2 l1 l2).objs.size] }
theorem meets_zipNS (b1 b2 : Bool) (l1 l2 : Addr) (xs ys : Array Value) :
    Meets (Builtin.«zip.__new__» ⟨[.type "zip", .ref l1, .ref l2], [(Str.ofString "strict", .bool true)]⟩) (fun _ R s => SrcA b1 s.heap l1 xs ∧ SrcA b2 s.heap l2 ys ∧
      R (.ok (.ret (.ref (zN4 s.heap b1 b2 l1 l2).objs.size))) { s with heap := zN5s s.heap b1 b2 l1 l2 }) :=
  .of_wp fun prog w A R s h => by
    obtain ⟨hp, g, d, tk, os⟩ := s; obtain ⟨hl1, hl2, h⟩ := h
    have hsub := sub_zip
    have e2 : (Str.ofString "strict" != ("strict" : Str)) = false := by decide +kernel
    have hL1 : SrcA b1 (Shared.heap ⟨hp, g, d, tk, os⟩) l1 xs := hl1
    have hL2 : SrcA b2 (Shared.heap ⟨hp.push { cls := .type (itC b1), data := .fields #[.ref l1, .int 0 0] }, g, d, tk, os⟩) l2 ys := SrcA.push hl2 _
    wp_walk using pyIter_any hL1, pyIter_any hL2
    exact ⟨_, rfl, h⟩
end Q3
/-! Q6g: zip(a, b, strict=True) in for and comprehensions. -/
namespace Q3
open PySem PySem.Spec PyProof.Rows L2
open PySem.Builtin.SmallTypes (nextOf nextOrEnd)
section
variable {prog : Program} {w : World} {A : Around} {E : Value → Shared → Prop} {s : Shared}
theorem call_zipNS {b1 b2 : Bool} {l1 l2 : Addr} {xs ys : Array Value} {Q : Value → Shared → Prop} (hl1 : SrcA b1 s.heap l1 xs) (hl2 : SrcA b2 s.heap l2 ys)
    (h : ∀ h', Zst (StA b1 s.heap.objs.size l1 xs) (StA b2 (s.heap.objs.size + 1) l2 ys) (s.heap.objs.size + 4) (s.heap.objs.size + 2) (s.heap.objs.size + 3) s.heap.objs.size (s.heap.objs.size + 1) true 0 h' →
      h'.objs.size = s.heap.objs.size + 5 → (∀ c o, s.heap.get? c = some o → h'.get? c = some o) → Q (.ref (s.heap.objs.size + 4)) { s with heap := h' }) :
    wpAny (model prog w) A (call (.type "zip") [.ref l1, .ref l2] [(Str.ofString "strict", .bool true)]) Q E s := by
  refine callType_newKw PySem.F.called_zip (by decide) (typeCall_zipS _ _ _) (newCall_zipS _ _ _) (fun obj => args_initS obj _ _ _) PySem.F.entry_zip_new
    (meets_zipNS b1 b2 l1 l2 xs ys) ⟨hl1, hl2, ?_⟩
  have z1 : (zN1 s.heap b1 l1).objs.size = s.heap.objs.size + 1 := Heap.size_push ..
  have z2 : (zN2 s.heap b1 b2 l1 l2).objs.size = s.heap.objs.size + 2 := by rw [Heap.size_push, z1]
  have z3 : (zN3 s.heap b1 b2 l1 l2).objs.size = s.heap.objs.size + 3 := by rw [Heap.size_push, z2]
  have z4 : (zN4 s.heap b1 b2 l1 l2).objs.size = s.heap.objs.size + 4 := by rw [Heap.size_push, z3]
  have z5 : (zN5s s.heap b1 b2 l1 l2).objs.size = s.heap.objs.size + 5 := by rw [Heap.size_push, z4]
  have g5 : (zN5s s.heap b1 b2 l1 l2).get? (zN4 s.heap b1 b2 l1 l2).objs.size = some _ := Heap.get?_push_size _ rfl
  have g4 : (zN5s s.heap b1 b2 l1 l2).get? (zN3 s.heap b1 b2 l1 l2).objs.size = some _ := Heap.get?_push_of_some _ (Heap.get?_push_size _ rfl)
  have g3 : (zN5s s.heap b1 b2 l1 l2).get? (zN2 s.heap b1 b2 l1 l2).objs.size = some _ := Heap.get?_push_of_some _ (Heap.get?_push_of_some _ (Heap.get?_push_size _ rfl))
  have g2 : (zN5s s.heap b1 b2 l1 l2).get? (zN1 s.heap b1 l1).objs.size = some _ := Heap.get?_push_of_some _ (Heap.get?_push_of_some _ (Heap.get?_push_of_some _ (Heap.get?_push_size _ rfl)))
  have g1 : (zN5s s.heap b1 b2 l1 l2).get? s.heap.objs.size = some _ := Heap.get?_push_of_some _ (Heap.get?_push_of_some _ (Heap.get?_push_of_some _ (Heap.get?_push_of_some _ (Heap.get?_push_size _ rfl))))
  have p1 : SrcA b1 (zN5s s.heap b1 b2 l1 l2) l1 xs := ((((hl1.push _).push _).push _).push _).push _
  have p2 : SrcA b2 (zN5s s.heap b1 b2 l1 l2) l2 ys := ((((hl2.push _).push _).push _).push _).push _
  show _ ∧ _
  rw [z2, z3, z4] at g5
  rw [z1, z2] at g3
  rw [z3] at g4
  rw [z1] at g2
  rw [z4]
  exact ⟨⟨_, g5, rfl⟩, h _ ⟨g5, g3, ⟨_, _, g4⟩, st_new g1 p1, st_new g2 p2⟩ z5 fun c o x =>
    Heap.get?_push_of_some _ (Heap.get?_push_of_some _ (Heap.get?_push_of_some _ (Heap.get?_push_of_some _ (Heap.get?_push_of_some _ x))))⟩
end
section
variable {M : Model} {A : Around} {E : Value → Shared → Prop} {s : Shared} {env : Env}
theorem callWith_type_kw {pos : Pos} {T : String} {e : Expr} {rest : List Expr} {kws : List Keyword} {Q : Value → Shared → Prop}
    (h : wpAny M A (spliced (backTo pos (starEach (e :: rest) env))) (fun vs s₁ => wpAny M A (evalAll ((backToKw pos (keywordEach kws env)).map (·.2)))
      (fun kvs s₂ => wpAny M A (call (.type T) vs (((backToKw pos (keywordEach kws env)).filterMap (·.1)).zip kvs)) Q E s₂) E s₁) E s)
    (he : backTo pos (starEach (e :: rest) env) = (false, eval e env) :: backTo pos (starEach rest env) := by rfl)
    (hplain : (backTo pos (starEach (e :: rest) env)).any (·.1) = false := by rfl)
    (hall : (backToKw pos (keywordEach kws env)).all (·.1.isSome) = true := by rfl)
    (hkw : (backToKw pos (keywordEach kws env)).any (·.1.isNone) = false := by rfl) :
    wpAny M A (callWith pos (.type T) [] (backTo pos (starEach (e :: rest) env)) (backToKw pos (keywordEach kws env))) Q E s := by
  unfold callWith
  refine wpAny_bind (wpAny_holding (wpAny_mono (Q := fun a s₁ => wpAny M A (call (.type T) ([] ++ a.pos) a.kw) Q E s₁) (?_) (fun a s₁ h₁ => wpAny_bind (wpAny_standAt ?_)) fun _ _ x => x))
  · rw [he] at h ⊢
    exact PyProof.Rows.evalArgs_kwB hall h
  · simp only [hplain, hkw, Bool.or_false]
    refine wpAny_bind (wpAny_pure ?_)
    exact wpAny_bind (wpAny_mono h₁ (fun r s₂ hr => wpAny_bind (wpAny_holding (wpAny_point (wpAny_pure hr)))) fun _ _ x => x)
end
variable [TabSet]
def iZipNS (K : PySem.W.Frag) (ta : TA) : TI := fun σ H R => ta σ H fun vs H1 => ∃ b1 b2 a b xs ys, vs = [.ref a, .ref b] ∧ SqA K b1 H1 a xs ∧ SqA K b2 H1 b ys ∧ R (ItzN K b1 b2 a b true) H1
theorem pi_zipNS {X : Cx} {e e2 : Expr} {ta : TA} {p pos tpos kp cp : Pos} {ck : Nat} {elts : List Expr} {kk : Nat} (hg : Gl X "zip") (hm : X.mg "zip" = none) (ha : PA X [e, e2] ta)
    (he : backTo pos (starEach [e, e2] X.env) = (false, eval e X.env) :: backTo pos (starEach [e2] X.env) := by rfl) (hpl : (backTo pos (starEach [e, e2] X.env)).any (·.1) = false := by rfl) :
    PI X (.Tuple elts kk tpos) (.Call (.Name "zip" p) [e, e2] [⟨some "strict", .Constant (.bool true) ck cp, kp⟩] pos) (iZipNS X.K ta) := by
  refine ⟨fun pins s σ H R I h => ?_⟩
  refine wpAny_Call_Name_kw (ld_blt I hg hm PyProof.Rows.boot_zip (callWith_type_kw (thn (ha.run pos pins s σ H _ I h) fun us s1 ⟨vs, H1, I1, r1, q1⟩ => ?_) he hpl))
  obtain ⟨b1, b2, a, b, xs, ys, ex, hqx, hqy, q⟩ := q1
  subst ex
  refine PyProof.Rows.kws_cons (PyProof.Rows.Constant_bool (PyProof.Rows.kws_nil ?_))
  cases r1 with
  | cons r rr =>
    cases rr with
    | cons r' rr =>
      cases rr
      cases r
      cases r'
      have fresh5 : ∀ c, c ∈ [s1.heap.objs.size + 4, s1.heap.objs.size + 2, s1.heap.objs.size + 3, s1.heap.objs.size, s1.heap.objs.size + 1] → FpOk X pins H1 c := fun c hcm => by
        have hle : s1.heap.objs.size ≤ c := by
          simp only [List.mem_cons, List.not_mem_nil, or_false] at hcm
          omega
        exact I1.fpOk hle (I1.hok.fresh hle)
      obtain ⟨its, rv, p1⟩ := sqA_src I1 hqx
      obtain ⟨its2, rv2, p2⟩ := sqA_src I1 hqy
      refine call_zipNS p1 p2 fun h' Z hsz hk => pyIter_zipN Z.hz ?_
      have I2 : Inv X pins σ H1 { s1 with heap := h' } := I1.kept (t' := s1.toks) hk
      exact ⟨s1.heap.objs.size + 4, [s1.heap.objs.size + 4, s1.heap.objs.size + 2, s1.heap.objs.size + 3, s1.heap.objs.size, s1.heap.objs.size + 1], _, _, H1, rfl, I2, turn_zipN (PySem.W.ktu_apart s1.heap.objs.size a b p1.lt p2.lt), ⟨Z.hz, Z.hi, Z.ho, Z.s1.it, Z.s2.it⟩, fresh5, q⟩
end Q3
/-! Q6h: zip(a, b, strict=True), by data. -/
namespace Q3
open PySem PySem.Spec PyProof.Rows L2
variable [TabSet]
theorem yields_zipNS {K : PySem.W.Frag} {F : Hp} {b1 b2 : Bool} {a b : Addr} {vs ws : List V} {ds es : List D} (h1 : ∀ H, Ex F H → SqA K b1 H a vs) (h2 : ∀ H, Ex F H → SqA K b2 H b ws) (d1 : DnAll K F vs ds) (d2 : DnAll K F ws es) (hl : ds.length = es.length) : Yields K F (ItzN K b1 b2 a b true) (zipD ds es) where
  stop := fun H e => by
    refine ⟨vs, ws, h1 H e, h2 H e, ?_, fun _ => ?_⟩
    · rw [zipD_length, d1.length, d2.length]
      omega
    · rw [zipD_length, d1.length, d2.length]
      omega
  go := fun i H e hi => by
    rw [zipD_length] at hi
    obtain ⟨v, e1, _⟩ := d1.get (List.getElem?_eq_getElem (show i < ds.length by omega))
    obtain ⟨w, e2, _⟩ := d2.get (List.getElem?_eq_getElem (show i < es.length by omega))
    exact ⟨vs, ws, v, w, h1 H e, h2 H e, e1, e2⟩
  yld := fun i H x H' d e hd y => by
    obtain ⟨T, v, w, rfl, hT, rfl, q1, q2⟩ := y
    rw [zipD_get] at hd
    obtain ⟨p, e1, e2⟩ := Option.map_eq_some_iff.mp hd
    obtain ⟨g1, g2⟩ := List.getElem?_zip_eq_some.mp e1
    obtain ⟨v', k1, k2⟩ := d1.get g1
    obtain ⟨w', k3, k4⟩ := d2.get g2
    have z1 := q1 vs (h1 H e)
    have z2 := q2 ws (h2 H e)
    rw [k1] at z1; cases z1
    rw [k3] at z2; cases z2
    subst e2
    exact .tup hT (.cons k2 (.cons k4 .nil))
def zipT (fs : Sq → Out (List PV)) : Sq → Out (List D) := fun S => (fs S).bind fun ps S1 => match keepAll S1 ps with
  | some ([d, e], S2) => (match seqOf d, seqOf e with
    | some (_, xs), some (_, ys) => if xs.length = ys.length then .ok (zipD xs ys) S2 else .no
    | _, _ => .no)
  | _ => .no
section
variable {X : Cx} {W : WX} {a b c e : Expr} {fa fb fc : Sq → Out PV} {fs : Sq → Out (List PV)} {pos : Pos} {N : List Str} {sc : Scope} {k : Nat} {G : Gb}
theorem di_zipT {p tpos kp cp : Pos} {ck : Nat} {elts : List Expr} {kk : Nat} (hg : Gl X "zip") (hm : X.mg "zip" = none) (ha : DA X W [a, b] fs) (he : backTo pos (starEach [a, b] X.env) = (false, eval a X.env) :: backTo pos (starEach [b] X.env) := by rfl) (hpl : (backTo pos (starEach [a, b] X.env)).any (·.1) = false := by rfl) :
    DI X W (.Tuple elts kk tpos) (.Call (.Name "zip" p) [a, b] [⟨some "strict", .Constant (.bool true) ck cp, kp⟩] pos) (zipT fs) := by
  refine ⟨fun pins s σ H R I h => (pi_zipNS hg hm ha he hpl).run pins s σ H R I ?_⟩
  obtain ⟨F0, H0, pa, F, S, A, z⟩ := h
  unfold zipT at z
  rw [OutP.bind] at z
  refine ⟨F0, H0, pa, F, S, A, z.imp (fun ps S1 z vs F1 H1 x1 A1 r1 => ?_) fun _ _ z => z⟩
  split at z
  · rename_i d e S2 q
    obtain ⟨F2, x2, A2, d2⟩ := A1.keepAll r1 q
    split at z
    · rename_i b1 xs b2 ys e1 e2
      split at z
      · rename_i hl
        cases d2 with
        | cons k1 k2 =>
          cases k2 with
          | cons k2 k3 =>
            cases k3
            obtain ⟨a1, vs1, rfl, g1, g2⟩ := seq_at k1 e1
            obtain ⟨a2, vs2, rfl, g3, g4⟩ := seq_at k2 e2
            exact ⟨b1, b2, a1, a2, vs1, vs2, rfl, g2 H1 A2.sub, g4 H1 A2.sub, z _ F2 H1 (x1.trans x2) A2 (yields_zipNS g2 g4 g1 g3 hl)⟩
      · exact z.elim
    · exact z.elim
  · exact z.elim
end
/-! step by step -/
def zipT2 : Option (List D × Sq) → Out (List D)
  | some ([d, e], S2) => (match seqOf d, seqOf e with
    | some (_, xs), some (_, ys) => if xs.length = ys.length then .ok (zipD xs ys) S2 else .no
    | _, _ => .no)
  | _ => .no
def zipT1 : Out (List PV) → Out (List D)
  | .ok ps S1 => zipT2 (keepAll S1 ps)
  | .ex c S => .ex c S
  | .no => .no
@[simp] theorem ev_zipT (fs : Sq → Out (List PV)) (S : Sq) : zipT fs S = zipT1 (fs S) := by
  unfold zipT zipT1
  cases fs S <;> first | rfl | skip
@[simp] theorem zipT1_ok (ps : List PV) (S : Sq) : zipT1 (.ok ps S) = zipT2 (keepAll S ps) := rfl
@[simp] theorem zipT2_ll (xs ys : List D) (S : Sq) : zipT2 (some ([.list xs, .list ys], S)) = if xs.length = ys.length then .ok (zipD xs ys) S else .no := rfl
@[simp] theorem zipT2_lt (xs ys : List D) (S : Sq) : zipT2 (some ([.list xs, .tuple ys], S)) = if xs.length = ys.length then .ok (zipD xs ys) S else .no := rfl
@[simp] theorem zipT2_tl (xs ys : List D) (S : Sq) : zipT2 (some ([.tuple xs, .list ys], S)) = if xs.length = ys.length then .ok (zipD xs ys) S else .no := rfl
@[simp] theorem zipT2_tt (xs ys : List D) (S : Sq) : zipT2 (some ([.tuple xs, .tuple ys], S)) = if xs.length = ys.length then .ok (zipD xs ys) S else .no := rfl
end Q3
/-! Q6i: try: .. except X as e: return text. -/
namespace Q3
open PySem PySem.Spec PyProof.Rows L2
variable [TabSet]
def tryRF (x : Str) (w : Str) (g : Sq → Fl) : Sq → Fl := fun S => match g S with
  | .ex c S1 => if c = x then .rt (.d (.str w)) S1 else .no
  | o => o
theorem ds_tryR {X : Cx} {W : WX} {k i : Nat} {G : Gb} {N : List Str} {sc : Scope} {x n w : Str} {body : List Stmt} {g : Sq → Fl} {np pos pos' rp cp : Pos} {ck : Nat} (C : Cq G k N sc X) (hfn : ∀ x, X.fn x = true) (tk : Takes X W)
    (hs : X.stack = X.env :: X.outer) (hf : X.env.frame = some X.env.locals) (hi : N[i]? = some n) (hln : sc.names.lookup n = some .local) (hl : sc.names.lookup x = some .globalImplicit) (gx : G.mg x = some (.ref (He.ga G.K x))) (hx : PySem.W.exmOne G.K (.ref (He.ga G.K x)) (.ref (He.ga G.K x)) = some true)
    (hb : ∀ X' W', Cq G k N sc X' → (∀ x, X'.fn x = true) → Takes X' W' → DSs X' W' body g) (hdx : (x == ("__debug__" : Str)) = false := by decide) (hdn : (n == ("__debug__" : Str)) = false := by decide) (hcn : (n == ("__classdict__" : Str)) = false := by decide) :
    DS X W (.Try body [.ExceptHandler (some (.Name x np)) (some n) [.Return (some (.Constant (.str w) ck cp)) rp] pos'] [] [] pos) (tryRF x w g) := by
  have hK : X.K = G.K := C.K
  refine PS.weak (ps_try_as (X := X) (c := .ref (He.ga G.K x)) (i := i) (tb := fun W' => rs X.K W' g) (ts := fun a cls d => tRet (tC (.str w))) (Wout := W) hs hf (by rw [C.names]; exact C.nd) (by rw [C.names]; exact hi) (by show X.env.scope.names.lookup n = _; rw [C.scope]; exact hln) ⟨glC C hl, hdx, .inl (by rw [C.mg]; exact gx)⟩ tk (fun W' pn xe tk' pass => ?_) (fun a oe cls d pn hz hv => ?_)) fun D σ H z => ?_
  · exact hb (X.tr pn xe) W' ⟨C.names, C.nd, C.scope, C.hd, C.gd, C.calm, pass, C.prog, C.wo, C.K, C.mg, C.base⟩ hfn tk'
  · exact pss_one (ps_ret pe_str)
  · obtain ⟨F0, H0, pa, F, S, A, z⟩ := z
    refine ⟨F0, H0, pa, F, S, A, ?_⟩
    unfold tryRF at z
    cases o : g S with
    | nx S1 => rw [o] at z; exact z
    | rt r S1 => rw [o] at z; exact z
    | bk S1 => rw [o] at z; exact z
    | ct S1 => rw [o] at z; exact z
    | no => rw [o] at z; exact z
    | ex c S1 =>
      rw [o] at z
      dsimp only at z
      split at z
      · rename_i e
        subst e
        intro σ' F' H' A1
        refine ⟨true, by rw [hK]; exact hx, fun _ a ha => ?_, fun q => by cases q⟩
        exact z σ' (.str w) F' H' A1 (.str w)
      · exact z.elim
/-- a def's body that asks how its context stands -/
theorem fnGT {G : Gb} {k n : Nat} {x qual : Str} {params : Arguments} {body : List Stmt} {scope : Scope} {kws : List (Str × V)} {f : Addr} {fd : FuncData} {N ps : List Str} {dvs : List V} {g : Sq → Fl} (F : L2.FunD G.K x qual params body scope dvs kws f fd) (S : FnScope N ps scope) (hn : N.length = n)
    (hb : ∀ X W, Cq G k N scope X → (∀ x, X.fn x = true) → Takes X W → X.stack = X.env :: X.outer → X.env.frame = some X.env.locals → DSs X W body g) : FnG G (k + 1) f fd ps (fun vs H Q E => vs.length = ps.length ∧ spF G.K (runB n g) vs H Q E) := by
  obtain ⟨oc, od, dV, kV, doc, pm, an, cdv, ct, osl, rfl, lk, hcd, _, _⟩ := F.ex
  refine fn_ofG lk hcd S (fun _ _ _ _ h => h.1) fun A outer s H vs Q E hr hgd hsp => ?_
  obtain ⟨hl, F0, H0, pa, rs, p, A0, pr, z⟩ := hsp
  have C : Cq G k N scope (cxOf (L2.CX G.P G.w) G.P G.w G.K G.mg G.base N qual scope f cdv A outer s H E) := ⟨rfl, S.nd, rfl, hr, hgd, rfl, passes_of rfl, rfl, rfl, rfl, rfl, rfl⟩
  refine ⟨_, hb _ (fun cls d _ H => E cls d H) C (fun _ => rfl) (takes_of rfl rfl rfl rfl) rfl rfl, F0, H0, pa, F0, ⟨rs ++ List.replicate (n - rs.length) .un, p⟩, ?_, ?_⟩
  · have hlr := paired_length pr
    have hps : ps.length ≤ N.length := by
      have := congrArg List.length S.pre
      rw [List.length_take] at this
      omega
    refine ⟨Ex.refl _, A0.sub, A0.hH, A0.tabs, A0.ft, A0.n0, fun a o h => .inl h, ?_, fun i c e => ?_, fun i j a h => ?_, fun i a h => ?_, A0.pen⟩
    · show (rs ++ List.replicate (n - rs.length) R.un).length = (L2.start N vs).length
      unfold L2.start
      simp only [List.length_append, List.length_replicate, List.length_map]
      omega
    · have e : (rs ++ List.replicate (n - rs.length) R.un)[i]? = some c := e
      by_cases hi : i < rs.length
      · rw [List.getElem?_append_left hi] at e
        obtain ⟨v, e1, e2⟩ := paired_get pr e
        have es : (L2.start N vs)[i]? = some (some v) := by
          unfold L2.start
          rw [List.getElem?_append_left (by rw [List.length_map, hlr]; exact hi), List.getElem?_map, e1]
          rfl
        rw [es]
        cases c with
        | d x => exact ⟨v, rfl, e2⟩
        | pen => obtain ⟨q, q1, rfl⟩ := e2; exact ⟨q, q1, rfl⟩
        | un => trivial
        | l xs => exact False.elim e2
        | m kvs => exact False.elim e2
        | e c => obtain ⟨q, rfl, q2⟩ := e2; exact ⟨q, rfl, q2⟩
        | sc ns => obtain ⟨q, rfl, q2⟩ := e2; exact ⟨q, rfl, q2⟩
        | es cs => exact False.elim e2
      · rw [List.getElem?_append_right (by omega), List.getElem?_replicate] at e
        split at e
        · cases e; trivial
        · cases e
    · exfalso
      rcases h.2 with ⟨xs, e⟩ | ⟨kvs, e⟩
      · have e : (rs ++ List.replicate (n - rs.length) R.un)[i]? = some (.l xs) := e
        by_cases hi : i < rs.length
        · rw [List.getElem?_append_left hi] at e
          obtain ⟨v, e1, e2⟩ := paired_get pr e
          exact e2
        · rw [List.getElem?_append_right (by omega), List.getElem?_replicate] at e
          split at e <;> cases e
      · have e : (rs ++ List.replicate (n - rs.length) R.un)[i]? = some (.m kvs) := e
        by_cases hi : i < rs.length
        · rw [List.getElem?_append_left hi] at e
          obtain ⟨v, e1, e2⟩ := paired_get pr e
          exact e2
        · rw [List.getElem?_append_right (by omega), List.getElem?_replicate] at e
          split at e <;> cases e
    · exfalso
      rcases h.2 with ⟨xs, e⟩ | ⟨kvs, e⟩
      · have e : (rs ++ List.replicate (n - rs.length) R.un)[i]? = some (.l xs) := e
        by_cases hi : i < rs.length
        · rw [List.getElem?_append_left hi] at e
          obtain ⟨v, e1, e2⟩ := paired_get pr e
          exact e2
        · rw [List.getElem?_append_right (by omega), List.getElem?_replicate] at e
          split at e <;> cases e
      · have e : (rs ++ List.replicate (n - rs.length) R.un)[i]? = some (.m kvs) := e
        by_cases hi : i < rs.length
        · rw [List.getElem?_append_left hi] at e
          obtain ⟨v, e1, e2⟩ := paired_get pr e
          exact e2
        · rw [List.getElem?_append_right (by omega), List.getElem?_replicate] at e
          split at e <;> cases e
  · unfold runB at z
    cases o : g ⟨rs ++ List.replicate (n - rs.length) .un, p⟩ with
    | nx S' => rw [o] at z; exact fun σ' F' H' A' => z .non F' H' A'.drop .non
    | rt r S' => rw [o] at z; exact fun σ' v F' H' A' q => z v F' H' A'.drop q
    | bk S' => rw [o] at z; exact z.elim
    | ct S' => rw [o] at z; exact z.elim
    | ex c S' => rw [o] at z; exact fun σ' F' H' A' => z F' H' A'.drop
    | no => rw [o] at z; exact z.elim
theorem has_ofT {G : Gb} {k n : Nat} {x : Str} {st : Stmt} {N ps : List Str} {g : Sq → Fl} (D : HasD G.K G.mg x st)
    (hb : ∀ (kV doc pm : Value) (an : Option Addr) (cdv ct : Value) (us : List Value), us.length = ps.length → bindArgs (PySem.W.fnOf x x (defArgs st) (defBody st) (defScope st) .none kV doc pm an cdv ct) ⟨us, []⟩ = pure (ps.zip us))
    (S : FnScope N ps (defScope st)) (hn : N.length = n) (h : ∀ X W, Cq G k N (defScope st) X → (∀ x, X.fn x = true) → Takes X W → X.stack = X.env :: X.outer → X.env.frame = some X.env.locals → DSs X W (defBody st) g) : Has G (k + 1) x ps (runB n g) := by
  obtain ⟨f, fd, F, m⟩ := D
  exact ⟨f, fd, m, F.kp, F.bindsN hb, fnGT F S hn h⟩
end Q3
/-! Q6a2: zip whose tuple is held by a name. -/
namespace Q3
open PySem PySem.Spec PyProof.Rows L2
open PySem.Builtin.SmallTypes (nextOf nextOrEnd)
abbrev ZipP (h : Heap) (z TI TO : Addr) (f0 : Value) (f1 b : Bool) : Prop :=
  h.get? z = some { cls := .type "zip", dict := none, data := .fields #[f0, .bool f1, .bool b, .ref TI, .ref TO], slots := #[] }
section
variable {prog : Program} {w : World} {A : Around} {E : Value → Shared → Prop} {s : Shared} {it l i1 i2 l1 l2 z TI TO T : Addr} {xs ys : Array Value} {St St1 St2 : Nat → Heap → Prop} {k : Nat} {x y a b : Value} {f1 st : Bool}
theorem alive_any {c : Addr} {Q : Option Obj → Shared → Prop} (h : Q (s.heap.get? c) s) : wpAny (model prog w) A (loadIfAlive c) Q E s := fun _ _ _ => h
theorem ow_used {Q : Bool → Shared → Prop} {o : Obj} (hz : ZipP s.heap z TI TO (rawInt T) f1 st) (hT : s.heap.get? T = some o) (h : ∀ h', ZipP h' z TI TO (rawInt T) true st → Heap.SameBut z s.heap h' → Q false { s with heap := h' }) :
    wpAny (model prog w) A (Builtin.SmallTypes.ownedTupleIsFree (.ref z)) Q E s := by
  unfold Builtin.SmallTypes.ownedTupleIsFree
  refine wpAny_bind (wpAny_field hz rfl (x := rawInt T) rfl ?_)
  show wpAny _ _ (loadIfAlive ((T : Int)).toNat >>= _) _ _ _
  rw [Int.toNat_natCast]
  refine wpAny_bind (alive_any ?_)
  rw [hT]
  show wpAny _ _ (field (.ref z) 1 >>= _) _ _ _
  refine wpAny_bind (wpAny_field hz rfl (x := .bool f1) rfl ?_)
  cases f1 with
  | true =>
    show wpAny _ _ (pure false) _ _ _
    exact wpAny_pure (h s.heap hz (Heap.SameBut.refl _ _))
  | false =>
    show wpAny _ _ (setField (.ref z) 1 (.bool true) >>= _) _ _ _
    refine wpAny_bind (wpAny_setField_rec hz (by simp) fun h' z' b' => ?_)
    exact wpAny_pure (h h' z' b')
theorem ow_free {Q : Bool → Shared → Prop} {f0 : Value} (hz : ZipP s.heap z TI TO f0 f1 st) (hf : f0 = .none ∨ ∃ T : Addr, f0 = rawInt T ∧ s.heap.get? T = none) (h : Q true s) :
    wpAny (model prog w) A (Builtin.SmallTypes.ownedTupleIsFree (.ref z)) Q E s := by
  unfold Builtin.SmallTypes.ownedTupleIsFree
  rcases hf with rfl | ⟨T, rfl, hT⟩
  · exact wpAny_bind (wpAny_field hz rfl (x := .none) rfl (wpAny_pure h))
  · refine wpAny_bind (wpAny_field hz rfl (x := rawInt T) rfl ?_)
    show wpAny _ _ (loadIfAlive ((T : Int)).toNat >>= _) _ _ _
    rw [Int.toNat_natCast]
    refine wpAny_bind (alive_any ?_)
    rw [hT]
    exact wpAny_pure h
theorem zipP_free {Q : Value → Shared → Prop} {f0 : Value} (D : ZipApart z TI TO i1 i2 l1 l2) (I1 : ItrOk prog w i1 l1 xs St1) (I2 : ItrOk prog w i2 l2 ys St2) (hz : ZipP s.heap z TI TO f0 f1 st) (hf : f0 = .none ∨ ∃ T : Addr, f0 = rawInt T ∧ s.heap.get? T = none) (hi : IsPair s.heap TI (.ref i1) (.ref i2)) (ho : ∃ a b, IsPair s.heap TO a b) (s1 : St1 k s.heap) (s2 : St2 k s.heap) (hx : xs[k]? = some x) (hy : ys[k]? = some y)
    (hQ : ∀ h', ZipP h' z TI TO (rawInt s.heap.objs.size) false st → IsPair h' TO x y → St1 (k + 1) h' → St2 (k + 1) h' → IsPair h' s.heap.objs.size x y → h'.objs.size = s.heap.objs.size + 1 →
      (∀ c o, c ≠ z → c ≠ TO → c ≠ i1 → c ≠ i2 → s.heap.get? c = some o → h'.get? c = some o) → Q (.ref s.heap.objs.size) { s with heap := h' }) :
    wpAny (model prog w) A (Builtin.«zip.__next__» ⟨[.ref z], []⟩) (fun fin s' => ∃ v, fin = .done (.ret v) ∧ Q v s') E s := by
  obtain ⟨a, b, ho⟩ := ho
  show wpAny _ _ (field (.ref z) 2 >>= _) _ _ _
  refine wpAny_bind (wpAny_field hz rfl (x := .bool st) rfl ?_)
  have est : (Value.bool st == Value.bool true) = st := by cases st <;> rfl
  rw [est]
  show wpAny _ _ (field (.ref z) 3 >>= _) _ _ _
  refine wpAny_bind (wpAny_field hz rfl (x := .ref TI) rfl ?_)
  refine wpAny_bind (wpAny_seqItems hi rfl ?_)
  show wpAny _ _ (Builtin.SmallTypes.ownedTupleIsFree (.ref z) >>= _) _ _ _
  refine wpAny_bind (ow_free hz hf ?_)
  simp only [if_true]
  refine wpAny_bind (wpAny_rule ?_)
  refine wpAny_bind (wpAny_field hz rfl (x := .ref TO) rfl ?_)
  refine wpAny_bind (wpAny_setField_rec hz (by simp) fun g1 z1 b1 => ?_)
  replace z1 : ZipP g1 z TI TO .ellipsis f1 st := z1
  refine wpAny_bind ?_
  simp only [List.zipIdx_cons, List.zipIdx_nil, List.forIn_cons, List.forIn_nil]
  refine wpAny_bind (wpAny_bind (wpAny_onRaise ?_))
  show wpAny _ _ (if st = true then nextOrEnd (.ref i1) else (nextOf (.ref i1) >>= fun v => pure (some v))) _ _ _
  have up : ∀ {c d : Addr} {p q : Heap}, Heap.SameBut d p q → c ≠ d → ∀ o, p.get? c = some o → q.get? c = some o := fun sb n o e => sb.extBut _ _ n e
  refine draw_item I1 st (I1.keep s1 (up b1 D.i1z) (up b1 D.l1z)) hx fun g2 t2 b2 => ?_
  have o2 : IsPair g2 TO a b := up b2 D.TOi1 _ (up b1 D.TOz _ ho)
  refine wpAny_bind (wpAny_seqItems o2 rfl ?_)
  refine wpAny_bind (wpAny_updateSeq_pair o2 fun g3 o3 b3 => ?_)
  replace o3 : IsPair g3 TO x b := o3
  refine wpAny_bind (wpAny_letGo (wpAny_pure ?_))
  refine wpAny_bind (wpAny_bind (wpAny_onRaise ?_))
  show wpAny _ _ (if st = true then nextOrEnd (.ref i2) else (nextOf (.ref i2) >>= fun v => pure (some v))) _ _ _
  have u1 := I2.keep s2 (up b1 D.i2z) (up b1 D.l2z)
  have u2 := I2.keep u1 (up b2 D.i12.symm) (up b2 D.l2i1)
  have u3 := I2.keep u2 (up b3 D.TOi2.symm) (up b3 D.l2TO)
  refine draw_item I2 st u3 hy fun g4 t4 b4 => ?_
  have o4 : IsPair g4 TO x b := up b4 D.TOi2 _ o3
  refine wpAny_bind (wpAny_seqItems o4 rfl ?_)
  refine wpAny_bind (wpAny_updateSeq_pair o4 fun g5 o5 b5 => ?_)
  replace o5 : IsPair g5 TO x y := o5
  refine wpAny_bind (wpAny_letGo (wpAny_pure (wpAny_pure ?_)))
  refine wpAny_bind (wpAny_seqItems o5 rfl ?_)
  refine wpAny_bind (wpAny_newTuple ?_)
  have hsz : g5.objs.size = s.heap.objs.size := by rw [b5.1, b4.1, b3.1, b2.1, b1.1]
  have z5 : ZipP g5 z TI TO .ellipsis f1 st := up b5 D.TOz.symm _ (up b4 D.i2z.symm _ (up b3 D.TOz.symm _ (up b2 D.i1z.symm _ z1)))
  have k5 : ∀ c o, c ≠ z → c ≠ TO → c ≠ i1 → c ≠ i2 → s.heap.get? c = some o → g5.get? c = some o := fun c o c1 c2 c3 c4 e =>
    up b5 c2 _ (up b4 c4 _ (up b3 c2 _ (up b2 c3 _ (up b1 c1 _ e))))
  have v1 : St1 (k + 1) g5 := I1.keep (I1.keep (I1.keep t2 (up b3 D.TOi1.symm) (up b3 D.l1TO)) (up b4 D.i12) (up b4 D.l1i2)) (up b5 D.TOi1.symm) (up b5 D.l1TO)
  have v2 : St2 (k + 1) g5 := I2.keep t4 (up b5 D.TOi2.symm) (up b5 D.l2TO)
  have hzlt : z < g5.objs.size := Heap.lt_size z5
  show wpAny _ _ (Builtin.SmallTypes.ownedTupleHandOut (.ref z) (.ref g5.objs.size) >>= _) _ _ _
  refine wpAny_bind ?_
  unfold Builtin.SmallTypes.ownedTupleHandOut
  have z6 : ZipP (g5.push { cls := .type "tuple", data := .seq #[x, y] }) z TI TO .ellipsis f1 st := Heap.get?_push_of_some _ z5
  refine wpAny_bind (wpAny_setField_rec z6 (by simp) fun g7 z7 b7 => ?_)
  replace z7 : ZipP g7 z TI TO (rawInt g5.objs.size) f1 st := z7
  refine wpAny_setField_rec z7 (by simp) fun g8 z8 b8 => ?_
  replace z8 : ZipP g8 z TI TO (rawInt g5.objs.size) false st := z8
  have fin : ∀ c o, c ≠ z → g5.get? c = some o → g8.get? c = some o := fun c o c1 e => up b8 c1 _ (up b7 c1 _ (Heap.get?_push_of_some _ e))
  have p8 : IsPair g8 g5.objs.size x y := up b8 (Nat.ne_of_gt hzlt) _ (up b7 (Nat.ne_of_gt hzlt) _ (Heap.get?_push_size _ rfl))
  have e8 : g8.objs.size = g5.objs.size + 1 := by rw [b8.1, b7.1, Heap.size_push]
  rw [hsz] at z8 p8 e8
  refine wpAny_pure ⟨_, rfl, ?_⟩
  show Q (.ref g5.objs.size) _
  rw [hsz]
  exact hQ g8 z8 (fin _ _ D.TOz o5) (I1.keep v1 (fun o => fin _ o D.i1z) fun o => fin _ o D.l1z) (I2.keep v2 (fun o => fin _ o D.i2z) fun o => fin _ o D.l2z) p8 e8 fun c o c1 c2 c3 c4 e => fin c o c1 (k5 c o c1 c2 c3 c4 e)
theorem zipP_used {Q : Value → Shared → Prop} {o : Obj} (D : ZipApart z TI TO i1 i2 l1 l2) (I1 : ItrOk prog w i1 l1 xs St1) (I2 : ItrOk prog w i2 l2 ys St2) (hz : ZipP s.heap z TI TO (rawInt T) f1 st) (hT : s.heap.get? T = some o) (hi : IsPair s.heap TI (.ref i1) (.ref i2)) (s1 : St1 k s.heap) (s2 : St2 k s.heap) (hx : xs[k]? = some x) (hy : ys[k]? = some y)
    (hQ : ∀ h', ZipP h' z TI TO (rawInt T) true st → St1 (k + 1) h' → St2 (k + 1) h' → IsPair h' s.heap.objs.size x y → h'.objs.size = s.heap.objs.size + 1 →
      (∀ c o, c ≠ z → c ≠ i1 → c ≠ i2 → s.heap.get? c = some o → h'.get? c = some o) → Q (.ref s.heap.objs.size) { s with heap := h' }) :
    wpAny (model prog w) A (Builtin.«zip.__next__» ⟨[.ref z], []⟩) (fun fin s' => ∃ v, fin = .done (.ret v) ∧ Q v s') E s := by
  show wpAny _ _ (field (.ref z) 2 >>= _) _ _ _
  refine wpAny_bind (wpAny_field hz rfl (x := .bool st) rfl ?_)
  have est : (Value.bool st == Value.bool true) = st := by cases st <;> rfl
  rw [est]
  show wpAny _ _ (field (.ref z) 3 >>= _) _ _ _
  refine wpAny_bind (wpAny_field hz rfl (x := .ref TI) rfl ?_)
  refine wpAny_bind (wpAny_seqItems hi rfl ?_)
  show wpAny _ _ (Builtin.SmallTypes.ownedTupleIsFree (.ref z) >>= _) _ _ _
  refine wpAny_bind (ow_used hz hT fun g1 z1 b1 => ?_)
  have up : ∀ {c d : Addr} {p q : Heap}, Heap.SameBut d p q → c ≠ d → ∀ o, p.get? c = some o → q.get? c = some o := fun sb n o e => sb.extBut _ _ n e
  have u1 := I1.keep s1 (up b1 D.i1z) (up b1 D.l1z)
  have u2 := I2.keep s2 (up b1 D.i2z) (up b1 D.l2z)
  simp only [Bool.false_eq_true, if_false]
  simp only [List.forIn_toArray, List.forIn_cons, List.forIn_nil]
  refine wpAny_bind (wpAny_bind (wpAny_bind (wpAny_holding ?_)))
  show wpAny _ _ (if st = true then nextOrEnd (.ref i1) else (nextOf (.ref i1) >>= fun v => pure (some v))) _ _ _
  refine draw_item I1 st u1 hx fun g2 t2 b2 => ?_
  refine wpAny_pure (wpAny_bind (wpAny_bind (wpAny_holding ?_)))
  show wpAny _ _ (if st = true then nextOrEnd (.ref i2) else (nextOf (.ref i2) >>= fun v => pure (some v))) _ _ _
  refine draw_item I2 st (I2.keep u2 (up b2 D.i12.symm) (up b2 D.l2i1)) hy fun g3 t3 b3 => ?_
  refine wpAny_pure (wpAny_pure ?_)
  show wpAny _ _ (newTuple [x, y] >>= _) _ _ _
  refine wpAny_bind (wpAny_newTuple ?_)
  have hsz : g3.objs.size = s.heap.objs.size := by rw [b3.1, b2.1, b1.1]
  have z3 : ZipP g3 z TI TO (rawInt T) true st := up b3 D.i2z.symm _ (up b2 D.i1z.symm _ z1)
  have t2' : St1 (k + 1) g3 := I1.keep t2 (up b3 D.i12) (up b3 D.l1i2)
  have psh : ∀ c o, g3.get? c = some o → (g3.push { cls := .type "tuple", data := .seq #[x, y] }).get? c = some o := fun c o e => Heap.get?_push_of_some _ e
  refine wpAny_pure ⟨_, rfl, ?_⟩
  have p := hQ (g3.push { cls := .type "tuple", data := .seq #[x, y] }) (psh _ _ z3) (I1.keep t2' (psh _) (psh _)) (I2.keep t3 (psh _) (psh _)) (by rw [← hsz]; exact Heap.get?_push_size _ rfl) (by rw [Heap.size_push, hsz]) fun c o c1 c2 c3 e => psh _ _ (up b3 c3 _ (up b2 c2 _ (up b1 c1 _ e)))
  rw [← hsz] at p
  exact p
/-- the end: one of them is at its end; if strict, both -/
theorem zipP_endF {Q : Fin → Shared → Prop} {f0 : Value} (hh : A.handled = none) (D : ZipApart z TI TO i1 i2 l1 l2) (I1 : ItrOk prog w i1 l1 xs St1) (I2 : ItrOk prog w i2 l2 ys St2) (hz : ZipP s.heap z TI TO f0 f1 st) (hf : f0 = .none ∨ ∃ T : Addr, f0 = rawInt T ∧ s.heap.get? T = none) (hi : IsPair s.heap TI (.ref i1) (.ref i2)) (ho : ∃ a b, IsPair s.heap TO a b) (s1 : St1 k s.heap) (s2 : St2 k s.heap) (he : xs[k]? = none ∨ ys[k]? = none) (hst : st = true → xs[k]? = none ∧ ys[k]? = none)
    (hE : ∀ h' e, (∀ c o, c ≠ z → c ≠ TO → c ≠ i1 → c ≠ i2 → s.heap.get? c = some o → h'.get? c = some o) → (∃ o, h'.get? e = some o ∧ o.cls = .type "StopIteration") → E (.ref e) { s with heap := h' }) :
    wpAny (model prog w) A (Builtin.«zip.__next__» ⟨[.ref z], []⟩) Q E s := by
  obtain ⟨a, b, ho⟩ := ho
  show wpAny _ _ (field (.ref z) 2 >>= _) _ _ _
  refine wpAny_bind (wpAny_field hz rfl (x := .bool st) rfl ?_)
  have est : (Value.bool st == Value.bool true) = st := by cases st <;> rfl
  rw [est]
  show wpAny _ _ (field (.ref z) 3 >>= _) _ _ _
  refine wpAny_bind (wpAny_field hz rfl (x := .ref TI) rfl ?_)
  refine wpAny_bind (wpAny_seqItems hi rfl ?_)
  show wpAny _ _ (Builtin.SmallTypes.ownedTupleIsFree (.ref z) >>= _) _ _ _
  refine wpAny_bind (ow_free hz hf ?_)
  simp only [if_true]
  refine wpAny_bind (wpAny_rule ?_)
  refine wpAny_bind (wpAny_field hz rfl (x := .ref TO) rfl ?_)
  refine wpAny_bind (wpAny_setField_rec hz (by simp) fun g1 z1 b1 => ?_)
  replace z1 : ZipP g1 z TI TO .ellipsis f1 st := z1
  refine wpAny_bind ?_
  simp only [List.zipIdx_cons, List.zipIdx_nil, List.forIn_cons, List.forIn_nil]
  have up : ∀ {c d : Addr} {p q : Heap}, Heap.SameBut d p q → c ≠ d → ∀ o, p.get? c = some o → q.get? c = some o := fun sb n o e => sb.extBut _ _ n e
  have w1 := I1.keep s1 (up b1 D.i1z) (up b1 D.l1z)
  have u1 := I2.keep s2 (up b1 D.i2z) (up b1 D.l2z)
  cases st with
  | false =>
    refine wpAny_bind (wpAny_bind (wpAny_onRaise ?_))
    show wpAny _ _ (nextOf (.ref i1) >>= _) _ _ _
    cases hx : xs[k]? with
    | none =>
      refine wpAny_bind (I1.stop hh w1 hx fun g2 e b2 he => ?_)
      obtain ⟨oe, hoe, hce⟩ := he
      have z2 : ZipP g2 z TI TO .ellipsis f1 false := b2 _ _ D.i1z.symm z1
      have hez : e ≠ z := fun x => by subst x; rw [z2] at hoe; cases hoe; simp at hce
      exact wpAny_setField_rec z2 (by simp) fun g3 _ b3 => hE g3 e (fun c o c1 _ c3 _ x => up b3 c1 _ (b2 _ _ c3 (up b1 c1 _ x))) ⟨oe, up b3 hez _ hoe, hce⟩
    | some x =>
      have hy : ys[k]? = none := by rcases he with h | h; rw [hx] at h; cases h; exact h
      refine wpAny_bind (I1.item w1 hx fun g2 t2 b2 => wpAny_pure ?_)
      have o2 : IsPair g2 TO a b := up b2 D.TOi1 _ (up b1 D.TOz _ ho)
      refine wpAny_bind (wpAny_seqItems o2 rfl ?_)
      refine wpAny_bind (wpAny_updateSeq_pair o2 fun g3 o3 b3 => ?_)
      refine wpAny_bind (wpAny_letGo (wpAny_pure ?_))
      refine wpAny_bind (wpAny_bind (wpAny_onRaise ?_))
      show wpAny _ _ (nextOf (.ref i2) >>= _) _ _ _
      have u2 := I2.keep u1 (up b2 D.i12.symm) (up b2 D.l2i1)
      have u3 := I2.keep u2 (up b3 D.TOi2.symm) (up b3 D.l2TO)
      refine wpAny_bind (I2.stop hh u3 hy fun g4 e b4 he => ?_)
      obtain ⟨oe, hoe, hce⟩ := he
      have z4 : ZipP g4 z TI TO .ellipsis f1 false := b4 _ _ D.i2z.symm (up b3 D.TOz.symm _ (up b2 D.i1z.symm _ z1))
      have hez : e ≠ z := fun x => by subst x; rw [z4] at hoe; cases hoe; simp at hce
      exact wpAny_setField_rec z4 (by simp) fun g5 _ b5 => hE g5 e (fun c o c1 c2 c3 c4 x => up b5 c1 _ (b4 _ _ c4 (up b3 c2 _ (up b2 c3 _ (up b1 c1 _ x))))) ⟨oe, up b5 hez _ hoe, hce⟩
  | true =>
    obtain ⟨hx, hy⟩ := hst rfl
    refine wpAny_bind (wpAny_bind (wpAny_onRaise ?_))
    show wpAny _ _ (nextOrEnd (.ref i1)) _ _ _
    refine end_strict hh I1 w1 hx fun g2 b2 => ?_
    have z2 : ZipP g2 z TI TO .ellipsis f1 true := b2 _ _ D.i1z.symm z1
    show wpAny _ _ (setField (.ref z) 0 .none >>= _) _ _ _
    refine wpAny_bind (wpAny_setField_rec z2 (by simp) fun g3 z3 b3 => ?_)
    have u2 := I2.keep u1 (fun o e => b2 _ _ D.i12.symm e) (fun o e => b2 _ _ D.l2i1 e)
    have u3 := I2.keep u2 (up b3 D.i2z) (up b3 D.l2z)
    refine wpAny_bind ?_
    show wpAny _ _ (forIn [(Value.ref i2, 1)] PUnit.unit _ >>= _) _ _ _
    rw [List.forIn_cons]
    refine wpAny_bind (wpAny_bind ?_)
    show wpAny _ _ (nextOrEnd (.ref i2) >>= _) _ _ _
    refine wpAny_bind (end_strict hh I2 u3 hy fun g4 b4 => ?_)
    rw [if_neg (by decide)]
    refine wpAny_pure ?_
    show wpAny _ _ (forIn [] PUnit.unit _) _ _ _
    rw [List.forIn_nil]
    refine wpAny_pure (wpAny_bind (wpAny_rule ?_))
    exact stop_iter hh fun h' e kp he => hE h' e (fun c o c1 c2 c3 c4 x => kp _ _ (b4 _ _ c4 (up b3 c1 _ (b2 _ _ c3 (up b1 c1 _ x))))) he
theorem zipP_endU {Q : Fin → Shared → Prop} {o : Obj} (hh : A.handled = none) (D : ZipApart z TI TO i1 i2 l1 l2) (I1 : ItrOk prog w i1 l1 xs St1) (I2 : ItrOk prog w i2 l2 ys St2) (hz : ZipP s.heap z TI TO (rawInt T) f1 st) (hT : s.heap.get? T = some o) (hi : IsPair s.heap TI (.ref i1) (.ref i2)) (s1 : St1 k s.heap) (s2 : St2 k s.heap) (he : xs[k]? = none ∨ ys[k]? = none) (hst : st = true → xs[k]? = none ∧ ys[k]? = none)
    (hE : ∀ h' e, (∀ c o, c ≠ z → c ≠ TO → c ≠ i1 → c ≠ i2 → s.heap.get? c = some o → h'.get? c = some o) → (∃ o, h'.get? e = some o ∧ o.cls = .type "StopIteration") → E (.ref e) { s with heap := h' }) :
    wpAny (model prog w) A (Builtin.«zip.__next__» ⟨[.ref z], []⟩) Q E s := by
  show wpAny _ _ (field (.ref z) 2 >>= _) _ _ _
  refine wpAny_bind (wpAny_field hz rfl (x := .bool st) rfl ?_)
  have est : (Value.bool st == Value.bool true) = st := by cases st <;> rfl
  rw [est]
  show wpAny _ _ (field (.ref z) 3 >>= _) _ _ _
  refine wpAny_bind (wpAny_field hz rfl (x := .ref TI) rfl ?_)
  refine wpAny_bind (wpAny_seqItems hi rfl ?_)
  show wpAny _ _ (Builtin.SmallTypes.ownedTupleIsFree (.ref z) >>= _) _ _ _
  refine wpAny_bind (ow_used hz hT fun g1 z1 b1 => ?_)
  have up : ∀ {c d : Addr} {p q : Heap}, Heap.SameBut d p q → c ≠ d → ∀ o, p.get? c = some o → q.get? c = some o := fun sb n o e => sb.extBut _ _ n e
  have w1 := I1.keep s1 (up b1 D.i1z) (up b1 D.l1z)
  have u1 := I2.keep s2 (up b1 D.i2z) (up b1 D.l2z)
  simp only [Bool.false_eq_true, if_false]
  simp only [List.forIn_toArray, List.forIn_cons, List.forIn_nil]
  refine wpAny_bind (wpAny_bind (wpAny_bind (wpAny_holding ?_)))
  cases st with
  | false =>
    show wpAny _ _ (nextOf (.ref i1) >>= _) _ _ _
    cases hx : xs[k]? with
    | none =>
      refine wpAny_bind (I1.stop hh w1 hx fun g2 e b2 he => ?_)
      exact hE g2 e (fun c o c1 _ c3 _ x => b2 _ _ c3 (up b1 c1 _ x)) he
    | some x =>
      have hy : ys[k]? = none := by rcases he with h | h; rw [hx] at h; cases h; exact h
      refine wpAny_bind (I1.item w1 hx fun g2 t2 b2 => wpAny_pure ?_)
      refine wpAny_pure (wpAny_bind (wpAny_bind (wpAny_holding ?_)))
      show wpAny _ _ (nextOf (.ref i2) >>= _) _ _ _
      have u2 := I2.keep u1 (up b2 D.i12.symm) (up b2 D.l2i1)
      refine wpAny_bind (I2.stop hh u2 hy fun g4 e b4 he => ?_)
      exact hE g4 e (fun c o c1 c2 c3 c4 x => b4 _ _ c4 (up b2 c3 _ (up b1 c1 _ x))) he
  | true =>
    obtain ⟨hx, hy⟩ := hst rfl
    show wpAny _ _ (nextOrEnd (.ref i1)) _ _ _
    refine end_strict hh I1 w1 hx fun g2 b2 => ?_
    have u2 := I2.keep u1 (fun o e => b2 _ _ D.i12.symm e) (fun o e => b2 _ _ D.l2i1 e)
    refine wpAny_bind ?_
    show wpAny _ _ (forIn [(Value.ref i2, 1)] PUnit.unit _ >>= _) _ _ _
    rw [List.forIn_cons]
    refine wpAny_bind (wpAny_bind ?_)
    show wpAny _ _ (nextOrEnd (.ref i2) >>= _) _ _ _
    refine wpAny_bind (end_strict hh I2 u2 hy fun g4 b4 => ?_)
    rw [if_neg (by decide)]
    refine wpAny_pure ?_
    show wpAny _ _ (forIn [] PUnit.unit _) _ _ _
    rw [List.forIn_nil]
    refine wpAny_pure (wpAny_bind (wpAny_rule ?_))
    exact stop_iter hh fun h' e kp he => hE h' e (fun c o c1 c2 c3 c4 x => kp _ _ (b4 _ _ c4 (b2 _ _ c3 (up b1 c1 _ x)))) he
end
end Q3
/-! Q6c2: zip walked by one name: its turn. -/
namespace Q3
open PySem PySem.Spec PyProof.Rows L2
abbrev Kept (f0 : Value) : Prop := f0 = .none ∨ ∃ T : Addr, f0 = rawInt T
section
variable {prog : Program} {w : World} {A : Around} {E : Value → Shared → Prop} {s : Shared} {it l i1 i2 l1 l2 z TI TO T : Addr} {xs ys : Array Value} {St St1 St2 : Nat → Heap → Prop} {k : Nat} {x y a b : Value} {f1 st : Bool} {f0 : Value}
theorem kept_cases (h : Heap) (hf : Kept f0) : (f0 = .none ∨ ∃ T : Addr, f0 = rawInt T ∧ h.get? T = none) ∨ ∃ (T : Addr) (o : Obj), f0 = rawInt T ∧ h.get? T = some o := by
  rcases hf with rfl | ⟨T, rfl⟩
  · exact .inl (.inl rfl)
  · cases e : h.get? T with
    | none => exact .inl (.inr ⟨T, rfl, e⟩)
    | some o => exact .inr ⟨T, o, rfl, e⟩
theorem nextP_item {Q : Option Value → Shared → Prop} (D : ZipApart z TI TO i1 i2 l1 l2) (I1 : ItrOk prog w i1 l1 xs St1) (I2 : ItrOk prog w i2 l2 ys St2) (hz : ZipP s.heap z TI TO f0 f1 st) (hf : Kept f0) (hi : IsPair s.heap TI (.ref i1) (.ref i2)) (ho : ∃ a b, IsPair s.heap TO a b) (s1 : St1 k s.heap) (s2 : St2 k s.heap) (hx : xs[k]? = some x) (hy : ys[k]? = some y)
    (hQ : ∀ h' g0 g1, ZipP h' z TI TO g0 g1 st → Kept g0 → (∃ a b, IsPair h' TO a b) → St1 (k + 1) h' → St2 (k + 1) h' → IsPair h' s.heap.objs.size x y → h'.objs.size = s.heap.objs.size + 1 →
      (∀ c o, c ≠ z → c ≠ TO → c ≠ i1 → c ≠ i2 → s.heap.get? c = some o → h'.get? c = some o) → Q (some (.ref s.heap.objs.size)) { s with heap := h' }) :
    wpAny (model prog w) A (pyNext (.ref z)) Q E s := by
  have hT : s.TypeIs (.ref z) "zip" := ⟨_, hz, rfl⟩
  unfold pyNext
  refine wpAny_bind (wpAny_attempt (wpAny_callSpecial?_slot (name := Str.ofString "__next__") hT PySem.F.slot_zip_next
    (wpAny_call_entry PySem.F.slot_zip_next hT PySem.F.entry_zip_next ?_ (PySem.F.args_zip_next_1 _))))
  rcases kept_cases s.heap hf with hf | ⟨T, o, rfl, e⟩
  · exact zipP_free D I1 I2 hz hf hi ho s1 s2 hx hy fun h' a1 a2 a3 a4 a5 a6 a7 => wpAny_pure (hQ h' _ _ a1 (.inr ⟨_, rfl⟩) ⟨_, _, a2⟩ a3 a4 a5 a6 a7)
  · obtain ⟨a, b, ho⟩ := ho
    exact zipP_used D I1 I2 hz e hi s1 s2 hx hy fun h' a1 a3 a4 a5 a6 a7 => wpAny_pure (hQ h' _ _ a1 (.inr ⟨_, rfl⟩) ⟨a, b, a7 _ _ D.TOz D.TOi1 D.TOi2 ho⟩ a3 a4 a5 a6 fun c o c1 _ c3 c4 q => a7 c o c1 c3 c4 q)
theorem nextP_end {Q : Option Value → Shared → Prop} (hh : A.handled = none) (D : ZipApart z TI TO i1 i2 l1 l2) (I1 : ItrOk prog w i1 l1 xs St1) (I2 : ItrOk prog w i2 l2 ys St2) (hz : ZipP s.heap z TI TO f0 f1 st) (hf : Kept f0) (hi : IsPair s.heap TI (.ref i1) (.ref i2)) (ho : ∃ a b, IsPair s.heap TO a b) (s1 : St1 k s.heap) (s2 : St2 k s.heap) (he : xs[k]? = none ∨ ys[k]? = none) (hst : st = true → xs[k]? = none ∧ ys[k]? = none)
    (hQ : ∀ h', (∀ c o, c ≠ z → c ≠ TO → c ≠ i1 → c ≠ i2 → s.heap.get? c = some o → h'.get? c = some o) → Q none { s with heap := h' }) : wpAny (model prog w) A (pyNext (.ref z)) Q E s := by
  have hT : s.TypeIs (.ref z) "zip" := ⟨_, hz, rfl⟩
  unfold pyNext
  refine wpAny_bind (wpAny_attempt (wpAny_callSpecial?_slot (name := Str.ofString "__next__") hT PySem.F.slot_zip_next
    (wpAny_call_entry PySem.F.slot_zip_next hT PySem.F.entry_zip_next ?_ (PySem.F.args_zip_next_1 _))))
  rcases kept_cases s.heap hf with hf | ⟨T, o, rfl, e⟩
  · refine zipP_endF hh D I1 I2 hz hf hi ho s1 s2 he hst fun h' e hk he' => ?_
    obtain ⟨o, ho, hc⟩ := he'
    refine wpAny_bind (wpAny_isInstance (T := "StopIteration") (b := true) ⟨o, ho, hc⟩ isSubtype_stop ?_)
    exact wpAny_pure (hQ _ hk)
  · refine zipP_endU hh D I1 I2 hz e hi s1 s2 he hst fun h' e hk he' => ?_
    obtain ⟨o, ho, hc⟩ := he'
    refine wpAny_bind (wpAny_isInstance (T := "StopIteration") (b := true) ⟨o, ho, hc⟩ isSubtype_stop ?_)
    exact wpAny_pure (hQ _ hk)
end
variable [TabSet]
structure ZtP (b1 b2 st : Bool) (a b z TI TO i1 i2 : Addr) (i : Nat) (h : Heap) : Prop where
  hz : ∃ f0 f1, ZipP h z TI TO f0 f1 st ∧ Kept f0
  hi : IsPair h TI (.ref i1) (.ref i2)
  ho : ∃ x y, IsPair h TO x y
  h1 : ItA b1 i1 a i h
  h2 : ItA b2 i2 b i h
theorem letGo_name {P : Program} {w : World} {A : Around} {E : Value → Shared → Prop} {s : Shared} {x : Str} {tpos : Pos} {v u : Value} {Q : Unit → Shared → Prop} (h : Q () s) : wpAny (model P w) A (letOwnedTupleGo (.Name x tpos) v u) Q E s := by
  unfold letOwnedTupleGo
  exact wpAny_pure h
theorem pyIter_zipP {prog : Program} {w : World} {A : Around} {E : Value → Shared → Prop} {s : Shared} {z TI TO : Addr} {f0 : Value} {f1 st : Bool} {Q : Value → Shared → Prop} (hz : ZipP s.heap z TI TO f0 f1 st) (h : Q (.ref z) s) : wpAny (model prog w) A (pyIter (.ref z)) Q E s := by
  have hT : s.TypeIs (.ref z) "zip" := ⟨_, hz, rfl⟩
  refine wpAny_pyIter_slot hT PySem.F.slot_zip_iter (wpAny_call_entry PySem.F.slot_zip_iter hT PySem.F.entry_zip_iter ?_ (PySem.F.args_zip_iter_1 _))
  show wpAny _ _ (ret (.ref z)) _ _ s
  exact wpAny_pure ⟨_, rfl, "zip", _, hT, PySem.F.slot_zip_next.lookup, h⟩
theorem turn_zipP {P : Program} {w : World} {K : PySem.W.Frag} {tx : Str} {tpos : Pos} {b1 b2 st : Bool} {a b z TI TO i1 i2 : Addr} (D : ZipApart z TI TO i1 i2 a b) :
    Turn P w K (.Name tx tpos) (ItzN K b1 b2 a b st) [z, TI, TO, i1, i2] z (ZtP b1 b2 st a b z TI TO i1 i2) where
  mem := by simp
  obj := fun i h st c hc => by
    obtain ⟨⟨f0, f1, hz, hf0⟩, hTI, ⟨x, y, hTO⟩, h1, h2⟩ := st
    have e' : c = z ∨ c = TI ∨ c = TO ∨ c = i1 ∨ c = i2 := by simpa using hc
    rcases e' with rfl | rfl | rfl | rfl | rfl
    · exact ⟨_, hz, fun v q => nomatch q⟩
    · exact ⟨_, hTI, fun v q => nomatch q⟩
    · exact ⟨_, hTO, fun v q => nomatch q⟩
    · exact h1.obj
    · exact h2.obj
  keep := fun i h h' st k => by
    obtain ⟨⟨f0, f1, hz, hf0⟩, hTI, ⟨x, y, hTO⟩, h1, h2⟩ := st
    exact ⟨⟨f0, f1, k z (by simp) _ hz, hf0⟩, k TI (by simp) _ hTI, ⟨x, y, k TO (by simp) _ hTO⟩, h1.at fun o q => k i1 (by simp) o q, h2.at fun o q => k i2 (by simp) o q⟩
  item := by
    intro X hP hw hK hc i pins s σ H E I hf st' hg
    subst hP hw hK
    obtain ⟨⟨f0, f1, hz, hf0⟩, hTI, ho, h1, h2⟩ := st'
    obtain ⟨xs, ys, x, y, hqx, hqy, hx, hy⟩ := hg
    obtain ⟨its, rv, p⟩ := sqA_src I hqx
    obtain ⟨its2, rv2, p2⟩ := sqA_src I hqy
    obtain ⟨u, hu, ru⟩ := rv.get hx
    obtain ⟨u2, hu2, ru2⟩ := rv2.get hy
    have hzl : z < s.heap.objs.size := Heap.lt_size hz
    refine nextP_item D (itr_any b1 D.l1i1) (itr_any b2 D.l2i2) hz hf0 hTI ho (.of h1 p) (.of h2 p2) (x := u) (y := u2) (by simpa using hu) (by simpa using hu2) fun h'' g0 g1' z'' hk0 TO' g1 g2 hT2 hsz hk => ?_
    refine ⟨_, rfl, letGo_name ?_⟩
    have new : ObjOk X.prog X.w (upd H s.heap.objs.size (.tup [x, y])) h'' s.heap.objs.size (.tup [x, y]) :=
      ⟨by show 2 ≤ sizeLine; decide, [u, u2], .cons ru (.cons ru2 .nil), ⟨_, hT2, rfl, _, rfl⟩⟩
    have I1 : Inv X pins σ (upd H s.heap.objs.size (.tup [x, y])) { s with heap := h'' } :=
      I.turnedNew (t' := s.toks) (ch := [z, TI, TO, i1, i2]) (fun c o hb q => hk c o (fun q' => hb (by simp [q'])) (fun q' => hb (by simp [q'])) (fun q' => hb (by simp [q'])) (fun q' => hb (by simp [q'])) q) hf (Nat.le_refl _) new
    refine ⟨.ref s.heap.objs.size, _, I1, rfl, ⟨_, x, y, rfl, I.hok.fresh (Nat.le_refl _), rfl, fun l hl => by rw [sqA_inj I hl hqx]; exact hx, fun l hl => by rw [sqA_inj I hl hqy]; exact hy⟩, ⟨⟨g0, g1', z'', hk0⟩, hk _ _ D.TIz D.TITO D.TIi1 D.TIi2 hTI, TO', g1.it, g2.it⟩, fun c hcm => ?_⟩
    · have hlt : c < s.heap.objs.size := by
        have e' : c = z ∨ c = TI ∨ c = TO ∨ c = i1 ∨ c = i2 := by simpa using hcm
        rcases e' with q | q | q | q | q
        · rw [q]; exact hzl
        · rw [q]; exact Heap.lt_size hTI
        · obtain ⟨_, _, hTO⟩ := ho
          rw [q]; exact Heap.lt_size hTO
        · rw [q]; obtain ⟨_, e1, _⟩ := h1.obj; exact Heap.lt_size e1
        · rw [q]; obtain ⟨_, e2, _⟩ := h2.obj; exact Heap.lt_size e2
      rw [upd_ne (Nat.ne_of_lt hlt)]
      exact (hf c hcm).1
  done := by
    intro X hP hw hK hc i pins s σ H E I hf st' hg
    subst hP hw hK
    obtain ⟨⟨f0, f1, hz, hf0⟩, hTI, ho, h1, h2⟩ := st'
    obtain ⟨xs, ys, hqx, hqy, hend, hst⟩ := hg
    obtain ⟨its, rv, p⟩ := sqA_src I hqx
    obtain ⟨its2, rv2, p2⟩ := sqA_src I hqy
    have l1 := rv.length
    have l2 := rv2.length
    have n1 : xs.length ≤ i → its.toArray[i]? = none := fun q => by simp; omega
    have n2 : ys.length ≤ i → its2.toArray[i]? = none := fun q => by simp; omega
    exact nextP_end (I.ok.hd hc) D (itr_any b1 D.l1i1) (itr_any b2 D.l2i2) hz hf0 hTI ho (.of h1 p) (.of h2 p2) (hend.elim (fun q => .inl (n1 q)) fun q => .inr (n2 q)) (fun q => ⟨n1 (hst q).1, n2 (hst q).2⟩) fun h' hk => ⟨rfl, I.turnedL (t' := s.toks) (ch := [z, TI, TO, i1, i2]) (fun c o hb q =>
      hk c o (fun q' => hb (by simp [q'])) (fun q' => hb (by simp [q'])) (fun q' => hb (by simp [q'])) (fun q' => hb (by simp [q'])) q) hf⟩
  self := fun A i s Q E st h => by
    obtain ⟨f0, f1, hz, _⟩ := st.hz
    exact pyIter_zipP hz h
theorem pi_zipP {X : Cx} {e e2 : Expr} {ta : TA} {p pos tpos : Pos} {tx : Str} (hg : Gl X "zip") (hm : X.mg "zip" = none) (ha : PA X [e, e2] ta)
    (hs : starEach [e, e2] X.env = (false, eval e X.env) :: starEach [e2] X.env := by rfl) (hpl : (backTo pos (starEach [e2] X.env)).any (·.1) = false := by rfl) :
    PI X (.Name tx tpos) (.Call (.Name "zip" p) [e, e2] [] pos) (iZipN X.K ta) := by
  refine ⟨fun pins s σ H R I h => ?_⟩
  refine Call_ (ld_blt I hg hm PyProof.Rows.boot_zip (PyProof.Rows.callWith_type1 (thn (ha.run pos pins s σ H _ I h) fun us s1 ⟨vs, H1, I1, r1, q1⟩ => ?_) hs hpl))
  obtain ⟨b1, b2, a, b, xs, ys, ex, hqx, hqy, q⟩ := q1
  subst ex
  cases r1 with
  | cons r rr =>
    cases rr with
    | cons r' rr =>
      cases rr
      cases r
      cases r'
      have fresh5 : ∀ c, c ∈ [s1.heap.objs.size + 4, s1.heap.objs.size + 2, s1.heap.objs.size + 3, s1.heap.objs.size, s1.heap.objs.size + 1] → FpOk X pins H1 c := fun c hcm => by
        have hle : s1.heap.objs.size ≤ c := by
          simp only [List.mem_cons, List.not_mem_nil, or_false] at hcm
          omega
        exact I1.fpOk hle (I1.hok.fresh hle)
      obtain ⟨its, rv, p1⟩ := sqA_src I1 hqx
      obtain ⟨its2, rv2, p2⟩ := sqA_src I1 hqy
      refine call_zipN p1 p2 fun h' Z hsz hk => pyIter_zipN Z.hz ?_
      have I2 : Inv X pins σ H1 { s1 with heap := h' } := I1.kept (t' := s1.toks) hk
      exact ⟨s1.heap.objs.size + 4, [s1.heap.objs.size + 4, s1.heap.objs.size + 2, s1.heap.objs.size + 3, s1.heap.objs.size, s1.heap.objs.size + 1], _, _, H1, rfl, I2, turn_zipP (PySem.W.ktu_apart s1.heap.objs.size a b p1.lt p2.lt), ⟨⟨_, _, Z.hz, .inl rfl⟩, Z.hi, Z.ho, Z.s1.it, Z.s2.it⟩, fresh5, q⟩
end Q3
/-! Q6d2: zip walked by one name, by data. -/
namespace Q3
open PySem PySem.Spec PyProof.Rows L2
variable [TabSet]
theorem pi_zipPS {X : Cx} {e e2 : Expr} {ta : TA} {p pos tpos kp cp : Pos} {ck : Nat} {tx : Str} (hg : Gl X "zip") (hm : X.mg "zip" = none) (ha : PA X [e, e2] ta)
    (he : backTo pos (starEach [e, e2] X.env) = (false, eval e X.env) :: backTo pos (starEach [e2] X.env) := by rfl) (hpl : (backTo pos (starEach [e, e2] X.env)).any (·.1) = false := by rfl) :
    PI X (.Name tx tpos) (.Call (.Name "zip" p) [e, e2] [⟨some "strict", .Constant (.bool true) ck cp, kp⟩] pos) (iZipNS X.K ta) := by
  refine ⟨fun pins s σ H R I h => ?_⟩
  refine wpAny_Call_Name_kw (ld_blt I hg hm PyProof.Rows.boot_zip (callWith_type_kw (thn (ha.run pos pins s σ H _ I h) fun us s1 ⟨vs, H1, I1, r1, q1⟩ => ?_) he hpl))
  obtain ⟨b1, b2, a, b, xs, ys, ex, hqx, hqy, q⟩ := q1
  subst ex
  refine PyProof.Rows.kws_cons (PyProof.Rows.Constant_bool (PyProof.Rows.kws_nil ?_))
  cases r1 with
  | cons r rr =>
    cases rr with
    | cons r' rr =>
      cases rr
      cases r
      cases r'
      have fresh5 : ∀ c, c ∈ [s1.heap.objs.size + 4, s1.heap.objs.size + 2, s1.heap.objs.size + 3, s1.heap.objs.size, s1.heap.objs.size + 1] → FpOk X pins H1 c := fun c hcm => by
        have hle : s1.heap.objs.size ≤ c := by
          simp only [List.mem_cons, List.not_mem_nil, or_false] at hcm
          omega
        exact I1.fpOk hle (I1.hok.fresh hle)
      obtain ⟨its, rv, p1⟩ := sqA_src I1 hqx
      obtain ⟨its2, rv2, p2⟩ := sqA_src I1 hqy
      refine call_zipNS p1 p2 fun h' Z hsz hk => pyIter_zipN Z.hz ?_
      have I2 : Inv X pins σ H1 { s1 with heap := h' } := I1.kept (t' := s1.toks) hk
      exact ⟨s1.heap.objs.size + 4, [s1.heap.objs.size + 4, s1.heap.objs.size + 2, s1.heap.objs.size + 3, s1.heap.objs.size, s1.heap.objs.size + 1], _, _, H1, rfl, I2, turn_zipP (PySem.W.ktu_apart s1.heap.objs.size a b p1.lt p2.lt), ⟨⟨_, _, Z.hz, .inl rfl⟩, Z.hi, Z.ho, Z.s1.it, Z.s2.it⟩, fresh5, q⟩
section
variable {X : Cx} {W : WX} {a b c e : Expr} {fa fb fc : Sq → Out PV} {fs : Sq → Out (List PV)} {pos : Pos} {N : List Str} {sc : Scope} {k : Nat} {G : Gb}
theorem di_zipP {p tpos : Pos} {tx : Str} (hg : Gl X "zip") (hm : X.mg "zip" = none) (ha : DA X W [a, b] fs) (hs : starEach [a, b] X.env = (false, eval a X.env) :: starEach [b] X.env := by rfl) (hpl : (backTo pos (starEach [b] X.env)).any (·.1) = false := by rfl) :
    DI X W (.Name tx tpos) (.Call (.Name "zip" p) [a, b] [] pos) (zipS fs) := by
  refine ⟨fun pins s σ H R I h => (pi_zipP hg hm ha hs hpl).run pins s σ H R I ?_⟩
  obtain ⟨F0, H0, pa, F, S, A, z⟩ := h
  unfold zipS at z
  rw [OutP.bind] at z
  refine ⟨F0, H0, pa, F, S, A, z.imp (fun ps S1 z vs F1 H1 x1 A1 r1 => ?_) fun _ _ z => z⟩
  split at z
  · rename_i d e S2 q
    obtain ⟨F2, x2, A2, d2⟩ := A1.keepAll r1 q
    split at z
    · rename_i b1 xs b2 ys e1 e2
      cases d2 with
      | cons k1 k2 =>
        cases k2 with
        | cons k2 k3 =>
          cases k3
          obtain ⟨a1, vs1, rfl, g1, g2⟩ := seq_at k1 e1
          obtain ⟨a2, vs2, rfl, g3, g4⟩ := seq_at k2 e2
          exact ⟨b1, b2, a1, a2, vs1, vs2, rfl, g2 H1 A2.sub, g4 H1 A2.sub, z _ F2 H1 (x1.trans x2) A2 (yields_zipN g2 g4 g1 g3)⟩
    · exact z.elim
  · exact z.elim
theorem di_zipPT {p tpos kp cp : Pos} {ck : Nat} {tx : Str} (hg : Gl X "zip") (hm : X.mg "zip" = none) (ha : DA X W [a, b] fs) (he : backTo pos (starEach [a, b] X.env) = (false, eval a X.env) :: backTo pos (starEach [b] X.env) := by rfl) (hpl : (backTo pos (starEach [a, b] X.env)).any (·.1) = false := by rfl) :
    DI X W (.Name tx tpos) (.Call (.Name "zip" p) [a, b] [⟨some "strict", .Constant (.bool true) ck cp, kp⟩] pos) (zipT fs) := by
  refine ⟨fun pins s σ H R I h => (pi_zipPS hg hm ha he hpl).run pins s σ H R I ?_⟩
  obtain ⟨F0, H0, pa, F, S, A, z⟩ := h
  unfold zipT at z
  rw [OutP.bind] at z
  refine ⟨F0, H0, pa, F, S, A, z.imp (fun ps S1 z vs F1 H1 x1 A1 r1 => ?_) fun _ _ z => z⟩
  split at z
  · rename_i d e S2 q
    obtain ⟨F2, x2, A2, d2⟩ := A1.keepAll r1 q
    split at z
    · rename_i b1 xs b2 ys e1 e2
      split at z
      · rename_i hl
        cases d2 with
        | cons k1 k2 =>
          cases k2 with
          | cons k2 k3 =>
            cases k3
            obtain ⟨a1, vs1, rfl, g1, g2⟩ := seq_at k1 e1
            obtain ⟨a2, vs2, rfl, g3, g4⟩ := seq_at k2 e2
            exact ⟨b1, b2, a1, a2, vs1, vs2, rfl, g2 H1 A2.sub, g4 H1 A2.sub, z _ F2 H1 (x1.trans x2) A2 (yields_zipNS g2 g4 g1 g3 hl)⟩
      · exact z.elim
    · exact z.elim
  · exact z.elim
end
end Q3
/-! Q7a: None asked for in a dict of numbers; list(range(a, b)); xs.pop(i); dict(pairs). -/
namespace Q3
open PySem PySem.Spec PyProof.Rows L2
variable [TabSet]
section
variable {X : Cx} {W : WX} {a b c e : Expr} {fa fb fc : Sq → Out PV} {pos : Pos} {N : List Str} {sc : Scope} {k : Nat} {G : Gb} {i : Nat} {x : Str}
/-! ### None in d -/
/-- a dict of whole numbers and texts, with one at least -/
def plainK (kvs : List (D × D)) : Bool := kvs.all fun e => decide (kmode e.1 = 1)
def gInN (neg : Bool) : D → D → Option PV
  | .none, .dict kvs => if plainK kvs = true then some (.v (.bool neg)) else none
  | d, e => gInM neg d e
theorem plainK_int {kvs : List (D × D)} (h : plainK kvs = true) : ∀ p ∈ kvs, ∃ i, p.1 = .int i := fun p m => kmode1 (of_decide_eq_true (List.all_eq_true.mp h p m))
def rInN (K : PySem.W.Frag) (neg : Bool) : R2 := fun x y H Q => ∃ (F : Hp) (a : Addr) (ho : HO) (kvs : List (D × D)), x = .non ∧ y = .ref a ∧ H a = some ho ∧ DctA K F a ho kvs ∧ plainK kvs = true ∧ Q (.bl neg) H
theorem op_inN (hu : X.A.units + 65 < cLine) : OpR X (compareOp .In) (fun x y H Q => (rInQ X.K false x y H Q ∨ rInM X.K false x y H Q) ∨ rInN X.K false x y H Q) := by
  intro pins s σ H x y v u Q I rx ry h
  rcases h with h | ⟨F, a, ho, kvs, rfl, rfl, h1, m, pk, q⟩
  · exact op_inM hu pins s σ H x y v u Q I rx ry h
  · cases rx
    cases ry
    obtain ⟨ks, xs, ns, _, dd, _, _⟩ := m.kit I h1 (.inl (plainK_int pk))
    obtain ⟨f, hm, hf⟩ := none_map dd
    refine wpAny_in_of (show (noneKind X.prog X.w).is none .none = true from rfl) ns hm ?_
    rw [hf]
    exact ⟨.bl _, H, I.tok _, rfl, q⟩
theorem op_notInN (hu : X.A.units + 65 < cLine) : OpR X (compareOp .NotIn) (fun x y H Q => (rInQ X.K true x y H Q ∨ rInM X.K true x y H Q) ∨ rInN X.K true x y H Q) := by
  intro pins s σ H x y v u Q I rx ry h
  rcases h with h | ⟨F, a, ho, kvs, rfl, rfl, h1, m, pk, q⟩
  · exact op_notInM hu pins s σ H x y v u Q I rx ry h
  · cases rx
    cases ry
    obtain ⟨ks, xs, ns, _, dd, _, _⟩ := m.kit I h1 (.inl (plainK_int pk))
    obtain ⟨f, hm, hf⟩ := none_map dd
    refine wpAny_notIn_of (show (noneKind X.prog X.w).is none .none = true from rfl) ns hm ?_
    rw [hf]
    exact ⟨.bl _, H, I.tok _, rfl, q⟩
theorem Dv.none {K : PySem.W.Frag} {F H : Hp} {v : V} (h : Dv K F H v .none) : v = .non := by
  rcases h with h | ⟨a, vs, xs, rfl, e, _⟩ | ⟨a, ho, kvs, rfl, e, _⟩
  · cases h; rfl
  · cases e
  · cases e
theorem does_inN {K : PySem.W.Frag} (neg : Bool) : Does2 K (fun x y H Q => (rInQ K neg x y H Q ∨ rInM K neg x y H Q) ∨ rInN K neg x y H Q) (gInN neg) := by
  intro F H x y d e z Q sub hx hy hg h
  unfold gInN at hg
  split at hg
  · split at hg
    · rename_i hk
      cases hg
      obtain ⟨a, ho, rfl, h1, h2⟩ := hy.dict sub
      exact .inr ⟨F, a, ho, _, hx.none, rfl, h1, h2, hk, h _ _ (Gv.bl _)⟩
    · cases hg
  · exact .inl (does_inM neg F H x y _ _ z Q sub hx hy hg h)
theorem de_inN (C : Cq G k N sc X) (ha : DE X W a fa) (hb : DE X W b fb) (hm : behindInMarks .In b = false := by rfl) : DE X W (.Compare a [.In] [b] pos) (fBin (gInN false) fa fb) := de_cmp (op_inN (by have := C.hd.un; omega)) (does_inN false) ha hb hm
theorem de_notInN (C : Cq G k N sc X) (ha : DE X W a fa) (hb : DE X W b fb) (hm : behindInMarks .NotIn b = false := by rfl) : DE X W (.Compare a [.NotIn] [b] pos) (fBin (gInN true) fa fb) := de_cmp (op_notInN (by have := C.hd.un; omega)) (does_inN true) ha hb hm
theorem dt_inN (C : Cq G k N sc X) (ha : DE X W a fa) (hb : DE X W b fb) (hm : behindInMarks .In b = false := by rfl) : DT X W (.Compare a [.In] [b] pos) (fB (fBin (gInN false) fa fb)) := dt_cmp (op_inN (by have := C.hd.un; omega)) (does_inN false) ha hb hm
theorem dt_notInN (C : Cq G k N sc X) (ha : DE X W a fa) (hb : DE X W b fb) (hm : behindInMarks .NotIn b = false := by rfl) : DT X W (.Compare a [.NotIn] [b] pos) (fB (fBin (gInN true) fa fb)) := dt_cmp (op_notInN (by have := C.hd.un; omega)) (does_inN true) ha hb hm
/-! ### dict(pairs) -/
def pairsD : List D → Option (List (D × D))
  | [] => some []
  | .tuple [k, v] :: r => if kmode k = 1 then (pairsD r).map ((k, v) :: ·) else none
  | _ :: _ => none
def putsM (kvs : List (D × D)) (more : List (D × D)) : List (D × D) := more.foldl (fun l e => putM l e.1 e.2) kvs
def gDictP : D → Option PV
  | .list ds => (pairsD ds).map fun kvs => .o (.m (putsM [] kvs))
  | _ => none
def toEs (es : List (Key × V)) : List (D × V × V) := es.map fun e => (kD e.1, kV e.1, e.2)
def IntK (es : List (Key × V)) : Prop := ∀ e ∈ es, ∃ i, e.1 = .inl i
def rDictP (K : PySem.W.Frag) : List V → Hp → VK → Prop := fun xs H Q => ∃ (a : Addr) (ps : List Addr) (kvs : List (Key × V)), xs = [.ref a] ∧ SqL K H a (ps.map V.ref) ∧ Paired (fun p kv => SqT K H p [kV kv.1, kv.2]) ps kvs ∧ IntK (mergeK [] kvs) ∧ ∀ p ep, H p = none → Q (.ref p) (upd H p (dctE (toEs (mergeK [] kvs)) ep p))
theorem kvE_kit {P : Program} {w : World} : ∀ {es : List (Key × V)} {vs : List (Key × Value)} {ents : List DictEntry}, IntK es → KV es vs → Pairs (mixKind P w) ents vs → (∀ n ∈ ents, ∃ k, (mixKind P w).is k n.key = true ∧ n.hash = (mixKind P w).hash k) → Paired kvE (toEs es) ents
  | _, _, _, _, .nil, p, _ => by cases p; exact .nil
  | e :: es, x :: _, _, t, .cons h g, p, ks => by
    cases p with
    | @cons n _ _ _ p1 p2 p3 =>
      obtain ⟨i, hi⟩ := t e List.mem_cons_self
      refine .cons (a := (kD e.1, kV e.1, e.2)) ⟨?_, ?_, ?_⟩ (kvE_kit (fun e m => t e (List.mem_cons_of_mem _ m)) g p3 fun m hm => ks m (List.mem_cons_of_mem _ hm))
      · show RelV (kV e.1) n.key
        rw [h.1]
        exact relV_key (show keyIs x.1 n.key = true from p1)
      · show RelV e.2 n.val
        rw [p2]; exact h.2
      · obtain ⟨b, k1, k2⟩ := ks n List.mem_cons_self
        have := (mixKind P w).inj n.key b x.1 k1 p1
        subst this
        rw [k2, ← h.1, hi]; rfl
theorem call_dictPr {X : Cx} (hc : X.calm = true) : CallR X (.type "dict") (rDictP X.K) := by
  intro pins s σ H xs us Q I r h
  obtain ⟨a, ps, kvs, rfl, h1, h2, h3, q⟩ := h
  refine thn (call_dictP hc pins s σ H _ us (fun x H1 => ∃ p, x = .ref p ∧ H p = none ∧ H1 = upd H p (.dK (mergeK [] kvs))) I r ⟨a, ps, kvs, rfl, h1, h2, fun p hp => ⟨p, rfl, hp, rfl⟩⟩) fun u s1 ⟨x, H1, I1, rx, p, ex, hp, eH⟩ => ?_
  subst ex eH
  have e1 : upd H p (.dK (mergeK [] kvs)) p = some (.dK (mergeK [] kvs)) := upd_same
  obtain ⟨z, hd, vs, kv, o, es, ep, g1, g2, g3, g4, g5, g6⟩ := I1.hok _ _ e1
  have I2 := d_write (t' := s1.toks) (h' := s1.heap) (ob := dctE (toEs (mergeK [] kvs)) ep p) I1 (by rw [e1]; trivial) ⟨rfl, fun _ _ => rfl⟩ ⟨o, g1⟩ (dctE_new hd (by unfold toEs; rw [List.length_map]; exact z) ⟨o, es, ep, g1, g2, g3, kvE_kit (P := X.prog) (w := X.w) h3 kv g5 fun n hn => g4 n (by simpa using hn), rfl⟩)
  rw [upd_upd] at I2
  exact ⟨.ref p, _, I2, rx, q p ep hp⟩
theorem pairs_rel {K : PySem.W.Frag} {F H : Hp} (sub : Ex F H) : ∀ {ds : List D} {vs : List V} {kvs : List (D × D)}, DnAll K F vs ds → pairsD ds = some kvs →
    ∃ (ps : List Addr) (es : List (Key × V)), vs = ps.map V.ref ∧ Paired (fun p kv => SqT K H p [kV kv.1, kv.2]) ps es ∧ Paired (fun (p : D × D) (q : Key × V) => p.1 = kD q.1 ∧ Dn K F q.2 p.2) kvs es
  | [], _, kvs, h, e => by
    cases h
    cases e
    exact ⟨[], [], rfl, .nil, .nil⟩
  | d :: r, _, kvs, h, e => by
    cases h with
    | @cons v vs _ _ h1 h2 =>
      unfold pairsD at e
      split at e
      · rename_i he; cases he
      · rename_i kk w r' he
        cases he
        split at e
        · rename_i hm
          obtain ⟨kvs', e1, rfl⟩ := Option.map_eq_some_iff.mp e
          obtain ⟨ps, es, rfl, q1, q2⟩ := pairs_rel sub h2 e1
          obtain ⟨key, rfl⟩ : ∃ key : Key, kk = kD key := by obtain ⟨i, rfl⟩ := kmode1 hm; exact ⟨.inl i, rfl⟩
          cases h1 with
          | @tup a xs _ g1 g2 =>
            cases g2 with
            | @cons y _ _ _ y1 y2 =>
              cases y2 with
              | @cons u _ _ _ u1 u2 =>
                cases u2
                have ey := dn_kD y1
                subst ey
                exact ⟨a :: ps, (key, u) :: es, rfl, .cons (SqT.of (sub _ _ g1)) q1, .cons ⟨rfl, u1⟩ q2⟩
        · cases e
      · cases e
theorem merge_rel {K : PySem.W.Frag} {F : Hp} : ∀ {more : List (D × D)} {ms : List (Key × V)} {kvs : List (D × D)} {es : List (Key × V)}, Paired (fun (p : D × D) (q : Key × V) => p.1 = kD q.1 ∧ Dn K F q.2 p.2) more ms → Paired (fun (p : D × D) (q : Key × V) => p.1 = kD q.1 ∧ Dn K F q.2 p.2) kvs es →
    Paired (fun (p : D × D) (q : Key × V) => p.1 = kD q.1 ∧ Dn K F q.2 p.2) (putsM kvs more) (mergeK es ms)
  | _, _, _, _, .nil, h => h
  | p :: more, q :: ms, kvs, es, .cons h t, g => by
    unfold putsM mergeK
    rw [List.foldl_cons, List.foldl_cons]
    refine merge_rel t ?_
    rw [h.1]
    exact putM_rel (R := fun d v => Dn K F v d) kD_inj q.1 h.2 g
theorem pairsD_int : ∀ {ds : List D} {kvs : List (D × D)}, pairsD ds = some kvs → ∀ p ∈ kvs, ∃ i, p.1 = .int i
  | [], kvs, e => by cases e; exact fun _ m => nomatch m
  | d :: r, kvs, e => by
    unfold pairsD at e
    split at e
    · rename_i he; cases he
    · rename_i kk w r' he
      cases he
      split at e
      · rename_i hm
        obtain ⟨kvs', e1, rfl⟩ := Option.map_eq_some_iff.mp e
        intro p m
        rcases List.mem_cons.mp m with rfl | m
        · exact kmode1 hm
        · exact pairsD_int e1 p m
      · cases e
    · cases e
theorem puts_mem : ∀ {more : List (D × D)} {kvs : List (D × D)} {p : D × D}, p ∈ putsM kvs more → (∃ q ∈ kvs, p.1 = q.1) ∨ ∃ q ∈ more, p.1 = q.1
  | [], kvs, p, h => .inl ⟨p, h, rfl⟩
  | e :: more, kvs, p, h => by
    unfold putsM at h
    rw [List.foldl_cons] at h
    rcases puts_mem (more := more) h with ⟨q, hq, e1⟩ | ⟨q, hq, e1⟩
    · rcases mem_putM hq with z | ⟨p', hp', z⟩
      · exact .inr ⟨e, List.mem_cons_self, e1.trans z⟩
      · exact .inl ⟨p', hp', e1.trans z⟩
    · exact .inr ⟨q, List.mem_cons_of_mem _ hq, e1⟩
theorem puts_nodup : ∀ {more : List (D × D)} {kvs : List (D × D)}, (kvs.map (·.1)).Nodup → ((putsM kvs more).map (·.1)).Nodup
  | [], _, h => h
  | e :: more, kvs, h => by
    unfold putsM
    rw [List.foldl_cons]
    exact puts_nodup (more := more) (nodup_putM h)
theorem toEs_pair {K : PySem.W.Frag} {F : Hp} : ∀ {kvs : List (D × D)} {es : List (Key × V)}, Paired (fun (p : D × D) (q : Key × V) => p.1 = kD q.1 ∧ Dn K F q.2 p.2) kvs es → kvs.map (·.1) = (toEs es).map (·.1) ∧ DnAll K F ((toEs es).map (·.2.1)) (kvs.map (·.1)) ∧ DnAll K F ((toEs es).map (·.2.2)) (kvs.map (·.2))
  | _, _, .nil => ⟨rfl, .nil, .nil⟩
  | p :: _, e :: es, .cons h t => by
    obtain ⟨h1, h2, h3⟩ := toEs_pair t
    have dk : Dn K F (kV e.1) (kD e.1) := by
      cases e.1 with
      | inl i => exact .int i
      | inr x => exact .str x
    unfold toEs at *
    refine ⟨?_, ?_, .cons h.2 h3⟩
    · rw [List.map_cons, List.map_cons, List.map_cons, h1, h.1]
    · rw [List.map_cons, List.map_cons, List.map_cons, h.1]
      exact .cons dk h2
theorem does_dictP {K : PySem.W.Frag} : Does1 K (rDictP K) gDictP := by
  intro F H x d z Q sub hx hg h
  cases d <;> simp only [gDictP] at hg <;> try (cases hg; done)
  obtain ⟨kvs, e1, rfl⟩ := Option.map_eq_some_iff.mp hg
  obtain ⟨a, vs, rfl, h1, h2⟩ := hx.list sub
  obtain ⟨ps, es, rfl, q1, q2⟩ := pairs_rel sub h2 e1
  have mr := merge_rel q2 .nil
  have ik : ∀ p ∈ putsM [] kvs, ∃ i, p.1 = .int i := fun p m => by
    rcases puts_mem m with ⟨q, hq, _⟩ | ⟨q, hq, e⟩
    · cases hq
    · obtain ⟨i, hi⟩ := pairsD_int e1 q hq
      exact ⟨i, e.trans hi⟩
  have ik2 : IntK (mergeK [] es) := by
    have all : ∀ {kvs : List (D × D)} {es : List (Key × V)}, Paired (fun (p : D × D) (q : Key × V) => p.1 = kD q.1 ∧ Dn K F q.2 p.2) kvs es → (∀ p ∈ kvs, ∃ i, p.1 = .int i) → IntK es := by
      intro kvs es h
      induction h with
      | nil => intro _ e m; cases m
      | @cons p e _ _ h _ ih =>
        intro t q m
        rcases List.mem_cons.mp m with rfl | m
        · obtain ⟨x, hx⟩ := t p List.mem_cons_self
          have z := h.1
          rw [hx] at z
          cases hq : q.1 with
          | inr i => rw [hq] at z; cases z
          | inl y => exact ⟨y, rfl⟩
        · exact ih (fun p m => t p (List.mem_cons_of_mem _ m)) q m
    exact all mr ik
  refine ⟨a, ps, es, rfl, SqL.of h1, q1, ik2, fun p ep hp => h _ _ (.dct hp ?_)⟩
  obtain ⟨z1, z2, z3⟩ := toEs_pair mr
  refine .inr ⟨_, _, rfl, z1, ⟨puts_nodup List.nodup_nil, .inl fun x hx => ?_⟩, z2, z3⟩
  obtain ⟨p, hp, rfl⟩ := List.mem_map.mp hx
  exact ik p hp
/-! ### list(range(a, b)) -/
def fLRng (fa fb : Sq → Out PV) : Sq → Out PV := fun S => (fzF fa S).bind fun p S1 => (fzF fb S1).bind fun q S2 => match S2.val p, S2.val q with
  | some (.int i), some (.int j) => if 0 ≤ i ∧ j ≤ 16777216 ∧ i ≤ 16777216 ∧ 0 ≤ j then .ok (.o (.l ((List.range (j - i).toNat).map fun n => .int (i + (n : Nat))))) S2 else .no
  | _, _ => .no
theorem dn_rg {K : PySem.W.Frag} {F : Hp} (i j : Int) : DnAll K F (rgV i j) ((List.range (j - i).toNat).map fun n => .int (i + (n : Nat))) := by
  unfold rgV
  have e : ∀ l : List Nat, DnAll K F (l.map fun n => V.int (i + (n : Nat))) (l.map fun n => .int (i + (n : Nat))) := fun l => by
    induction l with
    | nil => exact .nil
    | cons a l ih => exact .cons (.int _) ih
  exact e _
theorem de_lrng {p p2 pos2 : Pos} (C : Cq G k N sc X) (hl : sc.names.lookup ("list" : Str) = some .globalImplicit) (ml : G.mg ("list" : Str) = none) (hr : sc.names.lookup ("range" : Str) = some .globalImplicit) (mr : G.mg ("range" : Str) = none) (ha : DE X W a fa) (hb : DE X W b fb)
    (na : starEach [a, b] X.env = (false, eval a X.env) :: starEach [b] X.env := by rfl) (nb : starEach [b] X.env = (false, eval b X.env) :: starEach [] X.env := by rfl) (hp : (backTo pos2 (starEach [b] X.env)).any (·.1) = false := by rfl)
    (nl : starEach [Expr.Call (.Name "range" p2) [a, b] [] pos2] X.env = (false, eval (.Call (.Name "range" p2) [a, b] [] pos2) X.env) :: starEach [] X.env := by rfl) :
    DE X W (.Call (.Name "list" p) [.Call (.Name "range" p2) [a, b] [] pos2] [] pos) (fLRng fa fb) := by
  refine PE.weak (pe_listRg C.calm (glC C hl) (mgC C ml) (prg_2 (glC C hr) (mgC C mr) (de_fz ha) (de_fz hb) na nb hp) nl) fun σ H Q z => ?_
  obtain ⟨F0, H0, pa, F, S, A, z⟩ := z
  unfold fLRng fzF at z
  rw [OutP.bind, OutP.bind] at z
  refine ⟨F0, H0, pa, F, S, A, ?_⟩
  unfold fzF
  rw [OutP.bind]
  refine z.imp (fun p S1 z v F1 H1 x1 A1 r1 => ⟨F0, H0, pa, F1, S1, A1, ?_⟩) fun _ _ z => z
  have z : OutP (((fb S1).bind fun q S2 => .ok (fz q) S2).bind fun q S2 => match S2.val (fz p), S2.val q with
    | some (.int i), some (.int j) => if 0 ≤ i ∧ j ≤ 16777216 ∧ i ≤ 16777216 ∧ 0 ≤ j then Out.ok (PV.o (.l ((List.range (j - i).toNat).map fun n => .int (i + (n : Nat))))) S2 else .no
    | _, _ => .no) (TP X.K F0 H0 pa σ F Q) (EW X.K W F0 H0 pa σ) := z
  rw [OutP.bind, OutP.bind] at z
  rw [OutP.bind]
  refine z.imp (fun q S2 z w F2 H2 x2 A2 r2 => ?_) fun _ _ z => z
  have z : OutP (match S2.val (fz p), S2.val (fz q) with
    | some (.int i), some (.int j) => if 0 ≤ i ∧ j ≤ 16777216 ∧ i ≤ 16777216 ∧ 0 ≤ j then Out.ok (PV.o (.l ((List.range (j - i).toNat).map fun n => .int (i + (n : Nat))))) S2 else .no
    | _, _ => .no) (TP X.K F0 H0 pa σ F Q) (EW X.K W F0 H0 pa σ) := z
  split at z
  · rename_i i j e1 e2
    split at z
    · rename_i hz
      refine ⟨i, j, (A2.val (r1.fz_keep x2) e1).int, (A2.val r2 e2).int, RgOk.of_le hz.1 hz.2.1 hz.2.2.1 hz.2.2.2, fun l hl => ?_⟩
      obtain ⟨F', xF, A', r'⟩ := A2.gives (.lst hl (dn_rg i j))
      exact z _ F' _ (x1.trans (x2.trans xF)) A' r'
    · exact z.elim
  · exact z.elim
/-! ### xs.pop(i), xs.pop(), xs a slot's own list -/
def fPopAt (i : Nat) (fa : Sq → Out PV) : Sq → Out PV := fun S => if isL S i = true then (fzF fa S).bind fun p S1 => (match S1.val p, S1.r[i]? with
  | some (.int n), some (.l xs) => if 0 ≤ n ∧ n < xs.length ∧ n < 2 ^ 62 then (match xs[n.toNat]? with
    | some d => .ok (.v d) { S1 with r := S1.r.set i (.l (xs.eraseIdx n.toNat)) }
    | none => .no) else .no
  | _, _ => .no) else .no
theorem DnAll.erase {K : PySem.W.Frag} {H : Hp} : ∀ {ds : List D} {vs : List V} (i : Nat), DnAll K H vs ds → DnAll K H (vs.eraseIdx i) (ds.eraseIdx i)
  | [], _, _, h => by cases h; exact .nil
  | _ :: _, _, 0, h => by
    cases h with
    | cons _ h2 => exact h2
  | _ :: _, _, i + 1, h => by
    cases h with
    | cons h1 h2 => exact .cons h1 (h2.erase i)
theorem DnAll.dropLast {K : PySem.W.Frag} {H : Hp} : ∀ {ds : List D} {vs : List V}, DnAll K H vs ds → DnAll K H vs.dropLast ds.dropLast
  | [], _, h => by cases h; exact .nil
  | [_], _, h => by
    cases h with
    | cons _ h2 => cases h2; exact .nil
  | _ :: _ :: _, _, h => by
    cases h with
    | cons h1 h2 =>
      cases h2 with
      | cons h3 h4 =>
        have := DnAll.dropLast (.cons h3 h4)
        exact .cons h1 this
theorem de_popAt (i : Nat) {p apos : Pos} (C : Cq G k N sc X) (he : DE X W e fa) (hi : N[i]? = some x := by rfl) (hv : sc.names.lookup x = some .local ∨ sc.names.lookup x = some .cell ∨ sc.names.lookup x = some .free := by first | exact Or.inl rfl | exact Or.inr (Or.inl rfl) | exact Or.inr (Or.inr rfl))
    (hbase : attributeBase (.Name x p) "pop" X.env (eval (.Name x p) X.env) = eval (.Name x p) X.env := by rfl)
    (hfew : ((backTo pos (starEach [e] X.env)).all (fun x => !x.1) && (backToKw pos (keywordEach [] X.env)).all (fun x => x.1.isSome)
      && decide ([e].length + ([] : List Keyword).length + (if ([] : List Keyword).isEmpty then 0 else 1) < 30)) = true := by rfl)
    (hline : (apos.endLine == pos.line) = true := by rfl) (hst : starEach [e] X.env = (false, eval e X.env) :: starEach [] X.env := by rfl) (hplain : (backTo pos (starEach [] X.env)).any (·.1) = false := by rfl)
    (hd : (x == ("__debug__" : Str)) = false := by decide) (hcd : (x == ("__classdict__" : Str)) = false := by decide) :
    DE X W (.Call (.Attribute (.Name x p) "pop" apos) [e] [] pos) (fPopAt i fa) := by
  refine PE.weak (pe_bm PySem.F.plainAttrs_list PySem.F.slot_list_pop PySem.F.type_list_pop mt_popAt (pe_var (i := i) (by rw [C.names]; exact hi) (by show Vis X.env.scope x; rw [C.scope]; exact hv) hd hcd) (pa_cons (de_fz he) pa_nil hst) hbase hfew hline hst hplain) fun σ H Q z => ?_
  obtain ⟨F0, H0, pa, F, S, A, z⟩ := z
  unfold fPopAt at z
  split at z
  · rename_i h0
    obtain ⟨xs0, h0⟩ := isL_iff h0
    obtain ⟨a, vs0, e1, e2, e3, e4⟩ := A.slots i _ h0
    rw [OutP.bind] at z
    refine ⟨.ref a, e1, .inl ⟨rfl, vs0, SqL.of e2⟩, F0, H0, pa, F, S, A, z.imp (fun q S1 z v F1 H1 x1 A1 r1 => ?_) fun _ _ z => z⟩
    split at z
    · rename_i n xs q1 q2
      split at z
      · rename_i hn
        split at z
        · rename_i d q3
          obtain ⟨a', vs, p1, p2, p3, p4⟩ := A1.slots i _ q2
          rw [e1] at p1; cases p1
          obtain ⟨w, w1, w2⟩ := p4.get q3
          have hl := p4.length
          refine ⟨a, vs, n, n.toNat, w, rfl, by rw [(A1.val r1 q1).int], p2, by omega, by omega, PySem.seqIndex_of hn.1 (by omega), w1, ?_⟩
          exact z w F1 _ x1 (A1.write q2 e1 (p4.erase n.toNat)) w2
        · exact z.elim
      · exact z.elim
    · exact z.elim
  · exact z.elim
def fPop0 (i : Nat) : Sq → Out PV := fun S => match S.r[i]? with
  | some (.l xs) => (match xs[xs.length - 1]? with
    | some d => .ok (.v d) { S with r := S.r.set i (.l xs.dropLast) }
    | none => .no)
  | _ => .no
theorem de_pop0 (i : Nat) {p apos : Pos} (C : Cq G k N sc X) (hi : N[i]? = some x := by rfl) (hv : sc.names.lookup x = some .local ∨ sc.names.lookup x = some .cell ∨ sc.names.lookup x = some .free := by first | exact Or.inl rfl | exact Or.inr (Or.inl rfl) | exact Or.inr (Or.inr rfl))
    (hbase : attributeBase (.Name x p) "pop" X.env (eval (.Name x p) X.env) = eval (.Name x p) X.env := by rfl)
    (hline : (apos.endLine == pos.line) = true := by rfl)
    (hd : (x == ("__debug__" : Str)) = false := by decide) (hcd : (x == ("__classdict__" : Str)) = false := by decide) :
    DE X W (.Call (.Attribute (.Name x p) "pop" apos) [] [] pos) (fPop0 i) := by
  refine PE.weak (pe_bm0 PySem.F.plainAttrs_list PySem.F.slot_list_pop PySem.F.type_list_pop mt_pop (pe_var (i := i) (by rw [C.names]; exact hi) (by show Vis X.env.scope x; rw [C.scope]; exact hv) hd hcd) hbase hline) fun σ H Q z => ?_
  obtain ⟨F0, H0, pa, F, S, A, z⟩ := z
  unfold fPop0 at z
  split at z
  · rename_i xs q2
    split at z
    · rename_i d q3
      obtain ⟨a, vs, p1, p2, p3, p4⟩ := A.slots i _ q2
      obtain ⟨w, w1, w2⟩ := p4.get q3
      have hl := p4.length
      refine ⟨.ref a, p1, .inl ⟨rfl, vs, SqL.of p2⟩, a, vs, w, rfl, rfl, p2, by rw [hl]; exact w1, ?_⟩
      exact z w F _ (Ex.refl F) (A.write q2 p1 p4.dropLast) w2
    · exact z.elim
  · exact z.elim
end
end Q3
/-! Q7b: enumerate of a text. -/
namespace Q3
open PySem PySem.Spec PyProof.Rows L2
variable [TabSet]
def IteS (z : Str) : It :=
  ⟨fun i _ => i < z.cps.size, fun i H v H' => ∃ T c, v = .ref T ∧ H T = none ∧ H' = upd H T (.tup [.int (i : Nat), .str ⟨#[c]⟩]) ∧ z.cps[i]? = some c, fun i _ => z.cps.size ≤ i⟩
theorem nextOf_text_end {prog : Program} {w : World} {A : Around} {E : Value → Shared → Prop} {s : Shared} {it : Addr} {x : Str} {t : Tok} {i : Nat} {Q : Value → Shared → Prop} (hh : A.handled = none)
    (hit : s.heap.IsStrIter it (strIterType x) x t i) (hx : x.cps[i]? = none)
    (hE : ∀ h' e, Heap.ExtBut it s.heap h' → (∃ o, h'.get? e = some o ∧ o.cls = .type "StopIteration") → E (.ref e) { s with heap := h' }) :
    wpAny (model prog w) A (Builtin.SmallTypes.nextOf (.ref it)) Q E s := by
  cases ha : x.cps.all (· < 128)
  · exact wpAny_nextOf_wide_end hh (by simpa [strIterType, ha] using hit) hx hE
  · exact wpAny_nextOf_ascii_end hh (by simpa [strIterType, ha] using hit) hx hE
theorem turn_enumS {P : Program} {w : World} {K : PySem.W.Frag} {elts : List Expr} {kk : Nat} {tpos : Pos} (z : Str) (t : Tok) (e it : Addr) :
    Turn P w K (.Tuple elts kk tpos) (IteS z) [e, it] e (fun i h => (∃ old, IsEnum h e it ((i : Nat) : Int) old) ∧ h.IsStrIter it (strIterType z) z t i ∧ e ≠ it) where
  mem := by simp
  obj := fun i h st b hb => by
    obtain ⟨⟨old, he⟩, ⟨o, ho, hc, hd⟩, _⟩ := st
    have e' : b = e ∨ b = it := by simpa using hb
    rcases e' with z | z
    · rw [z]; exact ⟨_, he, fun v q => nomatch q⟩
    · rw [z]; exact ⟨o, ho, fun v q => by rw [hd] at q; cases q⟩
  keep := fun i h h' st k => let ⟨⟨old, he⟩, ⟨o, ho, r⟩, hne⟩ := st; ⟨⟨old, k e (by simp) _ he⟩, ⟨o, k it (by simp) _ ho, r⟩, hne⟩
  item := by
    intro X hP hw hK hc i pins s σ H E I hf st hg
    subst hP hw hK
    obtain ⟨⟨old, he⟩, hit, hne⟩ := st
    have hg : i < z.cps.size := hg
    have hel : e < s.heap.objs.size := Heap.lt_size he
    have hil : it < s.heap.objs.size := by obtain ⟨_, q, _⟩ := hit; exact Heap.lt_size q
    refine wpAny_pyNext_enum_itemD (Draws.text (A := X.A.in1) (by exact I.ok.hd hc) it z t) he hit hg hne (by simpa using hne) fun y h' tk hy ho hst' hT hsz hk => ?_
    obtain ⟨c, u, hcz, rfl⟩ := hy
    refine ⟨_, rfl, wpAny_letOwnedTupleGo_enum (s := { s with heap := h', toks := tk + 1 }) ho fun h'' he' sb => ?_⟩
    have hT2 : h''.get? s.heap.objs.size = some { cls := .type "tuple", data := .seq #[.int i tk, .str ⟨#[c]⟩ u] } := (sb.2 _ (Nat.ne_of_gt hel)).trans hT
    have new : ObjOk X.prog X.w (upd H s.heap.objs.size (.tup [.int (i : Nat), .str ⟨#[c]⟩])) h'' s.heap.objs.size (.tup [.int (i : Nat), .str ⟨#[c]⟩]) :=
      ⟨by show 2 ≤ sizeLine; decide, [.int i tk, .str ⟨#[c]⟩ u], .cons ⟨_, rfl⟩ (.cons ⟨_, rfl⟩ .nil), ⟨_, hT2, rfl, _, rfl⟩⟩
    have I1 : Inv X pins σ (upd H s.heap.objs.size (.tup [.int (i : Nat), .str ⟨#[c]⟩])) { s with heap := h'', toks := tk + 1 } :=
      I.turnedNew (ch := [e, it]) (fun b ob hb q => (sb.2 b (fun z => hb (by simp [z]))).trans (hk b ob (fun z => hb (by simp [z])) (fun z => hb (by simp [z])) q)) hf (Nat.le_refl _) new
    refine ⟨.ref s.heap.objs.size, _, I1, rfl, ⟨_, c, rfl, I.hok.fresh (Nat.le_refl _), rfl, hcz⟩, ⟨⟨.str ⟨#[c]⟩ u, ?_⟩, hst'.imp fun o q => ⟨(sb.2 it (Ne.symm hne)).trans q.1, q.2⟩, hne⟩, fun b hb => ?_⟩
    · have e1 : ((i + 1 : Nat) : Int) = (i : Int) + 1 := by omega
      rw [e1]; exact he'
    · have hb' : b < s.heap.objs.size := by
        have e' : b = e ∨ b = it := by simpa using hb
        rcases e' with z | z
        · rw [z]; exact hel
        · rw [z]; exact hil
      rw [upd_ne (Nat.ne_of_lt hb')]
      exact (hf b hb).1
  done := by
    intro X hP hw hK hc i pins s σ H E I hf st hg
    subst hP hw hK
    obtain ⟨⟨old, he⟩, hit, hne⟩ := st
    have hg : z.cps.size ≤ i := hg
    obtain ⟨f0, f1, f2, f3, f4, f5⟩ := hf it (by simp)
    have hT : s.TypeIs (.ref e) "enumerate" := ⟨_, he, rfl⟩
    unfold pyNext
    refine wpAny_bind (wpAny_attempt (wpAny_callSpecial?_slot (name := Str.ofString "__next__") hT F.slot_enumerate_next
      (wpAny_call_entry F.slot_enumerate_next hT F.entry_enumerate_next ?_ (F.args_enumerate_next_1 _))))
    show wpAny _ _ (field (.ref e) 2 >>= _) _ _ _
    refine wpAny_bind (wpAny_field he rfl (x := .ref it) rfl ?_)
    have hn : z.cps[i]? = none := Array.getElem?_eq_none hg
    refine wpAny_bind (nextOf_text_end (by exact I.ok.hd hc) hit hn fun h' x he' hx' => ?_)
    obtain ⟨o, ho, hc'⟩ := hx'
    refine wpAny_bind (wpAny_isInstance (T := "StopIteration") (b := true) ⟨o, ho, hc'⟩ isSubtype_stop ?_)
    exact wpAny_pure ⟨rfl, I.turned (t' := s.toks) (fun b o hb q => he' b o hb q) f0 f1 f3 f4 f5⟩
  self := fun A i s Q E st h => let ⟨⟨_, he⟩, _⟩ := st; wpAny_pyIter_enum he h
def iEnumS (ta : TA) : TI := fun σ H R => ta σ H fun vs H1 => ∃ z, vs = [.str z] ∧ R (IteS z) H1
theorem pi_enumS {X : Cx} {e : Expr} {ta : TA} {p pos tpos : Pos} {elts : List Expr} {kk : Nat} (hg : Gl X "enumerate") (hm : X.mg "enumerate" = none) (ha : PA X [e] ta) (hs : starEach [e] X.env = [(false, eval e X.env)] := by rfl) :
    PI X (.Tuple elts kk tpos) (.Call (.Name "enumerate" p) [e] [] pos) (iEnumS ta) := by
  refine ⟨fun pins s σ H R I h => ?_⟩
  refine Call_ (ld_blt I hg hm boot_enumerate (PyProof.Rows.callWith_type1 (thn (ha.run pos pins s σ H _ I h) fun us s1 ⟨vs, H1, I1, r1, q1⟩ => ?_) hs rfl))
  obtain ⟨z, ex, q⟩ := q1
  subst ex
  cases r1 with
  | cons r rr =>
    cases rr
    obtain ⟨t, rfl⟩ := r
    refine PySem.call_enumerate_str (x := z) (t := t) fun h' he hit hsz hk => wpAny_pyIter_enum he ?_
    have I2 : Inv X pins σ H1 { s1 with heap := h' } := I1.kept (t' := s1.toks) hk
    refine ⟨s1.heap.objs.size + 1, [s1.heap.objs.size + 1, s1.heap.objs.size], _, _, H1, rfl, I2, turn_enumS z t (s1.heap.objs.size + 1) s1.heap.objs.size, ⟨⟨.none, he⟩, hit, Nat.succ_ne_self _⟩, fun b hb => ?_, q⟩
    have e' : b = s1.heap.objs.size + 1 ∨ b = s1.heap.objs.size := by simpa using hb
    have hle : s1.heap.objs.size ≤ b := by
      rcases e' with z | z
      · rw [z]; exact Nat.le_add_right _ _
      · rw [z]; exact Nat.le_refl _
    exact I1.fpOk hle (I1.hok.fresh hle)
theorem yields_enumS {K : PySem.W.Frag} {F : Hp} {z : Str} : Yields K F (IteS z) (enumD 0 (z.cps.toList.map fun c => .str ⟨#[c]⟩)) where
  stop := fun H e => by rw [enumD_length, List.length_map]; exact Nat.le_of_eq (by simp)
  go := fun i H e hi => by
    rw [enumD_length, List.length_map] at hi
    show i < z.cps.size
    simpa using hi
  yld := fun i H x H' d e hd' y => by
    obtain ⟨T, c, rfl, hT, rfl, q⟩ := y
    rw [enumD_get] at hd'
    obtain ⟨d', e1, e2⟩ := Option.map_eq_some_iff.mp hd'
    rw [List.getElem?_map, Array.getElem?_toList, q] at e1
    cases e1
    subst e2
    rw [Nat.zero_add]
    exact .tup hT (.cons (.int _) (.cons (.str _) .nil))
section
variable {X : Cx} {W : WX} {a b c e tg : Expr} {fa fb fc : Sq → Out PV} {pos : Pos} {N : List Str} {sc : Scope} {k : Nat} {G : Gb}
/-- enumerate(text) -/
def enumZ (fa : Sq → Out PV) : Sq → Out (List D) := fun S => (fzF fa S).bind fun p S1 => match S1.val p with
  | some (.str z) => .ok (enumD 0 (z.cps.toList.map fun c => .str ⟨#[c]⟩)) S1
  | _ => .no
theorem di_enumZ {p : Pos} {elts : List Expr} {kk : Nat} {tpos : Pos} (hg : Gl X "enumerate") (hm : X.mg "enumerate" = none) (ha : DE X W a fa) (hs : starEach [a] X.env = [(false, eval a X.env)] := by rfl) (hst : starEach [a] X.env = (false, eval a X.env) :: starEach [] X.env := by rfl) :
    DI X W (.Tuple elts kk tpos) (.Call (.Name "enumerate" p) [a] [] pos) (enumZ fa) := by
  refine ⟨fun pins s σ H R I h => (pi_enumS hg hm (pa_cons (de_fz ha) pa_nil hst) hs).run pins s σ H R I ?_⟩
  obtain ⟨F0, H0, pa, F, S, A, z⟩ := h
  unfold enumZ at z
  rw [OutP.bind] at z
  refine ⟨F0, H0, pa, F, S, A, z.imp (fun p S1 z v F1 H1 x1 A1 r1 => ?_) fun _ _ z => z⟩
  split at z
  · rename_i x e1
    exact ⟨x, by rw [(A1.val r1 e1).str], z _ F1 H1 x1 A1 yields_enumS⟩
  · exact z.elim
end
end Q3
/-! Q7c: the place of a number in a list; how often a text is in a text. -/
namespace Q3
open PySem PySem.Spec PyProof.Rows L2
variable [TabSet]
section
variable {X : Cx} {W : WX} {a b c e o : Expr} {fa fb fc : Sq → Out PV} {pos : Pos}
def gNIndex : D → D → Option PV
  | .list xs, .int i => (match intsOf xs with
    | some ns => (match ns.findIdx? (· == i) with
      | some j => some (.v (.int (j : Nat)))
      | none => none)
    | none => none)
  | _, _ => none
theorem flat_ints : ∀ ns : List Int, (ns.map V.int).all flatV = true
  | [] => rfl
  | _ :: r => flat_ints r
theorem does_nindex {K : PySem.W.Frag} : DoesM K (rIndex K) gNIndex := by
  intro F H x y d e z Q sub hx hy hg h
  cases d <;> cases e <;> simp only [gNIndex] at hg <;> try (cases hg; done)
  split at hg
  · rename_i ns q
    split at hg
    · rename_i j qj
      cases hg
      obtain ⟨l, vs, rfl, h1, h2⟩ := hx.list sub
      rw [intsOf_eq q] at h2
      have ev := h2.ints
      subst ev
      rw [hy.int]
      obtain ⟨hj, pj, pn⟩ := List.findIdx?_eq_some_iff_getElem.mp qj
      refine ⟨l, ns.map V.int, _, j, .int ns[j], rfl, rfl, SqL.of h1, rfl, flat_ints ns, by rw [List.getElem?_map, List.getElem?_eq_getElem hj]; rfl, pj, fun m z' hm hz => ?_, h _ _ (Gv.int _)⟩
      rw [List.getElem?_map] at hz
      obtain ⟨b', e1, e2⟩ := Option.map_eq_some_iff.mp hz
      subst e2
      obtain ⟨hm', e3⟩ := List.getElem?_eq_some_iff.mp e1
      have := pn m hm
      rw [e3] at this
      show (b' == _) = false
      simpa using this
    · cases hg
  · cases hg
theorem de_nindex {apos : Pos} (ho : DE X W o fa) (he : DE X W e fb)
    (hbase : attributeBase o "index" X.env (eval o X.env) = eval o X.env := by rfl)
    (hfew : ((backTo pos (starEach [e] X.env)).all (fun x => !x.1) && (backToKw pos (keywordEach [] X.env)).all (fun x => x.1.isSome)
      && decide ([e].length + ([] : List Keyword).length + (if ([] : List Keyword).isEmpty then 0 else 1) < 30)) = true := by rfl)
    (hline : (apos.endLine == pos.line) = true := by rfl) (hs : starEach [e] X.env = (false, eval e X.env) :: starEach [] X.env := by rfl) (hplain : (backTo pos (starEach [] X.env)).any (·.1) = false := by rfl) :
    DE X W (.Call (.Attribute o "index" apos) [e] [] pos) (fM1 "list" gNIndex fa fb) := de_m1 F.plainAttrs_list F.slot_list_index F.type_list_index mt_index does_nindex ho he hbase hfew hline hs hplain
def gSCount : D → D → Option PV
  | .str a, .str b => some (.v (.int (Txt.count a b)))
  | _, _ => none
theorem does_scount {K : PySem.W.Frag} : DoesM K (fun x xs H Q => ∃ a b, x = .str a ∧ xs = [.str b] ∧ Q (.int (Txt.count a b)) H) gSCount := by
  intro F H x y d e z Q sub hx hy hg h
  cases d <;> cases e <;> simp only [gSCount] at hg <;> try (cases hg; done)
  cases hg
  rw [hx.str, hy.str]
  exact ⟨_, _, rfl, rfl, h _ _ (Gv.int _)⟩
theorem de_scount {apos : Pos} (ho : DE X W o fa) (he : DE X W e fb)
    (hbase : attributeBase o "count" X.env (eval o X.env) = eval o X.env := by rfl)
    (hfew : ((backTo pos (starEach [e] X.env)).all (fun x => !x.1) && (backToKw pos (keywordEach [] X.env)).all (fun x => x.1.isSome)
      && decide ([e].length + ([] : List Keyword).length + (if ([] : List Keyword).isEmpty then 0 else 1) < 30)) = true := by rfl)
    (hline : (apos.endLine == pos.line) = true := by rfl) (hs : starEach [e] X.env = (false, eval e X.env) :: starEach [] X.env := by rfl) (hplain : (backTo pos (starEach [] X.env)).any (·.1) = false := by rfl) :
    DE X W (.Call (.Attribute o "count" apos) [e] [] pos) (fM1 "str" gSCount fa fb) := de_m1 F.plainAttrs_str F.slot_str_count F.type_str_count mt_count does_scount ho he hbase hfew hline hs hplain
end
@[simp] theorem nindex_l (xs : List D) (i : Int) : gNIndex (.list xs) (.int i) = (match intsOf xs with
    | some ns => (match ns.findIdx? (· == i) with
      | some j => some (.v (.int (j : Nat)))
      | none => none)
    | none => none) := rfl
@[simp] theorem scount_s (a b : Str) : gSCount (.str a) (.str b) = some (.v (.int (Txt.count a b))) := rfl
end Q3
/-! Q7d: a def with defaults, called with all its arguments given. -/
namespace Q3
open PySem PySem.Spec PyProof.Rows L2
variable [TabSet]
theorem has_ofA {G : Gb} {k n : Nat} {x : Str} {st : Stmt} {N ps : List Str} {g : Sq → Fl} {dvs : List V} (D : HasDd G.K G.mg x st dvs) (hd : dvs ≠ [])
    (hb : ∀ (T : Addr) (kV doc pm : Value) (an : Option Addr) (cdv ct : Value) (us its : List Value), us.length = ps.length → its.length = dvs.length →
      ∃ k, bindArgs (PySem.W.fnOf x x (defArgs st) (defBody st) (defScope st) (.ref T) kV doc pm an cdv ct) ⟨us, []⟩ = seqItems? (.ref T) >>= k ∧ k (some its.toArray) = pure (ps.zip us))
    (S : FnScope N ps (defScope st)) (hn : N.length = n) (h : ∀ X W, Cq G k N (defScope st) X → (∀ x, X.fn x = true) → Takes X W → DSs X W (defBody st) g) : Has G (k + 1) x ps (runB n g) := by
  obtain ⟨f, fd, F, mm⟩ := D
  obtain ⟨ds, v, B⟩ := F.binds1 (ps := ps) ps.length dvs.length hd (by omega) (fun T kV doc pm an cdv ct us its hu hi => by
    obtain ⟨k, e1, e2⟩ := hb T kV doc pm an cdv ct us its hu hi
    exact ⟨k, e1, by rw [← hi, List.drop_length, List.append_nil]; exact e2⟩)
  rw [List.drop_length] at v
  cases v
  exact ⟨f, fd, mm, F.kp, B, fnG F S hn fun X W C f t _ _ => h X W C f t⟩
end Q3
/-! Q7e: order of data that are alike; least and greatest of such; the sum of a tuple. -/
namespace Q3
open PySem PySem.Spec PyProof.Rows PySem.W L2
variable [TabSet]
section
variable {X : Cx} {W : WX} {a b c e : Expr} {fa fb fc : Sq → Out PV} {pos : Pos} {N : List Str} {sc : Scope} {k : Nat} {G : Gb}
def ndB : D → Bool
  | .none => false
  | _ => true
theorem ndB_ne {d : D} (h : ndB d = true) : d ≠ .none := fun e => by subst e; cases h
/-! ### < -/
def rLtD (K : PySem.W.Frag) : R2 := fun x y H Q => ∃ d e, Dn K H x d ∧ Dn K H y e ∧ PySem.W.alike d e = true ∧ d ≠ .none ∧ min d.depth e.depth ≤ 60 ∧ Q (.bl (PySem.W.dataLt d e)) H
theorem op_ltD (hu : X.A.units + 64 < cLine) : OpR X (compareOp .Lt) (rLtD X.K) := by
  intro pins s σ H x y v u Q I rx ry h
  obtain ⟨d, e, hd, he, al, hn, hm, q⟩ := h
  obtain ⟨as, r1⟩ := Dn.reads I d x v hd rx
  obtain ⟨bs, r2⟩ := Dn.reads I e y u he ry
  exact PySem.W.rcLt_alike d e X.A s v u as bs r1 r2 al hn (by omega) X.prog X.w _ _ ⟨.bl _, H, I, rfl, q⟩
def gLtD (d e : D) : Option PV := if PySem.W.alike d e = true ∧ ndB d = true ∧ min d.depth e.depth ≤ 60 then some (.v (.bool (PySem.W.dataLt d e))) else none
theorem does_ltD {K : PySem.W.Frag} : Does2 K (rLtD K) gLtD := by
  intro F H x y d e z Q sub hx hy hg h
  unfold gLtD at hg
  split at hg
  · rename_i c
    cases hg
    exact ⟨d, e, hx.dn sub, hy.dn sub, c.1, ndB_ne c.2.1, c.2.2, h _ _ (Gv.bl _)⟩
  · cases hg
theorem de_ltD (C : Cq G k N sc X) (ha : DE X W a fa) (hb : DE X W b fb) : DE X W (.Compare a [.Lt] [b] pos) (fBin gLtD fa fb) := de_cmp (op_ltD (by have := C.hd.un; omega)) does_ltD ha hb
theorem dt_ltD (C : Cq G k N sc X) (ha : DE X W a fa) (hb : DE X W b fb) : DT X W (.Compare a [.Lt] [b] pos) (fB (fBin gLtD fa fb)) := dt_cmp (op_ltD (by have := C.hd.un; omega)) does_ltD ha hb
/-! ### min, max -/
def alB (xs : List D) : Bool := (xs.all fun x => xs.all fun y => PySem.W.alike x y) && xs.all ndB
theorem alB_ok {xs : List D} (h : alB xs = true) : AlikeAll xs := by
  unfold alB at h
  rw [Bool.and_eq_true] at h
  exact ⟨fun x mx y my => List.all_eq_true.mp (List.all_eq_true.mp h.1 x mx) y my, fun x mx => ndB_ne (List.all_eq_true.mp h.2 x mx)⟩
theorem foldl_in {f : D → D → Bool} : ∀ (xs : List D) (x : D), xs.foldl (fun a y => if f a y = true then y else a) x ∈ x :: xs
  | [], x => List.mem_singleton.mpr rfl
  | y :: ys, x => by
    rw [List.foldl_cons]
    have := foldl_in (f := f) ys (if f x y = true then y else x)
    rcases List.mem_cons.mp this with e | m
    · rw [e]; split
      · exact List.mem_cons_of_mem _ List.mem_cons_self
      · exact List.mem_cons_self
    · exact List.mem_cons_of_mem _ (List.mem_cons_of_mem _ m)
theorem minD_in (x : D) (xs : List D) : minD x xs ∈ x :: xs := foldl_in (f := fun a y => PySem.W.dataLt y a) xs x
theorem maxD_in (x : D) (xs : List D) : maxD x xs ∈ x :: xs := foldl_in (f := fun a y => PySem.W.dataLt a y) xs x
def rMM (K : PySem.W.Frag) (m : D → List D → D) : List V → Hp → VK → Prop := fun vs H Q => ∃ (a : Addr) (xs : List V) (d : D) (ds : List D), vs = [.ref a] ∧ (H a = some (.lst xs) ∨ H a = some (.tup xs)) ∧ DnAll K H xs (d :: ds) ∧ AlikeAll (d :: ds) ∧ PyData.depthAll (d :: ds) ≤ 60 ∧ ∀ (i : Nat) (x : V), xs[i]? = some x → (d :: ds)[i]? = some (m d ds) → Q x H
theorem pick_in {pins : List (Addr × Obj)} {s : Shared} {σ : L2.St} {H : Hp} {xs : List V} {us : List Value} {ds : List D} {i : Nat} {v : Value} {d : D} {bs : List Addr} {h' : Heap} (I : Inv X pins σ H s) (ha : AlikeAll ds) (r : Vals xs us) (hd : DnAll X.K H xs ds) (hv : us[i]? = some v) (md : d ∈ ds)
    (rd : Reads h' v d bs) (hk : ∀ b o, s.heap.get? b = some o → h'.get? b = some o) : ∃ x, xs[i]? = some x ∧ RelV x v ∧ ds[i]? = some d := by
  have hi : i < us.length := (List.getElem?_eq_some_iff.mp hv).1
  have hx : i < xs.length := by rw [r.length]; exact hi
  obtain ⟨u, e1, e2⟩ := r.get (List.getElem?_eq_getElem hx)
  cases hv.symm.trans e1
  obtain ⟨d2, e3, e4⟩ := hd.getV (List.getElem?_eq_getElem hx)
  obtain ⟨as, r2⟩ := Dn.reads I d2 _ v e4 e2
  have : d2 = d := PySem.W.alike_unique d2 d v as bs (ha.1 d2 (List.mem_of_getElem? e3) d md) (PyProof.Rows.Reads.keeps hk r2) rd
  subst this
  exact ⟨_, List.getElem?_eq_getElem hx, e2, e3⟩
theorem cr_minD (hc : X.calm = true) (hu : X.A.units + 64 < cLine) : CallR X (.builtin "min") (rMM X.K minD) := by
  intro pins s σ H vs us Q I r h
  obtain ⟨a, xs, d, ds, rfl, hx, h2, ha, hdp, q⟩ := h
  rw [Vals.ref1 r]
  rcases hx with hx | hx
  · obtain ⟨its, rv, hl, _⟩ := I.list (SqL.of hx)
    obtain ⟨as, ra⟩ := DnAll.reads I _ _ its h2 rv
    refine min_list_data (I.ok.hd hc) hl.isList (by simpa using ra) ha (by omega) fun i v h' tk bs hv hr hk => ?_
    obtain ⟨x, e0, e1, e2⟩ := pick_in I ha rv h2 (by simpa using hv) (minD_in d ds) hr hk
    exact ⟨x, H, I.kept hk, e1, q i x e0 e2⟩
  · obtain ⟨its, rv, hl, _⟩ := I.tuple (SqT.of hx)
    obtain ⟨as, ra⟩ := DnAll.reads I _ _ its h2 rv
    refine min_tuple_data (I.ok.hd hc) hl (by simpa using ra) ha (by omega) fun i v h' tk bs hv hr hk => ?_
    obtain ⟨x, e0, e1, e2⟩ := pick_in I ha rv h2 (by simpa using hv) (minD_in d ds) hr hk
    exact ⟨x, H, I.kept hk, e1, q i x e0 e2⟩
theorem cr_maxDt (hc : X.calm = true) (hu : X.A.units + 64 < cLine) : CallR X (.builtin "max") (rMM X.K maxD) := by
  intro pins s σ H vs us Q I r h
  obtain ⟨a, xs, d, ds, rfl, hx, h2, ha, hdp, q⟩ := h
  rw [Vals.ref1 r]
  rcases hx with hx | hx
  · obtain ⟨its, rv, hl, _⟩ := I.list (SqL.of hx)
    obtain ⟨as, ra⟩ := DnAll.reads I _ _ its h2 rv
    refine max_list_data (I.ok.hd hc) hl.isList (by simpa using ra) ha (by omega) fun i v h' tk bs hv hr hk => ?_
    obtain ⟨x, e0, e1, e2⟩ := pick_in I ha rv h2 (by simpa using hv) (maxD_in d ds) hr hk
    exact ⟨x, H, I.kept hk, e1, q i x e0 e2⟩
  · obtain ⟨its, rv, hl, _⟩ := I.tuple (SqT.of hx)
    obtain ⟨as, ra⟩ := DnAll.reads I _ _ its h2 rv
    refine max_tuple_data (I.ok.hd hc) hl (by simpa using ra) ha (by omega) fun i v h' tk bs hv hr hk => ?_
    obtain ⟨x, e0, e1, e2⟩ := pick_in I ha rv h2 (by simpa using hv) (maxD_in d ds) hr hk
    exact ⟨x, H, I.kept hk, e1, q i x e0 e2⟩
def gMM (m : D → List D → D) : D → Option PV
  | .list (d :: ds) => if alB (d :: ds) = true ∧ PyData.depthAll (d :: ds) ≤ 60 then some (.v (m d ds)) else none
  | .tuple (d :: ds) => if alB (d :: ds) = true ∧ PyData.depthAll (d :: ds) ≤ 60 then some (.v (m d ds)) else none
  | _ => none
theorem does_MM {K : PySem.W.Frag} (m : D → List D → D) : Does1 K (rMM K m) (gMM m) := by
  intro F H x d z Q sub hx hg h
  unfold gMM at hg
  split at hg
  · rename_i d0 d ds
    split at hg
    · rename_i c
      cases hg
      obtain ⟨l, vs, rfl, h1, h2⟩ := hx.list sub
      refine ⟨l, vs, d, ds, rfl, .inl h1, h2.mono sub, alB_ok c.1, c.2, fun i x e1 e2 => ?_⟩
      obtain ⟨d2, e3, e4⟩ := h2.getV e1
      cases e2.symm.trans e3
      exact h _ _ (.dn e4)
    · cases hg
  · rename_i d0 d ds
    split at hg
    · rename_i c
      cases hg
      obtain ⟨l, vs, rfl, h1, h2⟩ := hx.tuple
      refine ⟨l, vs, d, ds, rfl, .inr (sub _ _ h1), h2.mono sub, alB_ok c.1, c.2, fun i x e1 e2 => ?_⟩
      obtain ⟨d2, e3, e4⟩ := h2.getV e1
      cases e2.symm.trans e3
      exact h _ _ (.dn e4)
    · cases hg
  · cases hg
/-! ### sum of a tuple -/
def rSumT (K : PySem.W.Frag) : List V → Hp → VK → Prop := fun vs H Q => ∃ (a : Addr) (ns : List Int), vs = [V.ref a] ∧ SqT K H a (ns.map V.int) ∧ Q (.int ns.sum) H
theorem cr_sumT (hc : X.calm = true) : CallR X (.builtin "sum") (rSumT X.K) := by
  intro pins s σ H vs us Q I r h
  obtain ⟨a, ns, rfl, hs, q⟩ := h
  obtain ⟨its, rv, hl, _⟩ := I.tuple hs
  rw [Vals.ref1 r]
  have hi : IntsAre its ns := rv.ints
  obtain ⟨xs, e⟩ := hi.allInts.items
  have hn : numsOf (intItems xs).toList = ns := by rw [← e]; exact hi.numsOf
  rw [nums_intItems] at hn
  rw [e] at hl
  refine PySem.W.ktm_sumG (I.ok.hd hc) hl fun h' tk t' hk => ?_
  refine ⟨.int ns.sum, H, I.kept hk, ⟨t', ?_⟩, q⟩
  rw [preSum_eq, List.take_of_length_le (by simp), hn]
def gSumT : D → Option PV
  | .tuple xs => (intsOf xs).map fun ns => .v (.int ns.sum)
  | _ => none
theorem does_sumT {K : PySem.W.Frag} : Does1 K (rSumT K) gSumT := by
  intro F H x d z Q sub hx hg h
  cases d <;> simp only [gSumT] at hg <;> try (cases hg; done)
  obtain ⟨ns, e1, e2⟩ := Option.map_eq_some_iff.mp hg
  cases e2
  cases hx.dn sub with
  | tup h1 h2 =>
    rw [intsOf_eq e1] at h2
    exact ⟨_, ns, rfl, SqT.of (by rw [h1, h2.ints]), h _ _ (Gv.int _)⟩
end
end Q3
/-! Q7g: lambdas in defs other than the law's own. -/
namespace Q3
open PySem PySem.Spec PyProof.Rows L2
variable [TabSet]
/-- a def within which lambdas are made: where its code's table is -/
def LamOk (G : Gb) (x : Str) (st : Stmt) : Prop := ∀ f fd, FunD G.K x x (defArgs st) (defBody st) (defScope st) [] [] f fd → G.mg x = some (.ref f) →
  ∃ c P, LamX.TabB G.base G.mg c P ∧ fd.code = .ref c ∧ (P, x ++ ".<locals>." ++ "<lambda>") ∈ TabSet.T ∧ ∀ p ∈ TabSet.T, p.1 = P → p.2 = x ++ ".<locals>." ++ "<lambda>"
theorem has_ofL {G : Gb} {k n : Nat} {x : Str} {st : Stmt} {N ps : List Str} {g : Sq → Fl} (D : HasD G.K G.mg x st) (LO : LamOk G x st)
    (hb : ∀ (kV doc pm : Value) (an : Option Addr) (cdv ct : Value) (us : List Value), us.length = ps.length → bindArgs (PySem.W.fnOf x x (defArgs st) (defBody st) (defScope st) .none kV doc pm an cdv ct) ⟨us, []⟩ = pure (ps.zip us))
    (S : FnScope N ps (defScope st)) (hn : N.length = n) (h : ∀ X W, Cq G k N (defScope st) X → (∀ x, X.fn x = true) → Takes X W → LamAt G X → DSs X W (defBody st) g) : Has G (k + 1) x ps (runB n g) := by
  obtain ⟨f, fd, F, m⟩ := D
  obtain ⟨c, P, l1, l2, l3, l4⟩ := LO f fd F m
  exact ⟨f, fd, m, F.kp, F.bindsN hb, fnG F S hn fun X W C f t q hc => h X W C f t ⟨c, P, l1, by rw [hc]; exact l2, by rw [q]; exact l3, by rw [q]; exact l4⟩⟩
end Q3
/-! Q6v: dicts, unpacking, three targets, defaults: step by step. -/
namespace Q3
open PySem PySem.Spec PyProof.Rows L2
@[simp] theorem ev_dct0 (S : Sq) : fDct0 S = .ok (.o (.m [])) S := rfl
@[simp] theorem inM_m (neg : Bool) (d : D) (kvs : List (D × D)) : gInM neg d (.dict kvs) = if keyOk kvs d = true then some (.v (.bool (if neg then !(getM kvs d).isSome else (getM kvs d).isSome))) else none := rfl
@[simp] theorem inM_l (neg : Bool) (d : D) (xs : List D) : gInM neg d (.list xs) = gIn neg d (.list xs) := rfl
@[simp] theorem inM_t (neg : Bool) (d : D) (xs : List D) : gInM neg d (.tuple xs) = gIn neg d (.tuple xs) := rfl
@[simp] theorem inM_s (neg : Bool) (d : D) (x : Str) : gInM neg d (.str x) = gIn neg d (.str x) := rfl
@[simp] theorem ixM_m (kvs : List (D × D)) (d : D) : gIxM (.dict kvs) d = if keyOk kvs d = true then (getM kvs d).map .v else none := rfl
@[simp] theorem ixM_l (xs : List D) (d : D) : gIxM (.list xs) d = gIx (.list xs) d := rfl
@[simp] theorem ixM_t (xs : List D) (d : D) : gIxM (.tuple xs) d = gIx (.tuple xs) d := rfl
@[simp] theorem ixM_s (x : Str) (d : D) : gIxM (.str x) d = gIx (.str x) d := rfl
@[simp] theorem lenM_m (kvs : List (D × D)) : gLenM (.dict kvs) = if kvs.length ≤ sizeLine then some (.v (.int kvs.length)) else none := rfl
@[simp] theorem lenM_l (xs : List D) : gLenM (.list xs) = gLen (.list xs) := rfl
@[simp] theorem lenM_t (xs : List D) : gLenM (.tuple xs) = gLen (.tuple xs) := rfl
@[simp] theorem lenM_s (x : Str) : gLenM (.str x) = gLen (.str x) := rfl
/-! a, b = e -/
def unp3 : Option Sq → Fl
  | some S => .nx S
  | none => .no
def unp2 (is : List Nat) : Option (D × Sq) → Fl
  | some (.tuple ds, S2) => unp3 (putAll S2 is ds)
  | _ => .no
def unp1 (is : List Nat) : Out PV → Fl
  | .ok p S1 => unp2 is (S1.keep (fz p))
  | .ex c S => .ex c S
  | .no => .no
@[simp] theorem ev_unp (is : List Nat) (fa : Sq → Out PV) (S : Sq) : unpF is fa S = unp1 is (fa S) := by
  unfold unpF fzF
  cases fa S with
  | no => rfl
  | ex c s => rfl
  | ok p S1 =>
    show (match S1.keep (fz p) with
      | some (.tuple ds, S2) => (match putAll S2 is ds with
        | some S3 => Fl.nx S3
        | none => .no)
      | _ => .no) = unp2 is (S1.keep (fz p))
    cases S1.keep (fz p) with
    | none => rfl
    | some q =>
      obtain ⟨d, S2⟩ := q
      cases d <;> first | rfl | (unfold unp2 unp3; dsimp only; cases putAll S2 is _ <;> rfl)
@[simp] theorem unp1_ok (is : List Nat) (p : PV) (S : Sq) : unp1 is (.ok p S) = unp2 is (S.keep (fz p)) := rfl
@[simp] theorem unp1_ex (is : List Nat) (c : Str) (S : Sq) : unp1 is (.ex c S) = .ex c S := rfl
@[simp] theorem unp2_t (is : List Nat) (ds : List D) (S : Sq) : unp2 is (some (.tuple ds, S)) = unp3 (putAll S is ds) := rfl
@[simp] theorem unp3_ok (S : Sq) : unp3 (some S) = .nx S := rfl
/-! three targets -/
@[simp] theorem evN_nil (S : Sq) : evN [] S = .ok [] S := rfl
def evN2 (p : PV) : Out (List PV) → Out (List PV)
  | .ok ps S2 => .ok (p :: ps) S2
  | .ex c S => .ex c S
  | .no => .no
def evN1 (fs : List (Sq → Out PV)) : Out PV → Out (List PV)
  | .ok p S1 => evN2 p (evN fs S1)
  | .ex c S => .ex c S
  | .no => .no
@[simp] theorem evN_cons (f : Sq → Out PV) (fs : List (Sq → Out PV)) (S : Sq) : evN (f :: fs) S = evN1 fs (f S) := by
  show (f S).bind _ = _
  cases f S with
  | no => rfl
  | ex c s => rfl
  | ok p S1 =>
    show (evN fs S1).bind _ = evN2 p (evN fs S1)
    cases evN fs S1 <;> rfl
@[simp] theorem evN1_ok (fs : List (Sq → Out PV)) (p : PV) (S : Sq) : evN1 fs (.ok p S) = evN2 p (evN fs S) := rfl
@[simp] theorem evN1_ex (fs : List (Sq → Out PV)) (c : Str) (S : Sq) : evN1 fs (.ex c S) = .ex c S := rfl
@[simp] theorem evN2_ok (p : PV) (ps : List PV) (S : Sq) : evN2 p (.ok ps S) = .ok (p :: ps) S := rfl
@[simp] theorem evN2_ex (p : PV) (c : Str) (S : Sq) : evN2 p (.ex c S) = .ex c S := rfl
def par3F1 (is : List Nat) : Out (List PV) → Fl
  | .ok ps S1 => par3F2 is (resN S1 ps)
  | .ex c S => .ex c S
  | .no => .no
@[simp] theorem ev_par3 (is : List Nat) (fs : List (Sq → Out PV)) (S : Sq) : par3F is fs S = par3F1 is (evN fs S) := by
  unfold par3F
  cases evN fs S <;> rfl
@[simp] theorem par3F1_ok (is : List Nat) (ps : List PV) (S : Sq) : par3F1 is (.ok ps S) = par3F2 is (resN S ps) := rfl
@[simp] theorem resN_nil (S : Sq) : resN S [] = some ([], S) := rfl
def resN2 (c : R) : Option (List R × Sq) → Option (List R × Sq)
  | some (cs, S2) => some (c :: cs, S2)
  | none => none
def resN1 (ps : List PV) : Option (R × Sq) → Option (List R × Sq)
  | some (c, S1) => resN2 c (resN S1 ps)
  | none => none
@[simp] theorem resN_step (S : Sq) (p : PV) (ps : List PV) : resN S (p :: ps) = resN1 ps (S.res p) := by
  show (match S.res p with
    | some (c, S1) => (match resN S1 ps with
      | some (cs, S2) => some (c :: cs, S2)
      | none => none)
    | none => none) = _
  cases S.res p with
  | none => rfl
  | some q =>
    obtain ⟨c, S1⟩ := q
    show (match resN S1 ps with
      | some (cs, S2) => some (c :: cs, S2)
      | none => none) = resN2 c (resN S1 ps)
    cases resN S1 ps <;> rfl
@[simp] theorem resN1_ok (ps : List PV) (c : R) (S : Sq) : resN1 ps (some (c, S)) = resN2 c (resN S ps) := rfl
@[simp] theorem resN2_ok (c : R) (cs : List R) (S : Sq) : resN2 c (some (cs, S)) = some (c :: cs, S) := rfl
@[simp] theorem par3F2_ok (is : List Nat) (cs : List R) (S : Sq) : par3F2 is (some (cs, S)) = if cs.length = is.length ∧ ∀ i ∈ is, i < S.r.length then .nx { S with r := setN S.r is cs } else .no := rfl
@[simp] theorem setN_nil (r : List R) (cs : List R) : setN r [] cs = r := by cases cs <;> rfl
@[simp] theorem setN_cons (r : List R) (i : Nat) (is : List Nat) (c : R) (cs : List R) : setN r (i :: is) (c :: cs) = setN (r.set i c) is cs := rfl
/-! d[k] = e -/
def setM4 (i : Nat) (n d : D) (S3 : Sq) : Option R → Fl
  | some (.l xs) => (match n with
    | .int n => (match ixN xs.length n with
      | some j => .nx { S3 with r := S3.r.set i (.l (xs.set j d)) }
      | none => .no)
    | _ => .no)
  | some (.m kvs) => if keyOk kvs n = true ∧ kvs.length < sizeLine then .nx { S3 with r := S3.r.set i (.m (putM kvs n d)) } else .no
  | _ => .no
def setM3 (i : Nat) : Option D → Option (D × Sq) → Fl
  | some n, some (d, S3) => setM4 i n d S3 S3.r[i]?
  | _, _ => .no
def setM2 (i : Nat) (p : PV) : Out PV → Fl
  | .ok q S2 => setM3 i (S2.val (fz q)) (S2.keep p)
  | .ex c S => .ex c S
  | .no => .no
def setM1 (i : Nat) (fb : Sq → Out PV) : Out PV → Fl
  | .ok p S1 => if isLM S1 i = true then setM2 i (fz p) (fb S1) else .no
  | .ex c S => .ex c S
  | .no => .no
@[simp] theorem ev_setM (i : Nat) (fa fb : Sq → Out PV) (S : Sq) : setFM i fa fb S = setM1 i fb (fa S) := by
  unfold setFM fzF
  cases fa S with
  | no => rfl
  | ex c s => rfl
  | ok p S1 =>
    show (if isLM S1 i = true then _ else Fl.no) = if isLM S1 i = true then setM2 i (fz p) (fb S1) else .no
    by_cases h : isLM S1 i = true
    · rw [if_pos h, if_pos h]
      cases fb S1 with
      | no => rfl
      | ex c s => rfl
      | ok q S2 =>
        show (match S2.val (fz q), S2.keep (fz p) with
          | some n, some (d, S3) => _
          | _, _ => Fl.no) = setM3 i (S2.val (fz q)) (S2.keep (fz p))
        cases S2.val (fz q) with
        | none => rfl
        | some n =>
          cases S2.keep (fz p) with
          | none => rfl
          | some t =>
            obtain ⟨d, S3⟩ := t
            show _ = setM4 i n d S3 S3.r[i]?
            unfold setM4
            rfl
    · rw [if_neg h, if_neg h]
@[simp] theorem setM1_ok (i : Nat) (fb : Sq → Out PV) (p : PV) (S : Sq) : setM1 i fb (.ok p S) = if isLM S i = true then setM2 i (fz p) (fb S) else .no := rfl
@[simp] theorem setM2_ok (i : Nat) (p q : PV) (S : Sq) : setM2 i p (.ok q S) = setM3 i (S.val (fz q)) (S.keep p) := rfl
@[simp] theorem setM3_ok (i : Nat) (n d : D) (S : Sq) : setM3 i (some n) (some (d, S)) = setM4 i n d S S.r[i]? := rfl
@[simp] theorem setM4_m (i : Nat) (n d : D) (S : Sq) (kvs : List (D × D)) : setM4 i n d S (some (.m kvs)) = if keyOk kvs n = true ∧ kvs.length < sizeLine then .nx { S with r := S.r.set i (.m (putM kvs n d)) } else .no := rfl
@[simp] theorem setM4_l (i : Nat) (n : Int) (d : D) (S : Sq) (xs : List D) : setM4 i (.int n) d S (some (.l xs)) = (match ixN xs.length n with
      | some j => .nx { S with r := S.r.set i (.l (xs.set j d)) }
      | none => .no) := rfl
/-! defaults left out -/
def callD2 (f : Fd) (dd : List R) : Option (List R × Sq) → Out PV
  | some (rs, S2) => call3 S2 (f (rs ++ dd) S2.p)
  | none => .no
def callD1 (f : Fd) (dd : List R) : Out (List PV) → Out PV
  | .ok ps S1 => callD2 f dd (argsK S1 ps)
  | .ex c S => .ex c S
  | .no => .no
@[simp] theorem ev_callD (f : Fd) (dd : List R) (fs : Sq → Out (List PV)) (S : Sq) : callFd f dd fs S = callD1 f dd (fs S) := by
  unfold callFd
  cases fs S with
  | no => rfl
  | ex c s => rfl
  | ok ps S1 =>
    show (match argsK S1 ps with
      | some (rs, S2) => _
      | none => Out.no) = callD2 f dd (argsK S1 ps)
    cases argsK S1 ps with
    | none => rfl
    | some q =>
      obtain ⟨rs, S2⟩ := q
      show (match f (rs ++ dd) S2.p with
        | .ok r S3 => _
        | .ex c S3 => _
        | .no => _) = call3 S2 (f (rs ++ dd) S2.p)
      cases f (rs ++ dd) S2.p with
      | no => rfl
      | ex c s => rfl
      | ok r S3 =>
        show _ = bin4 { S2 with p := S3.p } (toPV r)
        dsimp only
        cases toPV r <;> rfl
@[simp] theorem callD1_ok (f : Fd) (dd : List R) (ps : List PV) (S : Sq) : callD1 f dd (.ok ps S) = callD2 f dd (argsK S ps) := rfl
theorem callD2_ok (f : Fd) (dd : List R) (rs : List R) (S : Sq) : callD2 f dd (some (rs, S)) = call3 S (f (rs ++ dd) S.p) := rfl
@[simp] theorem callD2_z (f : Fd) (dd : List R) (rs : List R) (S : Sq) : callD2 f dd (some (rs, S)) = callZ S (rz (f (rs ++ dd) S.p)) := by rw [callD2_ok, call3_z]
/-! {k: v} -/
def disp3 (k : D) : Option (D × Sq) → Out PV
  | some (d, S3) => if keyOk ([] : List (D × D)) k = true then .ok (.o (.m [(k, d)])) S3 else .no
  | none => .no
def disp2 (k : D) : Out PV → Out PV
  | .ok q S2 => disp3 k (S2.keep (fz q))
  | .ex c S => .ex c S
  | .no => .no
def disp1 (fb : Sq → Out PV) : Option (D × Sq) → Out PV
  | some (k, S4) => disp2 k (fb S4)
  | none => .no
def disp0 (fb : Sq → Out PV) : Out PV → Out PV
  | .ok p S => disp1 fb (S.keep (fz p))
  | .ex c S => .ex c S
  | .no => .no
@[simp] theorem ev_disp (fa fb : Sq → Out PV) (S : Sq) : fDisp1 fa fb S = disp0 fb (fa S) := by
  unfold fDisp1 fzF
  cases fa S with
  | no => rfl
  | ex c s => rfl
  | ok p S1 =>
    show _ = disp1 fb (S1.keep (fz p))
    simp only [Out.bind_ok]
    cases S1.keep (fz p) with
    | none => rfl
    | some t =>
      obtain ⟨k, S4⟩ := t
      show _ = disp2 k (fb S4)
      dsimp only
      cases fb S4 with
      | no => rfl
      | ex c s => rfl
      | ok q S2 =>
        show _ = disp3 k (S2.keep (fz q))
        simp only [Out.bind_ok]
        cases S2.keep (fz q) with
        | none => rfl
        | some t => obtain ⟨d, S3⟩ := t; rfl
@[simp] theorem disp0_ok (fb : Sq → Out PV) (p : PV) (S : Sq) : disp0 fb (.ok p S) = disp1 fb (S.keep (fz p)) := rfl
@[simp] theorem disp1_ok (fb : Sq → Out PV) (k : D) (S : Sq) : disp1 fb (some (k, S)) = disp2 k (fb S) := rfl
@[simp] theorem disp2_ok (k : D) (q : PV) (S : Sq) : disp2 k (.ok q S) = disp3 k (S.keep (fz q)) := rfl
@[simp] theorem disp3_ok (k d : D) (S : Sq) : disp3 k (some (d, S)) = if keyOk ([] : List (D × D)) k = true then .ok (.o (.m [(k, d)])) S else .no := rfl
/-! two fors -/
def lc21 (t : Tg) (tt : Sq → Out Bool) (t1 : Tg) (fi1 : Sq → Out (List D)) (tt1 : Sq → Out Bool) (te : Sq → Out PV) (vs vs1 : List Nat) : Out (List D) → Out PV
  | .ok ds S => if plainAt S vs = true then lc3 S.r vs (lcF2 t tt fi1 t1 tt1 te vs vs1 ds { S with r := wipeR S.r vs } []) else .no
  | .ex c S => .ex c S
  | .no => .no
@[simp] theorem ev_lc2 (t : Tg) (fi : Sq → Out (List D)) (tt : Sq → Out Bool) (t1 : Tg) (fi1 : Sq → Out (List D)) (tt1 : Sq → Out Bool) (te : Sq → Out PV) (vs vs1 : List Nat) (S : Sq) : lcS2 t fi tt t1 fi1 tt1 te vs vs1 S = lc21 t tt t1 fi1 tt1 te vs vs1 (fi S) := by
  unfold lcS2
  cases fi S with
  | no => rfl
  | ex c S1 => rfl
  | ok ds S1 =>
    simp only [Out.bind_ok, lc21]
    split
    · cases lcF2 t tt fi1 t1 tt1 te vs vs1 ds { S1 with r := wipeR S1.r vs } [] <;> rfl
    · rfl
theorem lc21_ok (t : Tg) (tt : Sq → Out Bool) (t1 : Tg) (fi1 : Sq → Out (List D)) (tt1 : Sq → Out Bool) (te : Sq → Out PV) (vs vs1 : List Nat) (ds : List D) (S : Sq) : lc21 t tt t1 fi1 tt1 te vs vs1 (.ok ds S) = if plainAt S vs = true then lc3 S.r vs (lcF2 t tt fi1 t1 tt1 te vs vs1 ds { S with r := wipeR S.r vs } []) else .no := rfl
end Q3
/-! T1: numbers of keys, classes of states: plain. -/
namespace Q3
section
variable {α β : Type} [DecidableEq α] [DecidableEq β]
def nb1 (st : List α × List Nat) (k : α) : List α × List Nat :=
  let m := if k ∈ st.1 then st.1 else st.1 ++ [k]
  (m, st.2 ++ [m.idxOf k])
def nbS (ks : List α) : List α × List Nat := ks.foldl nb1 ([], [])
/-- the numbers of keys, in the order of first ones -/
def nb (ks : List α) : List Nat := (nbS ks).2
theorem nbS_snoc (ks : List α) (k : α) : nbS (ks ++ [k]) = nb1 (nbS ks) k := by
  unfold nbS
  rw [List.foldl_append]
  rfl
theorem snocI {γ : Type} {P : List γ → Prop} (h0 : P []) (h1 : ∀ l a, P l → P (l ++ [a])) (l : List γ) : P l := by
  rw [← List.reverse_reverse l]
  induction l.reverse with
  | nil => exact h0
  | cons a t ih => rw [List.reverse_cons]; exact h1 _ _ ih
theorem nb1_in {st : List α × List Nat} {k : α} (h : k ∈ st.1) : nb1 st k = (st.1, st.2 ++ [st.1.idxOf k]) := by
  unfold nb1; simp [h]
theorem nb1_new {st : List α × List Nat} {k : α} (h : k ∉ st.1) : nb1 st k = (st.1 ++ [k], st.2 ++ [st.1.length]) := by
  unfold nb1
  simp only [h, if_false]
  rw [List.idxOf_append, if_neg h]
  simp
structure NbI (ks : List α) : Prop where
  mem : ∀ k, k ∈ (nbS ks).1 ↔ k ∈ ks
  nd : (nbS ks).1.Nodup
  len : (nbS ks).2.length = ks.length
  at_ : ∀ (i : Nat) (k : α), ks[i]? = some k → (nbS ks).2[i]? = some ((nbS ks).1.idxOf k)
theorem nbI (ks : List α) : NbI ks := by
  refine snocI (γ := α) (P := fun ks => NbI ks) ⟨by simp [nbS], by simp [nbS], rfl, by simp⟩ (fun ks k ih => ?_) ks
  by_cases h : k ∈ (nbS ks).1
  · refine ⟨?_, ?_, ?_, ?_⟩ <;> rw [nbS_snoc, nb1_in h]
    · intro x
      rw [List.mem_append, ih.mem x, List.mem_singleton]
      constructor
      · exact .inl
      · rintro (q | rfl)
        · exact q
        · exact (ih.mem _).mp h
    · exact ih.nd
    · simp [ih.len]
    · intro i x hx
      by_cases hi : i < ks.length
      · rw [List.getElem?_append_left hi] at hx
        rw [List.getElem?_append_left (by rw [ih.len]; exact hi)]
        exact ih.at_ i x hx
      · rw [List.getElem?_append_right (by omega)] at hx
        rw [List.getElem?_append_right (by rw [ih.len]; omega), ih.len]
        have : i - ks.length = 0 := by
          have := (List.getElem?_eq_some_iff.mp hx).1
          simp at this; omega
        rw [this] at hx ⊢
        simp at hx ⊢
        rw [hx]
  · refine ⟨?_, ?_, ?_, ?_⟩ <;> rw [nbS_snoc, nb1_new h]
    · intro x
      rw [List.mem_append, List.mem_append, ih.mem x]
    · rw [List.nodup_append]
      exact ⟨ih.nd, by simp, by
        intro a ha b hb
        rw [List.mem_singleton] at hb
        subst hb
        rintro rfl
        exact h ha⟩
    · simp [ih.len]
    · intro i x hx
      by_cases hi : i < ks.length
      · rw [List.getElem?_append_left hi] at hx
        rw [List.getElem?_append_left (by rw [ih.len]; exact hi), ih.at_ i x hx]
        have : x ∈ (nbS ks).1 := (ih.mem x).mpr (List.mem_of_getElem? hx)
        rw [List.idxOf_append, if_pos this]
      · rw [List.getElem?_append_right (by omega)] at hx
        rw [List.getElem?_append_right (by rw [ih.len]; omega), ih.len]
        have : i - ks.length = 0 := by
          have := (List.getElem?_eq_some_iff.mp hx).1
          simp at this; omega
        rw [this] at hx ⊢
        simp at hx ⊢
        rw [← hx, List.idxOf_append, if_neg h]
        simp
theorem nb_len (ks : List α) : (nb ks).length = ks.length := (nbI ks).len
/-- how many different ones -/
def nD (ks : List α) : Nat := (nbS ks).1.length
theorem nb_iff {ks : List α} {i j : Nat} {a b : α} (ha : ks[i]? = some a) (hb : ks[j]? = some b) : (nb ks)[i]? = (nb ks)[j]? ↔ a = b := by
  have I := nbI ks
  unfold nb
  rw [I.at_ i a ha, I.at_ j b hb]
  constructor
  · intro h
    have h := Option.some.inj h
    have ma : a ∈ (nbS ks).1 := (I.mem a).mpr (List.mem_of_getElem? ha)
    have mb : b ∈ (nbS ks).1 := (I.mem b).mpr (List.mem_of_getElem? hb)
    have e1 := List.getElem_idxOf (List.idxOf_lt_length_of_mem ma)
    have e2 := List.getElem_idxOf (List.idxOf_lt_length_of_mem mb)
    rw [← e1, ← e2]
    congr 1
  · rintro rfl; rfl
theorem nb_lt {ks : List α} {x : Nat} (h : x ∈ nb ks) : x < nD ks := by
  obtain ⟨i, hi, e⟩ := List.mem_iff_getElem.mp h
  have hi' : i < ks.length := by rw [nb_len] at hi; exact hi
  have q := (nbI ks).at_ i ks[i] (List.getElem?_eq_getElem hi')
  have q2 : (nb ks)[i]? = some x := by rw [List.getElem?_eq_getElem hi, e]
  unfold nb at q2
  rw [q] at q2
  have := Option.some.inj q2
  rw [← this]
  exact List.idxOf_lt_length_of_mem (((nbI ks).mem _).mpr (List.getElem_mem hi'))
theorem nb_top {ks : List α} (h : ks ≠ []) : nD ks - 1 ∈ nb ks ∧ 0 < nD ks := by
  have I := nbI ks
  have pos : 0 < nD ks := by
    cases ks with
    | nil => exact absurd rfl h
    | cons a t =>
      have : a ∈ (nbS (a :: t)).1 := (I.mem a).mpr (by simp)
      exact List.length_pos_of_mem this
  refine ⟨?_, pos⟩
  have hl : nD ks - 1 < (nbS ks).1.length := by unfold nD at *; omega
  have m := (I.mem _).mp (List.getElem_mem hl)
  obtain ⟨i, hi, e⟩ := List.mem_iff_getElem.mp m
  have q := I.at_ i ks[i] (List.getElem?_eq_getElem hi)
  rw [e] at q
  have e3 : (nbS ks).1.idxOf (nbS ks).1[nD ks - 1] = nD ks - 1 := I.nd.idxOf_getElem _ hl
  rw [e3] at q
  exact List.mem_of_getElem? q
/-- same pattern, same numbers -/
theorem nb_congr (ks : List α) : ∀ ls : List β, ks.length = ls.length → (∀ (i j : Nat) (a b : α) (c d : β), ks[i]? = some a → ks[j]? = some b → ls[i]? = some c → ls[j]? = some d → (a = b ↔ c = d)) → nb ks = nb ls ∧ nD ks = nD ls := by
  refine snocI (P := fun ks : List α => ∀ ls : List β, ks.length = ls.length → (∀ (i j : Nat) (a b : α) (c d : β), ks[i]? = some a → ks[j]? = some b → ls[i]? = some c → ls[j]? = some d → (a = b ↔ c = d)) → nb ks = nb ls ∧ nD ks = nD ls) ?_ ?_ ks
  · intro ls hl _
    have : ls = [] := List.length_eq_zero_iff.mp hl.symm
    subst this
    exact ⟨rfl, rfl⟩
  · intro ks k ih ls hl hp
    rcases List.eq_nil_or_concat ls with rfl | ⟨ls, l, rfl⟩
    · simp at hl
    · rw [List.concat_eq_append] at *
      have hl' : ks.length = ls.length := by simpa using hl
      have hp' : ∀ i j a b c d, ks[i]? = some a → ks[j]? = some b → ls[i]? = some c → ls[j]? = some d → (a = b ↔ c = d) := fun i j a b c d h1 h2 h3 h4 => by
        refine hp i j a b c d ?_ ?_ ?_ ?_
        · rw [List.getElem?_append_left (List.getElem?_eq_some_iff.mp h1).1]; exact h1
        · rw [List.getElem?_append_left (List.getElem?_eq_some_iff.mp h2).1]; exact h2
        · rw [List.getElem?_append_left (List.getElem?_eq_some_iff.mp h3).1]; exact h3
        · rw [List.getElem?_append_left (List.getElem?_eq_some_iff.mp h4).1]; exact h4
      obtain ⟨e1, e2⟩ := ih ls hl' hp'
      have lastk : (ks ++ [k])[ks.length]? = some k := by simp
      have lastl : (ls ++ [l])[ks.length]? = some l := by rw [hl']; simp
      have I := nbI ks
      have J := nbI ls
      have tr : ∀ i a c, ks[i]? = some a → ls[i]? = some c → (a = k ↔ c = l) := fun i a c h1 h3 => by
        refine hp i ks.length a k c l ?_ lastk ?_ lastl
        · rw [List.getElem?_append_left (List.getElem?_eq_some_iff.mp h1).1]; exact h1
        · rw [List.getElem?_append_left (List.getElem?_eq_some_iff.mp h3).1]; exact h3
      unfold nb nD at *
      rw [nbS_snoc, nbS_snoc]
      by_cases h : k ∈ ks
      · obtain ⟨i, hi, e⟩ := List.mem_iff_getElem.mp h
        have hk : ks[i]? = some k := by rw [List.getElem?_eq_getElem hi, e]
        have hls : ls[i]? = some ls[i] := List.getElem?_eq_getElem (by omega)
        have el := (tr i k _ hk hls).mp rfl
        rw [el] at hls
        have h' : l ∈ ls := List.mem_of_getElem? hls
        rw [nb1_in ((I.mem k).mpr h), nb1_in ((J.mem l).mpr h')]
        have a1 := I.at_ i k hk
        have a2 := J.at_ i l hls
        rw [e1] at a1
        rw [a1] at a2
        have a3 := Option.some.inj a2
        dsimp only
        rw [e1, a3]
        exact ⟨rfl, e2⟩
      · have h' : l ∉ ls := fun m => by
          obtain ⟨i, hi, e⟩ := List.mem_iff_getElem.mp m
          have hk : ls[i]? = some l := by rw [List.getElem?_eq_getElem hi, e]
          have hks : ks[i]? = some ks[i] := List.getElem?_eq_getElem (by omega)
          have ek := (tr i _ l hks hk).mpr rfl
          rw [ek] at hks
          exact h (List.mem_of_getElem? hks)
        rw [nb1_new (fun m => h ((I.mem k).mp m)), nb1_new (fun m => h' ((J.mem l).mp m))]
        dsimp only
        rw [e1, e2]
        simp [e2]
theorem nb_map {f : α → β} (ks : List α) (inj : ∀ a ∈ ks, ∀ b ∈ ks, f a = f b → a = b) : nb (ks.map f) = nb ks := by
  refine ((nb_congr ks (ks.map f) (by simp) ?_).1).symm
  intro i j a b c d h1 h2 h3 h4
  rw [List.getElem?_map, h1] at h3
  rw [List.getElem?_map, h2] at h4
  cases h3
  cases h4
  exact ⟨fun e => by rw [e], inj a (List.mem_of_getElem? h1) b (List.mem_of_getElem? h2)⟩
/-- a finer pattern with as many: the same numbers -/
theorem nb_fine (ks : List α) : ∀ ls : List β, ks.length = ls.length → (∀ (i j : Nat) (a b : α) (c d : β), ks[i]? = some a → ks[j]? = some b → ls[i]? = some c → ls[j]? = some d → c = d → a = b) → nD ks ≤ nD ls ∧ (nD ks = nD ls → nb ks = nb ls) := by
  refine snocI (P := fun ks : List α => ∀ ls : List β, ks.length = ls.length → (∀ (i j : Nat) (a b : α) (c d : β), ks[i]? = some a → ks[j]? = some b → ls[i]? = some c → ls[j]? = some d → c = d → a = b) → nD ks ≤ nD ls ∧ (nD ks = nD ls → nb ks = nb ls)) ?_ ?_ ks
  · intro ls hl _
    have : ls = [] := List.length_eq_zero_iff.mp hl.symm
    subst this
    exact ⟨Nat.le_refl _, fun _ => rfl⟩
  · intro ks k ih ls hl hp
    rcases List.eq_nil_or_concat ls with rfl | ⟨ls, l, rfl⟩
    · simp at hl
    · rw [List.concat_eq_append] at *
      have hl' : ks.length = ls.length := by simpa using hl
      have hp' : ∀ i j a b c d, ks[i]? = some a → ks[j]? = some b → ls[i]? = some c → ls[j]? = some d → c = d → a = b := fun i j a b c d h1 h2 h3 h4 => by
        refine hp i j a b c d ?_ ?_ ?_ ?_
        · rw [List.getElem?_append_left (List.getElem?_eq_some_iff.mp h1).1]; exact h1
        · rw [List.getElem?_append_left (List.getElem?_eq_some_iff.mp h2).1]; exact h2
        · rw [List.getElem?_append_left (List.getElem?_eq_some_iff.mp h3).1]; exact h3
        · rw [List.getElem?_append_left (List.getElem?_eq_some_iff.mp h4).1]; exact h4
      obtain ⟨e1, e2⟩ := ih ls hl' hp'
      have lastk : (ks ++ [k])[ks.length]? = some k := by simp
      have lastl : (ls ++ [l])[ks.length]? = some l := by rw [hl']; simp
      have I := nbI ks
      have J := nbI ls
      have tr : ∀ i a c, ks[i]? = some a → ls[i]? = some c → c = l → a = k := fun i a c h1 h3 => by
        refine hp i ks.length a k c l ?_ lastk ?_ lastl
        · rw [List.getElem?_append_left (List.getElem?_eq_some_iff.mp h1).1]; exact h1
        · rw [List.getElem?_append_left (List.getElem?_eq_some_iff.mp h3).1]; exact h3
      unfold nb nD at *
      rw [nbS_snoc, nbS_snoc]
      by_cases h' : l ∈ ls
      · obtain ⟨i, hi, e⟩ := List.mem_iff_getElem.mp h'
        have hk : ls[i]? = some l := by rw [List.getElem?_eq_getElem hi, e]
        have hks : ks[i]? = some ks[i] := List.getElem?_eq_getElem (by omega)
        have ek := tr i _ l hks hk rfl
        rw [ek] at hks
        have h : k ∈ ks := List.mem_of_getElem? hks
        rw [nb1_in ((I.mem k).mpr h), nb1_in ((J.mem l).mpr h')]
        refine ⟨e1, fun q => ?_⟩
        have q2 := e2 q
        have a1 := I.at_ i k hks
        have a2 := J.at_ i l hk
        rw [q2] at a1
        rw [a1] at a2
        have a3 := Option.some.inj a2
        dsimp only
        rw [q2, a3]
      · rw [nb1_new (fun m => h' ((J.mem l).mp m))]
        by_cases h : k ∈ ks
        · rw [nb1_in ((I.mem k).mpr h)]
          dsimp only
          rw [List.length_append, List.length_singleton]
          exact ⟨by omega, fun q => by omega⟩
        · rw [nb1_new (fun m => h ((I.mem k).mp m))]
          dsimp only
          rw [List.length_append, List.length_append, List.length_singleton, List.length_singleton]
          refine ⟨by omega, fun q => ?_⟩
          have q3 : (nbS ks).1.length = (nbS ls).1.length := by omega
          rw [e2 q3, q3]
end
end Q3
/-! T2: classes of states. -/
namespace Q3
abbrev Row := List (Option Nat)
def nmax (l : List Nat) : Nat := l.foldl max 0
theorem foldl_max (l : List Nat) : ∀ a : Nat, l.foldl max a = max a (nmax l) := by
  unfold nmax
  induction l with
  | nil => intro a; simp
  | cons x t ih => intro a; simp only [List.foldl_cons]; rw [ih (max a x), ih (max 0 x)]; omega
theorem le_nmax {l : List Nat} {x : Nat} (h : x ∈ l) : x ≤ nmax l := by
  induction l with
  | nil => cases h
  | cons a t ih =>
    unfold nmax
    rw [List.foldl_cons, foldl_max]
    rcases List.mem_cons.mp h with rfl | h
    · omega
    · have := ih h; omega
theorem nmax_le {l : List Nat} {m : Nat} (h : ∀ x ∈ l, x ≤ m) : nmax l ≤ m := by
  induction l with
  | nil => simp [nmax]
  | cons a t ih =>
    unfold nmax
    rw [List.foldl_cons, foldl_max]
    have := ih fun x hx => h x (List.mem_cons_of_mem _ hx)
    have := h a List.mem_cons_self
    omega
section
variable {κ : Type} [DecidableEq κ]
theorem nmax_nb {α : Type} [DecidableEq α] {ks : List α} (h : ks ≠ []) : nmax (nb ks) + 1 = nD ks := by
  obtain ⟨a, b⟩ := nb_top h
  have h1 := le_nmax a
  have h2 : nmax (nb ks) ≤ nD ks - 1 := nmax_le fun x hx => by have := nb_lt hx; omega
  omega
def img (cls : List Nat) (row : Row) : Row := row.map (Option.map fun s => cls.getD s 0)
def keysOf (rows : List Row) (cls : List Nat) : List (Nat × Row) := (List.range rows.length).map fun s => (cls.getD s 0, img cls (rows.getD s []))
/-- one machine: n rows of k places -/
structure Au (k : Nat) (rows : List Row) (marks : List κ) : Prop where
  pos : rows ≠ []
  len : marks.length = rows.length
  row : ∀ r ∈ rows, r.length = k
  lt : ∀ r ∈ rows, ∀ s, some s ∈ r → s < rows.length
def stp (rows : List Row) (o : Option Nat) (x : Nat) : Option Nat := o.bind fun s => (rows.getD s [])[x]?.join
def beh (rows : List Row) (marks : List κ) (o : Option Nat) (w : List Nat) : Option κ := (w.foldl (stp rows) o).bind (marks[·]?)
theorem beh_nil (rows : List Row) (marks : List κ) (o : Option Nat) : beh rows marks o [] = o.bind (marks[·]?) := rfl
theorem beh_cons (rows : List Row) (marks : List κ) (o : Option Nat) (x : Nat) (w : List Nat) : beh rows marks o (x :: w) = beh rows marks (stp rows o x) w := rfl
theorem foldl_none (rows : List Row) (w : List Nat) : w.foldl (stp rows) none = none := by
  induction w with
  | nil => rfl
  | cons x w ih => exact ih
theorem beh_none (rows : List Row) (marks : List κ) (w : List Nat) : beh rows marks none w = none := by
  unfold beh; rw [foldl_none]; rfl
def cl (rows : List Row) (marks : List κ) : Nat → List Nat
  | 0 => nb marks
  | i + 1 => nb (keysOf rows (cl rows marks i))
def dn (rows : List Row) (marks : List κ) : Nat → Nat
  | 0 => nD marks
  | i + 1 => nD (keysOf rows (cl rows marks i))
theorem keysOf_len (rows : List Row) (cls : List Nat) : (keysOf rows cls).length = rows.length := by simp [keysOf]
theorem keysOf_get {rows : List Row} {cls : List Nat} {s : Nat} (h : s < rows.length) : (keysOf rows cls)[s]? = some (cls.getD s 0, img cls (rows.getD s [])) := by
  unfold keysOf
  rw [List.getElem?_map, List.getElem?_range h]
  rfl
variable {k : Nat} {rows : List Row} {marks : List κ}
theorem cl_len (A : Au k rows marks) : ∀ i, (cl rows marks i).length = rows.length
  | 0 => by rw [cl, nb_len, A.len]
  | i + 1 => by rw [cl, nb_len, keysOf_len]
theorem nmax_cl (A : Au k rows marks) (i : Nat) : nmax (cl rows marks i) + 1 = dn rows marks i := by
  cases i with
  | zero => exact nmax_nb fun e => A.pos (List.length_eq_zero_iff.mp (by rw [← A.len, e]; rfl))
  | succ i => exact nmax_nb fun e => A.pos (List.length_eq_zero_iff.mp (by rw [← keysOf_len rows (cl rows marks i), e]; rfl))
theorem getD_iff {l : List Nat} {a b : Nat} (ha : a < l.length) (hb : b < l.length) : l.getD a 0 = l.getD b 0 ↔ l[a]? = l[b]? := by
  rw [List.getD_eq_getElem?_getD, List.getD_eq_getElem?_getD, List.getElem?_eq_getElem ha, List.getElem?_eq_getElem hb]
  simp
theorem getD_mem {α : Type} {l : List α} {i : Nat} {d : α} (h : i < l.length) : l.getD i d ∈ l := by
  rw [List.getD_eq_getElem?_getD, List.getElem?_eq_getElem h]; exact List.getElem_mem h
theorem cl_succ_iff (A : Au k rows marks) {i a b : Nat} (ha : a < rows.length) (hb : b < rows.length) : (cl rows marks (i + 1)).getD a 0 = (cl rows marks (i + 1)).getD b 0 ↔ (cl rows marks i).getD a 0 = (cl rows marks i).getD b 0 ∧ img (cl rows marks i) (rows.getD a []) = img (cl rows marks i) (rows.getD b []) := by
  rw [getD_iff (by rw [cl_len A]; exact ha) (by rw [cl_len A]; exact hb), cl, nb_iff (keysOf_get ha) (keysOf_get hb), Prod.mk.injEq]
theorem cl_iff (A : Au k rows marks) : ∀ (i : Nat) {a b : Nat}, a < rows.length → b < rows.length → ((cl rows marks i).getD a 0 = (cl rows marks i).getD b 0 ↔ ∀ w : List Nat, w.length ≤ i → beh rows marks (some a) w = beh rows marks (some b) w)
  | 0, a, b, ha, hb => by
    have la : marks[a]? = some (marks[a]'(by rw [A.len]; exact ha)) := List.getElem?_eq_getElem _
    have lb : marks[b]? = some (marks[b]'(by rw [A.len]; exact hb)) := List.getElem?_eq_getElem _
    rw [getD_iff (by rw [cl_len A]; exact ha) (by rw [cl_len A]; exact hb), cl, nb_iff la lb]
    constructor
    · intro e w hw
      have : w = [] := List.length_eq_zero_iff.mp (by omega)
      subst this
      rw [beh_nil, beh_nil]
      show marks[a]? = marks[b]?
      rw [la, lb, e]
    · intro h
      have h := h [] (Nat.le_refl _)
      rw [beh_nil, beh_nil] at h
      have h : marks[a]? = marks[b]? := h
      rw [la, lb] at h
      exact Option.some.inj h
  | i + 1, a, b, ha, hb => by
    rw [cl_succ_iff A ha hb, cl_iff A i ha hb]
    have ra : rows.getD a [] ∈ rows := getD_mem ha
    have rb : rows.getD b [] ∈ rows := getD_mem hb
    constructor
    · rintro ⟨h1, h2⟩ w hw
      cases w with
      | nil => exact h1 [] (Nat.zero_le _)
      | cons x w =>
        rw [beh_cons, beh_cons]
        have hw : w.length ≤ i := by simp at hw; exact hw
        have e : (img (cl rows marks i) (rows.getD a []))[x]? = (img (cl rows marks i) (rows.getD b []))[x]? := by rw [h2]
        unfold img at e
        rw [List.getElem?_map, List.getElem?_map] at e
        show beh rows marks ((rows.getD a [])[x]?.join) w = beh rows marks ((rows.getD b [])[x]?.join) w
        cases ca : (rows.getD a [])[x]? with
        | none =>
          cases cb : (rows.getD b [])[x]? with
          | none => rfl
          | some ob => rw [ca, cb] at e; cases e
        | some oa =>
          cases cb : (rows.getD b [])[x]? with
          | none => rw [ca, cb] at e; cases e
          | some ob =>
            rw [ca, cb] at e
            have e := Option.some.inj e
            cases oa with
            | none =>
              cases ob with
              | none => rfl
              | some y => cases e
            | some xx =>
              cases ob with
              | none => cases e
              | some y =>
                have e := Option.some.inj e
                have l1 := A.lt _ ra xx (List.mem_of_getElem? ca)
                have l2 := A.lt _ rb y (List.mem_of_getElem? cb)
                exact (cl_iff A i l1 l2).mp e w hw
    · intro h
      refine ⟨fun w hw => h w (by omega), ?_⟩
      have la := A.row _ ra
      have lb := A.row _ rb
      apply List.ext_getElem?
      intro x
      unfold img
      rw [List.getElem?_map, List.getElem?_map]
      by_cases hx : x < k
      · have ca : (rows.getD a [])[x]? = some ((rows.getD a [])[x]'(by omega)) := List.getElem?_eq_getElem _
        have cb : (rows.getD b [])[x]? = some ((rows.getD b [])[x]'(by omega)) := List.getElem?_eq_getElem _
        have hh : ∀ w : List Nat, w.length ≤ i → beh rows marks ((rows.getD a [])[x]?.join) w = beh rows marks ((rows.getD b [])[x]?.join) w := fun w hw => h (x :: w) (by simp; exact hw)
        rw [ca, cb] at hh ⊢
        generalize ea : (rows.getD a [])[x]'(by omega) = oa at ca hh ⊢
        generalize eb : (rows.getD b [])[x]'(by omega) = ob at cb hh ⊢
        cases oa with
        | none =>
          cases ob with
          | none => rfl
          | some y =>
            exfalso
            have q := hh [] (Nat.zero_le _)
            have l2 := A.lt _ rb y (List.mem_of_getElem? cb)
            have q : (none : Option κ) = marks[y]? := q
            rw [List.getElem?_eq_getElem (by rw [A.len]; exact l2)] at q
            cases q
        | some xx =>
          have l1 := A.lt _ ra xx (List.mem_of_getElem? ca)
          cases ob with
          | none =>
            exfalso
            have q := hh [] (Nat.zero_le _)
            have q : marks[xx]? = (none : Option κ) := q
            rw [List.getElem?_eq_getElem (by rw [A.len]; exact l1)] at q
            cases q
          | some y =>
            have l2 := A.lt _ rb y (List.mem_of_getElem? cb)
            have := (cl_iff A i l1 l2).mpr hh
            simp only [Option.map_some, this]
      · rw [List.getElem?_eq_none (by omega), List.getElem?_eq_none (by omega)]
theorem dn_step (A : Au k rows marks) (i : Nat) : dn rows marks i ≤ dn rows marks (i + 1) ∧ (dn rows marks i = dn rows marks (i + 1) → cl rows marks i = cl rows marks (i + 1)) := by
  cases i with
  | zero =>
    refine nb_fine marks (keysOf rows (cl rows marks 0)) (by rw [keysOf_len, A.len]) ?_
    intro i j a b c d h1 h2 h3 h4 e
    have hi : i < rows.length := by rw [← A.len]; exact (List.getElem?_eq_some_iff.mp h1).1
    have hj : j < rows.length := by rw [← A.len]; exact (List.getElem?_eq_some_iff.mp h2).1
    rw [keysOf_get hi] at h3
    rw [keysOf_get hj] at h4
    cases h3
    cases h4
    have e := (Prod.mk.injEq .. ▸ e : _ ∧ _).1
    rw [getD_iff (by rw [cl_len A]; exact hi) (by rw [cl_len A]; exact hj)] at e
    exact (nb_iff h1 h2).mp e
  | succ i =>
    refine nb_fine (keysOf rows (cl rows marks i)) (keysOf rows (cl rows marks (i + 1))) (by rw [keysOf_len, keysOf_len]) ?_
    intro p j a b c d h1 h2 h3 h4 e
    have hi : p < rows.length := by rw [← keysOf_len rows (cl rows marks i)]; exact (List.getElem?_eq_some_iff.mp h1).1
    have hj : j < rows.length := by rw [← keysOf_len rows (cl rows marks i)]; exact (List.getElem?_eq_some_iff.mp h2).1
    rw [keysOf_get hi] at h3
    rw [keysOf_get hj] at h4
    cases h3
    cases h4
    have e := (Prod.mk.injEq .. ▸ e : _ ∧ _).1
    rw [getD_iff (by rw [cl_len A]; exact hi) (by rw [cl_len A]; exact hj)] at e
    exact (nb_iff h1 h2).mp e
theorem cl_fix {m : Nat} (h : cl rows marks m = cl rows marks (m + 1)) : ∀ j, cl rows marks (m + j) = cl rows marks m
  | 0 => rfl
  | j + 1 => by
    show nb (keysOf rows (cl rows marks (m + j))) = _
    rw [cl_fix h j]
    exact h.symm
theorem dn_le (A : Au k rows marks) (i : Nat) : dn rows marks i ≤ rows.length := by
  have h : ∀ {α : Type} [DecidableEq α] (ks : List α), nD ks ≤ ks.length := fun ks => by
    refine snocI (P := fun ks => nD ks ≤ ks.length) (Nat.le_refl _) (fun l a ih => ?_) ks
    unfold nD at *
    rw [nbS_snoc]
    by_cases h : a ∈ (nbS l).1
    · rw [nb1_in h]; simp; omega
    · rw [nb1_new h]; simp; omega
  cases i with
  | zero => have := h marks; rw [A.len] at this; exact this
  | succ i => have := h (keysOf rows (cl rows marks i)); rw [keysOf_len] at this; exact this
/-- when the classes stay -/
theorem cl_stay (A : Au k rows marks) : ∃ m, m < rows.length ∧ dn rows marks m = dn rows marks (m + 1) ∧ ∀ i, i < m → dn rows marks i < dn rows marks (i + 1) := by
  have key : ∀ t : Nat, (∃ m, m < t ∧ dn rows marks m = dn rows marks (m + 1) ∧ ∀ i, i < m → dn rows marks i < dn rows marks (i + 1)) ∨ ((∀ i, i < t → dn rows marks i < dn rows marks (i + 1)) ∧ dn rows marks 0 + t ≤ dn rows marks t) := fun t => by
    induction t with
    | zero => exact .inr ⟨fun i h => absurd h (Nat.not_lt_zero _), Nat.le_refl _⟩
    | succ t ih =>
      rcases ih with ⟨m, h1, h2⟩ | ⟨h1, h2⟩
      · exact .inl ⟨m, by omega, h2⟩
      · have s := (dn_step A t).1
        by_cases e : dn rows marks t = dn rows marks (t + 1)
        · exact .inl ⟨t, by omega, e, h1⟩
        · refine .inr ⟨fun i hi => ?_, by omega⟩
          by_cases q : i = t
          · subst q; omega
          · exact h1 i (by omega)
  rcases key rows.length with h | ⟨_, h⟩
  · exact h
  · have h1 := dn_le A rows.length
    have h2 := nmax_cl A 0
    omega
def clGo (rows : List Row) : Nat → List Nat → List Nat
  | 0, c => c
  | f + 1, c => if nmax (nb (keysOf rows c)) = nmax c then c else clGo rows f (nb (keysOf rows c))
def clF (rows : List Row) (marks : List κ) : List Nat := clGo rows rows.length (nb marks)
theorem clGo_eq (A : Au k rows marks) {m : Nat} (e : dn rows marks m = dn rows marks (m + 1)) (lt : ∀ i, i < m → dn rows marks i < dn rows marks (i + 1)) : ∀ (f i : Nat), i ≤ m → m < i + f → clGo rows f (cl rows marks i) = cl rows marks m
  | 0, i, h1, h2 => by omega
  | f + 1, i, h1, h2 => by
    unfold clGo
    have a := nmax_cl A i
    have b := nmax_cl A (i + 1)
    have b' : nmax (nb (keysOf rows (cl rows marks i))) + 1 = dn rows marks (i + 1) := b
    by_cases q : i = m
    · subst q
      rw [if_pos (by omega)]
    · have := lt i (by omega)
      rw [if_neg (by omega)]
      exact clGo_eq A e lt f (i + 1) (by omega) (by omega)
theorem clF_fuel (A : Au k rows marks) {f : Nat} (h : rows.length ≤ f) : clGo rows f (nb marks) = clF rows marks := by
  obtain ⟨m, h1, h2, h3⟩ := cl_stay A
  unfold clF
  have a := clGo_eq A h2 h3 f 0 (Nat.zero_le _) (by omega)
  have b := clGo_eq A h2 h3 rows.length 0 (Nat.zero_le _) (by omega)
  exact a.trans b.symm
theorem clF_len (A : Au k rows marks) : (clF rows marks).length = rows.length := by
  obtain ⟨m, h1, h2, h3⟩ := cl_stay A
  have b := clGo_eq A h2 h3 rows.length 0 (Nat.zero_le _) (by omega)
  show (clGo rows rows.length (cl rows marks 0)).length = _
  rw [b, cl_len A]
/-- two states have the same class just when no word tells them apart -/
theorem clF_iff (A : Au k rows marks) {a b : Nat} (ha : a < rows.length) (hb : b < rows.length) : (clF rows marks).getD a 0 = (clF rows marks).getD b 0 ↔ ∀ w : List Nat, beh rows marks (some a) w = beh rows marks (some b) w := by
  obtain ⟨m, h1, h2, h3⟩ := cl_stay A
  have e : clF rows marks = cl rows marks m := clGo_eq A h2 h3 rows.length 0 (Nat.zero_le _) (by omega)
  have fx := cl_fix ((dn_step A m).2 h2)
  rw [e]
  constructor
  · intro h w
    rw [← fx w.length] at h
    exact (cl_iff A (m + w.length) ha hb).mp h w (by omega)
  · intro h
    exact (cl_iff A m ha hb).mpr fun w _ => h w
end
end Q3
/-! T3: the least machine, numbered as it is read. -/
namespace Q3
def rg1 (cls : List Nat) (st : List Nat × Row) (e : Option Nat) : List Nat × Row := match e with
  | none => (st.1, st.2 ++ [none])
  | some a =>
    let o := if cls.getD a 0 ∈ st.1.map (cls.getD · 0) then st.1 else st.1 ++ [a]
    (o, st.2 ++ [some ((o.map (cls.getD · 0)).idxOf (cls.getD a 0))])
def rowGo (cls : List Nat) (row : Row) (ord : List Nat) : List Nat × Row := row.foldl (rg1 cls) (ord, [])
def cnGo (rows : List Row) (cls : List Nat) : Nat → List Nat × List Row → List Nat × List Row
  | 0, st => st
  | f + 1, st => if st.2.length < st.1.length then
      cnGo rows cls f ((rowGo cls (rows.getD (st.1.getD st.2.length 0) []) st.1).1, st.2 ++ [(rowGo cls (rows.getD (st.1.getD st.2.length 0) []) st.1).2])
    else st
def cn (rows : List Row) (marks : List Bool) : List Nat × List Row := cnGo rows (clF rows marks) (rows.length + 1) ([0], [])
def cnMarks (rows : List Row) (marks : List Bool) : List Bool := (cn rows marks).1.map (marks.getD · false)
inductive A2 {α β : Type} (R : α → β → Prop) : List α → List β → Prop
  | nil : A2 R [] []
  | cons {a : α} {b : β} {l : List α} {m : List β} : R a b → A2 R l m → A2 R (a :: l) (b :: m)
namespace A2
variable {α β : Type} {R : α → β → Prop}
theorem length : ∀ {l : List α} {m : List β}, A2 R l m → l.length = m.length
  | _, _, .nil => rfl
  | _, _, .cons _ h => by simp [h.length]
theorem append : ∀ {l l' : List α} {m m' : List β}, A2 R l m → A2 R l' m' → A2 R (l ++ l') (m ++ m')
  | _, _, _, _, .nil, h => h
  | _, _, _, _, .cons a h, h' => .cons a (h.append h')
theorem get : ∀ {l : List α} {m : List β} {i : Nat} {a : α} {b : β}, A2 R l m → l[i]? = some a → m[i]? = some b → R a b
  | _, _, 0, a, b, .cons h _, h1, h2 => by simp at h1 h2; subst h1; subst h2; exact h
  | _, _, i + 1, a, b, .cons _ h, h1, h2 => h.get (i := i) (by simpa using h1) (by simpa using h2)
  | _, _, i, a, b, .nil, h1, _ => by simp at h1
theorem of : ∀ {l : List α} {m : List β}, l.length = m.length → (∀ (i : Nat) (a : α) (b : β), l[i]? = some a → m[i]? = some b → R a b) → A2 R l m
  | [], [], _, _ => .nil
  | [], _ :: _, h, _ => by simp at h
  | _ :: _, [], h, _ => by simp at h
  | a :: l, b :: m, h, f => .cons (f 0 a b rfl rfl) (of (by simpa using h) fun i x y h1 h2 => f (i + 1) x y (by simpa using h1) (by simpa using h2))
end A2
/-- what holds of an order -/
structure Od (rows : List Row) (cls : List Nat) (ord : List Nat) : Prop where
  nd : (ord.map (cls.getD · 0)).Nodup
  lt : ∀ a ∈ ord, a < rows.length
def At2 (cls ord : List Nat) (i a : Nat) : Prop := ∃ b, ord[i]? = some b ∧ cls.getD b 0 = cls.getD a 0
def Ok2 (cls ord : List Nat) : Option Nat → Option Nat → Prop
  | none, none => True
  | some i, some a => At2 cls ord i a
  | _, _ => False
theorem At2.mono {cls ord : List Nat} {i a : Nat} (h : At2 cls ord i a) (more : List Nat) : At2 cls (ord ++ more) i a := by
  obtain ⟨b, h1, h2⟩ := h
  exact ⟨b, by rw [List.getElem?_append_left (List.getElem?_eq_some_iff.mp h1).1]; exact h1, h2⟩
theorem Ok2.mono {cls ord : List Nat} (more : List Nat) : ∀ {o o' : Option Nat}, Ok2 cls ord o o' → Ok2 cls (ord ++ more) o o'
  | none, none, _ => trivial
  | some i, some a, h => At2.mono h more
  | none, some _, h => h.elim
  | some _, none, h => h.elim
theorem ok2_all_mono {cls ord : List Nat} (more : List Nat) : ∀ {l m : Row}, A2 (Ok2 cls ord) l m → A2 (Ok2 cls (ord ++ more)) l m
  | _, _, .nil => .nil
  | _, _, .cons a h => .cons (a.mono more) (ok2_all_mono more h)
theorem idx_at {l : List Nat} {x : Nat} (h : x ∈ l) : l[l.idxOf x]? = some x := by
  have := List.idxOf_lt_length_of_mem h
  rw [List.getElem?_eq_getElem this, List.getElem_idxOf this]
theorem rg_ok {rows : List Row} {cls : List Nat} : ∀ (row done : Row) (ord : List Nat) (out : Row), Od rows cls ord → (∀ s, some s ∈ row → s < rows.length) → A2 (Ok2 cls ord) out done →
    ∃ more, (row.foldl (rg1 cls) (ord, out)).1 = ord ++ more ∧ Od rows cls (ord ++ more) ∧ A2 (Ok2 cls (ord ++ more)) (row.foldl (rg1 cls) (ord, out)).2 (done ++ row)
  | [], done, ord, out, O, _, h => ⟨[], by simp, by simpa using O, by simpa using h⟩
  | none :: row, done, ord, out, O, lt, h => by
    obtain ⟨more, h1, h2, h3⟩ := rg_ok row (done ++ [none]) ord (out ++ [none]) O (fun s m => lt s (List.mem_cons_of_mem _ m)) (h.append (.cons trivial .nil))
    refine ⟨more, h1, h2, ?_⟩
    rw [List.append_assoc] at h3
    exact h3
  | some a :: row, done, ord, out, O, lt, h => by
    rw [List.foldl_cons]
    by_cases m : cls.getD a 0 ∈ ord.map (cls.getD · 0)
    · have e : rg1 cls (ord, out) (some a) = (ord, out ++ [some ((ord.map (cls.getD · 0)).idxOf (cls.getD a 0))]) := by
        unfold rg1; dsimp only; rw [if_pos m]
      rw [e]
      have i1 := idx_at m
      rw [List.getElem?_map] at i1
      obtain ⟨b, hb, e2⟩ := Option.map_eq_some_iff.mp i1
      obtain ⟨more, h1, h2, h3⟩ := rg_ok row (done ++ [some a]) ord _ O (fun s q => lt s (List.mem_cons_of_mem _ q)) (h.append (.cons (a := some ((ord.map (cls.getD · 0)).idxOf (cls.getD a 0))) (b := some a) (show At2 _ _ _ _ from ⟨b, hb, e2⟩) .nil))
      refine ⟨more, h1, h2, ?_⟩
      rw [List.append_assoc] at h3
      exact h3
    · have e : rg1 cls (ord, out) (some a) = (ord ++ [a], out ++ [some ord.length]) := by
        unfold rg1; dsimp only; rw [if_neg m, List.map_append, List.idxOf_append, if_neg m]
        simp
      rw [e]
      have O' : Od rows cls (ord ++ [a]) := ⟨by
        rw [List.map_append, List.nodup_append]
        refine ⟨O.nd, by simp, fun x hx y hy => ?_⟩
        simp at hy
        subst hy
        rintro rfl
        exact m hx, fun x hx => by
        rcases List.mem_append.mp hx with q | q
        · exact O.lt x q
        · rw [List.mem_singleton] at q; subst q; exact lt x List.mem_cons_self⟩
      obtain ⟨more, h1, h2, h3⟩ := rg_ok row (done ++ [some a]) (ord ++ [a]) (out ++ [some ord.length]) O' (fun s q => lt s (List.mem_cons_of_mem _ q)) ((ok2_all_mono [a] h).append (.cons (b := some a) (show At2 _ _ _ _ from ⟨a, by simp, rfl⟩) .nil))
      refine ⟨a :: more, by rw [h1]; simp, ?_, ?_⟩
      · have : ord ++ a :: more = ord ++ [a] ++ more := by simp
        rw [this]; exact h2
      · have : ord ++ a :: more = ord ++ [a] ++ more := by simp
        rw [this]
        rw [List.append_assoc done] at h3
        exact h3
theorem rowGo_ok {rows : List Row} {cls : List Nat} (row : Row) (ord : List Nat) (O : Od rows cls ord) (lt : ∀ s, some s ∈ row → s < rows.length) :
    ∃ more, (rowGo cls row ord).1 = ord ++ more ∧ Od rows cls (ord ++ more) ∧ A2 (Ok2 cls (ord ++ more)) (rowGo cls row ord).2 row := by
  have := rg_ok row [] ord [] O lt .nil
  rw [List.nil_append] at this
  exact this
/-- a list of different numbers below n has at most n -/
theorem nodup_le : ∀ (n : Nat) (l : List Nat), l.Nodup → (∀ x ∈ l, x < n) → l.length ≤ n
  | 0, l, _, h => by
    cases l with
    | nil => exact Nat.le_refl _
    | cons a t => exact absurd (h a List.mem_cons_self) (Nat.not_lt_zero _)
  | n + 1, l, nd, h => by
    have h1 := nodup_le n (l.filter (· ≠ n)) (nd.filter _) fun x hx => by
      have := List.mem_filter.mp hx
      have h2 := h x this.1
      have h3 : x ≠ n := by simpa using this.2
      omega
    have h2 : l.length ≤ (l.filter (· ≠ n)).length + 1 := by
      clear h1 h
      induction l with
      | nil => simp
      | cons a t ih =>
        have nd' := List.nodup_cons.mp nd
        by_cases q : a = n
        · subst q
          have : (t.filter (· ≠ a)) = t := List.filter_eq_self.mpr fun x hx => by
            have : x ≠ a := fun e => nd'.1 (e ▸ hx)
            simpa using this
          rw [List.filter_cons_of_neg (by simp), this]
          simp
        · have := ih nd'.2
          rw [List.filter_cons_of_pos (by simpa using q), List.length_cons, List.length_cons]
          omega
    omega
theorem Od.le {rows : List Row} {cls ord : List Nat} (O : Od rows cls ord) : ord.length ≤ rows.length := by
  refine nodup_le rows.length ord ?_ O.lt
  have h := O.nd
  unfold List.Nodup at h ⊢
  rw [List.pairwise_map] at h
  exact h.imp fun q e => q (by rw [e])
/-- what holds of order and rows that are found -/
structure Cg (rows : List Row) (cls : List Nat) (st : List Nat × List Row) : Prop where
  od : Od rows cls st.1
  le : st.2.length ≤ st.1.length
  at0 : st.1[0]? = some 0
  row : ∀ (i : Nat) (r : Row) (a : Nat), st.2[i]? = some r → st.1[i]? = some a → A2 (Ok2 cls st.1) r (rows.getD a [])
theorem Cg.step {k : Nat} {rows : List Row} {marks : List Bool} {cls : List Nat} (A : Au k rows marks) {st : List Nat × List Row} (C : Cg rows cls st) (h : st.2.length < st.1.length) :
    Cg rows cls ((rowGo cls (rows.getD (st.1.getD st.2.length 0) []) st.1).1, st.2 ++ [(rowGo cls (rows.getD (st.1.getD st.2.length 0) []) st.1).2]) := by
  have ha : st.1[st.2.length]? = some (st.1.getD st.2.length 0) := by
    rw [List.getD_eq_getElem?_getD, List.getElem?_eq_getElem h]; rfl
  have la := C.od.lt _ (List.mem_of_getElem? ha)
  obtain ⟨more, h1, h2, h3⟩ := rowGo_ok (rows.getD (st.1.getD st.2.length 0) []) st.1 C.od (fun s m => A.lt _ (getD_mem la) s m)
  rw [h1]
  refine ⟨h2, ?_, ?_, ?_⟩
  · simp; omega
  · show (st.1 ++ more)[0]? = some 0
    rw [List.getElem?_append_left (by omega)]; exact C.at0
  · intro i r a hr hx
    have hr : (st.2 ++ [(rowGo cls (rows.getD (st.1.getD st.2.length 0) []) st.1).2])[i]? = some r := hr
    have hx : (st.1 ++ more)[i]? = some a := hx
    show A2 (Ok2 cls (st.1 ++ more)) r (rows.getD a [])
    by_cases hi : i < st.2.length
    · rw [List.getElem?_append_left hi] at hr
      rw [List.getElem?_append_left (by omega)] at hx
      exact ok2_all_mono more (C.row i r a hr hx)
    · have hi2 : i = st.2.length := by
        have := (List.getElem?_eq_some_iff.mp hr).1
        simp at this; omega
      subst hi2
      rw [List.getElem?_append_left h, ha] at hx
      cases hx
      rw [List.getElem?_append_right (Nat.le_refl _)] at hr
      simp at hr
      subst hr
      exact h3
theorem cnGo_ok {k : Nat} {rows : List Row} {marks : List Bool} {cls : List Nat} (A : Au k rows marks) : ∀ (f : Nat) (st : List Nat × List Row), Cg rows cls st → rows.length < f + st.2.length → Cg rows cls (cnGo rows cls f st) ∧ (cnGo rows cls f st).2.length = (cnGo rows cls f st).1.length
  | 0, st, C, h => by have := C.le; have := C.od.le; omega
  | f + 1, st, C, h => by
    unfold cnGo
    split
    · rename_i q
      exact cnGo_ok A f _ (C.step A q) (by simp; omega)
    · rename_i q
      exact ⟨C, by have := C.le; omega⟩
/-- more turns change nothing -/
theorem cnGo_fuel {k : Nat} {rows : List Row} {marks : List Bool} {cls : List Nat} (A : Au k rows marks) : ∀ (f g : Nat) (st : List Nat × List Row), Cg rows cls st → rows.length < f + st.2.length → f ≤ g → cnGo rows cls g st = cnGo rows cls f st
  | 0, g, st, C, h, _ => by have := C.le; have := C.od.le; omega
  | f + 1, 0, st, C, h, l => by omega
  | f + 1, g + 1, st, C, h, l => by
    unfold cnGo
    split
    · rename_i q
      exact cnGo_fuel A f g _ (C.step A q) (by simp; omega) (by omega)
    · rfl
section
variable {k : Nat} {rows : List Row} {marks : List Bool}
theorem Cg.start (A : Au k rows marks) (cls : List Nat) : Cg rows cls ([0], []) :=
  ⟨⟨by simp, fun a h => by
    rw [List.mem_singleton] at h; subst h
    exact List.length_pos_iff.mpr A.pos⟩, by simp, rfl, fun i r a h => by simp at h⟩
theorem cn_ok (A : Au k rows marks) : Cg rows (clF rows marks) (cn rows marks) ∧ (cn rows marks).2.length = (cn rows marks).1.length :=
  cnGo_ok A _ _ (Cg.start A _) (by simp)
theorem cn_au (A : Au k rows marks) : Au k (cn rows marks).2 (cnMarks rows marks) := by
  obtain ⟨C, e⟩ := cn_ok A
  have pos : 0 < (cn rows marks).1.length := (List.getElem?_eq_some_iff.mp C.at0).1
  have each : ∀ r ∈ (cn rows marks).2, ∃ a, a < rows.length ∧ A2 (Ok2 (clF rows marks) (cn rows marks).1) r (rows.getD a []) := fun r m => by
    obtain ⟨i, hi, e2⟩ := List.mem_iff_getElem.mp m
    have h1 : (cn rows marks).2[i]? = some r := by rw [List.getElem?_eq_getElem hi, e2]
    have h2 : (cn rows marks).1[i]? = some ((cn rows marks).1[i]'(by omega)) := List.getElem?_eq_getElem _
    exact ⟨_, C.od.lt _ (List.mem_of_getElem? h2), C.row i r _ h1 h2⟩
  refine ⟨fun h => by rw [h] at e; simp at e; omega, by rw [cnMarks, List.length_map, e], fun r m => ?_, fun r m s hs => ?_⟩
  · obtain ⟨a, la, h⟩ := each r m
    rw [h.length]
    exact A.row _ (getD_mem la)
  · obtain ⟨a, la, h⟩ := each r m
    obtain ⟨i, hi, e2⟩ := List.mem_iff_getElem.mp hs
    have h1 : r[i]? = some (some s) := by rw [List.getElem?_eq_getElem hi, e2]
    have h2 : (rows.getD a [])[i]? = some ((rows.getD a [])[i]'(by rw [← h.length]; exact hi)) := List.getElem?_eq_getElem _
    have q := h.get h1 h2
    generalize (rows.getD a [])[i]'(by rw [← h.length]; exact hi) = o at q
    cases o with
    | none => exact q.elim
    | some b =>
      obtain ⟨b, hb, _⟩ := q
      rw [e]
      exact (List.getElem?_eq_some_iff.mp hb).1
/-- the least machine reads as the one it is made of -/
theorem cn_beh (A : Au k rows marks) : ∀ (w : List Nat) (i a : Nat), a < rows.length → At2 (clF rows marks) (cn rows marks).1 i a → beh (cn rows marks).2 (cnMarks rows marks) (some i) w = beh rows marks (some a) w
  | [], i, a, la, h => by
    obtain ⟨C, e⟩ := cn_ok A
    obtain ⟨b, hb, hc⟩ := h
    have lb := C.od.lt _ (List.mem_of_getElem? hb)
    have q := (clF_iff A lb la).mp hc []
    rw [← q]
    show (cnMarks rows marks)[i]? = marks[b]?
    rw [cnMarks, List.getElem?_map, hb]
    rw [List.getElem?_eq_getElem (by rw [A.len]; exact lb)]
    simp only [Option.map_some]
    rw [List.getD_eq_getElem?_getD, List.getElem?_eq_getElem (by rw [A.len]; exact lb)]
    rfl
  | x :: w, i, a, la, h => by
    obtain ⟨C, e⟩ := cn_ok A
    obtain ⟨b, hb, hc⟩ := h
    have lb := C.od.lt _ (List.mem_of_getElem? hb)
    have q := (clF_iff A lb la).mp hc (x :: w)
    rw [← q, beh_cons, beh_cons]
    have hi := (List.getElem?_eq_some_iff.mp hb).1
    have hr : (cn rows marks).2[i]? = some ((cn rows marks).2.getD i []) := by
      rw [List.getD_eq_getElem?_getD, List.getElem?_eq_getElem (by omega)]; rfl
    have R := C.row i _ b hr hb
    show beh _ _ (((cn rows marks).2.getD i [])[x]?.join) w = beh rows marks ((rows.getD b [])[x]?.join) w
    by_cases hx : x < (rows.getD b []).length
    · have h2 : (rows.getD b [])[x]? = some ((rows.getD b [])[x]) := List.getElem?_eq_getElem _
      have h1 : ((cn rows marks).2.getD i [])[x]? = some (((cn rows marks).2.getD i [])[x]'(by rw [R.length]; exact hx)) := List.getElem?_eq_getElem _
      have o := R.get h1 h2
      rw [h1, h2]
      generalize ((cn rows marks).2.getD i [])[x]'(by rw [R.length]; exact hx) = oi at o ⊢
      generalize ho : (rows.getD b [])[x] = oa at o h2 ⊢
      cases oi with
      | none =>
        cases oa with
        | none => show beh _ _ none w = beh _ _ none w; rw [beh_none, beh_none]
        | some _ => exact o.elim
      | some j =>
        cases oa with
        | none => exact o.elim
        | some c => exact cn_beh A w j c (A.lt _ (getD_mem lb) c (List.mem_of_getElem? h2)) o
    · rw [List.getElem?_eq_none (by rw [R.length]; omega), List.getElem?_eq_none (by omega)]
      show beh _ _ none w = beh _ _ none w
      rw [beh_none, beh_none]
theorem cn_beh0 (A : Au k rows marks) (w : List Nat) : beh (cn rows marks).2 (cnMarks rows marks) (some 0) w = beh rows marks (some 0) w :=
  cn_beh A w 0 0 (List.length_pos_iff.mpr A.pos) ⟨0, (cn_ok A).1.at0, rfl⟩
end
/-! two machines with the same words -/
section
variable {k : Nat} {rows rows' : List Row} {marks marks' : List Bool}
def Rl (rows rows' : List Row) (marks marks' : List Bool) (a b : Nat) : Prop := a < rows.length ∧ b < rows'.length ∧ ∀ w, beh rows marks (some a) w = beh rows' marks' (some b) w
def Ro (rows rows' : List Row) (marks marks' : List Bool) : Option Nat → Option Nat → Prop
  | none, none => True
  | some a, some b => Rl rows rows' marks marks' a b
  | _, _ => False
theorem rl_cls (A : Au k rows marks) (B : Au k rows' marks') {a x b y : Nat} (h : Rl rows rows' marks marks' a b) (g : Rl rows rows' marks marks' x y) : (clF rows marks).getD x 0 = (clF rows marks).getD a 0 ↔ (clF rows' marks').getD y 0 = (clF rows' marks').getD b 0 := by
  rw [clF_iff A g.1 h.1, clF_iff B g.2.1 h.2.1]
  constructor
  · intro q w; rw [← g.2.2, ← h.2.2]; exact q w
  · intro q w; rw [g.2.2, h.2.2]; exact q w
theorem rl_idx (A : Au k rows marks) (B : Au k rows' marks') {a b : Nat} (h : Rl rows rows' marks marks' a b) : ∀ {o o' : List Nat}, A2 (Rl rows rows' marks marks') o o' →
    ((clF rows marks).getD a 0 ∈ o.map ((clF rows marks).getD · 0) ↔ (clF rows' marks').getD b 0 ∈ o'.map ((clF rows' marks').getD · 0)) ∧ (o.map ((clF rows marks).getD · 0)).idxOf ((clF rows marks).getD a 0) = (o'.map ((clF rows' marks').getD · 0)).idxOf ((clF rows' marks').getD b 0)
  | _, _, .nil => ⟨by simp, rfl⟩
  | _, _, .cons (a := x) (b := y) g t => by
    obtain ⟨h1, h2⟩ := rl_idx A B h t
    have e := rl_cls A B h g
    simp only [List.map_cons, List.mem_cons, List.idxOf_cons]
    refine ⟨⟨?_, ?_⟩, ?_⟩
    · rintro (q | q)
      · exact .inl (e.mp q.symm).symm
      · exact .inr (h1.mp q)
    · rintro (q | q)
      · exact .inl (e.mpr q.symm).symm
      · exact .inr (h1.mpr q)
    · rw [h2]
      by_cases q : (clF rows marks).getD x 0 = (clF rows marks).getD a 0
      · have q2 := e.mp q
        rw [q, q2]; simp
      · have q2 : (clF rows' marks').getD y 0 ≠ (clF rows' marks').getD b 0 := fun z => q (e.mpr z)
        rw [beq_false_of_ne q, beq_false_of_ne q2]
theorem rl_row (A : Au k rows marks) (B : Au k rows' marks') : ∀ {r r' : Row} {o o' : List Nat} (out : Row), A2 (Ro rows rows' marks marks') r r' → A2 (Rl rows rows' marks marks') o o' →
    A2 (Rl rows rows' marks marks') (r.foldl (rg1 (clF rows marks)) (o, out)).1 (r'.foldl (rg1 (clF rows' marks')) (o', out)).1 ∧ (r.foldl (rg1 (clF rows marks)) (o, out)).2 = (r'.foldl (rg1 (clF rows' marks')) (o', out)).2
  | _, _, o, o', out, .nil, h => ⟨h, rfl⟩
  | _, _, o, o', out, .cons (a := oa) (b := ob) g t, h => by
    rw [List.foldl_cons, List.foldl_cons]
    cases oa with
    | none =>
      cases ob with
      | none => exact rl_row A B (out ++ [none]) t h
      | some _ => exact g.elim
    | some a =>
      cases ob with
      | none => exact g.elim
      | some b =>
        have g : Rl rows rows' marks marks' a b := g
        obtain ⟨i1, i2⟩ := rl_idx A B g h
        by_cases m : (clF rows marks).getD a 0 ∈ o.map ((clF rows marks).getD · 0)
        · have m' := i1.mp m
          have e1 : rg1 (clF rows marks) (o, out) (some a) = (o, out ++ [some ((o.map ((clF rows marks).getD · 0)).idxOf ((clF rows marks).getD a 0))]) := by
            unfold rg1; dsimp only; rw [if_pos m]
          have e2 : rg1 (clF rows' marks') (o', out) (some b) = (o', out ++ [some ((o'.map ((clF rows' marks').getD · 0)).idxOf ((clF rows' marks').getD b 0))]) := by
            unfold rg1; dsimp only; rw [if_pos m']
          rw [e1, e2, i2]
          exact rl_row A B _ t h
        · have m' := fun z => m (i1.mpr z)
          have h' : A2 (Rl rows rows' marks marks') (o ++ [a]) (o' ++ [b]) := h.append (.cons g .nil)
          obtain ⟨_, i3⟩ := rl_idx A B g h'
          have e1 : rg1 (clF rows marks) (o, out) (some a) = (o ++ [a], out ++ [some (((o ++ [a]).map ((clF rows marks).getD · 0)).idxOf ((clF rows marks).getD a 0))]) := by
            unfold rg1; dsimp only; rw [if_neg m]
          have e2 : rg1 (clF rows' marks') (o', out) (some b) = (o' ++ [b], out ++ [some (((o' ++ [b]).map ((clF rows' marks').getD · 0)).idxOf ((clF rows' marks').getD b 0))]) := by
            unfold rg1; dsimp only; rw [if_neg m']
          rw [e1, e2, i3]
          exact rl_row A B _ t h'
theorem rl_rows (A : Au k rows marks) (B : Au k rows' marks') {a b : Nat} (h : Rl rows rows' marks marks' a b) : A2 (Ro rows rows' marks marks') (rows.getD a []) (rows'.getD b []) := by
  have ra := getD_mem (d := []) h.1
  have rb := getD_mem (d := []) h.2.1
  refine A2.of (by rw [A.row _ ra, B.row _ rb]) fun x oa ob h1 h2 => ?_
  have key : ∀ w, beh rows marks oa w = beh rows' marks' ob w := fun w => by
    have q := h.2.2 (x :: w)
    rw [beh_cons, beh_cons] at q
    have q : beh rows marks ((rows.getD a [])[x]?.join) w = beh rows' marks' ((rows'.getD b [])[x]?.join) w := q
    rw [h1, h2] at q
    exact q
  cases oa with
  | none =>
    cases ob with
    | none => trivial
    | some y =>
      exfalso
      have q := key []
      have l2 := B.lt _ rb y (List.mem_of_getElem? h2)
      have q : (none : Option Bool) = marks'[y]? := q
      rw [List.getElem?_eq_getElem (by rw [B.len]; exact l2)] at q
      cases q
  | some xx =>
    have l1 := A.lt _ ra xx (List.mem_of_getElem? h1)
    cases ob with
    | none =>
      exfalso
      have q := key []
      have q : marks[xx]? = (none : Option Bool) := q
      rw [List.getElem?_eq_getElem (by rw [A.len]; exact l1)] at q
      cases q
    | some y => exact ⟨l1, B.lt _ rb y (List.mem_of_getElem? h2), key⟩
theorem rl_go (A : Au k rows marks) (B : Au k rows' marks') : ∀ (f : Nat) (st st' : List Nat × List Row), st.2 = st'.2 → A2 (Rl rows rows' marks marks') st.1 st'.1 →
    (cnGo rows (clF rows marks) f st).2 = (cnGo rows' (clF rows' marks') f st').2 ∧ A2 (Rl rows rows' marks marks') (cnGo rows (clF rows marks) f st).1 (cnGo rows' (clF rows' marks') f st').1
  | 0, st, st', e, h => ⟨e, h⟩
  | f + 1, st, st', e, h => by
    unfold cnGo
    rw [← e, ← h.length]
    split
    · rename_i q
      have h1 : st.1[st.2.length]? = some (st.1.getD st.2.length 0) := by
        rw [List.getD_eq_getElem?_getD, List.getElem?_eq_getElem q]; rfl
      have h2 : st'.1[st.2.length]? = some (st'.1.getD st.2.length 0) := by
        rw [List.getD_eq_getElem?_getD, List.getElem?_eq_getElem (by rw [← h.length]; exact q)]; rfl
      have r := h.get h1 h2
      obtain ⟨k1, k2⟩ := rl_row A B [] (rl_rows A B r) h
      refine rl_go A B f _ _ ?_ k1
      show st.2 ++ [_] = st.2 ++ [_]
      rw [show (rowGo (clF rows marks) (rows.getD (st.1.getD st.2.length 0) []) st.1).2 = (rowGo (clF rows' marks') (rows'.getD (st'.1.getD st.2.length 0) []) st'.1).2 from k2]
    · exact ⟨e, h⟩
/-- machines with the same words have the same least one -/
theorem cn_same (A : Au k rows marks) (B : Au k rows' marks') (h : ∀ w, beh rows marks (some 0) w = beh rows' marks' (some 0) w) : (cn rows marks).2 = (cn rows' marks').2 ∧ cnMarks rows marks = cnMarks rows' marks' := by
  have start : A2 (Rl rows rows' marks marks') [0] [0] := .cons ⟨List.length_pos_iff.mpr A.pos, List.length_pos_iff.mpr B.pos, h⟩ .nil
  have a1 := cnGo_fuel A (rows.length + 1) (rows.length + rows'.length + 1) ([0], []) (Cg.start A (clF rows marks)) (by simp) (by omega)
  have b1 := cnGo_fuel B (rows'.length + 1) (rows.length + rows'.length + 1) ([0], []) (Cg.start B (clF rows' marks')) (by simp) (by omega)
  obtain ⟨e, g⟩ := rl_go A B (rows.length + rows'.length + 1) ([0], []) ([0], []) rfl start
  rw [a1, b1] at e g
  refine ⟨e, ?_⟩
  unfold cnMarks
  have g : A2 (Rl rows rows' marks marks') (cn rows marks).1 (cn rows' marks').1 := g
  revert g
  generalize (cn rows marks).1 = o
  generalize (cn rows' marks').1 = o'
  intro g
  induction g with
  | nil => rfl
  | cons r _ ih =>
    rw [List.map_cons, List.map_cons, ih]
    congr 1
    have q := r.2.2 []
    rename_i a b _ _ _
    have q : marks[a]? = marks'[b]? := q
    rw [List.getD_eq_getElem?_getD, List.getD_eq_getElem?_getD, q]
end
end Q3
/-! Q6w: helpers of the plain parts: data of numbers, dicts of numbers, built-ins on them. -/
namespace Q3
open PySem PySem.Spec PyProof.Rows L2
theorem sl_eq : sizeLine = 16777216 := sizeLine_eq
abbrev iN (n : Nat) : D := .int (n : Nat)
def oD : Option Nat → D
  | none => .none
  | some n => iN n
def rwD (r : Row) : D := .tuple (r.map oD)
def rsD (rows : List Row) : List D := rows.map rwD
@[simp] theorem atI_nat {α : Type} (xs : List α) (i : Nat) : atI xs (i : Int) = xs[i]? := by
  unfold atI ixN
  by_cases h : i < xs.length
  · have h1 : (i : Int) < xs.length := by omega
    simp [h1]
  · rw [List.getElem?_eq_none (by omega)]
    have h1 : ¬ (i : Int) < xs.length := by omega
    have h2 : ¬ (i : Int) < 0 := by omega
    simp [h1, h2]
theorem iN_inj {a b : Nat} (h : iN a = iN b) : a = b := by
  unfold iN at h
  have := PyData.int.inj h
  omega
theorem iN_iff {a b : Nat} : iN a = iN b ↔ a = b := ⟨iN_inj, fun h => by rw [h]⟩
/-! a dict of numbers -/
def nmM (l : List D) : List (D × D) := l.zipIdx.map fun p => (p.1, iN p.2)
theorem nmM_nil : nmM [] = [] := rfl
theorem nmM_len (l : List D) : (nmM l).length = l.length := by simp [nmM]
theorem nmM_snoc (l : List D) (k : D) : nmM (l ++ [k]) = nmM l ++ [(k, iN l.length)] := by
  unfold nmM
  rw [List.zipIdx_append, List.map_append]
  simp
theorem nmM_any (l : List D) (k : D) : ((nmM l).any fun e => decide (e.1 = k)) = decide (k ∈ l) := by
  refine snocI (P := fun l => ((nmM l).any fun e => decide (e.1 = k)) = decide (k ∈ l)) (by simp [nmM]) (fun l a ih => ?_) l
  rw [nmM_snoc, List.any_append, ih]
  by_cases h : k ∈ l
  · simp [h]
  · simp [h, eq_comm]
theorem nmM_get (l : List D) (k : D) : getM (nmM l) k = if k ∈ l then some (iN (l.idxOf k)) else none := by
  refine snocI (P := fun l => getM (nmM l) k = if k ∈ l then some (iN (l.idxOf k)) else none) (by simp [nmM, getM]) (fun l a ih => ?_) l
  unfold getM at *
  rw [nmM_snoc, List.find?_append]
  by_cases h : k ∈ l
  · rw [if_pos h] at ih
    cases e : (nmM l).find? fun e => decide (e.1 = k) with
    | none => rw [e] at ih; cases ih
    | some q =>
      rw [e] at ih
      rw [if_pos (List.mem_append_left _ h), List.idxOf_append, if_pos h, ← ih]
      rfl
  · rw [if_neg h] at ih
    have e := Option.map_eq_none_iff.mp ih
    rw [e, List.idxOf_append, if_neg h]
    by_cases q : a = k
    · subst q; simp
    · have q2 : ¬ k = a := fun z => q z.symm
      simp [h, q, q2]
theorem nmM_put (l : List D) (k : D) (h : k ∉ l) : putM (nmM l) k (iN l.length) = nmM (l ++ [k]) := by
  unfold putM
  rw [nmM_any, decide_eq_false h, nmM_snoc]
  rfl
theorem nmM_ok (l : List D) (k : D) (c : Nat) (hc : c ≠ 0) (hk : kmode k = c) (h : ∀ x ∈ l, kmode x = c) : keyOk (nmM l) k = true := by
  unfold keyOk
  rw [Bool.and_eq_true]
  refine ⟨decide_eq_true (by rw [hk]; exact hc), List.all_eq_true.mpr fun q hq => decide_eq_true ?_⟩
  obtain ⟨⟨x, i⟩, m, rfl⟩ := List.mem_map.mp hq
  rw [hk]
  exact h _ (by
    have := List.mem_zipIdx m
    rw [this.2.2]
    exact List.getElem_mem _)
theorem take_snoc {α : Type} {l : List α} {i : Nat} {d : α} (h : l[i]? = some d) : l.take (i + 1) = l.take i ++ [d] := by
  rw [List.take_succ, h]; rfl
theorem lt_of_get {α : Type} {l : List α} {i : Nat} {d : α} (h : l[i]? = some d) : i < l.length := (List.getElem?_eq_some_iff.mp h).1
theorem nbS_le (ks : List D) : (nbS ks).1.length ≤ ks.length := by
  refine snocI (P := fun ks : List D => (nbS ks).1.length ≤ ks.length) (Nat.le_refl _) (fun l a ih => ?_) ks
  rw [nbS_snoc]
  by_cases h : a ∈ (nbS l).1
  · rw [nb1_in h]; simp; omega
  · rw [nb1_new h]; simp; omega
/-! built-ins, step by step -/
@[simp] theorem tuple_l (xs : List D) : gTuple (.list xs) = some (.v (.tuple xs)) := rfl
@[simp] theorem tuple_t (xs : List D) : gTuple (.tuple xs) = some (.v (.tuple xs)) := rfl
@[simp] theorem list_l (xs : List D) : gList (.list xs) = some (.o (.l xs)) := rfl
@[simp] theorem list_t (xs : List D) : gList (.tuple xs) = some (.o (.l xs)) := rfl
@[simp] theorem eq_i (a b : Int) : gEq (.int a) (.int b) = some (.v (.bool (decide (a = b)))) := by
  show some (PV.v (.bool (a == b))) = _
  rfl
@[simp] theorem ne_i (a b : Int) : gNe (.int a) (.int b) = some (.v (.bool (!decide (a = b)))) := by
  show some (PV.v (.bool (!(a == b)))) = _
  rfl
@[simp] theorem neg_i (i : Int) : gNeg (.int i) = some (.v (.int (-i))) := rfl
@[simp] theorem ev_bk (S : Sq) : bkF S = .bk S := rfl
@[simp] theorem oD_none : oD none = .none := rfl
@[simp] theorem oD_some (n : Nat) : oD (some n) = iN n := rfl
theorem shaped_iN (l : List Nat) : SeqAt.shaped (.list (l.map iN)) = true ∧ SeqAt.shaped (.tuple (l.map iN)) = true := by
  have h1 : ∀ l : List Nat, PyData.canLayAll0 (l.map iN) = true := by
    intro l
    induction l with
    | nil => rfl
    | cons a l ih => simpa [PyData.canLayAll0, PyData.canLay0, iN] using ih
  have h2 : ∀ l : List Nat, PyData.depthAll (l.map iN) = 0 := by
    intro l
    induction l with
    | nil => rfl
    | cons a l ih => simpa [PyData.depthAll, PyData.depth, iN] using ih
  constructor <;> simp [SeqAt.shaped, PyData.canLay0, PyData.depth, h1, h2]
theorem any_iN (l : List Nat) (a : Nat) : ((l.map iN).any fun z => PyData.eqv z (iN a)) = decide (a ∈ l) := by
  induction l with
  | nil => rfl
  | cons x l ih =>
    rw [List.map_cons, List.any_cons, ih]
    have : PyData.eqv (iN x) (iN a) = decide (x = a) := by
      show ((x : Int) == (a : Int)) = _
      by_cases h : x = a
      · subst h; simp
      · have h' : ¬ ((x : Int) = (a : Int)) := by omega
        simp [h, h']
    rw [this]
    by_cases h : x = a
    · subst h; simp
    · have h' : ¬ a = x := fun z => h z.symm
      simp [h, h']
@[simp] theorem in_l (neg : Bool) (a : Nat) (l : List Nat) : gIn neg (iN a) (.list (l.map iN)) = some (.v (.bool (if neg then !decide (a ∈ l) else decide (a ∈ l)))) := by
  unfold gIn
  show (if (SeqAt.shaped (iN a) && SeqAt.shaped (.list (l.map iN))) = true then _ else none) = _
  rw [(shaped_iN l).1, show SeqAt.shaped (iN a) = true from rfl]
  simp only [Bool.and_self, if_true, any_iN]
@[simp] theorem in_t (neg : Bool) (a : Nat) (l : List Nat) : gIn neg (iN a) (.tuple (l.map iN)) = some (.v (.bool (if neg then !decide (a ∈ l) else decide (a ∈ l)))) := by
  unfold gIn
  show (if (SeqAt.shaped (iN a) && SeqAt.shaped (.tuple (l.map iN))) = true then _ else none) = _
  rw [(shaped_iN l).2, show SeqAt.shaped (iN a) = true from rfl]
  simp only [Bool.and_self, if_true, any_iN]
theorem intsOf_iN (l : List Nat) : intsOf (l.map iN) = some (l.map fun n : Nat => (n : Int)) := by
  letI : TabSet := ⟨[]⟩
  have := intsOf_map (l.map fun n : Nat => (n : Int))
  rw [List.map_map] at this
  exact this
theorem mostI_iN : ∀ {l : List Nat}, l ≠ [] → mostI (l.map fun n : Nat => (n : Int)) = (nmax l : Nat)
  | [a], _ => by simp [mostI, nmax]
  | a :: b :: l, _ => by
    have ih := mostI_iN (l := b :: l) (by simp)
    show max (a : Int) (mostI ((b :: l).map fun n : Nat => (n : Int))) = _
    rw [ih]
    have : nmax (a :: b :: l) = max a (nmax (b :: l)) := by
      show (b :: l).foldl max (max 0 a) = _
      rw [foldl_max]
      omega
    rw [this]
    omega
theorem most_iN {l : List Nat} (h : l ≠ []) : gMost (.list (l.map iN)) = some (.v (iN (nmax l))) := by
  unfold gMost
  dsimp only
  rw [intsOf_iN]
  have : (l.map fun n : Nat => (n : Int)) ≠ [] := by simpa using h
  simp [this, mostI_iN h, iN]
theorem kmode_iN (n : Nat) : kmode (iN n) = 1 := rfl
theorem keyA_map {α : Type} (f : α → D) (l : List α) (h : ∀ a ∈ l, keyD (f a) = true) : keyA (l.map f) = true := by
  induction l with
  | nil => rfl
  | cons a l ih =>
    rw [List.map_cons, keyA, h a List.mem_cons_self, ih fun x m => h x (List.mem_cons_of_mem _ m)]
    rfl
theorem depthAll_map {α : Type} (f : α → D) (k : Nat) (l : List α) (h : ∀ a ∈ l, (f a).depth ≤ k) : PyData.depthAll (l.map f) ≤ k := by
  induction l with
  | nil => exact Nat.zero_le _
  | cons a l ih =>
    rw [List.map_cons, PyData.depthAll]
    exact Nat.max_le.mpr ⟨h a List.mem_cons_self, ih fun x m => h x (List.mem_cons_of_mem _ m)⟩
theorem enumG {xs : List D} {i : Nat} {d : D} (h : (enumD 0 xs)[i]? = some d) : ∃ x, xs[i]? = some x ∧ d = .tuple [iN i, x] := by
  letI : TabSet := ⟨[]⟩
  rw [enumD_get] at h
  obtain ⟨x, h1, h2⟩ := Option.map_eq_some_iff.mp h
  refine ⟨x, h1, ?_⟩
  rw [← h2, Nat.zero_add]
@[simp] theorem enumL (n : Nat) (xs : List D) : (enumD n xs).length = xs.length := by
  letI : TabSet := ⟨[]⟩
  exact enumD_length n xs
theorem rngG {n i : Nat} {d : D} (h : (rngD 0 n)[i]? = some d) : i < n ∧ d = iN i := by
  unfold rngD at h
  rw [List.getElem?_map] at h
  obtain ⟨x, h1, h2⟩ := Option.map_eq_some_iff.mp h
  have hl := lt_of_get h1
  rw [List.length_range] at hl
  rw [List.getElem?_range hl] at h1
  cases h1
  exact ⟨hl, by rw [← h2, Int.zero_add]⟩
@[simp] theorem rngL (n : Nat) : (rngD 0 n).length = n := by simp [rngD]
theorem mapG {α : Type} {f : α → D} {l : List α} {i : Nat} {d : D} (h : (l.map f)[i]? = some d) : ∃ x, l[i]? = some x ∧ d = f x := by
  rw [List.getElem?_map] at h
  obtain ⟨x, h1, h2⟩ := Option.map_eq_some_iff.mp h
  exact ⟨x, h1, h2.symm⟩
/-! loops: what a turn gives -/
def Nxt (P : Sq → Prop) (Z : Fl → Prop) (fl : Fl) : Prop := (∃ S, fl = .nx S ∧ P S) ∨ (∃ S, fl = .ct S ∧ P S) ∨ (∃ S, fl = .bk S ∧ Z (.nx S)) ∨ ∃ r S, fl = .rt r S ∧ Z (.rt r S)
@[simp] theorem nxt_nx (P : Sq → Prop) (Z : Fl → Prop) (S : Sq) : Nxt P Z (.nx S) ↔ P S := by
  constructor
  · rintro (⟨S, e, h⟩ | ⟨S, e, h⟩ | ⟨S, e, h⟩ | ⟨r, S, e, h⟩) <;> cases e
    exact h
  · exact fun h => .inl ⟨_, rfl, h⟩
@[simp] theorem nxt_ct (P : Sq → Prop) (Z : Fl → Prop) (S : Sq) : Nxt P Z (.ct S) ↔ P S := by
  constructor
  · rintro (⟨S, e, h⟩ | ⟨S, e, h⟩ | ⟨S, e, h⟩ | ⟨r, S, e, h⟩) <;> cases e
    exact h
  · exact fun h => .inr (.inl ⟨_, rfl, h⟩)
@[simp] theorem nxt_bk (P : Sq → Prop) (Z : Fl → Prop) (S : Sq) : Nxt P Z (.bk S) ↔ Z (.nx S) := by
  constructor
  · rintro (⟨S, e, h⟩ | ⟨S, e, h⟩ | ⟨S, e, h⟩ | ⟨r, S, e, h⟩) <;> cases e
    exact h
  · exact fun h => .inr (.inr (.inl ⟨_, rfl, h⟩))
@[simp] theorem nxt_rt (P : Sq → Prop) (Z : Fl → Prop) (r : R) (S : Sq) : Nxt P Z (.rt r S) ↔ Z (.rt r S) := by
  constructor
  · rintro (⟨S, e, h⟩ | ⟨S, e, h⟩ | ⟨S, e, h⟩ | ⟨r, S, e, h⟩) <;> cases e
    exact h
  · exact fun h => .inr (.inr (.inr ⟨_, _, rfl, h⟩))
theorem for_z {t : Tg} {g : Sq → Fl} {Z : Fl → Prop} : ∀ {ds : List D} {S : Sq} {L : Fl} (hL : forF t g ds S = L) (P : Nat → Sq → Prop) (h0 : P 0 S)
    (step : ∀ (i : Nat) (d : D) (S : Sq), ds[i]? = some d → P i S → Nxt (P (i + 1)) Z (turn t g d S)) (fin : ∀ S, P ds.length S → Z (.nx S)), Z L
  | [], S, L, hL, P, h0, _, fin => by
    rw [← hL]
    exact fin S h0
  | d :: ds, S, L, hL, P, h0, step, fin => by
    have q := step 0 d S rfl h0
    unfold forF at hL
    unfold turn at q
    cases c : t.put S d with
    | none =>
      rw [c] at q
      rcases q with ⟨S2, e, _⟩ | ⟨S2, e, _⟩ | ⟨S2, e, _⟩ | ⟨r, S2, e, _⟩ <;> cases e
    | some S1 =>
      rw [c] at q hL
      dsimp only at q hL
      rcases q with ⟨S2, e, h⟩ | ⟨S2, e, h⟩ | ⟨S2, e, h⟩ | ⟨r, S2, e, h⟩
      · rw [e] at hL
        exact for_z hL (fun i => P (i + 1)) h (fun i x S hx hp => step (i + 1) x S hx hp) fin
      · rw [e] at hL
        exact for_z hL (fun i => P (i + 1)) h (fun i x S hx hp => step (i + 1) x S hx hp) fin
      · rw [e] at hL
        rw [← hL]; exact h
      · rw [e] at hL
        rw [← hL]; exact h
/-- a loop without an early end -/
theorem for_n {t : Tg} {g : Sq → Fl} {ds : List D} {S : Sq} {L : Fl} (hL : forF t g ds S = L) (P : Nat → Sq → Prop) (h0 : P 0 S)
    (step : ∀ (i : Nat) (d : D) (S : Sq), ds[i]? = some d → P i S → Nxt (P (i + 1)) (fun _ => False) (turn t g d S)) : ∃ S', L = .nx S' ∧ P ds.length S' := by
  refine for_z (Z := fun L => ∃ S', L = .nx S' ∧ P ds.length S') hL P h0 (fun i d S hd hp => ?_) fun S h => ⟨S, rfl, h⟩
  rcases step i d S hd hp with h | h | ⟨S2, _, h⟩ | ⟨r, S2, _, h⟩
  · exact .inl h
  · exact .inr (.inl h)
  · exact h.elim
  · exact h.elim
def wturn1 (g : Sq → Fl) : Out Bool → Fl
  | .ok b S => if b = true then g S else .bk S
  | .ex c S => .ex c S
  | .no => .no
def wturn (tt : Sq → Out Bool) (g : Sq → Fl) (S : Sq) : Fl := wturn1 g (tt S)
@[simp] theorem ev_wturn (tt : Sq → Out Bool) (g : Sq → Fl) (S : Sq) : wturn tt g S = wturn1 g (tt S) := rfl
@[simp] theorem wturn1_ok (g : Sq → Fl) (b : Bool) (S : Sq) : wturn1 g (.ok b S) = if b = true then g S else .bk S := rfl
theorem wh_z {tt : Sq → Out Bool} {g : Sq → Fl} {Z : Fl → Prop} : ∀ {n : Nat} {S : Sq} {L : Fl} (hL : whF tt g n S = L) (P : Nat → Sq → Prop) (h0 : P 0 S) (hn : ∀ S, ¬ P n S)
    (step : ∀ (i : Nat) (S : Sq), i < n → P i S → Nxt (P (i + 1)) Z (wturn tt g S)), Z L
  | 0, S, L, hL, P, h0, hn, _ => absurd h0 (hn S)
  | n + 1, S, L, hL, P, h0, hn, step => by
    unfold whF at hL
    have q := step 0 S (Nat.succ_pos _) h0
    unfold wturn at q
    cases c : tt S with
    | no => rw [c] at q; rcases q with ⟨S2, e, _⟩ | ⟨S2, e, _⟩ | ⟨S2, e, _⟩ | ⟨r, S2, e, _⟩ <;> cases e
    | ex x S1 => rw [c] at q; rcases q with ⟨S2, e, _⟩ | ⟨S2, e, _⟩ | ⟨S2, e, _⟩ | ⟨r, S2, e, _⟩ <;> cases e
    | ok b S1 =>
      rw [c] at q hL
      rw [wturn1_ok] at q
      simp only [Out.fl_ok] at hL
      cases b with
      | false =>
        simp at q hL
        rw [← hL]; exact q
      | true =>
        simp only [if_true] at q hL
        rcases q with ⟨S2, e, h⟩ | ⟨S2, e, h⟩ | ⟨S2, e, h⟩ | ⟨r, S2, e, h⟩
        · rw [e] at hL
          exact wh_z hL (fun i => P (i + 1)) h (fun S => hn S) (fun i S hi hp => step (i + 1) S (by omega) hp)
        · rw [e] at hL
          exact wh_z hL (fun i => P (i + 1)) h (fun S => hn S) (fun i S hi hp => step (i + 1) S (by omega) hp)
        · rw [e] at hL
          rw [← hL]; exact h
        · rw [e] at hL
          rw [← hL]; exact h
/-- a comprehension over mapped data, that leaves the state -/
theorem lc_m {α : Type} {t : Tg} {te : Sq → Out PV} {vs : List Nat} {xs : List α} {h : α → D} {S : Sq} (f : α → D) (fit : plainAt S vs = true) (hn : xs.length ≤ sizeLine)
    (q : ∀ a ∈ xs, ∃ S', lct0 yesF te (t.put { S with r := wipeR S.r vs } (h a)) = .ok (some (f a)) S' ∧ wipeR S'.r vs = wipeR S.r vs ∧ S'.p = S.p) :
    lc1 t yesF te vs (.ok (xs.map h) S) = .ok (.o (.l (xs.map f))) S := by
  have ww : ∀ (r : List R) (vs : List Nat), wipeR (wipeR r vs) vs = wipeR r vs := fun r vs => by
    apply List.ext_getElem?
    intro x
    by_cases m : x ∈ vs
    · by_cases hx : x < r.length
      · rw [wipeR_idem _ vs x m (by rw [wipeR_len]; exact hx), wipeR_idem _ vs x m hx]
      · rw [List.getElem?_eq_none (by rw [wipeR_len, wipeR_len]; omega), List.getElem?_eq_none (by rw [wipeR_len]; omega)]
    · rw [wipeR_ne _ vs x m]
  have key : ∀ (xs : List α) (S1 : Sq) (acc : List D), acc.length + xs.length ≤ sizeLine → wipeR S1.r vs = wipeR S.r vs → S1.p = S.p →
      (∀ a ∈ xs, ∃ S', lct0 yesF te (t.put { S with r := wipeR S.r vs } (h a)) = .ok (some (f a)) S' ∧ wipeR S'.r vs = wipeR S.r vs ∧ S'.p = S.p) →
      ∃ S', lcF t yesF te vs (xs.map h) S1 acc = .ok (acc ++ xs.map f) S' ∧ wipeR S'.r vs = wipeR S.r vs ∧ S'.p = S.p := fun xs => by
    induction xs with
    | nil => exact fun S1 acc _ w h _ => ⟨S1, by simp [lcF], w, h⟩
    | cons a xs ih =>
      intro S1 acc hl w hp st
      obtain ⟨S2, e, w2, h2⟩ := st a List.mem_cons_self
      rw [List.length_cons] at hl
      have e2 : lct0 yesF te (t.put { S1 with r := wipeR S1.r vs } (h a)) = .ok (some (f a)) S2 := by rw [w, hp]; exact e
      rw [List.map_cons, lc_turn e2 (by omega)]
      obtain ⟨S3, e3, w3, h3⟩ := ih S2 (acc ++ [f a]) (by simp; omega) w2 h2 fun x hx => st x (List.mem_cons_of_mem _ hx)
      exact ⟨S3, by rw [show (some (f a)).toList = [f a] from rfl, e3]; simp, w3, h3⟩
  obtain ⟨S', e, w, hp⟩ := key xs { S with r := wipeR S.r vs } [] (by simpa using hn) (ww _ _) rfl q
  rw [lc1_ok, if_pos fit, e, lc3_ok, back_eq w]
  simp only [List.nil_append]
  congr 1
  cases S; cases S'
  simp only at hp
  rw [hp]
/-- how a def's body ends -/
def rtQ (Q : R → Option Pen → Prop) : Fl → Prop
  | .rt r S => Q r S.p
  | _ => False
@[simp] theorem rtQ_rt (Q : R → Option Pen → Prop) (r : R) (S : Sq) : rtQ Q (.rt r S) ↔ Q r S.p := Iff.rfl
theorem rtQ_run {Q : R → Option Pen → Prop} {L : Fl} (h : rtQ Q L) : ∃ r p, rz (run1 L) = .ok r p ∧ Q r p := by
  cases L <;> first | exact h.elim | exact ⟨_, _, rfl, h⟩
/-- how a loop ends that is followed -/
def nxQ (P : Sq → Prop) : Fl → Prop
  | .nx S => P S
  | _ => False
@[simp] theorem nxQ_nx (P : Sq → Prop) (S : Sq) : nxQ P (.nx S) ↔ P S := Iff.rfl
theorem nxQ_of {P : Sq → Prop} {L : Fl} (h : nxQ P L) : ∃ S, L = .nx S ∧ P S := by
  cases L <;> first | exact h.elim | exact ⟨_, rfl, h⟩
/-- a list, one's own or given -/
def LR (xs : List D) (r : R) : Prop := r = .l xs ∨ r = .d (.list xs)
/-! a dict from numbers to numbers, in order -/
def nuM (l : List Nat) : List (D × D) := nmM (l.map iN)
theorem mem_iN {l : List Nat} {v : Nat} : iN v ∈ l.map iN ↔ v ∈ l := by
  constructor
  · intro h
    obtain ⟨x, m, e⟩ := List.mem_map.mp h
    rw [← iN_inj e]; exact m
  · exact List.mem_map_of_mem
theorem idx_iN (l : List Nat) (v : Nat) : (l.map iN).idxOf (iN v) = l.idxOf v := by
  induction l with
  | nil => rfl
  | cons a l ih =>
    rw [List.map_cons, List.idxOf_cons, List.idxOf_cons, ih]
    by_cases h : a = v
    · subst h; simp
    · have : ¬ iN a = iN v := fun e => h (iN_inj e)
      rw [beq_false_of_ne h, beq_false_of_ne this]
theorem nuM_get (l : List Nat) (v : Nat) : getM (nuM l) (iN v) = if v ∈ l then some (iN (l.idxOf v)) else none := by
  unfold nuM
  rw [nmM_get, idx_iN]
  simp only [mem_iN]
theorem nuM_put (l : List Nat) (v : Nat) (h : v ∉ l) : putM (nuM l) (iN v) (iN l.length) = nuM (l ++ [v]) := by
  unfold nuM
  have := nmM_put (l.map iN) (iN v) (fun m => h (mem_iN.mp m))
  rw [List.length_map] at this
  rw [this, List.map_append]
  rfl
theorem nuM_len (l : List Nat) : (nuM l).length = l.length := by rw [nuM, nmM_len, List.length_map]
theorem nuM_ok (l : List Nat) (v : Nat) : keyOk (nuM l) (iN v) = true := nmM_ok _ _ 1 (by decide) rfl fun x m => by
  obtain ⟨y, _, rfl⟩ := List.mem_map.mp m
  rfl
/-- the places of truths -/
def trAt : Nat → List Bool → List Nat
  | _, [] => []
  | k, b :: bs => if b then k :: trAt (k + 1) bs else trAt (k + 1) bs
theorem trAt_enum {α : Type} (h : α → D) (b : α → Bool) (f : D → Option D) : ∀ (xs : List α) (k : Nat), (∀ i a, a ∈ xs → f (.tuple [iN i, h a]) = if b a then some (iN i) else none) → (enumD k (xs.map h)).filterMap f = (trAt k (xs.map b)).map iN
  | [], _, _ => rfl
  | a :: xs, k, hf => by
    have e := hf k a List.mem_cons_self
    have ih := trAt_enum h b f xs (k + 1) fun i x m => hf i x (List.mem_cons_of_mem _ m)
    show (PyData.tuple [iN k, h a] :: enumD (k + 1) (xs.map h)).filterMap f = _
    rw [List.map_cons, trAt]
    cases q : b a with
    | true =>
      rw [q] at e
      rw [List.filterMap_cons_some e, ih]
      rfl
    | false =>
      rw [q] at e
      rw [List.filterMap_cons_none e, ih]
      rfl
theorem mem_trAt : ∀ (bs : List Bool) (k s : Nat), s ∈ trAt k bs ↔ k ≤ s ∧ bs[s - k]? = some true
  | [], k, s => by simp [trAt]
  | b :: bs, k, s => by
    have ih := mem_trAt bs (k + 1) s
    have split : k ≤ s → s ≠ k → (b :: bs)[s - k]? = bs[s - (k + 1)]? := fun h1 h2 => by
      rw [show s - k = (s - (k + 1)) + 1 by omega, List.getElem?_cons_succ]
    unfold trAt
    by_cases e : s = k
    · subst e
      rw [Nat.sub_self, List.getElem?_cons_zero]
      cases b with
      | true => simp
      | false =>
        simp [ih]
        intro h
        omega
    · cases b with
      | true =>
        simp only [if_true, List.mem_cons, ih]
        constructor
        · rintro (h | ⟨h1, h2⟩)
          · exact absurd h e
          · exact ⟨by omega, by rw [split (by omega) e]; exact h2⟩
        · rintro ⟨h1, h2⟩
          exact .inr ⟨by omega, by rw [← split h1 e]; exact h2⟩
      | false =>
        simp only [Bool.false_eq_true, if_false, ih]
        constructor
        · rintro ⟨h1, h2⟩
          exact ⟨by omega, by rw [split (by omega) e]; exact h2⟩
        · rintro ⟨h1, h2⟩
          exact ⟨by omega, by rw [← split h1 e]; exact h2⟩
theorem trAt_len (bs : List Bool) : ∀ k, (trAt k bs).length ≤ bs.length := by
  induction bs with
  | nil => intro k; exact Nat.le_refl _
  | cons b bs ih =>
    intro k
    have := ih (k + 1)
    unfold trAt
    split
    · simp; omega
    · simp; omega
theorem LR.var {xs : List D} {r : R} (h : LR xs r) (i : Nat) (S : Sq) : var1 i S (some r) = .ok (.s i) S := by rcases h with rfl | rfl <;> rfl
theorem LR.val {xs : List D} {r : R} (h : LR xs r) : valR (some r) = some (.list xs) := by rcases h with rfl | rfl <;> rfl
theorem LR.set {xs : List D} {r : R} (h : LR xs r) (i : Nat) (S : Sq) : set1 i (bin4 S (toPV r)) = if i < S.r.length then .nx { S with r := S.r.set i r } else .no := by rcases h with rfl | rfl <;> rfl
@[simp] theorem atI_zero {α : Type} (xs : List α) : atI xs 0 = xs[0]? := atI_nat xs 0
@[simp] theorem atI_one {α : Type} (xs : List α) : atI xs 1 = xs[1]? := atI_nat xs 1
@[simp] theorem atI_two {α : Type} (xs : List α) : atI xs 2 = xs[2]? := atI_nat xs 2
@[simp] theorem atI_three {α : Type} (xs : List α) : atI xs 3 = xs[3]? := atI_nat xs 3
theorem atI_last {α : Type} (xs : List α) (a : α) : atI (xs ++ [a]) (-1) = some a := by
  unfold atI ixN
  have h1 : ¬ (0 : Int) ≤ -1 := by decide
  have h2 : (1 : Int) ≤ xs.length + 1 := by omega
  have h3 : (-1 + ((xs.length : Int) + 1)).toNat = xs.length := by omega
  simp [h1, h2, h3]
theorem wipe2 (r : List R) {vs vs1 : List Nat} (h : ∀ v ∈ vs1, v ∈ vs) : wipeR (wipeR r vs1) vs = wipeR r vs := by
  apply List.ext_getElem?
  intro x
  by_cases m : x ∈ vs
  · by_cases hx : x < r.length
    · rw [wipeR_idem _ vs x m (by rw [wipeR_len]; exact hx), wipeR_idem _ vs x m hx]
    · rw [List.getElem?_eq_none (by rw [wipeR_len, wipeR_len]; omega), List.getElem?_eq_none (by rw [wipeR_len]; omega)]
  · rw [wipeR_ne _ vs x m, wipeR_ne _ vs1 x (fun q => m (h x q)), wipeR_ne _ vs x m]
theorem lcF_m {α : Type} {t : Tg} {te : Sq → Out PV} {vs : List Nat} {h : α → D} {S : Sq} (f : α → D) : ∀ (xs : List α) (S1 : Sq) (acc : List D), acc.length + xs.length ≤ sizeLine → wipeR S1.r vs = wipeR S.r vs → S1.p = S.p →
      (∀ a ∈ xs, ∃ S', lct0 yesF te (t.put { S with r := wipeR S.r vs } (h a)) = .ok (some (f a)) S' ∧ wipeR S'.r vs = wipeR S.r vs ∧ S'.p = S.p) →
      ∃ S', lcF t yesF te vs (xs.map h) S1 acc = .ok (acc ++ xs.map f) S' ∧ wipeR S'.r vs = wipeR S.r vs ∧ S'.p = S.p := fun xs => by
    induction xs with
    | nil => exact fun S1 acc _ w h _ => ⟨S1, by simp [lcF], w, h⟩
    | cons a xs ih =>
      intro S1 acc hl w hp st
      obtain ⟨S2, e, w2, h2⟩ := st a List.mem_cons_self
      rw [List.length_cons] at hl
      have e2 : lct0 yesF te (t.put { S1 with r := wipeR S1.r vs } (h a)) = .ok (some (f a)) S2 := by rw [w, hp]; exact e
      rw [List.map_cons, lc_turn e2 (by omega)]
      obtain ⟨S3, e3, w3, h3⟩ := ih S2 (acc ++ [f a]) (by simp only [List.length_append, List.length_singleton]; omega) w2 h2 fun x hx => st x (List.mem_cons_of_mem _ hx)
      exact ⟨S3, by rw [show (some (f a)).toList = [f a] from rfl, e3]; simp, w3, h3⟩
/-- two fors that leave the state -/
theorem lc2_m {α β : Type} {t t1 : Tg} {fi1 : Sq → Out (List D)} {te : Sq → Out PV} {vs vs1 : List Nat} {xs : List α} {h : α → D} {S : Sq} (ys : α → List β) (h1 : β → D) (f : α → β → D) (fit : plainAt S vs = true) (sub : ∀ v ∈ vs1, v ∈ vs) (hn : (xs.flatMap fun a => (ys a).map (f a)).length ≤ sizeLine)
    (q : ∀ a ∈ xs, ∃ S1, t.put { S with r := wipeR S.r vs } (h a) = some S1 ∧ S1.p = S.p ∧ wipeR S1.r vs = wipeR S.r vs ∧ fi1 S1 = .ok ((ys a).map h1) S1 ∧ ∀ b ∈ ys a, ∃ S', lct0 yesF te (t1.put { S1 with r := wipeR S1.r vs1 } (h1 b)) = .ok (some (f a b)) S' ∧ wipeR S'.r vs1 = wipeR S1.r vs1 ∧ S'.p = S1.p) :
    lc21 t yesF t1 fi1 yesF te vs vs1 (.ok (xs.map h) S) = .ok (.o (.l (xs.flatMap fun a => (ys a).map (f a)))) S := by
  have key : ∀ (xs : List α) (S1 : Sq) (acc : List D), acc.length + (xs.flatMap fun a => (ys a).map (f a)).length ≤ sizeLine → wipeR S1.r vs = wipeR S.r vs → S1.p = S.p →
      (∀ a ∈ xs, ∃ S1, t.put { S with r := wipeR S.r vs } (h a) = some S1 ∧ S1.p = S.p ∧ wipeR S1.r vs = wipeR S.r vs ∧ fi1 S1 = .ok ((ys a).map h1) S1 ∧ ∀ b ∈ ys a, ∃ S', lct0 yesF te (t1.put { S1 with r := wipeR S1.r vs1 } (h1 b)) = .ok (some (f a b)) S' ∧ wipeR S'.r vs1 = wipeR S1.r vs1 ∧ S'.p = S1.p) →
      ∃ S', lcF2 t yesF fi1 t1 yesF te vs vs1 (xs.map h) S1 acc = .ok (acc ++ xs.flatMap fun a => (ys a).map (f a)) S' ∧ wipeR S'.r vs = wipeR S.r vs ∧ S'.p = S.p := fun xs => by
    induction xs with
    | nil => exact fun S1 acc _ w h _ => ⟨S1, by simp [lcF2], w, h⟩
    | cons a xs ih =>
      intro S1 acc hl w hp st
      obtain ⟨S2, e, p2, w2, e2, inner⟩ := st a List.mem_cons_self
      rw [List.flatMap_cons, List.length_append] at hl
      rw [List.map_cons, lcF2]
      have e' : t.put { S1 with r := wipeR S1.r vs } (h a) = some S2 := by rw [w, hp]; exact e
      rw [e']
      have len : ((ys a).map (f a)).length = (ys a).length := List.length_map ..
      obtain ⟨S3, e3, w3, p3⟩ := lcF_m (S := S2) (f a) (ys a) { S2 with r := wipeR S2.r vs1 } acc (by omega) (wipe2 _ fun _ m => m) rfl inner
      have w4 : wipeR S3.r vs = wipeR S.r vs := by
        rw [← wipe2 S3.r sub, w3, wipe2 S2.r sub, w2]
      obtain ⟨S5, e5, w5, p5⟩ := ih S3 (acc ++ (ys a).map (f a)) (by rw [List.length_append]; omega) w4 (by rw [p3, p2]) fun x hx => st x (List.mem_cons_of_mem _ hx)
      refine ⟨S5, ?_, w5, p5⟩
      simp only [ev_yes, Out.quiet, Out.bind_ok, if_true]
      rw [e2]
      simp only [Out.quiet, Out.bind_ok]
      rw [e3]
      simp only [Out.bind_ok]
      rw [e5, List.flatMap_cons, List.append_assoc]
  obtain ⟨S', e, w, hp⟩ := key xs { S with r := wipeR S.r vs } [] (by rw [List.length_nil, Nat.zero_add]; exact hn) (wipe2 _ fun _ m => m) rfl q
  rw [lc21_ok, if_pos fit, e, lc3_ok, back_eq w]
  simp only [List.nil_append]
  congr 1
  cases S; cases S'
  simp only at hp
  rw [hp]
@[simp] theorem sl_eqS : sizeLine = 16777216 := sl_eq
@[simp] theorem isi_int (t : Ty) (i : Int) : gIsi t (.int i) = some (.v (.bool (isTy t (.int i)))) := rfl
@[simp] theorem isi_bool (t : Ty) (i : Bool) : gIsi t (.bool i) = some (.v (.bool (isTy t (.bool i)))) := rfl
@[simp] theorem isi_str (t : Ty) (i : Str) : gIsi t (.str i) = some (.v (.bool (isTy t (.str i)))) := rfl
@[simp] theorem isi_tuple (t : Ty) (i : List D) : gIsi t (.tuple i) = some (.v (.bool (isTy t (.tuple i)))) := rfl
@[simp] theorem isi_list (t : Ty) (i : List D) : gIsi t (.list i) = some (.v (.bool (isTy t (.list i)))) := rfl
@[simp] theorem isi_none (t : Ty) : gIsi t .none = some (.v (.bool (isTy t .none))) := rfl
@[simp] theorem isi_dict (t : Ty) : gIsi t (.dict []) = some (.v (.bool (isTy t (.dict [])))) := rfl
@[simp] theorem add_t (a b : List D) : gAdd (.tuple a) (.tuple b) = if a.length + b.length ≤ sizeLine then some (.v (.tuple (a ++ b))) else none := rfl
def drop1 : Out PV → Fl
  | .ok _ S => .nx S
  | .ex c S => .ex c S
  | .no => .no
@[simp] theorem ev_drop (fa : Sq → Out PV) (S : Sq) : dropF fa S = drop1 (fa S) := by
  unfold dropF drop1
  cases fa S <;> rfl
@[simp] theorem drop1_ok (p : PV) (S : Sq) : drop1 (.ok p S) = .nx S := rfl
@[simp] theorem drop1_ex (c : Str) (S : Sq) : drop1 (.ex c S) = .ex c S := rfl
end Q3
/-! Q7v: None in a dict, dict(pairs), list(range(a, b)), pop: step by step. -/
namespace Q3
open PySem PySem.Spec PyProof.Rows L2
@[simp] theorem inN_none (neg : Bool) (kvs : List (D × D)) : gInN neg .none (.dict kvs) = if plainK kvs = true then some (.v (.bool neg)) else none := rfl
@[simp] theorem inN_int (neg : Bool) (i : Int) (d : D) : gInN neg (.int i) d = gInM neg (.int i) d := rfl
@[simp] theorem inN_tup (neg : Bool) (xs : List D) (d : D) : gInN neg (.tuple xs) d = gInM neg (.tuple xs) d := rfl
@[simp] theorem inN_str (neg : Bool) (x : Str) (d : D) : gInN neg (.str x) d = gInM neg (.str x) d := rfl
@[simp] theorem inN_l (neg : Bool) (d : D) (xs : List D) : gInN neg d (.list xs) = gIn neg d (.list xs) := by cases d <;> rfl
@[simp] theorem inN_t (neg : Bool) (d : D) (xs : List D) : gInN neg d (.tuple xs) = gIn neg d (.tuple xs) := by cases d <;> rfl
@[simp] theorem dictP_l (ds : List D) : gDictP (.list ds) = (pairsD ds).map fun kvs => .o (.m (putsM [] kvs)) := rfl
def lrg3 (S : Sq) : Option D → Option D → Out PV
  | some (.int i), some (.int j) => if 0 ≤ i ∧ j ≤ 16777216 ∧ i ≤ 16777216 ∧ 0 ≤ j then .ok (.o (.l ((List.range (j - i).toNat).map fun n => .int (i + (n : Nat))))) S else .no
  | _, _ => .no
def lrg2 (p : PV) : Out PV → Out PV
  | .ok q S => lrg3 S (S.val p) (S.val (fz q))
  | .ex c S => .ex c S
  | .no => .no
def lrg1 (fb : Sq → Out PV) : Out PV → Out PV
  | .ok p S => lrg2 (fz p) (fb S)
  | .ex c S => .ex c S
  | .no => .no
@[simp] theorem ev_lrg (fa fb : Sq → Out PV) (S : Sq) : fLRng fa fb S = lrg1 fb (fa S) := by
  unfold fLRng fzF
  cases fa S with
  | no => rfl
  | ex c S1 => rfl
  | ok p S1 =>
    simp only [Out.bind_ok, lrg1]
    cases fb S1 with
    | no => rfl
    | ex c S2 => rfl
    | ok q S2 =>
      show _ = lrg3 S2 (S2.val (fz p)) (S2.val (fz q))
      simp only [Out.bind_ok]
      unfold lrg3
      rfl
@[simp] theorem lrg1_ok (fb : Sq → Out PV) (p : PV) (S : Sq) : lrg1 fb (.ok p S) = lrg2 (fz p) (fb S) := rfl
@[simp] theorem lrg2_ok (p q : PV) (S : Sq) : lrg2 p (.ok q S) = lrg3 S (S.val p) (S.val (fz q)) := rfl
@[simp] theorem lrg3_ok (S : Sq) (i j : Int) : lrg3 S (some (.int i)) (some (.int j)) = if 0 ≤ i ∧ j ≤ 16777216 ∧ i ≤ 16777216 ∧ 0 ≤ j then .ok (.o (.l ((List.range (j - i).toNat).map fun n => .int (i + (n : Nat))))) S else .no := rfl
def pop2 (i : Nat) (S : Sq) : Option D → Option R → Out PV
  | some (.int n), some (.l xs) => if 0 ≤ n ∧ n < xs.length ∧ n < 2 ^ 62 then (match xs[n.toNat]? with
    | some d => .ok (.v d) { S with r := S.r.set i (.l (xs.eraseIdx n.toNat)) }
    | none => .no) else .no
  | _, _ => .no
def pop1 (i : Nat) : Out PV → Out PV
  | .ok p S => pop2 i S (S.val (fz p)) S.r[i]?
  | .ex c S => .ex c S
  | .no => .no
@[simp] theorem ev_pop (i : Nat) (fa : Sq → Out PV) (S : Sq) : fPopAt i fa S = if isL S i = true then pop1 i (fa S) else .no := by
  unfold fPopAt fzF
  split
  · cases fa S with
    | no => rfl
    | ex c S1 => rfl
    | ok p S1 =>
      show _ = pop2 i S1 (S1.val (fz p)) S1.r[i]?
      simp only [Out.bind_ok]
      unfold pop2
      rfl
  · rfl
@[simp] theorem pop1_ok (i : Nat) (p : PV) (S : Sq) : pop1 i (.ok p S) = pop2 i S (S.val (fz p)) S.r[i]? := rfl
@[simp] theorem pop2_l (i : Nat) (S : Sq) (n : Int) (xs : List D) : pop2 i S (some (.int n)) (some (.l xs)) = if 0 ≤ n ∧ n < xs.length ∧ n < 2 ^ 62 then (match xs[n.toNat]? with
    | some d => .ok (.v d) { S with r := S.r.set i (.l (xs.eraseIdx n.toNat)) }
    | none => .no) else .no := rfl
def pop0 (i : Nat) (S : Sq) : Option R → Out PV
  | some (.l xs) => (match xs[xs.length - 1]? with
    | some d => .ok (.v d) { S with r := S.r.set i (.l xs.dropLast) }
    | none => .no)
  | _ => .no
@[simp] theorem ev_pop0 (i : Nat) (S : Sq) : fPop0 i S = pop0 i S S.r[i]? := by
  unfold fPop0 pop0
  rfl
@[simp] theorem pop0_l (i : Nat) (S : Sq) (xs : List D) : pop0 i S (some (.l xs)) = (match xs[xs.length - 1]? with
    | some d => .ok (.v d) { S with r := S.r.set i (.l xs.dropLast) }
    | none => .no) := rfl
def enz2 (S : Sq) : Option D → Out (List D)
  | some (.str z) => .ok (enumD 0 (z.cps.toList.map fun c => .str ⟨#[c]⟩)) S
  | _ => .no
def enz1 : Out PV → Out (List D)
  | .ok p S => enz2 S (S.val (fz p))
  | .ex c S => .ex c S
  | .no => .no
@[simp] theorem ev_enumZ (fa : Sq → Out PV) (S : Sq) : enumZ fa S = enz1 (fa S) := by
  unfold enumZ fzF
  cases fa S with
  | no => rfl
  | ex c S1 => rfl
  | ok p S1 =>
    show _ = enz2 S1 (S1.val (fz p))
    simp only [Out.bind_ok]
    unfold enz2
    rfl
@[simp] theorem enz1_ok (p : PV) (S : Sq) : enz1 (.ok p S) = enz2 S (S.val (fz p)) := rfl
@[simp] theorem enz2_s (z : Str) (S : Sq) : enz2 S (some (.str z)) = .ok (enumD 0 (z.cps.toList.map fun c => .str ⟨#[c]⟩)) S := rfl
end Q3
/-! Q7h: tuple(range(n)). -/
namespace Q3
open PySem PySem.Spec PyProof.Rows L2
variable [TabSet]
section
variable {X : Cx} {W : WX} {a b c e : Expr} {fa fb fc : Sq → Out PV} {pos : Pos} {N : List Str} {sc : Scope} {k : Nat} {G : Gb}
def trg2 (S : Sq) : Option D → Out PV
  | some (.int j) => if 0 ≤ j ∧ j ≤ 16777216 then .ok (.v (.tuple ((List.range j.toNat).map fun n => .int (n : Nat)))) S else .no
  | _ => .no
def trg1 : Out PV → Out PV
  | .ok p S => trg2 S (S.val (fz p))
  | .ex c S => .ex c S
  | .no => .no
def fTRng (fa : Sq → Out PV) : Sq → Out PV := fun S => (fzF fa S).bind fun p S1 => trg2 S1 (S1.val p)
@[simp] theorem ev_trg (fa : Sq → Out PV) (S : Sq) : fTRng fa S = trg1 (fa S) := by
  unfold fTRng fzF
  cases fa S with
  | no => rfl
  | ex c S1 => rfl
  | ok p S1 =>
    simp only [Out.bind_ok]
    rfl
@[simp] theorem trg1_ok (p : PV) (S : Sq) : trg1 (.ok p S) = trg2 S (S.val (fz p)) := rfl
@[simp] theorem trg2_ok (S : Sq) (j : Int) : trg2 S (some (.int j)) = if 0 ≤ j ∧ j ≤ 16777216 then .ok (.v (.tuple ((List.range j.toNat).map fun n => .int (n : Nat)))) S else .no := rfl
theorem dn_rg0 {K : PySem.W.Frag} {F : Hp} (j : Int) : DnAll K F (rgV 0 j) ((List.range j.toNat).map fun n => .int (n : Nat)) := by
  have h := dn_rg (K := K) (F := F) 0 j
  rw [Int.sub_zero] at h
  simpa using h
theorem de_trng {p p2 pos2 : Pos} (C : Cq G k N sc X) (hl : sc.names.lookup ("tuple" : Str) = some .globalImplicit) (ml : G.mg ("tuple" : Str) = none) (hr : sc.names.lookup ("range" : Str) = some .globalImplicit) (mr : G.mg ("range" : Str) = none) (ha : DE X W a fa)
    (na : starEach [a] X.env = (false, eval a X.env) :: starEach [] X.env := by rfl)
    (nl : starEach [Expr.Call (.Name "range" p2) [a] [] pos2] X.env = (false, eval (.Call (.Name "range" p2) [a] [] pos2) X.env) :: starEach [] X.env := by rfl) :
    DE X W (.Call (.Name "tuple" p) [.Call (.Name "range" p2) [a] [] pos2] [] pos) (fTRng fa) := by
  refine PE.weak (pe_tupRg C.calm (glC C hl) (mgC C ml) (prg_1 (glC C hr) (mgC C mr) (de_fz ha) na) nl) fun σ H Q z => ?_
  obtain ⟨F0, H0, pa, F, S, A, z⟩ := z
  unfold fTRng at z
  rw [OutP.bind] at z
  refine ⟨F0, H0, pa, F, S, A, ?_⟩
  refine z.imp (fun p S1 z v F1 H1 x1 A1 r1 => ?_) fun _ _ z => z
  unfold trg2 at z
  split at z
  · rename_i j e1
    split at z
    · rename_i hz
      refine ⟨j, (A1.val r1 e1).int, RgOk.of_le (by omega) hz.2 (by omega) hz.1, fun l hl => ?_⟩
      obtain ⟨F', xF, A', r'⟩ := A1.gives (.tup hl (dn_rg0 j))
      exact z _ F' _ (x1.trans xF) A' r'
    · exact z.elim
  · exact z.elim
end
end Q3
/-! Q7s: slices, step by step. -/
namespace Q3
open PySem PySem.Spec PyProof.Rows L2
def prt2 (S : Sq) : Option D → Out (Option Int)
  | some (.int i) => .ok (some i) S
  | _ => .no
def prt1 : Out PV → Out (Option Int)
  | .ok p S => prt2 S (S.val p)
  | .ex c S => .ex c S
  | .no => .no
@[simp] theorem ev_nopart (S : Sq) : fNoPart S = .ok none S := rfl
@[simp] theorem ev_part (f : Sq → Out PV) (S : Sq) : fPart f S = prt1 (f S) := by
  unfold fPart
  cases f S with
  | no => rfl
  | ex c S1 => rfl
  | ok p S1 =>
    show _ = prt2 S1 (S1.val p)
    simp only [Out.bind_ok]
    unfold prt2
    rfl
@[simp] theorem prt1_ok (p : PV) (S : Sq) : prt1 (.ok p S) = prt2 S (S.val p) := rfl
@[simp] theorem prt2_i (i : Int) (S : Sq) : prt2 S (some (.int i)) = .ok (some i) S := rfl
def slc4 (lo hi : Option Int) (S : Sq) : Option D → Out PV
  | some d => bin4 S (gSl d lo hi)
  | none => .no
def slc3 (p : PV) (lo : Option Int) : Out (Option Int) → Out PV
  | .ok hi S => slc4 lo hi S (S.val p)
  | .ex c S => .ex c S
  | .no => .no
def slc2 (p : PV) (fh : Sq → Out (Option Int)) : Out (Option Int) → Out PV
  | .ok lo S => slc3 p lo (fh S)
  | .ex c S => .ex c S
  | .no => .no
def slc1 (fl fh : Sq → Out (Option Int)) : Out PV → Out PV
  | .ok p S => slc2 (fz p) fh (fl S)
  | .ex c S => .ex c S
  | .no => .no
@[simp] theorem ev_sl (fa : Sq → Out PV) (fl fh : Sq → Out (Option Int)) (S : Sq) : fSl fa fl fh S = slc1 fl fh (fa S) := by
  unfold fSl fzF
  cases fa S with
  | no => rfl
  | ex c S1 => rfl
  | ok p S1 =>
    simp only [Out.bind_ok, slc1]
    cases fl S1 with
    | no => rfl
    | ex c S2 => rfl
    | ok lo S2 =>
      simp only [Out.bind_ok, slc2]
      cases fh S2 with
      | no => rfl
      | ex c S3 => rfl
      | ok hi S3 =>
        simp only [Out.bind_ok, slc3]
        cases S3.val (fz p) with
        | none => rfl
        | some d =>
          show _ = bin4 S3 (gSl d lo hi)
          dsimp only
          cases gSl d lo hi <;> rfl
@[simp] theorem slc1_ok (fl fh : Sq → Out (Option Int)) (p : PV) (S : Sq) : slc1 fl fh (.ok p S) = slc2 (fz p) fh (fl S) := rfl
@[simp] theorem slc2_ok (p : PV) (fh : Sq → Out (Option Int)) (lo : Option Int) (S : Sq) : slc2 p fh (.ok lo S) = slc3 p lo (fh S) := rfl
@[simp] theorem slc3_ok (p : PV) (lo hi : Option Int) (S : Sq) : slc3 p lo (.ok hi S) = slc4 lo hi S (S.val p) := rfl
@[simp] theorem slc4_ok (lo hi : Option Int) (S : Sq) (d : D) : slc4 lo hi S (some d) = bin4 S (gSl d lo hi) := rfl
@[simp] theorem gSl_l (xs : List D) (lo hi : Option Int) : gSl (.list xs) lo hi = some (.o (.l (cutG xs lo hi))) := rfl
@[simp] theorem gSl_t (xs : List D) (lo hi : Option Int) : gSl (.tuple xs) lo hi = some (.v (.tuple (cutG xs lo hi))) := rfl
@[simp] theorem cut_take {α : Type} (xs : List α) (a : Nat) : cutG xs none (some (a : Int)) = xs.take a := by
  letI : TabSet := ⟨[]⟩
  unfold cutG
  rw [HT.sIx_none, HT.sIx_nat, List.drop_zero, Nat.sub_zero, List.take_eq_take_iff]
  omega
@[simp] theorem cut_drop {α : Type} (xs : List α) (a : Nat) : cutG xs (some (a : Int)) none = xs.drop a := by
  letI : TabSet := ⟨[]⟩
  unfold cutG
  rw [HT.sIx_none, HT.sIx_nat, List.take_of_length_le (by rw [List.length_drop]; omega)]
  by_cases h : a ≤ xs.length
  · rw [Nat.min_eq_left h]
  · rw [Nat.min_eq_right (by omega), List.drop_length, List.drop_eq_nil_of_le (by omega)]
@[simp] theorem cut_drop1 {α : Type} (xs : List α) (a : Nat) : cutG xs (some ((a : Int) + 1)) none = xs.drop (a + 1) := cut_drop xs (a + 1)
end Q3
/-! Q9a: own exceptions that are made, listed, walked, caught. -/
namespace Q3
open PySem PySem.Spec PyProof.Rows L2
section
variable {X : Cx}
/-- a new own exception, told as one that is held -/
theorem pe_newX {D : Addr} {bs : List Value} {B nI iI : String} {y : Str} {a1 : Expr} {t1 : TE} {q1 q2 : Pos} (FB : ExcBaseFacts B nI iI bs) (ex : PySem.W.excIn X.K D bs nI = true) (gD : X.mg y = some (.ref D)) (kD : PySem.W.keepIn X.K (.ref D) = true)
    (gy : Gl X y) (h1 : PE X a1 t1) (hst : starEach [a1] X.env = (false, eval a1 X.env) :: starEach [] X.env := by rfl) (hy : (y == ("__debug__" : Str)) = false := by decide) : PE X (.Call (.Name y q1) [a1] [] q2) (fun σ H R => t1 σ H fun _ Ha => ∀ z, Ha z = none → R (.ref z) (upd Ha z (exV (.ref D) z))) := by
  refine ⟨fun ps st σ H R IV ha => wpAny_Call_Name_kw (ld_glob IV gy gD ?_ hy)⟩
  refine PySem.W.callWith_K (h₀ := X.base) IV.ok.mod.kin kD ?_ hst (by rfl); rw [hst]
  show wpAny _ _ (spliced ((false, eval a1 X.env) :: backTo q2 (starEach [] X.env))) _ _ st
  refine Calls.spliced_cons (thn (h1.run ps st σ H _ IV ha) fun w st1 ⟨_, Ha, IA, _, go⟩ => Calls.spliced_nil ⟨IA.kIn, ?_⟩)
  show wpAny _ _ (call (.ref D) [w]) _ _ _
  obtain ⟨_, _, _, _, _, _, _, _, _, _, _, _, _, _, _, _, _, oC, oN, oI, tT⟩ := exc_obj IA.kIn ex
  refine wpAny_call_exc_subT FB tT oC oN oI (fun hp z mk => ?_) (by rw [sizeLine_eq]; show 1 ≤ _; omega)
  have fr : Ha z = none := IA.hok.gone mk.new
  obtain ⟨tr, there, _⟩ := mk.there
  exact ⟨.ref z, _, IA.laidN (o := exV (.ref D) z) mk.keeps mk.new fr (exV_ok there ⟨rfl, rfl⟩ rfl), rfl, go z fr⟩
end
variable [TabSet]
/-- a slot that holds what is nobody's own -/
theorem Agr.storeX {K : PySem.W.Frag} {F0 H0 F H : Hp} {pa : Option Addr} {σ : L2.St} {S : Sq} {v : V} {i : Nat} {c : R} (A : Agr K F0 H0 pa σ F H S) (hi : i < S.r.length) (nl : ∀ xs, c ≠ .l xs) (nm : ∀ xs, c ≠ .m xs) (so : SlotOk K pa F H (some (some v)) c) : Agr K F0 H0 pa (σ.set i (some v)) F H { S with r := S.r.set i c } := by
  have hs : i < σ.length := A.len ▸ hi
  have no : ∀ j a, Own (σ.set i (some v)) { S with r := S.r.set i c } j a → j ≠ i := fun j a w z => by
    subst z
    rcases w.at_set.2 with ⟨xs, e⟩ | ⟨xs, e⟩
    · exact nl xs e
    · exact nm xs e
  refine ⟨A.fF, A.sub, A.hH, A.tabs, A.ft, A.n0, A.new, by simpa using A.len, fun j q e => ?_, fun j l a p q => A.dist j l a ((Own.of_set (no j a p)).mp p) ((Own.of_set (no l a q)).mp q), fun j a p => A.ownN j a ((Own.of_set (no j a p)).mp p), A.pen⟩
  have e : (S.r.set i c)[j]? = some q := e
  by_cases z : j = i
  · subst z
    rw [List.getElem?_set_self hi] at e
    rw [List.getElem?_set_self hs]
    cases e
    exact so
  · rw [List.getElem?_set_ne (Ne.symm z)] at e
    rw [List.getElem?_set_ne (Ne.symm z)]
    exact A.slots j q e
abbrev PX (K : PySem.W.Frag) (F : Hp) : List V → List Str → Prop := Paired (fun v c => ∃ b, v = L2.V.ref b ∧ F b = some (exV (.ref (He.ga K c)) b))
/-- exceptions of the classes cs, made of slot ti's text -/
def tEx (K : PySem.W.Frag) (ti : Nat) (cs : List Str) : TA := fun σ H Q => ∃ F0 H0 pa F S, Agr K F0 H0 pa σ F H S ∧ (∃ t, S.r[ti]? = some (.d (.str t))) ∧ ∀ vs F' H', Ex F F' → Agr K F0 H0 pa σ F' H' S → PX K F' vs cs → Q vs H'
section
variable {X : Cx} {W : WX} {N : List Str} {sc : Scope} {k : Nat} {G : Gb} {x y : Str} {e : Expr} {es : List Expr} {pos : Pos}
theorem pa_exN : PA X [] (tEx X.K i []) := PA.weak pa_nil fun σ H Q ⟨F0, H0, pa, F, S, A, _, z⟩ => z [] F H (Ex.refl F) A .nil
theorem pa_exC {ti : Nat} {cs : List Str} {p p1 p2 : Pos} (C : Cq G k N sc X) (E : ExcG G.K G.mg y) (ly : sc.names.lookup y = some .globalImplicit) (hr : PA X es (tEx X.K ti cs)) (hN : N[ti]? = some x := by rfl) (hv : sc.names.lookup x = some .local ∨ sc.names.lookup x = some .cell ∨ sc.names.lookup x = some .free := by first | exact Or.inl rfl | exact Or.inr (Or.inl rfl) | exact Or.inr (Or.inr rfl))
    (hd : (x == ("__debug__" : Str)) = false := by decide) (hcd : (x == ("__classdict__" : Str)) = false := by decide) (hyd : (y == ("__debug__" : Str)) = false := by decide)
    (hs1 : starEach [.Name x p1] X.env = (false, eval (.Name x p1) X.env) :: starEach [] X.env := by rfl)
    (hst : starEach (.Call (.Name y p) [.Name x p1] [] p2 :: es) X.env = (false, eval (.Call (.Name y p) [.Name x p1] [] p2) X.env) :: starEach es X.env := by rfl) :
    PA X (.Call (.Name y p) [.Name x p1] [] p2 :: es) (tEx X.K ti (y :: cs)) := by
  have hK : X.K = G.K := C.K
  have F := excF C E
  have pv : PE X (.Name x p1) (tVar ti) := pe_var (i := ti) (by rw [C.names]; exact hN) (by show Vis X.env.scope x; rw [C.scope]; exact hv) hd hcd
  have pc := pe_newX (q1 := p) (q2 := p2) PySem.F.excBase_ValueError F.q F.g F.kp (glC C ly) pv hs1 hyd
  refine PA.weak (pa_cons pc hr hst) fun σ H Q ⟨F0, H0, pa, F, S, A, ⟨t, ht⟩, z⟩ => ?_
  obtain ⟨v, e1, _⟩ := A.slots ti _ ht
  refine ⟨v, e1, fun a ha => ?_⟩
  have A1 := A.newF (o := exV (.ref (He.ga X.K y)) a) ha (fun ps w => by unfold exV at w; cases w)
  have x1 : Ex F (upd F a (exV (.ref (He.ga X.K y)) a)) := Ex.new (A.sub.none ha)
  exact ⟨F0, H0, pa, _, S, A1, ⟨t, ht⟩, fun vs F' H' x2 A2 pr => z _ F' H' (x1.trans x2) A2 (.cons ⟨a, rfl, x2 _ _ upd_same⟩ pr)⟩
/-- x = [C1(t), ..] -/
def mkE (i ti : Nat) (cs : List Str) : Sq → Fl := fun S => match S.r[ti]? with
  | some (.d (.str _)) => if i < S.r.length ∧ cs.length ≤ sizeLine then .nx { S with r := S.r.set i (.es cs) } else .no
  | _ => .no
theorem px_len {K : PySem.W.Frag} {F : Hp} {vs : List V} {cs : List Str} (h : PX K F vs cs) : vs.length = cs.length := paired_length h
theorem ds_mkE (i : Nat) {ti : Nat} {cs : List Str} {p : Pos} (C : Cq G k N sc X) (ha : PA X es (tEx X.K ti cs)) (hi : N[i]? = some x := by rfl) (hx : Loc sc x := by first | exact Or.inl rfl | exact Or.inr rfl) {pl : Pos} (hs : swapsWith (.List es pl) (some (.Name x p)) pos.line X.env = pure false := by rfl)
    (hf : X.fn x = true ∨ sc.names.lookup x = some .local := by first | exact .inl rfl | exact .inr rfl | assumption) : DS X W (.Assign [.Name x p] (.List es pl) pos) (mkE i ti cs) :=
  PS.weak (ps_set (by rw [C.names]; exact C.nd) (by rw [C.names]; exact hi) (by rw [C.scope]; exact hx) (pe_lst ha) hs (by rw [C.scope]; exact hf)) fun Z σ H ⟨F0, H0, pa, F, S, A, z⟩ => by
    unfold mkE at z
    split at z
    · rename_i t ht
      split at z
      · rename_i hc
        refine ⟨F0, H0, pa, F, S, A, ⟨t, ht⟩, fun vs F' H' x1 A1 pr => ⟨by rw [px_len pr]; exact hc.2, fun q hq => ?_⟩⟩
        have A2 := A1.newF (o := .lst vs) hq (fun _ w => nomatch w)
        show Z.nx (σ.set i (some (.ref q))) _
        exact z _ _ _ (A2.storeX (c := .es cs) hc.1 (fun _ w => nomatch w) (fun _ w => nomatch w) ⟨q, rfl, vs, upd_same, ex_pe (Ex.new (A1.sub.none hq)) pr⟩)
      · exact z.elim
    · exact z.elim
/-- x = x + [C1(t), ..] -/
def addE (i ti : Nat) (cs : List Str) : Sq → Fl := fun S => match S.r[ti]?, S.r[i]? with
  | some (.d (.str _)), some (.es ds) => if cs.length ≤ sizeLine ∧ ds.length + cs.length ≤ sizeLine then .nx { S with r := S.r.set i (.es (ds ++ cs)) } else .no
  | _, _ => .no
theorem px_app {K : PySem.W.Frag} {F : Hp} : ∀ {vs ws : List V} {cs ds : List Str}, PX K F vs cs → PX K F ws ds → PX K F (vs ++ ws) (cs ++ ds)
  | _, _, _, _, .nil, h => h
  | _, _, _, _, .cons h1 h2, h => .cons h1 (px_app h2 h)
theorem ds_addE (i : Nat) {ti : Nat} {cs : List Str} {p p3 p4 pl : Pos} (C : Cq G k N sc X) (ha : PA X es (tEx X.K ti cs)) (hi : N[i]? = some x := by rfl) (hx : Loc sc x := by first | exact Or.inl rfl | exact Or.inr rfl)
    (hv : sc.names.lookup x = some .local ∨ sc.names.lookup x = some .cell ∨ sc.names.lookup x = some .free := by first | exact Or.inl rfl | exact Or.inr (Or.inl rfl) | exact Or.inr (Or.inr rfl)) (hd : (x == ("__debug__" : Str)) = false := by decide) (hcd : (x == ("__classdict__" : Str)) = false := by decide)
    (hs : swapsWith (.BinOp (.Name x p3) .Add (.List es pl) p4) (some (.Name x p)) pos.line X.env = pure false := by rfl)
    (hf : X.fn x = true ∨ sc.names.lookup x = some .local := by first | exact .inl rfl | exact .inr rfl | assumption) : DS X W (.Assign [.Name x p] (.BinOp (.Name x p3) .Add (.List es pl) p4) pos) (addE i ti cs) :=
  PS.weak (ps_set (by rw [C.names]; exact C.nd) (by rw [C.names]; exact hi) (by rw [C.scope]; exact hx) (pe_op op_cat (pe_var (i := i) (by rw [C.names]; exact hi) (by show Vis X.env.scope x; rw [C.scope]; exact hv) hd hcd) (pe_lst ha)) hs (by rw [C.scope]; exact hf)) fun Z σ H ⟨F0, H0, pa, F, S, A, z⟩ => by
    unfold addE at z
    split at z
    · rename_i t ds ht hds
      split at z
      · rename_i hc
        obtain ⟨a, e1, vs0, g1, g2⟩ := A.slots i _ hds
        refine ⟨.ref a, e1, F0, H0, pa, F, S, A, ⟨t, ht⟩, fun vs F' H' x1 A1 pr => ⟨by rw [px_len pr]; exact hc.1, fun q hq => ?_⟩⟩
        have A2 := A1.newF (o := .lst vs) hq (fun _ w => nomatch w)
        have x2 : Ex F' (upd F' q (.lst vs)) := Ex.new (A1.sub.none hq)
        refine ⟨a, q, vs0, vs, rfl, rfl, A2.sub _ _ (x2 _ _ (x1 _ _ g1)), upd_same, by rw [px_len g2, px_len pr]; exact hc.2, fun q2 hq2 => ?_⟩
        have A3 := A2.newF (o := .lst (vs0 ++ vs)) hq2 (fun _ w => nomatch w)
        have x3 : Ex (upd F' q (.lst vs)) (upd (upd F' q (.lst vs)) q2 (.lst (vs0 ++ vs))) := Ex.new (A2.sub.none hq2)
        show Z.nx (σ.set i (some (.ref q2))) _
        exact z _ _ _ (A3.storeX (c := .es (ds ++ cs)) (List.getElem?_eq_some_iff.mp hds).1 (fun _ w => nomatch w) (fun _ w => nomatch w) ⟨q2, rfl, vs0 ++ vs, upd_same, px_app (ex_pe (x1.trans (x2.trans x3)) g2) (ex_pe (x2.trans x3) pr)⟩)
      · exact z.elim
    · exact z.elim
/-- for k, one in enumerate(x), x a list of exceptions -/
def forEF (ik io : Nat) (g : Sq → Fl) : Nat → List Str → Sq → Fl
  | _, [], S => .nx S
  | n, c :: cs, S => if ik < S.r.length ∧ io < S.r.length then (match g { S with r := (S.r.set ik (.d (.int n))).set io (.e c) } with
      | .nx S2 => forEF ik io g (n + 1) cs S2
      | .ct S2 => forEF ik io g (n + 1) cs S2
      | .bk S2 => .nx S2
      | z => z) else .no
def forE (i ik io : Nat) (g : Sq → Fl) : Sq → Fl := fun S => match S.r[i]? with
  | some (.es cs) => forEF ik io g 0 cs S
  | _ => .no
theorem ds_forE (i ik io : Nat) {body : List Stmt} {g : Sq → Fl} {n1 n2 : Expr} {p p3 p4 tpos : Pos} {kk : Nat} (C : Cq G k N sc X) (hg : sc.names.lookup ("enumerate" : Str) = some .globalImplicit) (hm : G.mg "enumerate" = none) (hi : N[i]? = some x := by rfl)
    (ht : PG X (.Tuple [n1, n2] kk tpos) (gTup X.K 2 (gCons (gName ik) (gCons (gName io) gNil)))) (hb : DSs X W body g)
    (hv : sc.names.lookup x = some .local ∨ sc.names.lookup x = some .cell ∨ sc.names.lookup x = some .free := by first | exact Or.inl rfl | exact Or.inr (Or.inl rfl) | exact Or.inr (Or.inr rfl)) (hd : (x == ("__debug__" : Str)) = false := by decide) (hcd : (x == ("__classdict__" : Str)) = false := by decide)
    (hst : starEach [.Name x p3] X.env = (false, eval (.Name x p3) X.env) :: starEach [] X.env := by rfl) (hs1 : starEach [.Name x p3] X.env = [(false, eval (.Name x p3) X.env)] := by rfl)
    (hs : ∀ y, foldedSetIterable (.Call (.Name "enumerate" p) [.Name x p3] [] p4) X.env y = pure y := by intro _; rfl) : DS X W (.For (.Tuple [n1, n2] kk tpos) (.Call (.Name "enumerate" p) [.Name x p3] [] p4) body [] pos) (forE i ik io g) := by
  have hK : X.K = G.K := C.K
  refine PS.weak (ps_for C.pass C.calm (pi_enum (glC C hg) (mgC C hm) (pa_cons (pe_var (i := i) (by rw [C.names]; exact hi) (by show Vis X.env.scope x; rw [C.scope]; exact hv) hd hcd) pa_nil hst) hs1) ht hb hs) fun Z σ H z => ?_
  obtain ⟨F0, H0, pa, F, S, A, z⟩ := z
  unfold forE at z
  split at z
  · rename_i cs hcs
    obtain ⟨a, e1, vs, g1, g2⟩ := A.slots i _ hcs
    refine ⟨.ref a, e1, a, vs, rfl, SqL.of (A.sub _ _ g1), ?_⟩
    have hl := px_len g2
    refine ⟨fun i m σ H => m = cs.length - i ∧ i ≤ cs.length ∧ ∃ F1 S, Agr X.K F H0 pa σ F1 H S ∧ FlP X.K W F H0 pa Z (forEF ik io g i (cs.drop i) S), ⟨cs.length, by simp, Nat.zero_le _, F, S, A.reF, FlP.deF A z⟩, ?_⟩
    rintro j m σ H ⟨rfl, hj, F1, S, A, z⟩
    have hL : H a = some (.lst vs) := A.sub _ _ (A.fF _ _ g1)
    by_cases hlt : j < cs.length
    · have hv2 : vs[j]? = some vs[j] := List.getElem?_eq_getElem (by omega)
      have hd2 : cs.drop j = cs[j] :: cs.drop (j + 1) := List.drop_eq_getElem_cons hlt
      obtain ⟨v, w1, b, rfl, w2⟩ := paired_get g2 (List.getElem?_eq_getElem hlt)
      refine .inr ⟨⟨vs, _, SqL.of hL, w1⟩, fun σ' H' => ∃ F1 S, Agr X.K F H0 pa σ' F1 H' S ∧ FlP X.K W F H0 pa Z (forEF ik io g (j + 1) (cs.drop (j + 1)) S), fun σ' H' h => ⟨cs.length - (j + 1), by omega, rfl, hlt, h⟩, fun x H' hy => ?_⟩
      obtain ⟨T, v, rfl, hT, rfl, q⟩ := hy
      have q1 := q vs (SqL.of hL)
      rw [w1] at q1; cases q1
      rw [hd2] at z
      unfold forEF at z
      split at z
      · rename_i hc
        have A1 := A.newF (o := .tup [.int (j : Nat), .ref b]) hT (fun _ w => nomatch w)
        have x1 : Ex F1 (upd F1 T (.tup [.int (j : Nat), .ref b])) := Ex.new (A.sub.none hT)
        have A2 := A1.store (c := .d (.int (j : Nat))) hc.1 (v := .int (j : Nat)) (.int _)
        have A3 := A2.storeX (c := .e cs[j]) (v := .ref b) (i := io) (by simpa using hc.2) (fun _ w => nomatch w) (fun _ w => nomatch w) ⟨b, rfl, x1 _ _ (A.fF _ _ w2)⟩
        refine ⟨T, _, rfl, SqT.of upd_same, rfl, .int (j : Nat), [.ref b], rfl, .ref b, [], rfl, rfl, F, H0, pa, _, _, A3, ?_⟩
        cases o : g { S with r := (S.r.set ik (.d (.int (j : Nat)))).set io (.e cs[j]) } with
        | nx S3 => rw [o] at z; exact fun σ' F' H' A' => ⟨F', S3, A', z⟩
        | ct S3 => rw [o] at z; exact fun σ' F' H' A' => ⟨F', S3, A', z⟩
        | bk S3 => rw [o] at z; exact z
        | rt r S3 => rw [o] at z; exact z
        | ex c S3 => rw [o] at z; exact z
        | no => rw [o] at z; exact z
      · exact z.elim
    · have e : j = cs.length := by omega
      subst e
      rw [List.drop_length] at z
      exact .inl ⟨⟨vs, SqL.of hL, by omega⟩, z σ F1 H A⟩
  · exact z.elim
/-- try: .. except top as e: v = e -/
def tryHF (cl : List Str) (i j : Nat) (g : Sq → Fl) : Sq → Fl := fun S => match g S with
  | .ex c S1 => if c ∈ cl ∧ i < S1.r.length ∧ j < S1.r.length then .nx { S1 with r := wipeR ((S1.r.set i (.e c)).set j (.e c)) [i] } else .no
  | o => o
theorem ds_tryH {i j : Nat} {cl : List Str} {top n m : Str} {body : List Stmt} {g : Sq → Fl} {np pos' p1 p2 p3 : Pos} (C : Cq G k N sc X) (hfn : ∀ x, X.fn x = true) (tk : Takes X W) (V : ExcAll G.K G.mg cl top)
    (hs : X.stack = X.env :: X.outer) (hf : X.env.frame = some X.env.locals) (hex : X.ex = []) (hi : N[i]? = some n) (hj : N[j]? = some m) (hln : sc.names.lookup n = some .local) (hlm : sc.names.lookup m = some .local) (hl : sc.names.lookup top = some .globalImplicit)
    (hb : ∀ X' W', Cq G k N sc X' → (∀ x, X'.fn x = true) → Takes X' W' → DSs X' W' body g) (hdx : (top == ("__debug__" : Str)) = false := by decide) (hdn : (n == ("__debug__" : Str)) = false := by decide) (hcn : (n == ("__classdict__" : Str)) = false := by decide)
    (hsw : ∀ e : Env, swapsWith (.Name n p2) (some (.Name m p1)) p3.line e = pure false := by intro _; rfl) :
    DS X W (.Try body [.ExceptHandler (some (.Name top np)) (some n) [.Assign [.Name m p1] (.Name n p2) p3] pos'] [] [] pos) (tryHF cl i j g) := by
  have hK : X.K = G.K := C.K
  refine PS.weak (ps_try_held (X := X) (c := .ref (He.ga G.K top)) (i := i) (j := j) (tb := fun W' => rs X.K W' g) (Wout := W) hs hf hex (by rw [C.names]; exact C.nd) (by rw [C.names]; exact hi) (by rw [C.names]; exact hj) (by show X.env.scope.names.lookup n = _; rw [C.scope]; exact hln) (by show X.env.scope.names.lookup m = _; rw [C.scope]; exact hlm)
    ⟨glC C hl, hdx, .inl (by rw [C.mg]; exact V.gt)⟩ tk (fun W' pn xe tk' pass => ?_) hdn hcn hsw) fun D σ H z => ?_
  · exact hb (X.tr pn xe) W' ⟨C.names, C.nd, C.scope, C.hd, C.gd, C.calm, pass, C.prog, C.wo, C.K, C.mg, C.base⟩ hfn tk'
  · obtain ⟨F0, H0, pa, F, S, A, z⟩ := z
    refine ⟨F0, H0, pa, F, S, A, ?_⟩
    unfold tryHF at z
    cases o : g S with
    | nx S1 => rw [o] at z; exact z
    | rt r S1 => rw [o] at z; exact z
    | bk S1 => rw [o] at z; exact z
    | ct S1 => rw [o] at z; exact z
    | no => rw [o] at z; exact z
    | ex c S1 =>
      rw [o] at z
      dsimp only at z
      split at z
      · rename_i hc
        intro σ' F' H' A1 hlen
        refine ⟨rfl, true, by rw [hK]; exact V.m c hc.1, fun _ a ha => ?_, fun q => by cases q⟩
        have A2 := A1.newF (o := exV (.ref (He.ga X.K c)) a) ha (fun ps w => by unfold exV at w; cases w)
        have A3 := A2.storeX (c := .e c) (v := .ref a) hc.2.1 (fun _ w => nomatch w) (fun _ w => nomatch w) ⟨a, rfl, upd_same⟩
        have A4 := A3.storeX (c := .e c) (v := .ref a) (i := j) (by simpa using hc.2.2) (fun _ w => nomatch w) (fun _ w => nomatch w) ⟨a, rfl, upd_same⟩
        exact z _ _ _ (A4.wiped [i])
      · exact z.elim
/-- isinstance(v, a class above or beside), v a slot's held exception -/
def fIsK (cl : List Str) (b : Bool) (i : Nat) : Sq → Out PV := fun S => match S.r[i]? with
  | some (.e c) => if c ∈ cl then .ok (.v (.bool b)) S else .no
  | _ => .no
theorem de_isTop (i : Nat) {cl : List Str} {top : Str} {p p1 p2 : Pos} (C : Cq G k N sc X) (V : ExcAll G.K G.mg cl top) (kt : ∀ x ∈ cl, PySem.W.kitOne G.K (.ref (He.ga G.K x)) (.ref (He.ga G.K top)) = some true) (mi : G.mg "isinstance" = none) (li : sc.names.lookup ("isinstance" : Str) = some .globalImplicit) (ly : sc.names.lookup top = some .globalImplicit) (hN : N[i]? = some x := by rfl)
    (hv : sc.names.lookup x = some .local ∨ sc.names.lookup x = some .cell ∨ sc.names.lookup x = some .free := by first | exact Or.inl rfl | exact Or.inr (Or.inl rfl) | exact Or.inr (Or.inr rfl)) (hd : (x == ("__debug__" : Str)) = false := by decide) (hcd : (x == ("__classdict__" : Str)) = false := by decide) (hyd : (top == ("__debug__" : Str)) = false := by decide)
    (hst : starEach [.Name x p1, .Name top p2] X.env = (false, eval (.Name x p1) X.env) :: starEach [.Name top p2] X.env := by rfl) (hpl : (backTo pos (starEach [.Name top p2] X.env)).any (·.1) = false := by rfl) : DE X W (.Call (.Name "isinstance" p) [.Name x p1, .Name top p2] [] pos) (fIsK cl true i) := by
  refine PE.weak (pe_callB call_isHeld (glC C li) (mgC C mi) (by decide +kernel) (pa_cons (pe_var (i := i) (by rw [C.names]; exact hN) (by show Vis X.env.scope x; rw [C.scope]; exact hv) hd hcd) (pa_cons (pe_glob (v := .ref (He.ga G.K top)) (glC C ly) (mgC C V.gt) rfl hyd) pa_nil (by rfl)) hst) (by decide) (by decide) hst hpl) fun σ H Q z => ?_
  obtain ⟨F0, H0, pa, F, S, A, z⟩ := z
  unfold fIsK at z
  split at z
  · rename_i c0 q
    split at z
    · rename_i hc
      obtain ⟨a, e1, e2⟩ := A.slots i _ q
      have hK : X.K = G.K := C.K
      refine ⟨.ref a, e1, a, _, _, _, _, rfl, A.sub _ _ e2, ?_, .own _, ?_, z _ F H (Ex.refl F) A (.bl _)⟩
      · rw [hK]; exact V.c c0 hc
      · rw [hK]; exact kt c0 hc
    · exact z.elim
  · exact z.elim
theorem de_isK (T : String) (i : Nat) {b : Bool} {cl : List Str} {top y : Str} {p p1 p2 : Pos} (C : Cq G k N sc X) (V : ExcAll G.K G.mg cl top) (kt : ∀ x ∈ cl, PySem.W.kitOne G.K (.ref (He.ga G.K x)) (.type T) = some b) (mi : G.mg "isinstance" = none) (mv : G.mg y = none) (hT : bootBuiltins y = some (.type T)) (li : sc.names.lookup ("isinstance" : Str) = some .globalImplicit) (ly : sc.names.lookup y = some .globalImplicit) (hN : N[i]? = some x := by rfl)
    (hv : sc.names.lookup x = some .local ∨ sc.names.lookup x = some .cell ∨ sc.names.lookup x = some .free := by first | exact Or.inl rfl | exact Or.inr (Or.inl rfl) | exact Or.inr (Or.inr rfl)) (hd : (x == ("__debug__" : Str)) = false := by decide) (hcd : (x == ("__classdict__" : Str)) = false := by decide) (hyn : y ≠ "__name__" := by decide) (hyd : (y == ("__debug__" : Str)) = false := by decide)
    (hst : starEach [.Name x p1, .Name y p2] X.env = (false, eval (.Name x p1) X.env) :: starEach [.Name y p2] X.env := by rfl) (hpl : (backTo pos (starEach [.Name y p2] X.env)).any (·.1) = false := by rfl) : DE X W (.Call (.Name "isinstance" p) [.Name x p1, .Name y p2] [] pos) (fIsK cl b i) := by
  refine PE.weak (pe_callB call_isHeld (glC C li) (mgC C mi) (by decide +kernel) (pa_cons (pe_var (i := i) (by rw [C.names]; exact hN) (by show Vis X.env.scope x; rw [C.scope]; exact hv) hd hcd) (pa_cons (pe_tyN (T := T) (glC C ly) (mgC C mv) hT hyn hyd) pa_nil (by rfl)) hst) (by decide) (by decide) hst hpl) fun σ H Q z => ?_
  obtain ⟨F0, H0, pa, F, S, A, z⟩ := z
  unfold fIsK at z
  split at z
  · rename_i c0 q
    split at z
    · rename_i hc
      obtain ⟨a, e1, e2⟩ := A.slots i _ q
      have hK : X.K = G.K := C.K
      refine ⟨.ref a, e1, a, _, _, _, _, rfl, A.sub _ _ e2, ?_, .ty _, ?_, z _ F H (Ex.refl F) A (.bl _)⟩
      · rw [hK]; exact V.c c0 hc
      · rw [hK]; exact kt c0 hc
    · exact z.elim
  · exact z.elim
end
end Q3
/-! Q9b: the law whose body asks how its context stands. -/
namespace Q3
open PySem PySem.Spec PyProof.Rows L2
variable [TabSet]
/-- THE LAW: pen = open(script), then the rest -/
theorem lawGT {G : Gb} {k j n i : Nat} {st : Stmt} {N : List Str} {xs xp xo : Str} {fO : Fd} {gR : Sq → Fl} {f : Addr} {fd : FuncData} {rest : List Stmt} {p1 p2 p3 p4 p5 : Pos} (F : L2.FunD G.K "law" "law" (defArgs st) (defBody st) (defScope st) [] [] f fd) (S : FnScope N [xs] (defScope st)) (hn : N.length = n) (hi : N[i]? = some xp) (h0 : N[0]? = some xs) (hi0 : i ≠ 0)
    (hbody : defBody st = .Assign [.Name xp p1] (.Call (.Name xo p2) [.Name xs p3] [] p4) p5 :: rest) (hO : Has G j xo [xs] fO) (hj : j ≤ k) (hlo : (defScope st).names.lookup xo = some .globalImplicit) (hlp : Loc (defScope st) xp) (hls : (defScope st).names.lookup xs = some .local)
    (hb : ∀ X W, Cq G k N (defScope st) X → (∀ x, X.fn x = true) → Takes X W → X.env.qual = "law" ++ ".<locals>." → X.env.code = fd.code → X.stack = X.env :: X.outer → X.env.frame = some X.env.locals → X.ex = [] → DSs X W rest gR)
    (hd : (xs == ("__debug__" : Str)) = false := by decide) (hcd : (xs == ("__classdict__" : Str)) = false := by decide) (hdo : (xo == ("__debug__" : Str)) = false := by decide) (hsw : ∀ E : Env, swapsWith (.Call (.Name xo p2) [.Name xs p3] [] p4) (some (.Name xp p1)) p5.line E = pure false := by intro _; rfl) :
    FnG G (k + 1) f fd [xs] (fun vs H Q _ => ∃ (a : Addr) (ns : List Int), vs = [.ref a] ∧ SqL G.K H a (ns.map .int) ∧ LamX.Tabs TabSet.T H ∧ lawOk n i fO gR ns ∧ ∀ H', Q (.bl true) H') := by
  obtain ⟨oc, od, dV, kV, doc, pm, an, cdv, ct, osl, rfl, lk, hcd', _, _⟩ := F.ex
  refine fn_ofG lk hcd' S (fun vs _ _ _ h => by obtain ⟨a, ns, rfl, _⟩ := h; rfl) fun A outer s H vs Q E hr hgd hsp => ?_
  obtain ⟨a, ns, rfl, hS, hT, ⟨cells, S1, S2, e1, ep, e2⟩, hQ⟩ := hsp
  have C : Cq G k N (defScope st) (cxOf (L2.CX G.P G.w) G.P G.w G.K G.mg G.base N "law" (defScope st) f cdv A outer s H E) := ⟨rfl, S.nd, rfl, hr, hgd, rfl, passes_of rfl, rfl, rfl, rfl, rfl, rfl⟩
  have tk : Takes (cxOf (L2.CX G.P G.w) G.P G.w G.K G.mg G.base N "law" (defScope st) f cdv A outer s H E) (fun cls d _ H => E cls d H) := takes_of rfl rfl rfl rfl
  have dr := hb _ _ C (fun _ => rfl) tk rfl rfl rfl rfl rfl
  have da := da_cons (W := fun cls d _ H => E cls d H) (de_varS (pos := p3) 0 C h0 (Or.inl hls) hd hcd) da_nil
  have dc := de_callH (pos := p4) (p := p2) C tk hO hj hlo rfl da (fl_cons fl_nil) hdo
  have hN : n = 1 + (n - 1) := by
    have : (0 : Nat) < N.length := (List.getElem?_eq_some_iff.mp h0).1
    omega
  rw [hbody]
  refine ⟨_, pss_cons (ps_set (by exact S.nd) hi hlp dc (hsw _) (.inl rfl)) dr, ?_⟩
  let F1 : Hp := fun b => if b = a then bareT H b else none
  have lenσ : (L2.start N [V.ref a]).length = n := by
    unfold L2.start
    simp [hn]
    omega
  have A0 : Agr G.K F1 (bareT H) none (L2.start N [V.ref a]) F1 H ⟨.sc ns :: List.replicate (n - 1) .un, none⟩ := by
    refine ⟨Ex.refl _, fun b o h => ?_, fun b o h _ => (bareT_some h).1, hT, fun b ps h => ?_, bareT_free, fun b o h => .inl h, ?_, fun l c h => ?_, fun l m b o _ => ?_, fun l b o => ?_, trivial⟩
    · have h : (if b = a then bareT H b else none) = some o := h
      split at h
      · exact (bareT_some h).1
      · cases h
    · have h : (if b = a then bareT H b else none) = some (.tbl ps) := h
      split at h
      · exact bareT_free b ps h
      · cases h
    · rw [lenσ]
      simp
      omega
    · match l with
      | 0 =>
        have h : some (R.sc ns) = some c := h
        cases h
        exact ⟨a, by unfold L2.start; simp, sqL_at hS⟩
      | l + 1 =>
        have h : (List.replicate (n - 1) R.un)[l]? = some c := by simpa using h
        rw [List.getElem?_replicate] at h
        split at h
        · cases h; trivial
        · cases h
    · exfalso
      match l, o with
      | 0, ⟨_, .inl ⟨xs, z⟩⟩ => cases (show some (R.sc ns) = _ from z)
      | 0, ⟨_, .inr ⟨xs, z⟩⟩ => cases (show some (R.sc ns) = _ from z)
      | l + 1, ⟨_, .inl ⟨xs, z⟩⟩ =>
        have z : (List.replicate (n - 1) R.un)[l]? = some (.l xs) := by simpa using z
        rw [List.getElem?_replicate] at z
        split at z <;> cases z
      | l + 1, ⟨_, .inr ⟨xs, z⟩⟩ =>
        have z : (List.replicate (n - 1) R.un)[l]? = some (.m xs) := by simpa using z
        rw [List.getElem?_replicate] at z
        split at z <;> cases z
    · exfalso
      match l, o with
      | 0, ⟨_, .inl ⟨xs, z⟩⟩ => cases (show some (R.sc ns) = _ from z)
      | 0, ⟨_, .inr ⟨xs, z⟩⟩ => cases (show some (R.sc ns) = _ from z)
      | l + 1, ⟨_, .inl ⟨xs, z⟩⟩ =>
        have z : (List.replicate (n - 1) R.un)[l]? = some (.l xs) := by simpa using z
        rw [List.getElem?_replicate] at z
        split at z <;> cases z
      | l + 1, ⟨_, .inr ⟨xs, z⟩⟩ =>
        have z : (List.replicate (n - 1) R.un)[l]? = some (.m xs) := by simpa using z
        rw [List.getElem?_replicate] at z
        split at z <;> cases z
  refine ⟨F1, bareT H, none, F1, _, A0, ?_⟩
  have ec : callF fO (fCons (fVarS 0) fNil) ⟨.sc ns :: List.replicate (n - 1) .un, none⟩ = .ok (.o (.l [.list (cells.map .int), .int 0, .int 0])) ⟨.sc ns :: List.replicate (n - 1) .un, none⟩ := by
    have q1 : fCons (fVarS 0) fNil ⟨.sc ns :: List.replicate (n - 1) .un, none⟩ = .ok [.s 0] ⟨.sc ns :: List.replicate (n - 1) .un, none⟩ := rfl
    have q2 : argsK ⟨.sc ns :: List.replicate (n - 1) .un, none⟩ [.s 0] = some ([.sc ns], ⟨.sc ns :: List.replicate (n - 1) .un, none⟩) := rfl
    simp only [callF, q1, Out.bind_ok, q2, e1, toPV, ep]
  rw [ec]
  intro v F' H' x1 A1 r1
  obtain ⟨t, vs, rfl, g1, g2, g3, g4, _, _⟩ := r1
  obtain ⟨c, rfl, hc⟩ : ∃ c, vs = [.ref c, .int 0, .int 0] ∧ F' c = some (.lst (cells.map .int)) := by
    cases g3 with
    | cons a1 t1 =>
      cases t1 with
      | cons a2 t2 =>
        cases t2 with
        | cons a3 t3 =>
          cases t3
          cases a2
          cases a3
          cases a1 with
          | lst w1 w2 =>
            have := w2.ints
            subst this
            exact ⟨_, rfl, w1⟩
  refine ⟨F', bareT H', some t, F', ⟨(List.replicate n R.un).set i .pen, some ⟨cells, 0, 0⟩⟩, ?_, ?_⟩
  · have hil : i < n := by
      rw [← hn]
      exact (List.getElem?_eq_some_iff.mp hi).1
    have own : ∀ l b, Own ((L2.start N [V.ref a]).set i (some (V.ref t))) ⟨(List.replicate n R.un).set i .pen, some ⟨cells, 0, 0⟩⟩ l b → False := fun l b o => by
      have key : ∀ c : R, ((List.replicate n R.un).set i .pen)[l]? = some c → c = .pen ∨ c = .un := fun c h => by
        by_cases q : l = i
        · subst q
          rw [List.getElem?_set_self (by simpa using hil)] at h
          exact .inl (Option.some.inj h).symm
        · rw [List.getElem?_set_ne (Ne.symm q), List.getElem?_replicate] at h
          split at h
          · exact .inr (Option.some.inj h).symm
          · cases h
      rcases o.2 with ⟨xs, z⟩ | ⟨xs, z⟩
      · rcases key _ z with q | q <;> cases q
      · rcases key _ z with q | q <;> cases q
    refine ⟨Ex.refl _, A1.sub, fun b o h _ => (bareT_some h).1, A1.tabs, A1.ft, bareT_free, fun b o h => .inl h, by simp [lenσ], fun l c h => ?_, fun l m b o _ => (own l b o).elim, fun l b o => (own l b o).elim, ⟨c, g1, g2, hc⟩⟩
    have h : ((List.replicate n R.un).set i .pen)[l]? = some c := h
    by_cases q : l = i
    · subst q
      rw [List.getElem?_set_self (by simpa using hil)] at h
      cases h
      exact ⟨t, rfl, by rw [List.getElem?_set_self (by rw [lenσ]; exact hil)]⟩
    · rw [List.getElem?_set_ne (Ne.symm q), List.getElem?_replicate] at h
      split at h
      · cases h; trivial
      · cases h
  · rw [e2]
    intro σ' v F3 H3 B q
    cases (show Dn G.K F3 v (.bool true) from q)
    exact hQ H3
end Q3
namespace Q3
open PySem PySem.Spec PyProof.Rows L2
variable [TabSet]
structure Fx (K : PySem.W.Frag) (mg : Str → Option Value) : Prop where
  sm : ∃ o, K.lookup sysModules = some o
  kt : ∀ x ∈ clL, PySem.W.kitOne K (.ref (He.ga K x)) (.ref (He.ga K "ShakenError")) = some true
  k_LookupError : ∀ x ∈ clL, PySem.W.kitOne K (.ref (He.ga K x)) (.type "LookupError") = some false
  k_ArithmeticError : ∀ x ∈ clL, PySem.W.kitOne K (.ref (He.ga K x)) (.type "ArithmeticError") = some false
  k_TypeError : ∀ x ∈ clL, PySem.W.kitOne K (.ref (He.ga K x)) (.type "TypeError") = some false
  all : ExcAll K mg clL "ShakenError"
  e_HasLasso : ExcG K mg "HasLasso"
  e_HasTable : ExcG K mg "HasTable"
  e_NoBasket : ExcG K mg "NoBasket"
  e_NoCounts : ExcG K mg "NoCounts"
  e_NoDigits : ExcG K mg "NoDigits"
  e_NoLetter : ExcG K mg "NoLetter"
  e_NoLetters : ExcG K mg "NoLetters"
  e_NoLot : ExcG K mg "NoLot"
  e_NoMachine : ExcG K mg "NoMachine"
  e_NoMany : ExcG K mg "NoMany"
  e_NoMatch : ExcG K mg "NoMatch"
  e_NoPair : ExcG K mg "NoPair"
  e_NoPiece : ExcG K mg "NoPiece"
  e_NoPieces : ExcG K mg "NoPieces"
  e_NoPlace : ExcG K mg "NoPlace"
  e_NoThings : ExcG K mg "NoThings"
  e_NoUndo : ExcG K mg "NoUndo"
  e_NoWide : ExcG K mg "NoWide"
  e_NoWord : ExcG K mg "NoWord"
  e_TooGreat : ExcG K mg "TooGreat"
  b_ArithmeticError : mg "ArithmeticError" = none
  b_LookupError : mg "LookupError" = none
  b_TypeError : mg "TypeError" = none
  b_ValueError : mg "ValueError" = none
  b_all : mg "all" = none
  b_enumerate : mg "enumerate" = none
  b_int : mg "int" = none
  b_isinstance : mg "isinstance" = none
  b_len : mg "len" = none
  b_list : mg "list" = none
  b_range : mg "range" = none
  b_set : mg "set" = none
  b_sorted : mg "sorted" = none
  b_str : mg "str" = none
  b_tuple : mg "tuple" = none
  i_MOST_LETTERS : ∃ t, mg "MOST_LETTERS" = some (.int 3 t)
  s_ALPHABET : ∃ t, mg "ALPHABET" = some (.str "abcdefghijklmnopqrstuvwxyz" t)
  d_are_letters : HasD K mg "are_letters" (top 25)
  d_need_letters : HasD K mg "need_letters" (top 26)
  d_is_word : HasD K mg "is_word" (top 27)
  d_raw_counts : HasD K mg "raw_counts" (top 29)
  d_counts_of : HasD K mg "counts_of" (top 30)
  d__law_spread : HasD K mg "_law_spread" (top 32)
  d__law_open : HasD K mg "_law_open" (top 33)
  d__law_take : HasD K mg "_law_take" (top 34)
  d__law_z_pick : HasD K mg "_law_z_pick" (top 35)
  d__law_z_kinds : HasD K mg "_law_z_kinds" (top 36)
variable {G : Gb}
/-! are_letters -/
def N_are_letters : List Str := ["thing", "one"]
theorem sc_are_letters : FnScope N_are_letters ["thing"] (defScope (top 25)) := ⟨rfl, rfl, rfl, by decide +kernel, rfl, by decide +kernel, by decide +kernel⟩
def g_are_letters : Sq → Fl := (seqF (ifF (tOrF (tNotF (fB (f1 (gIsi .str) (fVar 0)))) (tNotF (fB (fChain (fun i j => decide (i ≤ j)) (fun i j => decide (i ≤ j)) (fC (.int 1)) (f1 gLenM (fVar 0)) (fC (.int 3)))))) (retF (fC (.bool false))) nxF) (retF (bv (tAndF (fB (fBin gEq (f1 gList (fVar 0)) (f1 gSset (fVar 0)))) (fB (f1 (gBools fun b => b.all id) (lcS (.nm 1) (itF (fVar 0)) yesF (fBin (gInM false) (fVar 1) (fC (.str "abcdefghijklmnopqrstuvwxyz"))) [1])))))))
def F_are_letters : Fd := runB 2 g_are_letters
theorem d_are_letters {X : Cx} {W : WX} (V : Fx G.K G.mg) (C : Cq G 0 N_are_letters (defScope (top 25)) X) (hf : ∀ x, X.fn x = true) (tk : Takes X W) : DSs X W (defBody (top 25)) g_are_letters :=
  (dss_cons (ds_if (dt_w (dw_or (dt_not (dt_val (de_isi .str C rfl rfl V.b_isinstance V.b_str (de_var 0 C)))) (dw_or1 (dt_not (dt_chain op_le op_le de_int (de_callB call_lenM does_lenM (glC C rfl) (mgC C V.b_len) (by decide +kernel) (de_var 0 C)) (de_globI (glC C rfl) (V.i_MOST_LETTERS.imp fun _ h => mgC C h))))))) (dss_one (ds_ret de_bl)) dss_nil) (dss_one (ds_ret (de_and (de_eq C (de_callTy (CallR.or call_list_of (call_list_strs C.calm)) does_list (glC C rfl) (mgC C V.b_list) (by decide +kernel) (de_var 0 C)) (de_sset C rfl rfl V.b_sorted V.b_set (de_var 0 C))) (de_one (de_callB (cr_all C.calm) (does_bools _) (glC C rfl) (mgC C V.b_all) (by decide +kernel) (de_lc (t := (.nm 1)) (own := [("one", 1)]) C (di_of (de_var 0 C)) (by decide +kernel) (fun X1 C1 f1 => (dg_nm 1 C1 rfl (Or.inl rfl) (Or.inr rfl))) (fun X1 C1 k1 => dts_nil) (fun X1 C1 k1 => (de_inM C1 (de_var 1 C1) (de_globS (glC C1 rfl) (V.s_ALPHABET.imp fun _ h => mgC C1 h)))))))))))
theorem h_are_letters (V : Fx G.K G.mg) : Has G 1 "are_letters" ["thing"] F_are_letters := has_of V.d_are_letters (fun _ _ _ _ _ _ us hl => match us, hl with | [_], _ => rfl) sc_are_letters rfl fun X W C hf tk => d_are_letters V C hf tk

/-! need_letters -/
def N_need_letters : List Str := ["thing"]
theorem sc_need_letters : FnScope N_need_letters ["thing"] (defScope (top 26)) := ⟨rfl, rfl, rfl, by decide +kernel, rfl, by decide +kernel, by decide +kernel⟩
def g_need_letters : Sq → Fl := (ifF (tNotF (fB (callF F_are_letters (fCons (fVar 0) fNil)))) (raiseF "NoLetters") nxF)
def F_need_letters : Fd := runB 1 g_need_letters
theorem d_need_letters {X : Cx} {W : WX} (V : Fx G.K G.mg) (C : Cq G 1 N_need_letters (defScope (top 26)) X) (hf : ∀ x, X.fn x = true) (tk : Takes X W) : DSs X W (defBody (top 26)) g_need_letters :=
  (dss_one (ds_if (dt_not (dt_val (de_callH C tk (h_are_letters V) (by decide) rfl rfl (da_cons (de_var 0 C) da_nil) (fl_cons fl_nil)))) (dss_one (ds_raiseG C tk V.e_NoLetters rfl)) dss_nil))
theorem h_need_letters (V : Fx G.K G.mg) : Has G 2 "need_letters" ["thing"] F_need_letters := has_of V.d_need_letters (fun _ _ _ _ _ _ us hl => match us, hl with | [_], _ => rfl) sc_need_letters rfl fun X W C hf tk => d_need_letters V C hf tk

/-! is_word -/
def N_is_word : List Str := ["thing", "letters", "one"]
theorem sc_is_word : FnScope N_is_word ["thing", "letters"] (defScope (top 27)) := ⟨rfl, rfl, rfl, by decide +kernel, rfl, by decide +kernel, by decide +kernel⟩
def g_is_word : Sq → Fl := (retF (bv (tAndF (fB (f1 (gIsi .str) (fVar 0))) (fB (f1 (gBools fun b => b.all id) (lcS (.nm 2) (itF (fVar 0)) yesF (fBin (gInM false) (fVar 2) (fVar 1)) [2]))))))
def F_is_word : Fd := runB 3 g_is_word
theorem d_is_word {X : Cx} {W : WX} (V : Fx G.K G.mg) (C : Cq G 0 N_is_word (defScope (top 27)) X) (hf : ∀ x, X.fn x = true) (tk : Takes X W) : DSs X W (defBody (top 27)) g_is_word :=
  (dss_one (ds_ret (de_and (de_isi .str C rfl rfl V.b_isinstance V.b_str (de_var 0 C)) (de_one (de_callB (cr_all C.calm) (does_bools _) (glC C rfl) (mgC C V.b_all) (by decide +kernel) (de_lc (t := (.nm 2)) (own := [("one", 2)]) C (di_of (de_var 0 C)) (by decide +kernel) (fun X1 C1 f1 => (dg_nm 2 C1 rfl (Or.inl rfl) (Or.inr rfl))) (fun X1 C1 k1 => dts_nil) (fun X1 C1 k1 => (de_inM C1 (de_var 2 C1) (de_var 1 C1)))))))))
theorem h_is_word (V : Fx G.K G.mg) : Has G 1 "is_word" ["thing", "letters"] F_is_word := has_of V.d_is_word (fun _ _ _ _ _ _ us hl => match us, hl with | [_, _], _ => rfl) sc_is_word rfl fun X W C hf tk => d_is_word V C hf tk

/-! raw_counts -/
def N_raw_counts : List Str := ["letters", "word", "letter"]
theorem sc_raw_counts : FnScope N_raw_counts ["letters", "word"] (defScope (top 29)) := ⟨rfl, rfl, rfl, by decide +kernel, rfl, by decide +kernel, by decide +kernel⟩
def g_raw_counts : Sq → Fl := (retF (f1 gTuple (lcS (.nm 2) (itF (fVar 0)) yesF (fM1 "str" gSCount (fVar 1) (fVar 2)) [2])))
def F_raw_counts : Fd := runB 3 g_raw_counts
theorem d_raw_counts {X : Cx} {W : WX} (V : Fx G.K G.mg) (C : Cq G 0 N_raw_counts (defScope (top 29)) X) (hf : ∀ x, X.fn x = true) (tk : Takes X W) : DSs X W (defBody (top 29)) g_raw_counts :=
  (dss_one (ds_ret (de_callTy call_tuple_of does_tuple (glC C rfl) (mgC C V.b_tuple) (by decide +kernel) (de_lc (t := (.nm 2)) (own := [("letter", 2)]) C (di_of (de_var 0 C)) (by decide +kernel) (fun X1 C1 f1 => (dg_nm 2 C1 rfl (Or.inl rfl) (Or.inr rfl))) (fun X1 C1 k1 => dts_nil) (fun X1 C1 k1 => (de_scount (de_var 1 C1) (de_var 2 C1)))))))
theorem h_raw_counts (V : Fx G.K G.mg) : Has G 1 "raw_counts" ["letters", "word"] F_raw_counts := has_of V.d_raw_counts (fun _ _ _ _ _ _ us hl => match us, hl with | [_, _], _ => rfl) sc_raw_counts rfl fun X W C hf tk => d_raw_counts V C hf tk

/-! counts_of -/
def N_counts_of : List Str := ["letters", "word"]
theorem sc_counts_of : FnScope N_counts_of ["letters", "word"] (defScope (top 30)) := ⟨rfl, rfl, rfl, by decide +kernel, rfl, by decide +kernel, by decide +kernel⟩
def g_counts_of : Sq → Fl := (seqF (dropF (callF F_need_letters (fCons (fVar 0) fNil))) (seqF (ifF (tNotF (fB (callF F_is_word (fCons (fVar 1) (fCons (fVar 0) fNil))))) (raiseF "NoWord") nxF) (retF (callF F_raw_counts (fCons (fVar 0) (fCons (fVar 1) fNil))))))
def F_counts_of : Fd := runB 2 g_counts_of
theorem d_counts_of {X : Cx} {W : WX} (V : Fx G.K G.mg) (C : Cq G 2 N_counts_of (defScope (top 30)) X) (hf : ∀ x, X.fn x = true) (tk : Takes X W) : DSs X W (defBody (top 30)) g_counts_of :=
  (dss_cons (ds_expr (de_callH C tk (h_need_letters V) (by decide) rfl rfl (da_cons (de_var 0 C) da_nil) (fl_cons fl_nil))) (dss_cons (ds_if (dt_not (dt_val (de_callH C tk (h_is_word V) (by decide) rfl rfl (da_cons (de_var 1 C) (da_cons (de_var 0 C) da_nil)) (fl_cons (fl_cons fl_nil))))) (dss_one (ds_raiseG C tk V.e_NoWord rfl)) dss_nil) (dss_one (ds_ret (de_callH C tk (h_raw_counts V) (by decide) rfl rfl (da_cons (de_var 0 C) (da_cons (de_var 1 C) da_nil)) (fl_cons (fl_cons fl_nil)))))))
theorem h_counts_of (V : Fx G.K G.mg) : Has G 3 "counts_of" ["letters", "word"] F_counts_of := has_of V.d_counts_of (fun _ _ _ _ _ _ us hl => match us, hl with | [_, _], _ => rfl) sc_counts_of rfl fun X W C hf tk => d_counts_of V C hf tk

/-! _law_spread -/
def N__law_spread : List Str := ["_law_cell", "_law_at", "_law_primes", "_law_one", "_law_two", "_law_three"]
theorem sc__law_spread : FnScope N__law_spread ["_law_cell", "_law_at"] (defScope (top 32)) := ⟨rfl, rfl, rfl, by decide +kernel, rfl, by decide +kernel, by decide +kernel⟩
def g__law_spread : Sq → Fl := (seqF (ifF (fB (fBin gGe (fVar 0) (fBin gPow (fC (.int 10)) (fC (.int 18))))) (retF (fVar 0)) nxF) (seqF (setF 2 (fLst (fCons (fC (.int 2147483629)) (fCons (fC (.int 2147483587)) (fCons (fC (.int 2147483579)) (fCons (fC (.int 2147483563)) (fCons (fC (.int 2147483549)) (fCons (fC (.int 2147483543)) (fCons (fC (.int 2147483497)) (fCons (fC (.int 2147483489)) fNil)))))))))) (seqF (setF 2 (fBin gAdd (fVar 2) (fLst (fCons (fC (.int 2147483477)) (fCons (fC (.int 2147483423)) (fCons (fC (.int 2147483399)) (fCons (fC (.int 2147483353)) (fCons (fC (.int 2147483323)) fNil)))))))) (seqF (setF 3 (fBin gMulA (fBin gMod (f1 gInt1 (fVar 0)) (fC (.int 1000000007))) (fBin gAdd (fBin gMulA (fC (.int 2)) (fVar 1)) (fC (.int 69069))))) (seqF (setF 3 (fBin gMod (f1 gInt1 (fBin gPow (fBin gAdd (fBin gAdd (fVar 3) (fBin gMulA (fVar 1) (fC (.int 40503)))) (fC (.int 977))) (fC (.int 3)))) (fBin gIxM (fVar 2) (fBin gMod (f1 gInt1 (fVar 1)) (fC (.int 13)))))) (seqF (setF 4 (fBin gMod (f1 gInt1 (fBin gPow (fBin gAdd (fBin gAdd (fBin gMulA (fVar 3) (fBin gAdd (fVar 1) (fC (.int 3)))) (fBin gMod (f1 gInt1 (fVar 0)) (fC (.int 65537)))) (fC (.int 5))) (fC (.int 5)))) (fBin gIxM (fVar 2) (fBin gMod (f1 gInt1 (fBin gAdd (fVar 1) (fC (.int 5)))) (fC (.int 13)))))) (seqF (setF 5 (fBin gMod (f1 gInt1 (fBin gPow (fBin gAdd (fBin gAdd (fVar 4) (fBin gMod (f1 gInt1 (fVar 3)) (fC (.int 1009)))) (fVar 1)) (fC (.int 3)))) (fBin gIxM (fVar 2) (fBin gMod (f1 gInt1 (fBin gAdd (fVar 1) (fC (.int 7)))) (fC (.int 13)))))) (retF (fBin gAdd (fBin gMulA (fBin gAdd (fBin gMulA (fVar 3) (fC (.int 2147483647))) (fVar 4)) (fC (.int 2147483647))) (fVar 5))))))))))
def F__law_spread : Fd := runB 6 g__law_spread
theorem d__law_spread {X : Cx} {W : WX} (V : Fx G.K G.mg) (C : Cq G 0 N__law_spread (defScope (top 32)) X) (hf : ∀ x, X.fn x = true) (tk : Takes X W) : DSs X W (defBody (top 32)) g__law_spread :=
  (dss_cons (ds_if (dt_ge (de_var 0 C) (de_pow de_int de_int)) (dss_one (ds_ret (de_var 0 C))) dss_nil) (dss_cons (ds_set 2 C (de_lst (da_cons de_int (da_cons de_int (da_cons de_int (da_cons de_int (da_cons de_int (da_cons de_int (da_cons de_int (da_cons de_int da_nil))))))))) (hf := .inl (hf _))) (dss_cons (ds_set 2 C (de_add (de_var 2 C) (de_lst (da_cons de_int (da_cons de_int (da_cons de_int (da_cons de_int (da_cons de_int da_nil))))))) (hf := .inl (hf _))) (dss_cons (ds_set 3 C (de_mulA (de_mod (de_callTy call_int1 does_int1 (glC C rfl) (mgC C V.b_int) (by decide +kernel) (de_var 0 C)) de_int) (de_add (de_mulA de_int (de_var 1 C)) de_int)) (hf := .inl (hf _))) (dss_cons (ds_set 3 C (de_mod (de_callTy call_int1 does_int1 (glC C rfl) (mgC C V.b_int) (by decide +kernel) (de_pow (de_add (de_add (de_var 3 C) (de_mulA (de_var 1 C) de_int)) de_int) de_int)) (de_ixM C (de_var 2 C) (de_mod (de_callTy call_int1 does_int1 (glC C rfl) (mgC C V.b_int) (by decide +kernel) (de_var 1 C)) de_int))) (hf := .inl (hf _))) (dss_cons (ds_set 4 C (de_mod (de_callTy call_int1 does_int1 (glC C rfl) (mgC C V.b_int) (by decide +kernel) (de_pow (de_add (de_add (de_mulA (de_var 3 C) (de_add (de_var 1 C) de_int)) (de_mod (de_callTy call_int1 does_int1 (glC C rfl) (mgC C V.b_int) (by decide +kernel) (de_var 0 C)) de_int)) de_int) de_int)) (de_ixM C (de_var 2 C) (de_mod (de_callTy call_int1 does_int1 (glC C rfl) (mgC C V.b_int) (by decide +kernel) (de_add (de_var 1 C) de_int)) de_int))) (hf := .inl (hf _))) (dss_cons (ds_set 5 C (de_mod (de_callTy call_int1 does_int1 (glC C rfl) (mgC C V.b_int) (by decide +kernel) (de_pow (de_add (de_add (de_var 4 C) (de_mod (de_callTy call_int1 does_int1 (glC C rfl) (mgC C V.b_int) (by decide +kernel) (de_var 3 C)) de_int)) (de_var 1 C)) de_int)) (de_ixM C (de_var 2 C) (de_mod (de_callTy call_int1 does_int1 (glC C rfl) (mgC C V.b_int) (by decide +kernel) (de_add (de_var 1 C) de_int)) de_int))) (hf := .inl (hf _))) (dss_one (ds_ret (de_add (de_mulA (de_add (de_mulA (de_var 3 C) de_int) (de_var 4 C)) de_int) (de_var 5 C)))))))))))
theorem h__law_spread (V : Fx G.K G.mg) : Has G 1 "_law_spread" ["_law_cell", "_law_at"] F__law_spread := has_of V.d__law_spread (fun _ _ _ _ _ _ us hl => match us, hl with | [_, _], _ => rfl) sc__law_spread rfl fun X W C hf tk => d__law_spread V C hf tk

/-! _law_open -/
def N__law_open : List Str := ["_law_script", "_law_cells", "_law_nth", "_law_cell"]
theorem sc__law_open : FnScope N__law_open ["_law_script"] (defScope (top 33)) := ⟨rfl, rfl, rfl, by decide +kernel, rfl, by decide +kernel, by decide +kernel⟩
def g__law_open : Sq → Fl := (seqF (setF 1 (f1 gList (fScr 0 none (some 12)))) (seqF (forS (.tp [2, 3]) (enumA (fScr 0 (some 12) (some 63))) (setFM 1 (fBin gAdd (fBin gIxM (fVar 1) (fBin gMod (f1 gInt1 (fVar 2)) (fC (.int 12)))) (fVar 3)) (fBin gMod (f1 gInt1 (fVar 2)) (fC (.int 12))))) (retF (fLst (fCons (fVar 1) (fCons (fC (.int 0)) (fCons (fC (.int 0)) fNil)))))))
def F__law_open : Fd := runB 4 g__law_open
theorem d__law_open {X : Cx} {W : WX} (V : Fx G.K G.mg) (C : Cq G 0 N__law_open (defScope (top 33)) X) (hf : ∀ x, X.fn x = true) (tk : Takes X W) : DSs X W (defBody (top 33)) g__law_open :=
  (dss_cons (ds_set 1 C (de_callTy (CallR.or call_list_of (call_list_strs C.calm)) does_list (glC C rfl) (mgC C V.b_list) (by decide +kernel) (de_scr 0 C po_n po_i)) (hf := .inl (hf _))) (dss_cons (ds_for (t := (.tp [2, 3])) C (di_enumA (glC C rfl) (mgC C V.b_enumerate) (de_scr 0 C po_i po_i)) (dg_tp [2, 3] C (dgs_cons 2 C rfl (Or.inl rfl) (Or.inr rfl) (dgs_cons 3 C rfl (Or.inl rfl) (Or.inr rfl) dgs_nil))) (dss_one (ds_setM 1 C (de_add (de_ixM C (de_var 1 C) (de_mod (de_callTy call_int1 does_int1 (glC C rfl) (mgC C V.b_int) (by decide +kernel) (de_var 2 C)) de_int)) (de_var 3 C)) (de_mod (de_callTy call_int1 does_int1 (glC C rfl) (mgC C V.b_int) (by decide +kernel) (de_var 2 C)) de_int)))) (dss_one (ds_ret (de_lst (da_cons (de_var 1 C) (da_cons de_int (da_cons de_int da_nil))))))))
theorem h__law_open (V : Fx G.K G.mg) : Has G 1 "_law_open" ["_law_script"] F__law_open := has_of V.d__law_open (fun _ _ _ _ _ _ us hl => match us, hl with | [_], _ => rfl) sc__law_open rfl fun X W C hf tk => d__law_open V C hf tk

/-! _law_take -/
def N__law_take : List Str := ["_law_pen", "_law_many", "_law_at", "_law_cell", "_law_found"]
theorem sc__law_take : FnScope N__law_take ["_law_pen", "_law_many"] (defScope (top 34)) := ⟨rfl, rfl, rfl, by decide +kernel, rfl, by decide +kernel, by decide +kernel⟩
def g__law_take : Sq → Fl := (seqF (ifF (fB (fBin gLt (fPen 0 2) (fVar 1))) (seqF (setF 2 (fPen 0 1)) (seqF (setF 3 (fC (.int 0))) (seqF (ifF (fB (fBin gLt (fVar 2) (f1 gLenM (fPen 0 0)))) (setF 3 (fBin gIxM (fPen 0 0) (fVar 2))) (ifF (fB (fBin gGt (f1 gLenM (fPen 0 0)) (fC (.int 0)))) (setF 3 (fBin gMod (f1 gInt1 (fBin gIxM (fPen 0 0) (fBin gMod (f1 gInt1 (fBin gAdd (fBin gMulA (fVar 2) (fC (.int 5))) (fC (.int 3)))) (f1 gLenM (fPen 0 0))))) (fBin gAdd (fBin gPow (fC (.int 10)) (fC (.int 17))) (fVar 2)))) nxF)) (seqF (penF 0 1 (fBin gAdd (fVar 2) (fC (.int 1)))) (penF 0 2 (callF F__law_spread (fCons (fVar 3) (fCons (fVar 2) fNil)))))))) nxF) (seqF (setF 4 (fBin gMod (f1 gInt1 (fPen 0 2)) (fVar 1))) (seqF (penF 0 2 (fBin gDiv (fPen 0 2) (fVar 1))) (retF (fVar 4)))))
def F__law_take : Fd := runB 5 g__law_take
theorem d__law_take {X : Cx} {W : WX} (V : Fx G.K G.mg) (C : Cq G 1 N__law_take (defScope (top 34)) X) (hf : ∀ x, X.fn x = true) (tk : Takes X W) : DSs X W (defBody (top 34)) g__law_take :=
  (dss_cons (ds_if (dt_lt (de_pen 0 C) (de_var 1 C)) (dss_cons (ds_set 2 C (de_pen 0 C) (hf := .inl (hf _))) (dss_cons (ds_set 3 C de_int (hf := .inl (hf _))) (dss_cons (ds_if (dt_lt (de_var 2 C) (de_callB call_lenM does_lenM (glC C rfl) (mgC C V.b_len) (by decide +kernel) (de_pen 0 C))) (dss_one (ds_set 3 C (de_ixM C (de_pen 0 C) (de_var 2 C)) (hf := .inl (hf _)))) (dss_one (ds_if (dt_gt (de_callB call_lenM does_lenM (glC C rfl) (mgC C V.b_len) (by decide +kernel) (de_pen 0 C)) de_int) (dss_one (ds_set 3 C (de_mod (de_callTy call_int1 does_int1 (glC C rfl) (mgC C V.b_int) (by decide +kernel) (de_ixM C (de_pen 0 C) (de_mod (de_callTy call_int1 does_int1 (glC C rfl) (mgC C V.b_int) (by decide +kernel) (de_add (de_mulA (de_var 2 C) de_int) de_int)) (de_callB call_lenM does_lenM (glC C rfl) (mgC C V.b_len) (by decide +kernel) (de_pen 0 C))))) (de_add (de_pow de_int de_int) (de_var 2 C))) (hf := .inl (hf _)))) dss_nil))) (dss_cons (ds_pen 0 C (de_add (de_var 2 C) de_int)) (dss_one (ds_pen 0 C (de_callH C tk (h__law_spread V) (by decide) rfl rfl (da_cons (de_var 3 C) (da_cons (de_var 2 C) da_nil)) (fl_cons (fl_cons fl_nil))))))))) dss_nil) (dss_cons (ds_set 4 C (de_mod (de_callTy call_int1 does_int1 (glC C rfl) (mgC C V.b_int) (by decide +kernel) (de_pen 0 C)) (de_var 1 C)) (hf := .inl (hf _))) (dss_cons (ds_pen 0 C (de_div (de_pen 0 C) (de_var 1 C))) (dss_one (ds_ret (de_var 4 C))))))
theorem h__law_take (V : Fx G.K G.mg) : Has G 2 "_law_take" ["_law_pen", "_law_many"] F__law_take := has_of V.d__law_take (fun _ _ _ _ _ _ us hl => match us, hl with | [_, _], _ => rfl) sc__law_take rfl fun X W C hf tk => d__law_take V C hf tk

/-! _law_z_pick -/
def N__law_z_pick : List Str := ["_law_pen", "_law_some"]
theorem sc__law_z_pick : FnScope N__law_z_pick ["_law_pen", "_law_some"] (defScope (top 35)) := ⟨rfl, rfl, rfl, by decide +kernel, rfl, by decide +kernel, by decide +kernel⟩
def g__law_z_pick : Sq → Fl := (retF (fBin gIxM (fVar 1) (callF F__law_take (fCons (fVar 0) (fCons (f1 gLenM (fVar 1)) fNil)))))
def F__law_z_pick : Fd := runB 2 g__law_z_pick
theorem d__law_z_pick {X : Cx} {W : WX} (V : Fx G.K G.mg) (C : Cq G 2 N__law_z_pick (defScope (top 35)) X) (hf : ∀ x, X.fn x = true) (tk : Takes X W) : DSs X W (defBody (top 35)) g__law_z_pick :=
  (dss_one (ds_ret (de_ixM C (de_var 1 C) (de_callH C tk (h__law_take V) (by decide) rfl rfl (da_cons (de_var 0 C) (da_cons (de_callB call_lenM does_lenM (glC C rfl) (mgC C V.b_len) (by decide +kernel) (de_var 1 C)) da_nil)) (fl_cons (fl_cons fl_nil))))))
theorem h__law_z_pick (V : Fx G.K G.mg) : Has G 3 "_law_z_pick" ["_law_pen", "_law_some"] F__law_z_pick := has_of V.d__law_z_pick (fun _ _ _ _ _ _ us hl => match us, hl with | [_, _], _ => rfl) sc__law_z_pick rfl fun X W C hf tk => d__law_z_pick V C hf tk

/-! _law_z_kinds -/
def N__law_z_kinds : List Str := ["_law_one", "_law_found"]
theorem sc__law_z_kinds : FnScope N__law_z_kinds ["_law_one"] (defScope (top 36)) := ⟨rfl, rfl, rfl, by decide +kernel, rfl, by decide +kernel, by decide +kernel⟩
def g__law_z_kinds : Sq → Fl := (seqF (setF 1 (fLst (fCons (fIsE clL 0 "NoWide") (fCons (fIsE clL 0 "NoMachine") (fCons (fIsE clL 0 "NoLetters") (fCons (fIsE clL 0 "NoWord") fNil)))))) (seqF (setF 1 (fBin gAdd (fVar 1) (fLst (fCons (fIsE clL 0 "NoCounts") (fCons (fIsE clL 0 "NoDigits") (fCons (fIsE clL 0 "NoPlace") fNil)))))) (seqF (setF 1 (fBin gAdd (fVar 1) (fLst (fCons (fIsE clL 0 "NoPiece") (fCons (fIsE clL 0 "NoPieces") (fCons (fIsE clL 0 "NoPair") fNil)))))) (seqF (setF 1 (fBin gAdd (fVar 1) (fLst (fCons (fIsE clL 0 "NoMany") (fCons (fIsE clL 0 "NoLot") (fCons (fIsE clL 0 "NoBasket") fNil)))))) (seqF (setF 1 (fBin gAdd (fVar 1) (fLst (fCons (fIsE clL 0 "NoLetter") (fCons (fIsE clL 0 "NoUndo") (fCons (fIsE clL 0 "NoThings") fNil)))))) (seqF (setF 1 (fBin gAdd (fVar 1) (fLst (fCons (fIsE clL 0 "NoMatch") (fCons (fIsE clL 0 "HasTable") (fCons (fIsE clL 0 "HasLasso") fNil)))))) (retF (fBin gAdd (fVar 1) (fLst (fCons (fIsE clL 0 "TooGreat") fNil))))))))))
def F__law_z_kinds : Fd := runB 2 g__law_z_kinds
theorem d__law_z_kinds {X : Cx} {W : WX} (V : Fx G.K G.mg) (C : Cq G 0 N__law_z_kinds (defScope (top 36)) X) (hf : ∀ x, X.fn x = true) (tk : Takes X W) : DSs X W (defBody (top 36)) g__law_z_kinds :=
  (dss_cons (ds_set 1 C (de_lst (da_cons (de_isE 0 C V.all (by decide) V.b_isinstance rfl rfl) (da_cons (de_isE 0 C V.all (by decide) V.b_isinstance rfl rfl) (da_cons (de_isE 0 C V.all (by decide) V.b_isinstance rfl rfl) (da_cons (de_isE 0 C V.all (by decide) V.b_isinstance rfl rfl) da_nil))))) (hf := .inl (hf _))) (dss_cons (ds_set 1 C (de_add (de_var 1 C) (de_lst (da_cons (de_isE 0 C V.all (by decide) V.b_isinstance rfl rfl) (da_cons (de_isE 0 C V.all (by decide) V.b_isinstance rfl rfl) (da_cons (de_isE 0 C V.all (by decide) V.b_isinstance rfl rfl) da_nil))))) (hf := .inl (hf _))) (dss_cons (ds_set 1 C (de_add (de_var 1 C) (de_lst (da_cons (de_isE 0 C V.all (by decide) V.b_isinstance rfl rfl) (da_cons (de_isE 0 C V.all (by decide) V.b_isinstance rfl rfl) (da_cons (de_isE 0 C V.all (by decide) V.b_isinstance rfl rfl) da_nil))))) (hf := .inl (hf _))) (dss_cons (ds_set 1 C (de_add (de_var 1 C) (de_lst (da_cons (de_isE 0 C V.all (by decide) V.b_isinstance rfl rfl) (da_cons (de_isE 0 C V.all (by decide) V.b_isinstance rfl rfl) (da_cons (de_isE 0 C V.all (by decide) V.b_isinstance rfl rfl) da_nil))))) (hf := .inl (hf _))) (dss_cons (ds_set 1 C (de_add (de_var 1 C) (de_lst (da_cons (de_isE 0 C V.all (by decide) V.b_isinstance rfl rfl) (da_cons (de_isE 0 C V.all (by decide) V.b_isinstance rfl rfl) (da_cons (de_isE 0 C V.all (by decide) V.b_isinstance rfl rfl) da_nil))))) (hf := .inl (hf _))) (dss_cons (ds_set 1 C (de_add (de_var 1 C) (de_lst (da_cons (de_isE 0 C V.all (by decide) V.b_isinstance rfl rfl) (da_cons (de_isE 0 C V.all (by decide) V.b_isinstance rfl rfl) (da_cons (de_isE 0 C V.all (by decide) V.b_isinstance rfl rfl) da_nil))))) (hf := .inl (hf _))) (dss_one (ds_ret (de_add (de_var 1 C) (de_lst (da_cons (de_isE 0 C V.all (by decide) V.b_isinstance rfl rfl) da_nil)))))))))))
theorem h__law_z_kinds (V : Fx G.K G.mg) : Has G 1 "_law_z_kinds" ["_law_one"] F__law_z_kinds := has_of V.d__law_z_kinds (fun _ _ _ _ _ _ us hl => match us, hl with | [_], _ => rfl) sc__law_z_kinds rfl fun X W C hf tk => d__law_z_kinds V C hf tk

/-! law -/
def N_law : List Str := ["_law_script", "_law_pen", "_law_turn", "_law_text", "_law_errors", "_law_caught", "e", "_law_k", "_law_one", "_law_j"]
theorem sc_law : FnScope N_law ["_law_script"] (defScope (top 37)) := ⟨rfl, rfl, rfl, by decide +kernel, rfl, by decide +kernel, by decide +kernel⟩
def g_law : Sq → Fl := (seqF (forS (.nm 2) (rng1F (fC (.int 2))) (seqF (setF 3 (callF F__law_z_pick (fCons (fVar 1) (fCons (fLst (fCons (fC (.str "")) (fCons (fC (.str "a")) (fCons (fC (.str "no counts")) (fCons (fBin gMulA (fC (.str "x")) (callF F__law_take (fCons (fVar 1) (fCons (fC (.int 99)) fNil)))) fNil))))) fNil)))) (seqF (mkE 4 3 ["NoWide", "NoMachine", "NoLetters", "NoWord", "NoCounts", "NoDigits"]) (seqF (addE 4 3 ["NoPlace", "NoPiece", "NoPieces", "NoPair", "NoMany", "NoLot"]) (seqF (addE 4 3 ["NoBasket", "NoLetter", "NoUndo", "NoThings", "NoMatch"]) (seqF (addE 4 3 ["HasTable", "HasLasso", "TooGreat"]) (seqF (setF 5 (fC .none)) (seqF (tryHF clL 6 5 (dropF (callF F_counts_of (fCons (callF F__law_z_pick (fCons (fVar 1) (fCons (fLst (fCons (fC (.str "")) (fCons (fC (.str "ba")) (fCons (fC .none) (fCons (fC (.str "abcd")) (fCons (fC (.str "A")) fNil)))))) fNil))) (fCons (fC (.str "")) fNil))))) (seqF (ifF (tOrF (fB (fSlN 5 false)) (fB (fBin gNe (callF F__law_z_kinds (fCons (fVar 5) fNil)) (lcS (.nm 9) (rng1F (fC (.int 20))) yesF (fBin gEq (fVar 9) (fC (.int 2))) [9])))) (retF (fC (.bool false))) nxF) (forE 4 7 8 (seqF (ifF (fB (fBin gNe (callF F__law_z_kinds (fCons (fVar 8) fNil)) (lcS (.nm 9) (rng1F (fC (.int 20))) yesF (fBin gEq (fVar 9) (fVar 7)) [9]))) (retF (fC (.bool false))) nxF) (seqF (ifF (tOrF (tNotF (fB (fIsK clL true 8))) (tNotF (fB (fIsV clL 8)))) (retF (fC (.bool false))) nxF) (ifF (tOrF (fB (fIsK clL false 8)) (tOrF (fB (fIsK clL false 8)) (fB (fIsK clL false 8)))) (retF (fC (.bool false))) nxF))))))))))))) (retF (fC (.bool true))))
theorem d_law {X : Cx} {W : WX} (V : Fx G.K G.mg) (C : Cq G 3 N_law (defScope (top 37)) X) (hf : ∀ x, X.fn x = true) (tk : Takes X W) (hs : X.stack = X.env :: X.outer) (hfr : X.env.frame = some X.env.locals) (hex : X.ex = []) : DSs X W (defBody (top 37)).tail g_law :=
  (dss_cons (ds_for (t := (.nm 2)) C (di_range1 (glC C rfl) (mgC C V.b_range) de_int) (dg_nm 2 C rfl (Or.inl rfl) (Or.inr rfl)) (dss_cons (ds_set 3 C (de_callH C tk (h__law_z_pick V) (by decide) rfl rfl (da_cons (de_var 1 C) (da_cons (de_lst (da_cons de_str (da_cons de_str (da_cons de_str (da_cons (de_mulA de_str (de_callH C tk (h__law_take V) (by decide) rfl rfl (da_cons (de_var 1 C) (da_cons de_int da_nil)) (fl_cons (fl_cons fl_nil)))) da_nil))))) da_nil)) (fl_cons (fl_cons fl_nil))) (hf := .inl (hf _))) (dss_cons (ds_mkE 4 C (pa_exC C V.e_NoWide rfl (pa_exC C V.e_NoMachine rfl (pa_exC C V.e_NoLetters rfl (pa_exC C V.e_NoWord rfl (pa_exC C V.e_NoCounts rfl (pa_exC C V.e_NoDigits rfl pa_exN)))))) (hf := .inl (hf _))) (dss_cons (ds_addE 4 C (pa_exC C V.e_NoPlace rfl (pa_exC C V.e_NoPiece rfl (pa_exC C V.e_NoPieces rfl (pa_exC C V.e_NoPair rfl (pa_exC C V.e_NoMany rfl (pa_exC C V.e_NoLot rfl pa_exN)))))) (hf := .inl (hf _))) (dss_cons (ds_addE 4 C (pa_exC C V.e_NoBasket rfl (pa_exC C V.e_NoLetter rfl (pa_exC C V.e_NoUndo rfl (pa_exC C V.e_NoThings rfl (pa_exC C V.e_NoMatch rfl pa_exN))))) (hf := .inl (hf _))) (dss_cons (ds_addE 4 C (pa_exC C V.e_HasTable rfl (pa_exC C V.e_HasLasso rfl (pa_exC C V.e_TooGreat rfl pa_exN))) (hf := .inl (hf _))) (dss_cons (ds_set 5 C de_non (hf := .inl (hf _))) (dss_cons (ds_tryH (i := 6) (j := 5) C hf tk V.all hs hfr hex rfl rfl rfl rfl rfl fun X W C hf tk => (dss_one (ds_expr (de_callH C tk (h_counts_of V) (by decide) rfl rfl (da_cons (de_callH C tk (h__law_z_pick V) (by decide) rfl rfl (da_cons (de_var 1 C) (da_cons (de_lst (da_cons de_str (da_cons de_str (da_cons de_non (da_cons de_str (da_cons de_str da_nil)))))) da_nil)) (fl_cons (fl_cons fl_nil))) (da_cons de_str da_nil)) (fl_cons (fl_cons fl_nil)))))) (dss_cons (ds_if (dt_w (dw_or (dt_slN 5 C) (dw_or1 (dt_ne C (de_callH C tk (h__law_z_kinds V) (by decide) rfl rfl (da_cons (de_var 5 C) da_nil) (fl_cons fl_nil)) (de_lc (t := (.nm 9)) (own := [("_law_j", 9)]) C (di_range1 (glC C rfl) (mgC C V.b_range) de_int) (by decide +kernel) (fun X1 C1 f1 => (dg_nm 9 C1 rfl (Or.inl rfl) (Or.inr rfl))) (fun X1 C1 k1 => dts_nil) (fun X1 C1 k1 => (de_eq C1 (de_var 9 C1) de_int))))))) (dss_one (ds_ret de_bl)) dss_nil) (dss_one (ds_forE 4 7 8 C rfl V.b_enumerate rfl (dg_tp [7, 8] C (dgs_cons 7 C rfl (Or.inr rfl) (Or.inl (hf _)) (dgs_cons 8 C rfl (Or.inl rfl) (Or.inr rfl) dgs_nil))) (dss_cons (ds_if (dt_ne C (de_callH C tk (h__law_z_kinds V) (by decide) rfl rfl (da_cons (de_var 8 C) da_nil) (fl_cons fl_nil)) (de_lc (t := (.nm 9)) (own := [("_law_j", 9)]) C (di_range1 (glC C rfl) (mgC C V.b_range) de_int) (by decide +kernel) (fun X2 C2 f2 => (dg_nm 9 C2 rfl (Or.inl rfl) (Or.inr rfl))) (fun X2 C2 k2 => dts_nil) (fun X2 C2 k2 => (de_eq C2 (de_var 9 C2) (de_var 7 C2))))) (dss_one (ds_ret de_bl)) dss_nil) (dss_cons (ds_if (dt_w (dw_or (dt_not (dt_val (de_isTop 8 C V.all V.kt V.b_isinstance rfl rfl))) (dw_or1 (dt_not (dt_val (de_isV 8 C V.all V.b_isinstance V.b_ValueError rfl rfl)))))) (dss_one (ds_ret de_bl)) dss_nil) (dss_one (ds_if (dt_w (dw_or (dt_val (de_isK "LookupError" 8 C V.all V.k_LookupError V.b_isinstance V.b_LookupError (by decide +kernel) rfl rfl)) (dw_or (dt_val (de_isK "ArithmeticError" 8 C V.all V.k_ArithmeticError V.b_isinstance V.b_ArithmeticError (by decide +kernel) rfl rfl)) (dw_or1 (dt_val (de_isK "TypeError" 8 C V.all V.k_TypeError V.b_isinstance V.b_TypeError (by decide +kernel) rfl rfl)))))) (dss_one (ds_ret de_bl)) dss_nil))))))))))))))) (dss_one (ds_ret de_bl)))
end Q3
/-! U1: data of machines; numbers of keys; the classes. -/
namespace Q3
open PySem PySem.Spec PyProof.Rows L2
end Q3
set_option exponentiation.threshold 100001
namespace Q3
open PySem PySem.Spec PyProof.Rows L2
def Ret (f : Fd) (rs : List R) (p : Option Pen) (r : R) (p' : Option Pen) : Prop := rz (f rs p) = .ok r p'
theorem cpow_of {i j : Int} (h0 : 0 ≤ j) (h : j ≤ 100) (hb : i.natAbs < 2 ^ 200) : CPowW i j := ⟨h0, h, Nat.lt_of_lt_of_le hb (Nat.pow_le_pow_right (by decide) (by decide))⟩
def primesL : List D := [.int 2147483629, .int 2147483587, .int 2147483579, .int 2147483563, .int 2147483549, .int 2147483543, .int 2147483497, .int 2147483489, .int 2147483477, .int 2147483423, .int 2147483399, .int 2147483353, .int 2147483323]
theorem atI_lt {α : Type} {xs : List α} {i : Int} (h0 : 0 ≤ i) (h : i < xs.length) : ∃ x, atI xs i = some x ∧ x ∈ xs := by
  unfold atI
  have e : ixN xs.length i = some i.toNat := by
    unfold ixN
    simp [h0, h]
  rw [e]
  have hi : i.toNat < xs.length := by omega
  exact ⟨xs[i.toNat], List.getElem?_eq_getElem hi, List.getElem_mem hi⟩
theorem primes_at (a : Int) : ∃ q : Int, atI primesL (a % 13) = some (.int q) ∧ 0 < q ∧ q < 2 ^ 31 := by
  obtain ⟨x, e, m⟩ := atI_lt (xs := primesL) (i := a % 13) (Int.emod_nonneg a (by decide)) (by have := Int.emod_lt_of_pos a (show (0 : Int) < 13 by decide); simpa [primesL] using this)
  rw [e]
  unfold primesL at m
  simp only [List.mem_cons, List.not_mem_nil, or_false] at m
  rcases m with rfl | rfl | rfl | rfl | rfl | rfl | rfl | rfl | rfl | rfl | rfl | rfl | rfl <;> exact ⟨_, rfl, by decide, by decide⟩
theorem spread_ok (c a : Int) (p : Option Pen) (h0 : 0 ≤ a) (h1 : a < 2 ^ 40) : ∃ v, Ret F__law_spread [.d (.int c), .d (.int a)] p (.d (.int v)) p := by
  unfold Ret F__law_spread
  have k0 : CPowW 10 18 := cpow_of (by decide) (by decide) (by decide)
  by_cases hc : (1000000000000000000 : Int) ≤ c
  · exact ⟨c, by simp [g__law_spread, k0, hc]⟩
  · obtain ⟨q1, e1, p1, l1⟩ := primes_at a
    obtain ⟨q2, e2, p2, l2⟩ := primes_at (a + 5)
    obtain ⟨q3, e3, p3, l3⟩ := primes_at (a + 7)
    unfold primesL at e1 e2 e3
    have c1 : CMul 2 a := .inl (by decide)
    have b0 : 0 ≤ c % 1000000007 ∧ c % 1000000007 < 1000000007 := ⟨Int.emod_nonneg c (by decide), Int.emod_lt_of_pos c (by decide)⟩
    have c2 : CMul (c % 1000000007) (2 * a + 69069) := .inl (by omega)
    have c3 : CMul a 40503 := .inr (by decide)
    have b1 : (c % 1000000007 * (2 * a + 69069)).natAbs < 2 ^ 100 := by
      rw [Int.natAbs_mul]
      calc (c % 1000000007).natAbs * (2 * a + 69069).natAbs < 2 ^ 31 * 2 ^ 42 := Nat.mul_lt_mul'' (by omega) (by omega)
        _ ≤ 2 ^ 100 := by decide
    have c4 : CPowW (c % 1000000007 * (2 * a + 69069) + a * 40503 + 977) 3 := cpow_of (by decide) (by decide) (by omega)
    have m1 : ∀ x : Int, 0 ≤ x % q1 ∧ x % q1 < 2 ^ 31 := fun x => ⟨Int.emod_nonneg x (by omega), by have := Int.emod_lt_of_pos x p1; omega⟩
    have m2 : ∀ x : Int, 0 ≤ x % q2 ∧ x % q2 < 2 ^ 31 := fun x => ⟨Int.emod_nonneg x (by omega), by have := Int.emod_lt_of_pos x p2; omega⟩
    have m3 : ∀ x : Int, 0 ≤ x % q3 ∧ x % q3 < 2 ^ 31 := fun x => ⟨Int.emod_nonneg x (by omega), by have := Int.emod_lt_of_pos x p3; omega⟩
    have c5 : ∀ x : Int, CMul (x % q1) (a + 3) := fun x => .inl (by have := m1 x; omega)
    have c6 : ∀ x : Int, CPowW (x % q1 * (a + 3) + c % 65537 + 5) 5 := fun x => cpow_of (by decide) (by decide) (by
      have h := m1 x
      have b : (x % q1 * (a + 3)).natAbs < 2 ^ 100 := by
        rw [Int.natAbs_mul]
        calc (x % q1).natAbs * (a + 3).natAbs < 2 ^ 31 * 2 ^ 42 := Nat.mul_lt_mul'' (by omega) (by omega)
          _ ≤ 2 ^ 100 := by decide
      have h3 : 0 ≤ c % 65537 ∧ c % 65537 < 65537 := ⟨Int.emod_nonneg c (by decide), Int.emod_lt_of_pos c (by decide)⟩
      omega)
    have c7 : ∀ x y : Int, CPowW (x % q2 + y % q1 % 1009 + a) 3 := fun x y => cpow_of (by decide) (by decide) (by
      have h := m2 x
      have h3 : 0 ≤ y % q1 % 1009 ∧ y % q1 % 1009 < 1009 := ⟨Int.emod_nonneg _ (by decide), Int.emod_lt_of_pos _ (by decide)⟩
      omega)
    have c8 : ∀ x : Int, CMul x 2147483647 := fun x => .inr (by decide)
    simp [g__law_spread, k0, hc, sl_eq, c1, c2, c3, c4, e1, e2, e3, p1, p2, p3, c5, c6, c7, c8]
/-- one drawing: a number below m, the place goes on by at most one -/
theorem take_ok (P : Pen) (m : Int) (hm : 0 < m) (hm2 : m ≤ 10 ^ 60) (h0 : 0 ≤ P.at_) (h1 : P.at_ < 2 ^ 30) :
    ∃ v P', Ret F__law_take [.pen, .d (.int m)] (some P) (.d (.int v)) (some P') ∧ 0 ≤ v ∧ v < m ∧ 0 ≤ P'.at_ ∧ P'.at_ ≤ P.at_ + 1 := by
  have lg : m.natAbs.log2 < 200 := by
    have b : m.natAbs ≤ 10 ^ 60 := by omega
    exact (Nat.log2_lt (by omega)).mpr (Nat.lt_of_le_of_lt b (by decide))
  have cd : ∀ x : Int, CDivW x m := fun x => ⟨hm, by omega⟩
  have fin : ∀ x : Int, 0 ≤ x % m ∧ x % m < m := fun x => ⟨Int.emod_nonneg x (by omega), Int.emod_lt_of_pos x hm⟩
  unfold Ret F__law_take
  by_cases hr : P.rest < m
  · -- the cell
    have k0 : CPowW 10 17 := cpow_of (by decide) (by decide) (by decide)
    have c5 : CMul P.at_ 5 := .inr (by decide)
    by_cases hl : P.at_ < P.cells.length
    · obtain ⟨x, ex, mx⟩ := atI_lt (xs := P.cells.map PyData.int) (i := P.at_) h0 (by simpa using hl)
      obtain ⟨c, _, rfl⟩ := List.mem_map.mp mx
      obtain ⟨v, hv⟩ := spread_ok c P.at_ (some { P with at_ := P.at_ + 1 }) h0 (by omega)
      have ev := hv
      unfold Ret at ev
      refine ⟨v % m, ⟨P.cells, P.at_ + 1, v / m⟩, ?_, (fin v).1, (fin v).2, by show 0 ≤ P.at_ + 1; omega, Int.le_refl _⟩
      simp [g__law_take, hr, hl, ex, ev, cd, hm]
    · by_cases hz : P.cells.length = 0
      · have hz' : P.cells = [] := List.length_eq_zero_iff.mp hz
        obtain ⟨v, hv⟩ := spread_ok 0 P.at_ (some { P with at_ := P.at_ + 1 }) h0 (by omega)
        have ev := hv
        unfold Ret at ev
        refine ⟨v % m, ⟨P.cells, P.at_ + 1, v / m⟩, ?_, (fin v).1, (fin v).2, by show 0 ≤ P.at_ + 1; omega, Int.le_refl _⟩
        rw [hz'] at hl ev ⊢
        simp at hl
        simp [g__law_take, hr, hz', Int.not_lt.mpr h0, ev, cd, hm]
      · have hz1 : (0 : Int) < P.cells.length := by omega
        have m5 : 0 ≤ (P.at_ * 5 + 3) % (P.cells.length : Int) ∧ (P.at_ * 5 + 3) % (P.cells.length : Int) < P.cells.length := ⟨Int.emod_nonneg _ (by omega), Int.emod_lt_of_pos _ hz1⟩
        obtain ⟨x, ex, mx⟩ := atI_lt (xs := P.cells.map PyData.int) (i := (P.at_ * 5 + 3) % (P.cells.length : Int)) m5.1 (by simpa using m5.2)
        obtain ⟨c, _, rfl⟩ := List.mem_map.mp mx
        have h17 : (0 : Int) < 100000000000000000 + P.at_ := by omega
        obtain ⟨v, hv⟩ := spread_ok (c % (100000000000000000 + P.at_)) P.at_ (some { P with at_ := P.at_ + 1 }) h0 (by omega)
        have ev := hv
        unfold Ret at ev
        have hz2 : 0 < P.cells.length := by omega
        refine ⟨v % m, ⟨P.cells, P.at_ + 1, v / m⟩, ?_, (fin v).1, (fin v).2, by show 0 ≤ P.at_ + 1; omega, Int.le_refl _⟩
        simp [g__law_take, hr, hl, hz1, hz2, c5, ex, k0, h17, ev, cd, hm]
  · refine ⟨P.rest % m, ⟨P.cells, P.at_, P.rest / m⟩, ?_, (fin _).1, (fin _).2, h0, by show P.at_ ≤ P.at_ + 1; omega⟩
    simp [g__law_take, hr, cd, hm]
/-! ### the pen's place -/
/-- the pen at most at n -/
def At (n : Int) (p : Option Pen) : Prop := ∃ P, p = some P ∧ 0 ≤ P.at_ ∧ P.at_ ≤ n
theorem At.mono {n m : Int} {p : Option Pen} (h : At n p) (k : n ≤ m) : At m p := by
  obtain ⟨P, e, h0, h1⟩ := h
  exact ⟨P, e, h0, by omega⟩
theorem take_at {n m : Int} {p : Option Pen} (h : At n p) (hn : n < 2 ^ 30) (hm : 0 < m) (hm2 : m ≤ 10 ^ 60) : ∃ v p', rz (F__law_take [.pen, .d (.int m)] p) = .ok (.d (.int v)) p' ∧ 0 ≤ v ∧ v < m ∧ At (n + 1) p' := by
  obtain ⟨P, rfl, h0, h1⟩ := h
  obtain ⟨v, P', r, a, b, c, d⟩ := take_ok P m hm hm2 h0 (by omega)
  exact ⟨v, some P', r, a, b, P', rfl, c, by omega⟩
/-- the same, counted by nat -/
theorem take_n {n : Int} {m : Nat} {p : Option Pen} (h : At n p) (hn : n < 2 ^ 30) (hm : 0 < m) (hm2 : m < 1000000) : ∃ v p', rz (F__law_take [.pen, .d (.int (m : Nat))] p) = .ok (.d (.int (v : Nat))) p' ∧ v < m ∧ At (n + 1) p' := by
  obtain ⟨v, p', e, a, b, c⟩ := take_at (m := (m : Int)) h hn (by omega) (by
    have : (1000000 : Int) ≤ 10 ^ 60 := by decide
    omega)
  obtain ⟨w, rfl⟩ := Int.eq_ofNat_of_zero_le a
  exact ⟨w, p', e, by omega, c⟩
theorem pick_at {n : Int} {p : Option Pen} {xs : List D} (h : At n p) (hn : n < 2 ^ 30) (h0 : 0 < xs.length) (h1 : xs.length < 1000000) : ∃ x p', rz (F__law_z_pick [.pen, .d (.list xs)] p) = .ok (.d x) p' ∧ x ∈ xs ∧ At (n + 1) p' := by
  obtain ⟨v, p', e, a, c⟩ := take_n (m := xs.length) h hn h0 h1
  refine ⟨xs[v], p', ?_, List.getElem_mem a, c⟩
  simp [F__law_z_pick, g__law_z_pick, e, List.getElem?_eq_getElem a]
end Q3
/-! E1: the law on errors. -/
namespace Q3
open PySem PySem.Spec PyProof.Rows L2
def t50_1 : Sq → Fl := (setF 3 (callF F__law_z_pick (fCons (fVar 1) (fCons (fLst (fCons (fC (.str "")) (fCons (fC (.str "a")) (fCons (fC (.str "no counts")) (fCons (fBin gMulA (fC (.str "x")) (callF F__law_take (fCons (fVar 1) (fCons (fC (.int 99)) fNil)))) fNil))))) fNil))))
def t50_2 : Sq → Fl := (mkE 4 3 ["NoWide", "NoMachine", "NoLetters", "NoWord", "NoCounts", "NoDigits"])
def t50_3 : Sq → Fl := (addE 4 3 ["NoPlace", "NoPiece", "NoPieces", "NoPair", "NoMany", "NoLot"])
def t50_4 : Sq → Fl := (addE 4 3 ["NoBasket", "NoLetter", "NoUndo", "NoThings", "NoMatch"])
def t50_5 : Sq → Fl := (addE 4 3 ["HasTable", "HasLasso", "TooGreat"])
def t50_6 : Sq → Fl := (setF 5 (fC .none))
def t50_7 : Sq → Fl := (tryHF clL 6 5 (dropF (callF F_counts_of (fCons (callF F__law_z_pick (fCons (fVar 1) (fCons (fLst (fCons (fC (.str "")) (fCons (fC (.str "ba")) (fCons (fC .none) (fCons (fC (.str "abcd")) (fCons (fC (.str "A")) fNil)))))) fNil))) (fCons (fC (.str "")) fNil)))))
def t50_8 : Sq → Fl := (ifF (tOrF (fB (fSlN 5 false)) (fB (fBin gNe (callF F__law_z_kinds (fCons (fVar 5) fNil)) (lcS (.nm 9) (rng1F (fC (.int 20))) yesF (fBin gEq (fVar 9) (fC (.int 2))) [9])))) (retF (fC (.bool false))) nxF)
def t50_9 : Sq → Fl := (forE 4 7 8 (seqF (ifF (fB (fBin gNe (callF F__law_z_kinds (fCons (fVar 8) fNil)) (lcS (.nm 9) (rng1F (fC (.int 20))) yesF (fBin gEq (fVar 9) (fVar 7)) [9]))) (retF (fC (.bool false))) nxF) (seqF (ifF (tOrF (tNotF (fB (fIsK clL true 8))) (tNotF (fB (fIsV clL 8)))) (retF (fC (.bool false))) nxF) (ifF (tOrF (fB (fIsK clL false 8)) (tOrF (fB (fIsK clL false 8)) (fB (fIsK clL false 8)))) (retF (fC (.bool false))) nxF))))
def gTurn50 : Sq → Fl := (seqF t50_1 (seqF t50_2 (seqF t50_3 (seqF t50_4 (seqF t50_5 (seqF t50_6 (seqF t50_7 (seqF t50_8 t50_9))))))))
theorem g_law_50 : g_law = seqF (forS (.nm 2) (rng1F (fC (.int 2))) gTurn50) (retF (fC (.bool true))) := rfl
def badL : List D := [.str "", .str "ba", .none, .str "abcd", .str "A"]
theorem counts_bad (x : D) (hx : x ∈ badL) (p : Option Pen) : rz (F_counts_of [.d x, .d (.str "")] p) = .ex "NoLetters" p := by
  unfold badL at hx
  simp only [List.mem_cons, List.not_mem_nil, or_false] at hx
  rcases hx with rfl | rfl | rfl | rfl | rfl <;> kernel_rfl
def st5 (c2 : R) (t : Str) (c4 c5 c7 c8 : R) (p : Option Pen) : Sq := ⟨[.un, .pen, c2, .d (.str t), c4, c5, .un, c7, c8, .un], p⟩
theorem e2 (c2 : R) (t : Str) (c4 c5 c7 c8 : R) (p : Option Pen) : seqF t50_2 (seqF t50_3 (seqF t50_4 (seqF t50_5 t50_6))) (st5 c2 t c4 c5 c7 c8 p) = .nx (st5 c2 t (.es clL) (.d .none) c7 c8 p) := by kernel_rfl
theorem e8 (c2 : R) (t : Str) (c7 c8 : R) (p : Option Pen) : t50_8 (st5 c2 t (.es clL) (.e "NoLetters") c7 c8 p) = .nx (st5 c2 t (.es clL) (.e "NoLetters") c7 c8 p) := by kernel_rfl
theorem e9 (c2 : R) (t : Str) (c7 c8 : R) (p : Option Pen) : t50_9 (st5 c2 t (.es clL) (.e "NoLetters") c7 c8 p) = .nx (st5 c2 t (.es clL) (.e "NoLetters") (.d (.int 19)) (.e "TooGreat") p) := by kernel_rfl
theorem e1 {n : Int} {p : Option Pen} (h : At n p) (hn : n + 10 < 2 ^ 30) (c2 c3 c4 c5 c7 c8 : R) : ∃ (t : Str) (p' : Option Pen), At (n + 2) p' ∧ t50_1 ⟨[.un, .pen, c2, c3, c4, c5, .un, c7, c8, .un], p⟩ = .nx (st5 c2 t c4 c5 c7 c8 p') := by
  letI : TabSet := ⟨[]⟩
  obtain ⟨v, p1, e1, hv, a1⟩ := take_n (m := 99) h (by omega) (by decide) (by decide)
  obtain ⟨x, p2, e2, hx, a2⟩ := pick_at (xs := [.str "", .str "a", .str "no counts", .str (strRep "x" v)]) a1 (by omega) (by simp) (by simp)
  obtain ⟨t, rfl⟩ : ∃ t, x = .str t := by
    simp only [List.mem_cons, List.not_mem_nil, or_false] at hx
    rcases hx with rfl | rfl | rfl | rfl <;> exact ⟨_, rfl⟩
  refine ⟨t, p2, a2.mono (by omega), ?_⟩
  have e1' : rz (F__law_take [.pen, .d (.int 99)] p) = .ok (.d (.int (v : Nat))) p1 := e1
  have hs : (("x" : Str).length * v) ≤ sizeLine := by
    have : ("x" : Str).length = 1 := by decide
    rw [this]
    have := sl_eq
    omega
  unfold t50_1 st5
  have k1 : (v : Int) < 1000000 ∧ ("x" : Str).length * v ≤ 16777216 := ⟨by omega, by rw [← sl_eq]; exact hs⟩
  simp (config := {implicitDefEqProofs := false}) [e1', hs, k1, e2]
theorem e7 {n : Int} {p : Option Pen} (h : At n p) (hn : n + 10 < 2 ^ 30) (c2 : R) (t : Str) (c7 c8 : R) : ∃ (p' : Option Pen), At (n + 1) p' ∧ t50_7 (st5 c2 t (.es clL) (.d .none) c7 c8 p) = .nx (st5 c2 t (.es clL) (.e "NoLetters") c7 c8 p') := by
  letI : TabSet := ⟨[]⟩
  obtain ⟨x, p1, e1, hx, a1⟩ := pick_at (xs := badL) h (by omega) (by simp [badL]) (by simp [badL])
  refine ⟨p1, a1, ?_⟩
  have e2 := counts_bad x hx p1
  unfold badL at e1
  have e : dropF (callF F_counts_of (fCons (callF F__law_z_pick (fCons (fVar 1) (fCons (fLst (fCons (fC (.str "")) (fCons (fC (.str "ba")) (fCons (fC .none) (fCons (fC (.str "abcd")) (fCons (fC (.str "A")) fNil)))))) fNil))) (fCons (fC (.str "")) fNil))) (st5 c2 t (.es clL) (.d .none) c7 c8 p) = .ex "NoLetters" (st5 c2 t (.es clL) (.d .none) c7 c8 p1) := by
    unfold st5
    simp (config := {implicitDefEqProofs := false}) [e1, e2]
  unfold t50_7 tryHF
  rw [e]
  have hc : ("NoLetters" : Str) ∈ clL := by decide
  simp [hc, st5, wipeR]
theorem seqA2 (a b c : Sq → Fl) (S : Sq) : seqF a (seqF b c) S = seqF (seqF a b) c S := by
  unfold seqF
  cases a S <;> rfl
theorem seq5 (a b c d e f : Sq → Fl) (S : Sq) : seqF a (seqF b (seqF c (seqF d (seqF e f)))) S = seqF (seqF a (seqF b (seqF c (seqF d e)))) f S := by
  unfold seqF
  cases a S <;> try rfl
  rename_i S1
  dsimp only
  cases b S1 <;> try rfl
  rename_i S2
  dsimp only
  cases c S2 <;> try rfl
  rename_i S3
  dsimp only
  cases d S3 <;> rfl
theorem turn50 {n : Int} {p : Option Pen} (h : At n p) (hn : n + 20 < 2 ^ 30) (c2 c3 c4 c5 c7 c8 : R) : ∃ (d3 d4 d5 d7 d8 : R) (p' : Option Pen), At (n + 3) p' ∧ gTurn50 ⟨[.un, .pen, c2, c3, c4, c5, .un, c7, c8, .un], p⟩ = .nx ⟨[.un, .pen, c2, d3, d4, d5, .un, d7, d8, .un], p'⟩ := by
  letI : TabSet := ⟨[]⟩
  obtain ⟨t, p1, a1, x1⟩ := e1 h (by omega) c2 c3 c4 c5 c7 c8
  obtain ⟨p2, a2, x7⟩ := e7 a1 (by omega) c2 t c7 c8
  have x2 := e2 c2 t c4 c5 c7 c8 p1
  refine ⟨.d (.str t), .es clL, .e "NoLetters", .d (.int 19), .e "TooGreat", p2, a2.mono (by omega), ?_⟩
  unfold gTurn50
  rw [ev_seq, x1, seq1_nx, seq5 t50_2 t50_3 t50_4 t50_5 t50_6, ev_seq, x2, seq1_nx, ev_seq, x7, seq1_nx, ev_seq, e8, seq1_nx, e9]
  rfl
theorem ixN_natQ {L i : Nat} (h : i < L) : ixN L (i : Int) = some i := by
  unfold ixN
  have h1 : (i : Int) < L := by omega
  simp [h1]
theorem law_open (ns : List Int) : ∃ (cells : List Int) (S1 : Sq), F__law_open [.sc ns] none = .ok (.l [.list (cells.map .int), .int 0, .int 0]) S1 ∧ S1.p = none := by
  letI : TabSet := ⟨[]⟩
  have e9 : (⟨[R.sc ns] ++ List.replicate (4 - [R.sc ns].length) .un, none⟩ : Sq) = ⟨[.sc ns, .un, .un, .un], none⟩ := rfl
  have s1 : setF 1 (f1 gList (fScr 0 none (some 12))) ⟨[.sc ns, .un, .un, .un], none⟩ = .nx ⟨[.sc ns, .l ((cutG ns none (some 12)).map .int), .un, .un], none⟩ := by
    rw [ev_set, ev_f1]
    rfl
  have s2 : enumA (fScr 0 (some 12) (some 63)) ⟨[.sc ns, .l ((cutG ns none (some 12)).map .int), .un, .un], none⟩ = .ok (enumD 0 ((cutG ns (some 12) (some 63)).map .int)) ⟨[.sc ns, .l ((cutG ns none (some 12)).map .int), .un, .un], none⟩ := by
    rw [ev_enum]
    rfl
  have hh : cutG ns (some 12) (some 63) ≠ [] → (cutG ns none (some 12)).length = 12 := by
    intro h
    have h0 : 0 < (cutG ns (some 12) (some 63)).length := List.length_pos_iff.mpr h
    unfold cutG HT.sIx at h0 ⊢
    simp at h0 ⊢
    omega
  generalize cutG ns (some 12) (some 63) = bs at s2 hh
  generalize cutG ns none (some 12) = as at s1 s2 hh
  unfold F__law_open g__law_open
  rw [ev_run, e9, ev_seq, s1, seq1_nx, ev_seq, ev_for, s2, for1_ok]
  obtain ⟨L, hL⟩ : ∃ L, L = forF (.tp [2, 3]) (setFM 1 (fBin gAdd (fBin gIxM (fVar 1) (fBin gMod (f1 gInt1 (fVar 2)) (fC (.int 12)))) (fVar 3)) (fBin gMod (f1 gInt1 (fVar 2)) (fC (.int 12)))) (enumD 0 (bs.map .int)) ⟨[.sc ns, .l (as.map .int), .un, .un], none⟩ := ⟨_, rfl⟩
  rw [← hL]
  obtain ⟨S', rfl, xs, c2, c3, _, rfl⟩ := for_n hL.symm (P := fun i S => ∃ (xs : List Int) (c2 c3 : R), (bs ≠ [] → xs.length = 12) ∧ S = ⟨[.sc ns, .l (xs.map .int), c2, c3], none⟩) ⟨as, .un, .un, hh, rfl⟩ (by
    rintro i d _ hd ⟨xs, c2, c3, hx, rfl⟩
    obtain ⟨y, hy, rfl⟩ := enumG hd
    obtain ⟨b, hb, rfl⟩ : ∃ b, bs[i]? = some b ∧ y = .int b := by
      rw [List.getElem?_map] at hy
      obtain ⟨b, h1, h2⟩ := Option.map_eq_some_iff.mp hy
      exact ⟨b, h1, h2.symm⟩
    have hl := hx (fun e => by rw [e] at hb; simp at hb)
    obtain ⟨j, hj0, em⟩ : ∃ j : Nat, j < 12 ∧ ((i : Nat) : Int) % 12 = (j : Int) := ⟨i % 12, by omega, by omega⟩
    have hj : j < xs.length := by omega
    have ix := ixN_natQ hj
    simp (config := {implicitDefEqProofs := false}) [int1_i, em, hj, ix, isLM]
    refine ⟨xs.set j (xs[j] + b), fun h => by rw [List.length_set]; exact hl, ?_⟩
    simp [List.map_set])
  exact ⟨xs, ⟨[.sc ns, .d (.list (xs.map .int)), c2, c3], none⟩, by simp, rfl⟩
theorem law_plain (ns : List Int) (h : ns.length ≤ 63) : lawOk 10 1 F__law_open g_law ns := by
  letI : TabSet := ⟨[]⟩
  obtain ⟨cells, S1, e1, hp⟩ := law_open ns
  refine ⟨cells, S1, ?_⟩
  have k3 : Rng62 2 := rng62 (by decide) (by decide)
  have s0 : rng1F (fC (.int 2)) ⟨(List.replicate 10 R.un).set 1 .pen, some ⟨cells, 0, 0⟩⟩ = .ok (rngD 0 2) ⟨(List.replicate 10 R.un).set 1 .pen, some ⟨cells, 0, 0⟩⟩ := by
    rw [ev_rng1, ev_c, rng1_ok, fz_v, val_v, rng2_ok, if_pos k3]
    rfl
  obtain ⟨P, hP⟩ : ∃ P : Nat → Sq → Prop, ∀ i S, P i S ↔ ∃ (c2 c3 c4 c5 c7 c8 : R) (p : Option Pen), At (3 * (i : Nat)) p ∧ S = ⟨[.un, .pen, c2, c3, c4, c5, .un, c7, c8, .un], p⟩ := ⟨_, fun _ _ => Iff.rfl⟩
  obtain ⟨L, hL⟩ : ∃ L, forF (.nm 2) gTurn50 (rngD 0 2) ⟨(List.replicate 10 R.un).set 1 .pen, some ⟨cells, 0, 0⟩⟩ = L := ⟨_, rfl⟩
  obtain ⟨S', rfl, e⟩ := for_n hL P ((hP _ _).mpr ⟨.un, .un, .un, .un, .un, .un, some ⟨cells, 0, 0⟩, ⟨_, rfl, Int.le_refl _, by simp⟩, rfl⟩) (by
      intro i d S hd hp
      obtain ⟨c2, c3, c4, c5, c7, c8, p, a, rfl⟩ := (hP _ _).mp hp
      obtain ⟨hi, rfl⟩ := rngG hd
      have hi : i < 2 := hi
      obtain ⟨d3, d4, d5, d7, d8, p', a', e⟩ := turn50 a (by omega) (.d (iN i)) c3 c4 c5 c7 c8
      have goal := (hP (i + 1) _).mpr ⟨.d (iN i), d3, d4, d5, d7, d8, p', a'.mono (by omega), rfl⟩
      have pu : (Tg.nm 2).put ⟨[.un, .pen, c2, c3, c4, c5, .un, c7, c8, .un], p⟩ (iN i) = some ⟨[.un, .pen, .d (iN i), c3, c4, c5, .un, c7, c8, .un], p⟩ := by simp
      rw [ev_turn, pu, turn1_ok, e, nxt_nx]
      exact goal)
  obtain ⟨c2, c3, c4, c5, c7, c8, p, a, rfl⟩ := (hP _ _).mp e
  refine ⟨⟨[.un, .pen, c2, c3, c4, c5, .un, c7, c8, .un], p⟩, e1, hp, ?_⟩
  rw [g_law_50, ev_seq, ev_for, s0, for1_ok, hL, seq1_nx]
  rfl
end Q3
namespace Q3
open PySem PySem.Spec PyProof.Rows L2
variable [TabSet]
theorem excB_ok {K : PySem.W.Frag} {D : Addr} (h : excB K D = true) : ExcC K D := by
  unfold excB at h
  simp only [Bool.and_eq_true, decide_eq_true_eq] at h
  obtain ⟨h1, h2, h3, h4, h5, h6, h7, h8⟩ := h
  exact ⟨h1, h2, h3, h4, h5, h6, h7, h8⟩
section
variable {K : PySem.W.Frag} {h : Heap} {mg : Str → Option Value}
theorem fxL (X : K.In h) (Gn : h.Ns mainGlobals mg) (c : He.SaysD faL fnL K) (m : exB clL K = true) : Fx K mg := by
  have hx : ∀ x ∈ clL, ExcC K (He.ga K x) ∧ PySem.W.kitOne K (.ref (He.ga K x)) (.type "ValueError") = some true ∧ PySem.W.exmOne K (.ref (He.ga K x)) (.ref (He.ga K "ShakenError")) = some true ∧ PySem.W.exmOne K (.ref (He.ga K x)) (.ref (He.ga K x)) = some true ∧ ∀ y ∈ clL, PySem.W.kitOne K (.ref (He.ga K x)) (.ref (He.ga K y)) = some (x == y) := fun x hx => by
    have q := List.all_eq_true.mp (Bool.and_eq_true_iff.mp m).2 x hx
    simp only [Bool.and_eq_true, decide_eq_true_eq, List.all_eq_true] at q
    obtain ⟨⟨_, q1⟩, q2, q3, q5, q4⟩ := q
    exact ⟨excB_ok q1, q2, q3, q5, q4⟩
  have hg : ∀ x ∈ clL, mg x = some (.ref (He.ga K x)) := by
    intro x hx
    unfold clL at hx
    simp only [List.mem_cons, List.not_mem_nil, or_false] at hx
    rcases hx with rfl | rfl | rfl | rfl | rfl | rfl | rfl | rfl | rfl | rfl | rfl | rfl | rfl | rfl | rfl | rfl | rfl | rfl | rfl | rfl
    · exact He.glo_ok X Gn (c.fact 12 (f := .glo "NoWide") rfl)
    · exact He.glo_ok X Gn (c.fact 13 (f := .glo "NoMachine") rfl)
    · exact He.glo_ok X Gn (c.fact 14 (f := .glo "NoLetters") rfl)
    · exact He.glo_ok X Gn (c.fact 15 (f := .glo "NoWord") rfl)
    · exact He.glo_ok X Gn (c.fact 16 (f := .glo "NoCounts") rfl)
    · exact He.glo_ok X Gn (c.fact 17 (f := .glo "NoDigits") rfl)
    · exact He.glo_ok X Gn (c.fact 18 (f := .glo "NoPlace") rfl)
    · exact He.glo_ok X Gn (c.fact 19 (f := .glo "NoPiece") rfl)
    · exact He.glo_ok X Gn (c.fact 20 (f := .glo "NoPieces") rfl)
    · exact He.glo_ok X Gn (c.fact 21 (f := .glo "NoPair") rfl)
    · exact He.glo_ok X Gn (c.fact 22 (f := .glo "NoMany") rfl)
    · exact He.glo_ok X Gn (c.fact 23 (f := .glo "NoLot") rfl)
    · exact He.glo_ok X Gn (c.fact 24 (f := .glo "NoBasket") rfl)
    · exact He.glo_ok X Gn (c.fact 25 (f := .glo "NoLetter") rfl)
    · exact He.glo_ok X Gn (c.fact 26 (f := .glo "NoUndo") rfl)
    · exact He.glo_ok X Gn (c.fact 27 (f := .glo "NoThings") rfl)
    · exact He.glo_ok X Gn (c.fact 28 (f := .glo "NoMatch") rfl)
    · exact He.glo_ok X Gn (c.fact 29 (f := .glo "HasTable") rfl)
    · exact He.glo_ok X Gn (c.fact 30 (f := .glo "HasLasso") rfl)
    · exact He.glo_ok X Gn (c.fact 31 (f := .glo "TooGreat") rfl)
  have hy : ∀ x ∈ clL, PySem.W.kitOne K (.ref (He.ga K x)) (.ref (He.ga K "ShakenError")) = some true ∧ PySem.W.kitOne K (.ref (He.ga K x)) (.type "LookupError") = some false ∧ PySem.W.kitOne K (.ref (He.ga K x)) (.type "ArithmeticError") = some false ∧ PySem.W.kitOne K (.ref (He.ga K x)) (.type "TypeError") = some false := fun x hx => by
    have q := List.all_eq_true.mp (Bool.and_eq_true_iff.mp m).2 x hx
    simp only [Bool.and_eq_true, decide_eq_true_eq, List.all_eq_true] at q
    exact q.1.1
  exact {
    sm := Option.isSome_iff_exists.mp (Bool.and_eq_true_iff.mp m).1
    kt := fun x h => (hy x h).1
    k_LookupError := fun x h => (hy x h).2.1
    k_ArithmeticError := fun x h => (hy x h).2.2.1
    k_TypeError := fun x h => (hy x h).2.2.2
    all := ⟨hg, He.glo_ok X Gn (c.fact 11 (f := .glo "ShakenError") rfl), fun x h => (hx x h).1, fun x h => (hx x h).2.2.2.2, fun x h => (hx x h).2.1, fun x h => (hx x h).2.2.1, fun x h => (hx x h).2.2.2.1⟩
    e_HasLasso := (He.exc_ok (c.fact 47 (f := .exc "HasLasso") rfl)).elim fun a1 a2 => ⟨He.glo_ok X Gn (c.fact 30 (f := .glo "HasLasso") rfl), a1, a2.1, a2.2.1, a2.2.2⟩
    e_HasTable := (He.exc_ok (c.fact 48 (f := .exc "HasTable") rfl)).elim fun a1 a2 => ⟨He.glo_ok X Gn (c.fact 29 (f := .glo "HasTable") rfl), a1, a2.1, a2.2.1, a2.2.2⟩
    e_NoBasket := (He.exc_ok (c.fact 49 (f := .exc "NoBasket") rfl)).elim fun a1 a2 => ⟨He.glo_ok X Gn (c.fact 24 (f := .glo "NoBasket") rfl), a1, a2.1, a2.2.1, a2.2.2⟩
    e_NoCounts := (He.exc_ok (c.fact 50 (f := .exc "NoCounts") rfl)).elim fun a1 a2 => ⟨He.glo_ok X Gn (c.fact 16 (f := .glo "NoCounts") rfl), a1, a2.1, a2.2.1, a2.2.2⟩
    e_NoDigits := (He.exc_ok (c.fact 51 (f := .exc "NoDigits") rfl)).elim fun a1 a2 => ⟨He.glo_ok X Gn (c.fact 17 (f := .glo "NoDigits") rfl), a1, a2.1, a2.2.1, a2.2.2⟩
    e_NoLetter := (He.exc_ok (c.fact 52 (f := .exc "NoLetter") rfl)).elim fun a1 a2 => ⟨He.glo_ok X Gn (c.fact 25 (f := .glo "NoLetter") rfl), a1, a2.1, a2.2.1, a2.2.2⟩
    e_NoLetters := (He.exc_ok (c.fact 53 (f := .exc "NoLetters") rfl)).elim fun a1 a2 => ⟨He.glo_ok X Gn (c.fact 14 (f := .glo "NoLetters") rfl), a1, a2.1, a2.2.1, a2.2.2⟩
    e_NoLot := (He.exc_ok (c.fact 54 (f := .exc "NoLot") rfl)).elim fun a1 a2 => ⟨He.glo_ok X Gn (c.fact 23 (f := .glo "NoLot") rfl), a1, a2.1, a2.2.1, a2.2.2⟩
    e_NoMachine := (He.exc_ok (c.fact 55 (f := .exc "NoMachine") rfl)).elim fun a1 a2 => ⟨He.glo_ok X Gn (c.fact 13 (f := .glo "NoMachine") rfl), a1, a2.1, a2.2.1, a2.2.2⟩
    e_NoMany := (He.exc_ok (c.fact 56 (f := .exc "NoMany") rfl)).elim fun a1 a2 => ⟨He.glo_ok X Gn (c.fact 22 (f := .glo "NoMany") rfl), a1, a2.1, a2.2.1, a2.2.2⟩
    e_NoMatch := (He.exc_ok (c.fact 57 (f := .exc "NoMatch") rfl)).elim fun a1 a2 => ⟨He.glo_ok X Gn (c.fact 28 (f := .glo "NoMatch") rfl), a1, a2.1, a2.2.1, a2.2.2⟩
    e_NoPair := (He.exc_ok (c.fact 58 (f := .exc "NoPair") rfl)).elim fun a1 a2 => ⟨He.glo_ok X Gn (c.fact 21 (f := .glo "NoPair") rfl), a1, a2.1, a2.2.1, a2.2.2⟩
    e_NoPiece := (He.exc_ok (c.fact 59 (f := .exc "NoPiece") rfl)).elim fun a1 a2 => ⟨He.glo_ok X Gn (c.fact 19 (f := .glo "NoPiece") rfl), a1, a2.1, a2.2.1, a2.2.2⟩
    e_NoPieces := (He.exc_ok (c.fact 60 (f := .exc "NoPieces") rfl)).elim fun a1 a2 => ⟨He.glo_ok X Gn (c.fact 20 (f := .glo "NoPieces") rfl), a1, a2.1, a2.2.1, a2.2.2⟩
    e_NoPlace := (He.exc_ok (c.fact 61 (f := .exc "NoPlace") rfl)).elim fun a1 a2 => ⟨He.glo_ok X Gn (c.fact 18 (f := .glo "NoPlace") rfl), a1, a2.1, a2.2.1, a2.2.2⟩
    e_NoThings := (He.exc_ok (c.fact 62 (f := .exc "NoThings") rfl)).elim fun a1 a2 => ⟨He.glo_ok X Gn (c.fact 27 (f := .glo "NoThings") rfl), a1, a2.1, a2.2.1, a2.2.2⟩
    e_NoUndo := (He.exc_ok (c.fact 63 (f := .exc "NoUndo") rfl)).elim fun a1 a2 => ⟨He.glo_ok X Gn (c.fact 26 (f := .glo "NoUndo") rfl), a1, a2.1, a2.2.1, a2.2.2⟩
    e_NoWide := (He.exc_ok (c.fact 64 (f := .exc "NoWide") rfl)).elim fun a1 a2 => ⟨He.glo_ok X Gn (c.fact 12 (f := .glo "NoWide") rfl), a1, a2.1, a2.2.1, a2.2.2⟩
    e_NoWord := (He.exc_ok (c.fact 65 (f := .exc "NoWord") rfl)).elim fun a1 a2 => ⟨He.glo_ok X Gn (c.fact 15 (f := .glo "NoWord") rfl), a1, a2.1, a2.2.1, a2.2.2⟩
    e_TooGreat := (He.exc_ok (c.fact 66 (f := .exc "TooGreat") rfl)).elim fun a1 a2 => ⟨He.glo_ok X Gn (c.fact 31 (f := .glo "TooGreat") rfl), a1, a2.1, a2.2.1, a2.2.2⟩
    b_ArithmeticError := He.free_ok X Gn (c.fact 32 (f := .free "ArithmeticError") rfl)
    b_LookupError := He.free_ok X Gn (c.fact 33 (f := .free "LookupError") rfl)
    b_TypeError := He.free_ok X Gn (c.fact 34 (f := .free "TypeError") rfl)
    b_ValueError := He.free_ok X Gn (c.fact 35 (f := .free "ValueError") rfl)
    b_all := He.free_ok X Gn (c.fact 36 (f := .free "all") rfl)
    b_enumerate := He.free_ok X Gn (c.fact 37 (f := .free "enumerate") rfl)
    b_int := He.free_ok X Gn (c.fact 38 (f := .free "int") rfl)
    b_isinstance := He.free_ok X Gn (c.fact 39 (f := .free "isinstance") rfl)
    b_len := He.free_ok X Gn (c.fact 40 (f := .free "len") rfl)
    b_list := He.free_ok X Gn (c.fact 41 (f := .free "list") rfl)
    b_range := He.free_ok X Gn (c.fact 42 (f := .free "range") rfl)
    b_set := He.free_ok X Gn (c.fact 43 (f := .free "set") rfl)
    b_sorted := He.free_ok X Gn (c.fact 44 (f := .free "sorted") rfl)
    b_str := He.free_ok X Gn (c.fact 45 (f := .free "str") rfl)
    b_tuple := He.free_ok X Gn (c.fact 46 (f := .free "tuple") rfl)
    i_MOST_LETTERS := He.int_ok X Gn (c.fact 67 (f := .int "MOST_LETTERS" 3) rfl)
    s_ALPHABET := He.str_ok X Gn (c.fact 68 (f := .str "ALPHABET" "abcdefghijklmnopqrstuvwxyz") rfl)
    d_are_letters := (c.def_ 0 (d := dd_are_letters) rfl).elim fun _ F => ⟨_, _, F, He.glo_ok X Gn (c.fact 0 (f := .glo "are_letters") rfl)⟩
    d_need_letters := (c.def_ 1 (d := dd_need_letters) rfl).elim fun _ F => ⟨_, _, F, He.glo_ok X Gn (c.fact 1 (f := .glo "need_letters") rfl)⟩
    d_is_word := (c.def_ 2 (d := dd_is_word) rfl).elim fun _ F => ⟨_, _, F, He.glo_ok X Gn (c.fact 2 (f := .glo "is_word") rfl)⟩
    d_raw_counts := (c.def_ 3 (d := dd_raw_counts) rfl).elim fun _ F => ⟨_, _, F, He.glo_ok X Gn (c.fact 3 (f := .glo "raw_counts") rfl)⟩
    d_counts_of := (c.def_ 4 (d := dd_counts_of) rfl).elim fun _ F => ⟨_, _, F, He.glo_ok X Gn (c.fact 4 (f := .glo "counts_of") rfl)⟩
    d__law_spread := (c.def_ 5 (d := dd__law_spread) rfl).elim fun _ F => ⟨_, _, F, He.glo_ok X Gn (c.fact 5 (f := .glo "_law_spread") rfl)⟩
    d__law_open := (c.def_ 6 (d := dd__law_open) rfl).elim fun _ F => ⟨_, _, F, He.glo_ok X Gn (c.fact 6 (f := .glo "_law_open") rfl)⟩
    d__law_take := (c.def_ 7 (d := dd__law_take) rfl).elim fun _ F => ⟨_, _, F, He.glo_ok X Gn (c.fact 7 (f := .glo "_law_take") rfl)⟩
    d__law_z_pick := (c.def_ 8 (d := dd__law_z_pick) rfl).elim fun _ F => ⟨_, _, F, He.glo_ok X Gn (c.fact 8 (f := .glo "_law_z_pick") rfl)⟩
    d__law_z_kinds := (c.def_ 9 (d := dd__law_z_kinds) rfl).elim fun _ F => ⟨_, _, F, He.glo_ok X Gn (c.fact 9 (f := .glo "_law_z_kinds") rfl)⟩ }
end
theorem endL {w : World} {K : PySem.W.Frag} {h : Heap} {mg : Str → Option Value} {fa : Addr} {fd : FuncData} {exF : PySem.W.Frag → Bool} (KX : K.In h) (c : He.SaysX faL fnL [] tfL exF w h K) (V : Fx K mg) (ef : fa = He.fAd K ("law", none)) (F : L2.FunD K "law" "law" (defArgs (top 37)) (defBody (top 37)) (defScope (top 37)) [] [] fa fd) :
    ∃ (K : PySem.W.Frag) (fd : FuncData) (cs : List (Addr × Addr)) (sp : Sp), K.In h ∧
      (∀ p ∈ cs, h.get? p.2 = some { cls := .none, data := .fields #[] }) ∧ (∀ p ∈ cs, K.lookup p.2 = none) ∧ (∀ p ∈ cs, PySem.W.CodeHd h p.1 p.2) ∧ (∀ (s : Shared) (u : Value), BindsTo s fd ⟨[u], []⟩ [("_law_script", u)]) ∧
      (∀ (H : Hp) (a : Addr) (ns : List Int), ns.length ≤ 63 → (∀ p ∈ cs, H p.2 = some (.tbl #[])) → SqL K H a (ns.map L2.V.int) → sp [.ref a] H (fun v _ => v = .bl true) fun _ _ _ => False) ∧
      ∀ base : Heap, K.In base → base.Ns mainGlobals mg → (∀ p ∈ cs, LamX.TabB base mg p.1 p.2) → FnG ⟨PySem.Challenge.rw_shakenwords_k50_errors_by_hand.prog, w, K, mg, base, True⟩ 4 fa fd ["_law_script"] sp := by
  obtain ⟨oc, od, dV, kV, doc, pm, an, cdv, ct, osl, e, lk, hcd, _, _⟩ := id F.ex
  obtain ⟨cc, ec⟩ := He.codeIn_ref hcd
  have hfc : fd.code = .ref cc := by rw [e]; exact ec
  have hco : He.codeOf K ("law", none) = cc := He.codeOf_eq (by rw [← ef]; exact lk) hfc
  let ts : TabSet := ⟨[]⟩
  refine ⟨K, fd, tfL.map (He.cT K), fun vs H Q _ => ∃ (a : Addr) (ns : List Int), vs = [.ref a] ∧ SqL K H a (ns.map .int) ∧ LamX.Tabs ts.T H ∧ lawOk 10 1 F__law_open g_law ns ∧ ∀ H', Q (.bl true) H', KX, fun p hp => ?_, fun p hp => ?_, fun p hp => ?_, fun s u => F.bindsA (ps := ["_law_script"]) (fun _ _ _ _ _ _ us hl => match us, hl with | [_], _ => rfl) s [u] rfl, fun H a ns hl hT hS => ⟨a, ns, rfl, hS, fun p hp => ?_, law_plain ns hl, fun _ => rfl⟩, fun base hK hN hB => ?_⟩
  · obtain ⟨q, hq, rfl⟩ := List.mem_map.mp hp
    exact c.empty q hq
  · obtain ⟨q, hq, rfl⟩ := List.mem_map.mp hp
    exact c.out q hq
  · obtain ⟨q, hq, rfl⟩ := List.mem_map.mp hp
    exact PySem.W.codeHd_of_K KX (c.hd q hq)
  · exact (List.not_mem_nil hp).elim
  · refine @lawGT ts ⟨PySem.Challenge.rw_shakenwords_k50_errors_by_hand.prog, w, K, mg, base, True⟩ 3 _ 10 1 (top 37) N_law "_law_script" "_law_pen" "_law_open" F__law_open g_law fa fd _ _ _ _ _ _ F sc_law rfl rfl rfl (by decide) rfl (h__law_open V) (by decide) rfl (by first | exact Or.inl rfl | exact Or.inr rfl) rfl (fun X W C hf tk hq hc hs hfr hex => d_law V C hf tk hs hfr hex) (by decide) (by decide) (by decide) (by intro _; rfl)
end Q3
open PySem PySem.W PySem.Calls PyProof.Rows
theorem PySem.Challenge.cw_shakenwords_k50_errors_by_hand_holds : PySem.Challenge.rw_shakenwords_k50_errors_by_hand.Holds := by
  w_on; o_law
  letI : Q3.TabSet := ⟨[]⟩
  refine HandSHeadRun.head_any (r := OpenLaw.row PySem.Challenge.rw_shakenwords_k50_errors_by_hand) (q := view (OpenLaw.row PySem.Challenge.rw_shakenwords_k50_errors_by_hand).prog [37]) (H := Q3.hkL) (ob := Q3.obL) (M := 20000) (loose := Q3.looseL) (d := HandSHeadRun.topDef (OpenLaw.row PySem.Challenge.rw_shakenwords_k50_errors_by_hand).prog 37) (kwd := []) Q3.obL_eq
    (by kernel_rfl) (fun s => by kernel_rfl) Q3.runL (by kernel_rfl) (by kernel_rfl) (by kernel_rfl) (by rfl) (by first | assumption | decide +kernel) (by decide +kernel) ⟨rfl, rfl, rfl, rfl, rfl, by decide +kernel⟩ ?hw ?hc
  case hw => w_witness2
  case hc =>
    refine Q3.walk_G (l := PySem.Challenge.rw_shakenwords_k50_errors_by_hand) (n := 63) (k := 4) (x := "_law_script") rfl (by decide) (by kernel_rfl) ⟨rfl, by decide, by decide⟩ ?F
    intro w mg fa h Y Gn hmg0
    obtain ⟨K, KX, c⟩ := Y
    have hmg : mg ("law" : PySem.Str) = some (.ref fa) := by
      have e : (HandSHeadRun.topDef (OpenLaw.row PySem.Challenge.rw_shakenwords_k50_errors_by_hand).prog 37).name = ("law" : PySem.Str) := by kernel_rfl
      rw [← e]
      exact hmg0
    obtain ⟨fd, F⟩ := c.t.d.def_ 10 (d := Q3.dd_law) rfl
    have e := hmg.symm.trans (He.glo_ok KX Gn (c.t.d.fact 10 (f := .glo "law") rfl))
    cases e
    have V : Q3.Fx K mg := Q3.fxL KX Gn c.t.d c.more
    exact Q3.endL KX c V rfl F
