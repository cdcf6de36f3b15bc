import PyProof.Rows.All
import Wide.All
import OpenK.AllK
import Wide.FinOn
import KE.KStateDown
import Lean
import HandS.ForMost
import HandS.Walk
import HandS.More
import HandS.Defaults
import HandS.SortInts
import HandS.Head0
import HandS.Head1
import HandS.Head2
import HandS.HeadEnd
import HandS.HeadHook1
import HandS.HeadHook2
import HandS.HeadHook3
import HandS.HeadHook4
import HandS.EndBits
import HandS.Head3
import HandS.TupAny
import HandS.Conv
import HandS.Strs
import KE.GoesMore
import HandS.Style
import HandS.WideBits
import HandS.IsInst
import HandS.Wide
import HandS.NoneIn
import HandS.StrMore
import HandS.TupSets
import HandS.Replace
import HandS.Small
import HandS.DictTup
import KE.KDictDisplayH
import PyProof.Draws
import PyProof.ZipIter
import PyProof.ListRange
import PyProof.WalksMore
import PyProof.TupleIter
import KE.KIsAll
import HandS.MapObj
import PyProof.ListNew
import PySem.Challenge.RW_bannedorders_k39_whole_passes_and_least
set_option Elab.async false
set_option linter.all false
set_option maxRecDepth 100000
set_option maxHeartbeats 4000000
namespace PI
open PySem PySem.Spec PyProof.Rows L2
/-! ### data by value -/
inductive D where
  | non | bl (b : Bool) | int (i : Int) | str (x : Str) | tup (ds : List D) | lst (ds : List D) | frz (ds : List D) | dct (ks : List D) (vs : List D) | dic (ks : List D) (vs : List D)
mutual
def kD (K : PySem.W.Frag) : PI.D → Value → Bool
  | .non, .none => true
  | .bl b, .bool c => b == c
  | .int i, .int j _ => decide (i = j)
  | .str x, .str y _ => decide (x = y)
  | .tup ds, .ref a => match K.lookup a with
    | some ⟨.type c, none, .seq its _, _⟩ => decide (c = "tuple") && (decide (its.size ≤ sizeLine) && kDs K ds its.toList)
    | _ => false
  | _, _ => false
def kDs (K : PySem.W.Frag) : List PI.D → List Value → Bool
  | [], [] => true
  | d :: ds, u :: us => kD K d u && kDs K ds us
  | _, _ => false
end
/-- the module's name x stands for d -/
def conD (K : PySem.W.Frag) (x : Str) (d : PI.D) : Bool := match PySem.W.nsIn K mainGlobals x with
  | some (some u) => kD K d u
  | _ => false
/-- the dict that stands at x holds kvs -/
def tabB (K : PySem.W.Frag) (x : Str) (kvs : List (Str × PI.D)) : Bool := kvs.all fun q => match PySem.W.nsIn K (He.ga K x) q.1 with
  | some (some u) => kD K q.2 u
  | _ => false
/-- the module's name x stands for the type n -/
def tyB (K : PySem.W.Frag) (x : Str) (n : String) : Bool := match PySem.W.nsIn K mainGlobals x with
  | some (some (.type m)) => decide (m = n)
  | _ => false
end PI

namespace Wk
open PySem PySem.Spec PyProof.Rows L2 PI
def top (i : Nat) : Stmt := PySem.Challenge.pw_bannedorders_k39_whole_passes_and_least.main.body.getD i (.Pass ⟨0, 0, 0, 0⟩)
def T_LISTS : List (Str × PI.D) := [("stack", (.tup [(.tup [(.int 2), (.int 3), (.int 1)])])), ("popper", (.tup [(.tup [(.int 2), (.int 3), (.int 1)]), (.tup [(.int 3), (.int 1), (.int 2)])])), ("queues", (.tup [(.tup [(.int 3), (.int 2), (.int 1)])])), ("bubble", (.tup [(.tup [(.int 2), (.int 3), (.int 1)]), (.tup [(.int 3), (.int 2), (.int 1)])]))]
end Wk

namespace Hd
open PySem PySem.Spec PyProof.Rows L2 Wk
def dOf (x y : Str) (i : Nat) : He.DefD := ⟨(x, none), y, y, defArgs (top i), defBody (top i), defScope (top i), [], []⟩
def fn_0 : List He.DefD := [dOf "_law_well" "_law_well" 41, dOf "_law_dip" "_law_dip" 42, dOf "_law_orders" "_law_orders" 46, dOf "_law_stack" "_law_stack" 48, dOf "_law_popper" "_law_popper" 49, dOf "_law_queues" "_law_queues" 50, dOf "_law_bubble" "_law_bubble" 51, dOf "_law_made" "_law_made" 52, dOf "_law_less" "_law_less" 54, dOf "_law_unsorted" "_law_unsorted" 55, dOf "is_sorter" "is_sorter" 26, dOf "check_sorter" "check_sorter" 27, dOf "is_integer" "is_integer" 8, dOf "check_number" "check_number" 18, dOf "orders_of" "orders_of" 22, dOf "orders" "orders" 23, dOf "by_stack" "by_stack" 30, dOf "by_popper" "by_popper" 31, dOf "merged" "merged" 32, dOf "by_queues" "by_queues" 33, dOf "by_bubble" "by_bubble" 34, dOf "made_by" "made_by" 35, dOf "risen" "risen" 36, dOf "does_sort" "does_sort" 37, dOf "are_integers" "are_integers" 9, dOf "is_order_of" "is_order_of" 10, dOf "check_order_patterns" "check_order" 15, dOf "is_pattern" "is_pattern" 20, dOf "check_pattern" "check_pattern" 17, dOf "neighbours" "neighbours" 11]
def fn_1 : List He.DefD := [dOf "placed" "placed" 12, dOf "is_shown" "is_shown" 13, dOf "shows" "shows" 21, dOf "least_unsorted" "least_unsorted" 39, dOf "_law_same" "_law_same" 43, dOf "_law_order" "_law_order" 47, dOf "_law_passes" "_law_passes" 53, dOf "is_order" "is_order" 19, dOf "check_order_sorters" "check_order" 28, dOf "passes" "passes" 38, dOf "law" "law" 56]
def fn : List He.DefD := fn_0 ++ fn_1
def fa_0 : List He.Fa := [.glo "_law_well", .glo "_law_dip", .glo "_law_orders", .glo "_law_stack", .glo "_law_popper", .glo "_law_queues", .glo "_law_bubble", .glo "_law_made", .glo "_law_less", .glo "_law_unsorted", .glo "is_sorter", .glo "check_sorter", .glo "is_integer", .glo "check_number", .glo "orders_of", .glo "orders", .glo "by_stack", .glo "by_popper", .glo "merged", .glo "by_queues", .glo "by_bubble", .glo "made_by", .glo "risen", .glo "does_sort", .glo "are_integers", .glo "is_order_of", .glo "check_order_patterns", .glo "is_pattern", .glo "check_pattern", .glo "neighbours"]
def fa_1 : List He.Fa := [.glo "placed", .glo "is_shown", .glo "shows", .glo "least_unsorted", .glo "_law_same", .glo "_law_order", .glo "_law_passes", .glo "is_order", .glo "check_order_sorters", .glo "passes", .glo "law", .glo "LISTS", .free "abs", .free "all", .free "any", .free "bool", .free "enumerate", .free "int", .free "isinstance", .free "len", .free "list", .free "max", .free "min", .free "range", .free "sorted", .free "str", .free "tuple"]
def fa : List He.Fa := fa_0 ++ fa_1
def ts : List He.Tab := [((fun K => He.ga K "LISTS"), ["stack", "popper", "queues", "bubble"])]
def ex (K : PySem.W.Frag) : Bool := PI.tabB K "LISTS" T_LISTS && PI.tyB K "permutations" "itertools.permutations"
abbrev R : PySem.W.OpenRow := PySem.W.OpenLaw.row PySem.Challenge.rw_bannedorders_k39_whole_passes_and_least
abbrev hk : PySem.W.Hook := He.hookX 5 fa fn ts [] ex
def ob (s : PySem.W.SharedT) : He.AlX := He.obsX 5 fa fn ts [] ex (HandSHeadRun.getT s)
theorem ob_eq (s : PySem.W.SharedT) : ob s = hk.obs s.abs := He.obsX_eq (HandSHeadRun.getT_eq s)
def loose_0 : List PySem.Str := ["InvalidNumber", "InvalidOrder", "InvalidPattern", "InvalidSorter", "LISTS", "OrderError", "_law_bubble", "_law_dip", "_law_less", "_law_lets", "_law_made", "_law_order", "_law_orders", "_law_passes", "_law_popper", "_law_queues", "_law_same", "_law_shows", "_law_stack", "_law_unsorted"]
def loose_1 : List PySem.Str := ["_law_well", "are_integers", "by_bubble", "by_popper", "by_queues", "by_stack", "check_number", "check_order", "check_order_patterns", "check_order_sorters", "check_pattern", "check_sorter", "does_sort", "is_integer", "is_order", "is_order_of", "is_pattern", "is_shown", "is_sorter", "least_unsorted"]
def loose_2 : List PySem.Str := ["made_by", "merged", "neighbours", "orders", "orders_of", "passes", "placed", "risen", "shows"]
def loose : List PySem.Str := loose_0 ++ loose_1 ++ loose_2
theorem run_a (w : World) : HandSHeadRun.RunEqI R (PySem.W.view R.prog [0, 56]) hk ob 20000 loose (w.withFollow "special-get-raises" false) := by
  unfold HandSHeadRun.RunEqI
  kernel_rfl
theorem run_b (w : World) : HandSHeadRun.RunEqI R (PySem.W.view R.prog [0, 56]) hk ob 20000 loose (w.withFollow "special-get-raises" true) := by
  unfold HandSHeadRun.RunEqI
  kernel_rfl
theorem run (w : World) : HandSHeadRun.RunEqI R (PySem.W.view R.prog [0, 56]) hk ob 20000 loose w := PySem.W.byRow2 "special-get-raises" (P := fun w => HandSHeadRun.RunEqI R (PySem.W.view R.prog [0, 56]) hk ob 20000 loose w) run_a run_b w
end Hd

namespace PI
open PySem PySem.Spec PyProof.Rows L2
/-! ### new tuples, with their objects -/
def tobj (us : List Value) : Obj := { cls := .type "tuple", data := .seq us.toArray }
theorem frz_new {P : Program} {w : World} {H : Hp} {h : Heap} {xs : List V} {us : List Value} (a : Addr) (hz : xs.length ≤ sizeLine) (r : Vals xs us) (e : h.get? a = some (tobj us)) : ObjOk P w H h a (.frz (tobj us) (.tup xs)) :=
  ⟨e, hz, us, r, ⟨_, e, rfl, _, rfl⟩⟩
/-- H with a new tuple -/
def NewT (H : Hp) (xs : List V) (Q : VK) : Prop := ∀ (p : Addr) (o : Obj), H p = none → o.dict = none → Q (.ref p) (upd H p (.frz o (.tup xs)))
section
variable {X : Cx} {pins : List (Addr × Obj)} {σ : L2.St} {H : Hp} {s : Shared} {Q : VK}
theorem laidT {xs : List V} {us : List Value} {t' : Nat} (I : Inv X pins σ H s) (hz : xs.length ≤ sizeLine) (r : Vals xs us) (q : NewT H xs Q) : EP X pins σ Q (.ref s.heap.objs.size) { s with heap := s.heap.push (tobj us), toks := t' } :=
  ⟨.ref s.heap.objs.size, upd H s.heap.objs.size (.frz (tobj us) (.tup xs)), I.laid (t' := t') (fun b u e => Heap.get?_push_of_some _ e) (Nat.le_refl _) (frz_new _ hz r (Heap.get?_push_size _ rfl)), rfl, q _ _ (I.hok.fresh (Nat.le_refl _)) rfl⟩
variable {pos p apos cpos : Pos} {e : Expr} {es : List Expr} {t : TA}
def tTupF (t : TA) : TE := fun σ H Q => t σ H fun xs H1 => xs.length ≤ sizeLine ∧ NewT H1 xs Q
theorem pe_tupF {x1} (h : PA X es t) : PE X (.Tuple es x1 pos) (tTupF t) := by
  refine ⟨fun pins s σ H Q I hq => ?_⟩
  refine wpAny_Tuple_spliced (thn (h.run pos pins s σ H _ I hq) fun us s1 ⟨xs, H1, I1, r, z, q⟩ => ⟨by rw [← r.length]; exact z, ?_⟩)
  exact laidT (t' := s1.toks) I1 z r q
def rCatF (K : PySem.W.Frag) : R2 := fun x y H Q => ∃ a b xs ys, x = .ref a ∧ y = .ref b ∧ SqT K H a xs ∧ SqT K H b ys ∧ xs.length + ys.length ≤ sizeLine ∧
  (xs = [] → Q (.ref b) H) ∧ (xs ≠ [] → ys = [] → Q (.ref a) H) ∧ (xs ≠ [] → ys ≠ [] → NewT H (xs ++ ys) Q)
theorem op_catF : L2.OpR X (binaryOp .Add) (rCatF X.K) := by
  intro pins s σ H x y v u Q I rx ry h
  obtain ⟨a, b, xs, ys, rfl, rfl, ha, hb, hz, q0, q1, q2⟩ := h
  cases rx
  cases ry
  obtain ⟨its, r1, p1, _⟩ := I.tuple ha
  obtain ⟨its2, r2, p2, _⟩ := I.tuple hb
  by_cases hx : xs = []
  · subst hx
    cases r1
    exact cat_tup0 p1 p2 ⟨.ref b, H, I, rfl, q0 rfl⟩
  · refine HT.cat_tup p1 p2 (fun z => hx (r1.nil_iff.mp z)) (fun z => ⟨.ref a, H, I, rfl, q1 hx (r2.nil_iff.mp z)⟩) (fun z => ?_) (by rw [← r1.length, ← r2.length]; exact hz)
    exact laidT (t' := s.toks) I (by rw [List.length_append]; exact hz) (r1.append r2) (q2 hx (fun w => z (r2.nil_iff.mpr w)))
def rSlF (K : PySem.W.Frag) : V → Option Int → Option Int → Hp → VK → Prop := fun x lo hi H Q => ∃ a xs, x = .ref a ∧ SqT K H a xs ∧
  (HT.sIx xs.length 0 lo = 0 ∧ HT.sIx xs.length xs.length hi = xs.length → Q (.ref a) H) ∧ (¬ (HT.sIx xs.length 0 lo = 0 ∧ HT.sIx xs.length xs.length hi = xs.length) → NewT H (cutV xs lo hi) Q)
theorem sl_tupF : SlR X (rSlF X.K) := by
  intro pins s σ H x v vl vu lo hi sl Q I rx hs pl pu h
  obtain ⟨a, xs, rfl, hx, q1, q2⟩ := h
  cases rx
  obtain ⟨its, r, ht, hz⟩ := I.tuple hx
  have hlen : its.toArray.size = xs.length := by rw [List.size_toArray]; exact r.length.symm
  by_cases hw : HT.sIx xs.length 0 lo = 0 ∧ HT.sIx xs.length xs.length hi = xs.length
  · refine ⟨"tuple", _, PyProof.Rows.slot_tuple_getitem.lookup, ht.typeIs, ?_⟩
    exact getItem_tuple_whole ht hs pl pu (by rw [hlen]; exact hw) ⟨.ref a, H, I, rfl, q1 hw⟩
  · refine ⟨"tuple", _, PyProof.Rows.slot_tuple_getitem.lookup, ht.typeIs, ?_⟩
    refine HT.getItem_tuple_cut ht hs pl pu (by rw [hlen]; exact hw) ?_ (by rw [hlen]; exact hz)
    rw [hlen]
    exact laidT (t' := s.toks) I (Nat.le_trans (cutV_length xs lo hi) hz) ((r.drop (HT.sIx xs.length 0 lo)).take (HT.sIx xs.length xs.length hi - HT.sIx xs.length 0 lo)) (q2 hw)
theorem call_tupleF : CallR X (.type "tuple") (fun xs H Q => ∃ p ys, xs = [.ref p] ∧ ((SqL X.K H p ys ∧ NewT H ys Q) ∨ (SqT X.K H p ys ∧ Q (.ref p) H))) := by
  intro pins s σ H xs us Q I r h
  obtain ⟨p, ys, rfl, h⟩ := h
  obtain ⟨u, rfl, rx⟩ := vals1 r
  cases rx
  rcases h with ⟨hq, q⟩ | ⟨hq, q⟩
  · obtain ⟨its, r', pl, hz⟩ := I.list hq
    have hlen := r'.length
    refine call_tuple_list pl.isList (fun h' kp => ?_) (by simp only [List.size_toArray] <;> omega)
    have I1 : Inv X pins σ H { s with heap := h' } := I.kept (t' := s.toks) kp
    exact laidT (t' := s.toks) I1 hz r' q
  · obtain ⟨its, r', pl, hz⟩ := I.tuple hq
    exact call_tuple_same pl ⟨.ref p, H, I, rfl, q⟩
def tTupRgF (te : L2.St → Hp → (Int → Int → Hp → Prop) → Prop) : TE := fun σ H Q => te σ H fun a b H1 => RgOk a b ∧ NewT H1 (rgV a b) Q
theorem pe_tupRgF {te : L2.St → Hp → (Int → Int → Hp → Prop) → Prop} (hc : X.calm = true) (hg : Gl X "tuple") (hm : X.mg "tuple" = none) (he : PRg X e te) (na : starEach [e] X.env = (false, eval e X.env) :: starEach [] X.env := by rfl) : PE X (.Call (.Name "tuple" p) [e] [] pos) (tTupRgF te) := by
  refine ⟨fun pins s σ H Q I h => ?_⟩
  refine Call_ (ld_blt I hg hm boot_tuple (PyProof.Rows.callWith_type1 (PyProof.Rows.args_cons (thn (he pins s σ H _ I h) fun x s1 ⟨r, a, b, t, u, v, H1, ex, hr, I1, ok, q⟩ => PyProof.Rows.args_nil ?_) na) na))
  subst ex
  obtain ⟨b1, b2, b3, b4, b5⟩ := ok
  refine call_tuple_range (n := (b - a).toNat) (I1.ok.hd hc) hr (small_one b1 b2 b3 b4) (rangeSize_nat a b) b5 fun h' tk acc hk hi => ?_
  have I2 : Inv X pins σ H1 { s1 with heap := h', toks := tk } := I1.kept hk
  have fin := laidT (us := acc.toList) (t' := tk) I2 (by rw [rgV_length, sizeLine_eq]; omega) (vals_rg hi) q
  unfold tobj at fin
  rw [Array.toArray_toList] at fin
  exact fin
/-! ### partition -/
theorem laidP {x y z : Str} {t u v : Tok} {k : Nat} (I : Inv X pins σ H s) (h : NewT H [.str x, .str y, .str z] Q) :
    EP X pins σ Q (.ref s.heap.objs.size) { s with toks := k, heap := s.heap.push { cls := .type "tuple", data := .seq [Value.str x t, .str y u, .str z v].toArray } } :=
  laidT (xs := [.str x, .str y, .str z]) (us := [Value.str x t, .str y u, .str z v]) (t' := k) I (by show 3 ≤ sizeLine; decide) (.cons ⟨t, rfl⟩ (.cons ⟨u, rfl⟩ (.cons ⟨v, rfl⟩ .nil))) h
theorem mt_partitionF : MtR X "str.partition" (fun x xs H Q => ∃ a b, x = .str a ∧ xs = [.str b] ∧ (b.length == 0) = false ∧ a.length ≤ sizeLine ∧
    NewT H [.str (Txt.partition a b).1, .str (Txt.partition a b).2.1, .str (Txt.partition a b).2.2] Q) := by
  intro pins s σ H x xs v us Q I rx rs h
  obtain ⟨a, b, rfl, rfl, hb, hz, h⟩ := h
  obtain ⟨t, rfl⟩ := rx
  cases rs with
  | cons r1 rs =>
    cases rs
    obtain ⟨u, rfl⟩ := r1
    refine call_meets F.slot_str_partition (typeIs_str _ _ _) F.entry_str_partition (F.args_str_partition_2 _ _) (meets_str_partition a b t u hb hz) ?_
    unfold Txt.partition at h
    revert h
    cases Builtin.Str.occurrences a b 0 a.length 1 with
    | nil => intro h; exact laidP I h
    | cons i r => intro h; exact laidP I h
/-! ### methods of tuples -/
/-- a tuple whose object has no dict -/
def PTu (H : Hp) (a : Addr) (vs : List V) : Prop := ∃ o, H a = some (.frz o (.tup vs)) ∧ o.dict = none
def KTup (K : PySem.W.Frag) (a : Addr) (vs : List V) : Prop := ∃ (o : Obj) (its : Array Value) (n : Nat), K.lookup a = some o ∧ o.cls = .type "tuple" ∧ o.dict = none ∧ o.data = .seq its n ∧ its.size ≤ sizeLine ∧ Vals vs its.toList
theorem PTu.rd {a : Addr} {vs : List V} (h : PTu H a vs) : Rd H a (.tup vs) := by
  obtain ⟨o, h, _⟩ := h
  exact .inr ⟨o, h⟩
theorem KTup.sq {K : PySem.W.Frag} {a : Addr} {vs : List V} (h : KTup K a vs) : SqT K H a vs := by
  obtain ⟨o, its, n, h1, h2, h3, h4, h5, h6⟩ := h
  exact .inr ⟨o, its, n, h1, h2, h4, h5, h6⟩
theorem pt_no {X : Cx} {a : Addr} {vs : List V} (I : Inv X pins σ H s) (h : PTu H a vs ∨ KTup X.K a vs) : s.TypeIs (.ref a) "tuple" ∧ ∃ ob, s.heap.get? a = some ob ∧ ob.dict = none := by
  have sq : SqT X.K H a vs := by
    rcases h with h | h
    · exact .inl h.rd
    · exact h.sq
  obtain ⟨its, _, ht, _⟩ := I.tuple sq
  refine ⟨ht.typeIs, ?_⟩
  rcases h with ⟨o, h, hd⟩ | ⟨o, its, n, h1, h2, h3, _⟩
  · exact ⟨o, (I.hok a _ h).1, hd⟩
  · exact ⟨o, I.kIn a o h1, h3⟩
def tTM (K : PySem.W.Frag) (r : V → List V → Hp → VK → Prop) (to : TE) (t : TA) : TE := fun σ H Q => to σ H fun x H1 => (∃ a vs, x = V.ref a ∧ (PTu H1 a vs ∨ KTup K a vs)) ∧ t σ H1 fun xs H2 => r x xs H2 Q
theorem pe_tm {X : Cx} {o : Expr} {name : Str} {id : String} {r : V → List V → Hp → VK → Prop} {to : TE} (slot : Slot "tuple" name id) (hty : typeOf (.builtin id) = pure (.type "method_descriptor")) (hm : MtR X id r) (ho : PE X o to) (ha : PA X (e :: es) t)
    (hbase : attributeBase o name X.env (eval o X.env) = eval o X.env := by rfl)
    (hfew : ((backTo cpos (starEach (e :: es) X.env)).all (fun x => !x.1) && (backToKw cpos (keywordEach [] X.env)).all (fun x => x.1.isSome)
      && decide ((e :: es).length + ([] : List Keyword).length + (if ([] : List Keyword).isEmpty then 0 else 1) < 30)) = true := by rfl)
    (hline : (apos.endLine == cpos.line) = true := by rfl) (hs : starEach (e :: es) X.env = (false, eval e X.env) :: starEach es X.env := by rfl) (hplain : (backTo cpos (starEach es X.env)).any (·.1) = false := by rfl) :
    PE X (.Call (.Attribute o name apos) (e :: es) [] cpos) (tTM X.K r to t) := by
  refine ⟨fun pins s σ H Q I h => ?_⟩
  refine wpAny_Call_method_late hbase hfew hline rfl (thn (ho.run pins s σ H _ I h) fun v s1 ⟨x, H1, I1, r1, ty, q1⟩ => ?_)
  obtain ⟨a, vs, rfl, hp⟩ := ty
  cases r1
  obtain ⟨h1, ob, h2, h3⟩ := pt_no I1 hp
  refine ⟨"tuple", id, PySem.F.plainAttrs_tuple, slot, hty, h1, fun b e => ?_, ?_⟩
  · cases e
    exact ⟨ob, h2, h3⟩
  have hA := ha.run cpos pins s1 σ H1 _ I1 q1
  rw [hs] at hA ⊢
  refine Calls.callWith_builtin (by show (false || (backTo cpos (starEach es X.env)).any (·.1)) = false; rw [hplain] <;> rfl) (Calls.evalArgs_plain ?_)
  exact thn hA fun us s2 ⟨vs, H2, I2, r2, q2⟩ => hm pins s2 σ H2 (V.ref a) vs (Value.ref a) us Q I2 rfl r2 q2
/-- t.index(x), of ints: the first place -/
theorem mt_tupIndexI : MtR X "tuple.index" (fun x xs H Q => ∃ p, ∃ ys : List Int, ∃ z j, x = .ref p ∧ xs = [.int z] ∧ SqT X.K H p (ys.map V.int) ∧ ys[j]? = some z ∧ (∀ m, m < j → ys[m]? ≠ some z) ∧ Q (.int (j : Nat)) H) := by
  intro pins s σ H x xs v us Q I rx rs h
  obtain ⟨p, ys, z, j, rfl, rfl, hq, hy, hno, q⟩ := h
  cases rx
  obtain ⟨u, rfl, t, rfl⟩ := vals1 rs
  obtain ⟨its, r, pl, hz⟩ := I.tuple hq
  obtain ⟨⟨cls, dd, dt, sl⟩, ho, hc, n, hd⟩ := pl
  simp only at hc hd
  subst hc
  subst hd
  have hl : its.toArray.size = ys.length := by rw [List.size_toArray, ← r.length, List.length_map]
  have hj : j < its.toArray.size := by rw [hl]; exact (List.getElem?_eq_some_iff.mp hy).1
  have at' : ∀ (m : Nat) (hm : m < its.toArray.size), ∃ y t', ys[m]? = some y ∧ its.toArray[m] = Value.int y t' := fun m hm => by
    have hm' : m < ys.length := by rw [← hl]; exact hm
    obtain ⟨w, hw, t', hw'⟩ := r.get (i := m) (x := .int ys[m]) (by simp [hm'])
    refine ⟨ys[m], t', List.getElem?_eq_getElem hm', ?_⟩
    have e := (List.getElem?_eq_some_iff.mp hw).2
    rw [← hw', ← e]
    simp
  have flat : (ys.map V.int).all flatV = true := by
    rw [List.all_map]
    exact List.all_eq_true.mpr fun _ _ => rfl
  refine call_meets PySem.F.slot_tuple_index ⟨_, ho, rfl⟩ PySem.F.entry_tuple_index (PySem.F.args_tuple_index_2 _ _) (TI.tuple_indexAt p its.toArray n dd sl (.int z t) (eqU (.int z)) j hj ?_ ?_)
    ⟨ho, fun w hw => mem_eqAt (x := .int z) ⟨t, rfl⟩ rfl r flat w (by simpa using hw), ⟨.int (j : Nat), H, I.tok _, ⟨_, rfl⟩, q⟩⟩
  · obtain ⟨y, t', h1, h2⟩ := at' j hj
    rw [hy] at h1
    cases h1
    rw [h2]
    show (z == z) = true
    exact beq_self_eq_true z
  · intro m hm hmj
    obtain ⟨y, t', h1, h2⟩ := at' m hm
    rw [h2]
    show (y == z) = false
    exact beq_eq_false_iff_ne.mpr fun e => hno m hmj (e ▸ h1)
end
end PI

namespace PI
open PySem PySem.Spec PyProof.Rows L2
/-- what stands in the written part at a: a tuple, a list -/
def KLst (K : PySem.W.Frag) (a : Addr) (vs : List V) : Prop := ∃ (o : Obj) (its : Array Value) (n : Nat), K.lookup a = some o ∧ o.cls = .type "list" ∧ o.dict = none ∧ o.data = .seq its n ∧ its.size ≤ sizeLine ∧ Vals vs its.toList
def TupAt (K : PySem.W.Frag) (S : Addr → Prop) (H : Hp) (a : Addr) (vs : List V) : Prop := (PTu H a vs ∧ ¬ S a) ∨ KTup K a vs
def FrzAt (K : PySem.W.Frag) (S : Addr → Prop) (H : Hp) (a : Addr) (vs : List V) : Prop := (Rd H a (.lst vs) ∧ ¬ S a) ∨ KLst K a vs
/-- the hash of a tuple of ints -/
def hTi (k : List Int) : Int := reduceHash (Builtin.Tuple.tupleHashOf (k.map hashInt))
/-- a dict whose keys are tuples of ints, by its object -/
def dicO (d : Addr) (xs : List (List Int × Addr × Value)) (h : Heap) : Prop :=
  (d == sysModules) = false ∧ xs.length ≤ sizeLine ∧ (xs.map (·.1)).Nodup ∧ ∃ o es ep, h.get? d = some o ∧ o.ExactDict ∧ o.data = .dict es ep ∧ es.toList = xs.map fun x => ⟨hTi x.1, .ref x.2.1, x.2.2⟩
def keyD : Key → D
  | .inl i => .int i
  | .inr x => .str x
/-- an object that holds vs, by value ds: the value d -/
inductive Cnt : Addr → HO → List V → List D → D → Prop
  | lst {a : Addr} {vs : List V} {ds : List D} : Cnt a (.lst vs) vs ds (.lst ds)
  | dk {a : Addr} {kvs : List (Key × V)} {ds : List D} : Cnt a (.dK kvs) (kvs.map (·.2)) ds (.dic (kvs.map fun p => keyD p.1) ds)
  | dt {a : Addr} {xs : List (List Int × Addr × Value)} {vs : List V} {es : List D} : (xs.map (·.1)).Nodup → Vals vs (xs.map (·.2.2)) → Cnt a (.ext (dicO a xs)) ((xs.map fun x => V.ref x.2.1) ++ vs) ((xs.map fun x => D.tup (x.1.map D.int)) ++ es) (.dct (xs.map fun x => .tup (x.1.map D.int)) es)
theorem Cnt.lstD {a : Addr} {o : HO} {vs : List V} {ds es : List D} (c : Cnt a o vs ds (.lst es)) : o = .lst vs ∧ ds = es := by
  cases c
  exact ⟨rfl, rfl⟩
mutual
inductive Rep (K : PySem.W.Frag) (S : Addr → Prop) (H : Hp) : V → D → Prop
  | non : Rep K S H .non .non
  | bl (b : Bool) : Rep K S H (.bl b) (.bl b)
  | int (i : Int) : Rep K S H (.int i) (.int i)
  | str (x : Str) : Rep K S H (.str x) (.str x)
  | tup {a : Addr} {vs : List V} {ds : List D} : TupAt K S H a vs → RepAll K S H vs ds → Rep K S H (.ref a) (.tup ds)
  | lst {a : Addr} {vs : List V} {ds : List D} : H a = some (.lst vs) → ¬ S a → RepAll K S H vs ds → Rep K S H (.ref a) (.lst ds)
  | frz {a : Addr} {vs : List V} {ds : List D} : FrzAt K S H a vs → RepAll K S H vs ds → Rep K S H (.ref a) (.frz ds)
  | dct {a : Addr} {o : HO} {vs : List V} {ds ks es : List D} : Cnt a o vs ds (.dct ks es) → H a = some o → ¬ S a → RepAll K S H vs ds → Rep K S H (.ref a) (.dct ks es)
  | dic {a : Addr} {o : HO} {vs : List V} {ds ks es : List D} : Cnt a o vs ds (.dic ks es) → H a = some o → ¬ S a → RepAll K S H vs ds → Rep K S H (.ref a) (.dic ks es)
inductive RepAll (K : PySem.W.Frag) (S : Addr → Prop) (H : Hp) : List V → List D → Prop
  | nil : RepAll K S H [] []
  | cons {v : V} {vs : List V} {d : D} {ds : List D} : Rep K S H v d → RepAll K S H vs ds → RepAll K S H (v :: vs) (d :: ds)
end
section
variable {K : PySem.W.Frag} {S S' : Addr → Prop} {H H' : Hp}
theorem TupAt.sq {a : Addr} {vs : List V} (h : TupAt K S H a vs) : SqT K H a vs := by
  rcases h with h | h
  · exact .inl h.1.rd
  · exact h.sq
theorem TupAt.pt {a : Addr} {vs : List V} (h : TupAt K S H a vs) : PTu H a vs ∨ KTup K a vs := h.imp And.left id
theorem FrzAt.sq {a : Addr} {vs : List V} (h : FrzAt K S H a vs) : SqL K H a vs := by
  rcases h with h | h
  · exact .inl h.1
  · exact .inr h
theorem TupAt.step {a : Addr} {vs : List V} (h : ∀ a o, H a = some o → ¬ S a → H' a = some o) (hs : ∀ a, S' a → S a ∨ H a = none) (t : TupAt K S H a vs) : TupAt K S' H' a vs := by
  rcases t with ⟨⟨o, r, d⟩, n⟩ | k
  · refine .inl ⟨⟨o, h _ _ r n, d⟩, fun q => ?_⟩
    rcases hs a q with q | q
    · exact n q
    · rw [q] at r
      cases r
  · exact .inr k
theorem FrzAt.step {a : Addr} {vs : List V} (h : ∀ a o, H a = some o → ¬ S a → H' a = some o) (hs : ∀ a, S' a → S a ∨ H a = none) (t : FrzAt K S H a vs) : FrzAt K S' H' a vs := by
  rcases t with ⟨r, n⟩ | k
  · refine .inl ⟨?_, fun q => ?_⟩
    · rcases r with r | ⟨o, r⟩
      · exact .inl (h _ _ r n)
      · exact .inr ⟨o, h _ _ r n⟩
    · rcases hs a q with q | q
      · exact n q
      · rcases r with r | ⟨o, r⟩
        · rw [q] at r; cases r
        · rw [q] at r; cases r
  · exact .inr k
mutual
theorem Rep.step (h : ∀ a o, H a = some o → ¬ S a → H' a = some o) (hs : ∀ a, S' a → S a ∨ H a = none) : ∀ {v : V} {d : D}, Rep K S H v d → Rep K S' H' v d
  | _, _, .non => .non
  | _, _, .bl b => .bl b
  | _, _, .int i => .int i
  | _, _, .str x => .str x
  | _, _, .tup t r => .tup (t.step h hs) (RepAll.step h hs r)
  | _, _, .lst e n r => .lst (h _ _ e n) (fun q => by
      rcases hs _ q with q | q
      · exact n q
      · rw [q] at e; cases e) (RepAll.step h hs r)
  | _, _, .frz t r => .frz (t.step h hs) (RepAll.step h hs r)
  | _, _, .dct c e n r => .dct c (h _ _ e n) (fun q => by
      rcases hs _ q with q | q
      · exact n q
      · rw [q] at e; cases e) (RepAll.step h hs r)
  | _, _, .dic c e n r => .dic c (h _ _ e n) (fun q => by
      rcases hs _ q with q | q
      · exact n q
      · rw [q] at e; cases e) (RepAll.step h hs r)
theorem RepAll.step (h : ∀ a o, H a = some o → ¬ S a → H' a = some o) (hs : ∀ a, S' a → S a ∨ H a = none) : ∀ {vs : List V} {ds : List D}, RepAll K S H vs ds → RepAll K S' H' vs ds
  | _, _, .nil => .nil
  | _, _, .cons r t => .cons (Rep.step h hs r) (RepAll.step h hs t)
end
/-- the heap grows -/
theorem Rep.grow (h : ∀ a o, H a = some o → H' a = some o) {v : V} {d : D} (r : Rep K S H v d) : Rep K S H' v d := r.step (fun a o e _ => h a o e) fun _ q => .inl q
theorem RepAll.grow (h : ∀ a o, H a = some o → H' a = some o) {vs : List V} {ds : List D} (r : RepAll K S H vs ds) : RepAll K S H' vs ds := r.step (fun a o e _ => h a o e) fun _ q => .inl q
theorem Rep.less (hs : ∀ a, S' a → S a) {v : V} {d : D} (r : Rep K S H v d) : Rep K S' H v d := r.step (fun a o e _ => e) fun _ q => .inl (hs _ q)
theorem RepAll.less (hs : ∀ a, S' a → S a) {vs : List V} {ds : List D} (r : RepAll K S H vs ds) : RepAll K S' H vs ds := r.step (fun a o e _ => e) fun _ q => .inl (hs _ q)
theorem RepAll.length : ∀ {vs : List V} {ds : List D}, RepAll K S H vs ds → vs.length = ds.length
  | _, _, .nil => rfl
  | _, _, .cons _ t => congrArg Nat.succ t.length
theorem RepAll.get : ∀ {vs : List V} {ds : List D} {i : Nat} {d : D}, RepAll K S H vs ds → ds[i]? = some d → ∃ v, vs[i]? = some v ∧ Rep K S H v d
  | _, _, _, _, .nil, e => by simp at e
  | _, _, 0, _, .cons r _, e => by
    have e := Option.some.inj e
    subst e
    exact ⟨_, rfl, r⟩
  | _, _, i + 1, _, .cons _ t, e => t.get (i := i) e
theorem RepAll.getV : ∀ {vs : List V} {ds : List D} {i : Nat} {v : V}, RepAll K S H vs ds → vs[i]? = some v → ∃ d, ds[i]? = some d ∧ Rep K S H v d
  | _, _, _, _, .nil, e => by simp at e
  | _, _, 0, _, .cons r _, e => by
    have e := Option.some.inj e
    subst e
    exact ⟨_, rfl, r⟩
  | _, _, i + 1, _, .cons _ t, e => t.getV (i := i) e
theorem RepAll.append : ∀ {vs us : List V} {ds es : List D}, RepAll K S H vs ds → RepAll K S H us es → RepAll K S H (vs ++ us) (ds ++ es)
  | _, _, _, _, .nil, s => s
  | _, _, _, _, .cons r t, s => .cons r (t.append s)
theorem RepAll.take : ∀ {vs : List V} {ds : List D} (n : Nat), RepAll K S H vs ds → RepAll K S H (vs.take n) (ds.take n)
  | _, _, 0, _ => .nil
  | _, _, _ + 1, .nil => .nil
  | _, _, n + 1, .cons r t => .cons r (t.take n)
theorem RepAll.drop : ∀ {vs : List V} {ds : List D} (n : Nat), RepAll K S H vs ds → RepAll K S H (vs.drop n) (ds.drop n)
  | _, _, 0, r => r
  | _, _, _ + 1, .nil => .nil
  | _, _, n + 1, .cons _ t => t.drop n
theorem RepAll.set : ∀ {vs : List V} {ds : List D} (i : Nat) {v : V} {d : D}, RepAll K S H vs ds → Rep K S H v d → RepAll K S H (vs.set i v) (ds.set i d)
  | _, _, _, _, _, .nil, _ => .nil
  | _, _, 0, _, _, .cons _ t, r => .cons r t
  | _, _, i + 1, _, _, .cons q t, r => .cons q (t.set i r)
theorem RepAll.reverse {vs : List V} {ds : List D} (h : RepAll K S H vs ds) : RepAll K S H vs.reverse ds.reverse := by
  induction h using RepAll.rec (motive_1 := fun _ _ _ => True) with
  | nil => exact .nil
  | cons r t _ ih =>
    rw [List.reverse_cons, List.reverse_cons]
    exact ih.append (.cons r .nil)
  | _ => trivial
theorem RepAll.dropLast {vs : List V} {ds : List D} (h : RepAll K S H vs ds) : RepAll K S H vs.dropLast ds.dropLast := by
  rw [List.dropLast_eq_take, List.dropLast_eq_take, h.length]
  exact h.take _
theorem RepAll.eraseIdx : ∀ {vs : List V} {ds : List D} (i : Nat), RepAll K S H vs ds → RepAll K S H (vs.eraseIdx i) (ds.eraseIdx i)
  | _, _, _, .nil => .nil
  | _, _, 0, .cons _ t => t
  | _, _, i + 1, .cons q t => .cons q (t.eraseIdx i)
theorem RepAll.ints : ∀ (ns : List Int), RepAll K S H (ns.map V.int) (ns.map D.int)
  | [] => .nil
  | n :: r => .cons (.int n) (RepAll.ints r)
theorem RepAll.of_ints : ∀ {vs : List V} {ns : List Int}, RepAll K S H vs (ns.map D.int) → vs = ns.map V.int
  | _, [], .nil => rfl
  | _, n :: r, .cons q t => by
    cases q
    rw [RepAll.of_ints t]
    rfl
theorem RepAll.bls : ∀ (ns : List Bool), RepAll K S H (ns.map V.bl) (ns.map D.bl)
  | [] => .nil
  | n :: r => .cons (.bl n) (RepAll.bls r)
theorem RepAll.of_bls : ∀ {vs : List V} {ns : List Bool}, RepAll K S H vs (ns.map D.bl) → vs = ns.map V.bl
  | _, [], .nil => rfl
  | _, n :: r, .cons q t => by
    cases q
    rw [RepAll.of_bls t]
    rfl
theorem RepAll.strs : ∀ (ns : List Str), RepAll K S H (ns.map V.str) (ns.map D.str)
  | [] => .nil
  | n :: r => .cons (.str n) (RepAll.strs r)
theorem RepAll.of_strs : ∀ {vs : List V} {ns : List Str}, RepAll K S H vs (ns.map D.str) → vs = ns.map V.str
  | _, [], .nil => rfl
  | _, n :: r, .cons q t => by
    cases q
    rw [RepAll.of_strs t]
    rfl
end
theorem Rep.of_cnt {K : PySem.W.Frag} {S : Addr → Prop} {H : Hp} {a : Addr} {o : HO} {vs : List V} {ds : List D} {d : D} (c : Cnt a o vs ds d) (h : H a = some o) (n : ¬ S a) (r : RepAll K S H vs ds) : Rep K S H (.ref a) d := by
  cases c with
  | lst => exact .lst h n r
  | dk => exact .dic .dk h n r
  | dt nd hv => exact .dct (.dt nd hv) h n r
def D.flat : D → Bool
  | .lst _ => false
  | .dct _ _ => false
  | .dic _ _ => false
  | _ => true
/-- a value that is read: an owned object's root may be avoided -/
def View (K : PySem.W.Frag) (S : Addr → Prop) (H : Hp) (v : V) (d : D) : Prop := Rep K S H v d ∨ ∃ a o vs ds, v = .ref a ∧ Cnt a o vs ds d ∧ H a = some o ∧ RepAll K S H vs ds
inductive ViewAll (K : PySem.W.Frag) (S : Addr → Prop) (H : Hp) : List V → List D → Prop
  | nil : ViewAll K S H [] []
  | cons {v : V} {vs : List V} {d : D} {ds : List D} : View K S H v d → ViewAll K S H vs ds → ViewAll K S H (v :: vs) (d :: ds)
/-- what a primitive makes -/
structure Made (K : PySem.W.Frag) (S : Addr → Prop) (H : Hp) (w : Bool × D) (v : V) (H' : Hp) : Prop where
  keep : ∀ a o, H a = some o → H' a = some o
  new : w.1 = true → ∃ a o vs ds, v = .ref a ∧ Cnt a o vs ds w.2 ∧ H a = none ∧ H' a = some o ∧ RepAll K (fun b => S b ∨ b = a) H' vs ds
  old : w.1 = false → Rep K S H' v w.2
section
variable {K : PySem.W.Frag} {S S' : Addr → Prop} {H H' : Hp}
theorem View.lst {v : V} {ds : List D} (h : View K S H v (.lst ds)) : ∃ a vs, v = .ref a ∧ H a = some (.lst vs) ∧ RepAll K S H vs ds := by
  rcases h with h | ⟨a, o, vs, es, e1, e2, e3, e4⟩
  · cases h with
    | lst e n r => exact ⟨_, _, rfl, e, r⟩
  · obtain ⟨rfl, rfl⟩ := e2.lstD
    exact ⟨a, vs, e1, e3, e4⟩
theorem View.rep {v : V} {d : D} (h : View K S H v d) (n : d.flat = true) : Rep K S H v d := by
  rcases h with h | ⟨a, o, vs, es, e1, e2, e3, e4⟩
  · exact h
  · cases e2 <;> cases n
/-- a dict that is read -/
theorem View.dct {v : V} {ks es : List D} (h : View K S H v (.dct ks es)) : ∃ a o vs ds, v = .ref a ∧ Cnt a o vs ds (.dct ks es) ∧ H a = some o ∧ RepAll K S H vs ds := by
  rcases h with h | ⟨a, o, vs, ds, e1, e2, e3, e4⟩
  · cases h with
    | dct c e n r => exact ⟨_, _, _, _, rfl, c, e, r⟩
  · exact ⟨a, o, vs, ds, e1, e2, e3, e4⟩
theorem View.dic {v : V} {ks es : List D} (h : View K S H v (.dic ks es)) : ∃ a o vs ds, v = .ref a ∧ Cnt a o vs ds (.dic ks es) ∧ H a = some o ∧ RepAll K S H vs ds := by
  rcases h with h | ⟨a, o, vs, ds, e1, e2, e3, e4⟩
  · cases h with
    | dic c e n r => exact ⟨_, _, _, _, rfl, c, e, r⟩
  · exact ⟨a, o, vs, ds, e1, e2, e3, e4⟩
theorem Rep.tupD {v : V} {ds : List D} (h : Rep K S H v (.tup ds)) : ∃ a vs, v = .ref a ∧ TupAt K S H a vs ∧ RepAll K S H vs ds := by
  cases h with
  | tup t r => exact ⟨_, _, rfl, t, r⟩
theorem Rep.frzD {v : V} {ds : List D} (h : Rep K S H v (.frz ds)) : ∃ a vs, v = .ref a ∧ FrzAt K S H a vs ∧ RepAll K S H vs ds := by
  cases h with
  | frz t r => exact ⟨_, _, rfl, t, r⟩
theorem View.intD {v : V} {i : Int} (h : View K S H v (.int i)) : v = .int i := by
  cases h.rep rfl
  rfl
theorem View.blD {v : V} {b : Bool} (h : View K S H v (.bl b)) : v = .bl b := by
  cases h.rep rfl
  rfl
theorem View.strD {v : V} {x : Str} (h : View K S H v (.str x)) : v = .str x := by
  cases h.rep rfl
  rfl
theorem View.nonD {v : V} (h : View K S H v .non) : v = .non := by
  cases h.rep rfl
  rfl
theorem View.tupD {v : V} {ds : List D} (h : View K S H v (.tup ds)) : ∃ a vs, v = .ref a ∧ TupAt K S H a vs ∧ RepAll K S H vs ds := (h.rep rfl).tupD
theorem View.frzD {v : V} {ds : List D} (h : View K S H v (.frz ds)) : ∃ a vs, v = .ref a ∧ FrzAt K S H a vs ∧ RepAll K S H vs ds := (h.rep rfl).frzD
theorem made_old {v : V} {d : D} (r : Rep K S H v d) : Made K S H (false, d) v H := ⟨fun _ _ e => e, fun e => (nomatch e), fun _ => r⟩
theorem made_int (i : Int) : Made K S H (false, .int i) (.int i) H := made_old (.int i)
theorem made_bl (i : Bool) : Made K S H (false, .bl i) (.bl i) H := made_old (.bl i)
theorem made_str (i : Str) : Made K S H (false, .str i) (.str i) H := made_old (.str i)
theorem made_non : Made K S H (false, .non) .non H := made_old .non
theorem keep_upd {p : Addr} {o : HO} (hp : H p = none) : ∀ a u, H a = some u → upd H p o a = some u := fun a u e => by
  rw [upd_ne (ne_of_none e hp)]
  exact e
theorem RepAll.newAt {p : Addr} {o : HO} {vs : List V} {ds : List D} (hp : H p = none) (r : RepAll K S H vs ds) : RepAll K (fun b => S b ∨ b = p) (upd H p o) vs ds :=
  r.step (fun a u e _ => keep_upd hp a u e) fun a q => by
    rcases q with q | q
    · exact .inl q
    · subst q
      exact .inr hp
theorem made_lst {p : Addr} {vs : List V} {ds : List D} (hp : H p = none) (r : RepAll K S H vs ds) : Made K S H (true, .lst ds) (.ref p) (upd H p (.lst vs)) :=
  ⟨keep_upd hp, fun _ => ⟨p, _, vs, ds, rfl, .lst, hp, upd_same, r.newAt hp⟩, fun e => (nomatch e)⟩
theorem rep_tup {p : Addr} {o : Obj} {vs : List V} {ds : List D} (hp : H p = none) (hd : o.dict = none) (hs : ¬ S p) (r : RepAll K S H vs ds) : Rep K S (upd H p (.frz o (.tup vs))) (.ref p) (.tup ds) :=
  .tup (.inl ⟨⟨o, upd_same, hd⟩, hs⟩) (r.grow (keep_upd hp))
theorem made_tup {p : Addr} {o : Obj} {vs : List V} {ds : List D} (hp : H p = none) (hd : o.dict = none) (hs : ¬ S p) (r : RepAll K S H vs ds) : Made K S H (false, .tup ds) (.ref p) (upd H p (.frz o (.tup vs))) :=
  ⟨keep_upd hp, fun e => (nomatch e), fun _ => rep_tup hp hd hs r⟩
/-- what makes a tuple makes it so -/
theorem newT_of {vs : List V} {ds : List D} {Q : VK} (hS : ∀ a, S a → H a ≠ none) (r : RepAll K S H vs ds) (q : ∀ v' H', Made K S H (false, .tup ds) v' H' → Q v' H') : NewT H vs Q := fun p o hp hd => q _ _ (made_tup hp hd (fun z => hS p z hp) r)
end
end PI

namespace PI
open PySem PySem.Spec PyProof.Rows L2
abbrev Env := List (Option (Bool × D))
/-- the address of an owned list -/
def Own (env : PI.Env) (σ : L2.St) (a : Addr) : Prop := ∃ (i : Nat) (d : D), env[i]? = some (some (true, d)) ∧ σ[i]? = some (some (V.ref a))
def Av (env : PI.Env) (σ : L2.St) (Z : Addr → Prop) (a : Addr) : Prop := Own env σ a ∨ Z a
abbrev Fz := Addr → Option HO
structure Rel (K : PySem.W.Frag) (F : Fz) (Z : Addr → Prop) (env : PI.Env) (σ : L2.St) (H : Hp) : Prop where
  len : env.length = σ.length
  sh : ∀ (i : Nat) (d : D), env[i]? = some (some (false, d)) → ∃ v : V, σ[i]? = some (some v) ∧ Rep K (Av env σ Z) H v d
  ow : ∀ (i : Nat) (d : D), env[i]? = some (some (true, d)) → ∃ (a : Addr) (o : HO) (vs : List V) (ds : List D), σ[i]? = some (some (V.ref a)) ∧ Cnt a o vs ds d ∧ H a = some o ∧ RepAll K (Av env σ Z) H vs ds
  dist : ∀ (i j : Nat) (d e : D) (a : Addr), env[i]? = some (some (true, d)) → env[j]? = some (some (true, e)) → σ[i]? = some (some (V.ref a)) → σ[j]? = some (some (V.ref a)) → i = j
  fr : ∀ (a : Addr) (o : HO), F a = some o → H a = some o ∧ ¬ Own env σ a
  z : ∀ a, Z a → H a ≠ none ∧ ¬ Own env σ a
section
variable {K : PySem.W.Frag} {F F' : Fz} {Z Z' : Addr → Prop} {env : PI.Env} {σ : L2.St} {H H' : Hp}
theorem Rel.dom (R : Rel K F Z env σ H) : ∀ a, Av env σ Z a → H a ≠ none := fun a h => by
  rcases h with ⟨i, d, h1, h2⟩ | h
  · obtain ⟨b, o0, vs, ds, e1, e2, e3, e4⟩ := R.ow i d h1
    rw [h2] at e1
    cases e1
    rw [e3]
    exact fun q => by cases q
  · exact (R.z a h).1
theorem Rel.weakF (R : Rel K F Z env σ H) (h : ∀ a o, F' a = some o → F a = some o) : Rel K F' Z env σ H :=
  ⟨R.len, R.sh, R.ow, R.dist, fun a o e => R.fr a o (h a o e), R.z⟩
theorem av_less (h : ∀ a, Z' a → Z a) : ∀ a, Av env σ Z' a → Av env σ Z a := fun a q => by
  rcases q with q | q
  · exact .inl q
  · exact .inr (h a q)
theorem Rel.weakZ (R : Rel K F Z env σ H) (h : ∀ a, Z' a → Z a) : Rel K F Z' env σ H :=
  ⟨R.len, fun i d e => by
    obtain ⟨v, h1, h2⟩ := R.sh i d e
    exact ⟨v, h1, h2.less (av_less h)⟩, fun i d e => by
    obtain ⟨a, o0, vs, ds, h1, h2, h3, h4⟩ := R.ow i d e
    exact ⟨a, o0, vs, ds, h1, h2, h3, h4.less (av_less h)⟩, R.dist, R.fr, fun a q => R.z a (h a q)⟩
open Classical in
/-- all that is not owned is frozen -/
noncomputable def maxF (env : PI.Env) (σ : L2.St) (H : Hp) : Fz := fun a => if Own env σ a then none else H a
theorem maxF_some {a : Addr} {o : HO} : maxF env σ H a = some o ↔ H a = some o ∧ ¬ Own env σ a := by
  unfold maxF
  split
  · rename_i h
    exact ⟨fun q => (nomatch q), fun q => absurd h q.2⟩
  · rename_i h
    exact ⟨fun q => ⟨q, h⟩, fun q => q.1⟩
theorem Rel.max (R : Rel K F Z env σ H) : Rel K (maxF env σ H) Z env σ H := ⟨R.len, R.sh, R.ow, R.dist, fun a o e => maxF_some.mp e, R.z⟩
theorem Rel.le_max (R : Rel K F Z env σ H) : ∀ a o, F a = some o → maxF env σ H a = some o := fun a o e => maxF_some.mpr (R.fr a o e)
/-- new objects, some of them avoided from now on -/
theorem Rel.grow (R : Rel K F Z env σ H) (h : ∀ a o, H a = some o → H' a = some o) (hz : ∀ a, Z' a → Z a ∨ H a = none) (hz2 : ∀ a, Z' a → H' a ≠ none) : Rel K F Z' env σ H' := by
  have hs : ∀ a, Av env σ Z' a → Av env σ Z a ∨ H a = none := fun a q => by
    rcases q with q | q
    · exact .inl (.inl q)
    · rcases hz a q with q | q
      · exact .inl (.inr q)
      · exact .inr q
  refine ⟨R.len, fun i d e => ?_, fun i d e => ?_, R.dist, fun a o e => ⟨h _ _ (R.fr a o e).1, (R.fr a o e).2⟩, fun a q => ⟨hz2 a q, fun ho => ?_⟩⟩
  · obtain ⟨v, h1, h2⟩ := R.sh i d e
    exact ⟨v, h1, h2.step (fun a o e _ => h a o e) hs⟩
  · obtain ⟨a, o0, vs, ds, h1, h2, h3, h4⟩ := R.ow i d e
    exact ⟨a, o0, vs, ds, h1, h2, h _ _ h3, h4.step (fun a o e _ => h a o e) hs⟩
  · rcases hz a q with q | q
    · exact (R.z a q).2 ho
    · exact R.dom a (.inl ho) q
theorem Rel.grow0 (R : Rel K F Z env σ H) (h : ∀ a o, H a = some o → H' a = some o) : Rel K F Z env σ H' :=
  R.grow h (fun _ q => .inl q) fun a q => by
    cases e : H a with
    | none => exact absurd e (R.z a q).1
    | some o =>
      rw [h a o e]
      exact fun z => by cases z
theorem set_get {α : Type} {l : List α} {i j : Nat} {x y : α} (h : (l.set i x)[j]? = some y) : (i = j ∧ x = y ∧ i < l.length) ∨ (i ≠ j ∧ l[j]? = some y) := by
  by_cases e : i = j
  · subst e
    rw [List.getElem?_set] at h
    split at h
    · split at h
      · exact .inl ⟨rfl, Option.some.inj h, by assumption⟩
      · cases h
    · rename_i q
      exact absurd rfl q
  · rw [List.getElem?_set_ne e] at h
    exact .inr ⟨e, h⟩
theorem lt_of_get {α : Type} {l : List α} {i : Nat} {x : α} (h : l[i]? = some x) : i < l.length := (List.getElem?_eq_some_iff.mp h).1
/-- the owned list of a slot is shared -/
theorem own_share {i : Nat} {d : D} {a : Addr} (h : Own (env.set i (some (false, d))) σ a) : Own env σ a := by
  obtain ⟨j, e, h1, h2⟩ := h
  rcases set_get h1 with ⟨_, q, _⟩ | ⟨_, q⟩
  · cases q
  · exact ⟨j, e, q, h2⟩
theorem av_share {i : Nat} {d : D} {a : Addr} (h : Av (env.set i (some (false, d))) σ Z a) : Av env σ Z a := by
  rcases h with h | h
  · exact .inl (own_share h)
  · exact .inr h
theorem Rel.share (R : Rel K F Z env σ H) {i : Nat} {d : D} (h : env[i]? = some (some (true, d))) :
    Rel K F Z (env.set i (some (false, d))) σ H ∧ ∃ v : V, σ[i]? = some (some v) ∧ Rep K (Av (env.set i (some (false, d))) σ Z) H v d := by
  obtain ⟨a, o0, vs, ds, h1, h2, h3, h4⟩ := R.ow i d h
  have r : Rep K (Av (env.set i (some (false, d))) σ Z) H (.ref a) d := by
    refine .of_cnt h2 h3 (fun q => ?_) (h4.less fun b q => av_share q)
    rcases q with ⟨j, e, q1, q2⟩ | q
    · rcases set_get q1 with ⟨_, q, _⟩ | ⟨ne, q⟩
      · cases q
      · exact ne (R.dist i j _ _ a h q h1 q2)
    · exact (R.z a q).2 ⟨i, _, h, h1⟩
  refine ⟨⟨by rw [List.length_set]; exact R.len, fun j e q => ?_, fun j e q => ?_, fun j k e f b q1 q2 => ?_, fun b o q => ⟨(R.fr b o q).1, fun z => (R.fr b o q).2 (own_share z)⟩, fun b q => ⟨(R.z b q).1, fun z => (R.z b q).2 (own_share z)⟩⟩, .ref a, h1, r⟩
  · rcases set_get q with ⟨rfl, q, _⟩ | ⟨_, q⟩
    · cases q
      exact ⟨.ref a, h1, r⟩
    · obtain ⟨v, e1, e2⟩ := R.sh j e q
      exact ⟨v, e1, e2.less fun b q => av_share q⟩
  · rcases set_get q with ⟨rfl, q, _⟩ | ⟨_, q⟩
    · cases q
    · obtain ⟨b, o0, us, es, e1, e2, e3, e4⟩ := R.ow j e q
      exact ⟨b, o0, us, es, e1, e2, e3, e4.less fun b q => av_share q⟩
  · rcases set_get q1 with ⟨_, q, _⟩ | ⟨_, q1⟩
    · cases q
    · rcases set_get q2 with ⟨_, q, _⟩ | ⟨_, q2⟩
      · cases q
      · exact R.dist j k e f b q1 q2
/-- the owned list of a slot is changed -/
theorem own_mut {i : Nat} {d e : D} {a : Addr} (h : env[i]? = some (some (true, d))) : Own (env.set i (some (true, e))) σ a ↔ Own env σ a := by
  have hi := lt_of_get h
  constructor
  · rintro ⟨j, f, h1, h2⟩
    rcases set_get h1 with ⟨rfl, _, _⟩ | ⟨_, q⟩
    · exact ⟨i, d, h, h2⟩
    · exact ⟨j, f, q, h2⟩
  · rintro ⟨j, f, h1, h2⟩
    by_cases q : i = j
    · subst q
      exact ⟨i, e, List.getElem?_set_self hi, h2⟩
    · exact ⟨j, f, by rw [List.getElem?_set_ne q]; exact h1, h2⟩
theorem Rel.mutateC (R : Rel K F Z env σ H) {i : Nat} {d dn : D} {a : Addr} {on : HO} {us : List V} {es : List D} (hc : Cnt a on us es dn) (h : env[i]? = some (some (true, d))) (ha : σ[i]? = some (some (V.ref a)))
    (hk : ∀ b o, b ≠ a → H b = some o → H' b = some o) (hn : H' a = some on) (hr : RepAll K (Av env σ Z) H' us es) : Rel K F Z (env.set i (some (true, dn))) σ H' := by
  have hav : ∀ b, Av (env.set i (some (true, dn))) σ Z b → Av env σ Z b := fun b q => by
    rcases q with q | q
    · exact .inl ((own_mut h).mp q)
    · exact .inr q
  have hst : ∀ b o, H b = some o → ¬ Av env σ Z b → H' b = some o := fun b o e n => hk b o (fun z => n (.inl ⟨i, d, h, by rw [z]; exact ha⟩)) e
  refine ⟨by rw [List.length_set]; exact R.len, fun j e q => ?_, fun j e q => ?_, fun j k e f b q1 q2 h1 h2 => ?_, fun b o q => ⟨hk b o (fun z => (R.fr b o q).2 ⟨i, d, h, by rw [z]; exact ha⟩) (R.fr b o q).1, fun z => (R.fr b o q).2 ((own_mut h).mp z)⟩, fun b q => ⟨?_, fun z => (R.z b q).2 ((own_mut h).mp z)⟩⟩
  · rcases set_get q with ⟨_, q, _⟩ | ⟨_, q⟩
    · cases q
    · obtain ⟨v, e1, e2⟩ := R.sh j e q
      exact ⟨v, e1, e2.step hst fun b q => .inl (hav b q)⟩
  · rcases set_get q with ⟨rfl, q, _⟩ | ⟨ne, q⟩
    · cases q
      exact ⟨a, on, us, es, ha, hc, hn, hr.less hav⟩
    · obtain ⟨b, o0, ws, gs, e1, e2, e3, e4⟩ := R.ow j e q
      refine ⟨b, o0, ws, gs, e1, e2, hk b _ (fun z => ?_) e3, e4.step hst fun b q => .inl (hav b q)⟩
      subst z
      exact ne (R.dist i j _ _ b h q ha e1)
  · have g : ∀ (m : Nat) (x : D), (env.set i (some (true, dn)))[m]? = some (some (true, x)) → ∃ y, env[m]? = some (some (true, y)) := fun m x q => by
      rcases set_get q with ⟨rfl, _, _⟩ | ⟨_, q⟩
      · exact ⟨d, h⟩
      · exact ⟨x, q⟩
    obtain ⟨y, g1⟩ := g j e q1
    obtain ⟨y', g2⟩ := g k f q2
    exact R.dist j k y y' b g1 g2 h1 h2
  · by_cases z : b = a
    · subst z
      rw [hn]
      exact fun q => by cases q
    · cases e : H b with
      | none => exact absurd e (R.z b q).1
      | some o =>
        rw [hk b o z e]
        exact fun q => by cases q
theorem Rel.mutate (R : Rel K F Z env σ H) {i : Nat} {d : D} {a : Addr} {us : List V} {es : List D} (h : env[i]? = some (some (true, d))) (ha : σ[i]? = some (some (V.ref a)))
    (hk : ∀ b o, b ≠ a → H b = some o → H' b = some o) (hn : H' a = some (.lst us)) (hr : RepAll K (Av env σ Z) H' us es) : Rel K F Z (env.set i (some (true, .lst es))) σ H' := R.mutateC .lst h ha hk hn hr
/-- a value is stored -/
theorem own_store {i : Nat} {d : D} {v : V} {a : Addr} (h : Own (env.set i (some (false, d))) (σ.set i (some v)) a) : Own env σ a := by
  obtain ⟨j, e, h1, h2⟩ := h
  rcases set_get h1 with ⟨_, q, _⟩ | ⟨ne, q⟩
  · cases q
  · rw [List.getElem?_set_ne ne] at h2
    exact ⟨j, e, q, h2⟩
theorem Rel.store (R : Rel K F Z env σ H) {i : Nat} {d : D} {v : V} (hi : i < env.length) (r : Rep K (Av env σ Z) H v d) : Rel K F Z (env.set i (some (false, d))) (σ.set i (some v)) H := by
  have hav : ∀ b, Av (env.set i (some (false, d))) (σ.set i (some v)) Z b → Av env σ Z b := fun b q => by
    rcases q with q | q
    · exact .inl (own_store q)
    · exact .inr q
  have hi2 : i < σ.length := R.len ▸ hi
  refine ⟨by rw [List.length_set, List.length_set]; exact R.len, fun j e q => ?_, fun j e q => ?_, fun j k e f b q1 q2 h1 h2 => ?_, fun b o q => ⟨(R.fr b o q).1, fun z => (R.fr b o q).2 (own_store z)⟩, fun b q => ⟨(R.z b q).1, fun z => (R.z b q).2 (own_store z)⟩⟩
  · rcases set_get q with ⟨rfl, q, _⟩ | ⟨ne, q⟩
    · cases q
      exact ⟨v, List.getElem?_set_self hi2, r.less hav⟩
    · obtain ⟨u, e1, e2⟩ := R.sh j e q
      exact ⟨u, by rw [List.getElem?_set_ne ne]; exact e1, e2.less hav⟩
  · rcases set_get q with ⟨rfl, q, _⟩ | ⟨ne, q⟩
    · cases q
    · obtain ⟨b, o0, ws, gs, e1, e2, e3, e4⟩ := R.ow j e q
      exact ⟨b, o0, ws, gs, by rw [List.getElem?_set_ne ne]; exact e1, e2, e3, e4.less hav⟩
  · rcases set_get q1 with ⟨_, q, _⟩ | ⟨n1, q1⟩
    · cases q
    · rcases set_get q2 with ⟨_, q, _⟩ | ⟨n2, q2⟩
      · cases q
      · rw [List.getElem?_set_ne n1] at h1
        rw [List.getElem?_set_ne n2] at h2
        exact R.dist j k e f b q1 q2 h1 h2
/-- a new list is stored: its slot owns it -/
theorem own_storeN {i : Nat} {d : D} {a b : Addr} (h : Own (env.set i (some (true, d))) (σ.set i (some (V.ref a))) b) : Own env σ b ∨ b = a := by
  obtain ⟨j, e, h1, h2⟩ := h
  rcases set_get h1 with ⟨rfl, q, _⟩ | ⟨ne, q⟩
  · rcases set_get h2 with ⟨_, q2, _⟩ | ⟨ne, _⟩
    · cases q2
      exact .inr rfl
    · exact absurd rfl ne
  · rw [List.getElem?_set_ne ne] at h2
    exact .inl ⟨j, e, q, h2⟩
theorem Rel.storeNC (R : Rel K F (fun b => Z b ∨ b = a) env σ H) {i : Nat} {on : HO} {vs : List V} {ds : List D} {dn : D} (hc : Cnt a on vs ds dn) (hi : i < env.length) (hF : F a = none) (hZ : ¬ Z a) (ha : H a = some on)
    (r : RepAll K (Av env σ fun b => Z b ∨ b = a) H vs ds) : Rel K F Z (env.set i (some (true, dn))) (σ.set i (some (V.ref a))) H := by
  have hav : ∀ b, Av (env.set i (some (true, dn))) (σ.set i (some (V.ref a))) Z b → Av env σ (fun b => Z b ∨ b = a) b := fun b q => by
    rcases q with q | q
    · rcases own_storeN q with q | q
      · exact .inl q
      · exact .inr (.inr q)
    · exact .inr (.inl q)
  have nown : ¬ Own env σ a := (R.z a (.inr rfl)).2
  have hi2 : i < σ.length := R.len ▸ hi
  refine ⟨by rw [List.length_set, List.length_set]; exact R.len, fun j e q => ?_, fun j e q => ?_, fun j k e f b q1 q2 h1 h2 => ?_, fun b o q => ⟨(R.fr b o q).1, fun z => ?_⟩, fun b q => ⟨(R.z b (.inl q)).1, fun z => ?_⟩⟩
  · rcases set_get q with ⟨rfl, q, _⟩ | ⟨ne, q⟩
    · cases q
    · obtain ⟨u, e1, e2⟩ := R.sh j e q
      exact ⟨u, by rw [List.getElem?_set_ne ne]; exact e1, e2.less hav⟩
  · rcases set_get q with ⟨rfl, q, _⟩ | ⟨ne, q⟩
    · cases q
      exact ⟨a, on, vs, ds, List.getElem?_set_self hi2, hc, ha, r.less hav⟩
    · obtain ⟨b, o0, ws, gs, e1, e2, e3, e4⟩ := R.ow j e q
      exact ⟨b, o0, ws, gs, by rw [List.getElem?_set_ne ne]; exact e1, e2, e3, e4.less hav⟩
  · have g : ∀ (m : Nat) (x : D), (env.set i (some (true, dn)))[m]? = some (some (true, x)) → (σ.set i (some (V.ref a)))[m]? = some (some (V.ref b)) → (m = i ∧ b = a) ∨ (m ≠ i ∧ env[m]? = some (some (true, x)) ∧ σ[m]? = some (some (V.ref b))) := fun m x q z => by
      rcases set_get q with ⟨rfl, _, _⟩ | ⟨ne, q⟩
      · rcases set_get z with ⟨_, z, _⟩ | ⟨n, _⟩
        · cases z
          exact .inl ⟨rfl, rfl⟩
        · exact absurd rfl n
      · rw [List.getElem?_set_ne ne] at z
        exact .inr ⟨fun e => ne e.symm, q, z⟩
    rcases g j e q1 h1 with ⟨rfl, rfl⟩ | ⟨n1, a1, b1⟩
    · rcases g k f q2 h2 with ⟨rfl, _⟩ | ⟨n2, a2, b2⟩
      · rfl
      · exact absurd ⟨k, f, a2, b2⟩ nown
    · rcases g k f q2 h2 with ⟨rfl, rfl⟩ | ⟨n2, a2, b2⟩
      · exact absurd ⟨j, e, a1, b1⟩ nown
      · exact R.dist j k e f b a1 a2 b1 b2
  · rcases own_storeN z with z | z
    · exact (R.fr b o q).2 z
    · subst z
      rw [hF] at q
      cases q
  · rcases own_storeN z with z | z
    · exact (R.z b (.inl q)).2 z
    · subst z
      exact hZ q
theorem Rel.storeN (R : Rel K F (fun b => Z b ∨ b = a) env σ H) {i : Nat} {vs : List V} {ds : List D} (hi : i < env.length) (hF : F a = none) (hZ : ¬ Z a) (ha : H a = some (.lst vs))
    (r : RepAll K (Av env σ fun b => Z b ∨ b = a) H vs ds) : Rel K F Z (env.set i (some (true, .lst ds))) (σ.set i (some (V.ref a))) H := R.storeNC .lst hi hF hZ ha r
end
end PI

namespace PI
open PySem PySem.Spec PyProof.Rows L2
abbrev W := Bool × D
abbrev EF := PI.Env → Option (W × PI.Env)
abbrev Re (K : PySem.W.Frag) (Z : Addr → Prop) (env : PI.Env) (σ : L2.St) (H : Hp) : Prop := Rel K (fun _ => none) Z env σ H
structure Trn (env : PI.Env) (σ : L2.St) (H : Hp) (env' : PI.Env) (H' : Hp) : Prop where
  own : ∀ a, Own env' σ a → Own env σ a
  keep : ∀ a o, H a = some o → ¬ Own env σ a → H' a = some o
  dom : ∀ a, H a ≠ none → H' a ≠ none
structure Res (K : PySem.W.Frag) (Z : Addr → Prop) (env : PI.Env) (σ : L2.St) (H : Hp) (w : W) (env' : PI.Env) (v : V) (H' : Hp) : Prop where
  re : Re K Z env' σ H'
  tr : Trn env σ H env' H'
  rep : Rep K (Av env' σ Z) H' v w.2
  new : w.1 = true → ∃ (a : Addr) (o : HO) (vs : List V) (ds : List D), v = V.ref a ∧ Cnt a o vs ds w.2 ∧ H a = none ∧ H' a = some o ∧ Re K (fun b => Z b ∨ b = a) env' σ H' ∧ RepAll K (Av env' σ fun b => Z b ∨ b = a) H' vs ds
/-- the reading of an expression by what it is worth -/
def SEr (K : PySem.W.Frag) (f : EF) : TE := fun σ H Q => ∃ Z env w env', Re K Z env σ H ∧ f env = some (w, env') ∧ ∀ v H', Res K Z env σ H w env' v H' → Q v H'
/-- an operand: an expression, a name that is only looked at -/
inductive Opd where
  | ex (f : EF) | sl (i : Nat)
inductive Op where
  | val (d : D) | slot (i : Nat)
def Opd.run : Opd → PI.Env → Option (Op × PI.Env)
  | .ex f, env => (f env).bind fun r => some (.val r.1.2, r.2)
  | .sl i, env => match env[i]? with
    | some (some _) => some (.slot i, env)
    | _ => none
def Op.get (env : PI.Env) : Op → Option D
  | .val d => some d
  | .slot i => match env[i]? with
    | some (some p) => some p.2
    | _ => none
def SOr (K : PySem.W.Frag) : Opd → TE
  | .ex f => SEr K f
  | .sl i => tVar i
def ORep (K : PySem.W.Frag) (S : Addr → Prop) (σ : L2.St) (H : Hp) : Op → V → Prop
  | .val d, v => Rep K S H v d
  | .slot i, v => σ[i]? = some (some v)
section
variable {K : PySem.W.Frag} {Z : Addr → Prop} {env env1 env2 : PI.Env} {σ : L2.St} {H H1 H2 : Hp}
theorem Trn.refl : Trn env σ H env H := ⟨fun _ q => q, fun _ _ q _ => q, fun _ q => q⟩
theorem Trn.trans (a : Trn env σ H env1 H1) (b : Trn env1 σ H1 env2 H2) : Trn env σ H env2 H2 :=
  ⟨fun x q => a.own x (b.own x q), fun x o q n => b.keep x o (a.keep x o q n) fun z => n (a.own x z), fun x q => b.dom x (a.dom x q)⟩
theorem dom_of {H H' : Hp} (h : ∀ a o, H a = some o → H' a = some o) : ∀ a, H a ≠ none → H' a ≠ none := fun a q => by
  cases e : H a with
  | none => exact absurd e q
  | some o =>
    rw [h a o e]
    exact fun z => by cases z
theorem Trn.grow (h : ∀ a o, H a = some o → H1 a = some o) : Trn env σ H env H1 := ⟨fun _ q => q, fun a o e _ => h a o e, dom_of h⟩
theorem Trn.av (a : Trn env σ H env1 H1) : ∀ b, Av env1 σ Z b → Av env σ Z b := fun b q => by
  rcases q with q | q
  · exact .inl (a.own b q)
  · exact .inr q
theorem Trn.rep (a : Trn env σ H env1 H1) {v : V} {d : D} (r : Rep K (Av env σ Z) H v d) : Rep K (Av env1 σ Z) H1 v d :=
  r.step (fun b o e n => a.keep b o e fun z => n (.inl z)) fun b q => .inl (a.av b q)
theorem Trn.repAll (a : Trn env σ H env1 H1) {v : List V} {d : List D} (r : RepAll K (Av env σ Z) H v d) : RepAll K (Av env1 σ Z) H1 v d :=
  r.step (fun b o e n => a.keep b o e fun z => n (.inl z)) fun b q => .inl (a.av b q)
theorem ORep.step {o : Op} {v : V} (a : Trn env σ H env1 H1) (r : ORep K (Av env σ Z) σ H o v) : ORep K (Av env1 σ Z) σ H1 o v := by
  cases o with
  | val d => exact a.rep r
  | slot i => exact r
theorem ORep.view {o : Op} {v : V} {d : D} (R : Re K Z env σ H) (r : ORep K (Av env σ Z) σ H o v) (g : o.get env = some d) : View K (Av env σ Z) H v d := by
  cases o with
  | val e =>
    cases g
    exact .inl r
  | slot i =>
    dsimp only [Op.get] at g
    have r : σ[i]? = some (some v) := r
    cases q : env[i]? with
    | none =>
      rw [q] at g
      cases g
    | some x =>
      rw [q] at g
      cases x with
      | none => cases g
      | some p =>
        obtain ⟨b, e⟩ := p
        cases g
        cases b with
        | false =>
          obtain ⟨u, h1, h2⟩ := R.sh i _ q
          rw [r] at h1
          cases h1
          exact .inl h2
        | true =>
          obtain ⟨a, o0, vs, ds, h1, h2, h3, h4⟩ := R.ow i _ q
          rw [r] at h1
          cases h1
          exact .inr ⟨a, o0, vs, ds, rfl, h2, h3, h4⟩
theorem Re.slot (R : Re K Z env σ H) {i : Nat} {p : Bool × D} (h : env[i]? = some (some p)) : ∃ v : V, σ[i]? = some (some v) := by
  obtain ⟨b, e⟩ := p
  cases b with
  | false =>
    obtain ⟨v, h1, _⟩ := R.sh i e h
    exact ⟨v, h1⟩
  | true =>
    obtain ⟨a, _, _, _, h1, _⟩ := R.ow i e h
    exact ⟨.ref a, h1⟩
theorem SOr.go {a : Opd} {o : Op} {Q : VK} (R : Re K Z env σ H) (h : a.run env = some (o, env1)) (q : ∀ v H1, Re K Z env1 σ H1 → Trn env σ H env1 H1 → ORep K (Av env1 σ Z) σ H1 o v → Q v H1) : SOr K a σ H Q := by
  cases a with
  | ex f =>
    dsimp only [Opd.run] at h
    cases e : f env with
    | none =>
      rw [e] at h
      cases h
    | some r =>
      rw [e] at h
      obtain ⟨w, e1⟩ := r
      cases h
      exact ⟨Z, env, w, e1, R, e, fun v H' x => q v H' x.re x.tr x.rep⟩
  | sl i =>
    dsimp only [Opd.run] at h
    cases e : env[i]? with
    | none =>
      rw [e] at h
      cases h
    | some x =>
      rw [e] at h
      cases x with
      | none => cases h
      | some p =>
        cases h
        obtain ⟨v, h1⟩ := R.slot e
        exact ⟨v, h1, q v H R .refl h1⟩
theorem made_res {w : W} {v : V} (R : Re K Z env1 σ H1) (t : Trn env σ H env1 H1) (m : Made K (Av env1 σ Z) H1 w v H2) : Res K Z env σ H w env1 v H2 := by
  have R2 : Re K Z env1 σ H2 := R.grow0 m.keep
  have t2 : Trn env σ H env1 H2 := t.trans (.grow m.keep)
  obtain ⟨b, d⟩ := w
  cases b with
  | false => exact ⟨R2, t2, m.old rfl, fun e => (nomatch e)⟩
  | true =>
    obtain ⟨a, o0, vs, ds, h1, h2, h3, h4, h5⟩ := m.new rfl
    have na : ¬ Av env1 σ Z a := fun z => R.dom a z h3
    have hs : ∀ x, Av env1 σ (fun b => Z b ∨ b = a) x → Av env1 σ Z x ∨ x = a := fun x q => by
      rcases q with q | q | q
      · exact .inl (.inl q)
      · exact .inl (.inr q)
      · exact .inr q
    have hr : RepAll K (Av env1 σ fun b => Z b ∨ b = a) H2 vs ds := h5.less fun x q => hs x q
    refine ⟨R2, t2, ?_, fun _ => ⟨a, o0, vs, ds, h1, h2, ?_, h4, ?_, hr⟩⟩
    · show Rep K (Av env1 σ Z) H2 v d
      rw [h1]
      exact .of_cnt h2 h4 na (hr.less fun x q => by
        rcases q with q | q
        · exact .inl q
        · exact .inr (.inl q))
    · cases e : H a with
      | none => rfl
      | some o => exact absurd h3 (t.dom a (by rw [e]; exact fun z => by cases z))
    · refine R.grow m.keep (fun x q => ?_) fun x q => ?_
      · rcases q with q | q
        · exact .inl q
        · subst q
          exact .inr h3
      · rcases q with q | q
        · exact dom_of m.keep x (R.z x q).1
        · subst q
          rw [h4]
          exact fun z => by cases z
end
/-! ### primitives -/
def P1Ok (K : PySem.W.Frag) (r : V → Hp → VK → Prop) (f : D → Option W) : Prop := ∀ (S : Addr → Prop) (H : Hp) (v : V) (d : D) (w : W) (Q : VK), (∀ a, S a → H a ≠ none) → View K S H v d → f d = some w → (∀ v' H', Made K S H w v' H' → Q v' H') → r v H Q
def P2Ok (K : PySem.W.Frag) (r : R2) (f : D → D → Option W) : Prop := ∀ (S : Addr → Prop) (H : Hp) (x y : V) (d e : D) (w : W) (Q : VK), (∀ a, S a → H a ≠ none) → View K S H x d → View K S H y e → f d e = some w → (∀ v' H', Made K S H w v' H' → Q v' H') → r x y H Q
def PnOk (K : PySem.W.Frag) (r : List V → Hp → VK → Prop) (f : List D → Option W) : Prop := ∀ (S : Addr → Prop) (H : Hp) (vs : List V) (ds : List D) (w : W) (Q : VK), (∀ a, S a → H a ≠ none) → ViewAll K S H vs ds → f ds = some w → (∀ v' H', Made K S H w v' H' → Q v' H') → r vs H Q
def e1 (f : D → Option W) (a : Opd) : EF := fun env => (a.run env).bind fun r => (r.1.get r.2).bind fun d => (f d).bind fun w => some (w, r.2)
def e2 (f : D → D → Option W) (a b : Opd) : EF := fun env => (a.run env).bind fun r => (b.run r.2).bind fun s => (r.1.get s.2).bind fun d => (s.1.get s.2).bind fun e => (f d e).bind fun w => some (w, s.2)
def runs : List Opd → PI.Env → Option (List Op × PI.Env)
  | [], env => some ([], env)
  | a :: as, env => (a.run env).bind fun r => (runs as r.2).bind fun s => some (r.1 :: s.1, s.2)
def gets (env : PI.Env) : List Op → Option (List D)
  | [] => some []
  | o :: os => (o.get env).bind fun d => (gets env os).bind fun ds => some (d :: ds)
def eN (f : List D → Option W) (as : List Opd) : EF := fun env => (runs as env).bind fun r => (gets r.2 r.1).bind fun ds => (f ds).bind fun w => some (w, r.2)
def SAr (K : PySem.W.Frag) : List Opd → TA
  | [] => tNil
  | a :: as => tCons (SOr K a) (SAr K as)
inductive OReps (K : PySem.W.Frag) (S : Addr → Prop) (σ : L2.St) (H : Hp) : List Op → List V → Prop
  | nil : OReps K S σ H [] []
  | cons {o : Op} {os : List Op} {v : V} {vs : List V} : ORep K S σ H o v → OReps K S σ H os vs → OReps K S σ H (o :: os) (v :: vs)
theorem obind {α β : Type} {x : Option α} {f : α → Option β} {b : β} (h : x.bind f = some b) : ∃ a, x = some a ∧ f a = some b := Option.bind_eq_some_iff.mp h
section
variable {K : PySem.W.Frag} {Z : Addr → Prop} {env env1 env2 : PI.Env} {σ : L2.St} {H H1 H2 : Hp}
theorem OReps.step {os : List Op} {vs : List V} (a : Trn env σ H env1 H1) : OReps K (Av env σ Z) σ H os vs → OReps K (Av env1 σ Z) σ H1 os vs := fun r => by
  induction r with
  | nil => exact .nil
  | cons r _ ih => exact .cons (r.step a) ih
theorem OReps.views {os : List Op} {vs : List V} (R : Re K Z env σ H) (r : OReps K (Av env σ Z) σ H os vs) : ∀ {ds : List D}, gets env os = some ds → ViewAll K (Av env σ Z) H vs ds := by
  induction r with
  | nil =>
    intro ds h
    cases h
    exact .nil
  | cons r _ ih =>
    intro ds h
    unfold gets at h
    obtain ⟨d, h1, h⟩ := obind h
    obtain ⟨es, h2, h⟩ := obind h
    cases h
    exact .cons (r.view R h1) (ih h2)
theorem SAr.go : ∀ {as : List Opd} {env : PI.Env} {H : Hp} {os : List Op} {env1 : PI.Env} {Q : List V → Hp → Prop}, Re K Z env σ H → runs as env = some (os, env1) → (∀ vs H1, Re K Z env1 σ H1 → Trn env σ H env1 H1 → OReps K (Av env1 σ Z) σ H1 os vs → Q vs H1) → SAr K as σ H Q
  | [], env, H, os, env1, Q, R, h, q => by
    cases h
    exact q [] H R .refl .nil
  | a :: as, env, H, os, env1, Q, R, h, q => by
    unfold runs at h
    obtain ⟨r, h1, h⟩ := obind h
    obtain ⟨s, h2, h⟩ := obind h
    cases h
    refine SOr.go R h1 fun v H1 R1 t1 o1 => ?_
    exact SAr.go R1 h2 fun vs H2 R2 t2 o2 => q (v :: vs) H2 R2 (t1.trans t2) (.cons (o1.step t2) o2)
theorem e1_go {r : V → Hp → VK → Prop} {f : D → Option W} {a : Opd} (p : P1Ok K r f) {Q : VK} (h : SEr K (e1 f a) σ H Q) : SOr K a σ H fun x H1 => r x H1 Q := by
  obtain ⟨Z, env, w, env', R, e, q⟩ := h
  obtain ⟨s, h1, e⟩ := obind e
  obtain ⟨d, h2, e⟩ := obind e
  obtain ⟨w', h3, e⟩ := obind e
  cases e
  exact SOr.go R h1 fun v H1 R1 t1 o1 => p _ H1 v d w Q R1.dom (o1.view R1 h2) h3 fun v' H' m => q v' H' (made_res R1 t1 m)
theorem e2_go {r : R2} {f : D → D → Option W} {a b : Opd} (p : P2Ok K r f) {Q : VK} (h : SEr K (e2 f a b) σ H Q) : tOp r (SOr K a) (SOr K b) σ H Q := by
  obtain ⟨Z, env, w, env', R, e, q⟩ := h
  obtain ⟨s, h1, e⟩ := obind e
  obtain ⟨t, h2, e⟩ := obind e
  obtain ⟨d, h3, e⟩ := obind e
  obtain ⟨d', h4, e⟩ := obind e
  obtain ⟨w', h5, e⟩ := obind e
  cases e
  exact SOr.go R h1 fun x H1 R1 t1 o1 => SOr.go R1 h2 fun y H2 R2 t2 o2 => p _ H2 x y d d' w Q R2.dom ((o1.step t2).view R2 h3) (o2.view R2 h4) h5 fun v' H' m => q v' H' (made_res R2 (t1.trans t2) m)
theorem eN_go {r : List V → Hp → VK → Prop} {f : List D → Option W} {as : List Opd} (p : PnOk K r f) {Q : VK} (h : SEr K (eN f as) σ H Q) : SAr K as σ H fun vs H1 => r vs H1 Q := by
  obtain ⟨Z, env, w, env', R, e, q⟩ := h
  obtain ⟨s, h1, e⟩ := obind e
  obtain ⟨ds, h2, e⟩ := obind e
  obtain ⟨w', h3, e⟩ := obind e
  cases e
  exact SAr.go R h1 fun vs H1 R1 t1 o1 => p _ H1 vs ds w Q R1.dom (o1.views R1 h2) h3 fun v' H' m => q v' H' (made_res R1 t1 m)
end
/-! ### the judgements weakened -/
section
variable {X : Cx} {e : Expr} {st : Stmt} {sts : List Stmt}
theorem PEi {t t' : TE} (h : PE X e t) (i : ∀ σ H Q, t' σ H Q → t σ H Q) : PE X e t' := ⟨fun pins s σ H Q I q => h.run pins s σ H Q I (i σ H Q q)⟩
theorem PTi {t t' : TT} (h : PT X e t) (i : ∀ σ H Q, t' σ H Q → t σ H Q) : PT X e t' := ⟨fun pins s σ H Q I q => h.run pins s σ H Q I (i σ H Q q)⟩
theorem PAi {es : List Expr} {t t' : TA} (h : PA X es t) (i : ∀ σ H Q, t' σ H Q → t σ H Q) : PA X es t' := ⟨fun pos pins s σ H Q I q => h.run pos pins s σ H Q I (i σ H Q q)⟩
theorem PSi {t t' : TS} (h : PS X st t) (i : ∀ D σ H, t' D σ H → t D σ H) : PS X st t' := ⟨fun pins s σ H D I q => h.run pins s σ H D I (i D σ H q)⟩
theorem PSsi {t t' : TS} (h : PSs X sts t) (i : ∀ D σ H, t' D σ H → t D σ H) : PSs X sts t' := ⟨fun pins s σ H D I q => h.run pins s σ H D I (i D σ H q)⟩
end
/-! ### names, constants -/
def eVar (i : Nat) : EF := fun env => match env[i]? with
  | some (some (true, d)) => some ((false, d), env.set i (some (false, d)))
  | some (some (false, d)) => some ((false, d), env)
  | _ => none
def eC (d : D) : EF := fun env => some ((false, d), env)
section
variable {K : PySem.W.Frag} {σ : L2.St} {H : Hp}
theorem eVar_go {i : Nat} {Q : VK} (h : SEr K (eVar i) σ H Q) : tVar i σ H Q := by
  obtain ⟨Z, env, w, env', R, e, q⟩ := h
  unfold eVar at e
  split at e
  · rename_i d g
    cases e
    obtain ⟨R2, v, h1, h2⟩ := R.share g
    exact ⟨v, h1, q v H ⟨R2, ⟨fun a z => own_share z, fun _ _ z _ => z, fun _ z => z⟩, h2, fun z => (nomatch z)⟩⟩
  · rename_i d g
    cases e
    obtain ⟨v, h1, h2⟩ := R.sh i d g
    exact ⟨v, h1, q v H ⟨R, .refl, h2, fun z => (nomatch z)⟩⟩
  · cases e
theorem eC_go {v : V} {d : D} (r : ∀ S H, Rep K S H v d) {Q : VK} (h : SEr K (eC d) σ H Q) : tC v σ H Q := by
  obtain ⟨Z, env, w, env', R, e, q⟩ := h
  cases e
  exact q v H ⟨R, .refl, r _ _, fun z => (nomatch z)⟩
end
section
variable {X : Cx} {pos : Pos}
theorem se_var (i : Nat) {x : Str} (hN : X.N[i]? = some x := by rfl) (hv : Vis X.env.scope x := by first | exact Or.inl rfl | exact Or.inr (Or.inl rfl) | exact Or.inr (Or.inr rfl)) (hd : (x == ("__debug__" : Str)) = false := by decide)
    (hcd : (x == ("__classdict__" : Str)) = false := by decide) : PE X (.Name x pos) (SEr X.K (eVar i)) := PEi (pv i hN hv hd hcd) fun _ _ _ h => eVar_go h
theorem so_var (i : Nat) {x : Str} (hN : X.N[i]? = some x := by rfl) (hv : Vis X.env.scope x := by first | exact Or.inl rfl | exact Or.inr (Or.inl rfl) | exact Or.inr (Or.inr rfl)) (hd : (x == ("__debug__" : Str)) = false := by decide)
    (hcd : (x == ("__classdict__" : Str)) = false := by decide) : PE X (.Name x pos) (SOr X.K (.sl i)) := pv i hN hv hd hcd
theorem so_ex {e : Expr} {f : EF} (h : PE X e (SEr X.K f)) : PE X e (SOr X.K (.ex f)) := h
theorem se_int {i : Int} {j} : PE X (.Constant (.int i) j pos) (SEr X.K (eC (.int i))) := PEi pe_int fun _ _ _ h => eC_go (fun _ _ => .int i) h
theorem se_bl {b : Bool} {j} : PE X (.Constant (.bool b) j pos) (SEr X.K (eC (.bl b))) := PEi pe_bl fun _ _ _ h => eC_go (fun _ _ => .bl b) h
theorem se_non {j} : PE X (.Constant .none j pos) (SEr X.K (eC .non)) := PEi pe_non fun _ _ _ h => eC_go (fun _ _ => .non) h
theorem se_str {x : Str} {j} : PE X (.Constant (.str x) j pos) (SEr X.K (eC (.str x))) := PEi pe_str fun _ _ _ h => eC_go (fun _ _ => .str x) h
/-- a constant of the module -/
theorem se_glob {x : Str} {d : D} {v : V} {u : Value} (hm : X.mg x = some u) (r : RelV v u) (rp : ∀ S H, Rep X.K S H v d) (hg : Gl X x := by rfl) (hd : (x == ("__debug__" : Str)) = false := by decide) : PE X (.Name x pos) (SEr X.K (eC d)) :=
  PEi (pe_glob hg hm r hd) fun _ _ _ h => eC_go rp h
theorem sa_nil : PA X [] (SAr X.K []) := pa_nil
theorem sa_cons {e : Expr} {es : List Expr} {a : Opd} {as : List Opd} (h : PE X e (SOr X.K a)) (hr : PA X es (SAr X.K as)) (hs : starEach (e :: es) X.env = (false, eval e X.env) :: starEach es X.env := by rfl) : PA X (e :: es) (SAr X.K (a :: as)) := pa_cons h hr hs
/-! ### operators -/
theorem se_op {op : Operator} {r : R2} {f : D → D → Option W} {a b : Expr} {oa ob : Opd} (ho : L2.OpR X (binaryOp op) r) (p : P2Ok X.K r f) (ha : PE X a (SOr X.K oa)) (hb : PE X b (SOr X.K ob)) : PE X (.BinOp a op b pos) (SEr X.K (e2 f oa ob)) :=
  PEi (pe_op ho ha hb) fun _ _ _ h => e2_go p h
theorem se_cmp {op : CmpOp} {r : R2} {f : D → D → Option W} {a b : Expr} {oa ob : Opd} (ho : L2.OpR X (compareOp op) r) (p : P2Ok X.K r f) (ha : PE X a (SOr X.K oa)) (hb : PE X b (SOr X.K ob)) (hm : behindInMarks op b = false := by rfl) : PE X (.Compare a [op] [b] pos) (SEr X.K (e2 f oa ob)) :=
  PEi (pe_cmpR ho ha hb hm) fun _ _ _ h => e2_go p h
theorem se_un {op : UnaryOp} {r : V → Hp → VK → Prop} {f : D → Option W} {a : Expr} {oa : Opd} (ho : UnR X (unaryOp op) r) (p : P1Ok X.K r f) (ha : PE X a (SOr X.K oa)) : PE X (.UnaryOp op a pos) (SEr X.K (e1 f oa)) :=
  PEi (pe_un ho ha) fun _ _ _ h => e1_go p h
theorem se_ix {r : R2} {f : D → D → Option W} {a b : Expr} {oa ob : Opd} (ho : IxR X r) (p : P2Ok X.K r f) (ha : PE X a (SOr X.K oa)) (hb : PE X b (SOr X.K ob)) (hs : PlainIx b := by exact fun _ _ => rfl) : PE X (.Subscript a b pos) (SEr X.K (e2 f oa ob)) :=
  PEi (pe_ix ho ha hb hs) fun _ _ _ h => e2_go p h
theorem se_callB {x : Str} {p2 : Pos} {e : Expr} {es : List Expr} {id : String} {r : List V → Hp → VK → Prop} {f : List D → Option W} {as : List Opd} (hc : CallR X (.builtin id) r) (p : PnOk X.K r f) (hm : X.mg x = none) (hv : bootBuiltins x = some (.builtin id)) (ha : PA X (e :: es) (SAr X.K as)) (hg : Gl X x := by rfl)
    (hn : x ≠ "__name__" := by decide) (hdb : (x == ("__debug__" : Str)) = false := by decide)
    (he : starEach (e :: es) X.env = (false, eval e X.env) :: starEach es X.env := by rfl) (hpl : (backTo pos (starEach es X.env)).any (·.1) = false := by rfl) : PE X (.Call (.Name x p2) (e :: es) [] pos) (SEr X.K (eN f as)) :=
  PEi (pe_callB hc hg hm hv ha hn hdb he hpl) fun _ _ _ h => eN_go p h
theorem se_callTy {x : Str} {p2 : Pos} {e : Expr} {es : List Expr} {T : String} {r : List V → Hp → VK → Prop} {f : List D → Option W} {as : List Opd} (hc : CallR X (.type T) r) (p : PnOk X.K r f) (hm : X.mg x = none) (hv : bootBuiltins x = some (.type T)) (ha : PA X (e :: es) (SAr X.K as)) (hg : Gl X x := by rfl)
    (hn : x ≠ "__name__" := by decide) (hdb : (x == ("__debug__" : Str)) = false := by decide)
    (he : starEach (e :: es) X.env = (false, eval e X.env) :: starEach es X.env := by rfl) (hpl : (backTo pos (starEach es X.env)).any (·.1) = false := by rfl) : PE X (.Call (.Name x p2) (e :: es) [] pos) (SEr X.K (eN f as)) :=
  PEi (pe_callTy hc hg hm hv ha hn hdb he hpl) fun _ _ _ h => eN_go p h
end
end PI

namespace PI
open PySem PySem.Spec PyProof.Rows L2
/-! ### tests -/
def STr (K : PySem.W.Frag) (f : EF) : TT := fun σ H Q => ∃ Z env fr b env', Re K Z env σ H ∧ f env = some ((fr, .bl b), env') ∧ ∀ H', Re K Z env' σ H' → Trn env σ H env' H' → Q b H'
def eAnd (f g : EF) : EF := fun env => (f env).bind fun r => match r.1.2 with
  | .bl true => g r.2
  | .bl false => some ((false, .bl false), r.2)
  | _ => none
def eOr (f g : EF) : EF := fun env => (f env).bind fun r => match r.1.2 with
  | .bl true => some ((false, .bl true), r.2)
  | .bl false => g r.2
  | _ => none
def eNot (f : EF) : EF := fun env => (f env).bind fun r => match r.1.2 with
  | .bl b => some ((false, .bl (!b)), r.2)
  | _ => none
def eIf (c f g : EF) : EF := fun env => (c env).bind fun r => match r.1.2 with
  | .bl true => f r.2
  | .bl false => g r.2
  | _ => none
section
variable {K : PySem.W.Frag} {Z : Addr → Prop} {env env1 env2 : PI.Env} {σ : L2.St} {H H1 H2 : Hp} {w : W} {v : V}
theorem Res.after (t : Trn env σ H env1 H1) (r : Res K Z env1 σ H1 w env2 v H2) : Res K Z env σ H w env2 v H2 :=
  ⟨r.re, t.trans r.tr, r.rep, fun e => by
    obtain ⟨a, o0, vs, ds, h1, h2, h3, h4⟩ := r.new e
    refine ⟨a, o0, vs, ds, h1, h2, ?_, h4⟩
    cases q : H a with
    | none => rfl
    | some o => exact absurd h3 (t.dom a (by rw [q]; exact fun z => by cases z))⟩
theorem res_old {d : D} (R : Re K Z env1 σ H1) (t : Trn env σ H env1 H1) (r : Rep K (Av env1 σ Z) H1 v d) : Res K Z env σ H (false, d) env1 v H1 := ⟨R, t, r, fun e => (nomatch e)⟩
theorem rep_bl {S : Addr → Prop} {v : V} {b : Bool} (h : Rep K S H v (.bl b)) : v = .bl b := by
  cases h
  rfl
theorem rep_int {S : Addr → Prop} {v : V} {b : Int} (h : Rep K S H v (.int b)) : v = .int b := by
  cases h
  rfl
theorem st_val {f : EF} {Q : Bool → Hp → Prop} (h : STr K f σ H Q) : tB (SEr K f) σ H Q := by
  obtain ⟨Z, env, fr, b, env', R, e, q⟩ := h
  exact ⟨Z, env, (fr, .bl b), env', R, e, fun v H' x => ⟨b, rep_bl x.rep, q H' x.re x.tr⟩⟩
theorem st_and_go {f g : EF} {Q : Bool → Hp → Prop} (h : STr K (eAnd f g) σ H Q) : tAnd (STr K f) (STr K g) σ H Q := by
  obtain ⟨Z, env, fr, b, env', R, e, q⟩ := h
  obtain ⟨r, h1, e⟩ := obind e
  obtain ⟨⟨fr1, d⟩, env1⟩ := r
  cases d with
  | bl c =>
    refine ⟨Z, env, fr1, c, env1, R, h1, fun H1 R1 t1 => ?_⟩
    cases c with
    | true => exact iteT ⟨Z, env1, fr, b, env', R1, e, fun H2 R2 t2 => q H2 R2 (t1.trans t2)⟩
    | false =>
      cases e
      exact iteF (q H1 R1 t1)
  | _ => cases e
theorem st_or_go {f g : EF} {Q : Bool → Hp → Prop} (h : STr K (eOr f g) σ H Q) : tOr (STr K f) (STr K g) σ H Q := by
  obtain ⟨Z, env, fr, b, env', R, e, q⟩ := h
  obtain ⟨r, h1, e⟩ := obind e
  obtain ⟨⟨fr1, d⟩, env1⟩ := r
  cases d with
  | bl c =>
    refine ⟨Z, env, fr1, c, env1, R, h1, fun H1 R1 t1 => ?_⟩
    cases c with
    | false => exact iteF ⟨Z, env1, fr, b, env', R1, e, fun H2 R2 t2 => q H2 R2 (t1.trans t2)⟩
    | true =>
      cases e
      exact iteT (q H1 R1 t1)
  | _ => cases e
theorem st_not_go {f : EF} {Q : Bool → Hp → Prop} (h : STr K (eNot f) σ H Q) : tNot (STr K f) σ H Q := by
  obtain ⟨Z, env, fr, b, env', R, e, q⟩ := h
  obtain ⟨r, h1, e⟩ := obind e
  obtain ⟨⟨fr1, d⟩, env1⟩ := r
  cases d with
  | bl c =>
    cases e
    exact ⟨Z, env, fr1, c, env1, R, h1, fun H1 R1 t1 => q H1 R1 t1⟩
  | _ => cases e
theorem eAnd_go {f g : EF} {Q : VK} (h : SEr K (eAnd f g) σ H Q) : tAndV (SEr K f) (SEr K g) σ H Q := by
  obtain ⟨Z, env, w, env', R, e, q⟩ := h
  obtain ⟨r, h1, e⟩ := obind e
  obtain ⟨⟨fr1, d⟩, env1⟩ := r
  cases d with
  | bl c =>
    refine ⟨Z, env, _, env1, R, h1, fun v H1 x => ⟨c, rep_bl x.rep, ?_⟩⟩
    cases c with
    | true => exact iteT ⟨Z, env1, w, env', x.re, e, fun v2 H2 y => q v2 H2 (y.after x.tr)⟩
    | false =>
      cases e
      exact iteF (q _ H1 (res_old x.re x.tr (.bl false)))
  | _ => cases e
theorem eOr_go {f g : EF} {Q : VK} (h : SEr K (eOr f g) σ H Q) : tOrV (SEr K f) (SEr K g) σ H Q := by
  obtain ⟨Z, env, w, env', R, e, q⟩ := h
  obtain ⟨r, h1, e⟩ := obind e
  obtain ⟨⟨fr1, d⟩, env1⟩ := r
  cases d with
  | bl c =>
    refine ⟨Z, env, _, env1, R, h1, fun v H1 x => ⟨c, rep_bl x.rep, ?_⟩⟩
    cases c with
    | false => exact iteF ⟨Z, env1, w, env', x.re, e, fun v2 H2 y => q v2 H2 (y.after x.tr)⟩
    | true =>
      cases e
      exact iteT (q _ H1 (res_old x.re x.tr (.bl true)))
  | _ => cases e
theorem eNot_go {f : EF} {Q : VK} (h : SEr K (eNot f) σ H Q) : tNotV (SEr K f) σ H Q := by
  obtain ⟨Z, env, w, env', R, e, q⟩ := h
  obtain ⟨r, h1, e⟩ := obind e
  obtain ⟨⟨fr1, d⟩, env1⟩ := r
  cases d with
  | bl c =>
    cases e
    exact ⟨Z, env, _, env1, R, h1, fun v H1 x => ⟨c, rep_bl x.rep, q _ H1 (res_old x.re x.tr (.bl _))⟩⟩
  | _ => cases e
theorem eIf_go {c f g : EF} {Q : VK} (h : SEr K (eIf c f g) σ H Q) : tIf (STr K c) (SEr K f) (SEr K g) σ H Q := by
  obtain ⟨Z, env, w, env', R, e, q⟩ := h
  obtain ⟨r, h1, e⟩ := obind e
  obtain ⟨⟨fr1, d⟩, env1⟩ := r
  cases d with
  | bl c =>
    refine ⟨Z, env, fr1, c, env1, R, h1, fun H1 R1 t1 => ?_⟩
    cases c with
    | true => exact iteT ⟨Z, env1, w, env', R1, e, fun v2 H2 y => q v2 H2 (y.after t1)⟩
    | false => exact iteF ⟨Z, env1, w, env', R1, e, fun v2 H2 y => q v2 H2 (y.after t1)⟩
  | _ => cases e
end
section
variable {X : Cx} {pos : Pos} {a b c : Expr} {rest : List Expr} {f g h : EF}
/-- a test by its value -/
theorem st_of (p : PE X a (SEr X.K f)) (he : ∀ whole, isTrue a X.env whole = (do let v ← whole; standAt a.pos; holding [v] (truthy v)) := by intro _; rfl) : PT X a (STr X.K f) := PTi (pt_val p he) fun _ _ _ q => st_val q
theorem tB_test (t : TE) : tB t = tTest t := rfl
theorem st_cmp {op : CmpOp} {r : R2} {f : D → D → Option W} {oa ob : Opd} (ho : L2.OpR X (compareOp op) r) (p : P2Ok X.K r f) (ha : PE X a (SOr X.K oa)) (hb : PE X b (SOr X.K ob)) (hm : behindInMarks op b = false := by rfl) : PT X (.Compare a [op] [b] pos) (STr X.K (e2 f oa ob)) := by
  refine PTi (pt_cmpR ho ha hb hm) fun σ H Q q => ?_
  have q := st_val q
  exact e2_go (K := X.K) (Q := fun x H1 => ∃ c, x = .bl c ∧ Q c H1) p q
theorem st_and (ha : PT X a (STr X.K f)) (hb : PW X (.BoolOp .And (b :: rest) pos) (STr X.K g)) : PW X (.BoolOp .And (a :: b :: rest) pos) (STr X.K (eAnd f g)) :=
  ⟨fun wh pins s σ H Q I q => (pw_and ha hb).run wh pins s σ H Q I (st_and_go q)⟩
theorem st_and1 (ha : PT X a (STr X.K f)) : PW X (.BoolOp .And [a] pos) (STr X.K f) := pw_and1 ha
theorem st_or (ha : PT X a (STr X.K f)) (hb : PW X (.BoolOp .Or (b :: rest) pos) (STr X.K g)) : PW X (.BoolOp .Or (a :: b :: rest) pos) (STr X.K (eOr f g)) :=
  ⟨fun wh pins s σ H Q I q => (pw_or ha hb).run wh pins s σ H Q I (st_or_go q)⟩
theorem st_or1 (ha : PT X a (STr X.K f)) : PW X (.BoolOp .Or [a] pos) (STr X.K f) := pw_or1 ha
theorem st_not (ha : PT X a (STr X.K f)) : PT X (.UnaryOp .Not a pos) (STr X.K (eNot f)) := PTi (pt_not ha) fun _ _ _ q => st_not_go q
theorem se_and (ha : PE X a (SEr X.K f)) (hb : PE X (.BoolOp .And (b :: rest) pos) (SEr X.K g)) : PE X (.BoolOp .And (a :: b :: rest) pos) (SEr X.K (eAnd f g)) := PEi (pe_and ha hb) fun _ _ _ q => eAnd_go q
theorem se_or (ha : PE X a (SEr X.K f)) (hb : PE X (.BoolOp .Or (b :: rest) pos) (SEr X.K g)) : PE X (.BoolOp .Or (a :: b :: rest) pos) (SEr X.K (eOr f g)) := PEi (pe_or ha hb) fun _ _ _ q => eOr_go q
theorem se_one {op} (ha : PE X a (SEr X.K f)) : PE X (.BoolOp op [a] pos) (SEr X.K f) := pe_one ha
theorem se_not (ha : PE X a (SEr X.K f)) : PE X (.UnaryOp .Not a pos) (SEr X.K (eNot f)) := PEi (pe_not ha) fun _ _ _ q => eNot_go q
theorem se_if (hc : PT X c (STr X.K h)) (ha : PE X a (SEr X.K f)) (hb : PE X b (SEr X.K g)) : PE X (.IfExp c a b pos) (SEr X.K (eIf h f g)) := PEi (pe_ifExp hc ha hb) fun _ _ _ q => eIf_go q
end
/-! ### values in a row -/
def vals : List EF → PI.Env → Option (List D × PI.Env)
  | [], env => some ([], env)
  | f :: fs, env => (f env).bind fun r => (vals fs r.2).bind fun s => some (r.1.2 :: s.1, s.2)
def SVr (K : PySem.W.Frag) : List EF → TA
  | [] => tNil
  | f :: fs => tCons (SEr K f) (SVr K fs)
def eTup (fs : List EF) : EF := fun env => (vals fs env).bind fun r => some ((false, .tup r.1), r.2)
def eLst (fs : List EF) : EF := fun env => (vals fs env).bind fun r => some ((true, .lst r.1), r.2)
section
variable {K : PySem.W.Frag} {Z : Addr → Prop} {env env1 env2 : PI.Env} {σ : L2.St} {H H1 H2 : Hp} {w : W} {v : V}
theorem SVr.go : ∀ {fs : List EF} {env : PI.Env} {H : Hp} {ds : List D} {env1 : PI.Env} {Q : List V → Hp → Prop}, Re K Z env σ H → vals fs env = some (ds, env1) → (∀ vs H1, vs.length = fs.length → Re K Z env1 σ H1 → Trn env σ H env1 H1 → RepAll K (Av env1 σ Z) H1 vs ds → Q vs H1) → SVr K fs σ H Q
  | [], env, H, os, env1, Q, R, h, q => by
    cases h
    exact q [] H rfl R .refl .nil
  | a :: as, env, H, os, env1, Q, R, h, q => by
    unfold vals at h
    obtain ⟨r, h1, h⟩ := obind h
    obtain ⟨s, h2, h⟩ := obind h
    cases h
    obtain ⟨w, env2⟩ := r
    refine ⟨Z, env, w, env2, R, h1, fun v H1 x => ?_⟩
    exact SVr.go x.re h2 fun vs H2 l R2 t2 o2 => q (v :: vs) H2 (congrArg Nat.succ l) R2 (x.tr.trans t2) (.cons (t2.rep x.rep) o2)
theorem eTup_go {fs : List EF} (hl : fs.length ≤ 1000) {Q : VK} (h : SEr K (eTup fs) σ H Q) : tTupF (SVr K fs) σ H Q := by
  obtain ⟨Z, env, w, env', R, e, q⟩ := h
  obtain ⟨r, h1, e⟩ := obind e
  cases e
  exact SVr.go R h1 fun vs H1 l R1 t1 o1 => ⟨Nat.le_of_lt (small1000 (by omega)), fun p o hp hd => q _ _ (made_res R1 t1 (made_tup hp hd (fun z => R1.dom p z hp) o1))⟩
theorem eLst_go {fs : List EF} (hl : fs.length ≤ 1000) {Q : VK} (h : SEr K (eLst fs) σ H Q) : tLst (SVr K fs) σ H Q := by
  obtain ⟨Z, env, w, env', R, e, q⟩ := h
  obtain ⟨r, h1, e⟩ := obind e
  cases e
  exact SVr.go R h1 fun vs H1 l R1 t1 o1 => ⟨Nat.le_of_lt (small1000 (by omega)), fun p hp => q _ _ (made_res R1 t1 (made_lst hp o1))⟩
end
section
variable {X : Cx} {pos : Pos} {e : Expr} {es : List Expr} {f : EF} {fs : List EF}
theorem sv_nil : PA X [] (SVr X.K []) := pa_nil
theorem sv_cons (h : PE X e (SEr X.K f)) (hr : PA X es (SVr X.K fs)) (hs : starEach (e :: es) X.env = (false, eval e X.env) :: starEach es X.env := by rfl) : PA X (e :: es) (SVr X.K (f :: fs)) := pa_cons h hr hs
theorem se_tup {x1} (h : PA X es (SVr X.K fs)) (hl : fs.length ≤ 1000 := by first | decide | exact Nat.le_of_ble_eq_true rfl) : PE X (.Tuple es x1 pos) (SEr X.K (eTup fs)) := PEi (pe_tupF h) fun _ _ _ q => eTup_go hl q
theorem se_lst (h : PA X es (SVr X.K fs)) (hl : fs.length ≤ 1000 := by first | decide | exact Nat.le_of_ble_eq_true rfl) : PE X (.List es pos) (SEr X.K (eLst fs)) := PEi (pe_lst h) fun _ _ _ q => eLst_go hl q
end
/-! ### a < b < c -/
def eCh (f g : D → D → Option W) (a b c : Opd) : EF := fun env => (a.run env).bind fun r => (b.run r.2).bind fun s => (r.1.get s.2).bind fun d => (s.1.get s.2).bind fun e => (f d e).bind fun w => match w with
  | (false, .bl true) => (c.run s.2).bind fun t => (s.1.get t.2).bind fun e => (t.1.get t.2).bind fun k => (g e k).bind fun w => some (w, t.2)
  | (false, .bl false) => some ((false, .bl false), s.2)
  | _ => none
section
variable {K : PySem.W.Frag} {σ : L2.St} {H : Hp}
theorem eCh_go {r r' : R2} {f g : D → D → Option W} {a b c : Opd} (p : P2Ok K r f) (p' : P2Ok K r' g) {Q : VK} (h : SEr K (eCh f g a b c) σ H Q) : tChain r r' (SOr K a) (SOr K b) (SOr K c) σ H Q := by
  obtain ⟨Z, env, w, env', R, e, q⟩ := h
  obtain ⟨s, h1, e⟩ := obind e
  obtain ⟨t, h2, e⟩ := obind e
  obtain ⟨d, h3, e⟩ := obind e
  obtain ⟨d', h4, e⟩ := obind e
  obtain ⟨w', h5, e⟩ := obind e
  refine SOr.go R h1 fun x H1 R1 t1 o1 => SOr.go R1 h2 fun y H2 R2 t2 o2 => p _ H2 x y d d' w' _ R2.dom ((o1.step t2).view R2 h3) (o2.view R2 h4) h5 fun v' H' m => ?_
  obtain ⟨fr, d1⟩ := w'
  cases fr with
  | true => cases e
  | false =>
    cases d1 with
    | bl k =>
      have ev := rep_bl (m.old rfl)
      refine ⟨k, ev, ?_⟩
      have R3 : Re K Z t.2 σ H' := R2.grow0 m.keep
      have t3 : Trn t.2 σ H2 t.2 H' := .grow m.keep
      cases k with
      | false =>
        cases e
        exact iteF (q _ H' (res_old R3 ((t1.trans t2).trans t3) (.bl false)))
      | true =>
        obtain ⟨u, h6, e⟩ := obind e
        obtain ⟨d2, h7, e⟩ := obind e
        obtain ⟨d3, h8, e⟩ := obind e
        obtain ⟨w2, h9, e⟩ := obind e
        cases e
        refine iteT (SOr.go R3 h6 fun z H4 R4 t4 o4 => p' _ H4 y z d2 d3 w Q R4.dom (((o2.step t3).step t4).view R4 h7) (o4.view R4 h8) h9 fun v2 H5 m2 => q v2 H5 (made_res R4 (((t1.trans t2).trans t3).trans t4) m2))
    | _ => cases e
end
section
variable {X : Cx} {pos : Pos} {a b c : Expr}
theorem se_chain {op op' : CmpOp} {r r' : R2} {f g : D → D → Option W} {oa ob oc : Opd} (ho : L2.OpR X (compareOp op) r) (p : P2Ok X.K r f) (ho' : L2.OpR X (compareOp op') r') (p' : P2Ok X.K r' g) (ha : PE X a (SOr X.K oa)) (hb : PE X b (SOr X.K ob)) (hc : PE X c (SOr X.K oc)) (hm : lastMarks [op, op'] [b, c] = false := by rfl) :
    PE X (.Compare a [op, op'] [b, c] pos) (SEr X.K (eCh f g oa ob oc)) := PEi (pe_chain ho ho' ha hb hc (hm := hm)) fun _ _ _ q => eCh_go p p' q
end
/-! ### slices -/
def prt : Option EF → PI.Env → Option (Option Int × PI.Env)
  | none, env => some (none, env)
  | some f, env => (f env).bind fun r => match r.1.2 with
    | .int i => some (some i, r.2)
    | _ => none
def SPr (K : PySem.W.Frag) : Option EF → TO
  | none => tNoPart
  | some f => tPart (SEr K f)
def P3Ok (K : PySem.W.Frag) (r : V → Option Int → Option Int → Hp → VK → Prop) (f : D → Option Int → Option Int → Option W) : Prop := ∀ (S : Addr → Prop) (H : Hp) (v : V) (d : D) (lo hi : Option Int) (w : W) (Q : VK), (∀ a, S a → H a ≠ none) → View K S H v d → f d lo hi = some w → (∀ v' H', Made K S H w v' H' → Q v' H') → r v lo hi H Q
def eSl (f : D → Option Int → Option Int → Option W) (a : Opd) (lo hi : Option EF) : EF := fun env => (a.run env).bind fun r => (prt lo r.2).bind fun s => (prt hi s.2).bind fun t => (r.1.get t.2).bind fun d => (f d s.1 t.1).bind fun w => some (w, t.2)
section
variable {K : PySem.W.Frag} {Z : Addr → Prop} {env env1 : PI.Env} {σ : L2.St} {H : Hp}
theorem SPr.go {f : Option EF} {o : Option Int} {Q : Option Int → Hp → Prop} (R : Re K Z env σ H) (h : prt f env = some (o, env1)) (q : ∀ H1, Re K Z env1 σ H1 → Trn env σ H env1 H1 → Q o H1) : SPr K f σ H Q := by
  cases f with
  | none =>
    cases h
    exact q H R .refl
  | some f =>
    obtain ⟨r, h1, e⟩ := obind h
    obtain ⟨⟨fr1, d⟩, env2⟩ := r
    cases d with
    | int i =>
      cases e
      exact ⟨Z, env, _, env2, R, h1, fun v H1 x => ⟨i, rep_int x.rep, q H1 x.re x.tr⟩⟩
    | _ => cases e
theorem eSl_go {r : V → Option Int → Option Int → Hp → VK → Prop} {f : D → Option Int → Option Int → Option W} {a : Opd} {lo hi : Option EF} (p : P3Ok K r f) {Q : VK} (h : SEr K (eSl f a lo hi) σ H Q) : tSl r (SOr K a) (SPr K lo) (SPr K hi) σ H Q := by
  obtain ⟨Z, env, w, env', R, e, q⟩ := h
  obtain ⟨s, h1, e⟩ := obind e
  obtain ⟨t, h2, e⟩ := obind e
  obtain ⟨u, h3, e⟩ := obind e
  obtain ⟨d, h4, e⟩ := obind e
  obtain ⟨w', h5, e⟩ := obind e
  cases e
  exact SOr.go R h1 fun x H1 R1 t1 o1 => SPr.go R1 h2 fun H2 R2 t2 => SPr.go R2 h3 fun H3 R3 t3 => p _ H3 x d _ _ w Q R3.dom (((o1.step t2).step t3).view R3 h4) h5 fun v' H' m => q v' H' (made_res R3 ((t1.trans t2).trans t3) m)
end
section
variable {X : Cx} {pos p2 : Pos} {a : Expr} {lo hi : Option Expr}
theorem sp_none : L2.PO X none (SPr X.K none) := po_none
theorem sp_some {e : Expr} {f : EF} (h : PE X e (SEr X.K f)) : L2.PO X (some e) (SPr X.K (some f)) := po_some h
theorem se_slice {r : V → Option Int → Option Int → Hp → VK → Prop} {f : D → Option Int → Option Int → Option W} {oa : Opd} {l h : Option EF} (hr : SlR X r) (p : P3Ok X.K r f) (ha : PE X a (SOr X.K oa)) (hl : L2.PO X lo (SPr X.K l)) (hu : L2.PO X hi (SPr X.K h)) :
    PE X (.Subscript a (.Slice lo hi none p2) pos) (SEr X.K (eSl f oa l h)) := PEi (pe_slice hr ha hl hu) fun _ _ _ q => eSl_go p q
end
/-! ### lists that lose an item -/
def ePop (i : Nat) : EF := fun env => match env[i]? with
  | some (some (true, .lst ds)) => match ds[ds.length - 1]? with
    | some d => some ((false, d), env.set i (some (true, .lst ds.dropLast)))
    | none => none
  | _ => none
def isOwn (env : PI.Env) (i : Nat) : Bool := match env[i]? with
  | some (some (true, .lst _)) => true
  | _ => false
def ePopAt (i : Nat) (f : EF) : EF := fun env => match isOwn env i with
  | true => (f env).bind fun r => match r.1.2 with
    | .int k => if -(2 ^ 63) ≤ k ∧ k < 2 ^ 63 then (match r.2[i]? with
      | some (some (true, .lst ds)) => (seqIndex? k ds.length).bind fun j => (ds[j]?).bind fun d => some ((false, d), r.2.set i (some (true, .lst (ds.eraseIdx j))))
      | _ => none) else none
    | _ => none
  | false => none
section
variable {K : PySem.W.Frag} {Z : Addr → Prop} {env env1 : PI.Env} {σ : L2.St} {H H' : Hp}
theorem keep_ne {a : Addr} {o : HO} : ∀ b u, b ≠ a → H b = some u → upd H a o b = some u := fun b u n e => by
  rw [upd_ne n]
  exact e
theorem mut_trn {i : Nat} {d d' : D} {a : Addr} {o : HO} (h : env[i]? = some (some (true, d))) (ha : σ[i]? = some (some (V.ref a))) : Trn env σ H (env.set i (some (true, d'))) (upd H a o) :=
  ⟨fun b q => (own_mut h).mp q, fun b u e n => keep_ne b u (fun z => n ⟨i, d, h, by rw [z]; exact ha⟩) e, fun b q => by
    by_cases z : b = a
    · subst z
      rw [upd_same]
      exact fun z => by cases z
    · rw [upd_ne z]
      exact q⟩
theorem av_mut {i : Nat} {d d' : D} {b : Addr} (h : env[i]? = some (some (true, d))) : Av (env.set i (some (true, d'))) σ Z b ↔ Av env σ Z b := by
  unfold Av
  rw [own_mut h]
/-- the owned list at i becomes another one of things that were known -/
theorem Rel.mutUC (R : Re K Z env σ H) {i : Nat} {d dn : D} {a : Addr} {on : HO} {us : List V} {es : List D} (hc : Cnt a on us es dn) (h : env[i]? = some (some (true, d))) (ha : σ[i]? = some (some (V.ref a))) (hr : RepAll K (Av env σ Z) H us es) :
    Re K Z (env.set i (some (true, dn))) σ (upd H a on) ∧ (∀ {v : V} {e : D}, Rep K (Av env σ Z) H v e → Rep K (Av (env.set i (some (true, dn))) σ Z) (upd H a on) v e) := by
  have st : ∀ b u, H b = some u → ¬ Av env σ Z b → upd H a on b = some u := fun b u e n => keep_ne b u (fun z => n (.inl ⟨i, d, h, by rw [z]; exact ha⟩)) e
  refine ⟨R.mutateC hc h ha keep_ne upd_same (hr.step st fun b q => .inl q), fun {v e} r => r.step st fun b q => .inl ((av_mut h).mp q)⟩
theorem Rel.mutU (R : Re K Z env σ H) {i : Nat} {d : D} {a : Addr} {us : List V} {es : List D} (h : env[i]? = some (some (true, d))) (ha : σ[i]? = some (some (V.ref a))) (hr : RepAll K (Av env σ Z) H us es) :
    Re K Z (env.set i (some (true, .lst es))) σ (upd H a (.lst us)) ∧ (∀ {v : V} {e : D}, Rep K (Av env σ Z) H v e → Rep K (Av (env.set i (some (true, .lst es))) σ Z) (upd H a (.lst us)) v e) := R.mutUC .lst h ha hr
theorem ePop_go {i : Nat} {Q : VK} (h : SEr K (ePop i) σ H Q) : tBM0 K "list" rPop (tVar i) σ H Q := by
  obtain ⟨Z, env, w, env', R, e, q⟩ := h
  unfold ePop at e
  split at e
  · rename_i ds g
    split at e
    · rename_i d hd
      cases e
      obtain ⟨a, o0, vs, es, h1, h2, h3, h4⟩ := R.ow i _ g
      obtain ⟨e1, e2⟩ := h2.lstD
      have e2 := e2.symm
      subst e1 e2
      obtain ⟨v, hv, rv⟩ := h4.get hd
      obtain ⟨R2, st⟩ := R.mutU (us := vs.dropLast) (es := ds.dropLast) g h1 h4.dropLast
      exact ⟨.ref a, h1, .inl ⟨rfl, _, .inl (.inl h3)⟩, a, vs, v, rfl, rfl, h3, by rw [h4.length]; exact hv, q v _ (res_old R2 (mut_trn g h1) (st rv))⟩
    · cases e
  · cases e
theorem isOwn_at {i : Nat} (h : isOwn env i = true) : ∃ ds, env[i]? = some (some (true, .lst ds)) := by
  unfold isOwn at h
  split at h
  · exact ⟨_, by assumption⟩
  · cases h
theorem own_list (R : Re K Z env σ H) {i : Nat} (h : isOwn env i = true) : ∃ (a : Addr) (vs : List V) (ds : List D), σ[i]? = some (some (V.ref a)) ∧ env[i]? = some (some (true, .lst ds)) ∧ H a = some (.lst vs) ∧ RepAll K (Av env σ Z) H vs ds ∧ tyV K "list" (V.ref a) H := by
  obtain ⟨ds, g⟩ := isOwn_at h
  obtain ⟨a, o0, vs, es, h1, h2, h3, h4⟩ := R.ow i _ g
  obtain ⟨e1, e2⟩ := h2.lstD
  have e2 := e2.symm
  subst e1 e2
  exact ⟨a, vs, ds, h1, g, h3, h4, .inl ⟨rfl, _, .inl (.inl h3)⟩⟩
theorem ePopAt_go {i : Nat} {f : EF} {Q : VK} (h : SEr K (ePopAt i f) σ H Q) : tBM K "list" rPopAt (tVar i) (tCons (SEr K f) tNil) σ H Q := by
  obtain ⟨Z, env, w, env', R, e, q⟩ := h
  unfold ePopAt at e
  cases hw : isOwn env i with
  | false =>
    rw [hw] at e
    cases e
  | true =>
    rw [hw] at e
    obtain ⟨a, vs0, ds0, h1, _, _, _, ty⟩ := own_list R hw
    obtain ⟨r, g1, e⟩ := obind e
    obtain ⟨⟨fr1, d⟩, env1⟩ := r
    cases d with
    | int k =>
      dsimp only at e
      split at e
      · rename_i hk
        split at e
        · rename_i ds g
          obtain ⟨j, hj, e⟩ := obind e
          obtain ⟨d, hd, e⟩ := obind e
          cases e
          refine ⟨.ref a, h1, ty, Z, env, _, env1, R, g1, fun v H1 x => ?_⟩
          obtain ⟨b, o0, vs, es, g2, g3, g4, g5⟩ := x.re.ow i _ g
          obtain ⟨e1, e2⟩ := g3.lstD
          have e2 := e2.symm
          subst e1 e2
          rw [h1] at g2
          cases g2
          obtain ⟨u, hu, ru⟩ := g5.get hd
          have ev := rep_int x.rep
          subst ev
          obtain ⟨R2, st⟩ := Rel.mutU x.re (us := vs.eraseIdx j) (es := ds.eraseIdx j) g h1 (g5.eraseIdx j)
          exact ⟨a, vs, k, j, u, rfl, rfl, g4, hk.1, hk.2, by rw [g5.length]; exact hj, hu, q u _ (res_old R2 (x.tr.trans (mut_trn g h1)) (st ru))⟩
        · cases e
      · cases e
    | _ => cases e
end
end PI

namespace PI
open PySem PySem.Spec PyProof.Rows L2
inductive Ctl where
  | nx | bk | ct | rt (w : W)
abbrev SF := PI.Env → Option (Ctl × PI.Env)
abbrev Z0 : Addr → Prop := fun _ => False
structure Stp (env : PI.Env) (σ : L2.St) (H : Hp) (env' : PI.Env) (σ' : L2.St) (H' : Hp) : Prop where
  own : ∀ a, Own env' σ' a → Own env σ a ∨ H a = none
  keep : ∀ a o, H a = some o → ¬ Own env σ a → H' a = some o
  dom : ∀ a, H a ≠ none → H' a ≠ none
def PinK (P : List Nat) (σ σ' : L2.St) : Prop := ∀ i ∈ P, σ'[i]? = σ[i]?
structure RetR (K : PySem.W.Frag) (Z : Addr → Prop) (env : PI.Env) (σ : L2.St) (H : Hp) (env' : PI.Env) (σ' : L2.St) (w : W) (v : V) (H' : Hp) : Prop where
  old : w.1 = false → Re K Z env' σ' H' ∧ Rep K (Av env' σ' Z) H' v w.2
  new : w.1 = true → ∃ (a : Addr) (o : HO) (vs : List V) (ds : List D), v = V.ref a ∧ Cnt a o vs ds w.2 ∧ (Own env σ a ∨ H a = none) ∧ H' a = some o ∧ Re K (fun b => Z b ∨ b = a) env' σ' H' ∧ RepAll K (Av env' σ' fun b => Z b ∨ b = a) H' vs ds
/-- what is to be shown behind a statement -/
def Post (K : PySem.W.Frag) (P : List Nat) (Z : Addr → Prop) (env : PI.Env) (σ : L2.St) (H : Hp) (D : Ends) (c : Ctl) (env' : PI.Env) : Prop := match c with
  | .nx => ∀ σ' H', Re K Z env' σ' H' → Stp env σ H env' σ' H' → PinK P σ σ' → D.nx σ' H'
  | .bk => ∀ σ' H', Re K Z env' σ' H' → Stp env σ H env' σ' H' → PinK P σ σ' → D.bk σ' H'
  | .ct => ∀ σ' H', Re K Z env' σ' H' → Stp env σ H env' σ' H' → PinK P σ σ' → D.ct σ' H'
  | .rt w => ∀ v σ' H', Stp env σ H env' σ' H' → PinK P σ σ' → RetR K Z env σ H env' σ' w v H' → D.rt v H'
def SSr (K : PySem.W.Frag) (P : List Nat) (f : SF) : TS := fun D σ H => ∃ Z env c env', Re K Z env σ H ∧ f env = some (c, env') ∧ Post K P Z env σ H D c env'
section
variable {K : PySem.W.Frag} {P : List Nat} {Z : Addr → Prop} {env env1 env2 env' : PI.Env} {σ σ1 σ2 : L2.St} {H H1 H2 : Hp} {D : Ends} {c : Ctl}
theorem Stp.refl : Stp env σ H env σ H := ⟨fun _ q => .inl q, fun _ _ q _ => q, fun _ q => q⟩
theorem none_back {a : Addr} (h : H a ≠ none → H1 a ≠ none) (q : H1 a = none) : H a = none := by
  cases e : H a with
  | none => rfl
  | some o => exact absurd q (h (by rw [e]; exact fun z => by cases z))
theorem Stp.trans (a : Stp env σ H env1 σ1 H1) (b : Stp env1 σ1 H1 env2 σ2 H2) : Stp env σ H env2 σ2 H2 :=
  ⟨fun x q => by
    rcases b.own x q with q | q
    · exact a.own x q
    · exact .inr (none_back (a.dom x) q), fun x o q n => b.keep x o (a.keep x o q n) (fun z => by
      rcases a.own x z with z | z
      · exact n z
      · rw [z] at q
        cases q), fun x q => b.dom x (a.dom x q)⟩
theorem Trn.stp (t : Trn env σ H env1 H1) : Stp env σ H env1 σ H1 := ⟨fun a q => .inl (t.own a q), t.keep, t.dom⟩
theorem PinK.refl : PinK P σ σ := fun _ _ => rfl
theorem PinK.trans (a : PinK P σ σ1) (b : PinK P σ1 σ2) : PinK P σ σ2 := fun i hi => (b i hi).trans (a i hi)
theorem RetR.after {w : W} {v : V} {H' : Hp} {σ' : L2.St} (s : Stp env σ H env1 σ1 H1) (r : RetR K Z env1 σ1 H1 env' σ' w v H') : RetR K Z env σ H env' σ' w v H' :=
  ⟨r.old, fun e => by
    obtain ⟨a, o0, vs, ds, h1, h2, h3, h4⟩ := r.new e
    refine ⟨a, o0, vs, ds, h1, h2, ?_, h4⟩
    rcases h3 with h3 | h3
    · exact s.own a h3
    · exact .inr (none_back (s.dom a) h3)⟩
theorem Post.after (s : Stp env σ H env1 σ1 H1) (p : PinK P σ σ1) (q : Post K P Z env σ H D c env') : Post K P Z env1 σ1 H1 D c env' := by
  cases c with
  | nx => exact fun σ' H' R t k => q σ' H' R (s.trans t) (p.trans k)
  | bk => exact fun σ' H' R t k => q σ' H' R (s.trans t) (p.trans k)
  | ct => exact fun σ' H' R t k => q σ' H' R (s.trans t) (p.trans k)
  | rt w => exact fun v σ' H' t k r => q v σ' H' (s.trans t) (p.trans k) (r.after s)
/-- the ends change -/
theorem Post.ends {D' : Ends} (q : Post K P Z env σ H D c env') (h1 : c = .nx → ∀ σ' H', D.nx σ' H' → D'.nx σ' H') (h2 : c = .bk → ∀ σ' H', D.bk σ' H' → D'.bk σ' H') (h3 : c = .ct → ∀ σ' H', D.ct σ' H' → D'.ct σ' H') (h4 : ∀ v H', D.rt v H' → D'.rt v H') : Post K P Z env σ H D' c env' := by
  cases c with
  | nx => exact fun σ' H' R t k => h1 rfl _ _ (q σ' H' R t k)
  | bk => exact fun σ' H' R t k => h2 rfl _ _ (q σ' H' R t k)
  | ct => exact fun σ' H' R t k => h3 rfl _ _ (q σ' H' R t k)
  | rt w => exact fun v σ' H' t k r => h4 _ _ (q v σ' H' t k r)
theorem set_ge {α : Type} {l : List α} {i : Nat} {x : α} (h : ¬ i < l.length) : l.set i x = l := List.set_eq_of_length_le (by omega)
theorem Rel.store2 (R : Re K Z env σ H) {i : Nat} {d : PI.D} {v : V} (r : Rep K (Av env σ Z) H v d) : Re K Z (env.set i (some (false, d))) (σ.set i (some v)) H := by
  by_cases h : i < env.length
  · exact R.store h r
  · rw [set_ge h, set_ge (by rw [← R.len]; exact h)]
    exact R
end
/-! ### plain statements -/
def sNext : SF := fun env => some (.nx, env)
def sSeq (f g : SF) : SF := fun env => (f env).bind fun r => match r.1 with
  | .nx => g r.2
  | c => some (c, r.2)
def sBrk : SF := fun env => some (.bk, env)
def sCnt : SF := fun env => some (.ct, env)
def sNever : SF := fun _ => none
def sExp (f : EF) : SF := fun env => (f env).bind fun r => some (.nx, r.2)
def sRet (f : EF) : SF := fun env => (f env).bind fun r => some (.rt r.1, r.2)
def sRetV (P : List Nat) (i : Nat) : SF := fun env => match env[i]? with
  | some (some (true, d)) => match P.contains i with
    | false => some (.rt (true, d), env.set i none)
    | true => none
  | some (some (false, d)) => some (.rt (false, d), env)
  | _ => none
def sRetN : SF := fun env => some (.rt (false, .non), env)
def sIf (c : EF) (f g : SF) : SF := fun env => (c env).bind fun r => match r.1.2 with
  | .bl true => f r.2
  | .bl false => g r.2
  | _ => none
def sAsg (P : List Nat) (i : Nat) (f : EF) : SF := fun env => match P.contains i with
  | true => none
  | false => (f env).bind fun r => some (.nx, r.2.set i (some r.1))
def sAug (P : List Nat) (i : Nat) (op : Int → Int → Int) (f : EF) : SF := fun env => match P.contains i with
  | true => none
  | false => match env[i]? with
    | some (some (false, .int a)) => (f env).bind fun r => match r.1.2 with
      | .int b => some (.nx, r.2.set i (some (false, .int (op a b))))
      | _ => none
    | _ => none
section
variable {K : PySem.W.Frag} {P : List Nat} {Z : Addr → Prop} {env env1 env2 env' : PI.Env} {σ σ1 σ2 : L2.St} {H H1 H2 : Hp} {D : Ends} {c : Ctl}
theorem sNext_go (h : SSr K P sNext D σ H) : tNext D σ H := by
  obtain ⟨Z, env, c, env', R, e, q⟩ := h
  cases e
  exact q σ H R .refl .refl
theorem sBrk_go (h : SSr K P sBrk D σ H) : tBreak D σ H := by
  obtain ⟨Z, env, c, env', R, e, q⟩ := h
  cases e
  exact q σ H R .refl .refl
theorem sCnt_go (h : SSr K P sCnt D σ H) : tCont D σ H := by
  obtain ⟨Z, env, c, env', R, e, q⟩ := h
  cases e
  exact q σ H R .refl .refl
theorem sNever_go (h : SSr K P sNever D σ H) : tNever D σ H := by
  obtain ⟨Z, env, c, env', R, e, q⟩ := h
  cases e
theorem sSeq_go {f g : SF} (h : SSr K P (sSeq f g) D σ H) : tSeq (SSr K P f) (SSr K P g) D σ H := by
  obtain ⟨Z, env, c, env', R, e, q⟩ := h
  obtain ⟨⟨c1, env1⟩, h1, e⟩ := obind e
  refine ⟨Z, env, c1, env1, R, h1, ?_⟩
  cases c1 with
  | nx => exact fun σ1 H1 R1 t k => ⟨Z, env1, c, env', R1, e, q.after t k⟩
  | bk => cases e; exact q
  | ct => cases e; exact q
  | rt w => cases e; exact q
theorem sExp_go {f : EF} (h : SSr K P (sExp f) D σ H) : tDrop (SEr K f) D σ H := by
  obtain ⟨Z, env, c, env', R, e, q⟩ := h
  obtain ⟨r, h1, e⟩ := obind e
  cases e
  exact ⟨Z, env, r.1, r.2, R, h1, fun v H' x => q σ H' x.re x.tr.stp .refl⟩
theorem sRet_go {f : EF} (h : SSr K P (sRet f) D σ H) : tRet (SEr K f) D σ H := by
  obtain ⟨Z, env, c, env', R, e, q⟩ := h
  obtain ⟨r, h1, e⟩ := obind e
  cases e
  refine ⟨Z, env, r.1, r.2, R, h1, fun v H' x => q v σ H' x.tr.stp .refl ⟨fun _ => ⟨x.re, x.rep⟩, fun hw => ?_⟩⟩
  obtain ⟨a, o0, vs, ds, h1, h2, h3, h4, h5, h6⟩ := x.new hw
  exact ⟨a, o0, vs, ds, h1, h2, .inr h3, h4, h5, h6⟩
theorem sRetN_go (h : SSr K P sRetN D σ H) : tRetN D σ H := by
  obtain ⟨Z, env, c, env', R, e, q⟩ := h
  cases e
  exact q .non σ H .refl .refl ⟨fun _ => ⟨R, .non⟩, fun z => (nomatch z)⟩
/-- the owned list of a slot is let go, and avoided -/
theorem Rel.dropS (R : Re K Z env σ H) {i : Nat} {d : PI.D} {a : Addr} (h : env[i]? = some (some (true, d))) (ha : σ[i]? = some (some (V.ref a))) :
    Re K (fun b => Z b ∨ b = a) (env.set i none) σ H ∧ (∀ b, Own (env.set i none) σ b → Own env σ b) ∧ ∀ b, Av (env.set i none) σ (fun b => Z b ∨ b = a) b → Av env σ Z b := by
  have ow : ∀ b, Own (env.set i none) σ b → Own env σ b := fun b ⟨j, e, h1, h2⟩ => by
    rcases set_get h1 with ⟨_, q, _⟩ | ⟨_, q⟩
    · cases q
    · exact ⟨j, e, q, h2⟩
  have nown : ¬ Own (env.set i none) σ a := fun ⟨j, e, h1, h2⟩ => by
    rcases set_get h1 with ⟨_, q, _⟩ | ⟨ne, q⟩
    · cases q
    · exact ne (R.dist i j _ _ a h q ha h2)
  have av : ∀ b, Av (env.set i none) σ (fun b => Z b ∨ b = a) b → Av env σ Z b := fun b q => by
    rcases q with q | q | q
    · exact .inl (ow b q)
    · exact .inr q
    · subst q
      exact .inl ⟨i, d, h, ha⟩
  obtain ⟨a', o0, vs, ds, g1, g2, g3, g4⟩ := R.ow i d h
  rw [ha] at g1
  cases g1
  refine ⟨⟨by rw [List.length_set]; exact R.len, fun j e q => ?_, fun j e q => ?_, fun j k e f b q1 q2 => ?_, fun b o q => (nomatch q), fun b q => ?_⟩, ow, av⟩
  · rcases set_get q with ⟨_, q, _⟩ | ⟨_, q⟩
    · cases q
    · obtain ⟨v, e1, e2⟩ := R.sh j e q
      exact ⟨v, e1, e2.less av⟩
  · rcases set_get q with ⟨_, q, _⟩ | ⟨_, q⟩
    · cases q
    · obtain ⟨b, o1, us, es, e1, e2, e3, e4⟩ := R.ow j e q
      exact ⟨b, o1, us, es, e1, e2, e3, e4.less av⟩
  · rcases set_get q1 with ⟨_, q, _⟩ | ⟨_, q1⟩
    · cases q
    · rcases set_get q2 with ⟨_, q, _⟩ | ⟨_, q2⟩
      · cases q
      · exact R.dist j k e f b q1 q2
  · rcases q with q | q
    · exact ⟨(R.z b q).1, fun z => (R.z b q).2 (ow b z)⟩
    · subst q
      refine ⟨?_, nown⟩
      rw [g3]
      exact fun z => by cases z
theorem sRetV_go {i : Nat} (h : SSr K P (sRetV P i) D σ H) : tRet (tVar i) D σ H := by
  obtain ⟨Z, env, c, env', R, e, q⟩ := h
  unfold sRetV at e
  split at e
  · rename_i d g
    split at e
    · cases e
      obtain ⟨a, o0, vs, ds, h1, h2, h3, h4⟩ := R.ow i d g
      obtain ⟨R2, ow, av⟩ := R.dropS g h1
      refine ⟨.ref a, h1, q (.ref a) σ H ⟨fun b z => .inl (ow b z), fun b o z _ => z, fun b z => z⟩ .refl ⟨fun z => (nomatch z), fun _ => ⟨a, o0, vs, ds, rfl, h2, .inl ⟨i, d, g, h1⟩, h3, R2, h4.less av⟩⟩⟩
    · cases e
  · rename_i d g
    cases e
    obtain ⟨v, h1, h2⟩ := R.sh i d g
    exact ⟨v, h1, q v σ H .refl .refl ⟨fun _ => ⟨R, h2⟩, fun z => (nomatch z)⟩⟩
  · cases e
theorem sIf_go {t : EF} {f g : SF} (h : SSr K P (sIf t f g) D σ H) : tIfS (STr K t) (SSr K P f) (SSr K P g) D σ H := by
  obtain ⟨Z, env, c, env', R, e, q⟩ := h
  obtain ⟨⟨⟨fr, d⟩, env1⟩, h1, e⟩ := obind e
  cases d with
  | bl b =>
    refine ⟨Z, env, fr, b, env1, R, h1, fun H1 R1 t1 => ?_⟩
    cases b with
    | true => exact iteT ⟨Z, env1, c, env', R1, e, q.after t1.stp .refl⟩
    | false => exact iteF ⟨Z, env1, c, env', R1, e, q.after t1.stp .refl⟩
  | _ => cases e
theorem pin_set {i : Nat} {x : Option V} (h : P.contains i = false) : PinK P σ (σ.set i x) := fun j hj => by
  by_cases e : i = j
  · subst e
    rw [List.contains_eq_mem, decide_eq_false_iff_not] at h
    exact absurd hj h
  · rw [List.getElem?_set_ne e]
theorem sAsg_go {i : Nat} {f : EF} (h : SSr K P (sAsg P i f) D σ H) : tAsg (SEr K f) (gName i) D σ H := by
  obtain ⟨Z, env, c, env', R, e, q⟩ := h
  unfold sAsg at e
  cases hp : P.contains i with
  | true =>
    rw [hp] at e
    cases e
  | false =>
    rw [hp] at e
    obtain ⟨⟨⟨fr, d⟩, env1⟩, h1, e⟩ := obind e
    cases e
    refine ⟨Z, env, _, env1, R, h1, fun v H1 x => ?_⟩
    show D.nx (σ.set i (some v)) H1
    cases fr with
    | false =>
      exact q _ H1 (Rel.store2 x.re x.rep) ⟨fun a z => .inl (x.tr.own a (own_store z)), x.tr.keep, x.tr.dom⟩ (pin_set hp)
    | true =>
      obtain ⟨a, o0, vs, ds, g1, g2, g3, g4, g5, g6⟩ := x.new rfl
      subst g1
      by_cases hi : i < env1.length
      · exact q _ H1 (g5.storeNC g2 hi rfl (fun z => (R.z a z).1 g3) g4 g6) ⟨fun b z => by
          rcases own_storeN z with z | z
          · exact .inl (x.tr.own b z)
          · subst z
            exact .inr g3, x.tr.keep, x.tr.dom⟩ (pin_set hp)
      · have q : Post K P Z env σ H D .nx (env1.set i (some (true, d))) := q
        rw [set_ge hi] at q
        rw [set_ge (by rw [← x.re.len]; exact hi)]
        exact q σ H1 x.re x.tr.stp .refl
theorem sAug_go {i : Nat} {op : Int → Int → Int} {f : EF} (h : SSr K P (sAug P i op f) D σ H) : tAug i (SEr K f) (ipI op) D σ H := by
  obtain ⟨Z, env, c, env', R, e, q⟩ := h
  unfold sAug at e
  cases hp : P.contains i with
  | true =>
    rw [hp] at e
    cases e
  | false =>
    rw [hp] at e
    dsimp only at e
    split at e
    · rename_i a g
      obtain ⟨⟨⟨fr, d⟩, env1⟩, h1, e⟩ := obind e
      obtain ⟨v, k1, k2⟩ := R.sh i _ g
      have ev := rep_int k2
      subst ev
      cases d with
      | int b =>
        cases e
        refine ⟨.int a, k1, Z, env, _, env1, R, h1, fun v H1 x => ?_⟩
        have ev := rep_int x.rep
        subst ev
        exact ⟨a, b, rfl, rfl, q _ H1 (Rel.store2 x.re (.int _)) ⟨fun a z => .inl (x.tr.own a (own_store z)), x.tr.keep, x.tr.dom⟩ (pin_set hp)⟩
      | _ => cases e
    · cases e
end
section
variable {X : Cx} {pos : Pos} {P : List Nat} {st : Stmt} {rest : List Stmt} {f g : SF}
theorem ss_nil : PSs X [] (SSr X.K P sNext) := PSsi pss_nil fun _ _ _ h => sNext_go h
theorem ss_cons (h1 : PS X st (SSr X.K P f)) (h2 : PSs X rest (SSr X.K P g)) : PSs X (st :: rest) (SSr X.K P (sSeq f g)) := PSsi (pss_cons h1 h2) fun _ _ _ h => sSeq_go h
theorem ss_one (h1 : PS X st (SSr X.K P f)) : PSs X [st] (SSr X.K P f) := pss_one h1
theorem ss_pass : PS X (.Pass pos) (SSr X.K P sNext) := PSi ps_pass fun _ _ _ h => sNext_go h
theorem ss_brk : PS X (.Break pos) (SSr X.K P sBrk) := PSi ps_break fun _ _ _ h => sBrk_go h
theorem ss_cnt : PS X (.Continue pos) (SSr X.K P sCnt) := PSi ps_continue fun _ _ _ h => sCnt_go h
theorem ss_never : PS X st (SSr X.K P sNever) := PSi ps_never fun _ _ _ h => sNever_go h
theorem ss_expr {e : Expr} {f : EF} (he : PE X e (SEr X.K f)) (hs : swapsWith e none pos.line X.env = pure false := by rfl) : PS X (.Expr e pos) (SSr X.K P (sExp f)) := PSi (ps_expr he hs) fun _ _ _ h => sExp_go h
theorem ss_ret {e : Expr} {f : EF} (he : PE X e (SEr X.K f)) : PS X (.Return (some e) pos) (SSr X.K P (sRet f)) := PSi (ps_ret he) fun _ _ _ h => sRet_go h
theorem ss_retV (i : Nat) {x : Str} {p2 : Pos} (hN : X.N[i]? = some x := by rfl) (hv : Vis X.env.scope x := by first | exact Or.inl rfl | exact Or.inr (Or.inl rfl) | exact Or.inr (Or.inr rfl)) (hd : (x == ("__debug__" : Str)) = false := by decide)
    (hcd : (x == ("__classdict__" : Str)) = false := by decide) : PS X (.Return (some (.Name x p2)) pos) (SSr X.K P (sRetV P i)) := PSi (ps_ret (pv i hN hv hd hcd)) fun _ _ _ h => sRetV_go h
theorem ss_retN : PS X (.Return none pos) (SSr X.K P sRetN) := PSi ps_retN fun _ _ _ h => sRetN_go h
theorem ss_if {c : Expr} {t : EF} {a b : List Stmt} (hc : PT X c (STr X.K t)) (ha : PSs X a (SSr X.K P f)) (hb : PSs X b (SSr X.K P g)) : PS X (.If c a b pos) (SSr X.K P (sIf t f g)) := PSi (ps_if hc ha hb) fun _ _ _ h => sIf_go h
theorem ss_asg (i : Nat) {x : Str} {e : Expr} {f : EF} {p2 : Pos} (he : PE X e (SEr X.K f)) (hN : X.N.Nodup) (hi : X.N[i]? = some x := by rfl) (hx : Loc X.env.scope x := by first | exact Or.inl rfl | exact Or.inr rfl) (hs : swapsWith e (some (.Name x p2)) pos.line X.env = pure false := by rfl) (hf : X.fn x = true ∨ X.env.scope.names.lookup x = some .local := by first | exact .inl rfl | exact .inr rfl) :
    PS X (.Assign [.Name x p2] e pos) (SSr X.K P (sAsg P i f)) := PSi (ps_set hN hi hx he hs hf) fun _ _ _ h => sAsg_go h
theorem ss_aug (i : Nat) {x : Str} {e : Expr} {f : EF} {p2 : Pos} {op : Operator} {o : Int → Int → Int} (ho : PIp X op (ipI o)) (he : PE X e (SEr X.K f)) (hN : X.N.Nodup) (hi : X.N[i]? = some x := by rfl) (hx : Loc X.env.scope x := by first | exact Or.inl rfl | exact Or.inr rfl) (hf : X.fn x = true ∨ X.env.scope.names.lookup x = some .local := by first | exact .inl rfl | exact .inr rfl) :
    PS X (.AugAssign (.Name x p2) op e pos) (SSr X.K P (sAug P i o f)) := PSi (ps_aug hN hi hx he ho hf) fun _ _ _ h => sAug_go h
end
end PI

namespace PI
open PySem PySem.Spec PyProof.Rows L2
/-! ### lists that change -/
def sApp (i : Nat) (f : EF) : SF := fun env => match isOwn env i with
  | true => (f env).bind fun r => match r.2[i]? with
    | some (some (true, .lst ds)) => if ds.length < 1000000 then some (.nx, r.2.set i (some (true, .lst (ds ++ [r.1.2])))) else none
    | _ => none
  | false => none
def sExt (i : Nat) (o : Opd) : SF := fun env => match isOwn env i with
  | true => (o.run env).bind fun r => (r.1.get r.2).bind fun d => match d with
    | .lst es => (match r.2[i]? with
      | some (some (true, .lst ds)) => if ds.length + es.length < 1000000 then some (.nx, r.2.set i (some (true, .lst (ds ++ es)))) else none
      | _ => none)
    | _ => none
  | false => none
def sIns (i : Nat) (k f : EF) : SF := fun env => match isOwn env i with
  | true => (k env).bind fun r => (f r.2).bind fun s => match r.1.2 with
    | .int j => (match s.2[i]? with
      | some (some (true, .lst ds)) => if ds.length < 1000000 ∧ 0 ≤ j ∧ j < 1000000 then some (.nx, s.2.set i (some (true, .lst (ds.take j.toNat ++ [s.1.2] ++ ds.drop j.toNat)))) else none
      | _ => none)
    | _ => none
  | false => none
def sSet (i : Nat) (k f : EF) : SF := fun env => (f env).bind fun r => match isOwn r.2 i with
  | true => (k r.2).bind fun s => match s.1.2 with
    | .int j => (match s.2[i]? with
      | some (some (true, .lst ds)) => (ixN ds.length j).bind fun m => some (.nx, s.2.set i (some (true, .lst (ds.set m r.1.2))))
      | _ => none)
    | _ => none
  | false => none
theorem mil {n : Nat} (h : n < 1000000) : n < sizeLine := Nat.lt_trans h (by decide)
section
variable {K : PySem.W.Frag} {P : List Nat} {env env1 env2 env' : PI.Env} {σ σ1 σ2 : L2.St} {H H1 H2 : Hp} {D : Ends} {c : Ctl}
theorem slot_list {Z : Addr → Prop} (R : Re K Z env σ H) {i : Nat} {ds : List PI.D} (g : env[i]? = some (some (true, .lst ds))) : ∃ (a : Addr) (vs : List V), σ[i]? = some (some (V.ref a)) ∧ H a = some (.lst vs) ∧ RepAll K (Av env σ Z) H vs ds := by
  obtain ⟨a, o0, vs, es, h1, h2, h3, h4⟩ := R.ow i _ g
  obtain ⟨e1, e2⟩ := h2.lstD
  have e2 := e2.symm
  subst e1 e2
  exact ⟨a, vs, h1, h3, h4⟩
theorem sApp_go {i : Nat} {f : EF} (h : SSr K P (sApp i f) D σ H) : tDrop (tBM K "list" rAppend (tVar i) (SVr K [f])) D σ H := by
  obtain ⟨Z, env, c, env', R, e, q⟩ := h
  unfold sApp at e
  cases hw : isOwn env i with
  | false =>
    rw [hw] at e
    cases e
  | true =>
    rw [hw] at e
    obtain ⟨a, vs0, ds0, h1, _, _, _, ty⟩ := own_list R hw
    obtain ⟨⟨w, env1⟩, g1, e⟩ := obind e
    dsimp only at e
    split at e
    · rename_i ds g
      split at e
      · rename_i hz
        cases e
        refine ⟨.ref a, h1, ty, Z, env, w, env1, R, g1, fun v H1 x => ?_⟩
        obtain ⟨b, vs, k1, k2, k3⟩ := slot_list x.re g
        rw [h1] at k1
        cases k1
        obtain ⟨R2, st⟩ := Rel.mutU x.re g h1 (k3.append (.cons x.rep .nil))
        refine ⟨a, vs, v, rfl, rfl, k2, mil (by rw [k3.length]; exact hz), q σ _ R2 (x.tr.trans (mut_trn g h1)).stp .refl⟩
      · cases e
    · cases e
theorem sExt_go {i : Nat} {o : Opd} (h : SSr K P (sExt i o) D σ H) : tDrop (tBM K "list" rExtend (tVar i) (SAr K [o])) D σ H := by
  obtain ⟨Z, env, c, env', R, e, q⟩ := h
  unfold sExt at e
  cases hw : isOwn env i with
  | false =>
    rw [hw] at e
    cases e
  | true =>
    rw [hw] at e
    obtain ⟨a, vs0, ds0, h1, _, _, _, ty⟩ := own_list R hw
    obtain ⟨⟨p, env1⟩, g1, e⟩ := obind e
    obtain ⟨d, g2, e⟩ := obind e
    cases d with
    | lst es =>
      dsimp only at e
      split at e
      · rename_i ds g
        split at e
        · rename_i hz
          cases e
          refine ⟨.ref a, h1, ty, SOr.go R g1 fun v H1 R1 t1 o1 => ?_⟩
          obtain ⟨b, us, m1, m2, m3⟩ := (o1.view R1 g2).lst
          subst m1
          obtain ⟨b', vs, k1, k2, k3⟩ := slot_list R1 g
          rw [h1] at k1
          cases k1
          obtain ⟨R2, st⟩ := Rel.mutU R1 g h1 (k3.append m3)
          exact ⟨a, b, vs, us, rfl, rfl, k2, m2, Nat.le_of_lt (mil (by rw [k3.length, m3.length]; exact hz)), q σ _ R2 (t1.trans (mut_trn g h1)).stp .refl⟩
        · cases e
      · cases e
    | _ => cases e
theorem sIns_go {i : Nat} {k f : EF} (h : SSr K P (sIns i k f) D σ H) : tDrop (tBM K "list" (fun x vs H Q => ∃ (l : Addr) (xs : List V) (i : Int) (y : V), x = .ref l ∧ vs = [.int i, y] ∧ H l = some (.lst xs) ∧ xs.length < sizeLine ∧ 0 ≤ i ∧ i < 2 ^ 63 ∧
    Q .non (upd H l (.lst (xs.take i.toNat ++ [y] ++ xs.drop i.toNat)))) (tVar i) (SVr K [k, f])) D σ H := by
  obtain ⟨Z, env, c, env', R, e, q⟩ := h
  unfold sIns at e
  cases hw : isOwn env i with
  | false =>
    rw [hw] at e
    cases e
  | true =>
    rw [hw] at e
    obtain ⟨a, vs0, ds0, h1, _, _, _, ty⟩ := own_list R hw
    obtain ⟨⟨w, env1⟩, g1, e⟩ := obind e
    obtain ⟨⟨w2, env2⟩, g2, e⟩ := obind e
    dsimp only at e
    split at e
    · rename_i j gj
      split at e
      · rename_i ds g
        split at e
        · rename_i hz
          cases e
          refine ⟨.ref a, h1, ty, Z, env, w, env1, R, g1, fun v H1 x => ⟨Z, env1, w2, env2, x.re, g2, fun u H2 y => ?_⟩⟩
          obtain ⟨b, vs, k1, k2, k3⟩ := slot_list y.re g
          rw [h1] at k1
          cases k1
          have ev : v = .int j := by
            have r := x.rep
            rw [gj] at r
            exact rep_int r
          subst ev
          obtain ⟨R2, st⟩ := Rel.mutU y.re g h1 (((k3.take j.toNat).append (.cons y.rep .nil)).append (k3.drop j.toNat))
          refine ⟨a, vs, j, u, rfl, rfl, k2, mil (by rw [k3.length]; exact hz.1), hz.2.1, Int.lt_trans hz.2.2 (by decide), q σ _ R2 ((x.tr.trans y.tr).trans (mut_trn g h1)).stp .refl⟩
        · cases e
      · cases e
    · cases e
theorem sSet_go {i : Nat} {k f : EF} (h : SSr K P (sSet i k f) D σ H) : tAsg (SEr K f) (gSub (tVar i) (SEr K k) rSetL) D σ H := by
  obtain ⟨Z, env, c, env', R, e, q⟩ := h
  obtain ⟨⟨w, env1⟩, g1, e⟩ := obind e
  cases hw : isOwn env1 i with
  | false =>
    dsimp only at e
    rw [hw] at e
    cases e
  | true =>
    dsimp only at e
    rw [hw] at e
    obtain ⟨⟨w2, env2⟩, g2, e⟩ := obind e
    dsimp only at e
    split at e
    · rename_i j gj
      split at e
      · rename_i ds g
        obtain ⟨m, gm, e⟩ := obind e
        cases e
        refine ⟨Z, env, w, env1, R, g1, fun v H1 x => ?_⟩
        obtain ⟨a, vs0, ds0, h1, _, _, _, ty⟩ := own_list x.re hw
        refine ⟨.ref a, h1, Z, env1, w2, env2, x.re, g2, fun u H2 y => ?_⟩
        obtain ⟨b, vs, k1, k2, k3⟩ := slot_list y.re g
        rw [h1] at k1
        cases k1
        have ev : u = .int j := by
          have r := y.rep
          rw [gj] at r
          exact rep_int r
        subst ev
        obtain ⟨R2, st⟩ := Rel.mutU y.re g h1 (k3.set m (y.tr.rep x.rep))
        exact ⟨a, vs, j, m, rfl, rfl, k2, by rw [k3.length]; exact gm, q σ _ R2 ((x.tr.trans y.tr).trans (mut_trn g h1)).stp .refl⟩
      · cases e
    · cases e
end
section
variable {X : Cx} {pos p1 p2 p3 p4 : Pos} {P : List Nat} {x : Str} {e k : Expr} {f g : EF} {o : Opd}
theorem se_pop (i : Nat) (hN : X.N[i]? = some x := by rfl) (hv : Vis X.env.scope x := by first | exact Or.inl rfl | exact Or.inr (Or.inl rfl) | exact Or.inr (Or.inr rfl)) (hd : (x == ("__debug__" : Str)) = false := by decide) (hcd : (x == ("__classdict__" : Str)) = false := by decide)
    (hbase : attributeBase (.Name x p1) "pop" X.env (eval (.Name x p1) X.env) = eval (.Name x p1) X.env := by rfl) (hline : (p2.endLine == pos.line) = true := by rfl) : PE X (.Call (.Attribute (.Name x p1) "pop" p2) [] [] pos) (SEr X.K (ePop i)) :=
  PEi (pe_bm0 PySem.F.plainAttrs_list PySem.F.slot_list_pop PySem.F.type_list_pop mt_pop (pv i hN hv hd hcd) hbase hline) fun _ _ _ q => ePop_go q
theorem se_popAt (i : Nat) (he : PE X e (SEr X.K f)) (hN : X.N[i]? = some x := by rfl) (hv : Vis X.env.scope x := by first | exact Or.inl rfl | exact Or.inr (Or.inl rfl) | exact Or.inr (Or.inr rfl)) (hd : (x == ("__debug__" : Str)) = false := by decide) (hcd : (x == ("__classdict__" : Str)) = false := by decide)
    (hs : starEach [e] X.env = (false, eval e X.env) :: starEach [] X.env := by rfl)
    (hbase : attributeBase (.Name x p1) "pop" X.env (eval (.Name x p1) X.env) = eval (.Name x p1) X.env := by rfl)
    (hfew : ((backTo pos (starEach [e] X.env)).all (fun x => !x.1) && (backToKw pos (keywordEach [] X.env)).all (fun x => x.1.isSome)
      && decide ([e].length + ([] : List Keyword).length + (if ([] : List Keyword).isEmpty then 0 else 1) < 30)) = true := by rfl)
    (hline : (p2.endLine == pos.line) = true := by rfl) (hplain : (backTo pos (starEach [] X.env)).any (·.1) = false := by rfl) : PE X (.Call (.Attribute (.Name x p1) "pop" p2) [e] [] pos) (SEr X.K (ePopAt i f)) :=
  PEi (pe_bm PySem.F.plainAttrs_list PySem.F.slot_list_pop PySem.F.type_list_pop mt_popAt (pv i hN hv hd hcd) (pa_cons he pa_nil hs) hbase hfew hline hs hplain) fun _ _ _ q => ePopAt_go q
theorem ss_app (i : Nat) (he : PE X e (SEr X.K f)) (hN : X.N[i]? = some x := by rfl) (hv : Vis X.env.scope x := by first | exact Or.inl rfl | exact Or.inr (Or.inl rfl) | exact Or.inr (Or.inr rfl)) (hd : (x == ("__debug__" : Str)) = false := by decide) (hcd : (x == ("__classdict__" : Str)) = false := by decide)
    (hs : starEach [e] X.env = (false, eval e X.env) :: starEach [] X.env := by rfl)
    (hbase : attributeBase (.Name x p1) "append" X.env (eval (.Name x p1) X.env) = eval (.Name x p1) X.env := by rfl)
    (hfew : ((backTo p3 (starEach [e] X.env)).all (fun x => !x.1) && (backToKw p3 (keywordEach [] X.env)).all (fun x => x.1.isSome)
      && decide ([e].length + ([] : List Keyword).length + (if ([] : List Keyword).isEmpty then 0 else 1) < 30)) = true := by rfl)
    (hline : (p2.endLine == p3.line) = true := by rfl) (hplain : (backTo p3 (starEach [] X.env)).any (·.1) = false := by rfl) (hsw : swapsWith (.Call (.Attribute (.Name x p1) "append" p2) [e] [] p3) none pos.line X.env = pure false := by rfl) :
    PS X (.Expr (.Call (.Attribute (.Name x p1) "append" p2) [e] [] p3) pos) (SSr X.K P (sApp i f)) :=
  PSi (ps_expr (pe_bm PySem.F.plainAttrs_list PySem.F.slot_list_append PySem.F.type_list_append mt_append (pv i hN hv hd hcd) (pa_cons he pa_nil hs) hbase hfew hline hs hplain) hsw) fun _ _ _ q => sApp_go q
theorem ss_ext (i : Nat) (he : PE X e (SOr X.K o)) (hN : X.N[i]? = some x := by rfl) (hv : Vis X.env.scope x := by first | exact Or.inl rfl | exact Or.inr (Or.inl rfl) | exact Or.inr (Or.inr rfl)) (hd : (x == ("__debug__" : Str)) = false := by decide) (hcd : (x == ("__classdict__" : Str)) = false := by decide)
    (hs : starEach [e] X.env = (false, eval e X.env) :: starEach [] X.env := by rfl)
    (hbase : attributeBase (.Name x p1) "extend" X.env (eval (.Name x p1) X.env) = eval (.Name x p1) X.env := by rfl)
    (hfew : ((backTo p3 (starEach [e] X.env)).all (fun x => !x.1) && (backToKw p3 (keywordEach [] X.env)).all (fun x => x.1.isSome)
      && decide ([e].length + ([] : List Keyword).length + (if ([] : List Keyword).isEmpty then 0 else 1) < 30)) = true := by rfl)
    (hline : (p2.endLine == p3.line) = true := by rfl) (hplain : (backTo p3 (starEach [] X.env)).any (·.1) = false := by rfl) (hsw : swapsWith (.Call (.Attribute (.Name x p1) "extend" p2) [e] [] p3) none pos.line X.env = pure false := by rfl) :
    PS X (.Expr (.Call (.Attribute (.Name x p1) "extend" p2) [e] [] p3) pos) (SSr X.K P (sExt i o)) :=
  PSi (ps_expr (pe_bm PySem.F.plainAttrs_list PySem.F.slot_list_extend PySem.F.type_list_extend mt_extend (pv i hN hv hd hcd) (pa_cons he pa_nil hs) hbase hfew hline hs hplain) hsw) fun _ _ _ q => sExt_go q
theorem ss_ins (i : Nat) (hk : PE X k (SEr X.K g)) (he : PE X e (SEr X.K f)) (hN : X.N[i]? = some x := by rfl) (hv : Vis X.env.scope x := by first | exact Or.inl rfl | exact Or.inr (Or.inl rfl) | exact Or.inr (Or.inr rfl)) (hd : (x == ("__debug__" : Str)) = false := by decide) (hcd : (x == ("__classdict__" : Str)) = false := by decide)
    (hs : starEach [k, e] X.env = (false, eval k X.env) :: starEach [e] X.env := by rfl) (hs2 : starEach [e] X.env = (false, eval e X.env) :: starEach [] X.env := by rfl)
    (hbase : attributeBase (.Name x p1) "insert" X.env (eval (.Name x p1) X.env) = eval (.Name x p1) X.env := by rfl)
    (hfew : ((backTo p3 (starEach [k, e] X.env)).all (fun x => !x.1) && (backToKw p3 (keywordEach [] X.env)).all (fun x => x.1.isSome)
      && decide ([k, e].length + ([] : List Keyword).length + (if ([] : List Keyword).isEmpty then 0 else 1) < 30)) = true := by rfl)
    (hline : (p2.endLine == p3.line) = true := by rfl) (hplain : (backTo p3 (starEach [e] X.env)).any (·.1) = false := by rfl) (hsw : swapsWith (.Call (.Attribute (.Name x p1) "insert" p2) [k, e] [] p3) none pos.line X.env = pure false := by rfl) :
    PS X (.Expr (.Call (.Attribute (.Name x p1) "insert" p2) [k, e] [] p3) pos) (SSr X.K P (sIns i g f)) :=
  PSi (ps_expr (pe_bm PySem.F.plainAttrs_list PySem.F.slot_list_insert PySem.F.type_list_insert mt_insert (pv i hN hv hd hcd) (pa_cons hk (pa_cons he pa_nil hs2) hs) hbase hfew hline hs hplain) hsw) fun _ _ _ q => sIns_go q
theorem ss_set (i : Nat) (he : PE X e (SEr X.K f)) (hpg : PG X (.Subscript (.Name x p1) k p2) (gSub (tVar i) (SEr X.K g) rSetL))
    (hs : swapsWithSole [.Subscript (.Name x p1) k p2] e pos.line X.env = pure false := by rfl) (hw : swappedStores [.Subscript (.Name x p1) k p2] e X.env = pure none := by rfl)
    (h1 : (assignEach [.Subscript (.Name x p1) k p2] X.env).map (·.2) = [assign (.Subscript (.Name x p1) k p2) X.env] := by rfl) :
    PS X (.Assign [.Subscript (.Name x p1) k p2] e pos) (SSr X.K P (sSet i g f)) := PSi (ps_asg he hpg hs hw h1) fun _ _ _ q => sSet_go q
end
end PI

namespace PI
open PySem PySem.Spec PyProof.Rows L2
/-! ### targets -/
abbrev TF := PI.D → PI.Env → Option PI.Env
/-- a target: js the slots that it stores to -/
def TgOk (K : PySem.W.Frag) (g : TG) (T : TF) (js : List Nat) : Prop := ∀ (Z : Addr → Prop) (env : PI.Env) (σ : L2.St) (H : Hp) (v : V) (d : PI.D) (env' : PI.Env) (Q : L2.St → Hp → Prop), Re K Z env σ H → Rep K (Av env σ Z) H v d → T d env = some env' →
  (∀ σ', Re K Z env' σ' H → (∀ a, Own env' σ' a → Own env σ a) → (∀ i, i ∉ js → σ'[i]? = σ[i]?) → σ'.length = σ.length → Q σ' H) → g v σ H Q
def TgsOk (K : PySem.W.Frag) (g : TGs) (T : List PI.D → PI.Env → Option PI.Env) (js : List Nat) : Prop := ∀ (Z : Addr → Prop) (env : PI.Env) (σ : L2.St) (H : Hp) (vs : List V) (ds : List PI.D) (env' : PI.Env) (Q : L2.St → Hp → Prop), Re K Z env σ H → RepAll K (Av env σ Z) H vs ds → T ds env = some env' →
  (∀ σ', Re K Z env' σ' H → (∀ a, Own env' σ' a → Own env σ a) → (∀ i, i ∉ js → σ'[i]? = σ[i]?) → σ'.length = σ.length → Q σ' H) → g vs σ H Q
def tName (i : Nat) : TF := fun d env => some (env.set i (some (false, d)))
def tsNil : List PI.D → PI.Env → Option PI.Env
  | [], env => some env
  | _ :: _, _ => none
def tsCons (T : TF) (U : List PI.D → PI.Env → Option PI.Env) : List PI.D → PI.Env → Option PI.Env
  | d :: ds, env => (T d env).bind fun e => U ds e
  | [], _ => none
def tTpl (n : Nat) (U : List PI.D → PI.Env → Option PI.Env) : TF
  | .tup ds, env => if ds.length = n then U ds env else none
  | _, _ => none
section
variable {K : PySem.W.Frag} {P : List Nat} {env env1 env2 env' : PI.Env} {σ σ1 σ2 : L2.St} {H H1 H2 : Hp} {D : Ends} {c : Ctl}
theorem tg_name (i : Nat) : TgOk K (gName i) (tName i) [i] := fun Z env σ H v d env' Q R r e q => by
  cases e
  exact q _ (Rel.store2 R r) (fun a z => own_store z) (fun j hj => by rw [List.getElem?_set_ne (fun z => hj (by rw [← z]; exact List.mem_cons_self))]) (List.length_set ..)
theorem tgs_nil : TgsOk K gNil tsNil [] := fun Z env σ H vs ds env' Q R r e q => by
  cases r with
  | nil =>
    cases e
    exact ⟨rfl, q σ R (fun a z => z) (fun _ _ => rfl) rfl⟩
  | cons r t => cases e
theorem tgs_cons {g : TG} {T : TF} {js : List Nat} {gs : TGs} {U : List PI.D → PI.Env → Option PI.Env} {ks : List Nat} (h : TgOk K g T js) (hs : TgsOk K gs U ks) : TgsOk K (gCons g gs) (tsCons T U) (js ++ ks) := fun Z env σ H vs ds env' Q R r e q => by
  cases r with
  | nil => cases e
  | cons r t =>
    obtain ⟨env1, h1, e⟩ := obind e
    refine ⟨_, _, rfl, h Z env σ H _ _ env1 _ R r h1 fun σ1 R1 o1 k1 l1 => ?_⟩
    have av : ∀ b, Av env1 σ1 Z b → Av env σ Z b := fun b z => by
      rcases z with z | z
      · exact .inl (o1 b z)
      · exact .inr z
    exact hs Z env1 σ1 H _ _ env' Q R1 (t.less av) e fun σ2 R2 o2 k2 l2 => q σ2 R2 (fun a z => o1 a (o2 a z)) (fun i hi => by
      rw [List.mem_append, not_or] at hi
      rw [k2 i hi.2, k1 i hi.1]) (l2.trans l1)
theorem tg_tup {n : Nat} {gs : TGs} {U : List PI.D → PI.Env → Option PI.Env} {ks : List Nat} (hs : TgsOk K gs U ks) : TgOk K (gTup K n gs) (tTpl n U) ks := fun Z env σ H v d env' Q R r e q => by
  cases d with
  | tup ds =>
    dsimp only [tTpl] at e
    split at e
    · rename_i hn
      obtain ⟨a, vs, rfl, t, ra⟩ := r.tupD
      exact ⟨a, vs, rfl, t.sq, by rw [ra.length]; exact hn, hs Z env σ H vs ds env' Q R ra e q⟩
    · cases e
  | _ => cases e
/-! ### a, b = e by a tuple -/
def sTgt (P : List Nat) (js : List Nat) (T : TF) (f : EF) : SF := fun env => match js.any fun j => P.contains j with
  | true => none
  | false => (f env).bind fun r => (T r.1.2 r.2).bind fun e => some (.nx, e)
theorem pin_js {js : List Nat} {σ' : L2.St} (h : (js.any fun j => P.contains j) = false) (k : ∀ i, i ∉ js → σ'[i]? = σ[i]?) : PinK P σ σ' := fun i hi => k i fun hj => by
  have h1 := List.any_eq_false.mp h i hj
  rw [List.contains_eq_mem, decide_eq_true_eq] at h1
  exact h1 hi
theorem sTgt_go {js : List Nat} {T : TF} {f : EF} {g : TG} (hT : TgOk K g T js) (h : SSr K P (sTgt P js T f) D σ H) : tAsg (SEr K f) g D σ H := by
  obtain ⟨Z, env, c, env', R, e, q⟩ := h
  unfold sTgt at e
  cases hp : js.any fun j => P.contains j with
  | true =>
    rw [hp] at e
    cases e
  | false =>
    rw [hp] at e
    obtain ⟨⟨w, env1⟩, h1, e⟩ := obind e
    obtain ⟨env2, h2, e⟩ := obind e
    cases e
    refine ⟨Z, env, w, env1, R, h1, fun v H1 x => hT Z env1 σ H1 v w.2 _ _ x.re x.rep h2 fun σ' R2 o2 k2 l2 => q σ' H1 R2 ⟨fun a z => .inl (x.tr.own a (o2 a z)), x.tr.keep, x.tr.dom⟩ (pin_js hp k2)⟩
end
/-! ### a, b = x, y: values with new lists among them -/
def valsW : List EF → PI.Env → Option (List W × PI.Env)
  | [], env => some ([], env)
  | f :: fs, env => (f env).bind fun r => (valsW fs r.2).bind fun s => some (r.1 :: s.1, s.2)
def FrA (l : List (W × V)) (b : Addr) : Prop := ∃ p ∈ l, p.1.1 = true ∧ p.2 = V.ref b
def WOk (K : PySem.W.Frag) (S : Addr → Prop) (H : Hp) (p : W × V) : Prop := (p.1.1 = true → ∃ (a : Addr) (o : HO) (vs : List V) (ds : List PI.D), p.2 = V.ref a ∧ Cnt a o vs ds p.1.2 ∧ H a = some o ∧ RepAll K S H vs ds) ∧ (p.1.1 = false → Rep K S H p.2 p.1.2)
structure Row (K : PySem.W.Frag) (Z : Addr → Prop) (env : PI.Env) (σ : L2.St) (H : Hp) (l : List (W × V)) : Prop where
  re : Re K (fun b => Z b ∨ FrA l b) env σ H
  ok : ∀ p ∈ l, WOk K (Av env σ fun b => Z b ∨ FrA l b) H p
  pw : l.Pairwise fun p q => p.1.1 = true → q.1.1 = true → p.2 ≠ q.2
  zd : ∀ b, FrA l b → ¬ Z b
section
variable {K : PySem.W.Frag} {P : List Nat} {Z : Addr → Prop} {env env1 env2 env' : PI.Env} {σ σ1 σ2 : L2.St} {H H1 H2 : Hp} {D : Ends} {c : Ctl}
theorem frA_cons {p : W × V} {l : List (W × V)} {b : Addr} : FrA (p :: l) b ↔ (p.1.1 = true ∧ p.2 = V.ref b) ∨ FrA l b := by
  constructor
  · rintro ⟨q, hq, h1, h2⟩
    rcases List.mem_cons.mp hq with rfl | hq
    · exact .inl ⟨h1, h2⟩
    · exact .inr ⟨q, hq, h1, h2⟩
  · rintro (⟨h1, h2⟩ | ⟨q, hq, h1, h2⟩)
    · exact ⟨p, List.mem_cons_self, h1, h2⟩
    · exact ⟨q, List.mem_cons_of_mem _ hq, h1, h2⟩
theorem frA_nil {b : Addr} : ¬ FrA [] b := fun ⟨_, h, _⟩ => by cases h
theorem WOk.less {S S' : Addr → Prop} {p : W × V} (h : ∀ b, S' b → S b) (x : WOk K S H p) : WOk K S' H p :=
  ⟨fun e => by
    obtain ⟨a, o0, vs, ds, h1, h2, h3, h4⟩ := x.1 e
    exact ⟨a, o0, vs, ds, h1, h2, h3, h4.less h⟩, fun e => (x.2 e).less h⟩
theorem valsW_go : ∀ {fs : List EF} {Z : Addr → Prop} {env : PI.Env} {H : Hp} {ws : List W} {env1 : PI.Env} {Q : List V → Hp → Prop}, Re K Z env σ H → valsW fs env = some (ws, env1) →
    (∀ vs H1, vs.length = fs.length → ws.length = fs.length → Row K Z env1 σ H1 (ws.zip vs) → Trn env σ H env1 H1 → (∀ b, FrA (ws.zip vs) b → H b = none) → Q vs H1) → SVr K fs σ H Q
  | [], Z, env, H, ws, env1, Q, R, h, q => by
    cases h
    exact q [] H rfl rfl ⟨R.weakZ fun b z => z.elim id fun z => absurd z frA_nil, (fun p hp => by cases hp), .nil, fun b z => absurd z frA_nil⟩ .refl fun b z => absurd z frA_nil
  | f :: fs, Z, env, H, ws, env1, Q, R, h, q => by
    unfold valsW at h
    obtain ⟨⟨w, env2⟩, h1, h⟩ := obind h
    obtain ⟨⟨ws2, env3⟩, h2, h⟩ := obind h
    cases h
    refine ⟨Z, env, w, env2, R, h1, fun v H1 x => ?_⟩
    obtain ⟨fr, d⟩ := w
    cases fr with
    | false =>
      refine valsW_go x.re h2 fun vs H2 l l2 r t nw => q (v :: vs) H2 (congrArg Nat.succ l) (congrArg Nat.succ l2) ?_ (x.tr.trans t) fun b z => ?_
      · have fe : ∀ b, FrA (((false, d), v) :: ws2.zip vs) b → FrA (ws2.zip vs) b := fun b z => by
          rcases frA_cons.mp z with ⟨z, _⟩ | z
          · cases z
          · exact z
        have av : ∀ b, Av env3 σ (fun b => Z b ∨ FrA (((false, d), v) :: ws2.zip vs) b) b → Av env3 σ (fun b => Z b ∨ FrA (ws2.zip vs) b) b := fun b z => by
          rcases z with z | z | z
          · exact .inl z
          · exact .inr (.inl z)
          · exact .inr (.inr (fe b z))
        refine ⟨r.re.weakZ fun b z => z.elim .inl fun z => .inr (fe b z), fun p hp => ?_, .cons (fun p hp z => (nomatch z)) r.pw, fun b z => r.zd b (fe b z)⟩
        rcases List.mem_cons.mp hp with rfl | hp
        · refine ⟨fun e => (nomatch e), fun _ => ?_⟩
          refine x.rep.step (fun a o e n => t.keep a o e fun z => n (.inl z)) fun b z => ?_
          rcases av b z with z | z | z
          · exact .inl (.inl (t.own b z))
          · exact .inl (.inr z)
          · exact .inr (nw b z)
        · exact (r.ok p hp).less av
      · rcases frA_cons.mp z with ⟨z, _⟩ | z
        · cases z
        · exact none_back (x.tr.dom b) (nw b z)
    | true =>
      obtain ⟨a, o0, vs0, ds, g1, g2, g3, g4, g5, g6⟩ := x.new rfl
      subst g1
      refine valsW_go g5 h2 fun vs H2 l l2 r t nw => q (.ref a :: vs) H2 (congrArg Nat.succ l) (congrArg Nat.succ l2) ?_ (x.tr.trans t) fun b z => ?_
      · have fe : ∀ b, FrA (((true, d), V.ref a) :: ws2.zip vs) b → b = a ∨ FrA (ws2.zip vs) b := fun b z => by
          rcases frA_cons.mp z with ⟨_, z⟩ | z
          · cases z
            exact .inl rfl
          · exact .inr z
        have av : ∀ b, Av env3 σ (fun b => Z b ∨ FrA (((true, d), V.ref a) :: ws2.zip vs) b) b → Av env3 σ (fun b => (Z b ∨ b = a) ∨ FrA (ws2.zip vs) b) b := fun b z => by
          rcases z with z | z | z
          · exact .inl z
          · exact .inr (.inl (.inl z))
          · rcases fe b z with z | z
            · exact .inr (.inl (.inr z))
            · exact .inr (.inr z)
        have na : ¬ Own env2 σ a := (g5.z a (.inr rfl)).2
        refine ⟨r.re.weakZ fun b z => ?_, fun p hp => ?_, .cons (fun p hp z z2 => ?_) r.pw, fun b z zz => ?_⟩
        · rcases z with z | z
          · exact .inl (.inl z)
          · rcases fe b z with z | z
            · exact .inl (.inr z)
            · exact .inr z
        · rcases List.mem_cons.mp hp with rfl | hp
          · refine ⟨fun _ => ⟨a, o0, vs0, ds, rfl, g2, t.keep a _ g4 na, ?_⟩, fun e => (nomatch e)⟩
            refine g6.step (fun a o e n => t.keep a o e fun z => n (.inl z)) fun b z => ?_
            rcases av b z with z | z | z
            · exact .inl (.inl (t.own b z))
            · exact .inl (.inr z)
            · exact .inr (nw b z)
          · exact (r.ok p hp).less av
        · intro e
          have : H1 a = none := nw a ⟨p, hp, z2, e.symm⟩
          rw [g4] at this
          cases this
        · rcases fe b z with z | z
          · subst z
            exact (R.z b zz).1 g3
          · exact r.zd b z (.inl zz)
      · rcases frA_cons.mp z with ⟨_, z⟩ | z
        · cases z
          exact g3
        · exact none_back (x.tr.dom b) (nw b z)
/-- the first of a row is stored -/
theorem Row.store {p : W × V} {l : List (W × V)} {i : Nat} (r : Row K Z env σ H (p :: l)) : Row K Z (env.set i (some p.1)) (σ.set i (some p.2)) H l ∧ ∀ b, Own (env.set i (some p.1)) (σ.set i (some p.2)) b → Own env σ b ∨ FrA (p :: l) b := by
  obtain ⟨⟨fr, d⟩, v⟩ := p
  have pw := List.pairwise_cons.mp r.pw
  have ok := r.ok _ List.mem_cons_self
  have lo : ∀ b, FrA l b → FrA (((fr, d), v) :: l) b := fun b z => frA_cons.mpr (.inr z)
  cases fr with
  | false =>
    have ow : ∀ b, Own (env.set i (some (false, d))) (σ.set i (some v)) b → Own env σ b := fun b z => own_store z
    have av : ∀ b, Av (env.set i (some (false, d))) (σ.set i (some v)) (fun b => Z b ∨ FrA l b) b → Av env σ (fun b => Z b ∨ FrA (((false, d), v) :: l) b) b := fun b z => by
      rcases z with z | z | z
      · exact .inl (ow b z)
      · exact .inr (.inl z)
      · exact .inr (.inr (lo b z))
    refine ⟨⟨(Rel.store2 r.re (ok.2 rfl)).weakZ fun b z => z.elim .inl fun z => .inr (lo b z), fun q hq => (r.ok q (List.mem_cons_of_mem _ hq)).less av, pw.2, fun b z => r.zd b (lo b z)⟩, fun b z => .inl (ow b z)⟩
  | true =>
    obtain ⟨a, o0, vs, ds, h1, h2, h3, h4⟩ := ok.1 rfl
    have h1 : v = .ref a := h1
    subst h1
    have fa : FrA (((true, d), V.ref a) :: l) a := frA_cons.mpr (.inl ⟨rfl, rfl⟩)
    have nl : ¬ FrA l a := fun ⟨q, hq, q1, q2⟩ => pw.1 q hq rfl q1 q2.symm
    have hz : ∀ b, ((Z b ∨ FrA l b) ∨ b = a) → (Z b ∨ FrA (((true, d), V.ref a) :: l) b) := fun b z => by
      rcases z with (z | z) | z
      · exact .inl z
      · exact .inr (lo b z)
      · subst z
        exact .inr fa
    have ow : ∀ b, Own (env.set i (some (true, d))) (σ.set i (some (V.ref a))) b → Own env σ b ∨ b = a := fun b z => own_storeN z
    have av : ∀ b, Av (env.set i (some (true, d))) (σ.set i (some (V.ref a))) (fun b => Z b ∨ FrA l b) b → Av env σ (fun b => Z b ∨ FrA (((true, d), V.ref a) :: l) b) b := fun b z => by
      rcases z with z | z | z
      · rcases ow b z with z | z
        · exact .inl z
        · subst z
          exact .inr (.inr fa)
      · exact .inr (.inl z)
      · exact .inr (.inr (lo b z))
    have R2 : Re K (fun b => (Z b ∨ FrA l b) ∨ b = a) env σ H := r.re.weakZ hz
    refine ⟨⟨?_, fun q hq => (r.ok q (List.mem_cons_of_mem _ hq)).less av, pw.2, fun b z => r.zd b (lo b z)⟩, fun b z => ?_⟩
    · by_cases hi : i < env.length
      · exact R2.storeNC h2 hi rfl (fun z => z.elim (r.zd a fa) nl) h3 (h4.less (av_less hz))
      · show Re K (fun b => Z b ∨ FrA l b) (env.set i (some (true, d))) (σ.set i (some (V.ref a))) H
        rw [set_ge hi, set_ge (by rw [← r.re.len]; exact hi)]
        exact R2.weakZ fun b z => .inl z
    · rcases ow b z with z | z
      · exact .inl z
      · subst z
        exact .inr fa
def sPar2 (P : List Nat) (i j : Nat) (f g : EF) : SF := fun env => match P.contains i || P.contains j with
  | true => none
  | false => (valsW [f, g] env).bind fun r => match r.1 with
    | [u, v] => some (.nx, (r.2.set i (some u)).set j (some v))
    | _ => none
def sPar3 (P : List Nat) (i j k : Nat) (f g h : EF) : SF := fun env => match P.contains i || (P.contains j || P.contains k) with
  | true => none
  | false => (valsW [f, g, h] env).bind fun r => match r.1 with
    | [u, v, x] => some (.nx, ((r.2.set i (some u)).set j (some v)).set k (some x))
    | _ => none
theorem Row.nil (r : Row K Z env σ H []) : Re K Z env σ H := r.re.weakZ fun b z => .inl z
theorem sPar2_go {i j : Nat} {f g : EF} (h : SSr K P (sPar2 P i j f g) D σ H) : tPar i j (SVr K [f, g]) D σ H := by
  obtain ⟨Z, env, c, env', R, e, q⟩ := h
  unfold sPar2 at e
  cases hp : P.contains i || P.contains j with
  | true =>
    rw [hp] at e
    cases e
  | false =>
    rw [hp] at e
    obtain ⟨h1, h2⟩ := Bool.or_eq_false_iff.mp hp
    obtain ⟨⟨ws, env1⟩, g1, e⟩ := obind e
    refine valsW_go R g1 fun vs H1 l l2 r t nw => ?_
    match vs, ws, l, l2, r, e, nw with
    | [v, w], [u, x], _, _, r, e, nw =>
      cases e
      obtain ⟨r1, o1⟩ := Row.store (i := i) (p := (u, v)) (l := [(x, w)]) r
      obtain ⟨r2, o2⟩ := Row.store (i := j) (p := (x, w)) (l := []) r1
      refine ⟨v, w, rfl, q _ H1 r2.nil ⟨fun b z => ?_, t.keep, t.dom⟩ ((pin_set h1).trans (pin_set h2))⟩
      rcases o2 b z with z | z
      · rcases o1 b z with z | z
        · exact .inl (t.own b z)
        · exact .inr (nw b z)
      · exact .inr (nw b (frA_cons.mpr (.inr z)))
theorem sPar3_go {i j k : Nat} {f g h : EF} (hh : SSr K P (sPar3 P i j k f g h) D σ H) : tPar3 i j k (SVr K [f, g, h]) D σ H := by
  obtain ⟨Z, env, c, env', R, e, q⟩ := hh
  unfold sPar3 at e
  cases hp : P.contains i || (P.contains j || P.contains k) with
  | true =>
    rw [hp] at e
    cases e
  | false =>
    rw [hp] at e
    obtain ⟨h1, h2⟩ := Bool.or_eq_false_iff.mp hp
    obtain ⟨h2, h3⟩ := Bool.or_eq_false_iff.mp h2
    obtain ⟨⟨ws, env1⟩, g1, e⟩ := obind e
    refine valsW_go R g1 fun vs H1 l l2 r t nw => ?_
    match vs, ws, l, l2, r, e, nw with
    | [v, w, y], [u, x, z], _, _, r, e, nw =>
      cases e
      obtain ⟨r1, o1⟩ := Row.store (i := i) (p := (u, v)) (l := [(x, w), (z, y)]) r
      obtain ⟨r2, o2⟩ := Row.store (i := j) (p := (x, w)) (l := [(z, y)]) r1
      obtain ⟨r3, o3⟩ := Row.store (i := k) (p := (z, y)) (l := []) r2
      refine ⟨v, w, y, rfl, q _ H1 r3.nil ⟨fun b z => ?_, t.keep, t.dom⟩ (((pin_set h1).trans (pin_set h2)).trans (pin_set h3))⟩
      rcases o3 b z with z | z
      · rcases o2 b z with z | z
        · rcases o1 b z with z | z
          · exact .inl (t.own b z)
          · exact .inr (nw b z)
        · exact .inr (nw b (frA_cons.mpr (.inr z)))
      · exact .inr (nw b (frA_cons.mpr (.inr (frA_cons.mpr (.inr z)))))
end
section
variable {X : Cx} {pos : Pos} {P : List Nat}
theorem ss_tgt {tg e : Expr} {f : EF} {g : TG} {T : TF} {js : List Nat} (hT : TgOk X.K g T js) (he : PE X e (SEr X.K f)) (hg : PG X tg g) (hs : swapsWithSole [tg] e pos.line X.env = pure false := by rfl) (hw : swappedStores [tg] e X.env = pure none := by rfl)
    (h1 : (assignEach [tg] X.env).map (·.2) = [assign tg X.env] := by rfl) : PS X (.Assign [tg] e pos) (SSr X.K P (sTgt P js T f)) := PSi (ps_asg he hg hs hw h1) fun _ _ _ q => sTgt_go hT q
theorem ss_par2 (i j : Nat) {x y : Str} {a b : Expr} {f g : EF} {px py pt : Pos} {kt k2 pt2} (ha : PA X [a, b] (SVr X.K [f, g])) (hc : X.calm = true) (hN : X.N.Nodup) (hi : X.N[i]? = some x := by rfl) (hj : X.N[j]? = some y := by rfl) (hij : i ≠ j := by decide)
    (hx : X.env.scope.names.lookup x = some .local := by rfl) (hy : X.env.scope.names.lookup y = some .local := by rfl)
    (hw : swappedStores [.Tuple [.Name x px, .Name y py] kt pt] (.Tuple [a, b] k2 pt2) X.env = pure (some [x, y]) := by rfl)
    (hs : swapsWithSole [.Tuple [.Name x px, .Name y py] kt pt] (.Tuple [a, b] k2 pt2) pos.line X.env = pure false := by rfl) :
    PS X (.Assign [.Tuple [.Name x px, .Name y py] kt pt] (.Tuple [a, b] k2 pt2) pos) (SSr X.K P (sPar2 P i j f g)) := PSi (ps_par hc hN hi hj hij hx hy ha hw hs) fun _ _ _ q => sPar2_go q
theorem ss_par3 (i j l : Nat) {x y z : Str} {a b c : Expr} {f g h : EF} {px py pz pt : Pos} {kt k2 pt2} (ha : PA X [a, b, c] (SVr X.K [f, g, h])) (hc : X.calm = true) (hN : X.N.Nodup) (hi : X.N[i]? = some x := by rfl) (hj : X.N[j]? = some y := by rfl) (hl : X.N[l]? = some z := by rfl) (hij : i ≠ j := by decide) (hil : i ≠ l := by decide) (hjl : j ≠ l := by decide)
    (hx : X.env.scope.names.lookup x = some .local := by rfl) (hy : X.env.scope.names.lookup y = some .local := by rfl) (hz : X.env.scope.names.lookup z = some .local := by rfl)
    (hw : swappedStores [.Tuple [.Name x px, .Name y py, .Name z pz] kt pt] (.Tuple [a, b, c] k2 pt2) X.env = pure (some [x, y, z]) := by rfl)
    (hs : swapsWithSole [.Tuple [.Name x px, .Name y py, .Name z pz] kt pt] (.Tuple [a, b, c] k2 pt2) pos.line X.env = pure false := by rfl) :
    PS X (.Assign [.Tuple [.Name x px, .Name y py, .Name z pz] kt pt] (.Tuple [a, b, c] k2 pt2) pos) (SSr X.K P (sPar3 P i j l f g h)) := PSi (ps_par3 hc hN hi hj hl hij hil hjl hx hy hz ha hw hs) fun _ _ _ q => sPar3_go q
end
end PI

namespace PI
open PySem PySem.Spec PyProof.Rows L2
/-! ### while -/
def wl (c : EF) (f : SF) : Nat → SF
  | 0 => fun _ => none
  | n + 1 => fun env => (c env).bind fun r => match r.1.2 with
    | .bl false => some (.nx, r.2)
    | .bl true => (f r.2).bind fun s => match s.1 with
      | .nx => wl c f n s.2
      | .ct => wl c f n s.2
      | .bk => some (.nx, s.2)
      | .rt w => some (.rt w, s.2)
    | _ => none
/-- at most a million turns -/
def sWhile (c : EF) (f : SF) : SF := wl c f 1000000
section
variable {K : PySem.W.Frag} {P : List Nat} {env env1 env2 env' : PI.Env} {σ σ1 σ2 : L2.St} {H H1 H2 : Hp} {D : Ends} {c : Ctl}
theorem sWhile_go {t : EF} {f : SF} (h : SSr K P (sWhile t f) D σ H) : tWhile (STr K t) (SSr K P f) D σ H := by
  obtain ⟨Z, env, c, env', R, e, q⟩ := h
  refine ⟨fun m σ' H' => ∃ env1, Re K Z env1 σ' H' ∧ wl t f m env1 = some (c, env') ∧ Post K P Z env1 σ' H' D c env', ⟨1000000, env, R, e, q⟩, fun m σ1 H1 hW => ?_⟩
  obtain ⟨env1, R1, e1, q1⟩ := hW
  cases m with
  | zero => cases e1
  | succ m =>
    obtain ⟨⟨⟨fr, d⟩, env2⟩, g1, e1⟩ := obind e1
    cases d with
    | bl b =>
      refine ⟨Z, env1, fr, b, env2, R1, g1, fun H2 R2 t2 => ?_⟩
      have q2 := q1.after t2.stp .refl
      cases b with
      | false =>
        cases e1
        exact iteF (q2 σ1 H2 R2 .refl .refl)
      | true =>
        obtain ⟨⟨c3, env3⟩, g3, e1⟩ := obind e1
        refine iteT ⟨fun σ' H' => ∃ env1, Re K Z env1 σ' H' ∧ wl t f m env1 = some (c, env') ∧ Post K P Z env1 σ' H' D c env', fun σ' H' n => ⟨m, Nat.lt_succ_self m, n⟩, Z, env2, c3, env3, R2, g3, ?_⟩
        cases c3 with
        | nx => exact fun σ' H' R3 t3 k3 => ⟨env3, R3, e1, q2.after t3 k3⟩
        | ct => exact fun σ' H' R3 t3 k3 => ⟨env3, R3, e1, q2.after t3 k3⟩
        | bk =>
          cases e1
          exact fun σ' H' R3 t3 k3 => q2 σ' H' R3 t3 k3
        | rt w =>
          cases e1
          exact fun v σ' H' t3 k3 r3 => q2 v σ' H' t3 k3 r3
    | _ => cases e1
end
/-! ### what is walked -/
abbrev SrcF := PI.Env → Option (List PI.D × PI.Env)
def SrcGood (K : PySem.W.Frag) (O1 S1 : Addr → Prop) (H1 : Hp) (J : It) (ds : List PI.D) : Prop := ∃ (G : Hp → Prop) (Y : Nat → Hp → V → Hp → Prop), Walk J ds.length G Y ∧
  ∀ (H2 : Hp) (S2 : Addr → Prop), (∀ b o, H1 b = some o → ¬ O1 b → H2 b = some o) → (∀ b, S2 b → S1 b ∨ H1 b = none) → (∀ b, S2 b → H2 b ≠ none) →
    G H2 ∧ ∀ i x H', i < ds.length → Y i H2 x H' → (∀ b o, H2 b = some o → H' b = some o) ∧ ∃ d, ds[i]? = some d ∧ Rep K S2 H' x d
def SrcOk (K : PySem.W.Frag) (wi : TI) (src : SrcF) : Prop := ∀ (Z : Addr → Prop) (env : PI.Env) (σ : L2.St) (H : Hp) (R : It → Hp → Prop) (ds : List PI.D) (env1 : PI.Env), Re K Z env σ H → src env = some (ds, env1) →
  (∀ J H1, Re K Z env1 σ H1 → Trn env σ H env1 H1 → SrcGood K (Own env1 σ) (Av env1 σ Z) H1 J ds → R J H1) → wi σ H R
/-- the items of a list, of a tuple -/
def srcL (f : EF) : SrcF := fun env => (f env).bind fun r => match r.1.2 with
  | .lst ds => some (ds, r.2)
  | .frz ds => some (ds, r.2)
  | _ => none
def srcT (f : EF) : SrcF := fun env => (f env).bind fun r => match r.1.2 with
  | .tup ds => some (ds, r.2)
  | _ => none
def rangeD (lo : Int) (n : Nat) : List PI.D := (List.range n).map fun (i : Nat) => PI.D.int (lo + (i : Int))
def srcR1 (f : EF) : SrcF := fun env => (f env).bind fun r => match r.1.2 with
  | .int n => if -(2 ^ 62) ≤ n ∧ n < 2 ^ 62 then some (rangeD 0 n.toNat, r.2) else none
  | _ => none
def srcR2 (f g : EF) : SrcF := fun env => (f env).bind fun r => (g r.2).bind fun s => match r.1.2 with
  | .int a => (match s.1.2 with
    | .int b => if (-(2 ^ 62) ≤ a ∧ a < 2 ^ 62) ∧ -(2 ^ 62) ≤ b ∧ b < 2 ^ 62 then some (rangeD a (b - a).toNat, s.2) else none
    | _ => none)
  | _ => none
section
variable {K : PySem.W.Frag}
theorem src_items {O1 S1 S2 : Addr → Prop} {H1 H2 : Hp} {vs : List V} {ds : List PI.D} (r : RepAll K S1 H1 vs ds) (hO : ∀ a, O1 a → S1 a) (h1 : ∀ b o, H1 b = some o → ¬ O1 b → H2 b = some o) (h2 : ∀ b, S2 b → S1 b ∨ H1 b = none) : RepAll K S2 H2 vs ds :=
  r.step (fun a o e n => h1 a o e fun z => n (hO a z)) h2
theorem srcL_ok {f : EF} : SrcOk K (iList K (SEr K f)) (srcL f) := fun Z env σ H R ds env1 R0 e q => by
  obtain ⟨⟨⟨fr, d⟩, env2⟩, g1, e⟩ := obind e
  refine ⟨Z, env, (fr, d), env2, R0, g1, fun v H1 x => ?_⟩
  have key : ∃ (a : Addr) (vs : List V), v = .ref a ∧ FrzAt K (Av env2 σ Z) H1 a vs ∧ RepAll K (Av env2 σ Z) H1 vs ds ∧ env2 = env1 := by
    cases d with
    | lst es =>
      cases e
      have r := x.rep
      cases r with
      | lst h n r => exact ⟨_, _, rfl, .inl ⟨.inl h, n⟩, r, rfl⟩
    | frz es =>
      cases e
      obtain ⟨a, vs, h1, h2, h3⟩ := x.rep.frzD
      exact ⟨a, vs, h1, h2, h3, rfl⟩
    | _ => cases e
  obtain ⟨a, vs, rfl, ha, hr, rfl⟩ := key
  have hl := hr.length
  refine ⟨a, rfl, ⟨vs, ha.sq⟩, q _ H1 x.re x.tr ⟨fun H => SqL K H a vs, YAt vs, ?_, fun H2 S2 h1 h2 h3 => ⟨?_, fun i y H' hi hy => ?_⟩⟩⟩
  · rw [← hl]
    exact walk_list
  · exact (ha.step (H' := H2) (S' := S2) (fun a o e n => h1 a o e fun z => n (.inl z)) h2).sq
  · obtain ⟨rfl, hy⟩ := hy
    exact ⟨fun _ _ z => z, (src_items hr (fun a z => .inl z) h1 h2).getV hy⟩
theorem srcT_ok {f : EF} : SrcOk K (iTup K (SEr K f)) (srcT f) := fun Z env σ H R ds env1 R0 e q => by
  obtain ⟨⟨⟨fr, d⟩, env2⟩, g1, e⟩ := obind e
  refine ⟨Z, env, (fr, d), env2, R0, g1, fun v H1 x => ?_⟩
  cases d with
  | tup es =>
    cases e
    obtain ⟨a, vs, rfl, ha, hr⟩ := x.rep.tupD
    have hl := hr.length
    refine ⟨a, rfl, ⟨vs, ha.sq⟩, q _ H1 x.re x.tr ⟨fun H => SqT K H a vs, YAt vs, ?_, fun H2 S2 h1 h2 h3 => ⟨?_, fun i y H' hi hy => ?_⟩⟩⟩
    · rw [← hl]
      exact walk_tup
    · exact (ha.step (H' := H2) (S' := S2) (fun a o e n => h1 a o e fun z => n (.inl z)) h2).sq
    · obtain ⟨rfl, hy⟩ := hy
      exact ⟨fun _ _ z => z, (src_items hr (fun a z => .inl z) h1 h2).getV hy⟩
  | _ => cases e
theorem rangeD_len (lo : Int) (n : Nat) : (rangeD lo n).length = n := by
  unfold rangeD
  rw [List.length_map, List.length_range]
theorem rangeD_get {lo : Int} {n i : Nat} (h : i < n) : (rangeD lo n)[i]? = some (.int (lo + i)) := by
  unfold rangeD
  rw [List.getElem?_map, List.getElem?_range h]
  rfl
theorem range_good {O1 S1 : Addr → Prop} {H1 : Hp} {lo : Int} {n : Nat} : SrcGood K O1 S1 H1 (Itr lo n) (rangeD lo n) :=
  ⟨fun _ => True, YFn fun i => .int (lo + i), by rw [rangeD_len]; exact walk_range, fun H2 S2 h1 h2 h3 => ⟨trivial, fun i y H' hi hy => by
    obtain ⟨rfl, rfl⟩ := hy
    rw [rangeD_len] at hi
    exact ⟨fun _ _ z => z, _, rangeD_get hi, .int _⟩⟩⟩
theorem srcR1_ok {f : EF} : SrcOk K (iRng1 (SVr K [f])) (srcR1 f) := fun Z env σ H R ds env1 R0 e q => by
  obtain ⟨⟨⟨fr, d⟩, env2⟩, g1, e⟩ := obind e
  refine ⟨Z, env, (fr, d), env2, R0, g1, fun v H1 x => ?_⟩
  cases d with
  | int n =>
    dsimp only at e
    split at e
    · rename_i hn
      cases e
      have ev := rep_int x.rep
      subst ev
      exact ⟨n, rfl, hn.1, hn.2, q _ H1 x.re x.tr range_good⟩
    · cases e
  | _ => cases e
theorem srcR2_ok {f g : EF} : SrcOk K (iRng2 (SVr K [f, g])) (srcR2 f g) := fun Z env σ H R ds env1 R0 e q => by
  obtain ⟨⟨⟨fr, d⟩, env2⟩, g1, e⟩ := obind e
  obtain ⟨⟨⟨fr2, d2⟩, env3⟩, g2, e⟩ := obind e
  refine ⟨Z, env, (fr, d), env2, R0, g1, fun v H1 x => ⟨Z, env2, (fr2, d2), env3, x.re, g2, fun u H2 y => ?_⟩⟩
  cases d with
  | int a =>
    cases d2 with
    | int b =>
      dsimp only at e
      split at e
      · rename_i hn
        cases e
        have ev := rep_int x.rep
        have eu := rep_int y.rep
        subst ev eu
        exact ⟨a, b, rfl, ⟨hn.1.1, hn.1.2, hn.2.1, hn.2.2⟩, q _ H2 y.re (x.tr.trans y.tr) range_good⟩
      · cases e
    | _ => cases e
  | _ => cases e
end
/-! ### for -/
def fl (T : TF) (f : SF) : List PI.D → SF
  | [], env => some (.nx, env)
  | d :: ds, env => (T d env).bind fun e => (f e).bind fun s => match s.1 with
    | .nx => fl T f ds s.2
    | .ct => fl T f ds s.2
    | .bk => some (.nx, s.2)
    | .rt w => some (.rt w, s.2)
def sFor (P js : List Nat) (src : SrcF) (T : TF) (f : SF) : SF := fun env => match js.any fun j => P.contains j with
  | true => none
  | false => (src env).bind fun r => fl T f r.1 r.2
section
variable {K : PySem.W.Frag} {P : List Nat} {env env1 env2 env' : PI.Env} {σ σ1 σ2 : L2.St} {H H1 H2 : Hp} {D : Ends} {c : Ctl}
theorem sFor_go {js : List Nat} {src : SrcF} {T : TF} {f : SF} {g : TG} {wi : TI} (hs : SrcOk K wi src) (hT : TgOk K g T js) (h : SSr K P (sFor P js src T f) D σ H) : tFor wi g (SSr K P f) D σ H := by
  obtain ⟨Z, env, c, env', R, e, q⟩ := h
  unfold sFor at e
  cases hp : js.any fun j => P.contains j with
  | true =>
    rw [hp] at e
    cases e
  | false =>
    rw [hp] at e
    obtain ⟨⟨ds, env1⟩, g1, e⟩ := obind e
    refine hs Z env σ H _ ds env1 R g1 fun J H1 R1 t1 good => ?_
    obtain ⟨G, Y, w, hg⟩ := good
    have key : ∀ envi σ' H', Re K Z envi σ' H' → Stp env1 σ H1 envi σ' H' → G H' ∧ ∀ i x H2, i < ds.length → Y i H' x H2 → (∀ b o, H' b = some o → H2 b = some o) ∧ ∃ d, ds[i]? = some d ∧ Rep K (Av envi σ' Z) H2 x d := fun envi σ' H' R' s' =>
      hg H' (Av envi σ' Z) (fun b o e n => s'.keep b o e n) (fun b z => by
        rcases z with z | z
        · rcases s'.own b z with z | z
          · exact .inl (.inl z)
          · exact .inr z
        · exact .inl (.inr z)) (fun b z => R'.dom b z)
    refine for_it w (fun i σ' H' => ∃ envi, Re K Z envi σ' H' ∧ fl T f (ds.drop i) envi = some (c, env') ∧ Post K P Z envi σ' H' D c env' ∧ Stp env1 σ H1 envi σ' H') ⟨env1, R1, e, q.after t1.stp .refl, .refl⟩ (fun i σ' H' hi hP => ?_) (fun i x σ' H' H2 hi hP hY => ?_) fun σ' H' hP => ?_
    · obtain ⟨envi, R', e', q', s'⟩ := hP
      exact (key envi σ' H' R' s').1
    · obtain ⟨envi, R', e', q', s'⟩ := hP
      obtain ⟨gr, d, hd, rd⟩ := (key envi σ' H' R' s').2 i x H2 hi hY
      have ed : ds.drop i = d :: ds.drop (i + 1) := by
        obtain ⟨hl, hd⟩ := List.getElem?_eq_some_iff.mp hd
        rw [List.drop_eq_getElem_cons hl, hd]
      rw [ed] at e'
      obtain ⟨enva, ga, e'⟩ := obind e'
      obtain ⟨⟨c3, env3⟩, g3, e'⟩ := obind e'
      have R2 : Re K Z envi σ' H2 := R'.grow0 gr
      refine hT Z envi σ' H2 x d enva _ R2 rd ga fun σ2 R3 o3 k3 l3 => ⟨Z, enva, c3, env3, R3, g3, ?_⟩
      have sA : Stp envi σ' H' enva σ2 H2 := ⟨fun a z => .inl (o3 a z), fun a o z _ => gr a o z, dom_of gr⟩
      have q2 := q'.after sA (pin_js hp k3)
      have sB := s'.trans sA
      cases c3 with
      | nx => exact fun σ4 H4 R4 t4 k4 => ⟨env3, R4, e', q2.after t4 k4, sB.trans t4⟩
      | ct => exact fun σ4 H4 R4 t4 k4 => ⟨env3, R4, e', q2.after t4 k4, sB.trans t4⟩
      | bk =>
        cases e'
        exact fun σ4 H4 R4 t4 k4 => q2 σ4 H4 R4 t4 k4
      | rt w =>
        cases e'
        exact fun v σ4 H4 t4 k4 r4 => q2 v σ4 H4 t4 k4 r4
    · obtain ⟨envi, R', e', q', s'⟩ := hP
      rw [List.drop_eq_nil_of_le (Nat.le_refl _)] at e'
      cases e'
      exact q' σ' H' R' .refl .refl
end
section
variable {X : Cx} {pos : Pos} {P : List Nat}
theorem ss_while {c : Expr} {body : List Stmt} {t : EF} {f : SF} (hc : PT X c (STr X.K t)) (hb : PSs X body (SSr X.K P f)) (hp : PassesOwn (model X.prog X.w) X.A X.env X.xe) : PS X (.While c body [] pos) (SSr X.K P (sWhile t f)) := PSi (ps_while hp hc hb) fun _ _ _ q => sWhile_go q
theorem ss_for {tg iter : Expr} {body : List Stmt} {wi : TI} {g : TG} {src : SrcF} {T : TF} {js : List Nat} {f : SF} (hi : PI X tg iter wi) (hs : SrcOk X.K wi src) (hg : PG X tg g) (hT : TgOk X.K g T js) (hb : PSs X body (SSr X.K P f)) (hp : PassesOwn (model X.prog X.w) X.A X.env X.xe) (hc : X.calm = true)
    (hx : ∀ x, foldedSetIterable iter X.env x = pure x := by intro _; rfl) : PS X (.For tg iter body [] pos) (SSr X.K P (sFor P js src T f)) := PSi (ps_for hp hc hi hg hb hx) fun _ _ _ q => sFor_go hs hT q
end
end PI

namespace PI
open PySem PySem.Spec PyProof.Rows L2
/-! ### comprehensions -/
def wipeE (env : PI.Env) : List Nat → PI.Env
  | [] => env
  | v :: vs => (wipeE env vs).set v none
def restE (base ec : PI.Env) : List Nat → PI.Env
  | [] => ec
  | v :: vs => (restE base ec vs).set v (base[v]?.getD none)
def ownAt (env : PI.Env) (i : Nat) : Bool := match env[i]? with
  | some (some (true, _)) => true
  | _ => false
def noOwn (env : PI.Env) (vs : List Nat) : Bool := vs.all fun v => !ownAt env v
/-- the kept items, the names behind -/
def lcl (T : TF) (c f : EF) (vs : List Nat) : List PI.D → PI.Env → Option (List PI.D × PI.Env)
  | [], env => some ([], env)
  | d :: ds, env => match noOwn env vs with
    | false => none
    | true => (T d (wipeE env vs)).bind fun e => (c e).bind fun r => match r.1.2 with
      | .bl true => (f r.2).bind fun s => (lcl T c f vs ds (restE env s.2 vs)).bind fun t => some (s.1.2 :: t.1, t.2)
      | .bl false => lcl T c f vs ds (restE env r.2 vs)
      | _ => none
/-- what a comprehension walks: the items, the names meanwhile, the slot that is hidden -/
abbrev SrcC := PI.Env → Option (List PI.D × PI.Env × Option (Nat × List PI.D))
def undoE (env : PI.Env) : Option (Nat × List PI.D) → PI.Env
  | none => env
  | some p => env.set p.1 (some (true, .lst p.2))
def SrcCOk (K : PySem.W.Frag) (wi : TI) (src : SrcC) : Prop := ∀ (Z : Addr → Prop) (env : PI.Env) (σ : L2.St) (H : Hp) (R : It → Hp → Prop) (ds : List PI.D) (env1 : PI.Env) (hid : Option (Nat × List PI.D)), Re K Z env σ H → src env = some (ds, env1, hid) →
  (∀ J H1 (Z1 : Addr → Prop), Re K Z1 env1 σ H1 → Trn env σ H env1 H1 → SrcGood K (Own env1 σ) (Av env1 σ Z1) H1 J ds →
    (∀ (Zx : Addr → Prop) (env2 : PI.Env) (H2 : Hp), Re K (fun b => Z1 b ∨ Zx b) env2 σ H2 → (∀ b o, H1 b = some o → ¬ Own env1 σ b → H2 b = some o) → (∀ b, Own env2 σ b → Own env1 σ b) → (∀ b, Zx b → H1 b = none) →
      Re K (fun b => Z b ∨ Zx b) (undoE env2 hid) σ H2 ∧ (∀ b, Av (undoE env2 hid) σ (fun b => Z b ∨ Zx b) b → Av env2 σ (fun b => Z1 b ∨ Zx b) b) ∧ ∀ b, Own (undoE env2 hid) σ b → Own env σ b) → R J H1) → wi σ H R
def srcC (src : SrcF) : SrcC := fun env => (src env).bind fun r => some (r.1, r.2, none)
/-- the owned list of a name, hidden meanwhile -/
def srcH (i : Nat) : SrcC := fun env => match env[i]? with
  | some (some (true, .lst ds)) => some (ds, env.set i none, some (i, ds))
  | some (some (false, .lst ds)) => some (ds, env, none)
  | _ => none
def eLc (src : SrcC) (T : TF) (c f : EF) (vs : List Nat) : EF := fun env => (src env).bind fun r => if r.1.length < 1000000 then (lcl T c f vs r.1 r.2.1).bind fun t => some ((true, .lst t.1), undoE t.2 r.2.2) else none
def eYes : EF := fun env => some ((false, .bl true), env)
section
variable {K : PySem.W.Frag} {Z : Addr → Prop} {env env1 env2 env' : PI.Env} {σ σ1 σ2 : L2.St} {H H1 H2 : Hp}
theorem srcC_ok {wi : TI} {src : SrcF} (h : SrcOk K wi src) : SrcCOk K wi (srcC src) := fun Z env σ H R ds env1 hid R0 e q => by
  obtain ⟨⟨ds2, env2⟩, g1, e⟩ := obind e
  cases e
  exact h Z env σ H R _ _ R0 g1 fun J H1 R1 t1 good => q J H1 Z R1 t1 good fun Zx env2 H2 R2 _ o2 _ => ⟨R2, fun _ z => z, fun b z => t1.own b (o2 b z)⟩
theorem list_set_self {α : Type} {l : List α} {i : Nat} {x : α} (h : l[i]? = some x) : l.set i x = l := by
  apply List.ext_getElem?
  intro j
  by_cases e : i = j
  · subst e
    rw [List.getElem?_set_self (lt_of_get h), h]
  · rw [List.getElem?_set_ne e]
theorem srcH_ok {i : Nat} : SrcCOk K (iList K (tVar i)) (srcH i) := fun Z env σ H R ds env1 hid R0 e q => by
  unfold srcH at e
  split at e
  · rename_i es g
    cases e
    obtain ⟨a, vs, h1, h2, h3⟩ := slot_list R0 g
    obtain ⟨R1, ow, av⟩ := R0.dropS g h1
    have nown : ¬ Own (env.set i none) σ a := (R1.z a (.inr rfl)).2
    have hl := h3.length
    refine ⟨.ref a, h1, a, rfl, ⟨vs, .inl (.inl h2)⟩, q _ H (fun b => Z b ∨ b = a) R1 ⟨ow, fun b o z _ => z, fun b z => z⟩ ⟨fun H => SqL K H a vs, YAt vs, ?_, fun H2 S2 k1 k2 k3 => ⟨.inl (.inl (k1 a _ h2 nown)), fun j y H' hj hy => ?_⟩⟩ fun Zx env2 H2 R2 k2 o2 z2 => ?_⟩
    · rw [← hl]
      exact walk_list
    · obtain ⟨rfl, hy⟩ := hy
      refine ⟨fun _ _ z => z, RepAll.getV ?_ hy⟩
      refine (h3.less av).step (fun b o e n => k1 b o e fun z => n (.inl z)) k2
    · have hnx : ¬ Zx a := fun z => by
        have := z2 a z
        rw [h2] at this
        cases this
      have hz : ∀ b, ((Z b ∨ Zx b) ∨ b = a) → ((Z b ∨ b = a) ∨ Zx b) := fun b z => by
        rcases z with (z | z) | z
        · exact .inl (.inl z)
        · exact .inr z
        · exact .inl (.inr z)
      have ha2 : H2 a = some (.lst vs) := k2 a _ h2 nown
      have hr : RepAll K (Av env2 σ fun b => (Z b ∨ Zx b) ∨ b = a) H2 vs ds := (h3.less av).step (fun b o e n => k2 b o e fun z => n (.inl z)) fun b z => by
        rcases z with z | (z | z) | z
        · exact .inl (.inl (o2 b z))
        · exact .inl (.inr (.inl z))
        · exact .inr (z2 b z)
        · exact .inl (.inr (.inr z))
      have li : i < env2.length := by
        have := R2.len
        have := lt_of_get h1
        omega
      have R3 := (R2.weakZ hz).storeN (i := i) li rfl (fun z => z.elim (fun z => (R0.z a z).2 ⟨i, _, g, h1⟩) hnx) ha2 hr
      have es : σ.set i (some (V.ref a)) = σ := list_set_self h1
      rw [es] at R3
      have ow2 : ∀ b, Own (env2.set i (some (true, .lst ds))) σ b → Own env2 σ b ∨ b = a := fun b z => by
        rw [← es] at z
        exact (own_storeN z).imp (fun z => by rw [es] at *; exact z) id
      refine ⟨R3, fun b z => ?_, fun b z => ?_⟩
      · rcases z with z | z
        · rcases ow2 b z with z | z
          · exact .inl z
          · exact .inr (.inl (.inr z))
        · rcases z with z | z
          · exact .inr (.inl (.inl z))
          · exact .inr (.inr z)
      · rcases ow2 b z with z | z
        · exact ow b (o2 b z)
        · subst z
          exact ⟨i, _, g, h1⟩
  · rename_i es g
    cases e
    obtain ⟨v, h1, h2⟩ := R0.sh i _ g
    cases h2 with
    | lst h n r =>
      rename_i a vs
      have hl := r.length
      refine ⟨.ref a, h1, a, rfl, ⟨vs, .inl (.inl h)⟩, q _ H Z R0 .refl ⟨fun H => SqL K H a vs, YAt vs, ?_, fun H2 S2 k1 k2 k3 => ⟨.inl (.inl (k1 a _ h fun z => n (.inl z))), fun j y H' hj hy => ?_⟩⟩ fun Zx env2 H2 R2 _ o2 _ => ⟨R2, fun _ z => z, o2⟩⟩
      · rw [← hl]
        exact walk_list
      · obtain ⟨rfl, hy⟩ := hy
        exact ⟨fun _ _ z => z, (src_items r (fun a z => .inl z) k1 k2).getV hy⟩
  · cases e
/-! the block's slots -/
theorem wipeE_len : ∀ vs : List Nat, (wipeE env vs).length = env.length
  | [] => rfl
  | v :: vs => by
    unfold wipeE
    rw [List.length_set, wipeE_len vs]
theorem wipeE_some {i : Nat} {x : Bool × PI.D} : ∀ {vs : List Nat}, (wipeE env vs)[i]? = some (some x) → env[i]? = some (some x) ∧ i ∉ vs
  | [], h => ⟨h, by simp⟩
  | v :: vs, h => by
    unfold wipeE at h
    rcases set_get h with ⟨_, q, _⟩ | ⟨ne, q⟩
    · cases q
    · obtain ⟨h1, h2⟩ := wipeE_some q
      exact ⟨h1, fun z => (List.mem_cons.mp z).elim (fun z => ne z.symm) h2⟩
theorem noOwn_at {vs : List Nat} (h : noOwn env vs = true) {i : Nat} {d : PI.D} (g : env[i]? = some (some (true, d))) : i ∉ vs := fun hi => by
  have q := List.all_eq_true.mp h i hi
  unfold ownAt at q
  rw [g] at q
  cases q
theorem wipe_get {i : Nat} : ∀ {vs : List Nat}, i ∉ vs → (wipe σ vs)[i]? = σ[i]?
  | [], _ => rfl
  | v :: vs, h => by
    unfold wipe
    rw [List.getElem?_set_ne (fun e => h (by rw [e]; exact List.mem_cons_self)), wipe_get fun z => h (List.mem_cons_of_mem _ z)]
theorem wipeE_get {i : Nat} : ∀ {vs : List Nat}, i ∉ vs → (wipeE env vs)[i]? = env[i]?
  | [], _ => rfl
  | v :: vs, h => by
    unfold wipeE
    rw [List.getElem?_set_ne (fun e => h (by rw [e]; exact List.mem_cons_self)), wipeE_get fun z => h (List.mem_cons_of_mem _ z)]
theorem own_wipe {vs : List Nat} (h : noOwn env vs = true) {a : Addr} : Own (wipeE env vs) (wipe σ vs) a ↔ Own env σ a := by
  constructor
  · rintro ⟨i, d, h1, h2⟩
    obtain ⟨g1, g2⟩ := wipeE_some h1
    rw [wipe_get g2] at h2
    exact ⟨i, d, g1, h2⟩
  · rintro ⟨i, d, h1, h2⟩
    have n := noOwn_at h h1
    exact ⟨i, d, by rw [wipeE_get n]; exact h1, by rw [wipe_get n]; exact h2⟩
theorem Rel.wipe (R : Re K Z env σ H) {vs : List Nat} (h : noOwn env vs = true) : Re K Z (wipeE env vs) (wipe σ vs) H := by
  have av : ∀ b, Av (wipeE env vs) (L2.wipe σ vs) Z b → Av env σ Z b := fun b z => z.imp (own_wipe h).mp id
  refine ⟨by rw [wipeE_len, wipe_length]; exact R.len, fun i d g => ?_, fun i d g => ?_, fun i j d e a g1 g2 h1 h2 => ?_, fun a o z => (nomatch z), fun a z => ⟨(R.z a z).1, fun q => (R.z a z).2 ((own_wipe h).mp q)⟩⟩
  · obtain ⟨g1, g2⟩ := wipeE_some g
    obtain ⟨v, h1, h2⟩ := R.sh i d g1
    exact ⟨v, by rw [wipe_get g2]; exact h1, h2.less av⟩
  · obtain ⟨g1, g2⟩ := wipeE_some g
    obtain ⟨a, o0, us, ds, h1, h2, h3, h4⟩ := R.ow i d g1
    exact ⟨a, o0, us, ds, by rw [wipe_get g2]; exact h1, h2, h3, h4.less av⟩
  · obtain ⟨g1, n1⟩ := wipeE_some g1
    obtain ⟨g2, n2⟩ := wipeE_some g2
    rw [wipe_get n1] at h1
    rw [wipe_get n2] at h2
    exact R.dist i j d e a g1 g2 h1 h2
theorem wipe_eq {vs js : List Nat} (hj : ∀ j ∈ js, j ∈ vs) (k : ∀ i, i ∉ js → σ2[i]? = (wipe σ vs)[i]?) (l : σ2.length = (wipe σ vs).length) : wipe σ2 vs = wipe σ vs := by
  apply List.ext_getElem?
  intro i
  by_cases h : i ∈ vs
  · have key : ∀ (τ : L2.St) (us : List Nat), i ∈ us → i < τ.length → (wipe τ us)[i]? = some none := fun τ us => by
      induction us with
      | nil => intro q; cases q
      | cons v us ih =>
        intro q ql
        unfold wipe
        by_cases e : v = i
        · subst e
          rw [List.getElem?_set_self (by rw [wipe_length]; exact ql)]
        · rw [List.getElem?_set_ne e]
          exact ih ((List.mem_cons.mp q).resolve_left fun z => e z.symm) ql
    rw [wipe_length] at l
    by_cases hi : i < σ.length
    · rw [key σ vs h hi, key σ2 vs h (by omega)]
    · rw [List.getElem?_eq_none (by rw [wipe_length]; omega), List.getElem?_eq_none (by rw [wipe_length]; omega)]
  · rw [wipe_get h, k i fun z => h (hj i z), wipe_get h]
theorem restE_len {ec : PI.Env} : ∀ vs : List Nat, (restE env ec vs).length = ec.length
  | [] => rfl
  | v :: vs => by
    unfold restE
    rw [List.length_set, restE_len vs]
theorem restE_out {ec : PI.Env} {i : Nat} : ∀ {vs : List Nat}, i ∉ vs → (restE env ec vs)[i]? = ec[i]?
  | [], _ => rfl
  | v :: vs, h => by
    unfold restE
    rw [List.getElem?_set_ne (fun e => h (by rw [e]; exact List.mem_cons_self)), restE_out fun z => h (List.mem_cons_of_mem _ z)]
theorem restE_in {ec : PI.Env} {i : Nat} {x : Bool × PI.D} : ∀ {vs : List Nat}, i ∈ vs → (restE env ec vs)[i]? = some (some x) → env[i]? = some (some x)
  | v :: vs, h, g => by
    unfold restE at g
    rcases set_get g with ⟨e, q, _⟩ | ⟨ne, q⟩
    · subst e
      cases z : env[v]? with
      | none =>
        rw [z] at q
        cases q
      | some y =>
        rw [z] at q
        have q : y = some x := q
        rw [q]
    · exact restE_in ((List.mem_cons.mp h).resolve_left fun z => ne z.symm) q
/-- behind a turn -/
theorem Rel.rest {ec : PI.Env} {σc : L2.St} {vs : List Nat} (R : Re K Z env σ H) (hn : noOwn env vs = true) (Rc : Re K Z ec σc H2) (hs : ∀ i, i ∉ vs → σc[i]? = σ[i]?) (hl : σc.length = σ.length) (ho : ∀ a, Own ec σc a → Own env σ a)
    (hk : ∀ a o, H a = some o → ¬ Own env σ a → H2 a = some o) : Re K Z (restE env ec vs) σ H2 ∧ (∀ a, Own (restE env ec vs) σ a → Own ec σc a) := by
  have ow : ∀ i d, (restE env ec vs)[i]? = some (some (true, d)) → i ∉ vs ∧ ec[i]? = some (some (true, d)) := fun i d g => by
    by_cases h : i ∈ vs
    · exact absurd h (noOwn_at hn (restE_in h g))
    · rw [restE_out h] at g
      exact ⟨h, g⟩
  have owA : ∀ a, Own (restE env ec vs) σ a → Own ec σc a := fun a ⟨i, d, h1, h2⟩ => by
    obtain ⟨n, g⟩ := ow i d h1
    exact ⟨i, d, g, by rw [hs i n]; exact h2⟩
  have av : ∀ a, Av (restE env ec vs) σ Z a → Av ec σc Z a := fun a z => z.imp (owA a) id
  refine ⟨⟨by rw [restE_len, Rc.len, hl], fun i d g => ?_, fun i d g => ?_, fun i j d e a g1 g2 h1 h2 => ?_, fun a o z => (nomatch z), fun a z => ⟨(Rc.z a z).1, fun q => (Rc.z a z).2 (owA a q)⟩⟩, owA⟩
  · by_cases h : i ∈ vs
    · obtain ⟨v, h1, h2⟩ := R.sh i d (restE_in h g)
      exact ⟨v, h1, h2.step (fun a o e n => hk a o e fun z => n (.inl z)) fun a z => .inl ((av a z).imp (ho a) id)⟩
    · rw [restE_out h] at g
      obtain ⟨v, h1, h2⟩ := Rc.sh i d g
      exact ⟨v, by rw [← hs i h]; exact h1, h2.less av⟩
  · obtain ⟨n, g⟩ := ow i d g
    obtain ⟨a, o0, us, ds, h1, h2, h3, h4⟩ := Rc.ow i d g
    exact ⟨a, o0, us, ds, by rw [← hs i n]; exact h1, h2, h3, h4.less av⟩
  · obtain ⟨n1, g1⟩ := ow i d g1
    obtain ⟨n2, g2⟩ := ow j e g2
    exact Rc.dist i j d e a g1 g2 (by rw [hs i n1]; exact h1) (by rw [hs j n2]; exact h2)
theorem eLc_go {src : SrcC} {T : TF} {c f : EF} {vs js : List Nat} {wi : TI} {g : TG} (hs : SrcCOk K wi src) (hT : TgOk K g T js) (hj : ∀ j ∈ js, j ∈ vs) {Q : VK} (h : SEr K (eLc src T c f vs) σ H Q) : tLc wi g (STr K c) (SEr K f) vs σ H Q := by
  obtain ⟨Z, env, w, env', R, e, q⟩ := h
  obtain ⟨⟨ds, env1, hid⟩, g1, e⟩ := obind e
  dsimp only at e
  split at e
  · rename_i hlen
    obtain ⟨⟨out, envF⟩, g2, e⟩ := obind e
    cases e
    refine hs Z env σ H _ ds env1 hid R g1 fun J H1 Z1 R1 t1 good undo => ?_
    obtain ⟨G, Y, w, hg⟩ := good
    intro Dl hD
    -- the invariant
    let ZD : Addr → Prop := fun b => Z1 b ∨ b = Dl
    have hD' : ∀ b u, H1 b = some u → upd H1 Dl (.lst []) b = some u := keep_upd hD
    have R1' : Re K ZD env1 σ (upd H1 Dl (.lst [])) := R1.grow hD' (fun b z => z.imp id fun z => by rw [z]; exact hD) fun b z => by
      rcases z with z | z
      · exact dom_of hD' b (R1.z b z).1
      · rw [z, upd_same]
        exact fun q => by cases q
    let Pv : Nat → Hp → Prop := fun i H' => ∃ envi accv accd rest, Re K ZD envi σ H' ∧ lcl T c f vs (ds.drop i) envi = some (rest, envF) ∧ accd ++ rest = out ∧ accd.length ≤ i ∧ H' Dl = some (.lst accv) ∧ RepAll K (Av envi σ ZD) H' accv accd ∧
      (∀ a, Own envi σ a → Own env1 σ a) ∧ (∀ a o, H1 a = some o → ¬ Own env1 σ a → H' a = some o) ∧ (∀ a, H1 a ≠ none → H' a ≠ none)
    have key : ∀ i H', Pv i H' → G H' ∧ ∀ envi, Re K ZD envi σ H' → (∀ a, Own envi σ a → Own env1 σ a) → ∀ i x H2, i < ds.length → Y i H' x H2 → (∀ b o, H' b = some o → H2 b = some o) ∧ ∃ d, ds[i]? = some d ∧ Rep K (Av envi σ ZD) H2 x d := fun i H' hP => by
      obtain ⟨envi, accv, accd, rest, R', _, _, _, _, _, o', k', d'⟩ := hP
      have hx : ∀ env2, Re K ZD env2 σ H' → (∀ a, Own env2 σ a → Own env1 σ a) → _ := fun env2 R2 o2 => hg H' (Av env2 σ ZD) k' (fun b z => by
        rcases z with z | z | z
        · exact .inl (.inl (o2 b z))
        · exact .inl (.inr z)
        · rw [z]
          exact .inr hD) fun b z => R2.dom b z
      exact ⟨(hx envi R' o').1, fun env2 R2 o2 => (hx env2 R2 o2).2⟩
    refine lc_it w Pv ⟨env1, [], [], out, R1', g2, rfl, Nat.le_refl _, upd_same, .nil, fun a z => z, fun a o z _ => hD' a o z, dom_of hD'⟩ (fun i H' hi hP => (key i H' hP).1) (fun i x H' H2 hi hP hY => ?_) fun H' hP => ?_
    · have hk := (key i H' hP).2
      obtain ⟨envi, accv, accd, rest, R', e', ea, hal, hDl, hra, o', k', d'⟩ := hP
      obtain ⟨gr, d, hd, rd⟩ := hk envi R' o' i x H2 hi hY
      have ed : ds.drop i = d :: ds.drop (i + 1) := by
        obtain ⟨hl, hd⟩ := List.getElem?_eq_some_iff.mp hd
        rw [List.drop_eq_getElem_cons hl, hd]
      rw [ed] at e'
      unfold lcl at e'
      cases hno : noOwn envi vs with
      | false =>
        rw [hno] at e'
        cases e'
      | true =>
        rw [hno] at e'
        obtain ⟨enva, ga, e'⟩ := obind e'
        obtain ⟨⟨⟨frb, db⟩, envb⟩, gb, e'⟩ := obind e'
        have R2 : Re K ZD envi σ H2 := R'.grow0 gr
        have Rw : Re K ZD (wipeE envi vs) (wipe σ vs) H2 := R2.wipe hno
        have avw : ∀ b, Av (wipeE envi vs) (wipe σ vs) ZD b → Av envi σ ZD b := fun b z => z.imp (own_wipe hno).mp id
        refine hT ZD (wipeE envi vs) (wipe σ vs) H2 x d enva _ Rw (rd.less avw) ga fun σ3 R3 o3 k3 l3 => ⟨wipe_eq hj k3 l3, ?_⟩
        have hs3 : ∀ i, i ∉ vs → σ3[i]? = σ[i]? := fun i hi => by rw [k3 i fun z => hi (hj i z), wipe_get hi]
        have hl3 : σ3.length = σ.length := by rw [l3, wipe_length]
        have oA : ∀ a, Own enva σ3 a → Own envi σ a := fun a z => (own_wipe hno).mp (o3 a z)
        cases db with
        | bl b =>
          refine ⟨ZD, enva, frb, b, envb, R3, gb, fun H3 Rb tb => ?_⟩
          have oB : ∀ a, Own envb σ3 a → Own envi σ a := fun a z => oA a (tb.own a z)
          have kB : ∀ a o, H2 a = some o → ¬ Own envi σ a → H3 a = some o := fun a o z n => tb.keep a o z fun y => n (oA a y)
          have nD : ∀ env2 σ2 H2, Re K ZD env2 σ2 H2 → ¬ Own env2 σ2 Dl := fun env2 σ2 H2 r => (r.z Dl (.inr rfl)).2
          cases b with
          | false =>
            obtain ⟨R4, o4⟩ := R2.rest hno Rb hs3 hl3 oB kB
            refine iteF ⟨restE envi envb vs, accv, accd, rest, R4, e', ea, by omega, kB Dl _ (gr _ _ hDl) (nD _ _ _ R'), hra.step (fun a o z n => kB a o (gr a o z) fun y => n (.inl y)) (fun a z => .inl (z.imp (fun z => oB a (o4 a z)) id)), fun a z => o' a (oB a (o4 a z)), fun a o z n => kB a o (gr a o (k' a o z n)) fun y => n (o' a y), fun a z => tb.dom a (dom_of gr a (d' a z))⟩
          | true =>
            obtain ⟨⟨w4, envc⟩, gc, e'⟩ := obind e'
            obtain ⟨⟨out2, envF2⟩, gd, e'⟩ := obind e'
            cases e'
            refine iteT ⟨ZD, envb, w4, envc, Rb, gc, fun y H4 x4 => ?_⟩
            have oC : ∀ a, Own envc σ3 a → Own envi σ a := fun a z => oB a (x4.tr.own a z)
            have kC : ∀ a o, H2 a = some o → ¬ Own envi σ a → H4 a = some o := fun a o z n => x4.tr.keep a o (kB a o z n) fun y => n (oB a y)
            obtain ⟨R4, o4⟩ := R2.rest hno x4.re hs3 hl3 oC kC
            have hD4 : H4 Dl = some (.lst accv) := kC Dl _ (gr _ _ hDl) (nD _ _ _ R')
            have hra4 : RepAll K (Av (restE envi envc vs) σ ZD) H4 accv accd := hra.step (fun a o z n => kC a o (gr a o z) fun y => n (.inl y)) fun a z => .inl (z.imp (fun z => oC a (o4 a z)) id)
            have hy : Rep K (Av (restE envi envc vs) σ ZD) H4 y w4.2 := x4.rep.less fun a z => z.imp (o4 a) id
            have st5 : ∀ b u, H4 b = some u → ¬ Av (restE envi envc vs) σ ZD b → upd H4 Dl (.lst (accv ++ [y])) b = some u := fun b u z n => keep_ne b u (fun q => n (.inr (.inr q))) z
            have R5 : Re K ZD (restE envi envc vs) σ (upd H4 Dl (.lst (accv ++ [y]))) := by
              have nDo := nD _ _ _ R4
              have hne : ∀ a u, a ≠ Dl → H4 a = some u → upd H4 Dl (.lst (accv ++ [y])) a = some u := fun a u n z => keep_ne a u n z
              refine ⟨R4.len, fun i d g => ?_, fun i d g => ?_, R4.dist, fun a o z => (nomatch z), fun a z => ⟨?_, (R4.z a z).2⟩⟩
              · obtain ⟨v, h1, h2⟩ := R4.sh i d g
                exact ⟨v, h1, h2.step st5 fun a z => .inl z⟩
              · obtain ⟨a, o0, us, es, h1, h2, h3, h4⟩ := R4.ow i d g
                exact ⟨a, o0, us, es, h1, h2, hne a _ (fun q => nDo (by rw [← q]; exact ⟨i, d, g, h1⟩)) h3, h4.step st5 fun a z => .inl z⟩
              · by_cases q : a = Dl
                · rw [q, upd_same]
                  exact fun z => by cases z
                · rw [upd_ne q]
                  exact (R4.z a z).1
            refine ⟨accv, hD4, mil (by rw [hra.length]; omega), restE envi envc vs, accv ++ [y], accd ++ [w4.2], out2, R5, gd, ?_, ?_, upd_same, (hra4.append (.cons hy .nil)).step st5 fun a z => .inl z, fun a z => o' a (oC a (o4 a z)), fun a o z n => ?_, fun a z => ?_⟩
            · rw [List.append_assoc]
              exact ea
            · rw [List.length_append]
              show accd.length + 1 ≤ i + 1
              omega
            · refine keep_ne a o (fun q => ?_) (kC a o (gr a o (k' a o z n)) fun y => n (o' a y))
              rw [q, hD] at z
              cases z
            · by_cases q : a = Dl
              · rw [q, upd_same]
                exact fun z => by cases z
              · rw [upd_ne q]
                exact x4.tr.dom a (tb.dom a (dom_of gr a (d' a z)))
        | _ => cases e'
    · obtain ⟨envi, accv, accd, rest, R', e', ea, hal, hDl, hra, o', k', d'⟩ := hP
      rw [List.drop_eq_nil_of_le (Nat.le_refl _)] at e'
      cases e'
      rw [List.append_nil] at ea
      subst ea
      obtain ⟨R5, a5, o5⟩ := undo (fun b => b = Dl) envF H' R' k' o' fun b z => by rw [z]; exact hD
      have hn : H Dl = none := none_back (t1.dom Dl) hD
      have tr : Trn env σ H (undoE envF hid) H' := ⟨o5, fun a o z n => k' a o (t1.keep a o z n) fun y => n (t1.own a y), fun a z => d' a (t1.dom a z)⟩
      have r5 : RepAll K (Av (undoE envF hid) σ fun b => Z b ∨ b = Dl) H' accv accd := hra.less a5
      refine q (.ref Dl) H' ⟨R5.weakZ fun b z => .inl z, tr, ?_, fun _ => ⟨Dl, _, accv, accd, rfl, .lst, hn, hDl, R5, r5⟩⟩
      exact .lst hDl (fun z => by
        rcases z with z | z
        · exact (R5.z Dl (.inr rfl)).2 z
        · exact (R.z Dl z).1 hn) (r5.less fun b z => z.imp id .inl)
  · cases e
end
section
variable {X : Cx} {pos : Pos} {P : List Nat}
theorem st_yes : PTs X [] (STr X.K eYes) := ⟨fun pins s σ H Q I h => by
  obtain ⟨Z, env, fr, b, env', R, e, q⟩ := h
  cases e
  exact pts_nil.run pins s σ H Q I (q H R .refl)⟩
theorem st_ones {c : Expr} {t : EF} (h : PT X c (STr X.K t)) : PTs X [c] (STr X.K t) := pts_one h
theorem se_lc {elt tg iter : Expr} {ifs : List Expr} {scope : Scope} {own : List (Str × Nat)} {wi : TI} {g : TG} {src : SrcC} {T : TF} {js : List Nat} {c f : EF} (hi : PI X tg iter wi) (hs : SrcCOk X.K wi src) (ok : BlkOk X.N X.env.scope scope own) (hT : TgOk X.K g T js)
    (hg : ∀ (s : Shared) (H : Hp) (C : Addr) (cl : List (Str × Addr)) (fp : List Addr), PG (X.blk s H scope (compEnvC scope cl C X.env) fp) tg g) (ht : ∀ (s : Shared) (H : Hp) (C : Addr) (cl : List (Str × Addr)) (fp : List Addr), PTs (X.blk s H scope (compEnvC scope cl C X.env) fp) ifs (STr X.K c))
    (he : ∀ (s : Shared) (H : Hp) (C : Addr) (cl : List (Str × Addr)) (fp : List Addr), PE (X.blk s H scope (compEnvC scope cl C X.env) fp) elt (SEr X.K f)) (hc : X.calm = true) (hN : X.N.Nodup) (hj : ∀ j ∈ js, j ∈ own.map (·.2) := by decide) (hx : ∀ x, foldedSetIterable iter X.env x = pure x := by intro _; rfl) :
    PE X (.ListComp elt [⟨tg, iter, ifs, 0⟩] scope pos) (SEr X.K (eLc src T c f (own.map (·.2)))) := PEi (pe_lc hc hN hi ok hg ht he hx) fun _ _ _ q => eLc_go hs hT hj q
theorem ss_setLc (i : Nat) {y : Str} {py spos : Pos} {elt tg iter : Expr} {ifs : List Expr} {scope : Scope} {own : List (Str × Nat)} {wi : TI} {g : TG} {src : SrcC} {T : TF} {js : List Nat} {c f : EF} (hi : PI X tg iter wi) (hs : SrcCOk X.K wi src) (ok : BlkOk X.N X.env.scope scope own) (hT : TgOk X.K g T js)
    (hg : ∀ (s : Shared) (H : Hp) (C : Addr) (cl : List (Str × Addr)) (fp : List Addr), PG (X.blk s H scope (compEnvC scope cl C X.env) fp) tg g) (ht : ∀ (s : Shared) (H : Hp) (C : Addr) (cl : List (Str × Addr)) (fp : List Addr), PTs (X.blk s H scope (compEnvC scope cl C X.env) fp) ifs (STr X.K c))
    (he : ∀ (s : Shared) (H : Hp) (C : Addr) (cl : List (Str × Addr)) (fp : List Addr), PE (X.blk s H scope (compEnvC scope cl C X.env) fp) elt (SEr X.K f)) (hc : X.calm = true) (hN : X.N.Nodup)
    (hsw : swapsWith (.ListComp elt [⟨tg, iter, ifs, 0⟩] scope pos) (some (.Name y py)) spos.line X.env = pure true) (hy : X.N[i]? = some y := by rfl) (hyl : X.env.scope.names.lookup y = some .local := by rfl) (hj : ∀ j ∈ js, j ∈ own.map (·.2) := by decide) (hx : ∀ x, foldedSetIterable iter X.env x = pure x := by intro _; rfl) :
    PS X (.Assign [.Name y py] (.ListComp elt [⟨tg, iter, ifs, 0⟩] scope pos) spos) (SSr X.K P (sAsg P i (eLc src T c f (own.map (·.2))))) := PSi (ps_setLc hc hN hy hyl hsw hi ok hg ht he hx) fun D σ H q => by
  have h : SEr X.K (eLc src T c f (own.map (·.2))) σ H fun x H1 => gName i x σ H1 D.nx := sAsg_go q
  exact eLc_go hs hT hj h
end
end PI

namespace PI
open PySem PySem.Spec PyProof.Rows L2
/-! ### what a def promises, by what it is worth -/
def muts : List Bool → List V → List V
  | true :: ms, v :: vs => v :: muts ms vs
  | false :: ms, _ :: vs => muts ms vs
  | _, _ => []
def ArgR (K : PySem.W.Frag) (S : Addr → Prop) (H : Hp) : Bool → V → PI.D → Prop
  | false, v, d => Rep K S H v d
  | true, v, d => ∃ (a : Addr) (o : HO) (us : List V) (xs : List PI.D), v = V.ref a ∧ Cnt a o us xs d ∧ H a = some o ∧ RepAll K S H us xs
inductive ArgsR (K : PySem.W.Frag) (S : Addr → Prop) (H : Hp) : List Bool → List V → List PI.D → Prop
  | nil : ArgsR K S H [] [] []
  | cons {m : Bool} {ms : List Bool} {v : V} {vs : List V} {d : PI.D} {ds : List PI.D} : ArgR K S H m v d → ArgsR K S H ms vs ds → ArgsR K S H (m :: ms) (v :: vs) (d :: ds)
inductive OutsR (K : PySem.W.Frag) (S : Addr → Prop) (H : Hp) : List V → List PI.D → Prop
  | nil : OutsR K S H [] []
  | cons {a : Addr} {o : HO} {vs us : List V} {xs ds : List PI.D} {d : PI.D} : Cnt a o us xs d → H a = some o → RepAll K S H us xs → OutsR K S H vs ds → OutsR K S H (V.ref a :: vs) (d :: ds)
abbrev Cal := List PI.D → Option (W × List PI.D)
structure CPost (K : PySem.W.Frag) (S : Addr → Prop) (modes : List Bool) (vs : List V) (H : Hp) (w : W) (outs : List PI.D) (v : V) (H' : Hp) : Prop where
  keep : ∀ a o, H a = some o → V.ref a ∉ muts modes vs → H' a = some o
  dom : ∀ a, H a ≠ none → H' a ≠ none
  outs : OutsR K (fun b => S b ∨ (w.1 = true ∧ v = V.ref b)) H' (muts modes vs) outs
  old : w.1 = false → Rep K S H' v w.2
  new : w.1 = true → ∃ (a : Addr) (o : HO) (us : List V) (xs : List PI.D), v = V.ref a ∧ Cnt a o us xs w.2 ∧ H a = none ∧ H' a = some o ∧ RepAll K (fun b => S b ∨ b = a) H' us xs
def spOf (K : PySem.W.Frag) (modes : List Bool) (f : Cal) : Sp := fun vs H Q _ => ∃ (S : Addr → Prop) (ds : List PI.D) (w : W) (outs : List PI.D), (∀ a, S a → H a ≠ none) ∧ (∀ a, V.ref a ∈ muts modes vs → S a) ∧ ArgsR K S H modes vs ds ∧ (muts modes vs).Nodup ∧
  f ds = some (w, outs) ∧ ∀ v H', CPost K S modes vs H w outs v H' → Q v H'
/-! ### the def's own run -/
def envOf : List Bool → List PI.D → PI.Env
  | m :: ms, d :: ds => some (m, d) :: envOf ms ds
  | _, _ => []
def tp : Nat → List Bool → List Nat
  | _, [] => []
  | n, true :: ms => n :: tp (n + 1) ms
  | n, false :: ms => tp (n + 1) ms
def fins (env : PI.Env) : List Nat → Option (List PI.D)
  | [] => some []
  | i :: is => match env[i]? with
    | some (some (true, d)) => (fins env is).bind fun ds => some (d :: ds)
    | _ => none
def runB (modes : List Bool) (n : Nat) (body : SF) : Cal := fun ds => (body (envOf modes ds ++ List.replicate (n - modes.length) none)).bind fun r => match r.1 with
  | .rt w => (fins r.2 (tp 0 modes)).bind fun o => some (w, o)
  | .nx => (fins r.2 (tp 0 modes)).bind fun o => some ((false, .non), o)
  | _ => none
section
variable {K : PySem.W.Frag} {S : Addr → Prop} {H H' : Hp}
theorem ArgsR.len1 {ms : List Bool} {vs : List V} {ds : List PI.D} (h : ArgsR K S H ms vs ds) : vs.length = ms.length ∧ ds.length = ms.length := by
  induction h with
  | nil => exact ⟨rfl, rfl⟩
  | cons _ _ ih => exact ⟨congrArg Nat.succ ih.1, congrArg Nat.succ ih.2⟩
theorem ArgsR.at {ms : List Bool} {vs : List V} {ds : List PI.D} (h : ArgsR K S H ms vs ds) : ∀ {i : Nat} {x : Bool × PI.D}, (envOf ms ds)[i]? = some (some x) → ∃ v, vs[i]? = some v ∧ ms[i]? = some x.1 ∧ ArgR K S H x.1 v x.2 := by
  induction h with
  | nil => intro i x e; simp [envOf] at e
  | cons a t ih =>
    intro i x e
    cases i with
    | zero =>
      have e := Option.some.inj (Option.some.inj e)
      subst e
      exact ⟨_, rfl, rfl, a⟩
    | succ i => exact ih (i := i) e
theorem ArgsR.env_len {ms : List Bool} {vs : List V} {ds : List PI.D} (h : ArgsR K S H ms vs ds) : (envOf ms ds).length = vs.length := by
  induction h with
  | nil => rfl
  | cons _ _ ih => exact congrArg Nat.succ ih
theorem mem_muts : ∀ {ms : List Bool} {vs : List V} {v : V}, v ∈ muts ms vs ↔ ∃ i : Nat, ms[i]? = some true ∧ vs[i]? = some v
  | [], _, v => ⟨fun h => by simp [muts] at h, fun ⟨i, h, _⟩ => by simp at h⟩
  | _ :: _, [], v => ⟨fun h => by simp [muts] at h, fun ⟨i, _, h⟩ => by simp at h⟩
  | true :: ms, u :: vs, v => by
    show v ∈ u :: muts ms vs ↔ _
    rw [List.mem_cons, mem_muts]
    constructor
    · rintro (rfl | ⟨i, h1, h2⟩)
      · exact ⟨0, rfl, rfl⟩
      · exact ⟨i + 1, h1, h2⟩
    · rintro ⟨i, h1, h2⟩
      cases i with
      | zero => exact .inl (Option.some.inj h2).symm
      | succ i => exact .inr ⟨i, h1, h2⟩
  | false :: ms, u :: vs, v => by
    show v ∈ muts ms vs ↔ _
    rw [mem_muts]
    constructor
    · rintro ⟨i, h1, h2⟩
      exact ⟨i + 1, h1, h2⟩
    · rintro ⟨i, h1, h2⟩
      cases i with
      | zero => cases h1
      | succ i => exact ⟨i, h1, h2⟩
theorem muts_inj : ∀ {ms : List Bool} {vs : List V} {v : V} {i j : Nat}, (muts ms vs).Nodup → ms[i]? = some true → ms[j]? = some true → vs[i]? = some v → vs[j]? = some v → i = j
  | [], _, v, i, j, _, h, _, _, _ => by simp at h
  | _ :: _, [], v, i, j, _, _, _, h, _ => by simp at h
  | true :: ms, u :: vs, v, i, j, nd, h1, h2, h3, h4 => by
    have nd : (u :: muts ms vs).Nodup := nd
    obtain ⟨n1, n2⟩ := List.nodup_cons.mp nd
    cases i with
    | zero =>
      cases j with
      | zero => rfl
      | succ j =>
        have e : u = v := Option.some.inj h3
        subst e
        exact absurd (mem_muts.mpr ⟨j, h2, h4⟩) n1
    | succ i =>
      cases j with
      | zero =>
        have e : u = v := Option.some.inj h4
        subst e
        exact absurd (mem_muts.mpr ⟨i, h1, h3⟩) n1
      | succ j => exact congrArg Nat.succ (muts_inj (ms := ms) (vs := vs) n2 h1 h2 h3 h4)
  | false :: ms, u :: vs, v, i, j, nd, h1, h2, h3, h4 => by
    cases i with
    | zero => cases h1
    | succ i =>
      cases j with
      | zero => cases h2
      | succ j => exact congrArg Nat.succ (muts_inj (ms := ms) (vs := vs) nd h1 h2 h3 h4)
theorem mem_tp : ∀ {ms : List Bool} {n i : Nat}, i ∈ tp n ms ↔ ∃ j, i = n + j ∧ ms[j]? = some true
  | [], n, i => ⟨fun h => (nomatch h), fun ⟨j, _, h⟩ => by simp at h⟩
  | true :: ms, n, i => by
    show i ∈ n :: tp (n + 1) ms ↔ _
    rw [List.mem_cons, mem_tp]
    constructor
    · rintro (rfl | ⟨j, h1, h2⟩)
      · exact ⟨0, rfl, rfl⟩
      · exact ⟨j + 1, by omega, h2⟩
    · rintro ⟨j, h1, h2⟩
      cases j with
      | zero => exact .inl h1
      | succ j => exact .inr ⟨j, by omega, h2⟩
  | false :: ms, n, i => by
    show i ∈ tp (n + 1) ms ↔ _
    rw [mem_tp]
    constructor
    · rintro ⟨j, h1, h2⟩
      exact ⟨j + 1, by omega, h2⟩
    · rintro ⟨j, h1, h2⟩
      cases j with
      | zero => cases h2
      | succ j => exact ⟨j, by omega, h2⟩
theorem fins_own {env : PI.Env} : ∀ {is : List Nat} {outs : List PI.D}, fins env is = some outs → ∀ i ∈ is, ∃ d, env[i]? = some (some (true, d))
  | [], _, _, i, hi => by cases hi
  | k :: is, outs, h, i, hi => by
    unfold fins at h
    split at h
    · rename_i d g
      obtain ⟨ds, h1, h⟩ := obind h
      rcases List.mem_cons.mp hi with rfl | hi
      · exact ⟨d, g⟩
      · exact fins_own h1 i hi
    · cases h
/-- the pinned lists at the end -/
theorem fins_outs {env : PI.Env} {σ : L2.St} {Z S' : Addr → Prop} (R : Re K Z env σ H) : ∀ {ms : List Bool} {vs : List V} {n : Nat} {outs : List PI.D}, (∀ j v, ms[j]? = some true → vs[j]? = some v → σ[n + j]? = some (some v)) → fins env (tp n ms) = some outs → vs.length = ms.length → (∀ a, S' a → Av env σ Z a) → OutsR K S' H (muts ms vs) outs
  | [], _, n, outs, _, h, _, _ => by
    cases h
    exact .nil
  | _ :: _, [], n, outs, _, h, l, _ => by cases l
  | true :: ms, v :: vs, n, outs, hp, h, l, hs => by
    have h : fins env (n :: tp (n + 1) ms) = some outs := h
    unfold fins at h
    split at h
    · rename_i d g
      obtain ⟨ds, h1, h⟩ := obind h
      cases h
      obtain ⟨a, o0, us, xs, k1, k2, k3, k4⟩ := R.ow n d g
      have kv := hp 0 v rfl rfl
      rw [Nat.add_zero, k1] at kv
      cases kv
      exact .cons k2 k3 (k4.less hs) (fins_outs R (ms := ms) (vs := vs) (n := n + 1) (fun j u h2 h3 => by
        have := hp (j + 1) u h2 h3
        rw [← this]
        congr 1
        omega) h1 (Nat.succ.inj l) hs)
    · cases h
  | false :: ms, v :: vs, n, outs, hp, h, l, hs => fins_outs R (ms := ms) (vs := vs) (n := n + 1) (fun j u h2 h3 => by
        have := hp (j + 1) u h2 h3
        rw [← this]
        congr 1
        omega) h (Nat.succ.inj l) hs
theorem start_get {N : List Str} {vs : List V} {i : Nat} {v : V} (h : (L2.start N vs)[i]? = some (some v)) : vs[i]? = some v := by
  unfold L2.start at h
  by_cases hi : i < vs.length
  · rw [List.getElem?_append_left (by simpa using hi), List.getElem?_map] at h
    cases e : vs[i]? with
    | none =>
      rw [e] at h
      cases h
    | some u =>
      rw [e] at h
      exact congrArg some (Option.some.inj (Option.some.inj h))
  · rw [List.getElem?_append_right (by simpa using hi), List.getElem?_replicate] at h
    split at h <;> cases h
theorem start_of {N : List Str} {vs : List V} {i : Nat} {v : V} (h : vs[i]? = some v) : (L2.start N vs)[i]? = some (some v) := by
  unfold L2.start
  rw [List.getElem?_append_left (by rw [List.length_map]; exact lt_of_get h), List.getElem?_map, h]
  rfl
/-- THE RULE for a def -/
theorem run_ok {modes : List Bool} {N : List Str} {body : SF} {f : Cal} {vs : List V} {Q : VK} {E : XK} (hn : modes.length ≤ N.length) (hf : ∀ ds w outs, f ds = some (w, outs) → runB modes N.length body ds = some (w, outs)) (h : spOf K modes f vs H Q E) :
    SSr K (tp 0 modes) body { nx := fun _ H' => Q .non H', rt := Q } (L2.start N vs) H := by
  obtain ⟨S, ds, w, outs, hS, hM, hA, hnd, hfd, q⟩ := h
  have hr := hf ds w outs hfd
  obtain ⟨⟨c, env'⟩, h1, h2⟩ := obind hr
  obtain ⟨lv, ld⟩ := hA.len1
  have he := hA.env_len
  let env0 := envOf modes ds ++ List.replicate (N.length - modes.length) (none : Option (Bool × PI.D))
  have at0 : ∀ (i : Nat) (x : Bool × PI.D), env0[i]? = some (some x) → ∃ v, vs[i]? = some v ∧ modes[i]? = some x.1 ∧ ArgR K S H x.1 v x.2 := fun i x e => by
    by_cases hi : i < (envOf modes ds).length
    · rw [List.getElem?_append_left hi] at e
      exact hA.at e
    · rw [List.getElem?_append_right (by omega), List.getElem?_replicate] at e
      split at e <;> cases e
  have own0 : ∀ a, Own env0 (L2.start N vs) a → V.ref a ∈ muts modes vs := fun a ⟨i, d, e1, e2⟩ => by
    obtain ⟨v, k1, k2, k3⟩ := at0 i _ e1
    have := start_get e2
    exact mem_muts.mpr ⟨i, k2, this⟩
  have own1 : ∀ a, V.ref a ∈ muts modes vs → Own env0 (L2.start N vs) a := fun a ha => by
    obtain ⟨i, k1, k2⟩ := mem_muts.mp ha
    have hi : i < modes.length := lt_of_get k1
    have : ∃ d, (envOf modes ds)[i]? = some (some (true, d)) := by
      have key : ∀ (ms : List Bool) (es : List PI.D) (j : Nat), es.length = ms.length → ms[j]? = some true → ∃ d, (envOf ms es)[j]? = some (some (true, d)) := by
        intro ms
        induction ms with
        | nil => intro es j _ z; simp at z
        | cons m ms ih =>
          intro es j l z
          cases es with
          | nil => cases l
          | cons d es =>
            cases j with
            | zero =>
              have : m = true := Option.some.inj z
              subst this
              exact ⟨d, rfl⟩
            | succ j => exact ih es j (Nat.succ.inj l) z
      exact key modes ds i ld k1
    obtain ⟨d, e⟩ := this
    exact ⟨i, d, by show (envOf modes ds ++ _)[i]? = _; rw [List.getElem?_append_left (lt_of_get e)]; exact e, start_of k2⟩
  let Z : Addr → Prop := fun b => S b ∧ ¬ Own env0 (L2.start N vs) b
  have av : ∀ b, Av env0 (L2.start N vs) Z b → S b := fun b z => z.elim (fun z => hM b (own0 b z)) fun z => z.1
  have R0 : Re K Z env0 (L2.start N vs) H := by
    refine ⟨?_, fun i d e => ?_, fun i d e => ?_, fun i j d e a e1 e2 s1 s2 => ?_, fun a o z => (nomatch z), fun a z => ⟨hS a z.1, z.2⟩⟩
    · show (envOf modes ds ++ _).length = (vs.map some ++ List.replicate (N.length - vs.length) none).length
      rw [List.length_append, List.length_append, List.length_replicate, List.length_replicate, List.length_map, he, lv]
    · obtain ⟨v, k1, k2, k3⟩ := at0 i _ e
      exact ⟨v, start_of k1, Rep.less av k3⟩
    · obtain ⟨v, k1, k2, a, o0, us, xs, k3, k4, k5, k6⟩ := at0 i _ e
      subst k3
      exact ⟨a, o0, us, xs, start_of k1, k4, k5, k6.less av⟩
    · obtain ⟨v, k1, k2, k3⟩ := at0 i _ e1
      obtain ⟨u, l1, l2, l3⟩ := at0 j _ e2
      exact muts_inj hnd k2 l2 (start_get s1) (start_get s2)
  refine ⟨Z, env0, c, env', R0, h1, ?_⟩
  -- the ends
  have pin : ∀ {σ' : L2.St}, PinK (tp 0 modes) (L2.start N vs) σ' → ∀ j v, modes[j]? = some true → vs[j]? = some v → σ'[0 + j]? = some (some v) := fun {σ'} k j v e1 e2 => by
    rw [k (0 + j) (mem_tp.mpr ⟨j, rfl, e1⟩), Nat.zero_add]
    exact start_of e2
  have keepM : ∀ {σ' : L2.St} {H' : Hp}, Stp env0 (L2.start N vs) H env' σ' H' → ∀ a o, H a = some o → V.ref a ∉ muts modes vs → H' a = some o := fun {σ' H'} t a o z n => t.keep a o z fun y => n (own0 a y)
  have ownF : ∀ {σ' : L2.St} {o : List PI.D}, PinK (tp 0 modes) (L2.start N vs) σ' → fins env' (tp 0 modes) = some o → ∀ b, Own env0 (L2.start N vs) b → Own env' σ' b := fun {σ' o} k hfi b z => by
    obtain ⟨i, e1, e2⟩ := mem_muts.mp (own0 b z)
    obtain ⟨d, g⟩ := fins_own hfi i (mem_tp.mpr ⟨i, by omega, e1⟩)
    have := pin k i _ e1 e2
    rw [Nat.zero_add] at this
    exact ⟨i, d, g, this⟩
  have sub : ∀ {σ' : L2.St} {o : List PI.D}, PinK (tp 0 modes) (L2.start N vs) σ' → fins env' (tp 0 modes) = some o → ∀ b, S b → Av env' σ' Z b := fun {σ' o} k hfi b z => by
    by_cases hb : Own env0 (L2.start N vs) b
    · exact .inl (ownF k hfi b hb)
    · exact .inr ⟨z, hb⟩
  cases c with
  | bk => cases h2
  | ct => cases h2
  | nx =>
    obtain ⟨o, hfi, h2⟩ := obind h2
    cases h2
    exact fun σ' H' R' t k => q .non H' ⟨keepM t, t.dom, fins_outs R' (pin k) hfi lv (fun a z => by
      rcases z with z | z
      · exact sub k hfi a z
      · cases z.1), fun _ => .non, fun z => (nomatch z)⟩
  | rt w' =>
    obtain ⟨o, hfi, h2⟩ := obind h2
    cases h2
    intro v σ' H' t k r
    obtain ⟨fr, d⟩ := w
    cases fr with
    | false =>
      obtain ⟨R', rp⟩ := r.old rfl
      exact q v H' ⟨keepM t, t.dom, fins_outs R' (pin k) hfi lv (fun a z => by
        rcases z with z | z
        · exact sub k hfi a z
        · cases z.1), fun _ => rp.less (sub k hfi), fun z => (nomatch z)⟩
    | true =>
      obtain ⟨a, o0, us, xs, k1, k2, k3, k4, k5, k6⟩ := r.new rfl
      have na : ¬ Own env' σ' a := (k5.z a (.inr rfl)).2
      have hn : H a = none := by
        rcases k3 with k3 | k3
        · exact absurd (ownF k hfi a k3) na
        · exact k3
      have sub2 : ∀ b, (S b ∨ b = a) → Av env' σ' (fun b => Z b ∨ b = a) b := fun b z => by
        rcases z with z | z
        · exact (sub k hfi b z).imp id .inl
        · exact .inr (.inr z)
      refine q v H' ⟨keepM t, t.dom, fins_outs k5 (pin k) hfi lv (fun b z => sub2 b (z.imp id fun z => ?_)), fun z => (nomatch z), fun _ => ⟨a, o0, us, xs, k1, k2, hn, k4, k6.less sub2⟩⟩
      have := z.2
      rw [k1] at this
      cases this
      rfl
end
/-! ### calls -/
def okOp (env : PI.Env) : Bool → Op → Bool
  | false, .val _ => true
  | true, .slot i => ownAt env i
  | _, _ => false
def okOps (env : PI.Env) : List Bool → List Op → Bool
  | [], [] => true
  | m :: ms, o :: os => okOp env m o && okOps env ms os
  | _, _ => false
def slotsOf : List Bool → List Op → List Nat
  | true :: ms, .slot i :: os => i :: slotsOf ms os
  | _ :: ms, _ :: os => slotsOf ms os
  | _, _ => []
def wback : List Nat → List PI.D → PI.Env → Option PI.Env
  | [], [], env => some env
  | i :: is, d :: ds, env => (wback is ds env).bind fun e => some (e.set i (some (true, d)))
  | _, _, _ => none
def pick {α : Type} (is : List Nat) (l : List α) : List α := is.filterMap fun i => l[i]?
def nodupB : List Nat → Bool
  | [] => true
  | i :: is => !is.contains i && nodupB is
def callO (modes : List Bool) (f : Cal) (ops : List Op) (env : PI.Env) : Option (W × PI.Env) := match okOps env modes ops && nodupB (slotsOf modes ops) with
  | true => (gets env ops).bind fun ds => (f ds).bind fun r => (wback (slotsOf modes ops) r.2 env).bind fun e => some (r.1, e)
  | false => none
def eCall (modes : List Bool) (f : Cal) (as : List Opd) : EF := fun env => (runs as env).bind fun r => callO modes f r.1 r.2
def eCallK (modes : List Bool) (f : Cal) (as : List Opd) (is : List Nat) : EF := fun env => (runs as env).bind fun r => callO modes f (pick is r.1) r.2
section
variable {K : PySem.W.Frag} {Z : Addr → Prop} {env env1 env2 env' : PI.Env} {σ : L2.St} {H H1 H2 : Hp}
theorem ownAt_get {i : Nat} (h : ownAt env i = true) : ∃ d, env[i]? = some (some (true, d)) := by
  unfold ownAt at h
  split at h
  · rename_i d g
    exact ⟨_, g⟩
  · cases h
theorem nodupB_ok : ∀ {is : List Nat}, nodupB is = true → is.Nodup
  | [], _ => .nil
  | i :: is, h => by
    obtain ⟨h1, h2⟩ := Bool.and_eq_true_iff.mp h
    refine List.nodup_cons.mpr ⟨fun z => ?_, nodupB_ok h2⟩
    rw [List.contains_eq_mem, decide_eq_true z] at h1
    cases h1
theorem args_of {S : Addr → Prop} (R : Re K Z env σ H) : ∀ {modes : List Bool} {ops : List Op} {vs : List V} {ds : List PI.D}, okOps env modes ops = true → OReps K (Av env σ Z) σ H ops vs → gets env ops = some ds → ArgsR K (Av env σ Z) H modes vs ds ∧
    (muts modes vs).length = (slotsOf modes ops).length ∧ ∀ (k : Nat) (v : V), (muts modes vs)[k]? = some v → ∃ (i : Nat) (d : PI.D) (a : Addr), (slotsOf modes ops)[k]? = some i ∧ env[i]? = some (some (true, d)) ∧ σ[i]? = some (some v) ∧ v = V.ref a
  | [], [], vs, ds, _, o, g => by
    cases o
    cases g
    exact ⟨.nil, rfl, fun k v h => by cases h⟩
  | [], _ :: _, vs, ds, h, _, _ => by cases h
  | _ :: _, [], vs, ds, h, _, _ => by cases h
  | m :: ms, op :: os, vs, ds, h, o, g => by
    obtain ⟨h1, h2⟩ := Bool.and_eq_true_iff.mp h
    cases o with
    | cons o1 o2 =>
      unfold gets at g
      obtain ⟨d, g1, g⟩ := obind g
      obtain ⟨es, g2, g⟩ := obind g
      cases g
      obtain ⟨i1, i2, i3⟩ := args_of (S := S) R h2 o2 g2
      cases m with
      | false =>
        cases op with
        | val e =>
          cases g1
          exact ⟨.cons (m := false) o1 i1, i2, i3⟩
        | slot i => cases h1
      | true =>
        cases op with
        | val e => cases h1
        | slot i =>
          obtain ⟨d0, k2⟩ := ownAt_get (show ownAt env i = true from h1)
          obtain ⟨a, o0, vs0, ds0, k1, kc, k3, k4⟩ := R.ow i _ k2
          have o1 : σ[i]? = some (some _) := o1
          rw [k1] at o1
          cases o1
          have g1 : (match env[i]? with | some (some p) => some p.2 | _ => none) = some d := g1
          rw [k2] at g1
          cases g1
          refine ⟨.cons (m := true) ⟨a, o0, vs0, ds0, rfl, kc, k3, k4⟩ i1, congrArg Nat.succ i2, fun k v hk => ?_⟩
          cases k with
          | zero =>
            have e : V.ref a = v := Option.some.inj hk
            subst e
            exact ⟨i, _, a, rfl, k2, k1, rfl⟩
          | succ k => exact i3 k v hk
theorem wback_get : ∀ {is : List Nat} {ds : List PI.D} {env e : PI.Env}, wback is ds env = some e → is.Nodup → (∀ i ∈ is, i < env.length) → e.length = env.length ∧ (∀ (k i : Nat), is[k]? = some i → ∃ d : PI.D, ds[k]? = some d ∧ e[i]? = some (some (true, d))) ∧ ∀ (i : Nat), i ∉ is → e[i]? = env[i]?
  | [], [], env, e, h, _, _ => by
    cases h
    exact ⟨rfl, fun k i z => by simp at z, fun i _ => rfl⟩
  | [], _ :: _, _, _, h, _, _ => by cases h
  | _ :: _, [], _, _, h, _, _ => by cases h
  | j :: is, d :: ds, env, e, h, nd, hl => by
    unfold wback at h
    obtain ⟨e1, h1, h⟩ := obind h
    cases h
    obtain ⟨n1, n2⟩ := List.nodup_cons.mp nd
    obtain ⟨l, a, b⟩ := wback_get h1 n2 fun i hi => hl i (List.mem_cons_of_mem _ hi)
    refine ⟨by rw [List.length_set]; exact l, fun k i z => ?_, fun i hi => ?_⟩
    · cases k with
      | zero =>
        have z : j = i := Option.some.inj z
        subst z
        exact ⟨d, rfl, List.getElem?_set_self (by rw [l]; exact hl j List.mem_cons_self)⟩
      | succ k =>
        have z : is[k]? = some i := z
        obtain ⟨d', z1, z2⟩ := a k i z
        refine ⟨d', z1, ?_⟩
        rw [List.getElem?_set_ne fun q => n1 (by rw [q]; exact List.mem_of_getElem? z)]
        exact z2
    · rw [List.getElem?_set_ne fun q => hi (by rw [q]; exact List.mem_cons_self)]
      exact b i fun z => hi (List.mem_cons_of_mem _ z)
theorem OutsR.at {S : Addr → Prop} {vs : List V} {ds : List PI.D} (h : OutsR K S H vs ds) : ∀ {k : Nat} {v : V}, vs[k]? = some v → ∃ (a : Addr) (o : HO) (us : List V) (xs : List PI.D) (d : PI.D), v = V.ref a ∧ ds[k]? = some d ∧ Cnt a o us xs d ∧ H a = some o ∧ RepAll K S H us xs := by
  induction h with
  | nil => intro k v e; simp at e
  | cons hc h1 h2 _ ih =>
    intro k v e
    cases k with
    | zero =>
      have e := Option.some.inj e
      subst e
      exact ⟨_, _, _, _, _, rfl, rfl, hc, h1, h2⟩
    | succ k => exact ih (k := k) e
theorem callO_go {modes : List Bool} {f : Cal} {ops : List Op} {vs : List V} {w : W} {Q : VK} {E : XK} (R : Re K Z env1 σ H1) (t : Trn env σ H env1 H1) (o : OReps K (Av env1 σ Z) σ H1 ops vs) (e : callO modes f ops env1 = some (w, env')) (q : ∀ v H', Res K Z env σ H w env' v H' → Q v H') : spOf K modes f vs H1 Q E := by
  unfold callO at e
  cases ho : okOps env1 modes ops && nodupB (slotsOf modes ops) with
  | false =>
    rw [ho] at e
    cases e
  | true =>
    rw [ho] at e
    obtain ⟨h1, h2⟩ := Bool.and_eq_true_iff.mp ho
    have nd := nodupB_ok h2
    obtain ⟨ds, g1, e⟩ := obind e
    obtain ⟨⟨w2, outs⟩, g2, e⟩ := obind e
    obtain ⟨e1, g3, e⟩ := obind e
    have hw : w = w2 := (congrArg Prod.fst (Option.some.inj e)).symm
    have hen : env' = e1 := (congrArg Prod.snd (Option.some.inj e)).symm
    subst hw hen
    obtain ⟨hA, hl, hm⟩ := args_of (S := Z) R h1 o g1
    have inv : ∀ {k : Nat} {i : Nat}, (slotsOf modes ops)[k]? = some i → ∃ (d : PI.D) (a : Addr), (muts modes vs)[k]? = some (V.ref a) ∧ env1[i]? = some (some (true, d)) ∧ σ[i]? = some (some (V.ref a)) := fun {k i} z => by
      have hk : k < (muts modes vs).length := by rw [hl]; exact lt_of_get z
      obtain ⟨j, d, a, z1, z2, z3, z4⟩ := hm k _ (List.getElem?_eq_getElem hk)
      rw [z] at z1
      cases z1
      exact ⟨d, a, by rw [List.getElem?_eq_getElem hk, z4], z2, by rw [z3, z4]⟩
    have mown : ∀ a, V.ref a ∈ muts modes vs → Own env1 σ a := fun a ha => by
      obtain ⟨k, hk⟩ := List.getElem?_of_mem ha
      obtain ⟨i, d, b, z1, z2, z3, z4⟩ := hm k _ hk
      exact ⟨i, d, z2, z3⟩
    have mnd : (muts modes vs).Nodup := by
      refine List.pairwise_iff_getElem.mpr fun j k hj hk hjk he => ?_
      have hk' : k < (slotsOf modes ops).length := by rw [← hl]; exact hk
      have hj' : j < (slotsOf modes ops).length := by omega
      obtain ⟨d1, a1, x1, x2, x3⟩ := inv (List.getElem?_eq_getElem hj')
      obtain ⟨d2, a2, y1, y2, y3⟩ := inv (List.getElem?_eq_getElem hk')
      rw [List.getElem?_eq_getElem hj] at x1
      rw [List.getElem?_eq_getElem hk] at y1
      have he2 := (Option.some.inj x1).symm.trans (he.trans (Option.some.inj y1))
      cases he2
      have := R.dist _ _ _ _ _ x2 y2 x3 y3
      exact (List.pairwise_iff_getElem.mp nd) j k hj' hk' hjk this
    refine ⟨Av env1 σ Z, ds, w, outs, R.dom, fun a ha => .inl (mown a ha), hA, mnd, g2, fun v H2 c => q v H2 ?_⟩
    obtain ⟨el, ea, eb⟩ := wback_get g3 nd fun i hi => by
      obtain ⟨k, hk⟩ := List.getElem?_of_mem hi
      obtain ⟨d, a, _, z, _⟩ := inv hk
      exact lt_of_get z
    have st : ∀ b u, H1 b = some u → ¬ Av env1 σ Z b → H2 b = some u := fun b u z n => c.keep b u z fun y => n (.inl (mown b y))
    have slot_of : ∀ {i : Nat} {d : PI.D}, env'[i]? = some (some (true, d)) → (∃ k, (slotsOf modes ops)[k]? = some i ∧ outs[k]? = some d) ∨ (i ∉ slotsOf modes ops ∧ env1[i]? = some (some (true, d))) := fun {i d} z => by
      by_cases hi : i ∈ slotsOf modes ops
      · obtain ⟨k, hk⟩ := List.getElem?_of_mem hi
        obtain ⟨d', z1, z2⟩ := ea k i hk
        rw [z] at z2
        cases z2
        exact .inl ⟨k, hk, z1⟩
      · rw [eb i hi] at z
        exact .inr ⟨hi, z⟩
    have own1 : ∀ b, Own env' σ b → Own env1 σ b := fun b ⟨i, d, z1, z2⟩ => by
      rcases slot_of z1 with ⟨k, y1, _⟩ | ⟨_, y⟩
      · obtain ⟨d', a, _, x2, _⟩ := inv y1
        exact ⟨i, d', x2, z2⟩
      · exact ⟨i, d, y, z2⟩
    have hAv : ∀ {Z' : Addr → Prop}, (∀ b, Z' b → Z b ∨ H1 b = none) → ∀ b, Av env' σ Z' b → Av env1 σ Z b ∨ H1 b = none := fun {Z'} hz b z => by
      rcases z with z | z
      · exact .inl (.inl (own1 b z))
      · exact (hz b z).imp .inr id
    have main : ∀ Z' : Addr → Prop, (∀ b, Z' b → Z b ∨ H1 b = none) → (∀ b, Z' b → H2 b ≠ none) → (∀ b, Av env' σ Z' b → Av env1 σ Z b ∨ (w.1 = true ∧ v = V.ref b)) → Re K Z' env' σ H2 := fun Z' hz hz2 hz3 => by
      have hnz : ∀ b, Z' b → ¬ Own env' σ b := fun b z y => by
        rcases hz b z with z | z
        · exact (R.z b z).2 (own1 b y)
        · exact R.dom b (.inl (own1 b y)) z
      refine ⟨by rw [el]; exact R.len, fun i d z => ?_, fun i d z => ?_, fun i j d e' a z1 z2 s1 s2 => ?_, fun a o z => (nomatch z), fun a z => ⟨hz2 a z, hnz a z⟩⟩
      · have hi : i ∉ slotsOf modes ops := fun hi => by
          obtain ⟨k, hk⟩ := List.getElem?_of_mem hi
          obtain ⟨d', z1, z2⟩ := ea k i hk
          rw [z] at z2
          cases z2
        rw [eb i hi] at z
        obtain ⟨u, k1, k2⟩ := R.sh i d z
        exact ⟨u, k1, k2.step st (hAv hz)⟩
      · rcases slot_of z with ⟨k, y1, y2⟩ | ⟨hi, y⟩
        · obtain ⟨d', a, x1, x2, x3⟩ := inv y1
          obtain ⟨a', o0, us, xs, dd, w1, w2, wc, w3, w4⟩ := c.outs.at x1
          cases w1
          rw [y2] at w2
          cases w2
          exact ⟨a, o0, us, xs, x3, wc, w3, w4.less hz3⟩
        · obtain ⟨a, o0, us, xs, k1, k2, k3, k4⟩ := R.ow i d y
          refine ⟨a, o0, us, xs, k1, k2, c.keep a _ k3 fun ha => ?_, k4.step st (hAv hz)⟩
          obtain ⟨k, hk⟩ := List.getElem?_of_mem ha
          obtain ⟨j, d', b, z1, z2, z3, z4⟩ := hm k _ hk
          have := R.dist _ _ _ _ _ y z2 k1 z3
          subst this
          exact hi (List.mem_of_getElem? z1)
      · have : ∀ {i : Nat} {d : PI.D}, env'[i]? = some (some (true, d)) → ∃ d', env1[i]? = some (some (true, d')) := fun {i d} z => by
          rcases slot_of z with ⟨k, y1, _⟩ | ⟨_, y⟩
          · obtain ⟨d', _, _, x2, _⟩ := inv y1
            exact ⟨d', x2⟩
          · exact ⟨d, y⟩
        obtain ⟨d1, y1⟩ := this z1
        obtain ⟨d2, y2⟩ := this z2
        exact R.dist i j d1 d2 a y1 y2 s1 s2
    have RZ : Re K Z env' σ H2 := main Z (fun b z => .inl z) (fun b z => c.dom b (R.z b z).1) fun b z => .inl (z.imp (own1 b) id)
    have tr : Trn env σ H env' H2 := ⟨fun a z => t.own a (own1 a z), fun a u z n => c.keep a u (t.keep a u z n) fun y => n (t.own a (mown a y)), fun a z => c.dom a (t.dom a z)⟩
    obtain ⟨fr, d⟩ := w
    cases fr with
    | false => exact ⟨RZ, tr, (c.old rfl).less fun b z => z.imp (own1 b) id, fun z => (nomatch z)⟩
    | true =>
      obtain ⟨a, o0, us, xs, k1, k2, k3, k4, k5⟩ := c.new rfl
      subst k1
      have av2 : ∀ b, Av env' σ (fun b => Z b ∨ b = a) b → Av env1 σ Z b ∨ b = a := fun b z => by
        rcases z with z | z | z
        · exact .inl (.inl (own1 b z))
        · exact .inl (.inr z)
        · exact .inr z
      have hr : RepAll K (Av env' σ fun b => Z b ∨ b = a) H2 us xs := k5.less av2
      refine ⟨RZ, tr, .of_cnt k2 k4 (fun z => ?_) (hr.less fun b z => z.imp id .inl), fun _ => ⟨a, o0, us, xs, rfl, k2, none_back (t.dom a) k3, k4, main (fun b => Z b ∨ b = a) (fun b z => z.imp id fun z => by rw [z]; exact k3) (fun b z => ?_) (fun b z => (av2 b z).imp id fun z => ⟨rfl, by rw [z]⟩), hr⟩⟩
      · exact R.dom a (z.imp (own1 a) id) k3
      · rcases z with z | z
        · exact c.dom b (R.z b z).1
        · rw [z, k4]
          exact fun z => by cases z
theorem eCall_go {modes : List Bool} {f : Cal} {as : List Opd} {Q : VK} {E : XK} (h : SEr K (eCall modes f as) σ H Q) : tCall (spOf K modes f) [] E (SAr K as) σ H Q := by
  obtain ⟨Z, env, w, env', R, e, q⟩ := h
  obtain ⟨⟨ops, env1⟩, h1, e⟩ := obind e
  refine SAr.go R h1 fun vs H1 R1 t1 o1 => ?_
  show spOf K modes f (vs ++ []) H1 Q E
  rw [List.append_nil]
  exact callO_go R1 t1 o1 e q
theorem OReps.pick {S : Addr → Prop} {ops : List Op} {vs : List V} (h : OReps K S σ H ops vs) : ∀ is : List Nat, OReps K S σ H (PI.pick is ops) (PI.pick is vs) := by
  have key : ∀ i : Nat, (ops[i]? = none ∧ vs[i]? = none) ∨ ∃ o v, ops[i]? = some o ∧ vs[i]? = some v ∧ ORep K S σ H o v := by
    induction h with
    | nil => intro i; exact .inl ⟨rfl, rfl⟩
    | cons r _ ih =>
      intro i
      cases i with
      | zero => exact .inr ⟨_, _, rfl, rfl, r⟩
      | succ i => exact ih i
  intro is
  unfold PI.pick
  induction is with
  | nil => exact .nil
  | cons i is ih =>
    rcases key i with ⟨k1, k2⟩ | ⟨o, v, k1, k2, k3⟩
    · rw [List.filterMap_cons, List.filterMap_cons, k1, k2]
      exact ih
    · rw [List.filterMap_cons, List.filterMap_cons, k1, k2]
      exact .cons k3 ih
theorem runs_app : ∀ {as bs : List Opd} {env : PI.Env}, runs (as ++ bs) env = (runs as env).bind fun r => (runs bs r.2).bind fun s => some (r.1 ++ s.1, s.2)
  | [], bs, env => by
    show runs bs env = (runs bs env).bind fun s => some (s.1, s.2)
    cases runs bs env <;> rfl
  | a :: as, bs, env => by
    show ((a.run env).bind fun r => (runs (as ++ bs) r.2).bind fun s => some (r.1 :: s.1, s.2)) = ((a.run env).bind fun r => (runs as r.2).bind fun s => some (r.1 :: s.1, s.2)).bind _
    cases a.run env with
    | none => rfl
    | some r =>
      show ((runs (as ++ bs) r.2).bind fun s => some (r.1 :: s.1, s.2)) = ((runs as r.2).bind fun s => some (r.1 :: s.1, s.2)).bind _
      rw [runs_app]
      cases runs as r.2 with
      | none => rfl
      | some s =>
        show ((runs bs s.2).bind fun t => some (s.1 ++ t.1, t.2)).bind _ = (runs bs s.2).bind _
        cases runs bs s.2 <;> rfl
theorem OReps.app {S : Addr → Prop} {o1 o2 : List Op} {v1 v2 : List V} (h : OReps K S σ H o1 v1) (h2 : OReps K S σ H o2 v2) : OReps K S σ H (o1 ++ o2) (v1 ++ v2) := by
  induction h with
  | nil => exact h2
  | cons r _ ih => exact .cons r ih
theorem eCallK_go {modes : List Bool} {f : Cal} {as bs : List Opd} {is : List Nat} {Q : VK} {E : XK} (h : SEr K (eCallK modes f (as ++ bs) is) σ H Q) : SAr K as σ H fun vs H1 => SAr K bs σ H1 fun zs H2 => spOf K modes f (pick is (vs ++ zs)) H2 Q E := by
  obtain ⟨Z, env, w, env', R, e, q⟩ := h
  obtain ⟨⟨ops, env1⟩, h1, e⟩ := obind e
  rw [runs_app] at h1
  obtain ⟨r, g1, h1⟩ := obind h1
  obtain ⟨s, g2, h1⟩ := obind h1
  cases h1
  exact SAr.go R g1 fun vs H1 R1 t1 o1 => SAr.go R1 g2 fun zs H2 R2 t2 o2 => callO_go R2 (t1.trans t2) (((o1.step t2).app o2).pick is) e q
end
/-! ### a def that keeps its promise, as a caller finds it -/
structure CallOk (P : Program) (w : World) (K : PySem.W.Frag) (mg : Str → Option Value) (base : Heap) (k : Nat) (x : Str) (ps : List Str) (modes : List Bool) (f : Cal) : Prop where
  ex : ∃ (a : Addr) (fd : FuncData), FnOk P w K mg base CX0 k a fd ps (spOf K modes f) ∧ mg x = some (.ref a) ∧ PySem.W.keepIn K (.ref a) = true ∧ Binds K fd ps []
  kw : ∃ (a : Addr) (fd : FuncData), FnOk P w K mg base CX0 k a fd ps (spOf K modes f) ∧ mg x = some (.ref a) ∧ PySem.W.keepIn K (.ref a) = true ∧ fd.defaults = .none
section
variable {X : Cx} {k : Nat} {x : Str} {p pos : Pos} {e : Expr} {es : List Expr} {ps : List Str} {modes : List Bool} {f : Cal} {as : List Opd}
theorem se_call {j : Nat} (G : CallOk X.prog X.w X.K X.mg X.base j x ps modes f) (hr : Room k X.A) (ha : PA X (e :: es) (SAr X.K as)) (hjk : j ≤ k := by decide) (hg : Gl X x := by rfl) (hdb : (x == ("__debug__" : Str)) = false := by decide) (he : starEach (e :: es) X.env = (false, eval e X.env) :: starEach es X.env := by rfl) (hpl : (backTo pos (starEach es X.env)).any (·.1) = false := by rfl) :
    PE X (.Call (.Name x p) (e :: es) [] pos) (SEr X.K (eCall modes f as)) := by
  obtain ⟨a, fd, F, hm, hk, hb⟩ := G.ex
  exact PEi (pe_call F (hr.mono hjk) hg hm hk hb .nil pass0 ha hdb he hpl) fun _ _ _ q => eCall_go q
theorem se_call0 {j : Nat} (G : CallOk X.prog X.w X.K X.mg X.base j x ps modes f) (hr : Room k X.A) (hjk : j ≤ k := by decide) (hg : Gl X x := by rfl) (hdb : (x == ("__debug__" : Str)) = false := by decide) :
    PE X (.Call (.Name x p) [] [] pos) (SEr X.K (eCall modes f [])) := by
  obtain ⟨a, fd, F, hm, hk, hb⟩ := G.ex
  exact PEi (pe_call0 F (hr.mono hjk) hg hm hk hb .nil pass0 hdb) fun _ _ _ q => eCall_go q
end
end PI

namespace PI
open PySem PySem.Spec PyProof.Rows L2
theorem opr_or {X : Cx} {f : Value → Value → Sem Value} {r r' : R2} (h : L2.OpR X f r) (h' : L2.OpR X f r') : L2.OpR X f fun x y H Q => r x y H Q ∨ r' x y H Q := fun pins s σ H x y v u Q I rx ry q =>
  q.elim (fun q => h pins s σ H x y v u Q I rx ry q) fun q => h' pins s σ H x y v u Q I rx ry q
/-! ### + -/
def addD : PI.D → PI.D → Option W
  | .int i, .int j => some (false, .int (i + j))
  | .str x, .str y => if x.length + y.length ≤ 10000000 then some (false, .str (x ++ y)) else none
  | .tup xs, .tup ys => if xs.length + ys.length ≤ 1000000 then some (false, .tup (xs ++ ys)) else none
  | .lst xs, .lst ys => if xs.length + ys.length ≤ 1000000 then some (true, .lst (xs ++ ys)) else none
  | _, _ => none
def rStrCat : R2 := fun x y H Q => ∃ i j, x = .str i ∧ y = .str j ∧ i.length + j.length ≤ sizeLine ∧ Q (.str (i ++ j)) H
def rAddD (K : PySem.W.Frag) : R2 := fun x y H Q => ((rI0 (fun i j => .int (i + j)) x y H Q ∨ rStrCat x y H Q) ∨ rCatF K x y H Q) ∨ rCat x y H Q
theorem op_addD {X : Cx} : L2.OpR X (binaryOp .Add) (rAddD X.K) := opr_or (opr_or (opr_or op_add op_add_str) op_catF) op_cat
theorem sz7 {n : Nat} (h : n ≤ 10000000) : n ≤ sizeLine := Nat.le_trans h (by decide)
theorem sz6 {n : Nat} (h : n ≤ 1000000) : n ≤ sizeLine := Nat.le_trans h (by decide)
theorem p_addD {K : PySem.W.Frag} : P2Ok K (rAddD K) addD := fun S H x y d e w Q hS hx hy hf q => by
  cases d with
  | int i =>
    cases e with
    | int j =>
      cases hf
      exact .inl (.inl (.inl ⟨i, j, hx.intD, hy.intD, q _ H (made_int _)⟩))
    | _ => cases hf
  | str i =>
    cases e with
    | str j =>
      dsimp only [addD] at hf
      split at hf
      · rename_i hz
        cases hf
        exact .inl (.inl (.inr ⟨i, j, hx.strD, hy.strD, sz7 hz, q _ H (made_str _)⟩))
      · cases hf
    | _ => cases hf
  | tup xs =>
    cases e with
    | tup ys =>
      dsimp only [addD] at hf
      split at hf
      · rename_i hz
        cases hf
        obtain ⟨a, vs, rfl, h1, h2⟩ := hx.tupD
        obtain ⟨b, us, rfl, h3, h4⟩ := hy.tupD
        refine .inl (.inr ⟨a, b, vs, us, rfl, rfl, h1.sq, h3.sq, by rw [h2.length, h4.length]; exact sz6 hz, fun z => ?_, fun _ z => ?_, fun _ _ => newT_of hS (h2.append h4) q⟩)
        · have : xs = [] := List.eq_nil_of_length_eq_zero (by rw [← h2.length, z]; rfl)
          subst this
          exact q _ H (made_old (.tup h3 h4))
        · have : ys = [] := List.eq_nil_of_length_eq_zero (by rw [← h4.length, z]; rfl)
          subst this
          rw [List.append_nil] at q
          exact q _ H (made_old (.tup h1 h2))
      · cases hf
    | _ => cases hf
  | lst xs =>
    cases e with
    | lst ys =>
      dsimp only [addD] at hf
      split at hf
      · rename_i hz
        cases hf
        obtain ⟨a, vs, rfl, h1, h2⟩ := hx.lst
        obtain ⟨b, us, rfl, h3, h4⟩ := hy.lst
        exact .inr ⟨a, b, vs, us, rfl, rfl, h1, h3, by rw [h2.length, h4.length]; exact sz6 hz, fun p hp => q _ _ (made_lst hp (h2.append h4))⟩
      · cases hf
    | _ => cases hf
  | _ => cases hf
/-! ### ints -/
def iiD (f : Int → Int → PI.D) : PI.D → PI.D → Option W
  | .int i, .int j => some (false, f i j)
  | _, _ => none
theorem p_ii {K : PySem.W.Frag} {g : Int → Int → V} {f : Int → Int → PI.D} (h : ∀ i j S H, Rep K S H (g i j) (f i j)) : P2Ok K (rI0 g) (iiD f) := fun S H x y d e w Q hS hx hy hf q => by
  cases d with
  | int i =>
    cases e with
    | int j =>
      cases hf
      exact ⟨i, j, hx.intD, hy.intD, q _ H (made_old (h i j S H))⟩
    | _ => cases hf
  | _ => cases hf
def iiC (C : Int → Int → Bool) (f : Int → Int → PI.D) : PI.D → PI.D → Option W
  | .int i, .int j => if C i j then some (false, f i j) else none
  | _, _ => none
theorem p_iiC {K : PySem.W.Frag} {C : Int → Int → Prop} {c : Int → Int → Bool} {g : Int → Int → V} {f : Int → Int → PI.D} (hc : ∀ i j, c i j = true → C i j) (h : ∀ i j S H, Rep K S H (g i j) (f i j)) : P2Ok K (rI C g) (iiC c f) := fun S H x y d e w Q hS hx hy hf q => by
  cases d with
  | int i =>
    cases e with
    | int j =>
      dsimp only [iiC] at hf
      split at hf
      · rename_i hz
        cases hf
        exact ⟨i, j, hx.intD, hy.intD, hc i j hz, q _ H (made_old (h i j S H))⟩
      · cases hf
    | _ => cases hf
  | _ => cases hf
def subD := iiD fun i j => .int (i - j)
theorem p_subD {K : PySem.W.Frag} : P2Ok K (rI0 fun i j => .int (i - j)) subD := p_ii fun _ _ _ _ => .int _
/-- how many bits -/
abbrev bts (i : Int) : Nat := Builtin.Int.intBits i
def mulB (i j : Int) : Bool := decide (bts i + bts j ≤ 134217728)
def mulD := iiC mulB fun i j => .int (i * j)
theorem p_mulD {K : PySem.W.Frag} : P2Ok K (rI CMulX fun i j => .int (i * j)) mulD := p_iiC (fun i j h => by
  have h1 : bts i + bts j ≤ 134217728 := of_decide_eq_true h
  show (bts i : Int) + (bts j : Int) ≤ 134217728
  omega) fun _ _ _ _ => .int _
def divB (_ j : Int) : Bool := decide (0 < j ∧ bts j ≤ 8000)
def fdivD := iiC divB fun i j => .int (i / j)
theorem bts_lt {i : Int} {n : Nat} (h : bts i ≤ n) : i.natAbs < 2 ^ n := by
  unfold bts Builtin.Int.intBits at h
  split at h
  · rename_i h0
    have : i = 0 := by simpa using h0
    subst this
    exact Nat.two_pow_pos n
  · exact Nat.lt_of_lt_of_le Nat.lt_log2_self (Nat.pow_le_pow_right (by decide) h)
theorem p_fdivD {K : PySem.W.Frag} : P2Ok K (rI CDivW fun i j => .int (i / j)) fdivD := p_iiC (fun i j h => by
  obtain ⟨h1, h2⟩ := of_decide_eq_true h
  exact wide_div h1 (bts_lt (n := 8000) h2) (by decide) (by decide)) fun _ _ _ _ => .int _
def modB (_ j : Int) : Bool := decide (0 < j)
def modD := iiC modB fun i j => .int (i % j)
theorem p_modD {K : PySem.W.Frag} : P2Ok K (rI (fun _ j => 0 < j) fun i j => .int (i % j)) modD := p_iiC (fun i j h => of_decide_eq_true h) fun _ _ _ _ => .int _
def CPowW (i j : Int) : Prop := 0 ≤ j ∧ (Builtin.Int.intBits i : Int) * j ≤ 2 ^ 27
def powB (i j : Int) : Bool := decide (0 ≤ j ∧ (bts i : Int) * j ≤ 134217728)
def powD := iiC powB fun i j => .int (i ^ j.toNat)
theorem op_powW {X : Cx} : L2.OpR X (binaryOp .Pow) (rI CPowW fun i j => .int (i ^ j.toNat)) := opI fun _ _ _ _ _ _ _ hc q => pow_int hc.1 hc.2 q
theorem p_powD {K : PySem.W.Frag} : P2Ok K (rI CPowW fun i j => .int (i ^ j.toNat)) powD := p_iiC (fun i j h => by
  obtain ⟨h1, h2⟩ := of_decide_eq_true h
  exact ⟨h1, h2⟩) fun _ _ _ _ => .int _
def negD : PI.D → Option W
  | .int i => some (false, .int (-i))
  | _ => none
theorem p_negD {K : PySem.W.Frag} : P1Ok K (rU fun i => .int (-i)) negD := fun S H v d w Q hS hx hf q => by
  cases d with
  | int i =>
    cases hf
    exact ⟨i, hx.intD, q _ H (made_int _)⟩
  | _ => cases hf
/-! ### comparisons -/
def ltD := iiD fun i j => .bl (decide (i < j))
def leD := iiD fun i j => .bl (decide (i ≤ j))
def gtD := iiD fun i j => .bl (decide (j < i))
def geD := iiD fun i j => .bl (decide (j ≤ i))
theorem p_ltD {K : PySem.W.Frag} : P2Ok K (rI0 fun i j => .bl (decide (i < j))) ltD := p_ii fun _ _ _ _ => .bl _
theorem p_leD {K : PySem.W.Frag} : P2Ok K (rI0 fun i j => .bl (decide (i ≤ j))) leD := p_ii fun _ _ _ _ => .bl _
theorem p_gtD {K : PySem.W.Frag} : P2Ok K (rI0 fun i j => .bl (decide (j < i))) gtD := p_ii fun _ _ _ _ => .bl _
theorem p_geD {K : PySem.W.Frag} : P2Ok K (rI0 fun i j => .bl (decide (j ≤ i))) geD := p_ii fun _ _ _ _ => .bl _
/-- x is None -/
def isD : PI.D → PI.D → Option W
  | .non, .non => some (false, .bl true)
  | _, .non => some (false, .bl false)
  | _, _ => none
def isntD : PI.D → PI.D → Option W
  | .non, .non => some (false, .bl false)
  | _, .non => some (false, .bl true)
  | _, _ => none
theorem view_ne {K : PySem.W.Frag} {S : Addr → Prop} {H : Hp} {x : V} {d : PI.D} (h : View K S H x d) (n : d ≠ .non) : x ≠ .non := fun e => by
  subst e
  rcases h with h | ⟨a, _, _, _, e, _⟩
  · cases h
    exact n rfl
  · cases e
theorem p_isD {K : PySem.W.Frag} : P2Ok K (fun x y H Q => y = .non ∧ Q (.bl (decide (x = .non))) H) isD := fun S H x y d e w Q hS hx hy hf q => by
  cases e with
  | non =>
    refine ⟨hy.nonD, ?_⟩
    cases d with
    | non =>
      cases hf
      rw [hx.nonD]
      exact q _ H (made_bl _)
    | _ =>
      cases hf
      rw [decide_eq_false (view_ne hx (by intro z; cases z))]
      exact q _ H (made_bl _)
  | _ => cases d <;> cases hf
theorem p_isntD {K : PySem.W.Frag} : P2Ok K (fun x y H Q => y = .non ∧ Q (.bl (!decide (x = .non))) H) isntD := fun S H x y d e w Q hS hx hy hf q => by
  cases e with
  | non =>
    refine ⟨hy.nonD, ?_⟩
    cases d with
    | non =>
      cases hf
      rw [hx.nonD]
      exact q _ H (made_bl _)
    | _ =>
      cases hf
      rw [decide_eq_false (view_ne hx (by intro z; cases z))]
      exact q _ H (made_bl _)
  | _ => cases d <;> cases hf
/-! ### == by data -/
mutual
def toPy : PI.D → PyData
  | .non => .none
  | .bl b => .bool b
  | .int i => .int i
  | .str x => .str x
  | .tup ds => .tuple (toPys ds)
  | .lst ds => .list (toPys ds)
  | .frz ds => .list (toPys ds)
  | .dct _ _ => .str ⟨#[1114112]⟩
  | .dic _ _ => .str ⟨#[1114112]⟩
def toPys : List PI.D → List PyData
  | [] => []
  | d :: ds => toPy d :: toPys ds
end
mutual
theorem Rep.dp {K : PySem.W.Frag} {S : Addr → Prop} {H : Hp} : ∀ {v : V} {d : PI.D}, Rep K S H v d → PyData.canLay0 (toPy d) = true → Dp K H v (toPy d)
  | _, _, .non, _ => .non
  | _, _, .bl b, _ => .bl b
  | _, _, .int i, _ => .int i
  | _, _, .str x, _ => .str x
  | _, _, .tup (ds := ds) t r, h => .tup t.sq (RepAll.dp r (by
      have h : PyData.canLay0 (.tuple (toPys ds)) = true := h
      rw [PyData.canLay0] at h
      exact h))
  | _, _, .lst (ds := ds) e n r, h => .lst (.inl (.inl e)) (RepAll.dp r (by
      have h : PyData.canLay0 (.list (toPys ds)) = true := h
      rw [PyData.canLay0] at h
      exact h))
  | _, _, .frz (ds := ds) t r, h => .lst t.sq (RepAll.dp r (by
      have h : PyData.canLay0 (.list (toPys ds)) = true := h
      rw [PyData.canLay0] at h
      exact h))
  | _, _, .dct _ _ _ _, h => by
      have h : PyData.canLay0 (.str ⟨#[1114112]⟩) = true := h
      exact absurd h (by decide +kernel)
  | _, _, .dic _ _ _ _, h => by
      have h : PyData.canLay0 (.str ⟨#[1114112]⟩) = true := h
      exact absurd h (by decide +kernel)
theorem RepAll.dp {K : PySem.W.Frag} {S : Addr → Prop} {H : Hp} : ∀ {vs : List V} {ds : List PI.D}, RepAll K S H vs ds → PyData.canLayAll0 (toPys ds) = true → DpAll K H vs (toPys ds)
  | _, _, .nil, _ => .nil
  | _, _, .cons (d := d) (ds := ds) r t, h => by
      have h : PyData.canLayAll0 (toPy d :: toPys ds) = true := h
      rw [PyData.canLayAll0] at h
      obtain ⟨h1, h2⟩ := Bool.and_eq_true_iff.mp h
      exact .cons (Rep.dp r h1) (RepAll.dp t h2)
end
theorem View.dp {K : PySem.W.Frag} {S : Addr → Prop} {H : Hp} {v : V} {d : PI.D} (h : View K S H v d) (z : PyData.canLay0 (toPy d) = true) : Dp K H v (toPy d) := by
  rcases h with h | ⟨a, o, vs, ds, rfl, c, h1, h2⟩
  · exact h.dp z
  · cases c with
    | lst => exact Rep.dp (S := fun _ => False) (.lst h1 id (h2.less fun _ q => q.elim)) z
    | dk => exact absurd (show PyData.canLay0 (.str ⟨#[1114112]⟩) = true from z) (by decide +kernel)
    | dt _ _ => exact absurd (show PyData.canLay0 (.str ⟨#[1114112]⟩) = true from z) (by decide +kernel)
theorem lay_shaped {d : PyData} (h : SeqAt.shaped d = true) : PyData.canLay0 d = true := by
  unfold SeqAt.shaped at h
  exact (Bool.and_eq_true_iff.mp h).1
/-- two scalars that == tells apart as data does -/
def scD : PI.D → PI.D → Option Bool
  | .int i, .int j => some (i == j)
  | .bl a, .bl b => some (a == b)
  | .str x, .str y => some (decide (x = y))
  | .non, .non => some true
  | .non, .int _ => some false
  | .int _, .non => some false
  | _, _ => none
def eqB (d e : PI.D) : Option Bool := match scD d e with
  | some b => some b
  | none => if SeqAt.shaped (toPy d) && SeqAt.shaped (toPy e) then some (PyData.eqv (toPy d) (toPy e)) else none
def eqD (d e : PI.D) : Option W := (eqB d e).bind fun b => some (false, .bl b)
def neD (d e : PI.D) : Option W := (eqB d e).bind fun b => some (false, .bl (!b))
def rEqA (K : PySem.W.Frag) : R2 := fun x y H Q => rEq x y H Q ∨ rEqD K x y H Q
def rNeA (K : PySem.W.Frag) : R2 := fun x y H Q => rNe x y H Q ∨ rNeD K x y H Q
theorem op_eqA {X : Cx} (hu : X.A.units + 64 < cLine) : L2.OpR X (compareOp .Eq) (rEqA X.K) := opr_or op_eq (op_eqD hu)
theorem op_neA {X : Cx} (hu : X.A.units + 64 < cLine) : L2.OpR X (compareOp .NotEq) (rNeA X.K) := opr_or op_ne (op_neD hu)
theorem sc_ok {K : PySem.W.Frag} {S : Addr → Prop} {H : Hp} {x y : V} {d e : PI.D} {b : Bool} (hx : View K S H x d) (hy : View K S H y e) (h : scD d e = some b) : scal x y = true ∧ decide (x = y) = b := by
  cases d with
  | int i =>
    cases e with
    | int j =>
      cases h
      rw [hx.intD, hy.intD]
      exact ⟨rfl, dec_int⟩
    | non =>
      cases h
      rw [hx.intD, hy.nonD]
      exact ⟨rfl, rfl⟩
    | _ => cases h
  | bl i =>
    cases e with
    | bl j =>
      cases h
      rw [hx.blD, hy.blD]
      refine ⟨rfl, ?_⟩
      cases i <;> cases j <;> rfl
    | _ => cases h
  | str i =>
    cases e with
    | str j =>
      cases h
      rw [hx.strD, hy.strD]
      refine ⟨rfl, ?_⟩
      by_cases z : i = j
      · subst z
        rw [decide_eq_true rfl, decide_eq_true rfl]
      · rw [decide_eq_false z, decide_eq_false (fun q => z (V.str.inj q))]
    | _ => cases h
  | non =>
    cases e with
    | non =>
      cases h
      rw [hx.nonD, hy.nonD]
      exact ⟨rfl, rfl⟩
    | int j =>
      cases h
      rw [hx.nonD, hy.intD]
      exact ⟨rfl, rfl⟩
    | _ => cases h
  | _ => cases e <;> cases h
theorem p_eqD {K : PySem.W.Frag} : P2Ok K (rEqA K) eqD := fun S H x y d e w Q hS hx hy hf q => by
  obtain ⟨b, h1, h2⟩ := obind hf
  cases h2
  unfold eqB at h1
  split at h1
  · rename_i c hc
    cases h1
    obtain ⟨k1, k2⟩ := sc_ok hx hy hc
    exact .inl ⟨k1, by rw [k2]; exact q _ H (made_bl _)⟩
  · split at h1
    · rename_i hz
      cases h1
      obtain ⟨z1, z2⟩ := Bool.and_eq_true_iff.mp hz
      exact .inr ⟨_, _, hx.dp (lay_shaped z1), hy.dp (lay_shaped z2), z1, z2, q _ H (made_bl _)⟩
    · cases h1
theorem p_neD {K : PySem.W.Frag} : P2Ok K (rNeA K) neD := fun S H x y d e w Q hS hx hy hf q => by
  obtain ⟨b, h1, h2⟩ := obind hf
  cases h2
  unfold eqB at h1
  split at h1
  · rename_i c hc
    cases h1
    obtain ⟨k1, k2⟩ := sc_ok hx hy hc
    exact .inl ⟨k1, by rw [k2]; exact q _ H (made_bl _)⟩
  · split at h1
    · rename_i hz
      cases h1
      obtain ⟨z1, z2⟩ := Bool.and_eq_true_iff.mp hz
      exact .inr ⟨_, _, hx.dp (lay_shaped z1), hy.dp (lay_shaped z2), z1, z2, q _ H (made_bl _)⟩
    · cases h1
/-! ### x in xs, of ints -/
def toInts : List PI.D → Option (List Int)
  | [] => some []
  | .int i :: ds => (toInts ds).bind fun is => some (i :: is)
  | _ :: _ => none
theorem toInts_ok : ∀ {ds : List PI.D} {is : List Int}, toInts ds = some is → ds = is.map PI.D.int
  | [], is, h => by
    cases h
    rfl
  | d :: ds, is, h => by
    cases d with
    | int i =>
      obtain ⟨js, h1, h2⟩ := obind h
      cases h2
      rw [toInts_ok h1]
      rfl
    | _ => cases h
theorem toInts_map : ∀ is : List Int, toInts (is.map PI.D.int) = some is
  | [] => rfl
  | i :: is => by
    show (toInts (is.map PI.D.int)).bind (fun js => some (i :: js)) = _
    rw [toInts_map is]
    rfl
def seqD : PI.D → Option (List PI.D)
  | .tup ds => some ds
  | .lst ds => some ds
  | .frz ds => some ds
  | _ => none
theorem view_seq {K : PySem.W.Frag} {S : Addr → Prop} {H : Hp} {v : V} {d : PI.D} {ds : List PI.D} (h : View K S H v d) (e : seqD d = some ds) : ∃ (a : Addr) (vs : List V), v = .ref a ∧ (SqL K H a vs ∨ SqT K H a vs) ∧ RepAll K S H vs ds := by
  cases d with
  | tup es =>
    cases e
    obtain ⟨a, vs, h1, h2, h3⟩ := h.tupD
    exact ⟨a, vs, h1, .inr h2.sq, h3⟩
  | lst es =>
    cases e
    obtain ⟨a, vs, h1, h2, h3⟩ := h.lst
    exact ⟨a, vs, h1, .inl (.inl (.inl h2)), h3⟩
  | frz es =>
    cases e
    obtain ⟨a, vs, h1, h2, h3⟩ := h.frzD
    exact ⟨a, vs, h1, .inl h2.sq, h3⟩
  | _ => cases e
def inD (neg : Bool) : PI.D → PI.D → Option W
  | .int i, d => (seqD d).bind fun ds => (toInts ds).bind fun is => some (false, .bl (if neg then !is.contains i else is.contains i))
  | _, _ => none
theorem flat_ints (is : List Int) : (is.map V.int).all flatV = true := by
  induction is with
  | nil => rfl
  | cons i is ih => exact ih
theorem inV_ints (i : Int) (is : List Int) : inV (.int i) (is.map V.int) = is.contains i := by
  unfold inV
  induction is with
  | nil => rfl
  | cons j is ih =>
    rw [List.map_cons, List.any_cons, ih, List.contains_cons]
    congr 1
    show (j == i) = (i == j)
    exact Bool.beq_comm
theorem p_inD {K : PySem.W.Frag} {neg : Bool} : P2Ok K (rIn K neg) (inD neg) := fun S H x y d e w Q hS hx hy hf q => by
  cases d with
  | int i =>
    obtain ⟨ds, h1, hf⟩ := obind hf
    obtain ⟨is, h2, hf⟩ := obind hf
    cases hf
    obtain ⟨a, vs, rfl, h3, h4⟩ := view_seq hy h1
    rw [toInts_ok h2] at h4
    have := h4.of_ints
    subst this
    rw [hx.intD]
    refine ⟨a, _, rfl, h3, rfl, flat_ints is, ?_⟩
    rw [inV_ints]
    exact q _ H (made_bl _)
  | _ => cases hf
/-! ### items and slices -/
def ixD : PI.D → PI.D → Option W
  | d, .int i => (seqD d).bind fun ds => (atI ds i).bind fun e => some (false, e)
  | _, _ => none
theorem repAll_atI {K : PySem.W.Frag} {S : Addr → Prop} {H : Hp} {vs : List V} {ds : List PI.D} {i : Int} {e : PI.D} (r : RepAll K S H vs ds) (h : atI ds i = some e) : ∃ v, atI vs i = some v ∧ Rep K S H v e := by
  unfold atI at h ⊢
  rw [r.length]
  obtain ⟨j, h1, h2⟩ := obind h
  rw [h1]
  exact r.get h2
def rIxA (K : PySem.W.Frag) : R2 := fun x y H Q => rIxL K x y H Q ∨ rIxT K x y H Q
theorem ix_A {X : Cx} : IxR X (rIxA X.K) := ix_list.or ix_tup
theorem p_ixD {K : PySem.W.Frag} : P2Ok K (rIxA K) ixD := fun S H x y d e w Q hS hx hy hf q => by
  cases e with
  | int i =>
    obtain ⟨ds, h1, hf⟩ := obind hf
    obtain ⟨z, h2, hf⟩ := obind hf
    cases hf
    obtain ⟨a, vs, rfl, h3, h4⟩ := view_seq hx h1
    obtain ⟨v, h5, h6⟩ := repAll_atI h4 h2
    rcases h3 with h3 | h3
    · exact .inl ⟨a, vs, i, v, rfl, hy.intD, h3, h5, q _ H (made_old h6)⟩
    · exact .inr ⟨a, vs, i, v, rfl, hy.intD, h3, h5, q _ H (made_old h6)⟩
  | _ => cases d <;> cases hf
def cutD (ds : List PI.D) (lo hi : Option Int) : List PI.D := (ds.drop (HT.sIx ds.length 0 lo)).take (HT.sIx ds.length ds.length hi - HT.sIx ds.length 0 lo)
def slD : PI.D → Option Int → Option Int → Option W
  | .tup ds, lo, hi => some (false, .tup (cutD ds lo hi))
  | .lst ds, lo, hi => some (true, .lst (cutD ds lo hi))
  | .frz ds, lo, hi => some (true, .lst (cutD ds lo hi))
  | _, _, _ => none
theorem repAll_cut {K : PySem.W.Frag} {S : Addr → Prop} {H : Hp} {vs : List V} {ds : List PI.D} {lo hi : Option Int} (r : RepAll K S H vs ds) : RepAll K S H (cutV vs lo hi) (cutD ds lo hi) := by
  unfold cutV cutD
  rw [r.length]
  exact (r.drop _).take _
theorem slr_or {X : Cx} {r r' : V → Option Int → Option Int → Hp → VK → Prop} (h : SlR X r) (h' : SlR X r') : SlR X (fun x lo hi H Q => r x lo hi H Q ∨ r' x lo hi H Q) := SlR.or h h'
theorem sl_A {X : Cx} : SlR X (fun x lo hi H Q => rSlL X.K x lo hi H Q ∨ rSlF X.K x lo hi H Q) := slr_or sl_list sl_tupF
theorem p_slD {K : PySem.W.Frag} : P3Ok K (fun x lo hi H Q => rSlL K x lo hi H Q ∨ rSlF K x lo hi H Q) slD := fun S H v d lo hi w Q hS hx hf q => by
  cases d with
  | tup ds =>
    cases hf
    obtain ⟨a, vs, rfl, h1, h2⟩ := hx.tupD
    refine .inr ⟨a, vs, rfl, h1.sq, fun z => ?_, fun _ => newT_of hS (repAll_cut h2) q⟩
    have e : cutD ds lo hi = ds := by
      unfold cutD
      rw [← h2.length, z.1, z.2, List.drop_zero, Nat.sub_zero, h2.length]
      exact List.take_length
    rw [e] at q
    exact q _ H (made_old (.tup h1 h2))
  | lst ds =>
    cases hf
    obtain ⟨a, vs, rfl, h1, h2⟩ := hx.lst
    exact .inl ⟨a, vs, rfl, .inl (.inl h1), fun p hp => q _ _ (made_lst hp (repAll_cut h2))⟩
  | frz ds =>
    cases hf
    obtain ⟨a, vs, rfl, h1, h2⟩ := hx.frzD
    exact .inl ⟨a, vs, rfl, h1.sq, fun p hp => q _ _ (made_lst hp (repAll_cut h2))⟩
  | _ => cases hf
/-- xs[::-1] of a list -/
def revD : PI.D → Option W
  | .lst ds => some (true, .lst ds.reverse)
  | _ => none
theorem p_revD {K : PySem.W.Frag} : P1Ok K (fun x H Q => ∃ a xs, x = .ref a ∧ SqL K H a xs ∧ ∀ p, H p = none → Q (.ref p) (upd H p (.lst xs.reverse))) revD := fun S H v d w Q hS hx hf q => by
  cases d with
  | lst ds =>
    cases hf
    obtain ⟨a, vs, rfl, h1, h2⟩ := hx.lst
    exact ⟨a, vs, rfl, .inl (.inl h1), fun p hp => q _ _ (made_lst hp h2.reverse)⟩
  | _ => cases hf
theorem se_rev {X : Cx} {e : Expr} {o : Opd} {k : Nat} {p1 p2 p3 pos : Pos} (he : PE X e (SOr X.K o)) : PE X (.Subscript e (.Slice none none (some (.UnaryOp .USub (.Constant (.int 1) k p1) p2)) p3) pos) (SEr X.K (e1 revD o)) :=
  PEi (pe_revL he) fun _ _ _ q => e1_go p_revD q
/-! ### calls of what is built in -/
theorem views1 {K : PySem.W.Frag} {S : Addr → Prop} {H : Hp} {vs : List V} {d : PI.D} (h : ViewAll K S H vs [d]) : ∃ v, vs = [v] ∧ View K S H v d := by
  cases h with
  | cons a t =>
    cases t
    exact ⟨_, rfl, a⟩
theorem views2 {K : PySem.W.Frag} {S : Addr → Prop} {H : Hp} {vs : List V} {d e : PI.D} (h : ViewAll K S H vs [d, e]) : ∃ v u, vs = [v, u] ∧ View K S H v d ∧ View K S H u e := by
  cases h with
  | cons a t =>
    obtain ⟨u, h1, h2⟩ := views1 t
    subst h1
    exact ⟨_, _, rfl, a, h2⟩
def c1 (f : PI.D → Option W) : List PI.D → Option W
  | [d] => f d
  | _ => none
def c2 (f : PI.D → PI.D → Option W) : List PI.D → Option W
  | [d, e] => f d e
  | _ => none
theorem p_c1 {K : PySem.W.Frag} {r : List V → Hp → VK → Prop} {f : PI.D → Option W} (h : ∀ (S : Addr → Prop) (H : Hp) (v : V) (d : PI.D) (w : W) (Q : VK), (∀ a, S a → H a ≠ none) → View K S H v d → f d = some w → (∀ v' H', Made K S H w v' H' → Q v' H') → r [v] H Q) : PnOk K r (c1 f) := fun S H vs ds w Q hS hv hf q => by
  cases ds with
  | nil => cases hf
  | cons d ds =>
    cases ds with
    | nil =>
      obtain ⟨v, rfl, hx⟩ := views1 hv
      exact h S H v d w Q hS hx hf q
    | cons e es => cases hf
theorem p_c2g {K : PySem.W.Frag} {r : List V → Hp → VK → Prop} {f : PI.D → PI.D → Option W} (h : ∀ (S : Addr → Prop) (H : Hp) (v u : V) (d e : PI.D) (w : W) (Q : VK), (∀ a, S a → H a ≠ none) → View K S H v d → View K S H u e → f d e = some w → (∀ v' H', Made K S H w v' H' → Q v' H') → r [v, u] H Q) : PnOk K r (c2 f) := fun S H vs ds w Q hS hv hf q => by
  cases ds with
  | nil => cases hf
  | cons d ds =>
    cases ds with
    | nil => cases hf
    | cons e es =>
      cases es with
      | nil =>
        obtain ⟨v, u, rfl, hx, hy⟩ := views2 hv
        exact h S H v u d e w Q hS hx hy hf q
      | cons _ _ => cases hf
def lenD : PI.D → Option W
  | .str x => if x.length ≤ 10000000 then some (false, .int x.length) else none
  | d => (seqD d).bind fun ds => some (false, .int ds.length)
theorem p_lenD {K : PySem.W.Frag} : PnOk K (fun xs H Q => ∃ x n, xs = [x] ∧ LenV K x H n ∧ Q (.int n) H) (c1 lenD) := p_c1 fun S H v d w Q hS hx hf q => by
  have sq : ∀ es, seqD d = some es → w = (false, .int es.length) → ∃ x n, [v] = [x] ∧ LenV K x H n ∧ Q (.int n) H := fun es h1 h2 => by
    subst h2
    obtain ⟨a, us, rfl, h3, h4⟩ := view_seq hx h1
    refine ⟨.ref a, us.length, rfl, ?_, by rw [h4.length]; exact q _ H (made_int _)⟩
    rcases h3 with h3 | h3
    · exact .inl ⟨us, h3, rfl⟩
    · exact .inr ⟨us, h3, rfl⟩
  cases d with
  | str x =>
    dsimp only [lenD] at hf
    split at hf
    · rename_i hz
      cases hf
      rw [hx.strD]
      exact ⟨.str x, x.length, rfl, ⟨sz7 hz, rfl⟩, q _ H (made_int _)⟩
    · cases hf
  | tup es => exact sq es rfl (Option.some.inj hf).symm
  | lst es => exact sq es rfl (Option.some.inj hf).symm
  | frz es => exact sq es rfl (Option.some.inj hf).symm
  | _ => cases hf
def absD : PI.D → Option W
  | .int i => some (false, .int (if i < 0 then -i else i))
  | _ => none
theorem p_absD {K : PySem.W.Frag} : PnOk K (fun xs H Q => ∃ i, xs = [.int i] ∧ Q (.int (if i < 0 then -i else i)) H) (c1 absD) := p_c1 fun S H v d w Q hS hx hf q => by
  cases d with
  | int i =>
    cases hf
    rw [hx.intD]
    exact ⟨i, rfl, q _ H (made_int _)⟩
  | _ => cases hf
def max2D := iiD fun i j => .int (if j > i then j else i)
def min2D := iiD fun i j => .int (if j < i then j else i)
theorem p_c2 {K : PySem.W.Frag} {f : PI.D → PI.D → Option W} {g : Int → Int → Int} (hf : f = iiD fun i j => .int (g i j)) : PnOk K (fun xs H Q => ∃ i j, xs = [.int i, .int j] ∧ Q (.int (g i j)) H) (c2 f) := p_c2g fun S H v u d e w Q hS hx hy hfe q => by
  subst hf
  cases d with
  | int i =>
    cases e with
    | int j =>
      cases hfe
      rw [hx.intD, hy.intD]
      exact ⟨i, j, rfl, q _ H (made_int _)⟩
    | _ => cases hfe
  | _ => cases hfe
theorem p_max2D {K : PySem.W.Frag} : PnOk K (fun xs H Q => ∃ i j, xs = [.int i, .int j] ∧ Q (.int (if j > i then j else i)) H) (c2 max2D) := p_c2 rfl
theorem p_min2D {K : PySem.W.Frag} : PnOk K (fun xs H Q => ∃ i j, xs = [.int i, .int j] ∧ Q (.int (if j < i then j else i)) H) (c2 min2D) := p_c2 rfl
def intD : PI.D → Option W
  | .int i => some (false, .int i)
  | .bl b => some (false, .int (if b then 1 else 0))
  | _ => none
theorem p_intD {K : PySem.W.Frag} : PnOk K (fun xs H Q => (∃ i, xs = [.int i] ∧ Q (.int i) H) ∨ ∃ k, xs = [.bl k] ∧ Q (.int (if k then 1 else 0)) H) (c1 intD) := p_c1 fun S H v d w Q hS hx hf q => by
  cases d with
  | int i =>
    cases hf
    rw [hx.intD]
    exact .inl ⟨i, rfl, q _ H (made_int _)⟩
  | bl i =>
    cases hf
    rw [hx.blD]
    exact .inr ⟨i, rfl, q _ H (made_int _)⟩
  | _ => cases hf
def listD (d : PI.D) : Option W := (seqD d).bind fun ds => some (true, .lst ds)
theorem p_listD {K : PySem.W.Frag} : PnOk K (fun xs H Q => ∃ p ys, xs = [.ref p] ∧ (SqL K H p ys ∨ SqT K H p ys) ∧ ∀ l, H l = none → Q (.ref l) (upd H l (.lst ys))) (c1 listD) := p_c1 fun S H v d w Q hS hx hf q => by
  obtain ⟨es, h1, h2⟩ := obind hf
  cases h2
  obtain ⟨a, us, rfl, h3, h4⟩ := view_seq hx h1
  exact ⟨a, us, rfl, h3, fun l hl => q _ _ (made_lst hl h4)⟩
def tupleD : PI.D → Option W
  | .tup ds => some (false, .tup ds)
  | .lst ds => some (false, .tup ds)
  | _ => none
theorem p_tupleD {K : PySem.W.Frag} : PnOk K (fun xs H Q => ∃ p ys, xs = [.ref p] ∧ ((SqL K H p ys ∧ NewT H ys Q) ∨ (SqT K H p ys ∧ Q (.ref p) H))) (c1 tupleD) := p_c1 fun S H v d w Q hS hx hf q => by
  cases d with
  | tup es =>
    cases hf
    obtain ⟨a, us, rfl, h1, h2⟩ := hx.tupD
    exact ⟨a, us, rfl, .inr ⟨h1.sq, q _ H (made_old (.tup h1 h2))⟩⟩
  | lst es =>
    cases hf
    obtain ⟨a, us, rfl, h1, h2⟩ := hx.lst
    exact ⟨a, us, rfl, .inl ⟨.inl (.inl h1), newT_of hS h2 q⟩⟩
  | _ => cases hf
def toBls : List PI.D → Option (List Bool)
  | [] => some []
  | .bl i :: ds => (toBls ds).bind fun is => some (i :: is)
  | _ :: _ => none
theorem toBls_ok : ∀ {ds : List PI.D} {is : List Bool}, toBls ds = some is → ds = is.map PI.D.bl
  | [], is, h => by
    cases h
    rfl
  | d :: ds, is, h => by
    cases d with
    | bl i =>
      obtain ⟨js, h1, h2⟩ := obind h
      cases h2
      rw [toBls_ok h1]
      rfl
    | _ => cases h
theorem toBls_map : ∀ is : List Bool, toBls (is.map PI.D.bl) = some is
  | [] => rfl
  | i :: is => by
    show (toBls (is.map PI.D.bl)).bind (fun js => some (i :: js)) = _
    rw [toBls_map is]
    rfl
def allD : PI.D → Option W
  | .lst ds => (toBls ds).bind fun bs => some (false, .bl (bs.all id))
  | _ => none
def anyD : PI.D → Option W
  | .lst ds => (toBls ds).bind fun bs => some (false, .bl (bs.any id))
  | _ => none
theorem p_allD {K : PySem.W.Frag} : PnOk K (rAll K) (c1 allD) := p_c1 fun S H v d w Q hS hx hf q => by
  cases d with
  | lst es =>
    obtain ⟨bs, h1, h2⟩ := obind hf
    cases h2
    obtain ⟨a, us, rfl, h3, h4⟩ := hx.lst
    rw [toBls_ok h1] at h4
    have := h4.of_bls
    subst this
    exact ⟨a, bs, rfl, .inl (.inl h3), q _ H (made_bl _)⟩
  | _ => cases hf
theorem p_anyD {K : PySem.W.Frag} : PnOk K (rAny K) (c1 anyD) := p_c1 fun S H v d w Q hS hx hf q => by
  cases d with
  | lst es =>
    obtain ⟨bs, h1, h2⟩ := obind hf
    cases h2
    obtain ⟨a, us, rfl, h3, h4⟩ := hx.lst
    rw [toBls_ok h1] at h4
    have := h4.of_bls
    subst this
    exact ⟨a, bs, rfl, .inl (.inl h3), q _ H (made_bl _)⟩
  | _ => cases hf
/-- isinstance(x, T) -/
inductive Kd where
  | int | bool | str | tuple | list
def Kd.nm : Kd → String
  | .int => "int"
  | .bool => "bool"
  | .str => "str"
  | .tuple => "tuple"
  | .list => "list"
inductive Tag where
  | non | bool | int | str | tuple | list
def Tag.nm : Tag → String
  | .non => "NoneType"
  | .bool => "bool"
  | .int => "int"
  | .str => "str"
  | .tuple => "tuple"
  | .list => "list"
def tagOf : PI.D → Option Tag
  | .non => some .non
  | .bl _ => some .bool
  | .int _ => some .int
  | .str _ => some .str
  | .tup _ => some .tuple
  | .lst _ => some .list
  | .frz _ => some .list
  | .dct _ _ => none
  | .dic _ _ => none
def isKT : Kd → Tag → Bool
  | .int, .int => true
  | .int, .bool => true
  | .bool, .bool => true
  | .str, .str => true
  | .tuple, .tuple => true
  | .list, .list => true
  | _, _ => false
def tyN (d : PI.D) : Option String := (tagOf d).bind fun t => some t.nm
def isiD (k : Kd) (d : PI.D) : Option W := (tagOf d).bind fun t => some (false, .bl (isKT k t))
theorem kit_all (k : Kd) (t : Tag) : kitB t.nm k.nm = some (isKT k t) := by
  cases k <;> cases t <;> decide +kernel
theorem view_ty {K : PySem.W.Frag} {S : Addr → Prop} {H : Hp} {v : V} {d : PI.D} {n : String} (h : View K S H v d) (e : tyN d = some n) : TyX K H v (.type n) := by
  cases d with
  | non =>
    cases e
    rw [h.nonD]
    exact .base .non
  | bl b =>
    cases e
    rw [h.blD]
    exact .base (.bl b)
  | int i =>
    cases e
    rw [h.intD]
    exact .base (.int i)
  | str x =>
    cases e
    rw [h.strD]
    exact .base (.str x)
  | tup ds =>
    cases e
    obtain ⟨a, vs, rfl, h1, h2⟩ := h.tupD
    rcases h1 with ⟨⟨o, h1, _⟩, _⟩ | ⟨o, its, m, h1, h2, _⟩
    · exact .fTuple h1
    · exact .kTuple h1 h2
  | lst ds =>
    cases e
    obtain ⟨a, vs, rfl, h1, h2⟩ := h.lst
    exact .base (.lst h1)
  | frz ds =>
    cases e
    obtain ⟨a, vs, rfl, h1, h2⟩ := h.frzD
    rcases h1 with ⟨h1 | ⟨o, h1⟩, _⟩ | ⟨o, its, m, h1, h2, _⟩
    · exact .base (.lst h1)
    · exact .base (.frz h1)
    · exact .kList h1 h2
  | dct _ _ => cases e
  | dic _ _ => cases e
theorem eIsi_go {K : PySem.W.Frag} {σ : L2.St} {H : Hp} {k : Kd} {o : Opd} {Q : VK} (h : SEr K (e1 (isiD k) o) σ H Q) : tCons (SOr K o) (tCons (tC (.ty k.nm)) tNil) σ H fun xs H1 => rIsi K xs H1 Q := by
  refine e1_go (r := fun v H1 Q => rIsi K [v, .ty k.nm] H1 Q) (fun S H v d w Q hS hx hf q => ?_) h
  obtain ⟨t, h1, h2⟩ := obind hf
  cases h2
  have h3 : tyN d = some t.nm := by
    unfold tyN
    rw [h1] <;> rfl
  exact ⟨v, .ty k.nm, .type t.nm, .type k.nm, isKT k t, rfl, .ty _, view_ty hx h3, kit_ty (kit_all k t), q _ H (made_bl _)⟩
theorem se_isi {X : Cx} (k : Kd) {e : Expr} {o : Opd} {p p2 pos : Pos} (he : PE X e (SOr X.K o)) (hm : X.mg "isinstance" = none) (hm2 : X.mg (Str.ofString k.nm) = none) (hv : bootBuiltins (Str.ofString k.nm) = some (.type k.nm)) (hg : Gl X "isinstance" := by rfl) (hg2 : Gl X (Str.ofString k.nm) := by rfl)
    (hn : Str.ofString k.nm ≠ "__name__" := by decide) (hd : (Str.ofString k.nm == ("__debug__" : Str)) = false := by decide)
    (hs : starEach [e, .Name (Str.ofString k.nm) p2] X.env = (false, eval e X.env) :: starEach [.Name (Str.ofString k.nm) p2] X.env := by rfl) (hs2 : starEach [.Name (Str.ofString k.nm) p2] X.env = (false, eval (.Name (Str.ofString k.nm) p2) X.env) :: starEach [] X.env := by rfl)
    (hpl : (backTo pos (starEach [.Name (Str.ofString k.nm) p2] X.env)).any (·.1) = false := by rfl) : PE X (.Call (.Name "isinstance" p) [e, .Name (Str.ofString k.nm) p2] [] pos) (SEr X.K (e1 (isiD k) o)) :=
  PEi (pe_callB call_isi hg hm (by decide +kernel) (pa_cons he (pa_cons (pe_bltn (v := V.ty k.nm) hg2 hm2 hv rfl hn hd) pa_nil hs2) hs) (by decide) (by decide) hs hpl) fun _ _ _ q => eIsi_go q
/-! ### a range in the place of a list -/
def rgD (tup : Bool) (a b : PI.D) : Option W := match a, b with
  | .int i, .int j => if -(2 ^ 62) ≤ i ∧ i < 2 ^ 62 ∧ -(2 ^ 62) ≤ j ∧ j < 2 ^ 62 ∧ (j - i).toNat ≤ 1000000 then some (if tup then (false, .tup (rangeD i (j - i).toNat)) else (true, .lst (rangeD i (j - i).toNat))) else none
  | _, _ => none
theorem rg_rep {K : PySem.W.Frag} {S : Addr → Prop} {H : Hp} (i j : Int) : RepAll K S H (rgV i j) (rangeD i (j - i).toNat) := by
  unfold rgV rangeD
  generalize List.range (j - i).toNat = l
  induction l with
  | nil => exact .nil
  | cons n l ih => exact .cons (.int _) ih
theorem rg_ok {i j : Int} (h : -(2 ^ 62) ≤ i ∧ i < 2 ^ 62 ∧ -(2 ^ 62) ≤ j ∧ j < 2 ^ 62 ∧ (j - i).toNat ≤ 1000000) : RgOk i j := ⟨h.1, h.2.1, h.2.2.1, h.2.2.2.1, Nat.le_trans h.2.2.2.2 (by decide)⟩
def rgK (tup : Bool) : R2 := fun x y H Q => ∃ i j, x = .int i ∧ y = .int j ∧ RgOk i j ∧ (if tup then NewT H (rgV i j) Q else ∀ q, H q = none → Q (.ref q) (upd H q (.lst (rgV i j))))
theorem p_rgD {K : PySem.W.Frag} {tup : Bool} : P2Ok K (rgK tup) (rgD tup) := fun S H x y d e w Q hS hx hy hf q => by
  cases d with
  | int i =>
    cases e with
    | int j =>
      dsimp only [rgD] at hf
      split at hf
      · rename_i hz
        refine ⟨i, j, hx.intD, hy.intD, rg_ok hz, ?_⟩
        cases tup with
        | true =>
          cases hf
          exact newT_of hS (rg_rep i j) q
        | false =>
          cases hf
          exact fun p hp => q _ _ (made_lst hp (rg_rep i j))
      · cases hf
    | _ => cases hf
  | _ => cases hf
theorem p_rg1 {K : PySem.W.Frag} {tup : Bool} : P1Ok K (fun y H Q => ∃ j, y = .int j ∧ RgOk 0 j ∧ (if tup then NewT H (rgV 0 j) Q else ∀ q, H q = none → Q (.ref q) (upd H q (.lst (rgV 0 j))))) (rgD tup (.int 0)) := fun S H v d w Q hS hx hf q => by
  cases d with
  | int j =>
    dsimp only [rgD] at hf
    split at hf
    · rename_i hz
      refine ⟨j, hx.intD, rg_ok hz, ?_⟩
      cases tup with
      | true =>
        cases hf
        exact newT_of hS (rg_rep 0 j) q
      | false =>
        cases hf
        exact fun p hp => q _ _ (made_lst hp (rg_rep 0 j))
    · cases hf
  | _ => cases hf
section
variable {X : Cx} {a b : Expr} {oa ob : Opd} {p p2 pos : Pos}
theorem rg2 (ha : PE X a (SOr X.K oa)) (hb : PE X b (SOr X.K ob)) (hm : X.mg "range" = none) (hg : Gl X "range" := by rfl) (na : starEach [a, b] X.env = (false, eval a X.env) :: starEach [b] X.env := by rfl) (nb : starEach [b] X.env = (false, eval b X.env) :: starEach [] X.env := by rfl) (hp : (backTo pos (starEach [b] X.env)).any (·.1) = false := by rfl) :
    PRg X (.Call (.Name "range" p) [a, b] [] pos) (tRg2 (SOr X.K oa) (SOr X.K ob)) := prg_2 hg hm ha hb na nb hp
theorem rg1 (ha : PE X a (SOr X.K oa)) (hm : X.mg "range" = none) (hg : Gl X "range" := by rfl) (na : starEach [a] X.env = (false, eval a X.env) :: starEach [] X.env := by rfl) : PRg X (.Call (.Name "range" p) [a] [] pos) (tRg1 (SOr X.K oa)) := prg_1 hg hm ha na
theorem se_listRg2 {e : Expr} (he : PRg X e (tRg2 (SOr X.K oa) (SOr X.K ob))) (hc : X.calm = true) (hm : X.mg "list" = none) (hg : Gl X "list" := by rfl) (na : starEach [e] X.env = (false, eval e X.env) :: starEach [] X.env := by rfl) : PE X (.Call (.Name "list" p) [e] [] pos) (SEr X.K (e2 (rgD false) oa ob)) :=
  PEi (pe_listRg hc hg hm he na) fun σ H Q q => e2_go p_rgD q
theorem se_tupRg2 {e : Expr} (he : PRg X e (tRg2 (SOr X.K oa) (SOr X.K ob))) (hc : X.calm = true) (hm : X.mg "tuple" = none) (hg : Gl X "tuple" := by rfl) (na : starEach [e] X.env = (false, eval e X.env) :: starEach [] X.env := by rfl) : PE X (.Call (.Name "tuple" p) [e] [] pos) (SEr X.K (e2 (rgD true) oa ob)) :=
  PEi (pe_tupRgF hc hg hm he na) fun σ H Q q => e2_go p_rgD q
theorem se_listRg1 {e : Expr} (he : PRg X e (tRg1 (SOr X.K oa))) (hc : X.calm = true) (hm : X.mg "list" = none) (hg : Gl X "list" := by rfl) (na : starEach [e] X.env = (false, eval e X.env) :: starEach [] X.env := by rfl) : PE X (.Call (.Name "list" p) [e] [] pos) (SEr X.K (e1 (rgD false (.int 0)) oa)) :=
  PEi (pe_listRg hc hg hm he na) fun σ H Q q => e1_go p_rg1 q
theorem se_tupRg1 {e : Expr} (he : PRg X e (tRg1 (SOr X.K oa))) (hc : X.calm = true) (hm : X.mg "tuple" = none) (hg : Gl X "tuple" := by rfl) (na : starEach [e] X.env = (false, eval e X.env) :: starEach [] X.env := by rfl) : PE X (.Call (.Name "tuple" p) [e] [] pos) (SEr X.K (e1 (rgD true (.int 0)) oa)) :=
  PEi (pe_tupRgF hc hg hm he na) fun σ H Q q => e1_go p_rg1 q
end
/-! ### sorted of ints, of a list or a tuple -/
def isort (l : List Int) : List Int := l.mergeSort fun a b => decide (a ≤ b)
theorem isort_perm (l : List Int) : (isort l).Perm l := List.mergeSort_perm l _
theorem isort_sorted (l : List Int) : (isort l).Pairwise (· ≤ ·) := by
  have h := List.pairwise_mergeSort (le := fun a b : Int => decide (a ≤ b)) (fun a b c h1 h2 => by
    have h1 := of_decide_eq_true h1
    have h2 := of_decide_eq_true h2
    exact decide_eq_true (Int.le_trans h1 h2)) (fun a b => by
    rcases Int.le_total a b with h | h
    · rw [decide_eq_true h] <;> rfl
    · rw [decide_eq_true h, Bool.or_true]) l
  exact h.imp fun q => of_decide_eq_true q
theorem sorted_uniq {l m : List Int} (hp : l.Perm m) (h1 : l.Pairwise (· ≤ ·)) (h2 : m.Pairwise (· ≤ ·)) : l = m := hp.eq_of_pairwise (fun _ _ _ _ p q => Int.le_antisymm p q) h1 h2
theorem isort_of {l m : List Int} (hp : m.Perm l) (h : m.Pairwise (· ≤ ·)) : m = isort l := sorted_uniq (hp.trans (isort_perm l).symm) h (isort_sorted l)
def sortedD (d : PI.D) : Option W := (seqD d).bind fun ds => (toInts ds).bind fun is => some (true, .lst ((isort is).map PI.D.int))
section
variable {prog : Program} {w : World} {A : Around} {E : Value → Shared → Prop} {s : Shared}
theorem collect_tup {l : Addr} {vs : List Value} {Q : List Value → Shared → Prop} (hl : IsTup s.heap l vs.toArray) (hsz : vs.length ≤ sizeLine)
    (hq : Q vs { s with heap := (s.heap.push (seqObj "list" #[] 0)).update s.heap.objs.size (Obj.mapSeq (· ++ vs.toArray)) }) : wpAny (model prog w) A (collect (.ref l)) Q E s := by
  obtain ⟨ob, lo, cc, nn, dd⟩ := hl
  unfold collect
  refine wpAny_bind (wpAny_runValue (codeAny_builtin entry_proto_collect' ?_))
  show wpAny _ _ (do again (.builtin "list.__iadd__" ⟨[← newList [], .ref l], []⟩)) _ _ s
  refine wpAny_bind (wpAny_newList (wpAny_pure ⟨Code.quiet_builtin _ (by decide +kernel), codeAny_builtin entry_list_iadd' ?_⟩))
  show wpAny _ _ (Builtin.List.listExtendWith (.ref s.heap.objs.size) (.ref l) (.ref s.heap.objs.size)) _ _ { s with heap := s.heap.push (seqObj "list" #[] 0) }
  unfold Builtin.List.listExtendWith
  have lo2 : (s.heap.push (seqObj "list" #[] 0)).get? l = some ob := Heap.get?_push_of_some _ lo
  refine wpAny_bind (wpAny_typeOf (T := "tuple") ⟨ob, lo2, cc⟩ ?_)
  have tt : (Value.type "tuple" == Value.type "tuple") = true := by rfl
  rw [if_pos (by rw [tt, Bool.or_true])]
  refine wpAny_bind (listItems_at lo2 dd ?_)
  refine wpAny_bind (listItems_at (xs := #[]) (n := 0) (Heap.get?_push_size _ rfl) rfl ?_)
  rw [if_neg (by simp)]
  have fits : (#[] ++ vs.toArray).size ≤ sizeLine + 1 := by
    simp only [Array.size_append, List.size_toArray, List.length_nil]
    omega
  refine wpAny_bind (listUpdate_at (xs := #[]) (n := 0) (Heap.get?_push_size _ rfl) rfl ?_ (Nat.zero_le _) fits)
  refine wpAny_pure ?_
  refine wpAny_bind (wpAny_load (get?_update_seq (Heap.get?_push_size _ rfl) _) ?_)
  have ee : ((#[] : Array Value) ++ vs.toArray).toList = vs := by simp
  show wpAny _ _ (pure ((#[] : Array Value) ++ vs.toArray).toList) Q E _
  rw [ee]
  exact wpAny_pure hq
/-- sorted of a tuple -/
theorem sorted_tup {l : Addr} {vs : List Value} {ltv : Value → Value → Bool} {Q : Value → Shared → Prop} (O : SrtO.Swo ltv) (hl : IsTup s.heap l vs.toArray) (hz : vs.length ≤ sizeLine)
    (hS : 2 ≤ vs.length → ∀ (hp : Heap) (b : Addr), hp.get? b = some (seqObj "list" vs.toArray 0) → (∀ c o, s.heap.get? c = some o → c ≠ b ∧ hp.get? c = some o) → SrtO.SortableO prog w A.in1.in1 { s with heap := hp } b vs ltv)
    (hq : ∀ out : List Value, SrtO.Srtd ltv out → SrtO.Stb ltv out vs → Q (.ref (s.heap.objs.size + 1)) { s with heap := sortedAll s.heap vs out.toArray }) : wpAny (model prog w) A (call (.builtin "sorted") [.ref l]) Q E s := by
  refine Calls.call_function_entry kind_sorted plain_sorted entry_sorted (args_sorted1 _) ?_
  unfold Builtin.«sorted»
  refine wpAny_bind (m := checkCount "sorted" 1 1 _) (wpAny_pure (wpAny_bind (collect_tup hl hz ?_)))
  refine wpAny_bind (wpAny_newList ?_ hz)
  have e1 : ((s.heap.push (seqObj "list" #[] 0)).update s.heap.objs.size (Obj.mapSeq (· ++ vs.toArray))).objs.size = s.heap.objs.size + 1 := (Heap.size_update ..).trans (size_push' ..)
  have e2 : (((s.heap.push (seqObj "list" #[] 0)).update s.heap.objs.size (Obj.mapSeq (· ++ vs.toArray))).push (seqObj "list" vs.toArray 0)).get? (s.heap.objs.size + 1) = some (seqObj "list" vs.toArray 0) := by
    rw [← e1]
    exact Heap.get?_push_size _ rfl
  have e3 : ∀ c o, s.heap.get? c = some o → c ≠ s.heap.objs.size + 1 ∧ (((s.heap.push (seqObj "list" #[] 0)).update s.heap.objs.size (Obj.mapSeq (· ++ vs.toArray))).push (seqObj "list" vs.toArray 0)).get? c = some o := fun c o z => by
    have lt : c < s.heap.objs.size := Heap.lt_size z
    refine ⟨Nat.ne_of_lt (Nat.lt_succ_of_lt lt), Heap.get?_push_of_some _ ?_⟩
    rw [Heap.get?_update_ne _ _ _ _ (Nat.ne_of_lt lt)]
    exact Heap.get?_push_of_some _ z
  show wpAny _ _ _ _ _ { s with heap := ((s.heap.push (seqObj "list" #[] 0)).update s.heap.objs.size (Obj.mapSeq (· ++ vs.toArray))).push (seqObj "list" vs.toArray 0) }
  rw [e1]
  refine wpAny_bind (wpAny_holding (wpAny_call_entry slot_list_sort ⟨_, e2, rfl⟩ entry_list_sort (SrtO.list_sort_ord O e2 hz (fun h2 => hS h2 _ _ e2 e3) fun out h1 h2 => ⟨_, rfl, wpAny_pure ⟨_, rfl, hq out h1 h2⟩⟩) (args_list_sort _)))
end
end PI

namespace PI
open PySem PySem.Spec PyProof.Rows L2
def rSortT (K : PySem.W.Frag) : List V → Hp → VK → Prop := fun vs H Q => ∃ (a : Addr) (ns : List Int), vs = [V.ref a] ∧ SqT K H a (ns.map V.int) ∧ ∀ (m : List Int) (p : Addr), m.Perm ns → m.Pairwise (· ≤ ·) → H p = none → Q (.ref p) (upd H p (.lst (m.map V.int)))
theorem cr_sortT2 {X : Cx} : CallR X (.builtin "sorted") (rSortT X.K) := by
  intro pins s σ H vs us Q I r h
  obtain ⟨a, ns, rfl, hs, q⟩ := h
  obtain ⟨its, rv, ht, hz⟩ := I.tuple hs
  have hi := rv.ints
  have lz : its.length ≤ sizeLine := by
    rw [← rv.length]
    exact hz
  rw [Vals.ref1 r]
  refine sorted_tup SrtO.swo_int ht lz (fun h2 _ _ _ _ => SrtO.ints_sortable hi h2) fun out h1 h2 => ?_
  obtain ⟨k1, k2, k3⟩ := SrtO.ints_out hi h1 h2
  obtain ⟨ep, e⟩ := PyProof.Rows.sortedAll_at s.heap its out.toArray
  have lo : ((out.map SrtO.iv).map V.int).length ≤ sizeLine := by
    rw [List.length_map] at hz ⊢
    rw [k2.length_eq]
    exact hz
  exact ⟨V.ref (s.heap.objs.size + 1), upd H (s.heap.objs.size + 1) (.lst ((out.map SrtO.iv).map V.int)), I.laid (t' := s.toks) (fun _ _ => PyProof.Rows.sortedAll_old) (Nat.le_succ _) ⟨lo, out, ep, vals_of_ints k1, e⟩, rfl, q _ _ k2 k3 (I.hok.fresh (Nat.le_succ _))⟩
theorem cr_sortA {X : Cx} : CallR X (.builtin "sorted") (fun vs H Q => rSortedI X.K vs H Q ∨ rSortT X.K vs H Q) := CallR.or cr_sortedI cr_sortT2
theorem p_sortedD {K : PySem.W.Frag} : PnOk K (fun vs H Q => rSortedI K vs H Q ∨ rSortT K vs H Q) (c1 sortedD) := p_c1 fun S H v d w Q hS hx hf q => by
  obtain ⟨es, h1, hf⟩ := obind hf
  obtain ⟨is, h2, hf⟩ := obind hf
  cases hf
  obtain ⟨a, us, rfl, h3, h4⟩ := view_seq hx h1
  rw [toInts_ok h2] at h4
  have := h4.of_ints
  subst this
  have fin : ∀ (m : List Int) (p : Addr), m.Perm is → m.Pairwise (· ≤ ·) → H p = none → Q (.ref p) (upd H p (.lst (m.map V.int))) := fun m p k1 k2 k3 => by
    have e := isort_of k1 k2
    subst e
    exact q _ _ (made_lst k3 (.ints _))
  rcases h3 with h3 | h3
  · exact .inl ⟨a, is, rfl, h3, fin⟩
  · exact .inr ⟨a, is, rfl, h3, fin⟩
/-! ### constants of the module -/
mutual
theorem kD_ok {K : PySem.W.Frag} : ∀ {d : PI.D} {u : Value}, kD K d u = true → ∃ v, RelV v u ∧ ∀ S H, Rep K S H v d
  | .non, u, h => by
    cases u with
    | none => exact ⟨.non, rfl, fun _ _ => .non⟩
    | _ => cases h
  | .bl b, u, h => by
    cases u with
    | bool c =>
      have e : b = c := eq_of_beq h
      subst e
      exact ⟨.bl b, rfl, fun _ _ => .bl b⟩
    | _ => cases h
  | .int i, u, h => by
    cases u with
    | int j t =>
      have e : i = j := of_decide_eq_true h
      subst e
      exact ⟨.int i, ⟨t, rfl⟩, fun _ _ => .int i⟩
    | _ => cases h
  | .str x, u, h => by
    cases u with
    | str y t =>
      have e : x = y := of_decide_eq_true h
      subst e
      exact ⟨.str x, ⟨t, rfl⟩, fun _ _ => .str x⟩
    | _ => cases h
  | .tup ds, u, h => by
    cases u with
    | ref a =>
      have h : (match K.lookup a with
        | some ⟨.type c, none, .seq its _, _⟩ => decide (c = "tuple") && (decide (its.size ≤ sizeLine) && kDs K ds its.toList)
        | _ => false) = true := h
      cases q : K.lookup a with
      | none =>
        rw [q] at h
        cases h
      | some o =>
        obtain ⟨oc, od, dt, sl⟩ := o
        rw [q] at h
        cases oc with
        | type c =>
          cases dt with
          | seq its n =>
            cases od with
            | none =>
              obtain ⟨h1, h2⟩ := Bool.and_eq_true_iff.mp (show (decide (c = "tuple") && (decide (its.size ≤ sizeLine) && kDs K ds its.toList)) = true from h)
              obtain ⟨h3, h4⟩ := Bool.and_eq_true_iff.mp h2
              obtain ⟨vs, r1, r2⟩ := kDs_ok h4
              exact ⟨.ref a, rfl, fun S H => .tup (.inr ⟨_, its, n, q, congrArg Value.type (of_decide_eq_true h1), rfl, rfl, of_decide_eq_true h3, r1⟩) (r2 S H)⟩
            | some _ => cases h
          | _ => cases od <;> cases h
        | _ => cases od <;> cases dt <;> cases h
    | _ => cases h
  | .lst ds, u, h => by cases u <;> cases h
  | .frz ds, u, h => by cases u <;> cases h
  | .dct _ _, u, h => by cases u <;> cases h
  | .dic _ _, u, h => by cases u <;> cases h
theorem kDs_ok {K : PySem.W.Frag} : ∀ {ds : List PI.D} {us : List Value}, kDs K ds us = true → ∃ vs, Vals vs us ∧ ∀ S H, RepAll K S H vs ds
  | [], [], _ => ⟨[], .nil, fun _ _ => .nil⟩
  | [], _ :: _, h => by cases h
  | _ :: _, [], h => by cases h
  | d :: ds, u :: us, h => by
    obtain ⟨h1, h2⟩ := Bool.and_eq_true_iff.mp (show (kD K d u && kDs K ds us) = true from h)
    obtain ⟨v, r1, r2⟩ := kD_ok h1
    obtain ⟨vs, s1, s2⟩ := kDs_ok h2
    exact ⟨v :: vs, .cons r1 s1, fun S H => .cons (r2 S H) (s2 S H)⟩
end
theorem conD_ok {K : PySem.W.Frag} {h : Heap} {mg : Str → Option Value} {x : Str} {d : PI.D} (X : K.In h) (G : h.Ns mainGlobals mg) (c : conD K x d = true) : ∃ (v : V) (u : Value), mg x = some u ∧ RelV v u ∧ ∀ S H, Rep K S H v d := by
  unfold conD at c
  split at c
  · rename_i u e
    obtain ⟨v, r1, r2⟩ := kD_ok c
    exact ⟨v, u, PySem.W.mg_of X G e, r1, r2⟩
  · cases c
/-- a dict of the module with text keys: its entries -/
structure KTab (K : PySem.W.Frag) (w : World) (mg : Str → Option Value) (x : Str) (kvs : List (Str × PI.D)) : Prop where
  ex : ∃ (a : Addr) (es : Array DictEntry) (n : Nat), mg x = some (.ref a) ∧ KDict K w a es n ∧ ∀ q ∈ kvs, ∃ u, PySem.W.nsIn K a q.1 = some (some u) ∧ kD K q.2 u = true
def lookT (kvs : List (Str × PI.D)) (z : Str) : Option PI.D := (kvs.find? fun q => decide (q.1 = z)).bind fun q => some q.2
theorem lookT_ok {kvs : List (Str × PI.D)} {z : Str} {d : PI.D} (h : lookT kvs z = some d) : (z, d) ∈ kvs := by
  obtain ⟨q, h1, h2⟩ := obind h
  cases h2
  have h3 := List.find?_some h1
  have h4 := List.mem_of_find?_eq_some h1
  have h5 : q.1 = z := of_decide_eq_true h3
  rw [← h5]
  exact h4
def kinD (kvs : List (Str × PI.D)) : PI.D → Option W
  | .str z => (lookT kvs z).bind fun _ => some (false, .bl true)
  | _ => none
def kgetD (kvs : List (Str × PI.D)) : PI.D → Option W
  | .str z => (lookT kvs z).bind fun d => some (false, d)
  | _ => none
section
variable {X : Cx} {x : Str} {kvs : List (Str × PI.D)} {e : Expr} {o : Opd} {p pos : Pos}
theorem se_kin (T : KTab X.K X.w X.mg x kvs) (he : PE X e (SOr X.K o)) (hg : Gl X x := by rfl) (hd : (x == ("__debug__" : Str)) = false := by decide) (hm : behindInMarks .In (.Name x p) = false := by rfl) : PE X (.Compare e [.In] [.Name x p] pos) (SEr X.K (e1 (kinD kvs) o)) := by
  obtain ⟨a, es, n, h1, D, h3⟩ := T.ex
  refine PEi (pe_cmpR (op_in_kd D) he (pe_glob (v := V.ref a) hg h1 rfl hd) hm) fun σ H Q q => ?_
  refine e1_go (r := fun y H1 Q => ∃ (z : Str) (r : Option Value), y = .str z ∧ V.ref a = .ref a ∧ PySem.W.nsIn X.K a z = some r ∧ Q (.bl r.isSome) H1) (fun S H v d w Q hS hx hf q => ?_) q
  cases d with
  | str z =>
    obtain ⟨d', g1, g2⟩ := obind hf
    cases g2
    obtain ⟨u, g3, _⟩ := h3 _ (lookT_ok g1)
    exact ⟨z, some u, hx.strD, rfl, g3, q _ H (made_bl _)⟩
  | _ => cases hf
end
/-! ### a def keeps its promise -/
structure DefAt (K : PySem.W.Frag) (mg : Str → Option Value) (x y : Str) (st : Stmt) (a : Addr) (fd : FuncData) : Prop where
  fn : FunD K y y (defArgs st) (defBody st) (defScope st) [] [] a fd
  gl : mg x = some (.ref a)
/-- as a caller finds it -/
structure Ok (P : Program) (w : World) (K : PySem.W.Frag) (mg : Str → Option Value) (base : Heap) (k : Nat) (x y : Str) (st : Stmt) (ps : List Str) (modes : List Bool) (f : Cal) : Prop where
  ex : ∃ (a : Addr) (fd : FuncData), FnOk P w K mg base CX0 k a fd ps (spOf K modes f) ∧ DefAt K mg x y st a fd
theorem ok_of {P : Program} {w : World} {K : PySem.W.Frag} {mg : Str → Option Value} {base : Heap} {k : Nat} {x y : Str} {st : Stmt} {N ps : List Str} {modes : List Bool} {f : Cal} {body : SF} {a : Addr} {fd : FuncData}
    (F : DefAt K mg x y st a fd) (S : FnScope N ps (defScope st)) (lm : modes.length = ps.length) (ln : ps.length ≤ N.length)
    (hb : ∀ (cdv : Value) (A : Around) (outer : List PySem.Env) (s : Shared) (H : Hp) (E : XK), Room k (A.deeper (envOfC y (defScope st) s.heap.objs.size a cdv)) → PSs (cxOf CX0 P w K mg base N y (defScope st) a cdv A outer s H E).nox (defBody st) (SSr K (tp 0 modes) body))
    (hf : ∀ ds w outs, f ds = some (w, outs) → runB modes N.length body ds = some (w, outs)) : Ok P w K mg base (k + 1) x y st ps modes f := by
  refine ⟨a, fd, F.fn.ok S (fun vs H Q E h => ?_) (fun cdv A outer s H vs Q E hr h => ⟨_, PSs.nox (hb cdv A outer s H E hr), run_ok (by omega) hf h⟩), F⟩
  obtain ⟨S', ds, w', outs, _, _, hA, _⟩ := h
  rw [hA.len1.1, lm]
section
variable {X : Cx} {k j : Nat} {x y : Str} {st : Stmt} {p pos : Pos} {e : Expr} {es : List Expr} {ps : List Str} {modes : List Bool} {f : Cal} {as bs : List Opd}
theorem se_fn (G : Ok X.prog X.w X.K X.mg X.base j x y st ps modes f) (hr : Room k X.A) (ha : PA X (e :: es) (SAr X.K as))
    (hb : ∀ (kV doc pm : Value) (an : Option Addr) (cdv ct : Value) (us : List Value), us.length = ps.length → bindArgs (PySem.W.fnOf y y (defArgs st) (defBody st) (defScope st) .none kV doc pm an cdv ct) ⟨us, []⟩ = pure (ps.zip us))
    (hjk : j ≤ k := by decide) (hg : Gl X x := by rfl) (hdb : (x == ("__debug__" : Str)) = false := by decide) (he : starEach (e :: es) X.env = (false, eval e X.env) :: starEach es X.env := by rfl) (hpl : (backTo pos (starEach es X.env)).any (·.1) = false := by rfl) :
    PE X (.Call (.Name x p) (e :: es) [] pos) (SEr X.K (eCall modes f as)) := by
  obtain ⟨a, fd, F, D⟩ := G.ex
  exact PEi (pe_call F (hr.mono hjk) hg D.gl D.fn.kp (D.fn.bindsN hb) .nil pass0 ha hdb he hpl) fun _ _ _ q => eCall_go q
theorem se_fn0 (G : Ok X.prog X.w X.K X.mg X.base j x y st ps modes f) (hr : Room k X.A)
    (hb : ∀ (kV doc pm : Value) (an : Option Addr) (cdv ct : Value) (us : List Value), us.length = ps.length → bindArgs (PySem.W.fnOf y y (defArgs st) (defBody st) (defScope st) .none kV doc pm an cdv ct) ⟨us, []⟩ = pure (ps.zip us))
    (hjk : j ≤ k := by decide) (hg : Gl X x := by rfl) (hdb : (x == ("__debug__" : Str)) = false := by decide) :
    PE X (.Call (.Name x p) [] [] pos) (SEr X.K (eCall modes f [])) := by
  obtain ⟨a, fd, F, D⟩ := G.ex
  exact PEi (pe_call0 F (hr.mono hjk) hg D.gl D.fn.kp (D.fn.bindsN hb) .nil pass0 hdb) fun _ _ _ q => eCall_go q
theorem pick_vals (is : List Nat) {vs : List V} {us : List Value} (r : Vals vs us) : Vals (pick is vs) (pick is us) := by
  unfold pick
  induction is with
  | nil => exact .nil
  | cons i is ih =>
    rw [List.filterMap_cons, List.filterMap_cons]
    cases e : vs[i]? with
    | none =>
      rw [r.none_of e]
      exact ih
    | some v =>
      obtain ⟨u, h1, h2⟩ := r.get e
      rw [h1]
      exact .cons h2 ih
def SKr (K : PySem.W.Frag) (bs : List Opd) : TA := SAr K bs
theorem sk_nil : PK X [] (SAr X.K []) := pk_nil
theorem sk_cons {kws : List Keyword} {nm : Option Str} {kpos : Pos} {o : Opd} (ha : PE X e (SOr X.K o)) (hr : PK X kws (SAr X.K bs)) : PK X (⟨nm, e, kpos⟩ :: kws) (SAr X.K (o :: bs)) := pk_cons ha hr
/-- f(k = v, ..), no positional ones -/
theorem se_fnK {kws : List Keyword} {ks : List Str} {is : List Nat} (G : Ok X.prog X.w X.K X.mg X.base j x y st ps modes f) (hr : Room k X.A) (hkw : PK X kws (SAr X.K bs))
    (hb : ∀ (kV doc pm : Value) (an : Option Addr) (cdv ct : Value) (ws : List Value), (pick is ws).length = ps.length → bindArgs (PySem.W.fnOf y y (defArgs st) (defBody st) (defScope st) .none kV doc pm an cdv ct) ⟨[], ks.zip ws⟩ = pure (ps.zip (pick is ws)))
    (hjk : j ≤ k := by decide) (hall : (backToKw pos (keywordEach kws X.env)).all (·.1.isSome) = true := by rfl) (hks : (backToKw pos (keywordEach kws X.env)).filterMap (·.1) = ks := by rfl) (hg : Gl X x := by rfl)
    (hdb : (x == ("__debug__" : Str)) = false := by decide) (hpl : ((backTo pos (starEach [] X.env)).any (·.1) || (backToKw pos (keywordEach kws X.env)).any (·.1.isNone)) = false := by rfl) :
    PE X (.Call (.Name x p) [] kws pos) (SEr X.K (eCallK modes f bs is)) := by
  obtain ⟨a, fd, F, D⟩ := G.ex
  refine ⟨fun pins s σ H Q I h => ?_⟩
  have h : SAr X.K bs σ H fun zs H2 => spOf X.K modes f (pick is ([] ++ zs)) H2 Q E0 := eCallK_go (as := []) h
  refine wpAny_Call_Name_kw (ld_glob I hg D.gl ?_ hdb)
  refine PySem.W.callWith_KW0 (h₀ := X.base) I.ok.mod.kin D.fn.kp hall ?_ hpl
  refine thn (hkw.run pos pins s σ H _ I h) fun ws s2 ⟨zs, H2, I2, rz, q2⟩ => ⟨I2.kIn, ?_⟩
  rw [hks]
  have bt : BindsTo s2 fd ⟨[], ks.zip ws⟩ (ps.zip (pick is ws)) := by
    obtain ⟨oc, od, dV, kV, doc, pm, an, cdv, ct, osl, rfl, lk, hcd, hD, hK⟩ := D.fn.ex
    rcases hD with ⟨_, rfl⟩ | ⟨e, _⟩
    · refine .of_eq (hb kV doc pm an cdv ct ws ?_)
      rw [← (pick_vals is rz).length]
      exact F.len _ _ _ _ q2
    · exact absurd rfl e
  refine wpAny_call (codeAny_mono (F.run X.A X.stack s2 H2 ⟨[], ks.zip ws⟩ (pick is ws) (pick is zs) Q E0 (hr.mono hjk) I2.env0 bt (pick_vals is rz) q2) fun r s' hq => ?_)
  cases r with
  | error e => exact hq.elim
  | ok fl =>
    cases fl with
    | ret u => exact I2.after hq
    | next => exact hq.elim
    | brk => exact hq.elim
    | cont => exact hq.elim
end
end PI

namespace PI
open PySem PySem.Spec PyProof.Rows L2
/-! ### walks over lists or tuples -/
def iAny (K : PySem.W.Frag) (t : TE) : TI := fun σ H R => iList K t σ H R ∨ iTup K t σ H R
theorem pi_any {X : Cx} {tg e : Expr} {t : TE} (h : PE X e t) : L2.PI X tg e (iAny X.K t) := ⟨fun pins s σ H R I q => q.elim (fun q => (pi_list h).run pins s σ H R I q) fun q => (pi_tup h).run pins s σ H R I q⟩
def srcA (f : EF) : SrcF := fun env => (f env).bind fun r => match r.1.2 with
  | .lst ds => some (ds, r.2)
  | .frz ds => some (ds, r.2)
  | .tup ds => some (ds, r.2)
  | _ => none
theorem srcA_ok {K : PySem.W.Frag} {f : EF} : SrcOk K (iAny K (SEr K f)) (srcA f) := fun Z env σ H R ds env1 R0 e q => by
  obtain ⟨⟨⟨fr, d⟩, env2⟩, g1, e⟩ := obind e
  cases d with
  | lst es =>
    cases e
    exact .inl (srcL_ok Z env σ H R _ _ R0 (by show (f env).bind _ = _; rw [g1]; rfl) q)
  | frz es =>
    cases e
    exact .inl (srcL_ok Z env σ H R _ _ R0 (by show (f env).bind _ = _; rw [g1]; rfl) q)
  | tup es =>
    cases e
    exact .inr (srcT_ok Z env σ H R _ _ R0 (by show (f env).bind _ = _; rw [g1]; rfl) q)
  | _ => cases e
/-- what a name holds, hidden meanwhile when it owns it -/
def srcN (i : Nat) : SrcC := fun env => match env[i]? with
  | some (some (true, .lst ds)) => some (ds, env.set i none, some (i, ds))
  | some (some (false, .lst ds)) => some (ds, env, none)
  | some (some (false, .frz ds)) => some (ds, env, none)
  | some (some (false, .tup ds)) => some (ds, env, none)
  | _ => none
theorem srcN_ok {K : PySem.W.Frag} {i : Nat} : SrcCOk K (iAny K (tVar i)) (srcN i) := fun Z env σ H R ds env1 hid R0 e q => by
  unfold srcN at e
  have un : ∀ (es : List PI.D) (d : PI.D), env[i]? = some (some (false, d)) → eVar i env = some ((false, d), env) := fun es d g => by
    unfold eVar
    rw [g]
  split at e
  · rename_i es g
    exact .inl (srcH_ok Z env σ H R ds env1 hid R0 (by unfold srcH; rw [g]; exact e) q)
  · rename_i es g
    exact .inl (srcH_ok Z env σ H R ds env1 hid R0 (by unfold srcH; rw [g]; exact e) q)
  · rename_i es g
    cases e
    have h := srcC_ok (srcL_ok (K := K) (f := eVar i)) Z env σ H R _ _ none R0 (by unfold srcC srcL; rw [un [] _ g]; rfl) q
    exact .inl (eVar_go h)
  · rename_i es g
    cases e
    have h := srcC_ok (srcT_ok (K := K) (f := eVar i)) Z env σ H R _ _ none R0 (by unfold srcC srcT; rw [un [] _ g]; rfl) q
    exact .inr (eVar_go h)
  · cases e
end PI

namespace PI
open PySem PySem.Spec PyProof.Rows L2
section
variable {X : Cx} {pos : Pos} {a b c : Expr}
theorem st_chain {op op' : CmpOp} {r r' : R2} {f g : PI.D → PI.D → Option W} {oa ob oc : Opd} (ho : L2.OpR X (compareOp op) r) (p : P2Ok X.K r f) (ho' : L2.OpR X (compareOp op') r') (p' : P2Ok X.K r' g) (ha : PE X a (SOr X.K oa)) (hb : PE X b (SOr X.K ob)) (hc : PE X c (SOr X.K oc)) (hm : lastMarks [op, op'] [b, c] = false := by rfl) :
    PT X (.Compare a [op, op'] [b, c] pos) (STr X.K (eCh f g oa ob oc)) := by
  refine PTi (pt_chain ho ho' ha hb hc (hm := hm)) fun σ H Q q => ?_
  exact eCh_go (K := X.K) (Q := fun x H1 => ∃ c, x = .bl c ∧ Q c H1) p p' (st_val q)
theorem st_kin {x : Str} {kvs : List (Str × PI.D)} {e : Expr} {o : Opd} {p : Pos} (T : KTab X.K X.w X.mg x kvs) (he : PE X e (SOr X.K o)) (hg : Gl X x := by rfl) (hd : (x == ("__debug__" : Str)) = false := by decide) (hm : behindInMarks .In (.Name x p) = false := by rfl) : PT X (.Compare e [.In] [.Name x p] pos) (STr X.K (e1 (kinD kvs) o)) := by
  obtain ⟨a, es, n, h1, D, h3⟩ := T.ex
  refine PTi (pt_cmpR (op_in_kd D) he (pe_glob (v := V.ref a) hg h1 rfl hd) hm) fun σ H Q q => ?_
  refine e1_go (Q := fun x H1 => ∃ c, x = .bl c ∧ Q c H1) (r := fun y H1 Q => ∃ (z : Str) (r : Option Value), y = .str z ∧ V.ref a = .ref a ∧ PySem.W.nsIn X.K a z = some r ∧ Q (.bl r.isSome) H1) (fun S H v d w Q hS hx hf q => ?_) (st_val q)
  cases d with
  | str z =>
    obtain ⟨d', g1, g2⟩ := obind hf
    cases g2
    obtain ⟨u, g3, _⟩ := h3 _ (lookT_ok g1)
    exact ⟨z, some u, hx.strD, rfl, g3, q _ H (made_bl _)⟩
  | _ => cases hf
/-- d[key], d a dict of the module -/
theorem se_kget {x : Str} {kvs : List (Str × PI.D)} {e : Expr} {o : Opd} {p : Pos} (T : KTab X.K X.w X.mg x kvs) (he : PE X e (SOr X.K o)) (hs : PlainIx e := by exact fun _ _ => rfl) (hg : Gl X x := by rfl) (hd : (x == ("__debug__" : Str)) = false := by decide) : PE X (.Subscript (.Name x p) e pos) (SEr X.K (e1 (kgetD kvs) o)) := by
  obtain ⟨a, es, n, h1, D, h3⟩ := T.ex
  refine PEi (pe_ix ix_kdict (pe_glob (v := V.ref a) hg h1 rfl hd) he hs) fun σ H Q q => ?_
  refine e1_go (r := fun y H1 Q => rIxD X.K X.w (V.ref a) y H1 Q) (fun S H v d w Q hS hx hf q => ?_) q
  cases d with
  | str z =>
    obtain ⟨d', g1, g2⟩ := obind hf
    cases g2
    obtain ⟨u, g3, g4⟩ := h3 _ (lookT_ok g1)
    obtain ⟨v', r1, r2⟩ := kD_ok g4
    exact ⟨a, z, v', rfl, hx.strD, ⟨es, n, u, D.at_, D.lit, g3, r1⟩, q _ H (made_old (r2 S H))⟩
  | _ => cases hf
variable {tg : Expr} {p : Pos} {f g : EF}
theorem pi_rg1 (ha : PE X a (SEr X.K f)) (hm : X.mg "range" = none) (hg : Gl X "range" := by rfl) (hs : starEach [a] X.env = [(false, eval a X.env)] := by rfl) (hs1 : starEach [a] X.env = (false, eval a X.env) :: starEach [] X.env := by rfl) : L2.PI X tg (.Call (.Name "range" p) [a] [] pos) (iRng1 (SVr X.K [f])) := pi_range1 hg hm (sv_cons ha sv_nil hs1) hs
theorem pi_rg2 (ha : PE X a (SEr X.K f)) (hb : PE X b (SEr X.K g)) (hm : X.mg "range" = none) (hg : Gl X "range" := by rfl) (hs : starEach [a, b] X.env = [(false, eval a X.env), (false, eval b X.env)] := by rfl) (hs2 : starEach [b] X.env = [(false, eval b X.env)] := by rfl)
    (hs3 : starEach [a, b] X.env = (false, eval a X.env) :: starEach [b] X.env := by rfl) (hs4 : starEach [b] X.env = (false, eval b X.env) :: starEach [] X.env := by rfl) : L2.PI X tg (.Call (.Name "range" p) [a, b] [] pos) (iRng2 (SVr X.K [f, g])) := pi_range2 hg hm (sv_cons ha (sv_cons hb sv_nil hs4) hs3) hs hs2
end
/-! ### the end of a law -/
theorem DefAt.same {K : PySem.W.Frag} {mg : Str → Option Value} {x y : Str} {st : Stmt} {a : Addr} {fd fd' : FuncData} (h : DefAt K mg x y st a fd) (h' : DefAt K mg x y st a fd') : fd = fd' := by
  obtain ⟨_, _, _, _, _, _, _, _, _, _, _, lk, _, _, _⟩ := h.fn.ex
  obtain ⟨_, _, _, _, _, _, _, _, _, _, _, lk', _, _, _⟩ := h'.fn.ex
  rw [lk] at lk'
  have e := congrArg Obj.data (Option.some.inj lk')
  exact Data.func.inj e
theorem walk_pi {l : PySem.W.OpenLaw} {n k : Nat} {q : Program} {loose : List Str} {XP : (Str → Option Value) → Heap → Prop} {YP : World → Heap → Prop} {d : DefRec} {x : Str} {st : Stmt} {y : Str} {f : Cal}
    (hn : l.most = some n) (hn2 : n ≤ sizeLine) (hdf : d.params.defaults = []) (hr : Room k callerA) (hx : d.name = x)
    (hbind : ∀ (kV doc pm : Value) (an : Option Addr) (cdv ct : Value) (us : List Value), us.length = [y].length → bindArgs (PySem.W.fnOf x x (defArgs st) (defBody st) (defScope st) .none kV doc pm an cdv ct) ⟨us, []⟩ = pure ([y].zip us))
    (F : ∀ (w : World) (mg : Str → Option Value) (h : Heap), YP w h → h.Ns mainGlobals mg →
      ∃ (K : PySem.W.Frag), K.In h ∧ (∃ (fa : Addr) (fd : FuncData), DefAt K mg x x st fa fd) ∧ ∀ base : Heap, K.In base → base.Ns mainGlobals mg → Ok l.prog w K mg base k x x st [y] [false] f)
    (hlaw : ∀ ns : List Int, ns.length ≤ n → (∀ z ∈ ns, Builtin.Int.intBits z ≤ 1048576) → f [.frz (ns.map PI.D.int)] = some ((false, .bl true), [])) :
    PySem.W.WalkO q loose XP YP l.row.toRowW d [] (fun f vs => PySem.call f vs) := by
  refine Att.attach_callB hn hdf fun w s₀ s₁ mg mb fa o pm cd doc a vs ns G Y ho hd hcd hmg hobj hints hlen hbits hg => ?_
  obtain ⟨K, KX, ⟨a0, fd, D0⟩, hF⟩ := F w mg _ Y G.T.g
  rw [hx] at hmg
  have ea := D0.gl.symm.trans hmg
  cases ea
  have key : ∀ base : Heap, K.In base → base.Ns mainGlobals mg → FnOk l.prog w K mg base CX0 k fa fd [y] (spOf K [false] f) := fun base h1 h2 => by
    obtain ⟨a1, fd1, h3, D1⟩ := (hF base h1 h2).ex
    have ea := D0.gl.symm.trans D1.gl
    cases ea
    rw [D0.same D1]
    exact h3
  refine law_call (CX := CX0) KX G.T.g G.T.b G.T.builtins G.T.nolimit hg hobj hints (Nat.le_trans hlen hn2) hr key (fun s u => ?_) (fun H hO hS => ?_) fun H e s' z => z
  · exact D0.fn.bindsA hbind s [u] rfl
  · refine ⟨fun _ => False, [.frz (ns.map PI.D.int)], (false, .bl true), [], fun _ z => z.elim, (fun b z => (nomatch (show V.ref b ∈ ([] : List V) from z))), .cons (m := false) ?_ .nil, .nil, hlaw ns hlen hbits, fun v H' c => rep_bl (c.old rfl)⟩
    refine .frz (vs := ns.map V.int) ?_ (.ints ns)
    rcases hS with hS | hS
    · exact .inl ⟨hS, id⟩
    · exact .inr hS
end PI
namespace PI
open PySem PySem.Spec PyProof.Rows L2
theorem tab_ok {K : PySem.W.Frag} {w : World} {mg : Str → Option Value} {x : Str} {kvs : List (Str × PI.D)} (hm : mg x = some (.ref (He.ga K x))) (hD : ∃ es n, KDict K w (He.ga K x) es n) (h : tabB K x kvs = true) : KTab K w mg x kvs := by
  obtain ⟨es, n, D⟩ := hD
  refine ⟨_, es, n, hm, D, fun q hq => ?_⟩
  have h1 := List.all_eq_true.mp h q hq
  split at h1
  · rename_i u e
    exact ⟨u, e, h1⟩
  · cases h1
end PI

namespace PI
open PySem PySem.Spec PyProof.Rows L2
def zL (l : List Int) : List PI.D := l.map PI.D.int
/-- values as data: equal values, equal data -/
structure EncOk {α : Type} [DecidableEq α] (e : α → PI.D) (n : Nat) : Prop where
  eqv : ∀ a b, PyData.eqv (toPy (e a)) (toPy (e b)) = decide (a = b)
  lay : ∀ a, PyData.canLay0 (toPy (e a)) = true
  dep : ∀ a, PyData.depth (toPy (e a)) ≤ n
theorem enc_int : EncOk PI.D.int 0 := ⟨fun a b => by
  show PyData.eqv (.int a) (.int b) = _
  rw [PyData.eqv]
  by_cases h : a = b
  · subst h; simp
  · simp [h], fun a => by simp [toPy, PyData.canLay0], fun a => by simp [toPy, PyData.depth]⟩
theorem enc_bl : EncOk PI.D.bl 0 := ⟨fun a b => by
  show PyData.eqv (.bool a) (.bool b) = _
  rw [PyData.eqv]
  cases a <;> cases b <;> rfl, fun a => by simp [toPy, PyData.canLay0], fun a => by simp [toPy, PyData.depth]⟩
section
variable {α : Type} [DecidableEq α] {e : α → PI.D} {n : Nat}
theorem toPys_map (l : List α) : toPys (l.map e) = l.map fun a => toPy (e a) := by
  induction l with
  | nil => rfl
  | cons a l ih =>
    show toPy (e a) :: toPys (l.map e) = _
    rw [ih]
    rfl
theorem enc_all (h : EncOk e n) : (∀ l m : List α, PyData.eqvAll (toPys (l.map e)) (toPys (m.map e)) = decide (l = m)) ∧ (∀ l : List α, PyData.canLayAll0 (toPys (l.map e)) = true) ∧ ∀ l : List α, PyData.depthAll (toPys (l.map e)) ≤ n := by
  refine ⟨fun l => ?_, fun l => ?_, fun l => ?_⟩
  · induction l with
    | nil =>
      intro m
      cases m with
      | nil => rfl
      | cons b m => rfl
    | cons a l ih =>
      intro m
      cases m with
      | nil => rfl
      | cons b m =>
        show PyData.eqvAll (toPy (e a) :: toPys (l.map e)) (toPy (e b) :: toPys (m.map e)) = _
        rw [PyData.eqvAll, h.eqv, ih]
        by_cases h1 : a = b <;> by_cases h2 : l = m <;> simp [h1, h2]
  · induction l with
    | nil => rfl
    | cons a l ih =>
      show PyData.canLayAll0 (toPy (e a) :: toPys (l.map e)) = true
      rw [PyData.canLayAll0, h.lay, ih]
      rfl
  · induction l with
    | nil => exact Nat.zero_le _
    | cons a l ih =>
      show PyData.depthAll (toPy (e a) :: toPys (l.map e)) ≤ n
      rw [PyData.depthAll]
      exact Nat.max_le.mpr ⟨h.dep a, ih⟩
theorem enc_tup (h : EncOk e n) : EncOk (fun l : List α => PI.D.tup (l.map e)) (n + 1) := ⟨fun a b => by
  show PyData.eqv (.tuple (toPys (a.map e))) (.tuple (toPys (b.map e))) = _
  rw [PyData.eqv]
  exact (enc_all h).1 a b, fun a => by
  show PyData.canLay0 (.tuple (toPys (a.map e))) = true
  rw [PyData.canLay0]
  exact (enc_all h).2.1 a, fun a => by
  show PyData.depth (.tuple (toPys (a.map e))) ≤ n + 1
  rw [PyData.depth]
  exact Nat.succ_le_succ ((enc_all h).2.2 a)⟩
theorem enc_lst (h : EncOk e n) : EncOk (fun l : List α => PI.D.lst (l.map e)) (n + 1) := ⟨fun a b => by
  show PyData.eqv (.list (toPys (a.map e))) (.list (toPys (b.map e))) = _
  rw [PyData.eqv]
  exact (enc_all h).1 a b, fun a => by
  show PyData.canLay0 (.list (toPys (a.map e))) = true
  rw [PyData.canLay0]
  exact (enc_all h).2.1 a, fun a => by
  show PyData.depth (.list (toPys (a.map e))) ≤ n + 1
  rw [PyData.depth]
  exact Nat.succ_le_succ ((enc_all h).2.2 a)⟩
theorem shaped_of {d : PI.D} (h1 : PyData.canLay0 (toPy d) = true) (h2 : PyData.depth (toPy d) ≤ 64) : SeqAt.shaped (toPy d) = true := by
  unfold SeqAt.shaped
  rw [h1, decide_eq_true h2]
  rfl
theorem eqB_enc (h : EncOk e n) (hn : n ≤ 64) {a b : α} (hs : scD (e a) (e b) = none) : eqB (e a) (e b) = some (decide (a = b)) := by
  unfold eqB
  rw [hs]
  dsimp only
  rw [shaped_of (h.lay a) (Nat.le_trans (h.dep a) hn), shaped_of (h.lay b) (Nat.le_trans (h.dep b) hn), h.eqv]
  rfl
theorem eqB_tup (h : EncOk e n) (hn : n ≤ 63) (l m : List α) : eqB (.tup (l.map e)) (.tup (m.map e)) = some (decide (l = m)) := eqB_enc (enc_tup h) (by omega) rfl
theorem eqB_lst (h : EncOk e n) (hn : n ≤ 63) (l m : List α) : eqB (.lst (l.map e)) (.lst (m.map e)) = some (decide (l = m)) := eqB_enc (enc_lst h) (by omega) rfl
theorem eqB_tup0 (h : EncOk e n) (hn : n ≤ 63) (l : List α) : eqB (.tup (l.map e)) (.tup []) = some (decide (l = [])) := eqB_tup h hn l []
theorem eqB_lst0 (h : EncOk e n) (hn : n ≤ 63) (l : List α) : eqB (.lst (l.map e)) (.lst []) = some (decide (l = [])) := eqB_lst h hn l []
end
theorem enc_zt : EncOk (fun l : List Int => PI.D.tup (zL l)) 1 := enc_tup enc_int
theorem enc_zl : EncOk (fun l : List Int => PI.D.lst (zL l)) 1 := enc_lst enc_int
theorem eqT (l m : List Int) : eqB (.tup (zL l)) (.tup (zL m)) = some (decide (l = m)) := eqB_tup enc_int (by decide) l m
theorem eqL (l m : List Int) : eqB (.lst (zL l)) (.lst (zL m)) = some (decide (l = m)) := eqB_lst enc_int (by decide) l m
theorem eqT0 (l : List Int) : eqB (.tup (zL l)) (.tup []) = some (decide (l = [])) := eqB_tup enc_int (by decide) l []
theorem eqL0 (l : List Int) : eqB (.lst (zL l)) (.lst []) = some (decide (l = [])) := eqB_lst enc_int (by decide) l []
/-! ### places -/
theorem at_nat {α : Type} (l : List α) (i : Nat) : atI l (i : Int) = l[i]? := by
  unfold atI ixN
  rw [if_pos (by omega)]
  by_cases h : i < l.length
  · rw [if_pos (by omega)]
    simp
  · rw [if_neg (by omega), List.getElem?_eq_none (by omega)]
    rfl
theorem at_0 {α : Type} (l : List α) : atI l 0 = l[0]? := at_nat l 0
theorem at_1 {α : Type} (l : List α) : atI l 1 = l[1]? := at_nat l 1
theorem at_2 {α : Type} (l : List α) : atI l 2 = l[2]? := at_nat l 2
theorem at_last {α : Type} (l : List α) : atI l (-1) = l.getLast? := by
  unfold atI ixN
  rw [if_neg (by decide), List.getLast?_eq_getElem?]
  cases l with
  | nil => rfl
  | cons a l =>
    rw [if_pos (by simp only [List.length_cons]; omega)]
    have e : ((-1 : Int) + ((a :: l).length : Nat)).toNat = (a :: l).length - 1 := by simp only [List.length_cons]; omega
    rw [e]
    rfl
theorem cut_take {α : Type} {ds : List PI.D} (k : Nat) : cutD ds none (some (k : Int)) = ds.take k := by
  unfold cutD
  rw [HT.sIx_none, HT.sIx_nat, List.drop_zero, Nat.sub_zero]
  by_cases h : k ≤ ds.length
  · rw [Nat.min_eq_left h]
  · rw [Nat.min_eq_right (by omega), List.take_of_length_le (Nat.le_refl _), List.take_of_length_le (by omega)]
theorem cut_drop {ds : List PI.D} (k : Nat) : cutD ds (some (k : Int)) none = ds.drop k := by
  unfold cutD
  rw [HT.sIx_none, HT.sIx_nat]
  by_cases h : k ≤ ds.length
  · rw [Nat.min_eq_left h, List.take_of_length_le (by rw [List.length_drop]; omega)]
  · rw [Nat.min_eq_right (by omega), List.drop_of_length_le (Nat.le_refl _), List.drop_of_length_le (by omega)]
    exact List.take_nil
theorem cut_1 {ds : List PI.D} : cutD ds none (some 1) = ds.take 1 := cut_take (α := Int) 1
theorem cut1_ {ds : List PI.D} : cutD ds (some 1) none = ds.drop 1 := cut_drop 1
theorem zL_get (l : List Int) (i : Nat) : (zL l)[i]? = l[i]?.map PI.D.int := List.getElem?_map
theorem zL_len (l : List Int) : (zL l).length = l.length := List.length_map _
theorem zL_last (l : List Int) : (zL l).getLast? = l.getLast?.map PI.D.int := List.getLast?_map
theorem zL_app (l m : List Int) : zL l ++ zL m = zL (l ++ m) := List.map_append.symm
theorem zL_app1 (l : List Int) (x : Int) : zL l ++ [PI.D.int x] = zL (l ++ [x]) := by rw [← zL_app]; rfl
theorem zL_rev (l : List Int) : (zL l).reverse = zL l.reverse := List.map_reverse.symm
theorem zL_dropLast (l : List Int) : (zL l).dropLast = zL l.dropLast := (List.map_dropLast).symm
theorem zL_take (l : List Int) (k : Nat) : (zL l).take k = zL (l.take k) := List.map_take.symm
theorem zL_drop (l : List Int) (k : Nat) : (zL l).drop k = zL (l.drop k) := List.map_drop.symm
end PI

namespace PI
open PySem PySem.Spec PyProof.Rows L2
@[simp] theorem s_e1 (f : D → Option W) (a : Opd) (env : PI.Env) : e1 f a env = ((a.run env).bind fun r => (r.1.get r.2).bind fun d => (f d).bind fun w => some (w, r.2)) := id rfl
@[simp] theorem s_e2 (f : D → D → Option W) (a b : Opd) (env : PI.Env) : e2 f a b env = ((a.run env).bind fun r => (b.run r.2).bind fun s => (r.1.get s.2).bind fun d => (s.1.get s.2).bind fun e => (f d e).bind fun w => some (w, s.2)) := id rfl
@[simp] theorem s_eN (f : List D → Option W) (as : List Opd) (env : PI.Env) : eN f as env = ((runs as env).bind fun r => (gets r.2 r.1).bind fun ds => (f ds).bind fun w => some (w, r.2)) := id rfl
@[simp] theorem s_eVar (i : Nat) (env : PI.Env) : eVar i env = (match env[i]? with
  | some (some (true, d)) => some ((false, d), env.set i (some (false, d)))
  | some (some (false, d)) => some ((false, d), env)
  | _ => none) := id rfl
@[simp] theorem s_eC (d : D) (env : PI.Env) : eC d env = (some ((false, d), env)) := id rfl
@[simp] theorem s_eAnd (f g : EF) (env : PI.Env) : eAnd f g env = ((f env).bind fun r => match r.1.2 with
  | .bl true => g r.2
  | .bl false => some ((false, .bl false), r.2)
  | _ => none) := id rfl
@[simp] theorem s_eOr (f g : EF) (env : PI.Env) : eOr f g env = ((f env).bind fun r => match r.1.2 with
  | .bl true => some ((false, .bl true), r.2)
  | .bl false => g r.2
  | _ => none) := id rfl
@[simp] theorem s_eNot (f : EF) (env : PI.Env) : eNot f env = ((f env).bind fun r => match r.1.2 with
  | .bl b => some ((false, .bl (!b)), r.2)
  | _ => none) := id rfl
@[simp] theorem s_eIf (c f g : EF) (env : PI.Env) : eIf c f g env = ((c env).bind fun r => match r.1.2 with
  | .bl true => f r.2
  | .bl false => g r.2
  | _ => none) := id rfl
@[simp] theorem s_eTup (fs : List EF) (env : PI.Env) : eTup fs env = ((vals fs env).bind fun r => some ((false, .tup r.1), r.2)) := id rfl
@[simp] theorem s_eLst (fs : List EF) (env : PI.Env) : eLst fs env = ((vals fs env).bind fun r => some ((true, .lst r.1), r.2)) := id rfl
@[simp] theorem s_eCh (f g : D → D → Option W) (a b c : Opd) (env : PI.Env) : eCh f g a b c env = ((a.run env).bind fun r => (b.run r.2).bind fun s => (r.1.get s.2).bind fun d => (s.1.get s.2).bind fun e => (f d e).bind fun w => match w with
  | (false, .bl true) => (c.run s.2).bind fun t => (s.1.get t.2).bind fun e => (t.1.get t.2).bind fun k => (g e k).bind fun w => some (w, t.2)
  | (false, .bl false) => some ((false, .bl false), s.2)
  | _ => none) := id rfl
@[simp] theorem s_eSl (f : D → Option Int → Option Int → Option W) (a : Opd) (lo hi : Option EF) (env : PI.Env) : eSl f a lo hi env = ((a.run env).bind fun r => (prt lo r.2).bind fun s => (prt hi s.2).bind fun t => (r.1.get t.2).bind fun d => (f d s.1 t.1).bind fun w => some (w, t.2)) := id rfl
@[simp] theorem s_ePop (i : Nat) (env : PI.Env) : ePop i env = (match env[i]? with
  | some (some (true, .lst ds)) => match ds[ds.length - 1]? with
    | some d => some ((false, d), env.set i (some (true, .lst ds.dropLast)))
    | none => none
  | _ => none) := id rfl
@[simp] theorem s_ePopAt (i : Nat) (f : EF) (env : PI.Env) : ePopAt i f env = (match isOwn env i with
  | true => (f env).bind fun r => match r.1.2 with
    | .int k => if -(2 ^ 63) ≤ k ∧ k < 2 ^ 63 then (match r.2[i]? with
      | some (some (true, .lst ds)) => (seqIndex? k ds.length).bind fun j => (ds[j]?).bind fun d => some ((false, d), r.2.set i (some (true, .lst (ds.eraseIdx j))))
      | _ => none) else none
    | _ => none
  | false => none) := id rfl
@[simp] theorem s_sNext (env : PI.Env) : sNext env = (some (.nx, env)) := id rfl
@[simp] theorem s_sSeq (f g : SF) (env : PI.Env) : sSeq f g env = ((f env).bind fun r => match r.1 with
  | .nx => g r.2
  | c => some (c, r.2)) := id rfl
@[simp] theorem s_sBrk (env : PI.Env) : sBrk env = (some (.bk, env)) := id rfl
@[simp] theorem s_sCnt (env : PI.Env) : sCnt env = (some (.ct, env)) := id rfl
@[simp] theorem s_sNever (env : PI.Env) : sNever env = (none) := id rfl
@[simp] theorem s_sExp (f : EF) (env : PI.Env) : sExp f env = ((f env).bind fun r => some (.nx, r.2)) := id rfl
@[simp] theorem s_sRet (f : EF) (env : PI.Env) : sRet f env = ((f env).bind fun r => some (.rt r.1, r.2)) := id rfl
@[simp] theorem s_sRetV (P : List Nat) (i : Nat) (env : PI.Env) : sRetV P i env = (match env[i]? with
  | some (some (true, d)) => match P.contains i with
    | false => some (.rt (true, d), env.set i none)
    | true => none
  | some (some (false, d)) => some (.rt (false, d), env)
  | _ => none) := id rfl
@[simp] theorem s_sRetN (env : PI.Env) : sRetN env = (some (.rt (false, .non), env)) := id rfl
@[simp] theorem s_sIf (c : EF) (f g : SF) (env : PI.Env) : sIf c f g env = ((c env).bind fun r => match r.1.2 with
  | .bl true => f r.2
  | .bl false => g r.2
  | _ => none) := id rfl
@[simp] theorem s_sAsg (P : List Nat) (i : Nat) (f : EF) (env : PI.Env) : sAsg P i f env = (match P.contains i with
  | true => none
  | false => (f env).bind fun r => some (.nx, r.2.set i (some r.1))) := id rfl
@[simp] theorem s_sAug (P : List Nat) (i : Nat) (op : Int → Int → Int) (f : EF) (env : PI.Env) : sAug P i op f env = (match P.contains i with
  | true => none
  | false => match env[i]? with
    | some (some (false, .int a)) => (f env).bind fun r => match r.1.2 with
      | .int b => some (.nx, r.2.set i (some (false, .int (op a b))))
      | _ => none
    | _ => none) := id rfl
@[simp] theorem s_sApp (i : Nat) (f : EF) (env : PI.Env) : sApp i f env = (match isOwn env i with
  | true => (f env).bind fun r => match r.2[i]? with
    | some (some (true, .lst ds)) => if ds.length < 1000000 then some (.nx, r.2.set i (some (true, .lst (ds ++ [r.1.2])))) else none
    | _ => none
  | false => none) := id rfl
@[simp] theorem s_sExt (i : Nat) (o : Opd) (env : PI.Env) : sExt i o env = (match isOwn env i with
  | true => (o.run env).bind fun r => (r.1.get r.2).bind fun d => match d with
    | .lst es => (match r.2[i]? with
      | some (some (true, .lst ds)) => if ds.length + es.length < 1000000 then some (.nx, r.2.set i (some (true, .lst (ds ++ es)))) else none
      | _ => none)
    | _ => none
  | false => none) := id rfl
@[simp] theorem s_sIns (i : Nat) (k f : EF) (env : PI.Env) : sIns i k f env = (match isOwn env i with
  | true => (k env).bind fun r => (f r.2).bind fun s => match r.1.2 with
    | .int j => (match s.2[i]? with
      | some (some (true, .lst ds)) => if ds.length < 1000000 ∧ 0 ≤ j ∧ j < 1000000 then some (.nx, s.2.set i (some (true, .lst (ds.take j.toNat ++ [s.1.2] ++ ds.drop j.toNat)))) else none
      | _ => none)
    | _ => none
  | false => none) := id rfl
@[simp] theorem s_sSet (i : Nat) (k f : EF) (env : PI.Env) : sSet i k f env = ((f env).bind fun r => match isOwn r.2 i with
  | true => (k r.2).bind fun s => match s.1.2 with
    | .int j => (match s.2[i]? with
      | some (some (true, .lst ds)) => (ixN ds.length j).bind fun m => some (.nx, s.2.set i (some (true, .lst (ds.set m r.1.2))))
      | _ => none)
    | _ => none
  | false => none) := id rfl
@[simp] theorem s_tName (i : Nat) (d : PI.D) (env : PI.Env) : tName i d env = (some (env.set i (some (false, d)))) := id rfl
@[simp] theorem s_sTgt (P : List Nat) (js : List Nat) (T : TF) (f : EF) (env : PI.Env) : sTgt P js T f env = (match js.any fun j => P.contains j with
  | true => none
  | false => (f env).bind fun r => (T r.1.2 r.2).bind fun e => some (.nx, e)) := id rfl
@[simp] theorem s_sPar2 (P : List Nat) (i j : Nat) (f g : EF) (env : PI.Env) : sPar2 P i j f g env = (match P.contains i || P.contains j with
  | true => none
  | false => (valsW [f, g] env).bind fun r => match r.1 with
    | [u, v] => some (.nx, (r.2.set i (some u)).set j (some v))
    | _ => none) := id rfl
@[simp] theorem s_sPar3 (P : List Nat) (i j k : Nat) (f g h : EF) (env : PI.Env) : sPar3 P i j k f g h env = (match P.contains i || (P.contains j || P.contains k) with
  | true => none
  | false => (valsW [f, g, h] env).bind fun r => match r.1 with
    | [u, v, x] => some (.nx, ((r.2.set i (some u)).set j (some v)).set k (some x))
    | _ => none) := id rfl
@[simp] theorem s_srcL (f : EF) (env : PI.Env) : srcL f env = ((f env).bind fun r => match r.1.2 with
  | .lst ds => some (ds, r.2)
  | .frz ds => some (ds, r.2)
  | _ => none) := id rfl
@[simp] theorem s_srcT (f : EF) (env : PI.Env) : srcT f env = ((f env).bind fun r => match r.1.2 with
  | .tup ds => some (ds, r.2)
  | _ => none) := id rfl
@[simp] theorem s_srcR1 (f : EF) (env : PI.Env) : srcR1 f env = ((f env).bind fun r => match r.1.2 with
  | .int n => if -(2 ^ 62) ≤ n ∧ n < 2 ^ 62 then some (rangeD 0 n.toNat, r.2) else none
  | _ => none) := id rfl
@[simp] theorem s_srcR2 (f g : EF) (env : PI.Env) : srcR2 f g env = ((f env).bind fun r => (g r.2).bind fun s => match r.1.2 with
  | .int a => (match s.1.2 with
    | .int b => if (-(2 ^ 62) ≤ a ∧ a < 2 ^ 62) ∧ -(2 ^ 62) ≤ b ∧ b < 2 ^ 62 then some (rangeD a (b - a).toNat, s.2) else none
    | _ => none)
  | _ => none) := id rfl
@[simp] theorem s_sFor (P js : List Nat) (src : SrcF) (T : TF) (f : SF) (env : PI.Env) : sFor P js src T f env = (match js.any fun j => P.contains j with
  | true => none
  | false => (src env).bind fun r => fl T f r.1 r.2) := id rfl
@[simp] theorem s_srcC (src : SrcF) (env : PI.Env) : srcC src env = ((src env).bind fun r => some (r.1, r.2, none)) := id rfl
@[simp] theorem s_srcH (i : Nat) (env : PI.Env) : srcH i env = (match env[i]? with
  | some (some (true, .lst ds)) => some (ds, env.set i none, some (i, ds))
  | some (some (false, .lst ds)) => some (ds, env, none)
  | _ => none) := id rfl
@[simp] theorem s_eLc (src : SrcC) (T : TF) (c f : EF) (vs : List Nat) (env : PI.Env) : eLc src T c f vs env = ((src env).bind fun r => if r.1.length < 1000000 then (lcl T c f vs r.1 r.2.1).bind fun t => some ((true, .lst t.1), undoE t.2 r.2.2) else none) := id rfl
@[simp] theorem s_eYes (env : PI.Env) : eYes env = (some ((false, .bl true), env)) := id rfl
@[simp] theorem s_runB (modes : List Bool) (n : Nat) (body : SF) (ds : List PI.D) : runB modes n body ds = ((body (envOf modes ds ++ List.replicate (n - modes.length) none)).bind fun r => match r.1 with
  | .rt w => (fins r.2 (tp 0 modes)).bind fun o => some (w, o)
  | .nx => (fins r.2 (tp 0 modes)).bind fun o => some ((false, .non), o)
  | _ => none) := id rfl
@[simp] theorem s_eCall (modes : List Bool) (f : Cal) (as : List Opd) (env : PI.Env) : eCall modes f as env = ((runs as env).bind fun r => callO modes f r.1 r.2) := id rfl
@[simp] theorem s_eCallK (modes : List Bool) (f : Cal) (as : List Opd) (is : List Nat) (env : PI.Env) : eCallK modes f as is env = ((runs as env).bind fun r => callO modes f (pick is r.1) r.2) := id rfl
@[simp] theorem s_srcA (f : EF) (env : PI.Env) : srcA f env = ((f env).bind fun r => match r.1.2 with
  | .lst ds => some (ds, r.2)
  | .frz ds => some (ds, r.2)
  | .tup ds => some (ds, r.2)
  | _ => none) := id rfl
@[simp] theorem s_srcN (i : Nat) (env : PI.Env) : srcN i env = (match env[i]? with
  | some (some (true, .lst ds)) => some (ds, env.set i none, some (i, ds))
  | some (some (false, .lst ds)) => some (ds, env, none)
  | some (some (false, .frz ds)) => some (ds, env, none)
  | some (some (false, .tup ds)) => some (ds, env, none)
  | _ => none) := id rfl
section
variable {f g : EF} {fs : List EF} {a : Opd} {as : List Opd} {env e : PI.Env} {i j : Nat} {d : PI.D} {ds es : List PI.D} {o : Op} {os : List Op} {m n : Int} {b c : Bool} {x y : Str} {T : TF} {U : List PI.D → PI.Env → Option PI.Env} {ms : List Bool}
@[simp] theorem h_runex : (Opd.ex f).run env = (f env).bind fun r => some (.val r.1.2, r.2) := id rfl
@[simp] theorem h_runsl : (Opd.sl i).run env = (match env[i]? with | some (some _) => some (.slot i, env) | _ => none) := id rfl
@[simp] theorem h_getv : Op.get env (.val d) = some d := id rfl
@[simp] theorem h_gets : Op.get env (.slot i) = (match env[i]? with | some (some p) => some p.2 | _ => none) := id rfl
@[simp] theorem h_runs0 : runs [] env = some ([], env) := id rfl
@[simp] theorem h_runs1 : runs (a :: as) env = (a.run env).bind fun r => (runs as r.2).bind fun s => some (r.1 :: s.1, s.2) := id rfl
@[simp] theorem h_gets0 : gets env [] = some [] := id rfl
@[simp] theorem h_gets1 : gets env (o :: os) = (o.get env).bind fun d => (gets env os).bind fun ds => some (d :: ds) := id rfl
@[simp] theorem h_vals0 : vals [] env = some ([], env) := id rfl
@[simp] theorem h_vals1 : vals (f :: fs) env = (f env).bind fun r => (vals fs r.2).bind fun s => some (r.1.2 :: s.1, s.2) := id rfl
@[simp] theorem h_valsW0 : valsW [] env = some ([], env) := id rfl
@[simp] theorem h_valsW1 : valsW (f :: fs) env = (f env).bind fun r => (valsW fs r.2).bind fun s => some (r.1 :: s.1, s.2) := id rfl
@[simp] theorem h_prt0 : prt none env = some (none, env) := id rfl
@[simp] theorem h_prt1 : prt (some f) env = (f env).bind fun r => match r.1.2 with | .int i => some (some i, r.2) | _ => none := id rfl
@[simp] theorem h_tsNil : tsNil [] env = some env := id rfl
@[simp] theorem h_tsCons : tsCons T U (d :: ds) env = (T d env).bind fun e => U ds e := id rfl
@[simp] theorem h_tTpl {k : Nat} : tTpl k U (.tup ds) env = (if ds.length = k then U ds env else none) := id rfl
@[simp] theorem h_envOf0 : envOf [] ds = [] := by cases ds <;> rfl
@[simp] theorem h_envOf1 : envOf (b :: ms) (d :: ds) = some (b, d) :: envOf ms ds := id rfl
@[simp] theorem h_tp0 : tp i [] = [] := id rfl
@[simp] theorem h_tpt : tp i (true :: ms) = i :: tp (i + 1) ms := id rfl
@[simp] theorem h_tpf : tp i (false :: ms) = tp (i + 1) ms := id rfl
@[simp] theorem h_fins0 : fins env [] = some [] := id rfl
@[simp] theorem h_fins1 {is : List Nat} : fins env (i :: is) = (match env[i]? with | some (some (true, d)) => (fins env is).bind fun ds => some (d :: ds) | _ => none) := id rfl
@[simp] theorem h_okv : okOp env false (.val d) = true := id rfl
@[simp] theorem h_oks : okOp env true (.slot i) = ownAt env i := id rfl
@[simp] theorem h_isOwn : isOwn env i = (match env[i]? with | some (some (true, .lst _)) => true | _ => false) := id rfl
@[simp] theorem h_okOps0 : okOps env [] [] = true := id rfl
@[simp] theorem h_okOps1 : okOps env (b :: ms) (o :: os) = (okOp env b o && okOps env ms os) := id rfl
@[simp] theorem h_sl0 : slotsOf [] os = [] := by cases os <;> rfl
@[simp] theorem h_slt : slotsOf (true :: ms) (.slot i :: os) = i :: slotsOf ms os := id rfl
@[simp] theorem h_slf : slotsOf (false :: ms) (o :: os) = slotsOf ms os := by cases o <;> rfl
@[simp] theorem h_nd0 : nodupB [] = true := id rfl
@[simp] theorem h_nd1 {is : List Nat} : nodupB (i :: is) = (!is.contains i && nodupB is) := id rfl
@[simp] theorem h_wb0 : wback [] [] env = some env := id rfl
@[simp] theorem h_wb1 {is : List Nat} : wback (i :: is) (d :: ds) env = (wback is ds env).bind fun e => some (e.set i (some (true, d))) := id rfl
@[simp] theorem h_callO {F : Cal} : callO ms F os env = (match okOps env ms os && nodupB (slotsOf ms os) with | true => (gets env os).bind fun ds => (F ds).bind fun r => (wback (slotsOf ms os) r.2 env).bind fun e => some (r.1, e) | false => none) := id rfl
@[simp] theorem h_wipe0 : wipeE env [] = env := id rfl
@[simp] theorem h_wipe1 {is : List Nat} : wipeE env (i :: is) = (wipeE env is).set i none := id rfl
@[simp] theorem h_rest0 : restE env e [] = e := id rfl
@[simp] theorem h_rest1 {is : List Nat} : restE env e (i :: is) = (restE env e is).set i (env[i]?.getD none) := id rfl
@[simp] theorem h_undo0 : undoE env none = env := id rfl
@[simp] theorem h_undo1 {p : Nat × List PI.D} : undoE env (some p) = env.set p.1 (some (true, .lst p.2)) := id rfl
@[simp] theorem h_ownAt : ownAt env i = (match env[i]? with | some (some (true, _)) => true | _ => false) := id rfl
@[simp] theorem h_noOwn {is : List Nat} : noOwn env is = is.all fun v => !ownAt env v := id rfl
@[simp] theorem h_fl0 {h : SF} : fl T h [] env = some (.nx, env) := id rfl
@[simp] theorem h_lcl0 {is : List Nat} : lcl T f g is [] env = some ([], env) := id rfl
@[simp] theorem q_addi : addD (.int m) (.int n) = some (false, .int (m + n)) := id rfl
@[simp] theorem q_adds : addD (.str x) (.str y) = if x.length + y.length ≤ 10000000 then some (false, .str (x ++ y)) else none := id rfl
@[simp] theorem q_addt : addD (.tup ds) (.tup es) = if ds.length + es.length ≤ 1000000 then some (false, .tup (ds ++ es)) else none := id rfl
@[simp] theorem q_addl : addD (.lst ds) (.lst es) = if ds.length + es.length ≤ 1000000 then some (true, .lst (ds ++ es)) else none := id rfl
@[simp] theorem q_sub : subD (.int m) (.int n) = some (false, .int (m - n)) := id rfl
@[simp] theorem q_mul : mulD (.int m) (.int n) = if mulB m n then some (false, .int (m * n)) else none := id rfl
@[simp] theorem q_fdiv : fdivD (.int m) (.int n) = if divB m n then some (false, .int (m / n)) else none := id rfl
@[simp] theorem q_mod : modD (.int m) (.int n) = if modB m n then some (false, .int (m % n)) else none := id rfl
@[simp] theorem q_pow : powD (.int m) (.int n) = if powB m n then some (false, .int (m ^ n.toNat)) else none := id rfl
@[simp] theorem q_neg : negD (.int m) = some (false, .int (-m)) := id rfl
@[simp] theorem q_lt : ltD (.int m) (.int n) = some (false, .bl (decide (m < n))) := id rfl
@[simp] theorem q_le : leD (.int m) (.int n) = some (false, .bl (decide (m ≤ n))) := id rfl
@[simp] theorem q_gt : gtD (.int m) (.int n) = some (false, .bl (decide (n < m))) := id rfl
@[simp] theorem q_ge : geD (.int m) (.int n) = some (false, .bl (decide (n ≤ m))) := id rfl
@[simp] theorem q_eqi : eqD (.int m) (.int n) = some (false, .bl (m == n)) := id rfl
@[simp] theorem q_eqb : eqD (.bl b) (.bl c) = some (false, .bl (b == c)) := id rfl
@[simp] theorem q_eqs : eqD (.str x) (.str y) = some (false, .bl (decide (x = y))) := id rfl
@[simp] theorem q_nei : neD (.int m) (.int n) = some (false, .bl (!(m == n))) := id rfl
@[simp] theorem q_neb : neD (.bl b) (.bl c) = some (false, .bl (!(b == c))) := id rfl
@[simp] theorem q_nes : neD (.str x) (.str y) = some (false, .bl (!decide (x = y))) := id rfl
theorem q_eq : eqD d d' = (eqB d d').bind fun b => some (false, .bl b) := id rfl
theorem q_ne : neD d d' = (eqB d d').bind fun b => some (false, .bl (!b)) := id rfl
@[simp] theorem q_eqT {l k : List Int} : eqD (.tup (zL l)) (.tup (zL k)) = some (false, .bl (decide (l = k))) := by rw [q_eq, eqT]; rfl
@[simp] theorem q_eqL {l k : List Int} : eqD (.lst (zL l)) (.lst (zL k)) = some (false, .bl (decide (l = k))) := by rw [q_eq, eqL]; rfl
@[simp] theorem q_eqT0 {l : List Int} : eqD (.tup (zL l)) (.tup []) = some (false, .bl (decide (l = []))) := by rw [q_eq, eqT0]; rfl
@[simp] theorem q_eqL0 {l : List Int} : eqD (.lst (zL l)) (.lst []) = some (false, .bl (decide (l = []))) := by rw [q_eq, eqL0]; rfl
@[simp] theorem q_neT {l k : List Int} : neD (.tup (zL l)) (.tup (zL k)) = some (false, .bl (!decide (l = k))) := by rw [q_ne, eqT]; rfl
@[simp] theorem q_neL {l k : List Int} : neD (.lst (zL l)) (.lst (zL k)) = some (false, .bl (!decide (l = k))) := by rw [q_ne, eqL]; rfl
@[simp] theorem q_neT0 {l : List Int} : neD (.tup (zL l)) (.tup []) = some (false, .bl (!decide (l = []))) := by rw [q_ne, eqT0]; rfl
@[simp] theorem q_neL0 {l : List Int} : neD (.lst (zL l)) (.lst []) = some (false, .bl (!decide (l = []))) := by rw [q_ne, eqL0]; rfl
@[simp] theorem q_eq00 : eqD (.lst []) (.lst []) = some (false, .bl true) := q_eqL0 (l := [])
@[simp] theorem q_ne00 : neD (.lst []) (.lst []) = some (false, .bl false) := q_neL0 (l := [])
@[simp] theorem q_eq00t : eqD (.tup []) (.tup []) = some (false, .bl true) := q_eqT0 (l := [])
@[simp] theorem q_ne00t : neD (.tup []) (.tup []) = some (false, .bl false) := q_neT0 (l := [])
@[simp] theorem q_seqt : seqD (.tup ds) = some ds := id rfl
@[simp] theorem q_seql : seqD (.lst ds) = some ds := id rfl
@[simp] theorem q_seqf : seqD (.frz ds) = some ds := id rfl
@[simp] theorem q_ixt : ixD (.tup ds) (.int m) = (atI ds m).bind fun e => some (false, e) := id rfl
@[simp] theorem q_ixl : ixD (.lst ds) (.int m) = (atI ds m).bind fun e => some (false, e) := id rfl
@[simp] theorem q_ixf : ixD (.frz ds) (.int m) = (atI ds m).bind fun e => some (false, e) := id rfl
@[simp] theorem q_slt {lo hi : Option Int} : slD (.tup ds) lo hi = some (false, .tup (cutD ds lo hi)) := id rfl
@[simp] theorem q_sll {lo hi : Option Int} : slD (.lst ds) lo hi = some (true, .lst (cutD ds lo hi)) := id rfl
@[simp] theorem q_slf {lo hi : Option Int} : slD (.frz ds) lo hi = some (true, .lst (cutD ds lo hi)) := id rfl
@[simp] theorem q_rev : revD (.lst ds) = some (true, .lst ds.reverse) := id rfl
@[simp] theorem q_c1 {F : PI.D → Option W} : c1 F [d] = F d := id rfl
@[simp] theorem q_c2 {F : PI.D → PI.D → Option W} {d' : PI.D} : c2 F [d, d'] = F d d' := id rfl
@[simp] theorem q_lent : lenD (.tup ds) = some (false, .int ds.length) := id rfl
@[simp] theorem q_lenl : lenD (.lst ds) = some (false, .int ds.length) := id rfl
@[simp] theorem q_lenf : lenD (.frz ds) = some (false, .int ds.length) := id rfl
@[simp] theorem q_abs : absD (.int m) = some (false, .int (if m < 0 then -m else m)) := id rfl
@[simp] theorem q_max : max2D (.int m) (.int n) = some (false, .int (if n > m then n else m)) := id rfl
@[simp] theorem q_min : min2D (.int m) (.int n) = some (false, .int (if n < m then n else m)) := id rfl
@[simp] theorem q_inti : intD (.int m) = some (false, .int m) := id rfl
@[simp] theorem q_intb : intD (.bl b) = some (false, .int (if b then 1 else 0)) := id rfl
@[simp] theorem q_listt : listD (.tup ds) = some (true, .lst ds) := id rfl
@[simp] theorem q_listl : listD (.lst ds) = some (true, .lst ds) := id rfl
@[simp] theorem q_tupt : tupleD (.tup ds) = some (false, .tup ds) := id rfl
@[simp] theorem q_tupl : tupleD (.lst ds) = some (false, .tup ds) := id rfl
@[simp] theorem q_isn1 : isD .non .non = some (false, .bl true) := id rfl
@[simp] theorem q_isn2 : isD (.int m) .non = some (false, .bl false) := id rfl
@[simp] theorem q_isn3 : isD (.bl b) .non = some (false, .bl false) := id rfl
@[simp] theorem q_isn4 : isD (.tup ds) .non = some (false, .bl false) := id rfl
@[simp] theorem q_isn5 : isD (.lst ds) .non = some (false, .bl false) := id rfl
@[simp] theorem q_isn6 : isD (.str x) .non = some (false, .bl false) := id rfl
@[simp] theorem q_isnt1 : isntD .non .non = some (false, .bl false) := id rfl
@[simp] theorem q_isnt2 : isntD (.int m) .non = some (false, .bl true) := id rfl
@[simp] theorem q_isnt3 : isntD (.bl b) .non = some (false, .bl true) := id rfl
@[simp] theorem q_isnt4 : isntD (.tup ds) .non = some (false, .bl true) := id rfl
@[simp] theorem q_isnt5 : isntD (.lst ds) .non = some (false, .bl true) := id rfl
@[simp] theorem q_isi {k : Kd} : isiD k d = (tagOf d).bind fun t => some (false, .bl (isKT k t)) := id rfl
@[simp] theorem q_tag0 : tagOf .non = some .non := id rfl
@[simp] theorem q_tag1 : tagOf (.bl b) = some .bool := id rfl
@[simp] theorem q_tag2 : tagOf (.int m) = some .int := id rfl
@[simp] theorem q_tag3 : tagOf (.str x) = some .str := id rfl
@[simp] theorem q_tag4 : tagOf (.tup ds) = some .tuple := id rfl
@[simp] theorem q_tag5 : tagOf (.lst ds) = some .list := id rfl
@[simp] theorem q_tag6 : tagOf (.frz ds) = some .list := id rfl
@[simp] theorem q_toInts {l : List Int} : toInts (zL l) = some l := toInts_map l
@[simp] theorem q_inF {l : List Int} : inD false (.int m) (.tup (zL l)) = some (false, .bl (l.contains m)) := by
  show ((toInts (zL l)).bind _) = _
  rw [q_toInts]; rfl
@[simp] theorem q_inT {l : List Int} : inD true (.int m) (.tup (zL l)) = some (false, .bl (!l.contains m)) := by
  show ((toInts (zL l)).bind _) = _
  rw [q_toInts]; rfl
@[simp] theorem q_inFl {l : List Int} : inD false (.int m) (.lst (zL l)) = some (false, .bl (l.contains m)) := by
  show ((toInts (zL l)).bind _) = _
  rw [q_toInts]; rfl
@[simp] theorem q_inTl {l : List Int} : inD true (.int m) (.lst (zL l)) = some (false, .bl (!l.contains m)) := by
  show ((toInts (zL l)).bind _) = _
  rw [q_toInts]; rfl
@[simp] theorem q_sortT {l : List Int} : sortedD (.tup (zL l)) = some (true, .lst (zL (isort l))) := by
  show ((toInts (zL l)).bind _) = _
  rw [q_toInts]; rfl
@[simp] theorem q_sortL {l : List Int} : sortedD (.lst (zL l)) = some (true, .lst (zL (isort l))) := by
  show ((toInts (zL l)).bind _) = _
  rw [q_toInts]; rfl
end
@[simp] theorem z_len (l : List Int) : (zL l).length = l.length := zL_len l
@[simp] theorem z_nil : zL [] = [] := id rfl
@[simp] theorem z_app (l m : List Int) : zL l ++ zL m = zL (l ++ m) := zL_app l m
@[simp] theorem z_app1 (l : List Int) (x : Int) : zL l ++ [PI.D.int x] = zL (l ++ [x]) := zL_app1 l x
@[simp] theorem z_appc (l m : List Int) (x : Int) : zL l ++ PI.D.int x :: zL m = zL (l ++ x :: m) := zL_app l (x :: m)
@[simp] theorem z_rev (l : List Int) : (zL l).reverse = zL l.reverse := zL_rev l
@[simp] theorem z_dropLast (l : List Int) : (zL l).dropLast = zL l.dropLast := zL_dropLast l
@[simp] theorem z_take (l : List Int) (k : Nat) : (zL l).take k = zL (l.take k) := zL_take l k
@[simp] theorem z_drop (l : List Int) (k : Nat) : (zL l).drop k = zL (l.drop k) := zL_drop l k
@[simp] theorem z_get (l : List Int) (i : Nat) : (zL l)[i]? = l[i]?.map PI.D.int := zL_get l i
@[simp] theorem z_getE (l : List Int) (i : Nat) (h : i < (zL l).length) : (zL l)[i]'h = PI.D.int (l[i]'(by rw [zL_len] at h; exact h)) := by simp [zL]
@[simp] theorem z_last (l : List Int) : (zL l).getLast? = l.getLast?.map PI.D.int := zL_last l
@[simp] theorem z_atn (l : List PI.D) (i : Nat) : atI l (i : Int) = l[i]? := at_nat l i
@[simp] theorem z_at0 (l : List PI.D) : atI l 0 = l[0]? := at_0 l
@[simp] theorem z_at1 (l : List PI.D) : atI l 1 = l[1]? := at_1 l
@[simp] theorem z_at2 (l : List PI.D) : atI l 2 = l[2]? := at_2 l
@[simp] theorem z_atl (l : List PI.D) : atI l (-1) = l.getLast? := at_last l
@[simp] theorem z_cut1 (ds : List PI.D) : cutD ds none (some 1) = ds.take 1 := cut_1
@[simp] theorem z_cut2 (ds : List PI.D) : cutD ds (some 1) none = ds.drop 1 := cut1_
@[simp] theorem z_cutn (ds : List PI.D) (k : Nat) : cutD ds none (some (k : Int)) = ds.take k := cut_take (α := Int) k
@[simp] theorem z_cutd (ds : List PI.D) (k : Nat) : cutD ds (some (k : Int)) none = ds.drop k := cut_drop k
@[simp] theorem z_set (l : List Int) (i : Nat) (x : Int) : (zL l).set i (.int x) = zL (l.set i x) := (List.map_set).symm
theorem z_cons (x : Int) (l : List Int) : zL (x :: l) = .int x :: zL l := id rfl
theorem z_range (lo : Int) (n : Nat) : rangeD lo n = zL ((List.range n).map fun (i : Nat) => lo + (i : Int)) := by
  unfold rangeD zL
  rw [List.map_map]
  rfl
end PI

namespace PI
open PySem PySem.Spec PyProof.Rows L2
/-- a, b, .. = a tuple or a list of that length -/
def tTplA (n : Nat) (U : List PI.D → PI.Env → Option PI.Env) : TF := fun d env => match d with
  | .tup ds => if ds.length = n then U ds env else none
  | .lst ds => if ds.length = n then U ds env else none
  | .frz ds => if ds.length = n then U ds env else none
  | _ => none
def gTupA (K : PySem.W.Frag) (n : Nat) (t : TGs) : TG := fun v σ H Q => gTup K n t v σ H Q ∨ gUnl K n t v σ H Q
theorem pg_or {X : Cx} {tg : Expr} {g g' : TG} (h : PG X tg g) (h' : PG X tg g') : PG X tg fun v σ H Q => g v σ H Q ∨ g' v σ H Q := ⟨fun pins s σ H v u Q I r q => q.elim (fun q => h.run pins s σ H v u Q I r q) fun q => h'.run pins s σ H v u Q I r q⟩
theorem pg_tupA {X : Cx} {pos : Pos} {es : List Expr} {k : Nat} {t : TGs} {n : Nat} (hc : X.calm = true) (h : PGs X es t) (hn : (assignEach es X.env).length = n := by rfl) (hst : (assignEach es X.env).findIdx? (·.1) = none := by rfl) : PG X (.Tuple es k pos) (gTupA X.K n t) := pg_or (pg_tup hc h hn hst) (pg_unl hc h hn hst)
theorem tg_tupA {K : PySem.W.Frag} {n : Nat} {gs : TGs} {U : List PI.D → PI.Env → Option PI.Env} {ks : List Nat} (hs : TgsOk K gs U ks) : TgOk K (gTupA K n gs) (tTplA n U) ks := fun Z env σ H v d env' Q R r e q => by
  cases d with
  | tup ds =>
    dsimp only [tTplA] at e
    split at e
    · rename_i hn
      obtain ⟨a, vs, rfl, t, ra⟩ := r.tupD
      exact .inl ⟨a, vs, rfl, t.sq, by rw [ra.length]; exact hn, hs Z env σ H vs ds env' Q R ra e q⟩
    · cases e
  | lst ds =>
    dsimp only [tTplA] at e
    split at e
    · rename_i hn
      cases r with
      | lst h ns ra => exact .inr ⟨_, _, rfl, .inl (.inl h), by rw [ra.length]; exact hn, hs Z env σ H _ ds env' Q R ra e q⟩
    · cases e
  | frz ds =>
    dsimp only [tTplA] at e
    split at e
    · rename_i hn
      obtain ⟨a, vs, rfl, t, ra⟩ := r.frzD
      exact .inr ⟨a, vs, rfl, t.sq, by rw [ra.length]; exact hn, hs Z env σ H vs ds env' Q R ra e q⟩
    · cases e
  | _ => cases e
@[simp] theorem h_tTplA1 {k : Nat} {U : List PI.D → PI.Env → Option PI.Env} {ds : List PI.D} {env : PI.Env} : tTplA k U (.tup ds) env = (if ds.length = k then U ds env else none) := id rfl
@[simp] theorem h_tTplA2 {k : Nat} {U : List PI.D → PI.Env → Option PI.Env} {ds : List PI.D} {env : PI.Env} : tTplA k U (.lst ds) env = (if ds.length = k then U ds env else none) := id rfl
end PI

namespace PI
open PySem PySem.Spec PyProof.Rows L2
/-! ### enumerate, over tuples too -/
section
open AutoSeq1 (wpAny_loadPart')
theorem meets_enumerate_newT (l : Addr) (items : Array Value) (n : Nat) (dct : Option Addr) (sl : Array (Option Value)) :
    Meets (Builtin.«enumerate.__new__» ⟨[.type "enumerate", .ref l], []⟩) (fun _ R s => s.heap.get? l = some { cls := .type "tuple", dict := dct, data := .seq items n, slots := sl } ∧
      R (.ok (.ret (.ref (s.heap.push { cls := .type "tuple_iterator", data := .fields #[.ref l, .int 0 0] }).objs.size)))
        { s with heap := (s.heap.push { cls := .type "tuple_iterator", data := .fields #[.ref l, .int 0 0] }).push { cls := .type "enumerate", data := .fields #[.none, .bool false, .ref s.heap.objs.size, rawInt 0, .none, .none] } }) :=
  .of_wp fun prog w A R s h => by
    obtain ⟨hp, g, d, tk, os⟩ := s; obtain ⟨hl, h⟩ := h
    have hsub := sub_enumerate
    have hL : Heap.IsTuple (Shared.heap ⟨hp, g, d, tk, os⟩) l items := ⟨_, hl, rfl, n, rfl⟩
    wp_walk using wpAny_loadPart' hl
    refine wpAny_stack_any fun st => wpAny_pure ?_
    split
    · rename_i c _ _ _ _ _
      cases (c == Value.type "enumerate")
      · wp_walk using wpAny_loadPart' hl, wpAny_pyIter_tuple hL
        exact ⟨_, rfl, h⟩
      · wp_walk using wpAny_loadPart' hl, wpAny_pyIter_tuple hL
        exact ⟨_, rfl, h⟩
    · wp_walk using wpAny_loadPart' hl, wpAny_pyIter_tuple hL
      exact ⟨_, rfl, h⟩
theorem call_enumerate_tuple {prog : Program} {w : World} {A : Around} {E : Value → Shared → Prop} {s : Shared} {l : Addr} {items : Array Value} {Q : Value → Shared → Prop} (hL : s.heap.IsTuple l items)
    (h : ∀ h', IsEnum h' (s.heap.objs.size + 1) s.heap.objs.size 0 .none → h'.IsTupleIter s.heap.objs.size l 0 → h'.objs.size = s.heap.objs.size + 2 →
      (∀ b o, s.heap.get? b = some o → h'.get? b = some o) → Q (.ref (s.heap.objs.size + 1)) { s with heap := h' }) :
    wpAny (model prog w) A (call (.type "enumerate") [.ref l]) Q E s := by
  obtain ⟨⟨c, dct, dt, sl⟩, hl, hc, n, hd⟩ := hL
  replace hc : c = .type "tuple" := hc
  replace hd : dt = .seq items n := hd
  subst hc hd
  refine callType_new F.called_enumerate (by decide) (F.typeCall_enumerate_1 _) (F.newCall_enumerate_1 _) (fun obj => F.args_object_init_2 obj _) F.entry_enumerate_new
    (meets_enumerate_newT l items n dct sl) ⟨hl, ?_⟩
  have hz : (s.heap.push { cls := .type "tuple_iterator", data := .fields #[.ref l, .int 0 0] }).objs.size = s.heap.objs.size + 1 := Heap.size_push ..
  show _ ∧ _
  rw [hz]
  have he : IsEnum ((s.heap.push { cls := .type "tuple_iterator", data := .fields #[.ref l, .int 0 0] }).push
      { cls := .type "enumerate", data := .fields #[.none, .bool false, .ref s.heap.objs.size, rawInt 0, .none, .none] }) (s.heap.objs.size + 1) s.heap.objs.size 0 .none := by
    have := Heap.get?_push_size (s.heap.push { cls := .type "tuple_iterator", data := .fields #[.ref l, .int 0 0] })
      (o := { cls := .type "enumerate", data := .fields #[.none, .bool false, .ref s.heap.objs.size, rawInt 0, .none, .none] }) rfl
    rw [hz] at this; exact this
  refine ⟨⟨_, he, rfl⟩, h _ he ⟨_, Heap.get?_push_of_some _ (Heap.get?_push_size _ rfl), rfl, rfl⟩ (by rw [Heap.size_push, hz]) fun b o x => Heap.get?_push_of_some _ (Heap.get?_push_of_some _ x)⟩
end
/-- the tuple at a, each item in a new pair -/
def Iteu (K : PySem.W.Frag) (a : Addr) : It :=
  ⟨fun i H => ∃ (xs : List V) (x : V), SqT K H a xs ∧ xs[i]? = some x, fun i H v H' => ∃ T x o, v = .ref T ∧ H T = none ∧ o.dict = none ∧ H' = upd H T (.frz o (.tup [.int (i : Nat), x])) ∧ ∀ xs, SqT K H a xs → xs[i]? = some x, fun i H => ∃ xs : List V, SqT K H a xs ∧ xs.length ≤ i⟩
theorem turn_enumU {P : Program} {w : World} {K : PySem.W.Frag} {elts : List Expr} {kk : Nat} {tpos : Pos} (a e it : Addr) :
    Turn P w K (.Tuple elts kk tpos) (Iteu K a) [e, it] e (fun i h => (∃ old, IsEnum h e it ((i : Nat) : Int) old) ∧ h.IsTupleIter it a i ∧ e ≠ it ∧ a ≠ it ∧ a ≠ e) where
  mem := by simp
  obj := fun i h st b hb => by
    obtain ⟨⟨old, he⟩, ⟨o, ho, hc, hd⟩, _⟩ := st
    have e' : b = e ∨ b = it := by simpa using hb
    rcases e' with z | z
    · rw [z]; exact ⟨_, he, fun v q => nomatch q⟩
    · rw [z]; exact ⟨o, ho, fun v q => by rw [hd] at q; cases q⟩
  keep := fun i h h' st k => let ⟨⟨old, he⟩, hi, hne⟩ := st; ⟨⟨old, k e (by simp) _ he⟩, hi.at fun o q => k it (by simp) o q, hne⟩
  item := by
    intro X hP hw hK hc i pins s σ H E I hf st hg
    subst hP hw hK
    obtain ⟨⟨old, he⟩, hit, hne, hai, hae⟩ := st
    obtain ⟨xs, x, hq, hx⟩ := hg
    obtain ⟨its, rv, p, hz⟩ := I.tuple hq
    obtain ⟨u, hu, ru⟩ := rv.get hx
    have hel : e < s.heap.objs.size := Heap.lt_size he
    have hil : it < s.heap.objs.size := by obtain ⟨_, q, _⟩ := hit; exact Heap.lt_size q
    have hsz : its.toArray[i]? = some u := by simpa using hu
    have Dr := Draws.tuple (prog := X.prog) (w := X.w) (A := X.A.in1) (I.ok.hd hc) it a hai its.toArray
    refine wpAny_pyNext_enum_itemD Dr he ⟨hit, p⟩ (by rw [List.size_toArray]; exact (List.getElem?_eq_some_iff.mp hu).1) hne (by simp [hne, Ne.symm hae]) fun x' h' tk hP ho hit' hT hsz2 hk => ?_
    have ex : x' = u := by
      have hP : its.toArray[i]? = some x' := hP
      rw [hsz] at hP
      exact (Option.some.inj hP).symm
    subst ex
    refine ⟨_, rfl, wpAny_letOwnedTupleGo_enum (s := { s with heap := h', toks := tk + 1 }) ho fun h'' he' sb => ?_⟩
    have hT2 : h''.get? s.heap.objs.size = some { cls := .type "tuple", data := .seq #[.int i tk, x'] } := (sb.2 _ (Nat.ne_of_gt hel)).trans hT
    have new : ObjOk X.prog X.w (upd H s.heap.objs.size (.frz (tobj [.int i tk, x']) (.tup [.int (i : Nat), x]))) h'' s.heap.objs.size (.frz (tobj [.int i tk, x']) (.tup [.int (i : Nat), x])) :=
      frz_new _ (by show 2 ≤ sizeLine; decide) (.cons ⟨_, rfl⟩ (.cons ru .nil)) hT2
    have I1 : Inv X pins σ (upd H s.heap.objs.size (.frz (tobj [.int i tk, x']) (.tup [.int (i : Nat), x]))) { s with heap := h'', toks := tk + 1 } :=
      I.turnedNew (ch := [e, it]) (fun b ob hb q => (sb.2 b (fun z => hb (by simp [z]))).trans (hk b ob (fun z => hb (by simp [z])) (fun z => hb (by simp [z])) q)) hf (Nat.le_refl _) new
    refine ⟨.ref s.heap.objs.size, _, I1, rfl, ⟨_, x, _, rfl, I.hok.fresh (Nat.le_refl _), rfl, rfl, fun ys hy => by rw [I.tuple_inj hy hq]; exact hx⟩, ⟨⟨x', ?_⟩, hit'.1.at fun o q => (sb.2 it (Ne.symm hne)).trans q, hne, hai, hae⟩, fun b hb => ?_⟩
    · have e1 : ((i + 1 : Nat) : Int) = (i : Int) + 1 := by omega
      rw [e1]; exact he'
    · have hb' : b < s.heap.objs.size := by
        have e' : b = e ∨ b = it := by simpa using hb
        rcases e' with z | z
        · rw [z]; exact hel
        · rw [z]; exact hil
      rw [upd_ne (Nat.ne_of_lt hb')]
      exact (hf b hb).1
  done := by
    intro X hP hw hK hc i pins s σ H E I hf st hg
    subst hP hw hK
    obtain ⟨⟨old, he⟩, hit, hne, hai, hae⟩ := st
    obtain ⟨xs, hq, hx⟩ := hg
    obtain ⟨its, rv, p, hz⟩ := I.tuple hq
    obtain ⟨f0, f1, f2, f3, f4, f5⟩ := hf it (by simp)
    have hl := rv.length
    unfold pyNext
    have hT : s.TypeIs (.ref e) "enumerate" := ⟨_, he, rfl⟩
    refine wpAny_bind (wpAny_attempt (wpAny_callSpecial?_slot (name := Str.ofString "__next__") hT F.slot_enumerate_next
      (wpAny_call_entry F.slot_enumerate_next hT F.entry_enumerate_next ?_ (F.args_enumerate_next_1 _))))
    show wpAny _ _ (field (.ref e) 2 >>= _) _ _ _
    refine wpAny_bind (wpAny_field he rfl (x := .ref it) rfl ?_)
    refine wpAny_bind (wpAny_nextOf_tuple_end (I.ok.hd hc) hit p (by simp; omega) fun h' x he' hx' => ?_)
    obtain ⟨o, ho, hcx⟩ := hx'
    refine wpAny_bind (wpAny_isInstance (T := "StopIteration") (b := true) ⟨o, ho, hcx⟩ isSubtype_stop ?_)
    exact wpAny_pure ⟨rfl, I.turned (t' := s.toks) (fun b o hb q => he' b o hb q) f0 f1 f3 f4 f5⟩
  self := fun A i s Q E st h => let ⟨⟨_, he⟩, _⟩ := st; wpAny_pyIter_enum he h
def iEnumU (K : PySem.W.Frag) (ta : TA) : TI := fun σ H R => ta σ H fun vs H1 => ∃ a xs, vs = [.ref a] ∧ SqT K H1 a xs ∧ R (Iteu K a) H1
theorem pi_enumU {X : Cx} {e : Expr} {ta : TA} {p pos tpos : Pos} {elts : List Expr} {kk : Nat} (hg : Gl X "enumerate") (hm : X.mg "enumerate" = none) (ha : PA X [e] ta) (hs : starEach [e] X.env = [(false, eval e X.env)] := by rfl) :
    L2.PI X (.Tuple elts kk tpos) (.Call (.Name "enumerate" p) [e] [] pos) (iEnumU X.K ta) := by
  refine ⟨fun pins s σ H R I h => ?_⟩
  refine Call_ (ld_blt I hg hm boot_enumerate (PyProof.Rows.callWith_type1 (thn (ha.run pos pins s σ H _ I h) fun us s1 ⟨vs, H1, I1, r1, q1⟩ => ?_) hs rfl))
  obtain ⟨a, xs, ex, hq, q⟩ := q1
  subst ex
  cases r1 with
  | cons r rr =>
    cases rr
    cases r
    obtain ⟨its, rv, p', hz⟩ := I1.tuple hq
    have hal : a < s1.heap.objs.size := by obtain ⟨o, ho, _⟩ := p'; exact Heap.lt_size ho
    refine call_enumerate_tuple p' fun h' he hit hsz hk => wpAny_pyIter_enum he ?_
    have I2 : Inv X pins σ H1 { s1 with heap := h' } := I1.kept (t' := s1.toks) hk
    refine ⟨s1.heap.objs.size + 1, [s1.heap.objs.size + 1, s1.heap.objs.size], _, _, H1, rfl, I2, turn_enumU a (s1.heap.objs.size + 1) s1.heap.objs.size, ⟨⟨.none, he⟩, hit, Nat.succ_ne_self _, Nat.ne_of_lt hal, Nat.ne_of_lt (Nat.lt_succ_of_lt hal)⟩, fun b hb => ?_, q⟩
    have e' : b = s1.heap.objs.size + 1 ∨ b = s1.heap.objs.size := by simpa using hb
    have hle : s1.heap.objs.size ≤ b := by
      rcases e' with z | z
      · rw [z]; exact Nat.le_add_right _ _
      · rw [z]; exact Nat.le_refl _
    exact I1.fpOk hle (I1.hok.fresh hle)
def YEn (f : Nat → Option V) (i : Nat) (H : Hp) (v : V) (H' : Hp) : Prop := ∃ (T : Addr) (x : V) (o : Obj), v = .ref T ∧ H T = none ∧ o.dict = none ∧ H' = upd H T (.frz o (.tup [.int (i : Nat), x])) ∧ f i = some x
theorem walk_enumU {K : PySem.W.Frag} {a : Addr} {xs : List V} : Walk (Iteu K a) xs.length (fun H => SqT K H a xs) (YEn fun i => xs[i]?) := by
  refine ⟨fun i _ hi q => ⟨xs, xs[i], q, by simp [hi]⟩, fun _ q => ⟨xs, q, Nat.le_refl _⟩, fun i H v H' _ q y => ?_⟩
  obtain ⟨T, x, o, h1, h2, h3, h4, h5⟩ := y
  exact ⟨T, x, o, h1, h2, h3, h4, h5 xs q⟩
/-- the list at a, each item in a new pair -/
def Itel (K : PySem.W.Frag) (a : Addr) : It :=
  ⟨fun i H => ∃ (xs : List V) (x : V), SqL K H a xs ∧ xs[i]? = some x, fun i H v H' => ∃ T x o, v = .ref T ∧ H T = none ∧ o.dict = none ∧ H' = upd H T (.frz o (.tup [.int (i : Nat), x])) ∧ ∀ xs, SqL K H a xs → xs[i]? = some x, fun i H => ∃ xs : List V, SqL K H a xs ∧ xs.length ≤ i⟩
theorem turn_enumL {P : Program} {w : World} {K : PySem.W.Frag} {elts : List Expr} {kk : Nat} {tpos : Pos} (a e it : Addr) :
    Turn P w K (.Tuple elts kk tpos) (Itel K a) [e, it] e (fun i h => (∃ old, IsEnum h e it ((i : Nat) : Int) old) ∧ h.IsListIter it a i ∧ e ≠ it ∧ a ≠ it ∧ a ≠ e) where
  mem := by simp
  obj := fun i h st b hb => by
    obtain ⟨⟨old, he⟩, ⟨o, ho, hc, hd⟩, _⟩ := st
    have e' : b = e ∨ b = it := by simpa using hb
    rcases e' with z | z
    · rw [z]; exact ⟨_, he, fun v q => nomatch q⟩
    · rw [z]; exact ⟨o, ho, fun v q => by rw [hd] at q; cases q⟩
  keep := fun i h h' st k => let ⟨⟨old, he⟩, hi, hne⟩ := st; ⟨⟨old, k e (by simp) _ he⟩, hi.at fun o q => k it (by simp) o q, hne⟩
  item := by
    intro X hP hw hK hc i pins s σ H E I hf st hg
    subst hP hw hK
    obtain ⟨⟨old, he⟩, hit, hne, hai, hae⟩ := st
    obtain ⟨xs, x, hq, hx⟩ := hg
    obtain ⟨its, rv, p, hz⟩ := I.list hq
    obtain ⟨u, hu, ru⟩ := rv.get hx
    have hel : e < s.heap.objs.size := Heap.lt_size he
    have hil : it < s.heap.objs.size := by obtain ⟨_, q, _⟩ := hit; exact Heap.lt_size q
    have hsz : its.toArray[i]? = some u := by simpa using hu
    have Dr := Draws.list (prog := X.prog) (w := X.w) (A := X.A.in1) (I.ok.hd hc) it a hai its.toArray
    refine wpAny_pyNext_enum_itemD Dr he ⟨hit, p.isList⟩ (by rw [List.size_toArray]; exact (List.getElem?_eq_some_iff.mp hu).1) hne (by simp [hne, Ne.symm hae]) fun x' h' tk hP ho hit' hT hsz2 hk => ?_
    have ex : x' = u := by
      have hP : its.toArray[i]? = some x' := hP
      rw [hsz] at hP
      exact (Option.some.inj hP).symm
    subst ex
    refine ⟨_, rfl, wpAny_letOwnedTupleGo_enum (s := { s with heap := h', toks := tk + 1 }) ho fun h'' he' sb => ?_⟩
    have hT2 : h''.get? s.heap.objs.size = some { cls := .type "tuple", data := .seq #[.int i tk, x'] } := (sb.2 _ (Nat.ne_of_gt hel)).trans hT
    have new : ObjOk X.prog X.w (upd H s.heap.objs.size (.frz (tobj [.int i tk, x']) (.tup [.int (i : Nat), x]))) h'' s.heap.objs.size (.frz (tobj [.int i tk, x']) (.tup [.int (i : Nat), x])) :=
      frz_new _ (by show 2 ≤ sizeLine; decide) (.cons ⟨_, rfl⟩ (.cons ru .nil)) hT2
    have I1 : Inv X pins σ (upd H s.heap.objs.size (.frz (tobj [.int i tk, x']) (.tup [.int (i : Nat), x]))) { s with heap := h'', toks := tk + 1 } :=
      I.turnedNew (ch := [e, it]) (fun b ob hb q => (sb.2 b (fun z => hb (by simp [z]))).trans (hk b ob (fun z => hb (by simp [z])) (fun z => hb (by simp [z])) q)) hf (Nat.le_refl _) new
    refine ⟨.ref s.heap.objs.size, _, I1, rfl, ⟨_, x, _, rfl, I.hok.fresh (Nat.le_refl _), rfl, rfl, fun ys hy => by rw [I.list_inj hy hq]; exact hx⟩, ⟨⟨x', ?_⟩, hit'.1.at fun o q => (sb.2 it (Ne.symm hne)).trans q, hne, hai, hae⟩, fun b hb => ?_⟩
    · have e1 : ((i + 1 : Nat) : Int) = (i : Int) + 1 := by omega
      rw [e1]; exact he'
    · have hb' : b < s.heap.objs.size := by
        have e' : b = e ∨ b = it := by simpa using hb
        rcases e' with z | z
        · rw [z]; exact hel
        · rw [z]; exact hil
      rw [upd_ne (Nat.ne_of_lt hb')]
      exact (hf b hb).1
  done := by
    intro X hP hw hK hc i pins s σ H E I hf st hg
    subst hP hw hK
    obtain ⟨⟨old, he⟩, hit, hne, hai, hae⟩ := st
    obtain ⟨xs, hq, hx⟩ := hg
    obtain ⟨its, rv, p, hz⟩ := I.list hq
    obtain ⟨f0, f1, f2, f3, f4, f5⟩ := hf it (by simp)
    have hl := rv.length
    unfold pyNext
    have hT : s.TypeIs (.ref e) "enumerate" := ⟨_, he, rfl⟩
    refine wpAny_bind (wpAny_attempt (wpAny_callSpecial?_slot (name := Str.ofString "__next__") hT F.slot_enumerate_next
      (wpAny_call_entry F.slot_enumerate_next hT F.entry_enumerate_next ?_ (F.args_enumerate_next_1 _))))
    show wpAny _ _ (field (.ref e) 2 >>= _) _ _ _
    refine wpAny_bind (wpAny_field he rfl (x := .ref it) rfl ?_)
    refine wpAny_bind (wpAny_nextOf_list_end (I.ok.hd hc) hit p.isList (by simp; omega) fun h' x he' hx' => ?_)
    obtain ⟨o, ho, hcx⟩ := hx'
    refine wpAny_bind (wpAny_isInstance (T := "StopIteration") (b := true) ⟨o, ho, hcx⟩ isSubtype_stop ?_)
    exact wpAny_pure ⟨rfl, I.turned (t' := s.toks) (fun b o hb q => he' b o hb q) f0 f1 f3 f4 f5⟩
  self := fun A i s Q E st h => let ⟨⟨_, he⟩, _⟩ := st; wpAny_pyIter_enum he h
def iEnumL (K : PySem.W.Frag) (ta : TA) : TI := fun σ H R => ta σ H fun vs H1 => ∃ a xs, vs = [.ref a] ∧ SqL K H1 a xs ∧ R (Itel K a) H1
theorem pi_enumL {X : Cx} {e : Expr} {ta : TA} {p pos tpos : Pos} {elts : List Expr} {kk : Nat} (hg : Gl X "enumerate") (hm : X.mg "enumerate" = none) (ha : PA X [e] ta) (hs : starEach [e] X.env = [(false, eval e X.env)] := by rfl) :
    L2.PI X (.Tuple elts kk tpos) (.Call (.Name "enumerate" p) [e] [] pos) (iEnumL X.K ta) := by
  refine ⟨fun pins s σ H R I h => ?_⟩
  refine Call_ (ld_blt I hg hm boot_enumerate (PyProof.Rows.callWith_type1 (thn (ha.run pos pins s σ H _ I h) fun us s1 ⟨vs, H1, I1, r1, q1⟩ => ?_) hs rfl))
  obtain ⟨a, xs, ex, hq, q⟩ := q1
  subst ex
  cases r1 with
  | cons r rr =>
    cases rr
    cases r
    obtain ⟨its, rv, p', hz⟩ := I1.list hq
    have hal : a < s1.heap.objs.size := by obtain ⟨o, ho, _⟩ := p'.isList; exact Heap.lt_size ho
    refine call_enumerate_list p'.isList fun h' he hit hsz hk => wpAny_pyIter_enum he ?_
    have I2 : Inv X pins σ H1 { s1 with heap := h' } := I1.kept (t' := s1.toks) hk
    refine ⟨s1.heap.objs.size + 1, [s1.heap.objs.size + 1, s1.heap.objs.size], _, _, H1, rfl, I2, turn_enumL a (s1.heap.objs.size + 1) s1.heap.objs.size, ⟨⟨.none, he⟩, hit, Nat.succ_ne_self _, Nat.ne_of_lt hal, Nat.ne_of_lt (Nat.lt_succ_of_lt hal)⟩, fun b hb => ?_, q⟩
    have e' : b = s1.heap.objs.size + 1 ∨ b = s1.heap.objs.size := by simpa using hb
    have hle : s1.heap.objs.size ≤ b := by
      rcases e' with z | z
      · rw [z]; exact Nat.le_add_right _ _
      · rw [z]; exact Nat.le_refl _
    exact I1.fpOk hle (I1.hok.fresh hle)
theorem walk_enumL {K : PySem.W.Frag} {a : Addr} {xs : List V} : Walk (Itel K a) xs.length (fun H => SqL K H a xs) (YEn fun i => xs[i]?) := by
  refine ⟨fun i _ hi q => ⟨xs, xs[i], q, by simp [hi]⟩, fun _ q => ⟨xs, q, Nat.le_refl _⟩, fun i H v H' _ q y => ?_⟩
  obtain ⟨T, x, o, h1, h2, h3, h4, h5⟩ := y
  exact ⟨T, x, o, h1, h2, h3, h4, h5 xs q⟩
def enD : Nat → List PI.D → List PI.D
  | _, [] => []
  | i, d :: ds => .tup [.int (i : Int), d] :: enD (i + 1) ds
theorem enD_len : ∀ (ds : List PI.D) (i : Nat), (enD i ds).length = ds.length
  | [], _ => rfl
  | d :: ds, i => congrArg Nat.succ (enD_len ds (i + 1))
theorem enD_get : ∀ (ds : List PI.D) (i j : Nat), (enD i ds)[j]? = ds[j]?.map fun d => PI.D.tup [.int ((i + j : Nat) : Int), d]
  | [], _, _ => by simp [enD]
  | d :: ds, i, 0 => rfl
  | d :: ds, i, j + 1 => by
    show (enD (i + 1) ds)[j]? = (ds[j]?).map _
    rw [enD_get ds (i + 1) j]
    have e : i + 1 + j = i + (j + 1) := by omega
    rw [e]
def iEnumA (K : PySem.W.Frag) (ta : TA) : TI := fun σ H R => iEnumL K ta σ H R ∨ iEnumU K ta σ H R
theorem pi_enumA {X : Cx} {e : Expr} {f : EF} {p pos tpos : Pos} {elts : List Expr} {kk : Nat} (he : PE X e (SEr X.K f)) (hm : X.mg "enumerate" = none) (hg : Gl X "enumerate" := by rfl) (hs : starEach [e] X.env = [(false, eval e X.env)] := by rfl) (hs1 : starEach [e] X.env = (false, eval e X.env) :: starEach [] X.env := by rfl) :
    L2.PI X (.Tuple elts kk tpos) (.Call (.Name "enumerate" p) [e] [] pos) (iEnumA X.K (SVr X.K [f])) := ⟨fun pins s σ H R I q => q.elim (fun q => (pi_enumL hg hm (sv_cons he sv_nil hs1) hs).run pins s σ H R I q) fun q => (pi_enumU hg hm (sv_cons he sv_nil hs1) hs).run pins s σ H R I q⟩
def srcEn (f : EF) : SrcF := fun env => (f env).bind fun r => (seqD r.1.2).bind fun ds => some (enD 0 ds, r.2)
theorem enum_good {K : PySem.W.Frag} {O1 S1 : Addr → Prop} {H1 : Hp} {J : It} {vs : List V} {ds : List PI.D} {G : Hp → Prop} (w : Walk J vs.length G (YEn fun i => vs[i]?)) (hr : RepAll K S1 H1 vs ds) (hO : ∀ a, O1 a → S1 a)
    (hG : ∀ (H2 : Hp) (S2 : Addr → Prop), (∀ b o, H1 b = some o → ¬ O1 b → H2 b = some o) → (∀ b, S2 b → S1 b ∨ H1 b = none) → G H2) : SrcGood K O1 S1 H1 J (enD 0 ds) := by
  have hl := hr.length
  refine ⟨G, _, by rw [enD_len, ← hl]; exact w, fun H2 S2 h1 h2 h3 => ⟨hG H2 S2 h1 h2, fun i y H' hi hy => ?_⟩⟩
  obtain ⟨T, x, o, e1, e2, e4, e3, e5⟩ := hy
  obtain ⟨d, hd, rd⟩ := (src_items hr hO h1 h2).getV e5
  subst e1 e3
  refine ⟨keep_upd e2, .tup [.int (i : Nat), d], ?_, rep_tup e2 e4 (fun z => h3 T z e2) (.cons (.int _) (.cons rd .nil))⟩
  rw [enD_get, hd, Nat.zero_add]
  rfl
theorem srcEn_ok {K : PySem.W.Frag} {f : EF} : SrcOk K (iEnumA K (SVr K [f])) (srcEn f) := fun Z env σ H R ds env1 R0 e q => by
  obtain ⟨⟨⟨fr, d⟩, env2⟩, g1, e⟩ := obind e
  obtain ⟨es, g2, e⟩ := obind e
  cases e
  have g2 : seqD d = some es := g2
  cases d with
  | tup xs =>
    cases g2
    refine .inr ⟨Z, env, (fr, .tup es), env2, R0, g1, fun v H1 x => ?_⟩
    obtain ⟨a, vs, rfl, ha, hr⟩ := x.rep.tupD
    exact ⟨a, vs, rfl, ha.sq, q _ H1 x.re x.tr (enum_good walk_enumU hr (fun a z => .inl z) fun H2 S2 h1 h2 => (ha.step (H' := H2) (S' := S2) (fun a o e n => h1 a o e fun z => n (.inl z)) h2).sq)⟩
  | lst xs =>
    cases g2
    refine .inl ⟨Z, env, (fr, .lst es), env2, R0, g1, fun v H1 x => ?_⟩
    have r := x.rep
    cases r with
    | lst h n r =>
      have ha : FrzAt K (Av env2 σ Z) H1 _ _ := .inl ⟨.inl h, n⟩
      exact ⟨_, _, rfl, ha.sq, q _ H1 x.re x.tr (enum_good walk_enumL r (fun a z => .inl z) fun H2 S2 h1 h2 => (ha.step (H' := H2) (S' := S2) (fun a o e n => h1 a o e fun z => n (.inl z)) h2).sq)⟩
  | frz xs =>
    cases g2
    refine .inl ⟨Z, env, (fr, .frz es), env2, R0, g1, fun v H1 x => ?_⟩
    obtain ⟨a, vs, rfl, ha, hr⟩ := x.rep.frzD
    exact ⟨a, vs, rfl, ha.sq, q _ H1 x.re x.tr (enum_good walk_enumL hr (fun a z => .inl z) fun H2 S2 h1 h2 => (ha.step (H' := H2) (S' := S2) (fun a o e n => h1 a o e fun z => n (.inl z)) h2).sq)⟩
  | _ => cases g2
end PI

namespace PI
open PySem PySem.Spec PyProof.Rows L2
/-! ### methods of texts -/
def emN (f : Str → List PI.D → Option W) (a : Opd) (as : List Opd) : EF := fun env => (a.run env).bind fun r => (r.1.get r.2).bind fun d => match d with
  | .str z => (runs as r.2).bind fun s => (gets s.2 s.1).bind fun ds => (f z ds).bind fun w => some (w, s.2)
  | _ => none
def MnOk (K : PySem.W.Frag) (r : V → List V → Hp → VK → Prop) (f : Str → List PI.D → Option W) : Prop := ∀ (S : Addr → Prop) (H : Hp) (z : Str) (vs : List V) (ds : List PI.D) (w : W) (Q : VK), (∀ a, S a → H a ≠ none) → ViewAll K S H vs ds → f z ds = some w → (∀ v' H', Made K S H w v' H' → Q v' H') → r (.str z) vs H Q
section
variable {K : PySem.W.Frag} {σ : L2.St} {H : Hp}
theorem emN_go {r : V → List V → Hp → VK → Prop} {f : Str → List PI.D → Option W} {a : Opd} {as : List Opd} (p : MnOk K r f) {Q : VK} (h : SEr K (emN f a as) σ H Q) : tBM K "str" r (SOr K a) (SAr K as) σ H Q := by
  obtain ⟨Z, env, w, env', R, e, q⟩ := h
  obtain ⟨s, h1, e⟩ := obind e
  obtain ⟨d, h2, e⟩ := obind e
  cases d with
  | str z =>
    obtain ⟨t, h3, e⟩ := obind e
    obtain ⟨ds, h4, e⟩ := obind e
    obtain ⟨w', h5, e⟩ := obind e
    cases e
    refine SOr.go R h1 fun v H1 R1 t1 o1 => ?_
    have ev := (o1.view R1 h2).strD
    subst ev
    refine ⟨rfl, SAr.go R1 h3 fun vs H2 R2 t2 o2 => p _ H2 z vs ds w Q R2.dom (o2.views R2 h4) h5 fun v' H' m => q v' H' (made_res R2 (t1.trans t2) m)⟩
  | _ => cases e
end
section
variable {X : Cx} {apos cpos : Pos} {o e : Expr} {es : List Expr} {name : Str} {id : String} {r : V → List V → Hp → VK → Prop} {f : Str → List PI.D → Option W} {a : Opd} {as : List Opd}
theorem se_sm (slot : Slot "str" name id) (hty : typeOf (.builtin id) = pure (.type "method_descriptor")) (hm : MtR X id r) (p : MnOk X.K r f) (ho : PE X o (SOr X.K a)) (ha : PA X (e :: es) (SAr X.K as))
    (hbase : attributeBase o name X.env (eval o X.env) = eval o X.env := by rfl)
    (hfew : ((backTo cpos (starEach (e :: es) X.env)).all (fun x => !x.1) && (backToKw cpos (keywordEach [] X.env)).all (fun x => x.1.isSome)
      && decide ((e :: es).length + ([] : List Keyword).length + (if ([] : List Keyword).isEmpty then 0 else 1) < 30)) = true := by rfl)
    (hline : (apos.endLine == cpos.line) = true := by rfl) (hs : starEach (e :: es) X.env = (false, eval e X.env) :: starEach es X.env := by rfl) (hplain : (backTo cpos (starEach es X.env)).any (·.1) = false := by rfl) :
    PE X (.Call (.Attribute o name apos) (e :: es) [] cpos) (SEr X.K (emN f a as)) := PEi (pe_bm PySem.F.plainAttrs_str slot hty hm ho ha hbase hfew hline hs hplain) fun _ _ _ q => emN_go p q
end
def toStrs : List PI.D → Option (List Str)
  | [] => some []
  | .str i :: ds => (toStrs ds).bind fun is => some (i :: is)
  | _ :: _ => none
theorem toStrs_ok : ∀ {ds : List PI.D} {is : List Str}, toStrs ds = some is → ds = is.map PI.D.str
  | [], is, h => by
    cases h
    rfl
  | d :: ds, is, h => by
    cases d with
    | str i =>
      obtain ⟨js, h1, h2⟩ := obind h
      cases h2
      rw [toStrs_ok h1]
      rfl
    | _ => cases h
theorem toStrs_map : ∀ is : List Str, toStrs (is.map PI.D.str) = some is
  | [] => rfl
  | i :: is => by
    show (toStrs (is.map PI.D.str)).bind (fun js => some (i :: js)) = _
    rw [toStrs_map is]
    rfl
def joinB (a : Str) (ys : List Str) : Bool := decide ((ys.map (·.length)).sum + ys.length * a.length ≤ 16777216)
def m_join (z : Str) : List PI.D → Option W
  | [d] => (seqD d).bind fun ds => (toStrs ds).bind fun ys => if joinB z ys then some (false, .str (Txt.join z ys)) else none
  | _ => none
theorem p_join {K : PySem.W.Frag} : MnOk K (fun x xs H Q => ∃ a p, ∃ ys : List Str, x = .str a ∧ xs = [.ref p] ∧ (SqL K H p (ys.map V.str) ∨ SqT K H p (ys.map V.str)) ∧
      (ys.map (·.length)).sum + ys.length * a.length ≤ 16777216 ∧ Q (.str (Txt.join a ys)) H) m_join := fun S H z vs ds w Q hS hv hf q => by
  cases ds with
  | nil => cases hf
  | cons d ds =>
    cases ds with
    | nil =>
      obtain ⟨v, rfl, hx⟩ := views1 hv
      obtain ⟨es, h1, hf⟩ := obind hf
      obtain ⟨ys, h2, hf⟩ := obind hf
      split at hf
      · rename_i hb
        cases hf
        obtain ⟨a, us, rfl, h3, h4⟩ := view_seq hx h1
        rw [toStrs_ok h2] at h4
        have := h4.of_strs
        subst this
        exact ⟨z, a, ys, rfl, rfl, h3, of_decide_eq_true hb, q _ H (made_str _)⟩
      · cases hf
    | cons _ _ => cases hf
def m_split (z : Str) : List PI.D → Option W
  | [.str b] => if (b.length == 0) = false ∧ z.length ≤ 10000000 then some (true, .lst ((Txt.split z b).map PI.D.str)) else none
  | _ => none
theorem p_split {K : PySem.W.Frag} : MnOk K (fun x xs H Q => ∃ a b, x = .str a ∧ xs = [.str b] ∧ (b.length == 0) = false ∧ a.length + 2 ≤ sizeLine ∧ rNewStrs (Txt.split a b) H Q) m_split := fun S H z vs ds w Q hS hv hf q => by
  cases ds with
  | nil => cases hf
  | cons d ds =>
    cases ds with
    | cons _ _ => cases d <;> cases hf
    | nil =>
      obtain ⟨v, rfl, hx⟩ := views1 hv
      cases d with
      | str b =>
        dsimp only [m_split] at hf
        split at hf
        · rename_i hb
          cases hf
          rw [hx.strD]
          exact ⟨z, b, rfl, rfl, hb.1, Nat.le_trans (Nat.add_le_add_right hb.2 2) (by decide), fun p hp => q _ _ (made_lst hp (.strs _))⟩
        · cases hf
      | _ => cases hf
def m_partition (z : Str) : List PI.D → Option W
  | [.str b] => if (b.length == 0) = false ∧ z.length ≤ 10000000 then some (false, .tup [.str (Txt.partition z b).1, .str (Txt.partition z b).2.1, .str (Txt.partition z b).2.2]) else none
  | _ => none
theorem p_partition {K : PySem.W.Frag} : MnOk K (fun x xs H Q => ∃ a b, x = .str a ∧ xs = [.str b] ∧ (b.length == 0) = false ∧ a.length ≤ sizeLine ∧
      NewT H [.str (Txt.partition a b).1, .str (Txt.partition a b).2.1, .str (Txt.partition a b).2.2] Q) m_partition := fun S H z vs ds w Q hS hv hf q => by
  cases ds with
  | nil => cases hf
  | cons d ds =>
    cases ds with
    | cons _ _ => cases d <;> cases hf
    | nil =>
      obtain ⟨v, rfl, hx⟩ := views1 hv
      cases d with
      | str b =>
        dsimp only [m_partition] at hf
        split at hf
        · rename_i hb
          cases hf
          rw [hx.strD]
          exact ⟨z, b, rfl, rfl, hb.1, sz7 hb.2, newT_of hS (.strs [_, _, _]) q⟩
        · cases hf
      | _ => cases hf
def m_startswith (z : Str) : List PI.D → Option W
  | [.str b] => some (false, .bl (Txt.startswith z b))
  | _ => none
theorem p_startswith {K : PySem.W.Frag} : MnOk K (fun x xs H Q => ∃ a b, x = .str a ∧ xs = [.str b] ∧ Q (.bl (Txt.startswith a b)) H) m_startswith := fun S H z vs ds w Q hS hv hf q => by
  cases ds with
  | nil => cases hf
  | cons d ds =>
    cases ds with
    | cons _ _ => cases d <;> cases hf
    | nil =>
      obtain ⟨v, rfl, hx⟩ := views1 hv
      cases d with
      | str b =>
        cases hf
        rw [hx.strD]
        exact ⟨z, b, rfl, rfl, q _ H (made_bl _)⟩
      | _ => cases hf
def m_find (z : Str) : List PI.D → Option W
  | [.str b, .int i] => some (false, .int (Txt.find3 z b i))
  | _ => none
theorem p_find {K : PySem.W.Frag} : MnOk K (fun x xs H Q => ∃ (a b : Str) (i : Int), x = .str a ∧ xs = [.str b, .int i] ∧ Q (.int (Txt.find3 a b i)) H) m_find := fun S H z vs ds w Q hS hv hf q => by
  match ds, hf, hv with
  | [.str b, .int i], hf, hv =>
    cases hf
    obtain ⟨v, u, rfl, hx, hy⟩ := views2 hv
    rw [hx.strD, hy.intD]
    exact ⟨z, b, i, rfl, rfl, q _ H (made_int _)⟩
def m_index (z : Str) : List PI.D → Option W
  | [.str b] => match Builtin.Str.occurrences z b 0 z.length 1 with
    | i :: _ => some (false, .int (i : Nat))
    | [] => none
  | _ => none
theorem p_index {K : PySem.W.Frag} : MnOk K (fun x xs H Q => ∃ a b i rest, x = .str a ∧ xs = [.str b] ∧ Builtin.Str.occurrences a b 0 a.length 1 = i :: rest ∧ Q (.int (i : Nat)) H) m_index := fun S H z vs ds w Q hS hv hf q => by
  cases ds with
  | nil => cases hf
  | cons d ds =>
    cases ds with
    | cons _ _ => cases d <;> cases hf
    | nil =>
      obtain ⟨v, rfl, hx⟩ := views1 hv
      cases d with
      | str b =>
        dsimp only [m_index] at hf
        split at hf
        · rename_i i rest hb
          cases hf
          rw [hx.strD]
          exact ⟨z, b, i, rest, rfl, rfl, hb, q _ H (made_int _)⟩
        · cases hf
      | _ => cases hf
/-! ### str(int), int(text) -/
def strI (i : Int) : Str := toString i
def strD : PI.D → Option W
  | .int i => if i.natAbs.log2 < 1920 then some (false, .str (strI i)) else none
  | _ => none
theorem p_strD {K : PySem.W.Frag} : PnOk K (fun xs H Q => ∃ i, xs = [.int i] ∧ i.natAbs.log2 < 1920 ∧ Q (.str (toString i)) H) (c1 strD) := p_c1 fun S H v d w Q hS hx hf q => by
  cases d with
  | int i =>
    dsimp only [strD] at hf
    split at hf
    · rename_i hb
      cases hf
      rw [hx.intD]
      exact ⟨i, rfl, hb, q _ H (made_str _)⟩
    · cases hf
  | _ => cases hf
def intX : PI.D → Option W
  | .int i => some (false, .int i)
  | .bl b => some (false, .int (if b then 1 else 0))
  | .str a => if a.length ≤ 640 then (PySem.intText? a).bind fun n => some (false, .int n) else none
  | _ => none
theorem p_intX {K : PySem.W.Frag} : PnOk K (fun xs H Q => ((∃ i, xs = [.int i] ∧ Q (.int i) H) ∨ ∃ k, xs = [.bl k] ∧ Q (.int (if k then 1 else 0)) H) ∨ ∃ a n, xs = [.str a] ∧ PySem.intText? a = some n ∧ a.length ≤ 640 ∧ Q (.int n) H) (c1 intX) := p_c1 fun S H v d w Q hS hx hf q => by
  cases d with
  | int i =>
    cases hf
    rw [hx.intD]
    exact .inl (.inl ⟨i, rfl, q _ H (made_int _)⟩)
  | bl i =>
    cases hf
    rw [hx.blD]
    exact .inl (.inr ⟨i, rfl, q _ H (made_int _)⟩)
  | str a =>
    dsimp only [intX] at hf
    split at hf
    · rename_i hb
      obtain ⟨n, h1, h2⟩ := obind hf
      cases h2
      rw [hx.strD]
      exact .inr ⟨a, n, rfl, h1, hb, q _ H (made_int _)⟩
    · cases hf
  | _ => cases hf
theorem call_intX {X : Cx} : CallR X (.type "int") (fun xs H Q => ((∃ i, xs = [.int i] ∧ Q (.int i) H) ∨ ∃ k, xs = [.bl k] ∧ Q (.int (if k then 1 else 0)) H) ∨ ∃ a n, xs = [.str a] ∧ PySem.intText? a = some n ∧ a.length ≤ 640 ∧ Q (.int n) H) := CallR.or call_int1 call_int_str
/-! ### items, slices, membership with texts -/
def sgn (c : Nat) : Str := ⟨#[c]⟩
def ixS : PI.D → PI.D → Option W
  | .str z, .int i => if z.length ≤ 10000000 then (atI z.cps.toList i).bind fun c => some (false, .str (sgn c)) else none
  | d, e => ixD d e
def rIxX (K : PySem.W.Frag) : R2 := fun x y H Q => rIxA K x y H Q ∨ rIxS x y H Q
theorem ix_X {X : Cx} : IxR X (rIxX X.K) := ix_A.or ix_str
theorem p_ixS {K : PySem.W.Frag} : P2Ok K (rIxX K) ixS := fun S H x y d e w Q hS hx hy hf q => by
  have old : ixD d e = some w → rIxX K x y H Q := fun h => .inl (p_ixD S H x y d e w Q hS hx hy h q)
  cases d with
  | str z =>
    cases e with
    | int i =>
      dsimp only [ixS] at hf
      split at hf
      · rename_i hb
        obtain ⟨c, h1, hf⟩ := obind hf
        cases hf
        rw [hx.strD, hy.intD]
        exact .inr ⟨z, i, c, rfl, rfl, sz7 hb, h1, q _ H (made_str _)⟩
      · cases hf
    | _ => exact old hf
  | _ => exact old hf
def slS : PI.D → Option Int → Option Int → Option W
  | .str z, lo, hi => if z.length ≤ 10000000 then some (false, .str (cutS z lo hi)) else none
  | d, lo, hi => slD d lo hi
theorem sl_X {X : Cx} : SlR X (fun x lo hi H Q => (rSlL X.K x lo hi H Q ∨ rSlF X.K x lo hi H Q) ∨ rSlS x lo hi H Q) := slr_or sl_A sl_str
theorem p_slS {K : PySem.W.Frag} : P3Ok K (fun x lo hi H Q => (rSlL K x lo hi H Q ∨ rSlF K x lo hi H Q) ∨ rSlS x lo hi H Q) slS := fun S H v d lo hi w Q hS hx hf q => by
  have old : slD d lo hi = some w → (fun x lo hi H Q => (rSlL K x lo hi H Q ∨ rSlF K x lo hi H Q) ∨ rSlS x lo hi H Q) v lo hi H Q := fun h => .inl (p_slD S H v d lo hi w Q hS hx h q)
  cases d with
  | str z =>
    dsimp only [slS] at hf
    split at hf
    · rename_i hb
      cases hf
      rw [hx.strD]
      exact .inr ⟨z, rfl, sz7 hb, q _ H (made_str _)⟩
    · cases hf
  | _ => exact old hf
/-- x in xs: ints, texts; a sign in a text -/
def inX (neg : Bool) : PI.D → PI.D → Option W
  | .str x, .str z => match x.cps.toList with
    | [c] => some (false, .bl (if neg then !decide (c ∈ z.cps.toList) else decide (c ∈ z.cps.toList)))
    | _ => none
  | .str x, d => (seqD d).bind fun ds => (toStrs ds).bind fun is => some (false, .bl (if neg then !decide (x ∈ is) else decide (x ∈ is)))
  | d, e => inD neg d e
def rInX (K : PySem.W.Frag) (neg : Bool) : R2 := fun x y H Q => rIn K neg x y H Q ∨ ∃ (c : Nat) (z : Str), x = .str ⟨#[c]⟩ ∧ y = .str z ∧ Q (.bl (if neg then !decide (c ∈ z.cps.toList) else decide (c ∈ z.cps.toList))) H
theorem op_inX {X : Cx} : L2.OpR X (compareOp .In) (rInX X.K false) := opr_or op_in_seq op_in_sign
theorem op_ninX {X : Cx} : L2.OpR X (compareOp .NotIn) (rInX X.K true) := opr_or op_notIn_seq op_notIn_sign
theorem flat_strs' (is : List Str) : (is.map V.str).all flatV = true := by
  induction is with
  | nil => rfl
  | cons i is ih => exact ih
theorem inV_strs (i : Str) (is : List Str) : inV (.str i) (is.map V.str) = decide (i ∈ is) := by
  unfold inV
  induction is with
  | nil => rfl
  | cons j is ih =>
    rw [List.map_cons, List.any_cons, ih]
    show ((j == i) || decide (i ∈ is)) = _
    by_cases h : i = j
    · subst h
      simp
    · have h2 : (j == i) = false := beq_eq_false_iff_ne.mpr fun e => h e.symm
      simp [h2, h]
theorem p_inX {K : PySem.W.Frag} {neg : Bool} : P2Ok K (rInX K neg) (inX neg) := fun S H x y d e w Q hS hx hy hf q => by
  have old : inD neg d e = some w → rInX K neg x y H Q := fun h => .inl (p_inD S H x y d e w Q hS hx hy h q)
  have sq : ∀ z es, d = .str z → seqD e = some es → ((toStrs es).bind fun is => some (false, PI.D.bl (if neg then !decide (z ∈ is) else decide (z ∈ is)))) = some w → rInX K neg x y H Q := fun z es h0 h1 hg => by
    subst h0
    obtain ⟨is, h2, hg⟩ := obind hg
    cases hg
    obtain ⟨a, vs, rfl, h3, h4⟩ := view_seq hy h1
    rw [toStrs_ok h2] at h4
    have := h4.of_strs
    subst this
    rw [hx.strD]
    refine .inl ⟨a, _, rfl, h3, rfl, flat_strs' is, ?_⟩
    rw [inV_strs]
    exact q _ H (made_bl _)
  cases d with
  | str z =>
    cases e with
    | str t =>
      dsimp only [inX] at hf
      split at hf
      · rename_i c hc
        cases hf
        have ez : z = ⟨#[c]⟩ := Str.ext' (Array.toList_inj.mp hc)
        subst ez
        rw [hx.strD, hy.strD]
        exact .inr ⟨c, t, rfl, rfl, q _ H (made_bl _)⟩
      · cases hf
    | tup es => exact sq z es rfl rfl hf
    | lst es => exact sq z es rfl rfl hf
    | frz es => exact sq z es rfl rfl hf
    | _ => cases hf
  | _ => exact old hf
/-- x is True, x is False -/
def isBD : PI.D → PI.D → Option W
  | .bl a, .bl b => some (false, .bl (decide (a = b)))
  | _, _ => none
theorem p_isBD {K : PySem.W.Frag} : P2Ok K rIsB isBD := fun S H x y d e w Q hS hx hy hf q => by
  cases d with
  | bl a =>
    cases e with
    | bl b =>
      cases hf
      exact ⟨a, b, hx.blD, hy.blD, q _ H (made_bl _)⟩
    | _ => cases hf
  | _ => cases hf
/-! ### walks over texts -/
def iAnyS (K : PySem.W.Frag) (t : TE) : TI := fun σ H R => iAny K t σ H R ∨ iStr t σ H R
end PI

namespace PI
open PySem PySem.Spec PyProof.Rows L2
/-! ### times -/
def rMulS : R2 := fun x y H Q => ∃ (a : Str) (i : Int), x = .str a ∧ y = .int i ∧ (i = 0 ∨ i = 1) ∧ Q (.str (if i = 0 then Str.empty else a)) H
theorem op_mulS {X : Cx} : L2.OpR X (binaryOp .Mult) rMulS := by
  intro pins s σ H x y v u Q I rx ry h
  obtain ⟨a, i, rfl, rfl, hi, q⟩ := h
  obtain ⟨t, rfl⟩ := rx
  obtain ⟨t', rfl⟩ := ry
  rcases hi with rfl | rfl
  · exact PySem.P.mul_str_none (by decide) (by decide) ⟨.str Str.empty, H, I.tok _, ⟨_, rfl⟩, q⟩
  · refine PySem.P.mul_str (by decide) (fun _ h => absurd h (by simp)) (fun _ h => absurd h (by simp)) ?_
    rw [if_neg (by decide), if_pos (by simp)]
    exact ⟨.str a, H, I, ⟨t, rfl⟩, q⟩
def mulX : PI.D → PI.D → Option W
  | .str a, .int i => if i = 0 ∨ i = 1 then some (false, .str (if i = 0 then Str.empty else a)) else none
  | .lst ds, .int k => if 0 ≤ k ∧ k ≤ 1000 ∧ ds.length ≤ 1000 then some (true, .lst (List.replicate k.toNat ds).flatten) else none
  | d, e => mulD d e
def rMulXX : R2 := fun x y H Q => (rI CMulX (fun i j => .int (i * j)) x y H Q ∨ rMulS x y H Q) ∨ rRep x y H Q
theorem op_mulXX {X : Cx} : L2.OpR X (binaryOp .Mult) rMulXX := opr_or (opr_or op_mulX op_mulS) op_rep
theorem RepAll.flat {K : PySem.W.Frag} {S : Addr → Prop} {H : Hp} {vs : List V} {ds : List PI.D} (r : RepAll K S H vs ds) : ∀ n : Nat, RepAll K S H (List.replicate n vs).flatten (List.replicate n ds).flatten
  | 0 => .nil
  | n + 1 => by
    rw [List.replicate_succ, List.replicate_succ, List.flatten_cons, List.flatten_cons]
    exact r.append (RepAll.flat r n)
theorem p_mulX {K : PySem.W.Frag} : P2Ok K rMulXX mulX := fun S H x y d e w Q hS hx hy hf q => by
  have old : mulD d e = some w → rMulXX x y H Q := fun h => .inl (.inl (p_mulD S H x y d e w Q hS hx hy h q))
  cases d with
  | str a =>
    cases e with
    | int i =>
      dsimp only [mulX] at hf
      split at hf
      · rename_i hb
        cases hf
        exact .inl (.inr ⟨a, i, hx.strD, hy.intD, hb, q _ H (made_str _)⟩)
      · cases hf
    | _ => exact old hf
  | lst ds =>
    cases e with
    | int k =>
      dsimp only [mulX] at hf
      split at hf
      · rename_i hb
        cases hf
        obtain ⟨a, vs, rfl, h1, h2⟩ := hx.lst
        refine .inr ⟨a, k, vs, rfl, hy.intD, h1, by omega, by omega, ?_, fun p hp => q _ _ (made_lst hp (h2.flat _))⟩
        rw [h2.length]
        exact Nat.le_trans (Nat.mul_le_mul hb.2.2 (show k.toNat ≤ 1000 by omega)) (by decide)
      · cases hf
    | _ => exact old hf
  | _ => exact old hf
/-! ### sorted(set(xs)), xs a list of tuples of ints -/
def lexB : List Int → List Int → Bool
  | [], [] => false
  | [], _ :: _ => true
  | _ :: _, [] => false
  | a :: as, b :: bs => if a < b then true else if a = b then lexB as bs else false
def insU (k : List Int) : List (List Int) → List (List Int)
  | [] => [k]
  | m :: r => if lexB k m then k :: m :: r else if k = m then m :: r else m :: insU k r
def ssort (ks : List (List Int)) : List (List Int) := ks.foldr insU []
theorem lexB_irr : ∀ a : List Int, lexB a a = false
  | [] => rfl
  | a :: as => by
    unfold lexB
    rw [if_neg (Int.lt_irrefl a), if_pos rfl]
    exact lexB_irr as
theorem lexB_trans : ∀ {a b c : List Int}, lexB a b = true → lexB b c = true → lexB a c = true
  | [], [], _, h, _ => by cases h
  | [], _ :: _, [], _, h => by cases h
  | [], _ :: _, _ :: _, _, _ => rfl
  | _ :: _, [], _, h, _ => by cases h
  | _ :: _, _ :: _, [], _, h => by cases h
  | a :: as, b :: bs, c :: cs, h1, h2 => by
    unfold lexB at h1 h2 ⊢
    by_cases e1 : a < b
    · by_cases e2 : b < c
      · rw [if_pos (Int.lt_trans e1 e2)]
      · rw [if_neg e2] at h2
        by_cases e3 : b = c
        · subst e3
          rw [if_pos e1]
        · rw [if_neg e3] at h2
          cases h2
    · rw [if_neg e1] at h1
      by_cases e3 : a = b
      · subst e3
        rw [if_pos rfl] at h1
        by_cases e2 : a < c
        · rw [if_pos e2]
        · rw [if_neg e2] at h2 ⊢
          by_cases e4 : a = c
          · rw [if_pos e4] at h2 ⊢
            exact lexB_trans h1 h2
          · rw [if_neg e4] at h2
            cases h2
      · rw [if_neg e3] at h1
        cases h1
theorem lexB_tri : ∀ {a b : List Int}, lexB a b = false → a ≠ b → lexB b a = true
  | [], [], _, h => absurd rfl h
  | [], _ :: _, h, _ => by cases h
  | _ :: _, [], _, _ => rfl
  | a :: as, b :: bs, h, hne => by
    unfold lexB at h ⊢
    by_cases e1 : a < b
    · rw [if_pos e1] at h
      cases h
    · rw [if_neg e1] at h
      by_cases e3 : a = b
      · subst e3
        rw [if_pos rfl] at h
        rw [if_neg e1, if_pos rfl]
        exact lexB_tri h fun e => hne (by rw [e])
      · rw [if_pos (by omega)]
theorem insU_mem {k x : List Int} : ∀ {l : List (List Int)}, x ∈ insU k l ↔ x = k ∨ x ∈ l
  | [] => by simp [insU]
  | m :: r => by
    unfold insU
    by_cases h1 : lexB k m = true
    · rw [if_pos h1, List.mem_cons]
    · rw [if_neg h1]
      by_cases h2 : k = m
      · rw [if_pos h2]
        subst h2
        simp
      · rw [if_neg h2, List.mem_cons, insU_mem, List.mem_cons]
        constructor
        · rintro (h | h | h)
          · exact .inr (.inl h)
          · exact .inl h
          · exact .inr (.inr h)
        · rintro (h | h | h)
          · exact .inr (.inl h)
          · exact .inl h
          · exact .inr (.inr h)
theorem insU_sorted {k : List Int} : ∀ {l : List (List Int)}, l.Pairwise (fun a b => lexB a b = true) → (insU k l).Pairwise fun a b => lexB a b = true
  | [], _ => .cons (fun _ h => by cases h) .nil
  | m :: r, h => by
    obtain ⟨h1, h2⟩ := List.pairwise_cons.mp h
    unfold insU
    by_cases c1 : lexB k m = true
    · rw [if_pos c1]
      refine .cons (fun x hx => ?_) h
      rcases List.mem_cons.mp hx with rfl | hx
      · exact c1
      · exact lexB_trans c1 (h1 x hx)
    · rw [if_neg c1]
      by_cases c2 : k = m
      · rw [if_pos c2]
        exact h
      · rw [if_neg c2]
        refine .cons (fun x hx => ?_) (insU_sorted h2)
        rcases insU_mem.mp hx with rfl | hx
        · exact lexB_tri (by simpa using c1) c2
        · exact h1 x hx
theorem ssort_mem {x : List Int} : ∀ {l : List (List Int)}, x ∈ ssort l ↔ x ∈ l
  | [] => by simp [ssort]
  | k :: l => by
    show x ∈ insU k (ssort l) ↔ _
    rw [insU_mem, ssort_mem, List.mem_cons]
theorem ssort_sorted : ∀ l : List (List Int), (ssort l).Pairwise fun a b => lexB a b = true
  | [] => .nil
  | k :: l => insU_sorted (ssort_sorted l)
theorem sorted_eq : ∀ {l m : List (List Int)}, l.Pairwise (fun a b => lexB a b = true) → m.Pairwise (fun a b => lexB a b = true) → (∀ x, x ∈ l ↔ x ∈ m) → l = m
  | [], [], _, _, _ => rfl
  | [], b :: m, _, _, h => absurd ((h b).mpr List.mem_cons_self) (by simp)
  | a :: l, [], _, _, h => absurd ((h a).mp List.mem_cons_self) (by simp)
  | a :: l, b :: m, h1, h2, h => by
    obtain ⟨p1, p2⟩ := List.pairwise_cons.mp h1
    obtain ⟨q1, q2⟩ := List.pairwise_cons.mp h2
    have e : a = b := by
      rcases List.mem_cons.mp ((h a).mp List.mem_cons_self) with e | e
      · exact e
      · rcases List.mem_cons.mp ((h b).mpr List.mem_cons_self) with e' | e'
        · exact e'.symm
        · have := lexB_trans (p1 b e') (q1 a e)
          rw [lexB_irr] at this
          cases this
    subst e
    rw [sorted_eq p2 q2 fun x => ?_]
    have hx := h x
    rw [List.mem_cons, List.mem_cons] at hx
    constructor
    · intro hl
      rcases hx.mp (.inr hl) with e | e
      · subst e
        have := p1 x hl
        rw [lexB_irr] at this
        cases this
      · exact e
    · intro hl
      rcases hx.mpr (.inr hl) with e | e
      · subst e
        have := q1 x hl
        rw [lexB_irr] at this
        cases this
      · exact e
theorem code_bd {B : Int} (hB : 0 < B) : ∀ {a : List Int}, TS.Bd B a → 0 ≤ TS.code B a ∧ TS.code B a < B ^ a.length
  | [], _ => ⟨Int.le_refl _, by show (0 : Int) < B ^ 0; rw [Int.pow_zero]; decide⟩
  | d :: r, h => by
    obtain ⟨c0, c1⟩ := code_bd hB h.tail
    obtain ⟨d0, d1⟩ := h.head
    have := TS.num1 (P := B ^ r.length) c0 c1 d0 d1
    refine ⟨this.1, ?_⟩
    show d * B ^ r.length + TS.code B r < B ^ (r.length + 1)
    rw [Int.pow_succ]
    exact this.2
theorem code_lex {B : Int} (hB : 0 < B) : ∀ {a b : List Int}, a.length = b.length → TS.Bd B a → TS.Bd B b → TS.code B a ≤ TS.code B b → a ≠ b → lexB a b = true
  | [], [], _, _, _, _, h => absurd rfl h
  | [], _ :: _, h, _, _, _, _ => by cases h
  | _ :: _, [], h, _, _, _, _ => by cases h
  | x :: a, y :: b, hl, ha, hb, hc, hne => by
    have hl' : a.length = b.length := Nat.succ.inj hl
    have hc : x * B ^ a.length + TS.code B a ≤ y * B ^ b.length + TS.code B b := hc
    obtain ⟨a0, a1⟩ := code_bd hB ha.tail
    obtain ⟨b0, b1⟩ := code_bd hB hb.tail
    rw [← hl'] at hc b1
    have hP : 0 < B ^ a.length := Int.pow_pos hB
    unfold lexB
    by_cases e : x < y
    · rw [if_pos e]
    · rw [if_neg e]
      by_cases e2 : x = y
      · subst e2
        rw [if_pos rfl]
        exact code_lex hB hl' ha.tail hb.tail (by omega) fun e => hne (by rw [e])
      · exfalso
        have h1 : y + 1 ≤ x := by omega
        have h2 : (y + 1) * B ^ a.length ≤ x * B ^ a.length := Int.mul_le_mul_of_nonneg_right h1 (by omega)
        rw [Int.add_mul, Int.one_mul] at h2
        omega
def toTups : List PI.D → Option (List (List Int))
  | [] => some []
  | .tup ds :: r => (toInts ds).bind fun k => (toTups r).bind fun ks => some (k :: ks)
  | _ :: _ => none
theorem toTups_map : ∀ ks : List (List Int), toTups (ks.map fun k => PI.D.tup (zL k)) = some ks
  | [] => rfl
  | k :: ks => by
    show (toInts (k.map PI.D.int)).bind (fun k => (toTups (ks.map fun k => PI.D.tup (zL k))).bind fun ks => some (k :: ks)) = _
    rw [toInts_map, toTups_map ks]
    rfl
def okSS : List (List Int) → Bool
  | [] => true
  | k :: ks => decide (0 < k.length) && ((k :: ks).all fun m => decide (m.length = k.length) && m.all fun i => decide (0 ≤ i)) && decide ((k :: ks).length < 64)
def ssD : PI.D → Option W
  | .lst ds => (toTups ds).bind fun ks => if okSS ks then some (true, .lst ((ssort ks).map fun k => PI.D.tup (zL k))) else none
  | _ => none
def bigB : List (List Int) → Int
  | [] => 1
  | k :: ks => k.sum + bigB ks
theorem le_sum : ∀ {k : List Int}, (∀ i ∈ k, 0 ≤ i) → 0 ≤ k.sum ∧ ∀ i ∈ k, i ≤ k.sum
  | [], _ => ⟨by simp, fun _ h => by cases h⟩
  | a :: k, h => by
    obtain ⟨h1, h2⟩ := le_sum fun i hi => h i (List.mem_cons_of_mem _ hi)
    have ha := h a List.mem_cons_self
    rw [List.sum_cons]
    refine ⟨by omega, fun i hi => ?_⟩
    rcases List.mem_cons.mp hi with rfl | hi
    · omega
    · have := h2 i hi
      omega
theorem bigB_ok : ∀ {ks : List (List Int)}, (∀ k ∈ ks, ∀ i ∈ k, 0 ≤ i) → 1 ≤ bigB ks ∧ ∀ k ∈ ks, TS.Bd (bigB ks) k
  | [], _ => ⟨Int.le_refl _, fun _ h => by cases h⟩
  | k :: ks, h => by
    obtain ⟨h1, h2⟩ := bigB_ok fun m hm => h m (List.mem_cons_of_mem _ hm)
    obtain ⟨h3, h4⟩ := le_sum (h k List.mem_cons_self)
    show 1 ≤ k.sum + bigB ks ∧ ∀ m ∈ k :: ks, TS.Bd (k.sum + bigB ks) m
    refine ⟨by omega, fun m hm i hi => ?_⟩
    rcases List.mem_cons.mp hm with rfl | hm
    · have := h4 i hi
      exact ⟨h m List.mem_cons_self i hi, by omega⟩
    · have := h2 m hm i hi
      exact ⟨this.1, by omega⟩
theorem okSS_of {ks : List (List Int)} (h : okSS ks = true) : ks.length < 64 ∧ (∀ k ∈ ks, ∀ i ∈ k, 0 ≤ i) ∧ ∃ d, 1 ≤ d ∧ ∀ k ∈ ks, k.length = d := by
  cases ks with
  | nil => exact ⟨by simp, fun _ h => (nomatch h), 1, Nat.le_refl _, fun _ h => (nomatch h)⟩
  | cons k ks =>
    unfold okSS at h
    obtain ⟨h1, h3⟩ := Bool.and_eq_true_iff.mp h
    obtain ⟨h1, h2⟩ := Bool.and_eq_true_iff.mp h1
    refine ⟨of_decide_eq_true h3, fun m hm i hi => ?_, k.length, of_decide_eq_true h1, fun m hm => ?_⟩
    · have := (Bool.and_eq_true_iff.mp (List.all_eq_true.mp h2 m hm)).2
      exact of_decide_eq_true (List.all_eq_true.mp this i hi)
    · exact of_decide_eq_true (Bool.and_eq_true_iff.mp (List.all_eq_true.mp h2 m hm)).1
theorem tups_of {K : PySem.W.Frag} {S : Addr → Prop} {H : Hp} : ∀ {vs : List V} {ds : List PI.D} {ks : List (List Int)}, RepAll K S H vs ds → toTups ds = some ks → ∃ ps : List (Addr × List Int), vs = ps.map (fun p => V.ref p.1) ∧ ks = ps.map (·.2) ∧ ∀ p ∈ ps, TupAt K S H p.1 (p.2.map V.int)
  | _, _, ks, .nil, e => by
    cases e
    exact ⟨[], rfl, rfl, fun _ h => by cases h⟩
  | _, _, ks, .cons (d := d) r t, e => by
    cases d with
    | tup ds =>
      obtain ⟨k, h1, e⟩ := obind e
      obtain ⟨ks', h2, e⟩ := obind e
      cases e
      obtain ⟨a, us, rfl, ha, hr⟩ := r.tupD
      rw [toInts_ok h1] at hr
      have := hr.of_ints
      subst this
      obtain ⟨ps, e1, e2, e3⟩ := tups_of t h2
      refine ⟨(a, k) :: ps, by rw [e1]; rfl, by rw [e2]; rfl, fun p hp => ?_⟩
      rcases List.mem_cons.mp hp with rfl | hp
      · exact ha
      · exact e3 p hp
    | _ => cases e
theorem rep_tups {K : PySem.W.Frag} {S : Addr → Prop} {H : Hp} : ∀ {ps : List (Addr × List Int)}, (∀ p ∈ ps, TupAt K S H p.1 (p.2.map V.int)) → RepAll K S H (ps.map fun p => V.ref p.1) ((ps.map (·.2)).map fun k => PI.D.tup (zL k))
  | [], _ => .nil
  | p :: ps, h => .cons (.tup (h p List.mem_cons_self) (.ints _)) (rep_tups fun q hq => h q (List.mem_cons_of_mem _ hq))
def rSS (X : Cx) : V → Hp → VK → Prop := fun x H Q => ∃ vs, vs = [x] ∧ rSetOfT X.K X.prog X.w vs H fun y H1 => ∃ ws, ws = [y] ∧ rSortedT X.K X.prog X.w ws H1 Q
theorem p_ss {X : Cx} : P1Ok X.K (rSS X) ssD := fun S H v d w Q hS hx hf q => by
  cases d with
  | lst ds =>
    obtain ⟨ks, h1, hf⟩ := obind hf
    split at hf
    · rename_i hok
      cases hf
      obtain ⟨l, vs, rfl, h2, h3⟩ := hx.lst
      obtain ⟨ps, rfl, rfl, h4⟩ := tups_of h3 h1
      obtain ⟨o1, o2, dd, o3, o4⟩ := okSS_of hok
      refine ⟨_, rfl, l, ps, rfl, .inl (.inl h2), fun p hp => (h4 p hp).sq, by simpa using o1, fun a L ha hL1 hL2 => ?_⟩
      obtain ⟨b1, b2⟩ := bigB_ok o2
      have up : ∀ p ∈ ps, TupAt X.K S (upd H a (SetTO X.prog X.w a L)) p.1 (p.2.map V.int) := fun p hp => (h4 p hp).step (fun b o e _ => keep_upd ha b o e) fun b z => .inl z
      refine ⟨_, rfl, a, L, dd, bigB (ps.map (·.2)), rfl, upd_same, fun p hp => (up p (hL1 p hp)).sq, o3, fun p hp => ⟨o4 _ (List.mem_map_of_mem (hL1 p hp)), b2 _ (List.mem_map_of_mem (hL1 p hp))⟩, fun L' p pm nd hfew pw hp => ?_⟩
      have e : L'.map (·.2) = ssort (ps.map (·.2)) := by
        refine sorted_eq ?_ (ssort_sorted _) fun x => ?_
        · rw [List.pairwise_map]
          have nd2 : L'.Pairwise fun a b => a.2 ≠ b.2 := List.pairwise_map.mp nd
          refine (pw.and nd2).imp_of_mem fun {x y} hx hy h => ?_
          have mx := hL1 x (pm.mem_iff.mp hx)
          have my := hL1 y (pm.mem_iff.mp hy)
          exact code_lex (by omega) ((o4 _ (List.mem_map_of_mem mx)).trans (o4 _ (List.mem_map_of_mem my)).symm) (b2 _ (List.mem_map_of_mem mx)) (b2 _ (List.mem_map_of_mem my)) h.1 h.2
        · rw [ssort_mem]
          constructor
          · intro hx
            obtain ⟨z, hz, rfl⟩ := List.mem_map.mp hx
            exact List.mem_map_of_mem (hL1 z (pm.mem_iff.mp hz))
          · intro hx
            obtain ⟨z, hz, rfl⟩ := List.mem_map.mp hx
            obtain ⟨z', hz', e⟩ := List.mem_map.mp (hL2 z hz)
            rw [← e]
            exact List.mem_map_of_mem (pm.mem_iff.mpr hz')
      have hn : H p = none := by
        cases g : H p with
        | none => rfl
        | some o =>
          rw [keep_upd ha p o g] at hp
          cases hp
      have kp : ∀ b o, H b = some o → upd (upd H a (SetTO X.prog X.w a L)) p (.lst (L'.map fun q => V.ref q.1)) b = some o := fun b o g => keep_upd hp b o (keep_upd ha b o g)
      rw [← e] at q
      refine q _ _ ⟨kp, fun _ => ⟨p, _, _, _, rfl, .lst, hn, upd_same, ?_⟩, fun z => (nomatch z)⟩
      refine rep_tups fun z hz => (h4 z (hL1 z (pm.mem_iff.mp hz))).step (fun b o g _ => kp b o g) fun b z => z.imp id fun z => by rw [z]; exact hn
    · cases hf
  | _ => cases hf
theorem SOr_imp {K : PySem.W.Frag} {o : Opd} {σ : L2.St} {H : Hp} {Q Q' : VK} (h : SOr K o σ H Q) (i : ∀ v H1, Q v H1 → Q' v H1) : SOr K o σ H Q' := by
  cases o with
  | ex f =>
    obtain ⟨Z, env, w, env', R, e, q⟩ := h
    exact ⟨Z, env, w, env', R, e, fun v H' x => i v H' (q v H' x)⟩
  | sl k =>
    obtain ⟨v, e, q⟩ := h
    exact ⟨v, e, i v H q⟩
theorem se_ss {X : Cx} {p1 p2 c1 c2 : Pos} {e : Expr} {o : Opd} (hc : X.calm = true) (hu : X.A.units + 64 < cLine) (he : PE X e (SOr X.K o)) (hm : X.mg "sorted" = none) (hm2 : X.mg "set" = none) (hv : bootBuiltins "sorted" = some (.builtin "sorted")) (hv2 : bootBuiltins "set" = some (.type "set")) (hg : Gl X "sorted" := by rfl) (hg2 : Gl X "set" := by rfl)
    (hs1 : starEach [.Call (.Name "set" p2) [e] [] c2] X.env = (false, eval (.Call (.Name "set" p2) [e] [] c2) X.env) :: starEach [] X.env := by rfl) (hs2 : starEach [e] X.env = (false, eval e X.env) :: starEach [] X.env := by rfl) :
    PE X (.Call (.Name "sorted" p1) [.Call (.Name "set" p2) [e] [] c2] [] c1) (SEr X.K (e1 ssD o)) := by
  have h2 : PE X (.Call (.Name "set" p2) [e] [] c2) _ := pe_callTy (cr_setOfT hc hu) hg2 hm2 hv2 (pa_cons he pa_nil hs2) (by decide) (by decide) hs2 (by rfl)
  refine PEi (pe_callB (cr_sortedT hc) hg hm hv (pa_cons h2 pa_nil hs1) (by decide) (by decide) hs1 (by rfl)) fun σ H Q q => ?_
  refine SOr_imp (e1_go (r := rSS X) p_ss q) fun v H1 h => ?_
  obtain ⟨_, rfl, l, ks, a1, a2, a3, a4, a5⟩ := h
  refine ⟨l, ks, a1, a2, a3, a4, fun a L b1 b2 b3 => ?_⟩
  obtain ⟨_, rfl, r⟩ := a5 a L b1 b2 b3
  exact r
end PI

namespace PI
open PySem PySem.Spec PyProof.Rows L2
/-! ### a, b = x, y stored from the left, the pair itself untracked -/
def tParN (n : Nat) (ta : TA) (t : TGs) : TS := fun D σ H => ta σ H fun vs H1 => vs.length = n ∧ n ≤ 1000 ∧ t vs σ H1 D.nx
theorem ps_parN {X : Cx} {ts es : List Expr} {kt k2 : Nat} {pt pt2 pos : Pos} {ta : TA} {t : TGs} {n : Nat} (hc : X.calm = true) (ha : PA X es ta) (hg : PGs X ts t) (hn : (assignEach ts X.env).length = n := by rfl) (hst : (assignEach ts X.env).findIdx? (·.1) = none := by rfl)
    (hw : swappedStores [.Tuple ts kt pt] (.Tuple es k2 pt2) X.env = pure none := by rfl)
    (hs : swapsWithSole [.Tuple ts kt pt] (.Tuple es k2 pt2) pos.line X.env = pure false := by rfl)
    (h1 : (assignEach [.Tuple ts kt pt] X.env).map (·.2) = [assign (.Tuple ts kt pt) X.env] := by rfl) : PS X (.Assign [.Tuple ts kt pt] (.Tuple es k2 pt2) pos) (tParN n ta t) := by
  refine ⟨fun pins s σ H D I h => ?_⟩
  refine wpAny_Assign_stores (Tuple_ (thn (ha.run _ pins s σ H _ I h) fun us s1 ⟨vs, H1, I1, r1, hl, hn2, q1⟩ => ?_)) hs hw
  have hlu : us.length = n := by rw [← r1.length]; exact hl
  refine wpAny_newObj_type ?_ (by show us.length ≤ sizeLine; rw [hlu]; exact Nat.le_of_lt (small1000 (by omega)))
  have I2 : Inv X pins σ H1 { s1 with heap := s1.heap.push { cls := .type "tuple", data := .seq us.toArray } } := I1.kept (t' := s1.toks) fun b o e => Heap.get?_push_of_some _ e
  rw [h1]
  have ht : IsTup (s1.heap.push { cls := .type "tuple", data := .seq us.toArray }) s1.heap.objs.size us.toArray := IsTup.new s1.heap _
  show wpAny _ _ (assign (.Tuple ts kt pt) X.env (.ref s1.heap.objs.size)) _ _ _
  refine assign_Tuple_tuple (I.ok.hd hc) ht (by simp [hn, hlu]) hst fun h' hx => ?_
  have I3 : Inv X pins σ H1 { s1 with heap := h' } := I2.kept (t' := s1.toks) fun b o e => hx b o (Nat.ne_of_lt (Heap.lt_size e)) e
  exact thn (hg.run pins _ σ H1 vs us _ I3 (by simpa using r1) q1) fun _ s2 q => q
theorem SVr_imp {K : PySem.W.Frag} {σ : L2.St} : ∀ {fs : List EF} {H : Hp} {Q Q' : List V → Hp → Prop}, SVr K fs σ H Q → (∀ vs H1, Q vs H1 → Q' vs H1) → SVr K fs σ H Q'
  | [], H, Q, Q', h, i => i _ _ h
  | f :: fs, H, Q, Q', h, i => by
    obtain ⟨Z, env, w, env', R, e, q⟩ := h
    exact ⟨Z, env, w, env', R, e, fun v H' x => SVr_imp (q v H' x) fun vs H1 z => i _ _ z⟩
def gN2 (i j : Nat) : TGs := gCons (gName i) (gCons (gName j) gNil)
def gN3 (i j k : Nat) : TGs := gCons (gName i) (gCons (gName j) (gCons (gName k) gNil))
section
variable {K : PySem.W.Frag} {P : List Nat} {σ : L2.St} {H : Hp} {D : Ends}
theorem sPar2N_go {i j : Nat} {f g : EF} (h : SSr K P (sPar2 P i j f g) D σ H) : tParN 2 (SVr K [f, g]) (gN2 i j) D σ H := by
  obtain ⟨Z, env, c, env', R, e, q⟩ := h
  have h2 := sPar2_go (K := K) (D := D) ⟨Z, env, c, env', R, e, q⟩
  refine SVr_imp h2 fun vs H1 h => ?_
  obtain ⟨v, w, rfl, q⟩ := h
  exact ⟨rfl, by decide, v, [w], rfl, w, [], rfl, rfl, q⟩
theorem sPar3N_go {i j k : Nat} {f g x : EF} (h : SSr K P (sPar3 P i j k f g x) D σ H) : tParN 3 (SVr K [f, g, x]) (gN3 i j k) D σ H := by
  obtain ⟨Z, env, c, env', R, e, q⟩ := h
  have h2 := sPar3_go (K := K) (D := D) ⟨Z, env, c, env', R, e, q⟩
  refine SVr_imp h2 fun vs H1 h => ?_
  obtain ⟨v, w, u, rfl, q⟩ := h
  exact ⟨rfl, by decide, v, [w, u], rfl, w, [u], rfl, u, [], rfl, rfl, q⟩
end
section
variable {X : Cx} {pos : Pos} {P : List Nat}
theorem ss_par2n (i j : Nat) {x y : Str} {a b : Expr} {f g : EF} {px py pt : Pos} {kt k2 pt2} (ha : PA X [a, b] (SVr X.K [f, g])) (hc : X.calm = true) (hN : X.N.Nodup) (hi : X.N[i]? = some x := by rfl) (hj : X.N[j]? = some y := by rfl)
    (hx : Loc X.env.scope x := by first | exact Or.inl rfl | exact Or.inr rfl) (hy : Loc X.env.scope y := by first | exact Or.inl rfl | exact Or.inr rfl) (hfx : X.fn x = true ∨ X.env.scope.names.lookup x = some .local := by first | exact .inl rfl | exact .inr rfl) (hfy : X.fn y = true ∨ X.env.scope.names.lookup y = some .local := by first | exact .inl rfl | exact .inr rfl)
    (hn : (assignEach [.Name x px, .Name y py] X.env).length = 2 := by rfl) (hst : (assignEach [.Name x px, .Name y py] X.env).findIdx? (·.1) = none := by rfl)
    (hg1 : (assignEach [.Name x px, .Name y py] X.env).map (·.2) = assign (.Name x px) X.env :: (assignEach [.Name y py] X.env).map (·.2) := by rfl) (hg2 : (assignEach [.Name y py] X.env).map (·.2) = assign (.Name y py) X.env :: (assignEach [] X.env).map (·.2) := by rfl)
    (hw : swappedStores [.Tuple [.Name x px, .Name y py] kt pt] (.Tuple [a, b] k2 pt2) X.env = pure none := by rfl)
    (hs : swapsWithSole [.Tuple [.Name x px, .Name y py] kt pt] (.Tuple [a, b] k2 pt2) pos.line X.env = pure false := by rfl)
    (h1 : (assignEach [.Tuple [.Name x px, .Name y py] kt pt] X.env).map (·.2) = [assign (.Tuple [.Name x px, .Name y py] kt pt) X.env] := by rfl) :
    PS X (.Assign [.Tuple [.Name x px, .Name y py] kt pt] (.Tuple [a, b] k2 pt2) pos) (SSr X.K P (sPar2 P i j f g)) := PSi (ps_parN (t := gN2 i j) hc ha (pgs_cons (pg_name hN hi hx hfx) (pgs_cons (pg_name hN hj hy hfy) pgs_nil hg2) hg1) hn hst hw hs h1) fun _ _ _ q => sPar2N_go q
theorem ss_par3n (i j l : Nat) {x y z : Str} {a b c : Expr} {f g h : EF} {px py pz pt : Pos} {kt k2 pt2} (ha : PA X [a, b, c] (SVr X.K [f, g, h])) (hc : X.calm = true) (hN : X.N.Nodup) (hi : X.N[i]? = some x := by rfl) (hj : X.N[j]? = some y := by rfl) (hl : X.N[l]? = some z := by rfl)
    (hx : Loc X.env.scope x := by first | exact Or.inl rfl | exact Or.inr rfl) (hy : Loc X.env.scope y := by first | exact Or.inl rfl | exact Or.inr rfl) (hz : Loc X.env.scope z := by first | exact Or.inl rfl | exact Or.inr rfl)
    (hfx : X.fn x = true ∨ X.env.scope.names.lookup x = some .local := by first | exact .inl rfl | exact .inr rfl) (hfy : X.fn y = true ∨ X.env.scope.names.lookup y = some .local := by first | exact .inl rfl | exact .inr rfl) (hfz : X.fn z = true ∨ X.env.scope.names.lookup z = some .local := by first | exact .inl rfl | exact .inr rfl)
    (hn : (assignEach [.Name x px, .Name y py, .Name z pz] X.env).length = 3 := by rfl) (hst : (assignEach [.Name x px, .Name y py, .Name z pz] X.env).findIdx? (·.1) = none := by rfl)
    (hg1 : (assignEach [.Name x px, .Name y py, .Name z pz] X.env).map (·.2) = assign (.Name x px) X.env :: (assignEach [.Name y py, .Name z pz] X.env).map (·.2) := by rfl) (hg2 : (assignEach [.Name y py, .Name z pz] X.env).map (·.2) = assign (.Name y py) X.env :: (assignEach [.Name z pz] X.env).map (·.2) := by rfl)
    (hg3 : (assignEach [.Name z pz] X.env).map (·.2) = assign (.Name z pz) X.env :: (assignEach [] X.env).map (·.2) := by rfl)
    (hw : swappedStores [.Tuple [.Name x px, .Name y py, .Name z pz] kt pt] (.Tuple [a, b, c] k2 pt2) X.env = pure none := by rfl)
    (hs : swapsWithSole [.Tuple [.Name x px, .Name y py, .Name z pz] kt pt] (.Tuple [a, b, c] k2 pt2) pos.line X.env = pure false := by rfl)
    (h1 : (assignEach [.Tuple [.Name x px, .Name y py, .Name z pz] kt pt] X.env).map (·.2) = [assign (.Tuple [.Name x px, .Name y py, .Name z pz] kt pt) X.env] := by rfl) :
    PS X (.Assign [.Tuple [.Name x px, .Name y py, .Name z pz] kt pt] (.Tuple [a, b, c] k2 pt2) pos) (SSr X.K P (sPar3 P i j l f g h)) := PSi (ps_parN (t := gN3 i j l) hc ha (pgs_cons (pg_name hN hi hx hfx) (pgs_cons (pg_name hN hj hy hfy) (pgs_cons (pg_name hN hl hz hfz) pgs_nil hg3) hg2) hg1) hn hst hw hs h1) fun _ _ _ q => sPar3N_go q
end
end PI

namespace PI
open PySem PySem.Spec PyProof.Rows L2
/-! ### methods of tuples -/
def etN (f : List PI.D → List PI.D → Option W) (a : Opd) (as : List Opd) : EF := fun env => (a.run env).bind fun r => (r.1.get r.2).bind fun d => match d with
  | .tup z => (runs as r.2).bind fun s => (gets s.2 s.1).bind fun ds => (f z ds).bind fun w => some (w, s.2)
  | _ => none
def MtOk (K : PySem.W.Frag) (r : V → List V → Hp → VK → Prop) (f : List PI.D → List PI.D → Option W) : Prop := ∀ (S : Addr → Prop) (H : Hp) (a : Addr) (us : List V) (z : List PI.D) (vs : List V) (ds : List PI.D) (w : W) (Q : VK), (∀ a, S a → H a ≠ none) → TupAt K S H a us → RepAll K S H us z → ViewAll K S H vs ds → f z ds = some w → (∀ v' H', Made K S H w v' H' → Q v' H') → r (.ref a) vs H Q
section
variable {K : PySem.W.Frag} {σ : L2.St} {H : Hp}
theorem etN_go {r : V → List V → Hp → VK → Prop} {f : List PI.D → List PI.D → Option W} {a : Opd} {as : List Opd} (p : MtOk K r f) {Q : VK} (h : SEr K (etN f a as) σ H Q) : tTM K r (SOr K a) (SAr K as) σ H Q := by
  obtain ⟨Z, env, w, env', R, e, q⟩ := h
  obtain ⟨s, h1, e⟩ := obind e
  obtain ⟨d, h2, e⟩ := obind e
  cases d with
  | tup z =>
    obtain ⟨t, h3, e⟩ := obind e
    obtain ⟨ds, h4, e⟩ := obind e
    obtain ⟨w', h5, e⟩ := obind e
    cases e
    refine SOr.go R h1 fun v H1 R1 t1 o1 => ?_
    obtain ⟨b, us, ev, ha, hr⟩ := (o1.view R1 h2).tupD
    subst ev
    refine ⟨⟨b, us, rfl, ha.pt⟩, SAr.go R1 h3 fun vs H2 R2 t2 o2 => ?_⟩
    have st1 : ∀ c o, H1 c = some o → ¬ Av s.2 σ Z c → H2 c = some o := fun c o e n => t2.keep c o e fun z => n (.inl z)
    exact p _ H2 b us z vs ds w Q R2.dom (ha.step st1 fun c q => .inl (t2.av c q)) (t2.repAll hr) (o2.views R2 h4) h5 fun v' H' m => q v' H' (made_res R2 (t1.trans t2) m)
  | _ => cases e
end
section
variable {X : Cx} {apos cpos : Pos} {o e : Expr} {es : List Expr} {name : Str} {id : String} {r : V → List V → Hp → VK → Prop} {f : List PI.D → List PI.D → Option W} {a : Opd} {as : List Opd}
theorem se_tm (slot : Slot "tuple" name id) (hty : typeOf (.builtin id) = pure (.type "method_descriptor")) (hm : MtR X id r) (p : MtOk X.K r f) (ho : PE X o (SOr X.K a)) (ha : PA X (e :: es) (SAr X.K as))
    (hbase : attributeBase o name X.env (eval o X.env) = eval o X.env := by rfl)
    (hfew : ((backTo cpos (starEach (e :: es) X.env)).all (fun x => !x.1) && (backToKw cpos (keywordEach [] X.env)).all (fun x => x.1.isSome)
      && decide ((e :: es).length + ([] : List Keyword).length + (if ([] : List Keyword).isEmpty then 0 else 1) < 30)) = true := by rfl)
    (hline : (apos.endLine == cpos.line) = true := by rfl) (hs : starEach (e :: es) X.env = (false, eval e X.env) :: starEach es X.env := by rfl) (hplain : (backTo cpos (starEach es X.env)).any (·.1) = false := by rfl) :
    PE X (.Call (.Attribute o name apos) (e :: es) [] cpos) (SEr X.K (etN f a as)) := PEi (pe_tm slot hty hm ho ha hbase hfew hline hs hplain) fun _ _ _ q => etN_go p q
end
/-- the first place of z -/
def fstI (z : Int) : List Int → Option Nat
  | [] => none
  | y :: ys => if y = z then some 0 else (fstI z ys).map (· + 1)
theorem fstI_ok {z : Int} : ∀ {ys : List Int} {j : Nat}, fstI z ys = some j → ys[j]? = some z ∧ ∀ m, m < j → ys[m]? ≠ some z
  | [], _, h => by cases h
  | y :: ys, j, h => by
    unfold fstI at h
    by_cases c : y = z
    · rw [if_pos c] at h
      cases h
      exact ⟨by rw [c]; rfl, fun m hm => by omega⟩
    · rw [if_neg c] at h
      obtain ⟨k, hk, rfl⟩ := Option.map_eq_some_iff.mp h
      obtain ⟨h1, h2⟩ := fstI_ok hk
      refine ⟨h1, fun m hm => ?_⟩
      cases m with
      | zero => exact fun e => c (Option.some.inj e)
      | succ m => exact h2 m (by omega)
theorem fstI_of {z : Int} : ∀ {ys : List Int} {j : Nat}, ys[j]? = some z → (∀ m, m < j → ys[m]? ≠ some z) → fstI z ys = some j
  | [], _, h, _ => by simp at h
  | y :: ys, 0, h, _ => by
    have e : y = z := Option.some.inj h
    unfold fstI
    rw [if_pos e]
  | y :: ys, j + 1, h, hn => by
    have c : y ≠ z := fun e => hn 0 (by omega) (by rw [e]; rfl)
    unfold fstI
    rw [if_neg c, fstI_of (ys := ys) (j := j) h fun m hm => hn (m + 1) (by omega)]
    rfl
def t_index (z : List PI.D) : List PI.D → Option W
  | [.int i] => (toInts z).bind fun is => (fstI i is).bind fun j => some (false, .int (j : Nat))
  | _ => none
theorem p_tindex {K : PySem.W.Frag} : MtOk K (fun x xs H Q => ∃ p, ∃ ys : List Int, ∃ z j, x = .ref p ∧ xs = [.int z] ∧ SqT K H p (ys.map V.int) ∧ ys[j]? = some z ∧ (∀ m, m < j → ys[m]? ≠ some z) ∧ Q (.int (j : Nat)) H) t_index := fun S H a us z vs ds w Q hS ha hr hv hf q => by
  cases ds with
  | nil => cases hf
  | cons d ds =>
    cases ds with
    | cons _ _ => cases d <;> cases hf
    | nil =>
      obtain ⟨v, rfl, hx⟩ := views1 hv
      cases d with
      | int i =>
        obtain ⟨is, h1, hf⟩ := obind hf
        obtain ⟨j, h2, hf⟩ := obind hf
        cases hf
        rw [toInts_ok h1] at hr
        have := hr.of_ints
        subst this
        obtain ⟨h3, h4⟩ := fstI_ok h2
        rw [hx.intD]
        exact ⟨a, is, i, j, rfl, rfl, ha.sq, h3, h4, q _ H (made_int _)⟩
      | _ => cases hf
/-! ### max(xs), min(xs) of a list of ints -/
def mxI : List Int → Int
  | [] => 0
  | [a] => a
  | a :: b :: r => max a (mxI (b :: r))
def mnI : List Int → Int
  | [] => 0
  | [a] => a
  | a :: b :: r => min a (mnI (b :: r))
theorem mxI_ok : ∀ {l : List Int}, l ≠ [] → mxI l ∈ l ∧ ∀ y ∈ l, y ≤ mxI l
  | [], h => absurd rfl h
  | [a], _ => ⟨List.mem_cons_self, fun y hy => by rw [List.mem_singleton.mp hy]; exact Int.le_refl _⟩
  | a :: b :: r, _ => by
    obtain ⟨h1, h2⟩ := mxI_ok (l := b :: r) (by simp)
    show max a (mxI (b :: r)) ∈ a :: b :: r ∧ ∀ y ∈ a :: b :: r, y ≤ max a (mxI (b :: r))
    constructor
    · rcases Int.le_total a (mxI (b :: r)) with c | c
      · rw [Int.max_eq_right c]
        exact List.mem_cons_of_mem _ h1
      · rw [Int.max_eq_left c]
        exact List.mem_cons_self
    · intro y hy
      rcases List.mem_cons.mp hy with rfl | hy
      · omega
      · have := h2 y hy
        omega
theorem mnI_ok : ∀ {l : List Int}, l ≠ [] → mnI l ∈ l ∧ ∀ y ∈ l, mnI l ≤ y
  | [], h => absurd rfl h
  | [a], _ => ⟨List.mem_cons_self, fun y hy => by rw [List.mem_singleton.mp hy]; exact Int.le_refl _⟩
  | a :: b :: r, _ => by
    obtain ⟨h1, h2⟩ := mnI_ok (l := b :: r) (by simp)
    show min a (mnI (b :: r)) ∈ a :: b :: r ∧ ∀ y ∈ a :: b :: r, min a (mnI (b :: r)) ≤ y
    constructor
    · rcases Int.le_total a (mnI (b :: r)) with c | c
      · rw [Int.min_eq_left c]
        exact List.mem_cons_self
      · rw [Int.min_eq_right c]
        exact List.mem_cons_of_mem _ h1
    · intro y hy
      rcases List.mem_cons.mp hy with rfl | hy
      · omega
      · have := h2 y hy
        omega
def maxD : PI.D → Option W
  | .lst ds => (toInts ds).bind fun is => if is = [] then none else some (false, .int (mxI is))
  | _ => none
def minD : PI.D → Option W
  | .lst ds => (toInts ds).bind fun is => if is = [] then none else some (false, .int (mnI is))
  | _ => none
theorem p_maxD {K : PySem.W.Frag} : PnOk K (rMax K) (c1 maxD) := p_c1 fun S H v d w Q hS hx hf q => by
  cases d with
  | lst ds =>
    obtain ⟨is, h1, hf⟩ := obind hf
    split at hf
    · cases hf
    · rename_i hne
      cases hf
      obtain ⟨a, us, rfl, h3, h4⟩ := hx.lst
      rw [toInts_ok h1] at h4
      have := h4.of_ints
      subst this
      obtain ⟨m1, m2⟩ := mxI_ok hne
      refine ⟨a, is, rfl, .inl (.inl h3), List.length_pos_iff.mpr hne, fun m k1 k2 => ?_⟩
      have e : m = mxI is := Int.le_antisymm (m2 m k1) (k2 _ m1)
      rw [e]
      exact q _ H (made_int _)
  | _ => cases hf
theorem p_minD {K : PySem.W.Frag} : PnOk K (rMin K) (c1 minD) := p_c1 fun S H v d w Q hS hx hf q => by
  cases d with
  | lst ds =>
    obtain ⟨is, h1, hf⟩ := obind hf
    split at hf
    · cases hf
    · rename_i hne
      cases hf
      obtain ⟨a, us, rfl, h3, h4⟩ := hx.lst
      rw [toInts_ok h1] at h4
      have := h4.of_ints
      subst this
      obtain ⟨m1, m2⟩ := mnI_ok hne
      refine ⟨a, is, rfl, .inl (.inl h3), List.length_pos_iff.mpr hne, fun m k1 k2 => ?_⟩
      have e : m = mnI is := Int.le_antisymm (k2 _ m1) (m2 m k1)
      rw [e]
      exact q _ H (made_int _)
  | _ => cases hf
/-! ### xs[::c], c one of 1, -1 -/
section
variable {prog : Program} {w : World} {A : Around} {E : Value → Shared → Prop} {s : Shared}
open HT
theorem sliceApplied_step {sl : Addr} {vs : Value} {c : Int} {n : Nat} {Q : Int × Int × Nat → Shared → Prop} (hs : s.heap.IsSliceOf sl .none .none vs) (ps : IsPart vs (some c)) (hc : c = 1 ∨ c = -1)
    (h : Q ((if c = 1 then 0 else (n : Int) - 1), c, n) s) : wpAny (model prog w) A (Builtin.Slice.sliceApplied (.ref sl) (pure (n : Int))) Q E s := by
  obtain ⟨os, hos, hcs, hds⟩ := id hs
  unfold Builtin.Slice.sliceApplied Builtin.Slice.sliceFields
  refine wpAny_bind (wpAny_bind (wpAny_field hos hds (x := .none) rfl (wpAny_bind (wpAny_field hos hds (x := .none) rfl (wpAny_bind (wpAny_field hos hds (x := vs) rfl (wpAny_pure ?_)))))))
  refine wpAny_bind (slicePart_ ps ?_)
  rcases hc with rfl | rfl
  · show wpAny _ _ (if ((1 : Int) == 0) = true then _ else _) _ _ s
    rw [if_neg (by decide)]
    refine wpAny_bind (slicePart_ .none (wpAny_bind (slicePart_ .none (wpAny_bind (wpAny_pure ?_)))))
    show wpAny _ _ (match Builtin.Slice.sliceAdjust none none 1 (n : Int) with | (lo, hi) => pure (lo, (1 : Int), Builtin.Slice.slicePlaces lo hi 1)) _ _ s
    rw [adjust_gen none none n]
    show wpAny _ _ (pure (((sIx n 0 none : Nat) : Int), (1 : Int), Builtin.Slice.slicePlaces ((sIx n 0 none : Nat) : Int) ((sIx n n none : Nat) : Int) 1)) _ _ s
    rw [places_gen]
    exact wpAny_pure h
  · show wpAny _ _ (if ((-1 : Int) == 0) = true then _ else _) _ _ s
    rw [if_neg (by decide)]
    refine wpAny_bind (slicePart_ .none (wpAny_bind (slicePart_ .none (wpAny_bind (wpAny_pure ?_)))))
    show wpAny _ _ (match Builtin.Slice.sliceAdjust none none (-1) (n : Int) with | (lo, hi) => pure (lo, (-1 : Int), Builtin.Slice.slicePlaces lo hi (-1))) _ _ s
    have e1 : Builtin.Slice.sliceAdjust none none (-1) (n : Int) = ((n : Int) - 1, -1) := rfl
    rw [e1]
    show wpAny _ _ (pure ((n : Int) - 1, (-1 : Int), Builtin.Slice.slicePlaces ((n : Int) - 1) (-1) (-1))) _ _ s
    have e2 : Builtin.Slice.slicePlaces ((n : Int) - 1) (-1) (-1) = n := by
      unfold Builtin.Slice.slicePlaces
      rw [if_neg (by decide)]
      by_cases hn : n = 0
      · subst hn
        rfl
      · rw [if_pos (by omega)]
        have e : ((n : Int) - 1 - -1 - 1) / (- -1) + 1 = n := by
          show ((n : Int) - 1 - -1 - 1) / 1 + 1 = n
          rw [Int.ediv_one]
          omega
        rw [e]
        rfl
    rw [e2]
    exact wpAny_pure h
theorem fm_congr {α β : Type} {f g : α → Option β} : ∀ {l : List α}, (∀ x ∈ l, f x = g x) → l.filterMap f = l.filterMap g
  | [], _ => rfl
  | x :: l, h => by
    rw [List.filterMap_cons, List.filterMap_cons, h x List.mem_cons_self, fm_congr fun y hy => h y (List.mem_cons_of_mem _ hy)]
theorem pick_rev (xs : Array Value) : ((List.range xs.size).filterMap fun (m : Nat) => xs[((if (-1 : Int) = 1 then 0 else (xs.size : Int) - 1) + (m : Int) * -1).toNat]?) = xs.toList.reverse := by
  rw [← PySem.W.krv_all xs, ← List.filterMap_reverse, ← PySem.W.krv_range]
  rw [List.filterMap_map]
  refine fm_congr fun m hm => ?_
  have hm := List.mem_range.mp hm
  rw [if_neg (by decide)]
  have e : (((xs.size : Int) - 1) + (m : Int) * -1).toNat = xs.size - 1 - m := by omega
  rw [e]
  rfl
theorem getItem_tuple_step {t sl : Addr} {items : Array Value} {vs : Value} {c : Int} {Q : Value → Shared → Prop} (ht : IsTup s.heap t items) (hs : s.heap.IsSliceOf sl .none .none vs) (ps : IsPart vs (some c)) (hc : c = 1 ∨ c = -1)
    (h1 : c = 1 → Q (.ref t) s) (h2 : c = -1 → Q (.ref s.heap.objs.size) { s with heap := s.heap.push (tobj items.toList.reverse) }) (hsz : items.size ≤ sizeLine) : wpAny (model prog w) A (getItem (.ref t) (.ref sl)) Q E s := by
  obtain ⟨os, hos, hcs, hds⟩ := id hs
  have hTs : s.TypeIs (.ref sl) "slice" := ⟨os, hos, hcs⟩
  unfold getItem
  try with_reducible refine wpAny_holding ?_
  first | refine wpAny_bind (wpAny_pure ?_) | skip
  refine wpAny_bind (wpAny_sequenceKey ht.typeIs (by decide) ?_)
  refine wpAny_bind (wpAny_callSpecial?_slot (name := Str.ofString "__getitem__") ht.typeIs PyProof.Rows.slot_tuple_getitem
    (wpAny_call_entry PyProof.Rows.slot_tuple_getitem ht.typeIs entry_tuple_getitem ?_ (args_tuple_getitem _ _)))
  show wpAny _ _ (Builtin.Tuple.tupleItemsOf (.ref t) >>= _) _ _ s
  refine wpAny_bind (tupleItemsOf_ ht ?_)
  refine wpAny_bind (wpAny_typeOf hTs ?_)
  rw [if_pos (by decide)]
  refine wpAny_bind (sliceApplied_step hs ps hc ?_)
  rcases hc with rfl | rfl
  · show wpAny _ _ (if ((0 : Int) == 0 && (1 : Int) == 1 && items.size == items.size) = true then _ else _) _ _ s
    rw [if_pos (by simp)]
    refine wpAny_bind ?_
    show wpAny _ _ (typeOf (.ref t) >>= fun T => pure (T == .type "tuple")) _ _ s
    refine wpAny_bind (wpAny_typeOf ht.typeIs (wpAny_pure ?_))
    first
      | rw [if_pos (by decide)]
      | simp only [beq_self_eq_true, if_true]
    first
      | exact wpAny_bind (wpAny_rule (wpAny_pure ⟨_, rfl, wpAny_pure (h1 rfl)⟩))
      | exact wpAny_bind (wpAny_rule (wpAny_bind (wpAny_pure (wpAny_pure ⟨_, rfl, wpAny_pure (h1 rfl)⟩))))
  · show wpAny _ _ (if (((items.size : Int) - 1) == 0 && (-1 : Int) == 1 && items.size == items.size) = true then _ else _) _ _ s
    rw [if_neg (by simp), pick_rev]
    have htake : sizeOk (.seq items.toList.reverse.toArray) := by
      show items.toList.reverse.toArray.size ≤ sizeLine
      rw [List.size_toArray, List.length_reverse, Array.length_toList]
      exact hsz
    have h := h2 rfl
    first
      | exact wpAny_bind (m := Builtin.Tuple.tupleExact _) (wpAny_newObj_type (wpAny_pure ⟨_, rfl, wpAny_pure h⟩) htake)
      | exact wpAny_bind (m := Builtin.Tuple.tupleExact _) (wpAny_newObj_type (wpAny_bind (wpAny_pure (wpAny_pure ⟨_, rfl, wpAny_pure h⟩))) htake)
      | exact wpAny_bind (wpAny_bind (m := Builtin.Tuple.tupleExact _) (wpAny_newObj_type (wpAny_pure (wpAny_pure ⟨_, rfl, wpAny_pure h⟩)) htake))
      | exact wpAny_bind (wpAny_bind (m := Builtin.Tuple.tupleExact _) (wpAny_newObj_type (wpAny_pure ⟨_, rfl, wpAny_pure h⟩) htake))
end
def tStepS (K : PySem.W.Frag) (te ts : TE) : TE := fun σ H Q => te σ H fun x H1 => tPart ts σ H1 fun y H2 => ∃ a xs c, x = .ref a ∧ y = some c ∧ (c = 1 ∨ c = -1) ∧
  ((SqL K H2 a xs ∧ ∀ p, H2 p = none → Q (.ref p) (upd H2 p (.lst (if c = 1 then xs else xs.reverse)))) ∨ (SqT K H2 a xs ∧ (c = 1 → Q (.ref a) H2) ∧ (c = -1 → NewT H2 xs.reverse Q)))
theorem slice_all (xs : Array Value) : slicePick xs none none (some 1) = xs := by
  have e : sliceRange (sliceBounds none none (some 1) xs.size).1 (sliceBounds none none (some 1) xs.size).2.1 (sliceBounds none none (some 1) xs.size).2.2 = List.range xs.size := by
    have e1 : sliceBounds none none (some 1) xs.size = (0, (xs.size : Int), 1) := by
      first
      | rfl
      | simp [sliceBounds]
    rw [e1]
    show sliceRange 0 (xs.size : Int) 1 = _
    unfold sliceRange
    rw [if_pos (by decide)]
    by_cases hn : xs.size = 0
    · rw [hn]
      rfl
    · rw [if_pos (by omega), Int.ediv_one]
      have e2 : ((xs.size : Int) - 0 + 1 - 1).toNat = xs.size := by omega
      show List.map _ (List.range ((xs.size : Int) - 0 + 1 - 1).toNat) = _
      rw [e2]
      have e3 : (fun (k : Nat) => ((0 : Int) + 1 * (k : Int)).toNat) = id := by
        funext k
        show ((0 : Int) + 1 * (k : Int)).toNat = k
        omega
      rw [e3, List.map_id]
  unfold slicePick
  rw [e, PySem.W.krv_all]
theorem pe_stepS {X : Cx} {e st : Expr} {te ts : TE} {p3 pos : Pos} (he : PE X e te) (hs0 : PE X st ts) : PE X (.Subscript e (.Slice none none (some st) p3) pos) (tStepS X.K te ts) := by
  refine ⟨fun pins s σ H Q I h => ?_⟩
  refine Subscript_ (thn (he.run pins s σ H _ I h) fun v s1 ⟨x, H1, I1, r1, q1⟩ => ?_)
  have hst : L2.PO X (some st) (tPart ts) := po_some hs0
  refine wpAny_Slice (thn (po_none.run pins s1 σ H1 (fun o H2 => o = none ∧ H2 = H1) I1 ⟨rfl, rfl⟩) fun vl s2 ⟨l, H2, I2, pl, el, e2⟩ => ?_)
  subst el e2
  refine thn (po_none.run pins s2 σ H2 (fun o H3 => o = none ∧ H3 = H2) I2 ⟨rfl, rfl⟩) fun vu s3 ⟨u, H3, I3, pu, eu, e3⟩ => ?_
  subst eu e3
  refine thn (hst.run pins s3 σ H3 _ I3 q1) fun vs s4 ⟨o, H4, I4, ps, a, xs, c, ex, eo, hc, hq⟩ => ?_
  subst ex eo
  cases r1
  cases pl
  cases pu
  have I5 : Inv X pins σ H4 { s4 with heap := s4.heap.push { cls := .type "slice", data := .fields #[.none, .none, vs] } } := I4.kept (t' := s4.toks) fun b ob q => Heap.get?_push_of_some _ q
  rcases hq with ⟨hx, q⟩ | ⟨hx, qa, qb⟩
  · obtain ⟨its, r, ht, hz⟩ := I5.list hx
    have hlen := r.length
    show wpAny (model X.prog X.w) X.A (subscriptTail e (.Slice none none (some st) p3) (.ref a) (.ref s4.heap.objs.size)) (EP X pins σ Q) X.xe { s4 with heap := s4.heap.push { cls := .type "slice", data := .fields #[.none, .none, vs] } }
    refine tail_any (ops := [.ref a, .ref s4.heap.objs.size]) ht.isList.typeIs (PySem.slot_list_getitem.lookup) ?_ (by with_unfolding_all rfl)
    refine wpAny_getItem_list_slice ht.isList (Heap.IsSliceOf.new _ .none .none vs) .none .none ps (by rcases hc with rfl | rfl <;> decide) ?_ (by rw [List.size_toArray]; omega)
    rcases hc with rfl | rfl
    · rw [slice_all]
      refine ⟨.ref _, _, I5.laid (t' := s4.toks) (o := .lst xs) (fun b ob q => Heap.get?_push_of_some _ q) (Nat.le_refl _) ?_, rfl, q _ (I5.hok.fresh (Nat.le_refl _))⟩
      exact ⟨hz, _, 0, r, Heap.get?_push_size _ rfl⟩
    · rw [PySem.W.krv_pick]
      refine ⟨.ref _, _, I5.laid (t' := s4.toks) (o := .lst xs.reverse) (fun b ob q => Heap.get?_push_of_some _ q) (Nat.le_refl _) ?_, rfl, q _ (I5.hok.fresh (Nat.le_refl _))⟩
      exact ⟨by rw [List.length_reverse]; exact hz, _, 0, r.reverse, Heap.get?_push_size _ rfl⟩
  · obtain ⟨its, r, ht, hz⟩ := I5.tuple hx
    have hlen := r.length
    show wpAny (model X.prog X.w) X.A (subscriptTail e (.Slice none none (some st) p3) (.ref a) (.ref s4.heap.objs.size)) (EP X pins σ Q) X.xe { s4 with heap := s4.heap.push { cls := .type "slice", data := .fields #[.none, .none, vs] } }
    refine tail_any (ops := [.ref a, .ref s4.heap.objs.size]) ht.typeIs (PyProof.Rows.slot_tuple_getitem.lookup) ?_ (by with_unfolding_all rfl)
    refine getItem_tuple_step ht (Heap.IsSliceOf.new _ .none .none vs) ps hc (fun hc => ⟨.ref a, H4, I5, rfl, qa hc⟩) (fun hc => ?_) (by rw [List.size_toArray]; omega)
    exact laidT (us := its.toArray.toList.reverse) (t' := s4.toks) I5 (by rw [List.length_reverse]; exact hz) (by simpa using r.reverse) (qb hc)
/-- the same by values -/
def eStep (a : Opd) (f : EF) : EF := fun env => (a.run env).bind fun r => (f r.2).bind fun s => match s.1.2 with
  | .int c => if c = 1 ∨ c = -1 then (match r.1.get s.2 with
    | some (.lst ds) => some ((true, .lst (if c = 1 then ds else ds.reverse)), s.2)
    | some (.tup ds) => some ((false, .tup (if c = 1 then ds else ds.reverse)), s.2)
    | _ => none) else none
  | _ => none
theorem eStep_go {K : PySem.W.Frag} {σ : L2.St} {H : Hp} {a : Opd} {f : EF} {Q : VK} (h : SEr K (eStep a f) σ H Q) : tStepS K (SOr K a) (SEr K f) σ H Q := by
  obtain ⟨Z, env, w, env', R, e, q⟩ := h
  obtain ⟨s, h1, e⟩ := obind e
  obtain ⟨⟨⟨fr1, d⟩, env2⟩, h2, e⟩ := obind e
  cases d with
  | int c =>
    dsimp only at e
    split at e
    · rename_i hc
      split at e
      · rename_i ds g
        cases e
        refine SOr.go R h1 fun v H1 R1 t1 o1 => ⟨Z, s.2, _, _, R1, h2, fun u H2 x => ⟨c, rep_int x.rep, ?_⟩⟩
        obtain ⟨b, us, m1, m2, m3⟩ := ((o1.step x.tr).view x.re g).lst
        subst m1
        refine ⟨b, us, c, rfl, rfl, hc, .inl ⟨.inl (.inl m2), fun p hp => q _ _ (made_res x.re (t1.trans x.tr) (made_lst hp ?_))⟩⟩
        by_cases c1 : c = 1
        · rw [if_pos c1, if_pos c1]
          exact m3
        · rw [if_neg c1, if_neg c1]
          exact m3.reverse
      · rename_i ds g
        cases e
        refine SOr.go R h1 fun v H1 R1 t1 o1 => ⟨Z, s.2, _, _, R1, h2, fun u H2 x => ⟨c, rep_int x.rep, ?_⟩⟩
        obtain ⟨b, us, m1, m2, m3⟩ := ((o1.step x.tr).view x.re g).tupD
        subst m1
        refine ⟨b, us, c, rfl, rfl, hc, .inr ⟨m2.sq, fun c1 => ?_, fun c1 => newT_of x.re.dom m3.reverse fun v' H' m => ?_⟩⟩
        · rw [if_pos c1] at q
          exact q _ _ (made_res x.re (t1.trans x.tr) (made_old (.tup m2 m3)))
        · subst c1
          exact q _ _ (made_res x.re (t1.trans x.tr) m)
      · cases e
    · cases e
  | _ => cases e
theorem se_step {X : Cx} {e st : Expr} {o : Opd} {f : EF} {p3 pos : Pos} (he : PE X e (SOr X.K o)) (hs : PE X st (SEr X.K f)) : PE X (.Subscript e (.Slice none none (some st) p3) pos) (SEr X.K (eStep o f)) := PEi (pe_stepS he hs) fun _ _ _ q => eStep_go q
section
variable {o : Opd} {f : EF} {env : PI.Env} {m : Int} {ds : List PI.D}
@[simp] theorem y_step : eStep o f env = (o.run env).bind fun r => (f r.2).bind fun s => match s.1.2 with
  | .int c => if c = 1 ∨ c = -1 then (match r.1.get s.2 with
    | some (.lst ds) => some ((true, .lst (if c = 1 then ds else ds.reverse)), s.2)
    | some (.tup ds) => some ((false, .tup (if c = 1 then ds else ds.reverse)), s.2)
    | _ => none) else none
  | _ => none := id rfl
@[simp] theorem y_et {F : List PI.D → List PI.D → Option W} {as : List Opd} : etN F o as env = (o.run env).bind fun r => (r.1.get r.2).bind fun d => match d with
  | .tup z => (runs as r.2).bind fun s => (gets s.2 s.1).bind fun ds => (F z ds).bind fun w => some (w, s.2)
  | _ => none := id rfl
@[simp] theorem y_tindex {l : List Int} : t_index (zL l) [.int m] = (fstI m l).bind fun j => some (false, .int (j : Nat)) := by
  show ((toInts (zL l)).bind _) = _
  rw [q_toInts]
  rfl
@[simp] theorem y_max {l : List Int} : maxD (.lst (zL l)) = if l = [] then none else some (false, .int (mxI l)) := by
  show ((toInts (zL l)).bind _) = _
  rw [q_toInts]
  rfl
@[simp] theorem y_min {l : List Int} : minD (.lst (zL l)) = if l = [] then none else some (false, .int (mnI l)) := by
  show ((toInts (zL l)).bind _) = _
  rw [q_toInts]
  rfl
end
end PI

namespace PI
open PySem PySem.Spec PyProof.Rows L2
section
variable {f g : EF} {fs : List EF} {a : Opd} {as : List Opd} {env e : PI.Env} {i j : Nat} {d : PI.D} {ds es : List PI.D} {m n : Int} {b c : Bool} {x y z : Str}
@[simp] theorem y_ixt : ixS (.tup ds) (.int m) = (atI ds m).bind fun e => some (false, e) := id rfl
@[simp] theorem y_ixl : ixS (.lst ds) (.int m) = (atI ds m).bind fun e => some (false, e) := id rfl
@[simp] theorem y_ixf : ixS (.frz ds) (.int m) = (atI ds m).bind fun e => some (false, e) := id rfl
@[simp] theorem y_ixs : ixS (.str z) (.int m) = if z.length ≤ 10000000 then (atI z.cps.toList m).bind fun c => some (false, .str (sgn c)) else none := id rfl
@[simp] theorem y_slt {lo hi : Option Int} : slS (.tup ds) lo hi = some (false, .tup (cutD ds lo hi)) := id rfl
@[simp] theorem y_sll {lo hi : Option Int} : slS (.lst ds) lo hi = some (true, .lst (cutD ds lo hi)) := id rfl
@[simp] theorem y_slf {lo hi : Option Int} : slS (.frz ds) lo hi = some (true, .lst (cutD ds lo hi)) := id rfl
@[simp] theorem y_sls {lo hi : Option Int} : slS (.str z) lo hi = if z.length ≤ 10000000 then some (false, .str (cutS z lo hi)) else none := id rfl
@[simp] theorem y_muli : mulX (.int m) (.int n) = if mulB m n then some (false, .int (m * n)) else none := id rfl
@[simp] theorem y_muls : mulX (.str x) (.int n) = if n = 0 ∨ n = 1 then some (false, .str (if n = 0 then Str.empty else x)) else none := id rfl
@[simp] theorem y_mull : mulX (.lst ds) (.int n) = if 0 ≤ n ∧ n ≤ 1000 ∧ ds.length ≤ 1000 then some (true, .lst (List.replicate n.toNat ds).flatten) else none := id rfl
@[simp] theorem y_ini : inX b (.int m) d = inD b (.int m) d := id rfl
@[simp] theorem y_toStrs {l : List Str} : toStrs (l.map PI.D.str) = some l := toStrs_map l
@[simp] theorem y_strs0 : toStrs [] = some [] := id rfl
@[simp] theorem y_strs1 : toStrs (.str x :: ds) = (toStrs ds).bind fun is => some (x :: is) := id rfl
@[simp] theorem y_inst : inX b (.str x) (.tup ds) = (toStrs ds).bind fun is => some (false, .bl (if b then !decide (x ∈ is) else decide (x ∈ is))) := id rfl
@[simp] theorem y_insl : inX b (.str x) (.lst ds) = (toStrs ds).bind fun is => some (false, .bl (if b then !decide (x ∈ is) else decide (x ∈ is))) := id rfl
@[simp] theorem y_inss {k : Nat} : inX b (.str (sgn k)) (.str z) = some (false, .bl (if b then !decide (k ∈ z.cps.toList) else decide (k ∈ z.cps.toList))) := id rfl
@[simp] theorem y_isb : isBD (.bl b) (.bl c) = some (false, .bl (decide (b = c))) := id rfl
@[simp] theorem y_str : strD (.int m) = if m.natAbs.log2 < 1920 then some (false, .str (strI m)) else none := id rfl
@[simp] theorem y_xi : intX (.int m) = some (false, .int m) := id rfl
@[simp] theorem y_xb : intX (.bl b) = some (false, .int (if b then 1 else 0)) := id rfl
@[simp] theorem y_xs : intX (.str x) = if x.length ≤ 640 then (PySem.intText? x).bind fun n => some (false, .int n) else none := id rfl
@[simp] theorem y_em {F : Str → List PI.D → Option W} : emN F a as env = (a.run env).bind fun r => (r.1.get r.2).bind fun d => match d with
  | .str z => (runs as r.2).bind fun s => (gets s.2 s.1).bind fun ds => (F z ds).bind fun w => some (w, s.2)
  | _ => none := id rfl
@[simp] theorem y_join1 : m_join z [.lst ds] = (toStrs ds).bind fun ys => if joinB z ys then some (false, .str (Txt.join z ys)) else none := id rfl
@[simp] theorem y_join2 : m_join z [.tup ds] = (toStrs ds).bind fun ys => if joinB z ys then some (false, .str (Txt.join z ys)) else none := id rfl
@[simp] theorem y_split : m_split z [.str x] = if (x.length == 0) = false ∧ z.length ≤ 10000000 then some (true, .lst ((Txt.split z x).map PI.D.str)) else none := id rfl
@[simp] theorem y_part : m_partition z [.str x] = if (x.length == 0) = false ∧ z.length ≤ 10000000 then some (false, .tup [.str (Txt.partition z x).1, .str (Txt.partition z x).2.1, .str (Txt.partition z x).2.2]) else none := id rfl
@[simp] theorem y_start : m_startswith z [.str x] = some (false, .bl (Txt.startswith z x)) := id rfl
@[simp] theorem y_find : m_find z [.str x, .int m] = some (false, .int (Txt.find3 z x m)) := id rfl
@[simp] theorem y_lens : lenD (.str x) = if x.length ≤ 10000000 then some (false, .int x.length) else none := id rfl
@[simp] theorem y_en : srcEn f env = (f env).bind fun r => (seqD r.1.2).bind fun ds => some (enD 0 ds, r.2) := id rfl
@[simp] theorem y_pick0 {α : Type} {ws : List α} : pick [] ws = [] := id rfl
@[simp] theorem y_pick1 {α : Type} {ws : List α} {is : List Nat} : pick (i :: is) ws = match ws[i]? with
  | some w => w :: pick is ws
  | none => pick is ws := by
  unfold pick
  rw [List.filterMap_cons]
  cases ws[i]? <;> rfl
theorem y_ss {ks : List (List Int)} (h : okSS ks = true) : ssD (.lst (ks.map fun k => PI.D.tup (zL k))) = some (true, .lst ((ssort ks).map fun k => PI.D.tup (zL k))) := by
  show ((toTups (ks.map fun k => PI.D.tup (zL k))).bind fun ks => if okSS ks then some (true, PI.D.lst ((ssort ks).map fun k => PI.D.tup (zL k))) else none) = _
  rw [toTups_map]
  show (if okSS ks then _ else _) = _
  rw [if_pos h]
end
theorem enc_str_lay {x : Str} (h : PyData.strOk x = true) : PyData.canLay0 (toPy (.str x)) = true := by
  show PyData.canLay0 (.str x) = true
  rw [PyData.canLay0]
  exact h
theorem strs_lay : ∀ {l : List Str}, (∀ x ∈ l, PyData.strOk x = true) → PyData.canLayAll0 (toPys (l.map PI.D.str)) = true ∧ PyData.depthAll (toPys (l.map PI.D.str)) ≤ 0
  | [], _ => ⟨rfl, Nat.le_refl _⟩
  | x :: l, h => by
    obtain ⟨h1, h2⟩ := strs_lay fun y hy => h y (List.mem_cons_of_mem _ hy)
    show PyData.canLayAll0 (toPy (.str x) :: toPys (l.map PI.D.str)) = true ∧ PyData.depthAll (toPy (.str x) :: toPys (l.map PI.D.str)) ≤ 0
    rw [PyData.canLayAll0, PyData.depthAll, h1, enc_str_lay (h x List.mem_cons_self)]
    refine ⟨rfl, Nat.max_le.mpr ⟨?_, h2⟩⟩
    show PyData.depth (.str x) ≤ 0
    rw [PyData.depth]
    exact Nat.le_refl _
theorem eqB_strs0 {l : List Str} (h : ∀ x ∈ l, PyData.strOk x = true) : eqB (.lst (l.map PI.D.str)) (.lst []) = some (decide (l = [])) := by
  obtain ⟨h1, h2⟩ := strs_lay h
  have s1 : SeqAt.shaped (toPy (.lst (l.map PI.D.str))) = true := shaped_of (by show PyData.canLay0 (.list _) = true; rw [PyData.canLay0]; exact h1) (by show PyData.depth (.list _) ≤ 64; rw [PyData.depth]; omega)
  have s2 : SeqAt.shaped (toPy (.lst [])) = true := by decide +kernel
  unfold eqB
  rw [show scD (.lst (l.map PI.D.str)) (.lst []) = none from rfl]
  dsimp only
  rw [s1, s2]
  cases l with
  | nil => rfl
  | cons x l => rfl
/-! ### texts of ascii signs, not too long -/
abbrev tl (x : Str) : List Nat := x.cps.toList
def OkS (n : Nat) (x : Str) : Prop := x.length ≤ n ∧ ∀ c ∈ tl x, c < 128
theorem OkS.mono {n m : Nat} {x : Str} (h : OkS n x) (hm : n ≤ m) : OkS m x := ⟨Nat.le_trans h.1 hm, h.2⟩
theorem OkS.strOk {n : Nat} {x : Str} (h : OkS n x) : PyData.strOk x = true := by
  unfold PyData.strOk
  rw [Array.all_eq_true_iff_forall_mem]
  intro c hc
  have := h.2 c (Array.mem_toList_iff.mpr hc)
  exact decide_eq_true (by omega)
theorem len_app (x y : Str) : (x ++ y).length = x.length + y.length := by
  rw [TL.len_tl, TL.tl_append, List.length_append, ← TL.len_tl, ← TL.len_tl]
theorem OkS.app {n m : Nat} {x y : Str} (h : OkS n x) (k : OkS m y) : OkS (n + m) (x ++ y) := by
  refine ⟨by rw [len_app]; exact Nat.add_le_add h.1 k.1, fun c hc => ?_⟩
  have e : tl (x ++ y) = tl x ++ tl y := TL.tl_append x y
  rw [e] at hc
  rcases List.mem_append.mp hc with hc | hc
  · exact h.2 c hc
  · exact k.2 c hc
theorem joinL_mem {c : Nat} {s : List Nat} : ∀ {ps : List (List Nat)}, c ∈ TL.joinL s ps → c ∈ s ∨ ∃ p ∈ ps, c ∈ p
  | [], h => by cases h
  | [p], h => .inr ⟨p, List.mem_cons_self, h⟩
  | p :: q :: ps, h => by
    have h : c ∈ p ++ (s ++ TL.joinL s (q :: ps)) := h
    rcases List.mem_append.mp h with h | h
    · exact .inr ⟨p, List.mem_cons_self, h⟩
    rcases List.mem_append.mp h with h | h
    · exact .inl h
    · rcases joinL_mem h with h | ⟨r, hr, h⟩
      · exact .inl h
      · exact .inr ⟨r, List.mem_cons_of_mem _ hr, h⟩
theorem joinL_len {s : List Nat} {n : Nat} : ∀ {ps : List (List Nat)}, (∀ p ∈ ps, p.length ≤ n) → (TL.joinL s ps).length ≤ ps.length * (n + s.length)
  | [], _ => Nat.zero_le _
  | [p], h => by
    show p.length ≤ 1 * (n + s.length)
    have := h p List.mem_cons_self
    omega
  | p :: q :: ps, h => by
    have ih := joinL_len (s := s) (ps := q :: ps) fun r hr => h r (List.mem_cons_of_mem _ hr)
    have h1 := h p List.mem_cons_self
    show (p ++ (s ++ TL.joinL s (q :: ps))).length ≤ (ps.length + 1 + 1) * (n + s.length)
    rw [List.length_append, List.length_append, Nat.add_mul]
    have e : (q :: ps).length = ps.length + 1 := rfl
    rw [e] at ih
    omega
theorem OkS.join {n k : Nat} {z : Str} {l : List Str} (hz : OkS k z) (h : ∀ x ∈ l, OkS n x) : OkS (l.length * (n + k)) (Txt.join z l) := by
  have e : tl (Txt.join z l) = TL.joinL (tl z) (l.map TL.tl) := by
    rw [TL.join_eq]
    exact TL.tl_join z l
  refine ⟨?_, fun c hc => ?_⟩
  · rw [TL.len_tl]
    show (tl (Txt.join z l)).length ≤ _
    rw [e]
    have h1 := joinL_len (s := tl z) (n := n) (ps := l.map TL.tl) fun p hp => by
      obtain ⟨x, hx, rfl⟩ := List.mem_map.mp hp
      have := (h x hx).1
      rw [TL.len_tl] at this
      exact this
    rw [List.length_map] at h1
    have h2 : (tl z).length ≤ k := by
      have := hz.1
      rw [TL.len_tl] at this
      exact this
    exact Nat.le_trans h1 (Nat.mul_le_mul_left _ (by omega))
  · rw [e] at hc
    rcases joinL_mem hc with hc | ⟨p, hp, hc⟩
    · exact hz.2 c hc
    · obtain ⟨x, hx, rfl⟩ := List.mem_map.mp hp
      exact (h x hx).2 c hc
theorem sum_le {n : Nat} : ∀ {l : List Nat}, (∀ x ∈ l, x ≤ n) → l.sum ≤ l.length * n
  | [], _ => Nat.zero_le _
  | x :: l, h => by
    have := sum_le fun y hy => h y (List.mem_cons_of_mem _ hy)
    have h1 := h x List.mem_cons_self
    rw [List.sum_cons, List.length_cons, Nat.add_mul]
    omega
theorem join_ok {n k : Nat} {z : Str} {l : List Str} (hz : OkS k z) (h : ∀ x ∈ l, OkS n x) (hb : l.length * (n + k) ≤ 16777216) : joinB z l = true := by
  refine decide_eq_true ?_
  have h1 := sum_le (n := n) (l := l.map (·.length)) fun y hy => by
    obtain ⟨x, hx, rfl⟩ := List.mem_map.mp hy
    exact (h x hx).1
  rw [List.length_map] at h1
  have h2 : l.length * z.length ≤ l.length * k := Nat.mul_le_mul_left _ hz.1
  rw [Nat.mul_add] at hb
  omega
theorem strI_nat (n : Nat) : tl (strI (n : Int)) = TL.numL n := TL.tl_num n
theorem strI_ok {i : Int} {k : Nat} (h0 : 0 ≤ i) (hk : 0 < k) (h : i < 10 ^ k) : OkS k (strI i) := by
  obtain ⟨n, rfl⟩ := Int.eq_ofNat_of_zero_le h0
  have hn : n < 10 ^ k := by exact_mod_cast h
  refine ⟨?_, fun c hc => ?_⟩
  · rw [TL.len_tl]
    show (tl (strI (n : Int))).length ≤ k
    rw [strI_nat]
    exact TL.numL_len hk hn
  · rw [strI_nat] at hc
    have := TL.numL_digits n c hc
    omega
end PI

namespace PI
open PySem PySem.Spec PyProof.Rows L2
-- K37a
/-- a loop: R of the state, of the items to come and of the names -/
theorem fl_fold {α β : Type} {T : TF} {f : SF} {d : α → PI.D} {st : β → α → β} (R : β → List α → PI.Env → Prop) (hs : ∀ s a r env, R s (a :: r) env → ∃ env', ((T (d a) env).bind f) = some (.nx, env') ∧ R (st s a) r env') :
    ∀ (l : List α) (s : β) (env : PI.Env), R s l env → ∃ env', fl T f (l.map d) env = some (.nx, env') ∧ R (l.foldl st s) [] env'
  | [], s, env, h => ⟨env, rfl, h⟩
  | a :: l, s, env, h => by
    obtain ⟨e1, h1, h2⟩ := hs s a l env h
    obtain ⟨e2, h3, h4⟩ := fl_fold R hs l (st s a) e1 h2
    refine ⟨e2, ?_, h4⟩
    show ((T (d a) env).bind fun e => (f e).bind fun s => match s.1 with
      | .nx => fl T f (l.map d) s.2
      | .ct => fl T f (l.map d) s.2
      | .bk => some (.nx, s.2)
      | .rt w => some (.rt w, s.2)) = _
    obtain ⟨e0, k1, k2⟩ := obind h1
    rw [k1]
    show (f e0).bind _ = _
    rw [k2]
    exact h3
theorem fl_foldZ {β : Type} {T : TF} {f : SF} {st : β → Int → β} (R : β → List Int → PI.Env → Prop) (hs : ∀ s a r env, R s (a :: r) env → ∃ env', ((T (.int a) env).bind f) = some (.nx, env') ∧ R (st s a) r env')
    (l : List Int) (s : β) (env : PI.Env) (h : R s l env) : ∃ env', fl T f (zL l) env = some (.nx, env') ∧ R (l.foldl st s) [] env' := fl_fold R hs l s env h
theorem wl_false {c : EF} {f : SF} {n : Nat} {env e : PI.Env} {fr : Bool} (h : c env = some ((fr, .bl false), e)) : wl c f (n + 1) env = some (.nx, e) := by
  show (c env).bind _ = _
  rw [h]
  rfl
theorem wl_true {c : EF} {f : SF} {n : Nat} {env e e' : PI.Env} {fr : Bool} (h : c env = some ((fr, .bl true), e)) (hf : f e = some (.nx, e')) : wl c f (n + 1) env = wl c f n e' := by
  show (c env).bind _ = _
  rw [h]
  show (f e).bind _ = _
  rw [hf]
  rfl

-- K37b
theorem fl_nx {T : TF} {f : SF} {d : PI.D} {ds : List PI.D} {env env' : PI.Env} (h : (T d env).bind f = some (.nx, env')) : fl T f (d :: ds) env = fl T f ds env' := by
  obtain ⟨e0, k1, k2⟩ := obind h
  show ((T d env).bind fun e => (f e).bind fun s => match s.1 with
    | .nx => fl T f ds s.2
    | .ct => fl T f ds s.2
    | .bk => some (.nx, s.2)
    | .rt w => some (.rt w, s.2)) = _
  rw [k1]
  show (f e0).bind _ = _
  rw [k2]
  rfl

-- K37d
theorem lcl_map {α : Type} {T : TF} {c f : EF} {vs : List Nat} {env : PI.Env} {enc g : α → PI.D} (hn : noOwn env vs = true) : ∀ (l : List α), (∀ a ∈ l, ∃ e1 fr e2 fr' e3, T (enc a) (wipeE env vs) = some e1 ∧ c e1 = some ((fr, .bl true), e2) ∧ f e2 = some ((fr', g a), e3) ∧ restE env e3 vs = env) → lcl T c f vs (l.map enc) env = some (l.map g, env)
  | [], _ => rfl
  | a :: l, h => by
    obtain ⟨e1, fr, e2, fr', e3, h1, h2, h3, h4⟩ := h a List.mem_cons_self
    have ih := lcl_map (g := g) hn l fun b hb => h b (List.mem_cons_of_mem _ hb)
    show lcl T c f vs (enc a :: l.map enc) env = _
    unfold lcl
    rw [hn]
    dsimp only
    rw [h1]
    show (c e1).bind _ = _
    rw [h2]
    show (f e2).bind _ = _
    rw [h3]
    show (lcl T c f vs (l.map enc) (restE env e3 vs)).bind _ = _
    rw [h4, ih]
    rfl
theorem lcl_filter {α : Type} {T : TF} {c f : EF} {vs : List Nat} {env : PI.Env} {enc g : α → PI.D} {p : α → Bool} (hn : noOwn env vs = true) : ∀ (l : List α), (∀ a ∈ l, ∃ e1 fr e2, T (enc a) (wipeE env vs) = some e1 ∧ c e1 = some ((fr, .bl (p a)), e2) ∧ restE env e2 vs = env ∧ (p a = true → ∃ fr' e3, f e2 = some ((fr', g a), e3) ∧ restE env e3 vs = env)) → lcl T c f vs (l.map enc) env = some ((l.filter p).map g, env)
  | [], _ => rfl
  | a :: l, h => by
    obtain ⟨e1, fr, e2, h1, h2, h3, h4⟩ := h a List.mem_cons_self
    have ih := lcl_filter (g := g) (p := p) hn l fun b hb => h b (List.mem_cons_of_mem _ hb)
    show lcl T c f vs (enc a :: l.map enc) env = _
    unfold lcl
    rw [hn]
    dsimp only
    rw [h1]
    show (c e1).bind _ = _
    rw [h2]
    cases hp : p a with
    | true =>
      obtain ⟨fr', e3, h5, h6⟩ := h4 hp
      show (f e2).bind _ = _
      rw [h5]
      show (lcl T c f vs (l.map enc) (restE env e3 vs)).bind _ = _
      rw [h6, ih, List.filter_cons_of_pos hp]
      rfl
    | false =>
      show lcl T c f vs (l.map enc) (restE env e2 vs) = _
      rw [h3, ih, List.filter_cons_of_neg (by simp [hp])]
/-- 1, 2, .., n -/
def rng (n : Nat) : List Int := (List.range n).map fun (i : Nat) => (1 : Int) + (i : Int)
theorem rng_len (n : Nat) : (rng n).length = n := by simp [rng]
theorem rng_sorted (n : Nat) : (rng n).Pairwise (· < ·) := by
  unfold rng
  rw [List.pairwise_map]
  exact List.pairwise_lt_range.imp fun h => by omega
theorem rng_nodup (n : Nat) : (rng n).Nodup := (rng_sorted n).imp fun h => by omega
theorem rgD_rng (t : Bool) (n : Nat) (h : n ≤ 1000000) : rgD t (.int 1) (.int ((n : Int) + 1)) = some (if t then (false, .tup (zL (rng n))) else (true, .lst (zL (rng n)))) := by
  have e : ((n : Int) + 1 - 1).toNat = n := by omega
  unfold rgD
  dsimp only
  rw [if_pos ⟨by decide, by decide, by omega, by omega, by rw [e]; exact h⟩, e, z_range]
  cases t <;> rfl
theorem isort_rng {os : List Int} {n : Nat} (h : os.Perm (rng n)) : isort os = rng n := (isort_of h.symm ((rng_sorted n).imp fun h => Int.le_of_lt h)).symm

-- K37e
theorem mul_ok {a b : Int} (h1 : bts a ≤ 1048576) (hb : b.natAbs < 2 ^ 100) : mulB a b = true := by
  have h2 : bts b ≤ 100 := PyProof.Rows.intBits_le hb
  exact decide_eq_true (by omega)
theorem small_lt {a : Int} (h : a.natAbs < 2 ^ 100) {n : Nat} (hn : 100 ≤ n) : a.natAbs < 2 ^ n := Nat.lt_of_lt_of_le h (Nat.pow_le_pow_right (by decide) hn)
theorem mul_small {a b : Int} (ha : a.natAbs < 2 ^ 100) (hb : b.natAbs < 2 ^ 100) : mulB a b = true := mul_ok (Nat.le_trans (PyProof.Rows.intBits_le ha) (by decide)) hb
theorem pow_small {a : Int} (n : Int) (ha : a.natAbs < 2 ^ 100) (h0 : 0 ≤ n) (hn : n ≤ 1000) : powB a n = true := by
  have h1 : bts a ≤ 100 := PyProof.Rows.intBits_le ha
  have h2 : (bts a : Int) * n ≤ 100 * 1000 := Int.mul_le_mul (by omega) (by omega) (by omega) (by omega)
  have h3 : 0 ≤ n ∧ (bts a : Int) * n ≤ 134217728 := ⟨by omega, by omega⟩
  unfold powB
  exact decide_eq_true h3
theorem pow3 {a : Int} (ha : a.natAbs < 2 ^ 100) : powB a 3 = true := pow_small 3 ha (by decide) (by decide)
theorem pow2 {a : Int} (ha : a.natAbs < 2 ^ 100) : powB a 2 = true := pow_small 2 ha (by decide) (by decide)
theorem div_small {a b : Int} (h0 : 0 < b) (hb : b.natAbs < 2 ^ 100) : divB a b = true := decide_eq_true ⟨h0, Nat.le_trans (PyProof.Rows.intBits_le hb) (by decide)⟩
theorem mod_ok {a b : Int} (h0 : 0 < b) : modB a b = true := decide_eq_true h0
theorem srcR1_nat {f : EF} {env env' : PI.Env} {fr : Bool} {n : Nat} (h : f env = some ((fr, .int (n : Int)), env')) (hn : n < 1000000) : srcR1 f env = some (rangeD 0 n, env') := by
  have b1 : (n : Int) < 4611686018427387904 := by omega
  have b2 : -4611686018427387904 ≤ (n : Int) := by omega
  simp -implicitDefEqProofs [h, b1, b2]

-- K37f
theorem zL_erase : ∀ (l : List Int) (i : Nat), (zL l).eraseIdx i = zL (l.eraseIdx i)
  | [], i => by cases i <;> rfl
  | x :: l, 0 => rfl
  | x :: l, i + 1 => by
    show PI.D.int x :: (zL l).eraseIdx i = PI.D.int x :: zL (l.eraseIdx i)
    rw [zL_erase l i]
theorem erase_perm : ∀ {l : List Int} {i : Nat} {x : Int}, l[i]? = some x → (x :: l.eraseIdx i).Perm l
  | [], i, x, h => by simp at h
  | y :: l, 0, x, h => by
    have e : y = x := Option.some.inj h
    rw [e]
    exact .refl _
  | y :: l, i + 1, x, h => by
    have h : l[i]? = some x := h
    show (x :: y :: l.eraseIdx i).Perm _
    exact (List.Perm.swap y x _).trans ((erase_perm h).cons y)
theorem seq_ix {r : Int} {n : Nat} (h1 : 0 ≤ r) (h2 : r < n) : seqIndex? r n = some r.toNat := by
  have h3 : ¬ r < 0 := by omega
  simp [seqIndex?, h1, h2, h3]
theorem ixN_at {r : Int} {n : Nat} (h1 : 0 ≤ r) (h2 : r < n) : ixN n r = some r.toNat := by
  unfold ixN
  rw [if_pos h1, if_pos h2]
theorem at_int {α : Type} {l : List α} {r : Int} (h1 : 0 ≤ r) (h2 : r < l.length) : atI l r = l[r.toNat]? := by
  unfold atI
  rw [ixN_at h1 h2]
  rfl

-- K37g
theorem fl_inv {α : Type} {T : TF} {f : SF} {d : α → PI.D} (R : List α → PI.Env → Prop) (hs : ∀ a r env, R (a :: r) env → ∃ env', ((T (d a) env).bind f) = some (.nx, env') ∧ R r env') (l : List α) (env : PI.Env) (h : R l env) : ∃ env', fl T f (l.map d) env = some (.nx, env') ∧ R [] env' :=
  fl_fold (st := fun (_ : Unit) _ => ()) (fun _ r env => R r env) (fun _ a r env h => hs a r env h) l () env h
theorem fl_invZ {T : TF} {f : SF} (R : List Int → PI.Env → Prop) (hs : ∀ a r env, R (a :: r) env → ∃ env', ((T (.int a) env).bind f) = some (.nx, env') ∧ R r env') (l : List Int) (env : PI.Env) (h : R l env) : ∃ env', fl T f (zL l) env = some (.nx, env') ∧ R [] env' := fl_inv R hs l env h
theorem fl_range {T : TF} {f : SF} (n : Nat) (R : List Int → PI.Env → Prop) (hs : ∀ a r env, R (a :: r) env → ∃ env', ((T (.int a) env).bind f) = some (.nx, env') ∧ R r env') (env : PI.Env) (h : ∀ l : List Int, l.length = n → (∀ i ∈ l, 0 ≤ i ∧ i < n) → R l env) : ∃ env', fl T f (rangeD 0 n) env = some (.nx, env') ∧ R [] env' := by
  rw [z_range]
  refine fl_invZ R hs _ env (h _ (by simp) fun i hi => ?_)
  obtain ⟨j, h1, rfl⟩ := List.mem_map.mp hi
  have := List.mem_range.mp h1
  omega

-- Shows
theorem ePop_at {env : PI.Env} {i : Nat} {A : List PI.D} {d : PI.D} (h : env[i]? = some (some (true, .lst (A ++ [d])))) : ePop i env = some ((false, d), env.set i (some (true, .lst A))) := by
  unfold ePop
  rw [h]
  dsimp only
  have e : (A ++ [d])[(A ++ [d]).length - 1]? = some d := by simp
  rw [e]
  simp

-- Shows2
theorem wl_ret {c : EF} {f : SF} {n : Nat} {env e e' : PI.Env} {fr : Bool} {w : W} (h : c env = some ((fr, .bl true), e)) (hf : f e = some (.rt w, e')) : wl c f (n + 1) env = some (.rt w, e') := by
  show (c env).bind _ = _
  rw [h]
  show (f e).bind _ = _
  rw [hf]
  rfl
theorem srcR2_nat {f g : EF} {env e1 e2 : PI.Env} {a b : Bool} {i j : Int} (h : f env = some ((a, .int i), e1)) (h2 : g e1 = some ((b, .int j), e2)) (hi : -1000000 < i ∧ i < 1000000) (hj : -1000000 < j ∧ j < 1000000) : srcR2 f g env = some (rangeD i (j - i).toNat, e2) := by
  have b1 : -4611686018427387904 ≤ i := by omega
  have b2 : i < 4611686018427387904 := by omega
  have b3 : -4611686018427387904 ≤ j := by omega
  have b4 : j < 4611686018427387904 := by omega
  simp -implicitDefEqProofs [h, h2, b1, b2, b3, b4]

/-- a loop that keeps an invariant of the number of turns -/
theorem fl_keep {T : TF} {f : SF} (R : Nat → PI.Env → Prop) : ∀ (ds : List PI.D) (i : Nat) (env : PI.Env), (∀ j d env, ds[j]? = some d → R (i + j) env → ∃ env', ((T d env).bind f) = some (.nx, env') ∧ R (i + j + 1) env') → R i env → ∃ env', fl T f ds env = some (.nx, env') ∧ R (i + ds.length) env'
  | [], i, env, _, h => ⟨env, rfl, h⟩
  | d :: ds, i, env, hs, h => by
    obtain ⟨e1, h1, h2⟩ := hs 0 d env rfl h
    obtain ⟨e2, h3, h4⟩ := fl_keep R ds (i + 1) e1 (fun j d' env hd hr => by
      have e : i + 1 + j = i + (j + 1) := by omega
      rw [e] at hr ⊢
      exact hs (j + 1) d' env hd hr) h2
    refine ⟨e2, ?_, by
      have e : i + (ds.length + 1) = i + 1 + ds.length := by omega
      rw [List.length_cons, e]
      exact h4⟩
    show ((T d env).bind fun e => (f e).bind fun s => match s.1 with
      | .nx => fl T f ds s.2
      | .ct => fl T f ds s.2
      | .bk => some (.nx, s.2)
      | .rt w => some (.rt w, s.2)) = _
    obtain ⟨e0, k1, k2⟩ := obind h1
    rw [k1]
    show (f e0).bind _ = _
    rw [k2]
    exact h3

theorem div_bits {a b : Int} (h0 : 0 < b) (hb : bts b ≤ 8000) : divB a b = true := decide_eq_true ⟨h0, hb⟩

theorem bts_small {b : Int} (hb : b.natAbs < 2 ^ 100) : bts b ≤ 8000 := Nat.le_trans (PyProof.Rows.intBits_le hb) (by decide)

/-- one of a list -/
theorem at_mem {α : Type} {l : List α} {r : Int} {n : Nat} (h1 : 0 ≤ r) (h2 : r < n) (hn : l.length = n) : ∃ x, atI l r = some x ∧ x ∈ l := by
  have h3 : r.toNat < l.length := by omega
  exact ⟨l[r.toNat], by rw [at_int h1 (by omega), List.getElem?_eq_getElem h3], List.getElem_mem h3⟩

theorem rng_mem {n : Nat} {x : Int} : x ∈ rng n ↔ 1 ≤ x ∧ x ≤ n := by
  unfold rng
  rw [List.mem_map]
  constructor
  · rintro ⟨i, hi, rfl⟩
    have := List.mem_range.mp hi
    omega
  · intro h
    exact ⟨(x - 1).toNat, List.mem_range.mpr (by omega), by omega⟩

theorem lcl_keep {T : TF} {c f : EF} {vs : List Nat} (R : Nat → List PI.D → PI.Env → Prop) : ∀ (ds : List PI.D) (i : Nat) (acc : List PI.D) (env : PI.Env),
    (∀ j d acc env, ds[j]? = some d → R (i + j) acc env → noOwn env vs = true ∧ ∃ e1 fr b e2, T d (wipeE env vs) = some e1 ∧ c e1 = some ((fr, .bl b), e2) ∧ (b = true → ∃ fr' x e3, f e2 = some ((fr', x), e3) ∧ R (i + j + 1) (acc ++ [x]) (restE env e3 vs)) ∧ (b = false → R (i + j + 1) acc (restE env e2 vs))) →
    R i acc env → ∃ out env', lcl T c f vs ds env = some (out, env') ∧ R (i + ds.length) (acc ++ out) env'
  | [], i, acc, env, _, h => ⟨[], env, rfl, by simpa using h⟩
  | d :: ds, i, acc, env, hs, h => by
    obtain ⟨hn, e1, fr, b, e2, h1, h2, h3, h4⟩ := hs 0 d acc env rfl h
    have nx : ∀ acc' env', R (i + 1) acc' env' → ∃ out e, lcl T c f vs ds env' = some (out, e) ∧ R (i + 1 + ds.length) (acc' ++ out) e := fun acc' env' hr => lcl_keep R ds (i + 1) acc' env' (fun j d' a env hd hr => by
      have e : i + 1 + j = i + (j + 1) := by omega
      rw [e] at hr ⊢
      exact hs (j + 1) d' a env hd hr) hr
    have el : i + (d :: ds).length = i + 1 + ds.length := by rw [List.length_cons]; omega
    rw [el]
    unfold lcl
    rw [hn]
    dsimp only
    rw [h1]
    show ∃ out env', (c e1).bind _ = some (out, env') ∧ _
    rw [h2]
    cases b with
    | true =>
      obtain ⟨fr', x, e3, h5, h6⟩ := h3 rfl
      obtain ⟨out, e, g1, g2⟩ := nx _ _ h6
      refine ⟨x :: out, e, ?_, by simpa using g2⟩
      show (f e2).bind _ = _
      rw [h5]
      show (lcl T c f vs ds (restE env e3 vs)).bind _ = _
      rw [g1]
      rfl
    | false =>
      obtain ⟨out, e, g1, g2⟩ := nx _ _ (h4 rfl)
      exact ⟨out, e, g1, g2⟩
end PI

namespace PI
open PySem PySem.Spec PyProof.Rows L2
/-! ### data that can be compared -/
structure LayD (n : Nat) (d : PI.D) : Prop where
  lay : PyData.canLay0 (toPy d) = true
  dep : PyData.depth (toPy d) ≤ n
theorem LayD.mono {n m : Nat} {d : PI.D} (h : LayD n d) (hm : n ≤ m) : LayD m d := ⟨h.lay, Nat.le_trans h.dep hm⟩
theorem lay_all {n : Nat} : ∀ {ds : List PI.D}, (∀ d ∈ ds, LayD n d) → PyData.canLayAll0 (toPys ds) = true ∧ PyData.depthAll (toPys ds) ≤ n
  | [], _ => ⟨rfl, Nat.zero_le _⟩
  | d :: ds, h => by
    obtain ⟨h1, h2⟩ := lay_all fun e he => h e (List.mem_cons_of_mem _ he)
    obtain ⟨h3, h4⟩ := h d List.mem_cons_self
    show PyData.canLayAll0 (toPy d :: toPys ds) = true ∧ PyData.depthAll (toPy d :: toPys ds) ≤ n
    rw [PyData.canLayAll0, PyData.depthAll, h1, h3]
    exact ⟨rfl, Nat.max_le.mpr ⟨h4, h2⟩⟩
theorem lay_lst {n : Nat} {ds : List PI.D} (h : ∀ d ∈ ds, LayD n d) : LayD (n + 1) (.lst ds) := by
  obtain ⟨h1, h2⟩ := lay_all h
  exact ⟨by show PyData.canLay0 (.list _) = true; rw [PyData.canLay0]; exact h1, by show PyData.depth (.list _) ≤ n + 1; rw [PyData.depth]; omega⟩
theorem lay_tup {n : Nat} {ds : List PI.D} (h : ∀ d ∈ ds, LayD n d) : LayD (n + 1) (.tup ds) := by
  obtain ⟨h1, h2⟩ := lay_all h
  exact ⟨by show PyData.canLay0 (.tuple _) = true; rw [PyData.canLay0]; exact h1, by show PyData.depth (.tuple _) ≤ n + 1; rw [PyData.depth]; omega⟩
theorem lay_str {n : Nat} {x : Str} (h : PyData.strOk x = true) : LayD n (.str x) := ⟨enc_str_lay h, by show PyData.depth (.str x) ≤ n; rw [PyData.depth]; omega⟩
theorem lay_int {n : Nat} (i : Int) : LayD n (.int i) := ⟨enc_int.lay i, Nat.le_trans (enc_int.dep i) (Nat.zero_le _)⟩
theorem lay_bl {n : Nat} (b : Bool) : LayD n (.bl b) := ⟨enc_bl.lay b, Nat.le_trans (enc_bl.dep b) (Nat.zero_le _)⟩
theorem lay_ints (l : List Int) : LayD 1 (.tup (zL l)) := lay_tup fun d hd => by
  obtain ⟨i, _, rfl⟩ := List.mem_map.mp hd
  exact lay_int i
theorem LayD.shaped {n : Nat} {d : PI.D} (h : LayD n d) (hn : n ≤ 64) : SeqAt.shaped (toPy d) = true := shaped_of h.lay (Nat.le_trans h.dep hn)
theorem eqB_l0 {n : Nat} {ds : List PI.D} (h : ∀ d ∈ ds, LayD n d) (hn : n ≤ 60) : eqB (.lst ds) (.lst []) = some (decide (ds = [])) := by
  have s1 := (lay_lst h).shaped (by omega)
  have s2 : SeqAt.shaped (toPy (.lst [])) = true := by decide +kernel
  unfold eqB
  rw [show scD (.lst ds) (.lst []) = none from rfl]
  dsimp only
  rw [s1, s2]
  cases ds with
  | nil => rfl
  | cons x l => rfl
theorem eqB_t0 {n : Nat} {ds : List PI.D} (h : ∀ d ∈ ds, LayD n d) (hn : n ≤ 60) : eqB (.tup ds) (.tup []) = some (decide (ds = [])) := by
  have s1 := (lay_tup h).shaped (by omega)
  have s2 : SeqAt.shaped (toPy (.tup [])) = true := by decide +kernel
  unfold eqB
  rw [show scD (.tup ds) (.tup []) = none from rfl]
  dsimp only
  rw [s1, s2]
  cases ds with
  | nil => rfl
  | cons x l => rfl
theorem ne_l0 {n : Nat} {ds : List PI.D} (h : ∀ d ∈ ds, LayD n d) (hn : n ≤ 60) : neD (.lst ds) (.lst []) = some (false, .bl (!decide (ds = []))) := by
  rw [q_ne, eqB_l0 h hn]
  rfl
theorem eq_l0 {n : Nat} {ds : List PI.D} (h : ∀ d ∈ ds, LayD n d) (hn : n ≤ 60) : eqD (.lst ds) (.lst []) = some (false, .bl (decide (ds = []))) := by
  rw [q_eq, eqB_l0 h hn]
  rfl
theorem ne_t0 {n : Nat} {ds : List PI.D} (h : ∀ d ∈ ds, LayD n d) (hn : n ≤ 60) : neD (.tup ds) (.tup []) = some (false, .bl (!decide (ds = []))) := by
  rw [q_ne, eqB_t0 h hn]
  rfl
theorem eq_t0 {n : Nat} {ds : List PI.D} (h : ∀ d ∈ ds, LayD n d) (hn : n ≤ 60) : eqD (.tup ds) (.tup []) = some (false, .bl (decide (ds = []))) := by
  rw [q_eq, eqB_t0 h hn]
  rfl
end PI

namespace PI
open PySem PySem.Spec PyProof.Rows L2
/-! ### dicts whose keys are tuples of ints -/
/-- the dict at a, its keys tracked -/
def DXt (K : PySem.W.Frag) (H : Hp) (a : Addr) (xs : List (List Int × Addr × Value)) : Prop := H a = some (.ext (dicO a xs)) ∧ ∀ x ∈ xs, SqT K H x.2.1 (x.1.map V.int)
section
variable {X : Cx} {pins : List (Addr × Obj)} {σ : L2.St} {H : Hp} {s : Shared} {a b : Addr} {xs : List (List Int × Addr × Value)} {k : List Int} {v : V} {u r : Value} {A : Around} {E : Value → Shared → Prop}
theorem items_ints {prog : Program} {w : World} : ∀ {ks : List Int} {its : List Value}, Vals (ks.map V.int) its → ItemsAre (intKind prog w) ks its
  | [], _, .nil => .nil
  | k :: ks, _, .cons r t => by
    obtain ⟨t', rfl⟩ := r
    exact .cons (by show Value.isInt k (.int k t') = true; simp [Value.isInt]) (items_ints t)
theorem keyI_of (I : Inv X pins σ H s) (h : SqT X.K H b (k.map V.int)) : (tupleKind (intKind X.prog X.w)).is s.heap k b := by
  obtain ⟨its, r, ⟨o, h1, h2, n, h3⟩, _⟩ := I.tuple h
  exact ⟨o, its.toArray, n, h1, h2, h3, by simpa using items_ints r⟩
theorem dxt_of (I : Inv X pins σ H s) (d : DXt X.K H a xs) : (a == sysModules) = false ∧ xs.length ≤ sizeLine ∧ s.heap.DictOfH (tupleKind (intKind X.prog X.w)) a xs := by
  obtain ⟨⟨h1, h2, h3, o, es, ep, g1, g2, g3, g4⟩, _⟩ := I.hok a _ d.1
  exact ⟨h1, h2, o, es, ep, g1, g2, g3, g4, fun x hx => keyI_of I (d.2 x hx), h3⟩
/-- such a dict in the heap is one of the abstract heap -/
theorem dxt_new {P : Program} {w : World} {H' : Hp} {h' : Heap} (h1 : (a == sysModules) = false) (h2 : xs.length ≤ sizeLine) (dd : h'.DictOfH (tupleKind (intKind P w)) a xs) : ObjOk P w H' h' a (.ext (dicO a xs)) := by
  obtain ⟨o, es, ep, g1, g2, g3, g4, _, g5⟩ := dd
  refine ⟨⟨h1, h2, g5, o, es, ep, g1, g2, g3, g4⟩, ⟨o, g1⟩, fun u1 u2 ⟨z1, z2, z3, o', es', ep', y1, y2, y3, y4⟩ k => ⟨z1, z2, z3, o', es', ep', k _ y1, y2, y3, y4⟩⟩
theorem atKey_some {xs : List (List Int × Addr × Value)} {k : List Int} : (atKey xs k).isSome = decide (k ∈ xs.map (·.1)) := by
  induction xs with
  | nil => rfl
  | cons x xs ih =>
    unfold atKey at ih ⊢
    rw [List.find?_cons]
    by_cases c : x.1 = k
    · simp [c]
    · have c' : ¬ k = x.1 := fun e => c e.symm
      rw [decide_eq_false c]
      simp only [List.map_cons, List.mem_cons, c', false_or]
      rw [← ih]
def rInT (K : PySem.W.Frag) (neg : Bool) : R2 := fun x y H Q => ∃ b a xs k, x = .ref b ∧ y = .ref a ∧ DXt K H a xs ∧ SqT K H b (k.map V.int) ∧ Q (.bl (if neg then !decide (k ∈ xs.map (·.1)) else decide (k ∈ xs.map (·.1)))) H
theorem op_inT (hu : X.A.units + 64 < cLine) : L2.OpR X (compareOp .In) (rInT X.K false) := by
  intro pins s σ H x y v u Q I rx ry h
  obtain ⟨b, a, xs, k, rfl, rfl, d, hk, q⟩ := h
  cases rx
  cases ry
  obtain ⟨h1, h2, dd⟩ := dxt_of I d
  refine wpAny_in_heap (tupleKind_room_in1 (by omega)) (keyI_of I hk) h1 dd ?_
  rw [atKey_some]
  exact ⟨.bl _, H, I.tok _, rfl, q⟩
theorem op_notInT (hu : X.A.units + 64 < cLine) : L2.OpR X (compareOp .NotIn) (rInT X.K true) := by
  intro pins s σ H x y v u Q I rx ry h
  obtain ⟨b, a, xs, k, rfl, rfl, d, hk, q⟩ := h
  cases rx
  cases ry
  obtain ⟨h1, h2, dd⟩ := dxt_of I d
  refine wpAny_notIn_heap (tupleKind_room_in1 (by omega)) (keyI_of I hk) h1 dd ?_
  rw [atKey_some]
  exact ⟨.bl _, H, I.tok _, rfl, q⟩
/-! ### d[k], d[k] = v -/
def putX (xs : List (List Int × Addr × Value)) (k : List Int) (b : Addr) (r : Value) : List (List Int × Addr × Value) := storedH xs k b r
def rSetT (K : PySem.W.Frag) : TSet := fun o i v H Q => ∃ a b xs k, o = .ref a ∧ i = .ref b ∧ DXt K H a xs ∧ SqT K H b (k.map V.int) ∧ xs.length < sizeLine ∧
  ∀ r, RelV v r → Q (upd H a (.ext (dicO a (putX xs k b r))))
theorem storedH_le (xs : List (List Int × Addr × Value)) (k : List Int) (b : Addr) (r : Value) : (storedH xs k b r).length ≤ xs.length + 1 := by
  unfold storedH
  split
  · rw [List.length_map]
    exact Nat.le_succ _
  · rw [List.length_append]
    exact Nat.le_refl _
theorem d_putT {Q : Unit → Shared → Prop} (hu : A.units + 1 < cLine) (I : Inv X pins σ H s) (d : DXt X.K H a xs) (hk : SqT X.K H b (k.map V.int)) (hl : xs.length < sizeLine) (h : ∀ s', Inv X pins σ (upd H a (.ext (dicO a (putX xs k b r)))) s' → Q () s') :
    wpAny (model X.prog X.w) A (setItem (.ref a) (.ref b) r) Q E s := by
  obtain ⟨h1, h2, dd⟩ := dxt_of I d
  refine wpAny_setItem_heap (hsz := h2) (tupleKind_room_in1 hu) (keyI_of I hk) dd fun h' dd' hs => h _ ?_
  have he : ∃ q, h'.get? a = some q := by
    obtain ⟨q, _, _, hq, _⟩ := dd'
    exact ⟨q, hq⟩
  exact d_write I (by rw [d.1]; exact True.intro) hs he (dxt_new h1 (Nat.le_trans (storedH_le xs k b r) hl) dd')
theorem set_dicT (hu : X.A.units + 1 < cLine) : PSet X (rSetT X.K) := by
  intro pins s σ H o i v ov iv u Q I ro ri rv h
  obtain ⟨a, b, xs, k, rfl, rfl, d, hk, hl, q⟩ := h
  cases ro
  cases ri
  exact d_putT hu I d hk hl fun s' I' => ⟨_, I', q _ rv⟩
end
/-! ### the same by values -/
theorem RepAll.split {K : PySem.W.Frag} {S : Addr → Prop} {H : Hp} : ∀ {vs us : List V} {ds es : List PI.D}, RepAll K S H (vs ++ us) (ds ++ es) → vs.length = ds.length → RepAll K S H vs ds ∧ RepAll K S H us es
  | [], us, [], es, h, _ => ⟨.nil, h⟩
  | [], us, _ :: _, es, h, l => by cases l
  | _ :: _, us, [], es, h, l => by cases l
  | v :: vs, us, d :: ds, es, .cons r t, l => by
    obtain ⟨a, b⟩ := RepAll.split t (Nat.succ.inj l)
    exact ⟨.cons r a, b⟩
/-- the keys of such a dict -/
def keysD (xs : List (List Int × Addr × Value)) : List PI.D := xs.map fun x => .tup (x.1.map PI.D.int)
theorem toTups_keys (xs : List (List Int × Addr × Value)) : toTups (keysD xs) = some (xs.map (·.1)) := by
  have h := toTups_map (xs.map (·.1))
  rw [List.map_map] at h
  exact h
theorem keys_sq {K : PySem.W.Frag} {S : Addr → Prop} {H : Hp} : ∀ {xs : List (List Int × Addr × Value)}, RepAll K S H (xs.map fun x => V.ref x.2.1) (keysD xs) → ∀ x ∈ xs, SqT K H x.2.1 (x.1.map V.int)
  | [], _, x, h => (nomatch h)
  | y :: ys, .cons r t, x, h => by
    rcases List.mem_cons.mp h with rfl | h
    · obtain ⟨a, vs, e, h1, h2⟩ := r.tupD
      cases e
      have e := h2.of_ints
      subst e
      exact h1.sq
    · exact keys_sq t x h
theorem dct_of {K : PySem.W.Frag} {S : Addr → Prop} {H : Hp} {a : Addr} {o : HO} {vs : List V} {ds ks es : List PI.D} (c : Cnt a o vs ds (.dct ks es)) (h : H a = some o) (r : RepAll K S H vs ds) :
    ∃ xs us, DXt K H a xs ∧ o = .ext (dicO a xs) ∧ ks = keysD xs ∧ (xs.map (·.1)).Nodup ∧ Vals us (xs.map (·.2.2)) ∧ RepAll K S H (xs.map fun x => V.ref x.2.1) (keysD xs) ∧ RepAll K S H us es := by
  cases c with
  | dt nd hv =>
    obtain ⟨r1, r2⟩ := r.split (by rw [List.length_map, List.length_map])
    exact ⟨_, _, ⟨h, keys_sq r1⟩, rfl, rfl, nd, hv, r1, r2⟩
theorem View.dctX {K : PySem.W.Frag} {S : Addr → Prop} {H : Hp} {v : V} {ks es : List PI.D} (h : View K S H v (.dct ks es)) :
    ∃ a xs us, v = .ref a ∧ DXt K H a xs ∧ ks = keysD xs ∧ Vals us (xs.map (·.2.2)) ∧ RepAll K S H us es := by
  obtain ⟨a, o, vs, ds, e, c, h1, h2⟩ := h.dct
  obtain ⟨xs, us, d, _, hk, _, hv, _, r⟩ := dct_of c h1 h2
  exact ⟨a, xs, us, e, d, hk, hv, r⟩
theorem View.keyD {K : PySem.W.Frag} {S : Addr → Prop} {H : Hp} {v : V} {ds : List PI.D} {k : List Int} (h : View K S H v (.tup ds)) (hk : toInts ds = some k) : ∃ b, v = .ref b ∧ SqT K H b (k.map V.int) := by
  obtain ⟨b, vs, e, h1, h2⟩ := h.tupD
  rw [toInts_ok hk] at h2
  have e2 := h2.of_ints
  subst e2
  exact ⟨b, e, h1.sq⟩
/-- k in d -/
def inDct (neg : Bool) : PI.D → PI.D → Option W
  | .tup ds, .dct ks _ => (toInts ds).bind fun k => (toTups ks).bind fun K => some (false, .bl (if neg then !decide (k ∈ K) else decide (k ∈ K)))
  | _, _ => none
theorem p_inDct {K : PySem.W.Frag} {neg : Bool} : P2Ok K (rInT K neg) (inDct neg) := fun S H x y d e w Q hS hx hy hf q => by
  cases d with
  | tup ds =>
    cases e with
    | dct ks es =>
      obtain ⟨k, h1, hf⟩ := obind hf
      obtain ⟨L, h2, hf⟩ := obind hf
      cases hf
      obtain ⟨b, e1, hb⟩ := hx.keyD h1
      obtain ⟨a, xs, us, e2, dx, hk, _, _⟩ := hy.dctX
      subst hk
      rw [toTups_keys] at h2
      cases h2
      exact ⟨b, a, xs, k, e1, e2, dx, hb, q _ H (made_bl _)⟩
    | _ => cases hf
  | _ => cases hf
/-- the place of a key -/
def kIx (k : List Int) : List (List Int) → Nat
  | [] => 0
  | x :: xs => if x = k then 0 else kIx k xs + 1
theorem kIx_le (k : List Int) : ∀ xs : List (List Int), kIx k xs ≤ xs.length
  | [] => Nat.le_refl _
  | x :: xs => by
    unfold kIx
    have := kIx_le k xs
    split
    · exact Nat.zero_le _
    · rw [List.length_cons]
      omega
def dctPut (ks es : List PI.D) (K : List (List Int)) (k : List Int) (v : PI.D) : PI.D := if k ∈ K then .dct ks (es.set (kIx k K) v) else .dct (ks ++ [.tup (k.map PI.D.int)]) (es ++ [v])
theorem put_old {k : List Int} {r : Value} : ∀ {xs : List (List Int × Addr × Value)}, (xs.map (·.1)).Nodup → (xs.map (putAt k r)).map (·.2.2) = (xs.map (·.2.2)).set (kIx k (xs.map (·.1))) r
  | [], _ => rfl
  | x :: xs, nd => by
    rw [List.map_cons, List.nodup_cons] at nd
    have ih := put_old (k := k) (r := r) nd.2
    rw [List.map_cons, List.map_cons, List.map_cons, List.map_cons]
    by_cases c : x.1 = k
    · rw [putAt, if_pos c, map_putAt_of_not_mem xs k r (by rw [← c]; exact nd.1)]
      show _ = (x.2.2 :: xs.map (·.2.2)).set (if x.1 = k then 0 else kIx k (xs.map (·.1)) + 1) r
      rw [if_pos c]
      rfl
    · rw [putAt, if_neg c, ih]
      show _ = (x.2.2 :: xs.map (·.2.2)).set (if x.1 = k then 0 else kIx k (xs.map (·.1)) + 1) r
      rw [if_neg c]
      rfl
theorem put_refs {k : List Int} {r : Value} (xs : List (List Int × Addr × Value)) : (xs.map (putAt k r)).map (fun x => V.ref x.2.1) = xs.map (fun x => V.ref x.2.1) ∧ keysD (xs.map (putAt k r)) = keysD xs := by
  have key : ∀ x : List Int × Addr × Value, (putAt k r x).2.1 = x.2.1 ∧ (putAt k r x).1 = x.1 := fun x => by
    unfold putAt
    split <;> exact ⟨rfl, rfl⟩
  unfold keysD
  rw [List.map_map, List.map_map]
  refine ⟨List.map_congr_left fun x _ => ?_, List.map_congr_left fun x _ => ?_⟩
  · show V.ref (putAt k r x).2.1 = _
    rw [(key x).1]
  · show PI.D.tup ((putAt k r x).1.map _) = _
    rw [(key x).2]
theorem RepAll.snoc {K : PySem.W.Frag} {S : Addr → Prop} {H : Hp} {vs : List V} {ds : List PI.D} {v : V} {d : PI.D} (h : RepAll K S H vs ds) (r : Rep K S H v d) : RepAll K S H (vs ++ [v]) (ds ++ [d]) := h.append (.cons r .nil)
/-- what stands behind d[k] = v -/
theorem cnt_put {K : PySem.W.Frag} {S : Addr → Prop} {H : Hp} {a b : Addr} {xs : List (List Int × Addr × Value)} {us : List V} {es : List PI.D} {k : List Int} {v : V} {dv : PI.D} {r : Value} (nd : (xs.map (·.1)).Nodup) (hv : Vals us (xs.map (·.2.2)))
    (r1 : RepAll K S H (xs.map fun x => V.ref x.2.1) (keysD xs)) (r2 : RepAll K S H us es) (rk : Rep K S H (.ref b) (.tup (k.map PI.D.int))) (rv : RelV v r) (rd : Rep K S H v dv) :
    ∃ vs' ds', Cnt a (.ext (dicO a (putX xs k b r))) vs' ds' (dctPut (keysD xs) es (xs.map (·.1)) k dv) ∧ RepAll K S H vs' ds' := by
  unfold dctPut putX storedH
  rw [atKey_some]
  by_cases c : k ∈ xs.map (·.1)
  · rw [if_pos c, decide_eq_true c, if_pos rfl]
    have hv' : Vals (us.set (kIx k (xs.map (·.1))) v) ((xs.map (putAt k r)).map (·.2.2)) := by
      rw [put_old nd]
      exact Vals.set rv _ hv
    obtain ⟨e1, e2⟩ := put_refs (k := k) (r := r) xs
    have nd' : ((xs.map (putAt k r)).map (·.1)).Nodup := by rw [keys_map_putAt]; exact nd
    have cc := Cnt.dt (a := a) (es := es.set (kIx k (xs.map (·.1))) dv) nd' hv'
    have e2' : ((xs.map (putAt k r)).map fun x => PI.D.tup (x.1.map PI.D.int)) = keysD xs := e2
    rw [e2', e1] at cc
    exact ⟨_, _, cc, r1.append (r2.set _ rd)⟩
  · rw [if_neg c, decide_eq_false c, if_neg (by decide)]
    have hv' : Vals (us ++ [v]) ((xs ++ [(k, b, r)]).map (·.2.2)) := by
      rw [List.map_append]
      exact Vals.append hv (.cons rv .nil)
    have nd' : ((xs ++ [(k, b, r)]).map (·.1)).Nodup := by
      rw [List.map_append]
      exact List.nodup_append.mpr ⟨nd, List.nodup_cons.mpr ⟨List.not_mem_nil, .nil⟩, fun x hx y hy => by
        rw [List.mem_singleton.mp hy]
        intro e
        have e : x = k := e
        exact c (by rw [← e]; exact hx)⟩
    have cc := Cnt.dt (a := a) (es := es ++ [dv]) nd' hv'
    have e2 : ((xs ++ [(k, b, r)]).map fun x => PI.D.tup (x.1.map PI.D.int)) = keysD xs ++ [.tup (k.map PI.D.int)] := by
      rw [List.map_append]
      rfl
    have e1 : ((xs ++ [(k, b, r)]).map fun x => V.ref x.2.1) = xs.map (fun x => V.ref x.2.1) ++ [V.ref b] := by
      rw [List.map_append]
      rfl
    rw [e2, e1] at cc
    exact ⟨_, _, cc, (r1.snoc rk).append (r2.snoc rd)⟩
end PI

namespace PI
open PySem PySem.Spec PyProof.Rows L2
def ownDct (env : PI.Env) (i : Nat) : Bool := match env[i]? with
  | some (some (true, .dct _ _)) => true
  | _ => false
/-- d[k] = v, d a name that owns its dict -/
def sPut (i : Nat) (k f : EF) : SF := fun env => (f env).bind fun r => match ownDct r.2 i with
  | true => (k r.2).bind fun s => match s.1.2 with
    | .tup kd => (toInts kd).bind fun kk => (match s.2[i]? with
      | some (some (true, .dct ks es)) => (toTups ks).bind fun L => if ks.length < 1000000 then some (.nx, s.2.set i (some (true, dctPut ks es L kk r.1.2))) else none
      | _ => none)
    | _ => none
  | false => none
section
variable {K : PySem.W.Frag} {P : List Nat} {Z : Addr → Prop} {env env1 env2 env' : PI.Env} {σ σ1 σ2 : L2.St} {H H1 H2 : Hp} {D : Ends} {c : Ctl}
theorem dct_cases {ks es : List PI.D} {L : List (List Int)} {k : List Int} {v : PI.D} : ∃ ks' es', dctPut ks es L k v = .dct ks' es' := by
  unfold dctPut
  split <;> exact ⟨_, _, rfl⟩
theorem sPut_go {i : Nat} {k f : EF} (h : SSr K P (sPut i k f) D σ H) : tAsg (SEr K f) (gSub (tVar i) (SEr K k) (rSetT K)) D σ H := by
  obtain ⟨Z, env, c, env', R, e, q⟩ := h
  obtain ⟨⟨w, env1⟩, g1, e⟩ := obind e
  cases hw : ownDct env1 i with
  | false =>
    dsimp only at e
    rw [hw] at e
    cases e
  | true =>
    dsimp only at e
    rw [hw] at e
    obtain ⟨⟨w2, env2⟩, g2, e⟩ := obind e
    dsimp only at e
    split at e
    · rename_i kd gj
      obtain ⟨kk, hk, e⟩ := obind e
      split at e
      · rename_i ks es g
        obtain ⟨L, hL, e⟩ := obind e
        split at e
        · rename_i hlen
          cases e
          refine ⟨Z, env, w, env1, R, g1, fun v H1 x => ?_⟩
          have g0 : ∃ d0, env1[i]? = some (some (true, d0)) := by
            unfold ownDct at hw
            split at hw
            · rename_i q0
              exact ⟨_, q0⟩
            · cases hw
          obtain ⟨d0, g0⟩ := g0
          obtain ⟨a, _, _, _, h1, _⟩ := x.re.ow i d0 g0
          refine ⟨.ref a, h1, Z, env1, w2, env2, x.re, g2, fun u H2 y => ?_⟩
          obtain ⟨a2, o, vs, ds, k1, kc, k2, k3⟩ := y.re.ow i _ g
          rw [h1] at k1
          cases k1
          obtain ⟨xs, us, dx, ho, hks, nd, hv, r1, r2⟩ := dct_of kc k2 k3
          subst hks ho
          rw [toTups_keys] at hL
          cases hL
          have rk := y.rep
          rw [gj, toInts_ok hk] at rk
          obtain ⟨b, us2, e1, t1, t2⟩ := rk.tupD
          subst e1
          have e2 := t2.of_ints
          subst e2
          have hl : xs.length < sizeLine := by
            have := List.length_map (as := xs) (f := fun x : List Int × Addr × Value => PI.D.tup (x.1.map PI.D.int))
            have hlen : (keysD xs).length < 1000000 := hlen
            unfold keysD at hlen
            exact mil (by omega)
          refine ⟨a, b, xs, kk, rfl, rfl, dx, t1.sq, hl, fun r hr => ?_⟩
          obtain ⟨vs', ds', cc, rr⟩ := cnt_put nd hv r1 r2 rk hr (y.tr.rep x.rep)
          obtain ⟨R2, st⟩ := Rel.mutUC y.re cc g h1 rr
          exact q σ _ R2 ((x.tr.trans y.tr).trans (mut_trn g h1)).stp .refl
        · cases e
      · cases e
    · cases e
end
/-! ### {}, {k: v} -/
section
variable {X : Cx} {pos : Pos}
theorem dxt_empty {P : Program} {w : World} {H : Hp} (h : Heap) (hb : sysModules < h.objs.size) : ObjOk P w H (h.push { cls := .type "dict", data := .dict #[] }) h.objs.size (.ext (dicO h.objs.size [])) :=
  dxt_new (beq_eq_false_iff_ne.mpr (Nat.ne_of_gt hb)) (Nat.zero_le _) (Heap.DictOfH.new h)
def tDNewX : TE := fun _ H Q => ∀ p, H p = none → Q (.ref p) (upd H p (.ext (dicO p [])))
theorem pe_dnewX : PE X (.Dict [] [] pos) tDNewX := ⟨fun pins s σ H Q I h =>
  wpAny_Dict_empty ⟨.ref s.heap.objs.size, _, I.laid (a := s.heap.objs.size) (o := .ext (dicO s.heap.objs.size [])) (t' := s.toks) (fun _ _ q => Heap.get?_push_of_some _ q) (Nat.le_refl _) (dxt_empty s.heap I.big), rfl, h _ (I.hok.fresh (Nat.le_refl _))⟩⟩
def tDisp1 (K : PySem.W.Frag) (tk tv : TE) : TE := fun σ H Q => ∀ p, H p = none → tk σ (upd H p (.ext (dicO p []))) fun x H1 => tv σ H1 fun y H2 => ∃ b kk, x = .ref b ∧ H2 p = some (.ext (dicO p [])) ∧ SqT K H2 b (kk.map V.int) ∧
  ∀ r, RelV y r → Q (.ref p) (upd H2 p (.ext (dicO p [(kk, b, r)])))
theorem disp_H {prog : Program} {w : World} {A : Around} {E : Value → Shared → Prop} {s : Shared} {K : Type} [DecidableEq K] {knd : HeapKind prog w K} {env : PySem.Env} {keys : List (Option Expr)} {values : List Expr} {pos : Pos} {pairs : List (Sem Value × Sem Value)} {Q : Value → Shared → Prop} (hu : knd.room A)
    (hshape : (evalEachOpt keys env).zip ((evalEach values env).map fun v => do let x ← v; standAt pos; pure x) = pairs.map fun p => (some p.1, p.2)) (h0 : pairs ≠ []) (hlen : pairs.length ≤ 15)
    (h : wpAny (model prog w) A (evalPairs pairs) (fun vs s₁ => ∃ ps, CarriesH knd s₁.heap vs ps ∧ s₁.heap.DictOfH knd s.heap.objs.size [] ∧
      ∀ h' tk, h'.DictOfH knd s.heap.objs.size (storedAllH [] ps) → Heap.SameBut s.heap.objs.size s₁.heap h' → Q (.ref s.heap.objs.size) { s₁ with heap := h', toks := tk }) E
      { s with heap := s.heap.push { cls := .type "dict", data := .dict #[] } }) :
    wpAny (model prog w) A (eval (.Dict keys values pos) env) Q E s := by
  rw [arm_eval_Dict, hshape, dictDisplay_pairs pairs h0 (by omega)]
  exact wpAny_bind (wpAny_standAt (wpAny_bind (wpAny_subDictH (knd := knd) (Q := fun d s' => wpAny (model prog w) A (pure (Value.ref d)) Q E s') hu hlen
    (wpAny_mono h (fun vs s₁ h₁ => by obtain ⟨ps, hc, hm, hq⟩ := h₁; exact ⟨ps, hc, hm, fun h' tk a b => wpAny_pure (hq h' tk a b)⟩) fun _ _ e => e))))
theorem pe_disp1 {k v : Expr} {tk tv : TE} (hu : X.A.units + 1 < cLine) (hk : PE X k tk) (hv : PE X v tv) : PE X (.Dict [some k] [v] pos) (tDisp1 X.K tk tv) := by
  refine ⟨fun pins s σ H Q I q => ?_⟩
  have hn := I.hok.fresh (Nat.le_refl s.heap.objs.size)
  have I1 := I.laid (a := s.heap.objs.size) (o := .ext (dicO s.heap.objs.size [])) (h' := s.heap.push { cls := .type "dict", data := .dict #[] }) (t' := s.toks) (fun _ _ q => Heap.get?_push_of_some _ q) (Nat.le_refl _) (dxt_empty s.heap I.big)
  have hp := pairTrees_length [some k] [v] X.env pos rfl rfl
  refine disp_H (knd := tupleKind (intKind X.prog X.w)) (pairs := pairTrees [some k] [v] X.env pos) (show X.A.units < cLine by omega) (zip_pairTrees [some k] [v] X.env pos rfl rfl) (fun e => by rw [e] at hp; cases hp) (by rw [hp]; show 1 ≤ 15; decide) ?_
  refine pairTrees_cons_walk (thn (hk.run pins _ σ _ _ I1 (q _ hn)) fun u s1 ⟨x, H1, I2, rx, q1⟩ => thn (hv.run pins s1 σ H1 _ I2 q1) fun r s2 ⟨y, H2, I3, ry, b, kk, ex, e0, hkk, q2⟩ => pairTrees_nil_walk ?_)
  subst ex
  cases rx
  obtain ⟨z1, z2, dd⟩ := dxt_of (xs := []) I3 ⟨e0, fun x hx => (nomatch hx)⟩
  refine ⟨[(kk, b, r)], ⟨rfl, rfl, keyI_of I3 hkk, True.intro⟩, dd, fun h' tk' dk hs => ⟨.ref s.heap.objs.size, _, ?_, rfl, q2 r ry⟩⟩
  have dd' : h'.DictOfH (tupleKind (intKind X.prog X.w)) s.heap.objs.size [(kk, b, r)] := dk
  have he : ∃ q, h'.get? s.heap.objs.size = some q := by
    obtain ⟨q, _, _, hq, _⟩ := dd'
    exact ⟨q, hq⟩
  exact d_write I3 (by rw [e0]; exact True.intro) hs he (dxt_new z1 (by show 1 ≤ sizeLine; decide) dd')
end
/-- the same by values -/
def eDN : EF := fun env => some ((true, .dct [] []), env)
def eD1 (k v : EF) : EF := fun env => (k env).bind fun r => match r.1.2 with
  | .tup kd => (toInts kd).bind fun kk => (v r.2).bind fun s => some ((true, .dct [.tup (kk.map PI.D.int)] [s.1.2]), s.2)
  | _ => none
section
variable {K : PySem.W.Frag} {σ : L2.St} {H : Hp}
theorem eDN_go {Q : VK} (h : SEr K eDN σ H Q) : tDNewX σ H Q := by
  obtain ⟨Z, env, w, env', R, e, q⟩ := h
  cases e
  refine fun p hp => q _ _ (made_res R .refl ⟨keep_upd hp, fun _ => ⟨p, _, [], [], rfl, Cnt.dt (xs := []) (vs := []) (es := []) .nil .nil, hp, upd_same, .nil⟩, fun e => (nomatch e)⟩)
theorem eD1_go {k v : EF} {Q : VK} (h : SEr K (eD1 k v) σ H Q) : tDisp1 K (SEr K k) (SEr K v) σ H Q := by
  obtain ⟨Z, env, w, env', R, e, q⟩ := h
  obtain ⟨⟨⟨fr1, d1⟩, env1⟩, g1, e⟩ := obind e
  cases d1 with
  | tup kd =>
    obtain ⟨kk, hk, e⟩ := obind e
    obtain ⟨⟨⟨fr2, d2⟩, env2⟩, g2, e⟩ := obind e
    cases e
    refine fun p hp => ?_
    have k0 : ∀ a u, H a = some u → upd H p (.ext (dicO p [])) a = some u := keep_upd hp
    have R1 : Re K (fun b => Z b ∨ b = p) env σ (upd H p (.ext (dicO p []))) := R.grow k0 (fun b z => z.imp id fun z => by rw [z]; exact hp) fun b z => by
      rcases z with z | z
      · exact dom_of k0 b (R.z b z).1
      · subst z
        rw [upd_same]
        exact fun z => by cases z
    refine ⟨_, env, _, env1, R1, g1, fun x H1 y1 => ⟨_, env1, _, env2, y1.re, g2, fun y H2 y2 => ?_⟩⟩
    have rk := y2.tr.rep y1.rep
    rw [toInts_ok hk] at rk
    obtain ⟨b, us2, e1, t1, t2⟩ := rk.tupD
    subst e1
    have e2 := t2.of_ints
    subst e2
    have nP : ∀ env0 H0, Re K (fun b => Z b ∨ b = p) env0 σ H0 → ¬ Own env0 σ p := fun env0 H0 R0 => (R0.z p (.inr rfl)).2
    have hp1 : H1 p = some (.ext (dicO p [])) := y1.tr.keep p _ upd_same (nP _ _ R1)
    have hp2 : H2 p = some (.ext (dicO p [])) := y2.tr.keep p _ hp1 (nP _ _ y1.re)
    refine ⟨b, kk, rfl, hp2, t1.sq, fun r hr => ?_⟩
    have nO := nP _ _ y2.re
    have kp : ∀ a u, H2 a = some u → ¬ Av env2 σ (fun b => Z b ∨ b = p) a → upd H2 p (.ext (dicO p [(kk, b, r)])) a = some u := fun a u z n => keep_ne a u (fun z2 => n (.inr (.inr z2))) z
    have kp2 : ∀ a u, a ≠ p → H2 a = some u → upd H2 p (.ext (dicO p [(kk, b, r)])) a = some u := fun a u n z => keep_ne a u n z
    have cc : Cnt p (.ext (dicO p [(kk, b, r)])) ([V.ref b] ++ [y]) ([PI.D.tup (kk.map PI.D.int)] ++ [d2]) (.dct [.tup (kk.map PI.D.int)] [d2]) :=
      Cnt.dt (xs := [(kk, b, r)]) (vs := [y]) (es := [d2]) (List.nodup_cons.mpr ⟨List.not_mem_nil, .nil⟩) (.cons hr .nil)
    have rr : RepAll K (Av env2 σ fun b => Z b ∨ b = p) (upd H2 p (.ext (dicO p [(kk, b, r)]))) ([V.ref b] ++ [y]) ([PI.D.tup (kk.map PI.D.int)] ++ [d2]) :=
      .cons (rk.step kp fun a z => .inl z) (.cons (y2.rep.step kp fun a z => .inl z) .nil)
    have R5 : Re K (fun b => Z b ∨ b = p) env2 σ (upd H2 p (.ext (dicO p [(kk, b, r)]))) := by
      have R4 := y2.re
      refine ⟨R4.len, fun i d g => ?_, fun i d g => ?_, R4.dist, fun a o z => (nomatch z), fun a z => ⟨?_, (R4.z a z).2⟩⟩
      · obtain ⟨v, h1, h2⟩ := R4.sh i d g
        exact ⟨v, h1, h2.step kp fun a z => .inl z⟩
      · obtain ⟨a, o0, us, es, h1, h2, h3, h4⟩ := R4.ow i d g
        exact ⟨a, o0, us, es, h1, h2, kp2 a _ (fun q => nO (by rw [← q]; exact ⟨i, d, g, h1⟩)) h3, h4.step kp fun a z => .inl z⟩
      · by_cases q : a = p
        · rw [q, upd_same]
          exact fun z => by cases z
        · rw [upd_ne q]
          exact (R4.z a z).1
    have tr : Trn env σ H env2 (upd H2 p (.ext (dicO p [(kk, b, r)]))) := by
      refine ⟨fun a z => y1.tr.own a (y2.tr.own a z), fun a u z n => ?_, fun a z => ?_⟩
      · have na : a ≠ p := ne_of_none z hp
        have n1 : ¬ Own env1 σ a := fun y => n (y1.tr.own a y)
        exact kp2 a u na (y2.tr.keep a u (y1.tr.keep a u (k0 a u z) n) n1)
      · by_cases q : a = p
        · rw [q, upd_same]
          exact fun z => by cases z
        · rw [upd_ne q]
          exact y2.tr.dom a (y1.tr.dom a (dom_of k0 a z))
    refine q (.ref p) _ ⟨R5.weakZ fun b z => .inl z, tr, ?_, fun _ => ⟨p, _, _, _, rfl, cc, hp, upd_same, R5, rr⟩⟩
    exact .of_cnt cc upd_same (fun z => by
      rcases z with z | z
      · exact nO z
      · exact (R.z p z).1 hp) (rr.less fun b z => z.imp id .inl)
  | _ => cases e
end
section
variable {X : Cx} {pos : Pos} {k v : Expr} {kf vf : EF}
theorem se_dn : PE X (.Dict [] [] pos) (SEr X.K eDN) := PEi pe_dnewX fun _ _ _ q => eDN_go q
theorem se_d1 (hu : X.A.units + 64 < cLine) (hk : PE X k (SEr X.K kf)) (hv : PE X v (SEr X.K vf)) : PE X (.Dict [some k] [v] pos) (SEr X.K (eD1 kf vf)) := PEi (pe_disp1 (by omega) hk hv) fun _ _ _ q => eD1_go q
end
end PI

namespace PI
open PySem PySem.Spec PyProof.Rows L2
section
variable {X : Cx} {pos p1 p2 : Pos} {P : List Nat} {x : Str} {e k : Expr} {f g : EF}
theorem ss_put (i : Nat) (he : PE X e (SEr X.K f)) (hpg : PG X (.Subscript (.Name x p1) k p2) (gSub (tVar i) (SEr X.K g) (rSetT X.K)))
    (hs : swapsWithSole [.Subscript (.Name x p1) k p2] e pos.line X.env = pure false := by rfl) (hw : swappedStores [.Subscript (.Name x p1) k p2] e X.env = pure none := by rfl)
    (h1 : (assignEach [.Subscript (.Name x p1) k p2] X.env).map (·.2) = [assign (.Subscript (.Name x p1) k p2) X.env] := by rfl) :
    PS X (.Assign [.Subscript (.Name x p1) k p2] e pos) (SSr X.K P (sPut i g f)) := PSi (ps_asg he hpg hs hw h1) fun _ _ _ q => sPut_go q
theorem set_dicU (hu : X.A.units + 64 < cLine) : PSet X (rSetT X.K) := set_dicT (by omega)
end
/-- in, of rows, texts, dicts -/
def inY (neg : Bool) : PI.D → PI.D → Option W
  | d, .dct ks es => inDct neg d (.dct ks es)
  | d, e => inX neg d e
def rInY (K : PySem.W.Frag) (neg : Bool) : R2 := fun x y H Q => rInX K neg x y H Q ∨ rInT K neg x y H Q
theorem op_inY {X : Cx} (hu : X.A.units + 64 < cLine) : L2.OpR X (compareOp .In) (rInY X.K false) := opr_or op_inX (op_inT hu)
theorem op_ninY {X : Cx} (hu : X.A.units + 64 < cLine) : L2.OpR X (compareOp .NotIn) (rInY X.K true) := opr_or op_ninX (op_notInT hu)
theorem p_inY {K : PySem.W.Frag} {neg : Bool} : P2Ok K (rInY K neg) (inY neg) := fun S H x y d e w Q hS hx hy hf q => by
  cases e with
  | dct ks es => exact .inr (p_inDct S H x y d _ w Q hS hx hy hf q)
  | _ => exact .inl (p_inX S H x y d _ w Q hS hx hy hf q)
section
variable {ds ks es : List PI.D} {k : List Int} {env : PI.Env} {i : Nat} {kf f : EF} {d : PI.D} {neg : Bool} {L : List (List Int)}
@[simp] theorem d_inY : inY neg (.tup (zL k)) (.dct (L.map fun l => PI.D.tup (zL l)) es) = some (false, .bl (if neg then !decide (k ∈ L) else decide (k ∈ L))) := by
  show ((toInts (zL k)).bind fun k => (toTups (L.map fun l => PI.D.tup (zL l))).bind fun K => some (false, PI.D.bl (if neg then !decide (k ∈ K) else decide (k ∈ K)))) = _
  rw [toTups_map, q_toInts]
  rfl
@[simp] theorem d_dn : eDN env = some ((true, .dct [] []), env) := id rfl
@[simp] theorem d_d1 : eD1 kf f env = (kf env).bind fun r => match r.1.2 with
  | .tup kd => (toInts kd).bind fun kk => (f r.2).bind fun s => some ((true, .dct [.tup (kk.map PI.D.int)] [s.1.2]), s.2)
  | _ => none := id rfl
@[simp] theorem d_sPut : sPut i kf f env = (f env).bind fun r => match ownDct r.2 i with
  | true => (kf r.2).bind fun s => match s.1.2 with
    | .tup kd => (toInts kd).bind fun kk => (match s.2[i]? with
      | some (some (true, .dct ks es)) => (toTups ks).bind fun L => if ks.length < 1000000 then some (.nx, s.2.set i (some (true, dctPut ks es L kk r.1.2))) else none
      | _ => none)
    | _ => none
  | false => none := id rfl
@[simp] theorem d_ownDct : ownDct env i = (match env[i]? with | some (some (true, .dct _ _)) => true | _ => false) := id rfl
end
end PI

namespace PmR
open PySem PySem.Spec PyProof.Rows
/-! ### the type itertools.permutations -/
theorem owner_pm : Manifest.owners.lookup (String.ofList ['s', 'n', 'o', 'i', 't', 'a', 't', 'u', 'm', 'r', 'e', 'p', '.', 's', 'l', 'o', 'o', 't', 'r', 'e', 't', 'i'].reverse) = some Manifest.sig_itertools_permutations := by kernel_rfl
theorem slot_pm_next : Slot "itertools.permutations" "__next__" "itertools.permutations.__next__" :=
  .of (owner := "itertools.permutations") (n := "__next__") (by rw [typeLookup_type, builtinLookup_eq_fast]; kernel_rfl) (by decide +kernel) (by decide +kernel) (by decide +kernel)
    (by first | exact .inl (by decide +kernel) | exact .inr (by decide +kernel)) (by rw [isSubtype_type]; kernel_rfl)
theorem entry_pm_next : entryFor table "itertools.permutations.__next__" = some Builtin.«itertools.permutations.__next__» := entryFor_of_tree (by kernel_rfl)
theorem args_pm_next (a : Value) : argsOk "itertools.permutations.__next__" ⟨[a], []⟩ := by
  unfold argsOk; rw [signature?_of (id := "itertools.permutations.__next__") (n := ['_', '_', 't', 'x', 'e', 'n', '_', '_']) (o := ['s', 'n', 'o', 'i', 't', 'a', 't', 'u', 'm', 'r', 'e', 'p', '.', 's', 'l', 'o', 'o', 't', 'r', 'e', 't', 'i']) (by kernel_rfl) owner_pm]; kernel_rfl
theorem slot_pm_iter : Slot "itertools.permutations" "__iter__" "itertools.permutations.__iter__" :=
  .of (owner := "itertools.permutations") (n := "__iter__") (by rw [typeLookup_type, builtinLookup_eq_fast]; kernel_rfl) (by decide +kernel) (by decide +kernel) (by decide +kernel)
    (by first | exact .inl (by decide +kernel) | exact .inr (by decide +kernel)) (by rw [isSubtype_type]; kernel_rfl)
theorem args_pm_iter (a : Value) : argsOk "itertools.permutations.__iter__" ⟨[a], []⟩ := by
  unfold argsOk; rw [signature?_of (id := "itertools.permutations.__iter__") (n := ['_', '_', 'r', 'e', 't', 'i', '_', '_']) (o := ['s', 'n', 'o', 'i', 't', 'a', 't', 'u', 'm', 'r', 'e', 'p', '.', 's', 'l', 'o', 'o', 't', 'r', 'e', 't', 'i']) (by kernel_rfl) owner_pm]; kernel_rfl
theorem entry_pm_iter : entryFor table "itertools.permutations.__iter__" = some Builtin.«dict_keyiterator.__iter__» :=
  entryFor_alias (id' := "dict_keyiterator.__iter__") (by kernel_rfl) (by first | rfl | decide +kernel | (unfold String.splitOn; simp +decide [String.splitOnAux])) (by decide +kernel) (by kernel_rfl)
theorem slot_pm_init : Slot "itertools.permutations" "__init__" "object.__init__" :=
  .of (owner := "object") (n := "__init__") (by rw [typeLookup_type, builtinLookup_eq_fast]; kernel_rfl) (by decide +kernel) (by decide +kernel) (by decide +kernel)
    (by first | exact .inl (by decide +kernel) | exact .inr (by decide +kernel)) (by rw [isSubtype_type]; kernel_rfl)
theorem mro_pm : mroOf (.type "itertools.permutations") = pure [.type "itertools.permutations", .type "object"] := by rw [mroOf_type]; kernel_rfl
theorem lookup_pm_new : typeLookup (.type "itertools.permutations") "__new__" = pure (some (.builtin "itertools.permutations.__new__")) := by rw [typeLookup_type, builtinLookup_eq_fast]; kernel_rfl
theorem sub_pm : isSubtype (.type "itertools.permutations") (.type "itertools.permutations") = pure true := by rw [isSubtype_type]; kernel_rfl
theorem called_pm : TypeCalled "itertools.permutations" "itertools.permutations.__new__" "object.__init__" :=
  ⟨by decide +kernel, by decide +kernel, ⟨_, _, mro_pm⟩, madeBy_type mro_pm lookup_pm_new (by decide +kernel), by decide +kernel, sub_pm, slot_pm_init⟩
theorem typeCall_pm (a : Value) : checkTypeCall "itertools.permutations" ⟨[a], []⟩ = pure () := by kernel_rfl
theorem newCall_pm (a : Value) : checkBuiltinCall "itertools.permutations.__new__" ⟨[.type "itertools.permutations", a], []⟩ = pure () := by kernel_rfl
theorem entry_pm_new : entryFor table "itertools.permutations.__new__" = some Builtin.«itertools.permutations.__new__» := entryFor_of_tree (by kernel_rfl)
theorem nolen_pm : typeLookup (.type "itertools.permutations") "__len__" = pure none := by rw [typeLookup_type, builtinLookup_eq_fast]; kernel_rfl
theorem nohint_pm : typeLookup (.type "itertools.permutations") "__length_hint__" = pure none := by rw [typeLookup_type, builtinLookup_eq_fast]; kernel_rfl
end PmR

namespace PmR
open PySem PySem.Spec PyProof.Rows PySem.Builtin PySem.Builtin.Itertools
theorem hasDict_pm : typeHasDict (.type "itertools.permutations") = false := by kernel_rfl
theorem class_pm (x : Value) : itClassAndRest "permutations" ⟨[.type "itertools.permutations", x], []⟩ = pure (.type "itertools.permutations", [x]) := by
  unfold itClassAndRest
  have e : "itertools." ++ "permutations" = "itertools.permutations" := by decide
  simp only [e, isType, sub_pm, pure_bind, Bool.not_true, Bool.false_eq_true, if_false]
theorem bind_pm (x : Value) : itBindNamed "permutations" ["iterable", "r"] 1 2 [x] [] = pure [some x, none] := by
  kernel_rfl
def pmO (T : Addr) (st : Int) (last : Value) (n : Nat) (ix cy : List Nat) : Obj :=
  { cls := .type "itertools.permutations", dict := none, data := .fields ([.ref T, rawInt st, rawInt n, last] ++ ix.map (fun (i : Nat) => rawInt i) ++ cy.map (fun (i : Nat) => rawInt i)).toArray, slots := #[] }
variable {prog : Program} {w : World}
theorem new_pm (x : Value) : MeetsIn prog w (Builtin.«itertools.permutations.__new__» ⟨[.type "itertools.permutations", x], []⟩)
    (fun A R s => wpAny (model prog w) A.in1 (collect x) (fun items s1 => items.length ≤ 1000 ∧ R (.ok (.ret (.ref (s1.heap.push { cls := .type "tuple", data := .seq items.toArray }).objs.size)))
      { s1 with heap := (s1.heap.push { cls := .type "tuple", data := .seq items.toArray }).push (pmO s1.heap.objs.size 0 .none items.length (List.range items.length) ((List.range items.length).map fun i => items.length - i)) }) (fun e s1 => R (.error e) s1) s) :=
  .of_wp fun A R s h => by
    unfold Builtin.«itertools.permutations.__new__»
    refine wpAny_bind (wpAny_of_eq (class_pm _) ?_)
    dsimp only
    refine wpAny_bind (wpAny_of_eq (bind_pm _) ?_)
    dsimp only
    refine wpAny_bind (wpAny_mono h (fun items s1 hR => ?_) fun _ _ z => z)
    obtain ⟨hl, hR⟩ := hR
    have hm : itTooMany (items.length : Int) = false := by
      unfold itTooMany
      simp
      omega
    have hn : ¬ ((items.length : Int) < 0) := by omega
    dsimp only [Option.getD]
    refine wpAny_bind (wpAny_pure ?_)
    rw [if_neg hn, hm]
    simp only [Bool.false_eq_true, if_false]
    refine wpAny_bind (wpAny_newTuple ?_)
    have hz : ¬ (((items.length : Int)).toNat > items.length) := by omega
    unfold itNewRecord
    rw [hasDict_pm]
    simp only [Bool.not_false, if_true]
    refine wpAny_bind (wpAny_newObj_type ?_ (by show Array.size _ ≤ _; simp; rw [sizeLine_eq]; omega))
    refine wpAny_pure ⟨_, rfl, ?_⟩
    have e1 : ((items.length : Int)).toNat = items.length := Int.toNat_natCast _
    have e2 : (List.range items.length).map (fun (i : Nat) => rawInt ((items.length : Int) - (i : Int))) = ((List.range items.length).map fun i => items.length - i).map fun (i : Nat) => rawInt (i : Int) := by
      rw [List.map_map]
      refine List.map_congr_left fun i hi => ?_
      have := List.mem_range.mp hi
      show rawInt _ = rawInt ((items.length - i : Nat) : Int)
      congr 1
      omega
    rw [if_neg hz, e1, e2]
    exact hR
end PmR

namespace PmR
open PySem PySem.Spec PyProof.Rows PySem.Builtin PySem.Builtin.Itertools
/-- the next one's indices and cycles -/
def nextP (n : Nat) : Nat → List Nat → List Nat → Option (List Nat × List Nat)
  | 0, _, _ => none
  | i + 1, ix, cy => if cy.getD i 0 - 1 == 0 then nextP n i (ix.take i ++ ix.drop (i + 1) ++ [ix.getD i 0]) (cy.set i (n - i))
    else some ((ix.set i (ix.getD (n - (cy.getD i 0 - 1)) 0)).set (n - (cy.getD i 0 - 1)) (ix.getD i 0), cy.set i (cy.getD i 0 - 1))
variable {prog : Program} {w : World} {A : Around} {E : Value → Shared → Prop} {s : Shared}
theorem nums_pm {m T : Addr} {st : Int} {last : Value} {n : Nat} {ix cy : List Nat} {Q : List Nat → Shared → Prop} (hm : s.heap.get? m = some (pmO T st last n ix cy)) (h : Q (ix ++ cy) s) :
    wpAny (model prog w) A (itNumbersFrom (.ref m) 4) Q E s := by
  unfold itNumbersFrom
  refine wpAny_bind (wpAny_load hm ?_)
  have e : ((([Value.ref T, rawInt st, rawInt n, last] ++ ix.map (fun (i : Nat) => rawInt i) ++ cy.map (fun (i : Nat) => rawInt i)).toArray.toList.drop 4).map fun | .int k _ => k.toNat | _ => 0) = ix ++ cy := by
    simp only [List.toList_toArray]
    show ((ix.map (fun (i : Nat) => rawInt i) ++ cy.map (fun (i : Nat) => rawInt i)).map _) = _
    rw [List.map_append, List.map_map, List.map_map]
    have key : ∀ l : List Nat, l.map ((fun | .int k _ => k.toNat | _ => 0 : Value → Nat) ∘ fun (i : Nat) => rawInt i) = l := fun l => by
      refine (List.map_congr_left fun i _ => ?_).trans (List.map_id l)
      show ((i : Int)).toNat = i
      omega
    rw [key, key]
  show wpAny _ _ (pure _) _ _ _
  refine wpAny_pure ?_
  exact e ▸ h
theorem intf_pm {m : Addr} {o : Obj} {vs : Array Value} {i : Nat} {k : Int} {Q : Int → Shared → Prop} (hm : s.heap.get? m = some o) (hd : o.data = .fields vs) (hi : vs[i]? = some (rawInt k)) (h : Q k s) : wpAny (model prog w) A (itIntField (.ref m) i) Q E s := by
  unfold itIntField
  refine wpAny_bind (wpAny_field hm hd hi ?_)
  exact wpAny_pure h
theorem pool_pm {T : Addr} {items : List Value} {Q : Array Value → Shared → Prop} (hT : s.heap.get? T = some { cls := .type "tuple", data := .seq items.toArray }) (h : Q items.toArray s) : wpAny (model prog w) A (itPoolItems (.ref T)) Q E s := by
  unfold itPoolItems
  refine wpAny_bind (wpAny_seqItems hT rfl ?_)
  exact wpAny_pure h
/-- what is told -/
def told (items : List Value) (ix : List Nat) : List Value := ix.map fun i => items.toArray.getD i .none
theorem setF_pm {m T : Addr} {st st' : Int} {last last' : Value} {n : Nat} {ix cy : List Nat} {i : Nat} {x : Value} {Q : Unit → Shared → Prop} (hm : s.heap.get? m = some (pmO T st last n ix cy)) (hi : i < 4)
    (he : (([Value.ref T, rawInt st, rawInt n, last] ++ ix.map (fun (i : Nat) => rawInt i) ++ cy.map (fun (i : Nat) => rawInt i)).toArray.setIfInBounds i x) = ([Value.ref T, rawInt st', rawInt n, last'] ++ ix.map (fun (i : Nat) => rawInt i) ++ cy.map (fun (i : Nat) => rawInt i)).toArray)
    (h : ∀ h', h'.get? m = some (pmO T st' last' n ix cy) → Heap.SameBut m s.heap h' → Q () { s with heap := h' }) : wpAny (model prog w) A (setField (.ref m) i x) Q E s := by
  refine wpAny_setField_rec (cls := .type "itertools.permutations") hm (by simp; omega) fun h' e sb => h h' ?_ sb
  rw [he] at e
  exact e
/-- the tuple is made, kept, told -/
theorem tell_pm {m T : Addr} {st : Int} {last : Value} {items : List Value} {n : Nat} {ix cy l : List Nat} {R : PySem.Fin → Shared → Prop} (hm : s.heap.get? m = some (pmO T st last n ix cy)) (hl : l.length = n) (hz : n ≤ 1000)
    (h : ∀ h' t, s.heap.objs.size ≤ t → h'.get? m = some (pmO T st (.ref t) n ix cy) → h'.get? t = some { cls := .type "tuple", data := .seq (told items l).toArray } → (∀ b o, b ≠ m → s.heap.get? b = some o → h'.get? b = some o) → R (.done (.ret (.ref t))) { s with heap := h' }) :
    wpAny (model prog w) A (do
      let t ← newTuple (l.map fun i => items.toArray.getD i .none)
      let before ← field (.ref m) 3
      setField (.ref m) 3 t
      letGo [before] [t]
      ret t) R E s := by
  have hlt := Heap.lt_size hm
  refine wpAny_bind (wpAny_newTuple ?_ (by simp; rw [sizeLine_eq]; omega))
  have hm2 : (s.heap.push { cls := .type "tuple", data := .seq (l.map fun i => items.toArray.getD i .none).toArray }).get? m = some (pmO T st last n ix cy) := Heap.get?_push_of_some _ hm
  refine wpAny_bind (wpAny_field hm2 rfl (x := last) rfl ?_)
  refine wpAny_bind (setF_pm (st' := st) (last' := .ref s.heap.objs.size) hm2 (by decide) rfl fun h' e sb => ?_)
  refine wpAny_bind (wpAny_letGo ?_)
  refine wpAny_pure (h h' s.heap.objs.size (Nat.le_refl _) e ?_ fun b o hb q => (sb.2 b hb).trans (Heap.get?_push_of_some _ q))
  exact (sb.2 _ (Nat.ne_of_gt hlt)).trans (Heap.get?_push_size _ rfl)
/-- the first one -/
theorem next_first {m T : Addr} {items : List Value} {n : Nat} {ix cy : List Nat} {Q : Value → Shared → Prop} (hm : s.heap.get? m = some (pmO T 0 .none n ix cy)) (hT : s.heap.get? T = some { cls := .type "tuple", data := .seq items.toArray })
    (hn : items.length = n) (hix : ix.length = n) (hz : n ≤ 1000)
    (h : ∀ h' t, s.heap.objs.size ≤ t → h'.get? m = some (pmO T 1 (.ref t) n ix cy) → h'.get? t = some { cls := .type "tuple", data := .seq (told items ix).toArray } → (∀ b o, b ≠ m → s.heap.get? b = some o → h'.get? b = some o) → Q (.ref t) { s with heap := h' }) :
    wpAny (model prog w) A (Builtin.«itertools.permutations.__next__» ⟨[.ref m], []⟩) (fun fin s' => ∃ v, fin = .done (.ret v) ∧ Q v s') E s := by
  unfold Builtin.«itertools.permutations.__next__»
  refine wpAny_bind (wpAny_of_eq (a := (Value.ref m, [])) (by kernel_rfl) ?_)
  dsimp only
  refine wpAny_bind (wpAny_field hm rfl (x := .ref T) rfl ?_)
  refine wpAny_bind (pool_pm hT ?_)
  refine wpAny_bind (intf_pm hm rfl (k := n) rfl ?_)
  refine wpAny_bind (nums_pm hm ?_)
  refine wpAny_bind (intf_pm hm rfl (k := 0) rfl ?_)
  have e : List.take ((n : Int)).toNat (ix ++ cy) = ix := by rw [Int.toNat_natCast, ← hix, List.take_left']; rfl
  rw [e]
  show wpAny (model prog w) A (setField (.ref m) 1 (rawInt 1) >>= _) _ _ _
  refine wpAny_bind (setF_pm (st' := 1) (last' := .none) hm (by decide) rfl fun h1 e1 sb => ?_)
  refine tell_pm (items := items) (l := ix) (s := { s with heap := h1 }) e1 hix hz fun h' t ht a1 a2 a3 => ⟨_, rfl, h h' t (by rw [← sb.1]; exact ht) a1 a2 fun b o hb q => a3 b o hb ((sb.2 b hb).trans q)⟩
theorem np_gen {f : Nat → Nat → List Nat → List Nat → Option (List Nat × List Nat)} {n : Nat} (h0 : ∀ (ix cy : List Nat), f n 0 ix cy = none)
    (hs : ∀ (i : Nat) (ix cy : List Nat), f n (i + 1) ix cy = if cy.getD i 0 - 1 == 0 then f n i (ix.take i ++ ix.drop (i + 1) ++ [ix.getD i 0]) (cy.set i (n - i))
      else some ((ix.set i (ix.getD (n - (cy.getD i 0 - 1)) 0)).set (n - (cy.getD i 0 - 1)) (ix.getD i 0), cy.set i (cy.getD i 0 - 1))) : ∀ (r : Nat) (ix cy : List Nat), f n r ix cy = nextP n r ix cy
  | 0, ix, cy => h0 ix cy
  | i + 1, ix, cy => by
    rw [hs, np_gen h0 hs i]
    rfl
theorem setN_pm {m T : Addr} {last : Value} {n : Nat} {ix cy ix' cy' : List Nat} {Q : Unit → Shared → Prop} (hm : s.heap.get? m = some (pmO T 1 last n ix cy)) (hz : ix'.length + cy'.length ≤ 2000)
    (h : ∀ h', h'.get? m = some (pmO T 1 last n ix' cy') → Heap.SameBut m s.heap h' → Q () { s with heap := h' }) : wpAny (model prog w) A (itSetNumbersFrom (.ref m) 4 (ix' ++ cy')) Q E s := by
  unfold itSetNumbersFrom
  have e : (([Value.ref T, rawInt 1, rawInt n, last] ++ ix.map (fun (i : Nat) => rawInt i) ++ cy.map (fun (i : Nat) => rawInt i)).toArray.extract 0 4 ++ ((ix' ++ cy').map fun (k : Nat) => rawInt k).toArray) = ([Value.ref T, rawInt 1, rawInt n, last] ++ ix'.map (fun (i : Nat) => rawInt i) ++ cy'.map (fun (i : Nat) => rawInt i)).toArray := by
    rw [List.map_append]
    apply Array.toList_inj.mp
    simp
  refine wpAny_updateFields hm rfl (h _ ?_ (Heap.SameBut.update ..)) (by rw [e]; simp; rw [sizeLine_eq]; omega)
  have g := Heap.get?_update_self (Obj.mapFields fun fs => fs.extract 0 4 ++ ((ix' ++ cy').map fun (k : Nat) => rawInt k).toArray) hm rfl
  rw [g]
  exact congrArg (fun x => some ({ cls := .type "itertools.permutations", dict := none, data := .fields x, slots := #[] } : Obj)) e
theorem next_more {m T : Addr} {last : Value} {items : List Value} {n : Nat} {ix cy ix' cy' : List Nat} {Q : Value → Shared → Prop} (hm : s.heap.get? m = some (pmO T 1 last n ix cy)) (hT : s.heap.get? T = some { cls := .type "tuple", data := .seq items.toArray })
    (hn : items.length = n) (hix : ix.length = n) (hz : n ≤ 1000) (hnx : nextP n n ix cy = some (ix', cy')) (hix' : ix'.length = n) (hcy : cy'.length = n)
    (h : ∀ h' t, s.heap.objs.size ≤ t → h'.get? m = some (pmO T 1 (.ref t) n ix' cy') → h'.get? t = some { cls := .type "tuple", data := .seq (told items ix').toArray } → (∀ b o, b ≠ m → s.heap.get? b = some o → h'.get? b = some o) → Q (.ref t) { s with heap := h' }) :
    wpAny (model prog w) A (Builtin.«itertools.permutations.__next__» ⟨[.ref m], []⟩) (fun fin s' => ∃ v, fin = .done (.ret v) ∧ Q v s') E s := by
  unfold Builtin.«itertools.permutations.__next__»
  refine wpAny_bind (wpAny_of_eq (a := (Value.ref m, [])) (by kernel_rfl) ?_)
  dsimp only
  refine wpAny_bind (wpAny_field hm rfl (x := .ref T) rfl ?_)
  refine wpAny_bind (pool_pm hT ?_)
  refine wpAny_bind (intf_pm hm rfl (k := n) rfl ?_)
  refine wpAny_bind (nums_pm hm ?_)
  refine wpAny_bind (intf_pm hm rfl (k := 1) rfl ?_)
  have e0 : items.toArray.size = n := by rw [List.size_toArray]; exact hn
  have e1 : ((n : Int)).toNat = n := Int.toNat_natCast _
  have e2 : List.take n (ix ++ cy) = ix := by rw [← hix, List.take_left']; rfl
  have e3 : List.drop n (ix ++ cy) = cy := by rw [← hix, List.drop_left']; rfl
  rw [e0, e2, e3]
  generalize ((n : Int)).toNat = r at e1
  split
  · rename_i q
    exact absurd q (by decide)
  · split
    · rename_i a b q
      have z : nextP n r ix cy = some (a, b) := Eq.trans (Eq.symm (np_gen (h0 := by intros; rfl) (hs := by intros; rfl) r ix cy)) q
      rw [e1, hnx] at z
      cases z
      have et : List.take r ix' = ix' := by rw [e1, ← hix', List.take_length]
      rw [et]
      refine wpAny_bind (setN_pm (ix' := ix') (cy' := cy') hm (by omega) fun h1 g1 sb => ?_)
      refine tell_pm (items := items) (l := ix') (s := { s with heap := h1 }) g1 hix' hz fun h' t ht a1 a2 a3 => ⟨_, rfl, h h' t (by rw [← sb.1]; exact ht) a1 a2 fun b o hb q => a3 b o hb ((sb.2 b hb).trans q)⟩
    · rename_i q
      have z : nextP n r ix cy = none := Eq.trans (Eq.symm (np_gen (h0 := by intros; rfl) (hs := by intros; rfl) r ix cy)) q
      rw [e1, hnx] at z
      cases z
  · rename_i q1 q2
    exact absurd rfl q2
/-- the end -/
theorem next_end {m T : Addr} {last : Value} {items : List Value} {n : Nat} {ix cy : List Nat} {Q : Option Value → Shared → Prop} (hm : s.heap.get? m = some (pmO T 1 last n ix cy)) (hT : s.heap.get? T = some { cls := .type "tuple", data := .seq items.toArray })
    (hn : items.length = n) (hix : ix.length = n) (hnx : nextP n n ix cy = none) (hh : A.handled = none)
    (h : ∀ h' tk, (∀ b o, b ≠ m → s.heap.get? b = some o → h'.get? b = some o) → Q none { s with heap := h', toks := tk }) : wpAny (model prog w) A (pyNext (.ref m)) Q E s := by
  have hT0 : s.TypeIs (.ref m) "itertools.permutations" := ⟨_, hm, rfl⟩
  unfold pyNext
  refine wpAny_bind (wpAny_attempt (wpAny_callSpecial?_slot (name := Str.ofString "__next__") hT0 slot_pm_next
    (wpAny_call_entry slot_pm_next hT0 entry_pm_next ?_ (args_pm_next _))))
  unfold Builtin.«itertools.permutations.__next__»
  refine wpAny_bind (wpAny_of_eq (a := (Value.ref m, [])) (by kernel_rfl) ?_)
  dsimp only
  refine wpAny_bind (wpAny_field hm rfl (x := .ref T) rfl ?_)
  refine wpAny_bind (pool_pm hT ?_)
  refine wpAny_bind (intf_pm hm rfl (k := n) rfl ?_)
  refine wpAny_bind (nums_pm hm ?_)
  refine wpAny_bind (intf_pm hm rfl (k := 1) rfl ?_)
  have e0 : items.toArray.size = n := by rw [List.size_toArray]; exact hn
  have e1 : ((n : Int)).toNat = n := Int.toNat_natCast _
  have e2 : List.take n (ix ++ cy) = ix := by rw [← hix, List.take_left']; rfl
  have e3 : List.drop n (ix ++ cy) = cy := by rw [← hix, List.drop_left']; rfl
  rw [e0, e2, e3]
  generalize ((n : Int)).toNat = r at e1
  split
  · rename_i q
    exact absurd q (by decide)
  · split
    · rename_i a b q
      have z : nextP n r ix cy = some (a, b) := Eq.trans (Eq.symm (np_gen (h0 := by intros; rfl) (hs := by intros; rfl) r ix cy)) q
      rw [e1, hnx] at z
      cases z
    · refine wpAny_bind (setF_pm (st' := 2) (last' := last) hm (by decide) rfl fun h1 g1 sb => ?_)
      show wpAny _ _ (newExc (.type "StopIteration") [] >>= _) _ _ _
      refine wpAny_bind ?_
      simp only [newExc, newTuple]
      refine wpAny_bind (wpAny_newObj_type ?_ (by size_fits))
      refine wpAny_bind (m := firstArgMember _ _) (wpAny_of_eq (a := Value.none) (by first | rfl | (simp only [firstArgMember]; rfl)) ?_)
      refine wpAny_newObj_type ?_ (by size_fits)
      simp only [raiseNew]
      refine wpAny_bind (wpAny_handled ?_)
      rw [show A.in1.handled = none from hh]
      refine wpAny_bind (wpAny_pure (wpAny_throw ?_))
      refine wpAny_bind (wpAny_isInstance (T := "StopIteration") (b := true) ⟨_, Heap.get?_push_size _ rfl, rfl⟩ isSubtype_stop ?_)
      exact wpAny_pure (h _ _ fun b o hb q => Heap.get?_push_of_some _ (Heap.get?_push_of_some _ ((sb.2 b hb).trans q)))
  · rename_i q1 q2
    exact absurd rfl q2
end PmR

namespace PmR
open PySem PySem.Spec PyProof.Rows PySem.Builtin PySem.Builtin.Itertools
/-- what comes behind ix, cy -/
inductive Chain (n : Nat) : List Nat → List Nat → List (List Nat) → Prop
  | nil {ix cy : List Nat} : nextP n n ix cy = none → Chain n ix cy []
  | cons {ix cy ix' cy' : List Nat} {l : List (List Nat)} : nextP n n ix cy = some (ix', cy') → ix'.length = n → cy'.length = n → Chain n ix' cy' l → Chain n ix cy (ix' :: l)
def chainL (n : Nat) : Nat → List Nat → List Nat → Option (List (List Nat))
  | 0, _, _ => none
  | k + 1, ix, cy => match nextP n n ix cy with
    | none => some []
    | some (ix', cy') => if ix'.length = n ∧ cy'.length = n then (chainL n k ix' cy').map fun l => ix' :: l else none
theorem chain_of {n : Nat} : ∀ {k : Nat} {ix cy : List Nat} {l : List (List Nat)}, chainL n k ix cy = some l → Chain n ix cy l
  | 0, _, _, _, h => by cases h
  | k + 1, ix, cy, l, h => by
    unfold chainL at h
    cases e : nextP n n ix cy with
    | none =>
      rw [e] at h
      cases h
      exact .nil e
    | some p =>
      obtain ⟨ix', cy'⟩ := p
      rw [e] at h
      dsimp only at h
      split at h
      · rename_i hl
        obtain ⟨l', h1, rfl⟩ := Option.map_eq_some_iff.mp h
        exact .cons e hl.1 hl.2 (chain_of h1)
      · cases h
variable {prog : Program} {w : World} {A : Around} {E : Value → Shared → Prop} {s : Shared}
theorem pyNext_of {m : Addr} {Q : Option Value → Shared → Prop} (hT0 : s.TypeIs (.ref m) "itertools.permutations")
    (h : wpAny (model prog w) A.in1 (Builtin.«itertools.permutations.__next__» ⟨[.ref m], []⟩) (fun fin s' => ∃ v, fin = .done (.ret v) ∧ Q (some v) s')
      (fun e s' => wpAny (model prog w) A (do if (← isInstance e (.type "StopIteration")) = true then pure none else throw e) Q E s') s) : wpAny (model prog w) A (pyNext (.ref m)) Q E s := by
  unfold pyNext
  refine wpAny_bind (wpAny_attempt (wpAny_callSpecial?_slot (name := Str.ofString "__next__") hT0 slot_pm_next
    (wpAny_call_entry slot_pm_next hT0 entry_pm_next (wpAny_mono h (fun fin s' ⟨v, e, q⟩ => ⟨v, e, wpAny_pure q⟩) fun _ _ z => z) (args_pm_next _))))
/-- the tuples told, one behind the other -/
def Told (h : Heap) (items : List Value) : List Addr → List (List Nat) → Prop
  | [], [] => True
  | t :: ts, x :: l => h.get? t = some { cls := .type "tuple", data := .seq (told items x).toArray } ∧ Told h items ts l
  | _, _ => False
theorem Told.keep {h h' : Heap} {items : List Value} : ∀ {ts : List Addr} {l : List (List Nat)}, Told h items ts l → (∀ t ∈ ts, ∀ o, h.get? t = some o → h'.get? t = some o) → Told h' items ts l
  | [], [], _, _ => True.intro
  | t :: ts, x :: l, a, k => ⟨k t List.mem_cons_self _ a.1, Told.keep a.2 fun u hu => k u (List.mem_cons_of_mem _ hu)⟩
  | [], _ :: _, a, _ => a.elim
  | _ :: _, [], a, _ => a.elim
theorem loop_pm {S m T : Addr} {items : List Value} {n : Nat} {res : Value} {R : Result → Shared → Prop} (hSm : S ≠ m) (hST : S ≠ T) (hmT : m ≠ T) (hn : items.length = n) (hz : n ≤ 1000) (hh : A.handled = none) :
    ∀ (l : List (List Nat)) (ix cy : List Nat) (last : Value) (s : Shared) (acc : Array Value) (c : Nat), Chain n ix cy l → ix.length = n → s.heap.get? m = some (pmO T 1 last n ix cy) → s.heap.get? T = some { cls := .type "tuple", data := .seq items.toArray } →
      s.heap.get? S = some { cls := .type "list", dict := none, data := .seq acc c, slots := #[] } → acc.size + l.length ≤ 100000 →
      (∀ (h' : Heap) (tk : Nat) (ts : List Addr) (c' : Nat), (∀ b o, b ≠ S → b ≠ m → s.heap.get? b = some o → h'.get? b = some o) → (∀ t ∈ ts, s.heap.objs.size ≤ t) → ts.Pairwise (· < ·) → Told h' items ts l →
        h'.get? S = some { cls := .type "list", dict := none, data := .seq (acc ++ (ts.map Value.ref).toArray) c', slots := #[] } → R (.ok (.ret res)) { s with heap := h', toks := tk }) →
      codeAny (model prog w) A (.builtin "list.extend.loop" ⟨[.ref S, .ref m, res], []⟩) R s
  | [], ix, cy, last, s, acc, c, ch, hix, hm, hT, hS, hl, hR => by
    cases ch with
    | nil hnx =>
      refine codeAny_builtin F.entry_extend_loop ?_
      rw [Around.under_plainId F.plain_extend_loop _]
      show wpAny _ A.in1 (pyNext (.ref m) >>= _) _ _ s
      refine wpAny_bind (next_end hm hT hn hix hnx (show A.in1.handled = none from hh) fun h' tk k => ?_)
      refine wpAny_pure (hR h' tk [] c (fun b o h1 h2 q => k b o h2 q) (fun t ht => (nomatch ht)) .nil True.intro ?_)
      rw [k S _ hSm hS]
      simp
  | x :: l, ix, cy, last, s, acc, c, ch, hix, hm, hT, hS, hl, hR => by
    cases ch with
    | cons hnx hix' hcy' ch' =>
      rename_i cy'
      refine codeAny_builtin F.entry_extend_loop ?_
      rw [Around.under_plainId F.plain_extend_loop _]
      show wpAny _ A.in1 (pyNext (.ref m) >>= _) _ _ s
      refine wpAny_bind (pyNext_of ⟨_, hm, rfl⟩ (next_more hm hT hn hix hz hnx hix' hcy' fun h1 t ht g1 g2 k => ?_))
      show wpAny _ A.in1 (updateSeq S (·.push (.ref t)) >>= _) _ _ _
      have hS1 := k S _ hSm hS
      have hStlt : S < s.heap.objs.size := Heap.lt_size hS
      have hmlt : m < s.heap.objs.size := Heap.lt_size hm
      have htS : t ≠ S := Nat.ne_of_gt (Nat.lt_of_lt_of_le hStlt ht)
      have htm : t ≠ m := Nat.ne_of_gt (Nat.lt_of_lt_of_le hmlt ht)
      simp only [List.length_cons] at hl
      refine wpAny_bind (wpAny_updateSeq hS1 rfl ?_ (by rw [sizeLine_eq]; omega) (by show (acc.push _).size ≤ _; rw [Array.size_push, sizeLine_eq]; omega))
      refine wpAny_pure ⟨plainId_quiet F.plain_extend_loop _, ?_⟩
      have oth : ∀ b, b ≠ S → (h1.update S (Obj.mapSeq (·.push (.ref t)))).get? b = h1.get? b := fun b hb => Heap.get?_update_other _ _ (Ne.symm hb)
      have hS2 := Heap.get?_update_self (Obj.mapSeq (·.push (.ref t))) hS1 rfl
      refine loop_pm hSm hST hmT hn hz hh l x cy' (.ref t) _ (acc.push (.ref t)) _ ch' hix' ((oth m (Ne.symm hSm)).trans g1) ((oth T (Ne.symm hST)).trans (k T _ (Ne.symm hmT) hT)) hS2 (by rw [Array.size_push]; omega) fun h' tk ts c' k2 ge pw td hS' => ?_
      have hsz : s.heap.objs.size ≤ (h1.update S (Obj.mapSeq (·.push (.ref t)))).objs.size ∧ t < (h1.update S (Obj.mapSeq (·.push (.ref t)))).objs.size := by
        have e : (h1.update S (Obj.mapSeq (·.push (.ref t)))).objs.size = h1.objs.size := (Heap.SameBut.update (a := S) (h := h1) ..).1
        have h2 := Heap.lt_size g2
        rw [e]
        exact ⟨Nat.le_trans ht (Nat.le_of_lt h2), h2⟩
      refine hR h' tk (t :: ts) c' (fun b o b1 b2 q => k2 b o b1 b2 ((oth b b1).trans (k b o b2 q))) (fun u hu => ?_) (.cons (fun u hu => ?_) pw) ⟨k2 t _ htS htm ((oth t htS).trans g2), td⟩ ?_
      · rcases List.mem_cons.mp hu with rfl | hu
        · exact ht
        · exact Nat.le_trans hsz.1 (ge u hu)
      · exact Nat.lt_of_lt_of_le hsz.2 (ge u hu)
      · rw [hS']
        simp
end PmR

namespace PmR
open PySem PySem.Spec PyProof.Rows PySem.Builtin PySem.Builtin.Itertools
variable {prog : Program} {w : World} {A : Around} {E : Value → Shared → Prop} {s : Shared}
theorem pm_pyIter {m T : Addr} {st : Int} {last : Value} {n : Nat} {ix cy : List Nat} {Q : Value → Shared → Prop} (hm : s.heap.get? m = some (pmO T st last n ix cy)) (h : Q (.ref m) s) : wpAny (model prog w) A (pyIter (.ref m)) Q E s := by
  have hT : s.TypeIs (.ref m) "itertools.permutations" := ⟨_, hm, rfl⟩
  refine wpAny_pyIter_slot hT slot_pm_iter (wpAny_call_entry slot_pm_iter hT entry_pm_iter ?_ (args_pm_iter _))
  show wpAny _ _ (ret (.ref m)) _ _ s
  exact wpAny_pure ⟨_, rfl, "itertools.permutations", _, hT, slot_pm_next.lookup, h⟩
/-- all of it: the first one, then the others -/
theorem start_pm {S m T : Addr} {items : List Value} {n : Nat} {ix cy : List Nat} {l : List (List Nat)} {res : Value} {R : Result → Shared → Prop} {c : Nat} (hSm : S ≠ m) (hST : S ≠ T) (hmT : m ≠ T) (hn : items.length = n) (hz : n ≤ 1000) (hh : A.handled = none)
    (ch : Chain n ix cy l) (hix : ix.length = n) (hm : s.heap.get? m = some (pmO T 0 .none n ix cy)) (hT : s.heap.get? T = some { cls := .type "tuple", data := .seq items.toArray })
    (hS : s.heap.get? S = some { cls := .type "list", dict := none, data := .seq #[] c, slots := #[] }) (hl : l.length ≤ 90000)
    (hR : ∀ (h' : Heap) (tk : Nat) (ts : List Addr) (c' : Nat), (∀ b o, b ≠ S → b ≠ m → s.heap.get? b = some o → h'.get? b = some o) → (∀ t ∈ ts, s.heap.objs.size ≤ t) → ts.Pairwise (· < ·) → Told h' items ts (ix :: l) →
        h'.get? S = some { cls := .type "list", dict := none, data := .seq (ts.map Value.ref).toArray c', slots := #[] } → R (.ok (.ret res)) { s with heap := h', toks := tk }) :
    codeAny (model prog w) A (.builtin "list.extend.loop" ⟨[.ref S, .ref m, res], []⟩) R s := by
  refine codeAny_builtin F.entry_extend_loop ?_
  rw [Around.under_plainId F.plain_extend_loop _]
  show wpAny _ A.in1 (pyNext (.ref m) >>= _) _ _ s
  refine wpAny_bind (pyNext_of ⟨_, hm, rfl⟩ (next_first hm hT hn hix hz fun h1 t ht g1 g2 k => ?_))
  show wpAny _ A.in1 (updateSeq S (·.push (.ref t)) >>= _) _ _ _
  have hS1 := k S _ hSm hS
  have hStlt : S < s.heap.objs.size := Heap.lt_size hS
  have hmlt : m < s.heap.objs.size := Heap.lt_size hm
  have htS : t ≠ S := Nat.ne_of_gt (Nat.lt_of_lt_of_le hStlt ht)
  have htm : t ≠ m := Nat.ne_of_gt (Nat.lt_of_lt_of_le hmlt ht)
  refine wpAny_bind (wpAny_updateSeq hS1 rfl ?_ (by show 0 ≤ _; exact Nat.zero_le _) (by show 1 ≤ _; decide))
  refine wpAny_pure ⟨plainId_quiet F.plain_extend_loop _, ?_⟩
  have oth : ∀ b, b ≠ S → (h1.update S (Obj.mapSeq (·.push (.ref t)))).get? b = h1.get? b := fun b hb => Heap.get?_update_other _ _ (Ne.symm hb)
  have hS2 := Heap.get?_update_self (Obj.mapSeq (·.push (.ref t))) hS1 rfl
  refine loop_pm hSm hST hmT hn hz hh l ix cy (.ref t) _ #[.ref t] _ ch hix ((oth m (Ne.symm hSm)).trans g1) ((oth T (Ne.symm hST)).trans (k T _ (Ne.symm hmT) hT)) hS2 (by show 1 + l.length ≤ 100000; omega) fun h' tk ts c' k2 ge pw td hS' => ?_
  have hsz : s.heap.objs.size ≤ (h1.update S (Obj.mapSeq (·.push (.ref t)))).objs.size ∧ t < (h1.update S (Obj.mapSeq (·.push (.ref t)))).objs.size := by
    have e : (h1.update S (Obj.mapSeq (·.push (.ref t)))).objs.size = h1.objs.size := (Heap.SameBut.update (a := S) (h := h1) ..).1
    have h2 := Heap.lt_size g2
    rw [e]
    exact ⟨Nat.le_trans ht (Nat.le_of_lt h2), h2⟩
  refine hR h' tk (t :: ts) c' (fun b o b1 b2 q => k2 b o b1 b2 ((oth b b1).trans (k b o b2 q))) (fun u hu => ?_) (.cons (fun u hu => ?_) pw) ⟨k2 t _ htS htm ((oth t htS).trans g2), td⟩ ?_
  · rcases List.mem_cons.mp hu with rfl | hu
    · exact ht
    · exact Nat.le_trans hsz.1 (ge u hu)
  · exact Nat.lt_of_lt_of_le hsz.2 (ge u hu)
  · rw [hS']
    simp
/-- list(permutations object) -/
theorem call_list_pm {m T : Addr} {items : List Value} {n : Nat} {ix cy : List Nat} {l : List (List Nat)} {Q : Value → Shared → Prop} (hmT : m ≠ T) (hn : items.length = n) (hz : n ≤ 1000) (hh : A.handled = none)
    (ch : Chain n ix cy l) (hix : ix.length = n) (hm : s.heap.get? m = some (pmO T 0 .none n ix cy)) (hT : s.heap.get? T = some { cls := .type "tuple", data := .seq items.toArray }) (hl : l.length ≤ 90000)
    (hQ : ∀ (h' : Heap) (tk : Nat) (ts : List Addr) (c' : Nat), (∀ b o, b ≠ m → s.heap.get? b = some o → h'.get? b = some o) → (∀ t ∈ ts, s.heap.objs.size < t) → ts.Pairwise (· < ·) → Told h' items ts (ix :: l) →
        h'.get? s.heap.objs.size = some { cls := .type "list", dict := none, data := .seq (ts.map Value.ref).toArray c', slots := #[] } → Q (.ref s.heap.objs.size) { s with heap := h', toks := tk }) :
    wpAny (model prog w) A (call (.type "list") [.ref m]) Q E s := by
  have hmlt : m < s.heap.objs.size := Heap.lt_size hm
  have hTlt : T < s.heap.objs.size := Heap.lt_size hT
  have hSm : s.heap.objs.size ≠ m := Nat.ne_of_gt hmlt
  have hST : s.heap.objs.size ≠ T := Nat.ne_of_gt hTlt
  refine callType_codes (Q₁ := fun obj s₁ => obj = .ref s.heap.objs.size ∧ s₁ = { s with heap := s.heap.push { cls := .type "list", data := .seq #[] } }) F.called_list (F.typeCall_list_1 _) F.entry_list_init
    (code_list_new _ ⟨rfl, rfl⟩) fun obj s₁ h₁ => ?_
  obtain ⟨rfl, rfl⟩ := h₁
  have hS : (s.heap.push { cls := .type "list", data := .seq #[] }).get? s.heap.objs.size = some { cls := .type "list", data := .seq #[] } := Heap.get?_push_size _ rfl
  refine ⟨⟨_, hS, rfl⟩, F.args_list_init_2 _ _, ?_⟩
  show wpAny _ A.in1.in1 (do let old ← Builtin.List.listItems (.ref s.heap.objs.size); Builtin.List.listUpdate (.ref s.heap.objs.size) (fun _ => #[]); letGo old.toList.reverse; Builtin.List.listExtendWith (.ref s.heap.objs.size) (.ref m) .none) _ _ _
  generalize hSd : s.heap.objs.size = S at *
  refine wpAny_bind ?_
  unfold Builtin.List.listItems
  refine wpAny_bind (wpAny_seqItems hS rfl (wpAny_pure ?_))
  show wpAny _ _ (updateSeq S (fun _ => #[]) >>= _) _ _ _
  refine wpAny_bind (wpAny_updateSeq hS rfl ?_)
  have hS2 := Heap.get?_update_self (Obj.mapSeq (fun _ => (#[] : Array Value))) hS rfl
  have oth : ∀ b o, b ≠ S → s.heap.get? b = some o → ((s.heap.push { cls := .type "list", data := .seq #[] }).update S (Obj.mapSeq (fun _ => (#[] : Array Value)))).get? b = some o :=
    fun b o hb e => (Heap.get?_update_other _ _ (Ne.symm hb)).trans (Heap.get?_push_of_some _ e)
  refine wpAny_bind (wpAny_letGo ?_)
  generalize hH1 : (s.heap.push { cls := .type "list", data := .seq #[] }).update S (Obj.mapSeq (fun _ => (#[] : Array Value))) = H1 at *
  have szH : H1.objs.size = S + 1 := by
    rw [← hH1, (Heap.SameBut.update (a := S) (h := s.heap.push { cls := .type "list", data := .seq #[] }) ..).1, Heap.size_push, hSd]
  have hm1 : H1.get? m = some (pmO T 0 .none n ix cy) := oth m _ (Ne.symm hSm) hm
  have hT1 : H1.get? T = some { cls := .type "tuple", data := .seq items.toArray } := oth T _ (Ne.symm hST) hT
  have tyM : ({ s with heap := H1 } : Shared).TypeIs (.ref m) "itertools.permutations" := ⟨_, hm1, rfl⟩
  unfold Builtin.List.listExtendWith
  refine wpAny_bind (wpAny_typeOf tyM ?_)
  have h1 : Builtin.List.listSameRef (.ref S) (.ref m) = false := by simp [Builtin.List.listSameRef, hSm]
  have h2 : (Value.type "itertools.permutations" == Value.type "list") = false := by decide
  have h3 : (Value.type "itertools.permutations" == Value.type "tuple") = false := by decide
  simp only [h1, h2, h3, Bool.or_false, Bool.false_eq_true, if_false]
  refine wpAny_bind (pm_pyIter hm1 ?_)
  refine wpAny_bind (wpAny_holding ?_)
  unfold Builtin.List.listLengthHint
  refine wpAny_bind (wpAny_specialOf tyM nolen_pm ?_)
  show wpAny _ _ (specialOf (Value.ref m) (Str.ofString "__length_hint__") >>= _) _ _ _
  refine wpAny_bind (wpAny_specialOf tyM nohint_pm ?_)
  refine wpAny_pure ?_
  show wpAny _ _ (rule "list.extend.makes-room" >>= _) _ _ _
  refine wpAny_bind (wpAny_rule ?_)
  refine wpAny_bind ?_
  show wpAny _ _ (updateSeq S (·.push .none) >>= fun _ => updateSeq S (·.pop)) _ _ _
  refine wpAny_bind (wpAny_updateSeq hS2 rfl ?_)
  have hS3 := Heap.get?_update_self (Obj.mapSeq (·.push Value.none)) hS2 rfl
  refine wpAny_updateSeq (hz := by seq_fits) hS3 rfl ?_
  have hS4 := Heap.get?_update_self (Obj.mapSeq (·.pop)) hS3 rfl
  have oth2 : ∀ b o, b ≠ S → H1.get? b = some o → ((H1.update S (Obj.mapSeq (·.push Value.none))).update S (Obj.mapSeq (·.pop))).get? b = some o :=
    fun b o hb e => (Heap.get?_update_other _ _ (Ne.symm hb)).trans ((Heap.get?_update_other _ _ (Ne.symm hb)).trans e)
  have szH2 : ((H1.update S (Obj.mapSeq (·.push Value.none))).update S (Obj.mapSeq (·.pop))).objs.size = S + 1 := by
    rw [(Heap.SameBut.update (a := S) (h := H1.update S (Obj.mapSeq (·.push Value.none))) ..).1, (Heap.SameBut.update (a := S) (h := H1) ..).1, szH]
  refine wpAny_pure ⟨plainId_quiet F.plain_extend_loop _, start_pm hSm hST hmT hn hz (show A.in1.handled = none from hh) ch hix (oth2 m _ (Ne.symm hSm) hm1) (oth2 T _ (Ne.symm hST) hT1) hS4 hl fun h' tk ts c' k ge pw td hS' => ⟨rfl, ?_⟩⟩
  refine hQ h' tk ts c' (fun b o hb q => ?_) (fun t ht => ?_) pw td hS'
  · have hbS : b ≠ S := by
      have := Heap.lt_size q
      rw [hSd] at this
      exact Nat.ne_of_lt this
    exact k b o hbS hb (oth2 b o hbS (oth b o hbS q))
  · have := ge t ht
    have e : S + 1 ≤ t := by rw [← szH2]; exact this
    exact e
end PmR

namespace PI
open PySem PySem.Spec PyProof.Rows L2
/-! ### list(permutations(range(a, b))) -/
inductive TkF (h0 h' : Heap) (H1 : Hp) : List Addr → List (List V) → Prop
  | nil : TkF h0 h' H1 [] []
  | cons {t : Addr} {ts : List Addr} {vs : List V} {L : List (List V)} {us : List Value} : h0.objs.size ≤ t → H1 t = none → Vals vs us → vs.length ≤ sizeLine → h'.get? t = some (tobj us) → TkF h0 h' H1 ts L → TkF h0 h' H1 (t :: ts) (vs :: L)
/-- new tuples -/
inductive NewF (H H' : Hp) : List Addr → List (List V) → Prop
  | nil : NewF H H' [] []
  | cons {t : Addr} {ts : List Addr} {vs : List V} {L : List (List V)} {o : Obj} : H t = none → H' t = some (.frz o (.tup vs)) → o.dict = none → NewF H H' ts L → NewF H H' (t :: ts) (vs :: L)
theorem NewF.mono {H G H' : Hp} (k : ∀ b o, H' b = some o → G b = some o) : ∀ {ts : List Addr} {L : List (List V)}, NewF H H' ts L → NewF H G ts L
  | _, _, .nil => .nil
  | _, _, .cons a b c d => .cons a (k _ _ b) c (d.mono k)
theorem TkF.step {h0 h' : Heap} {H1 : Hp} {t : Addr} {o : HO} : ∀ {ts : List Addr} {L : List (List V)}, t ∉ ts → TkF h0 h' H1 ts L → TkF h0 h' (upd H1 t o) ts L := by
  intro ts L hn r
  induction r with
  | nil => exact .nil
  | cons a b c d e _ ih =>
    rw [List.mem_cons, not_or] at hn
    exact .cons a (by rw [upd_ne (Ne.symm hn.1)]; exact b) c d e (ih hn.2)
theorem NewF.back {H1 H2 : Hp} {t : Addr} {o : HO} : ∀ {ts : List Addr} {L : List (List V)}, t ∉ ts → NewF (upd H1 t o) H2 ts L → NewF H1 H2 ts L := by
  intro ts L hn r
  induction r with
  | nil => exact .nil
  | cons a b c _ ih =>
    rw [List.mem_cons, not_or] at hn
    rw [upd_ne (Ne.symm hn.1)] at a
    exact .cons a b c (ih hn.2)
theorem takeF {X : Cx} {pins : List (Addr × Obj)} {σ : L2.St} {H0 : Hp} {s : Shared} {h' : Heap} {tk : Nat} (I0 : Inv X pins σ H0 s) (ts : List Addr) : ∀ (L : List (List V)) (H1 : Hp), Inv X pins σ H1 { s with heap := h', toks := tk } → ts.Nodup → TkF s.heap h' H1 ts L →
    ∃ H2, Inv X pins σ H2 { s with heap := h', toks := tk } ∧ (∀ b o, H1 b = some o → H2 b = some o) ∧ NewF H1 H2 ts L ∧ ∀ b, b ∉ ts → H2 b = H1 b := by
  induction ts with
  | nil =>
    intro L H1 I1 _ r
    cases r
    exact ⟨H1, I1, fun _ _ e => e, .nil, fun _ _ => rfl⟩
  | cons t ts ih =>
    intro L H1 I1 hn r
    cases r with
    | @cons _ _ vs L us hb hnone hv hz hg r =>
      rw [List.nodup_cons] at hn
      have ok : ObjOk X.prog X.w (upd H1 t (.frz (tobj us) (.tup vs))) h' t (.frz (tobj us) (.tup vs)) := frz_new _ hz hv hg
      have fp := I0.fpOk hb hnone
      have I2 : Inv X pins σ (upd H1 t (.frz (tobj us) (.tup vs))) { s with heap := h', toks := tk } := I1.take (h' := h') (t' := tk) (fun b ob _ e => e) fp ok
      obtain ⟨H2, I3, g, q, out⟩ := ih L _ I2 hn.2 (r.step hn.1)
      refine ⟨H2, I3, fun b o e => g b o (keep_upd hnone b o e), .cons hnone (g _ _ upd_same) rfl (q.back hn.1), fun b hb => ?_⟩
      rw [List.mem_cons, not_or] at hb
      rw [out b hb.2, upd_ne hb.1]
end PI

namespace PI
open PySem PySem.Spec PyProof.Rows L2
def cyc (n : Nat) : List Nat := (List.range n).map fun i => n - i
theorem vals_told {a : Int} {n : Nat} {items : Array Value} (h : ItemsOf (fun i v => ∃ t, v = Value.int (a + (i : Int) * 1) t) items n) : ∀ {ix : List Nat}, (∀ i ∈ ix, i < n) → Vals (ix.map fun k : Nat => V.int (a + (k : Int))) (PmR.told items.toList ix)
  | [], _ => .nil
  | k :: ix, hk => by
    have hlt : k < items.size := by rw [h.1]; exact hk k List.mem_cons_self
    have hg : items[k]? = some items[k] := by simp [hlt]
    obtain ⟨t, e⟩ := h.2 k _ hg
    have e2 : items.toList.toArray.getD k Value.none = .int (a + (k : Int)) t := by
      rw [Int.mul_one] at e
      simp [Array.getD, hlt, e]
    refine .cons ?_ (vals_told h fun i hi => hk i (List.mem_cons_of_mem _ hi))
    show RelV (V.int (a + (k : Int))) (items.toList.toArray.getD k Value.none)
    rw [e2]
    exact ⟨t, rfl⟩
def tPm (te : L2.St → Hp → (Int → Int → Hp → Prop) → Prop) : TE := fun σ H Q => te σ H fun a b H1 => RgOk a b ∧ ∃ l : List (List Nat), PmR.Chain (b - a).toNat (List.range (b - a).toNat) (cyc (b - a).toNat) l ∧ (∀ ix ∈ List.range (b - a).toNat :: l, ix.length = (b - a).toNat ∧ ∀ i ∈ ix, i < (b - a).toNat) ∧
  (b - a).toNat ≤ 1000 ∧ l.length ≤ 90000 ∧ ∀ (p : Addr) (ts : List Addr) (H2 : Hp), H1 p = none → (∀ b o, H1 b = some o → H2 b = some o) → NewF H1 H2 ts ((List.range (b - a).toNat :: l).map fun ix => ix.map fun k : Nat => V.int (a + (k : Int))) → H2 p = none → Q (.ref p) (upd H2 p (.lst (ts.map V.ref)))
theorem told_tk {h0 h' : Heap} {H1 : Hp} {a : Int} {n : Nat} {items : Array Value} (h : ItemsOf (fun i v => ∃ t, v = Value.int (a + (i : Int) * 1) t) items n) (hn : n ≤ 1000) : ∀ {ts : List Addr} {L : List (List Nat)}, PmR.Told h' items.toList ts L → (∀ ix ∈ L, ix.length = n ∧ ∀ i ∈ ix, i < n) → (∀ t ∈ ts, h0.objs.size ≤ t) → (∀ t ∈ ts, H1 t = none) →
    TkF h0 h' H1 ts (L.map fun ix => ix.map fun k : Nat => V.int (a + (k : Int)))
  | [], [], _, _, _, _ => .nil
  | t :: ts, ix :: L, td, hL, ht, hH => .cons (ht t List.mem_cons_self) (hH t List.mem_cons_self) (vals_told h (hL ix List.mem_cons_self).2) (by
      rw [List.length_map, (hL ix List.mem_cons_self).1, sizeLine_eq]
      omega) td.1 (told_tk h hn td.2 (fun x hx => hL x (List.mem_cons_of_mem _ hx)) (fun u hu => ht u (List.mem_cons_of_mem _ hu)) fun u hu => hH u (List.mem_cons_of_mem _ hu))
  | [], _ :: _, td, _, _, _ => td.elim
  | _ :: _, [], td, _, _, _ => td.elim
theorem told_len {h' : Heap} {items : List Value} : ∀ {ts : List Addr} {L : List (List Nat)}, PmR.Told h' items ts L → ts.length = L.length
  | [], [], _ => rfl
  | _ :: _, _ :: _, td => congrArg Nat.succ (told_len td.2)
  | [], _ :: _, td => td.elim
  | _ :: _, [], td => td.elim
section
variable {X : Cx} {e : Expr} {p1 p2 c1 c2 : Pos} {te : L2.St → Hp → (Int → Int → Hp → Prop) → Prop}
theorem okA (a b : Value) : argsOk "object.__init__" ⟨[a, b], []⟩ := by
  unfold argsOk; rw [signature?_of (id := "object.__init__") (n := ['_', '_', 't', 'i', 'n', 'i', '_', '_']) (o := ['t', 'c', 'e', 'j', 'b', 'o']) (by kernel_rfl) PySem.F.owner_object]; kernel_rfl
theorem pe_listPm (hc : X.calm = true) (hg : Gl X "list") (hm : X.mg "list" = none) (hgp : Gl X "permutations") (hmp : X.mg "permutations" = some (.type "itertools.permutations")) (he : PRg X e te)
    (na : starEach [e] X.env = (false, eval e X.env) :: starEach [] X.env := by rfl) (na2 : starEach [.Call (.Name "permutations" p2) [e] [] c2] X.env = (false, eval (.Call (.Name "permutations" p2) [e] [] c2) X.env) :: starEach [] X.env := by rfl) :
    PE X (.Call (.Name "list" p1) [.Call (.Name "permutations" p2) [e] [] c2] [] c1) (tPm te) := by
  refine ⟨fun pins s σ H Q I h => ?_⟩
  refine Call_ (ld_blt I hg hm boot_list (PyProof.Rows.callWith_type1 (PyProof.Rows.args_cons (Call_ (ld_glob I hgp hmp (PyProof.Rows.callWith_type1 (PyProof.Rows.args_cons (thn (he pins s σ H _ I h) fun x s1 ⟨r, a, b, t, u, v, H1, ex, hr, I1, ok, l, ch, hL, hn, hl, q⟩ => PyProof.Rows.args_nil ?_) na) na))) na2) na2))
  subst ex
  obtain ⟨b1, b2, b3, b4, b5⟩ := ok
  refine callType_newIn PmR.called_pm (by decide) (PmR.typeCall_pm _) (PmR.newCall_pm _) (fun obj => okA obj _) PmR.entry_pm_new (PmR.new_pm _) ?_
  refine collect_range (n := (b - a).toNat) (I1.ok.hd hc) hr (small_one b1 b2 b3 b4) (rangeSize_nat a b) b5 fun h' tk acc hk hi => ⟨by rw [Array.length_toList, hi.1]; exact hn, ?_⟩
  have hi2 : ItemsOf (fun i v => ∃ t, v = Value.int (a + (i : Int) * 1) t) acc (b - a).toNat := hi
  have e1 : acc.toList.length = (b - a).toNat := by rw [Array.length_toList, hi.1]
  have e2 : acc.toList.toArray = acc := by simp
  have zT : (h'.push { cls := .type "tuple", data := .seq acc.toList.toArray }).objs.size = h'.objs.size + 1 := Heap.size_push ..
  refine ⟨⟨_, Heap.get?_push_size _ rfl, rfl⟩, ?_⟩
  rw [e1]
  refine PyProof.Rows.args_nil ?_
  have hM := Heap.get?_push_size (h'.push { cls := .type "tuple", data := .seq acc.toList.toArray }) (o := PmR.pmO h'.objs.size 0 .none (b - a).toNat (List.range (b - a).toNat) (cyc (b - a).toNat)) rfl
  have hT : ((h'.push { cls := .type "tuple", data := .seq acc.toList.toArray }).push (PmR.pmO h'.objs.size 0 .none (b - a).toNat (List.range (b - a).toNat) (cyc (b - a).toNat))).get? h'.objs.size = some { cls := .type "tuple", data := .seq acc.toList.toArray } :=
    Heap.get?_push_of_some _ (Heap.get?_push_size _ rfl)
  have zM : ((h'.push { cls := .type "tuple", data := .seq acc.toList.toArray }).push (PmR.pmO h'.objs.size 0 .none (b - a).toNat (List.range (b - a).toNat) (cyc (b - a).toNat))).objs.size = h'.objs.size + 2 := by rw [Heap.size_push, zT]
  refine PmR.call_list_pm (m := (h'.push { cls := .type "tuple", data := .seq acc.toList.toArray }).objs.size) (T := h'.objs.size) (items := acc.toList) (n := (b - a).toNat) (Nat.ne_of_gt (by rw [zT]; exact Nat.lt_succ_self _)) e1 hn (I1.ok.hd hc) ch List.length_range hM hT hl fun h2 tk2 ts c' kp hts pw td hS => ?_
  have I1' : Inv X pins σ H1 { s1 with heap := h', toks := tk } := I1.kept hk
  have I2 : Inv X pins σ H1 { s1 with heap := h2, toks := tk2 } := I1.kept fun b o e => by
    have e3 := hk b o e
    have lt := Heap.lt_size e3
    exact kp b o (Nat.ne_of_lt (Nat.lt_of_lt_of_le lt (by rw [zT]; exact Nat.le_succ _))) (Heap.get?_push_of_some _ (Heap.get?_push_of_some _ e3))
  have hts2 : ∀ t ∈ ts, h'.objs.size + 2 < t := fun t ht => by
    rw [← zM]
    exact hts t ht
  have nd : ts.Nodup := pw.imp fun z => Nat.ne_of_lt z
  have tkf : TkF h' h2 H1 ts ((List.range (b - a).toNat :: l).map fun ix => ix.map fun k : Nat => V.int (a + (k : Int))) :=
    told_tk hi2 hn td hL (fun t ht => Nat.le_of_lt (Nat.lt_of_le_of_lt (Nat.le_add_right _ _) (hts2 t ht))) fun t ht => I1'.hok.fresh (Nat.le_of_lt (Nat.lt_of_le_of_lt (Nat.le_add_right _ _) (hts2 t ht)))
  obtain ⟨H2, I3, g, nf, out⟩ := takeF (s := { s1 with heap := h', toks := tk }) I1' ts _ H1 I2 nd tkf
  have hp0 : H1 (h'.objs.size + 2) = none := I1'.hok.fresh (Nat.le_add_right _ _)
  have hp2 : H2 (h'.objs.size + 2) = none := by
    rw [out _ fun hm => Nat.lt_irrefl _ (hts2 _ hm)]
    exact hp0
  have hS2 : h2.get? (h'.objs.size + 2) = some { cls := .type "list", dict := none, data := .seq (ts.map Value.ref).toArray c', slots := #[] } := by
    rw [← zM]
    exact hS
  refine (show EP X pins σ Q (.ref (h'.objs.size + 2)) { s1 with heap := h2, toks := tk2 } → _ from fun z => by
    rw [← zM] at z
    exact z) ?_
  have ok : ObjOk X.prog X.w (upd H2 (h'.objs.size + 2) (.lst (ts.map V.ref))) h2 (h'.objs.size + 2) (.lst (ts.map V.ref)) :=
    ⟨by rw [List.length_map, told_len td, List.length_cons, sizeLine_eq]; omega, ts.map Value.ref, c', L2.vals_refs ts, hS2⟩
  have fp := I1'.fpOk (b := h'.objs.size + 2) (Nat.le_add_right _ _) hp2
  have I4 : Inv X pins σ (upd H2 (h'.objs.size + 2) (.lst (ts.map V.ref))) { s1 with heap := h2, toks := tk2 } := I3.take (h' := h2) (t' := tk2) (fun b ob _ e => e) fp ok
  exact ⟨.ref (h'.objs.size + 2), _, I4, rfl, q _ ts H2 hp0 g nf hp2⟩
end
end PI

namespace PI
open PySem PySem.Spec PyProof.Rows L2
/-! ### list(permutations(range(n))) by values -/
def pmT (L : List (List Nat)) : List PI.D := L.map fun ix => PI.D.tup (ix.map fun k : Nat => PI.D.int (k : Int))
def pmD (d : PI.D) : Option W := match d with
  | .int j => if 0 ≤ j ∧ j ≤ 8 then (match PmR.chainL j.toNat 50000 (List.range j.toNat) (cyc j.toNat) with
    | some l => if l.length ≤ 90000 ∧ ((List.range j.toNat :: l).all fun ix => ix.length == j.toNat && ix.all fun i => decide (i < j.toNat)) = true then some (true, .lst (pmT (List.range j.toNat :: l))) else none
    | none => none) else none
  | _ => none
theorem pm_ints {K : PySem.W.Frag} {S : Addr → Prop} {H : Hp} : ∀ (ix : List Nat), RepAll K S H (ix.map fun k : Nat => V.int (0 + (k : Int))) (ix.map fun k : Nat => PI.D.int (k : Int))
  | [] => .nil
  | k :: ix => .cons (by show Rep K S H (V.int (0 + (k : Int))) (PI.D.int (k : Int)); rw [Int.zero_add]; exact .int _) (pm_ints ix)
theorem pm_rep {K : PySem.W.Frag} {S : Addr → Prop} {H H2 : Hp} {p : Addr} {o : HO} (hS : ∀ a, S a → H a ≠ none) (hp : H2 p = none) (L : List (List Nat)) : ∀ (ts : List Addr), NewF H H2 ts (L.map fun ix => ix.map fun k : Nat => V.int (0 + (k : Int))) →
    RepAll K (fun b => S b ∨ b = p) (upd H2 p o) (ts.map V.ref) (pmT L) := by
  induction L with
  | nil =>
    intro ts r
    cases r
    exact .nil
  | cons ix L ih =>
    intro ts r
    cases r with
    | @cons t ts _ _ ob a b c d =>
      exact .cons (.tup (.inl ⟨⟨ob, keep_upd hp _ _ b, c⟩, fun z => z.elim (fun z => hS _ z a) fun z => by rw [z, hp] at b; cases b⟩) (pm_ints ix)) (ih ts d)
def rPm : V → Hp → VK → Prop := fun y H Q => ∃ j, y = .int j ∧ RgOk 0 j ∧ ∃ l : List (List Nat), PmR.Chain (j - 0).toNat (List.range (j - 0).toNat) (cyc (j - 0).toNat) l ∧ (∀ ix ∈ List.range (j - 0).toNat :: l, ix.length = (j - 0).toNat ∧ ∀ i ∈ ix, i < (j - 0).toNat) ∧
  (j - 0).toNat ≤ 1000 ∧ l.length ≤ 90000 ∧ ∀ (p : Addr) (ts : List Addr) (H2 : Hp), H p = none → (∀ b o, H b = some o → H2 b = some o) → NewF H H2 ts ((List.range (j - 0).toNat :: l).map fun ix => ix.map fun k : Nat => V.int (0 + (k : Int))) → H2 p = none → Q (.ref p) (upd H2 p (.lst (ts.map V.ref)))
theorem p_pm {K : PySem.W.Frag} : P1Ok K rPm pmD := fun S H v d w Q hS hx hf q => by
  unfold pmD at hf
  split at hf
  · rename_i j
    split at hf
    · rename_i hj
      split at hf
      · rename_i l hl
        split at hf
        · rename_i hz
          cases hf
          refine ⟨j, hx.intD, ⟨by decide, by decide, by omega, by omega, by omega⟩, l, ?_⟩
          rw [Int.sub_zero]
          refine ⟨PmR.chain_of hl, fun ix hi => ?_, by omega, hz.1, fun p ts H2 hp g nf hp2 => q _ _ ⟨fun a o e => keep_upd hp2 _ _ (g a o e), fun _ => ⟨p, _, _, _, rfl, .lst, hp, upd_same, pm_rep hS hp2 _ ts nf⟩, fun e => (nomatch e)⟩⟩
          have h1 := List.all_eq_true.mp hz.2 ix hi
          rw [Bool.and_eq_true] at h1
          exact ⟨by simpa using h1.1, fun i hi2 => by simpa using List.all_eq_true.mp h1.2 i hi2⟩
        · cases hf
      · cases hf
    · cases hf
  · cases hf
section
variable {X : Cx} {e : Expr} {p1 p2 c1 c2 : Pos} {o : Opd}
theorem se_listPm (he : PRg X e (tRg1 (SOr X.K o))) (hc : X.calm = true) (hm : X.mg "list" = none) (hmp : X.mg "permutations" = some (.type "itertools.permutations")) (hg : Gl X "list" := by rfl) (hgp : Gl X "permutations" := by rfl)
    (na : starEach [e] X.env = (false, eval e X.env) :: starEach [] X.env := by rfl) (na2 : starEach [.Call (.Name "permutations" p2) [e] [] c2] X.env = (false, eval (.Call (.Name "permutations" p2) [e] [] c2) X.env) :: starEach [] X.env := by rfl) :
    PE X (.Call (.Name "list" p1) [.Call (.Name "permutations" p2) [e] [] c2] [] c1) (SEr X.K (e1 pmD o)) :=
  PEi (pe_listPm hc hg hm hgp hmp he na na2) fun σ H Q q => e1_go p_pm q
end
theorem pmD_3 : (pmD (.int 3)).isSome = true := by decide +kernel
end PI

namespace PI
open PySem PySem.Spec PyProof.Rows L2
/-! ### list(permutations(range(i, j))) by values -/
def pmU (a : Int) (L : List (List Nat)) : List PI.D := L.map fun ix => PI.D.tup (ix.map fun k : Nat => PI.D.int (a + (k : Int)))
def pmE (d e : PI.D) : Option W := match d, e with
  | .int i, .int j => if -(2 ^ 62) ≤ i ∧ i < 2 ^ 62 ∧ -(2 ^ 62) ≤ j ∧ j < 2 ^ 62 ∧ (j - i).toNat ≤ 8 then (match PmR.chainL (j - i).toNat 50000 (List.range (j - i).toNat) (cyc (j - i).toNat) with
    | some l => if l.length ≤ 90000 ∧ ((List.range (j - i).toNat :: l).all fun ix => ix.length == (j - i).toNat && ix.all fun k => decide (k < (j - i).toNat)) = true then some (true, .lst (pmU i (List.range (j - i).toNat :: l))) else none
    | none => none) else none
  | _, _ => none
theorem pmU_ints {K : PySem.W.Frag} {S : Addr → Prop} {H : Hp} {a : Int} : ∀ (ix : List Nat), RepAll K S H (ix.map fun k : Nat => V.int (a + (k : Int))) (ix.map fun k : Nat => PI.D.int (a + (k : Int)))
  | [] => .nil
  | k :: ix => .cons (.int _) (pmU_ints ix)
theorem pmU_rep {K : PySem.W.Frag} {S : Addr → Prop} {H H2 : Hp} {p : Addr} {o : HO} {a0 : Int} (hS : ∀ a, S a → H a ≠ none) (hp : H2 p = none) (L : List (List Nat)) : ∀ (ts : List Addr), NewF H H2 ts (L.map fun ix => ix.map fun k : Nat => V.int (a0 + (k : Int))) →
    RepAll K (fun b => S b ∨ b = p) (upd H2 p o) (ts.map V.ref) (pmU a0 L) := by
  induction L with
  | nil =>
    intro ts r
    cases r
    exact .nil
  | cons ix L ih =>
    intro ts r
    cases r with
    | @cons t ts _ _ ob a b c d =>
      exact .cons (.tup (.inl ⟨⟨ob, keep_upd hp _ _ b, c⟩, fun z => z.elim (fun z => hS _ z a) fun z => by rw [z, hp] at b; cases b⟩) (pmU_ints ix)) (ih ts d)
def rPmE : R2 := fun x y H Q => ∃ i j, x = .int i ∧ y = .int j ∧ RgOk i j ∧ ∃ l : List (List Nat), PmR.Chain (j - i).toNat (List.range (j - i).toNat) (cyc (j - i).toNat) l ∧ (∀ ix ∈ List.range (j - i).toNat :: l, ix.length = (j - i).toNat ∧ ∀ k ∈ ix, k < (j - i).toNat) ∧
  (j - i).toNat ≤ 1000 ∧ l.length ≤ 90000 ∧ ∀ (p : Addr) (ts : List Addr) (H2 : Hp), H p = none → (∀ b o, H b = some o → H2 b = some o) → NewF H H2 ts ((List.range (j - i).toNat :: l).map fun ix => ix.map fun k : Nat => V.int (i + (k : Int))) → H2 p = none → Q (.ref p) (upd H2 p (.lst (ts.map V.ref)))
theorem p_pmE {K : PySem.W.Frag} : P2Ok K rPmE pmE := fun S H x y d e w Q hS hx hy hf q => by
  unfold pmE at hf
  split at hf
  · rename_i i j
    split at hf
    · rename_i hj
      obtain ⟨h1, h2, h3, h4, h5⟩ := hj
      split at hf
      · rename_i l hl
        split at hf
        · rename_i hz
          cases hf
          refine ⟨i, j, hx.intD, hy.intD, ⟨h1, h2, h3, h4, Nat.le_trans h5 (by decide)⟩, l, PmR.chain_of hl, fun ix hi => ?_, Nat.le_trans h5 (by decide), hz.1, fun p ts H2 hp g nf hp2 => q _ _ ⟨fun a o e => keep_upd hp2 _ _ (g a o e), fun _ => ⟨p, _, _, _, rfl, .lst, hp, upd_same, pmU_rep hS hp2 _ ts nf⟩, fun e => (nomatch e)⟩⟩
          have h1 := List.all_eq_true.mp hz.2 ix hi
          rw [Bool.and_eq_true] at h1
          exact ⟨by simpa using h1.1, fun i hi2 => by simpa using List.all_eq_true.mp h1.2 i hi2⟩
        · cases hf
      · cases hf
    · cases hf
  · cases hf
section
variable {X : Cx} {e : Expr} {p1 p2 c1 c2 : Pos} {oa ob : Opd}
theorem se_listPm2 (he : PRg X e (tRg2 (SOr X.K oa) (SOr X.K ob))) (hc : X.calm = true) (hm : X.mg "list" = none) (hmp : X.mg "permutations" = some (.type "itertools.permutations")) (hg : Gl X "list" := by rfl) (hgp : Gl X "permutations" := by rfl)
    (na : starEach [e] X.env = (false, eval e X.env) :: starEach [] X.env := by rfl) (na2 : starEach [.Call (.Name "permutations" p2) [e] [] c2] X.env = (false, eval (.Call (.Name "permutations" p2) [e] [] c2) X.env) :: starEach [] X.env := by rfl) :
    PE X (.Call (.Name "list" p1) [.Call (.Name "permutations" p2) [e] [] c2] [] c1) (SEr X.K (e2 pmE oa ob)) :=
  PEi (pe_listPm hc hg hm hgp hmp he na na2) fun σ H Q q => e2_go p_pmE q
end
theorem tyB_ok {K : PySem.W.Frag} {h : Heap} {mg : Str → Option Value} {x : Str} {n : String} (X : K.In h) (G : h.Ns mainGlobals mg) (c : tyB K x n = true) : mg x = some (.type n) := by
  unfold tyB at c
  split at c
  · rename_i m e
    rw [PySem.W.mg_of X G e, of_decide_eq_true c]
  · cases c
theorem pmE_3 : (pmE (.int 1) (.int 4)).isSome = true := by decide +kernel
end PI

namespace PI
open PySem PySem.Spec PyProof.Rows L2
/-! ### a call that only looks: lists and dicts of names are lent, what is returned is no object -/
def scalB : PI.D → Bool
  | .non => true
  | .bl _ => true
  | .int _ => true
  | .str _ => true
  | _ => false
def borR (s : W × List PI.D) (env : PI.Env) : Option (W × PI.Env) := match s with
  | ((false, d), []) => if scalB d then some ((false, d), env) else none
  | _ => none
def eBor (f : Cal) (as : List Opd) : EF := fun env => (runs as env).bind fun r => (gets r.2 r.1).bind fun ds => (f ds).bind fun s => borR s r.2
theorem runs_len : ∀ {as : List Opd} {env : PI.Env} {r : List Op × PI.Env}, runs as env = some r → r.1.length = as.length
  | [], env, r, h => by cases h; rfl
  | a :: as, env, r, h => by
    unfold runs at h
    obtain ⟨x, h1, h⟩ := obind h
    obtain ⟨y, h2, h⟩ := obind h
    cases h
    exact congrArg Nat.succ (runs_len h2)
theorem gets_len : ∀ {os : List Op} {env : PI.Env} {ds : List PI.D}, gets env os = some ds → ds.length = os.length
  | [], env, r, h => by cases h; rfl
  | a :: as, env, r, h => by
    unfold gets at h
    obtain ⟨x, h1, h⟩ := obind h
    obtain ⟨y, h2, h⟩ := obind h
    cases h
    exact congrArg Nat.succ (gets_len h2)
section
variable {K : PySem.W.Frag} {S Z : Addr → Prop} {env env1 env' : PI.Env} {σ : L2.St} {H H1 : Hp}
theorem View.lent {v : V} {d : PI.D} (h : View K S H v d) : Rep K (fun _ => False) H v d := by
  rcases h with h | ⟨a, o, vs, ds, rfl, c, e, r⟩
  · exact h.less fun _ z => z.elim
  · exact .of_cnt c e id (r.less fun _ z => z.elim)
theorem ViewAll.lent : ∀ {vs : List V} {ds : List PI.D}, ViewAll K S H vs ds → ArgsR K (fun _ => False) H (List.replicate ds.length false) vs ds
  | _, _, .nil => .nil
  | _, _, .cons h t => .cons (m := false) h.lent t.lent
theorem muts_rep : ∀ (n : Nat) (vs : List V), muts (List.replicate n false) vs = []
  | 0, vs => by cases vs <;> rfl
  | n + 1, [] => rfl
  | n + 1, _ :: vs => muts_rep n vs
theorem rep_scal {v : V} {d : PI.D} (h : Rep K S H v d) (s : scalB d = true) {S' : Addr → Prop} {H' : Hp} : Rep K S' H' v d := by
  cases h with
  | non => exact .non
  | bl b => exact .bl b
  | int i => exact .int i
  | str x => exact .str x
  | _ => cases s
theorem bor_go {modes : List Bool} {f : Cal} {ops : List Op} {vs : List V} {ds : List PI.D} {s : W × List PI.D} {w : W} {Q : VK} {E : XK} (hm : modes = List.replicate ds.length false) (R : Re K Z env1 σ H1) (t : Trn env σ H env1 H1) (o : OReps K (Av env1 σ Z) σ H1 ops vs) (hg : gets env1 ops = some ds) (hf : f ds = some s) (e : borR s env1 = some (w, env')) (q : ∀ v H', Res K Z env σ H w env' v H' → Q v H') : spOf K modes f vs H1 Q E := by
  obtain ⟨⟨b, d⟩, outs⟩ := s
  cases b with
  | true => cases e
  | false =>
    cases outs with
    | cons _ _ => cases e
    | nil =>
      have e : (if scalB d then some ((false, d), env1) else none) = some (w, env') := e
      by_cases c : scalB d = true
      · rw [if_pos c] at e
        cases e
        subst hm
        refine ⟨fun _ => False, ds, (false, d), [], fun _ z => z.elim, (fun a z => by rw [muts_rep] at z; cases z), (o.views R hg).lent, by rw [muts_rep]; exact .nil, hf, fun v H2 cp => q v H2 ?_⟩
        have kp : ∀ a u, H1 a = some u → H2 a = some u := fun a u z => cp.keep a u z (by rw [muts_rep]; exact fun z => by cases z)
        exact ⟨R.grow0 kp, t.trans (.grow kp), rep_scal (cp.old rfl) c, fun z => (nomatch z)⟩
      · rw [if_neg c] at e
        cases e
theorem eBor_go {modes : List Bool} {f : Cal} {as : List Opd} {Q : VK} {E : XK} (hm : modes = List.replicate as.length false) (h : SEr K (eBor f as) σ H Q) : tCall (spOf K modes f) [] E (SAr K as) σ H Q := by
  obtain ⟨Z, env, w, env', R, e, q⟩ := h
  obtain ⟨⟨ops, env1⟩, h1, e⟩ := obind e
  obtain ⟨ds, h2, e⟩ := obind e
  obtain ⟨s, h3, e⟩ := obind e
  refine SAr.go R h1 fun vs H1 R1 t1 o1 => ?_
  show spOf K modes f (vs ++ []) H1 Q E
  rw [List.append_nil]
  exact bor_go (by rw [hm, gets_len h2, runs_len h1]) R1 t1 o1 h2 h3 e q
end
section
variable {X : Cx} {k j : Nat} {x y : Str} {st : Stmt} {p pos : Pos} {e : Expr} {es : List Expr} {ps : List Str} {modes : List Bool} {f : Cal} {as : List Opd}
theorem se_fnB (G : Ok X.prog X.w X.K X.mg X.base j x y st ps modes f) (hr : Room k X.A) (ha : PA X (e :: es) (SAr X.K as))
    (hb : ∀ (kV doc pm : Value) (an : Option Addr) (cdv ct : Value) (us : List Value), us.length = ps.length → bindArgs (PySem.W.fnOf y y (defArgs st) (defBody st) (defScope st) .none kV doc pm an cdv ct) ⟨us, []⟩ = pure (ps.zip us))
    (hm : modes = List.replicate as.length false := by rfl)
    (hjk : j ≤ k := by decide) (hg : Gl X x := by rfl) (hdb : (x == ("__debug__" : Str)) = false := by decide) (he : starEach (e :: es) X.env = (false, eval e X.env) :: starEach es X.env := by rfl) (hpl : (backTo pos (starEach es X.env)).any (·.1) = false := by rfl) :
    PE X (.Call (.Name x p) (e :: es) [] pos) (SEr X.K (eBor f as)) := by
  obtain ⟨a, fd, F, D⟩ := G.ex
  exact PEi (pe_call F (hr.mono hjk) hg D.gl D.fn.kp (D.fn.bindsN hb) .nil pass0 ha hdb he hpl) fun _ _ _ q => eBor_go hm q
end
@[simp] theorem s_eBor (f : Cal) (as : List Opd) (env : PI.Env) : eBor f as env = (runs as env).bind fun r => (gets r.2 r.1).bind fun ds => (f ds).bind fun s => borR s r.2 := id rfl
@[simp] theorem s_borR (d : PI.D) (env : PI.Env) : borR ((false, d), []) env = if scalB d then some ((false, d), env) else none := id rfl
@[simp] theorem s_scal1 : scalB .non = true := id rfl
@[simp] theorem s_scal2 {b : Bool} : scalB (.bl b) = true := id rfl
@[simp] theorem s_scal3 {b : Int} : scalB (.int b) = true := id rfl
@[simp] theorem s_scal4 {b : Str} : scalB (.str b) = true := id rfl
end PI

namespace Wk
open PySem PySem.Spec PyProof.Rows L2 PI
theorem bb_abs : bootBuiltins "abs" = some (.builtin "abs") := by decide +kernel
theorem bb_all : bootBuiltins "all" = some (.builtin "all") := by decide +kernel
theorem bb_any : bootBuiltins "any" = some (.builtin "any") := by decide +kernel
theorem bb_bool : bootBuiltins "bool" = some (.type "bool") := by decide +kernel
theorem bb_enumerate : bootBuiltins "enumerate" = some (.type "enumerate") := by decide +kernel
theorem bb_int : bootBuiltins "int" = some (.type "int") := by decide +kernel
theorem bb_isinstance : bootBuiltins "isinstance" = some (.builtin "isinstance") := by decide +kernel
theorem bb_len : bootBuiltins "len" = some (.builtin "len") := by decide +kernel
theorem bb_list : bootBuiltins "list" = some (.type "list") := by decide +kernel
theorem bb_max : bootBuiltins "max" = some (.builtin "max") := by decide +kernel
theorem bb_min : bootBuiltins "min" = some (.builtin "min") := by decide +kernel
theorem bb_range : bootBuiltins "range" = some (.type "range") := by decide +kernel
theorem bb_sorted : bootBuiltins "sorted" = some (.builtin "sorted") := by decide +kernel
theorem bb_str : bootBuiltins "str" = some (.type "str") := by decide +kernel
theorem bb_tuple : bootBuiltins "tuple" = some (.type "tuple") := by decide +kernel
structure Md (w : World) (K : PySem.W.Frag) (mg : Str → Option Value) : Prop where
  f_abs : mg "abs" = none
  f_all : mg "all" = none
  f_any : mg "any" = none
  f_bool : mg "bool" = none
  f_enumerate : mg "enumerate" = none
  f_int : mg "int" = none
  f_isinstance : mg "isinstance" = none
  f_len : mg "len" = none
  f_list : mg "list" = none
  f_max : mg "max" = none
  f_min : mg "min" = none
  f_range : mg "range" = none
  f_sorted : mg "sorted" = none
  f_str : mg "str" = none
  f_tuple : mg "tuple" = none
  i_permutations : mg "permutations" = some (.type "itertools.permutations")
  d__law_well : ∃ (a : Addr) (fd : FuncData), DefAt K mg "_law_well" "_law_well" (top 41) a fd
  d__law_dip : ∃ (a : Addr) (fd : FuncData), DefAt K mg "_law_dip" "_law_dip" (top 42) a fd
  d__law_orders : ∃ (a : Addr) (fd : FuncData), DefAt K mg "_law_orders" "_law_orders" (top 46) a fd
  d__law_stack : ∃ (a : Addr) (fd : FuncData), DefAt K mg "_law_stack" "_law_stack" (top 48) a fd
  d__law_popper : ∃ (a : Addr) (fd : FuncData), DefAt K mg "_law_popper" "_law_popper" (top 49) a fd
  d__law_queues : ∃ (a : Addr) (fd : FuncData), DefAt K mg "_law_queues" "_law_queues" (top 50) a fd
  d__law_bubble : ∃ (a : Addr) (fd : FuncData), DefAt K mg "_law_bubble" "_law_bubble" (top 51) a fd
  d__law_made : ∃ (a : Addr) (fd : FuncData), DefAt K mg "_law_made" "_law_made" (top 52) a fd
  d__law_less : ∃ (a : Addr) (fd : FuncData), DefAt K mg "_law_less" "_law_less" (top 54) a fd
  d__law_unsorted : ∃ (a : Addr) (fd : FuncData), DefAt K mg "_law_unsorted" "_law_unsorted" (top 55) a fd
  d_is_sorter : ∃ (a : Addr) (fd : FuncData), DefAt K mg "is_sorter" "is_sorter" (top 26) a fd
  d_check_sorter : ∃ (a : Addr) (fd : FuncData), DefAt K mg "check_sorter" "check_sorter" (top 27) a fd
  d_is_integer : ∃ (a : Addr) (fd : FuncData), DefAt K mg "is_integer" "is_integer" (top 8) a fd
  d_check_number : ∃ (a : Addr) (fd : FuncData), DefAt K mg "check_number" "check_number" (top 18) a fd
  d_orders_of : ∃ (a : Addr) (fd : FuncData), DefAt K mg "orders_of" "orders_of" (top 22) a fd
  d_orders : ∃ (a : Addr) (fd : FuncData), DefAt K mg "orders" "orders" (top 23) a fd
  d_by_stack : ∃ (a : Addr) (fd : FuncData), DefAt K mg "by_stack" "by_stack" (top 30) a fd
  d_by_popper : ∃ (a : Addr) (fd : FuncData), DefAt K mg "by_popper" "by_popper" (top 31) a fd
  d_merged : ∃ (a : Addr) (fd : FuncData), DefAt K mg "merged" "merged" (top 32) a fd
  d_by_queues : ∃ (a : Addr) (fd : FuncData), DefAt K mg "by_queues" "by_queues" (top 33) a fd
  d_by_bubble : ∃ (a : Addr) (fd : FuncData), DefAt K mg "by_bubble" "by_bubble" (top 34) a fd
  d_made_by : ∃ (a : Addr) (fd : FuncData), DefAt K mg "made_by" "made_by" (top 35) a fd
  d_risen : ∃ (a : Addr) (fd : FuncData), DefAt K mg "risen" "risen" (top 36) a fd
  d_does_sort : ∃ (a : Addr) (fd : FuncData), DefAt K mg "does_sort" "does_sort" (top 37) a fd
  d_are_integers : ∃ (a : Addr) (fd : FuncData), DefAt K mg "are_integers" "are_integers" (top 9) a fd
  d_is_order_of : ∃ (a : Addr) (fd : FuncData), DefAt K mg "is_order_of" "is_order_of" (top 10) a fd
  d_check_order_patterns : ∃ (a : Addr) (fd : FuncData), DefAt K mg "check_order_patterns" "check_order" (top 15) a fd
  d_is_pattern : ∃ (a : Addr) (fd : FuncData), DefAt K mg "is_pattern" "is_pattern" (top 20) a fd
  d_check_pattern : ∃ (a : Addr) (fd : FuncData), DefAt K mg "check_pattern" "check_pattern" (top 17) a fd
  d_neighbours : ∃ (a : Addr) (fd : FuncData), DefAt K mg "neighbours" "neighbours" (top 11) a fd
  d_placed : ∃ (a : Addr) (fd : FuncData), DefAt K mg "placed" "placed" (top 12) a fd
  d_is_shown : ∃ (a : Addr) (fd : FuncData), DefAt K mg "is_shown" "is_shown" (top 13) a fd
  d_shows : ∃ (a : Addr) (fd : FuncData), DefAt K mg "shows" "shows" (top 21) a fd
  d_least_unsorted : ∃ (a : Addr) (fd : FuncData), DefAt K mg "least_unsorted" "least_unsorted" (top 39) a fd
  d__law_same : ∃ (a : Addr) (fd : FuncData), DefAt K mg "_law_same" "_law_same" (top 43) a fd
  d__law_order : ∃ (a : Addr) (fd : FuncData), DefAt K mg "_law_order" "_law_order" (top 47) a fd
  d__law_passes : ∃ (a : Addr) (fd : FuncData), DefAt K mg "_law_passes" "_law_passes" (top 53) a fd
  d_is_order : ∃ (a : Addr) (fd : FuncData), DefAt K mg "is_order" "is_order" (top 19) a fd
  d_check_order_sorters : ∃ (a : Addr) (fd : FuncData), DefAt K mg "check_order_sorters" "check_order" (top 28) a fd
  d_passes : ∃ (a : Addr) (fd : FuncData), DefAt K mg "passes" "passes" (top 38) a fd
  d_law : ∃ (a : Addr) (fd : FuncData), DefAt K mg "law" "law" (top 56) a fd
  t_LISTS : KTab K w mg "LISTS" T_LISTS
section
variable {P : Program} {w : World} {K : PySem.W.Frag} {mg : Str → Option Value} {base : Heap}
theorem ss_nevers {X : Cx} {sts : List Stmt} {P : List Nat} : PSs X sts (SSr X.K P sNever) := ⟨fun pins s σ H D I h => by
  obtain ⟨Z, env, c, env2, R, e, q⟩ := h
  cases e⟩
abbrev N__law_well : List Str := ["script", "place", "cell"]
theorem sc__law_well : FnScope N__law_well ["script", "place"] (defScope (top 41)) := ⟨rfl, rfl, rfl, by decide +kernel, rfl, by decide +kernel, by decide +kernel⟩
def b__law_well : SF := (sSeq (sAsg [] 2 (eIf (e2 ltD (.sl 1) (.ex (eN (c1 lenD) [(.sl 0)]))) (e2 ixS (.sl 0) (.sl 1)) (e2 addD (.ex (e2 mulX (.sl 1) (.ex (eC (.int 7919))))) (.ex (e2 mulX (.ex (eN (c1 lenD) [(.sl 0)])) (.ex (eC (.int 104729))))))))
  (sRet (eLst [(eN (c2 max2D) [(.ex (eC (.int 0))), (.ex (e2 subD (.ex (eN (c1 absD) [(.sl 2)])) (.ex (e2 powD (.ex (eC (.int 10))) (.ex (eC (.int 18)))))))]), (e2 modD (.ex (eN (c1 intX) [(.ex (e2 addD (.ex (e2 addD (.ex (e2 mulX (.sl 2) (.ex (eC (.int 48611))))) (.ex (e2 mulX (.sl 1) (.ex (eC (.int 6700417))))))) (.ex (eC (.int 31337)))))])) (.ex (e2 addD (.ex (e2 powD (.ex (eC (.int 10))) (.ex (eC (.int 24))))) (.ex (eC (.int 7)))))), (eC (.int 0))])))
def c__law_well : Cal := runB [false, false] 3 b__law_well
theorem ok__law_well (M : Md w K mg) : Ok P w K mg base 1 "_law_well" "_law_well" (top 41) ["script", "place"] [false, false] c__law_well := by
  obtain ⟨a, fd, D⟩ := M.d__law_well
  have nd := sc__law_well.nd
  refine ok_of (N := N__law_well) (k := 0) (body := b__law_well) D sc__law_well rfl (by decide) (fun cdv A outer s H E hr => ?_) (fun _ _ _ h => h)
  exact (ss_cons (ss_asg 2 (se_if (st_cmp op_lt p_ltD (so_var 1) (se_callB call_len p_lenD M.f_len bb_len (sa_cons (so_var 0) sa_nil))) (se_ix ix_X p_ixS (so_var 0) (so_var 1)) (se_op op_addD p_addD (se_op op_mulXX p_mulX (so_var 1) se_int) (se_op op_mulXX p_mulX (se_callB call_len p_lenD M.f_len bb_len (sa_cons (so_var 0) sa_nil)) se_int))) nd)
  (ss_one (ss_ret (se_lst (sv_cons (se_callB (call_max2 rfl) p_max2D M.f_max bb_max (sa_cons se_int (sa_cons (se_op op_sub p_subD (se_callB call_abs p_absD M.f_abs bb_abs (sa_cons (so_var 2) sa_nil)) (se_op op_powW p_powD se_int se_int)) sa_nil))) (sv_cons (se_op op_mod p_modD (se_callTy call_intX p_intX M.f_int bb_int (sa_cons (se_op op_addD p_addD (se_op op_addD p_addD (se_op op_mulXX p_mulX (so_var 2) se_int) (se_op op_mulXX p_mulX (so_var 1) se_int)) se_int) sa_nil)) (se_op op_addD p_addD (se_op op_powW p_powD se_int se_int) se_int)) (sv_cons se_int sv_nil)))))))
abbrev N__law_dip : List Str := ["well", "many", "figure", "mixed"]
theorem sc__law_dip : FnScope N__law_dip ["well", "many"] (defScope (top 42)) := ⟨rfl, rfl, rfl, by decide +kernel, rfl, by decide +kernel, by decide +kernel⟩
def b__law_dip : SF := (sSeq (sIf (e2 gtD (.ex (e2 ixS (.sl 0) (.ex (eC (.int 0))))) (.ex (eC (.int 0)))) (sSeq (sAsg [0] 2 (e2 modD (.ex (eN (c1 intX) [(.ex (e2 ixS (.sl 0) (.ex (eC (.int 0)))))])) (.sl 1)))
  (sSeq (sSet 0 (eC (.int 0)) (e2 fdivD (.ex (e2 ixS (.sl 0) (.ex (eC (.int 0))))) (.sl 1)))
  (sRetV [0] 2))) sNext)
  (sSeq (sSet 0 (eC (.int 2)) (e2 addD (.ex (e2 ixS (.sl 0) (.ex (eC (.int 2))))) (.ex (eC (.int 1)))))
  (sSeq (sAsg [0] 3 (e2 modD (.ex (e2 powD (.ex (eN (c1 intX) [(.ex (e2 addD (.ex (e2 ixS (.sl 0) (.ex (eC (.int 1))))) (.ex (e2 mulX (.ex (eC (.int 1000003))) (.ex (e2 ixS (.sl 0) (.ex (eC (.int 2)))))))))])) (.ex (eC (.int 3))))) (.ex (e2 addD (.ex (e2 powD (.ex (eC (.int 10))) (.ex (eC (.int 25))))) (.ex (eC (.int 13)))))))
  (sSeq (sAsg [0] 3 (e2 modD (.ex (e2 powD (.ex (eN (c1 intX) [(.ex (e2 addD (.sl 3) (.ex (e2 mulX (.ex (eC (.int 77347))) (.ex (e2 ixS (.sl 0) (.ex (eC (.int 2)))))))))])) (.ex (eC (.int 2))))) (.ex (e2 addD (.ex (e2 powD (.ex (eC (.int 10))) (.ex (eC (.int 24))))) (.ex (eC (.int 7)))))))
  (sRet (e2 modD (.ex (eN (c1 intX) [(.ex (e2 fdivD (.sl 3) (.ex (eC (.int 4096)))))])) (.sl 1)))))))
def c__law_dip : Cal := runB [true, false] 4 b__law_dip
theorem ok__law_dip (M : Md w K mg) : Ok P w K mg base 1 "_law_dip" "_law_dip" (top 42) ["well", "many"] [true, false] c__law_dip := by
  obtain ⟨a, fd, D⟩ := M.d__law_dip
  have nd := sc__law_dip.nd
  refine ok_of (N := N__law_dip) (k := 0) (body := b__law_dip) D sc__law_dip rfl (by decide) (fun cdv A outer s H E hr => ?_) (fun _ _ _ h => h)
  exact (ss_cons (ss_if (st_cmp op_gt p_gtD (se_ix ix_X p_ixS (so_var 0) se_int) se_int) (ss_cons (ss_asg 2 (se_op op_mod p_modD (se_callTy call_intX p_intX M.f_int bb_int (sa_cons (se_ix ix_X p_ixS (so_var 0) se_int) sa_nil)) (so_var 1)) nd)
  (ss_cons (ss_set 0 (se_op op_fdivW p_fdivD (se_ix ix_X p_ixS (so_var 0) se_int) (so_var 1)) (pg_sub (pv 0) se_int set_list))
  (ss_one (ss_retV 2)))) ss_nil)
  (ss_cons (ss_set 0 (se_op op_addD p_addD (se_ix ix_X p_ixS (so_var 0) se_int) se_int) (pg_sub (pv 0) se_int set_list))
  (ss_cons (ss_asg 3 (se_op op_mod p_modD (se_op op_powW p_powD (se_callTy call_intX p_intX M.f_int bb_int (sa_cons (se_op op_addD p_addD (se_ix ix_X p_ixS (so_var 0) se_int) (se_op op_mulXX p_mulX se_int (se_ix ix_X p_ixS (so_var 0) se_int))) sa_nil)) se_int) (se_op op_addD p_addD (se_op op_powW p_powD se_int se_int) se_int)) nd)
  (ss_cons (ss_asg 3 (se_op op_mod p_modD (se_op op_powW p_powD (se_callTy call_intX p_intX M.f_int bb_int (sa_cons (se_op op_addD p_addD (so_var 3) (se_op op_mulXX p_mulX se_int (se_ix ix_X p_ixS (so_var 0) se_int))) sa_nil)) se_int) (se_op op_addD p_addD (se_op op_powW p_powD se_int se_int) se_int)) nd)
  (ss_one (ss_ret (se_op op_mod p_modD (se_callTy call_intX p_intX M.f_int bb_int (sa_cons (se_op op_fdivW p_fdivD (so_var 3) se_int) sa_nil)) (so_var 1))))))))
abbrev N__law_orders : List Str := ["n", "found", "turn", "further", "row", "number"]
theorem sc__law_orders : FnScope N__law_orders ["n"] (defScope (top 46)) := ⟨rfl, rfl, rfl, by decide +kernel, rfl, by decide +kernel, by decide +kernel⟩
def lc1__law_orders : EF := (e2 (inX true) (.sl 5) (.sl 4))
def le1__law_orders : EF := (e2 addD (.sl 4) (.ex (eTup [(eVar 5)])))
def fb1__law_orders : SF := (sAsg [] 3 (e2 addD (.sl 3) (.ex (eLc (srcC (srcR2 (eC (.int 1)) (e2 addD (.sl 0) (.ex (eC (.int 1)))))) (tName 5) lc1__law_orders le1__law_orders [5]))))
def fb2__law_orders : SF := (sSeq (sAsg [] 3 (eLst []))
  (sSeq (sFor [] [4] (srcA (eVar 1)) (tName 4)
  fb1__law_orders)
  (sAsg [] 1 (eVar 3))))
def b__law_orders : SF := (sSeq (sAsg [] 1 (eLst [(eTup [])]))
  (sSeq (sFor [] [2] (srcR1 (eVar 0)) (tName 2)
  fb2__law_orders)
  (sRetV [] 1)))
def c__law_orders : Cal := runB [false] 6 b__law_orders
theorem ok__law_orders (M : Md w K mg) : Ok P w K mg base 1 "_law_orders" "_law_orders" (top 46) ["n"] [false] c__law_orders := by
  obtain ⟨a, fd, D⟩ := M.d__law_orders
  have nd := sc__law_orders.nd
  refine ok_of (N := N__law_orders) (k := 0) (body := b__law_orders) D sc__law_orders rfl (by decide) (fun cdv A outer s H E hr => ?_) (fun _ _ _ h => h)
  exact (ss_cons (ss_asg 1 (se_lst (sv_cons (se_tup sv_nil) sv_nil)) nd)
  (ss_cons (ss_for (pi_rg1 (se_var 0) M.f_range) srcR1_ok (pg_name nd (i := 2) rfl (by first | exact .inl rfl | exact .inr rfl)) (tg_name 2)
  (ss_cons (ss_asg 3 (se_lst sv_nil) nd)
  (ss_cons (ss_for (pi_any (se_var 1)) srcA_ok (pg_name nd (i := 4) rfl (by first | exact .inl rfl | exact .inr rfl)) (tg_name 4)
  (ss_one (ss_asg 3 (se_op op_addD p_addD (so_var 3) (se_lc (pi_rg2 se_int (se_op op_addD p_addD (so_var 0) se_int) M.f_range) (srcC_ok srcR2_ok) (blkOk_by (own := [("number", 5)]) (by first | kernel_rfl | rfl)) (tg_name 5) (fun _ _ _ _ _ => (pg_name nd (i := 5) rfl (by first | exact .inl rfl | exact .inr rfl))) (fun _ _ _ _ _ => (st_ones (st_cmp op_ninX p_inX (so_var 5) (so_var 4)))) (fun _ _ _ _ _ => (se_op op_addD p_addD (so_var 4) (se_tup (sv_cons (se_var 5) sv_nil)))) rfl nd)) nd)) .never rfl)
  (ss_one (ss_asg 1 (se_var 3) nd)))) .never rfl)
  (ss_one (ss_retV 1))))
abbrev N__law_stack : List Str := ["order", "found", "stack", "number"]
theorem sc__law_stack : FnScope N__law_stack ["order"] (defScope (top 48)) := ⟨rfl, rfl, rfl, by decide +kernel, rfl, by decide +kernel, by decide +kernel⟩
def wc1__law_stack : EF := (eAnd (e2 neD (.sl 2) (.ex (eTup []))) (e2 ltD (.ex (e2 ixS (.sl 2) (.ex (eC (.int 0))))) (.sl 3)))
def wb1__law_stack : SF := (sPar2 [] 1 2 (e2 addD (.sl 1) (.ex (eSl slS (.sl 2) none (some (eC (.int 1)))))) (eSl slS (.sl 2) (some (eC (.int 1))) none))
def fb1__law_stack : SF := (sSeq (sWhile wc1__law_stack wb1__law_stack)
  (sAsg [] 2 (e2 addD (.ex (eTup [(eVar 3)])) (.sl 2))))
def b__law_stack : SF := (sSeq (sPar2 [] 1 2 (eTup []) (eTup []))
  (sSeq (sFor [] [3] (srcA (eVar 0)) (tName 3)
  fb1__law_stack)
  (sRet (e2 addD (.sl 1) (.sl 2)))))
def c__law_stack : Cal := runB [false] 4 b__law_stack
theorem ok__law_stack (M : Md w K mg) : Ok P w K mg base 1 "_law_stack" "_law_stack" (top 48) ["order"] [false] c__law_stack := by
  obtain ⟨a, fd, D⟩ := M.d__law_stack
  have nd := sc__law_stack.nd
  refine ok_of (N := N__law_stack) (k := 0) (body := b__law_stack) D sc__law_stack rfl (by decide) (fun cdv A outer s H E hr => ?_) (fun _ _ _ h => h)
  exact (ss_cons (by first | exact (ss_par2 1 2 (sv_cons (se_tup sv_nil) (sv_cons (se_tup sv_nil) sv_nil)) rfl nd) | exact (ss_par2n 1 2 (sv_cons (se_tup sv_nil) (sv_cons (se_tup sv_nil) sv_nil)) rfl nd))
  (ss_cons (ss_for (pi_any (se_var 0)) srcA_ok (pg_name nd (i := 3) rfl (by first | exact .inl rfl | exact .inr rfl)) (tg_name 3)
  (ss_cons (ss_while (PW.pt (st_and (st_cmp (op_neA hr.units) p_neD (so_var 2) (se_tup sv_nil)) (st_and1 (st_cmp op_lt p_ltD (se_ix ix_X p_ixS (so_var 2) se_int) (so_var 3))))) (ss_one (by first | exact (ss_par2 1 2 (sv_cons (se_op op_addD p_addD (so_var 1) (se_slice sl_X p_slS (so_var 2) sp_none (sp_some se_int))) (sv_cons (se_slice sl_X p_slS (so_var 2) (sp_some se_int) sp_none) sv_nil)) rfl nd) | exact (ss_par2n 1 2 (sv_cons (se_op op_addD p_addD (so_var 1) (se_slice sl_X p_slS (so_var 2) sp_none (sp_some se_int))) (sv_cons (se_slice sl_X p_slS (so_var 2) (sp_some se_int) sp_none) sv_nil)) rfl nd))) .never)
  (ss_one (ss_asg 2 (se_op op_addD p_addD (se_tup (sv_cons (se_var 3) sv_nil)) (so_var 2)) nd))) .never rfl)
  (ss_one (ss_ret (se_op op_addD p_addD (so_var 1) (so_var 2))))))
abbrev N__law_popper : List Str := ["order", "found", "stack", "number"]
theorem sc__law_popper : FnScope N__law_popper ["order"] (defScope (top 49)) := ⟨rfl, rfl, rfl, by decide +kernel, rfl, by decide +kernel, by decide +kernel⟩
def fb1__law_popper : SF := (sSeq (sIf (eAnd (e2 neD (.sl 2) (.ex (eTup []))) (e2 gtD (.sl 3) (.ex (e2 ixS (.sl 2) (.ex (eC (.int 0))))))) (sPar2 [] 1 2 (e2 addD (.sl 1) (.sl 2)) (eTup [])) sNext)
  (sAsg [] 2 (e2 addD (.ex (eTup [(eVar 3)])) (.sl 2))))
def b__law_popper : SF := (sSeq (sPar2 [] 1 2 (eTup []) (eTup []))
  (sSeq (sFor [] [3] (srcA (eVar 0)) (tName 3)
  fb1__law_popper)
  (sRet (e2 addD (.sl 1) (.sl 2)))))
def c__law_popper : Cal := runB [false] 4 b__law_popper
theorem ok__law_popper (M : Md w K mg) : Ok P w K mg base 1 "_law_popper" "_law_popper" (top 49) ["order"] [false] c__law_popper := by
  obtain ⟨a, fd, D⟩ := M.d__law_popper
  have nd := sc__law_popper.nd
  refine ok_of (N := N__law_popper) (k := 0) (body := b__law_popper) D sc__law_popper rfl (by decide) (fun cdv A outer s H E hr => ?_) (fun _ _ _ h => h)
  exact (ss_cons (by first | exact (ss_par2 1 2 (sv_cons (se_tup sv_nil) (sv_cons (se_tup sv_nil) sv_nil)) rfl nd) | exact (ss_par2n 1 2 (sv_cons (se_tup sv_nil) (sv_cons (se_tup sv_nil) sv_nil)) rfl nd))
  (ss_cons (ss_for (pi_any (se_var 0)) srcA_ok (pg_name nd (i := 3) rfl (by first | exact .inl rfl | exact .inr rfl)) (tg_name 3)
  (ss_cons (ss_if (PW.pt (st_and (st_cmp (op_neA hr.units) p_neD (so_var 2) (se_tup sv_nil)) (st_and1 (st_cmp op_gt p_gtD (so_var 3) (se_ix ix_X p_ixS (so_var 2) se_int))))) (ss_one (by first | exact (ss_par2 1 2 (sv_cons (se_op op_addD p_addD (so_var 1) (so_var 2)) (sv_cons (se_tup sv_nil) sv_nil)) rfl nd) | exact (ss_par2n 1 2 (sv_cons (se_op op_addD p_addD (so_var 1) (so_var 2)) (sv_cons (se_tup sv_nil) sv_nil)) rfl nd))) ss_nil)
  (ss_one (ss_asg 2 (se_op op_addD p_addD (se_tup (sv_cons (se_var 3) sv_nil)) (so_var 2)) nd))) .never rfl)
  (ss_one (ss_ret (se_op op_addD p_addD (so_var 1) (so_var 2))))))
abbrev N__law_queues : List Str := ["order", "one", "other", "found", "number"]
theorem sc__law_queues : FnScope N__law_queues ["order"] (defScope (top 50)) := ⟨rfl, rfl, rfl, by decide +kernel, rfl, by decide +kernel, by decide +kernel⟩
def fb1__law_queues : SF := (sIf (eOr (e2 eqD (.sl 1) (.ex (eTup []))) (eOr (e2 ltD (.ex (e2 ixS (.sl 1) (.ex (e1 negD (.ex (eC (.int 1))))))) (.sl 4)) (eAnd (e2 neD (.sl 2) (.ex (eTup []))) (e2 gtD (.ex (e2 ixS (.sl 2) (.ex (e1 negD (.ex (eC (.int 1))))))) (.sl 4))))) (sAsg [] 1 (e2 addD (.sl 1) (.ex (eTup [(eVar 4)])))) (sAsg [] 2 (e2 addD (.sl 2) (.ex (eTup [(eVar 4)])))))
def wc1__law_queues : EF := (eAnd (e2 neD (.sl 1) (.ex (eTup []))) (e2 neD (.sl 2) (.ex (eTup []))))
def wb1__law_queues : SF := (sIf (e2 ltD (.ex (e2 ixS (.sl 1) (.ex (eC (.int 0))))) (.ex (e2 ixS (.sl 2) (.ex (eC (.int 0)))))) (sPar2 [] 3 1 (e2 addD (.sl 3) (.ex (eSl slS (.sl 1) none (some (eC (.int 1)))))) (eSl slS (.sl 1) (some (eC (.int 1))) none)) (sPar2 [] 3 2 (e2 addD (.sl 3) (.ex (eSl slS (.sl 2) none (some (eC (.int 1)))))) (eSl slS (.sl 2) (some (eC (.int 1))) none)))
def b__law_queues : SF := (sSeq (sPar3 [] 1 2 3 (eTup []) (eTup []) (eTup []))
  (sSeq (sFor [] [4] (srcA (eVar 0)) (tName 4)
  fb1__law_queues)
  (sSeq (sWhile wc1__law_queues wb1__law_queues)
  (sRet (e2 addD (.ex (e2 addD (.sl 3) (.sl 1))) (.sl 2))))))
def c__law_queues : Cal := runB [false] 5 b__law_queues
theorem ok__law_queues (M : Md w K mg) : Ok P w K mg base 1 "_law_queues" "_law_queues" (top 50) ["order"] [false] c__law_queues := by
  obtain ⟨a, fd, D⟩ := M.d__law_queues
  have nd := sc__law_queues.nd
  refine ok_of (N := N__law_queues) (k := 0) (body := b__law_queues) D sc__law_queues rfl (by decide) (fun cdv A outer s H E hr => ?_) (fun _ _ _ h => h)
  exact (ss_cons (by first | exact (ss_par3 1 2 3 (sv_cons (se_tup sv_nil) (sv_cons (se_tup sv_nil) (sv_cons (se_tup sv_nil) sv_nil))) rfl nd) | exact (ss_par3n 1 2 3 (sv_cons (se_tup sv_nil) (sv_cons (se_tup sv_nil) (sv_cons (se_tup sv_nil) sv_nil))) rfl nd))
  (ss_cons (ss_for (pi_any (se_var 0)) srcA_ok (pg_name nd (i := 4) rfl (by first | exact .inl rfl | exact .inr rfl)) (tg_name 4)
  (ss_one (ss_if (PW.pt (st_or (st_cmp (op_eqA hr.units) p_eqD (so_var 1) (se_tup sv_nil)) (st_or (st_cmp op_lt p_ltD (se_ix ix_X p_ixS (so_var 1) (se_un un_neg p_negD se_int)) (so_var 4)) (st_or1 (PW.pt (st_and (st_cmp (op_neA hr.units) p_neD (so_var 2) (se_tup sv_nil)) (st_and1 (st_cmp op_gt p_gtD (se_ix ix_X p_ixS (so_var 2) (se_un un_neg p_negD se_int)) (so_var 4))))))))) (ss_one (ss_asg 1 (se_op op_addD p_addD (so_var 1) (se_tup (sv_cons (se_var 4) sv_nil))) nd)) (ss_one (ss_asg 2 (se_op op_addD p_addD (so_var 2) (se_tup (sv_cons (se_var 4) sv_nil))) nd)))) .never rfl)
  (ss_cons (ss_while (PW.pt (st_and (st_cmp (op_neA hr.units) p_neD (so_var 1) (se_tup sv_nil)) (st_and1 (st_cmp (op_neA hr.units) p_neD (so_var 2) (se_tup sv_nil))))) (ss_one (ss_if (st_cmp op_lt p_ltD (se_ix ix_X p_ixS (so_var 1) se_int) (se_ix ix_X p_ixS (so_var 2) se_int)) (ss_one (by first | exact (ss_par2 3 1 (sv_cons (se_op op_addD p_addD (so_var 3) (se_slice sl_X p_slS (so_var 1) sp_none (sp_some se_int))) (sv_cons (se_slice sl_X p_slS (so_var 1) (sp_some se_int) sp_none) sv_nil)) rfl nd) | exact (ss_par2n 3 1 (sv_cons (se_op op_addD p_addD (so_var 3) (se_slice sl_X p_slS (so_var 1) sp_none (sp_some se_int))) (sv_cons (se_slice sl_X p_slS (so_var 1) (sp_some se_int) sp_none) sv_nil)) rfl nd))) (ss_one (by first | exact (ss_par2 3 2 (sv_cons (se_op op_addD p_addD (so_var 3) (se_slice sl_X p_slS (so_var 2) sp_none (sp_some se_int))) (sv_cons (se_slice sl_X p_slS (so_var 2) (sp_some se_int) sp_none) sv_nil)) rfl nd) | exact (ss_par2n 3 2 (sv_cons (se_op op_addD p_addD (so_var 3) (se_slice sl_X p_slS (so_var 2) sp_none (sp_some se_int))) (sv_cons (se_slice sl_X p_slS (so_var 2) (sp_some se_int) sp_none) sv_nil)) rfl nd))))) .never)
  (ss_one (ss_ret (se_op op_addD p_addD (se_op op_addD p_addD (so_var 3) (so_var 1)) (so_var 2)))))))
abbrev N__law_bubble : List Str := ["order", "held", "found", "number"]
theorem sc__law_bubble : FnScope N__law_bubble ["order"] (defScope (top 51)) := ⟨rfl, rfl, rfl, by decide +kernel, rfl, by decide +kernel, by decide +kernel⟩
def fb1__law_bubble : SF := (sPar2 [] 2 1 (e2 addD (.sl 2) (.ex (eTup [(eN (c2 min2D) [(.sl 1), (.sl 3)])]))) (eN (c2 max2D) [(.sl 1), (.sl 3)]))
def b__law_bubble : SF := (sSeq (sIf (e2 eqD (.sl 0) (.ex (eTup []))) (sRet (eTup [])) sNext)
  (sSeq (sPar2 [] 1 2 (e2 ixS (.sl 0) (.ex (eC (.int 0)))) (eTup []))
  (sSeq (sFor [] [3] (srcA (eSl slS (.sl 0) (some (eC (.int 1))) none)) (tName 3)
  fb1__law_bubble)
  (sRet (e2 addD (.sl 2) (.ex (eTup [(eVar 1)])))))))
def c__law_bubble : Cal := runB [false] 4 b__law_bubble
theorem ok__law_bubble (M : Md w K mg) : Ok P w K mg base 1 "_law_bubble" "_law_bubble" (top 51) ["order"] [false] c__law_bubble := by
  obtain ⟨a, fd, D⟩ := M.d__law_bubble
  have nd := sc__law_bubble.nd
  refine ok_of (N := N__law_bubble) (k := 0) (body := b__law_bubble) D sc__law_bubble rfl (by decide) (fun cdv A outer s H E hr => ?_) (fun _ _ _ h => h)
  exact (ss_cons (ss_if (st_cmp (op_eqA hr.units) p_eqD (so_var 0) (se_tup sv_nil)) (ss_one (ss_ret (se_tup sv_nil))) ss_nil)
  (ss_cons (by first | exact (ss_par2 1 2 (sv_cons (se_ix ix_X p_ixS (so_var 0) se_int) (sv_cons (se_tup sv_nil) sv_nil)) rfl nd) | exact (ss_par2n 1 2 (sv_cons (se_ix ix_X p_ixS (so_var 0) se_int) (sv_cons (se_tup sv_nil) sv_nil)) rfl nd))
  (ss_cons (ss_for (pi_any (se_slice sl_X p_slS (so_var 0) (sp_some se_int) sp_none)) srcA_ok (pg_name nd (i := 3) rfl (by first | exact .inl rfl | exact .inr rfl)) (tg_name 3)
  (ss_one (by first | exact (ss_par2 2 1 (sv_cons (se_op op_addD p_addD (so_var 2) (se_tup (sv_cons (se_callB (call_min2 rfl) p_min2D M.f_min bb_min (sa_cons (so_var 1) (sa_cons (so_var 3) sa_nil))) sv_nil))) (sv_cons (se_callB (call_max2 rfl) p_max2D M.f_max bb_max (sa_cons (so_var 1) (sa_cons (so_var 3) sa_nil))) sv_nil)) rfl nd) | exact (ss_par2n 2 1 (sv_cons (se_op op_addD p_addD (so_var 2) (se_tup (sv_cons (se_callB (call_min2 rfl) p_min2D M.f_min bb_min (sa_cons (so_var 1) (sa_cons (so_var 3) sa_nil))) sv_nil))) (sv_cons (se_callB (call_max2 rfl) p_max2D M.f_max bb_max (sa_cons (so_var 1) (sa_cons (so_var 3) sa_nil))) sv_nil)) rfl nd))) .never rfl)
  (ss_one (ss_ret (se_op op_addD p_addD (so_var 2) (se_tup (sv_cons (se_var 1) sv_nil))))))))
abbrev N__law_made : List Str := ["sorter", "order"]
theorem sc__law_made : FnScope N__law_made ["sorter", "order"] (defScope (top 52)) := ⟨rfl, rfl, rfl, by decide +kernel, rfl, by decide +kernel, by decide +kernel⟩
def b__law_made : SF := (sSeq (sIf (e2 eqD (.sl 0) (.ex (eC (.str "stack")))) (sRet (eCall [false] c__law_stack [(.ex (eVar 1))])) sNext)
  (sSeq (sIf (e2 eqD (.sl 0) (.ex (eC (.str "popper")))) (sRet (eCall [false] c__law_popper [(.ex (eVar 1))])) sNext)
  (sRet (eIf (e2 eqD (.sl 0) (.ex (eC (.str "queues")))) (eCall [false] c__law_queues [(.ex (eVar 1))]) (eCall [false] c__law_bubble [(.ex (eVar 1))])))))
def c__law_made : Cal := runB [false, false] 2 b__law_made
theorem ok__law_made (M : Md w K mg) : Ok P w K mg base 2 "_law_made" "_law_made" (top 52) ["sorter", "order"] [false, false] c__law_made := by
  obtain ⟨a, fd, D⟩ := M.d__law_made
  have nd := sc__law_made.nd
  refine ok_of (N := N__law_made) (k := 1) (body := b__law_made) D sc__law_made rfl (by decide) (fun cdv A outer s H E hr => ?_) (fun _ _ _ h => h)
  exact (ss_cons (ss_if (st_cmp (op_eqA hr.units) p_eqD (so_var 0) se_str) (ss_one (ss_ret (se_fn (ok__law_stack M) hr (sa_cons (so_ex (se_var 1)) sa_nil) (fun _ _ _ _ _ _ us hl => match us, hl with | [_], _ => rfl) ))) ss_nil)
  (ss_cons (ss_if (st_cmp (op_eqA hr.units) p_eqD (so_var 0) se_str) (ss_one (ss_ret (se_fn (ok__law_popper M) hr (sa_cons (so_ex (se_var 1)) sa_nil) (fun _ _ _ _ _ _ us hl => match us, hl with | [_], _ => rfl) ))) ss_nil)
  (ss_one (ss_ret (se_if (st_cmp (op_eqA hr.units) p_eqD (so_var 0) se_str) (se_fn (ok__law_queues M) hr (sa_cons (so_ex (se_var 1)) sa_nil) (fun _ _ _ _ _ _ us hl => match us, hl with | [_], _ => rfl) ) (se_fn (ok__law_bubble M) hr (sa_cons (so_ex (se_var 1)) sa_nil) (fun _ _ _ _ _ _ us hl => match us, hl with | [_], _ => rfl) ))))))
abbrev N__law_less : List Str := ["order", "at", "gone", "number"]
theorem sc__law_less : FnScope N__law_less ["order", "at"] (defScope (top 54)) := ⟨rfl, rfl, rfl, by decide +kernel, rfl, by decide +kernel, by decide +kernel⟩
def lc1__law_less : EF := (e2 neD (.sl 3) (.sl 2))
def le1__law_less : EF := (e2 subD (.sl 3) (.ex (eN (c1 intX) [(.ex (e2 gtD (.sl 3) (.sl 2)))])))
def b__law_less : SF := (sSeq (sAsg [] 2 (e2 ixS (.sl 0) (.sl 1)))
  (sRet (eN (c1 tupleD) [(.ex (eLc (srcN 0) (tName 3) lc1__law_less le1__law_less [3]))])))
def c__law_less : Cal := runB [false, false] 4 b__law_less
theorem ok__law_less (M : Md w K mg) : Ok P w K mg base 1 "_law_less" "_law_less" (top 54) ["order", "at"] [false, false] c__law_less := by
  obtain ⟨a, fd, D⟩ := M.d__law_less
  have nd := sc__law_less.nd
  refine ok_of (N := N__law_less) (k := 0) (body := b__law_less) D sc__law_less rfl (by decide) (fun cdv A outer s H E hr => ?_) (fun _ _ _ h => h)
  exact (ss_cons (ss_asg 2 (se_ix ix_X p_ixS (so_var 0) (so_var 1)) nd)
  (ss_one (ss_ret (se_callTy call_tupleF p_tupleD M.f_tuple bb_tuple (sa_cons (se_lc (pi_any (pv 0)) srcN_ok (blkOk_by (own := [("number", 3)]) (by first | kernel_rfl | rfl)) (tg_name 3) (fun _ _ _ _ _ => (pg_name nd (i := 3) rfl (by first | exact .inl rfl | exact .inr rfl))) (fun _ _ _ _ _ => (st_ones (st_cmp (op_neA hr.units) p_neD (so_var 3) (so_var 2)))) (fun _ _ _ _ _ => (se_op op_sub p_subD (so_var 3) (se_callTy call_intX p_intX M.f_int bb_int (sa_cons (se_cmp op_gt p_gtD (so_var 3) (so_var 2)) sa_nil)))) rfl nd) sa_nil)))))
abbrev N__law_unsorted : List Str := ["sorter", "n", "good", "found", "size", "order", "risen_v", "clean", "at"]
theorem sc__law_unsorted : FnScope N__law_unsorted ["sorter", "n"] (defScope (top 55)) := ⟨rfl, rfl, rfl, by decide +kernel, rfl, by decide +kernel, by decide +kernel⟩
def lc1__law_unsorted : EF := (e2 (inY true) (.ex (eCall [false, false] c__law_less [(.ex (eVar 5)), (.ex (eVar 8))])) (.sl 2))
def fb1__law_unsorted : SF := (sSeq (sAsg [] 6 (e2 eqD (.ex (eCall [false, false] c__law_made [(.ex (eVar 0)), (.ex (eVar 5))])) (.ex (e2 (rgD true) (.ex (eC (.int 1))) (.ex (e2 addD (.sl 4) (.ex (eC (.int 1)))))))))
  (sSeq (sAsg [] 7 (e2 eqD (.ex (eLc (srcC (srcR1 (eVar 4))) (tName 8) lc1__law_unsorted (eVar 8) [8])) (.ex (eLst []))))
  (sSeq (sIf (eAnd (eVar 6) (eVar 7)) (sPut 2 (eVar 5) (eC (.bl true))) sNext)
  (sIf (eAnd (eVar 7) (eNot (eVar 6))) (sApp 3 (eVar 5)) sNext))))
def fb2__law_unsorted : SF := (sFor [] [5] (srcA (eCall [false] c__law_orders [(.ex (eVar 4))])) (tName 5)
  fb1__law_unsorted)
def b__law_unsorted : SF := (sSeq (sPar2 [] 2 3 (eD1 (eTup []) (eC (.bl true))) (eLst []))
  (sSeq (sFor [] [4] (srcR2 (eC (.int 1)) (e2 addD (.sl 1) (.ex (eC (.int 1))))) (tName 4)
  fb2__law_unsorted)
  (sRetV [] 3)))
def c__law_unsorted : Cal := runB [false, false] 9 b__law_unsorted
theorem ok__law_unsorted (M : Md w K mg) : Ok P w K mg base 3 "_law_unsorted" "_law_unsorted" (top 55) ["sorter", "n"] [false, false] c__law_unsorted := by
  obtain ⟨a, fd, D⟩ := M.d__law_unsorted
  have nd := sc__law_unsorted.nd
  refine ok_of (N := N__law_unsorted) (k := 2) (body := b__law_unsorted) D sc__law_unsorted rfl (by decide) (fun cdv A outer s H E hr => ?_) (fun _ _ _ h => h)
  exact (ss_cons (by first | exact (ss_par2 2 3 (sv_cons (se_d1 hr.units (se_tup sv_nil) se_bl) (sv_cons (se_lst sv_nil) sv_nil)) rfl nd) | exact (ss_par2n 2 3 (sv_cons (se_d1 hr.units (se_tup sv_nil) se_bl) (sv_cons (se_lst sv_nil) sv_nil)) rfl nd))
  (ss_cons (ss_for (pi_rg2 se_int (se_op op_addD p_addD (so_var 1) se_int) M.f_range) srcR2_ok (pg_name nd (i := 4) rfl (by first | exact .inl rfl | exact .inr rfl)) (tg_name 4)
  (ss_one (ss_for (pi_any (se_fn (ok__law_orders M) hr (sa_cons (so_ex (se_var 4)) sa_nil) (fun _ _ _ _ _ _ us hl => match us, hl with | [_], _ => rfl) )) srcA_ok (pg_name nd (i := 5) rfl (by first | exact .inl rfl | exact .inr rfl)) (tg_name 5)
  (ss_cons (ss_asg 6 (se_cmp (op_eqA hr.units) p_eqD (se_fn (ok__law_made M) hr (sa_cons (so_ex (se_var 0)) (sa_cons (so_ex (se_var 5)) sa_nil)) (fun _ _ _ _ _ _ us hl => match us, hl with | [_, _], _ => rfl) ) (se_tupRg2 (rg2 se_int (se_op op_addD p_addD (so_var 4) se_int) M.f_range) rfl M.f_tuple)) nd)
  (ss_cons (ss_asg 7 (se_cmp (op_eqA hr.units) p_eqD (se_lc (pi_rg1 (se_var 4) M.f_range) (srcC_ok srcR1_ok) (blkOk_by (own := [("at", 8)]) (by first | kernel_rfl | rfl)) (tg_name 8) (fun _ _ _ _ _ => (pg_name nd (i := 8) rfl (by first | exact .inl rfl | exact .inr rfl))) (fun _ _ _ _ _ => (st_ones (st_cmp (op_ninY hr.units) p_inY (se_fn (ok__law_less M) hr (sa_cons (so_ex (se_var 5)) (sa_cons (so_ex (se_var 8)) sa_nil)) (fun _ _ _ _ _ _ us hl => match us, hl with | [_, _], _ => rfl) ) (so_var 2)))) (fun _ _ _ _ _ => (se_var 8)) rfl nd) (se_lst sv_nil)) nd)
  (ss_cons (ss_if (PW.pt (st_and (st_of (se_var 6)) (st_and1 (st_of (se_var 7))))) (ss_one (ss_put 2 se_bl (pg_sub (pv 2) (se_var 5) (set_dicU hr.units)))) ss_nil)
  (ss_one (ss_if (PW.pt (st_and (st_of (se_var 7)) (st_and1 (st_not (st_of (se_var 6)))))) (ss_one (ss_app 3 (se_var 5))) ss_nil))))) .never rfl)) .never rfl)
  (ss_one (ss_retV 3))))
abbrev N_is_sorter : List Str := ["told"]
theorem sc_is_sorter : FnScope N_is_sorter ["told"] (defScope (top 26)) := ⟨rfl, rfl, rfl, by decide +kernel, rfl, by decide +kernel, by decide +kernel⟩
def b_is_sorter : SF := (sRet (eAnd (e1 (isiD .str) (.sl 0)) (e1 (kinD T_LISTS) (.sl 0))))
def c_is_sorter : Cal := runB [false] 1 b_is_sorter
theorem ok_is_sorter (M : Md w K mg) : Ok P w K mg base 1 "is_sorter" "is_sorter" (top 26) ["told"] [false] c_is_sorter := by
  obtain ⟨a, fd, D⟩ := M.d_is_sorter
  have nd := sc_is_sorter.nd
  refine ok_of (N := N_is_sorter) (k := 0) (body := b_is_sorter) D sc_is_sorter rfl (by decide) (fun cdv A outer s H E hr => ?_) (fun _ _ _ h => h)
  exact (ss_one (ss_ret (se_and (se_isi .str (so_var 0) M.f_isinstance M.f_str bb_str) (se_one (se_kin M.t_LISTS (so_var 0))))))
abbrev N_check_sorter : List Str := ["sorter"]
theorem sc_check_sorter : FnScope N_check_sorter ["sorter"] (defScope (top 27)) := ⟨rfl, rfl, rfl, by decide +kernel, rfl, by decide +kernel, by decide +kernel⟩
def b_check_sorter : SF := (sIf (eNot (eCall [false] c_is_sorter [(.ex (eVar 0))])) sNever sNext)
def c_check_sorter : Cal := runB [false] 1 b_check_sorter
theorem ok_check_sorter (M : Md w K mg) : Ok P w K mg base 2 "check_sorter" "check_sorter" (top 27) ["sorter"] [false] c_check_sorter := by
  obtain ⟨a, fd, D⟩ := M.d_check_sorter
  have nd := sc_check_sorter.nd
  refine ok_of (N := N_check_sorter) (k := 1) (body := b_check_sorter) D sc_check_sorter rfl (by decide) (fun cdv A outer s H E hr => ?_) (fun _ _ _ h => h)
  exact (ss_one (ss_if (st_not (st_of (se_fn (ok_is_sorter M) hr (sa_cons (so_ex (se_var 0)) sa_nil) (fun _ _ _ _ _ _ us hl => match us, hl with | [_], _ => rfl) ))) (ss_one ss_never) ss_nil))
abbrev N_is_integer : List Str := ["value"]
theorem sc_is_integer : FnScope N_is_integer ["value"] (defScope (top 8)) := ⟨rfl, rfl, rfl, by decide +kernel, rfl, by decide +kernel, by decide +kernel⟩
def b_is_integer : SF := (sRet (eAnd (e1 (isiD .int) (.sl 0)) (eNot (e1 (isiD .bool) (.sl 0)))))
def c_is_integer : Cal := runB [false] 1 b_is_integer
theorem ok_is_integer (M : Md w K mg) : Ok P w K mg base 1 "is_integer" "is_integer" (top 8) ["value"] [false] c_is_integer := by
  obtain ⟨a, fd, D⟩ := M.d_is_integer
  have nd := sc_is_integer.nd
  refine ok_of (N := N_is_integer) (k := 0) (body := b_is_integer) D sc_is_integer rfl (by decide) (fun cdv A outer s H E hr => ?_) (fun _ _ _ h => h)
  exact (ss_one (ss_ret (se_and (se_isi .int (so_var 0) M.f_isinstance M.f_int bb_int) (se_one (se_not (se_isi .bool (so_var 0) M.f_isinstance M.f_bool bb_bool))))))
abbrev N_check_number : List Str := ["n"]
theorem sc_check_number : FnScope N_check_number ["n"] (defScope (top 18)) := ⟨rfl, rfl, rfl, by decide +kernel, rfl, by decide +kernel, by decide +kernel⟩
def b_check_number : SF := (sIf (eOr (eNot (eCall [false] c_is_integer [(.ex (eVar 0))])) (e2 ltD (.sl 0) (.ex (eC (.int 0))))) sNever sNext)
def c_check_number : Cal := runB [false] 1 b_check_number
theorem ok_check_number (M : Md w K mg) : Ok P w K mg base 2 "check_number" "check_number" (top 18) ["n"] [false] c_check_number := by
  obtain ⟨a, fd, D⟩ := M.d_check_number
  have nd := sc_check_number.nd
  refine ok_of (N := N_check_number) (k := 1) (body := b_check_number) D sc_check_number rfl (by decide) (fun cdv A outer s H E hr => ?_) (fun _ _ _ h => h)
  exact (ss_one (ss_if (PW.pt (st_or (st_not (st_of (se_fn (ok_is_integer M) hr (sa_cons (so_ex (se_var 0)) sa_nil) (fun _ _ _ _ _ _ us hl => match us, hl with | [_], _ => rfl) ))) (st_or1 (st_cmp op_lt p_ltD (so_var 0) se_int)))) (ss_one ss_never) ss_nil))
abbrev N_orders_of : List Str := ["n"]
theorem sc_orders_of : FnScope N_orders_of ["n"] (defScope (top 22)) := ⟨rfl, rfl, rfl, by decide +kernel, rfl, by decide +kernel, by decide +kernel⟩
def b_orders_of : SF := (sRet (e2 pmE (.ex (eC (.int 1))) (.ex (e2 addD (.sl 0) (.ex (eC (.int 1)))))))
def c_orders_of : Cal := runB [false] 1 b_orders_of
theorem ok_orders_of (M : Md w K mg) : Ok P w K mg base 1 "orders_of" "orders_of" (top 22) ["n"] [false] c_orders_of := by
  obtain ⟨a, fd, D⟩ := M.d_orders_of
  have nd := sc_orders_of.nd
  refine ok_of (N := N_orders_of) (k := 0) (body := b_orders_of) D sc_orders_of rfl (by decide) (fun cdv A outer s H E hr => ?_) (fun _ _ _ h => h)
  exact (ss_one (ss_ret (se_listPm2 (rg2 se_int (se_op op_addD p_addD (so_var 0) se_int) M.f_range) rfl M.f_list M.i_permutations)))
abbrev N_orders : List Str := ["n"]
theorem sc_orders : FnScope N_orders ["n"] (defScope (top 23)) := ⟨rfl, rfl, rfl, by decide +kernel, rfl, by decide +kernel, by decide +kernel⟩
def b_orders : SF := (sSeq (sExp (eCall [false] c_check_number [(.ex (eVar 0))]))
  (sRet (eCall [false] c_orders_of [(.ex (eVar 0))])))
def c_orders : Cal := runB [false] 1 b_orders
theorem ok_orders (M : Md w K mg) : Ok P w K mg base 3 "orders" "orders" (top 23) ["n"] [false] c_orders := by
  obtain ⟨a, fd, D⟩ := M.d_orders
  have nd := sc_orders.nd
  refine ok_of (N := N_orders) (k := 2) (body := b_orders) D sc_orders rfl (by decide) (fun cdv A outer s H E hr => ?_) (fun _ _ _ h => h)
  exact (ss_cons (ss_expr (se_fn (ok_check_number M) hr (sa_cons (so_ex (se_var 0)) sa_nil) (fun _ _ _ _ _ _ us hl => match us, hl with | [_], _ => rfl) ))
  (ss_one (ss_ret (se_fn (ok_orders_of M) hr (sa_cons (so_ex (se_var 0)) sa_nil) (fun _ _ _ _ _ _ us hl => match us, hl with | [_], _ => rfl) ))))
abbrev N_by_stack : List Str := ["order", "left", "stack", "number"]
theorem sc_by_stack : FnScope N_by_stack ["order"] (defScope (top 30)) := ⟨rfl, rfl, rfl, by decide +kernel, rfl, by decide +kernel, by decide +kernel⟩
def wc1_by_stack : EF := (eAnd (e2 neD (.sl 2) (.ex (eLst []))) (e2 ltD (.ex (e2 ixS (.sl 2) (.ex (e1 negD (.ex (eC (.int 1))))))) (.sl 3)))
def wb1_by_stack : SF := (sApp 1 (ePop 2))
def fb1_by_stack : SF := (sSeq (sWhile wc1_by_stack wb1_by_stack)
  (sApp 2 (eVar 3)))
def b_by_stack : SF := (sSeq (sPar2 [] 1 2 (eLst []) (eLst []))
  (sSeq (sFor [] [3] (srcA (eVar 0)) (tName 3)
  fb1_by_stack)
  (sRet (eN (c1 tupleD) [(.ex (e2 addD (.sl 1) (.ex (eStep (.sl 2) (e1 negD (.ex (eC (.int 1))))))))]))))
def c_by_stack : Cal := runB [false] 4 b_by_stack
theorem ok_by_stack (M : Md w K mg) : Ok P w K mg base 1 "by_stack" "by_stack" (top 30) ["order"] [false] c_by_stack := by
  obtain ⟨a, fd, D⟩ := M.d_by_stack
  have nd := sc_by_stack.nd
  refine ok_of (N := N_by_stack) (k := 0) (body := b_by_stack) D sc_by_stack rfl (by decide) (fun cdv A outer s H E hr => ?_) (fun _ _ _ h => h)
  exact (ss_cons (by first | exact (ss_par2 1 2 (sv_cons (se_lst sv_nil) (sv_cons (se_lst sv_nil) sv_nil)) rfl nd) | exact (ss_par2n 1 2 (sv_cons (se_lst sv_nil) (sv_cons (se_lst sv_nil) sv_nil)) rfl nd))
  (ss_cons (ss_for (pi_any (se_var 0)) srcA_ok (pg_name nd (i := 3) rfl (by first | exact .inl rfl | exact .inr rfl)) (tg_name 3)
  (ss_cons (ss_while (PW.pt (st_and (st_cmp (op_neA hr.units) p_neD (so_var 2) (se_lst sv_nil)) (st_and1 (st_cmp op_lt p_ltD (se_ix ix_X p_ixS (so_var 2) (se_un un_neg p_negD se_int)) (so_var 3))))) (ss_one (ss_app 1 (se_pop 2))) .never)
  (ss_one (ss_app 2 (se_var 3)))) .never rfl)
  (ss_one (ss_ret (se_callTy call_tupleF p_tupleD M.f_tuple bb_tuple (sa_cons (se_op op_addD p_addD (so_var 1) (se_step (so_var 2) (se_un un_neg p_negD se_int))) sa_nil))))))
abbrev N_by_popper : List Str := ["order", "left", "stack", "number"]
theorem sc_by_popper : FnScope N_by_popper ["order"] (defScope (top 31)) := ⟨rfl, rfl, rfl, by decide +kernel, rfl, by decide +kernel, by decide +kernel⟩
def fb1_by_popper : SF := (sSeq (sIf (eAnd (e2 neD (.sl 2) (.ex (eLst []))) (e2 ltD (.ex (e2 ixS (.sl 2) (.ex (e1 negD (.ex (eC (.int 1))))))) (.sl 3))) (sSeq (sExt 1 (.ex (eStep (.sl 2) (e1 negD (.ex (eC (.int 1)))))))
  (sAsg [] 2 (eLst []))) sNext)
  (sApp 2 (eVar 3)))
def b_by_popper : SF := (sSeq (sPar2 [] 1 2 (eLst []) (eLst []))
  (sSeq (sFor [] [3] (srcA (eVar 0)) (tName 3)
  fb1_by_popper)
  (sRet (eN (c1 tupleD) [(.ex (e2 addD (.sl 1) (.ex (eStep (.sl 2) (e1 negD (.ex (eC (.int 1))))))))]))))
def c_by_popper : Cal := runB [false] 4 b_by_popper
theorem ok_by_popper (M : Md w K mg) : Ok P w K mg base 1 "by_popper" "by_popper" (top 31) ["order"] [false] c_by_popper := by
  obtain ⟨a, fd, D⟩ := M.d_by_popper
  have nd := sc_by_popper.nd
  refine ok_of (N := N_by_popper) (k := 0) (body := b_by_popper) D sc_by_popper rfl (by decide) (fun cdv A outer s H E hr => ?_) (fun _ _ _ h => h)
  exact (ss_cons (by first | exact (ss_par2 1 2 (sv_cons (se_lst sv_nil) (sv_cons (se_lst sv_nil) sv_nil)) rfl nd) | exact (ss_par2n 1 2 (sv_cons (se_lst sv_nil) (sv_cons (se_lst sv_nil) sv_nil)) rfl nd))
  (ss_cons (ss_for (pi_any (se_var 0)) srcA_ok (pg_name nd (i := 3) rfl (by first | exact .inl rfl | exact .inr rfl)) (tg_name 3)
  (ss_cons (ss_if (PW.pt (st_and (st_cmp (op_neA hr.units) p_neD (so_var 2) (se_lst sv_nil)) (st_and1 (st_cmp op_lt p_ltD (se_ix ix_X p_ixS (so_var 2) (se_un un_neg p_negD se_int)) (so_var 3))))) (ss_cons (ss_ext 1 (se_step (so_var 2) (se_un un_neg p_negD se_int)))
  (ss_one (ss_asg 2 (se_lst sv_nil) nd))) ss_nil)
  (ss_one (ss_app 2 (se_var 3)))) .never rfl)
  (ss_one (ss_ret (se_callTy call_tupleF p_tupleD M.f_tuple bb_tuple (sa_cons (se_op op_addD p_addD (so_var 1) (se_step (so_var 2) (se_un un_neg p_negD se_int))) sa_nil))))))
abbrev N_merged : List Str := ["one", "other", "left", "i", "j"]
theorem sc_merged : FnScope N_merged ["one", "other"] (defScope (top 32)) := ⟨rfl, rfl, rfl, by decide +kernel, rfl, by decide +kernel, by decide +kernel⟩
def wc1_merged : EF := (eAnd (e2 ltD (.sl 3) (.ex (eN (c1 lenD) [(.sl 0)]))) (e2 ltD (.sl 4) (.ex (eN (c1 lenD) [(.sl 1)]))))
def wb1_merged : SF := (sIf (e2 ltD (.ex (e2 ixS (.sl 0) (.sl 3))) (.ex (e2 ixS (.sl 1) (.sl 4)))) (sSeq (sApp 2 (e2 ixS (.sl 0) (.sl 3)))
  (sAug [] 3 (fun i j => i + j) (eC (.int 1)))) (sSeq (sApp 2 (e2 ixS (.sl 1) (.sl 4)))
  (sAug [] 4 (fun i j => i + j) (eC (.int 1)))))
def b_merged : SF := (sSeq (sPar3 [] 2 3 4 (eLst []) (eC (.int 0)) (eC (.int 0)))
  (sSeq (sWhile wc1_merged wb1_merged)
  (sRet (e2 addD (.ex (e2 addD (.sl 2) (.ex (eSl slS (.sl 0) (some (eVar 3)) none)))) (.ex (eSl slS (.sl 1) (some (eVar 4)) none))))))
def c_merged : Cal := runB [false, false] 5 b_merged
theorem ok_merged (M : Md w K mg) : Ok P w K mg base 1 "merged" "merged" (top 32) ["one", "other"] [false, false] c_merged := by
  obtain ⟨a, fd, D⟩ := M.d_merged
  have nd := sc_merged.nd
  refine ok_of (N := N_merged) (k := 0) (body := b_merged) D sc_merged rfl (by decide) (fun cdv A outer s H E hr => ?_) (fun _ _ _ h => h)
  exact (ss_cons (by first | exact (ss_par3 2 3 4 (sv_cons (se_lst sv_nil) (sv_cons se_int (sv_cons se_int sv_nil))) rfl nd) | exact (ss_par3n 2 3 4 (sv_cons (se_lst sv_nil) (sv_cons se_int (sv_cons se_int sv_nil))) rfl nd))
  (ss_cons (ss_while (PW.pt (st_and (st_cmp op_lt p_ltD (so_var 3) (se_callB call_len p_lenD M.f_len bb_len (sa_cons (so_var 0) sa_nil))) (st_and1 (st_cmp op_lt p_ltD (so_var 4) (se_callB call_len p_lenD M.f_len bb_len (sa_cons (so_var 1) sa_nil)))))) (ss_one (ss_if (st_cmp op_lt p_ltD (se_ix ix_X p_ixS (so_var 0) (so_var 3)) (se_ix ix_X p_ixS (so_var 1) (so_var 4))) (ss_cons (ss_app 2 (se_ix ix_X p_ixS (so_var 0) (so_var 3)))
  (ss_one (ss_aug 3 ip_add se_int nd))) (ss_cons (ss_app 2 (se_ix ix_X p_ixS (so_var 1) (so_var 4)))
  (ss_one (ss_aug 4 ip_add se_int nd))))) .never)
  (ss_one (ss_ret (se_op op_addD p_addD (se_op op_addD p_addD (so_var 2) (se_slice sl_X p_slS (so_var 0) (sp_some (se_var 3)) sp_none)) (se_slice sl_X p_slS (so_var 1) (sp_some (se_var 4)) sp_none))))))
end
end Wk

namespace PI
open PySem PySem.Spec PyProof.Rows L2
/-- names that own nothing -/
theorem re_flat {K : PySem.W.Frag} {env : PI.Env} {σ : L2.St} {H : Hp} (hl : env.length = σ.length) (hs : ∀ (i : Nat) (x : Bool × PI.D), env[i]? = some (some x) → x.1 = false ∧ ∃ v : V, σ[i]? = some (some v) ∧ Rep K (fun _ => False) H v x.2) : Re K Z0 env σ H := by
  have no : ∀ a, ¬ Own env σ a := fun a ⟨i, d, e1, e2⟩ => by
    have := (hs i _ e1).1
    cases this
  refine ⟨hl, fun i d e => ?_, fun i d e => ?_, fun i j d e a e1 e2 s1 s2 => ?_, fun a o z => (nomatch z), fun a z => z.elim⟩
  · obtain ⟨_, v, h1, h2⟩ := hs i _ e
    exact ⟨v, h1, h2.less fun a z => z.elim (fun z => (no a z).elim) id⟩
  · have := (hs i _ e).1
    cases this
  · have := (hs i _ e1).1
    cases this
end PI
namespace Wk
open PySem PySem.Spec PyProof.Rows L2 PI
section
variable {P : Program} {w : World} {K : PySem.W.Frag} {mg : Str → Option Value} {base : Heap}
abbrev N_by_queues : List Str := ["order", "rows", "number", "free", "row"]
theorem sc_by_queues : FnScope N_by_queues ["order"] (defScope (top 33)) := ⟨rfl, rfl, rfl, by decide +kernel, rfl, by decide +kernel, by decide +kernel⟩
def fits (l : List Int) (x : Int) : Bool := match l.getLast? with
  | none => true
  | some y => decide (y < x)
def qStep (p : List Int × List Int) (x : Int) : List Int × List Int := if fits p.1 x then (p.1 ++ [x], p.2) else if fits p.2 x then (p.1, p.2 ++ [x]) else (p.1 ++ [x], p.2)
def qRows (is : List Int) : List Int × List Int := is.foldl qStep ([], [])
def c_by_queues : Cal
  | [.tup es] => (toInts es).bind fun is => if is.length < 1000 then (c_merged [.lst (zL (qRows is).1), .lst (zL (qRows is).2)]).bind fun r => match r.1 with
    | (true, .lst m) => some ((false, .tup m), [])
    | _ => none
    else none
  | _ => none
def eTestQ : EF := (eOr (e2 eqD (.sl 4) (.ex (eLst []))) (e2 ltD (.ex (e2 ixD (.sl 4) (.ex (e1 negD (.ex (eC (.int 1))))))) (.sl 2)))
def eFreeQ : EF := (e2 neD (.sl 3) (.ex (eLst [])))
theorem testQ (x0 x1 x3 : Option (Bool × PI.D)) (l : List Int) (n : Int) : eTestQ [x0, x1, some (false, .int n), x3, some (false, .lst (zL l))] = some ((false, .bl (fits l n)), [x0, x1, some (false, .int n), x3, some (false, .lst (zL l))]) := by
  unfold eTestQ eOr
  have h1 : e2 eqD (.sl 4) (.ex (eLst [])) [x0, x1, some (false, .int n), x3, some (false, .lst (zL l))] = some ((false, .bl (decide (l = []))), [x0, x1, some (false, .int n), x3, some (false, .lst (zL l))]) := by
    show ((eqD (.lst (zL l)) (.lst [])).bind fun w => some (w, _)) = _
    unfold eqD
    rw [eqL0]
    rfl
  rw [h1]
  by_cases h : l = []
  · subst h
    rfl
  · rw [decide_eq_false h]
    have e : ixD (.lst (zL l)) (.int (-1)) = (l.getLast?.map PI.D.int).bind fun e => some (false, e) := by
      show (atI (zL l) (-1)).bind _ = _
      rw [at_last, zL_last]
    have h2 : e2 ixD (.sl 4) (.ex (e1 negD (.ex (eC (.int 1))))) [x0, x1, some (false, .int n), x3, some (false, .lst (zL l))] = (l.getLast?.map PI.D.int).bind fun d => some ((false, d), [x0, x1, some (false, .int n), x3, some (false, .lst (zL l))]) := by
      show (ixD (.lst (zL l)) (.int (-1))).bind _ = _
      rw [e]
      cases l.getLast? <;> rfl
    show ((e2 ixD (.sl 4) (.ex (e1 negD (.ex (eC (.int 1))))) [x0, x1, some (false, .int n), x3, some (false, .lst (zL l))]).bind fun r => some (Op.val r.1.2, r.2)).bind _ = _
    rw [h2]
    cases hl : l.getLast? with
    | none => exact absurd (List.getLast?_eq_none_iff.mp hl) h
    | some y =>
      have : fits l n = decide (y < n) := by unfold fits; rw [hl]
      rw [this]
      rfl
theorem freeQ (x0 x1 x2 x4 : Option (Bool × PI.D)) (fs : List (List Int)) : eFreeQ [x0, x1, x2, some (false, .lst (fs.map fun l => PI.D.lst (zL l))), x4] = some ((false, .bl (!decide (fs = []))), [x0, x1, x2, some (false, .lst (fs.map fun l => PI.D.lst (zL l))), x4]) := by
  show ((neD (.lst (fs.map fun l => PI.D.lst (zL l))) (.lst [])).bind fun w => some (w, _)) = _
  unfold neD
  rw [eqB_lst0 enc_zl (by decide)]
  rfl
abbrev rTupQ (K : PySem.W.Frag) : List V → Hp → VK → Prop := fun xs H Q => ∃ p ys, xs = [.ref p] ∧ ((SqL K H p ys ∧ NewT H ys Q) ∨ (SqT K H p ys ∧ Q (.ref p) H))
def tLoopQ (K : PySem.W.Frag) : TS := tSeq (tAsg (tLc (iTup K (tVar 1)) (gName 4) (STr K eTestQ) (tVar 4) [4]) (gName 3)) (tSeq (tAsg (tIf (STr K eFreeQ) (tOp (rIxL K) (tVar 3) (tC (.int 0))) (tOp (rIxT K) (tVar 1) (tC (.int 0)))) (gName 4)) (tDrop (tBM K "list" rAppend (tVar 4) (tCons (tVar 2) tNil))))
def tBodyQ (K : PySem.W.Frag) : TS := tSeq (tAsg (tTup (tCons (tLst tNil) (tCons (tLst tNil) tNil))) (gName 1)) (tSeq (tFor (iTup K (tVar 0)) (gName 2) (tLoopQ K))
  (tRet (tCB (rTupQ K) (tCons (tCall (spOf K [false, false] c_merged) [] E0 (tCons (tOp (rIxT K) (tVar 1) (tC (.int 0))) (tCons (tOp (rIxT K) (tVar 1) (tC (.int 1))) tNil))) tNil))))
/-- both rows, in their places -/
structure QH (A B T : Addr) (H0 : Hp) (p : List Int × List Int) (H : Hp) : Prop where
  hT : H T = some (.tup [.ref A, .ref B])
  hA : H A = some (.lst (p.1.map V.int))
  hB : H B = some (.lst (p.2.map V.int))
  old : ∀ a o, H0 a = some o → H a = some o
theorem QH.grow {A B T : Addr} {H0 H H' : Hp} {p : List Int × List Int} (q : QH A B T H0 p H) (h : ∀ a o, H a = some o → H' a = some o) : QH A B T H0 p H' := ⟨h _ _ q.hT, h _ _ q.hA, h _ _ q.hB, fun a o e => h _ _ (q.old a o e)⟩
theorem rep_row {C : Addr} {H : Hp} {l : List Int} (h : H C = some (.lst (l.map V.int))) : Rep K (fun _ => False) H (.ref C) (.lst (zL l)) := .lst h id (.ints l)
theorem pure_loopQ {A B T a0 : Addr} {H0 H : Hp} {n : Int} {p : List Int × List Int} {x3 x4 : Option V} {D : Ends} (hAB : A ≠ B) (hAT : A ≠ T) (hBT : B ≠ T) (nA : H0 A = none) (nB : H0 B = none) (hz1 : p.1.length < 1000) (hz2 : p.2.length < 1000) (q : QH A B T H0 p H)
    (hD : ∀ x3 x4 H', QH A B T H0 (qStep p n) H' → D.nx [some (.ref a0), some (.ref T), some (.int n), x3, x4] H') : tLoopQ K D [some (.ref a0), some (.ref T), some (.int n), x3, x4] H := by
  obtain ⟨l1, l2⟩ := p
  let rows : List (Addr × List Int) := [(A, l1), (B, l2)]
  refine ⟨.ref T, rfl, T, rfl, ⟨[.ref A, .ref B], .inl (.inl q.hT)⟩, fun L hL => ?_⟩
  have qL : QH A B T H0 (l1, l2) (upd H L (.lst [])) := q.grow (keep_upd hL)
  have LA : A ≠ L := fun e => by rw [← e, q.hA] at hL; cases hL
  have LB : B ≠ L := fun e => by rw [← e, q.hB] at hL; cases hL
  have LT : T ≠ L := fun e => by rw [← e, q.hT] at hL; cases hL
  have LO : ∀ a o, H0 a = some o → a ≠ L := fun a o z e => by rw [← e, q.old a o z] at hL; cases hL
  let acc : Nat → List (Addr × List Int) := fun i => (rows.take i).filter fun r => fits r.2 n
  have key := lc_it (J := Itt K T) (n := [V.ref A, V.ref B].length) (G := fun H => SqT K H T [.ref A, .ref B]) (Y := YAt [.ref A, .ref B]) walk_tup (g := gName 4) (tt := STr K eTestQ) (te := tVar 4) (vs := [4]) (σ := [some (V.ref a0), some (V.ref T), some (V.int n), x3, x4]) (H1 := H) (D := L)
    (Qd := fun H1 => gName 3 (.ref L) [some (.ref a0), some (.ref T), some (.int n), x3, x4] H1 fun σ1 H1 => (tSeq (tAsg (tIf (STr K eFreeQ) (tOp (rIxL K) (tVar 3) (tC (.int 0))) (tOp (rIxT K) (tVar 1) (tC (.int 0)))) (gName 4)) (tDrop (tBM K "list" rAppend (tVar 4) (tCons (tVar 2) tNil)))) D σ1 H1)
    (fun i H' => QH A B T H0 (l1, l2) H' ∧ H' L = some (.lst ((acc i).map fun r => V.ref r.1))) ⟨qL, upd_same⟩ (fun i H' hi hP => .inl (.inl hP.1.hT)) (fun i x H' H2 hi hP hY => ?_) (fun H' hP => ?_)
  · exact key
  · obtain ⟨rfl, hx⟩ := hY
    obtain ⟨qi, hLi⟩ := hP
    have row : ∃ C l, rows[i]? = some (C, l) ∧ x = .ref C ∧ H2 C = some (.lst (l.map V.int)) := by
      have hi : i < 2 := hi
      rcases (by omega : i = 0 ∨ i = 1) with rfl | rfl
      · cases hx
        exact ⟨A, l1, rfl, rfl, qi.hA⟩
      · cases hx
        exact ⟨B, l2, rfl, rfl, qi.hB⟩
    obtain ⟨C, l, hr, rfl, hC⟩ := row
    have st : acc (i + 1) = acc i ++ (if fits l n then [(C, l)] else []) := by
      show (rows.take (i + 1)).filter _ = (rows.take i).filter _ ++ _
      rw [List.take_add_one, List.filter_append, hr]
      congr 1
      show List.filter (fun r => fits r.2 n) [(C, l)] = _
      cases hf : fits l n <;> simp [hf]
    refine ⟨rfl, Z0, [none, none, some (false, .int n), none, some (false, .lst (zL l))], false, fits l n, _, re_flat rfl (fun j y e => ?_), testQ _ _ _ l n, fun H3 R3 t3 => ?_⟩
    · rcases j with _ | _ | _ | _ | _ | j
      · cases e
      · cases e
      · cases e
        exact ⟨rfl, .int n, rfl, .int n⟩
      · cases e
      · cases e
        exact ⟨rfl, .ref C, rfl, rep_row hC⟩
      · cases e
    · have gr : ∀ a o, H2 a = some o → H3 a = some o := fun a o z => t3.keep a o z fun ⟨j, d, e, _⟩ => by
        rcases j with _ | _ | _ | _ | _ | j <;> cases e
      have q3 := qi.grow gr
      cases hf : fits l n with
      | false =>
        rw [hf] at st
        refine iteF ⟨q3, ?_⟩
        rw [st, if_neg (by decide), List.append_nil]
        exact gr _ _ hLi
      | true =>
        rw [hf] at st
        refine iteT ⟨.ref C, rfl, _, gr _ _ hLi, ?_, ?_, ?_⟩
        · rw [List.length_map]
          have h1 : (acc i).length ≤ (rows.take i).length := List.length_filter_le _ _
          have h2 : (rows.take i).length ≤ 2 := by rw [List.length_take]; exact Nat.min_le_right _ _
          have h3 : (2 : Nat) < sizeLine := by decide
          omega
        · refine ⟨?_, ?_, ?_, fun a o z => ?_⟩
          · rw [upd_ne LT]; exact q3.hT
          · rw [upd_ne LA]; exact q3.hA
          · rw [upd_ne LB]; exact q3.hB
          · rw [upd_ne (LO a o z)]; exact q3.old a o z
        · rw [upd_same, st, if_pos rfl, List.map_append]
          rfl
  · obtain ⟨qi, hLi⟩ := hP
    have e2 : acc [V.ref A, V.ref B].length = rows.filter fun r => fits r.2 n := rfl
    rw [e2] at hLi
    let fs := rows.filter fun r => fits r.2 n
    have hrep : RepAll K (fun _ => False) H' (fs.map fun r => V.ref r.1) ((fs.map (·.2)).map fun l => PI.D.lst (zL l)) := by
      have all : ∀ r ∈ fs, H' r.1 = some (.lst (r.2.map V.int)) := fun r hr => by
        have hr := (List.mem_filter.mp hr).1
        rcases List.mem_cons.mp hr with rfl | hr
        · exact qi.hA
        · rcases List.mem_cons.mp hr with rfl | hr
          · exact qi.hB
          · cases hr
      revert all
      generalize fs = gs
      intro all
      induction gs with
      | nil => exact .nil
      | cons r gs ih => exact .cons (rep_row (all r List.mem_cons_self)) (ih fun r' h => all r' (List.mem_cons_of_mem _ h))
    refine ⟨Z0, [none, none, none, some (false, .lst ((fs.map (·.2)).map fun l => PI.D.lst (zL l))), none], false, !decide (fs.map (·.2) = []), _, re_flat rfl (fun j y e => ?_), freeQ _ _ _ _ _, fun H3 R3 t3 => ?_⟩
    · rcases j with _ | _ | _ | _ | _ | j
      · cases e
      · cases e
      · cases e
      · cases e
        exact ⟨rfl, .ref L, rfl, .lst hLi id hrep⟩
      · cases e
      · cases e
    · have gr : ∀ a o, H' a = some o → H3 a = some o := fun a o z => t3.keep a o z fun ⟨j, d, e, _⟩ => by
        rcases j with _ | _ | _ | _ | _ | j <;> cases e
      have q3 := qi.grow gr
      have hL3 := gr _ _ hLi
      have app1 : ∀ y3, (tDrop (tBM K "list" rAppend (tVar 4) (tCons (tVar 2) tNil))) D [some (.ref a0), some (.ref T), some (.int n), y3, some (.ref A)] H3 ∨ qStep (l1, l2) n ≠ (l1 ++ [n], l2) := fun y3 => by
        by_cases hq : qStep (l1, l2) n = (l1 ++ [n], l2)
        · refine .inl ⟨.ref A, rfl, .inl ⟨rfl, _, .inl (.inl q3.hA)⟩, .int n, rfl, A, _, _, rfl, rfl, q3.hA, ?_, ?_⟩
          · rw [List.length_map]
            exact Nat.lt_trans hz1 (by decide)
          · refine hD _ _ _ ?_
            rw [hq]
            refine ⟨?_, ?_, ?_, fun a o z => ?_⟩
            · rw [upd_ne hAT.symm]; exact q3.hT
            · rw [upd_same, List.map_append]; rfl
            · rw [upd_ne hAB.symm]; exact q3.hB
            · rw [upd_ne fun e => by rw [e, nA] at z; cases z]; exact q3.old a o z
        · exact .inr hq
      have app2 : ∀ y3, (tDrop (tBM K "list" rAppend (tVar 4) (tCons (tVar 2) tNil))) D [some (.ref a0), some (.ref T), some (.int n), y3, some (.ref B)] H3 ∨ qStep (l1, l2) n ≠ (l1, l2 ++ [n]) := fun y3 => by
        by_cases hq : qStep (l1, l2) n = (l1, l2 ++ [n])
        · refine .inl ⟨.ref B, rfl, .inl ⟨rfl, _, .inl (.inl q3.hB)⟩, .int n, rfl, B, _, _, rfl, rfl, q3.hB, ?_, ?_⟩
          · rw [List.length_map]
            exact Nat.lt_trans hz2 (by decide)
          · refine hD _ _ _ ?_
            rw [hq]
            refine ⟨?_, ?_, ?_, fun a o z => ?_⟩
            · rw [upd_ne hBT.symm]; exact q3.hT
            · rw [upd_ne hAB]; exact q3.hA
            · rw [upd_same, List.map_append]; rfl
            · rw [upd_ne fun e => by rw [e, nB] at z; cases z]; exact q3.old a o z
        · exact .inr hq
      cases h1 : fits l1 n with
      | true =>
        have ef : fs = (A, l1) :: ([(B, l2)].filter fun r => fits r.2 n) := by
          show List.filter _ _ = _
          rw [List.filter_cons_of_pos (by exact h1)]
        have eq1 : qStep (l1, l2) n = (l1 ++ [n], l2) := by unfold qStep; rw [if_pos h1]
        have hd : (!decide (fs.map (·.2) = [])) = true := by rw [ef]; rfl
        rw [hd]
        refine iteT ⟨.ref L, rfl, L, _, 0, .ref A, rfl, rfl, .inl (.inl hL3), ?_, (app1 _).resolve_right fun z => z eq1⟩
        rw [at_0]
        show (fs.map _)[0]? = _
        rw [ef]
        rfl
      | false =>
        cases h2 : fits l2 n with
        | true =>
          have ef : fs = [(B, l2)] := by
            show List.filter _ _ = _
            rw [List.filter_cons_of_neg (by simp [h1]), List.filter_cons_of_pos (by exact h2)]
            rfl
          have eq1 : qStep (l1, l2) n = (l1, l2 ++ [n]) := by unfold qStep; rw [if_neg (by simp [h1]), if_pos h2]
          have hd : (!decide (fs.map (·.2) = [])) = true := by rw [ef]; rfl
          rw [hd]
          refine iteT ⟨.ref L, rfl, L, _, 0, .ref B, rfl, rfl, .inl (.inl hL3), ?_, (app2 _).resolve_right fun z => z eq1⟩
          rw [at_0]
          show (fs.map _)[0]? = _
          rw [ef]
          rfl
        | false =>
          have ef : fs = [] := by
            show List.filter _ _ = _
            rw [List.filter_cons_of_neg (by simp [h1]), List.filter_cons_of_neg (by simp [h2])]
            rfl
          have eq1 : qStep (l1, l2) n = (l1 ++ [n], l2) := by unfold qStep; rw [if_neg (by simp [h1]), if_neg (by simp [h2])]
          have hd : (!decide (fs.map (·.2) = [])) = false := by rw [ef]; rfl
          rw [hd]
          exact iteF ⟨.ref T, rfl, T, _, 0, .ref A, rfl, rfl, .inl (.inl q3.hT), rfl, (app1 _).resolve_right fun z => z eq1⟩
theorem qRows_len (is : List Int) : (qRows is).1.length ≤ is.length ∧ (qRows is).2.length ≤ is.length := by
  have key : ∀ (is : List Int) (p : List Int × List Int), (is.foldl qStep p).1.length ≤ p.1.length + is.length ∧ (is.foldl qStep p).2.length ≤ p.2.length + is.length := by
    intro is
    induction is with
    | nil => intro p; exact ⟨Nat.le_refl _, Nat.le_refl _⟩
    | cons x is ih =>
      intro p
      have st : (qStep p x).1.length ≤ p.1.length + 1 ∧ (qStep p x).2.length ≤ p.2.length + 1 := by
        unfold qStep
        split
        · exact ⟨by simp, by simp⟩
        · split
          · exact ⟨by simp, by simp⟩
          · exact ⟨by simp, by simp⟩
      obtain ⟨h1, h2⟩ := ih (qStep p x)
      rw [List.foldl_cons, List.length_cons]
      exact ⟨by omega, by omega⟩
  have := key is ([], [])
  simpa [qRows] using this
theorem qRows_take {is : List Int} {i : Nat} {x : Int} (h : is[i]? = some x) : qRows (is.take (i + 1)) = qStep (qRows (is.take i)) x := by
  unfold qRows
  rw [List.take_add_one, h, List.foldl_append]
  rfl
theorem pure_bodyQ {vs : List V} {H : Hp} {Q : VK} {E : XK} (h : spOf K [false] c_by_queues vs H Q E) : tBodyQ K { nx := fun _ H' => Q .non H', rt := Q } (L2.start N_by_queues vs) H := by
  obtain ⟨S, ds, w', outs, hS, hM, hA, nd, hf, q⟩ := h
  cases hA with
  | cons a1 a2 =>
    cases a2
    rename_i v d
    have a1 : Rep K S H v d := a1
    cases d with
    | tup es =>
      have hf : ((toInts es).bind fun is => if is.length < 1000 then (c_merged [.lst (zL (qRows is).1), .lst (zL (qRows is).2)]).bind fun r => match r.1 with
        | (true, .lst m) => some ((false, .tup m), [])
        | _ => none
        else none) = some (w', outs) := hf
      obtain ⟨is, hi, hf⟩ := obind hf
      split at hf
      · rename_i hlen
        obtain ⟨⟨⟨fr, dm⟩, om⟩, hm, hf⟩ := obind hf
        have key : ∃ m, fr = true ∧ dm = .lst m ∧ w' = (false, .tup m) ∧ outs = [] := by
          cases fr with
          | false => cases dm <;> cases hf
          | true =>
            cases dm with
            | lst m =>
              cases hf
              exact ⟨m, rfl, rfl, rfl, rfl⟩
            | _ => cases hf
        obtain ⟨m, rfl, rfl, rfl, rfl⟩ := key
        obtain ⟨a0, us, rfl, ta, ra⟩ := a1.tupD
        have e0 := toInts_ok hi
        subst e0
        have e1 := ra.of_ints
        subst e1
        refine ⟨Nat.zero_le _, fun A hA0 => ⟨Nat.zero_le _, fun B hB0 => ⟨show 2 ≤ sizeLine by decide, fun T hT0 => ?_⟩⟩⟩
        have hBA : B ≠ A := fun e => by rw [e, upd_same] at hB0; cases hB0
        have hB1 : H B = none := by rw [upd_ne hBA] at hB0; exact hB0
        have hTB : T ≠ B := fun e => by rw [e, upd_same] at hT0; cases hT0
        rw [upd_ne hTB] at hT0
        have hTA : T ≠ A := fun e => by rw [e, upd_same] at hT0; cases hT0
        rw [upd_ne hTA] at hT0
        have q0 : QH A B T H ([], []) (upd (upd (upd H A (.lst [])) B (.lst [])) T (.tup [.ref A, .ref B])) := by
          refine ⟨upd_same, ?_, ?_, fun a o z => ?_⟩
          · rw [upd_ne hTA.symm, upd_ne hBA.symm, upd_same]; rfl
          · rw [upd_ne hTB.symm, upd_same]; rfl
          · have nT : a ≠ T := fun e => by rw [e, hT0] at z; cases z
            have nB : a ≠ B := fun e => by rw [e, hB1] at z; cases z
            have nA : a ≠ A := fun e => by rw [e, hA0] at z; cases z
            rw [upd_ne nT, upd_ne nB, upd_ne nA]
            exact z
        have sq : ∀ {p H'}, QH A B T H p H' → SqT K H' a0 (is.map V.int) := fun {p H'} qh => (ta.step (S' := fun _ => False) (fun a o z _ => qh.old a o z) fun a z => z.elim).sq
        refine ⟨.ref a0, rfl, a0, rfl, ⟨_, sq q0⟩, for_it walk_tup (fun k σ' H' => (∃ x2 x3 x4, σ' = [some (.ref a0), some (.ref T), x2, x3, x4]) ∧ QH A B T H (qRows (is.take k)) H') ⟨⟨_, _, _, rfl⟩, by rw [List.take_zero]; exact q0⟩ (fun i σ' H' _ hP => sq hP.2) (fun i x σ' H' H2 hi hP hY => ?_) fun σ' H' hP => ?_⟩
        · obtain ⟨rfl, hx⟩ := hY
          obtain ⟨⟨x2, x3, x4, rfl⟩, qi⟩ := hP
          rw [List.getElem?_map] at hx
          cases hz : is[i]? with
          | none =>
            rw [hz] at hx
            cases hx
          | some z =>
            rw [hz] at hx
            cases hx
            have hl := qRows_len (is.take i)
            have hl2 : (is.take i).length ≤ is.length := by rw [List.length_take]; exact Nat.min_le_right _ _
            refine pure_loopQ hBA.symm hTA.symm hTB.symm hA0 hB1 (by omega) (by omega) qi fun y3 y4 H4 q4 => ?_
            refine ⟨⟨_, _, _, rfl⟩, ?_⟩
            rw [qRows_take hz]
            exact q4
        · obtain ⟨⟨x2, x3, x4, rfl⟩, qi⟩ := hP
          rw [List.length_map, List.take_length] at qi
          have nS : ∀ {C : Addr}, H C = none → ¬ S C := fun {C} hn z => hS C z hn
          refine ⟨.ref T, rfl, T, _, 0, .ref A, rfl, rfl, .inl (.inl qi.hT), rfl, .ref T, rfl, T, _, 1, .ref B, rfl, rfl, .inl (.inl qi.hT), rfl, S, [.lst (zL (qRows is).1), .lst (zL (qRows is).2)], _, _, fun a z => ?_, fun a z => (nomatch (show V.ref a ∈ ([] : List V) from z)),
            .cons (m := false) (.lst qi.hA (nS hA0) (.ints _)) (.cons (m := false) (.lst qi.hB (nS hB1) (.ints _)) .nil), .nil, hm, fun v H2 cp => ?_⟩
          · intro e
            cases z2 : H a with
            | none => exact hS a z z2
            | some o =>
              rw [qi.old a o z2] at e
              cases e
          · obtain ⟨a, o2, us, xs, rfl, e2, h3, h4, h5⟩ := cp.new rfl
            obtain ⟨rfl, rfl⟩ := e2.lstD
            have gr : ∀ b o, H b = some o → H2 b = some o := fun b o z => cp.keep b o (qi.old b o z) fun z => (nomatch (show V.ref b ∈ ([] : List V) from z))
            refine ⟨a, us, rfl, .inl ⟨.inl (.inl h4), fun l ob hl hd => q (.ref l) _ ⟨fun b o z _ => keep_upd hl b o (gr b o z), fun b z => ?_, .nil, fun _ => ?_, fun z => (nomatch z)⟩⟩⟩
            · cases z2 : H b with
              | none => exact absurd z2 z
              | some o =>
                rw [keep_upd hl b o (gr b o z2)]
                exact fun z => (nomatch z)
            · have nl : ¬ S l := fun z => by
                cases z2 : H l with
                | none => exact hS l z z2
                | some o =>
                  rw [gr l o z2] at hl
                  cases hl
              exact rep_tup hl hd nl (h5.less fun b z => .inl z)
      · cases hf
    | _ => cases hf
theorem ok_by_queues (M : Md w K mg) : Ok P w K mg base 2 "by_queues" "by_queues" (top 33) ["order"] [false] c_by_queues := by
  obtain ⟨a, fd, D⟩ := M.d_by_queues
  have nd := sc_by_queues.nd
  obtain ⟨am, fm, Fm, Dm⟩ := (ok_merged (P := P) (base := base) M).ex
  refine ⟨a, fd, D.fn.ok sc_by_queues (fun vs H Q E h => ?_) (fun cdv A outer s H vs Q E hr h => ⟨tBodyQ K, PSs.nox ?_, pure_bodyQ h⟩), D⟩
  · obtain ⟨S', ds, w', outs, _, _, hA, _⟩ := h
    exact hA.len1.1
  · exact pss_cons (ps_set (i := 1) nd rfl (by first | exact .inl rfl | exact .inr rfl) (pe_tup (pa_cons (pe_lst pa_nil) (pa_cons (pe_lst pa_nil) pa_nil))))
      (pss_cons (ps_for .never rfl (pi_tup (pv 0)) (pg_name nd (i := 2) rfl (by first | exact .inl rfl | exact .inr rfl))
        (pss_cons (ps_setLc (i := 3) rfl nd rfl rfl (sw_true rfl rfl rfl rfl) (pi_tup (pv 1)) (blkOk_by (own := [("row", 4)]) (by first | kernel_rfl | rfl)) (fun _ _ _ _ _ => pg_name nd (i := 4) rfl (by first | exact .inl rfl | exact .inr rfl))
            (fun _ _ _ _ _ => pts_one (PW.pt (st_or (st_cmp (op_eqA hr.units) p_eqD (so_var 4) (se_lst sv_nil)) (st_or1 (st_cmp op_lt p_ltD (se_ix ix_A p_ixD (so_var 4) (se_un un_neg p_negD se_int)) (so_var 2)))))) (fun _ _ _ _ _ => pv 4))
          (pss_cons (ps_set (i := 4) nd rfl (by first | exact .inl rfl | exact .inr rfl) (pe_ifExp (st_cmp (op_neA hr.units) p_neD (so_var 3) (se_lst sv_nil)) (pe_ix ix_list (pv 3) pe_int (fun _ _ => rfl)) (pe_ix ix_tup (pv 1) pe_int (fun _ _ => rfl))))
            (pss_one (ps_expr (pe_bm PySem.F.plainAttrs_list PySem.F.slot_list_append PySem.F.type_list_append mt_append (pv 4) (pa_cons (pv 2) pa_nil)))))))
        (pss_one (ps_ret (pe_callTy call_tupleF rfl M.f_tuple bb_tuple (pa_cons (pe_call Fm (hr.mono (by decide)) rfl Dm.gl Dm.fn.kp (Dm.fn.bindsN fun _ _ _ _ _ _ us hl => match us, hl with | [_, _], _ => rfl) .nil pass0 (pa_cons (pe_ix ix_tup (pv 1) pe_int (fun _ _ => rfl)) (pa_cons (pe_ix ix_tup (pv 1) pe_int (fun _ _ => rfl)) pa_nil))) pa_nil)))))
end
end Wk

namespace Wk
open PySem PySem.Spec PyProof.Rows L2 PI
section
variable {P : Program} {w : World} {K : PySem.W.Frag} {mg : Str → Option Value} {base : Heap}

abbrev N_by_bubble : List Str := ["order", "left", "number"]
theorem sc_by_bubble : FnScope N_by_bubble ["order"] (defScope (top 34)) := ⟨rfl, rfl, rfl, by decide +kernel, rfl, by decide +kernel, by decide +kernel⟩
def fb1_by_bubble : SF := (sIf (eAnd (e2 neD (.sl 1) (.ex (eLst []))) (e2 ltD (.sl 2) (.ex (e2 ixS (.sl 1) (.ex (e1 negD (.ex (eC (.int 1))))))))) (sIns 1 (e2 subD (.ex (eN (c1 lenD) [(.sl 1)])) (.ex (eC (.int 1)))) (eVar 2)) (sApp 1 (eVar 2)))
def b_by_bubble : SF := (sSeq (sAsg [] 1 (eLst []))
  (sSeq (sFor [] [2] (srcA (eVar 0)) (tName 2)
  fb1_by_bubble)
  (sRet (eN (c1 tupleD) [(.sl 1)]))))
def c_by_bubble : Cal := runB [false] 3 b_by_bubble
theorem ok_by_bubble (M : Md w K mg) : Ok P w K mg base 1 "by_bubble" "by_bubble" (top 34) ["order"] [false] c_by_bubble := by
  obtain ⟨a, fd, D⟩ := M.d_by_bubble
  have nd := sc_by_bubble.nd
  refine ok_of (N := N_by_bubble) (k := 0) (body := b_by_bubble) D sc_by_bubble rfl (by decide) (fun cdv A outer s H E hr => ?_) (fun _ _ _ h => h)
  exact (ss_cons (ss_asg 1 (se_lst sv_nil) nd)
  (ss_cons (ss_for (pi_any (se_var 0)) srcA_ok (pg_name nd (i := 2) rfl (by first | exact .inl rfl | exact .inr rfl)) (tg_name 2)
  (ss_one (ss_if (PW.pt (st_and (st_cmp (op_neA hr.units) p_neD (so_var 1) (se_lst sv_nil)) (st_and1 (st_cmp op_lt p_ltD (so_var 2) (se_ix ix_X p_ixS (so_var 1) (se_un un_neg p_negD se_int)))))) (ss_one (ss_ins 1 (se_op op_sub p_subD (se_callB call_len p_lenD M.f_len bb_len (sa_cons (so_var 1) sa_nil)) se_int) (se_var 2))) (ss_one (ss_app 1 (se_var 2))))) .never rfl)
  (ss_one (ss_ret (se_callTy call_tupleF p_tupleD M.f_tuple bb_tuple (sa_cons (so_var 1) sa_nil))))))
abbrev N_made_by : List Str := ["sorter", "order"]
theorem sc_made_by : FnScope N_made_by ["sorter", "order"] (defScope (top 35)) := ⟨rfl, rfl, rfl, by decide +kernel, rfl, by decide +kernel, by decide +kernel⟩
def b_made_by : SF := (sSeq (sIf (e2 eqD (.sl 0) (.ex (eC (.str "stack")))) (sRet (eCall [false] c_by_stack [(.ex (eVar 1))])) sNext)
  (sSeq (sIf (e2 eqD (.sl 0) (.ex (eC (.str "popper")))) (sRet (eCall [false] c_by_popper [(.ex (eVar 1))])) sNext)
  (sRet (eIf (e2 eqD (.sl 0) (.ex (eC (.str "queues")))) (eCall [false] c_by_queues [(.ex (eVar 1))]) (eCall [false] c_by_bubble [(.ex (eVar 1))])))))
def c_made_by : Cal := runB [false, false] 2 b_made_by
theorem ok_made_by (M : Md w K mg) : Ok P w K mg base 3 "made_by" "made_by" (top 35) ["sorter", "order"] [false, false] c_made_by := by
  obtain ⟨a, fd, D⟩ := M.d_made_by
  have nd := sc_made_by.nd
  refine ok_of (N := N_made_by) (k := 2) (body := b_made_by) D sc_made_by rfl (by decide) (fun cdv A outer s H E hr => ?_) (fun _ _ _ h => h)
  exact (ss_cons (ss_if (st_cmp (op_eqA hr.units) p_eqD (so_var 0) se_str) (ss_one (ss_ret (se_fn (ok_by_stack M) hr (sa_cons (so_ex (se_var 1)) sa_nil) (fun _ _ _ _ _ _ us hl => match us, hl with | [_], _ => rfl) ))) ss_nil)
  (ss_cons (ss_if (st_cmp (op_eqA hr.units) p_eqD (so_var 0) se_str) (ss_one (ss_ret (se_fn (ok_by_popper M) hr (sa_cons (so_ex (se_var 1)) sa_nil) (fun _ _ _ _ _ _ us hl => match us, hl with | [_], _ => rfl) ))) ss_nil)
  (ss_one (ss_ret (se_if (st_cmp (op_eqA hr.units) p_eqD (so_var 0) se_str) (se_fn (ok_by_queues M) hr (sa_cons (so_ex (se_var 1)) sa_nil) (fun _ _ _ _ _ _ us hl => match us, hl with | [_], _ => rfl) ) (se_fn (ok_by_bubble M) hr (sa_cons (so_ex (se_var 1)) sa_nil) (fun _ _ _ _ _ _ us hl => match us, hl with | [_], _ => rfl) ))))))
abbrev N_risen : List Str := ["n"]
theorem sc_risen : FnScope N_risen ["n"] (defScope (top 36)) := ⟨rfl, rfl, rfl, by decide +kernel, rfl, by decide +kernel, by decide +kernel⟩
def b_risen : SF := (sRet (e2 (rgD true) (.ex (eC (.int 1))) (.ex (e2 addD (.sl 0) (.ex (eC (.int 1)))))))
def c_risen : Cal := runB [false] 1 b_risen
theorem ok_risen (M : Md w K mg) : Ok P w K mg base 1 "risen" "risen" (top 36) ["n"] [false] c_risen := by
  obtain ⟨a, fd, D⟩ := M.d_risen
  have nd := sc_risen.nd
  refine ok_of (N := N_risen) (k := 0) (body := b_risen) D sc_risen rfl (by decide) (fun cdv A outer s H E hr => ?_) (fun _ _ _ h => h)
  exact (ss_one (ss_ret (se_tupRg2 (rg2 se_int (se_op op_addD p_addD (so_var 0) se_int) M.f_range) rfl M.f_tuple)))
abbrev N_does_sort : List Str := ["sorter", "order"]
theorem sc_does_sort : FnScope N_does_sort ["sorter", "order"] (defScope (top 37)) := ⟨rfl, rfl, rfl, by decide +kernel, rfl, by decide +kernel, by decide +kernel⟩
def b_does_sort : SF := (sRet (e2 eqD (.ex (eCall [false, false] c_made_by [(.ex (eVar 0)), (.ex (eVar 1))])) (.ex (eCall [false] c_risen [(.ex (eN (c1 lenD) [(.sl 1)]))]))))
def c_does_sort : Cal := runB [false, false] 2 b_does_sort
theorem ok_does_sort (M : Md w K mg) : Ok P w K mg base 4 "does_sort" "does_sort" (top 37) ["sorter", "order"] [false, false] c_does_sort := by
  obtain ⟨a, fd, D⟩ := M.d_does_sort
  have nd := sc_does_sort.nd
  refine ok_of (N := N_does_sort) (k := 3) (body := b_does_sort) D sc_does_sort rfl (by decide) (fun cdv A outer s H E hr => ?_) (fun _ _ _ h => h)
  exact (ss_one (ss_ret (se_cmp (op_eqA hr.units) p_eqD (se_fn (ok_made_by M) hr (sa_cons (so_ex (se_var 0)) (sa_cons (so_ex (se_var 1)) sa_nil)) (fun _ _ _ _ _ _ us hl => match us, hl with | [_, _], _ => rfl) ) (se_fn (ok_risen M) hr (sa_cons (so_ex (se_callB call_len p_lenD M.f_len bb_len (sa_cons (so_var 1) sa_nil))) sa_nil) (fun _ _ _ _ _ _ us hl => match us, hl with | [_], _ => rfl) ))))
abbrev N_are_integers : List Str := ["value", "a"]
theorem sc_are_integers : FnScope N_are_integers ["value"] (defScope (top 9)) := ⟨rfl, rfl, rfl, by decide +kernel, rfl, by decide +kernel, by decide +kernel⟩
def le1_are_integers : EF := (eCall [false] c_is_integer [(.ex (eVar 1))])
def b_are_integers : SF := (sRet (eAnd (e1 (isiD .tuple) (.sl 0)) (eN (c1 allD) [(.ex (eLc (srcN 0) (tName 1) eYes le1_are_integers [1]))])))
def c_are_integers : Cal := runB [false] 2 b_are_integers
theorem ok_are_integers (M : Md w K mg) : Ok P w K mg base 2 "are_integers" "are_integers" (top 9) ["value"] [false] c_are_integers := by
  obtain ⟨a, fd, D⟩ := M.d_are_integers
  have nd := sc_are_integers.nd
  refine ok_of (N := N_are_integers) (k := 1) (body := b_are_integers) D sc_are_integers rfl (by decide) (fun cdv A outer s H E hr => ?_) (fun _ _ _ h => h)
  exact (ss_one (ss_ret (se_and (se_isi .tuple (so_var 0) M.f_isinstance M.f_tuple bb_tuple) (se_one (se_callB (cr_all rfl) p_allD M.f_all bb_all (sa_cons (se_lc (pi_any (pv 0)) srcN_ok (blkOk_by (own := [("a", 1)]) (by first | kernel_rfl | rfl)) (tg_name 1) (fun _ _ _ _ _ => (pg_name nd (i := 1) rfl (by first | exact .inl rfl | exact .inr rfl))) (fun _ _ _ _ _ => st_yes) (fun _ _ _ _ _ => (se_fn (ok_is_integer M) hr (sa_cons (so_ex (se_var 1)) sa_nil) (fun _ _ _ _ _ _ us hl => match us, hl with | [_], _ => rfl) )) rfl nd) sa_nil))))))
abbrev N_is_order_of : List Str := ["told"]
theorem sc_is_order_of : FnScope N_is_order_of ["told"] (defScope (top 10)) := ⟨rfl, rfl, rfl, by decide +kernel, rfl, by decide +kernel, by decide +kernel⟩
def b_is_order_of : SF := (sRet (eAnd (eCall [false] c_are_integers [(.ex (eVar 0))]) (e2 eqD (.ex (eN (c1 sortedD) [(.sl 0)])) (.ex (e2 (rgD false) (.ex (eC (.int 1))) (.ex (e2 addD (.ex (eN (c1 lenD) [(.sl 0)])) (.ex (eC (.int 1))))))))))
def c_is_order_of : Cal := runB [false] 1 b_is_order_of
theorem ok_is_order_of (M : Md w K mg) : Ok P w K mg base 3 "is_order_of" "is_order_of" (top 10) ["told"] [false] c_is_order_of := by
  obtain ⟨a, fd, D⟩ := M.d_is_order_of
  have nd := sc_is_order_of.nd
  refine ok_of (N := N_is_order_of) (k := 2) (body := b_is_order_of) D sc_is_order_of rfl (by decide) (fun cdv A outer s H E hr => ?_) (fun _ _ _ h => h)
  exact (ss_one (ss_ret (se_and (se_fn (ok_are_integers M) hr (sa_cons (so_ex (se_var 0)) sa_nil) (fun _ _ _ _ _ _ us hl => match us, hl with | [_], _ => rfl) ) (se_one (se_cmp (op_eqA hr.units) p_eqD (se_callB cr_sortA p_sortedD M.f_sorted bb_sorted (sa_cons (so_var 0) sa_nil)) (se_listRg2 (rg2 se_int (se_op op_addD p_addD (se_callB call_len p_lenD M.f_len bb_len (sa_cons (so_var 0) sa_nil)) se_int) M.f_range) rfl M.f_list))))))
abbrev N_check_order_patterns : List Str := ["order"]
theorem sc_check_order_patterns : FnScope N_check_order_patterns ["order"] (defScope (top 15)) := ⟨rfl, rfl, rfl, by decide +kernel, rfl, by decide +kernel, by decide +kernel⟩
def b_check_order_patterns : SF := (sIf (eNot (eCall [false] c_is_order_of [(.ex (eVar 0))])) sNever sNext)
def c_check_order_patterns : Cal := runB [false] 1 b_check_order_patterns
theorem ok_check_order_patterns (M : Md w K mg) : Ok P w K mg base 4 "check_order_patterns" "check_order" (top 15) ["order"] [false] c_check_order_patterns := by
  obtain ⟨a, fd, D⟩ := M.d_check_order_patterns
  have nd := sc_check_order_patterns.nd
  refine ok_of (N := N_check_order_patterns) (k := 3) (body := b_check_order_patterns) D sc_check_order_patterns rfl (by decide) (fun cdv A outer s H E hr => ?_) (fun _ _ _ h => h)
  exact (ss_one (ss_if (st_not (st_of (se_fn (ok_is_order_of M) hr (sa_cons (so_ex (se_var 0)) sa_nil) (fun _ _ _ _ _ _ us hl => match us, hl with | [_], _ => rfl) ))) (ss_one ss_never) ss_nil))
abbrev N_is_pattern : List Str := ["told"]
theorem sc_is_pattern : FnScope N_is_pattern ["told"] (defScope (top 20)) := ⟨rfl, rfl, rfl, by decide +kernel, rfl, by decide +kernel, by decide +kernel⟩
def b_is_pattern : SF := (sRet (eAnd (eCall [false] c_is_order_of [(.ex (eVar 0))]) (e2 neD (.sl 0) (.ex (eTup [])))))
def c_is_pattern : Cal := runB [false] 1 b_is_pattern
theorem ok_is_pattern (M : Md w K mg) : Ok P w K mg base 4 "is_pattern" "is_pattern" (top 20) ["told"] [false] c_is_pattern := by
  obtain ⟨a, fd, D⟩ := M.d_is_pattern
  have nd := sc_is_pattern.nd
  refine ok_of (N := N_is_pattern) (k := 3) (body := b_is_pattern) D sc_is_pattern rfl (by decide) (fun cdv A outer s H E hr => ?_) (fun _ _ _ h => h)
  exact (ss_one (ss_ret (se_and (se_fn (ok_is_order_of M) hr (sa_cons (so_ex (se_var 0)) sa_nil) (fun _ _ _ _ _ _ us hl => match us, hl with | [_], _ => rfl) ) (se_one (se_cmp (op_neA hr.units) p_neD (so_var 0) (se_tup sv_nil))))))
abbrev N_check_pattern : List Str := ["pattern"]
theorem sc_check_pattern : FnScope N_check_pattern ["pattern"] (defScope (top 17)) := ⟨rfl, rfl, rfl, by decide +kernel, rfl, by decide +kernel, by decide +kernel⟩
def b_check_pattern : SF := (sIf (eNot (eCall [false] c_is_pattern [(.ex (eVar 0))])) sNever sNext)
def c_check_pattern : Cal := runB [false] 1 b_check_pattern
theorem ok_check_pattern (M : Md w K mg) : Ok P w K mg base 5 "check_pattern" "check_pattern" (top 17) ["pattern"] [false] c_check_pattern := by
  obtain ⟨a, fd, D⟩ := M.d_check_pattern
  have nd := sc_check_pattern.nd
  refine ok_of (N := N_check_pattern) (k := 4) (body := b_check_pattern) D sc_check_pattern rfl (by decide) (fun cdv A outer s H E hr => ?_) (fun _ _ _ h => h)
  exact (ss_one (ss_if (st_not (st_of (se_fn (ok_is_pattern M) hr (sa_cons (so_ex (se_var 0)) sa_nil) (fun _ _ _ _ _ _ us hl => match us, hl with | [_], _ => rfl) ))) (ss_one ss_never) ss_nil))
abbrev N_neighbours : List Str := ["pattern", "found", "at", "number", "lesser", "other", "greater", "below", "above"]
theorem sc_neighbours : FnScope N_neighbours ["pattern"] (defScope (top 11)) := ⟨rfl, rfl, rfl, by decide +kernel, rfl, by decide +kernel, by decide +kernel⟩
def lc1_neighbours : EF := (e2 ltD (.sl 5) (.sl 3))
def lc2_neighbours : EF := (e2 gtD (.sl 5) (.sl 3))
def fb1_neighbours : SF := (sSeq (sAsg [] 4 (eLc (srcC (srcA (eSl slS (.sl 0) none (some (eVar 2))))) (tName 5) lc1_neighbours (eVar 5) [5]))
  (sSeq (sAsg [] 6 (eLc (srcC (srcA (eSl slS (.sl 0) none (some (eVar 2))))) (tName 5) lc2_neighbours (eVar 5) [5]))
  (sSeq (sAsg [] 7 (eIf (e2 neD (.sl 4) (.ex (eLst []))) (etN t_index (.sl 0) [(.ex (eN (c1 maxD) [(.sl 4)]))]) (eC .non)))
  (sSeq (sAsg [] 8 (eIf (e2 neD (.sl 6) (.ex (eLst []))) (etN t_index (.sl 0) [(.ex (eN (c1 minD) [(.sl 6)]))]) (eC .non)))
  (sApp 1 (eTup [(eVar 7), (eVar 8)]))))))
def b_neighbours : SF := (sSeq (sAsg [] 1 (eLst []))
  (sSeq (sFor [] [2, 3] (srcEn (eVar 0)) (tTplA 2 (tsCons (tName 2) (tsCons (tName 3) tsNil)))
  fb1_neighbours)
  (sRetV [] 1)))
def c_neighbours : Cal := runB [false] 9 b_neighbours
theorem ok_neighbours (M : Md w K mg) : Ok P w K mg base 1 "neighbours" "neighbours" (top 11) ["pattern"] [false] c_neighbours := by
  obtain ⟨a, fd, D⟩ := M.d_neighbours
  have nd := sc_neighbours.nd
  refine ok_of (N := N_neighbours) (k := 0) (body := b_neighbours) D sc_neighbours rfl (by decide) (fun cdv A outer s H E hr => ?_) (fun _ _ _ h => h)
  exact (ss_cons (ss_asg 1 (se_lst sv_nil) nd)
  (ss_cons (ss_for (pi_enumA (se_var 0) M.f_enumerate) srcEn_ok (pg_tupA rfl (pgs_cons (pg_name nd (i := 2) rfl (by first | exact .inl rfl | exact .inr rfl)) (pgs_cons (pg_name nd (i := 3) rfl (by first | exact .inl rfl | exact .inr rfl)) pgs_nil))) (tg_tupA (tgs_cons (tg_name 2) (tgs_cons (tg_name 3) tgs_nil)))
  (ss_cons (ss_setLc 4 (pi_any (se_slice sl_X p_slS (so_var 0) sp_none (sp_some (se_var 2)))) (srcC_ok srcA_ok) (blkOk_by (own := [("other", 5)]) (by first | kernel_rfl | rfl)) (tg_name 5) (fun _ _ _ _ _ => (pg_name nd (i := 5) rfl (by first | exact .inl rfl | exact .inr rfl))) (fun _ _ _ _ _ => (st_ones (st_cmp op_lt p_ltD (so_var 5) (so_var 3)))) (fun _ _ _ _ _ => (se_var 5)) rfl nd (sw_true rfl rfl rfl rfl))
  (ss_cons (ss_setLc 6 (pi_any (se_slice sl_X p_slS (so_var 0) sp_none (sp_some (se_var 2)))) (srcC_ok srcA_ok) (blkOk_by (own := [("other", 5)]) (by first | kernel_rfl | rfl)) (tg_name 5) (fun _ _ _ _ _ => (pg_name nd (i := 5) rfl (by first | exact .inl rfl | exact .inr rfl))) (fun _ _ _ _ _ => (st_ones (st_cmp op_gt p_gtD (so_var 5) (so_var 3)))) (fun _ _ _ _ _ => (se_var 5)) rfl nd (sw_true rfl rfl rfl rfl))
  (ss_cons (ss_asg 7 (se_if (st_cmp (op_neA hr.units) p_neD (so_var 4) (se_lst sv_nil)) (se_tm PySem.F.slot_tuple_index PySem.F.type_tuple_index mt_tupIndexI p_tindex (so_var 0) (sa_cons (se_callB (cr_max rfl) p_maxD M.f_max bb_max (sa_cons (so_var 4) sa_nil)) sa_nil)) se_non) nd)
  (ss_cons (ss_asg 8 (se_if (st_cmp (op_neA hr.units) p_neD (so_var 6) (se_lst sv_nil)) (se_tm PySem.F.slot_tuple_index PySem.F.type_tuple_index mt_tupIndexI p_tindex (so_var 0) (sa_cons (se_callB (cr_min rfl) p_minD M.f_min bb_min (sa_cons (so_var 6) sa_nil)) sa_nil)) se_non) nd)
  (ss_one (ss_app 1 (se_tup (sv_cons (se_var 7) (sv_cons (se_var 8) sv_nil))))))))) .never rfl)
  (ss_one (ss_retV 1))))
abbrev N_placed : List Str := ["order", "pattern", "found", "at", "below", "above", "longer", "places", "least", "most", "start", "stop", "place"]
theorem sc_placed : FnScope N_placed ["order", "pattern"] (defScope (top 12)) := ⟨rfl, rfl, rfl, by decide +kernel, rfl, by decide +kernel, by decide +kernel⟩
def lc1_placed : EF := (eCh ltD ltD (.sl 8) (.ex (e2 ixS (.sl 0) (.sl 12))) (.sl 9))
def le1_placed : EF := (e2 addD (.sl 7) (.ex (eTup [(eVar 12)])))
def fb1_placed : SF := (sSeq (sAsg [] 8 (eIf (e2 isntD (.sl 4) (.ex (eC .non))) (e2 ixS (.sl 0) (.ex (e2 ixS (.sl 7) (.sl 4)))) (eC (.int 0))))
  (sSeq (sAsg [] 9 (eIf (e2 isntD (.sl 5) (.ex (eC .non))) (e2 ixS (.sl 0) (.ex (e2 ixS (.sl 7) (.sl 5)))) (e2 addD (.ex (eN (c1 lenD) [(.sl 0)])) (.ex (eC (.int 1))))))
  (sSeq (sAsg [] 10 (eIf (e2 neD (.sl 7) (.ex (eTup []))) (e2 addD (.ex (e2 ixS (.sl 7) (.ex (e1 negD (.ex (eC (.int 1))))))) (.ex (eC (.int 1)))) (eC (.int 0))))
  (sSeq (sAsg [] 11 (e2 subD (.ex (eN (c1 lenD) [(.sl 0)])) (.ex (e2 subD (.ex (e2 subD (.ex (eN (c1 lenD) [(.sl 1)])) (.sl 3))) (.ex (eC (.int 1)))))))
  (sExt 6 (.ex (eLc (srcC (srcR2 (eVar 10) (eVar 11))) (tName 12) lc1_placed le1_placed [12])))))))
def fb2_placed : SF := (sSeq (sAsg [] 6 (eLst []))
  (sSeq (sFor [] [7] (srcA (eVar 2)) (tName 7)
  fb1_placed)
  (sAsg [] 2 (eVar 6))))
def b_placed : SF := (sSeq (sAsg [] 2 (eLst [(eTup [])]))
  (sSeq (sFor [] [3, 4, 5] (srcEn (eCall [false] c_neighbours [(.ex (eVar 1))])) (tTplA 2 (tsCons (tName 3) (tsCons (tTplA 2 (tsCons (tName 4) (tsCons (tName 5) tsNil))) tsNil)))
  fb2_placed)
  (sRetV [] 2)))
def c_placed : Cal := runB [false, false] 13 b_placed
theorem ok_placed (M : Md w K mg) : Ok P w K mg base 2 "placed" "placed" (top 12) ["order", "pattern"] [false, false] c_placed := by
  obtain ⟨a, fd, D⟩ := M.d_placed
  have nd := sc_placed.nd
  refine ok_of (N := N_placed) (k := 1) (body := b_placed) D sc_placed rfl (by decide) (fun cdv A outer s H E hr => ?_) (fun _ _ _ h => h)
  exact (ss_cons (ss_asg 2 (se_lst (sv_cons (se_tup sv_nil) sv_nil)) nd)
  (ss_cons (ss_for (pi_enumA (se_fn (ok_neighbours M) hr (sa_cons (so_ex (se_var 1)) sa_nil) (fun _ _ _ _ _ _ us hl => match us, hl with | [_], _ => rfl) ) M.f_enumerate) srcEn_ok (pg_tupA rfl (pgs_cons (pg_name nd (i := 3) rfl (by first | exact .inl rfl | exact .inr rfl)) (pgs_cons (pg_tupA rfl (pgs_cons (pg_name nd (i := 4) rfl (by first | exact .inl rfl | exact .inr rfl)) (pgs_cons (pg_name nd (i := 5) rfl (by first | exact .inl rfl | exact .inr rfl)) pgs_nil))) pgs_nil))) (tg_tupA (tgs_cons (tg_name 3) (tgs_cons (tg_tupA (tgs_cons (tg_name 4) (tgs_cons (tg_name 5) tgs_nil))) tgs_nil)))
  (ss_cons (ss_asg 6 (se_lst sv_nil) nd)
  (ss_cons (ss_for (pi_any (se_var 2)) srcA_ok (pg_name nd (i := 7) rfl (by first | exact .inl rfl | exact .inr rfl)) (tg_name 7)
  (ss_cons (ss_asg 8 (se_if (st_cmp op_notN p_isntD (so_var 4) se_non) (se_ix ix_X p_ixS (so_var 0) (se_ix ix_X p_ixS (so_var 7) (so_var 4))) se_int) nd)
  (ss_cons (ss_asg 9 (se_if (st_cmp op_notN p_isntD (so_var 5) se_non) (se_ix ix_X p_ixS (so_var 0) (se_ix ix_X p_ixS (so_var 7) (so_var 5))) (se_op op_addD p_addD (se_callB call_len p_lenD M.f_len bb_len (sa_cons (so_var 0) sa_nil)) se_int)) nd)
  (ss_cons (ss_asg 10 (se_if (st_cmp (op_neA hr.units) p_neD (so_var 7) (se_tup sv_nil)) (se_op op_addD p_addD (se_ix ix_X p_ixS (so_var 7) (se_un un_neg p_negD se_int)) se_int) se_int) nd)
  (ss_cons (ss_asg 11 (se_op op_sub p_subD (se_callB call_len p_lenD M.f_len bb_len (sa_cons (so_var 0) sa_nil)) (se_op op_sub p_subD (se_op op_sub p_subD (se_callB call_len p_lenD M.f_len bb_len (sa_cons (so_var 1) sa_nil)) (so_var 3)) se_int)) nd)
  (ss_one (ss_ext 6 (se_lc (pi_rg2 (se_var 10) (se_var 11) M.f_range) (srcC_ok srcR2_ok) (blkOk_by (own := [("place", 12)]) (by first | kernel_rfl | rfl)) (tg_name 12) (fun _ _ _ _ _ => (pg_name nd (i := 12) rfl (by first | exact .inl rfl | exact .inr rfl))) (fun _ _ _ _ _ => (st_ones (st_chain op_lt p_ltD op_lt p_ltD (so_var 8) (se_ix ix_X p_ixS (so_var 0) (so_var 12)) (so_var 9)))) (fun _ _ _ _ _ => (se_op op_addD p_addD (so_var 7) (se_tup (sv_cons (se_var 12) sv_nil)))) rfl nd))))))) .never rfl)
  (ss_one (ss_asg 2 (se_var 6) nd)))) .never rfl)
  (ss_one (ss_retV 2))))
abbrev N_is_shown : List Str := ["order", "pattern"]
theorem sc_is_shown : FnScope N_is_shown ["order", "pattern"] (defScope (top 13)) := ⟨rfl, rfl, rfl, by decide +kernel, rfl, by decide +kernel, by decide +kernel⟩
def b_is_shown : SF := (sRet (eAnd (e2 leD (.ex (eN (c1 lenD) [(.sl 1)])) (.ex (eN (c1 lenD) [(.sl 0)]))) (e2 neD (.ex (eCall [false, false] c_placed [(.ex (eVar 0)), (.ex (eVar 1))])) (.ex (eLst [])))))
def c_is_shown : Cal := runB [false, false] 2 b_is_shown
theorem ok_is_shown (M : Md w K mg) : Ok P w K mg base 3 "is_shown" "is_shown" (top 13) ["order", "pattern"] [false, false] c_is_shown := by
  obtain ⟨a, fd, D⟩ := M.d_is_shown
  have nd := sc_is_shown.nd
  refine ok_of (N := N_is_shown) (k := 2) (body := b_is_shown) D sc_is_shown rfl (by decide) (fun cdv A outer s H E hr => ?_) (fun _ _ _ h => h)
  exact (ss_one (ss_ret (se_and (se_cmp op_le p_leD (se_callB call_len p_lenD M.f_len bb_len (sa_cons (so_var 1) sa_nil)) (se_callB call_len p_lenD M.f_len bb_len (sa_cons (so_var 0) sa_nil))) (se_one (se_cmp (op_neA hr.units) p_neD (se_fn (ok_placed M) hr (sa_cons (so_ex (se_var 0)) (sa_cons (so_ex (se_var 1)) sa_nil)) (fun _ _ _ _ _ _ us hl => match us, hl with | [_, _], _ => rfl) ) (se_lst sv_nil))))))
abbrev N_shows : List Str := ["order", "pattern"]
theorem sc_shows : FnScope N_shows ["order", "pattern"] (defScope (top 21)) := ⟨rfl, rfl, rfl, by decide +kernel, rfl, by decide +kernel, by decide +kernel⟩
def b_shows : SF := (sSeq (sExp (eCall [false] c_check_order_patterns [(.ex (eVar 0))]))
  (sSeq (sExp (eCall [false] c_check_pattern [(.ex (eVar 1))]))
  (sRet (eCall [false, false] c_is_shown [(.ex (eVar 0)), (.ex (eVar 1))]))))
def c_shows : Cal := runB [false, false] 2 b_shows
theorem ok_shows (M : Md w K mg) : Ok P w K mg base 6 "shows" "shows" (top 21) ["order", "pattern"] [false, false] c_shows := by
  obtain ⟨a, fd, D⟩ := M.d_shows
  have nd := sc_shows.nd
  refine ok_of (N := N_shows) (k := 5) (body := b_shows) D sc_shows rfl (by decide) (fun cdv A outer s H E hr => ?_) (fun _ _ _ h => h)
  exact (ss_cons (ss_expr (se_fn (ok_check_order_patterns M) hr (sa_cons (so_ex (se_var 0)) sa_nil) (fun _ _ _ _ _ _ us hl => match us, hl with | [_], _ => rfl) ))
  (ss_cons (ss_expr (se_fn (ok_check_pattern M) hr (sa_cons (so_ex (se_var 1)) sa_nil) (fun _ _ _ _ _ _ us hl => match us, hl with | [_], _ => rfl) ))
  (ss_one (ss_ret (se_fn (ok_is_shown M) hr (sa_cons (so_ex (se_var 0)) (sa_cons (so_ex (se_var 1)) sa_nil)) (fun _ _ _ _ _ _ us hl => match us, hl with | [_, _], _ => rfl) )))))
abbrev N_least_unsorted : List Str := ["sorter", "n", "found", "many", "some", "order", "pattern"]
theorem sc_least_unsorted : FnScope N_least_unsorted ["sorter", "n"] (defScope (top 39)) := ⟨rfl, rfl, rfl, by decide +kernel, rfl, by decide +kernel, by decide +kernel⟩
def lc1_least_unsorted : EF := (eNot (eCall [false, false] c_does_sort [(.ex (eVar 0)), (.ex (eVar 5))]))
def le1_least_unsorted : EF := (eCall [false, false] c_shows [(.ex (eVar 5)), (.ex (eVar 6))])
def lc2_least_unsorted : EF := (eNot (eN (c1 anyD) [(.ex (eLc (srcN 2) (tName 6) eYes le1_least_unsorted [6]))]))
def fb1_least_unsorted : SF := (sSeq (sAsg [] 4 (eLc (srcC (srcA (eCall [false] c_orders [(.ex (eVar 3))]))) (tName 5) lc1_least_unsorted (eVar 5) [5]))
  (sExt 2 (.ex (eLc (srcN 4) (tName 5) lc2_least_unsorted (eVar 5) [5]))))
def b_least_unsorted : SF := (sSeq (sExp (eCall [false] c_check_sorter [(.ex (eVar 0))]))
  (sSeq (sIf (eOr (eNot (eCall [false] c_is_integer [(.ex (eVar 1))])) (e2 ltD (.sl 1) (.ex (eC (.int 0))))) sNever sNext)
  (sSeq (sAsg [] 2 (eLst []))
  (sSeq (sFor [] [3] (srcR1 (e2 addD (.sl 1) (.ex (eC (.int 1))))) (tName 3)
  fb1_least_unsorted)
  (sRetV [] 2)))))
def c_least_unsorted : Cal := runB [false, false] 7 b_least_unsorted
theorem ok_least_unsorted (M : Md w K mg) : Ok P w K mg base 7 "least_unsorted" "least_unsorted" (top 39) ["sorter", "n"] [false, false] c_least_unsorted := by
  obtain ⟨a, fd, D⟩ := M.d_least_unsorted
  have nd := sc_least_unsorted.nd
  refine ok_of (N := N_least_unsorted) (k := 6) (body := b_least_unsorted) D sc_least_unsorted rfl (by decide) (fun cdv A outer s H E hr => ?_) (fun _ _ _ h => h)
  exact (ss_cons (ss_expr (se_fn (ok_check_sorter M) hr (sa_cons (so_ex (se_var 0)) sa_nil) (fun _ _ _ _ _ _ us hl => match us, hl with | [_], _ => rfl) ))
  (ss_cons (ss_if (PW.pt (st_or (st_not (st_of (se_fn (ok_is_integer M) hr (sa_cons (so_ex (se_var 1)) sa_nil) (fun _ _ _ _ _ _ us hl => match us, hl with | [_], _ => rfl) ))) (st_or1 (st_cmp op_lt p_ltD (so_var 1) se_int)))) (ss_one ss_never) ss_nil)
  (ss_cons (ss_asg 2 (se_lst sv_nil) nd)
  (ss_cons (ss_for (pi_rg1 (se_op op_addD p_addD (so_var 1) se_int) M.f_range) srcR1_ok (pg_name nd (i := 3) rfl (by first | exact .inl rfl | exact .inr rfl)) (tg_name 3)
  (ss_cons (ss_setLc 4 (pi_any (se_fn (ok_orders M) hr (sa_cons (so_ex (se_var 3)) sa_nil) (fun _ _ _ _ _ _ us hl => match us, hl with | [_], _ => rfl) )) (srcC_ok srcA_ok) (blkOk_by (own := [("order", 5)]) (by first | kernel_rfl | rfl)) (tg_name 5) (fun _ _ _ _ _ => (pg_name nd (i := 5) rfl (by first | exact .inl rfl | exact .inr rfl))) (fun _ _ _ _ _ => (st_ones (st_not (st_of (se_fn (ok_does_sort M) hr (sa_cons (so_ex (se_var 0)) (sa_cons (so_ex (se_var 5)) sa_nil)) (fun _ _ _ _ _ _ us hl => match us, hl with | [_, _], _ => rfl) ))))) (fun _ _ _ _ _ => (se_var 5)) rfl nd (sw_true rfl rfl rfl rfl))
  (ss_one (ss_ext 2 (se_lc (pi_any (pv 4)) srcN_ok (blkOk_by (own := [("order", 5)]) (by first | kernel_rfl | rfl)) (tg_name 5) (fun _ _ _ _ _ => (pg_name nd (i := 5) rfl (by first | exact .inl rfl | exact .inr rfl))) (fun _ _ _ _ _ => (st_ones (st_not (st_of (se_callB (cr_any rfl) p_anyD M.f_any bb_any (sa_cons (se_lc (pi_any (pv 2)) srcN_ok (blkOk_by (own := [("pattern", 6)]) (by first | kernel_rfl | rfl)) (tg_name 6) (fun _ _ _ _ _ => (pg_name nd (i := 6) rfl (by first | exact .inl rfl | exact .inr rfl))) (fun _ _ _ _ _ => st_yes) (fun _ _ _ _ _ => (se_fn (ok_shows M) hr (sa_cons (so_ex (se_var 5)) (sa_cons (so_ex (se_var 6)) sa_nil)) (fun _ _ _ _ _ _ us hl => match us, hl with | [_, _], _ => rfl) )) rfl nd) sa_nil)))))) (fun _ _ _ _ _ => (se_var 5)) rfl nd)))) .never rfl)
  (ss_one (ss_retV 2))))))
abbrev N__law_same : List Str := ["told", "due", "kind", "spot"]
theorem sc__law_same : FnScope N__law_same ["told", "due"] (defScope (top 43)) := ⟨rfl, rfl, rfl, by decide +kernel, rfl, by decide +kernel, by decide +kernel⟩
def fb1__law_same (c : Cal) : SF := (sIf (eNot (eCall [false, false] c [(.ex (e2 ixS (.sl 0) (.sl 3))), (.ex (e2 ixS (.sl 1) (.sl 3)))])) (sRet (eC (.bl false))) sNext)
def b__law_same (c : Cal) : SF := (sSeq (sIf (e2 isD (.sl 1) (.ex (eC .non))) (sRet (e2 isD (.sl 0) (.ex (eC .non)))) sNext)
  (sSeq (sIf (e1 (isiD .bool) (.sl 1)) (sRet (eAnd (e1 (isiD .bool) (.sl 0)) (e2 eqD (.sl 0) (.sl 1)))) sNext)
  (sSeq (sIf (eOr (e1 (isiD .tuple) (.sl 1)) (e1 (isiD .list) (.sl 1))) (sSeq (sAsg [] 2 (eIf (e1 (isiD .tuple) (.sl 1)) (e1 (isiD .tuple) (.sl 0)) (e1 (isiD .list) (.sl 0))))
  (sSeq (sIf (eOr (eNot (eVar 2)) (e2 neD (.ex (eN (c1 lenD) [(.sl 0)])) (.ex (eN (c1 lenD) [(.sl 1)])))) (sRet (eC (.bl false))) sNext)
  (sSeq (sFor [] [3] (srcR1 (eN (c1 lenD) [(.sl 1)])) (tName 3)
  (fb1__law_same c))
  (sRet (eC (.bl true)))))) sNext)
  (sSeq (sIf (e1 (isiD .str) (.sl 1)) (sRet (eAnd (e1 (isiD .str) (.sl 0)) (e2 eqD (.sl 0) (.sl 1)))) sNext)
  (sRet (eAnd (e1 (isiD .int) (.sl 0)) (eAnd (eNot (e1 (isiD .bool) (.sl 0))) (e2 eqD (.sl 0) (.sl 1)))))))))
def c__law_same : Nat → Cal
  | 0 => fun _ => none
  | k + 1 => runB [false, false] 4 (b__law_same (c__law_same k))
theorem ok__law_same (M : Md w K mg) : ∀ k : Nat, Ok P w K mg base (0 + 1 + k) "_law_same" "_law_same" (top 43) ["told", "due"] [false, false] (c__law_same k)
  | 0 => by
    obtain ⟨a, fd, D⟩ := M.d__law_same
    exact ok_of (N := N__law_same) (k := 0) (body := sNever) D sc__law_same rfl (by decide) (fun cdv A outer s H E hr => ss_nevers) (fun _ _ _ h => by cases h)
  | n + 1 => by
    have ih := ok__law_same M n
    obtain ⟨a, fd, D⟩ := M.d__law_same
    have nd := sc__law_same.nd
    refine ok_of (N := N__law_same) (k := 0 + 1 + n) (body := b__law_same (c__law_same n)) D sc__law_same rfl (by decide) (fun cdv A outer s H E hr => ?_) (fun _ _ _ h => h)
    generalize c__law_same n = c at *
    exact (ss_cons (ss_if (st_cmp op_isN p_isD (so_var 1) se_non) (ss_one (ss_ret (se_cmp op_isN p_isD (so_var 0) se_non))) ss_nil)
  (ss_cons (ss_if (st_of (se_isi .bool (so_var 1) M.f_isinstance M.f_bool bb_bool)) (ss_one (ss_ret (se_and (se_isi .bool (so_var 0) M.f_isinstance M.f_bool bb_bool) (se_one (se_cmp (op_eqA hr.units) p_eqD (so_var 0) (so_var 1)))))) ss_nil)
  (ss_cons (ss_if (PW.pt (st_or (st_of (se_isi .tuple (so_var 1) M.f_isinstance M.f_tuple bb_tuple)) (st_or1 (st_of (se_isi .list (so_var 1) M.f_isinstance M.f_list bb_list))))) (ss_cons (ss_asg 2 (se_if (st_of (se_isi .tuple (so_var 1) M.f_isinstance M.f_tuple bb_tuple)) (se_isi .tuple (so_var 0) M.f_isinstance M.f_tuple bb_tuple) (se_isi .list (so_var 0) M.f_isinstance M.f_list bb_list)) nd)
  (ss_cons (ss_if (PW.pt (st_or (st_not (st_of (se_var 2))) (st_or1 (st_cmp (op_neA hr.units) p_neD (se_callB call_len p_lenD M.f_len bb_len (sa_cons (so_var 0) sa_nil)) (se_callB call_len p_lenD M.f_len bb_len (sa_cons (so_var 1) sa_nil)))))) (ss_one (ss_ret se_bl)) ss_nil)
  (ss_cons (ss_for (pi_rg1 (se_callB call_len p_lenD M.f_len bb_len (sa_cons (so_var 1) sa_nil)) M.f_range) srcR1_ok (pg_name nd (i := 3) rfl (by first | exact .inl rfl | exact .inr rfl)) (tg_name 3)
  (ss_one (ss_if (st_not (st_of (se_fn ih hr (sa_cons (so_ex (se_ix ix_X p_ixS (so_var 0) (so_var 3))) (sa_cons (so_ex (se_ix ix_X p_ixS (so_var 1) (so_var 3))) sa_nil)) (fun _ _ _ _ _ _ us hl => match us, hl with | [_, _], _ => rfl) (hjk := Nat.le_refl _)))) (ss_one (ss_ret se_bl)) ss_nil)) .never rfl)
  (ss_one (ss_ret se_bl))))) ss_nil)
  (ss_cons (ss_if (st_of (se_isi .str (so_var 1) M.f_isinstance M.f_str bb_str)) (ss_one (ss_ret (se_and (se_isi .str (so_var 0) M.f_isinstance M.f_str bb_str) (se_one (se_cmp (op_eqA hr.units) p_eqD (so_var 0) (so_var 1)))))) ss_nil)
  (ss_one (ss_ret (se_and (se_isi .int (so_var 0) M.f_isinstance M.f_int bb_int) (se_and (se_not (se_isi .bool (so_var 0) M.f_isinstance M.f_bool bb_bool)) (se_one (se_cmp (op_eqA hr.units) p_eqD (so_var 0) (so_var 1)))))))))))
abbrev N__law_order : List Str := ["well", "n", "left", "found"]
theorem sc__law_order : FnScope N__law_order ["well", "n"] (defScope (top 47)) := ⟨rfl, rfl, rfl, by decide +kernel, rfl, by decide +kernel, by decide +kernel⟩
def wc1__law_order : EF := (e2 neD (.sl 2) (.ex (eLst [])))
def wb1__law_order : SF := (sApp 3 (ePopAt 2 (eCall [true, false] c__law_dip [(.sl 0), (.ex (eN (c1 lenD) [(.sl 2)]))])))
def b__law_order : SF := (sSeq (sPar2 [0] 2 3 (e2 (rgD false) (.ex (eC (.int 1))) (.ex (e2 addD (.sl 1) (.ex (eC (.int 1)))))) (eLst []))
  (sSeq (sWhile wc1__law_order wb1__law_order)
  (sRet (eN (c1 tupleD) [(.sl 3)]))))
def c__law_order : Cal := runB [true, false] 4 b__law_order
theorem ok__law_order (M : Md w K mg) : Ok P w K mg base 2 "_law_order" "_law_order" (top 47) ["well", "n"] [true, false] c__law_order := by
  obtain ⟨a, fd, D⟩ := M.d__law_order
  have nd := sc__law_order.nd
  refine ok_of (N := N__law_order) (k := 1) (body := b__law_order) D sc__law_order rfl (by decide) (fun cdv A outer s H E hr => ?_) (fun _ _ _ h => h)
  exact (ss_cons (by first | exact (ss_par2 2 3 (sv_cons (se_listRg2 (rg2 se_int (se_op op_addD p_addD (so_var 1) se_int) M.f_range) rfl M.f_list) (sv_cons (se_lst sv_nil) sv_nil)) rfl nd) | exact (ss_par2n 2 3 (sv_cons (se_listRg2 (rg2 se_int (se_op op_addD p_addD (so_var 1) se_int) M.f_range) rfl M.f_list) (sv_cons (se_lst sv_nil) sv_nil)) rfl nd))
  (ss_cons (ss_while (st_cmp (op_neA hr.units) p_neD (so_var 2) (se_lst sv_nil)) (ss_one (ss_app 3 (se_popAt 2 (se_fn (ok__law_dip M) hr (sa_cons (so_var 0) (sa_cons (so_ex (se_callB call_len p_lenD M.f_len bb_len (sa_cons (so_var 2) sa_nil))) sa_nil)) (fun _ _ _ _ _ _ us hl => match us, hl with | [_, _], _ => rfl) )))) .never)
  (ss_one (ss_ret (se_callTy call_tupleF p_tupleD M.f_tuple bb_tuple (sa_cons (so_var 3) sa_nil))))))
abbrev N__law_passes : List Str := ["sorter", "order", "risen_v", "turn"]
theorem sc__law_passes : FnScope N__law_passes ["sorter", "order"] (defScope (top 53)) := ⟨rfl, rfl, rfl, by decide +kernel, rfl, by decide +kernel, by decide +kernel⟩
def fb1__law_passes : SF := (sSeq (sIf (e2 eqD (.sl 1) (.sl 2)) (sRetV [] 3) sNext)
  (sAsg [] 1 (eCall [false, false] c__law_made [(.ex (eVar 0)), (.ex (eVar 1))])))
def b__law_passes : SF := (sSeq (sAsg [] 2 (e2 (rgD true) (.ex (eC (.int 1))) (.ex (e2 addD (.ex (eN (c1 lenD) [(.sl 1)])) (.ex (eC (.int 1)))))))
  (sSeq (sFor [] [3] (srcR1 (e2 addD (.ex (eN (c1 lenD) [(.sl 1)])) (.ex (eC (.int 1))))) (tName 3)
  fb1__law_passes)
  (sRet (eC .non))))
def c__law_passes : Cal := runB [false, false] 4 b__law_passes
theorem ok__law_passes (M : Md w K mg) : Ok P w K mg base 3 "_law_passes" "_law_passes" (top 53) ["sorter", "order"] [false, false] c__law_passes := by
  obtain ⟨a, fd, D⟩ := M.d__law_passes
  have nd := sc__law_passes.nd
  refine ok_of (N := N__law_passes) (k := 2) (body := b__law_passes) D sc__law_passes rfl (by decide) (fun cdv A outer s H E hr => ?_) (fun _ _ _ h => h)
  exact (ss_cons (ss_asg 2 (se_tupRg2 (rg2 se_int (se_op op_addD p_addD (se_callB call_len p_lenD M.f_len bb_len (sa_cons (so_var 1) sa_nil)) se_int) M.f_range) rfl M.f_tuple) nd)
  (ss_cons (ss_for (pi_rg1 (se_op op_addD p_addD (se_callB call_len p_lenD M.f_len bb_len (sa_cons (so_var 1) sa_nil)) se_int) M.f_range) srcR1_ok (pg_name nd (i := 3) rfl (by first | exact .inl rfl | exact .inr rfl)) (tg_name 3)
  (ss_cons (ss_if (st_cmp (op_eqA hr.units) p_eqD (so_var 1) (so_var 2)) (ss_one (ss_retV 3)) ss_nil)
  (ss_one (ss_asg 1 (se_fn (ok__law_made M) hr (sa_cons (so_ex (se_var 0)) (sa_cons (so_ex (se_var 1)) sa_nil)) (fun _ _ _ _ _ _ us hl => match us, hl with | [_, _], _ => rfl) ) nd))) .never rfl)
  (ss_one (ss_ret se_non))))
abbrev N_is_order : List Str := ["told"]
theorem sc_is_order : FnScope N_is_order ["told"] (defScope (top 19)) := ⟨rfl, rfl, rfl, by decide +kernel, rfl, by decide +kernel, by decide +kernel⟩
def b_is_order : SF := (sRet (eCall [false] c_is_order_of [(.ex (eVar 0))]))
def c_is_order : Cal := runB [false] 1 b_is_order
theorem ok_is_order (M : Md w K mg) : Ok P w K mg base 4 "is_order" "is_order" (top 19) ["told"] [false] c_is_order := by
  obtain ⟨a, fd, D⟩ := M.d_is_order
  have nd := sc_is_order.nd
  refine ok_of (N := N_is_order) (k := 3) (body := b_is_order) D sc_is_order rfl (by decide) (fun cdv A outer s H E hr => ?_) (fun _ _ _ h => h)
  exact (ss_one (ss_ret (se_fn (ok_is_order_of M) hr (sa_cons (so_ex (se_var 0)) sa_nil) (fun _ _ _ _ _ _ us hl => match us, hl with | [_], _ => rfl) )))
abbrev N_check_order_sorters : List Str := ["order"]
theorem sc_check_order_sorters : FnScope N_check_order_sorters ["order"] (defScope (top 28)) := ⟨rfl, rfl, rfl, by decide +kernel, rfl, by decide +kernel, by decide +kernel⟩
def b_check_order_sorters : SF := (sIf (eNot (eCall [false] c_is_order [(.ex (eVar 0))])) sNever sNext)
def c_check_order_sorters : Cal := runB [false] 1 b_check_order_sorters
theorem ok_check_order_sorters (M : Md w K mg) : Ok P w K mg base 5 "check_order_sorters" "check_order" (top 28) ["order"] [false] c_check_order_sorters := by
  obtain ⟨a, fd, D⟩ := M.d_check_order_sorters
  have nd := sc_check_order_sorters.nd
  refine ok_of (N := N_check_order_sorters) (k := 4) (body := b_check_order_sorters) D sc_check_order_sorters rfl (by decide) (fun cdv A outer s H E hr => ?_) (fun _ _ _ h => h)
  exact (ss_one (ss_if (st_not (st_of (se_fn (ok_is_order M) hr (sa_cons (so_ex (se_var 0)) sa_nil) (fun _ _ _ _ _ _ us hl => match us, hl with | [_], _ => rfl) ))) (ss_one ss_never) ss_nil))
abbrev N_passes : List Str := ["sorter", "order", "n"]
theorem sc_passes : FnScope N_passes ["sorter", "order"] (defScope (top 38)) := ⟨rfl, rfl, rfl, by decide +kernel, rfl, by decide +kernel, by decide +kernel⟩
def fb1_passes : SF := (sSeq (sIf (e2 eqD (.sl 1) (.ex (eCall [false] c_risen [(.ex (eN (c1 lenD) [(.sl 1)]))]))) (sRetV [] 2) sNext)
  (sAsg [] 1 (eCall [false, false] c_made_by [(.ex (eVar 0)), (.ex (eVar 1))])))
def b_passes : SF := (sSeq (sExp (eCall [false] c_check_sorter [(.ex (eVar 0))]))
  (sSeq (sExp (eCall [false] c_check_order_sorters [(.ex (eVar 1))]))
  (sSeq (sFor [] [2] (srcR1 (e2 addD (.ex (eN (c1 lenD) [(.sl 1)])) (.ex (eC (.int 1))))) (tName 2)
  fb1_passes)
  (sRet (eC .non)))))
def c_passes : Cal := runB [false, false] 3 b_passes
theorem ok_passes (M : Md w K mg) : Ok P w K mg base 6 "passes" "passes" (top 38) ["sorter", "order"] [false, false] c_passes := by
  obtain ⟨a, fd, D⟩ := M.d_passes
  have nd := sc_passes.nd
  refine ok_of (N := N_passes) (k := 5) (body := b_passes) D sc_passes rfl (by decide) (fun cdv A outer s H E hr => ?_) (fun _ _ _ h => h)
  exact (ss_cons (ss_expr (se_fn (ok_check_sorter M) hr (sa_cons (so_ex (se_var 0)) sa_nil) (fun _ _ _ _ _ _ us hl => match us, hl with | [_], _ => rfl) ))
  (ss_cons (ss_expr (se_fn (ok_check_order_sorters M) hr (sa_cons (so_ex (se_var 1)) sa_nil) (fun _ _ _ _ _ _ us hl => match us, hl with | [_], _ => rfl) ))
  (ss_cons (ss_for (pi_rg1 (se_op op_addD p_addD (se_callB call_len p_lenD M.f_len bb_len (sa_cons (so_var 1) sa_nil)) se_int) M.f_range) srcR1_ok (pg_name nd (i := 2) rfl (by first | exact .inl rfl | exact .inr rfl)) (tg_name 2)
  (ss_cons (ss_if (st_cmp (op_eqA hr.units) p_eqD (so_var 1) (se_fn (ok_risen M) hr (sa_cons (so_ex (se_callB call_len p_lenD M.f_len bb_len (sa_cons (so_var 1) sa_nil))) sa_nil) (fun _ _ _ _ _ _ us hl => match us, hl with | [_], _ => rfl) )) (ss_one (ss_retV 2)) ss_nil)
  (ss_one (ss_asg 1 (se_fn (ok_made_by M) hr (sa_cons (so_ex (se_var 0)) (sa_cons (so_ex (se_var 1)) sa_nil)) (fun _ _ _ _ _ _ us hl => match us, hl with | [_, _], _ => rfl) ) nd))) .never rfl)
  (ss_one (ss_ret se_non)))))
abbrev N_law : List Str := ["script", "spot", "well", "sorter", "turn", "order", "due", "n", "told"]
theorem sc_law : FnScope N_law ["script"] (defScope (top 56)) := ⟨rfl, rfl, rfl, by decide +kernel, rfl, by decide +kernel, by decide +kernel⟩
def fb1_law : SF := (sSeq (sAsg [] 5 (eCall [true, false] c__law_order [(.sl 2), (.ex (eCall [true, false] c__law_dip [(.sl 2), (.ex (eC (.int 13)))]))]))
  (sSeq (sAsg [] 6 (eCall [false, false] c__law_passes [(.ex (eVar 3)), (.ex (eVar 5))]))
  (sIf (eNot (eBor (c__law_same 3) [(.ex (eLst [(eCall [false, false] c_passes [(.ex (eVar 3)), (.ex (eVar 5))]), (eCallK [false, false] c_passes [(.ex (eVar 5)), (.ex (eVar 3))] [1, 0])])), (.ex (eLst [(eVar 6), (eVar 6)]))])) (sRet (eC (.bl false))) sNext)))
def fb2_law : SF := (sFor [] [4] (srcR1 (eC (.int 2))) (tName 4)
  fb1_law)
def fb3_law : SF := (sSeq (sAsg [] 2 (eCall [false, false] c__law_well [(.ex (eVar 0)), (.ex (eVar 1))]))
  (sSeq (sFor [] [3] (srcA (eLst [(eC (.str "stack")), (eC (.str "popper")), (eC (.str "queues")), (eC (.str "bubble"))])) (tName 3)
  fb2_law)
  (sSeq (sAsg [] 3 (e2 ixS (.ex (eLst [(eC (.str "stack")), (eC (.str "popper")), (eC (.str "queues")), (eC (.str "bubble"))])) (.ex (eCall [true, false] c__law_dip [(.sl 2), (.ex (eC (.int 4)))]))))
  (sSeq (sAsg [] 7 (eIf (eAnd (e2 eqD (.sl 1) (.ex (eC (.int 0)))) (e2 eqD (.ex (eCall [true, false] c__law_dip [(.sl 2), (.ex (eC (.int 4)))])) (.ex (eC (.int 0))))) (eC (.int 6)) (eCall [true, false] c__law_dip [(.sl 2), (.ex (eC (.int 6)))])))
  (sSeq (sPar2 [] 6 8 (eCall [false, false] c__law_unsorted [(.ex (eVar 3)), (.ex (eVar 7))]) (eCall [false, false] c_least_unsorted [(.ex (eVar 3)), (.ex (eVar 7))]))
  (sSeq (sIf (eNot (eBor (c__law_same 3) [(.sl 8), (.sl 6)])) (sRet (eC (.bl false))) sNext)
  (sSeq (sApp 8 (eTup []))
  (sIf (eNot (eBor (c__law_same 3) [(.ex (eCallK [false, false] c_least_unsorted [(.ex (eVar 7)), (.ex (eVar 3))] [1, 0])), (.sl 6)])) (sRet (eC (.bl false))) sNext))))))))
def b_law : SF := (sSeq (sFor [] [1] (srcR1 (eN (c2 max2D) [(.ex (eC (.int 1))), (.ex (eN (c2 min2D) [(.ex (eC (.int 6))), (.ex (eN (c1 lenD) [(.sl 0)]))]))])) (tName 1)
  fb3_law)
  (sRet (eC (.bl true))))
def c_law : Cal := runB [false] 9 b_law
theorem ok_law (M : Md w K mg) : Ok P w K mg base 8 "law" "law" (top 56) ["script"] [false] c_law := by
  obtain ⟨a, fd, D⟩ := M.d_law
  have nd := sc_law.nd
  refine ok_of (N := N_law) (k := 7) (body := b_law) D sc_law rfl (by decide) (fun cdv A outer s H E hr => ?_) (fun _ _ _ h => h)
  exact (ss_cons (ss_for (pi_rg1 (se_callB (call_max2 rfl) p_max2D M.f_max bb_max (sa_cons se_int (sa_cons (se_callB (call_min2 rfl) p_min2D M.f_min bb_min (sa_cons se_int (sa_cons (se_callB call_len p_lenD M.f_len bb_len (sa_cons (so_var 0) sa_nil)) sa_nil))) sa_nil))) M.f_range) srcR1_ok (pg_name nd (i := 1) rfl (by first | exact .inl rfl | exact .inr rfl)) (tg_name 1)
  (ss_cons (ss_asg 2 (se_fn (ok__law_well M) hr (sa_cons (so_ex (se_var 0)) (sa_cons (so_ex (se_var 1)) sa_nil)) (fun _ _ _ _ _ _ us hl => match us, hl with | [_, _], _ => rfl) ) nd)
  (ss_cons (ss_for (pi_any (se_lst (sv_cons se_str (sv_cons se_str (sv_cons se_str (sv_cons se_str sv_nil)))))) srcA_ok (pg_name nd (i := 3) rfl (by first | exact .inl rfl | exact .inr rfl)) (tg_name 3)
  (ss_one (ss_for (pi_rg1 se_int M.f_range) srcR1_ok (pg_name nd (i := 4) rfl (by first | exact .inl rfl | exact .inr rfl)) (tg_name 4)
  (ss_cons (ss_asg 5 (se_fn (ok__law_order M) hr (sa_cons (so_var 2) (sa_cons (so_ex (se_fn (ok__law_dip M) hr (sa_cons (so_var 2) (sa_cons (so_ex se_int) sa_nil)) (fun _ _ _ _ _ _ us hl => match us, hl with | [_, _], _ => rfl) )) sa_nil)) (fun _ _ _ _ _ _ us hl => match us, hl with | [_, _], _ => rfl) ) nd)
  (ss_cons (ss_asg 6 (se_fn (ok__law_passes M) hr (sa_cons (so_ex (se_var 3)) (sa_cons (so_ex (se_var 5)) sa_nil)) (fun _ _ _ _ _ _ us hl => match us, hl with | [_, _], _ => rfl) ) nd)
  (ss_one (ss_if (st_not (st_of (se_fnB (ok__law_same M 3) hr (sa_cons (se_lst (sv_cons (se_fn (ok_passes M) hr (sa_cons (so_ex (se_var 3)) (sa_cons (so_ex (se_var 5)) sa_nil)) (fun _ _ _ _ _ _ us hl => match us, hl with | [_, _], _ => rfl) ) (sv_cons (se_fnK (is := [1, 0]) (ok_passes M) hr (sk_cons (so_ex (se_var 5)) (sk_cons (so_ex (se_var 3)) sk_nil)) (fun _ _ _ _ _ _ ws hl => match ws, hl with | _ :: _ :: _, _ => rfl | [], hl => by simp [pick] at hl | [_], hl => by simp [pick] at hl) ) sv_nil))) (sa_cons (se_lst (sv_cons (se_var 6) (sv_cons (se_var 6) sv_nil))) sa_nil)) (fun _ _ _ _ _ _ us hl => match us, hl with | [_, _], _ => rfl) ))) (ss_one (ss_ret se_bl)) ss_nil)))) .never rfl)) .never rfl)
  (ss_cons (ss_asg 3 (se_ix ix_X p_ixS (se_lst (sv_cons se_str (sv_cons se_str (sv_cons se_str (sv_cons se_str sv_nil))))) (se_fn (ok__law_dip M) hr (sa_cons (so_var 2) (sa_cons (so_ex se_int) sa_nil)) (fun _ _ _ _ _ _ us hl => match us, hl with | [_, _], _ => rfl) )) nd)
  (ss_cons (ss_asg 7 (se_if (PW.pt (st_and (st_cmp (op_eqA hr.units) p_eqD (so_var 1) se_int) (st_and1 (st_cmp (op_eqA hr.units) p_eqD (se_fn (ok__law_dip M) hr (sa_cons (so_var 2) (sa_cons (so_ex se_int) sa_nil)) (fun _ _ _ _ _ _ us hl => match us, hl with | [_, _], _ => rfl) ) se_int)))) se_int (se_fn (ok__law_dip M) hr (sa_cons (so_var 2) (sa_cons (so_ex se_int) sa_nil)) (fun _ _ _ _ _ _ us hl => match us, hl with | [_, _], _ => rfl) )) nd)
  (ss_cons (by first | exact (ss_par2 6 8 (sv_cons (se_fn (ok__law_unsorted M) hr (sa_cons (so_ex (se_var 3)) (sa_cons (so_ex (se_var 7)) sa_nil)) (fun _ _ _ _ _ _ us hl => match us, hl with | [_, _], _ => rfl) ) (sv_cons (se_fn (ok_least_unsorted M) hr (sa_cons (so_ex (se_var 3)) (sa_cons (so_ex (se_var 7)) sa_nil)) (fun _ _ _ _ _ _ us hl => match us, hl with | [_, _], _ => rfl) ) sv_nil)) rfl nd) | exact (ss_par2n 6 8 (sv_cons (se_fn (ok__law_unsorted M) hr (sa_cons (so_ex (se_var 3)) (sa_cons (so_ex (se_var 7)) sa_nil)) (fun _ _ _ _ _ _ us hl => match us, hl with | [_, _], _ => rfl) ) (sv_cons (se_fn (ok_least_unsorted M) hr (sa_cons (so_ex (se_var 3)) (sa_cons (so_ex (se_var 7)) sa_nil)) (fun _ _ _ _ _ _ us hl => match us, hl with | [_, _], _ => rfl) ) sv_nil)) rfl nd))
  (ss_cons (ss_if (st_not (st_of (se_fnB (ok__law_same M 3) hr (sa_cons (so_var 8) (sa_cons (so_var 6) sa_nil)) (fun _ _ _ _ _ _ us hl => match us, hl with | [_, _], _ => rfl) ))) (ss_one (ss_ret se_bl)) ss_nil)
  (ss_cons (ss_app 8 (se_tup sv_nil))
  (ss_one (ss_if (st_not (st_of (se_fnB (ok__law_same M 3) hr (sa_cons (se_fnK (is := [1, 0]) (ok_least_unsorted M) hr (sk_cons (so_ex (se_var 7)) (sk_cons (so_ex (se_var 3)) sk_nil)) (fun _ _ _ _ _ _ ws hl => match ws, hl with | _ :: _ :: _, _ => rfl | [], hl => by simp [pick] at hl | [_], hl => by simp [pick] at hl) ) (sa_cons (so_var 6) sa_nil)) (fun _ _ _ _ _ _ us hl => match us, hl with | [_, _], _ => rfl) ))) (ss_one (ss_ret se_bl)) ss_nil))))))))) .never rfl)
  (ss_one (ss_ret se_bl)))
end
end Wk

namespace Wk
open PySem PySem.Spec PyProof.Rows L2 PI
/-! ### the stack -/
def popW (x : Int) : List Int → List Int → List Int × List Int
  | left, [] => (left, [])
  | left, y :: r => if y < x then popW x (left ++ [y]) r else (left, y :: r)
theorem popW_len (x : Int) : ∀ (r left : List Int), (popW x left r).1.length + (popW x left r).2.length = left.length + r.length
  | [], left => rfl
  | y :: r, left => by
    unfold popW
    split
    · rw [popW_len x r]
      simp only [List.length_append, List.length_cons, List.length_nil]
      omega
    · rfl
def stkS (p : List Int × List Int) (x : Int) : List Int × List Int := ((popW x p.1 p.2).1, x :: (popW x p.1 p.2).2)
def byStack (os : List Int) : List Int := (os.foldl stkS ([], [])).1 ++ (os.foldl stkS ([], [])).2
theorem w_by_stack (o : Option (Bool × PI.D)) (x : Int) : ∀ (r left : List Int) (n : Nat), r.length < n → left.length + r.length < 1000 → wl wc1_by_stack wb1_by_stack n [o, some (true, .lst (zL left)), some (true, .lst (zL r.reverse)), some (false, .int x)] =
    some (.nx, [o, some (true, .lst (zL (popW x left r).1)), some (true, .lst (zL (popW x left r).2.reverse)), some (false, .int x)])
  | r, left, 0, h, _ => by omega
  | [], left, n + 1, h, hl => wl_false (fr := false) (by simp [wc1_by_stack, popW])
  | y :: r, left, n + 1, h, hl => by
    have h : r.length < n := by simp only [List.length_cons] at h; omega
    simp only [List.length_cons] at hl
    by_cases c : y < x
    · refine (wl_true (fr := false) (e := [o, some (true, .lst (zL left)), some (true, .lst (zL (y :: r).reverse)), some (false, .int x)]) (e' := [o, some (true, .lst (zL (left ++ [y]))), some (true, .lst (zL r.reverse)), some (false, .int x)]) (by simp [wc1_by_stack, c]) ?_).trans ?_
      · simp [wb1_by_stack]
        omega
      · rw [w_by_stack o x r (left ++ [y]) n h (by simp only [List.length_append, List.length_cons, List.length_nil]; omega)]
        rw [popW, if_pos c]
    · refine (wl_false (fr := false) (e := [o, some (true, .lst (zL left)), some (true, .lst (zL (y :: r).reverse)), some (false, .int x)]) (by simp [wc1_by_stack, c])).trans ?_
      rw [popW, if_neg c]
theorem foldl_len {β : Type} {st : β → Int → β} {m : β → Nat} (h : ∀ s x, m (st s x) = m s + 1) : ∀ (l : List Int) (s : β), m (l.foldl st s) = m s + l.length
  | [], s => rfl
  | a :: l, s => by
    rw [List.foldl_cons, foldl_len h l, h, List.length_cons]
    omega
theorem stkS_len (p : List Int × List Int) (x : Int) : (stkS p x).1.length + (stkS p x).2.length = p.1.length + p.2.length + 1 := by
  have := popW_len x p.2 p.1
  show (popW x p.1 p.2).1.length + (x :: (popW x p.1 p.2).2).length = _
  rw [List.length_cons]
  omega
theorem v_by_stack (os : List Int) (ho : os.length < 1000) : c_by_stack [.tup (zL os)] = some ((false, .tup (zL (byStack os))), []) := by
  obtain ⟨env', h1, h2⟩ := fl_foldZ (T := tName 3) (f := fb1_by_stack) (st := stkS) (fun p rest env => p.1.length + p.2.length + rest.length < 1000 ∧ ∃ x, env = [some (false, .tup (zL os)), some (true, .lst (zL p.1)), some (true, .lst (zL p.2.reverse)), x]) (fun p a r env h => by
    obtain ⟨hl, x, rfl⟩ := h
    simp only [List.length_cons] at hl
    refine ⟨_, ?_, ?_, some (false, .int a), rfl⟩
    · have w := w_by_stack (some (false, .tup (zL os))) a p.2 p.1 1000000 (by omega) (by omega)
      have hp := popW_len a p.2 p.1
      simp [fb1_by_stack, sWhile, w, stkS]
      omega
    · have := stkS_len p a
      omega) os ([], []) [some (false, .tup (zL os)), some (true, .lst []), some (true, .lst []), none] ⟨by simpa using ho, none, rfl⟩
  obtain ⟨_, x, rfl⟩ := h2
  have hz := foldl_len (m := fun p => p.1.length + p.2.length) stkS_len os ([], [])
  simp only [List.length_nil, Nat.zero_add, Nat.add_zero] at hz
  have hb : (os.foldl stkS ([], [])).1.length + (os.foldl stkS ([], [])).2.length ≤ 1000000 := by omega
  simp [c_by_stack, b_by_stack]
  rw [h1]
  simp [byStack, hb]
theorem w_law_stack (o : Option (Bool × PI.D)) (x : Int) : ∀ (r left : List Int) (n : Nat), r.length < n → left.length + r.length < 1000 → wl wc1__law_stack wb1__law_stack n [o, some (false, .tup (zL left)), some (false, .tup (zL r)), some (false, .int x)] =
    some (.nx, [o, some (false, .tup (zL (popW x left r).1)), some (false, .tup (zL (popW x left r).2)), some (false, .int x)])
  | r, left, 0, h, _ => by omega
  | [], left, n + 1, h, hl => wl_false (fr := false) (by simp [wc1__law_stack, popW])
  | y :: r, left, n + 1, h, hl => by
    have h : r.length < n := by simp only [List.length_cons] at h; omega
    simp only [List.length_cons] at hl
    have hb : left.length + 1 ≤ 1000000 := by omega
    by_cases c : y < x
    · refine (wl_true (fr := false) (e := [o, some (false, .tup (zL left)), some (false, .tup (zL (y :: r))), some (false, .int x)]) (e' := [o, some (false, .tup (zL (left ++ [y]))), some (false, .tup (zL r)), some (false, .int x)]) (by simp [wc1__law_stack, c]) ?_).trans ?_
      · simp [wb1__law_stack, hb] <;> rfl
      · rw [w_law_stack o x r (left ++ [y]) n h (by simp only [List.length_append, List.length_cons, List.length_nil]; omega)]
        rw [popW, if_pos c]
    · refine (wl_false (fr := false) (e := [o, some (false, .tup (zL left)), some (false, .tup (zL (y :: r))), some (false, .int x)]) (by simp [wc1__law_stack, c])).trans ?_
      rw [popW, if_neg c]
theorem v_law_stack (os : List Int) (ho : os.length < 1000) : c__law_stack [.tup (zL os)] = some ((false, .tup (zL (byStack os))), []) := by
  obtain ⟨env', h1, h2⟩ := fl_foldZ (T := tName 3) (f := fb1__law_stack) (st := stkS) (fun p rest env => p.1.length + p.2.length + rest.length < 1000 ∧ ∃ x, env = [some (false, .tup (zL os)), some (false, .tup (zL p.1)), some (false, .tup (zL p.2)), x]) (fun p a r env h => by
    obtain ⟨hl, x, rfl⟩ := h
    simp only [List.length_cons] at hl
    refine ⟨_, ?_, ?_, some (false, .int a), rfl⟩
    · have w := w_law_stack (some (false, .tup (zL os))) a p.2 p.1 1000000 (by omega) (by omega)
      have hp := popW_len a p.2 p.1
      have hb : 1 + (popW a p.1 p.2).2.length ≤ 1000000 := by omega
      simp [fb1__law_stack, sWhile, w, stkS, hb] <;> rfl
    · have := stkS_len p a
      omega) os ([], []) [some (false, .tup (zL os)), some (false, .tup []), some (false, .tup []), none] ⟨by simpa using ho, none, rfl⟩
  obtain ⟨_, x, rfl⟩ := h2
  have hz := foldl_len (m := fun p => p.1.length + p.2.length) stkS_len os ([], [])
  simp only [List.length_nil, Nat.zero_add, Nat.add_zero] at hz
  have hb : (os.foldl stkS ([], [])).1.length + (os.foldl stkS ([], [])).2.length ≤ 1000000 := by omega
  simp [c__law_stack, b__law_stack]
  rw [h1]
  simp [byStack, hb]
/-! ### the popper -/
def popS (p : List Int × List Int) (x : Int) : List Int × List Int := match p.2 with
  | [] => (p.1, [x])
  | y :: r => if y < x then (p.1 ++ p.2, [x]) else (p.1, x :: p.2)
def byPopper (os : List Int) : List Int := (os.foldl popS ([], [])).1 ++ (os.foldl popS ([], [])).2
theorem popS_len (p : List Int × List Int) (x : Int) : (popS p x).1.length + (popS p x).2.length = p.1.length + p.2.length + 1 := by
  obtain ⟨l, r⟩ := p
  unfold popS
  cases r with
  | nil => rfl
  | cons y r =>
    dsimp only
    split
    · simp only [List.length_append, List.length_cons, List.length_nil]
    · simp only [List.length_cons]
      omega
theorem v_by_popper (os : List Int) (ho : os.length < 1000) : c_by_popper [.tup (zL os)] = some ((false, .tup (zL (byPopper os))), []) := by
  obtain ⟨env', h1, h2⟩ := fl_foldZ (T := tName 3) (f := fb1_by_popper) (st := popS) (fun p rest env => p.1.length + p.2.length + rest.length < 1000 ∧ ∃ x, env = [some (false, .tup (zL os)), some (true, .lst (zL p.1)), some (true, .lst (zL p.2.reverse)), x]) (fun p a r env h => by
    obtain ⟨hl, x, rfl⟩ := h
    obtain ⟨l, k⟩ := p
    simp only [List.length_cons] at hl
    refine ⟨_, ?_, ?_, some (false, .int a), rfl⟩
    · cases k with
      | nil => simp [fb1_by_popper, popS] <;> rfl
      | cons y k =>
        simp only [List.length_cons] at hl
        have hb : l.length + (k.length + 1) < 1000000 := by omega
        have hb2 : k.length + 1 < 1000000 := by omega
        by_cases c : y < a <;> simp [fb1_by_popper, popS, c, hb, hb2] <;> rfl
    · have := popS_len (l, k) a
      simp only at this hl
      omega) os ([], []) [some (false, .tup (zL os)), some (true, .lst []), some (true, .lst []), none] ⟨by simpa using ho, none, rfl⟩
  obtain ⟨_, x, rfl⟩ := h2
  have hz := foldl_len (m := fun p => p.1.length + p.2.length) popS_len os ([], [])
  simp only [List.length_nil, Nat.zero_add, Nat.add_zero] at hz
  have hb : (os.foldl popS ([], [])).1.length + (os.foldl popS ([], [])).2.length ≤ 1000000 := by omega
  simp [c_by_popper, b_by_popper]
  rw [h1]
  simp [byPopper, hb]
theorem v_law_popper (os : List Int) (ho : os.length < 1000) : c__law_popper [.tup (zL os)] = some ((false, .tup (zL (byPopper os))), []) := by
  obtain ⟨env', h1, h2⟩ := fl_foldZ (T := tName 3) (f := fb1__law_popper) (st := popS) (fun p rest env => p.1.length + p.2.length + rest.length < 1000 ∧ ∃ x, env = [some (false, .tup (zL os)), some (false, .tup (zL p.1)), some (false, .tup (zL p.2)), x]) (fun p a r env h => by
    obtain ⟨hl, x, rfl⟩ := h
    obtain ⟨l, k⟩ := p
    simp only [List.length_cons] at hl
    refine ⟨_, ?_, ?_, some (false, .int a), rfl⟩
    · cases k with
      | nil => simp [fb1__law_popper, popS] <;> rfl
      | cons y k =>
        simp only [List.length_cons] at hl
        have hb : l.length + (k.length + 1) ≤ 1000000 := by omega
        have hb2 : 1 + (k.length + 1) ≤ 1000000 := by omega
        by_cases c : y < a <;> simp [fb1__law_popper, popS, c, hb, hb2] <;> rfl
    · have := popS_len (l, k) a
      simp only at this hl
      omega) os ([], []) [some (false, .tup (zL os)), some (false, .tup []), some (false, .tup []), none] ⟨by simpa using ho, none, rfl⟩
  obtain ⟨_, x, rfl⟩ := h2
  have hz := foldl_len (m := fun p => p.1.length + p.2.length) popS_len os ([], [])
  simp only [List.length_nil, Nat.zero_add, Nat.add_zero] at hz
  have hb : (os.foldl popS ([], [])).1.length + (os.foldl popS ([], [])).2.length ≤ 1000000 := by omega
  simp [c__law_popper, b__law_popper]
  rw [h1]
  simp [byPopper, hb]
end Wk

namespace Wk
open PySem PySem.Spec PyProof.Rows L2 PI
/-! ### two rows -/
def mrg : List Int → List Int → List Int
  | [], bs => bs
  | a :: as, [] => a :: as
  | a :: as, b :: bs => if a < b then a :: mrg as (b :: bs) else b :: mrg (a :: as) bs
termination_by as bs => as.length + bs.length
theorem mrg_nil (l : List Int) : mrg l [] = l := by
  cases l with
  | nil => rw [mrg]
  | cons a l => rw [mrg]
theorem mrg_len : ∀ (n : Nat) (a b : List Int), a.length + b.length = n → (mrg a b).length = n := by
  intro n
  induction n with
  | zero =>
    intro a b h
    cases a with
    | nil =>
      rw [mrg]
      simpa using h
    | cons x a => simp at h
  | succ n ih =>
    intro a b h
    cases a with
    | nil =>
      rw [mrg]
      simpa using h
    | cons x a =>
      cases b with
      | nil =>
        rw [mrg]
        simpa using h
      | cons y b =>
        rw [mrg]
        simp only [List.length_cons] at h
        split
        · rw [List.length_cons, ih a (y :: b) (by simp only [List.length_cons]; omega)]
        · rw [List.length_cons, ih (x :: a) b (by simp only [List.length_cons]; omega)]
theorem drop_at {l : List Int} {i : Nat} (h : i < l.length) : ∃ x, l[i]? = some x ∧ l.drop i = x :: l.drop (i + 1) := ⟨l[i], List.getElem?_eq_getElem h, List.drop_eq_getElem_cons h⟩
theorem w_merged (a b : List Int) (ha : a.length + b.length < 1000) : ∀ (n i j : Nat) (left : List Int), (a.length - i) + (b.length - j) < n → i ≤ a.length → j ≤ b.length → left.length = i + j →
    ∃ (left' : List Int) (i' j' : Nat), wl wc1_merged wb1_merged n [some (false, .lst (zL a)), some (false, .lst (zL b)), some (true, .lst (zL left)), some (false, .int (i : Int)), some (false, .int (j : Int))] =
      some (.nx, [some (false, .lst (zL a)), some (false, .lst (zL b)), some (true, .lst (zL left')), some (false, .int (i' : Int)), some (false, .int (j' : Int))]) ∧
      left' ++ (a.drop i' ++ b.drop j') = left ++ mrg (a.drop i) (b.drop j) ∧ left'.length ≤ a.length + b.length := by
  intro n
  induction n with
  | zero => intro i j left h; omega
  | succ n ih =>
    intro i j left h hi hj hl
    by_cases c1 : i < a.length
    · by_cases c2 : j < b.length
      · obtain ⟨x, hx, dx⟩ := drop_at c1
        obtain ⟨y, hy, dy⟩ := drop_at c2
        have c1' : (i : Int) < a.length := by omega
        have c2' : (j : Int) < b.length := by omega
        have hz : left.length < 1000000 := by omega
        have cond : wc1_merged [some (false, .lst (zL a)), some (false, .lst (zL b)), some (true, .lst (zL left)), some (false, .int (i : Int)), some (false, .int (j : Int))] = some ((false, .bl true), [some (false, .lst (zL a)), some (false, .lst (zL b)), some (true, .lst (zL left)), some (false, .int (i : Int)), some (false, .int (j : Int))]) := by
          simp [wc1_merged, c1, c2]
        by_cases c : x < y
        · obtain ⟨l', i', j', h1, h2, h3⟩ := ih (i + 1) j (left ++ [x]) (by omega) (by omega) hj (by simp only [List.length_append, List.length_cons, List.length_nil]; omega)
          refine ⟨l', i', j', (wl_true cond ?_).trans h1, ?_, h3⟩
          · simp [wb1_merged, hx, hy, c, hz] <;> rfl
          · rw [h2, dx, dy, mrg, if_pos c, List.append_assoc]
            rfl
        · obtain ⟨l', i', j', h1, h2, h3⟩ := ih i (j + 1) (left ++ [y]) (by omega) hi (by omega) (by simp only [List.length_append, List.length_cons, List.length_nil]; omega)
          refine ⟨l', i', j', (wl_true cond ?_).trans h1, ?_, h3⟩
          · simp [wb1_merged, hx, hy, c, hz] <;> rfl
          · rw [h2, dx, dy, mrg, if_neg c, List.append_assoc]
            rfl
      · have c2' : ¬ (j : Int) < b.length := by omega
        refine ⟨left, i, j, wl_false (fr := false) (by simp [wc1_merged, c1, c2]), ?_, by omega⟩
        rw [List.drop_of_length_le (l := b) (by omega), mrg_nil, List.append_nil]
    · refine ⟨left, i, j, wl_false (fr := false) (by simp [wc1_merged, c1]), ?_, by omega⟩
      rw [List.drop_of_length_le (l := a) (by omega), mrg]
      rfl
theorem v_merged (a b : List Int) (h : a.length + b.length < 1000) : c_merged [.lst (zL a), .lst (zL b)] = some ((true, .lst (zL (mrg a b))), []) := by
  obtain ⟨l', i', j', h1, h2, h3⟩ := w_merged a b h 1000000 0 0 [] (by omega) (by omega) (by omega) rfl
  have hb : l'.length + (a.length - i') ≤ 1000000 := by omega
  have hb2 : l'.length + (a.length - i') + (b.length - j') ≤ 1000000 := by omega
  have h1 : wl wc1_merged wb1_merged 1000000 [some (false, .lst (zL a)), some (false, .lst (zL b)), some (true, .lst []), some (false, .int 0), some (false, .int 0)] = _ := h1
  simp [c_merged, b_merged, sWhile]
  rw [h1]
  have e : mrg a b = l' ++ (a.drop i' ++ b.drop j') := h2.symm
  simp [hb, hb2, e]
def gtLast (l : List Int) (x : Int) : Bool := match l.getLast? with
  | none => false
  | some y => decide (x < y)
def lStep (p : List Int × List Int) (x : Int) : List Int × List Int := if fits p.1 x || gtLast p.2 x then (p.1 ++ [x], p.2) else (p.1, p.2 ++ [x])
theorem lStep_len (p : List Int × List Int) (x : Int) : (lStep p x).1.length + (lStep p x).2.length = p.1.length + p.2.length + 1 := by
  unfold lStep
  split <;> simp only [List.length_append, List.length_cons, List.length_nil] <;> omega
def lRows (os : List Int) : List Int × List Int := os.foldl lStep ([], [])
theorem w_law_queues (o x : Option (Bool × PI.D)) : ∀ (n : Nat) (a b found : List Int), a.length + b.length < n → found.length + a.length + b.length < 1000 →
    ∃ (a' b' f' : List Int), wl wc1__law_queues wb1__law_queues n [o, some (false, .tup (zL a)), some (false, .tup (zL b)), some (false, .tup (zL found)), x] =
      some (.nx, [o, some (false, .tup (zL a')), some (false, .tup (zL b')), some (false, .tup (zL f')), x]) ∧ f' ++ (a' ++ b') = found ++ mrg a b ∧ f'.length + a'.length + b'.length < 1000 := by
  intro n
  induction n with
  | zero => intro a b f h; omega
  | succ n ih =>
    intro a b found h hl
    cases a with
    | nil =>
      refine ⟨[], b, found, wl_false (fr := false) (by simp [wc1__law_queues]), ?_, hl⟩
      rw [mrg]
      rfl
    | cons p a =>
      cases b with
      | nil =>
        refine ⟨p :: a, [], found, wl_false (fr := false) (by simp [wc1__law_queues]), ?_, hl⟩
        rw [mrg_nil, List.append_nil]
      | cons q b =>
        simp only [List.length_cons] at h hl
        have hb : found.length + 1 ≤ 1000000 := by omega
        have cond : wc1__law_queues [o, some (false, .tup (zL (p :: a))), some (false, .tup (zL (q :: b))), some (false, .tup (zL found)), x] = some ((false, .bl true), [o, some (false, .tup (zL (p :: a))), some (false, .tup (zL (q :: b))), some (false, .tup (zL found)), x]) := by
          simp [wc1__law_queues]
        by_cases c : p < q
        · obtain ⟨a', b', f', h1, h2, h3⟩ := ih a (q :: b) (found ++ [p]) (by simp only [List.length_cons]; omega) (by simp only [List.length_append, List.length_cons, List.length_nil]; omega)
          refine ⟨a', b', f', (wl_true cond ?_).trans h1, ?_, h3⟩
          · simp [wb1__law_queues, c, hb] <;> rfl
          · rw [h2, mrg, if_pos c, List.append_assoc]
            rfl
        · obtain ⟨a', b', f', h1, h2, h3⟩ := ih (p :: a) b (found ++ [q]) (by simp only [List.length_cons]; omega) (by simp only [List.length_append, List.length_cons, List.length_nil]; omega)
          refine ⟨a', b', f', (wl_true cond ?_).trans h1, ?_, h3⟩
          · simp [wb1__law_queues, c, hb] <;> rfl
          · rw [h2, mrg, if_neg c, List.append_assoc]
            rfl
theorem v_law_queues (os : List Int) (ho : os.length < 1000) : c__law_queues [.tup (zL os)] = some ((false, .tup (zL (mrg (lRows os).1 (lRows os).2))), []) := by
  obtain ⟨env', h1, h2⟩ := fl_foldZ (T := tName 4) (f := fb1__law_queues) (st := lStep) (fun p rest env => p.1.length + p.2.length + rest.length < 1000 ∧ ∃ x, env = [some (false, .tup (zL os)), some (false, .tup (zL p.1)), some (false, .tup (zL p.2)), some (false, .tup []), x]) (fun p a r env h => by
    obtain ⟨hl, x, rfl⟩ := h
    obtain ⟨l, k⟩ := p
    simp only [List.length_cons] at hl
    refine ⟨_, ?_, ?_, some (false, .int a), rfl⟩
    · have hb : l.length + 1 ≤ 1000000 := by omega
      have hb2 : k.length + 1 ≤ 1000000 := by omega
      cases e1 : l.getLast? with
      | none =>
        have e0 := List.getLast?_eq_none_iff.mp e1
        subst e0
        simp [fb1__law_queues, lStep, fits, hb, hb2] <;> rfl
      | some y =>
        have ne1 : l ≠ [] := fun e => by rw [e] at e1; cases e1
        cases e2 : k.getLast? with
        | none =>
          have e0 := List.getLast?_eq_none_iff.mp e2
          subst e0
          by_cases c : y < a <;> simp [fb1__law_queues, lStep, fits, gtLast, e1, e2, ne1, c, hb, hb2] <;> rfl
        | some z =>
          have ne2 : k ≠ [] := fun e => by rw [e] at e2; cases e2
          by_cases c : y < a <;> by_cases c2 : a < z <;> simp [fb1__law_queues, lStep, fits, gtLast, e1, e2, ne1, ne2, c, c2, hb, hb2] <;> rfl
    · have := lStep_len (l, k) a
      simp only at this hl
      omega) os ([], []) [some (false, .tup (zL os)), some (false, .tup []), some (false, .tup []), some (false, .tup []), none] ⟨by simpa using ho, none, rfl⟩
  obtain ⟨_, x, rfl⟩ := h2
  have hz := foldl_len (m := fun p => p.1.length + p.2.length) lStep_len os ([], [])
  simp only [List.length_nil, Nat.zero_add, Nat.add_zero] at hz
  obtain ⟨a', b', f', g1, g2, g3⟩ := w_law_queues (some (false, .tup (zL os))) x 1000000 (lRows os).1 (lRows os).2 [] (by unfold lRows; omega) (by unfold lRows; simp only [List.length_nil]; omega)
  have hb : f'.length + a'.length ≤ 1000000 := by omega
  have hb2 : f'.length + a'.length + b'.length ≤ 1000000 := by omega
  have g1 : wl wc1__law_queues wb1__law_queues 1000000 [some (false, .tup (zL os)), some (false, .tup (zL (os.foldl lStep ([], [])).1)), some (false, .tup (zL (os.foldl lStep ([], [])).2)), some (false, .tup []), x] = _ := g1
  have e : mrg (lRows os).1 (lRows os).2 = f' ++ (a' ++ b') := g2.symm
  simp [c__law_queues, b__law_queues, sWhile]
  rw [h1]
  simp
  rw [g1]
  simp [hb, hb2, e]
end Wk

namespace Wk
open PySem PySem.Spec PyProof.Rows L2 PI
/-! ### the held number -/
def bubS (p : List Int × Int) (x : Int) : List Int × Int := if x < p.2 then (p.1 ++ [x], p.2) else (p.1 ++ [p.2], x)
def byBubble : List Int → List Int
  | [] => []
  | x :: xs => (xs.foldl bubS ([], x)).1 ++ [(xs.foldl bubS ([], x)).2]
theorem bubS_len (p : List Int × Int) (x : Int) : (bubS p x).1.length = p.1.length + 1 := by
  unfold bubS
  split <;> simp
theorem v_by_bubble (os : List Int) (ho : os.length < 1000) : c_by_bubble [.tup (zL os)] = some ((false, .tup (zL (byBubble os))), []) := by
  cases os with
  | nil => simp [c_by_bubble, b_by_bubble, byBubble]
  | cons y os =>
    have f1 : (tName 2 (.int y) [some (false, .tup (zL (y :: os))), some (true, .lst []), none]).bind fb1_by_bubble = some (.nx, [some (false, .tup (zL (y :: os))), some (true, .lst (zL ([] ++ [y]))), some (false, .int y)]) := by
      simp [fb1_by_bubble] <;> rfl
    obtain ⟨env', h1, h2⟩ := fl_foldZ (T := tName 2) (f := fb1_by_bubble) (st := bubS) (fun p rest env => p.1.length + rest.length < 1000 ∧ ∃ x, env = [some (false, .tup (zL (y :: os))), some (true, .lst (zL (p.1 ++ [p.2]))), x]) (fun p a r env h => by
      obtain ⟨hl, x, rfl⟩ := h
      obtain ⟨l, k⟩ := p
      simp only [List.length_cons] at hl
      refine ⟨_, ?_, ?_, some (false, .int a), rfl⟩
      · have hb : l.length + 1 < 1000000 := by omega
        have hb2 : (l.length : Int) + 1 - 1 = l.length := by omega
        have hb3 : (l.length : Int) < 1000000 := by omega
        by_cases c : a < k <;> simp [fb1_by_bubble, bubS, c, hb, hb2, hb3]
      · have := bubS_len (l, k) a
        simp only at this hl
        omega) os ([], y) [some (false, .tup (zL (y :: os))), some (true, .lst (zL ([] ++ [y]))), some (false, .int y)] ⟨by simp only [List.length_cons, List.length_nil] at ho ⊢; omega, _, rfl⟩
    obtain ⟨_, x, rfl⟩ := h2
    have h3 := (fl_nx (ds := zL os) f1).trans h1
    have h3 : fl (tName 2) fb1_by_bubble (zL (y :: os)) [some (false, .tup (zL (y :: os))), some (true, .lst []), none] = _ := h3
    simp [c_by_bubble, b_by_bubble]
    rw [h3]
    simp [byBubble]
theorem v_law_bubble (os : List Int) (ho : os.length < 1000) : c__law_bubble [.tup (zL os)] = some ((false, .tup (zL (byBubble os))), []) := by
  cases os with
  | nil => simp [c__law_bubble, b__law_bubble, byBubble]
  | cons y os =>
    obtain ⟨env', h1, h2⟩ := fl_foldZ (T := tName 3) (f := fb1__law_bubble) (st := bubS) (fun p rest env => p.1.length + rest.length < 1000 ∧ ∃ x, env = [some (false, .tup (zL (y :: os))), some (false, .int p.2), some (false, .tup (zL p.1)), x]) (fun p a r env h => by
      obtain ⟨hl, x, rfl⟩ := h
      obtain ⟨l, k⟩ := p
      simp only [List.length_cons] at hl
      refine ⟨_, ?_, ?_, some (false, .int a), rfl⟩
      · have hb : l.length + 1 ≤ 1000000 := by omega
        by_cases c : a < k
        · have c2 : ¬ k < a := by omega
          simp [fb1__law_bubble, bubS, c, c2, hb]
        · by_cases c2 : k < a
          · simp [fb1__law_bubble, bubS, c, c2, hb]
          · have : a = k := by omega
            subst this
            simp [fb1__law_bubble, bubS, hb]
      · have := bubS_len (l, k) a
        simp only at this hl
        omega) os ([], y) [some (false, .tup (zL (y :: os))), some (false, .int y), some (false, .tup []), none] ⟨by simp only [List.length_cons, List.length_nil] at ho ⊢; omega, _, rfl⟩
    obtain ⟨_, x, rfl⟩ := h2
    have hz : ∀ (l : List Int) (p : List Int × Int), (l.foldl bubS p).1.length = p.1.length + l.length := foldl_len (m := fun (p : List Int × Int) => p.1.length) bubS_len
    have hb : (os.foldl bubS ([], y)).1.length + 1 ≤ 1000000 := by
      rw [hz]
      simp only [List.length_cons, List.length_nil] at ho ⊢
      omega
    simp [c__law_bubble, b__law_bubble]
    have e : (zL (y :: os)).tail = zL os := rfl
    rw [e, h1]
    simp [byBubble, hb]
/-! ### what is made is the order, led about -/
theorem popW_app (x : Int) : ∀ (r left : List Int), (popW x left r).1 ++ (popW x left r).2 = left ++ r
  | [], left => rfl
  | y :: r, left => by
    rw [popW]
    split
    · rw [popW_app x r, List.append_assoc]
      rfl
    · rfl
theorem fold_perm {st : List Int × List Int → Int → List Int × List Int} (h : ∀ p x, ((st p x).1 ++ (st p x).2).Perm (x :: (p.1 ++ p.2))) : ∀ (l : List Int) (p : List Int × List Int), ((l.foldl st p).1 ++ (l.foldl st p).2).Perm (l ++ (p.1 ++ p.2))
  | [], p => .refl _
  | a :: l, p => by
    rw [List.foldl_cons]
    exact (fold_perm h l (st p a)).trans (((h p a).append_left l).trans List.perm_middle)
theorem stk_perm (os : List Int) : (byStack os).Perm os := by
  have := fold_perm (st := stkS) (fun p x => by
    show ((popW x p.1 p.2).1 ++ x :: (popW x p.1 p.2).2).Perm _
    rw [← popW_app x p.2 p.1]
    exact List.perm_middle) os ([], [])
  simpa [byStack] using this
theorem pop_perm (os : List Int) : (byPopper os).Perm os := by
  have := fold_perm (st := popS) (fun p x => by
    obtain ⟨l, r⟩ := p
    cases r with
    | nil =>
      show (l ++ [x]).Perm (x :: (l ++ []))
      rw [List.append_nil]
      exact List.perm_append_singleton x l
    | cons y r =>
      show ((if y < x then (l ++ y :: r, [x]) else (l, x :: y :: r)).1 ++ (if y < x then (l ++ y :: r, [x]) else (l, x :: y :: r)).2).Perm _
      split
      · exact List.perm_append_singleton x _
      · exact List.perm_middle) os ([], [])
  simpa [byPopper] using this
theorem mrg_perm : ∀ (n : Nat) (a b : List Int), a.length + b.length = n → (mrg a b).Perm (a ++ b) := by
  intro n
  induction n with
  | zero =>
    intro a b h
    cases a with
    | nil =>
      rw [mrg]
      exact .refl _
    | cons x a => simp at h
  | succ n ih =>
    intro a b h
    cases a with
    | nil =>
      rw [mrg]
      exact .refl _
    | cons x a =>
      cases b with
      | nil =>
        rw [mrg, List.append_nil]
      | cons y b =>
        rw [mrg]
        simp only [List.length_cons] at h
        split
        · exact (ih a (y :: b) (by simp only [List.length_cons]; omega)).cons x
        · exact ((ih (x :: a) b (by simp only [List.length_cons]; omega)).cons y).trans List.perm_middle.symm
theorem lStep_perm (p : List Int × List Int) (x : Int) : ((lStep p x).1 ++ (lStep p x).2).Perm (x :: (p.1 ++ p.2)) := by
  unfold lStep
  split
  · show (p.1 ++ [x] ++ p.2).Perm _
    rw [List.append_assoc]
    exact List.perm_middle
  · show (p.1 ++ (p.2 ++ [x])).Perm _
    rw [← List.append_assoc]
    exact List.perm_append_singleton x _
def byQueues (os : List Int) : List Int := mrg (lRows os).1 (lRows os).2
theorem que_perm (os : List Int) : (byQueues os).Perm os := by
  have := fold_perm (st := lStep) lStep_perm os ([], [])
  exact (mrg_perm _ _ _ rfl).trans (by simpa [lRows] using this)
theorem bub_perm (os : List Int) : (byBubble os).Perm os := by
  have key : ∀ (l : List Int) (p : List Int × Int), ((l.foldl bubS p).1 ++ [(l.foldl bubS p).2]).Perm (l ++ (p.1 ++ [p.2])) := by
    intro l
    induction l with
    | nil => intro p; exact .refl _
    | cons a l ih =>
      intro p
      rw [List.foldl_cons]
      have st : ((bubS p a).1 ++ [(bubS p a).2]).Perm (a :: (p.1 ++ [p.2])) := by
        unfold bubS
        split
        · show (p.1 ++ [a] ++ [p.2]).Perm _
          rw [List.append_assoc]
          exact List.perm_middle
        · exact List.perm_append_singleton a _
      exact (ih (bubS p a)).trans ((st.append_left l).trans List.perm_middle)
  cases os with
  | nil => exact .refl _
  | cons y os => exact (key os ([], y)).trans (by simpa using List.perm_append_singleton y os)
/-- the program's rows are the law's -/
theorem rows_same (os : List Int) (nd : os.Nodup) : qRows os = lRows os := by
  have key : ∀ (l : List Int) (p : List Int × List Int), l.Nodup → (∀ x ∈ l, x ∉ p.2) → l.foldl qStep p = l.foldl lStep p := by
    intro l
    induction l with
    | nil => intro p _ _; rfl
    | cons a l ih =>
      intro p nd h
      obtain ⟨n1, n2⟩ := List.nodup_cons.mp nd
      have e : qStep p a = lStep p a := by
        unfold qStep lStep
        cases h1 : fits p.1 a with
        | true => rfl
        | false =>
          have ha : a ∉ p.2 := h a List.mem_cons_self
          cases h2 : p.2.getLast? with
          | none => simp [fits, gtLast, h2]
          | some y =>
            have hy : y ≠ a := fun e => ha (by rw [← e]; exact List.mem_of_getLast? h2)
            by_cases c : y < a
            · have c2 : ¬ a < y := by omega
              simp [fits, gtLast, h2, c, c2]
            · have c2 : a < y := by omega
              simp [fits, gtLast, h2, c, c2]
      rw [List.foldl_cons, List.foldl_cons, e]
      refine ih _ n2 fun x hx => ?_
      have hx1 := h x (List.mem_cons_of_mem _ hx)
      unfold lStep
      split
      · exact hx1
      · intro z
        rcases List.mem_append.mp z with z | z
        · exact hx1 z
        · rw [List.mem_singleton.mp z] at hx
          exact n1 hx
  exact key os ([], []) nd fun _ _ z => (nomatch z)
theorem v_by_queues (os : List Int) (ho : os.length < 1000) (nd : os.Nodup) : c_by_queues [.tup (zL os)] = some ((false, .tup (zL (byQueues os))), []) := by
  have hl := (fold_perm (st := lStep) lStep_perm os ([], [])).length_eq
  simp only [List.append_nil, List.length_append] at hl
  have hm := v_merged (lRows os).1 (lRows os).2 (by unfold lRows; omega)
  show ((toInts (zL os)).bind _) = _
  rw [q_toInts]
  show (if os.length < 1000 then _ else _) = _
  rw [if_pos ho, rows_same os nd, hm]
  rfl
end Wk

namespace Wk
open PySem PySem.Spec PyProof.Rows L2 PI
theorem v_is_integer (n : Int) : c_is_integer [.int n] = some ((false, .bl true), []) := by simp [c_is_integer, b_is_integer, isKT]
theorem v_are_integers (os : List Int) (ho : os.length < 1000) : c_are_integers [.tup (zL os)] = some ((false, .bl true), []) := by
  have h := lcl_map (T := tName 1) (c := eYes) (f := le1_are_integers) (vs := [1]) (env := [some (false, .tup (zL os)), none]) (enc := PI.D.int) (g := fun _ => PI.D.bl true) (by simp) os fun a _ => by
    refine ⟨[some (false, .tup (zL os)), some (false, .int a)], false, [some (false, .tup (zL os)), some (false, .int a)], false, [some (false, .tup (zL os)), some (false, .int a)], by simp, by simp, by simp [le1_are_integers, v_is_integer], by simp⟩
  have h : lcl (tName 1) eYes le1_are_integers [1] (zL os) [some (false, .tup (zL os)), none] = _ := h
  have hb : os.length < 1000000 := by omega
  have e : os.map (fun _ => PI.D.bl true) = (os.map fun _ => true).map PI.D.bl := by rw [List.map_map]; rfl
  have ea : allD (.lst (os.map fun _ => PI.D.bl true)) = some (false, .bl true) := by
    rw [e]
    show (toBls _).bind _ = _
    rw [toBls_map]
    simp
  simp [c_are_integers, b_are_integers, isKT, hb, h, ea]
theorem v_is_order {os : List Int} {n : Nat} (hn : n < 1000) (h : os.Perm (rng n)) : c_is_order [.tup (zL os)] = some ((false, .bl true), []) := by
  have hl : os.length = n := by rw [h.length_eq, rng_len]
  have h1 := v_are_integers os (by omega)
  have h2 := rgD_rng false n (by omega)
  have h3 : c_is_order_of [.tup (zL os)] = some ((false, .bl true), []) := by
    simp -implicitDefEqProofs [c_is_order_of, b_is_order_of, h1, hl, h2, isort_rng h]
  simp -implicitDefEqProofs [c_is_order, b_is_order, h3]
/-- the four sorters -/
inductive Srt where
  | st | po | qu | bu
def Srt.nm : Srt → Str
  | .st => "stack"
  | .po => "popper"
  | .qu => "queues"
  | .bu => "bubble"
def Srt.mk : Srt → List Int → List Int
  | .st => byStack
  | .po => byPopper
  | .qu => byQueues
  | .bu => byBubble
theorem mk_perm (s : Srt) (os : List Int) : (s.mk os).Perm os := by
  cases s with
  | st => exact stk_perm os
  | po => exact pop_perm os
  | qu => exact que_perm os
  | bu => exact bub_perm os
theorem s1 : (("popper" : Str) = "stack") = False := by decide +kernel
theorem s2 : (("queues" : Str) = "stack") = False := by decide +kernel
theorem s3 : (("queues" : Str) = "popper") = False := by decide +kernel
theorem s4 : (("bubble" : Str) = "stack") = False := by decide +kernel
theorem s5 : (("bubble" : Str) = "popper") = False := by decide +kernel
theorem s6 : (("bubble" : Str) = "queues") = False := by decide +kernel
theorem v_made_by (s : Srt) {os : List Int} (ho : os.length < 1000) (nd : os.Nodup) : c_made_by [.str s.nm, .tup (zL os)] = some ((false, .tup (zL (s.mk os))), []) := by
  cases s with
  | st => simp [c_made_by, b_made_by, Srt.nm, Srt.mk, v_by_stack os ho]
  | po => simp [c_made_by, b_made_by, Srt.nm, Srt.mk, v_by_popper os ho, s1]
  | qu => simp [c_made_by, b_made_by, Srt.nm, Srt.mk, v_by_queues os ho nd, s2, s3]
  | bu => simp [c_made_by, b_made_by, Srt.nm, Srt.mk, v_by_bubble os ho, s4, s5, s6]
theorem v_law_made (s : Srt) {os : List Int} (ho : os.length < 1000) : c__law_made [.str s.nm, .tup (zL os)] = some ((false, .tup (zL (s.mk os))), []) := by
  cases s with
  | st => simp [c__law_made, b__law_made, Srt.nm, Srt.mk, v_law_stack os ho]
  | po => simp [c__law_made, b__law_made, Srt.nm, Srt.mk, v_law_popper os ho, s1]
  | qu => simp [c__law_made, b__law_made, Srt.nm, Srt.mk, v_law_queues os ho, s2, s3, byQueues]
  | bu => simp [c__law_made, b__law_made, Srt.nm, Srt.mk, v_law_bubble os ho, s4, s5, s6]
theorem v_is_sorter (s : Srt) : c_is_sorter [.str s.nm] = some ((false, .bl true), []) := by
  cases s <;> rfl
theorem v_check_sorter (s : Srt) : c_check_sorter [.str s.nm] = some ((false, .non), []) := by
  simp [c_check_sorter, b_check_sorter, v_is_sorter]
end Wk

namespace Wk
open PySem PySem.Spec PyProof.Rows L2 PI
/-! ### the well -/
def Wl (k : Int) (d : PI.D) : Prop := ∃ w0 w1 w2 : Int, d = .lst [.int w0, .int w1, .int w2] ∧ (0 ≤ w1 ∧ w1 < 10 ^ 24 + 7) ∧ 0 ≤ w2 ∧ w2 ≤ k
theorem Wl.mono {k k' : Int} {d : PI.D} (h : Wl k d) (hk : k ≤ k') : Wl k' d := by
  obtain ⟨w0, w1, w2, e, h1, h2, h3⟩ := h
  exact ⟨w0, w1, w2, e, h1, h2, by omega⟩
theorem p25 : powB 10 25 = true := by decide +kernel
theorem p24 : powB 10 24 = true := by decide +kernel
theorem p18 : powB 10 18 = true := by decide +kernel
theorem v_dip {k many : Int} {d : PI.D} (h : Wl k d) (hk : k < 1000000) (hm : 0 < many) (hm2 : many < 1000000) :
    ∃ r d', c__law_dip [d, .int many] = some ((false, .int r), [d']) ∧ (0 ≤ r ∧ r < many) ∧ Wl (k + 1) d' := by
  obtain ⟨w0, w1, w2, rfl, ⟨h1, h2⟩, h3, h4⟩ := h
  by_cases c : 0 < w0
  · refine ⟨w0 % many, .lst [.int (w0 / many), .int w1, .int w2], ?_, ⟨Int.emod_nonneg _ (by omega), Int.emod_lt_of_pos _ hm⟩, w0 / many, w1, w2, rfl, ⟨h1, h2⟩, h3, by omega⟩
    simp [c__law_dip, b__law_dip, c, mod_ok hm, div_small hm (by omega : many.natAbs < 2 ^ 100), ixN]
  · refine ⟨(((w1 + 1000003 * (w2 + 1)) ^ 3 % (10 ^ 25 + 13) + 77347 * (w2 + 1)) ^ 2 % (10 ^ 24 + 7)) / 4096 % many, .lst [.int w0, .int w1, .int (w2 + 1)], ?_, ⟨Int.emod_nonneg _ (by omega), Int.emod_lt_of_pos _ hm⟩, w0, w1, w2 + 1, rfl, ⟨h1, h2⟩, by omega, by omega⟩
    have b0 : mulB 1000003 (w2 + 1) = true := mul_small (by decide) (by omega)
    have b1 : powB (w1 + 1000003 * (w2 + 1)) 3 = true := pow3 (by omega)
    have g1 : 0 ≤ (w1 + 1000003 * (w2 + 1)) ^ 3 % (10 ^ 25 + 13) := Int.emod_nonneg _ (by decide)
    have g2 : (w1 + 1000003 * (w2 + 1)) ^ 3 % (10 ^ 25 + 13) < 10 ^ 25 + 13 := Int.emod_lt_of_pos _ (by decide)
    have b2 : mulB 77347 (w2 + 1) = true := mul_small (by decide) (by omega)
    have b3 : powB ((w1 + 1000003 * (w2 + 1)) ^ 3 % (10 ^ 25 + 13) + 77347 * (w2 + 1)) 2 = true := pow2 (by
      generalize (w1 + 1000003 * (w2 + 1)) ^ 3 % (10 ^ 25 + 13) = z at *
      omega)
    have m1 : modB ((w1 + 1000003 * (w2 + 1)) ^ 3) 10000000000000000000000013 = true := mod_ok (by decide)
    have e25 : (10 : Int) ^ 25 + 13 = 10000000000000000000000013 := by decide
    have e24 : (10 : Int) ^ 24 + 7 = 1000000000000000000000007 := by decide
    rw [e25] at b3 ⊢
    rw [e24]
    simp [c__law_dip, b__law_dip, c, p25, p24, b0, b1, b2, b3, mod_ok (by decide : (0 : Int) < 10000000000000000000000013), mod_ok (by decide : (0 : Int) < 1000000000000000000000007), div_small (by decide : (0 : Int) < 4096) (by decide : (4096 : Int).natAbs < 2 ^ 100), mod_ok hm, ixN]
end Wk

namespace Wk
open PySem PySem.Spec PyProof.Rows L2 PI
theorem Wl.lst {k : Int} {d : PI.D} (h : Wl k d) : ∃ ws, d = .lst ws := by
  obtain ⟨w0, w1, w2, e, _⟩ := h
  exact ⟨_, e⟩
theorem v_dip2 {k many : Int} {ws : List PI.D} (h : Wl k (.lst ws)) (hk : k < 1000000) (hm : 0 < many) (hm2 : many < 1000000) :
    ∃ r ws', c__law_dip [.lst ws, .int many] = some ((false, .int r), [.lst ws']) ∧ 0 ≤ r ∧ r < many ∧ Wl (k + 1) (.lst ws') := by
  obtain ⟨r, d', h1, ⟨h2, h3⟩, h4⟩ := v_dip h hk hm hm2
  obtain ⟨ws', rfl⟩ := h4.lst
  exact ⟨r, ws', h1, h2, h3, h4⟩
theorem v_well {ns : List Int} {p : Nat} (hb : ∀ z ∈ ns, Builtin.Int.intBits z ≤ 1048576) (hl : ns.length ≤ 63) (hp : p < 100) : ∃ ws, c__law_well [.frz (zL ns), .int (p : Int)] = some ((true, .lst ws), []) ∧ Wl 0 (.lst ws) := by
  have m1 : mulB (p : Int) 6700417 = true := mul_small (by omega) (by decide)
  have m7 : modB ((0 : Int)) 1000000000000000000000007 = true := mod_ok (by decide)
  have key : ∀ x : Int, bts x ≤ 1048576 → ((x * 48611 + (p : Int) * 6700417 + 31337) % 1000000000000000000000007 < 10 ^ 24 + 7) ∧ 0 ≤ (x * 48611 + (p : Int) * 6700417 + 31337) % 1000000000000000000000007 := fun x hx => by
    have h1 := Int.emod_lt_of_pos (x * 48611 + (p : Int) * 6700417 + 31337) (by decide : (0 : Int) < 1000000000000000000000007)
    have h2 := Int.emod_nonneg (x * 48611 + (p : Int) * 6700417 + 31337) (by decide : (1000000000000000000000007 : Int) ≠ 0)
    exact ⟨by omega, h2⟩
  by_cases c : p < ns.length
  · have hx : ns[p]? = some ns[p] := List.getElem?_eq_getElem c
    have bx : bts ns[p] ≤ 1048576 := hb _ (List.getElem_mem c)
    have m2 : mulB ns[p] 48611 = true := mul_ok bx (by decide)
    refine ⟨[.int (if (if ns[p] < 0 then -ns[p] else ns[p]) - 1000000000000000000 > 0 then (if ns[p] < 0 then -ns[p] else ns[p]) - 1000000000000000000 else 0), .int ((ns[p] * 48611 + (p : Int) * 6700417 + 31337) % 1000000000000000000000007), .int 0], ?_, _, _, _, rfl, ⟨(key _ bx).2, (key _ bx).1⟩, by omega, by omega⟩
    simp -implicitDefEqProofs [c__law_well, b__law_well, c, hx, p18, p24, m1, m2, mod_ok (by decide : (0 : Int) < 1000000000000000000000007)]
  · have m2 : mulB (p : Int) 7919 = true := mul_small (by omega) (by decide)
    have m3 : mulB (ns.length : Int) 104729 = true := mul_small (by omega) (by decide)
    have bx : ((p : Int) * 7919 + (ns.length : Int) * 104729).natAbs < 2 ^ 100 := by omega
    have m4 : mulB ((p : Int) * 7919 + (ns.length : Int) * 104729) 48611 = true := mul_small bx (by decide)
    have bx2 : bts ((p : Int) * 7919 + (ns.length : Int) * 104729) ≤ 1048576 := Nat.le_trans (PyProof.Rows.intBits_le bx) (by decide)
    obtain ⟨k1, k2⟩ := key _ bx2
    generalize hx : (p : Int) * 7919 + (ns.length : Int) * 104729 = x at *
    refine ⟨[.int (if (if x < 0 then -x else x) - 1000000000000000000 > 0 then (if x < 0 then -x else x) - 1000000000000000000 else 0), .int ((x * 48611 + (p : Int) * 6700417 + 31337) % 1000000000000000000000007), .int 0], ?_, _, _, _, rfl, ⟨k2, k1⟩, by omega, by omega⟩
    simp -implicitDefEqProofs [c__law_well, b__law_well, c, p18, p24, m1, m2, m3, m4, hx, mod_ok (by decide : (0 : Int) < 1000000000000000000000007)]
theorem w_order (n : Int) : ∀ (m : Nat) (left found : List Int) (k : Int) (ws : List PI.D), left.length < m → k + left.length < 1000000 → 0 ≤ k → found.length + left.length < 1000 → Wl k (.lst ws) →
    ∃ f' ws', wl wc1__law_order wb1__law_order m [some (true, .lst ws), some (false, .int n), some (true, .lst (zL left)), some (true, .lst (zL found))] = some (.nx, [some (true, .lst ws'), some (false, .int n), some (true, .lst []), some (true, .lst (zL f'))]) ∧ f'.Perm (found ++ left) ∧ Wl (k + left.length) (.lst ws')
  | 0, left, found, k, ws, h, _, _, _, _ => by omega
  | m + 1, [], found, k, ws, h, hk, h0, hl, hw => ⟨found, ws, wl_false (fr := false) (by simp [wc1__law_order]), by rw [List.append_nil], by simpa using hw⟩
  | m + 1, x :: left, found, k, ws, h, hk, h0, hl, hw => by
    obtain ⟨r, ws1, h1, h2, h3, h4⟩ := v_dip2 (many := ((x :: left).length : Int)) hw (by omega) (by simp only [List.length_cons]; omega) (by simp only [List.length_cons] at hl ⊢; omega)
    have hr : r.toNat < (x :: left).length := by omega
    have hx : (x :: left)[r.toNat]? = some (x :: left)[r.toNat] := List.getElem?_eq_getElem hr
    have le : ((x :: left).eraseIdx r.toNat).length = left.length := by
      rw [List.length_eraseIdx_of_lt hr, List.length_cons]
      omega
    obtain ⟨f', ws', g1, g2, g3⟩ := w_order n m ((x :: left).eraseIdx r.toNat) (found ++ [(x :: left)[r.toNat]]) (k + 1) ws1 (by rw [le]; simp only [List.length_cons] at h; omega) (by rw [le]; simp only [List.length_cons] at hk; omega) (by omega) (by rw [le]; simp only [List.length_append, List.length_cons, List.length_nil] at hl ⊢; omega) h4
    refine ⟨f', ws', (wl_true (fr := false) (e := [some (true, .lst ws), some (false, .int n), some (true, .lst (zL (x :: left))), some (true, .lst (zL found))]) (by simp [wc1__law_order]) ?_).trans g1, ?_, ?_⟩
    · have b1 : -9223372036854775808 ≤ r := by omega
      have b2 : r < 9223372036854775808 := by omega
      have b3 : found.length < 1000000 := by omega
      have sx : seqIndex? r (x :: left).length = some r.toNat := seq_ix h2 h3
      generalize (x :: left) = xs at *
      simp -implicitDefEqProofs [wb1__law_order, h1, b1, b2, b3, sx, hx, zL_erase]
    · refine g2.trans ?_
      rw [List.append_assoc]
      exact (erase_perm hx).append_left found
    · rw [le] at g3
      have e : k + 1 + (left.length : Int) = k + ((x :: left).length : Int) := by simp only [List.length_cons]; omega
      rw [← e]
      exact g3
theorem v_order {k : Int} {ws : List PI.D} {n : Nat} (hw : Wl k (.lst ws)) (hk : k < 100000) (h0 : 0 ≤ k) (hn : n < 500) : ∃ os ws', c__law_order [.lst ws, .int (n : Int)] = some ((false, .tup (zL os)), [.lst ws']) ∧ os.Perm (rng n) ∧ Wl (k + n) (.lst ws') := by
  obtain ⟨f', ws', g1, g2, g3⟩ := w_order (n : Int) 1000000 (rng n) [] k ws (by rw [rng_len]; omega) (by rw [rng_len]; omega) h0 (by rw [rng_len]; simp only [List.length_nil]; omega) hw
  rw [rng_len] at g3
  have g1 : wl wc1__law_order wb1__law_order 1000000 [some (true, .lst ws), some (false, .int (n : Int)), some (true, .lst (zL (rng n))), some (true, .lst [])] = _ := g1
  refine ⟨f', ws', ?_, g2, g3⟩
  simp -implicitDefEqProofs [c__law_order, b__law_order, rgD_rng false n (by omega), sWhile]
  rw [g1]
  simp -implicitDefEqProofs
end Wk

namespace Wk
open PySem PySem.Spec PyProof.Rows L2 PI
/-! ### told and due -/
theorem same_bl (k : Nat) (b : Bool) : c__law_same (k + 1) [.bl b, .bl b] = some ((false, .bl true), []) := by
  show runB [false, false] 4 (b__law_same (c__law_same k)) _ = _
  simp -implicitDefEqProofs [b__law_same, isKT]
theorem same_int (k : Nat) (b : Int) : c__law_same (k + 1) [.int b, .int b] = some ((false, .bl true), []) := by
  show runB [false, false] 4 (b__law_same (c__law_same k)) _ = _
  simp -implicitDefEqProofs [b__law_same, isKT]
theorem same_loop {c : Cal} {ds : List PI.D} {d : PI.D} (hd : seqD d = some ds) (hx : ∀ i : Int, ixS d (.int i) = (atI ds i).bind fun e => some (false, e)) (hl : ds.length < 1000) (h : ∀ e ∈ ds, c [e, e] = some ((false, .bl true), [])) :
    ∃ x, fl (tName 3) (fb1__law_same c) (rangeD 0 ds.length) [some (false, d), some (false, d), some (false, .bl true), none] = some (.nx, [some (false, d), some (false, d), some (false, .bl true), x]) := by
  obtain ⟨env', h1, h2⟩ := fl_range (T := tName 3) (f := fb1__law_same c) ds.length (fun r env => (∀ i ∈ r, 0 ≤ i ∧ i < ds.length) ∧ ∃ x, env = [some (false, d), some (false, d), some (false, .bl true), x]) (fun a r env hr => by
    obtain ⟨hr, x, rfl⟩ := hr
    obtain ⟨a1, a2⟩ := hr a List.mem_cons_self
    have hi : a.toNat < ds.length := by omega
    have e := at_int a1 a2
    rw [List.getElem?_eq_getElem hi] at e
    have hc := h _ (List.getElem_mem hi)
    refine ⟨_, ?_, fun i hi => hr i (List.mem_cons_of_mem _ hi), some (false, .int a), rfl⟩
    simp -implicitDefEqProofs [fb1__law_same, hx, e, hc]) [some (false, d), some (false, d), some (false, .bl true), none] fun l _ hi => ⟨hi, none, rfl⟩
  obtain ⟨_, x, rfl⟩ := h2
  exact ⟨x, h1⟩
theorem same_tup (k : Nat) {ds : List PI.D} (hl : ds.length < 1000) (h : ∀ e ∈ ds, c__law_same k [e, e] = some ((false, .bl true), [])) : c__law_same (k + 1) [.tup ds, .tup ds] = some ((false, .bl true), []) := by
  obtain ⟨x, hx⟩ := same_loop (d := .tup ds) rfl (fun _ => rfl) hl h
  show runB [false, false] 4 (b__law_same (c__law_same k)) _ = _
  have b1 : (ds.length : Int) < 4611686018427387904 := by omega
  have b2 : -4611686018427387904 ≤ (ds.length : Int) := by omega
  simp -implicitDefEqProofs [b__law_same, isKT, b1, b2, hx]
theorem same_lst (k : Nat) {ds : List PI.D} (hl : ds.length < 1000) (h : ∀ e ∈ ds, c__law_same k [e, e] = some ((false, .bl true), [])) : c__law_same (k + 1) [.lst ds, .lst ds] = some ((false, .bl true), []) := by
  obtain ⟨x, hx⟩ := same_loop (d := .lst ds) rfl (fun _ => rfl) hl h
  show runB [false, false] 4 (b__law_same (c__law_same k)) _ = _
  have b1 : (ds.length : Int) < 4611686018427387904 := by omega
  have b2 : -4611686018427387904 ≤ (ds.length : Int) := by omega
  simp -implicitDefEqProofs [b__law_same, isKT, b1, b2, hx]
theorem same_ints (k : Nat) {l : List Int} (hl : l.length < 1000) : c__law_same (k + 2) [.tup (zL l), .tup (zL l)] = some ((false, .bl true), []) :=
  same_tup (k + 1) (by rw [zL_len]; exact hl) fun e he => by
    obtain ⟨i, _, rfl⟩ := List.mem_map.mp he
    exact same_int k i
end Wk

namespace Wk
open PySem PySem.Spec PyProof.Rows L2 PI
/-! ### the law's search for a pattern -/
def gt (l : List Int) (i : Nat) : Int := l.getD i 0
theorem gt_get {l : List Int} {i : Nat} (h : i < l.length) : l[i]? = some (gt l i) := by
  unfold gt
  rw [List.getD_eq_getElem?_getD, List.getElem?_eq_getElem h]
  rfl
def nfit (os p : List Int) (row : List Nat) (pl k : Nat) : Bool := !(decide (gt os (row.getD k 0) < gt os pl) == decide (gt p k < gt p row.length))
def okx (os p : List Int) (row : List Nat) (pl : Nat) : Bool := decide ((List.range row.length).filter (nfit os p row pl) = [])
def frm (row : List Nat) : Nat := match row.getLast? with
  | none => 0
  | some l => l + 1
def cnt (os p : List Int) (row : List Nat) : Nat := os.length + row.length + 1 - p.length - frm row
def kids (os p : List Int) (row : List Nat) : List (List Nat) := (((List.range (cnt os p row)).map fun i => frm row + i).filter (okx os p row)).map fun i => row ++ [i]
def extB (os p : List Int) : Nat → List Nat → Bool
  | 0, _ => true
  | k + 1, row => (kids os p row).any (extB os p k)
def showsB (os p : List Int) : Bool := extB os p p.length []
def encR (row : List Nat) : PI.D := .tup (zL (row.map fun (i : Nat) => (i : Int)))
theorem encR_app (row : List Nat) (i : Nat) : addD (encR row) (.tup [.int (i : Int)]) = if row.length + 1 ≤ 1000000 then some (false, encR (row ++ [i])) else none := by
  unfold encR
  show (if (zL (row.map fun (i : Nat) => (i : Int))).length + 1 ≤ 1000000 then _ else _) = _
  rw [zL_len, List.length_map, zL_app1]
  simp
structure RowOk (os p : List Int) (row : List Nat) : Prop where
  len : row.length ≤ p.length
  bnd : ∀ i ∈ row, i < os.length
theorem fold_keep {α β : Type} (q : α → Bool) (h : α → β) : ∀ (l : List α) (S : List β), l.foldl (fun S i => if q i then S ++ [h i] else S) S = S ++ (l.filter q).map h
  | [], S => by simp
  | a :: l, S => by
    rw [List.foldl_cons, fold_keep q h l]
    cases hq : q a with
    | true => rw [if_pos rfl, List.filter_cons_of_pos hq, List.map_cons, List.append_assoc]; rfl
    | false => rw [if_neg (by decide), List.filter_cons_of_neg (by simp [hq])]
theorem kids_fold (os p : List Int) (row : List Nat) : kids os p row = (List.range (cnt os p row)).foldl (fun S i => if okx os p row (frm row + i) then S ++ [row ++ [frm row + i]] else S) [] := by
  rw [fold_keep (fun i => okx os p row (frm row + i)) (fun i => row ++ [frm row + i]), List.nil_append]
  unfold kids
  rw [List.filter_map, List.map_map]
  rfl
theorem frm_le {os p : List Int} {row : List Nat} (hr : RowOk os p row) : frm row ≤ os.length := by
  unfold frm
  cases hl : row.getLast? with
  | none => exact Nat.zero_le _
  | some l => exact hr.bnd l (List.mem_of_getLast? hl)
theorem kids_ok {os p : List Int} {row r : List Nat} (hr : RowOk os p row) (hl : row.length < p.length) (h : r ∈ kids os p row) : RowOk os p r ∧ r.length = row.length + 1 := by
  unfold kids at h
  obtain ⟨i, hi, rfl⟩ := List.mem_map.mp h
  obtain ⟨j, hj, rfl⟩ := List.mem_map.mp (List.mem_filter.mp hi).1
  have hj := List.mem_range.mp hj
  unfold cnt at hj
  refine ⟨⟨by simp; omega, fun k hk => ?_⟩, by simp⟩
  rcases List.mem_append.mp hk with hk | hk
  · exact hr.bnd k hk
  · rw [List.mem_singleton.mp hk]
    omega
/-- the turns: each row weighs as the places behind it let -/
def wt (os : List Int) (row : List Nat) : Nat := 2 ^ (os.length - frm row)
def wts (os : List Int) (R : List (List Nat)) : Nat := (R.map (wt os)).sum
theorem wt_pos (os : List Int) (row : List Nat) : 0 < wt os row := Nat.two_pow_pos _
theorem wts_app (os : List Int) (A B : List (List Nat)) : wts os (A ++ B) = wts os A + wts os B := by
  unfold wts
  rw [List.map_append, List.sum_append]
theorem wts_len (os : List Int) : ∀ R : List (List Nat), R.length ≤ wts os R
  | [] => Nat.zero_le _
  | r :: R => by
    have := wt_pos os r
    have h := wts_len os R
    have e : wts os (r :: R) = wt os r + wts os R := by unfold wts; rw [List.map_cons, List.sum_cons]
    rw [e, List.length_cons]
    omega
theorem frm_app (row : List Nat) (i : Nat) : frm (row ++ [i]) = i + 1 := by
  unfold frm
  rw [List.getLast?_append]
  rfl
theorem kids_wt {os p : List Int} {row : List Nat} (hr : RowOk os p row) (hl : row.length < p.length) : wts os (kids os p row) + 1 ≤ wt os row := by
  have key : ∀ c, c ≤ os.length - frm row → wts os ((((List.range c).map fun i => frm row + i).filter (okx os p row)).map fun i => row ++ [i]) + 2 ^ (os.length - frm row - c) ≤ 2 ^ (os.length - frm row) := by
    intro c
    induction c with
    | zero =>
      intro _
      show 0 + _ ≤ _
      rw [Nat.zero_add, Nat.sub_zero]
      exact Nat.le_refl _
    | succ c ih =>
      intro hc
      have h := ih (by omega)
      rw [List.range_succ, List.map_append, List.filter_append, List.map_append, wts_app]
      have e : 2 ^ (os.length - frm row - c) = 2 ^ (os.length - frm row - (c + 1)) + 2 ^ (os.length - frm row - (c + 1)) := by
        have : os.length - frm row - c = (os.length - frm row - (c + 1)) + 1 := by omega
        rw [this, Nat.pow_succ]
        omega
      have h2 : wts os (((([c].map fun i => frm row + i).filter (okx os p row)).map fun i => row ++ [i])) ≤ 2 ^ (os.length - frm row - (c + 1)) := by
        show wts os ((([frm row + c].filter (okx os p row)).map fun i => row ++ [i])) ≤ _
        cases hk : okx os p row (frm row + c) with
        | true =>
          rw [List.filter_cons_of_pos hk]
          show wt os (row ++ [frm row + c]) + 0 ≤ _
          unfold wt
          rw [frm_app, Nat.add_zero]
          exact Nat.pow_le_pow_right (by decide) (by omega)
        | false =>
          rw [List.filter_cons_of_neg (by simp [hk])]
          exact Nat.zero_le _
      omega
  have hc : cnt os p row ≤ os.length - frm row := by unfold cnt; omega
  have h := key _ hc
  have := Nat.two_pow_pos (os.length - frm row - cnt os p row)
  unfold wt
  unfold kids
  omega
def extR (os p : List Int) (row : List Nat) : Bool := extB os p (p.length - row.length) row
theorem extR_full {os p : List Int} {row : List Nat} (h : row.length = p.length) : extR os p row = true := by
  unfold extR
  rw [h, Nat.sub_self]
  rfl
theorem extR_kids {os p : List Int} {row : List Nat} (hr : RowOk os p row) (h : row.length < p.length) : extR os p row = (kids os p row).any (extR os p) := by
  unfold extR
  have e : p.length - row.length = (p.length - (row.length + 1)) + 1 := by omega
  rw [e]
  show (kids os p row).any (extB os p (p.length - (row.length + 1))) = _
  have key : ∀ R : List (List Nat), (∀ r ∈ R, r.length = row.length + 1) → R.any (extB os p (p.length - (row.length + 1))) = R.any fun r => extB os p (p.length - r.length) r := by
    intro R
    induction R with
    | nil => intro _; rfl
    | cons r R ih =>
      intro hR
      rw [List.any_cons, List.any_cons, ih fun r' h' => hR r' (List.mem_cons_of_mem _ h'), hR r List.mem_cons_self]
  exact key _ fun r hr' => (kids_ok hr h hr').2
end Wk

namespace Wk
open PySem PySem.Spec PyProof.Rows L2 PI
def letsB (fb : List (List Int)) (os : List Int) : Bool := !(fb.any (showsB os))
end Wk

namespace Wk
open PySem PySem.Spec PyProof.Rows L2 PI
/-! ### the next lesser and greater ones ahead -/
def lss (p : List Int) (i : Nat) : List Int := (p.take i).filter fun o => decide (o < gt p i)
def grt (p : List Int) (i : Nat) : List Int := (p.take i).filter fun o => decide (gt p i < o)
def blw (p : List Int) (i : Nat) : Option Nat := if lss p i = [] then none else fstI (mxI (lss p i)) p
def abv (p : List Int) (i : Nat) : Option Nat := if grt p i = [] then none else fstI (mnI (grt p i)) p
def optI : Option Nat → PI.D
  | none => .non
  | some i => .int (i : Int)
def nbD (p : List Int) (i : Nat) : PI.D := .tup [optI (blw p i), optI (abv p i)]
theorem fstI_mem {z : Int} : ∀ {ys : List Int}, z ∈ ys → ∃ j, fstI z ys = some j
  | y :: ys, h => by
    unfold fstI
    by_cases c : y = z
    · exact ⟨0, if_pos c⟩
    · rw [if_neg c]
      rcases List.mem_cons.mp h with h | h
      · exact absurd h.symm c
      · obtain ⟨j, hj⟩ := fstI_mem h
        exact ⟨j + 1, by rw [hj]; rfl⟩
theorem gt_of {l : List Int} {i : Nat} {x : Int} (h : l[i]? = some x) : gt l i = x := by
  unfold gt
  rw [List.getD_eq_getElem?_getD, h]
  rfl
theorem mem_take_ix {l : List Int} {i : Nat} {x : Int} (h : x ∈ l.take i) : ∃ m, m < i ∧ l[m]? = some x := by
  obtain ⟨m, hm⟩ := List.mem_iff_getElem?.mp h
  have hlt := (List.getElem?_eq_some_iff.mp hm).1
  rw [List.length_take] at hlt
  refine ⟨m, by omega, ?_⟩
  rw [List.getElem?_take, if_pos (by omega)] at hm
  exact hm
theorem ix_mem_take {l : List Int} {i k : Nat} (h : k < i) (hk : k < l.length) : gt l k ∈ l.take i := by
  refine List.mem_iff_getElem?.mpr ⟨k, ?_⟩
  rw [List.getElem?_take, if_pos h]
  exact gt_get hk
theorem fst_take {p : List Int} {i : Nat} {x : Int} (h : x ∈ p.take i) : ∃ b, fstI x p = some b ∧ b < i ∧ gt p b = x := by
  obtain ⟨m, hm, he⟩ := mem_take_ix h
  obtain ⟨b, hb⟩ := fstI_mem (List.mem_of_getElem? he)
  obtain ⟨h1, h2⟩ := fstI_ok hb
  refine ⟨b, hb, ?_, gt_of h1⟩
  rcases Nat.lt_or_ge m b with c | c
  · exact absurd he (h2 m c)
  · omega
theorem blw_some {p : List Int} {i b : Nat} (h : blw p i = some b) : b < i ∧ gt p b < gt p i ∧ ∀ k, k < i → k < p.length → gt p k < gt p i → gt p k ≤ gt p b := by
  unfold blw at h
  split at h
  · cases h
  · rename_i hn
    obtain ⟨h1, h2⟩ := mxI_ok hn
    obtain ⟨h3, h4⟩ := List.mem_filter.mp h1
    obtain ⟨c, hc, hc2, hc3⟩ := fst_take h3
    rw [hc] at h
    cases h
    rw [hc3]
    refine ⟨hc2, of_decide_eq_true h4, fun k hk hk2 hlt => h2 _ (List.mem_filter.mpr ⟨ix_mem_take hk hk2, decide_eq_true hlt⟩)⟩
theorem blw_none {p : List Int} {i : Nat} (h : blw p i = none) : ∀ k, k < i → k < p.length → ¬ gt p k < gt p i := fun k hk hk2 hlt => by
  unfold blw at h
  split at h
  · rename_i hn
    have : gt p k ∈ lss p i := List.mem_filter.mpr ⟨ix_mem_take hk hk2, decide_eq_true hlt⟩
    rw [hn] at this
    cases this
  · rename_i hn
    obtain ⟨c, hc, _⟩ := fst_take (List.mem_filter.mp (mxI_ok hn).1).1
    rw [hc] at h
    cases h
theorem abv_some {p : List Int} {i b : Nat} (h : abv p i = some b) : b < i ∧ gt p i < gt p b ∧ ∀ k, k < i → k < p.length → gt p i < gt p k → gt p b ≤ gt p k := by
  unfold abv at h
  split at h
  · cases h
  · rename_i hn
    obtain ⟨h1, h2⟩ := mnI_ok hn
    obtain ⟨h3, h4⟩ := List.mem_filter.mp h1
    obtain ⟨c, hc, hc2, hc3⟩ := fst_take h3
    rw [hc] at h
    cases h
    rw [hc3]
    refine ⟨hc2, of_decide_eq_true h4, fun k hk hk2 hlt => h2 _ (List.mem_filter.mpr ⟨ix_mem_take hk hk2, decide_eq_true hlt⟩)⟩
theorem abv_none {p : List Int} {i : Nat} (h : abv p i = none) : ∀ k, k < i → k < p.length → ¬ gt p i < gt p k := fun k hk hk2 hlt => by
  unfold abv at h
  split at h
  · rename_i hn
    have : gt p k ∈ grt p i := List.mem_filter.mpr ⟨ix_mem_take hk hk2, decide_eq_true hlt⟩
    rw [hn] at this
    cases this
  · rename_i hn
    obtain ⟨c, hc, _⟩ := fst_take (List.mem_filter.mp (mnI_ok hn).1).1
    rw [hc] at h
    cases h
theorem lc_less {v : Int} {l : List Int} {x0 x1 x2 x4 x6 x7 x8 : Option (Bool × PI.D)} : lcl (tName 5) lc1_neighbours (eVar 5) [5] (zL l) [x0, x1, x2, some (false, .int v), x4, none, x6, x7, x8] = some (zL (l.filter fun o => decide (o < v)), [x0, x1, x2, some (false, .int v), x4, none, x6, x7, x8]) :=
  lcl_filter (T := tName 5) (c := lc1_neighbours) (f := eVar 5) (vs := [5]) (env := [x0, x1, x2, some (false, .int v), x4, none, x6, x7, x8]) (enc := PI.D.int) (g := PI.D.int) (p := fun o => decide (o < v)) (by simp) l fun o _ =>
    ⟨[x0, x1, x2, some (false, .int v), x4, some (false, .int o), x6, x7, x8], false, [x0, x1, x2, some (false, .int v), x4, some (false, .int o), x6, x7, x8], by simp, by simp [lc1_neighbours], by simp, fun _ => ⟨false, [x0, x1, x2, some (false, .int v), x4, some (false, .int o), x6, x7, x8], by simp, by simp⟩⟩
theorem lc_more {v : Int} {l : List Int} {x0 x1 x2 x4 x6 x7 x8 : Option (Bool × PI.D)} : lcl (tName 5) lc2_neighbours (eVar 5) [5] (zL l) [x0, x1, x2, some (false, .int v), x4, none, x6, x7, x8] = some (zL (l.filter fun o => decide (v < o)), [x0, x1, x2, some (false, .int v), x4, none, x6, x7, x8]) :=
  lcl_filter (T := tName 5) (c := lc2_neighbours) (f := eVar 5) (vs := [5]) (env := [x0, x1, x2, some (false, .int v), x4, none, x6, x7, x8]) (enc := PI.D.int) (g := PI.D.int) (p := fun o => decide (v < o)) (by simp) l fun o _ =>
    ⟨[x0, x1, x2, some (false, .int v), x4, some (false, .int o), x6, x7, x8], false, [x0, x1, x2, some (false, .int v), x4, some (false, .int o), x6, x7, x8], by simp, by simp [lc2_neighbours], by simp, fun _ => ⟨false, [x0, x1, x2, some (false, .int v), x4, some (false, .int o), x6, x7, x8], by simp, by simp⟩⟩
theorem v_neighbours {p : List Int} (hp : p.length < 500) : c_neighbours [.tup (zL p)] = some ((true, .lst ((List.range p.length).map (nbD p))), []) := by
  obtain ⟨env', h1, h2⟩ := fl_keep (T := tTplA 2 (tsCons (tName 2) (tsCons (tName 3) tsNil))) (f := fb1_neighbours) (fun j env => ∃ (x2 x3 x4 x6 x7 x8 : Option (Bool × PI.D)), env = [some (false, .tup (zL p)), some (true, .lst ((List.range j).map (nbD p))), x2, x3, x4, none, x6, x7, x8]) (enD 0 (zL p)) 0 [some (false, .tup (zL p)), some (true, .lst []), none, none, none, none, none, none, none]
    (fun j d env hd hr => by
      obtain ⟨x2, x3, x4, x6, x7, x8, rfl⟩ := hr
      rw [enD_get, Nat.zero_add] at hd
      obtain ⟨d0, hd0, rfl⟩ := Option.map_eq_some_iff.mp hd
      rw [zL_get] at hd0
      obtain ⟨v, hv, rfl⟩ := Option.map_eq_some_iff.mp hd0
      have hj : j < p.length := (List.getElem?_eq_some_iff.mp hv).1
      rw [Nat.zero_add]
      have ev := gt_of hv
      have cut : cutD (zL p) none (some (j : Int)) = zL (p.take j) := by rw [cut_take (α := Int) j, zL_take]
      have ll : min j p.length < 1000000 := by omega
      have la := fun x0 x1 x2 x4 x6 x7 x8 => lc_less (v := v) (l := p.take j) (x0 := x0) (x1 := x1) (x2 := x2) (x4 := x4) (x6 := x6) (x7 := x7) (x8 := x8)
      have lb := fun x0 x1 x2 x4 x6 x7 x8 => lc_more (v := v) (l := p.take j) (x0 := x0) (x1 := x1) (x2 := x2) (x4 := x4) (x6 := x6) (x7 := x7) (x8 := x8)
      have hA : (p.take j).filter (fun o => decide (o < v)) = lss p j := by rw [← ev]; rfl
      have hB : (p.take j).filter (fun o => decide (v < o)) = grt p j := by rw [← ev]; rfl
      rw [hA] at la
      rw [hB] at lb
      have hr : (List.range (j + 1)).map (nbD p) = (List.range j).map (nbD p) ++ [nbD p j] := by rw [List.range_succ, List.map_append]; rfl
      have b1 : (j : Int) < 4611686018427387904 := by omega
      have b2 : ((List.range j).map (nbD p)).length < 1000000 := by simp; omega
      refine ⟨[some (false, .tup (zL p)), some (true, .lst ((List.range (j + 1)).map (nbD p))), some (false, .int (j : Int)), some (false, .int v), some (true, .lst (zL (lss p j))), none, some (true, .lst (zL (grt p j))), some (false, optI (blw p j)), some (false, optI (abv p j))], ?_, _, _, _, _, _, _, rfl⟩
      rw [hr]
      generalize hR : (List.range j).map (nbD p) = R at *
      have eN : nbD p j = .tup [optI (blw p j), optI (abv p j)] := rfl
      rw [eN]
      by_cases ca : lss p j = []
      · have ea : blw p j = none := if_pos ca
        by_cases cb : grt p j = []
        · have eb : abv p j = none := if_pos cb
          rw [ea, eb]
          simp -implicitDefEqProofs [fb1_neighbours, cut, la, lb, ca, cb, ll, b2, optI]
        · have eb : abv p j = fstI (mnI (grt p j)) p := if_neg cb
          obtain ⟨c, hc, _⟩ := fst_take (List.mem_filter.mp (mnI_ok cb).1).1
          rw [ea, eb, hc]
          simp -implicitDefEqProofs [fb1_neighbours, cut, la, lb, ca, cb, ll, b2, optI, hc]
      · have ea : blw p j = fstI (mxI (lss p j)) p := if_neg ca
        obtain ⟨c, hc, _⟩ := fst_take (List.mem_filter.mp (mxI_ok ca).1).1
        by_cases cb : grt p j = []
        · have eb : abv p j = none := if_pos cb
          rw [ea, eb, hc]
          simp -implicitDefEqProofs [fb1_neighbours, cut, la, lb, ca, cb, ll, b2, optI, hc]
        · have eb : abv p j = fstI (mnI (grt p j)) p := if_neg cb
          obtain ⟨c', hc', _⟩ := fst_take (List.mem_filter.mp (mnI_ok cb).1).1
          rw [ea, eb, hc, hc']
          simp -implicitDefEqProofs [fb1_neighbours, cut, la, lb, ca, cb, ll, b2, optI, hc, hc'])
    ⟨none, none, none, none, none, none, rfl⟩
  obtain ⟨x2, x3, x4, x6, x7, x8, rfl⟩ := h2
  rw [enD_len, zL_len, Nat.zero_add] at h1
  generalize (List.range p.length).map (nbD p) = R at *
  simp -implicitDefEqProofs [c_neighbours, b_neighbours, h1]
end Wk

namespace Wk
open PySem PySem.Spec PyProof.Rows L2 PI
/-! ### rows of places, as the program goes -/
def loP (os p : List Int) (row : List Nat) : Int := match blw p row.length with
  | none => 0
  | some b => gt os (row.getD b 0)
def hiP (os p : List Int) (row : List Nat) : Int := match abv p row.length with
  | none => (os.length : Int) + 1
  | some b => gt os (row.getD b 0)
def fitP (os p : List Int) (row : List Nat) (pl : Nat) : Bool := decide (loP os p row < gt os pl) && decide (gt os pl < hiP os p row)
structure RowC (os p : List Int) (row : List Nat) : Prop where
  ok : RowOk os p row
  up : ∀ i ∈ row, i < frm row
  same : ∀ i j, i < row.length → j < row.length → (gt os (row.getD i 0) < gt os (row.getD j 0) ↔ gt p i < gt p j)
structure Ord (os : List Int) : Prop where
  nd : os.Nodup
  pos : ∀ x ∈ os, 1 ≤ x ∧ x ≤ os.length
theorem nodup_ne {l : List Int} (h : l.Nodup) {i j : Nat} (hi : i < l.length) (hj : j < l.length) (hij : i ≠ j) : gt l i ≠ gt l j := fun e => by
  have h1 := gt_get hi
  have h2 := gt_get hj
  rw [e, ← h2] at h1
  exact hij ((List.getElem?_inj hi h).mp h1)
theorem gt_mem {l : List Int} {i : Nat} (hi : i < l.length) : gt l i ∈ l := by
  rw [gt_of (List.getElem?_eq_getElem hi)]
  exact List.getElem_mem hi
theorem getD_mem {row : List Nat} {k : Nat} (hk : k < row.length) : row.getD k 0 ∈ row := by
  rw [List.getD_eq_getElem?_getD, List.getElem?_eq_getElem hk]
  exact List.getElem_mem hk
theorem okx_iff' {os p : List Int} {row : List Nat} {pl : Nat} : okx os p row pl = true ↔ ∀ k, k < row.length → (gt os (row.getD k 0) < gt os pl ↔ gt p k < gt p row.length) := by
  unfold okx
  rw [decide_eq_true_iff, List.filter_eq_nil_iff]
  unfold nfit
  constructor
  · intro h k hk
    have := h k (List.mem_range.mpr hk)
    simpa using this
  · intro h k hk
    have := h k (List.mem_range.mp hk)
    simpa using this
theorem fits_okx {os p : List Int} (ho : Ord os) (hp : p.Nodup) {row : List Nat} {pl : Nat} (hr : RowC os p row) (hl : row.length < p.length) (hpl : pl < os.length) (hf : frm row ≤ pl) : fitP os p row pl = okx os p row pl := by
  have ne : ∀ k, k < row.length → gt os (row.getD k 0) ≠ gt os pl := fun k hk => nodup_ne ho.nd (hr.ok.bnd _ (getD_mem hk)) hpl (by have := hr.up _ (getD_mem hk); omega)
  have nep : ∀ k, k < row.length → gt p k ≠ gt p row.length := fun k hk => nodup_ne hp (by omega) hl (by omega)
  have pp := ho.pos _ (gt_mem hpl)
  rw [Bool.eq_iff_iff, okx_iff']
  unfold fitP
  rw [Bool.and_eq_true, decide_eq_true_iff, decide_eq_true_iff]
  constructor
  · rintro ⟨h1, h2⟩ k hk
    constructor
    · intro h3
      rcases Int.lt_or_gt_of_ne (nep k hk) with h | h
      · exact h
      · exfalso
        unfold hiP at h2
        cases ha : abv p row.length with
        | none => exact abv_none ha k hk (by omega) h
        | some a =>
          rw [ha] at h2
          obtain ⟨a1, a2, a3⟩ := abv_some ha
          have h4 := a3 k hk (by omega) h
          have h5 : ¬ gt os (row.getD k 0) < gt os (row.getD a 0) := fun h => by
            have := (hr.same k a hk a1).mp h
            omega
          dsimp only at h2
          omega
    · intro h3
      unfold loP at h1
      cases ha : blw p row.length with
      | none => exact absurd h3 (blw_none ha k hk (by omega))
      | some a =>
        rw [ha] at h1
        obtain ⟨a1, a2, a3⟩ := blw_some ha
        have h4 := a3 k hk (by omega) h3
        have h5 : ¬ gt os (row.getD a 0) < gt os (row.getD k 0) := fun h => by
          have := (hr.same a k a1 hk).mp h
          omega
        dsimp only at h1
        omega
  · intro h
    constructor
    · unfold loP
      cases ha : blw p row.length with
      | none => dsimp only; omega
      | some a =>
        obtain ⟨a1, a2, a3⟩ := blw_some ha
        exact (h a a1).mpr a2
    · unfold hiP
      cases ha : abv p row.length with
      | none => dsimp only; omega
      | some a =>
        obtain ⟨a1, a2, a3⟩ := abv_some ha
        have h4 : ¬ gt os (row.getD a 0) < gt os pl := fun hh => by
          have := (h a a1).mp hh
          omega
        have := ne a a1
        dsimp only
        omega
theorem getD_app_lt {row : List Nat} {k i : Nat} (hk : k < row.length) : (row ++ [i]).getD k 0 = row.getD k 0 := by
  rw [List.getD_eq_getElem?_getD, List.getD_eq_getElem?_getD, List.getElem?_append_left hk]
theorem getD_app_eq {row : List Nat} {i : Nat} : (row ++ [i]).getD row.length 0 = i := by
  rw [List.getD_eq_getElem?_getD, List.getElem?_concat_length]
  rfl
theorem mem_kids' {os p : List Int} {row r : List Nat} (h : r ∈ kids os p row) : ∃ i, frm row ≤ i ∧ i < frm row + cnt os p row ∧ okx os p row i = true ∧ r = row ++ [i] := by
  unfold kids at h
  obtain ⟨i, hi, rfl⟩ := List.mem_map.mp h
  obtain ⟨h1, h2⟩ := List.mem_filter.mp hi
  obtain ⟨j, hj, rfl⟩ := List.mem_map.mp h1
  have hj := List.mem_range.mp hj
  exact ⟨frm row + j, by omega, by omega, h2, rfl⟩
theorem kids_c {os p : List Int} (ho : Ord os) (hp : p.Nodup) {row r : List Nat} (hr : RowC os p row) (hl : row.length < p.length) (h : r ∈ kids os p row) : RowC os p r ∧ r.length = row.length + 1 := by
  obtain ⟨k1, k2⟩ := kids_ok hr.ok hl h
  obtain ⟨i, h1, h2, h3, rfl⟩ := mem_kids' h
  have hi : i < os.length := k1.bnd i (List.mem_append_right _ List.mem_cons_self)
  have h3 := okx_iff'.mp h3
  refine ⟨⟨k1, fun j hj => ?_, fun a b ha hb => ?_⟩, k2⟩
  · rw [frm_app]
    rcases List.mem_append.mp hj with hj | hj
    · have := hr.up j hj
      omega
    · rw [List.mem_singleton.mp hj]
      omega
  · rw [k2] at ha hb
    have ne : ∀ k, k < row.length → gt os (row.getD k 0) ≠ gt os i := fun k hk => nodup_ne ho.nd (hr.ok.bnd _ (getD_mem hk)) hi (by have := hr.up _ (getD_mem hk); omega)
    have nep : ∀ k, k < row.length → gt p k ≠ gt p row.length := fun k hk => nodup_ne hp (by omega) hl (by omega)
    rcases Nat.lt_or_ge a row.length with ca | ca
    · rcases Nat.lt_or_ge b row.length with cb | cb
      · rw [getD_app_lt ca, getD_app_lt cb]
        exact hr.same a b ca cb
      · have eb : b = row.length := by omega
        subst eb
        rw [getD_app_lt ca, getD_app_eq]
        exact h3 a ca
    · have ea : a = row.length := by omega
      subst ea
      rcases Nat.lt_or_ge b row.length with cb | cb
      · rw [getD_app_lt cb, getD_app_eq]
        have := h3 b cb
        have := ne b cb
        have := nep b cb
        omega
      · have eb : b = row.length := by omega
        subst eb
        omega
def lev (os p : List Int) : Nat → List (List Nat)
  | 0 => [[]]
  | k + 1 => (lev os p k).flatMap (kids os p)
theorem lev_c {os p : List Int} (ho : Ord os) (hp : p.Nodup) : ∀ k, k ≤ p.length → ∀ r ∈ lev os p k, RowC os p r ∧ r.length = k
  | 0, _, r, h => by
    rw [List.mem_singleton.mp h]
    exact ⟨⟨⟨Nat.zero_le _, fun i hi => (nomatch hi)⟩, fun i hi => (nomatch hi), fun i j hi _ => (nomatch hi)⟩, rfl⟩
  | k + 1, hk, r, h => by
    obtain ⟨row, h1, h2⟩ := List.mem_flatMap.mp h
    obtain ⟨c1, c2⟩ := lev_c ho hp k (by omega) row h1
    obtain ⟨c3, c4⟩ := kids_c ho hp c1 (by omega) h2
    exact ⟨c3, by omega⟩
theorem wts_kids {os p : List Int} : ∀ R : List (List Nat), (∀ r ∈ R, RowOk os p r ∧ r.length < p.length) → wts os (R.flatMap (kids os p)) ≤ wts os R
  | [], _ => Nat.le_refl _
  | r :: R, h => by
    rw [List.flatMap_cons, wts_app]
    have h1 := wts_kids R fun x hx => h x (List.mem_cons_of_mem _ hx)
    have h2 := kids_wt (h r List.mem_cons_self).1 (h r List.mem_cons_self).2
    have e : wts os (r :: R) = wt os r + wts os R := rfl
    omega
theorem lev_wts {os p : List Int} (ho : Ord os) (hp : p.Nodup) : ∀ k, k ≤ p.length → wts os (lev os p k) ≤ 2 ^ os.length
  | 0, _ => by
    show wt os [] + 0 ≤ _
    rw [Nat.add_zero]
    exact Nat.le_refl _
  | k + 1, hk => Nat.le_trans (wts_kids _ fun r hr => by
      obtain ⟨c1, c2⟩ := lev_c ho hp k (by omega) r hr
      exact ⟨c1.ok, by omega⟩) (lev_wts ho hp k (by omega))
theorem ext_lev {os p : List Int} : ∀ (k : Nat) (R : List (List Nat)), R.any (extB os p k) = decide ((Nat.rec R (fun _ Q => Q.flatMap (kids os p)) k : List (List Nat)) ≠ [])
  | 0, R => by
    cases R with
    | nil => rfl
    | cons r R => simp [extB]
  | k + 1, R => by
    have e : R.any (extB os p (k + 1)) = (R.flatMap (kids os p)).any (extB os p k) := by
      rw [List.any_flatMap]
      rfl
    rw [e, ext_lev k]
    have key : ∀ (k : Nat) (R : List (List Nat)), (Nat.rec (R.flatMap (kids os p)) (fun _ Q => Q.flatMap (kids os p)) k : List (List Nat)) = (Nat.rec R (fun _ Q => Q.flatMap (kids os p)) (k + 1) : List (List Nat)) := by
      intro k R
      induction k with
      | zero => rfl
      | succ k ih =>
        show List.flatMap (kids os p) (Nat.rec (R.flatMap (kids os p)) (fun _ Q => Q.flatMap (kids os p)) k) = _
        rw [ih]
    rw [key]
theorem lev_rec (os p : List Int) : ∀ k, lev os p k = (Nat.rec [[]] (fun _ Q => Q.flatMap (kids os p)) k : List (List Nat))
  | 0 => rfl
  | k + 1 => by
    show (lev os p k).flatMap (kids os p) = _
    rw [lev_rec os p k]
theorem shows_lev (os p : List Int) : showsB os p = decide (lev os p p.length ≠ []) := by
  rw [lev_rec, ← ext_lev]
  show _ = (extB os p p.length [] || false)
  rw [Bool.or_false]
  rfl
theorem shows_short {os p : List Int} (h : os.length < p.length) : showsB os p = false := by
  obtain ⟨n, hn⟩ : ∃ n, p.length = n + 1 := ⟨p.length - 1, by omega⟩
  unfold showsB
  rw [hn]
  show (kids os p []).any _ = false
  have hc : cnt os p [] = 0 := by
    show os.length + 0 + 1 - p.length - 0 = 0
    omega
  unfold kids
  rw [hc]
  rfl
end Wk

namespace Wk
open PySem PySem.Spec PyProof.Rows L2 PI
theorem kids_eq {os p : List Int} (ho : Ord os) (hp : p.Nodup) {row : List Nat} (hr : RowC os p row) (hl : row.length < p.length) : kids os p row = ((List.range (cnt os p row)).filter fun i => fitP os p row (frm row + i)).map fun i => row ++ [frm row + i] := by
  unfold kids
  rw [List.filter_map, List.map_map]
  congr 1
  refine List.filter_congr fun i hi => ?_
  have hi := List.mem_range.mp hi
  unfold cnt at hi
  exact (fits_okx (pl := frm row + i) ho hp hr hl (by omega) (by omega)).symm
/-- one place -/
theorem lc_row {os p : List Int} (ho : Ord os) (hp : p.Nodup) {row : List Nat} (hr : RowC os p row) (hl : row.length < p.length) (hs : row.length < 1000) {x2 x3 x4 x5 x6 x10 x11 : Option (Bool × PI.D)} :
    lcl (tName 12) lc1_placed le1_placed [12] (rangeD (frm row : Int) (cnt os p row)) [some (false, .tup (zL os)), some (false, .tup (zL p)), x2, x3, x4, x5, x6, some (false, encR row), some (false, .int (loP os p row)), some (false, .int (hiP os p row)), x10, x11, none] =
      some ((kids os p row).map encR, [some (false, .tup (zL os)), some (false, .tup (zL p)), x2, x3, x4, x5, x6, some (false, encR row), some (false, .int (loP os p row)), some (false, .int (hiP os p row)), x10, x11, none]) := by
  have h := lcl_filter (T := tName 12) (c := lc1_placed) (f := le1_placed) (vs := [12]) (env := [some (false, .tup (zL os)), some (false, .tup (zL p)), x2, x3, x4, x5, x6, some (false, encR row), some (false, .int (loP os p row)), some (false, .int (hiP os p row)), x10, x11, none])
    (enc := fun i : Nat => PI.D.int ((frm row : Int) + (i : Int))) (g := fun i : Nat => encR (row ++ [frm row + i])) (p := fun i => fitP os p row (frm row + i)) (by simp) (List.range (cnt os p row)) (fun i hi => by
      have hi := List.mem_range.mp hi
      unfold cnt at hi
      have hb : frm row + i < os.length := by omega
      have h1 := gt_get hb
      have b4 : row.length + 1 ≤ 1000000 := by omega
      have b5 := encR_app row (frm row + i)
      rw [if_pos b4] at b5
      have e : ((frm row + i : Nat) : Int) = (frm row : Int) + (i : Int) := Int.natCast_add _ _
      have e2 : atI (zL os) ((frm row : Int) + (i : Int)) = some (.int (gt os (frm row + i))) := by rw [← e, z_atn, zL_get, h1]; rfl
      rw [e] at b5
      have hf : fitP os p row (frm row + i) = (decide (loP os p row < gt os (frm row + i)) && decide (gt os (frm row + i) < hiP os p row)) := rfl
      refine ⟨[some (false, .tup (zL os)), some (false, .tup (zL p)), x2, x3, x4, x5, x6, some (false, encR row), some (false, .int (loP os p row)), some (false, .int (hiP os p row)), x10, x11, some (false, .int ((frm row : Int) + (i : Int)))], false, [some (false, .tup (zL os)), some (false, .tup (zL p)), x2, x3, x4, x5, x6, some (false, encR row), some (false, .int (loP os p row)), some (false, .int (hiP os p row)), x10, x11, some (false, .int ((frm row : Int) + (i : Int)))], by simp, ?_, by simp, fun _ => ⟨false, [some (false, .tup (zL os)), some (false, .tup (zL p)), x2, x3, x4, x5, x6, some (false, encR row), some (false, .int (loP os p row)), some (false, .int (hiP os p row)), x10, x11, some (false, .int ((frm row : Int) + (i : Int)))], ?_, by simp⟩⟩
      · rw [hf]
        generalize loP os p row = A at *
        generalize hiP os p row = B at *
        generalize gt os (frm row + i) = G at *
        by_cases c1 : A < G
        · simp -implicitDefEqProofs [lc1_placed, e2, c1]
        · simp -implicitDefEqProofs [lc1_placed, e2, c1]
      · generalize encR row = ER at *
        generalize encR (row ++ [frm row + i]) = ER2 at *
        simp -implicitDefEqProofs [le1_placed, b5])
  rw [kids_eq ho hp hr hl, List.map_map]
  exact h
theorem enc_get {row : List Nat} {k : Nat} (hk : k < row.length) : (row.map fun (i : Nat) => (i : Int))[k]? = some ((row.getD k 0 : Nat) : Int) := by
  rw [List.getElem?_map, List.getElem?_eq_getElem hk]
  simp [List.getD_eq_getElem?_getD, hk]
theorem enc_at {row : List Nat} {k : Nat} (hk : k < row.length) : ixS (encR row) (.int (k : Int)) = some (false, .int ((row.getD k 0 : Nat) : Int)) := by
  unfold encR
  show (atI (zL _) (k : Int)).bind _ = _
  rw [z_atn, zL_get, enc_get hk]
  rfl
/-- one row -/
theorem v_place1 {os p : List Int} (ho : Ord os) (hp : p.Nodup) {row : List Nat} (hr : RowC os p row) (hl : row.length < p.length) (hs : p.length < 500) (ho2 : os.length < 500) {L : List PI.D} (hL : L.length + (kids os p row).length < 1000000) {x2 x7 x8 x9 x10 x11 : Option (Bool × PI.D)} :
    ∃ y8 y9 y10 y11, (tName 7 (encR row) [some (false, .tup (zL os)), some (false, .tup (zL p)), x2, some (false, .int (row.length : Int)), some (false, optI (blw p row.length)), some (false, optI (abv p row.length)), some (true, .lst L), x7, x8, x9, x10, x11, none]).bind fb1_placed =
      some (.nx, [some (false, .tup (zL os)), some (false, .tup (zL p)), x2, some (false, .int (row.length : Int)), some (false, optI (blw p row.length)), some (false, optI (abv p row.length)), some (true, .lst (L ++ (kids os p row).map encR)), some (false, encR row), y8, y9, y10, y11, none]) := by
  have hf := frm_le hr.ok
  have lc := fun x10 x11 => lc_row ho hp hr hl (by omega) (x2 := x2) (x3 := some (false, .int (row.length : Int))) (x4 := some (false, optI (blw p row.length))) (x5 := some (false, optI (abv p row.length))) (x6 := some (true, .lst L)) (x10 := x10) (x11 := x11)
  have hk : ((kids os p row).map encR).length = (kids os p row).length := List.length_map _
  have b1 : ((rangeD (frm row : Int) (cnt os p row)).length < 1000000) := by
    rw [rangeD_len]
    unfold cnt
    omega
  -- below and above
  have A : (eIf (e2 isntD (.sl 4) (.ex (eC .non))) (e2 ixS (.sl 0) (.ex (e2 ixS (.sl 7) (.sl 4)))) (eC (.int 0))) [some (false, .tup (zL os)), some (false, .tup (zL p)), x2, some (false, .int (row.length : Int)), some (false, optI (blw p row.length)), some (false, optI (abv p row.length)), some (true, .lst L), some (false, encR row), x8, x9, x10, x11, none] = some ((false, .int (loP os p row)), [some (false, .tup (zL os)), some (false, .tup (zL p)), x2, some (false, .int (row.length : Int)), some (false, optI (blw p row.length)), some (false, optI (abv p row.length)), some (true, .lst L), some (false, encR row), x8, x9, x10, x11, none]) := by
    unfold loP
    cases ha : blw p row.length with
    | none =>
      generalize encR row = ER
      simp -implicitDefEqProofs [optI]
    | some a =>
      obtain ⟨a1, _, _⟩ := blw_some ha
      have e1 := enc_at a1
      have e2 := gt_get (hr.ok.bnd _ (getD_mem a1))
      dsimp only
      generalize encR row = ER at *
      generalize row.getD a 0 = q at *
      simp -implicitDefEqProofs [optI, e1, e2]
  have B : ∀ z8, (eIf (e2 isntD (.sl 5) (.ex (eC .non))) (e2 ixS (.sl 0) (.ex (e2 ixS (.sl 7) (.sl 5)))) (e2 addD (.ex (eN (c1 lenD) [(.sl 0)])) (.ex (eC (.int 1))))) [some (false, .tup (zL os)), some (false, .tup (zL p)), x2, some (false, .int (row.length : Int)), some (false, optI (blw p row.length)), some (false, optI (abv p row.length)), some (true, .lst L), some (false, encR row), z8, x9, x10, x11, none] = some ((false, .int (hiP os p row)), [some (false, .tup (zL os)), some (false, .tup (zL p)), x2, some (false, .int (row.length : Int)), some (false, optI (blw p row.length)), some (false, optI (abv p row.length)), some (true, .lst L), some (false, encR row), z8, x9, x10, x11, none]) := fun z8 => by
    unfold hiP
    cases ha : abv p row.length with
    | none =>
      generalize encR row = ER
      simp -implicitDefEqProofs [optI]
    | some a =>
      obtain ⟨a1, _, _⟩ := abv_some ha
      have e1 := enc_at a1
      have e2 := gt_get (hr.ok.bnd _ (getD_mem a1))
      dsimp only
      generalize encR row = ER at *
      generalize row.getD a 0 = q at *
      simp -implicitDefEqProofs [optI, e1, e2]
  have C : ∀ z8 z9, (eIf (e2 neD (.sl 7) (.ex (eTup []))) (e2 addD (.ex (e2 ixS (.sl 7) (.ex (e1 negD (.ex (eC (.int 1))))))) (.ex (eC (.int 1)))) (eC (.int 0))) [some (false, .tup (zL os)), some (false, .tup (zL p)), x2, some (false, .int (row.length : Int)), some (false, optI (blw p row.length)), some (false, optI (abv p row.length)), some (true, .lst L), some (false, encR row), z8, z9, x10, x11, none] = some ((false, .int (frm row : Int)), [some (false, .tup (zL os)), some (false, .tup (zL p)), x2, some (false, .int (row.length : Int)), some (false, optI (blw p row.length)), some (false, optI (abv p row.length)), some (true, .lst L), some (false, encR row), z8, z9, x10, x11, none]) := fun z8 z9 => by
    unfold encR frm
    cases hrow : row.getLast? with
    | none =>
      have e0 := List.getLast?_eq_none_iff.mp hrow
      subst e0
      simp -implicitDefEqProofs
    | some l =>
      have ne : row ≠ [] := fun e => by rw [e] at hrow; cases hrow
      have ne2 : (row.map fun (i : Nat) => (i : Int)) ≠ [] := by simpa using ne
      have hl2 : (row.map fun (i : Nat) => (i : Int)).getLast? = some (l : Int) := by rw [List.getLast?_map, hrow]; rfl
      generalize (row.map fun (i : Nat) => (i : Int)) = RI at *
      simp -implicitDefEqProofs [ne2, hl2, ne]
  have ec : ((os.length : Int) - ((p.length : Int) - (row.length : Int) - 1) - (frm row : Int)).toNat = cnt os p row := by unfold cnt; omega
  have D : ∀ z8 z9, srcR2 (eVar 10) (eVar 11) [some (false, .tup (zL os)), some (false, .tup (zL p)), x2, some (false, .int (row.length : Int)), some (false, optI (blw p row.length)), some (false, optI (abv p row.length)), some (true, .lst L), some (false, encR row), z8, z9, some (false, .int (frm row : Int)), some (false, .int ((os.length : Int) - ((p.length : Int) - (row.length : Int) - 1))), none] = some (rangeD (frm row : Int) (cnt os p row), [some (false, .tup (zL os)), some (false, .tup (zL p)), x2, some (false, .int (row.length : Int)), some (false, optI (blw p row.length)), some (false, optI (abv p row.length)), some (true, .lst L), some (false, encR row), z8, z9, some (false, .int (frm row : Int)), some (false, .int ((os.length : Int) - ((p.length : Int) - (row.length : Int) - 1))), none]) := fun z8 z9 => by
    rw [← ec]
    exact srcR2_nat (a := false) (b := false) rfl rfl (by omega) (by omega)
  refine ⟨some (false, .int (loP os p row)), some (false, .int (hiP os p row)), some (false, .int (frm row : Int)), some (false, .int ((os.length : Int) - ((p.length : Int) - (row.length : Int) - 1))), ?_⟩
  have lc := lc (some (false, .int (frm row : Int))) (some (false, .int ((os.length : Int) - ((p.length : Int) - (row.length : Int) - 1))))
  have D := D (some (false, .int (loP os p row))) (some (false, .int (hiP os p row)))
  have hL2 : L.length + (kids os p row).length < 1000000 := hL
  generalize (kids os p row).map encR = KR at *
  simp -implicitDefEqProofs only [fb1_placed]
  generalize encR row = ER at *
  generalize optI (blw p row.length) = O1 at *
  generalize optI (abv p row.length) = O2 at *
  generalize loP os p row = V1 at *
  generalize hiP os p row = V2 at *
  generalize hE1 : eIf (e2 isntD (.sl 4) _) _ _ = E1 at *
  generalize hE2 : eIf (e2 isntD (.sl 5) _) _ _ = E2 at *
  generalize hE3 : eIf (e2 neD (.sl 7) _) _ _ = E3 at *
  generalize hE4 : srcR2 (eVar 10) (eVar 11) = E4 at *
  simp -implicitDefEqProofs [A, B, C, D, lc, hk, b1, hL2]
end Wk

namespace Wk
open PySem PySem.Spec PyProof.Rows L2 PI
theorem l_place {os p : List Int} (ho : Ord os) (hp : p.Nodup) {k : Nat} (hk : k < p.length) (hs : p.length < 500) (ho2 : os.length < 500) {x2 : Option (Bool × PI.D)} : ∀ (R : List (List Nat)) (L : List PI.D) (x7 x8 x9 x10 x11 : Option (Bool × PI.D)), (∀ r ∈ R, RowC os p r ∧ r.length = k) → L.length + (R.flatMap (kids os p)).length < 1000000 →
    ∃ y7 y8 y9 y10 y11, fl (tName 7) fb1_placed (R.map encR) [some (false, .tup (zL os)), some (false, .tup (zL p)), x2, some (false, .int (k : Int)), some (false, optI (blw p k)), some (false, optI (abv p k)), some (true, .lst L), x7, x8, x9, x10, x11, none] =
      some (.nx, [some (false, .tup (zL os)), some (false, .tup (zL p)), x2, some (false, .int (k : Int)), some (false, optI (blw p k)), some (false, optI (abv p k)), some (true, .lst (L ++ (R.flatMap (kids os p)).map encR)), y7, y8, y9, y10, y11, none])
  | [], L, x7, x8, x9, x10, x11, _, _ => ⟨x7, x8, x9, x10, x11, by simp⟩
  | r :: R, L, x7, x8, x9, x10, x11, h, hL => by
    rw [List.flatMap_cons, List.length_append] at hL
    obtain ⟨c1, c2⟩ := h r List.mem_cons_self
    obtain ⟨y8, y9, y10, y11, g⟩ := v_place1 ho hp c1 (by omega) hs ho2 (L := L) (by omega) (x2 := x2) (x7 := x7) (x8 := x8) (x9 := x9) (x10 := x10) (x11 := x11)
    rw [c2] at g
    obtain ⟨z7, z8, z9, z10, z11, g2⟩ := l_place ho hp hk hs ho2 R (L ++ (kids os p r).map encR) (some (false, encR r)) y8 y9 y10 y11 (fun x hx => h x (List.mem_cons_of_mem _ hx)) (by rw [List.length_append, List.length_map]; omega)
    refine ⟨z7, z8, z9, z10, z11, (fl_nx (ds := R.map encR) g).trans ?_⟩
    rw [g2, List.flatMap_cons, List.map_append, List.append_assoc]
theorem lev_len {os p : List Int} (ho : Ord os) (hp : p.Nodup) (ho2 : os.length ≤ 16) {k : Nat} (hk : k ≤ p.length) : (lev os p k).length ≤ 65536 := by
  have h1 := wts_len os (lev os p k)
  have h2 := lev_wts ho hp k hk
  have h3 : 2 ^ os.length ≤ 2 ^ 16 := Nat.pow_le_pow_right (by decide) ho2
  omega
theorem v_placed {os p : List Int} (ho : Ord os) (hp : p.Nodup) (ho2 : os.length ≤ 16) (hs : p.length < 500) : ∃ b, c_placed [.tup (zL os), .tup (zL p)] = some ((b, .lst ((lev os p p.length).map encR)), []) := by
  have nb := v_neighbours hs
  obtain ⟨env', h1, h2⟩ := fl_keep (T := tTplA 2 (tsCons (tName 3) (tsCons (tTplA 2 (tsCons (tName 4) (tsCons (tName 5) tsNil))) tsNil))) (f := fb2_placed) (fun j env => ∃ (b : Bool) (x3 x4 x5 x6 x7 x8 x9 x10 x11 : Option (Bool × PI.D)), env = [some (false, .tup (zL os)), some (false, .tup (zL p)), some (b, .lst ((lev os p j).map encR)), x3, x4, x5, x6, x7, x8, x9, x10, x11, none]) (enD 0 ((List.range p.length).map (nbD p))) 0 [some (false, .tup (zL os)), some (false, .tup (zL p)), some (true, .lst [.tup []]), none, none, none, none, none, none, none, none, none, none]
    (fun j d env hd hr => by
      obtain ⟨b, x3, x4, x5, x6, x7, x8, x9, x10, x11, rfl⟩ := hr
      rw [enD_get, Nat.zero_add, List.getElem?_map] at hd
      obtain ⟨d0, hd0, rfl⟩ := Option.map_eq_some_iff.mp hd
      obtain ⟨j', hj', rfl⟩ := Option.map_eq_some_iff.mp hd0
      have hjl := (List.getElem?_eq_some_iff.mp hj').1
      rw [List.length_range] at hjl
      have ej : j' = j := by
        rw [List.getElem?_range hjl] at hj'
        exact (Option.some.inj hj').symm
      subst ej
      rw [Nat.zero_add]
      have ll := lev_len ho hp ho2 (k := j' + 1) (by omega)
      obtain ⟨y7, y8, y9, y10, y11, g⟩ := l_place ho hp (k := j') hjl hs (by omega) (x2 := some (false, .lst ((lev os p j').map encR))) (lev os p j') [] x7 x8 x9 x10 x11 (lev_c ho hp j' (by omega)) (by
        show 0 + (lev os p (j' + 1)).length < _
        omega)
      rw [List.nil_append] at g
      have g : fl _ _ _ _ = some (.nx, [_, _, _, _, _, _, some (true, .lst ((lev os p (j' + 1)).map encR)), _, _, _, _, _, none]) := g
      have eN : nbD p j' = .tup [optI (blw p j'), optI (abv p j')] := rfl
      rw [eN]
      generalize (lev os p (j' + 1)).map encR = L2 at *
      generalize (lev os p j').map encR = L1 at *
      generalize optI (blw p j') = O1 at *
      generalize optI (abv p j') = O2 at *
      refine ⟨_, ?_, false, some (false, .int (j' : Int)), some (false, O1), some (false, O2), some (false, .lst L2), y7, y8, y9, y10, y11, rfl⟩
      cases b <;> simp -implicitDefEqProofs [fb2_placed, g])
    ⟨true, none, none, none, none, none, none, none, none, none, rfl⟩
  obtain ⟨b, x3, x4, x5, x6, x7, x8, x9, x10, x11, rfl⟩ := h2
  rw [enD_len, List.length_map, List.length_range, Nat.zero_add] at h1
  generalize (lev os p p.length).map encR = L2 at *
  generalize (List.range p.length).map (nbD p) = R at *
  refine ⟨b, ?_⟩
  cases b <;> simp -implicitDefEqProofs [c_placed, b_placed, nb, h1]
theorem encRs_ne {R : List (List Nat)} : neD (.lst (R.map encR)) (.lst []) = some (false, .bl (decide (R ≠ []))) := by
  have e : R.map encR = (R.map fun r => r.map fun (i : Nat) => (i : Int)).map fun l => PI.D.tup (zL l) := by
    rw [List.map_map]
    rfl
  rw [e, q_ne, eqB_lst0 enc_zt (by decide)]
  show some (false, PI.D.bl _) = _
  congr 3
  cases R <;> simp
theorem v_is_shown {os p : List Int} (ho : Ord os) (hp : p.Nodup) (ho2 : os.length ≤ 16) (hs : p.length < 500) : c_is_shown [.tup (zL os), .tup (zL p)] = some ((false, .bl (showsB os p)), []) := by
  obtain ⟨b, h1⟩ := v_placed ho hp ho2 hs
  by_cases c : p.length ≤ os.length
  · have c' : (p.length : Int) ≤ (os.length : Int) := by omega
    have h2 := encRs_ne (R := lev os p p.length)
    rw [← shows_lev] at h2
    generalize (lev os p p.length).map encR = L2 at *
    simp -implicitDefEqProofs [c_is_shown, b_is_shown, c', h1, h2, c]
  · have c' : ¬ (p.length : Int) ≤ (os.length : Int) := by omega
    have h3 := shows_short (os := os) (p := p) (by omega)
    rw [h3]
    simp -implicitDefEqProofs [c_is_shown, b_is_shown, c', c]
theorem all_bls {α : Type} {f : α → Bool} {l : List α} : allD (.lst (l.map fun a => PI.D.bl (f a))) = some (false, .bl (l.all f)) := by
  have e : (l.map fun a => PI.D.bl (f a)) = (l.map f).map PI.D.bl := by rw [List.map_map]; rfl
  rw [e]
  show (toBls _).bind _ = _
  rw [toBls_map]
  show some (false, PI.D.bl ((l.map f).all id)) = _
  rw [List.all_map]
  rfl
theorem any_bls {α : Type} {f : α → Bool} {l : List α} : anyD (.lst (l.map fun a => PI.D.bl (f a))) = some (false, .bl (l.any f)) := by
  have e : (l.map fun a => PI.D.bl (f a)) = (l.map f).map PI.D.bl := by rw [List.map_map]; rfl
  rw [e]
  show (toBls _).bind _ = _
  rw [toBls_map]
  show some (false, PI.D.bl ((l.map f).any id)) = _
  rw [List.any_map]
  rfl
end Wk

namespace Hd
open PySem PySem.Spec PyProof.Rows L2 Wk
theorem md {w : World} {K : PySem.W.Frag} {h : Heap} {mg : Str → Option Value} (X : K.In h) (G : h.Ns mainGlobals mg) (c : He.SaysX fa fn ts [] ex w h K) : Md w K mg := by
  have d := c.t.d
  have more : ex K = true := c.more
  have at_ : ∀ (i j : Nat) (x y : Str) (t : Nat), fn[i]? = some (dOf x y t) → fa[j]? = some (.glo x) → ∃ (a : Addr) (fd : FuncData), PI.DefAt K mg x y (top t) a fd := fun i j x y t h1 h2 => by
    obtain ⟨fd, F⟩ := d.def_ i h1
    have g := He.glo_ok X G (d.fact j h2)
    have e : He.fAd K (x, none) = He.ga K x := rfl
    exact ⟨_, fd, F, g⟩
  exact ⟨He.free_ok X G (d.fact 42 (f := .free "abs") rfl),
    He.free_ok X G (d.fact 43 (f := .free "all") rfl),
    He.free_ok X G (d.fact 44 (f := .free "any") rfl),
    He.free_ok X G (d.fact 45 (f := .free "bool") rfl),
    He.free_ok X G (d.fact 46 (f := .free "enumerate") rfl),
    He.free_ok X G (d.fact 47 (f := .free "int") rfl),
    He.free_ok X G (d.fact 48 (f := .free "isinstance") rfl),
    He.free_ok X G (d.fact 49 (f := .free "len") rfl),
    He.free_ok X G (d.fact 50 (f := .free "list") rfl),
    He.free_ok X G (d.fact 51 (f := .free "max") rfl),
    He.free_ok X G (d.fact 52 (f := .free "min") rfl),
    He.free_ok X G (d.fact 53 (f := .free "range") rfl),
    He.free_ok X G (d.fact 54 (f := .free "sorted") rfl),
    He.free_ok X G (d.fact 55 (f := .free "str") rfl),
    He.free_ok X G (d.fact 56 (f := .free "tuple") rfl),
    PI.tyB_ok X G ((He.ba more).2),
    at_ 0 0 "_law_well" "_law_well" 41 rfl rfl,
    at_ 1 1 "_law_dip" "_law_dip" 42 rfl rfl,
    at_ 2 2 "_law_orders" "_law_orders" 46 rfl rfl,
    at_ 3 3 "_law_stack" "_law_stack" 48 rfl rfl,
    at_ 4 4 "_law_popper" "_law_popper" 49 rfl rfl,
    at_ 5 5 "_law_queues" "_law_queues" 50 rfl rfl,
    at_ 6 6 "_law_bubble" "_law_bubble" 51 rfl rfl,
    at_ 7 7 "_law_made" "_law_made" 52 rfl rfl,
    at_ 8 8 "_law_less" "_law_less" 54 rfl rfl,
    at_ 9 9 "_law_unsorted" "_law_unsorted" 55 rfl rfl,
    at_ 10 10 "is_sorter" "is_sorter" 26 rfl rfl,
    at_ 11 11 "check_sorter" "check_sorter" 27 rfl rfl,
    at_ 12 12 "is_integer" "is_integer" 8 rfl rfl,
    at_ 13 13 "check_number" "check_number" 18 rfl rfl,
    at_ 14 14 "orders_of" "orders_of" 22 rfl rfl,
    at_ 15 15 "orders" "orders" 23 rfl rfl,
    at_ 16 16 "by_stack" "by_stack" 30 rfl rfl,
    at_ 17 17 "by_popper" "by_popper" 31 rfl rfl,
    at_ 18 18 "merged" "merged" 32 rfl rfl,
    at_ 19 19 "by_queues" "by_queues" 33 rfl rfl,
    at_ 20 20 "by_bubble" "by_bubble" 34 rfl rfl,
    at_ 21 21 "made_by" "made_by" 35 rfl rfl,
    at_ 22 22 "risen" "risen" 36 rfl rfl,
    at_ 23 23 "does_sort" "does_sort" 37 rfl rfl,
    at_ 24 24 "are_integers" "are_integers" 9 rfl rfl,
    at_ 25 25 "is_order_of" "is_order_of" 10 rfl rfl,
    at_ 26 26 "check_order_patterns" "check_order" 15 rfl rfl,
    at_ 27 27 "is_pattern" "is_pattern" 20 rfl rfl,
    at_ 28 28 "check_pattern" "check_pattern" 17 rfl rfl,
    at_ 29 29 "neighbours" "neighbours" 11 rfl rfl,
    at_ 30 30 "placed" "placed" 12 rfl rfl,
    at_ 31 31 "is_shown" "is_shown" 13 rfl rfl,
    at_ 32 32 "shows" "shows" 21 rfl rfl,
    at_ 33 33 "least_unsorted" "least_unsorted" 39 rfl rfl,
    at_ 34 34 "_law_same" "_law_same" 43 rfl rfl,
    at_ 35 35 "_law_order" "_law_order" 47 rfl rfl,
    at_ 36 36 "_law_passes" "_law_passes" 53 rfl rfl,
    at_ 37 37 "is_order" "is_order" 19 rfl rfl,
    at_ 38 38 "check_order_sorters" "check_order" 28 rfl rfl,
    at_ 39 39 "passes" "passes" 38 rfl rfl,
    at_ 40 40 "law" "law" 56 rfl rfl,
    PI.tab_ok (He.glo_ok X G (d.fact 41 (f := .glo "LISTS") rfl)) (c.t.tab 0 rfl) ((He.ba more).1)⟩
end Hd

namespace Wk
open PySem PySem.Spec PyProof.Rows L2 PI
/-- t, t + 1, .. -/
def rgl : Nat → Nat → List Nat
  | _, 0 => []
  | t, k + 1 => t :: rgl (t + 1) k
theorem rgl_map (k : Nat) : ∀ t : Nat, rgl t k = (List.range k).map fun i => t + i := by
  induction k with
  | zero => intro t; rfl
  | succ k ih =>
    intro t
    show t :: rgl (t + 1) k = _
    rw [ih, List.range_succ_eq_map, List.map_cons, List.map_map]
    congr 1
    apply List.map_congr_left
    intro i _
    show t + 1 + i = t + (i + 1)
    omega
theorem rangeD_rgl (t k : Nat) : rangeD (t : Int) k = (rgl t k).map fun (i : Nat) => PI.D.int (i : Int) := by
  rw [rgl_map, List.map_map]
  unfold rangeD
  apply List.map_congr_left
  intro i _
  show PI.D.int _ = PI.D.int _
  rw [Int.natCast_add]
/-- how often f is to be done until r is there -/
def pasI (f : List Int → List Int) (r : List Int) : Nat → Nat → List Int → Option Nat
  | _, 0, _ => none
  | t, k + 1, os => if os = r then some t else pasI f r (t + 1) k (f os)
def pasC : Option Nat → Ctl
  | none => .nx
  | some t => .rt (false, .int (t : Int))
theorem pas_loop {T : TF} {body : SF} {f : List Int → List Int} {r : List Int} (I : List Int → Prop) (E : List Int → Option (Bool × PI.D) → PI.Env) (hb : ∀ os x (t : Nat), I os → ∃ e', (T (.int (t : Int)) (E os x)).bind body = some ((if os = r then .rt (false, .int (t : Int)) else .nx), e') ∧ (os ≠ r → ∃ y, e' = E (f os) y)) (hf : ∀ os, I os → I (f os)) :
    ∀ (k t : Nat) (os : List Int) x, I os → ∃ e', fl T body ((rgl t k).map fun (i : Nat) => PI.D.int (i : Int)) (E os x) = some (pasC (pasI f r t k os), e')
  | 0, t, os, x, _ => ⟨_, rfl⟩
  | k + 1, t, os, x, hl => by
    obtain ⟨e', h1, h2⟩ := hb os x t hl
    show ∃ e'', ((T (.int (t : Int)) (E os x)).bind fun e => (body e).bind fun s => match s.1 with
      | .nx => fl T body ((rgl (t + 1) k).map fun (i : Nat) => PI.D.int (i : Int)) s.2
      | .ct => fl T body ((rgl (t + 1) k).map fun (i : Nat) => PI.D.int (i : Int)) s.2
      | .bk => some (.nx, s.2)
      | .rt w => some (.rt w, s.2)) = some (pasC (if os = r then some t else pasI f r (t + 1) k (f os)), e'')
    obtain ⟨e0, k1, k2⟩ := obind h1
    rw [k1]
    show ∃ e'', (body e0).bind _ = _
    rw [k2]
    by_cases c : os = r
    · rw [if_pos c, if_pos c]
      exact ⟨e', rfl⟩
    · obtain ⟨y, rfl⟩ := h2 c
      rw [if_neg c, if_neg c]
      obtain ⟨e'', g⟩ := pas_loop I E hb hf k (t + 1) (f os) y (hf os hl)
      exact ⟨e'', g⟩
theorem mk_len (s : Srt) (os : List Int) : (s.mk os).length = os.length := (mk_perm s os).length_eq
def passD (s : Srt) (n : Nat) (os : List Int) : PI.D := optI (pasI s.mk (rng n) 0 (n + 1) os)
theorem v_law_passes (s : Srt) {os : List Int} {n : Nat} (hn : n < 900) (hp : os.Perm (rng n)) : c__law_passes [.str s.nm, .tup (zL os)] = some ((false, passD s n os), []) := by
  have hl : os.length = n := by rw [hp.length_eq, rng_len]
  have h := pas_loop (T := tName 3) (body := fb1__law_passes) (f := s.mk) (r := rng n) (fun os => os.Perm (rng n)) (fun os x => [some (false, .str s.nm), some (false, .tup (zL os)), some (false, .tup (zL (rng n))), x]) (fun os x t hp => by
    have hl : os.length = n := by rw [hp.length_eq, rng_len]
    have hm := v_law_made s (os := os) (by omega)
    by_cases c : os = rng n
    · refine ⟨[some (false, .str s.nm), some (false, .tup (zL os)), some (false, .tup (zL (rng n))), some (false, .int (t : Int))], ?_, fun z => absurd c z⟩
      simp -implicitDefEqProofs [fb1__law_passes, c]
    · refine ⟨[some (false, .str s.nm), some (false, .tup (zL (s.mk os))), some (false, .tup (zL (rng n))), some (false, .int (t : Int))], ?_, fun _ => ⟨_, rfl⟩⟩
      simp -implicitDefEqProofs [fb1__law_passes, c, hm]) (fun os hp => (mk_perm s os).trans hp) (n + 1) 0 os none hp
  obtain ⟨e', h⟩ := h
  have h := h
  rw [← rangeD_rgl] at h
  have h3 := rgD_rng true n (by omega)
  have e2 : ((n : Int) + 1).toNat = n + 1 := by omega
  have b1 : (n : Int) + 1 < 4611686018427387904 := by omega
  have b2 : -4611686018427387904 ≤ (n : Int) + 1 := by omega
  have h : fl (tName 3) fb1__law_passes (rangeD 0 (n + 1)) [some (false, .str s.nm), some (false, .tup (zL os)), some (false, .tup (zL (rng n))), none] = _ := h
  unfold passD
  cases hp : pasI s.mk (rng n) 0 (n + 1) os with
  | none =>
    rw [hp] at h
    simp -implicitDefEqProofs [c__law_passes, b__law_passes, hl, h3, e2, b1, b2, h, pasC, optI]
  | some j =>
    rw [hp] at h
    simp -implicitDefEqProofs [c__law_passes, b__law_passes, hl, h3, e2, b1, b2, h, pasC, optI]
theorem v_check_order_s {os : List Int} {n : Nat} (hn : n < 1000) (h : os.Perm (rng n)) : c_check_order_sorters [.tup (zL os)] = some ((false, .non), []) := by
  simp [c_check_order_sorters, b_check_order_sorters, v_is_order hn h]
theorem v_risen (n : Nat) (hn : n < 1000) : c_risen [.int (n : Int)] = some ((false, .tup (zL (rng n))), []) := by
  simp -implicitDefEqProofs [c_risen, b_risen, rgD_rng true n (by omega)]
theorem v_passes (s : Srt) {os : List Int} {n : Nat} (hn : n < 900) (hp : os.Perm (rng n)) : c_passes [.str s.nm, .tup (zL os)] = some ((false, passD s n os), []) := by
  have hl : os.length = n := by rw [hp.length_eq, rng_len]
  have hc := v_check_order_s (by omega : n < 1000) hp
  have hr := v_risen n (by omega)
  have h := pas_loop (T := tName 2) (body := fb1_passes) (f := s.mk) (r := rng n) (fun os => os.Perm (rng n)) (fun os x => [some (false, .str s.nm), some (false, .tup (zL os)), x]) (fun os x t hp => by
    have hl : os.length = n := by rw [hp.length_eq, rng_len]
    have nd : os.Nodup := hp.symm.nodup (rng_nodup n)
    · have hm := v_made_by s (os := os) (by omega) nd
      by_cases c : os = rng n
      · refine ⟨[some (false, .str s.nm), some (false, .tup (zL os)), some (false, .int (t : Int))], ?_, fun z => absurd c z⟩
        rw [if_pos c]
        simp -implicitDefEqProofs [fb1_passes, hl, hr]
        rw [decide_eq_true c]
        simp -implicitDefEqProofs
      · refine ⟨[some (false, .str s.nm), some (false, .tup (zL (s.mk os))), some (false, .int (t : Int))], ?_, fun _ => ⟨_, rfl⟩⟩
        rw [if_neg c]
        simp -implicitDefEqProofs [fb1_passes, hl, hr]
        rw [decide_eq_false c]
        simp -implicitDefEqProofs [hm]) (fun os hp => (mk_perm s os).trans hp) (n + 1) 0 os none hp
  obtain ⟨e', h⟩ := h
  rw [← rangeD_rgl] at h
  have e2 : ((n : Int) + 1).toNat = n + 1 := by omega
  have b1 : (n : Int) + 1 < 4611686018427387904 := by omega
  have b2 : -4611686018427387904 ≤ (n : Int) + 1 := by omega
  have h : fl (tName 2) fb1_passes (rangeD 0 (n + 1)) [some (false, .str s.nm), some (false, .tup (zL os)), none] = _ := h
  unfold passD
  cases hp : pasI s.mk (rng n) 0 (n + 1) os with
  | none =>
    rw [hp] at h
    simp -implicitDefEqProofs [c_passes, b_passes, v_check_sorter, hc, hl, e2, b1, b2, h, pasC, optI]
  | some j =>
    rw [hp] at h
    simp -implicitDefEqProofs [c_passes, b_passes, v_check_sorter, hc, hl, e2, b1, b2, h, pasC, optI]
end Wk

namespace Wk
open PySem PySem.Spec PyProof.Rows L2 PI
def tT (l : List Int) : PI.D := .tup (zL l)
def kid (n : Nat) (row : List Int) : List (List Int) := ((rng n).filter fun x => !row.contains x).map fun x => row ++ [x]
/-- the orders of n things -/
def lOrd (n : Nat) : Nat → List (List Int)
  | 0 => [[]]
  | t + 1 => (lOrd n t).flatMap (kid n)
theorem zL_rng (n : Nat) : zL (rng n) = (rng n).map PI.D.int := rfl
theorem l_kid {n : Nat} (hn : n < 900) {row : List Int} (hr : row.length < 1000) (x1 x2 x3 : Option (Bool × PI.D)) : lcl (tName 5) lc1__law_orders le1__law_orders [5] (zL (rng n)) [some (false, .int (n : Int)), x1, x2, x3, some (false, .tup (zL row)), none] = some ((kid n row).map tT, [some (false, .int (n : Int)), x1, x2, x3, some (false, .tup (zL row)), none]) := by
  have hb : row.length + 1 ≤ 1000000 := by omega
  have hc := lcl_filter (T := tName 5) (c := lc1__law_orders) (f := le1__law_orders) (vs := [5]) (env := [some (false, .int (n : Int)), x1, x2, x3, some (false, .tup (zL row)), none]) (enc := PI.D.int) (g := fun x => tT (row ++ [x])) (p := fun x => !row.contains x) (by simp) (rng n) (fun x _ => ⟨[some (false, .int (n : Int)), x1, x2, x3, some (false, .tup (zL row)), some (false, .int x)], false, [some (false, .int (n : Int)), x1, x2, x3, some (false, .tup (zL row)), some (false, .int x)], by simp, by simp [lc1__law_orders], by simp, fun _ => ⟨false, [some (false, .int (n : Int)), x1, x2, x3, some (false, .tup (zL row)), some (false, .int x)], by simp [le1__law_orders, hb, tT], by simp⟩⟩)
  rw [zL_rng, hc]
  unfold kid
  rw [List.map_map]
  rfl
theorem l_ord1 {n : Nat} (hn : n < 900) : ∀ (R L : List (List Int)) (b : Bool) (x1 x2 x4 : Option (Bool × PI.D)), L.length + (R.flatMap (kid n)).length ≤ 100000 → (∀ r ∈ R, r.length < 1000) →
    ∃ b' y4, fl (tName 4) fb1__law_orders (R.map tT) [some (false, .int (n : Int)), x1, x2, some (b, .lst (L.map tT)), x4, none] = some (.nx, [some (false, .int (n : Int)), x1, x2, some (b', .lst ((L ++ R.flatMap (kid n)).map tT)), y4, none])
  | [], L, b, x1, x2, x4, _, _ => ⟨b, x4, by simp⟩
  | r :: R, L, b, x1, x2, x4, hl, hr => by
    simp only [List.flatMap_cons, List.length_append] at hl
    have hk := l_kid hn (hr r List.mem_cons_self) x1 x2
    have h3 : ((n : Int) + 1 - 1).toNat = n := by omega
    obtain ⟨b', y4, g⟩ := l_ord1 hn R (L ++ kid n r) true x1 x2 (some (false, .tup (zL r))) (by rw [List.length_append]; omega) fun o ho => hr o (List.mem_cons_of_mem _ ho)
    refine ⟨b', y4, (fl_nx (ds := R.map tT) ?_).trans (by rw [List.flatMap_cons, ← List.append_assoc]; exact g)⟩
    have e1 : rangeD 1 n = zL (rng n) := z_range 1 n
    have b1 : (n : Int) + 1 < 4611686018427387904 := by omega
    have b2 : -4611686018427387904 ≤ (n : Int) + 1 := by omega
    have b3 : L.length + (kid n r).length ≤ 1000000 := by omega
    have b4 : n < 1000000 := by omega
    have lr : (zL (rng n)).length = n := by rw [z_len, rng_len]
    generalize zL (rng n) = Z at *
    simp -implicitDefEqProofs [fb1__law_orders, tT, b1, b2, h3, e1, lr, b4, hk, b3]
theorem ord_all : ∀ n, n < 7 → ((List.range 8).all fun t => decide ((lOrd n t).length ≤ 720) && (lOrd n t).all fun r => decide (r.length < 1000)) = true := by decide +kernel
theorem ord_sz {n t : Nat} (hn : n < 7) (ht : t < 8) : (lOrd n t).length ≤ 720 ∧ ∀ r ∈ lOrd n t, r.length < 1000 := by
  have h := List.all_eq_true.mp (ord_all n hn) t (List.mem_range.mpr ht)
  simp only [Bool.and_eq_true, decide_eq_true_eq, List.all_eq_true] at h
  exact h
theorem l_ord2 {n : Nat} (hn : n < 7) : ∀ (k t : Nat) (b : Bool) (x2 x3 x4 : Option (Bool × PI.D)), t + k < 7 →
    ∃ b' y2 y3 y4, fl (tName 2) fb2__law_orders ((rgl t k).map fun (i : Nat) => PI.D.int (i : Int)) [some (false, .int (n : Int)), some (b, .lst ((lOrd n t).map tT)), x2, x3, x4, none] = some (.nx, [some (false, .int (n : Int)), some (b', .lst ((lOrd n (t + k)).map tT)), y2, y3, y4, none])
  | 0, t, b, x2, x3, x4, _ => ⟨b, x2, x3, x4, rfl⟩
  | k + 1, t, b, x2, x3, x4, h => by
    obtain ⟨h1, h2⟩ := ord_sz hn (t := t) (by omega)
    obtain ⟨h3, _⟩ := ord_sz hn (t := t + 1) (by omega)
    have h3 : ((lOrd n t).flatMap (kid n)).length ≤ 720 := h3
    have b1 : n < 900 := by omega
    obtain ⟨b3, y4, g⟩ := l_ord1 b1 (lOrd n t) [] true (some (false, .lst ((lOrd n t).map tT))) (some (false, .int (t : Int))) x4 (by simp only [List.length_nil]; omega) h2
    obtain ⟨b', y2, y3, z4, g2⟩ := l_ord2 hn k (t + 1) false (some (false, .int (t : Int))) (some (false, .lst ((lOrd n (t + 1)).map tT))) y4 (by omega)
    refine ⟨b', y2, y3, z4, (fl_nx (ds := (rgl (t + 1) k).map fun (i : Nat) => PI.D.int (i : Int)) ?_).trans (by rw [show t + (k + 1) = t + 1 + k by omega]; exact g2)⟩
    rw [List.nil_append] at g
    have e : lOrd n (t + 1) = (lOrd n t).flatMap (kid n) := rfl
    rw [e]
    simp only [List.map_nil] at g
    generalize ((lOrd n t).flatMap (kid n)).map tT = Z at *
    generalize (lOrd n t).map tT = Y at *
    cases b <;> cases b3 <;> simp -implicitDefEqProofs [fb2__law_orders, g]
theorem v_orders (n : Nat) (hn : n < 7) : ∃ b, c__law_orders [.int (n : Int)] = some ((b, .lst ((lOrd n n).map tT)), []) := by
  obtain ⟨b', y2, y3, y4, g⟩ := l_ord2 hn n 0 true none none none (by omega)
  rw [Nat.zero_add, ← rangeD_rgl] at g
  have g : fl (tName 2) fb2__law_orders (rangeD 0 n) [some (false, .int (n : Int)), some (true, .lst [.tup []]), none, none, none, none] = _ := g
  have b1 : (n : Int) < 4611686018427387904 := by omega
  have b2 : -4611686018427387904 ≤ (n : Int) := by omega
  refine ⟨b', ?_⟩
  generalize (lOrd n n).map tT = Z at *
  cases b' <;> simp -implicitDefEqProofs [c__law_orders, b__law_orders, b1, b2, g]
end Wk

namespace Wk
open PySem PySem.Spec PyProof.Rows L2 PI
/-- an order without one thing -/
def lessL (os : List Int) (i : Nat) : List Int := (os.filter fun x => !(x == gt os i)).map fun x => x - if gt os i < x then 1 else 0
theorem v_less {os : List Int} {i : Nat} (hi : i < os.length) (hl : os.length < 1000) : c__law_less [.tup (zL os), .int (i : Int)] = some ((false, .tup (zL (lessL os i))), []) := by
  have hc := lcl_filter (T := tName 3) (c := lc1__law_less) (f := le1__law_less) (vs := [3]) (env := [some (false, .tup (zL os)), some (false, .int (i : Int)), some (false, .int (gt os i)), none]) (enc := PI.D.int) (g := fun x => PI.D.int (x - if gt os i < x then 1 else 0)) (p := fun x => !(x == gt os i)) (by simp) os (fun x _ => ⟨[some (false, .tup (zL os)), some (false, .int (i : Int)), some (false, .int (gt os i)), some (false, .int x)], false, [some (false, .tup (zL os)), some (false, .int (i : Int)), some (false, .int (gt os i)), some (false, .int x)], by simp, by simp [lc1__law_less], by simp, fun _ => ⟨false, [some (false, .tup (zL os)), some (false, .int (i : Int)), some (false, .int (gt os i)), some (false, .int x)], by simp [le1__law_less], by simp⟩⟩)
  have hc : lcl (tName 3) lc1__law_less le1__law_less [3] (zL os) [some (false, .tup (zL os)), some (false, .int (i : Int)), some (false, .int (gt os i)), none] = some (zL (lessL os i), [some (false, .tup (zL os)), some (false, .int (i : Int)), some (false, .int (gt os i)), none]) := by
    rw [show zL (lessL os i) = (os.filter fun x => !(x == gt os i)).map fun x => PI.D.int (x - if gt os i < x then 1 else 0) by unfold lessL zL; rw [List.map_map]; rfl]
    exact hc
  have hg := gt_get hi
  have hb : os.length < 1000000 := by omega
  simp -implicitDefEqProofs [c__law_less, b__law_less, hg, hb, hc]
theorem put_true (G : List (List Int)) (os : List Int) : dctPut (G.map fun l => PI.D.tup (zL l)) (G.map fun _ => PI.D.bl true) G os (.bl true) = .dct ((if os ∈ G then G else G ++ [os]).map fun l => PI.D.tup (zL l)) ((if os ∈ G then G else G ++ [os]).map fun _ => PI.D.bl true) := by
  unfold dctPut
  by_cases c : os ∈ G
  · rw [if_pos c, if_pos c, List.map_const', List.set_replicate_self]
  · rw [if_neg c, if_neg c, List.map_append, List.map_append]
    rfl
/-- whether all that an order shows without one thing is in L -/
def clF (m : Nat) (L : List (List Int)) (os : List Int) : Bool := (rgl 0 m).all fun i => decide (lessL os i ∈ L)
def riF (s : Srt) (m : Nat) (os : List Int) : Bool := decide (s.mk os = rng m)
theorem rgl_mem {t k i : Nat} (h : i ∈ rgl t k) : t ≤ i ∧ i < t + k := by
  rw [rgl_map] at h
  obtain ⟨j, h1, rfl⟩ := List.mem_map.mp h
  have := List.mem_range.mp h1
  omega
/-- one order -/
theorem l_uns1 (s : Srt) {m : Nat} (hm : m < 7) {n : Int} {os : List Int} (hp : os.Perm (rng m)) (G F : List (List Int)) (hG : G.length < 100000) (hF : F.length < 100000) (x5 x6 x7 : Option (Bool × PI.D)) :
    (tName 5 (.tup (zL os)) [some (false, .str s.nm), some (false, .int n), some (true, .dct (G.map fun l => PI.D.tup (zL l)) (G.map fun _ => PI.D.bl true)), some (true, .lst (F.map tT)), some (false, .int (m : Int)), x5, x6, x7, none]).bind fb1__law_unsorted =
      some (.nx, [some (false, .str s.nm), some (false, .int n), some (true, .dct ((if (riF s m os && clF m G os) = true then (if os ∈ G then G else G ++ [os]) else G).map fun l => PI.D.tup (zL l)) ((if (riF s m os && clF m G os) = true then (if os ∈ G then G else G ++ [os]) else G).map fun _ => PI.D.bl true)),
        some (true, .lst ((if (clF m G os && !riF s m os) = true then F ++ [os] else F).map tT)), some (false, .int (m : Int)), some (false, .tup (zL os)), some (false, .bl (riF s m os)), some (false, .bl (clF m G os)), none]) := by
  have hl : os.length = m := by rw [hp.length_eq, rng_len]
  have hmd := v_law_made s (os := os) (by omega)
  have hr := rgD_rng true m (by omega)
  have key : ∀ D2 D3 : Option (Bool × PI.D), D2 = some (true, .dct (G.map fun l => PI.D.tup (zL l)) (G.map fun _ => PI.D.bl true)) → lcl (tName 8) lc1__law_unsorted (eVar 8) [8] (rangeD 0 m) [some (false, .str s.nm), some (false, .int n), D2, D3, some (false, .int (m : Int)), some (false, .tup (zL os)), some (false, .bl (riF s m os)), x7, none] =
      some (zL (((rgl 0 m).filter fun i => !decide (lessL os i ∈ G)).map fun (i : Nat) => (i : Int)), [some (false, .str s.nm), some (false, .int n), D2, D3, some (false, .int (m : Int)), some (false, .tup (zL os)), some (false, .bl (riF s m os)), x7, none]) := by
    intro D2 D3 e2
    subst e2
    have hc := lcl_filter (T := tName 8) (c := lc1__law_unsorted) (f := eVar 8) (vs := [8]) (env := [some (false, .str s.nm), some (false, .int n), some (true, .dct (G.map fun l => PI.D.tup (zL l)) (G.map fun _ => PI.D.bl true)), D3, some (false, .int (m : Int)), some (false, .tup (zL os)), some (false, .bl (riF s m os)), x7, none])
      (enc := fun (i : Nat) => PI.D.int (i : Int)) (g := fun (i : Nat) => PI.D.int (i : Int)) (p := fun i => !decide (lessL os i ∈ G)) (by simp) (rgl 0 m) (fun i hi => by
        have h1 := rgl_mem hi
        have hv := v_less (os := os) (i := i) (by omega) (by omega)
        refine ⟨[some (false, .str s.nm), some (false, .int n), some (true, .dct (G.map fun l => PI.D.tup (zL l)) (G.map fun _ => PI.D.bl true)), D3, some (false, .int (m : Int)), some (false, .tup (zL os)), some (false, .bl (riF s m os)), x7, some (false, .int (i : Int))], false, [some (false, .str s.nm), some (false, .int n), some (true, .dct (G.map fun l => PI.D.tup (zL l)) (G.map fun _ => PI.D.bl true)), D3, some (false, .int (m : Int)), some (false, .tup (zL os)), some (false, .bl (riF s m os)), x7, some (false, .int (i : Int))], by simp, ?_, by simp, fun _ => ⟨false, [some (false, .str s.nm), some (false, .int n), some (true, .dct (G.map fun l => PI.D.tup (zL l)) (G.map fun _ => PI.D.bl true)), D3, some (false, .int (m : Int)), some (false, .tup (zL os)), some (false, .bl (riF s m os)), x7, some (false, .int (i : Int))], by simp, by simp⟩⟩
        simp -implicitDefEqProofs [lc1__law_unsorted, hv])
    have e : rangeD 0 m = (rgl 0 m).map fun (i : Nat) => PI.D.int (i : Int) := rangeD_rgl 0 m
    rw [e]
    rw [show zL (((rgl 0 m).filter fun i => !decide (lessL os i ∈ G)).map fun (i : Nat) => (i : Int)) = ((rgl 0 m).filter fun i => !decide (lessL os i ∈ G)).map fun (i : Nat) => PI.D.int (i : Int) by unfold zL; rw [List.map_map]; rfl]
    exact hc
  have key := key _ (some (true, .lst (F.map tT))) rfl
  have hcl : decide ((((rgl 0 m).filter fun i => !decide (lessL os i ∈ G)).map fun (i : Nat) => (i : Int)) = []) = clF m G os := by
    unfold clF
    rw [Bool.eq_iff_iff, decide_eq_true_iff, List.map_eq_nil_iff, List.filter_eq_nil_iff, List.all_eq_true]
    exact forall_congr' fun i => forall_congr' fun hi => by simp
  have b1 : (m : Int) < 4611686018427387904 := by omega
  have b2 : -4611686018427387904 ≤ (m : Int) := by omega
  have b3 : m < 1000000 := by omega
  have lr : (rangeD 0 m).length = m := by rw [z_range, z_len, List.length_map, List.length_range]
  have hrd : decide (s.mk os = rng m) = riF s m os := rfl
  have hq : eqD (.lst (zL (((rgl 0 m).filter fun i => !decide (lessL os i ∈ G)).map fun (i : Nat) => (i : Int)))) (.lst []) = some (false, .bl (clF m G os)) := by
    rw [q_eqL0, hcl]
  have hpt := put_true G os
  have tg : toTups (G.map fun l => PI.D.tup (zL l)) = some G := toTups_map G
  have b4 : G.length < 1000000 := by omega
  have b5 : F.length < 1000000 := by omega
  generalize zL (((rgl 0 m).filter fun i => !decide (lessL os i ∈ G)).map fun (i : Nat) => (i : Int)) = Z at *
  generalize riF s m os = ri at *
  generalize clF m G os = cl at *
  generalize (if os ∈ G then G else G ++ [os]) = G2 at *
  cases ri <;> cases cl <;> simp -implicitDefEqProofs [fb1__law_unsorted, hmd, hr, hrd, b1, b2, b3, b4, b5, lr, key, hq, tg, hpt, tT]
end Wk

namespace Wk
open PySem PySem.Spec PyProof.Rows L2 PI
def rowB (m : Nat) (r : List Int) : Bool := decide r.Nodup && ((r.all fun x => (rng m).contains x) && (r.length == m && (rgl 0 m).all fun i => (lessL r i).length + 1 == m))
theorem rows_ok : ∀ m, m < 7 → ((lOrd m m).all (rowB m)) = true := by decide +kernel
theorem rows_len : ∀ m, m < 7 → (lOrd m m).length ≤ 720 := by decide +kernel
theorem perm_of' : ∀ {l m : List Int}, l.Nodup → (∀ x ∈ l, x ∈ m) → m.length ≤ l.length → l.Perm m
  | [], m, _, _, h => by
    have := List.length_eq_zero_iff.mp (Nat.le_zero.mp h)
    rw [this]
  | x :: l, m, nd, hs, h => by
    obtain ⟨n1, n2⟩ := List.nodup_cons.mp nd
    have hx := hs x List.mem_cons_self
    have p := List.perm_cons_erase hx
    refine ((perm_of' n2 (fun y hy => ?_) ?_).cons x).trans p.symm
    · exact (List.mem_erase_of_ne fun e => n1 (by rw [← e]; exact hy)).mpr (hs y (List.mem_cons_of_mem _ hy))
    · rw [List.length_erase_of_mem hx]
      simp only [List.length_cons] at h
      omega
theorem rowB_perm {m : Nat} {r : List Int} (h : rowB m r = true) : r.Perm (rng m) := by
  simp only [rowB, Bool.and_eq_true, decide_eq_true_eq, List.all_eq_true, beq_iff_eq] at h
  exact perm_of' h.1 (fun x hx => by simpa using h.2.1 x hx) (by rw [rng_len, h.2.2.1]; exact Nat.le_refl _)
theorem rowB_less {m i : Nat} {r : List Int} (h : rowB m r = true) (hi : i ∈ rgl 0 m) : (lessL r i).length + 1 = m := by
  simp only [rowB, Bool.and_eq_true, decide_eq_true_eq, List.all_eq_true, beq_iff_eq] at h
  exact h.2.2.2 i hi
def gdF (s : Srt) (m : Nat) (L : List (List Int)) (os : List Int) : Bool := riF s m os && clF m L os
def bdF (s : Srt) (m : Nat) (L : List (List Int)) (os : List Int) : Bool := clF m L os && !riF s m os
def lv (s : Srt) : Nat → List (List Int)
  | 0 => [[]]
  | m + 1 => (lOrd (m + 1) (m + 1)).filter (gdF s (m + 1) (lv s m))
def fn (s : Srt) : Nat → List (List Int)
  | 0 => []
  | m + 1 => fn s m ++ (lOrd (m + 1) (m + 1)).filter (bdF s (m + 1) (lv s m))
/-- what is held good behind all of at most j things, and P of j + 1 things -/
def GOk (s : Srt) (j : Nat) (P G : List (List Int)) : Prop := ∀ x, x ∈ G ↔ (x.length < j + 1 ∧ x ∈ lv s x.length) ∨ (x.length = j + 1 ∧ x ∈ P.filter (gdF s (j + 1) (lv s j)))
theorem clF_eq {s : Srt} {j : Nat} {P G : List (List Int)} {os : List Int} (h : GOk s j P G) (ho : rowB (j + 1) os = true) : clF (j + 1) G os = clF (j + 1) (lv s j) os := by
  unfold clF
  rw [Bool.eq_iff_iff, List.all_eq_true, List.all_eq_true]
  refine forall_congr' fun i => forall_congr' fun hi => ?_
  have hl := rowB_less ho hi
  have hl : (lessL os i).length = j := by omega
  rw [decide_eq_true_iff, decide_eq_true_iff, h]
  rw [hl]
  constructor
  · rintro (⟨_, h⟩ | ⟨h, _⟩)
    · exact h
    · omega
  · exact fun h => .inl ⟨by omega, h⟩
theorem GOk.step {s : Srt} {j : Nat} {P G : List (List Int)} {os : List Int} (h : GOk s j P G) (ho : os.length = j + 1) : GOk s j (P ++ [os]) (if gdF s (j + 1) (lv s j) os = true then (if os ∈ G then G else G ++ [os]) else G) := by
  intro x
  have e : x ∈ (if gdF s (j + 1) (lv s j) os = true then (if os ∈ G then G else G ++ [os]) else G) ↔ x ∈ G ∨ (x = os ∧ gdF s (j + 1) (lv s j) os = true) := by
    by_cases c : gdF s (j + 1) (lv s j) os = true
    · rw [if_pos c]
      by_cases d : os ∈ G
      · rw [if_pos d]
        constructor
        · exact .inl
        · rintro (h | ⟨rfl, _⟩)
          · exact h
          · exact d
      · rw [if_neg d, List.mem_append, List.mem_singleton]
        exact ⟨fun h => h.imp id fun h => ⟨h, c⟩, fun h => h.imp id And.left⟩
    · rw [if_neg c]
      exact ⟨.inl, fun h => h.elim id fun h => absurd h.2 c⟩
  rw [e, h x, List.filter_append, List.mem_append]
  have e2 : x ∈ [os].filter (gdF s (j + 1) (lv s j)) ↔ x = os ∧ gdF s (j + 1) (lv s j) os = true := by
    rw [List.mem_filter, List.mem_singleton]
    constructor
    · rintro ⟨rfl, h⟩
      exact ⟨rfl, h⟩
    · rintro ⟨rfl, h⟩
      exact ⟨rfl, h⟩
  rw [e2]
  constructor
  · rintro ((h | ⟨h1, h2⟩) | ⟨rfl, h⟩)
    · exact .inl h
    · exact .inr ⟨h1, .inl h2⟩
    · exact .inr ⟨ho, .inr ⟨rfl, h⟩⟩
  · rintro (h | ⟨h1, h2 | h2⟩)
    · exact .inl (.inl h)
    · exact .inl (.inr ⟨h1, h2⟩)
    · exact .inr h2
theorem GOk.next {s : Srt} {j : Nat} {G : List (List Int)} (h : GOk s j (lOrd (j + 1) (j + 1)) G) : GOk s (j + 1) [] G := by
  intro x
  rw [h x]
  have e : x ∈ (lOrd (j + 1) (j + 1)).filter (gdF s (j + 1) (lv s j)) ↔ x ∈ lv s (j + 1) := Iff.rfl
  rw [e]
  constructor
  · rintro (⟨h1, h2⟩ | ⟨h1, h2⟩)
    · exact .inl ⟨by omega, h2⟩
    · exact .inl ⟨by omega, by rw [h1]; exact h2⟩
  · rintro (⟨h1, h2⟩ | ⟨_, h2⟩)
    · by_cases c : x.length = j + 1
      · rw [c] at h2
        exact .inr ⟨c, h2⟩
      · exact .inl ⟨by omega, h2⟩
    · cases h2
theorem l_uns2 (s : Srt) {j : Nat} (hj : j < 6) {n : Int} : ∀ (R P G F : List (List Int)) (x5 x6 x7 : Option (Bool × PI.D)), (∀ os ∈ R, rowB (j + 1) os = true) → GOk s j P G → G.length + R.length < 50000 → F.length + R.length < 50000 →
    ∃ G' y5 y6 y7, fl (tName 5) fb1__law_unsorted (R.map tT) [some (false, .str s.nm), some (false, .int n), some (true, .dct (G.map fun l => PI.D.tup (zL l)) (G.map fun _ => PI.D.bl true)), some (true, .lst (F.map tT)), some (false, .int ((j + 1 : Nat) : Int)), x5, x6, x7, none] =
      some (.nx, [some (false, .str s.nm), some (false, .int n), some (true, .dct (G'.map fun l => PI.D.tup (zL l)) (G'.map fun _ => PI.D.bl true)), some (true, .lst ((F ++ R.filter (bdF s (j + 1) (lv s j))).map tT)), some (false, .int ((j + 1 : Nat) : Int)), y5, y6, y7, none]) ∧ GOk s j (P ++ R) G' ∧ G'.length ≤ G.length + R.length
  | [], P, G, F, x5, x6, x7, _, hG, _, _ => ⟨G, x5, x6, x7, by simp, by rw [List.append_nil]; exact hG, Nat.le_refl _⟩
  | os :: R, P, G, F, x5, x6, x7, hR, hG, l1, l2 => by
    simp only [List.length_cons] at l1 l2
    have ho := hR os List.mem_cons_self
    have hp := rowB_perm ho
    have hl : os.length = j + 1 := by rw [hp.length_eq, rng_len]
    have st := l_uns1 s (m := j + 1) (by omega) (n := n) hp G F (by omega) (by omega) x5 x6 x7
    rw [clF_eq hG ho] at st
    have g2 := hG.step (os := os) hl
    have lG : (if (riF s (j + 1) os && clF (j + 1) (lv s j) os) = true then (if os ∈ G then G else G ++ [os]) else G).length ≤ G.length + 1 := by
      split
      · split
        · omega
        · rw [List.length_append]
          exact Nat.le_refl _
      · omega
    have g2 : GOk s j (P ++ [os]) (if (riF s (j + 1) os && clF (j + 1) (lv s j) os) = true then (if os ∈ G then G else G ++ [os]) else G) := g2
    have lF : (if (clF (j + 1) (lv s j) os && !riF s (j + 1) os) = true then F ++ [os] else F).length ≤ F.length + 1 := by
      split
      · rw [List.length_append]
        exact Nat.le_refl _
      · omega
    have eF : (if (clF (j + 1) (lv s j) os && !riF s (j + 1) os) = true then F ++ [os] else F) ++ R.filter (bdF s (j + 1) (lv s j)) = F ++ (os :: R).filter (bdF s (j + 1) (lv s j)) := by
      by_cases c : bdF s (j + 1) (lv s j) os = true
      · rw [List.filter_cons_of_pos c]
        have c : (clF (j + 1) (lv s j) os && !riF s (j + 1) os) = true := c
        rw [if_pos c]
        simp
      · rw [List.filter_cons_of_neg c]
        have c : ¬ (clF (j + 1) (lv s j) os && !riF s (j + 1) os) = true := c
        rw [if_neg c]
    rw [← eF]
    generalize (if (riF s (j + 1) os && clF (j + 1) (lv s j) os) = true then (if os ∈ G then G else G ++ [os]) else G) = G2 at *
    generalize (if (clF (j + 1) (lv s j) os && !riF s (j + 1) os) = true then F ++ [os] else F) = F2 at *
    obtain ⟨G', y5, y6, y7, h1, h2, h3⟩ := l_uns2 s hj (n := n) R (P ++ [os]) G2 F2 (some (false, .tup (zL os))) (some (false, .bl (riF s (j + 1) os))) (some (false, .bl (clF (j + 1) (lv s j) os))) (fun o ho => hR o (List.mem_cons_of_mem _ ho)) g2 (by omega) (by omega)
    refine ⟨G', y5, y6, y7, (fl_nx (ds := R.map tT) st).trans h1, by rw [List.append_assoc] at h2; exact h2, by rw [List.length_cons]; omega⟩
theorem fn_len (s : Srt) : ∀ j, j < 7 → (fn s j).length ≤ 1000 * j
  | 0, _ => Nat.le_refl _
  | j + 1, h => by
    have h1 := fn_len s j (by omega)
    have h2 := rows_len (j + 1) h
    have h3 := List.length_filter_le (bdF s (j + 1) (lv s j)) (lOrd (j + 1) (j + 1))
    show (fn s j ++ (lOrd (j + 1) (j + 1)).filter (bdF s (j + 1) (lv s j))).length ≤ _
    rw [List.length_append]
    omega
theorem l_uns3 (s : Srt) {n : Int} : ∀ (k j : Nat) (G : List (List Int)) (x4 x5 x6 x7 : Option (Bool × PI.D)), j + k < 7 → GOk s j [] G → G.length ≤ 1000 * (j + 1) →
    ∃ (G' : List (List Int)) (y4 y5 y6 y7 : Option (Bool × PI.D)), fl (tName 4) fb2__law_unsorted ((rgl (j + 1) k).map fun (i : Nat) => PI.D.int (i : Int)) [some (false, .str s.nm), some (false, .int n), some (true, .dct (G.map fun l => PI.D.tup (zL l)) (G.map fun _ => PI.D.bl true)), some (true, .lst ((fn s j).map tT)), x4, x5, x6, x7, none] =
      some (.nx, [some (false, .str s.nm), some (false, .int n), some (true, .dct (G'.map fun l => PI.D.tup (zL l)) (G'.map fun _ => PI.D.bl true)), some (true, .lst ((fn s (j + k)).map tT)), y4, y5, y6, y7, none])
  | 0, j, G, x4, x5, x6, x7, _, _, _ => ⟨G, x4, x5, x6, x7, rfl⟩
  | k + 1, j, G, x4, x5, x6, x7, hj, hG, lG => by
    obtain ⟨bo, hv⟩ := v_orders (j + 1) (by omega)
    have hf := fn_len s j (by omega)
    have hr := rows_len (j + 1) (by omega)
    obtain ⟨G2, y5, y6, y7, h1, h2, h3⟩ := l_uns2 s (j := j) (by omega) (n := n) (lOrd (j + 1) (j + 1)) [] G (fn s j) x5 x6 x7 (fun o ho => List.all_eq_true.mp (rows_ok (j + 1) (by omega)) o ho) hG (by omega) (by omega)
    obtain ⟨G', z4, z5, z6, z7, g⟩ := l_uns3 s (n := n) k (j + 1) G2 (some (false, .int ((j + 1 : Nat) : Int))) y5 y6 y7 (by omega) (GOk.next h2) (by omega)
    refine ⟨G', z4, z5, z6, z7, (fl_nx (ds := (rgl (j + 1 + 1) k).map fun (i : Nat) => PI.D.int (i : Int)) ?_).trans (by rw [show j + (k + 1) = j + 1 + k by omega]; exact g)⟩
    generalize hL : (lOrd (j + 1) (j + 1)).map tT = L at *
    have e : fn s (j + 1) = fn s j ++ (lOrd (j + 1) (j + 1)).filter (bdF s (j + 1) (lv s j)) := rfl
    rw [e]
    generalize (fn s j ++ (lOrd (j + 1) (j + 1)).filter (bdF s (j + 1) (lv s j))) = F2 at *
    show (tName 4 (PI.D.int ((j + 1 : Nat) : Int)) _).bind _ = _
    generalize ((j + 1 : Nat) : Int) = z at *
    cases bo <;> simp -implicitDefEqProofs [fb2__law_unsorted, hv, h1]
theorem v_law_unsorted (s : Srt) {n : Nat} (hn : n < 7) : c__law_unsorted [.str s.nm, .int (n : Int)] = some ((true, .lst ((fn s n).map tT)), []) := by
  have g0 : GOk s 0 [] [[]] := fun x => by
    rw [List.mem_singleton]
    constructor
    · rintro rfl
      exact .inl ⟨by decide, List.mem_singleton.mpr rfl⟩
    · rintro (⟨h, _⟩ | ⟨_, h⟩)
      · exact List.length_eq_zero_iff.mp (by omega)
      · cases h
  obtain ⟨G', y4, y5, y6, y7, g⟩ := l_uns3 s (n := (n : Int)) n 0 [[]] none none none none (by omega) g0 (by decide)
  rw [Nat.zero_add n, ← rangeD_rgl] at g
  have g : fl (tName 4) fb2__law_unsorted (rangeD 1 n) [some (false, .str s.nm), some (false, .int (n : Int)), some (true, .dct [.tup []] [.bl true]), some (true, .lst []), none, none, none, none, none] = _ := g
  have b1 : (n : Int) + 1 < 4611686018427387904 := by omega
  have b2 : -4611686018427387904 ≤ (n : Int) + 1 := by omega
  have e : ((n : Int) + 1 - 1).toNat = n := by omega
  generalize (fn s n).map tT = F at *
  have ti : toInts [] = some [] := rfl
  simp -implicitDefEqProofs [c__law_unsorted, b__law_unsorted, b1, b2, e, g, ti]
end Wk

namespace Wk
open PySem PySem.Spec PyProof.Rows L2 PI
theorem v_orders_p : ∀ n : Nat, n < 6 → c_orders [.int (n : Int)] = some ((true, .lst ((lOrd n n).map tT)), [])
  | 0, _ => by kernel_rfl
  | 1, _ => by kernel_rfl
  | 2, _ => by kernel_rfl
  | 3, _ => by kernel_rfl
  | 4, _ => by kernel_rfl
  | 5, _ => by kernel_rfl
  | n + 6, h => by omega
theorem v_orders_p6 : c_orders [.int ((6 : Nat) : Int)] = some ((true, .lst ((lOrd 6 6).map tT)), []) := by kernel_rfl
end Wk

namespace Wk
open PySem PySem.Spec PyProof.Rows L2 PI
theorem perm_ordS {os : List Int} {n : Nat} (h : os.Perm (rng n)) : Ord os := by
  refine ⟨h.symm.nodup (rng_nodup n), fun x hx => ?_⟩
  have := rng_mem.mp (h.mem_iff.mp hx)
  rw [h.length_eq, rng_len]
  exact this
theorem v_is_order_of {os : List Int} {n : Nat} (hn : n < 1000) (h : os.Perm (rng n)) : c_is_order_of [.tup (zL os)] = some ((false, .bl true), []) := by
  have hl : os.length = n := by rw [h.length_eq, rng_len]
  have h1 := v_are_integers os (by omega)
  have h2 := rgD_rng false n (by omega)
  simp -implicitDefEqProofs [c_is_order_of, b_is_order_of, h1, hl, h2, isort_rng h]
theorem v_showsP {os p : List Int} {n k : Nat} (hn : n ≤ 16) (h : os.Perm (rng n)) (hk : k ≤ 16) (hp : p.Perm (rng k)) (h0 : p ≠ []) : c_shows [.tup (zL os), .tup (zL p)] = some ((false, .bl (showsB os p)), []) := by
  have lo : os.length = n := by rw [h.length_eq, rng_len]
  have lp : p.length = k := by rw [hp.length_eq, rng_len]
  have h1 := v_is_order_of (by omega : n < 1000) h
  have h2 := v_is_order_of (by omega : k < 1000) hp
  have h3 := v_is_shown (perm_ordS h) (hp.symm.nodup (rng_nodup k)) (by omega) (by omega : p.length < 500)
  have h4 : c_is_pattern [.tup (zL p)] = some ((false, .bl true), []) := by
    simp -implicitDefEqProofs [c_is_pattern, b_is_pattern, h2, h0]
  have h5 : c_check_pattern [.tup (zL p)] = some ((false, .non), []) := by
    simp -implicitDefEqProofs [c_check_pattern, b_check_pattern, h4]
  have h6 : c_check_order_patterns [.tup (zL os)] = some ((false, .non), []) := by
    simp -implicitDefEqProofs [c_check_order_patterns, b_check_order_patterns, h1]
  simp -implicitDefEqProofs [c_shows, b_shows, h3, h5, h6]
theorem v_does_sort (s : Srt) {os : List Int} {n : Nat} (hn : n < 900) (h : os.Perm (rng n)) : c_does_sort [.str s.nm, .tup (zL os)] = some ((false, .bl (riF s n os)), []) := by
  have hl : os.length = n := by rw [h.length_eq, rng_len]
  have nd : os.Nodup := h.symm.nodup (rng_nodup n)
  have hm := v_made_by s (os := os) (by omega) nd
  have hr := v_risen n (by omega)
  unfold riF
  simp -implicitDefEqProofs [c_does_sort, b_does_sort, hm, hl, hr]
/-- the least ones of less than m things, found size by size -/
def pf (s : Srt) : Nat → List (List Int)
  | 0 => []
  | m + 1 => pf s m ++ ((lOrd m m).filter fun os => !riF s m os).filter fun os => !((pf s m).any (showsB os))
theorem pf_ok (s : Srt) : ∀ m, m < 8 → ((pf s m).all fun p => decide (p ≠ []) && (decide (p.length < 7) && rowB p.length p)) = true := by cases s <;> decide +kernel
theorem pf_len (s : Srt) : ∀ m, m < 8 → (pf s m).length < 1000 := by cases s <;> decide +kernel
theorem pf_fn (s : Srt) : ∀ n, n < 7 → pf s (n + 1) = fn s n := by cases s <;> decide +kernel
end Wk

namespace Wk
open PySem PySem.Spec PyProof.Rows L2 PI
theorem v_orders_pp (m : Nat) (h : m < 7) : c_orders [.int (m : Int)] = some ((true, .lst ((lOrd m m).map tT)), []) := by
  by_cases c : m = 6
  · subst c
    exact v_orders_p6
  · exact v_orders_p m (by omega)
theorem pf_p (s : Srt) {m : Nat} (hm : m < 8) {p : List Int} (hp : p ∈ pf s m) : p ≠ [] ∧ p.length < 7 ∧ p.Perm (rng p.length) := by
  have h := List.all_eq_true.mp (pf_ok s m hm) p hp
  simp only [Bool.and_eq_true, decide_eq_true_eq] at h
  exact ⟨h.1, h.2.1, rowB_perm h.2.2⟩
/-- which of the orders of m things are not sorted -/
theorem lc_1 (s : Srt) {m : Nat} (hm : m < 7) {x1 x2 x3 x4 x6 : Option (Bool × PI.D)} : lcl (tName 5) lc1_least_unsorted (eVar 5) [5] ((lOrd m m).map tT) [some (false, .str s.nm), x1, x2, x3, x4, none, x6] =
    some (((lOrd m m).filter fun os => !riF s m os).map tT, [some (false, .str s.nm), x1, x2, x3, x4, none, x6]) :=
  lcl_filter (enc := tT) (g := tT) (p := fun os => !riF s m os) (by simp) (lOrd m m) fun os ho => by
    have hp := rowB_perm (List.all_eq_true.mp (rows_ok m hm) os ho)
    have h := v_does_sort s (by omega : m < 900) hp
    refine ⟨[some (false, .str s.nm), x1, x2, x3, x4, some (false, .tup (zL os)), x6], false, [some (false, .str s.nm), x1, x2, x3, x4, some (false, .tup (zL os)), x6], by simp [tT], ?_, by simp, fun _ => ⟨false, [some (false, .str s.nm), x1, x2, x3, x4, some (false, .tup (zL os)), x6], by simp [tT], by simp⟩⟩
    generalize riF s m os = b at *
    simp -implicitDefEqProofs [lc1_least_unsorted, h]
theorem lc_2 (s : Srt) {m : Nat} (hm : m < 7) {os : List Int} (ho : os.Perm (rng m)) {x0 x1 x3 x4 : Option (Bool × PI.D)} : lcl (tName 6) eYes le1_least_unsorted [6] ((pf s m).map tT) [x0, x1, none, x3, x4, some (false, .tup (zL os)), none] =
    some ((pf s m).map fun p => PI.D.bl (showsB os p), [x0, x1, none, x3, x4, some (false, .tup (zL os)), none]) :=
  lcl_map (enc := tT) (g := fun p => PI.D.bl (showsB os p)) (by simp) (pf s m) fun p hp => by
    obtain ⟨h1, h2, h3⟩ := pf_p s (by omega) hp
    have h := v_showsP (by omega : m ≤ 16) ho (by omega : p.length ≤ 16) h3 h1
    refine ⟨[x0, x1, none, x3, x4, some (false, .tup (zL os)), some (false, .tup (zL p))], false, [x0, x1, none, x3, x4, some (false, .tup (zL os)), some (false, .tup (zL p))], false, [x0, x1, none, x3, x4, some (false, .tup (zL os)), some (false, .tup (zL p))], by simp [tT], by simp, ?_, by simp⟩
    simp -implicitDefEqProofs [le1_least_unsorted, h]
theorem lc_3 (s : Srt) {m : Nat} (hm : m < 7) (R : List (List Int)) (hR : ∀ os ∈ R, os.Perm (rng m)) {x0 x1 x3 x4 : Option (Bool × PI.D)} : lcl (tName 5) lc2_least_unsorted (eVar 5) [5] (R.map tT) [x0, x1, some (true, .lst ((pf s m).map tT)), x3, x4, none, none] =
    some ((R.filter fun os => !((pf s m).any (showsB os))).map tT, [x0, x1, some (true, .lst ((pf s m).map tT)), x3, x4, none, none]) :=
  lcl_filter (enc := tT) (g := tT) (p := fun os => !((pf s m).any (showsB os))) (by simp) R fun os ho => by
    have h := lc_2 s hm (hR os ho) (x0 := x0) (x1 := x1) (x3 := x3) (x4 := x4)
    have hb := pf_len s m (by omega)
    have ha := any_bls (f := showsB os) (l := pf s m)
    have lb : (pf s m).length < 1000000 := by omega
    refine ⟨[x0, x1, some (true, .lst ((pf s m).map tT)), x3, x4, some (false, .tup (zL os)), none], false, [x0, x1, some (true, .lst ((pf s m).map tT)), x3, x4, some (false, .tup (zL os)), none], by simp [tT], ?_, by simp, fun _ => ⟨false, [x0, x1, some (true, .lst ((pf s m).map tT)), x3, x4, some (false, .tup (zL os)), none], by simp [tT], by simp⟩⟩
    have ll : ((pf s m).map tT).length < 1000000 := by rw [List.length_map]; exact lb
    generalize (pf s m).any (showsB os) = b at *
    generalize (pf s m).map tT = Z at *
    simp -implicitDefEqProofs [lc2_least_unsorted, h, ha, ll]
theorem l_least (s : Srt) {n : Int} : ∀ (k m : Nat) (x3 x4 : Option (Bool × PI.D)), m + k < 8 →
    ∃ y3 y4, fl (tName 3) fb1_least_unsorted ((rgl m k).map fun (i : Nat) => PI.D.int (i : Int)) [some (false, .str s.nm), some (false, .int n), some (true, .lst ((pf s m).map tT)), x3, x4, none, none] =
      some (.nx, [some (false, .str s.nm), some (false, .int n), some (true, .lst ((pf s (m + k)).map tT)), y3, y4, none, none])
  | 0, m, x3, x4, _ => ⟨x3, x4, rfl⟩
  | k + 1, m, x3, x4, hk => by
    have hm : m < 7 := by omega
    have h1 := lc_1 s hm (x1 := some (false, .int n)) (x2 := some (true, .lst ((pf s m).map tT))) (x3 := some (false, .int (m : Int))) (x4 := x4) (x6 := none)
    have h3 := lc_3 s hm ((lOrd m m).filter fun os => !riF s m os) (fun os ho => rowB_perm (List.all_eq_true.mp (rows_ok m hm) os (List.mem_filter.mp ho).1)) (x0 := some (false, .str s.nm)) (x1 := some (false, .int n)) (x3 := some (false, .int (m : Int))) (x4 := none)
    have hv := v_orders_pp m hm
    have l1 := rows_len m hm
    have l2 := List.length_filter_le (fun os => !riF s m os) (lOrd m m)
    have l3 := List.length_filter_le (fun os => !((pf s m).any (showsB os))) ((lOrd m m).filter fun os => !riF s m os)
    have lp := pf_len s m (by omega)
    obtain ⟨y3, y4, g⟩ := l_least s (n := n) k (m + 1) (some (false, .int (m : Int))) (some (true, .lst (((lOrd m m).filter fun os => !riF s m os).map tT))) (by omega)
    refine ⟨y3, y4, (fl_nx (ds := (rgl (m + 1) k).map fun (i : Nat) => PI.D.int (i : Int)) ?_).trans (by rw [show m + (k + 1) = m + 1 + k by omega]; exact g)⟩
    have e : pf s (m + 1) = pf s m ++ ((lOrd m m).filter fun os => !riF s m os).filter fun os => !((pf s m).any (showsB os)) := rfl
    rw [e, List.map_append]
    have a1 : ((lOrd m m).map tT).length < 1000000 := by rw [List.length_map]; omega
    have a2 : (((lOrd m m).filter fun os => !riF s m os).map tT).length < 1000000 := by rw [List.length_map]; omega
    have a3 : ((pf s m).map tT).length + ((((lOrd m m).filter fun os => !riF s m os).filter fun os => !((pf s m).any (showsB os))).map tT).length < 1000000 := by rw [List.length_map, List.length_map]; omega
    generalize (((lOrd m m).filter fun os => !riF s m os).filter fun os => !((pf s m).any (showsB os))).map tT = Z3 at *
    generalize ((lOrd m m).filter fun os => !riF s m os).map tT = Z2 at *
    generalize (lOrd m m).map tT = Z1 at *
    generalize (pf s m).map tT = Z0 at *
    show (tName 3 (PI.D.int (m : Int)) _).bind _ = _
    simp -implicitDefEqProofs [fb1_least_unsorted, hv, a1, h1, a2, h3, a3]
theorem v_least (s : Srt) {n : Nat} (hn : n < 7) : c_least_unsorted [.str s.nm, .int (n : Int)] = some ((true, .lst ((fn s n).map tT)), []) := by
  obtain ⟨y3, y4, g⟩ := l_least s (n := (n : Int)) (n + 1) 0 none none (by omega)
  rw [Nat.zero_add (n + 1), pf_fn s n hn, ← rangeD_rgl] at g
  have g : fl (tName 3) fb1_least_unsorted (rangeD 0 (n + 1)) [some (false, .str s.nm), some (false, .int (n : Int)), some (true, .lst []), none, none, none, none] = _ := g
  have b1 : (n : Int) + 1 < 4611686018427387904 := by omega
  have b2 : -4611686018427387904 ≤ (n : Int) + 1 := by omega
  have b3 : ¬ (n : Int) < 0 := by omega
  have e : ((n : Int) + 1).toNat = n + 1 := by omega
  generalize (fn s n).map tT = F at *
  simp -implicitDefEqProofs [c_least_unsorted, b_least_unsorted, v_check_sorter, v_is_integer, b1, b2, b3, e, g]
theorem fn_all (s : Srt) {n : Nat} (hn : n < 7) : (fn s n).length < 1000 ∧ ∀ p ∈ fn s n, p.length < 1000 := by
  rw [← pf_fn s n hn]
  exact ⟨pf_len s (n + 1) (by omega), fun p hp => by have := (pf_p s (by omega) hp).2.1; omega⟩
end Wk

namespace Wk
open PySem PySem.Spec PyProof.Rows L2 PI
theorem same_non (k : Nat) : c__law_same (k + 1) [.non, .non] = some ((false, .bl true), []) := by
  show runB [false, false] 4 (b__law_same (c__law_same k)) _ = _
  simp -implicitDefEqProofs [b__law_same, isKT]
theorem same_opt (k : Nat) : ∀ o : Option Nat, c__law_same (k + 1) [optI o, optI o] = some ((false, .bl true), [])
  | none => same_non k
  | some n => same_int k n
theorem Wl.mono' {k k' : Int} {ws : List PI.D} (h : Wl k (.lst ws)) (hk : k ≤ k') : Wl k' (.lst ws) := h.mono hk
/-- one order -/
theorem l_1 (s : Srt) {ws : List PI.D} {k : Int} (hw : Wl k (.lst ws)) (h0 : 0 ≤ k) (hk : k < 90000) (x0 x1 x4 x5 x6 x7 x8 : Option (Bool × PI.D)) :
    ∃ ws' y5 y6, fb1_law [x0, x1, some (true, .lst ws), some (false, .str s.nm), x4, x5, x6, x7, x8] = some (.nx, [x0, x1, some (true, .lst ws'), some (false, .str s.nm), x4, y5, y6, x7, x8]) ∧ Wl (k + 20) (.lst ws') := by
  obtain ⟨r, ws1, h1, h2, h3, h4⟩ := v_dip2 (many := 13) hw (by omega) (by decide) (by decide)
  obtain ⟨n, rfl⟩ := Int.eq_ofNat_of_zero_le h2
  obtain ⟨os, ws2, j1, j2, j3⟩ := v_order (n := n) h4 (by omega) (by omega) (by omega)
  have p1 := v_law_passes s (by omega : n < 900) j2
  have p2 := v_passes s (by omega : n < 900) j2
  have hs : c__law_same 3 [.lst [passD s n os, passD s n os], .lst [passD s n os, passD s n os]] = some ((false, .bl true), []) := same_lst 2 (by simp) fun e he => by
    have e1 : e = passD s n os := by simpa using he
    rw [e1]
    exact same_opt 1 _
  refine ⟨ws2, some (false, .tup (zL os)), some (false, passD s n os), ?_, j3.mono (by omega)⟩
  generalize passD s n os = z at *
  simp -implicitDefEqProofs [fb1_law, h1, j1, p1, p2, hs, pick]
theorem l_2 (s : Srt) {ws : List PI.D} {k : Int} (hw : Wl k (.lst ws)) (h0 : 0 ≤ k) (hk : k < 80000) (x0 x1 x4 x5 x6 x7 x8 : Option (Bool × PI.D)) :
    ∃ ws' y4 y5 y6, fb2_law [x0, x1, some (true, .lst ws), some (false, .str s.nm), x4, x5, x6, x7, x8] = some (.nx, [x0, x1, some (true, .lst ws'), some (false, .str s.nm), y4, y5, y6, x7, x8]) ∧ Wl (k + 40) (.lst ws') := by
  obtain ⟨ws1, y5, y6, g1, w1⟩ := l_1 s hw h0 (by omega) x0 x1 (some (false, .int 0)) x5 x6 x7 x8
  obtain ⟨ws2, z5, z6, g2, w2⟩ := l_1 s w1 (by omega) (by omega) x0 x1 (some (false, .int 1)) y5 y6 x7 x8
  refine ⟨ws2, some (false, .int 1), z5, z6, ?_, w2.mono (by omega)⟩
  have e : rangeD 0 2 = [.int 0, .int 1] := rfl
  have g : fl (tName 4) fb1_law [.int 0, .int 1] [x0, x1, some (true, .lst ws), some (false, .str s.nm), x4, x5, x6, x7, x8] = some (.nx, [x0, x1, some (true, .lst ws2), some (false, .str s.nm), some (false, .int 1), z5, z6, x7, x8]) :=
    (fl_nx (T := tName 4) (f := fb1_law) (d := .int 0) (ds := [.int 1]) (env := [x0, x1, some (true, .lst ws), some (false, .str s.nm), x4, x5, x6, x7, x8]) (env' := [x0, x1, some (true, .lst ws1), some (false, .str s.nm), some (false, .int 0), y5, y6, x7, x8]) g1).trans ((fl_nx (T := tName 4) (f := fb1_law) (d := .int 1) (ds := []) (env := [x0, x1, some (true, .lst ws1), some (false, .str s.nm), some (false, .int 0), y5, y6, x7, x8]) (env' := [x0, x1, some (true, .lst ws2), some (false, .str s.nm), some (false, .int 1), z5, z6, x7, x8]) g2).trans rfl)
  simp -implicitDefEqProofs [fb2_law, e, g]
theorem l_3 {x0 x1 x7 x8 : Option (Bool × PI.D)} : ∀ (ss : List Srt) (ws : List PI.D) (k : Int) (x3 x4 x5 x6 : Option (Bool × PI.D)), Wl k (.lst ws) → 0 ≤ k → k + 40 * ss.length < 80000 →
    ∃ ws' y3 y4 y5 y6, fl (tName 3) fb2_law (ss.map fun s => PI.D.str s.nm) [x0, x1, some (true, .lst ws), x3, x4, x5, x6, x7, x8] = some (.nx, [x0, x1, some (true, .lst ws'), y3, y4, y5, y6, x7, x8]) ∧ Wl (k + 40 * ss.length) (.lst ws')
  | [], ws, k, x3, x4, x5, x6, hw, _, _ => ⟨ws, x3, x4, x5, x6, rfl, by simpa using hw⟩
  | s :: ss, ws, k, x3, x4, x5, x6, hw, h0, hk => by
    simp only [List.length_cons] at hk
    obtain ⟨ws1, y4, y5, y6, g1, w1⟩ := l_2 s hw h0 (by omega) x0 x1 x4 x5 x6 x7 x8
    obtain ⟨ws', z3, z4, z5, z6, g2, w2⟩ := l_3 (x0 := x0) (x1 := x1) (x7 := x7) (x8 := x8) ss ws1 (k + 40) (some (false, .str s.nm)) y4 y5 y6 w1 (by omega) (by omega)
    exact ⟨ws', z3, z4, z5, z6, (fl_nx (T := tName 3) (f := fb2_law) (d := .str s.nm) (ds := ss.map fun (s : Srt) => PI.D.str s.nm) (env := [x0, x1, some (true, .lst ws), x3, x4, x5, x6, x7, x8]) (env' := [x0, x1, some (true, .lst ws1), some (false, .str s.nm), y4, y5, y6, x7, x8]) g1).trans g2, by
      rw [List.length_cons]
      exact w2.mono (by omega)⟩
theorem four_srt {r : Int} (h : 0 ≤ r) (h4 : r < 4) : ∃ s : Srt, ixS (.lst [.str "stack", .str "popper", .str "queues", .str "bubble"]) (.int r) = some (false, .str s.nm) := by
  have : r = 0 ∨ r = 1 ∨ r = 2 ∨ r = 3 := by omega
  rcases this with rfl | rfl | rfl | rfl
  · exact ⟨.st, rfl⟩
  · exact ⟨.po, rfl⟩
  · exact ⟨.qu, rfl⟩
  · exact ⟨.bu, rfl⟩
theorem v_n {p : Nat} {ws : List PI.D} {k : Int} (hw : Wl k (.lst ws)) (h0 : 0 ≤ k) (hk : k < 90000) (x0 x3 x4 x5 x6 x7 x8 : Option (Bool × PI.D)) :
    ∃ ws' n, n < 7 ∧ (eIf (eAnd (e2 eqD (.sl 1) (.ex (eC (.int 0)))) (e2 eqD (.ex (eCall [true, false] c__law_dip [(.sl 2), (.ex (eC (.int 4)))])) (.ex (eC (.int 0))))) (eC (.int 6)) (eCall [true, false] c__law_dip [(.sl 2), (.ex (eC (.int 6)))]))
      [x0, some (false, .int (p : Int)), some (true, .lst ws), x3, x4, x5, x6, x7, x8] = some ((false, .int (n : Nat)), [x0, some (false, .int (p : Int)), some (true, .lst ws'), x3, x4, x5, x6, x7, x8]) := by
  obtain ⟨q, ws1, h1, h2, h3, h4⟩ := v_dip2 (many := 4) hw (by omega) (by decide) (by decide)
  by_cases c : (p : Int) = 0
  · by_cases d : q = 0
    · refine ⟨ws1, 6, by decide, ?_⟩
      simp -implicitDefEqProofs [c, h1, d]
    · obtain ⟨r, ws2, i1, i2, i3, i4⟩ := v_dip2 (many := 6) h4 (by omega) (by decide) (by decide)
      obtain ⟨n, rfl⟩ := Int.eq_ofNat_of_zero_le i2
      have d : (q == 0) = false := by simp [d]
      refine ⟨ws2, n, by omega, ?_⟩
      simp -implicitDefEqProofs [c, h1, d, i1]
  · obtain ⟨r, ws2, i1, i2, i3, i4⟩ := v_dip2 (many := 6) hw (by omega) (by decide) (by decide)
    obtain ⟨n, rfl⟩ := Int.eq_ofNat_of_zero_le i2
    have c : ((p : Int) == 0) = false := by
      rw [beq_eq_false_iff_ne]
      exact c
    refine ⟨ws2, n, by omega, ?_⟩
    simp -implicitDefEqProofs [c, i1]
/-- one cell -/
theorem l_4 {ns : List Int} (hb : ∀ z ∈ ns, Builtin.Int.intBits z ≤ 1048576) (hl : ns.length ≤ 63) {p : Nat} (hp : p < 100) (x2 x3 x4 x5 x6 x7 x8 : Option (Bool × PI.D)) :
    ∃ y2 y3 y4 y5 y6 y7 y8, fb3_law [some (false, .frz (zL ns)), some (false, .int (p : Int)), x2, x3, x4, x5, x6, x7, x8] = some (.nx, [some (false, .frz (zL ns)), some (false, .int (p : Int)), y2, y3, y4, y5, y6, y7, y8]) := by
  obtain ⟨ws, w1, w2⟩ := v_well (p := p) hb hl hp
  obtain ⟨ws1, y3, y4, y5, y6, g1, w3⟩ := l_3 (x0 := some (false, .frz (zL ns))) (x1 := some (false, .int (p : Int))) (x7 := x7) (x8 := x8) [.st, .po, .qu, .bu] ws 0 x3 x4 x5 x6 w2 (by decide) (by decide)
  have w3 : Wl 160 (.lst ws1) := w3
  obtain ⟨r, ws2, h1, h2, h3, h4⟩ := v_dip2 (many := 4) w3 (by omega) (by decide) (by decide)
  obtain ⟨s, hs⟩ := four_srt h2 h3
  obtain ⟨ws3, n, hn, gn⟩ := v_n (p := p) h4 (by omega) (by omega) (some (false, .frz (zL ns))) (some (false, .str s.nm)) y4 y5 y6 x7 x8
  have u1 := v_law_unsorted s hn
  have u2 := v_least s hn
  obtain ⟨f1, f2⟩ := fn_all s hn
  have hsm : c__law_same 3 [.lst ((fn s n).map tT), .lst ((fn s n).map tT)] = some ((false, .bl true), []) := same_lst 2 (by rw [List.length_map]; exact f1) fun e he => by
    obtain ⟨o, ho, rfl⟩ := List.mem_map.mp he
    exact same_ints 0 (f2 o ho)
  have lF : ((fn s n).map tT).length < 1000000 := by rw [List.length_map]; omega
  generalize (fn s n).map tT = F at *
  have g1 : fl (tName 3) fb2_law [.str "stack", .str "popper", .str "queues", .str "bubble"] [some (false, .frz (zL ns)), some (false, .int (p : Int)), some (true, .lst ws), x3, x4, x5, x6, x7, x8] = _ := g1
  refine ⟨some (true, .lst ws3), some (false, .str s.nm), y4, y5, some (true, .lst F), some (false, .int (n : Int)), some (true, .lst (F ++ [.tup []])), ?_⟩
  unfold fb3_law
  generalize (eIf (eAnd (e2 eqD (.sl 1) (.ex (eC (.int 0)))) (e2 eqD (.ex (eCall [true, false] c__law_dip [(.sl 2), (.ex (eC (.int 4)))])) (.ex (eC (.int 0))))) (eC (.int 6)) (eCall [true, false] c__law_dip [(.sl 2), (.ex (eC (.int 6)))])) = EN at *
  simp -implicitDefEqProofs [w1, g1, h1, hs, gn, u1, u2, hsm, lF, pick]
theorem v_law {ns : List Int} (hl : ns.length ≤ 63) (hb : ∀ z ∈ ns, Builtin.Int.intBits z ≤ 1048576) : c_law [.frz (ns.map PI.D.int)] = some ((false, .bl true), []) := by
  obtain ⟨m, hm, em⟩ : ∃ m : Nat, m ≤ 8 ∧ (if (if (ns.length : Int) < 6 then (ns.length : Int) else 6) > 1 then (if (ns.length : Int) < 6 then (ns.length : Int) else 6) else 1) = (m : Int) := by
    by_cases c1 : (ns.length : Int) < 6
    · rw [if_pos c1]
      by_cases c2 : (ns.length : Int) > 1
      · rw [if_pos c2]
        exact ⟨ns.length, by omega, rfl⟩
      · rw [if_neg c2]
        exact ⟨1, by decide, rfl⟩
    · rw [if_neg c1, if_pos (by decide)]
      exact ⟨6, by decide, rfl⟩
  obtain ⟨env', h1, ⟨y1, y2, y3, y4, y5, y6, y7, y8, rfl⟩, _⟩ := fl_range (T := tName 1) (f := fb3_law) m (fun r env => (∃ y1 y2 y3 y4 y5 y6 y7 y8, env = [some (false, .frz (zL ns)), y1, y2, y3, y4, y5, y6, y7, y8]) ∧ ∀ i ∈ r, 0 ≤ i ∧ i < m) (fun a r env h => by
    obtain ⟨⟨y1, y2, y3, y4, y5, y6, y7, y8, rfl⟩, h5⟩ := h
    obtain ⟨a1, a2⟩ := h5 a List.mem_cons_self
    obtain ⟨p, rfl⟩ := Int.eq_ofNat_of_zero_le a1
    obtain ⟨z2, z3, z4, z5, z6, z7, z8, g⟩ := l_4 (p := p) hb hl (by omega) y2 y3 y4 y5 y6 y7 y8
    exact ⟨_, g, ⟨some (false, .int (p : Int)), z2, z3, z4, z5, z6, z7, z8, rfl⟩, fun i hi => h5 i (List.mem_cons_of_mem _ hi)⟩) [some (false, .frz (zL ns)), none, none, none, none, none, none, none, none] fun l _ hi => ⟨⟨none, none, none, none, none, none, none, none, rfl⟩, hi⟩
  have src : srcR1 (eN (c2 max2D) [(.ex (eC (.int 1))), (.ex (eN (c2 min2D) [(.ex (eC (.int 6))), (.ex (eN (c1 lenD) [(.sl 0)]))]))]) [some (false, .frz (zL ns)), none, none, none, none, none, none, none, none] = some (rangeD 0 m, [some (false, .frz (zL ns)), none, none, none, none, none, none, none, none]) := by
    refine srcR1_nat (fr := false) ?_ (by omega)
    rw [← em]
    simp -implicitDefEqProofs
  show c_law [.frz (zL ns)] = _
  have e1 : sFor [] [1] (srcR1 (eN (c2 max2D) [(.ex (eC (.int 1))), (.ex (eN (c2 min2D) [(.ex (eC (.int 6))), (.ex (eN (c1 lenD) [(.sl 0)]))]))])) (tName 1) fb3_law [some (false, .frz (zL ns)), none, none, none, none, none, none, none, none] = some (.nx, [some (false, .frz (zL ns)), y1, y2, y3, y4, y5, y6, y7, y8]) := by
    rw [s_sFor, src]
    exact h1
  unfold c_law b_law
  generalize sFor [] [1] (srcR1 _) (tName 1) fb3_law = F at *
  simp -implicitDefEqProofs [e1]
end Wk

open PySem PySem.W PySem.Calls PyProof.Rows
theorem PySem.Challenge.cw_bannedorders_k39_whole_passes_and_least_holds : PySem.Challenge.rw_bannedorders_k39_whole_passes_and_least.Holds := by
  w_on; o_law
  refine HandSHeadRun.head_imp (r := OpenLaw.row PySem.Challenge.rw_bannedorders_k39_whole_passes_and_least) (q := view (OpenLaw.row PySem.Challenge.rw_bannedorders_k39_whole_passes_and_least).prog [0, 56]) (H := Hd.hk) (ob := Hd.ob) (M := 20000) (loose := Hd.loose) (d := HandSHeadRun.topDef (OpenLaw.row PySem.Challenge.rw_bannedorders_k39_whole_passes_and_least).prog 56) (kwd := []) Hd.ob_eq
    Hd.run (by kernel_rfl) (by kernel_rfl) (by kernel_rfl) (by rfl) (by first | assumption | decide +kernel) (by decide +kernel) ⟨rfl, rfl, rfl, rfl, rfl, by decide +kernel⟩ ?hw ?hc
  case hw => w_witness2
  case hc =>
    refine PI.walk_pi (l := PySem.Challenge.rw_bannedorders_k39_whole_passes_and_least) (n := 63) (k := 8) (x := "law") (st := Wk.top 56) (y := "script") (f := Wk.c_law) rfl (by decide) (by kernel_rfl) ⟨rfl, by decide, by decide⟩ (by kernel_rfl) (fun _ _ _ _ _ _ us hl => match us, hl with | [_], _ => rfl) ?F (fun ns hl hb => Wk.v_law hl hb)
    intro w mg h Y G
    obtain ⟨K, KX, c⟩ := Y
    have M := Hd.md KX G c
    exact ⟨K, KX, M.d_law, fun base _ _ => Wk.ok_law M⟩

