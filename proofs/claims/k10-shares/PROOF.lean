import PyProof.Rows.All
import Wide.All
import OpenK.AllK
import Wide.FinOn
import KE.KIndexOf
import KE.KTupSum
import KE.GoesMore
import HandS.ForMost
import HandS.SuiteRaise
import HandS.IsInst
import HandS.Style
import HandS.Walk
import HandS.WordsExc
import HandS.WordsList
import HandS.TryOnly
import HandS.Codes
import PySem.Challenge.RW_bitdraws_k10_whole_numbers_by_shares
set_option Elab.async false
set_option linter.all false
set_option maxRecDepth 100000
set_option maxHeartbeats 6000000
/-! own rules: an own error made without arguments; a new tuple with its very object told; index and sum of a tuple; enumerate of a tuple; a body of a def that raises, or that is called while an error is handled -/
namespace R1
open PySem PySem.Spec PyProof.Rows L2 L2H

/-! ### an own error, called with no arguments -/
theorem pmk_own0 {X : Cx} {E : Addr} {bases : List Value} {bs nw ini : String} {x : Str} {q1 q2 : Pos} (F : ExcBaseFacts bs nw ini bases) (own : PySem.W.excIn X.K E bases nw = true) (at_ : X.mg x = some (.ref E))
    (kp : PySem.W.keepIn X.K (.ref E) = true) (rs : Raises X (.ref E)) (gl : Gl X x) (nd : (x == ("__debug__" : Str)) = false := by decide) : L2N.PMk X (.Call (.Name x q1) [] [] q2) (fun _ H Q => Q (.ref E) none H) := by
  rintro pins ⟨hp, gs, dr, tk, os⟩ σ H Q J w
  obtain ⟨_, _, _, _, _, _, _, _, _, _, _, _, _, _, _, _, _, hE, hN, hi, tl⟩ := exc_obj J.kIn own
  exact wpAny_Call_Name_kw (ld_glob J gl at_ (PySem.W.callWith_K0 J.kIn kp (wpAny_call_exc_subT F tl hE hN hi (fun _ _ made => L2N.mk_of J made rs w (J.hok.gone made.new)) (Nat.zero_le _))) nd)

/-! ### tuples whose very object is told -/
/-- at p stands a tuple of xs, its object told, without a dict -/
def TupF (H : Hp) (p : Addr) (xs : List V) : Prop := ∃ o : Obj, o.dict = Option.none ∧ o.cls = Value.type "tuple" ∧ H p = some (.frz o (.tup xs))
theorem TupF.sq {K : PySem.W.Frag} {H : Hp} {p : Addr} {xs : List V} (h : TupF H p xs) : SqT K H p xs := by
  obtain ⟨o, _, _, e⟩ := h
  exact .inl (.inr ⟨o, e⟩)
theorem TupF.keep {H H' : Hp} {p : Addr} {xs : List V} (h : TupF H p xs) (k : ∀ o, H p = Option.some o → H' p = Option.some o) : TupF H' p xs := by
  obtain ⟨o, h1, h2, e⟩ := h
  exact ⟨o, h1, h2, k _ e⟩
/-- the wish for a new tuple of xs -/
def NewF (Q : VK) (xs : List V) (H : Hp) : Prop := ∀ (p : Addr) (o : Obj), H p = Option.none → o.dict = Option.none → o.cls = Value.type "tuple" → Q (.ref p) (upd H p (.frz o (.tup xs)))
section
variable {X : Cx}
/-- such a tuple is laid at the heap's end -/
theorem lay_tup {pins : List (Addr × Obj)} {σ : L2.St} {G : Hp} {st : Shared} {Q : VK} {vs : List V} {us : List Value} (J : Inv X pins σ G st) (r : Vals vs us) (few : vs.length ≤ sizeLine) (w : NewF Q vs G) :
    EP X pins σ Q (.ref st.heap.objs.size) { st with heap := st.heap.push { cls := .type "tuple", data := .seq us.toArray } } := by
  have new : (st.heap.push { cls := .type "tuple", data := .seq us.toArray }).get? st.heap.objs.size = some { cls := .type "tuple", data := .seq us.toArray } := Heap.get?_push_size _ rfl
  have free := J.hok.fresh (a := st.heap.objs.size) (Nat.le_refl _)
  exact ⟨.ref st.heap.objs.size, _, J.laid (t' := st.toks) (o := .frz { cls := .type "tuple", data := .seq us.toArray } (.tup vs)) (fun _ _ => Heap.get?_push_of_some _) (Nat.le_refl _) ⟨new, few, us, r, _, new, rfl, _, rfl⟩, rfl, w _ _ free rfl rfl⟩
def tTupF (t : TA) : TE := fun σ H Q => t σ H fun xs H1 => xs.length ≤ sizeLine ∧ NewF Q xs H1
theorem pe_tupF {es : List Expr} {t : TA} {c} {pos : Pos} (a : PA X es t) : PE X (.Tuple es c pos) (tTupF t) :=
  ⟨fun pins st σ G Q J w => wpAny_Tuple_spliced (thn (a.run pos pins st σ G _ J w) fun _ _ ⟨_, _, J1, r, few, w1⟩ => ⟨r.length ▸ few, lay_tup J1 r few w1⟩)⟩
/-- tuple(list) -/
theorem call_tupF : CallR X (.type "tuple") (fun xs H Q => ∃ p ys, xs = [.ref p] ∧ SqL X.K H p ys ∧ NewF Q ys H) := by
  rintro pins st σ G _ _ Q J r ⟨p, ys, rfl, sq, w⟩
  rw [Vals.ref1 r]
  obtain ⟨us, ru, pl, few⟩ := J.list sq
  exact call_tuple_list pl.isList (fun _ kp => lay_tup (J.kept (t' := st.toks) kp) ru few w) (by rw [List.size_toArray, ← ru.length]; exact few)
/-- a method of such a tuple, with one argument -/
def tBMT (r : V → List V → Hp → VK → Prop) (to ta : TE) : TE := fun σ H Q => to σ H fun x H1 => (∃ p xs, x = V.ref p ∧ TupF H1 p xs) ∧ ta σ H1 fun y H2 => r x [y] H2 Q
theorem pe_bmT {o e : Expr} {to ta : TE} {name : Str} {q1 q2 : Pos} {id : String} {r : V → List V → Hp → VK → Prop} (plain : PlainAttrs "tuple") (sl : Slot "tuple" name id) (ty : typeOf (.builtin id) = pure (.type "method_descriptor"))
    (m : MtR X id r) (ho : PE X o to) (ha : PE X e ta) (hb : attributeBase o name X.env (eval o X.env) = eval o X.env := by rfl)
    (few : ((backTo q2 (starEach [e] X.env)).all (fun x => !x.1) && (backToKw q2 (keywordEach [] X.env)).all (fun x => x.1.isSome) && decide ([e].length + ([] : List Keyword).length + (if ([] : List Keyword).isEmpty then 0 else 1) < 30)) = true := by rfl)
    (ln : (q1.endLine == q2.line) = true := by rfl) (one : starEach [e] X.env = (false, eval e X.env) :: starEach [] X.env := by rfl) : PE X (.Call (.Attribute o name q1) [e] [] q2) (tBMT r to ta) := by
  refine ⟨fun pins st σ G Q J w => wpAny_Call_method_late hb few ln rfl (thn (ho.run pins st σ G _ J w) ?_)⟩
  rintro v s1 ⟨_, G1, J1, rv, ⟨p, ys, rfl, ob, nod, cls, at_⟩, w1⟩
  cases rv
  have there := (J1.hok p _ at_).1
  refine ⟨"tuple", id, plain, sl, ty, ⟨ob, there, cls⟩, fun _ z => by cases z; exact ⟨ob, there, nod⟩, ?_⟩
  have arg := (pa_cons ha pa_nil one).run q2 pins s1 σ G1 (fun zs G2 => r (.ref p) zs G2 Q) J1 w1
  rw [one] at arg ⊢
  exact Calls.callWith_builtin rfl (Calls.evalArgs_plain (thn arg fun us s2 ⟨zs, G2, J2, rz, w2⟩ => m pins s2 σ G2 (.ref p) zs (.ref p) us Q J2 rfl rz w2))
/-- t.index(n) of ints, n in it -/
theorem mt_tup_ix : MtR X "tuple.index" (fun x xs H Q => ∃ p, ∃ ns : List Int, ∃ k, x = .ref p ∧ xs = [.int k] ∧ SqT X.K H p (ns.map V.int) ∧ k ∈ ns ∧ Q (.int (ns.idxOf k : Nat)) H) := by
  rintro pins st σ G _ _ v us Q J rv ru ⟨p, ns, k, rfl, rfl, sq, mem, w⟩
  cases rv
  obtain ⟨_, rfl, tk, rfl⟩ := vals1 ru
  obtain ⟨_, ri, is, _⟩ := J.tuple sq
  exact PySem.SeqAt.tuple_index_ints is ri.ints mem ⟨.int (ns.idxOf k : Nat), G, J.tok _, ⟨_, rfl⟩, w⟩
/-- sum(t) of ints -/
theorem cr_sumT (calm : X.calm = true) : CallR X (.builtin "sum") (fun vs H Q => ∃ (a : Addr) (ns : List Int), vs = [V.ref a] ∧ SqT X.K H a (ns.map V.int) ∧ Q (.int ns.sum) H) := by
  rintro pins st σ G _ us Q J ru ⟨a, ns, rfl, sq, w⟩
  obtain ⟨its, ri, is, _⟩ := J.tuple sq
  obtain ⟨nt, en⟩ := ri.ints.allInts.items
  have same : nt.toList.map Prod.fst = ns := by
    rw [← nums_intItems, ← en]
    exact ri.ints.numsOf
  have is' : st.heap.IsTuple a (intItems nt) := en ▸ is
  rw [Vals.ref1 ru]
  refine PySem.W.ktm_sumG (J.ok.hd calm) is' fun h2 tk t2 kp => ⟨.int ns.sum, G, J.kept kp, ⟨t2, ?_⟩, w⟩
  rw [preSum_eq, same, List.take_of_length_le (Nat.le_of_eq (by rw [← same, List.length_map, Array.length_toList]))]
end

/-! ### bodies of defs that raise -/
section
variable {P : Program} {w : World} {K : PySem.W.Frag} {mg : Str → Option Value} {base : Heap} {x qual : Str} {st : Stmt} {f : Addr} {fd : FuncData} {N ps : List Str} {k : Nat} {sp : Sp}
/-- a def that lets out errors whose context is None -/
theorem okN (F : Fun K x qual st f fd) (S : FnScope N ps (defScope st)) (len : ∀ vs H Q E, sp vs H Q E → vs.length = ps.length)
    (body : ∀ cd A outer s H vs Q E, Room k (A.deeper (envOfC qual (defScope st) s.heap.objs.size f cd)) → sp vs H Q E →
      ∃ t, PSs (cxOf (L2N.CX P w) P w K mg base N qual (defScope st) f cd A outer s H E) (defBody st) t ∧ t { nx := fun _ H' => Q .non H', rt := Q } (start N vs) H) : FnOk P w K mg base (L2N.CX P w) (k + 1) f fd ps sp := by
  obtain ⟨_, _, _, _, _, _, cd, _, _, rfl, look, code⟩ := F.ex
  exact fn_of look code S len (body cd)
/-- a def called while an error is handled; nothing leaves it -/
theorem okH (F : Fun K x qual st f fd) (S : FnScope N ps (defScope st)) (len : ∀ vs H Q E, sp vs H Q E → vs.length = ps.length)
    (body : ∀ cd A outer s H vs Q E p, RoomH k (A.deeper (envOfC qual (defScope st) s.heap.objs.size f cd)) → sp vs H Q E →
      ∃ t, PSs (cxH CX0 P w K mg base N qual (defScope st) f cd A outer s H E p).nox (defBody st) t ∧ t { nx := fun _ H' => Q .non H', rt := Q } (start N vs) H) : FnH P w K mg base CX0 (k + 1) f fd ps sp := by
  obtain ⟨_, _, _, _, _, _, cd, _, _, rfl, look, code⟩ := F.ex
  refine fn_ofH look code S len fun A outer s H vs Q E p _ room asked => ?_
  obtain ⟨t, der, rd⟩ := body cd A outer s H vs Q E p room asked
  exact ⟨t, der.nox, rd⟩
end

/-! ### enumerate(tuple) -/
theorem meets_enum1 {v : Value} {o : Obj} {G : Heap → Prop} (B : Begins v o G) : Meets (Builtin.«enumerate.__new__» ⟨[.type "enumerate", v], []⟩) (fun _ R s => G s.heap ∧
      R (.ok (.ret (.ref (s.heap.push o).objs.size))) { s with heap := (s.heap.push o).push { cls := .type "enumerate", data := .fields #[.none, .bool false, .ref s.heap.objs.size, rawInt 0, .none, .none] } }) := by
  refine .of_wp fun prog w A R st asked => ?_
  obtain ⟨hp, gs, dr, tk, os⟩ := st
  obtain ⟨here, fin⟩ := asked
  have sub := sub_enumerate
  have it : ∀ {A' E Q}, Q (.ref hp.objs.size) ⟨hp.push o, gs, dr, tk, os⟩ → wpAny (model prog w) A' (pyIter v) Q E ⟨hp, gs, dr, tk, os⟩ := fun z => B.iter prog w _ _ ⟨hp, gs, dr, tk, os⟩ _ here z
  wp_walk using it
  refine wpAny_stack_any fun _ => wpAny_pure ?_
  split
  · rename_i c _ _ _ _ _
    cases (c == Value.type "enumerate") <;> (wp_walk using it; exact ⟨_, rfl, fin⟩)
  · wp_walk using it
    exact ⟨_, rfl, fin⟩
theorem enum_begins1 {prog : Program} {w : World} {A : Around} {E : Value → Shared → Prop} {s : Shared} {v : Value} {o : Obj} {G : Heap → Prop} {Q : Value → Shared → Prop} (B : Begins v o G) (here : G s.heap)
    (fin : ∀ h2, IsEnum h2 (s.heap.objs.size + 1) s.heap.objs.size 0 .none → h2.get? s.heap.objs.size = some o → (∀ b u, s.heap.get? b = some u → h2.get? b = some u) → Q (.ref (s.heap.objs.size + 1)) { s with heap := h2 }) :
    wpAny (model prog w) A (call (.type "enumerate") [v]) Q E s := by
  have size : (s.heap.push o).objs.size = s.heap.objs.size + 1 := Heap.size_push _ _
  have isE : IsEnum ((s.heap.push o).push { cls := .type "enumerate", data := .fields #[.none, .bool false, .ref s.heap.objs.size, rawInt 0, .none, .none] }) (s.heap.objs.size + 1) s.heap.objs.size 0 .none :=
    size ▸ Heap.get?_push_size (s.heap.push o) rfl
  refine callType_new F.called_enumerate (by decide) (F.typeCall_enumerate_1 _) (F.newCall_enumerate_1 _) (fun _ => F.args_object_init_2 _ _) F.entry_enumerate_new (meets_enum1 B) ⟨here, ?_⟩
  show _ ∧ _
  rw [size]
  exact ⟨⟨_, isE, rfl⟩, fin _ isE (Heap.get?_push_of_some _ (Heap.get?_push_size _ B.free)) fun _ _ z => Heap.get?_push_of_some _ (Heap.get?_push_of_some _ z)⟩
/-- the tuple at a, each item in a new pair with its place -/
def Itet (K : PySem.W.Frag) (a : Addr) : It where
  go := fun i H => ∃ ys : List V, SqT K H a ys ∧ i < ys.length
  yld := fun i H v H' => ∃ (T : Addr) (y : V), v = .ref T ∧ H T = none ∧ H' = upd H T (.tup [.int (i : Nat), y]) ∧ ∀ ys, SqT K H a ys → ys[i]? = some y
  stop := fun i H => ∃ ys : List V, SqT K H a ys ∧ ys.length = i
/-- the state of the two iterators ahead of turn i: enumerate's at e, the tuple's at j -/
def EnAt (a e j : Addr) (i : Nat) (h : Heap) : Prop := (∃ old, IsEnum h e j (i : Int) old) ∧ h.IsTupleIter j a i ∧ e ≠ j ∧ a ≠ j ∧ e ≠ a
theorem walksT_enumT {P : Program} {w : World} {A : Around} (calm : A.handled = none) {a e j : Addr} (n1 : e ≠ j) (n2 : a ≠ j) (n3 : e ≠ a) (us : Array Value) :
    WalksT P w A e [e, j, a] [e, j] us.size (fun i vals => ∃ t u, us[i]? = some u ∧ vals = #[.int i t, u]) (fun i h => (∃ old, IsEnum h e j i old) ∧ h.IsTupleIter j a i ∧ h.IsTuple a us)
      (fun i T h => (∃ u, IsEnumOut h e j ((i : Int) + 1) u T) ∧ (h.IsTupleIter j a (i + 1) ∧ h.IsTuple a us) ∧ T ≠ e ∧ T ≠ j) :=
  WalksT.enumerateD (Draws.tuple (A := A.in1) calm j a n2 us) e n1 (by simp [n1, n3]) (by simp)
theorem turn_enumT {P : Program} {w : World} {K : PySem.W.Frag} {elts : List Expr} {kk : Nat} {tpos : Pos} (a e j : Addr) : Turn P w K (.Tuple elts kk tpos) (Itet K a) [e, j] e (EnAt a e j) where
  mem := List.mem_cons_self
  obj := by
    rintro i h ⟨⟨_, hE⟩, ⟨oj, hj, _, dj⟩, _⟩ b hb
    rcases List.mem_cons.mp hb with rfl | last
    · exact ⟨_, hE, fun _ z => Data.noConfusion z⟩
    · cases List.mem_singleton.mp last
      exact ⟨oj, hj, fun _ z => by rw [dj] at z; cases z⟩
  keep := by
    rintro i h h2 ⟨⟨old, hE⟩, hJ, rest⟩ kp
    exact ⟨⟨old, kp e (by simp) _ hE⟩, hJ.at fun o z => kp j (by simp) o z, rest⟩
  item := by
    rintro X rfl rfl rfl calm i pins st σ G E J fpo ⟨⟨old, hE⟩, hJ, n1, n2, n3⟩ ⟨ys, sq, lt⟩
    obtain ⟨us, ru, is, _⟩ := J.tuple sq
    have W := walksT_enumT (P := X.prog) (w := X.w) (J.ok.hd calm) n1 n2 n3 us.toArray
    have lt' : i < us.toArray.size := by rw [List.size_toArray, ← ru.length]; exact lt
    refine W.item i st _ E lt' ⟨⟨old, hE⟩, hJ, is⟩ fun T vals h1 tk pt above isT mid kp1 => ⟨.ref T, rfl, W.go elts kk tpos i T _ _ _ mid fun h2 st2 kp2 => ?_⟩
    obtain ⟨t, u, hu, rfl⟩ := pt
    obtain ⟨y, hy⟩ : ∃ y, ys[i]? = some y := ⟨ys[i], List.getElem?_eq_getElem lt⟩
    have yu : RelV y u := by
      obtain ⟨u2, e2, r2⟩ := ru.get hy
      have z : us.toArray[i]? = some u2 := by rw [List.getElem?_toArray]; exact e2
      rw [z] at hu
      cases hu
      exact r2
    obtain ⟨oT, gT, cT, nT, dT⟩ := isT
    have laid : ObjOk X.prog X.w (upd G T (.tup [.int (i : Nat), y])) h2 T (.tup [.int (i : Nat), y]) :=
      ⟨(by show 2 ≤ sizeLine; decide), [.int i t, u], .cons ⟨t, rfl⟩ (.cons yu .nil), oT, kp2 T oT (W.apart i T h1 mid) gT, cT, nT, dT⟩
    have J2 : Inv X pins σ (upd G T (.tup [.int (i : Nat), y])) { st with heap := h2, toks := tk } := J.turnedNew (fun b o nb z => kp2 b o nb (kp1 b o nb z)) fpo above laid
    obtain ⟨old2, hE2⟩ := st2.1
    refine ⟨.ref T, _, J2, rfl, ⟨T, y, rfl, J.hok.fresh above, rfl, fun zs sz => J.tuple_inj sz sq ▸ hy⟩, ⟨⟨old2, hE2⟩, st2.2.1, n1, n2, n3⟩, fun b hb => ?_⟩
    have nb : b ≠ T := fun z => W.apart i T h1 mid (z ▸ hb)
    exact (upd_ne nb).trans (fpo b hb).1
  done := by
    rintro X rfl rfl rfl calm i pins st σ G E J fpo ⟨⟨old, hE⟩, hJ, n1, n2, n3⟩ ⟨ys, sq, rfl⟩
    obtain ⟨us, ru, is, _⟩ := J.tuple sq
    have W := walksT_enumT (P := X.prog) (w := X.w) (J.ok.hd calm) n1 n2 n3 us.toArray
    have sz : us.toArray.size = ys.length := by rw [List.size_toArray, ru.length]
    exact W.done st _ E ⟨⟨old, sz ▸ hE⟩, sz ▸ hJ, is⟩ fun h2 tk kp => ⟨rfl, J.turnedL kp fpo⟩
  self := by
    rintro A i st Q E ⟨⟨_, hE⟩, _⟩ w
    exact wpAny_pyIter_enum hE w
def iEnumT (K : PySem.W.Frag) (te : TE) : TI := fun σ H R => te σ H fun x H1 => ∃ a ys, [x] = [V.ref a] ∧ SqT K H1 a ys ∧ R (Itet K a) H1
theorem pi_enumT {X : Cx} {e : Expr} {te : TE} {q1 q2 q3 : Pos} {elts : List Expr} {kk : Nat} (gl : Gl X "enumerate") (un : X.mg "enumerate" = none) (he : PE X e te) (one : starEach [e] X.env = [(false, eval e X.env)] := by rfl) :
    PI X (.Tuple elts kk q1) (.Call (.Name "enumerate" q2) [e] [] q3) (iEnumT X.K te) := by
  refine ⟨fun pins st σ G R J w => Call_ (ld_blt J gl un boot_enumerate (PyProof.Rows.callWith_type1 (thn ((pa_cons he pa_nil one).run q3 pins st σ G (fun xs H1 => ∃ a ys, xs = [V.ref a] ∧ SqT X.K H1 a ys ∧ R (Itet X.K a) H1) J w) ?_) one rfl))⟩
  · rintro us s1 ⟨_, G1, J1, rv, a, ys, rfl, sq, w1⟩
    rw [Vals.ref1 rv]
    obtain ⟨its, ri, is, _⟩ := J1.tuple sq
    have below : a < s1.heap.objs.size := let ⟨_, z, _⟩ := is; Heap.lt_size z
    refine enum_begins1 (begins_tuple a its.toArray) is fun h2 isE itAt kp => wpAny_pyIter_enum isE ?_
    refine ⟨s1.heap.objs.size + 1, [s1.heap.objs.size + 1, s1.heap.objs.size], _, _, G1, rfl, J1.kept (t' := s1.toks) kp, turn_enumT a _ s1.heap.objs.size, ⟨⟨.none, isE⟩, ⟨_, itAt, rfl, rfl⟩, Nat.succ_ne_self _, Nat.ne_of_lt below, Nat.ne_of_gt (Nat.lt_succ_of_lt below)⟩, fun b hb => ?_, w1⟩
    have up : s1.heap.objs.size ≤ b := by
      rcases List.mem_cons.mp hb with rfl | last
      · exact Nat.le_succ _
      · exact Nat.le_of_eq (List.mem_singleton.mp last).symm
    exact J1.fpOk up (J1.hok.fresh up)
theorem walk_enumT {K : PySem.W.Frag} {a : Addr} {ys : List V} : Walk (Itet K a) ys.length (fun H => SqT K H a ys) (YPair (fun i => some (.int (i : Nat))) (fun i => ys[i]?)) where
  goes := fun _ _ lt sq => ⟨ys, sq, lt⟩
  stops := fun _ sq => ⟨ys, sq, rfl⟩
  yields := fun i _ _ _ _ sq ⟨T, y, e, free, new, all⟩ => ⟨T, .int (i : Nat), y, e, free, new, rfl, all ys sq⟩
end R1
/-! the mathematics: the mirror of the pick loop; what the program's rests tell are the figures that the law reckons -/
namespace M2
/-- the places (from k on) of those that p takes -/
def idxs (p : Int → Bool) : List Int → Nat → List Int
  | [], _ => []
  | w :: r, k => if p w = true then (k : Int) :: idxs p r (k + 1) else idxs p r (k + 1)
theorem idxs_app (p : Int → Bool) : ∀ (l r : List Int) (k : Nat), idxs p (l ++ r) k = idxs p l k ++ idxs p r (k + l.length)
  | [], r, k => by simp [idxs]
  | w :: l, r, k => by
    have ih := idxs_app p l r (k + 1)
    have e : k + 1 + l.length = k + (l.length + 1) := by omega
    simp only [List.cons_append, idxs, List.length_cons]
    rw [ih, e]
    split <;> simp
theorem idxs_map (p : Int → Bool) (f : Int → Int) : ∀ (l : List Int) (k : Nat), idxs p (l.map f) k = idxs (fun w => p (f w)) l k
  | [], _ => rfl
  | w :: l, k => by
    simp only [List.map_cons, idxs]
    rw [idxs_map p f l (k + 1)]
theorem idxs_congr {p q : Int → Bool} : ∀ (l : List Int) (k : Nat), (∀ w ∈ l, p w = q w) → idxs p l k = idxs q l k
  | [], _, _ => rfl
  | w :: l, k, h => by
    simp only [idxs]
    rw [h w (by simp), idxs_congr l (k + 1) (fun v hv => h v (by simp [hv]))]
theorem idxs_len (p : Int → Bool) : ∀ (l : List Int) (k : Nat), (idxs p l k).length ≤ l.length
  | [], _ => Nat.le_refl _
  | w :: l, k => by
    have ih := idxs_len p l (k + 1)
    rw [idxs]
    by_cases c : p w = true
    · rw [if_pos c, List.length_cons, List.length_cons]
      omega
    · rw [if_neg c, List.length_cons]
      omega
theorem take_more {α : Type} : ∀ {l : List α} {i : Nat} {x : α}, l[i]? = some x → l.take (i + 1) = l.take i ++ [x]
  | [], i, x, h => by simp at h
  | a :: l, 0, x, h => by
    have e : a = x := Option.some.inj h
    subst e
    rfl
  | a :: l, i + 1, x, h => by
    have ih := take_more (l := l) (i := i) (x := x) h
    show a :: l.take (i + 1) = a :: l.take i ++ [x]
    rw [ih]
    rfl
/-- one item more is looked at -/
theorem idxs_more (p : Int → Bool) {l : List Int} {i : Nat} {w : Int} (h : l[i]? = some w) : idxs p (l.take (i + 1)) 0 = idxs p (l.take i) 0 ++ (if p w = true then [(i : Int)] else []) := by
  have hl : i < l.length := (List.getElem?_eq_some_iff.mp h).1
  have e : 0 + (l.take i).length = i := by rw [List.length_take]; omega
  rw [take_more h, idxs_app, e]
  simp only [idxs]
/-- the figure in twos behind the point, at the place whose power is size -/
def isOne (total size : Int) (w : Int) : Bool := decide (w * size / total % 2 = 1)
/-- the rest doubled comes to the whole -/
def isBig (total : Int) (r : Int) : Bool := decide (total ≤ r * 2)
theorem big_one {total : Int} (ht : 0 < total) (size w : Int) : isBig total (w * size % total) = isOne total (size * 2) w := by
  unfold isBig isOne
  have h1 : w * (size * 2) = w * size * 2 := by rw [Int.mul_assoc]
  have h2 : total * (w * size / total) + w * size % total = w * size := Int.mul_ediv_add_emod ..
  have h3 := Int.emod_nonneg (w * size) (Int.ne_of_gt ht)
  have h4 := Int.emod_lt_of_pos (w * size) ht
  rw [h1]
  generalize w * size = x at *
  generalize hq : x / total = q at *
  generalize hr : x % total = r at *
  have h5 : x * 2 = r * 2 + total * (q * 2) := by
    rw [← h2, Int.add_mul, ← Int.mul_assoc, Int.add_comm]
  rw [h5, Int.add_mul_ediv_left _ _ (Int.ne_of_gt ht)]
  by_cases hb : total ≤ r * 2
  · have e : r * 2 / total = 1 := by
      have a : r * 2 = (r * 2 - total) + total * 1 := by omega
      rw [a, Int.add_mul_ediv_left _ _ (Int.ne_of_gt ht), Int.ediv_eq_zero_of_lt (by omega) (by omega)]
      rfl
    rw [e, decide_eq_true hb, eq_comm, decide_eq_true_eq]
    omega
  · have e : r * 2 / total = 0 := Int.ediv_eq_zero_of_lt (by omega) (by omega)
    rw [e, decide_eq_false hb, eq_comm, decide_eq_false_iff_not]
    omega
theorem rest_next (total size w : Int) : w * size % total * 2 % total = w * (size * 2) % total := by
  rw [← Int.mul_assoc, Int.mul_emod (w * size % total) 2 total, Int.emod_emod, ← Int.mul_emod]
/-- the ends at the depth whose power is size -/
def ends (ws : List Int) (total size : Int) : List Int := idxs (isOne total size) ws 0
/-- the rests at the depth whose power is size -/
def rests (ws : List Int) (total size : Int) : List Int := ws.map fun w => w * size % total
theorem ends_rests {total : Int} (ht : 0 < total) (ws : List Int) (size : Int) : idxs (isBig total) (rests ws total size) 0 = ends ws total (size * 2) := by
  unfold rests ends
  rw [idxs_map]
  exact idxs_congr _ _ fun w _ => big_one ht size w
theorem rests_next (ws : List Int) (total size : Int) : (rests ws total size).map (fun r => r * 2 % total) = rests ws total (size * 2) := by
  unfold rests
  rw [List.map_map]
  exact List.map_congr_left fun w _ => rest_next total size w
theorem rests_one {ws : List Int} {total : Int} (h : ∀ w ∈ ws, 0 ≤ w ∧ w < total) : rests ws total 1 = ws := by
  unfold rests
  have e : ws.map (fun w => w * 1 % total) = ws.map id := List.map_congr_left fun w hw => by
    show w * 1 % total = w
    rw [Int.mul_one]
    exact Int.emod_eq_of_lt (h w hw).1 (h w hw).2
  rw [e, List.map_id]
theorem mem_le_sum : ∀ {ws : List Int}, (∀ w ∈ ws, 0 ≤ w) → ∀ w ∈ ws, w ≤ ws.sum
  | [], _, w, hw => by simp at hw
  | a :: r, h, w, hw => by
    have hr : ∀ v ∈ r, 0 ≤ v := fun v hv => h v (by simp [hv])
    have h0 : 0 ≤ r.sum := by
      have : ∀ {l : List Int}, (∀ v ∈ l, 0 ≤ v) → 0 ≤ l.sum := by
        intro l
        induction l with
        | nil => intro _; simp
        | cons b l ih =>
          intro hl
          have := ih fun v hv => hl v (by simp [hv])
          have := hl b (by simp)
          simp only [List.sum_cons]; omega
      exact this hr
    have ha := h a (by simp)
    simp only [List.sum_cons]
    rcases List.mem_cons.mp hw with e | e
    · omega
    · have := mem_le_sum hr w e
      omega
/-- below the whole, if none is the whole -/
theorem below {ws : List Int} (h : ∀ w ∈ ws, 0 ≤ w) (hn : ws.sum ∉ ws) : ∀ w ∈ ws, 0 ≤ w ∧ w < ws.sum := fun w hw => by
  have h1 := mem_le_sum h w hw
  have h2 : w ≠ ws.sum := fun e => hn (e ▸ hw)
  exact ⟨h w hw, by omega⟩
theorem sum_le {B : Int} : ∀ {ws : List Int}, (∀ w ∈ ws, w ≤ B) → ws.sum ≤ B * ws.length
  | [], _ => by simp
  | a :: r, h => by
    have ih := sum_le (ws := r) fun v hv => h v (by simp [hv])
    have ha := h a (by simp)
    simp only [List.length_cons, List.sum_cons]
    have e : B * ((r.length + 1 : Nat) : Int) = B * (r.length : Int) + B := by
      rw [show ((r.length + 1 : Nat) : Int) = (r.length : Int) + 1 by omega, Int.mul_add, Int.mul_one]
    rw [e]
    omega
theorem sum_nonneg : ∀ {ws : List Int}, (∀ w ∈ ws, 0 ≤ w) → 0 ≤ ws.sum
  | [], _ => by simp
  | a :: r, h => by
    have ih := sum_nonneg (ws := r) fun v hv => h v (by simp [hv])
    have ha := h a (by simp)
    simp only [List.sum_cons]; omega
/-- bits lead down: the number and the place behind the last bit taken -/
def go (ws : List Int) (total : Int) : List Int → Nat → Int → Int → Option (Int × Nat)
  | [], _, _, _ => none
  | b :: bs, k, place, size =>
    if place * 2 + b < ((ends ws total (size * 2)).length : Int) then some ((ends ws total (size * 2)).getD (place * 2 + b).toNat 0, k + 1)
    else go ws total bs (k + 1) (place * 2 + b - ((ends ws total (size * 2)).length : Int)) (size * 2)
def pickF (row : List Int) (k : Nat) (ws : List Int) : Option (Int × Nat) :=
  if ws.sum ∈ ws then some ((ws.idxOf ws.sum : Nat), k) else go ws ws.sum (row.drop k) k 0 1
theorem go_nil (ws : List Int) (total : Int) (row : List Int) (k : Nat) (place size : Int) (h : row.length ≤ k) : go ws total (row.drop k) k place size = none := by
  rw [List.drop_of_length_le h]; rfl
theorem go_step (ws : List Int) (total : Int) (row : List Int) (k : Nat) (place size b : Int) (h : row[k]? = some b) : go ws total (row.drop k) k place size =
    if place * 2 + b < ((ends ws total (size * 2)).length : Int) then some ((ends ws total (size * 2)).getD (place * 2 + b).toNat 0, k + 1)
    else go ws total (row.drop (k + 1)) (k + 1) (place * 2 + b - ((ends ws total (size * 2)).length : Int)) (size * 2) := by
  obtain ⟨lt, at_⟩ := List.getElem?_eq_some_iff.mp h
  rw [List.drop_eq_getElem_cons lt, at_]
  rfl
theorem go_at (ws : List Int) (total : Int) : ∀ (bs : List Int) (k : Nat) (place size : Int) (n : Int) (k' : Nat), go ws total bs k place size = some (n, k') → k < k' ∧ k' ≤ k + bs.length
  | [], _, _, _, _, _, h => by simp [go] at h
  | b :: bs, k, place, size, n, k', h => by
    simp only [go] at h
    split at h
    · have e := (Prod.mk.inj (Option.some.inj h)).2
      rw [List.length_cons]
      omega
    · have ih := go_at ws total bs _ _ _ _ _ h
      rw [List.length_cons]
      omega
theorem pickF_at {row : List Int} {k : Nat} {ws : List Int} {n : Int} {k' : Nat} (hk : k ≤ row.length) (h : pickF row k ws = some (n, k')) : k ≤ k' ∧ k' ≤ row.length := by
  unfold pickF at h
  split at h
  · have e := (Prod.mk.inj (Option.some.inj h)).2
    omega
  · have z := go_at ws _ _ _ _ _ _ _ h
    rw [List.length_drop] at z
    omega
/-- a fraction that is nought, or one, at once -/
theorem coin_zero {row : List Int} {k : Nat} {lower : Int} (h : 1 ≤ lower) : pickF row k [lower - 0, 0] = some (0, k) := by
  have e : ([lower - 0, 0] : List Int).sum = lower := by simp
  have m : lower ∈ ([lower - 0, 0] : List Int) := by simp
  unfold pickF
  rw [e, if_pos m]
  have i : ([lower - 0, 0] : List Int).idxOf lower = 0 := by
    rw [show lower - 0 = lower by omega, List.idxOf_cons_self]
  rw [i]
  rfl
theorem coin_one {row : List Int} {k : Nat} {lower : Int} (h : 1 ≤ lower) : pickF row k [lower - lower, lower] = some (1, k) := by
  have e : ([lower - lower, lower] : List Int).sum = lower := by simp
  have m : lower ∈ ([lower - lower, lower] : List Int) := by simp
  unfold pickF
  rw [e, if_pos m]
  have i : ([lower - lower, lower] : List Int).idxOf lower = 1 := by
    have z : lower - lower = 0 := by omega
    have ne : ¬ ((0 : Int) = lower) := by omega
    rw [z, List.idxOf_cons]
    have b : ((0 : Int) == lower) = false := by simpa using ne
    rw [b]
    simp
  rw [i]
  rfl
end M2
/-! the text by places, what stands in the heap, the promises -/
namespace K10
open PySem PySem.Spec PyProof.Rows L2 L2H R1 M2
def top (i : Nat) : Stmt := PySem.Challenge.pw_bitdraws_k10_whole_numbers_by_shares.main.body.getD i (.Pass ⟨0, 0, 0, 0⟩)
abbrev sFrom : Stmt := top 5
abbrev sPick : Stmt := top 6
abbrev sCoin : Stmt := top 7
abbrev sInit : Stmt := inClass (top 9) 0
abbrev sTake : Stmt := inClass (top 9) 1
abbrev sUsed : Stmt := inClass (top 9) 2
abbrev sBack : Stmt := inClass (top 9) 4
abbrev sSame : Stmt := top 11
abbrev sDraw : Stmt := top 12
abbrev sOne : Stmt := top 13
abbrev sBits : Stmt := top 14
abbrev sLPick : Stmt := top 17
abbrev sWeights : Stmt := top 18
abbrev sTold : Stmt := top 19
abbrev sLaw : Stmt := top 20

/-! ### what stands in the heap -/
theorem kra : ¬ (("row" : Str) = "at") := by decide +kernel
/-- a Bits's attributes, in the order in which they are stored -/
def flds (rp : Addr) (k : Int) : List (Str × V) := putF "at" (.int k) (putF "row" (.ref rp) [])
theorem flds_eq (rp : Addr) (k : Int) : flds rp k = ([("row", V.ref rp), ("at", V.int k)] : List (Str × V)) := by
  show (if ("row" : Str) = "at" then [(("row" : Str), V.int k)] else (("row" : Str), V.ref rp) :: putF "at" (V.int k) []) = ([("row", V.ref rp), ("at", V.int k)] : List (Str × V))
  rw [if_neg kra]
  all_goals rfl
theorem flds_row (rp : Addr) (k : Int) : (flds rp k).lookup ("row" : Str) = some (.ref rp) := by
  unfold flds
  rw [lookup_putF, if_neg kra, lookup_putF, if_pos rfl]
theorem flds_at (rp : Addr) (k : Int) : (flds rp k).lookup ("at" : Str) = some (.int k) := by
  unfold flds
  rw [lookup_putF, if_pos rfl]
theorem flds_no (rp : Addr) (k : Int) {m : Str} (h1 : ¬ m = "at") (h2 : ¬ m = "row") : (flds rp k).lookup m = none := by
  unfold flds
  rw [lookup_putF, if_neg h1, lookup_putF, if_neg h2]
  all_goals rfl
theorem flds_put (rp : Addr) (k j : Int) : putF "at" (.int j) (flds rp k) = flds rp j := by
  rw [flds_eq, flds_eq]
  show (if ("row" : Str) = "at" then _ else (("row" : Str), V.ref rp) :: (if ("at" : Str) = "at" then [(("at" : Str), V.int j)] else _)) = ([("row", V.ref rp), ("at", V.int j)] : List (Str × V))
  rw [if_neg kra, if_pos rfl]
theorem flds_few (rp : Addr) (k : Int) : (flds rp k).length < 1000 := by
  rw [flds_eq]
  show 2 < 1000
  decide
/-- a Bits of the row at rp, k of it taken, stands at b -/
def BitsAt (C : Addr) (H : Hp) (b rp : Addr) (k : Nat) : Prop := ∃ dx, H b = some (.ins C dx (flds rp (k : Int)))
/-- a row of bits -/
structure RowAt (H : Hp) (rp : Addr) (row : List Int) : Prop where
  at_ : H rp = some (.tup (row.map V.int))
  bit : ∀ x ∈ row, x = 0 ∨ x = 1
  few : row.length ≤ 60
/-- weights -/
structure WOk (ws : List Int) : Prop where
  bd : ∀ w ∈ ws, 0 ≤ w ∧ w ≤ 1000
  pos : 0 < ws.sum
  few : ws.length ≤ 10
theorem WOk.nn {ws : List Int} (h : WOk ws) : ∀ w ∈ ws, 0 ≤ w := fun w hw => (h.bd w hw).1
theorem WOk.sum_lt {ws : List Int} (h : WOk ws) : ws.sum < 1073741824 := by
  have z := sum_le (B := 1000) (ws := ws) fun w hw => (h.bd w hw).2
  have f := h.few
  omega
/-- all but what stands at b is as it was -/
def Fr1 (H H' : Hp) (b : Addr) : Prop := ∀ c o, H c = some o → c ≠ b → H' c = some o
theorem Fr1.refl (H : Hp) (b : Addr) : Fr1 H H b := fun _ _ e _ => e
theorem Fr1.of_same {H H' : Hp} {b : Addr} (h : Same H H') : Fr1 H H' b := fun c o e _ => h c o e
theorem Fr1.trans {H H1 H2 : Hp} {b : Addr} (h : Fr1 H H1 b) (g : Fr1 H1 H2 b) : Fr1 H H2 b := fun c o e n => g c o (h c o e n) n
theorem Fr1.upd {H : Hp} {b : Addr} {o : HO} : Fr1 H (upd H b o) b := fun c u e n => by rw [upd_ne n]; exact e
theorem Fr1.new {H H1 : Hp} {b p : Addr} {o : HO} (h : Fr1 H H1 b) (hp : H1 p = none) (hb : ∃ u, H b = some u) : Fr1 H (L2.upd H1 p o) b := fun c u e n => by
  have z := h c u e n
  rw [upd_ne (ne_of_none z hp)]
  exact z
theorem Fr1.new' {H H1 : Hp} {b p : Addr} {o : HO} (h : Fr1 H H1 b) (hp : H1 p = none) : Fr1 H (L2.upd H1 p o) b := fun c u e n => by
  have z := h c u e n
  rw [upd_ne (ne_of_none z hp)]
  exact z
theorem same_new {H : Hp} {p : Addr} {o : HO} (hp : H p = none) : Same H (upd H p o) := fun c u e => by
  rw [upd_ne (ne_of_none e hp)]
  exact e
theorem RowAt.keep {H H' : Hp} {rp : Addr} {row : List Int} (h : RowAt H rp row) (k : ∀ o, H rp = some o → H' rp = some o) : RowAt H' rp row := ⟨k _ h.at_, h.bit, h.few⟩
theorem RowAt.sq {K : PySem.W.Frag} {H : Hp} {rp : Addr} {row : List Int} (h : RowAt H rp row) : SqT K H rp (row.map V.int) := SqT.of h.at_
theorem BitsAt.keep {C : Addr} {H H' : Hp} {b rp : Addr} {k : Nat} (h : BitsAt C H b rp k) (e : ∀ o, H b = some o → H' b = some o) : BitsAt C H' b rp k := by
  obtain ⟨dx, h⟩ := h
  exact ⟨dx, e _ h⟩
/-- the script, read only -/
def Scr (K : PySem.W.Frag) (H : Hp) (sp : Addr) (ns : List Int) : Prop := (∃ o, H sp = some (.frz o (.lst (ns.map V.int)))) ∨ ((∀ H', SqL K H' sp (ns.map V.int)))
theorem Scr.sq {K : PySem.W.Frag} {H : Hp} {sp : Addr} {ns : List Int} (h : Scr K H sp ns) : SqL K H sp (ns.map V.int) := by
  rcases h with ⟨o, h⟩ | h
  · exact .inl (.inr ⟨o, h⟩)
  · exact h H
theorem Scr.keep {K : PySem.W.Frag} {H H' : Hp} {sp : Addr} {ns : List Int} (h : Scr K H sp ns) (k : ∀ o u, H sp = some (.frz o u) → H' sp = some (.frz o u)) : Scr K H' sp ns := by
  rcases h with ⟨o, h⟩ | h
  · exact .inl ⟨o, k _ _ h⟩
  · exact .inr h
theorem Scr.of {K : PySem.W.Frag} {H : Hp} {sp : Addr} {ns : List Int} (ho : Only H) (h : SqL K H sp (ns.map V.int)) : Scr K H sp ns := by
  rcases h with (free | ⟨o, lock⟩) | top
  · rcases ho sp with e | ⟨o, xs, e⟩
    · rw [free] at e; cases e
    · rw [free] at e; cases e
  · exact .inl ⟨o, lock⟩
  · exact .inr fun _ => .inr top
theorem Scr.fr1 {K : PySem.W.Frag} {H H' : Hp} {b sp : Addr} {ns : List Int} (h : Scr K H sp ns) (f : Fr1 H H' b) (hb : ∀ o u, H b ≠ some (.frz o u)) : Scr K H' sp ns :=
  h.keep fun o u e => f sp _ e fun z => hb o u (z ▸ e)

/-! ### the promises -/
def spInit (C : Addr) : Sp := fun vs H Q _ => ∃ (b rp dx : Addr), vs = [.ref b, .ref rp] ∧ H b = some (.ins C dx []) ∧ ∀ H', BitsAt C H' b rp 0 → Fr1 H H' b → Q .non H'
def spUsed (C : Addr) : Sp := fun vs H Q _ => ∃ (b rp : Addr) (k : Nat), vs = [.ref b] ∧ BitsAt C H b rp k ∧ Q (.int (k : Int)) H
def spTake (C CN : Addr) : Sp := fun vs H Q E => ∃ (b rp : Addr) (row : List Int) (k : Nat), vs = [.ref b] ∧ BitsAt C H b rp k ∧ RowAt H rp row ∧
  (∀ x, row[k]? = some x → ∀ H', BitsAt C H' b rp (k + 1) → Fr1 H H' b → Q (.int x) H') ∧ (row.length ≤ k → E (.ref CN) none H)
def spBack (C : Addr) : Sp := fun vs H Q _ => ∃ (b rp : Addr) (k m : Nat), vs = [.ref b, .int (m : Int)] ∧ BitsAt C H b rp k ∧ m ≤ k ∧ ∀ H', BitsAt C H' b rp m → Fr1 H H' b → Q .non H'
/-- pick_from: behind a refusal some bits are taken -/
def spFrom (C CN : Addr) : Sp := fun vs H Q E => ∃ (b rp wp : Addr) (row : List Int) (k : Nat) (ws : List Int), vs = [.ref b, .ref wp] ∧ BitsAt C H b rp k ∧ RowAt H rp row ∧ k ≤ row.length ∧ TupF H wp (ws.map V.int) ∧ WOk ws ∧
  (∀ n k', pickF row k ws = some (n, k') → ∀ H', BitsAt C H' b rp k' → Fr1 H H' b → Q (.int n) H') ∧
  (pickF row k ws = none → ∀ H' k', k ≤ k' → BitsAt C H' b rp k' → Fr1 H H' b → E (.ref CN) none H')
/-- pick: behind a refusal none is taken -/
def spPick (C CN : Addr) : Sp := fun vs H Q E => ∃ (b rp wp : Addr) (row : List Int) (k : Nat) (ws : List Int), vs = [.ref b, .ref wp] ∧ BitsAt C H b rp k ∧ RowAt H rp row ∧ k ≤ row.length ∧ TupF H wp (ws.map V.int) ∧ WOk ws ∧
  (∀ n k', pickF row k ws = some (n, k') → ∀ H', BitsAt C H' b rp k' → Fr1 H H' b → Q (.int n) H') ∧
  (pickF row k ws = none → ∀ H', BitsAt C H' b rp k → Fr1 H H' b → E (.ref CN) none H')
def spCoin (C CN : Addr) : Sp := fun vs H Q E => ∃ (b rp : Addr) (row : List Int) (k : Nat) (up lo : Int), vs = [.ref b, .int up, .int lo] ∧ BitsAt C H b rp k ∧ RowAt H rp row ∧ k ≤ row.length ∧ 0 ≤ up ∧ up ≤ lo ∧ 1 ≤ lo ∧ lo ≤ 1000 ∧
  (∀ n k', pickF row k [lo - up, up] = some (n, k') → ∀ H', BitsAt C H' b rp k' → Fr1 H H' b → Q (.bl (decide (n = 1))) H') ∧
  (pickF row k [lo - up, up] = none → ∀ H', BitsAt C H' b rp k → Fr1 H H' b → E (.ref CN) none H')
/-- two of a kind that are the same -/
def spSame : Sp := fun vs H Q _ => ∃ x : V, vs = [x, x] ∧ ((∃ i, x = .int i) ∨ (∃ k, x = .bl k) ∨ ∃ z, x = .str z) ∧ Q (.bl true) H
def spDraw (K : PySem.W.Frag) : Sp := fun vs H Q _ => ∃ (sp tp : Addr) (ns : List Int) (xs : List V) (many : Int), vs = [.ref sp, .ref tp, .int many] ∧ Scr K H sp ns ∧ H tp = some (.lst xs) ∧ xs.length < 1000000 ∧ 1 ≤ many ∧
  ∀ v, 0 ≤ v → v < many → Q (.int v) (upd H tp (.lst (xs ++ [.int 0])))
def spOne (K : PySem.W.Frag) : Sp := fun vs H Q _ => ∃ (sp tp lp : Addr) (ns : List Int) (xs : List V) (ms : List Int), vs = [.ref sp, .ref tp, .ref lp] ∧ Scr K H sp ns ∧ H tp = some (.lst xs) ∧ xs.length < 1000000 ∧ lp ≠ tp ∧ H lp = some (.lst (ms.map V.int)) ∧ 1 ≤ ms.length ∧
  ∀ v, v ∈ ms → Q (.int v) (upd H tp (.lst (xs ++ [.int 0])))
/-- a row of at most so many bits -/
def spBits (K : PySem.W.Frag) : Sp := fun vs H Q _ => ∃ (sp tp : Addr) (ns : List Int) (xs : List V), vs = [.ref sp, .ref tp, .int 60] ∧ Scr K H sp ns ∧ H tp = some (.lst xs) ∧ xs.length + 100 < 1000000 ∧
  ∀ H' rp row xs', H rp = none → RowAt H' rp row → H' tp = some (.lst xs') → xs'.length ≤ xs.length + 61 → Fr1 H H' tp → Q (.ref rp) H'
def spWeights (K : PySem.W.Frag) : Sp := fun vs H Q _ => ∃ (sp tp : Addr) (ns : List Int) (xs : List V), vs = [.ref sp, .ref tp] ∧ Scr K H sp ns ∧ H tp = some (.lst xs) ∧ xs.length + 100 < 1000000 ∧
  ∀ H' wp ws xs', H wp = none → TupF H' wp (ws.map V.int) → WOk ws → H' tp = some (.lst xs') → xs'.length ≤ xs.length + 11 → Fr1 H H' tp → Q (.ref wp) H'
def spLPick : Sp := fun vs H Q _ => ∃ (rp wp : Addr) (row : List Int) (k : Nat) (ws : List Int), vs = [.ref rp, .int (k : Int), .ref wp] ∧ RowAt H rp row ∧ k ≤ row.length ∧ TupF H wp (ws.map V.int) ∧ WOk ws ∧
  (∀ n k', pickF row k ws = some (n, k') → ∀ H' p, Same H H' → H' p = some (.tup [.int n, .int (k' : Int)]) → Q (.ref p) H') ∧
  (pickF row k ws = none → ∀ H' p, Same H H' → H' p = some (.tup [.str "NoBits", .non]) → Q (.ref p) H')
/-- what is told of a draw: a pick by the weights at wp, or a coin by the part -/
def spTold (C : Addr) : Sp := fun vs H Q _ => ∃ (b rp wp : Addr) (row : List Int) (k : Nat) (ws : List Int) (part : V), vs = [.ref b, .ref wp, part] ∧ BitsAt C H b rp k ∧ RowAt H rp row ∧ k ≤ row.length ∧
  ((part = .non ∧ TupF H wp (ws.map V.int) ∧ WOk ws ∧ (∀ n k', pickF row k ws = some (n, k') → ∀ H', BitsAt C H' b rp k' → Fr1 H H' b → Q (.int n) H')) ∨
    (∃ (pp : Addr) (up lo : Int), part = .ref pp ∧ H pp = some (.tup [.int up, .int lo]) ∧ 0 ≤ up ∧ up ≤ lo ∧ 1 ≤ lo ∧ lo ≤ 1000 ∧ ws = [lo - up, up] ∧ (∀ n k', pickF row k ws = some (n, k') → ∀ H', BitsAt C H' b rp k' → Fr1 H H' b → Q (.bl (decide (n = 1))) H'))) ∧
  (pickF row k ws = none → ∀ H', BitsAt C H' b rp k → Fr1 H H' b → Q (.str "NoBits") H')
def spLaw (K : PySem.W.Frag) : Sp := fun vs H Q _ => ∃ (sp : Addr) (ns : List Int), vs = [.ref sp] ∧ Scr K H sp ns ∧ ∀ H', Q (.bl true) H'

/-! ### what the walk asks of the classes and names, as the top has made them -/
structure Txt (K : PySem.W.Frag) (mg : Str → Option Value) (C CN : Addr) : Prop where
  cl : Cls K C
  nR : NoAttr K C "row"
  nA : NoAttr K C "at"
  mgC : mg "Bits" = some (.ref C)
  gN : mg "NoBits" = some (.ref CN)
  xN : PySem.W.excIn K CN [.type "ValueError", .type "Exception", .type "BaseException", .type "object"] "ValueError.__new__" = true
  kN : PySem.W.keepIn K (.ref CN) = true
  bN : PySem.W.subIn K (.ref CN) (.type "BaseException") = some true
  tN : PySem.W.typeIn K (.ref CN) = some (.type "type")
  eN : PySem.W.exmOne K (.ref CN) (.ref CN) = some true
  len : mg "len" = none
  sum : mg "sum" = none
  list : mg "list" = none
  tuple : mg "tuple" = none
  int : mg "int" = none
  range : mg "range" = none
  enum : mg "enumerate" = none
  isi : mg "isinstance" = none
  bool : mg "bool" = none
  str : mg "str" = none
end K10
/-! the methods of Bits -/
namespace K10
open PySem PySem.Spec PyProof.Rows L2 L2H R1 M2
section
variable {P : Program} {w : World} {K : PySem.W.Frag} {mg : Str → Option Value} {base : Heap} {C CN : Addr}
theorem scI : FnScope ["self", "row"] ["self", "row"] (defScope sInit) := ⟨rfl, rfl, rfl, by decide +kernel, rfl, by decide +kernel, by decide +kernel⟩
theorem ok_init {f : Addr} {fd : FuncData} (F : Fun K "__init__" "Bits.__init__" sInit f fd) (T : Txt K mg C CN) : FnOk P w K mg base CX0 1 f fd ["self", "row"] (spInit C) := by
  refine F.ok scI (fun vs H Q E h => ?_) (fun cdv A outer s H vs Q E hr h => ?_)
  · obtain ⟨b, rp, dx, rfl, _⟩ := h
    rfl
  · obtain ⟨b, rp, dx, rfl, hb, k⟩ := h
    refine ⟨_, pss_cons (ps_fld (pv 0) (pv 1) rfl) (pss_one (ps_fld (pv 0) pe_int rfl)), ?_⟩
    refine ⟨_, rfl, _, rfl, b, C, dx, [], rfl, hb, T.cl, T.nR, (by show 0 < 1000; decide), _, rfl, b, C, dx, _, rfl, upd_same, T.cl, T.nA, (by show 1 < 1000; decide), ?_⟩
    refine k _ ⟨dx, upd_same⟩ fun c o e n => ?_
    rw [upd_ne n, upd_ne n]
    exact e
theorem scU : FnScope ["self"] ["self"] (defScope sUsed) := ⟨rfl, rfl, rfl, by decide +kernel, rfl, by decide +kernel, by decide +kernel⟩
theorem ok_used {f : Addr} {fd : FuncData} (F : Fun K "used" "Bits.used" sUsed f fd) (T : Txt K mg C CN) : FnOk P w K mg base CX0 1 f fd ["self"] (spUsed C) := by
  refine F.ok scU (fun vs H Q E h => ?_) (fun cdv A outer s H vs Q E hr h => ?_)
  · obtain ⟨b, rp, k, rfl, _⟩ := h
    rfl
  · obtain ⟨b, rp, k, rfl, ⟨dx, hb⟩, q⟩ := h
    refine ⟨_, pss_one (ps_ret (pe_fld (pv 0) rfl)), ?_⟩
    exact ⟨_, rfl, b, C, dx, _, _, rfl, hb, T.cl, T.nA, flds_at _ _, q⟩
theorem scT : FnScope ["self"] ["self"] (defScope sTake) := ⟨rfl, rfl, rfl, by decide +kernel, rfl, by decide +kernel, by decide +kernel⟩
theorem ok_take {f : Addr} {fd : FuncData} (F : Fun K "take" "Bits.take" sTake f fd) (T : Txt K mg C CN) : FnOk P w K mg base (L2N.CX P w) 1 f fd ["self"] (spTake C CN) := by
  refine okN F scT (fun vs H Q E h => ?_) (fun cdv A outer s H vs Q E hr h => ?_)
  · obtain ⟨b, rp, row, k, rfl, _⟩ := h
    rfl
  · obtain ⟨b, rp, row, k, rfl, ⟨dx, hb⟩, hr0, kq, ke⟩ := h
    refine ⟨_, pss_cons (ps_if (pt_cmpR op_ge (pe_fld (pv 0) rfl) (pe_callB call_len (by rfl) T.len PySem.boot_len (pa_cons (pe_fld (pv 0) rfl) pa_nil)) (nomark _))
        (pss_one (L2N.ps_raise rfl (L2N.takes_of rfl rfl rfl rfl) (pmk_own0 PySem.F.excBase_ValueError T.xN T.gN T.kN (raises_own T.bN T.tN) (by rfl)))) pss_nil)
      (pss_cons (ps_fld (pv 0) (pe_op op_add (pe_fld (pv 0) rfl) pe_int) rfl)
      (pss_one (ps_ret (pe_ix ix_tup (pe_fld (pv 0) rfl) (pe_op op_sub (pe_fld (pv 0) rfl) pe_int) (fun _ _ => rfl))))), ?_⟩
    refine ⟨_, rfl, b, C, dx, _, _, rfl, hb, T.cl, T.nA, flds_at _ _, _, rfl, b, C, dx, _, _, rfl, hb, T.cl, T.nR, flds_row _ _, _, _, rfl, .inr ⟨_, hr0.sq, rfl⟩, _, _, rfl, rfl, _, rfl, ?_⟩
    refine ite2 (fun c => ?_) (fun c => ?_)
    · have c' := of_decide_eq_true c
      refine ke ?_
      rw [List.length_map] at c'
      omega
    · have c' : k < row.length := by
        have z : ¬ ((row.map V.int).length : Int) ≤ (k : Int) := fun z => c (decide_eq_true z)
        rw [List.length_map] at z
        omega
      have hx : row[k]? = some row[k] := List.getElem?_eq_getElem c'
      have hb' : upd H b (.ins C dx (putF "at" (.int ((k : Int) + 1)) (flds rp (k : Int)))) b = some (.ins C dx (flds rp ((k + 1 : Nat) : Int))) := by
        rw [upd_same, flds_put]
        rfl
      have hr1 : RowAt (upd H b (.ins C dx (putF "at" (.int ((k : Int) + 1)) (flds rp (k : Int))))) rp row := hr0.keep fun o e => by
        rw [upd_ne (fun z => by rw [z, hb] at e; have q := hr0.at_; rw [z, hb] at q; cases q)]
        exact e
      refine ⟨_, rfl, b, C, dx, _, _, rfl, hb, T.cl, T.nA, flds_at _ _, _, _, rfl, rfl, _, rfl, b, C, dx, _, rfl, hb, T.cl, T.nA, flds_few _ _, ?_⟩
      refine ⟨_, rfl, b, C, dx, _, _, rfl, hb', T.cl, T.nR, flds_row _ _, _, rfl, b, C, dx, _, _, rfl, hb', T.cl, T.nA, flds_at _ _, _, _, rfl, rfl, rp, row.map V.int, (k : Int), .int row[k], rfl, ?_, hr1.sq, atI_nat ?_, ?_⟩
      · exact congrArg V.int (by omega : ((k + 1 : Nat) : Int) - 1 = (k : Int))
      · rw [List.getElem?_map, hx]
        rfl
      · exact kq _ hx _ ⟨dx, hb'⟩ Fr1.upd
theorem scB : FnScope ["self", "many"] ["self", "many"] (defScope sBack) := ⟨rfl, rfl, rfl, by decide +kernel, rfl, by decide +kernel, by decide +kernel⟩
/-- within an except suite -/
theorem ok_back {f : Addr} {fd : FuncData} (F : Fun K "go_back" "Bits.go_back" sBack f fd) (T : Txt K mg C CN) : FnH P w K mg base CX0 1 f fd ["self", "many"] (spBack C) := by
  refine okH F scB (fun vs H Q E h => ?_) (fun cdv A outer s H vs Q E p hr h => ?_)
  · obtain ⟨b, rp, k, m, rfl, _⟩ := h
    rfl
  · obtain ⟨b, rp, k, m, rfl, ⟨dx, hb⟩, hm, kq⟩ := h
    refine ⟨_, pss_cons (ps_if (pt_not (pt_chain op_le op_le pe_int (pv 1) (pe_fld (pv 0) rfl))) pss_never pss_nil)
      (pss_one (ps_fld (pv 0) (pv 1) rfl)), ?_⟩
    have c1 : (0 : Int) ≤ (m : Int) := by omega
    have c2 : (m : Int) ≤ (k : Int) := by omega
    refine ⟨_, rfl, _, _, rfl, rfl, _, rfl, ?_⟩
    rw [decide_eq_true c1]
    refine iteT ?_
    refine ⟨_, rfl, b, C, dx, _, _, rfl, hb, T.cl, T.nA, flds_at _ _, _, _, rfl, rfl, _, rfl, ?_⟩
    rw [decide_eq_true c2]
    refine iteF ?_
    refine ⟨_, rfl, _, rfl, b, C, dx, _, rfl, hb, T.cl, T.nA, flds_few _ _, ?_⟩
    refine kq _ ⟨dx, ?_⟩ Fr1.upd
    rw [upd_same, flds_put]
end
end K10
/-! pick_from -/
namespace K10
open PySem PySem.Spec PyProof.Rows L2 L2H R1 M2
theorem inV_int (x : Int) : ∀ ws : List Int, inV (.int x) (ws.map V.int) = decide (x ∈ ws)
  | [] => rfl
  | a :: r => by
    have ih := inV_int x r
    unfold inV at ih ⊢
    rw [List.map_cons, List.any_cons, ih]
    show ((a == x) || decide (x ∈ r)) = decide (x ∈ a :: r)
    by_cases e : a = x
    · subst e
      simp
    · have e2 : (a == x) = false := by simpa using e
      have e3 : ¬ (x = a) := fun z => e z.symm
      rw [e2]
      simp [e3]
theorem flat_ints (ws : List Int) : (ws.map V.int).all flatV = true := by
  rw [List.all_map]
  exact List.all_eq_true.mpr (fun _ _ => rfl)
theorem map_int_at {l : List Int} {i : Nat} {y : V} (h : (l.map V.int)[i]? = some y) : ∃ z, l[i]? = some z ∧ y = V.int z := by
  rw [List.getElem?_map] at h
  cases e : l[i]? with
  | none =>
    rw [e] at h
    cases h
  | some z =>
    rw [e] at h
    exact ⟨z, rfl, (Option.some.inj h).symm⟩
theorem same_upd {H H1 : Hp} {D : Addr} {o : HO} (h : Same H H1) (hD : H D = none) : Same H (upd H1 D o) := fun c u e => by
  rw [upd_ne (ne_of_none e hD)]
  exact h c u e
theorem tYes_if {σ : L2.St} {H : Hp} {U W : Hp → Prop} (h : U H) : tYes σ H (fun b H3 => if b = true then U H3 else W H3) := iteT (B := W H) h
/-- the loop's word: j bits are taken -/
def WF (C : Addr) (H : Hp) (b wp rp : Addr) (row : List Int) (k : Nat) (ws : List Int) (m : Nat) (σ : L2.St) (H' : Hp) : Prop :=
  ∃ (j : Nat) (place size : Int) (lp : Addr) (e : Option V), m = row.length - j ∧ σ = [some (.ref b), some (.ref wp), some (.int ws.sum), some (.ref lp), some (.int place), e, none, none] ∧
    BitsAt C H' b rp j ∧ k ≤ j ∧ j ≤ row.length ∧ Fr1 H H' b ∧ H' lp = some (.lst ((rests ws ws.sum size).map V.int)) ∧ 0 ≤ place ∧ pickF row k ws = go ws ws.sum (row.drop j) j place size
section
variable {P : Program} {w : World} {K : PySem.W.Frag} {mg : Str → Option Value} {base : Heap} {C CN fT : Addr} {fdT : FuncData}
abbrev nF : List Str := ["bits", "weights", "total", "left", "place", "ends", "number", "weight"]
theorem scF : FnScope nF ["bits", "weights"] (defScope sFrom) := ⟨rfl, rfl, rfl, by decide +kernel, rfl, by decide +kernel, by decide +kernel⟩
set_option maxHeartbeats 8000000 in
theorem ok_from {f : Addr} {fd : FuncData} (F : Fun K "pick_from" "pick_from" sFrom f fd) (T : Txt K mg C CN) (FT : Fun K "take" "Bits.take" sTake fT fdT) (mT : Meth K C "take" fT) (bT : Binds K fdT ["self"] []) :
    FnOk P w K mg base (L2N.CX P w) 2 f fd ["bits", "weights"] (spFrom C CN) := by
  have GT : FnOk P w K mg base (L2N.CX P w) 1 fT fdT ["self"] (spTake C CN) := ok_take FT T
  refine okN F scF (fun vs H Q E h => ?_) (fun cdv A outer s H vs Q E hr h => ?_)
  · obtain ⟨b, rp, wp, row, k, ws, rfl, _⟩ := h
    rfl
  · obtain ⟨b, rp, wp, row, k, ws, rfl, hB, hR, hk, hT, hW, kq, ke⟩ := h
    have hr1 : Room 1 _ := hr.mono (by decide)
    refine ⟨_, pss_cons (ps_set (i := 2) scF.nd rfl (Or.inr rfl) (pe_callB (cr_sumT rfl) (by rfl) T.sum PyProof.Rows.boot_sum (pa_cons (pv 1) pa_nil)))
      (pss_cons (ps_if (pt_cmpR op_in_seq (pv 2) (pv 1) (by rfl))
        (pss_one (ps_ret (pe_bmT PySem.F.plainAttrs_tuple PySem.F.slot_tuple_index PySem.F.type_tuple_index mt_tup_ix (pv 1) (pv 2)))) pss_nil)
      (pss_cons (ps_set (i := 3) scF.nd rfl (Or.inl rfl) (pe_callTy call_list_of (by rfl) T.list (by decide +kernel) (pa_cons (pv 1) pa_nil)))
      (pss_cons (ps_set (i := 4) scF.nd rfl (Or.inl rfl) pe_int)
      (pss_one (ps_while PassesOwn.leaving (pt_val pe_bl)
        (pss_cons (ps_set (i := 4) scF.nd rfl (Or.inl rfl) (pe_op op_add (pe_op op_mul (pv 4) pe_int) (pe_meth0 (pv 0) T.cl mT GT hr1 bT .nil (L2N.passes_call (L2N.takes_of rfl rfl rfl rfl) (fun _ _ _ _ h => h)))))
        (pss_cons (ps_setLc (i := 5) (own := [("number", 6), ("weight", 7)]) (g := gTup K 2 (gCons (gName 6) (gCons (gName 7) gNil))) rfl scF.nd rfl rfl (sw_true rfl rfl rfl (by decide +kernel)) (pi_enum (by rfl) T.enum (pa_cons (pv 3) pa_nil))
          (blkOk_by (own := [("number", 6), ("weight", 7)]) (N := nF) (sc := defScope sFrom) (by decide +kernel))
          (fun _ _ _ _ _ => pg_tup rfl (pgs_cons (pg_name (i := 6) scF.nd rfl (Or.inl rfl)) (pgs_cons (pg_name (i := 7) scF.nd rfl (Or.inl rfl)) pgs_nil)))
          (fun _ _ _ _ _ => pts_one (pt_cmpR op_ge (pe_op op_mul (pv 7) pe_int) (pv 2) (nomark _)))
          (fun _ _ _ _ _ => pv 6))
        (pss_cons (ps_if (pt_cmpR op_lt (pv 4) (pe_callB call_len (by rfl) T.len PySem.boot_len (pa_cons (pv 5) pa_nil)) (nomark _)) (pss_one (ps_ret (pe_ix ix_list (pv 5) (pv 4) (fun _ _ => rfl)))) pss_nil)
        (pss_cons (ps_set (i := 4) scF.nd rfl (Or.inl rfl) (pe_op op_sub (pv 4) (pe_callB call_len (by rfl) T.len PySem.boot_len (pa_cons (pv 5) pa_nil))))
        (pss_one (ps_setLc (i := 3) (own := [("weight", 7)]) (g := gName 7) (tt := tYes) rfl scF.nd rfl rfl (sw_true rfl rfl rfl (by decide +kernel)) (pi_list (pv 3))
          (blkOk_by (own := [("weight", 7)]) (N := nF) (sc := defScope sFrom) (by decide +kernel))
          (fun _ _ _ _ _ => pg_name (i := 7) scF.nd rfl (Or.inl rfl))
          (fun _ _ _ _ _ => pts_nil)
          (fun _ _ _ _ _ => pe_op op_mod (pe_op op_mul (pv 7) pe_int) (pv 2))))))))))))), ?_⟩
    refine ⟨_, rfl, wp, ws, rfl, hT.sq, ?_⟩
    refine ⟨_, rfl, _, rfl, wp, ws.map V.int, rfl, .inr hT.sq, rfl, flat_ints ws, _, rfl, ?_⟩
    show if (inV (.int ws.sum) (ws.map V.int)) = true then _ else _
    rw [inV_int]
    by_cases hm : ws.sum ∈ ws
    · rw [decide_eq_true hm]
      refine iteT ?_
      refine ⟨_, rfl, ⟨wp, _, rfl, hT⟩, _, rfl, wp, ws, ws.sum, rfl, rfl, hT.sq, hm, ?_⟩
      exact kq _ k (by unfold pickF; rw [if_pos hm]) H hB (Fr1.refl _ _)
    rw [decide_eq_false hm]
    refine iteF ?_
    refine ⟨_, rfl, wp, _, rfl, .inr hT.sq, fun l hl => ?_⟩
    have hp0 : pickF row k ws = go ws ws.sum (row.drop k) k 0 1 := by
      unfold pickF
      rw [if_neg hm]
    have hrest0 : rests ws ws.sum 1 = ws := rests_one (below hW.nn hm)
    refine ⟨WF C H b wp rp row k ws, ⟨_, k, 0, 1, l, none, rfl, rfl, ?_, Nat.le_refl _, hk, ?_, ?_, Int.le_refl _, hp0⟩, ?_⟩
    · exact hB.keep fun o e => by rw [upd_ne (ne_of_none e hl)]; exact e
    · exact (Fr1.refl H b).new' hl
    · rw [upd_same, hrest0]
    rintro m σ H1 ⟨j, place, size, lp, e, rfl, rfl, hB1, hkj, hj, hF1, hL1, hp1, hg1⟩
    refine ⟨true, rfl, ?_⟩
    refine iteT ?_
    refine ⟨fun σ' H' => ∃ m', m' < row.length - j ∧ WF C H b wp rp row k ws m' σ' H', fun _ _ z => z, ?_⟩
    have hR1 : RowAt H1 rp row := hR.keep fun o e => hF1 rp o e fun z => by
      have q := hR.at_
      obtain ⟨dx, hb⟩ := hB
      rw [z, hb] at q
      cases q
    obtain ⟨dx1, hb1⟩ := id hB1
    -- the next bit
    refine ⟨_, rfl, _, _, rfl, rfl, .inr ⟨by decide, by decide⟩, _, rfl, b, dx1, _, rfl, hb1, flds_no _ _ (by decide +kernel) (by decide +kernel), b, rp, row, j, rfl, hB1, hR1, fun x hx H2 hB2 hF2 => ?_,
      fun hle => ke (by rw [hg1, go_nil _ _ _ _ _ _ hle]) H1 j hkj hB1 hF1⟩
    have hjl : j < row.length := (List.getElem?_eq_some_iff.mp hx).1
    have hx01 : x = 0 ∨ x = 1 := hR.bit x (List.mem_of_getElem? hx)
    rw [go_step ws ws.sum row j place size x hx] at hg1
    have hF2' : Fr1 H H2 b := hF1.trans hF2
    have hL2 : H2 lp = some (.lst ((rests ws ws.sum size).map V.int)) := hF2 lp _ hL1 fun z => by
      rw [z, hb1] at hL1
      cases hL1
    have hlen : (rests ws ws.sum size).length ≤ 10 := by
      unfold rests
      rw [List.length_map]
      exact hW.few
    refine ⟨_, _, rfl, rfl, ?_⟩
    -- the ends at this depth
    refine ⟨_, rfl, lp, _, rfl, SqL.of hL2, fun D hD => ?_⟩
    refine lc_it walk_enum (fun i H' => Same H2 H' ∧ H' D = some (.lst ((idxs (isBig ws.sum) ((rests ws ws.sum size).take i) 0).map V.int))) ⟨same_new hD, upd_same⟩ (fun i H' hi p => SqL.of (p.1 _ _ hL2)) ?_ ?_
    · rintro i v H3 H4 hi ⟨hS3, hD3⟩ ⟨Tp, x1, y1, rfl, hTn, rfl, e1, e2⟩
      cases Option.some.inj e1
      obtain ⟨r, hr2, rfl⟩ := map_int_at e2
      have hD4 : upd H3 Tp (.tup [.int (i : Nat), .int r]) D = some (.lst ((idxs (isBig ws.sum) ((rests ws ws.sum size).take i) 0).map V.int)) := by
        rw [upd_ne (ne_of_none hD3 hTn)]
        exact hD3
      have hS4 : Same H2 (upd H3 Tp (.tup [.int (i : Nat), .int r])) := hS3.trans (same_new hTn)
      refine ⟨Tp, _, rfl, SqT.of upd_same, rfl, _, _, rfl, _, _, rfl, rfl, rfl, ?_⟩
      refine ⟨_, rfl, _, _, rfl, rfl, .inr ⟨by decide, by decide⟩, _, rfl, _, _, rfl, rfl, _, rfl, ?_⟩
      have hmore := idxs_more (isBig ws.sum) hr2
      refine ite2 (fun c => ?_) (fun c => ?_)
      · have c2 : isBig ws.sum r = true := c
        rw [if_pos c2] at hmore
        refine ⟨_, rfl, _, hD4, ?_, same_upd hS4 hD, ?_⟩
        · rw [List.length_map]
          have z := idxs_len (isBig ws.sum) ((rests ws ws.sum size).take i) 0
          rw [List.length_take] at z
          exact small1000 (by omega)
        · rw [upd_same, hmore, List.map_append]
          rfl
      · have c2 : ¬ isBig ws.sum r = true := c
        rw [if_neg c2, List.append_nil] at hmore
        refine ⟨hS4, ?_⟩
        rw [hmore]
        exact hD4
    · rintro H3 ⟨hS3, hD3⟩
      rw [List.length_map, List.take_length, ends_rests hW.pos] at hD3
      -- an end is met, or not
      refine ⟨_, rfl, _, rfl, _, _, rfl, .inl ⟨_, SqL.of hD3, rfl⟩, _, _, rfl, rfl, _, rfl, ?_⟩
      have hB3 : BitsAt C H3 b rp (j + 1) := hB2.keep fun o e => hS3 b o e
      have hF3 : Fr1 H H3 b := hF2'.trans (.of_same hS3)
      have hL3 := hS3 _ _ hL2
      rw [List.length_map]
      refine ite2 (fun c => ?_) (fun c => ?_)
      · have c2 := of_decide_eq_true c
        rw [if_pos c2] at hg1
        have hi : (place * 2 + x).toNat < (ends ws ws.sum (size * 2)).length := by omega
        have e0 : ((place * 2 + x).toNat : Int) = place * 2 + x := by omega
        refine ⟨_, rfl, _, rfl, D, _, _, .int ((ends ws ws.sum (size * 2)).getD (place * 2 + x).toNat 0), rfl, rfl, SqL.of hD3, ?_, ?_⟩
        · show atI _ (place * 2 + x) = _
          rw [← e0]
          refine atI_nat ?_
          rw [List.getElem?_map, Int.toNat_natCast, List.getElem?_eq_getElem hi, List.getD_eq_getElem?_getD, List.getElem?_eq_getElem hi]
          rfl
        · exact kq _ _ hg1 H3 hB3 hF3
      · have c2 : ¬ (place * 2 + x < ((ends ws ws.sum (size * 2)).length : Int)) := fun z => c (decide_eq_true z)
        rw [if_neg c2] at hg1
        -- the place among the others
        refine ⟨_, rfl, _, rfl, _, _, rfl, .inl ⟨_, SqL.of hD3, rfl⟩, _, _, rfl, rfl, ?_⟩
        -- the rests doubled
        refine ⟨_, rfl, lp, rfl, ⟨_, SqL.of hL3⟩, fun D2 hD2 => ?_⟩
        refine lc_list (K := K) (a := lp) (xs := (rests ws ws.sum size).map V.int) (fun i H' => Same H3 H' ∧ H' D2 = some (.lst ((((rests ws ws.sum size).take i).map (fun r => r * 2 % ws.sum)).map V.int))) ⟨same_new hD2, upd_same⟩ (fun i H' hi p => SqL.of (p.1 _ _ hL3)) ?_ ?_
        · rintro i y H4 hi ⟨hS4, hD4⟩
          obtain ⟨r, hr2, rfl⟩ := map_int_at hi
          refine ⟨rfl, ?_⟩
          refine tYes_if ?_
          refine ⟨_, rfl, _, _, rfl, rfl, .inr ⟨by decide, by decide⟩, _, rfl, _, _, rfl, rfl, hW.pos, _, hD4, ?_, same_upd hS4 hD2, ?_⟩
          · rw [List.length_map, List.length_map, List.length_take]
            exact small1000 (by omega)
          · rw [upd_same, take_more hr2, List.map_append, List.map_append]
            rfl
        · rintro H4 ⟨hS4, hD4⟩
          rw [List.length_map, List.take_length, rests_next] at hD4
          refine ⟨row.length - (j + 1), by omega, j + 1, _, size * 2, D2, some (.ref D), rfl, rfl, hB3.keep fun o e => hS4 b o e, by omega, by omega, hF3.trans (.of_same hS4), hD4, ?_, ?_⟩
          · rw [List.length_map]
            omega
          · rw [List.length_map]
            exact hg1
end
end K10
/-! pick and coin -/
namespace K10
open PySem PySem.Spec PyProof.Rows L2 L2H R1 M2
theorem passH0 {X : Cx} (σ : L2.St) : PassesAt CX0 X σ E0 := fun _ _ _ _ _ _ h => h.elim
section
variable {P : Program} {w : World} {K : PySem.W.Frag} {mg : Str → Option Value} {base : Heap} {C CN fT fU fB fF fP : Addr} {fdT fdU fdB fdF fdP : FuncData}
theorem scP : FnScope ["bits", "weights", "mark"] ["bits", "weights"] (defScope sPick) := ⟨rfl, rfl, rfl, by decide +kernel, rfl, by decide +kernel, by decide +kernel⟩
theorem ok_pick {f : Addr} {fd : FuncData} (F : Fun K "pick" "pick" sPick f fd) (T : Txt K mg C CN) (FT : Fun K "take" "Bits.take" sTake fT fdT) (mT : Meth K C "take" fT) (bT : Binds K fdT ["self"] [])
    (FU : Fun K "used" "Bits.used" sUsed fU fdU) (mU : Meth K C "used" fU) (bU : Binds K fdU ["self"] []) (FB : Fun K "go_back" "Bits.go_back" sBack fB fdB) (mB : Meth K C "go_back" fB) (bB : Binds K fdB ["self", "many"] [])
    (FF : Fun K "pick_from" "pick_from" sFrom fF fdF) (gF : mg "pick_from" = some (.ref fF)) (bF : Binds K fdF ["bits", "weights"] []) :
    FnOk P w K mg base (L2.CX P w) 3 f fd ["bits", "weights"] (spPick C CN) := by
  have GF : FnOk P w K mg base (L2N.CX P w) 2 fF fdF ["bits", "weights"] (spFrom C CN) := ok_from FF T FT mT bT
  have GU : FnOk P w K mg base CX0 1 fU fdU ["self"] (spUsed C) := ok_used FU T
  have GB : FnH P w K mg base CX0 1 fB fdB ["self", "many"] (spBack C) := ok_back FB T
  refine F.okX scP (fun vs H Q E h => ?_) (fun cdv A outer s H vs Q E hr h => ?_)
  · obtain ⟨b, rp, wp, row, k, ws, rfl, _⟩ := h
    rfl
  · obtain ⟨b, rp, wp, row, k, ws, rfl, hB, hR, hk, hT, hW, kq, ke⟩ := h
    have hr1 : Room 1 _ := hr.mono (by decide)
    have hr2 : Room 2 _ := hr
    refine ⟨_, pss_cons (ps_set (i := 2) scP.nd rfl (Or.inl rfl) (pe_meth0 (pv 0) T.cl mU GU hr1 bU .nil pass0))
      (pss_one (ps_try_onlyX (tb := fun W => tRet (tCallS (spFrom C CN) (WE W) (tCons (tVar 0) (tCons (tVar 1) tNil))))
        (ts := fun a cls d => tSeq (tDrop (tMethH C "go_back" (spBack C) (fun _ => E0) (tVar 0) (tCons (tVar 2) tNil))) (fun _ σ H => E (.ref CN) none H)) (Wout := fun cls d _ H => E cls d H)
        rfl rfl ⟨rfl, by decide, .inl T.gN⟩ (passesAt_of rfl) (L2.takes_of rfl rfl rfl rfl)
        (fun W pn xe tk tk2 po => pss_one (ps_ret (by exact (pe_callS GF hr2 rfl gF FF.kp bF (fun σ => L2N.passAt tk σ) (by exact (pa_cons (pv 0) (pa_cons (pv 1) pa_nil)))))))
        (fun a oe cls d pn hz hf tkS hot => pss_cons (ps_expr (by exact (pe_methH (pv 0) T.cl mB GB ⟨hr1.dp, hr1.un⟩ hot bB passH0 (by exact (pa_cons (pv 2) pa_nil)))))
          (pss_one (by exact (L2H.ps_raiseH hot tkS (pmk_own0 PySem.F.excBase_ValueError T.xN T.gN T.kN (raises_own T.bN T.tN) (by rfl)))))))), ?_⟩
    obtain ⟨dx, hb⟩ := id hB
    refine ⟨_, rfl, b, dx, _, rfl, hb, flds_no _ _ (by decide +kernel) (by decide +kernel), b, rp, k, rfl, hB, ?_⟩
    refine ⟨_, rfl, _, rfl, b, rp, wp, row, k, ws, rfl, hB, hR, hk, hT, hW, kq, fun e H1 k1 hk1 hB1 hF1 => ⟨true, T.eN, fun _ a ha => ?_, fun z => Bool.noConfusion z⟩⟩
    obtain ⟨dx1, hb1⟩ := id hB1
    refine ⟨_, rfl, b, dx1, _, rfl, hb1, flds_no _ _ (by decide +kernel) (by decide +kernel), _, rfl, b, rp, k1, k, rfl, hB1, hk1, fun H2 hB2 hF2 => ?_⟩
    exact ke e H2 hB2 (hF1.trans hF2)
theorem scC : FnScope ["bits", "upper", "lower"] ["bits", "upper", "lower"] (defScope sCoin) := ⟨rfl, rfl, rfl, by decide +kernel, rfl, by decide +kernel, by decide +kernel⟩
theorem ok_coin {f : Addr} {fd : FuncData} (F : Fun K "coin" "coin" sCoin f fd) (FP : Fun K "pick" "pick" sPick fP fdP) (GP : FnOk P w K mg base (L2.CX P w) 3 fP fdP ["bits", "weights"] (spPick C CN)) (gP : mg "pick" = some (.ref fP)) (bP : Binds K fdP ["bits", "weights"] []) :
    FnOk P w K mg base (L2.CX P w) 4 f fd ["bits", "upper", "lower"] (spCoin C CN) := by
  refine F.okX scC (fun vs H Q E h => ?_) (fun cdv A outer s H vs Q E hr h => ?_)
  · obtain ⟨b, rp, row, k, up, lo, rfl, _⟩ := h
    rfl
  · obtain ⟨b, rp, row, k, up, lo, rfl, hB, hR, hk, h0, h1, h2, h3, kq, ke⟩ := h
    have hr3 : Room 3 _ := hr
    refine ⟨_, pss_cons (ps_if (pt_cmpR op_in_seq (pv 1) (pe_tup (pa_cons pe_int (pa_cons (pv 2) pa_nil))) (by rfl)) (pss_one (ps_ret (pe_cmpR op_eq (pv 1) (pv 2) (nomark _)))) pss_nil)
      (pss_one (ps_ret (pe_cmpR op_eq (pe_call GP hr3 (by rfl) gP FP.kp bP .nil (L2.passes_call (L2.takes_of rfl rfl rfl rfl) (fun _ _ _ _ h => h)) (pa_cons (pv 0) (pa_cons (pe_tupF (pa_cons (pe_op op_sub (pv 2) (pv 1)) (pa_cons (pv 1) pa_nil))) pa_nil))) pe_int (nomark _)))), ?_⟩
    refine ⟨_, rfl, _, rfl, (by show 2 ≤ sizeLine; decide), fun p hp => ?_⟩
    have hS1 : Same H (upd H p (.tup [.int 0, .int lo])) := same_new hp
    have hB1 : BitsAt C (upd H p (.tup [.int 0, .int lo])) b rp k := hB.keep fun o e => hS1 b o e
    have hR1 : RowAt (upd H p (.tup [.int 0, .int lo])) rp row := hR.keep fun o e => hS1 rp o e
    refine ⟨p, _, rfl, .inr (SqT.of upd_same), rfl, rfl, _, rfl, ?_⟩
    show if (inV (.int up) (([0, lo] : List Int).map V.int)) = true then _ else _
    rw [inV_int]
    by_cases hm : up ∈ ([0, lo] : List Int)
    · rw [decide_eq_true hm]
      refine iteT ?_
      refine ⟨_, rfl, _, rfl, rfl, ?_⟩
      have hm2 : up = 0 ∨ up = lo := by simpa using hm
      by_cases hz : up = lo
      · subst hz
        have e := kq 1 k (coin_one h2) _ hB1 (.of_same hS1)
        have d1 : decide (V.int up = V.int up) = true := by simp
        rw [d1]
        exact e
      · have hz0 : up = 0 := by omega
        subst hz0
        have e := kq 0 k (coin_zero h2) _ hB1 (.of_same hS1)
        have d1 : decide (V.int 0 = V.int lo) = false := by
          refine decide_eq_false fun z => hz ?_
          exact V.int.inj z
        rw [d1]
        exact e
    · rw [decide_eq_false hm]
      refine iteF ?_
      have hn : ¬ (up = 0 ∨ up = lo) := by simpa using hm
      refine ⟨_, rfl, _, rfl, _, rfl, _, _, rfl, rfl, _, rfl, (by show 2 ≤ sizeLine; decide), fun q o hq ho1 ho2 => ?_⟩
      have hS2 := hS1.trans (same_new (o := .frz o (.tup [.int (lo - up), .int up])) hq)
      refine ⟨b, rp, q, row, k, [lo - up, up], rfl, hB.keep fun o e => hS2 b o e, hR.keep fun o e => hS2 rp o e, hk, ⟨o, ho1, ho2, upd_same⟩, ⟨?_, ?_, ?_⟩, fun n k' e H' hB' hF' => ?_, fun e H' hB' hF' => ?_⟩
      · intro w hw
        have z : w = lo - up ∨ w = up := by simpa using hw
        omega
      · show 0 < (lo - up) + (up + 0)
        omega
      · show 2 ≤ 10
        decide
      · refine ⟨rfl, ?_⟩
        have d1 : decide (V.int n = V.int 1) = decide (n = 1) := by simp
        rw [d1]
        exact kq n k' e H' hB' ((Fr1.of_same hS2).trans hF')
      · exact ke e H' hB' ((Fr1.of_same hS2).trans hF')
end
end K10
/-! the law's own helpers: same, draw, one -/
namespace K10
open PySem PySem.Spec PyProof.Rows L2 L2H R1 M2
section
variable {P : Program} {w : World} {K : PySem.W.Frag} {mg : Str → Option Value} {base : Heap} {C CN fD : Addr} {fdD : FuncData}
theorem scSm : FnScope ["_law_got", "_law_due", "_law_one_here", "_law_other"] ["_law_got", "_law_due"] (defScope sSame) := ⟨rfl, rfl, rfl, by decide +kernel, rfl, by decide +kernel, by decide +kernel⟩
theorem ok_same {f : Addr} {fd : FuncData} (F : Fun K "_law_same" "_law_same" sSame f fd) (T : Txt K mg C CN) : FnOk P w K mg base CX0 1 f fd ["_law_got", "_law_due"] spSame := by
  refine F.ok scSm (fun vs H Q E h => ?_) (fun cdv A outer s H vs Q E hr h => ?_)
  · obtain ⟨x, rfl, _⟩ := h
    rfl
  · obtain ⟨x, rfl, hx, q⟩ := h
    refine ⟨_, pss_cons (ps_if (pt_cmpR op_isN (pv 1) pe_non (nomark _)) pss_never pss_nil)
      (pss_cons (ps_if (pt_val (pe_callB call_isi (by rfl) T.isi PyProof.Rows.boot_isinstance (pa_cons (pv 1) (pa_cons (pe_bltn (v := .ty "bool") (by rfl) T.bool (by decide +kernel) rfl) pa_nil))))
        (pss_one (ps_ret (pe_and (pe_callB call_isi (by rfl) T.isi PyProof.Rows.boot_isinstance (pa_cons (pv 0) (pa_cons (pe_bltn (v := .ty "bool") (by rfl) T.bool (by decide +kernel) rfl) pa_nil))) (pe_one (pe_cmpR op_eq (pv 0) (pv 1) (nomark _)))))) pss_nil)
      (pss_cons (ps_if (pt_val (pe_callB call_isi (by rfl) T.isi PyProof.Rows.boot_isinstance (pa_cons (pv 1) (pa_cons (pe_bltn (v := .ty "tuple") (by rfl) T.tuple (by decide +kernel) rfl) pa_nil)))) pss_never pss_nil)
      (pss_cons (ps_if (pt_val (pe_callB call_isi (by rfl) T.isi PyProof.Rows.boot_isinstance (pa_cons (pv 1) (pa_cons (pe_bltn (v := .ty "str") (by rfl) T.str (by decide +kernel) rfl) pa_nil))))
        (pss_one (ps_ret (pe_and (pe_callB call_isi (by rfl) T.isi PyProof.Rows.boot_isinstance (pa_cons (pv 0) (pa_cons (pe_bltn (v := .ty "str") (by rfl) T.str (by decide +kernel) rfl) pa_nil))) (pe_one (pe_cmpR op_eq (pv 0) (pv 1) (nomark _)))))) pss_nil)
      (pss_one (ps_ret (pe_and (pe_callB call_isi (by rfl) T.isi PyProof.Rows.boot_isinstance (pa_cons (pv 0) (pa_cons (pe_bltn (v := .ty "int") (by rfl) T.int (by decide +kernel) rfl) pa_nil)))
        (pe_and (pe_not (pe_callB call_isi (by rfl) T.isi PyProof.Rows.boot_isinstance (pa_cons (pv 0) (pa_cons (pe_bltn (v := .ty "bool") (by rfl) T.bool (by decide +kernel) rfl) pa_nil)))) (pe_one (pe_cmpR op_eq (pv 0) (pv 1) (nomark _)))))))))), ?_⟩
    rcases hx with ⟨i, rfl⟩ | ⟨c, rfl⟩ | ⟨z, rfl⟩
    · refine ⟨_, rfl, rfl, _, rfl, ?_⟩
      refine iteF ?_
      refine ⟨_, rfl, _, _, _, _, false, rfl, .ty _, .base (.int i), kit_ty (by decide +kernel), _, rfl, ?_⟩
      refine iteF ?_
      refine ⟨_, rfl, _, _, _, _, false, rfl, .ty _, .base (.int i), kit_ty (by decide +kernel), _, rfl, ?_⟩
      refine iteF ?_
      refine ⟨_, rfl, _, _, _, _, false, rfl, .ty _, .base (.int i), kit_ty (by decide +kernel), _, rfl, ?_⟩
      refine iteF ?_
      refine ⟨_, rfl, _, _, _, _, true, rfl, .ty _, .base (.int i), kit_ty (by decide +kernel), _, rfl, ?_⟩
      refine iteT ?_
      refine ⟨_, rfl, _, _, _, _, false, rfl, .ty _, .base (.int i), kit_ty (by decide +kernel), _, rfl, _, rfl, ?_⟩
      refine iteT ?_
      refine ⟨_, rfl, _, rfl, rfl, ?_⟩
      rw [decide_eq_true rfl]
      exact q
    · refine ⟨_, rfl, rfl, _, rfl, ?_⟩
      refine iteF ?_
      refine ⟨_, rfl, _, _, _, _, true, rfl, .ty _, .base (.bl c), kit_ty (by decide +kernel), _, rfl, ?_⟩
      refine iteT ?_
      refine ⟨_, rfl, _, _, _, _, true, rfl, .ty _, .base (.bl c), kit_ty (by decide +kernel), _, rfl, ?_⟩
      refine iteT ?_
      refine ⟨_, rfl, _, rfl, rfl, ?_⟩
      rw [decide_eq_true rfl]
      exact q
    · refine ⟨_, rfl, rfl, _, rfl, ?_⟩
      refine iteF ?_
      refine ⟨_, rfl, _, _, _, _, false, rfl, .ty _, .base (.str z), kit_ty (by decide +kernel), _, rfl, ?_⟩
      refine iteF ?_
      refine ⟨_, rfl, _, _, _, _, false, rfl, .ty _, .base (.str z), kit_ty (by decide +kernel), _, rfl, ?_⟩
      refine iteF ?_
      refine ⟨_, rfl, _, _, _, _, true, rfl, .ty _, .base (.str z), kit_ty (by decide +kernel), _, rfl, ?_⟩
      refine iteT ?_
      refine ⟨_, rfl, _, _, _, _, true, rfl, .ty _, .base (.str z), kit_ty (by decide +kernel), _, rfl, ?_⟩
      refine iteT ?_
      refine ⟨_, rfl, _, rfl, rfl, ?_⟩
      rw [decide_eq_true rfl]
      exact q
theorem scD : FnScope ["_law_script", "_law_town", "_law_many", "_law_k", "_law_cell", "_law_number", "_law_more"] ["_law_script", "_law_town", "_law_many"] (defScope sDraw) := ⟨rfl, rfl, rfl, by decide +kernel, rfl, by decide +kernel, by decide +kernel⟩
theorem rest_small (x : Int) {m : Int} (h : 0 < m) (hm : m < 2 ^ 64) : -(2 ^ 64) < x % m ∧ x % m < 2 ^ 64 := by
  have h1 := Int.emod_nonneg x (Int.ne_of_gt h)
  have h2 := Int.emod_lt_of_pos x h
  omega
theorem ok_draw {f : Addr} {fd : FuncData} (F : Fun K "_law_draw" "_law_draw" sDraw f fd) (T : Txt K mg C CN) : FnOk P w K mg base CX0 1 f fd ["_law_script", "_law_town", "_law_many"] (spDraw K) := by
  refine F.ok scD (fun vs H Q E h => ?_) (fun cdv A outer s H vs Q E hr h => ?_)
  · obtain ⟨sp, tp, ns, xs, many, rfl, _⟩ := h
    rfl
  · obtain ⟨sp, tp, ns, xs, many, rfl, hS, ht, hx, hm, q⟩ := h
    refine ⟨_, pss_cons (ps_expr (pe_bm PySem.F.plainAttrs_list PySem.F.slot_list_append PySem.F.type_list_append mt_append (pv 1) (pa_cons pe_int pa_nil)))
      (pss_cons (ps_set (i := 3) scD.nd rfl (Or.inl rfl) (pe_callB call_len (by rfl) T.len PySem.boot_len (pa_cons (pv 1) pa_nil)))
      (pss_cons (ps_set (i := 4) scD.nd rfl (Or.inl rfl) pe_int)
      (pss_cons (ps_if (pt_truth (pv 0) (by intro _; rfl))
        (pss_one (ps_set (i := 4) scD.nd rfl (Or.inl rfl) (pe_ix ix_list (pv 0) (pe_op op_mod (pv 3) (pe_callB call_len (by rfl) T.len PySem.boot_len (pa_cons (pv 0) pa_nil))) (fun _ _ => rfl)))) pss_nil)
      (pss_cons (ps_set (i := 5) scD.nd rfl (Or.inl rfl) (pe_op op_mod (pe_op op_add (pv 4) (pe_op op_mul pe_int (pv 3))) pe_int))
      (pss_cons (ps_set (i := 5) scD.nd rfl (Or.inl rfl) (pe_op op_mod (pe_op op_mul (pe_op op_mod (pe_op op_mul (pv 5) (pv 5)) pe_int) pe_int) pe_int))
      (pss_cons (ps_set (i := 6) scD.nd rfl (Or.inl rfl) (pe_op op_mod (pe_op op_mul (pe_op op_mod (pe_op op_mul (pv 5) (pv 5)) pe_int) pe_int) pe_int))
      (pss_one (ps_ret (pe_op op_mod (pe_op op_add (pe_op op_mul (pe_op op_fdiv (pv 5) pe_int) pe_int) (pe_op op_fdiv (pv 6) pe_int)) (pv 2)))))))))), ?_⟩
    refine ⟨_, rfl, .inl ⟨rfl, _, SqL.of ht⟩, tp, _, _, rfl, rfl, ht, Nat.lt_of_lt_of_le hx (by decide), ?_⟩
    have ht1 : upd H tp (.lst (xs ++ [.int 0])) tp = some (.lst (xs ++ [.int 0])) := upd_same
    have hS1 : Scr K (upd H tp (.lst (xs ++ [.int 0]))) sp ns := hS.keep fun o u e => by
      rw [upd_ne (fun z => by rw [z, ht] at e; cases e)]
      exact e
    refine ⟨_, rfl, _, _, rfl, .inl ⟨_, SqL.of ht1, rfl⟩, ?_⟩
    refine ⟨_, rfl, _, .inl ⟨_, hS1.sq, rfl⟩, ?_⟩
    have p1 : (0 : Int) < 4294967291 := by decide
    have p2 : (0 : Int) < 4294967279 := by decide
    refine ite2 (fun c => ?_) (fun c => ?_)
    · have hne : 0 < (ns.map V.int).length := by
        cases ns with
        | nil => cases c
        | cons a r => exact Nat.succ_pos _
      have hk := Int.emod_nonneg (((xs ++ [V.int 0]).length : Nat) : Int) (show (((ns.map V.int).length : Nat) : Int) ≠ 0 by omega)
      have hk2 := Int.emod_lt_of_pos (((xs ++ [V.int 0]).length : Nat) : Int) (show (0 : Int) < (((ns.map V.int).length : Nat) : Int) by omega)
      obtain ⟨j, hj⟩ := Int.eq_ofNat_of_zero_le hk
      have hjl : j < ns.length := by
        rw [hj, List.length_map] at hk2
        omega
      have hat : atI (ns.map V.int) ((((xs ++ [V.int 0]).length : Nat) : Int) % (((ns.map V.int).length : Nat) : Int)) = some (.int ns[j]) := by
        rw [hj]
        refine atI_nat ?_
        rw [List.getElem?_map, List.getElem?_eq_getElem hjl]
        rfl
      refine ⟨_, rfl, _, rfl, _, rfl, _, _, rfl, .inl ⟨_, hS1.sq, rfl⟩, _, _, rfl, rfl, (by show (0 : Int) < _; omega), sp, _, _, _, rfl, rfl, hS1.sq, hat, ?_⟩
      refine ⟨_, rfl, _, rfl, _, _, rfl, rfl, .inl ⟨by decide, by decide⟩, _, _, rfl, rfl, _, _, rfl, rfl, p1, ?_⟩
      refine ⟨_, rfl, _, rfl, _, _, rfl, rfl, .inl (rest_small _ p1 (by decide)), _, _, rfl, rfl, p2, _, _, rfl, rfl, .inr ⟨by decide, by decide⟩, _, _, rfl, rfl, p1, ?_⟩
      refine ⟨_, rfl, _, rfl, _, _, rfl, rfl, .inl (rest_small _ p1 (by decide)), _, _, rfl, rfl, p2, _, _, rfl, rfl, .inr ⟨by decide, by decide⟩, _, _, rfl, rfl, p1, ?_⟩
      refine ⟨_, rfl, _, _, rfl, rfl, ⟨by decide, by decide⟩, _, _, rfl, rfl, .inr ⟨by decide, by decide⟩, _, rfl, _, _, rfl, rfl, ⟨by decide, by decide⟩, _, _, rfl, rfl, _, rfl, _, _, rfl, rfl, (by show (0 : Int) < many; omega), ?_⟩
      exact q _ (Int.emod_nonneg _ (by omega)) (Int.emod_lt_of_pos _ (by omega))
    · refine ⟨_, rfl, _, rfl, _, _, rfl, rfl, .inl ⟨by decide, by decide⟩, _, _, rfl, rfl, _, _, rfl, rfl, p1, ?_⟩
      refine ⟨_, rfl, _, rfl, _, _, rfl, rfl, .inl (rest_small _ p1 (by decide)), _, _, rfl, rfl, p2, _, _, rfl, rfl, .inr ⟨by decide, by decide⟩, _, _, rfl, rfl, p1, ?_⟩
      refine ⟨_, rfl, _, rfl, _, _, rfl, rfl, .inl (rest_small _ p1 (by decide)), _, _, rfl, rfl, p2, _, _, rfl, rfl, .inr ⟨by decide, by decide⟩, _, _, rfl, rfl, p1, ?_⟩
      refine ⟨_, rfl, _, _, rfl, rfl, ⟨by decide, by decide⟩, _, _, rfl, rfl, .inr ⟨by decide, by decide⟩, _, rfl, _, _, rfl, rfl, ⟨by decide, by decide⟩, _, _, rfl, rfl, _, rfl, _, _, rfl, rfl, (by show (0 : Int) < many; omega), ?_⟩
      exact q _ (Int.emod_nonneg _ (by omega)) (Int.emod_lt_of_pos _ (by omega))
theorem scO : FnScope ["_law_script", "_law_town", "_law_some"] ["_law_script", "_law_town", "_law_some"] (defScope sOne) := ⟨rfl, rfl, rfl, by decide +kernel, rfl, by decide +kernel, by decide +kernel⟩
theorem ok_one {f : Addr} {fd : FuncData} (F : Fun K "_law_one" "_law_one" sOne f fd) (T : Txt K mg C CN) (FD : Fun K "_law_draw" "_law_draw" sDraw fD fdD) (gD : mg "_law_draw" = some (.ref fD)) (bD : Binds K fdD ["_law_script", "_law_town", "_law_many"] []) :
    FnOk P w K mg base CX0 2 f fd ["_law_script", "_law_town", "_law_some"] (spOne K) := by
  have GD : FnOk P w K mg base CX0 1 fD fdD ["_law_script", "_law_town", "_law_many"] (spDraw K) := ok_draw FD T
  refine F.ok scO (fun vs H Q E h => ?_) (fun cdv A outer s H vs Q E hr h => ?_)
  · obtain ⟨sp, tp, lp, ns, xs, ms, rfl, _⟩ := h
    rfl
  · obtain ⟨sp, tp, lp, ns, xs, ms, rfl, hS, ht, hx, hne, hl, h1, q⟩ := h
    refine ⟨_, pss_one (ps_ret (pe_ix ix_list (pv 2) (pe_call GD hr (by rfl) gD FD.kp bD .nil pass0 (pa_cons (pv 0) (pa_cons (pv 1) (pa_cons (pe_callB call_len (by rfl) T.len PySem.boot_len (pa_cons (pv 2) pa_nil)) pa_nil)))) (fun _ _ => rfl))), ?_⟩
    refine ⟨_, rfl, _, rfl, _, rfl, _, rfl, _, _, rfl, .inl ⟨_, SqL.of hl, rfl⟩, sp, tp, ns, xs, _, rfl, hS, ht, hx, (by rw [List.length_map]; omega), fun v v0 v1 => ?_⟩
    rw [List.length_map] at v1
    obtain ⟨j, rfl⟩ := Int.eq_ofNat_of_zero_le v0
    have hj : j < ms.length := by omega
    refine ⟨lp, ms.map V.int, _, .int ms[j], rfl, rfl, SqL.of (by rw [upd_ne hne]; exact hl), atI_nat ?_, q _ (List.getElem_mem hj)⟩
    rw [List.getElem?_map, List.getElem?_eq_getElem hj]
    rfl
end
end K10
/-! the law's rows and weights -/
namespace K10
open PySem PySem.Spec PyProof.Rows L2 L2H R1 M2
theorem fr1_free {H H' : Hp} {b l : Addr} {u : HO} (f : Fr1 H H' b) (hb : H' b = some u) (hl : H' l = none) : H l = none := by
  cases e : H l with
  | none => rfl
  | some o =>
    have n : l ≠ b := fun z => by
      rw [z, hb] at hl
      cases hl
    rw [f l o e n] at hl
    cases hl
section
variable {P : Program} {w : World} {K : PySem.W.Frag} {mg : Str → Option Value} {base : Heap} {C CN fD fO : Addr} {fdD fdO : FuncData}
abbrev nB : List Str := ["_law_script", "_law_town", "_law_most", "_law_k"]
theorem scBt : FnScope nB ["_law_script", "_law_town", "_law_most"] (defScope sBits) := ⟨rfl, rfl, rfl, by decide +kernel, rfl, by decide +kernel, by decide +kernel⟩
theorem ok_bits {f : Addr} {fd : FuncData} (F : Fun K "_law_bits" "_law_bits" sBits f fd) (T : Txt K mg C CN) (FD : Fun K "_law_draw" "_law_draw" sDraw fD fdD) (gD : mg "_law_draw" = some (.ref fD)) (bD : Binds K fdD ["_law_script", "_law_town", "_law_many"] []) :
    FnOk P w K mg base CX0 2 f fd ["_law_script", "_law_town", "_law_most"] (spBits K) := by
  have GD : FnOk P w K mg base CX0 1 fD fdD ["_law_script", "_law_town", "_law_many"] (spDraw K) := ok_draw FD T
  refine F.ok scBt (fun vs H Q E h => ?_) (fun cdv A outer s H vs Q E hr h => ?_)
  · obtain ⟨sp, tp, ns, xs, rfl, _⟩ := h
    rfl
  · obtain ⟨sp, tp, ns, xs, rfl, hS, ht, hx, q⟩ := h
    refine ⟨_, pss_one (ps_ret (pe_callTy call_tuple_of (by rfl) T.tuple (by decide +kernel) (pa_cons
      (pe_lc (own := [("_law_k", 3)]) (g := gName 3) (tt := tYes) rfl scBt.nd (pi_range1 (by rfl) T.range (pa_cons (pe_call GD hr (by rfl) gD FD.kp bD .nil pass0 (pa_cons (pv 0) (pa_cons (pv 1) (pa_cons (pe_op op_add (pv 2) pe_int) pa_nil)))) pa_nil))
        (blkOk_by (own := [("_law_k", 3)]) (N := nB) (sc := defScope sBits) (by decide +kernel))
        (fun _ _ _ _ _ => pg_name (i := 3) scBt.nd rfl (Or.inl rfl))
        (fun _ _ _ _ _ => pts_nil)
        (fun _ _ _ _ _ => pe_call GD hr (by rfl) gD FD.kp bD .nil pass0 (pa_cons (pv 0) (pa_cons (pv 1) (pa_cons pe_int pa_nil))))) pa_nil))), ?_⟩
    refine ⟨_, rfl, _, rfl, _, rfl, _, _, rfl, rfl, sp, tp, ns, xs, _, rfl, hS, ht, by omega, by decide, fun v v0 v1 => ?_⟩
    have v1' : v < 61 := v1
    refine ⟨v, rfl, by omega, by omega, fun D hD => ?_⟩
    have Dne : D ≠ tp := fun z => by
      rw [z, upd_same] at hD
      cases hD
    have hD0 : H D = none := by
      rw [upd_ne Dne] at hD
      exact hD
    refine lc_range (lo := 0) (n := v.toNat) (fun i H' => ∃ (bits : List Int) (xs' : List V), H' D = some (.lst (bits.map V.int)) ∧ bits.length = i ∧ (∀ x ∈ bits, x = 0 ∨ x = 1) ∧ H' tp = some (.lst xs') ∧ xs'.length = xs.length + 1 + i ∧ Fr1 H H' tp) ?_ ?_ ?_
    · refine ⟨[], xs ++ [.int 0], upd_same, rfl, (fun x hx => nomatch hx), by rw [upd_ne (Ne.symm Dne), upd_same], by simp, ?_⟩
      exact Fr1.upd.new' hD
    · rintro i H1 hi ⟨bits, xs', hD1, hl, hb, ht1, hx1, hF1⟩
      refine ⟨rfl, ?_⟩
      refine tYes_if ?_
      have hS1 : Scr K H1 sp ns := hS.fr1 hF1 fun o u e => by
        rw [ht] at e
        cases e
      refine ⟨_, rfl, _, rfl, sp, tp, ns, xs', 2, rfl, hS1, ht1, by omega, by decide, fun y y0 y1 => ?_⟩
      have hD2 : upd H1 tp (.lst (xs' ++ [.int 0])) D = some (.lst (bits.map V.int)) := by
        rw [upd_ne Dne]
        exact hD1
      refine ⟨_, hD2, ?_, bits ++ [y], xs' ++ [.int 0], ?_, by simp [hl], ?_, ?_, by simp [hx1]; omega, ?_⟩
      · rw [List.length_map]
        exact small1000 (by omega)
      · rw [upd_same, List.map_append]
        rfl
      · intro x hx
        rcases List.mem_append.mp hx with z | z
        · exact hb x z
        · have e : x = y := by simpa using z
          omega
      · rw [upd_ne (Ne.symm Dne), upd_same]
      · have z1 : Fr1 H (upd H1 tp (.lst (xs' ++ [.int 0]))) tp := hF1.trans Fr1.upd
        intro c o e n
        by_cases hc : c = D
        · rw [hc, hD0] at e
          cases e
        · rw [upd_ne hc]
          exact z1 c o e n
    · rintro H1 ⟨bits, xs', hD1, hl, hb, ht1, hx1, hF1⟩
      refine ⟨D, _, rfl, .inl ⟨SqL.of hD1, fun l hl1 => ?_⟩⟩
      refine q _ l bits xs' (fr1_free hF1 ht1 hl1) ⟨upd_same, hb, by omega⟩ ?_ (by omega) (hF1.new' hl1)
      rw [upd_ne (ne_of_none ht1 hl1)]
      exact ht1
theorem wok_set {ws : List Int} {j : Nat} {u : Int} (hb : ∀ w ∈ ws, 0 ≤ w ∧ w ≤ 1000) (hl : ws.length ≤ 7) (hz : ws.sum = 0) (hj : j < ws.length) (u0 : 0 ≤ u) (u1 : u < 5) : WOk (ws.set j (1 + u)) := by
  have e : ws[j]? = some ws[j] := List.getElem?_eq_getElem hj
  have hm := List.getElem_mem hj
  have h1 := mem_le_sum (fun w hw => (hb w hw).1) _ hm
  have h2 := (hb _ hm).1
  refine ⟨fun w hw => ?_, ?_, ?_⟩
  · rcases List.mem_or_eq_of_mem_set hw with z | z
    · exact hb w z
    · omega
  · rw [sum_set e]
    omega
  · rw [List.length_set]
    omega
theorem ixN_of {n : Nat} {j : Int} (h0 : 0 ≤ j) (h1 : j < n) : ixN n j = some j.toNat := by
  unfold ixN
  rw [if_pos h0, if_pos h1]
abbrev nW : List Str := ["_law_script", "_law_town", "_law_top", "_law_weights_here", "_law_k"]
theorem scW : FnScope nW ["_law_script", "_law_town"] (defScope sWeights) := ⟨rfl, rfl, rfl, by decide +kernel, rfl, by decide +kernel, by decide +kernel⟩
theorem ok_weights {f : Addr} {fd : FuncData} (F : Fun K "_law_weights" "_law_weights" sWeights f fd) (T : Txt K mg C CN) (FD : Fun K "_law_draw" "_law_draw" sDraw fD fdD) (gD : mg "_law_draw" = some (.ref fD)) (bD : Binds K fdD ["_law_script", "_law_town", "_law_many"] [])
    (FO : Fun K "_law_one" "_law_one" sOne fO fdO) (gO : mg "_law_one" = some (.ref fO)) (bO : Binds K fdO ["_law_script", "_law_town", "_law_some"] []) :
    FnOk P w K mg base CX0 3 f fd ["_law_script", "_law_town"] (spWeights K) := by
  have GD : FnOk P w K mg base CX0 1 fD fdD ["_law_script", "_law_town", "_law_many"] (spDraw K) := ok_draw FD T
  have GO : FnOk P w K mg base CX0 2 fO fdO ["_law_script", "_law_town", "_law_some"] (spOne K) := ok_one FO T FD gD bD
  refine F.ok scW (fun vs H Q E h => ?_) (fun cdv A outer s H vs Q E hr h => ?_)
  · obtain ⟨sp, tp, ns, xs, rfl, _⟩ := h
    rfl
  · obtain ⟨sp, tp, ns, xs, rfl, hS, ht, hx, q⟩ := h
    have hr1 : Room 1 _ := hr.mono (by decide)
    refine ⟨_, pss_cons (ps_set (i := 2) scW.nd rfl (Or.inr rfl) (pe_call GO hr (by rfl) gO FO.kp bO .nil pass0 (pa_cons (pv 0) (pa_cons (pv 1) (pa_cons (pe_lst (pa_cons pe_int (pa_cons pe_int (pa_cons pe_int (pa_cons pe_int pa_nil))))) pa_nil)))))
      (pss_cons (ps_setLc (i := 3) (own := [("_law_k", 4)]) (g := gName 4) (tt := tYes) rfl scW.nd rfl rfl (sw_true rfl rfl rfl (by decide +kernel)) (pi_range1 (by rfl) T.range (pa_cons (pe_op op_add pe_int (pe_call GD hr1 (by rfl) gD FD.kp bD .nil pass0 (pa_cons (pv 0) (pa_cons (pv 1) (pa_cons pe_int pa_nil))))) pa_nil))
        (blkOk_by (own := [("_law_k", 4)]) (N := nW) (sc := defScope sWeights) (by decide +kernel))
        (fun _ _ _ _ _ => pg_name (i := 4) scW.nd rfl (Or.inl rfl))
        (fun _ _ _ _ _ => pts_nil)
        (fun _ _ _ _ _ => pe_call GD hr1 (by rfl) gD FD.kp bD .nil pass0 (pa_cons (pv 0) (pa_cons (pv 1) (pa_cons (pv 2) pa_nil)))))
      (pss_cons (ps_if (pt_cmpR op_eq (pe_callB (cr_sum rfl) (by rfl) T.sum PyProof.Rows.boot_sum (pa_cons (pv 3) pa_nil)) pe_int (nomark _))
        (pss_one (ps_asg (pe_op op_add pe_int (pe_call GD hr1 (by rfl) gD FD.kp bD .nil pass0 (pa_cons (pv 0) (pa_cons (pv 1) (pa_cons pe_int pa_nil)))))
          (pg_sub (pv 3) (pe_call GD hr1 (by rfl) gD FD.kp bD .nil pass0 (pa_cons (pv 0) (pa_cons (pv 1) (pa_cons (pe_callB call_len (by rfl) T.len PySem.boot_len (pa_cons (pv 3) pa_nil)) pa_nil)))) set_list))) pss_nil)
      (pss_one (ps_ret (pe_callTy call_tupF (by rfl) T.tuple (by decide +kernel) (pa_cons (pv 3) pa_nil)))))), ?_⟩
    refine ⟨_, rfl, _, rfl, (by show 4 ≤ sizeLine; decide), fun lp hlp => ?_⟩
    have nlt : lp ≠ tp := fun z => by
      rw [z, ht] at hlp
      cases hlp
    have hS1 : Scr K (upd H lp (.lst [.int 2, .int 5, .int 16, .int 1000])) sp ns := hS.keep fun o u e => by
      rw [upd_ne (ne_of_none e hlp)]
      exact e
    have ht1 : upd H lp (.lst [.int 2, .int 5, .int 16, .int 1000]) tp = some (.lst xs) := by
      rw [upd_ne (Ne.symm nlt)]
      exact ht
    refine ⟨sp, tp, lp, ns, xs, [2, 5, 16, 1000], rfl, hS1, ht1, by omega, nlt, upd_same, by decide, fun top htop => ?_⟩
    have top01 : 1 ≤ top ∧ top ≤ 1000 := by
      have z : top = 2 ∨ top = 5 ∨ top = 16 ∨ top = 1000 := by simpa using htop
      omega
    generalize hH2 : upd (upd H lp (.lst [.int 2, .int 5, .int 16, .int 1000])) tp (.lst (xs ++ [.int 0])) = H2
    have ht2 : H2 tp = some (.lst (xs ++ [.int 0])) := by rw [← hH2, upd_same]
    have hF2 : Fr1 H H2 tp := by
      rw [← hH2]
      exact ((Fr1.refl H tp).new' hlp).trans Fr1.upd
    have ntp : ∀ o u, H tp ≠ some (.frz o u) := fun o u e => by
      rw [ht] at e
      cases e
    refine ⟨_, rfl, _, rfl, sp, tp, ns, xs ++ [.int 0], 7, rfl, hS.fr1 hF2 ntp, ht2, (by simp; omega), by decide, fun v v0 v1 => ?_⟩
    refine ⟨_, _, rfl, rfl, 1 + v, rfl, by omega, by omega, fun D hD => ?_⟩
    have Dne : D ≠ tp := fun z => by
      rw [z, upd_same] at hD
      cases hD
    have hF3 : Fr1 H (upd H2 tp (.lst (xs ++ [.int 0] ++ [.int 0]))) tp := hF2.trans Fr1.upd
    have hD0 : H D = none := fr1_free hF3 upd_same hD
    refine lc_range (lo := 0) (n := (1 + v).toNat) (fun i H' => ∃ (ws : List Int) (xs' : List V), H' D = some (.lst (ws.map V.int)) ∧ ws.length = i ∧ (∀ w ∈ ws, 0 ≤ w ∧ w ≤ 1000) ∧ H' tp = some (.lst xs') ∧ xs'.length = xs.length + 2 + i ∧ Fr1 H H' tp) ?_ ?_ ?_
    · refine ⟨[], xs ++ [.int 0] ++ [.int 0], upd_same, rfl, (fun x hx => nomatch hx), by rw [upd_ne (Ne.symm Dne), upd_same], by simp, hF3.new' hD⟩
    · rintro i H4 hi ⟨ws, xs', hD1, hl, hb, ht4, hx4, hF4⟩
      refine ⟨rfl, ?_⟩
      refine tYes_if ?_
      refine ⟨_, rfl, _, rfl, _, rfl, sp, tp, ns, xs', top, rfl, hS.fr1 hF4 ntp, ht4, by omega, top01.1, fun y y0 y1 => ?_⟩
      have hD2 : upd H4 tp (.lst (xs' ++ [.int 0])) D = some (.lst (ws.map V.int)) := by
        rw [upd_ne Dne]
        exact hD1
      refine ⟨_, hD2, ?_, ws ++ [y], xs' ++ [.int 0], ?_, by simp [hl], ?_, ?_, by simp [hx4]; omega, ?_⟩
      · rw [List.length_map]
        exact small1000 (by omega)
      · rw [upd_same, List.map_append]
        rfl
      · intro x hx
        rcases List.mem_append.mp hx with z | z
        · exact hb x z
        · have e : x = y := by simpa using z
          omega
      · rw [upd_ne (Ne.symm Dne), upd_same]
      · have z1 : Fr1 H (upd H4 tp (.lst (xs' ++ [.int 0]))) tp := hF4.trans Fr1.upd
        intro c o e n
        by_cases hc : c = D
        · rw [hc, hD0] at e
          cases e
        · rw [upd_ne hc]
          exact z1 c o e n
    · rintro H4 ⟨ws, xs', hD4, hl, hb, ht4, hx4, hF4⟩
      have fin : ∀ (H' : Hp) (ws' : List Int) (xs'' : List V), H' D = some (.lst (ws'.map V.int)) → WOk ws' → H' tp = some (.lst xs'') → xs''.length ≤ xs.length + 11 → Fr1 H H' tp →
          ∀ (l : Addr) (o : Obj), H' l = none → o.dict = none → o.cls = Value.type "tuple" → Q (.ref l) (upd H' l (.frz o (.tup (ws'.map V.int)))) := fun H' ws' xs'' h1 h2 h3 h4 h5 l o hl ho1 ho2 => by
        refine q _ l ws' xs'' (fr1_free h5 h3 hl) ⟨o, ho1, ho2, upd_same⟩ h2 ?_ h4 (h5.new' hl)
        rw [upd_ne (ne_of_none h3 hl)]
        exact h3
      refine ⟨_, rfl, D, ws, rfl, SqL.of hD4, rfl, _, rfl, ?_⟩
      refine ite2 (fun c => ?_) (fun c => ?_)
      · have hz : ws.sum = 0 := V.int.inj (of_decide_eq_true c)
        refine ⟨_, rfl, _, rfl, sp, tp, ns, xs', 5, rfl, hS.fr1 hF4 ntp, ht4, by omega, by decide, fun u u0 u1 => ?_⟩
        have hD5 : upd H4 tp (.lst (xs' ++ [.int 0])) D = some (.lst (ws.map V.int)) := by
          rw [upd_ne Dne]
          exact hD4
        have hF5 : Fr1 H (upd H4 tp (.lst (xs' ++ [.int 0]))) tp := hF4.trans Fr1.upd
        refine ⟨_, _, rfl, rfl, _, rfl, _, rfl, _, rfl, _, rfl, _, _, rfl, .inl ⟨_, SqL.of hD5, rfl⟩, sp, tp, ns, xs' ++ [.int 0], _, rfl, hS.fr1 hF5 ntp, upd_same, (by simp; omega), (by rw [List.length_map]; omega), fun j j0 j1 => ?_⟩
        rw [List.length_map] at j1
        have hD6 : upd (upd H4 tp (.lst (xs' ++ [.int 0]))) tp (.lst (xs' ++ [.int 0] ++ [.int 0])) D = some (.lst (ws.map V.int)) := by
          rw [upd_ne Dne]
          exact hD5
        have hF6 : Fr1 H (upd (upd H4 tp (.lst (xs' ++ [.int 0]))) tp (.lst (xs' ++ [.int 0] ++ [.int 0]))) tp := hF5.trans Fr1.upd
        refine ⟨D, _, _, j.toNat, rfl, rfl, hD6, ixN_of j0 (by rw [List.length_map]; exact j1), ?_⟩
        refine ⟨_, rfl, D, _, rfl, SqL.of upd_same, fun l o hl1 ho1 ho2 => ?_⟩
        have hj : j.toNat < ws.length := by omega
        have em : (ws.map V.int).set j.toNat (.int (1 + u)) = (ws.set j.toNat (1 + u)).map V.int := by rw [List.map_set]
        have z := fin (upd (upd (upd H4 tp (.lst (xs' ++ [.int 0]))) tp (.lst (xs' ++ [.int 0] ++ [.int 0]))) D (.lst ((ws.map V.int).set j.toNat (.int (1 + u))))) (ws.set j.toNat (1 + u)) (xs' ++ [.int 0] ++ [.int 0])
          (upd_same.trans (congrArg (fun z => some (HO.lst z)) em)) (wok_set hb (by omega) hz hj u0 u1) (by rw [upd_ne (Ne.symm Dne), upd_same]) (by simp; omega) (fun c o e n => by
            by_cases hc : c = D
            · rw [hc, hD0] at e
              cases e
            · rw [upd_ne hc]
              exact hF6 c o e n) l o hl1 ho1 ho2
        rw [← em] at z
        exact z
      · have hz : ws.sum ≠ 0 := fun z => c (decide_eq_true (congrArg V.int z))
        have hn := sum_nonneg (ws := ws) fun w hw => (hb w hw).1
        refine ⟨_, rfl, D, _, rfl, SqL.of hD4, fin H4 ws xs' hD4 ⟨hb, by omega, by omega⟩ ht4 (by omega) hF4⟩
end
end K10
/-! the law's own pick, and what is told of a draw -/
namespace K10
open PySem PySem.Spec PyProof.Rows L2 L2H R1 M2
/-- the law's loop's word: j bits are looked at -/
def WL (H : Hp) (rp wp : Addr) (row : List Int) (k : Nat) (ws : List Int) (m : Nat) (σ : L2.St) (H' : Hp) : Prop :=
  ∃ (j : Nat) (place size : Int) (e : Option V), m = row.length - j ∧ σ = [some (.ref rp), some (.int (j : Int)), some (.ref wp), some (.int ws.sum), some (.int place), some (.int size), e, none, none] ∧
    j ≤ row.length ∧ Same H H' ∧ 0 ≤ place ∧ pickF row k ws = go ws ws.sum (row.drop j) j place size
section
variable {P : Program} {w : World} {K : PySem.W.Frag} {mg : Str → Option Value} {base : Heap} {C CN fP fC : Addr} {fdP fdC : FuncData}
abbrev nL : List Str := ["_law_row", "_law_at", "_law_weights_here", "_law_total", "_law_place", "_law_size", "_law_ends", "_law_number", "_law_weight"]
theorem scLP : FnScope nL ["_law_row", "_law_at", "_law_weights_here"] (defScope sLPick) := ⟨rfl, rfl, rfl, by decide +kernel, rfl, by decide +kernel, by decide +kernel⟩
theorem ok_lpick {f : Addr} {fd : FuncData} (F : Fun K "_law_pick" "_law_pick" sLPick f fd) (T : Txt K mg C CN) : FnOk P w K mg base CX0 1 f fd ["_law_row", "_law_at", "_law_weights_here"] spLPick := by
  refine F.ok scLP (fun vs H Q E h => ?_) (fun cdv A outer s H vs Q E hr h => ?_)
  · obtain ⟨rp, wp, row, k, ws, rfl, _⟩ := h
    rfl
  · obtain ⟨rp, wp, row, k, ws, rfl, hR, hk, hT, hW, kq, ke⟩ := h
    refine ⟨_, pss_cons (ps_set (i := 3) scLP.nd rfl (Or.inr rfl) (pe_callB (cr_sumT rfl) (by rfl) T.sum PyProof.Rows.boot_sum (pa_cons (pv 2) pa_nil)))
      (pss_cons (ps_if (pt_cmpR op_in_seq (pv 3) (pv 2) (by rfl))
        (pss_one (ps_ret (pe_tup (pa_cons (pe_bmT PySem.F.plainAttrs_tuple PySem.F.slot_tuple_index PySem.F.type_tuple_index mt_tup_ix (pv 2) (pv 3)) (pa_cons (pv 1) pa_nil))))) pss_nil)
      (pss_cons (ps_asg (pe_tup (pa_cons pe_int (pa_cons pe_int pa_nil))) (pg_tup rfl (pgs_cons (pg_name (i := 4) scLP.nd rfl (Or.inl rfl)) (pgs_cons (pg_name (i := 5) scLP.nd rfl (Or.inr rfl)) pgs_nil))))
      (pss_one (ps_while PassesOwn.never (pt_val pe_bl)
        (pss_cons (ps_if (pt_cmpR op_eq (pv 1) (pe_callB call_len (by rfl) T.len PySem.boot_len (pa_cons (pv 0) pa_nil)) (nomark _)) (pss_one (ps_ret (pe_tup (pa_cons pe_str (pa_cons pe_non pa_nil))))) pss_nil)
        (pss_cons (ps_asg (pe_tup (pa_cons (pe_op op_add (pe_op op_mul (pv 4) pe_int) (pe_ix ix_tup (pv 0) (pv 1) (fun _ _ => rfl))) (pa_cons (pe_op op_mul (pv 5) pe_int) (pa_cons (pe_op op_add (pv 1) pe_int) pa_nil))))
            (pg_tup rfl (pgs_cons (pg_name (i := 4) scLP.nd rfl (Or.inl rfl)) (pgs_cons (pg_name (i := 5) scLP.nd rfl (Or.inr rfl)) (pgs_cons (pg_name (i := 1) scLP.nd rfl (Or.inl rfl)) pgs_nil)))))
        (pss_cons (ps_setLc (i := 6) (own := [("_law_number", 7), ("_law_weight", 8)]) (g := gTup K 2 (gCons (gName 7) (gCons (gName 8) gNil))) rfl scLP.nd rfl rfl (sw_true rfl rfl rfl (by decide +kernel)) (pi_enumT (by rfl) T.enum (pv 2))
          (blkOk_by (own := [("_law_number", 7), ("_law_weight", 8)]) (N := nL) (sc := defScope sLPick) (by decide +kernel))
          (fun _ _ _ _ _ => pg_tup rfl (pgs_cons (pg_name (i := 7) scLP.nd rfl (Or.inl rfl)) (pgs_cons (pg_name (i := 8) scLP.nd rfl (Or.inl rfl)) pgs_nil)))
          (fun _ _ _ _ _ => pts_one (pt_cmpR op_eq (pe_op op_mod (pe_op op_fdiv (pe_op op_mul (pv 8) (pv 5)) (pv 3)) pe_int) pe_int (nomark _)))
          (fun _ _ _ _ _ => pv 7))
        (pss_cons (ps_if (pt_cmpR op_lt (pv 4) (pe_callB call_len (by rfl) T.len PySem.boot_len (pa_cons (pv 6) pa_nil)) (nomark _)) (pss_one (ps_ret (pe_tup (pa_cons (pe_ix ix_list (pv 6) (pv 4) (fun _ _ => rfl)) (pa_cons (pv 1) pa_nil))))) pss_nil)
        (pss_one (ps_set (i := 4) scLP.nd rfl (Or.inl rfl) (pe_op op_sub (pv 4) (pe_callB call_len (by rfl) T.len PySem.boot_len (pa_cons (pv 6) pa_nil))))))))))))), ?_⟩
    refine ⟨_, rfl, wp, ws, rfl, hT.sq, ?_⟩
    refine ⟨_, rfl, _, rfl, wp, ws.map V.int, rfl, .inr hT.sq, rfl, flat_ints ws, _, rfl, ?_⟩
    show if (inV (.int ws.sum) (ws.map V.int)) = true then _ else _
    rw [inV_int]
    by_cases hm : ws.sum ∈ ws
    · rw [decide_eq_true hm]
      refine iteT ?_
      refine ⟨_, rfl, ⟨wp, _, rfl, hT⟩, _, rfl, wp, ws, ws.sum, rfl, rfl, hT.sq, hm, _, rfl, (by show 2 ≤ sizeLine; decide), fun p hp => ?_⟩
      exact kq _ k (by unfold pickF; rw [if_pos hm]) _ p (same_new hp) upd_same
    rw [decide_eq_false hm]
    refine iteF ?_
    have hp0 : pickF row k ws = go ws ws.sum (row.drop k) k 0 1 := by
      unfold pickF
      rw [if_neg hm]
    -- place and size at first
    refine ⟨(by show 2 ≤ sizeLine; decide), fun p hp => ?_⟩
    refine ⟨p, _, rfl, SqT.of upd_same, rfl, _, _, rfl, _, _, rfl, rfl, ?_⟩
    refine ⟨WL H rp wp row k ws, ⟨_, k, 0, 1, none, rfl, rfl, hk, same_new hp, Int.le_refl _, hp0⟩, ?_⟩
    rintro m σ H1 ⟨j, place, size, e, rfl, rfl, hj, hS1, hp1, hg1⟩
    refine ⟨true, rfl, ?_⟩
    refine iteT ?_
    refine ⟨fun σ' H' => ∃ m', m' < row.length - j ∧ WL H rp wp row k ws m' σ' H', fun _ _ z => z, ?_⟩
    have hR1 : RowAt H1 rp row := hR.keep fun o e => hS1 rp o e
    refine ⟨_, rfl, _, rfl, _, _, rfl, .inr ⟨_, hR1.sq, rfl⟩, rfl, _, rfl, ?_⟩
    rw [List.length_map]
    refine ite2 (fun c => ?_) (fun c => ?_)
    · have c2 : (j : Int) = (row.length : Int) := V.int.inj (of_decide_eq_true c)
      refine ⟨(by show 2 ≤ sizeLine; decide), fun q hq => ?_⟩
      exact ke (by rw [hg1, go_nil _ _ _ _ _ _ (by omega)]) _ q (same_upd hS1 (hS1.free hq)) upd_same
    · have c2 : (j : Int) ≠ (row.length : Int) := fun z => c (decide_eq_true (congrArg V.int z))
      have hjl : j < row.length := by omega
      have hx : row[j]? = some row[j] := List.getElem?_eq_getElem hjl
      have hx01 : row[j] = 0 ∨ row[j] = 1 := hR.bit _ (List.getElem_mem hjl)
      generalize hxe : row[j] = x at hx hx01
      rw [go_step ws ws.sum row j place size x hx] at hg1
      refine ⟨_, rfl, _, _, rfl, rfl, .inr ⟨by decide, by decide⟩, _, rfl, _, rfl, rp, _, _, .int x, rfl, rfl, hR1.sq, atI_nat (by rw [List.getElem?_map, hx]; rfl), _, _, rfl, rfl, _, rfl, _, _, rfl, rfl, .inr ⟨by decide, by decide⟩, _, rfl, _, _, rfl, rfl, (by show 3 ≤ sizeLine; decide), fun q hq => ?_⟩
      refine ⟨q, _, rfl, SqT.of upd_same, rfl, _, _, rfl, _, _, rfl, _, _, rfl, rfl, ?_⟩
      have hS2 : Same H (upd H1 q (.tup [.int (place * 2 + x), .int (size * 2), .int ((j : Int) + 1)])) := hS1.trans (same_new hq)
      have hT2 : TupF (upd H1 q (.tup [.int (place * 2 + x), .int (size * 2), .int ((j : Int) + 1)])) wp (ws.map V.int) := hT.keep fun o e => hS2 wp o e
      refine ⟨_, rfl, wp, _, rfl, hT2.sq, fun D hD => ?_⟩
      have hD0 : H D = none := hS2.free hD
      refine lc_it walk_enumT (fun i H' => Same (upd H1 q (.tup [.int (place * 2 + x), .int (size * 2), .int ((j : Int) + 1)])) H' ∧ H' D = some (.lst ((idxs (isOne ws.sum (size * 2)) (ws.take i) 0).map V.int))) ⟨same_new hD, upd_same⟩ (fun i H' hi p => (hT2.keep fun o e => p.1 wp o e).sq) ?_ ?_
      · rintro i v H3 H4 hi ⟨hS3, hD3⟩ ⟨Tp, x1, y1, rfl, hTn, rfl, e1, e2⟩
        cases Option.some.inj e1
        obtain ⟨w0, hw2, rfl⟩ := map_int_at e2
        have hwm : w0 ∈ ws := List.mem_of_getElem? hw2
        have hwb := hW.bd w0 hwm
        have hD4 : upd H3 Tp (.tup [.int (i : Nat), .int w0]) D = some (.lst ((idxs (isOne ws.sum (size * 2)) (ws.take i) 0).map V.int)) := by
          rw [upd_ne (ne_of_none hD3 hTn)]
          exact hD3
        have hS4 := hS3.trans (same_new (o := .tup [.int (i : Nat), .int w0]) hTn)
        refine ⟨Tp, _, rfl, SqT.of upd_same, rfl, _, _, rfl, _, _, rfl, rfl, rfl, ?_⟩
        refine ⟨_, rfl, _, rfl, _, _, rfl, rfl, .inl ⟨by omega, by omega⟩, _, rfl, _, _, rfl, rfl, ⟨hW.pos, hW.sum_lt⟩, _, _, rfl, rfl, (by show (0 : Int) < 2; decide), rfl, _, rfl, ?_⟩
        have hmore := idxs_more (isOne ws.sum (size * 2)) hw2
        refine ite2 (fun c => ?_) (fun c => ?_)
        · have c2 : isOne ws.sum (size * 2) w0 = true := decide_eq_true (V.int.inj (of_decide_eq_true c))
          rw [if_pos c2] at hmore
          refine ⟨_, rfl, _, hD4, ?_, same_upd hS4 hD, ?_⟩
          · rw [List.length_map]
            have z := idxs_len (isOne ws.sum (size * 2)) (ws.take i) 0
            rw [List.length_take] at z
            have f := hW.few
            exact small1000 (by omega)
          · rw [upd_same, hmore, List.map_append]
            rfl
        · have c2 : ¬ isOne ws.sum (size * 2) w0 = true := fun z => c (decide_eq_true (congrArg V.int (of_decide_eq_true z)))
          rw [if_neg c2, List.append_nil] at hmore
          refine ⟨hS4, ?_⟩
          rw [hmore]
          exact hD4
      · rintro H3 ⟨hS3, hD3⟩
        rw [List.length_map, List.take_length] at hD3
        have hD3' : H3 D = some (.lst ((ends ws ws.sum (size * 2)).map V.int)) := hD3
        have hS3' : Same H H3 := hS2.trans hS3
        refine ⟨_, rfl, _, rfl, _, _, rfl, .inl ⟨_, SqL.of hD3', rfl⟩, _, _, rfl, rfl, _, rfl, ?_⟩
        rw [List.length_map]
        refine ite2 (fun c => ?_) (fun c => ?_)
        · have c3 := of_decide_eq_true c
          rw [if_pos c3] at hg1
          have hi : (place * 2 + x).toNat < (ends ws ws.sum (size * 2)).length := by omega
          have e0 : ((place * 2 + x).toNat : Int) = place * 2 + x := by omega
          refine ⟨_, rfl, _, rfl, D, _, _, .int ((ends ws ws.sum (size * 2)).getD (place * 2 + x).toNat 0), rfl, rfl, SqL.of hD3', ?_, _, rfl, (by show 2 ≤ sizeLine; decide), fun q2 hq2 => ?_⟩
          · show atI _ (place * 2 + x) = _
            rw [← e0]
            refine atI_nat ?_
            rw [List.getElem?_map, Int.toNat_natCast, List.getElem?_eq_getElem hi, List.getD_eq_getElem?_getD, List.getElem?_eq_getElem hi]
            rfl
          · exact kq _ _ hg1 _ q2 (same_upd hS3' (hS3'.free hq2)) upd_same
        · have c3 : ¬ (place * 2 + x < ((ends ws ws.sum (size * 2)).length : Int)) := fun z => c (decide_eq_true z)
          rw [if_neg c3] at hg1
          refine ⟨_, rfl, _, rfl, _, _, rfl, .inl ⟨_, SqL.of hD3', rfl⟩, _, _, rfl, rfl, ?_⟩
          refine ⟨row.length - (j + 1), by omega, j + 1, _, size * 2, some (.ref D), rfl, rfl, by omega, hS3', ?_, ?_⟩
          · rw [List.length_map]
            omega
          · rw [List.length_map]
            exact hg1
abbrev nT : List Str := ["_law_bits_here", "_law_weights_here", "_law_part", "_law_got"]
theorem scTd : FnScope nT ["_law_bits_here", "_law_weights_here", "_law_part"] (defScope sTold) := ⟨rfl, rfl, rfl, by decide +kernel, rfl, by decide +kernel, by decide +kernel⟩
theorem ok_told {f : Addr} {fd : FuncData} (F : Fun K "_law_told" "_law_told" sTold f fd) (T : Txt K mg C CN) (FP : Fun K "pick" "pick" sPick fP fdP) (GP : FnOk P w K mg base (L2.CX P w) 3 fP fdP ["bits", "weights"] (spPick C CN)) (gP : mg "pick" = some (.ref fP)) (bP : Binds K fdP ["bits", "weights"] [])
    (FC : Fun K "coin" "coin" sCoin fC fdC) (GC : FnOk P w K mg base (L2.CX P w) 4 fC fdC ["bits", "upper", "lower"] (spCoin C CN)) (gC : mg "coin" = some (.ref fC)) (bC : Binds K fdC ["bits", "upper", "lower"] []) :
    FnOk P w K mg base CX0 5 f fd ["_law_bits_here", "_law_weights_here", "_law_part"] (spTold C) := by
  refine F.ok scTd (fun vs H Q E h => ?_) (fun cdv A outer s H vs Q E hr h => ?_)
  · obtain ⟨b, rp, wp, row, k, ws, part, rfl, _⟩ := h
    rfl
  · obtain ⟨b, rp, wp, row, k, ws, part, rfl, hB, hR, hk, hw, ke⟩ := h
    have hr3 : Room 3 _ := hr.mono (by decide)
    have hr4 : Room 4 _ := hr
    refine ⟨_, pss_cons (ps_set (i := 3) scTd.nd rfl (Or.inl rfl) pe_non)
      (pss_cons (ps_try_only (tb := fun W => tAsg (tIf (tTest (tOp (fun x y H Q => y = .non ∧ Q (.bl (decide (x = .non))) H) (tVar 2) (tC .non)))
            (tCallS (spPick C CN) (WE W) (tCons (tVar 0) (tCons (tVar 1) tNil)))
            (tCallS (spCoin C CN) (WE W) (tCons (tVar 0) (tCons (tOp (rIxT K) (tVar 2) (tC (.int 0))) (tCons (tOp (rIxT K) (tVar 2) (tC (.int 1))) tNil))))) (gName 3))
          (ts := fun a cls d => tAsg (tC (.str "NoBits")) (gName 3)) (Wout := fun _ _ _ _ => False) rfl rfl ⟨rfl, by decide, .inl T.gN⟩ takes0
          (fun W pn xe tk _ => pss_one (ps_set (i := 3) scTd.nd rfl (Or.inl rfl) (pe_ifExp (pt_cmpR op_isN (pv 2) pe_non (nomark _))
            (by exact (pe_callS GP hr3 rfl gP FP.kp bP (fun σ => L2.passAt tk σ) (by exact (pa_cons (pv 0) (pa_cons (pv 1) pa_nil)))))
            (by exact (pe_callS GC hr4 rfl gC FC.kp bC (fun σ => L2.passAt tk σ) (by exact (pa_cons (pv 0) (pa_cons (pe_ix ix_tup (pv 2) pe_int (fun _ _ => rfl)) (pa_cons (pe_ix ix_tup (pv 2) pe_int (fun _ _ => rfl)) pa_nil)))))))))
          (fun a oe cls d pn hz hf => pss_one (ps_set (i := 3) scTd.nd rfl (Or.inl rfl) pe_str)))
      (pss_one (ps_ret (pv 3)))), ?_⟩
    rcases hw with ⟨rfl, hT, hW, kq⟩ | ⟨pp, up, lo, rfl, hpp, h0, h1, h2, h3, rfl, kq⟩
    · refine ⟨_, rfl, rfl, _, rfl, ?_⟩
      rw [decide_eq_true rfl]
      refine iteT ?_
      refine ⟨_, rfl, _, rfl, b, rp, wp, row, k, ws, rfl, hB, hR, hk, hT, hW, fun n k' e H' hB' hF' => ⟨_, rfl, kq n k' e H' hB' hF'⟩, fun e H' hB' hF' => ?_⟩
      exact ⟨true, T.eN, fun _ a ha => ⟨_, rfl, ke e H' hB' hF'⟩, fun z => Bool.noConfusion z⟩
    · refine ⟨_, rfl, rfl, _, rfl, ?_⟩
      rw [decide_eq_false (fun z => nomatch z)]
      refine iteF ?_
      refine ⟨_, rfl, _, rfl, pp, _, _, .int up, rfl, rfl, SqT.of hpp, rfl, _, rfl, pp, _, _, .int lo, rfl, rfl, SqT.of hpp, rfl, b, rp, row, k, up, lo, rfl, hB, hR, hk, h0, h1, h2, h3, fun n k' e H' hB' hF' => ⟨_, rfl, kq n k' e H' hB' hF'⟩, fun e H' hB' hF' => ?_⟩
      exact ⟨true, T.eN, fun _ a ha => ⟨_, rfl, ke e H' hB' hF'⟩, fun z => Bool.noConfusion z⟩
end
end K10
/-! the law -/
namespace K10
open PySem PySem.Spec PyProof.Rows L2 L2H R1 M2
/-- all that stands between two steps: the script, the town's list, the row, the Bits of it -/
structure Al (K : PySem.W.Frag) (C : Addr) (H : Hp) (sp : Addr) (ns : List Int) (tp : Addr) (xs : List V) (b rp : Addr) (row : List Int) (j : Nat) : Prop where
  scr : Scr K H sp ns
  tn : H tp = some (.lst xs)
  bt : BitsAt C H b rp j
  rw_ : RowAt H rp row
section
variable {K : PySem.W.Frag} {C : Addr} {H H' : Hp} {sp tp b rp : Addr} {ns row : List Int} {xs xs' : List V} {j j' : Nat}
theorem Al.same (a : Al K C H sp ns tp xs b rp row j) (h : Same H H') : Al K C H' sp ns tp xs b rp row j :=
  ⟨a.scr.keep fun o u e => h sp _ e, h _ _ a.tn, a.bt.keep fun o e => h b o e, a.rw_.keep fun o e => h rp o e⟩
theorem Al.tp_b (a : Al K C H sp ns tp xs b rp row j) : b ≠ tp := fun z => by
  obtain ⟨dx, e⟩ := a.bt
  rw [z, a.tn] at e
  cases e
theorem Al.tp_rp (a : Al K C H sp ns tp xs b rp row j) : rp ≠ tp := fun z => by
  have e := a.rw_.at_
  rw [z, a.tn] at e
  cases e
theorem Al.b_rp (a : Al K C H sp ns tp xs b rp row j) : rp ≠ b := fun z => by
  have e := a.rw_.at_
  obtain ⟨dx, e2⟩ := a.bt
  rw [z, e2] at e
  cases e
/-- behind draws -/
theorem Al.town (a : Al K C H sp ns tp xs b rp row j) (f : Fr1 H H' tp) (t : H' tp = some (.lst xs')) : Al K C H' sp ns tp xs' b rp row j :=
  ⟨a.scr.fr1 f (fun o u e => by rw [a.tn] at e; cases e), t, a.bt.keep fun o e => f b o e a.tp_b, a.rw_.keep fun o e => f rp o e a.tp_rp⟩
/-- behind a pick -/
theorem Al.bits (a : Al K C H sp ns tp xs b rp row j) (f : Fr1 H H' b) (t : BitsAt C H' b rp j') : Al K C H' sp ns tp xs b rp row j' :=
  ⟨a.scr.fr1 f (fun o u e => by obtain ⟨dx, e2⟩ := a.bt; rw [e2] at e; cases e), f _ _ a.tn (Ne.symm a.tp_b), t, a.rw_.keep fun o e => f rp o e a.b_rp⟩
theorem Al.drawn (a : Al K C H sp ns tp xs b rp row j) : Al K C (upd H tp (.lst (xs ++ [.int 0]))) sp ns tp (xs ++ [.int 0]) b rp row j := a.town Fr1.upd upd_same
theorem Al.new {p : Addr} {o : HO} (a : Al K C H sp ns tp xs b rp row j) (hp : H p = none) : Al K C (upd H p o) sp ns tp xs b rp row j := a.same (same_new hp)
end
/-- what was asked, and what is due -/
def Due (H : Hp) (row : List Int) (j : Nat) (wp : Addr) (part due after : V) (ws : List Int) : Prop :=
  (∀ n k', pickF row j ws = some (n, k') → after = .int (k' : Int) ∧ j ≤ k' ∧ k' ≤ row.length) ∧ (pickF row j ws = none → after = .non ∧ due = .str "NoBits") ∧
  ((part = .non ∧ TupF H wp (ws.map V.int) ∧ WOk ws ∧ ∀ n k', pickF row j ws = some (n, k') → due = .int n) ∨
    (∃ (pp : Addr) (up lo : Int), part = .ref pp ∧ H pp = some (.tup [.int up, .int lo]) ∧ 0 ≤ up ∧ up ≤ lo ∧ 1 ≤ lo ∧ lo ≤ 1000 ∧ ws = [lo - up, up] ∧ ∀ n k', pickF row j ws = some (n, k') → due = .bl (decide (n = 1))))
/-- the slots: script, town, k, row, bits_here, at, missed, weights_here, part, due, after, lower -/
abbrev nM : List Str := ["_law_script", "_law_town", "_law_k", "_law_row", "_law_bits_here", "_law_at", "_law_missed", "_law_weights_here", "_law_part", "_law_due", "_law_after", "_law_lower"]
/-- the while's word -/
def WO (K : PySem.W.Frag) (C sp : Addr) (ns : List Int) (tp : Addr) (kv : Option V) (b rp : Addr) (row : List Int) (B m : Nat) (σ : L2.St) (H : Hp) : Prop :=
  ∃ (j ms : Nat) (xs : List V) (s7 s8 s9 s10 s11 : Option V), m = (4 - ms) + (row.length - j) ∧ σ = [some (.ref sp), some (.ref tp), kv, some (.ref rp), some (.ref b), some (.int (j : Int)), some (.int (ms : Int)), s7, s8, s9, s10, s11] ∧
    j ≤ row.length ∧ xs.length + 20 * m ≤ B ∧ Al K C H sp ns tp xs b rp row j
/-- the for's word -/
def WK (K : PySem.W.Frag) (sp : Addr) (ns : List Int) (tp : Addr) (i : Nat) (σ : L2.St) (H : Hp) : Prop :=
  ∃ (xs : List V) (s2 s3 s4 s5 s6 s7 s8 s9 s10 s11 : Option V), σ = [some (.ref sp), some (.ref tp), s2, s3, s4, s5, s6, s7, s8, s9, s10, s11] ∧ xs.length ≤ 1500 * i ∧ Scr K H sp ns ∧ H tp = some (.lst xs)
/-- behind the first pick -/
def M1 (K : PySem.W.Frag) (C sp : Addr) (ns : List Int) (tp : Addr) (xs : List V) (b rp : Addr) (row : List Int) (j ms : Nat) (wp : Addr) (ws : List Int) (kv t11 : Option V) (σ : L2.St) (H : Hp) : Prop :=
  ∃ due after : V, σ = [some (.ref sp), some (.ref tp), kv, some (.ref rp), some (.ref b), some (.int (j : Int)), some (.int (ms : Int)), some (.ref wp), some .non, some due, some after, t11] ∧ Al K C H sp ns tp xs b rp row j ∧ Due H row j wp .non due after ws
/-- behind the coin's -/
def M2_ (K : PySem.W.Frag) (C sp : Addr) (ns : List Int) (tp : Addr) (xs4 : List V) (b rp : Addr) (row : List Int) (j ms : Nat) (wp : Addr) (kv : Option V) (σ : L2.St) (H : Hp) : Prop :=
  ∃ (part due after : V) (t11 : Option V) (ws : List Int) (xs : List V), σ = [some (.ref sp), some (.ref tp), kv, some (.ref rp), some (.ref b), some (.int (j : Int)), some (.int (ms : Int)), some (.ref wp), some part, some due, some after, t11] ∧
    Al K C H sp ns tp xs b rp row j ∧ xs.length ≤ xs4.length + 20 ∧ Due H row j wp part due after ws
/-- behind the draw -/
def M3 (K : PySem.W.Frag) (C sp : Addr) (ns : List Int) (tp : Addr) (xs4 : List V) (b rp : Addr) (row : List Int) (j ms : Nat) (kv : Option V) (σ : L2.St) (H : Hp) : Prop :=
  ∃ (t7 t8 t9 : Option V) (after : V) (t11 : Option V) (j2 : Nat) (xs : List V), σ = [some (.ref sp), some (.ref tp), kv, some (.ref rp), some (.ref b), some (.int (j : Int)), some (.int (ms : Int)), t7, t8, t9, some after, t11] ∧
    Al K C H sp ns tp xs b rp row j2 ∧ xs.length ≤ xs4.length + 20 ∧ j ≤ j2 ∧ j2 ≤ row.length ∧ ((after = .non ∧ j2 = j) ∨ after = .int (j2 : Int))
section
variable {P : Program} {w : World} {K : PySem.W.Frag} {mg : Str → Option Value} {base : Heap} {C CN fI fU fD fB fW fL fS fT : Addr} {fdI fdU fdD fdB fdW fdL fdS fdT : FuncData}
theorem scM : FnScope nM ["_law_script"] (defScope sLaw) := ⟨rfl, rfl, rfl, by decide +kernel, rfl, by decide +kernel, by decide +kernel⟩
set_option maxHeartbeats 16000000 in
theorem ok_law {f : Addr} {fd : FuncData} (F : Fun K "law" "law" sLaw f fd) (T : Txt K mg C CN)
    (M : Mk K C fI) (GI : FnOk P w K mg base CX0 1 fI fdI ["self", "row"] (spInit C)) (bI : Binds K fdI ["self", "row"] [])
    (GU : FnOk P w K mg base CX0 1 fU fdU ["self"] (spUsed C)) (mU : Meth K C "used" fU) (bU : Binds K fdU ["self"] [])
    (GD : FnOk P w K mg base CX0 1 fD fdD ["_law_script", "_law_town", "_law_many"] (spDraw K)) (gD : mg "_law_draw" = some (.ref fD)) (kD : PySem.W.keepIn K (.ref fD) = true) (bD : Binds K fdD ["_law_script", "_law_town", "_law_many"] [])
    (GB : FnOk P w K mg base CX0 2 fB fdB ["_law_script", "_law_town", "_law_most"] (spBits K)) (gB : mg "_law_bits" = some (.ref fB)) (kB : PySem.W.keepIn K (.ref fB) = true) (bB : Binds K fdB ["_law_script", "_law_town", "_law_most"] [])
    (GW : FnOk P w K mg base CX0 3 fW fdW ["_law_script", "_law_town"] (spWeights K)) (gW : mg "_law_weights" = some (.ref fW)) (kW : PySem.W.keepIn K (.ref fW) = true) (bW : Binds K fdW ["_law_script", "_law_town"] [])
    (GL : FnOk P w K mg base CX0 1 fL fdL ["_law_row", "_law_at", "_law_weights_here"] spLPick) (gL : mg "_law_pick" = some (.ref fL)) (kL : PySem.W.keepIn K (.ref fL) = true) (bL : Binds K fdL ["_law_row", "_law_at", "_law_weights_here"] [])
    (GS : FnOk P w K mg base CX0 1 fS fdS ["_law_got", "_law_due"] spSame) (gS : mg "_law_same" = some (.ref fS)) (kS : PySem.W.keepIn K (.ref fS) = true) (bS : Binds K fdS ["_law_got", "_law_due"] [])
    (GT : FnOk P w K mg base CX0 5 fT fdT ["_law_bits_here", "_law_weights_here", "_law_part"] (spTold C)) (gT : mg "_law_told" = some (.ref fT)) (kT : PySem.W.keepIn K (.ref fT) = true) (bT : Binds K fdT ["_law_bits_here", "_law_weights_here", "_law_part"] []) :
    FnOk P w K mg base CX0 6 f fd ["_law_script"] (spLaw K) := by
  refine F.ok scM (fun vs H Q E h => ?_) (fun cdv A outer s H vs Q E hr h => ?_)
  · obtain ⟨sp, ns, rfl, _⟩ := h
    rfl
  · obtain ⟨sp, ns, rfl, hS, q⟩ := h
    have hr1 : Room 1 _ := hr.mono (by decide)
    have hr2 : Room 2 _ := hr.mono (by decide)
    have hr3 : Room 3 _ := hr.mono (by decide)
    have hr5 : Room 5 _ := hr
    refine ⟨_, pss_cons (ps_set (i := 1) scM.nd rfl (Or.inl rfl) (pe_lst pa_nil))
      (pss_cons (ps_for PassesOwn.never rfl (pi_range1 (by rfl) T.range (pa_cons pe_int pa_nil)) (pg_name (i := 2) scM.nd rfl (Or.inl rfl))
        (pss_cons (ps_set (i := 3) scM.nd rfl (Or.inl rfl) (pe_call GB hr2 (by rfl) gB kB bB .nil pass0 (pa_cons (pv 0) (pa_cons (pv 1) (pa_cons pe_int pa_nil)))))
        (pss_cons (ps_par (i := 4) (j := 5) (by rfl) scM.nd rfl rfl (by decide) rfl rfl (pa_cons (pe_make M GI hr2 (by rfl) T.mgC bI .nil pass0 (pa_cons (pv 3) pa_nil)) (pa_cons pe_int pa_nil)) (by rfl))
        (pss_cons (ps_set (i := 6) scM.nd rfl (Or.inl rfl) pe_int)
        (pss_one (ps_while PassesOwn.never (pt_cmpR op_lt (pv 6) pe_int (nomark _))
          (pss_cons (ps_par (i := 7) (j := 8) (by rfl) scM.nd rfl rfl (by decide) rfl rfl (pa_cons (pe_call GW hr3 (by rfl) gW kW bW .nil pass0 (pa_cons (pv 0) (pa_cons (pv 1) pa_nil))) (pa_cons pe_non pa_nil)) (by rfl))
          (C8.pss_cut (ps_asg (pe_call GL hr1 (by rfl) gL kL bL .nil pass0 (pa_cons (pv 3) (pa_cons (pv 5) (pa_cons (pv 7) pa_nil)))) (pg_tup rfl (pgs_cons (pg_name (i := 9) scM.nd rfl (Or.inl rfl)) (pgs_cons (pg_name (i := 10) scM.nd rfl (Or.inl rfl)) pgs_nil))))
          (C8.pss_cut (ps_if (pt_cmpR op_eq (pe_call GD hr1 (by rfl) gD kD bD .nil pass0 (pa_cons (pv 0) (pa_cons (pv 1) (pa_cons pe_int pa_nil)))) pe_int (nomark _))
            (pss_cons (ps_set (i := 11) scM.nd rfl (Or.inl rfl) (pe_op op_add pe_int (pe_call GD hr1 (by rfl) gD kD bD .nil pass0 (pa_cons (pv 0) (pa_cons (pv 1) (pa_cons pe_int pa_nil))))))
            (pss_cons (ps_set (i := 8) scM.nd rfl (Or.inl rfl) (pe_tup (pa_cons (pe_call GD hr1 (by rfl) gD kD bD .nil pass0 (pa_cons (pv 0) (pa_cons (pv 1) (pa_cons (pe_op op_add (pv 11) pe_int) pa_nil)))) (pa_cons (pv 11) pa_nil))))
            (pss_cons (ps_asg (pe_call GL hr1 (by rfl) gL kL bL .nil pass0 (pa_cons (pv 3) (pa_cons (pv 5) (pa_cons (pe_tupF (pa_cons (pe_op op_sub (pv 11) (pe_ix ix_tup (pv 8) pe_int (fun _ _ => rfl))) (pa_cons (pe_ix ix_tup (pv 8) pe_int (fun _ _ => rfl)) pa_nil))) pa_nil)))) (pg_tup rfl (pgs_cons (pg_name (i := 9) scM.nd rfl (Or.inl rfl)) (pgs_cons (pg_name (i := 10) scM.nd rfl (Or.inl rfl)) pgs_nil))))
            (pss_one (ps_set (i := 9) scM.nd rfl (Or.inl rfl) (pe_ifExp (pt_cmpR op_notN (pv 10) pe_non (nomark _)) (pe_cmpR op_eq (pv 9) pe_int (nomark _)) (pv 9))))))) pss_nil)
          (C8.pss_cut (ps_if (pt_not (pt_val (pe_call GS hr1 (by rfl) gS kS bS .nil pass0 (pa_cons (pe_call GT hr5 (by rfl) gT kT bT .nil pass0 (pa_cons (pv 4) (pa_cons (pv 7) (pa_cons (pv 8) pa_nil)))) (pa_cons (pv 9) pa_nil))))) pss_never pss_nil)
          (pss_cons (ps_set (i := 6) scM.nd rfl (Or.inl rfl) (pe_op op_add (pv 6) (pe_callTy call_int1 (by rfl) T.int (by decide +kernel) (pa_cons (pe_or (pe_cmpR op_isN (pv 10) pe_non (nomark _)) (pe_one (pe_cmpR op_eq (pv 10) (pv 5) (nomark _)))) pa_nil))))
          (pss_cons (ps_set (i := 5) scM.nd rfl (Or.inl rfl) (pe_ifExp (pt_cmpR op_isN (pv 10) pe_non (nomark _)) (pv 5) (pv 10)))
          (pss_one (ps_if (pt_cmpR op_ne (pe_meth0 (pv 4) T.cl mU GU hr1 bU .nil pass0) (pv 5) (nomark _)) pss_never pss_nil))))))))))))))
      (pss_one (ps_ret pe_bl))), ?_⟩
    -- the town's list
    refine ⟨(by show 0 ≤ sizeLine; decide), fun tp htp => ?_⟩
    have hS0 : Scr K (upd H tp (.lst [])) sp ns := hS.keep fun o u e => by
      rw [upd_ne (ne_of_none e htp)]
      exact e
    refine ⟨5, rfl, by decide, by decide, for_range (lo := 0) (n := 5) (WK K sp ns tp) ⟨[], none, none, none, none, none, none, none, none, none, none, rfl, Nat.zero_le _, hS0, upd_same⟩ ?_ fun σ H' _ => q H'⟩
    rintro i σ H1 hi ⟨xs, s2, s3, s4, s5, s6, s7, s8, s9, s10, s11, rfl, hx, hS1, ht1⟩
    -- a row
    refine ⟨_, rfl, _, rfl, sp, tp, ns, xs, rfl, hS1, ht1, by omega, fun H2 rp row xs2 hrf hrow ht2 hx2 hF2 => ?_⟩
    have hS2 : Scr K H2 sp ns := hS1.fr1 hF2 fun o u e => by
      rw [ht1] at e
      cases e
    -- its Bits
    refine ⟨_, rfl, fun b dx nb ndx nbd => ⟨b, rp, dx, rfl, upd_same, fun H3 hB3 hF3 => ⟨rfl, _, _, rfl, ?_⟩⟩⟩
    have sm : Same H2 (upd (upd H2 dx (.own b)) b (.ins C dx [])) := fun c o e => by
      rw [upd_ne (ne_of_none e nb), upd_ne (ne_of_none e ndx)]
      exact e
    have sm3 : Same H2 H3 := fun c o e => hF3 c o (sm c o e) (ne_of_none e nb)
    have a3 : Al K C H3 sp ns tp xs2 b rp row 0 := ⟨hS2.keep fun o u e => sm3 sp _ e, sm3 _ _ ht2, hB3, hrow.keep fun o e => sm3 rp o e⟩
    have hrl := hrow.few
    -- draw by draw
    refine ⟨WO K C sp ns tp (some (.int (0 + (i : Nat)))) b rp row (1500 * (i + 1)), ⟨_, 0, 0, xs2, s7, s8, s9, s10, s11, rfl, rfl, Nat.zero_le _, by omega, a3⟩, ?_⟩
    rintro m σ H4 ⟨j, ms, xs4, t7, t8, t9, t10, t11, hm, rfl, hj, hx4, a4⟩
    refine ⟨_, rfl, _, _, rfl, rfl, _, rfl, ?_⟩
    refine ite2 (fun c => ?_) (fun c => ?_)
    rotate_left
    · exact ⟨xs4, _, _, _, _, _, t7, t8, t9, t10, t11, rfl, by omega, a4.scr, a4.tn⟩
    have hms : ms < 4 := by
      have z := of_decide_eq_true c
      omega
    refine ⟨fun σ' H' => ∃ m', m' < m ∧ WO K C sp ns tp (some (.int (0 + (i : Nat)))) b rp row (1500 * (i + 1)) m' σ' H', fun _ _ z => z, ?_⟩
    -- the weights
    refine ⟨_, rfl, _, rfl, sp, tp, ns, xs4, rfl, a4.scr, a4.tn, by omega, fun H5 wp ws xs5 hwf hT5 hW5 ht5 hx5 hF5 => ⟨_, _, rfl, ?_⟩⟩
    have a5 := a4.town hF5 ht5
    -- what is due of a pick
    refine ⟨M1 K C sp ns tp xs5 b rp row j ms wp ws (some (.int (0 + (i : Nat)))) t11, ?_, ?_⟩
    · refine ⟨_, rfl, _, rfl, _, rfl, rp, wp, row, j, ws, rfl, a5.rw_, hj, hT5, hW5, fun n k' e H6 p6 hS6 hp6 => ?_, fun e H6 p6 hS6 hp6 => ?_⟩
      · refine ⟨p6, _, rfl, SqT.of hp6, rfl, _, _, rfl, _, _, rfl, rfl, ?_⟩
        refine ⟨.int n, .int k', rfl, a5.same hS6, fun n2 k2 e2 => ?_, fun e2 => (by rw [e] at e2; cases e2), .inl ⟨rfl, hT5.keep fun o z => hS6 wp o z, hW5, fun n2 k2 e2 => ?_⟩⟩
        · rw [e] at e2
          cases e2
          exact ⟨rfl, pickF_at hj e⟩
        · rw [e] at e2
          cases e2
          rfl
      · refine ⟨p6, _, rfl, SqT.of hp6, rfl, _, _, rfl, _, _, rfl, rfl, ?_⟩
        exact ⟨.str "NoBits", .non, rfl, a5.same hS6, fun n2 k2 e2 => (by rw [e] at e2; cases e2), fun e2 => ⟨rfl, rfl⟩, .inl ⟨rfl, hT5.keep fun o z => hS6 wp o z, hW5, fun n2 k2 e2 => (by rw [e] at e2; cases e2)⟩⟩
    rintro σ1 H7 ⟨due, after, rfl, a7, hdue⟩
    -- the coin
    refine ⟨M2_ K C sp ns tp xs4 b rp row j ms wp (some (.int (0 + (i : Nat)))), ?_, ?_⟩
    · refine ⟨_, rfl, _, rfl, sp, tp, ns, xs5, 3, rfl, a7.scr, a7.tn, by omega, by decide, fun v v0 v1 => ⟨rfl, _, rfl, ?_⟩⟩
      have a8 := a7.drawn
      refine ite2 (fun c2 => ?_) (fun c2 => ?_)
      · refine ⟨_, rfl, _, rfl, sp, tp, ns, _, 30, rfl, a8.scr, a8.tn, (by simp; omega), by decide, fun u u0 u1 => ⟨_, _, rfl, rfl, ?_⟩⟩
        have a9 := a8.drawn
        refine ⟨_, rfl, _, rfl, _, rfl, _, _, rfl, rfl, sp, tp, ns, _, _, rfl, a9.scr, a9.tn, (by simp; omega), (by show 1 ≤ 1 + u + 1; omega), fun up up0 up1 => ⟨_, rfl, (by show 2 ≤ sizeLine; decide), fun pp hpp => ?_⟩⟩
        have up1' : up < 1 + u + 1 := up1
        have a10 := a9.drawn.new (o := .tup [.int up, .int (1 + u)]) hpp
        refine ⟨_, rfl, _, rfl, _, rfl, _, rfl, pp, _, _, .int up, rfl, rfl, SqT.of upd_same, rfl, _, _, rfl, rfl, _, rfl, pp, _, _, .int up, rfl, rfl, SqT.of upd_same, rfl, (by show 2 ≤ sizeLine; decide), fun wq o hwq ho1 ho2 => ?_⟩
        have a11 := a10.new (o := .frz o (.tup [.int (1 + u - up), .int up])) hwq
        have hpp2 : upd (upd (upd (upd (upd H7 tp (.lst (xs5 ++ [.int 0]))) tp (.lst (xs5 ++ [.int 0] ++ [.int 0]))) tp (.lst (xs5 ++ [.int 0] ++ [.int 0] ++ [.int 0]))) pp (.tup [.int up, .int (1 + u)])) wq (.frz o (.tup [.int (1 + u - up), .int up])) pp = some (.tup [.int up, .int (1 + u)]) := by
          rw [upd_ne (ne_of_none upd_same hwq), upd_same]
        refine ⟨rp, wq, row, j, [1 + u - up, up], rfl, a11.rw_, hj, ⟨o, ho1, ho2, upd_same⟩, ⟨?_, ?_, ?_⟩, fun n k' e H8 p8 hS8 hp8 => ?_, fun e H8 p8 hS8 hp8 => ?_⟩
        · intro w hw
          have z : w = 1 + u - up ∨ w = up := by simpa using hw
          omega
        · show 0 < (1 + u - up) + (up + 0)
          omega
        · show 2 ≤ 10
          decide
        · refine ⟨p8, _, rfl, SqT.of hp8, rfl, _, _, rfl, _, _, rfl, rfl, ?_⟩
          refine ⟨_, rfl, rfl, _, rfl, ?_⟩
          rw [decide_eq_false (fun z => nomatch z)]
          refine iteT ?_
          refine ⟨_, rfl, rfl, ?_⟩
          refine ⟨.ref pp, _, .int k', _, [1 + u - up, up], _, rfl, a11.same hS8, (by simp; omega), fun n2 k2 e2 => ?_, fun e2 => (by rw [e] at e2; cases e2), .inr ⟨pp, up, 1 + u, rfl, hS8 _ _ hpp2, up0, by omega, by omega, by omega, rfl, fun n2 k2 e2 => ?_⟩⟩
          · rw [e] at e2
            cases e2
            exact ⟨rfl, pickF_at hj e⟩
          · rw [e] at e2
            cases e2
            simp
        · refine ⟨p8, _, rfl, SqT.of hp8, rfl, _, _, rfl, _, _, rfl, rfl, ?_⟩
          refine ⟨_, rfl, rfl, _, rfl, ?_⟩
          rw [decide_eq_true rfl]
          refine iteF ?_
          refine ⟨_, rfl, ?_⟩
          exact ⟨.ref pp, _, .non, _, [1 + u - up, up], _, rfl, a11.same hS8, (by simp; omega), fun n2 k2 e2 => (by rw [e] at e2; cases e2), fun e2 => ⟨rfl, rfl⟩, .inr ⟨pp, up, 1 + u, rfl, hS8 _ _ hpp2, up0, by omega, by omega, by omega, rfl, fun n2 k2 e2 => (by rw [e] at e2; cases e2)⟩⟩
      · obtain ⟨d1, d2, d3⟩ := hdue
        rcases d3 with ⟨_, hT7, hW7, d4⟩ | ⟨_, _, _, z, _⟩
        · refine ⟨.non, due, after, t11, ws, _, rfl, a8, (by simp; omega), d1, d2, .inl ⟨rfl, hT7.keep fun o z => ?_, hW7, d4⟩⟩
          rw [upd_ne (fun y => by
            obtain ⟨o7, _, _, e7⟩ := hT7
            rw [y, a7.tn] at e7
            cases e7)]
          exact z
        · cases z
    rintro σ2 H9 ⟨part, due2, after2, t12, ws2, xs9, rfl, a9, hx9, d1, d2, d3⟩
    -- the draw, and whether it is what is due
    refine ⟨M3 K C sp ns tp xs4 b rp row j ms (some (.int (0 + (i : Nat)))), ?_, ?_⟩
    · refine ⟨_, rfl, _, rfl, _, rfl, b, rp, wp, row, j, ws2, part, rfl, a9.bt, a9.rw_, hj, ?_, fun e H' hB' hF' => ?_⟩
      · rcases d3 with ⟨rfl, hT9, hW9, d4⟩ | ⟨pp, up, lo, rfl, hpp, h0, h1, h2, h3, rfl, d4⟩
        · refine .inl ⟨rfl, hT9, hW9, fun n k' e H' hB' hF' => ?_⟩
          obtain ⟨e1, e2, e3⟩ := d1 n k' e
          have e4 := d4 n k' e
          subst e4
          refine ⟨_, rfl, .int n, rfl, .inl ⟨n, rfl⟩, true, rfl, ?_⟩
          refine iteF ?_
          exact ⟨some (.ref wp), some .non, some (.int n), after2, t12, k', xs9, rfl, a9.bits hF' hB', hx9, e2, e3, .inr e1⟩
        · refine .inr ⟨pp, up, lo, rfl, hpp, h0, h1, h2, h3, rfl, fun n k' e H' hB' hF' => ?_⟩
          obtain ⟨e1, e2, e3⟩ := d1 n k' e
          have e4 := d4 n k' e
          subst e4
          refine ⟨_, rfl, .bl (decide (n = 1)), rfl, .inr (.inl ⟨_, rfl⟩), true, rfl, ?_⟩
          refine iteF ?_
          exact ⟨some (.ref wp), _, _, after2, t12, k', xs9, rfl, a9.bits hF' hB', hx9, e2, e3, .inr e1⟩
      · obtain ⟨e1, e4⟩ := d2 e
        subst e4
        refine ⟨_, rfl, .str "NoBits", rfl, .inr (.inr ⟨_, rfl⟩), true, rfl, ?_⟩
        refine iteF ?_
        exact ⟨some (.ref wp), _, _, after2, t12, j, xs9, rfl, a9.bits hF' hB', hx9, Nat.le_refl _, hj, .inl ⟨e1, rfl⟩⟩
    rintro σ3 H10 ⟨u7, u8, u9, after3, u11, j2, xs10, rfl, a10, hx10, hj1, hj2, haf⟩
    obtain ⟨dx10, hb10⟩ := id a10.bt
    rcases haf with ⟨rfl, rfl⟩ | rfl
    · -- nothing was taken: one miss more
      refine ⟨_, rfl, _, rfl, rfl, true, rfl, ?_⟩
      refine iteT ?_
      refine .inr ⟨true, rfl, _, _, rfl, rfl, ?_⟩
      refine ⟨_, rfl, rfl, _, rfl, ?_⟩
      rw [decide_eq_true rfl]
      refine iteT ?_
      refine ⟨_, rfl, ?_⟩
      refine ⟨_, rfl, b, dx10, _, rfl, hb10, flds_no _ _ (by decide +kernel) (by decide +kernel), b, rp, j2, rfl, a10.bt, _, rfl, rfl, _, rfl, ?_⟩
      refine iteNS rfl ?_
      exact ⟨(4 - (ms + 1)) + (row.length - j2), by omega, j2, ms + 1, xs10, _, _, _, _, _, rfl, rfl, hj2, by omega, a10⟩
    · refine ⟨_, rfl, _, rfl, rfl, false, rfl, ?_⟩
      refine iteF ?_
      refine ⟨_, rfl, _, rfl, rfl, ?_⟩
      refine .inr ⟨_, rfl, _, _, rfl, rfl, ?_⟩
      refine ⟨_, rfl, rfl, _, rfl, ?_⟩
      rw [decide_eq_false (show ¬ (V.int (j2 : Int) = V.non) from fun z => nomatch z)]
      refine iteF ?_
      refine ⟨_, rfl, ?_⟩
      refine ⟨_, rfl, b, dx10, _, rfl, hb10, flds_no _ _ (by decide +kernel) (by decide +kernel), b, rp, j2, rfl, a10.bt, _, rfl, rfl, _, rfl, ?_⟩
      refine iteNS rfl ?_
      by_cases hjj : j2 = j
      · subst hjj
        exact ⟨(4 - (ms + 1)) + (row.length - j2), by omega, j2, ms + 1, xs10, u7, u8, u9, some (.int (j2 : Int)), u11, rfl, by simp, hj2, by omega, a10⟩
      · have d0 : decide (V.int (j2 : Int) = V.int (j : Int)) = false := decide_eq_false fun z => hjj (by have y := V.int.inj z; omega)
        exact ⟨(4 - ms) + (row.length - j2), by omega, j2, ms, xs10, u7, u8, u9, some (.int (j2 : Int)), u11, rfl, by simp; omega, hj2, by omega, a10⟩
end
end K10
/-! what the top has written, each a fact that k_is finds; the end -/
namespace K10
open PySem PySem.Spec PyProof.Rows L2 L2H R1 M2
/-- an error of the class at S is what «except S» names -/
theorem exm_self {K : PySem.W.Frag} {S : Addr} (h1 : PySem.W.subIn K (.ref S) (.type "BaseException") = some true) (h2 : PySem.W.isClsIn K S = true) (h3 : PySem.W.typeIn K (.ref S) = some (.type "type")) (h4 : PySem.W.subIn K (.ref S) (.ref S) = some true) :
    PySem.W.exmOne K (.ref S) (.ref S) = some true := by
  have e1 : (PySem.W.subIn K (.ref S) (.type "BaseException") == some true) = true := by rw [h1] <;> rfl
  have e2 : ((PySem.W.clsIn K S).isSome && PySem.W.typeIn K (.ref S) == some (.type "type")) = true := by
    have h2' : (PySem.W.clsIn K S).isSome = true := h2
    rw [h2', h3] <;> rfl
  show (if (PySem.W.subIn K (.ref S) (.type "BaseException") == some true) = true then (if ((PySem.W.clsIn K S).isSome && PySem.W.typeIn K (.ref S) == some (.type "type")) = true then PySem.W.subIn K (.ref S) (.ref S) else none) else none) = some true
  rw [if_pos e1, if_pos e2]
  exact h4
theorem all_mk {l : PySem.W.OpenLaw} {w : World} {K : PySem.W.Frag} {h : Heap} {mg : Str → Option Value} {fa C CN fF fP fC fS fD fO fB fL fW fT fZ fI fK fU fG : Addr} (X : K.In h) (G : h.Ns mainGlobals mg) (hfa : mg "law" = some (.ref fa))
    {odF anF odP anP odC anC odS anS odD anD odO anO odB anB odL anL odW anW odT anT odZ anZ odI anI odK anK odU anU odG anG : Option Addr} {slF slP slC slS slD slO slB slL slW slT slZ slI slK slU slG : Array (Option Value)} {ocF kVF dcF pmF cdF ctF ocP kVP dcP pmP cdP ctP ocC kVC dcC pmC cdC ctC ocS kVS dcS pmS cdS ctS ocD kVD dcD pmD cdD ctD ocO kVO dcO pmO cdO ctO ocB kVB dcB pmB cdB ctB ocL kVL dcL pmL cdL ctL ocW kVW dcW pmW cdW ctW ocT kVT dcT pmT cdT ctT ocZ kVZ dcZ pmZ cdZ ctZ ocI kVI dcI pmI cdI ctI ocK kVK dcK pmK cdK ctK ocU kVU dcU pmU cdU ctU ocG kVG dcG pmG cdG ctG : Value}
    (aCls : PySem.W.nsIn K mainGlobals "Bits" = some (some (.ref C))) (aErr : PySem.W.nsIn K mainGlobals "NoBits" = some (some (.ref CN)))
    (aF : PySem.W.nsIn K mainGlobals "pick_from" = some (some (.ref fF))) (lF : K.lookup fF = some ⟨ocF, odF, .func (PySem.W.fnOf "pick_from" "pick_from" (defArgs sFrom) (defBody sFrom) (defScope sFrom) .none kVF dcF pmF anF cdF ctF), slF⟩) (cF : PySem.W.codeIn K cdF "pick_from" = true) (kF : PySem.W.keepIn K (.ref fF) = true)
    (aP : PySem.W.nsIn K mainGlobals "pick" = some (some (.ref fP))) (lP : K.lookup fP = some ⟨ocP, odP, .func (PySem.W.fnOf "pick" "pick" (defArgs sPick) (defBody sPick) (defScope sPick) .none kVP dcP pmP anP cdP ctP), slP⟩) (cP : PySem.W.codeIn K cdP "pick" = true) (kP : PySem.W.keepIn K (.ref fP) = true)
    (aC : PySem.W.nsIn K mainGlobals "coin" = some (some (.ref fC))) (lC : K.lookup fC = some ⟨ocC, odC, .func (PySem.W.fnOf "coin" "coin" (defArgs sCoin) (defBody sCoin) (defScope sCoin) .none kVC dcC pmC anC cdC ctC), slC⟩) (cC : PySem.W.codeIn K cdC "coin" = true) (kC : PySem.W.keepIn K (.ref fC) = true)
    (aS : PySem.W.nsIn K mainGlobals "_law_same" = some (some (.ref fS))) (lS : K.lookup fS = some ⟨ocS, odS, .func (PySem.W.fnOf "_law_same" "_law_same" (defArgs sSame) (defBody sSame) (defScope sSame) .none kVS dcS pmS anS cdS ctS), slS⟩) (cS : PySem.W.codeIn K cdS "_law_same" = true) (kS : PySem.W.keepIn K (.ref fS) = true)
    (aD : PySem.W.nsIn K mainGlobals "_law_draw" = some (some (.ref fD))) (lD : K.lookup fD = some ⟨ocD, odD, .func (PySem.W.fnOf "_law_draw" "_law_draw" (defArgs sDraw) (defBody sDraw) (defScope sDraw) .none kVD dcD pmD anD cdD ctD), slD⟩) (cD : PySem.W.codeIn K cdD "_law_draw" = true) (kD : PySem.W.keepIn K (.ref fD) = true)
    (aO : PySem.W.nsIn K mainGlobals "_law_one" = some (some (.ref fO))) (lO : K.lookup fO = some ⟨ocO, odO, .func (PySem.W.fnOf "_law_one" "_law_one" (defArgs sOne) (defBody sOne) (defScope sOne) .none kVO dcO pmO anO cdO ctO), slO⟩) (cO : PySem.W.codeIn K cdO "_law_one" = true) (kO : PySem.W.keepIn K (.ref fO) = true)
    (aB : PySem.W.nsIn K mainGlobals "_law_bits" = some (some (.ref fB))) (lB : K.lookup fB = some ⟨ocB, odB, .func (PySem.W.fnOf "_law_bits" "_law_bits" (defArgs sBits) (defBody sBits) (defScope sBits) .none kVB dcB pmB anB cdB ctB), slB⟩) (cB : PySem.W.codeIn K cdB "_law_bits" = true) (kB : PySem.W.keepIn K (.ref fB) = true)
    (aL : PySem.W.nsIn K mainGlobals "_law_pick" = some (some (.ref fL))) (lL : K.lookup fL = some ⟨ocL, odL, .func (PySem.W.fnOf "_law_pick" "_law_pick" (defArgs sLPick) (defBody sLPick) (defScope sLPick) .none kVL dcL pmL anL cdL ctL), slL⟩) (cL : PySem.W.codeIn K cdL "_law_pick" = true) (kL : PySem.W.keepIn K (.ref fL) = true)
    (aW : PySem.W.nsIn K mainGlobals "_law_weights" = some (some (.ref fW))) (lW : K.lookup fW = some ⟨ocW, odW, .func (PySem.W.fnOf "_law_weights" "_law_weights" (defArgs sWeights) (defBody sWeights) (defScope sWeights) .none kVW dcW pmW anW cdW ctW), slW⟩) (cW : PySem.W.codeIn K cdW "_law_weights" = true) (kW : PySem.W.keepIn K (.ref fW) = true)
    (aT : PySem.W.nsIn K mainGlobals "_law_told" = some (some (.ref fT))) (lT : K.lookup fT = some ⟨ocT, odT, .func (PySem.W.fnOf "_law_told" "_law_told" (defArgs sTold) (defBody sTold) (defScope sTold) .none kVT dcT pmT anT cdT ctT), slT⟩) (cT : PySem.W.codeIn K cdT "_law_told" = true) (kT : PySem.W.keepIn K (.ref fT) = true)
    (aZ : PySem.W.nsIn K mainGlobals "law" = some (some (.ref fZ))) (lZ : K.lookup fZ = some ⟨ocZ, odZ, .func (PySem.W.fnOf "law" "law" (defArgs sLaw) (defBody sLaw) (defScope sLaw) .none kVZ dcZ pmZ anZ cdZ ctZ), slZ⟩) (cZ : PySem.W.codeIn K cdZ "law" = true) (kZ : PySem.W.keepIn K (.ref fZ) = true)
    (aI : PySem.W.findIn K (.ref C) "__init__" = some (some (.ref fI))) (iI : PySem.W.isFn K (.ref fI) = true) (lI : K.lookup fI = some ⟨ocI, odI, .func (PySem.W.fnOf "__init__" "Bits.__init__" (defArgs sInit) (defBody sInit) (defScope sInit) .none kVI dcI pmI anI cdI ctI), slI⟩) (cI : PySem.W.codeIn K cdI "Bits.__init__" = true) (kI : PySem.W.keepIn K (.ref fI) = true)
    (aK : PySem.W.findIn K (.ref C) "take" = some (some (.ref fK))) (iK : PySem.W.isFn K (.ref fK) = true) (lK : K.lookup fK = some ⟨ocK, odK, .func (PySem.W.fnOf "take" "Bits.take" (defArgs sTake) (defBody sTake) (defScope sTake) .none kVK dcK pmK anK cdK ctK), slK⟩) (cK : PySem.W.codeIn K cdK "Bits.take" = true) (kK : PySem.W.keepIn K (.ref fK) = true)
    (aU : PySem.W.findIn K (.ref C) "used" = some (some (.ref fU))) (iU : PySem.W.isFn K (.ref fU) = true) (lU : K.lookup fU = some ⟨ocU, odU, .func (PySem.W.fnOf "used" "Bits.used" (defArgs sUsed) (defBody sUsed) (defScope sUsed) .none kVU dcU pmU anU cdU ctU), slU⟩) (cU : PySem.W.codeIn K cdU "Bits.used" = true) (kU : PySem.W.keepIn K (.ref fU) = true)
    (aG : PySem.W.findIn K (.ref C) "go_back" = some (some (.ref fG))) (iG : PySem.W.isFn K (.ref fG) = true) (lG : K.lookup fG = some ⟨ocG, odG, .func (PySem.W.fnOf "go_back" "Bits.go_back" (defArgs sBack) (defBody sBack) (defScope sBack) .none kVG dcG pmG anG cdG ctG), slG⟩) (cG : PySem.W.codeIn K cdG "Bits.go_back" = true) (kG : PySem.W.keepIn K (.ref fG) = true)
    (pg : PySem.W.plainGet K C Str.empty = true) (hd : PySem.W.hasDictIn K C = true) (po : PySem.W.plainOver K C = true) (sa : PySem.W.findIn K (.ref C) "__setattr__" = some (some (.builtin "object.__setattr__"))) (mk : PySem.W.makesIn K C = true) (kc : PySem.W.keepIn K (.ref C) = true)
    (nR : PySem.W.findIn K (.ref C) "row" = some none) (nA : PySem.W.findIn K (.ref C) "at" = some none)
    (xN : PySem.W.excIn K CN [.type "ValueError", .type "Exception", .type "BaseException", .type "object"] "ValueError.__new__" = true) (kN : PySem.W.keepIn K (.ref CN) = true) (bN : PySem.W.subIn K (.ref CN) (.type "BaseException") = some true) (tN : PySem.W.typeIn K (.ref CN) = some (.type "type")) (iN : PySem.W.isClsIn K CN = true) (sN : PySem.W.subIn K (.ref CN) (.ref CN) = some true)
    (zlen : PySem.W.nsIn K mainGlobals "len" = some none) (zsum : PySem.W.nsIn K mainGlobals "sum" = some none) (zlist : PySem.W.nsIn K mainGlobals "list" = some none) (ztuple : PySem.W.nsIn K mainGlobals "tuple" = some none) (zint : PySem.W.nsIn K mainGlobals "int" = some none) (zrange : PySem.W.nsIn K mainGlobals "range" = some none) (zenum : PySem.W.nsIn K mainGlobals "enumerate" = some none) (zisi : PySem.W.nsIn K mainGlobals "isinstance" = some none) (zbool : PySem.W.nsIn K mainGlobals "bool" = some none) (zstr : PySem.W.nsIn K mainGlobals "str" = some none) :
    ∃ fd : FuncData, (∀ (s : Shared) (v : Value), BindsTo s fd ⟨[v], []⟩ [("_law_script", v)]) ∧ ∀ base : Heap, K.In base → base.Ns mainGlobals mg → FnOk l.prog w K mg base CX0 6 fa fd ["_law_script"] (spLaw K) := by
  have e := hfa.symm.trans (PySem.W.mg_of X G aZ)
  cases e
  have T : Txt K mg C CN := { cl := ⟨pg, hd, po, sa⟩, nR := nR, nA := nA, mgC := PySem.W.mg_of X G aCls, gN := PySem.W.mg_of X G aErr, xN := xN, kN := kN, bN := bN, tN := tN, eN := exm_self bN iN tN sN, len := PySem.W.mg_none_of X G zlen, sum := PySem.W.mg_none_of X G zsum, list := PySem.W.mg_none_of X G zlist, tuple := PySem.W.mg_none_of X G ztuple, int := PySem.W.mg_none_of X G zint, range := PySem.W.mg_none_of X G zrange, enum := PySem.W.mg_none_of X G zenum, isi := PySem.W.mg_none_of X G zisi, bool := PySem.W.mg_none_of X G zbool, str := PySem.W.mg_none_of X G zstr }
  have FF := fun_mk (st := sFrom) lF cF kF
  have FP := fun_mk (st := sPick) lP cP kP
  have FC := fun_mk (st := sCoin) lC cC kC
  have FS := fun_mk (st := sSame) lS cS kS
  have FD := fun_mk (st := sDraw) lD cD kD
  have FO := fun_mk (st := sOne) lO cO kO
  have FB := fun_mk (st := sBits) lB cB kB
  have FL := fun_mk (st := sLPick) lL cL kL
  have FW := fun_mk (st := sWeights) lW cW kW
  have FT := fun_mk (st := sTold) lT cT kT
  have FZ := fun_mk (st := sLaw) lZ cZ kZ
  have FI := fun_mk (st := sInit) lI cI kI
  have FK := fun_mk (st := sTake) lK cK kK
  have FU := fun_mk (st := sUsed) lU cU kU
  have FG := fun_mk (st := sBack) lG cG kG
  have bF := FF.binds (ps := ["bits", "weights"]) fun _ _ _ _ _ _ us hl => match us, hl with | [_, _], _ => rfl
  have bP := FP.binds (ps := ["bits", "weights"]) fun _ _ _ _ _ _ us hl => match us, hl with | [_, _], _ => rfl
  have bC := FC.binds (ps := ["bits", "upper", "lower"]) fun _ _ _ _ _ _ us hl => match us, hl with | [_, _, _], _ => rfl
  have bS := FS.binds (ps := ["_law_got", "_law_due"]) fun _ _ _ _ _ _ us hl => match us, hl with | [_, _], _ => rfl
  have bD := FD.binds (ps := ["_law_script", "_law_town", "_law_many"]) fun _ _ _ _ _ _ us hl => match us, hl with | [_, _, _], _ => rfl
  have bO := FO.binds (ps := ["_law_script", "_law_town", "_law_some"]) fun _ _ _ _ _ _ us hl => match us, hl with | [_, _, _], _ => rfl
  have bB := FB.binds (ps := ["_law_script", "_law_town", "_law_most"]) fun _ _ _ _ _ _ us hl => match us, hl with | [_, _, _], _ => rfl
  have bL := FL.binds (ps := ["_law_row", "_law_at", "_law_weights_here"]) fun _ _ _ _ _ _ us hl => match us, hl with | [_, _, _], _ => rfl
  have bW := FW.binds (ps := ["_law_script", "_law_town"]) fun _ _ _ _ _ _ us hl => match us, hl with | [_, _], _ => rfl
  have bT := FT.binds (ps := ["_law_bits_here", "_law_weights_here", "_law_part"]) fun _ _ _ _ _ _ us hl => match us, hl with | [_, _, _], _ => rfl
  have bI := FI.binds (ps := ["self", "row"]) fun _ _ _ _ _ _ us hl => match us, hl with | [_, _], _ => rfl
  have bK := FK.binds (ps := ["self"]) fun _ _ _ _ _ _ us hl => match us, hl with | [_], _ => rfl
  have bU := FU.binds (ps := ["self"]) fun _ _ _ _ _ _ us hl => match us, hl with | [_], _ => rfl
  have bG := FG.binds (ps := ["self", "many"]) fun _ _ _ _ _ _ us hl => match us, hl with | [_, _], _ => rfl
  have gF := PySem.W.mg_of X G aF
  have gP := PySem.W.mg_of X G aP
  have gC := PySem.W.mg_of X G aC
  have gS := PySem.W.mg_of X G aS
  have gD := PySem.W.mg_of X G aD
  have gO := PySem.W.mg_of X G aO
  have gB := PySem.W.mg_of X G aB
  have gL := PySem.W.mg_of X G aL
  have gW := PySem.W.mg_of X G aW
  have gT := PySem.W.mg_of X G aT
  have mI : Meth K C "__init__" fI := ⟨aI, iI, kI⟩
  have mK : Meth K C "take" fK := ⟨aK, iK, kK⟩
  have mU : Meth K C "used" fU := ⟨aU, iU, kU⟩
  have mG : Meth K C "go_back" fG := ⟨aG, iG, kG⟩
  refine ⟨PySem.W.fnOf "law" "law" (defArgs sLaw) (defBody sLaw) (defScope sLaw) .none kVZ dcZ pmZ anZ cdZ ctZ, fun s v => .of_eq rfl, fun base _ _ => ?_⟩
  have GP : FnOk l.prog w K mg base (L2.CX l.prog w) 3 fP _ ["bits", "weights"] (spPick C CN) := ok_pick FP T FK mK bK FU mU bU FG mG bG FF gF bF
  have GC : FnOk l.prog w K mg base (L2.CX l.prog w) 4 fC _ ["bits", "upper", "lower"] (spCoin C CN) := ok_coin FC FP GP gP bP
  exact ok_law FZ T ⟨mk, aI, iI, kc⟩ (ok_init FI T) bI (ok_used FU T) mU bU (ok_draw FD T) gD kD bD (ok_bits FB T FD gD bD) gB kB bB (ok_weights FW T FD gD bD FO gO bO) gW kW bW (ok_lpick FL T) gL kL bL (ok_same FS T) gS kS bS
    (ok_told FT T FP GP gP bP FC GC gC bC) gT kT bT
theorem walk {l : PySem.W.OpenLaw} {q : Program} {loose : List Str} {XP : (Str → Option Value) → Heap → Prop} {YP : World → Heap → Prop} {d : DefRec} {K : Params → PySem.W.Frag} (hn : l.most = some 63) (hdf : d.params.defaults = [])
    (hY : ∀ (w : World) (h : Heap), YP w h → (K w.params).In h)
    (F : ∀ (w : World) (mg : Str → Option Value) (fa : Addr) (h : Heap), (K w.params).In h → h.Ns mainGlobals mg → mg d.name = some (.ref fa) →
      ∃ fd : FuncData, (∀ (s : Shared) (u : Value), BindsTo s fd ⟨[u], []⟩ [("_law_script", u)]) ∧ ∀ base : Heap, (K w.params).In base → base.Ns mainGlobals mg → FnOk l.prog w (K w.params) mg base CX0 6 fa fd ["_law_script"] (spLaw (K w.params))) :
    PySem.W.WalkO q loose XP YP l.row.toRowW d [] (fun f vs => PySem.call f vs) :=
  L2.walk_of (n := 63) (k := 6) (x := "_law_script") (CX := fun _ => CX0) (sp := fun w => spLaw (K w.params)) hn (by decide) hdf ⟨rfl, by decide, by decide⟩ hY F (fun _ _ a ns hl ho hS => ⟨a, ns, rfl, .of ho hS, fun _ => rfl⟩) fun _ _ _ _ _ z => z
end K10
open PySem PySem.W PyProof.Rows
set_option maxRecDepth 100000 in
set_option maxHeartbeats 0 in
theorem PySem.Challenge.cw_bitdraws_k10_whole_numbers_by_shares_holds : PySem.Challenge.rw_bitdraws_k10_whole_numbers_by_shares.Holds := by
  w_on; o_law; k_head; (case hw => w_witness2)
  k_fill
  refine K10.walk (l := PySem.Challenge.rw_bitdraws_k10_whole_numbers_by_shares) rfl rfl (fun w h Y => PySem.W.kIn_of Y) ?F
  case F =>
    intro w mg fa h KX G hmg
    refine' K10.all_mk KX G hmg ?aCls ?aErr ?aF ?lF ?cF ?kF ?aP ?lP ?cP ?kP ?aC ?lC ?cC ?kC ?aS ?lS ?cS ?kS ?aD ?lD ?cD ?kD ?aO ?lO ?cO ?kO ?aB ?lB ?cB ?kB ?aL ?lL ?cL ?kL ?aW ?lW ?cW ?kW ?aT ?lT ?cT ?kT ?aZ ?lZ ?cZ ?kZ ?aI ?iI ?lI ?cI ?kI ?aK ?iK ?lK ?cK ?kK ?aU ?iU ?lU ?cU ?kU ?aG ?iG ?lG ?cG ?kG ?pg ?hd ?po ?sa ?mk ?kc ?nR ?nA ?xN ?kN ?bN ?tN ?iN ?sN ?zlen ?zsum ?zlist ?ztuple ?zint ?zrange ?zenum ?zisi ?zbool ?zstr
    (case aCls => k_is)
    (case aErr => k_is)
    (case aF => k_is)
    (case lF => k_is)
    (case cF => k_is)
    (case kF => k_is)
    (case aP => k_is)
    (case lP => k_is)
    (case cP => k_is)
    (case kP => k_is)
    (case aC => k_is)
    (case lC => k_is)
    (case cC => k_is)
    (case kC => k_is)
    (case aS => k_is)
    (case lS => k_is)
    (case cS => k_is)
    (case kS => k_is)
    (case aD => k_is)
    (case lD => k_is)
    (case cD => k_is)
    (case kD => k_is)
    (case aO => k_is)
    (case lO => k_is)
    (case cO => k_is)
    (case kO => k_is)
    (case aB => k_is)
    (case lB => k_is)
    (case cB => k_is)
    (case kB => k_is)
    (case aL => k_is)
    (case lL => k_is)
    (case cL => k_is)
    (case kL => k_is)
    (case aW => k_is)
    (case lW => k_is)
    (case cW => k_is)
    (case kW => k_is)
    (case aT => k_is)
    (case lT => k_is)
    (case cT => k_is)
    (case kT => k_is)
    (case aZ => k_is)
    (case lZ => k_is)
    (case cZ => k_is)
    (case kZ => k_is)
    (case aI => k_is)
    (case iI => k_is)
    (case lI => k_is)
    (case cI => k_is)
    (case kI => k_is)
    (case aK => k_is)
    (case iK => k_is)
    (case lK => k_is)
    (case cK => k_is)
    (case kK => k_is)
    (case aU => k_is)
    (case iU => k_is)
    (case lU => k_is)
    (case cU => k_is)
    (case kU => k_is)
    (case aG => k_is)
    (case iG => k_is)
    (case lG => k_is)
    (case cG => k_is)
    (case kG => k_is)
    (case pg => k_is)
    (case hd => k_is)
    (case po => k_is)
    (case sa => k_is)
    (case mk => k_is)
    (case kc => k_is)
    (case nR => k_is)
    (case nA => k_is)
    (case xN => first | k_exc | k_is)
    (case kN => k_is)
    (case bN => k_is)
    (case tN => k_is)
    (case iN => k_is)
    (case sN => first | rfl | k_is)
    (case zlen => k_is)
    (case zsum => k_is)
    (case zlist => k_is)
    (case ztuple => k_is)
    (case zint => k_is)
    (case zrange => k_is)
    (case zenum => k_is)
    (case zisi => k_is)
    (case zbool => k_is)
    (case zstr => k_is)
#print axioms PySem.Challenge.cw_bitdraws_k10_whole_numbers_by_shares_holds
