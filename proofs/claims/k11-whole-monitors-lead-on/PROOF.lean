import PyProof.Rows.All
import Wide.All
import OpenK.AllK
import Wide.FinOn
import PySem.Challenge.RW_gentlerounds_k11_whole_monitors_lead_on
import HandS.ForMost
import HandS.ForExc
import HandS.Flow
import HandS.Star
import HandS.TupAny
import HandS.TupMul
import HandS.IsInst
import HandS.SortKw
import HandS.SetFor
import PyProof.ReprRoads
import KE.GoesMore
import KE.KMinKey
import KE.GoesEnum
set_option Elab.async false
set_option linter.all false
set_option maxRecDepth 100000
set_option maxHeartbeats 4000000
/-! Rules that the hand layer lacks: tuples that are exact (frozen), sum, count, tuple times int, repr, an own error without arguments. -/
namespace G3
open PySem PySem.Spec PyProof.Rows L2

/-! ### a tuple, tracked or frozen -/
def FrzAt (H : Hp) (a : Addr) (xs : List V) : Prop := ∃ o : Obj, o.dict = none ∧ H a = some (.frz o (.tup xs))
def TupAt (H : Hp) (a : Addr) (xs : List V) : Prop := H a = some (.tup xs) ∨ FrzAt H a xs
theorem TupAt.sq {K : PySem.W.Frag} {H : Hp} {a : Addr} {xs : List V} (h : TupAt H a xs) : SqT K H a xs := by
  rcases h with h | ⟨o, _, h⟩
  · exact .inl (.inl h)
  · exact .inl (.inr ⟨o, h⟩)
theorem TupAt.ty {K : PySem.W.Frag} {H : Hp} {a : Addr} {xs : List V} (h : TupAt H a xs) : TyX K H (.ref a) (.type "tuple") := by
  rcases h with h | ⟨o, _, h⟩
  · exact .base (.tup h)
  · exact .fTuple h
theorem FrzAt.same {H H' : Hp} {a : Addr} {xs : List V} (e : Same H H') (h : FrzAt H a xs) : FrzAt H' a xs := by
  obtain ⟨o, d, h⟩ := h
  exact ⟨o, d, e _ _ h⟩
theorem TupAt.same {H H' : Hp} {a : Addr} {xs : List V} (e : Same H H') (h : TupAt H a xs) : TupAt H' a xs := by
  rcases h with h | h
  · exact .inl (e _ _ h)
  · exact .inr (h.same e)
theorem TupAt.inj {H : Hp} {a : Addr} {xs ys : List V} (h : TupAt H a xs) (h' : TupAt H a ys) : xs = ys := by
  rcases h with h | ⟨o, _, h⟩ <;> rcases h' with h' | ⟨o', _, h'⟩ <;> rw [h] at h' <;> cases h' <;> rfl
theorem same_upd {H : Hp} {p : Addr} {o : HO} (h : H p = none) : Same H (upd H p o) := fun b x e => by
  rw [upd_ne (ne_of_none e h)]
  exact e

/-! ### sum of a tuple -/
theorem sum_rawT {prog : Program} {w : World} {A : Around} {E : Value → Shared → Prop} {s : Shared} {l : Addr} {its : List Value} {ns : List Int} {Q : Value → Shared → Prop} (hh : A.handled = none) (hl : s.heap.IsTuple l its.toArray) (hi : IntsAre its ns)
    (h : ∀ h' tk t', (∀ b o, s.heap.get? b = some o → h'.get? b = some o) → Q (.int ns.sum t') { s with heap := h', toks := tk }) :
    wpAny (model prog w) A (call (.builtin "sum") [.ref l]) Q E s := by
  obtain ⟨xs, e⟩ := hi.allInts.items
  have hn : numsOf (intItems xs).toList = ns := by rw [← e]; exact hi.numsOf
  rw [nums_intItems] at hn
  rw [e] at hl
  have hlt : l < s.heap.objs.size := by obtain ⟨_, z, _⟩ := hl; exact Heap.lt_size z
  refine call_sum_walkG (wpAny_pyIter_tuple hl ?_)
  refine ⟨_, _, _, _, _, _, numAt xs, rfl, Walks.tuple (A := A.in1) hh s.heap.objs.size l (Nat.ne_of_lt hlt) (intItems xs), ⟨⟨_, Heap.get?_push_size _ rfl, rfl, rfl⟩, hl.push _⟩, fun b hb => ?_, fun _ _ => intItems_at, fun h' tk t' hk => ?_⟩
  · show b < (s.heap.push _).objs.size
    rw [Heap.size_push]
    have e' : b = s.heap.objs.size ∨ b = l := by simpa using hb
    rcases e' with z | z
    · rw [z]; exact Nat.lt_succ_self _
    · rw [z]; exact Nat.lt_succ_of_lt hlt
  · have q := h h' tk t' (fun b o x => hk b o (fun hm => by
      have z : b = s.heap.objs.size := by simpa using hm
      rw [z] at x
      exact absurd (Heap.lt_size x) (Nat.lt_irrefl _)) (Heap.get?_push_of_some _ x))
    have es : (intItems xs).size = xs.size := by simp [intItems]
    show Q (.int (preSum (numAt xs) (intItems xs).size) t') _
    rw [es, preSum_eq, List.take_of_length_le (by simp), hn]
    exact q
section
variable {X : Cx}
def rSumT : List V → Hp → VK → Prop := fun vs H Q => ∃ (a : Addr) (ns : List Int), vs = [V.ref a] ∧ TupAt H a (ns.map V.int) ∧ Q (.int ns.sum) H
theorem cr_sumT (hc : X.calm = true) : CallR X (.builtin "sum") rSumT := by
  intro pins s σ H vs us Q I r h
  obtain ⟨a, ns, rfl, hs, q⟩ := h
  obtain ⟨its, rv, hl, _⟩ := I.tuple hs.sq
  rw [Vals.ref1 r]
  exact sum_rawT (I.ok.hd hc) (show s.heap.IsTuple a its.toArray from hl) rv.ints fun h' tk t' hk => ⟨.int _, H, I.kept hk, ⟨_, rfl⟩, q⟩

/-! ### tuple(a list): an exact object -/
theorem call_tupleF : CallR X (.type "tuple") (fun xs H Q => ∃ p ys, xs = [.ref p] ∧ SqL X.K H p ys ∧ ∀ l, H l = none → ∀ o : Obj, o.dict = none → Q (.ref l) (upd H l (.frz o (.tup ys)))) := by
  intro pins s σ H xs us Q I r h
  obtain ⟨p, ys, rfl, hq, q⟩ := h
  obtain rfl := Vals.ref1 r
  obtain ⟨its, rv, pl, hz⟩ := I.list hq
  have hlen := rv.length
  refine call_tuple_list pl.isList (fun h' kp => ?_) (by simp only [List.size_toArray]; omega)
  have I1 : Inv X pins σ H { s with heap := h' } := I.kept (t' := s.toks) kp
  have g : (h'.push { cls := .type "tuple", data := .seq its.toArray }).get? h'.objs.size = some { cls := .type "tuple", data := .seq its.toArray } := Heap.get?_push_size _ rfl
  exact ⟨.ref h'.objs.size, _, I1.laid (t' := s.toks) (o := .frz { cls := .type "tuple", data := .seq its.toArray } (.tup ys)) (fun b o e => Heap.get?_push_of_some _ e) (Nat.le_refl _) ⟨g, hz, its, rv, ⟨_, g, rfl, _, rfl⟩⟩, rfl, q _ (I1.hok.fresh (Nat.le_refl _)) _ rfl⟩

/-! ### t.count(n) of an exact tuple of ints -/
def tTCount (to : TE) (t : TA) : TE := fun σ H Q => to σ H fun x H1 => ∃ p, x = .ref p ∧ (∃ xs, FrzAt H1 p xs) ∧ t σ H1 fun vs H2 => ∃ (ns : List Int) (k : Int), vs = [.int k] ∧ FrzAt H2 p (ns.map V.int) ∧ Q (.int (ns.count k : Nat)) H2
theorem pe_tcount {o e : Expr} {to : TE} {t : TA} {apos cpos : Pos} (ho : PE X o to) (ha : PA X [e] t)
    (hbase : attributeBase o "count" X.env (eval o X.env) = eval o X.env := by rfl)
    (hfew : ((backTo cpos (starEach [e] X.env)).all (fun x => !x.1) && (backToKw cpos (keywordEach [] X.env)).all (fun x => x.1.isSome)
      && decide ([e].length + ([] : List Keyword).length + (if ([] : List Keyword).isEmpty then 0 else 1) < 30)) = true := by rfl)
    (hline : (apos.endLine == cpos.line) = true := by rfl) (hs : starEach [e] X.env = [(false, eval e X.env)] := by rfl) :
    PE X (.Call (.Attribute o "count" apos) [e] [] cpos) (tTCount to t) := by
  refine ⟨fun pins s σ H Q I h => ?_⟩
  refine wpAny_Call_method_late hbase hfew hline rfl (thn (ho.run pins s σ H _ I h) fun v s1 ⟨x, H1, I1, r1, q1⟩ => ?_)
  obtain ⟨p, rfl, ⟨ys, ob, hd, hp⟩, q1⟩ := q1
  cases r1
  obtain ⟨g, _, _, _, tp⟩ := (show ObjOk X.prog X.w H1 s1.heap p (.frz ob (.tup ys)) from I1.hok p _ hp)
  refine ⟨"tuple", "tuple.count", PySem.F.plainAttrs_tuple, PySem.F.slot_tuple_count, PySem.F.type_tuple_count, tp.typeIs, fun a e => ⟨ob, by cases e; exact g, hd⟩, ?_⟩
  have hA := ha.run cpos pins s1 σ H1 _ I1 q1
  rw [hs] at hA ⊢
  refine Calls.callWith_builtin (by rfl) (Calls.evalArgs_plain ?_)
  refine thn hA fun us s2 ⟨vs, H2, I2, r2, q2⟩ => ?_
  obtain ⟨ns, k, rfl, ⟨ob2, hd2, hp2⟩, q2⟩ := q2
  obtain ⟨u, rfl, ru⟩ := r2.one
  obtain ⟨tk, rfl⟩ := ru
  obtain ⟨g2, _, its, rv, ⟨⟨cls, dd, data, sl⟩, ho2, hc2, n, hdt⟩⟩ := (show ObjOk X.prog X.w H2 s2.heap p (.frz ob2 (.tup (ns.map V.int))) from I2.hok p _ hp2)
  simp only at hc2 hdt
  subst hc2 hdt
  have hi := rv.ints
  refine call_meets PySem.F.slot_tuple_count ⟨_, ho2, rfl⟩ PySem.F.entry_tuple_count (PySem.F.args_tuple_count_2 _ _)
    (SeqAt.tuple_countAt p its.toArray n dd sl (.int k tk) (eqk k)) ⟨ho2, fun y hy => (eqk_gives hi y (by simpa using hy)).at _ _, ?_⟩
  have ec : its.toArray.toList.countP (eqk k) = ns.count k := eqk_count hi
  refine ⟨.int (ns.count k : Nat), H2, I2.tok _, ⟨s2.toks, ?_⟩, q2⟩
  show Value.int ((its.toArray.toList.countP (eqk k) : Nat) : Int) s2.toks = Value.int ((ns.count k : Nat) : Int) s2.toks
  rw [ec]

/-! ### repr of a list or a tuple -/
def rReprD (K : PySem.W.Frag) : List V → Hp → VK → Prop := fun vs H Q => ∃ (a : Addr) (d : PyData), vs = [V.ref a] ∧ Dp K H (.ref a) d ∧ d.showable = true ∧ d.hasDict = false ∧ d.depth ≤ 8 ∧ d.shown.length ≤ sizeLine ∧ Q (.str d.shown) H
theorem cr_reprD (hg : X.A.guards = some []) (hu : X.A.units + 9 < cLine) : CallR X (.builtin "repr") (rReprD X.K) := by
  intro pins s σ H vs us Q I r h
  obtain ⟨a, d, rfl, hd, h1, h2, h3, h4, q⟩ := h
  rw [Vals.ref1 r]
  obtain ⟨as, rd⟩ := Dp.reads I d (.ref a) (.ref a) hd rfl
  exact repr_of_reads' rd h1 (PyData.noDict_hsm h2) hg (by omega) (fun _ _ e => e) (fun h' u tk hk => ⟨.str d.shown, H, I.kept hk, ⟨u, rfl⟩, q⟩) h4
end
end G3

set_option Elab.async false
set_option linter.all false
set_option maxRecDepth 100000
set_option maxHeartbeats 4000000
/-! max and min of a list of ints with a default. -/
namespace G3
open PySem PySem.Spec PyProof.Rows L2

section
variable {prog : Program} {w : World} {A : Around} {I : Addr} {fp wr : List Addr} {n : Nat} {P : Nat → Value → Prop} {St : Nat → Heap → Prop} {R : Result → Shared → Prop} {kw : List (Str × Value)}
/-- max goes on, whatever keywords it carries: the best so far stands at S -/
theorem loop_max (W : Walks prog w A.in1 I fp wr n P St) (bt : Nat → Nat → Bool) (hc : CmpOf prog w A.in1 .Gt P bt) (S : Addr) (hS : S ∉ fp) :
    ∀ (m j : Nat), n - (j + 1) = m → j + 1 ≤ n → ∀ (s : Shared) (vb : Value) (c : Nat), St (j + 1) s.heap → P (argBest bt j) vb → s.heap.get? S = some { cls := .type "list", data := .seq #[vb, vb] c } →
    (∀ v h' tk, P (argBest bt (n - 1)) v → (∀ b o, b ∉ wr → b ≠ S → s.heap.get? b = some o → h'.get? b = some o) → R (.ok (.ret v)) { s with heap := h', toks := tk }) →
    codeAny (model prog w) A (.builtin "max.loop" ⟨[.ref I, .none, .ref S], kw⟩) R s := by
  have nm : (toString "max" ++ toString ".loop" : String) = "max.loop" := by decide
  have hW : S ∉ wr := fun z => hS (W.sub _ z)
  intro m
  induction m with
  | zero =>
    intro j hm hj s vb c st hP hs hR
    obtain rfl : n = j + 1 := by omega
    refine codeAny_builtin PySem.F.entry_max_loop ?_
    rw [Around.under_plainId PySem.F.plain_max_loop _]
    show wpAny _ A.in1 (seqItems? (.ref S) >>= _) _ _ _
    refine wpAny_bind (wpAny_seqItems hs rfl ?_)
    show wpAny _ A.in1 (tryCatch (pyNext (.ref I)) _ >>= _) _ _ _
    refine wpAny_bind (wpAny_tryCatch (W.done s _ _ st fun h1 t1 k1 => ?_))
    have hs1 := k1 S _ hW hs
    show wpAny _ A.in1 (updateSeq S (fun _ => #[]) >>= _) _ _ _
    refine wpAny_bind (wpAny_updateSeq hs1 rfl (wpAny_bind (wpAny_letGo (wpAny_pure ?_))))
    exact hR vb _ t1 hP fun b o b1 b2 e => by rw [Heap.get?_update_other _ _ (Ne.symm b2)]; exact k1 b o b1 e
  | succ m ih =>
    intro j hm hj s vb c st hP hs hR
    have lt : j + 1 < n := by omega
    refine codeAny_builtin PySem.F.entry_max_loop ?_
    rw [Around.under_plainId PySem.F.plain_max_loop _]
    show wpAny _ A.in1 (seqItems? (.ref S) >>= _) _ _ _
    refine wpAny_bind (wpAny_seqItems hs rfl ?_)
    show wpAny _ A.in1 (tryCatch (pyNext (.ref I)) _ >>= _) _ _ _
    refine wpAny_bind (wpAny_tryCatch (W.item (j + 1) s _ _ lt st fun v h1 t1 hv st1 k1 => ?_))
    have hs1 := k1 S _ hW hs
    show wpAny _ A.in1 (tryCatch (holding [v, v] (richCompare .Gt v vb >>= _)) _ >>= _) _ _ _
    refine wpAny_bind (wpAny_tryCatch (wpAny_holding (wpAny_bind (hc (j + 1) (argBest bt j) v vb _ _ _ hv hP ?_))))
    refine wpAny_bind (wpAny_holding (wpAny_truthy_bool ?_))
    refine wpAny_bind (wpAny_letGo (wpAny_pure ?_))
    cases q : bt (j + 1) (argBest bt j) with
    | true =>
      simp only [if_true]
      refine wpAny_bind (wpAny_updateSeq hs1 rfl (wpAny_bind (wpAny_letGo ?_)))
      rw [nm]
      refine wpAny_pure ⟨plainId_quiet PySem.F.plain_max_loop _, ih (j + 1) (by omega) lt _ v _ (W.frame _ _ _ st1 fun b hb o e => ?_) (by unfold argBest; rw [q]; exact hv) (Heap.get?_update_self _ hs1 rfl) fun v2 h2 t2 p2 k2 => ?_⟩
      · rw [Heap.get?_update_other _ _ (show S ≠ b from fun z => hS (by rw [z]; exact hb))]; exact e
      · exact hR v2 h2 t2 p2 fun b o b1 b2 e => k2 b o b1 b2 (by rw [Heap.get?_update_other _ _ (Ne.symm b2)]; exact k1 b o b1 e)
    | false =>
      simp only [Bool.false_eq_true, if_false]
      refine wpAny_bind (wpAny_letGo ?_)
      rw [nm]
      refine wpAny_pure ⟨plainId_quiet PySem.F.plain_max_loop _, ih (j + 1) (by omega) lt _ vb c st1 (by unfold argBest; rw [q]; exact hP) hs1 fun v2 h2 t2 p2 k2 => ?_⟩
      exact hR v2 h2 t2 p2 fun b o b1 b2 e => k2 b o b1 b2 (k1 b o b1 e)
end
theorem args_max_d (a v : Value) : argsOk "max" ⟨[a], [(Str.ofString "default", v)]⟩ := by unfold argsOk; kernel_rfl
section
variable {prog : Program} {w : World} {A : Around} {E : Value → Shared → Prop} {s : Shared} {l : Addr} {its : List Value} {ns : List Int} {d : Value} {Q : Value → Shared → Prop}
/-- max(a list of ints, default=d) -/
theorem max_rawD (hh : A.handled = none) (hl : s.heap.IsList l its.toArray) (hi : IntsAre its ns)
    (h0 : ns = [] → ∀ h' tk, (∀ b o, s.heap.get? b = some o → h'.get? b = some o) → Q d { s with heap := h', toks := tk })
    (h1 : ∀ m t' h' tk, m ∈ ns → (∀ y, y ∈ ns → y ≤ m) → (∀ b o, s.heap.get? b = some o → h'.get? b = some o) → Q (.int m t') { s with heap := h', toks := tk }) :
    wpAny (model prog w) A (call (.builtin "max") [.ref l] [(Str.ofString "default", d)]) Q E s := by
  have nm : (toString "max" ++ toString ".loop" : String) = "max.loop" := by decide
  obtain ⟨xs, ex⟩ := hi.allInts.items
  have hn : numsOf (intItems xs).toList = ns := by rw [← ex]; exact hi.numsOf
  rw [nums_intItems] at hn
  rw [ex] at hl
  have hsz : (intItems xs).size = xs.size := by simp [intItems]
  have hlt : l < s.heap.objs.size := by obtain ⟨_, z, _⟩ := hl; exact Heap.lt_size z
  refine kmk_tree PySem.F.kind_max PySem.F.plain_max PySem.F.entry_max (args_max_d _ _) ?_
  show wpAny _ A.in1 (Builtin.Builtins.bindParams "max" ["key", "default"] 0 ⟨[], [(Str.ofString "default", d)]⟩ >>= _) _ _ s
  refine wpAny_bind (wpAny_of_eq (show Builtin.Builtins.bindParams "max" ["key", "default"] 0 ⟨[], [(Str.ofString "default", d)]⟩ = pure [none, some d] from by first | rfl | kernel_rfl) ?_)
  refine wpAny_bind (wpAny_pure (wpAny_bind (wpAny_pyIter_list hl (wpAny_bind (wpAny_newObj_type ?_)))))
  have W := Walks.list (prog := prog) (w := w) (A := A.in1.in1) hh s.heap.objs.size l (Nat.ne_of_lt hlt) (intItems xs)
  generalize hh1 : s.heap.push { cls := .type "list_iterator", data := .fields #[.ref l, .int 0 0] } = H1
  have z1 : H1.objs.size = s.heap.objs.size + 1 := by rw [← hh1, Heap.size_push]
  have k1 : ∀ b o, s.heap.get? b = some o → H1.get? b = some o := fun b o e => by rw [← hh1]; exact Heap.get?_push_of_some _ e
  have gI : H1.get? s.heap.objs.size = some { cls := .type "list_iterator", data := .fields #[.ref l, .int 0 0] } := by rw [← hh1]; exact Heap.get?_push_size _ rfl
  have hl1 : H1.IsList l (intItems xs) := hl.at fun o e => k1 l o e
  rw [nm]
  refine wpAny_pure ⟨plainId_quiet PySem.F.plain_max_loop _, ?_⟩
  have st0 : (H1.push { cls := .type "list", data := .seq #[] }).IsListIter s.heap.objs.size l 0 ∧ (H1.push { cls := .type "list", data := .seq #[] }).IsList l (intItems xs) :=
    ⟨⟨_, Heap.get?_push_of_some _ gI, rfl, rfl⟩, hl1.at fun o e => Heap.get?_push_of_some _ e⟩
  have gS : (H1.push { cls := .type "list", data := .seq #[] }).get? H1.objs.size = some { cls := .type "list", data := .seq #[] 0 } := Heap.get?_push_size _ rfl
  have nS : H1.objs.size ∉ [s.heap.objs.size, l] := fun hm => by
    have e' : H1.objs.size = s.heap.objs.size ∨ H1.objs.size = l := by simpa using hm
    rcases e' with z | z
    · rw [z1] at z
      exact Nat.succ_ne_self _ z
    · exact Nat.ne_of_gt (show l < H1.objs.size by rw [z1]; exact Nat.lt_succ_of_lt hlt) z
  have old : ∀ {h' : Heap}, (∀ b o, b ∉ [s.heap.objs.size] → b ≠ H1.objs.size → (H1.push { cls := .type "list", data := .seq #[] }).get? b = some o → h'.get? b = some o) → ∀ b o, s.heap.get? b = some o → h'.get? b = some o := fun {h'} k b o e => by
    have lb : b < s.heap.objs.size := Heap.lt_size e
    refine k b o (fun hm => ?_) (Nat.ne_of_lt (by rw [z1]; exact Nat.lt_succ_of_lt lb)) (Heap.get?_push_of_some _ (k1 b o e))
    have z : b = s.heap.objs.size := by simpa using hm
    exact Nat.ne_of_lt lb z
  refine codeAny_builtin PySem.F.entry_max_loop ?_
  rw [Around.under_plainId PySem.F.plain_max_loop _]
  show wpAny _ A.in1 (seqItems? (.ref H1.objs.size) >>= _) _ _ _
  refine wpAny_bind (wpAny_seqItems gS rfl ?_)
  show wpAny _ A.in1 (tryCatch (pyNext (.ref s.heap.objs.size)) _ >>= _) _ _ _
  have W1 := Walks.list (prog := prog) (w := w) (A := A.in1) hh s.heap.objs.size l (Nat.ne_of_lt hlt) (intItems xs)
  by_cases h0' : xs.size = 0
  · have en : ns = [] := by
      rw [← hn]
      have : xs = #[] := Array.eq_empty_of_size_eq_zero h0'
      rw [this]; rfl
    refine wpAny_bind (wpAny_tryCatch (W1.done _ _ _ (by rw [hsz, h0']; exact st0) fun h2 t2 k2 => ?_))
    show wpAny _ A.in1 (rule _ >>= _) _ _ _
    refine wpAny_bind (wpAny_rule (wpAny_pure ?_))
    exact h0 en h2 t2 (old fun b o b1 _ e => k2 b o b1 e)
  · have pos : 0 < (intItems xs).size := by omega
    refine wpAny_bind (wpAny_tryCatch (W1.item 0 _ _ _ pos st0 fun v h2 t2 hv st2 k2 => ?_))
    have gS2 := k2 H1.objs.size _ (fun hm => nS (List.mem_cons.mpr (.inl (by simpa using hm)))) gS
    show wpAny _ A.in1 (updateSeq H1.objs.size (fun _ => #[v, v]) >>= _) _ _ _
    refine wpAny_bind (wpAny_updateSeq gS2 rfl ?_)
    rw [nm]
    refine wpAny_pure ⟨plainId_quiet PySem.F.plain_max_loop _, loop_max W1 (fun i j => decide (numAt xs i > numAt xs j)) (CmpOf.ints_gt (numAt xs) fun _ _ => intItems_at) H1.objs.size nS _ 0 rfl pos _ v _ (W1.frame _ _ _ st2 fun b hb o e => ?_) hv (Heap.get?_update_self _ gS2 rfl) fun v3 h3 t3 p3 k3 => ?_⟩
    · rw [Heap.get?_update_other _ _ (show H1.objs.size ≠ b from fun z => nS (by rw [z]; exact hb))]; exact e
    · rw [hsz] at p3
      obtain ⟨t', rfl⟩ := intItems_at p3
      obtain ⟨a1, a2⟩ := argBest_gt (numAt xs) (xs.size - 1)
      refine h1 _ t' h3 t3 ?_ (fun y hy => ?_) (old fun b o b1 b2 e => k3 b o b1 b2 (by rw [Heap.get?_update_other _ _ (Ne.symm b2)]; exact k2 b o b1 e))
      · rw [← hn, numAt_eq]
        exact PySem.getD_mem (by rw [List.length_map, Array.length_toList]; omega)
      · rw [← hn] at hy
        obtain ⟨j, hj, rfl⟩ := mem_getD hy
        rw [List.length_map, Array.length_toList] at hj
        rw [← numAt_eq]
        exact a2 j (by omega)
end
section
variable {X : Cx}
/-- max(xs, default=d) -/
def rMaxD (K : PySem.W.Frag) : List V → List V → Hp → VK → Prop := fun vs zs H Q => ∃ (a : Addr) (ns : List Int) (d : V), vs = [V.ref a] ∧ zs = [d] ∧ SqL K H a (ns.map V.int) ∧ (ns = [] → Q d H) ∧ ∀ m, m ∈ ns → (∀ y, y ∈ ns → y ≤ m) → Q (.int m) H
theorem cr_maxD (hc : X.calm = true) : CallRK X (.builtin "max") [Str.ofString "default"] (rMaxD X.K) := by
  intro pins s σ H vs zs us ws Q I r rz h
  obtain ⟨a, ns, d, rfl, rfl, hs, q0, q1⟩ := h
  obtain ⟨its, rv, hl, _⟩ := I.list hs
  rw [Vals.ref1 r]
  obtain ⟨w1, rfl, e1⟩ := vals1 rz
  exact max_rawD (I.ok.hd hc) hl.isList rv.ints (fun e h' tk hk => ⟨d, H, I.kept hk, e1, q0 e⟩) fun m t' h' tk m1 m2 hk => ⟨.int m, H, I.kept hk, ⟨_, rfl⟩, q1 m m1 m2⟩
end

section
variable {prog : Program} {w : World} {A : Around} {I : Addr} {fp wr : List Addr} {n : Nat} {P : Nat → Value → Prop} {St : Nat → Heap → Prop} {R : Result → Shared → Prop} {kw : List (Str × Value)}
/-- min goes on, whatever keywords it carries: the best so far stands at S -/
theorem loop_min (W : Walks prog w A.in1 I fp wr n P St) (bt : Nat → Nat → Bool) (hc : CmpOf prog w A.in1 .Lt P bt) (S : Addr) (hS : S ∉ fp) :
    ∀ (m j : Nat), n - (j + 1) = m → j + 1 ≤ n → ∀ (s : Shared) (vb : Value) (c : Nat), St (j + 1) s.heap → P (argBest bt j) vb → s.heap.get? S = some { cls := .type "list", data := .seq #[vb, vb] c } →
    (∀ v h' tk, P (argBest bt (n - 1)) v → (∀ b o, b ∉ wr → b ≠ S → s.heap.get? b = some o → h'.get? b = some o) → R (.ok (.ret v)) { s with heap := h', toks := tk }) →
    codeAny (model prog w) A (.builtin "min.loop" ⟨[.ref I, .none, .ref S], kw⟩) R s := by
  have nm : (toString "min" ++ toString ".loop" : String) = "min.loop" := by decide
  have hW : S ∉ wr := fun z => hS (W.sub _ z)
  intro m
  induction m with
  | zero =>
    intro j hm hj s vb c st hP hs hR
    obtain rfl : n = j + 1 := by omega
    refine codeAny_builtin PySem.F.entry_min_loop ?_
    rw [Around.under_plainId PySem.F.plain_min_loop _]
    show wpAny _ A.in1 (seqItems? (.ref S) >>= _) _ _ _
    refine wpAny_bind (wpAny_seqItems hs rfl ?_)
    show wpAny _ A.in1 (tryCatch (pyNext (.ref I)) _ >>= _) _ _ _
    refine wpAny_bind (wpAny_tryCatch (W.done s _ _ st fun h1 t1 k1 => ?_))
    have hs1 := k1 S _ hW hs
    show wpAny _ A.in1 (updateSeq S (fun _ => #[]) >>= _) _ _ _
    refine wpAny_bind (wpAny_updateSeq hs1 rfl (wpAny_bind (wpAny_letGo (wpAny_pure ?_))))
    exact hR vb _ t1 hP fun b o b1 b2 e => by rw [Heap.get?_update_other _ _ (Ne.symm b2)]; exact k1 b o b1 e
  | succ m ih =>
    intro j hm hj s vb c st hP hs hR
    have lt : j + 1 < n := by omega
    refine codeAny_builtin PySem.F.entry_min_loop ?_
    rw [Around.under_plainId PySem.F.plain_min_loop _]
    show wpAny _ A.in1 (seqItems? (.ref S) >>= _) _ _ _
    refine wpAny_bind (wpAny_seqItems hs rfl ?_)
    show wpAny _ A.in1 (tryCatch (pyNext (.ref I)) _ >>= _) _ _ _
    refine wpAny_bind (wpAny_tryCatch (W.item (j + 1) s _ _ lt st fun v h1 t1 hv st1 k1 => ?_))
    have hs1 := k1 S _ hW hs
    show wpAny _ A.in1 (tryCatch (holding [v, v] (richCompare .Lt v vb >>= _)) _ >>= _) _ _ _
    refine wpAny_bind (wpAny_tryCatch (wpAny_holding (wpAny_bind (hc (j + 1) (argBest bt j) v vb _ _ _ hv hP ?_))))
    refine wpAny_bind (wpAny_holding (wpAny_truthy_bool ?_))
    refine wpAny_bind (wpAny_letGo (wpAny_pure ?_))
    cases q : bt (j + 1) (argBest bt j) with
    | true =>
      simp only [if_true]
      refine wpAny_bind (wpAny_updateSeq hs1 rfl (wpAny_bind (wpAny_letGo ?_)))
      rw [nm]
      refine wpAny_pure ⟨plainId_quiet PySem.F.plain_min_loop _, ih (j + 1) (by omega) lt _ v _ (W.frame _ _ _ st1 fun b hb o e => ?_) (by unfold argBest; rw [q]; exact hv) (Heap.get?_update_self _ hs1 rfl) fun v2 h2 t2 p2 k2 => ?_⟩
      · rw [Heap.get?_update_other _ _ (show S ≠ b from fun z => hS (by rw [z]; exact hb))]; exact e
      · exact hR v2 h2 t2 p2 fun b o b1 b2 e => k2 b o b1 b2 (by rw [Heap.get?_update_other _ _ (Ne.symm b2)]; exact k1 b o b1 e)
    | false =>
      simp only [Bool.false_eq_true, if_false]
      refine wpAny_bind (wpAny_letGo ?_)
      rw [nm]
      refine wpAny_pure ⟨plainId_quiet PySem.F.plain_min_loop _, ih (j + 1) (by omega) lt _ vb c st1 (by unfold argBest; rw [q]; exact hP) hs1 fun v2 h2 t2 p2 k2 => ?_⟩
      exact hR v2 h2 t2 p2 fun b o b1 b2 e => k2 b o b1 b2 (k1 b o b1 e)
end
theorem args_min_d (a v : Value) : argsOk "min" ⟨[a], [(Str.ofString "default", v)]⟩ := by unfold argsOk; kernel_rfl
section
variable {prog : Program} {w : World} {A : Around} {E : Value → Shared → Prop} {s : Shared} {l : Addr} {its : List Value} {ns : List Int} {d : Value} {Q : Value → Shared → Prop}
/-- min(a list of ints, default=d) -/
theorem min_rawD (hh : A.handled = none) (hl : s.heap.IsList l its.toArray) (hi : IntsAre its ns)
    (h0 : ns = [] → ∀ h' tk, (∀ b o, s.heap.get? b = some o → h'.get? b = some o) → Q d { s with heap := h', toks := tk })
    (h1 : ∀ m t' h' tk, m ∈ ns → (∀ y, y ∈ ns → m ≤ y) → (∀ b o, s.heap.get? b = some o → h'.get? b = some o) → Q (.int m t') { s with heap := h', toks := tk }) :
    wpAny (model prog w) A (call (.builtin "min") [.ref l] [(Str.ofString "default", d)]) Q E s := by
  have nm : (toString "min" ++ toString ".loop" : String) = "min.loop" := by decide
  obtain ⟨xs, ex⟩ := hi.allInts.items
  have hn : numsOf (intItems xs).toList = ns := by rw [← ex]; exact hi.numsOf
  rw [nums_intItems] at hn
  rw [ex] at hl
  have hsz : (intItems xs).size = xs.size := by simp [intItems]
  have hlt : l < s.heap.objs.size := by obtain ⟨_, z, _⟩ := hl; exact Heap.lt_size z
  refine kmk_tree PySem.F.kind_min PySem.F.plain_min PySem.F.entry_min (args_min_d _ _) ?_
  show wpAny _ A.in1 (Builtin.Builtins.bindParams "min" ["key", "default"] 0 ⟨[], [(Str.ofString "default", d)]⟩ >>= _) _ _ s
  refine wpAny_bind (wpAny_of_eq (show Builtin.Builtins.bindParams "min" ["key", "default"] 0 ⟨[], [(Str.ofString "default", d)]⟩ = pure [none, some d] from by first | rfl | kernel_rfl) ?_)
  refine wpAny_bind (wpAny_pure (wpAny_bind (wpAny_pyIter_list hl (wpAny_bind (wpAny_newObj_type ?_)))))
  have W := Walks.list (prog := prog) (w := w) (A := A.in1.in1) hh s.heap.objs.size l (Nat.ne_of_lt hlt) (intItems xs)
  generalize hh1 : s.heap.push { cls := .type "list_iterator", data := .fields #[.ref l, .int 0 0] } = H1
  have z1 : H1.objs.size = s.heap.objs.size + 1 := by rw [← hh1, Heap.size_push]
  have k1 : ∀ b o, s.heap.get? b = some o → H1.get? b = some o := fun b o e => by rw [← hh1]; exact Heap.get?_push_of_some _ e
  have gI : H1.get? s.heap.objs.size = some { cls := .type "list_iterator", data := .fields #[.ref l, .int 0 0] } := by rw [← hh1]; exact Heap.get?_push_size _ rfl
  have hl1 : H1.IsList l (intItems xs) := hl.at fun o e => k1 l o e
  rw [nm]
  refine wpAny_pure ⟨plainId_quiet PySem.F.plain_min_loop _, ?_⟩
  have st0 : (H1.push { cls := .type "list", data := .seq #[] }).IsListIter s.heap.objs.size l 0 ∧ (H1.push { cls := .type "list", data := .seq #[] }).IsList l (intItems xs) :=
    ⟨⟨_, Heap.get?_push_of_some _ gI, rfl, rfl⟩, hl1.at fun o e => Heap.get?_push_of_some _ e⟩
  have gS : (H1.push { cls := .type "list", data := .seq #[] }).get? H1.objs.size = some { cls := .type "list", data := .seq #[] 0 } := Heap.get?_push_size _ rfl
  have nS : H1.objs.size ∉ [s.heap.objs.size, l] := fun hm => by
    have e' : H1.objs.size = s.heap.objs.size ∨ H1.objs.size = l := by simpa using hm
    rcases e' with z | z
    · rw [z1] at z
      exact Nat.succ_ne_self _ z
    · exact Nat.ne_of_gt (show l < H1.objs.size by rw [z1]; exact Nat.lt_succ_of_lt hlt) z
  have old : ∀ {h' : Heap}, (∀ b o, b ∉ [s.heap.objs.size] → b ≠ H1.objs.size → (H1.push { cls := .type "list", data := .seq #[] }).get? b = some o → h'.get? b = some o) → ∀ b o, s.heap.get? b = some o → h'.get? b = some o := fun {h'} k b o e => by
    have lb : b < s.heap.objs.size := Heap.lt_size e
    refine k b o (fun hm => ?_) (Nat.ne_of_lt (by rw [z1]; exact Nat.lt_succ_of_lt lb)) (Heap.get?_push_of_some _ (k1 b o e))
    have z : b = s.heap.objs.size := by simpa using hm
    exact Nat.ne_of_lt lb z
  refine codeAny_builtin PySem.F.entry_min_loop ?_
  rw [Around.under_plainId PySem.F.plain_min_loop _]
  show wpAny _ A.in1 (seqItems? (.ref H1.objs.size) >>= _) _ _ _
  refine wpAny_bind (wpAny_seqItems gS rfl ?_)
  show wpAny _ A.in1 (tryCatch (pyNext (.ref s.heap.objs.size)) _ >>= _) _ _ _
  have W1 := Walks.list (prog := prog) (w := w) (A := A.in1) hh s.heap.objs.size l (Nat.ne_of_lt hlt) (intItems xs)
  by_cases h0' : xs.size = 0
  · have en : ns = [] := by
      rw [← hn]
      have : xs = #[] := Array.eq_empty_of_size_eq_zero h0'
      rw [this]; rfl
    refine wpAny_bind (wpAny_tryCatch (W1.done _ _ _ (by rw [hsz, h0']; exact st0) fun h2 t2 k2 => ?_))
    show wpAny _ A.in1 (rule _ >>= _) _ _ _
    refine wpAny_bind (wpAny_rule (wpAny_pure ?_))
    exact h0 en h2 t2 (old fun b o b1 _ e => k2 b o b1 e)
  · have pos : 0 < (intItems xs).size := by omega
    refine wpAny_bind (wpAny_tryCatch (W1.item 0 _ _ _ pos st0 fun v h2 t2 hv st2 k2 => ?_))
    have gS2 := k2 H1.objs.size _ (fun hm => nS (List.mem_cons.mpr (.inl (by simpa using hm)))) gS
    show wpAny _ A.in1 (updateSeq H1.objs.size (fun _ => #[v, v]) >>= _) _ _ _
    refine wpAny_bind (wpAny_updateSeq gS2 rfl ?_)
    rw [nm]
    refine wpAny_pure ⟨plainId_quiet PySem.F.plain_min_loop _, loop_min W1 (fun i j => decide (numAt xs i < numAt xs j)) (CmpOf.ints_lt (numAt xs) fun _ _ => intItems_at) H1.objs.size nS _ 0 rfl pos _ v _ (W1.frame _ _ _ st2 fun b hb o e => ?_) hv (Heap.get?_update_self _ gS2 rfl) fun v3 h3 t3 p3 k3 => ?_⟩
    · rw [Heap.get?_update_other _ _ (show H1.objs.size ≠ b from fun z => nS (by rw [z]; exact hb))]; exact e
    · rw [hsz] at p3
      obtain ⟨t', rfl⟩ := intItems_at p3
      obtain ⟨a1, a2⟩ := argBest_lt (numAt xs) (xs.size - 1)
      refine h1 _ t' h3 t3 ?_ (fun y hy => ?_) (old fun b o b1 b2 e => k3 b o b1 b2 (by rw [Heap.get?_update_other _ _ (Ne.symm b2)]; exact k2 b o b1 e))
      · rw [← hn, numAt_eq]
        exact PySem.getD_mem (by rw [List.length_map, Array.length_toList]; omega)
      · rw [← hn] at hy
        obtain ⟨j, hj, rfl⟩ := mem_getD hy
        rw [List.length_map, Array.length_toList] at hj
        rw [← numAt_eq]
        exact a2 j (by omega)
end
section
variable {X : Cx}
/-- min(xs, default=d) -/
def rMinD (K : PySem.W.Frag) : List V → List V → Hp → VK → Prop := fun vs zs H Q => ∃ (a : Addr) (ns : List Int) (d : V), vs = [V.ref a] ∧ zs = [d] ∧ SqL K H a (ns.map V.int) ∧ (ns = [] → Q d H) ∧ ∀ m, m ∈ ns → (∀ y, y ∈ ns → m ≤ y) → Q (.int m) H
theorem cr_minD (hc : X.calm = true) : CallRK X (.builtin "min") [Str.ofString "default"] (rMinD X.K) := by
  intro pins s σ H vs zs us ws Q I r rz h
  obtain ⟨a, ns, d, rfl, rfl, hs, q0, q1⟩ := h
  obtain ⟨its, rv, hl, _⟩ := I.list hs
  rw [Vals.ref1 r]
  obtain ⟨w1, rfl, e1⟩ := vals1 rz
  exact min_rawD (I.ok.hd hc) hl.isList rv.ints (fun e h' tk hk => ⟨d, H, I.kept hk, e1, q0 e⟩) fun m t' h' tk m1 m2 hk => ⟨.int m, H, I.kept hk, ⟨_, rfl⟩, q1 m m1 m2⟩
end
end G3

set_option Elab.async false
set_option linter.all false
set_option maxRecDepth 100000
set_option maxHeartbeats 4000000
/-! for i, x in enumerate(a tuple); a tuple times any small int; an own error without arguments. -/
namespace G3
open PySem PySem.Spec PyProof.Rows L2

/-! ### enumerate(t) -/
theorem meets_enum1 {v : Value} {o : Obj} {C : Heap → Prop} (B : Begins v o C) : Meets (Builtin.«enumerate.__new__» ⟨[.type "enumerate", v], []⟩) (fun _ R s => C s.heap ∧
    R (.ok (.ret (.ref (s.heap.push o).objs.size))) { s with heap := (s.heap.push o).push { cls := .type "enumerate", data := .fields #[.none, .bool false, .ref s.heap.objs.size, rawInt 0, .none, .none] } }) :=
  .of_wp fun prog w A R s h => by
    obtain ⟨hp, g, d, tk, os⟩ := s
    obtain ⟨h1, h⟩ := h
    have hsub := sub_enumerate
    have go : ∀ {A' : Around} {E : Value → Shared → Prop} {Q : Value → Shared → Prop}, Q (.ref hp.objs.size) ⟨hp.push o, g, d, tk, os⟩ → wpAny (model prog w) A' (pyIter v) Q E ⟨hp, g, d, tk, os⟩ :=
      fun z => B.iter prog w _ _ ⟨hp, g, d, tk, os⟩ _ h1 z
    wp_walk using go
    refine wpAny_stack_any fun st => wpAny_pure ?_
    split
    · rename_i c _ _ _ _ _
      cases (c == Value.type "enumerate") <;> (wp_walk using go; exact ⟨_, rfl, h⟩)
    · wp_walk using go
      exact ⟨_, rfl, h⟩
section
variable {prog : Program} {w : World} {A : Around} {E : Value → Shared → Prop} {s : Shared}
theorem call_enum1 {v : Value} {o : Obj} {C : Heap → Prop} {Q : Value → Shared → Prop} (B : Begins v o C) (h1 : C s.heap)
    (h : ∀ h', IsEnum h' (s.heap.objs.size + 1) s.heap.objs.size 0 .none → h'.get? s.heap.objs.size = some o → (∀ b u, s.heap.get? b = some u → h'.get? b = some u) → Q (.ref (s.heap.objs.size + 1)) { s with heap := h' }) :
    wpAny (model prog w) A (call (.type "enumerate") [v]) Q E s := by
  refine callType_new F.called_enumerate (by decide) (F.typeCall_enumerate_1 _) (F.newCall_enumerate_1 _) (fun obj => F.args_object_init_2 obj _) F.entry_enumerate_new (meets_enum1 B) ⟨h1, ?_⟩
  have sz : (s.heap.push o).objs.size = s.heap.objs.size + 1 := Heap.size_push ..
  show _ ∧ _
  rw [sz]
  have en := Heap.get?_push_size (s.heap.push o) (o := { cls := .type "enumerate", data := .fields #[.none, .bool false, .ref s.heap.objs.size, rawInt 0, .none, .none] }) rfl
  rw [sz] at en
  exact ⟨⟨_, en, rfl⟩, h _ en (Heap.get?_push_of_some _ (Heap.get?_push_size _ B.free)) fun b u e => Heap.get?_push_of_some _ (Heap.get?_push_of_some _ e)⟩
end
/-- the tuple at a, each item in a new pair with its place -/
def IteT (K : PySem.W.Frag) (a : Addr) : It :=
  ⟨fun i H => ∃ (xs : List V) (x : V), SqT K H a xs ∧ xs[i]? = some x,
    fun i H v H' => ∃ T x, v = .ref T ∧ H T = none ∧ H' = upd H T (.tup [.int (i : Nat), x]) ∧ ∀ xs, SqT K H a xs → xs[i]? = some x,
    fun i H => ∃ xs : List V, SqT K H a xs ∧ xs.length = i⟩
theorem turn_enumT {P : Program} {w : World} {K : PySem.W.Frag} {elts : List Expr} {kk : Nat} {tpos : Pos} (a e it : Addr) :
    Turn P w K (.Tuple elts kk tpos) (IteT K a) [e, it] e (fun i h => (∃ old, IsEnum h e it ((i : Nat) : Int) old) ∧ h.IsTupleIter it a i ∧ e ≠ it ∧ a ≠ it ∧ e ≠ a) where
  mem := by simp
  obj := fun i h st b hb => by
    obtain ⟨⟨old, he⟩, ⟨o, ho, hc, hd⟩, _⟩ := st
    have e' : b = e ∨ b = it := by simpa using hb
    rcases e' with z | z
    · rw [z]; exact ⟨_, he, fun v q => nomatch q⟩
    · rw [z]; exact ⟨o, ho, fun v q => by rw [hd] at q; cases q⟩
  keep := fun i h h' st k => let ⟨⟨old, he⟩, hi, r⟩ := st; ⟨⟨old, k e (by simp) _ he⟩, hi.at fun o q => k it (by simp) o q, r⟩
  item := by
    intro X hP hw hK hc i pins s σ H E I hf st hg
    subst hP hw hK
    obtain ⟨⟨old, he⟩, hit, hne, hai, hea⟩ := st
    obtain ⟨xs, x, hq, hx⟩ := hg
    obtain ⟨its, rv, p, hz⟩ := I.tuple hq
    obtain ⟨u, hu, ru⟩ := rv.get hx
    have hlt : i < its.toArray.size := by rw [List.size_toArray]; exact (List.getElem?_eq_some_iff.mp hu).1
    have hel : e < s.heap.objs.size := Heap.lt_size he
    have hil : it < s.heap.objs.size := by obtain ⟨_, q, _⟩ := hit; exact Heap.lt_size q
    refine wpAny_pyNext_enum_itemD (Draws.tuple (prog := X.prog) (w := X.w) (A := X.A.in1) (I.ok.hd hc) it a hai its.toArray) he ⟨hit, (show s.heap.IsTuple a its.toArray from p)⟩ hlt hne (by simp [hne, hea]) fun y h' tk hy ho hst hT hsz hk => ?_
    obtain rfl : y = u := Option.some.inj (hy.symm.trans (by simpa using hu))
    refine ⟨_, rfl, wpAny_letOwnedTupleGo_enum (s := { s with heap := h', toks := tk + 1 }) ho fun h'' he' sb => ?_⟩
    have hT2 : h''.get? s.heap.objs.size = some { cls := .type "tuple", data := .seq #[.int i tk, y] } := (sb.2 _ (Nat.ne_of_gt hel)).trans hT
    have new : ObjOk X.prog X.w (upd H s.heap.objs.size (.tup [.int (i : Nat), x])) h'' s.heap.objs.size (.tup [.int (i : Nat), x]) :=
      ⟨by show 2 ≤ sizeLine; decide, [.int i tk, y], .cons ⟨_, rfl⟩ (.cons ru .nil), ⟨_, hT2, rfl, _, rfl⟩⟩
    have I1 : Inv X pins σ (upd H s.heap.objs.size (.tup [.int (i : Nat), x])) { s with heap := h'', toks := tk + 1 } :=
      I.turnedNew (ch := [e, it]) (fun b ob hb q => (sb.2 b (fun z => hb (by simp [z]))).trans (hk b ob (fun z => hb (by simp [z])) (fun z => hb (by simp [z])) q)) hf (Nat.le_refl _) new
    refine ⟨.ref s.heap.objs.size, _, I1, rfl, ⟨_, x, rfl, I.hok.fresh (Nat.le_refl _), rfl, fun ys hy' => by rw [I.tuple_inj hy' hq]; exact hx⟩, ⟨⟨y, ?_⟩, hst.1.at fun o q => (sb.2 it (Ne.symm hne)).trans q, hne, hai, hea⟩, fun b hb => ?_⟩
    · have e1 : ((i + 1 : Nat) : Int) = (i : Int) + 1 := by omega
      rw [e1]; exact he'
    · have hb' : b < s.heap.objs.size := by
        have e' : b = e ∨ b = it := by simpa using hb
        rcases e' with z | z
        · rw [z]; exact hel
        · rw [z]; exact hil
      rw [upd_ne (Nat.ne_of_lt hb')]
      exact (hf b hb).1
  done := by
    intro X hP hw hK hc i pins s σ H E I hf st hg
    subst hP hw hK
    obtain ⟨⟨old, he⟩, hit, hne, hai, hea⟩ := st
    obtain ⟨xs, hq, hx⟩ := hg
    obtain ⟨its, rv, p, hz⟩ := I.tuple hq
    obtain ⟨f0, f1, f2, f3, f4, f5⟩ := hf it (by simp)
    have hn : i = its.toArray.size := by rw [List.size_toArray, ← rv.length, hx]
    subst hn
    exact wpAny_pyNext_enum_endD (Draws.tuple (prog := X.prog) (w := X.w) (A := X.A.in1) (I.ok.hd hc) it a hai its.toArray) he ⟨hit, (show s.heap.IsTuple a its.toArray from p)⟩ fun h' eb => ⟨rfl, I.turned (t' := s.toks) (fun b o hb q => eb b o hb q) f0 f1 f3 f4 f5⟩
  self := fun A i s Q E st h => let ⟨⟨_, he⟩, _⟩ := st; wpAny_pyIter_enum he h
def iEnumT (K : PySem.W.Frag) (ta : TA) : TI := fun σ H R => ta σ H fun vs H1 => ∃ a xs, vs = [.ref a] ∧ SqT K H1 a xs ∧ R (IteT K a) H1
theorem pi_enumT {X : Cx} {e : Expr} {ta : TA} {p pos tpos : Pos} {elts : List Expr} {kk : Nat} (hg : Gl X "enumerate") (hm : X.mg "enumerate" = none) (ha : PA X [e] ta) (hs : starEach [e] X.env = [(false, eval e X.env)] := by rfl) :
    PI X (.Tuple elts kk tpos) (.Call (.Name "enumerate" p) [e] [] pos) (iEnumT X.K ta) := by
  refine ⟨fun pins s σ H R I h => ?_⟩
  refine Call_ (ld_blt I hg hm boot_enumerate (PyProof.Rows.callWith_type1 (thn (ha.run pos pins s σ H _ I h) fun us s1 ⟨vs, H1, I1, r1, q1⟩ => ?_) hs rfl))
  obtain ⟨a, xs, ex, hq, q⟩ := q1
  subst ex
  obtain rfl := Vals.ref1 r1
  obtain ⟨its, rv, p', hz⟩ := I1.tuple hq
  have hal : a < s1.heap.objs.size := p'.lt
  refine call_enum1 (begins_tuple a its.toArray) p' fun h' he hit hk => wpAny_pyIter_enum he ?_
  have I2 : Inv X pins σ H1 { s1 with heap := h' } := I1.kept (t' := s1.toks) hk
  refine ⟨s1.heap.objs.size + 1, [s1.heap.objs.size + 1, s1.heap.objs.size], _, _, H1, rfl, I2, turn_enumT a (s1.heap.objs.size + 1) s1.heap.objs.size, ⟨⟨.none, he⟩, ⟨_, hit, rfl, rfl⟩, Nat.succ_ne_self _, Nat.ne_of_lt hal, Nat.ne_of_gt (Nat.lt_succ_of_lt hal)⟩, fun b hb => ?_, q⟩
  have e' : b = s1.heap.objs.size + 1 ∨ b = s1.heap.objs.size := by simpa using hb
  have hle : s1.heap.objs.size ≤ b := by
    rcases e' with z | z
    · rw [z]; exact Nat.le_add_right _ _
    · rw [z]; exact Nat.le_refl _
  exact I1.fpOk hle (I1.hok.fresh hle)
/-- for i, x in enumerate(t), the body leaves t -/
theorem for_enumT {K : PySem.W.Frag} {a : Addr} {xs : List V} {g : TG} {tb : TS} {D : Ends} {σ : L2.St} {H : Hp} (Pv : Nat → L2.St → Hp → Prop) (h0 : Pv 0 σ H) (hl : ∀ i σ H, i ≤ xs.length → Pv i σ H → SqT K H a xs)
    (hs : ∀ i x σ H T, xs[i]? = some x → Pv i σ H → H T = none → g (.ref T) σ (upd H T (.tup [.int (i : Nat), x])) fun σ2 H2 => tb { D with nx := Pv (i + 1), ct := Pv (i + 1), bk := D.nx } σ2 H2) (hd : ∀ σ H, Pv xs.length σ H → D.nx σ H) :
    ∃ W : Nat → Nat → L2.St → Hp → Prop, (∃ m, W 0 m σ H) ∧ ∀ i m σ H, W i m σ H →
      ((IteT K a).stop i H ∧ D.nx σ H) ∨ ((IteT K a).go i H ∧ ∃ N : L2.St → Hp → Prop, (∀ σ' H', N σ' H' → ∃ m', m' < m ∧ W (i + 1) m' σ' H') ∧ ∀ x H', (IteT K a).yld i H x H' → g x σ H' fun σ2 H2 => tb { D with nx := N, ct := N, bk := D.nx } σ2 H2) := by
  refine ⟨fun i m σ H => m = xs.length - i ∧ i ≤ xs.length ∧ Pv i σ H, ⟨xs.length, by simp, Nat.zero_le _, h0⟩, ?_⟩
  rintro i m σ H ⟨rfl, hi, p⟩
  have q := hl i σ H hi p
  by_cases hlt : i < xs.length
  · refine .inr ⟨⟨xs, xs[i], q, by simp [hlt]⟩, Pv (i + 1), fun σ' H' p' => ⟨xs.length - (i + 1), by omega, rfl, hlt, p'⟩, fun x H' y => ?_⟩
    obtain ⟨T, x', rfl, hT, rfl, y⟩ := y
    exact hs i x' σ H T (y xs q) p hT
  · obtain rfl : i = xs.length := by omega
    exact .inl ⟨⟨xs, q, rfl⟩, hd σ H p⟩

/-! ### (..) * n -/
theorem tup_mul1 (l : Addr) (items : Array Value) (n : Nat) (dd : Option Addr) (sl : Array (Option Value)) (u : Tok) :
    Meets (Builtin.«tuple.__mul__» ⟨[.ref l, .int 1 u], []⟩) (fun _ R s => s.heap.get? l = some { cls := .type "tuple", dict := dd, data := .seq items n, slots := sl } ∧ R (.ok (.ret (Value.ref l))) s) :=
  .of_wp fun prog w A R s h => by
    obtain ⟨hp, g, d, tk, os⟩ := s
    obtain ⟨hl, h⟩ := h
    have f1 := AutoSeq1.idx_int
    have c0 : (decide ((1 : Int) < -(2 ^ 63)) || decide ((1 : Int) ≥ 2 ^ 63)) = false := by decide
    have c1 : (items.isEmpty || (1 : Int) == 1) = true := by rw [show ((1 : Int) == 1) = true from rfl, Bool.or_true]
    wp_walk using wpAny_loadPart' hl
    repeat (first
      | (refine wpAny_ite_false (decide_eq_false (by rw [c0]; exact Bool.false_ne_true)) ?_; wp_walk using wpAny_loadPart' hl)
      | (refine wpAny_ite_true (decide_eq_true c1) ?_; wp_walk using wpAny_loadPart' hl))
    exact ⟨_, rfl, h⟩
theorem tup_mul0 (l : Addr) (items : Array Value) (n : Nat) (dd : Option Addr) (sl : Array (Option Value)) (u : Tok) (hne : items.isEmpty = false) :
    Meets (Builtin.«tuple.__mul__» ⟨[.ref l, .int 0 u], []⟩) (fun _ R s => s.heap.get? l = some { cls := .type "tuple", dict := dd, data := .seq items n, slots := sl } ∧
      R (.ok (.ret (Value.ref s.heap.objs.size))) { s with heap := s.heap.push { cls := Value.type "tuple", data := Data.seq #[] } }) :=
  .of_wp fun prog w A R s h => by
    obtain ⟨hp, g, d, tk, os⟩ := s
    obtain ⟨hl, h⟩ := h
    have f1 := AutoSeq1.idx_int
    have c0 : (decide ((0 : Int) < -(2 ^ 63)) || decide ((0 : Int) ≥ 2 ^ 63)) = false := by decide
    have c1 : (items.isEmpty || (0 : Int) == 1) = false := by rw [hne]; rfl
    have c2 : (decide ((0 : Int) ≤ 0) || items.isEmpty) = true := by rw [hne]; rfl
    wp_walk using wpAny_loadPart' hl
    repeat (first
      | (refine wpAny_ite_false (decide_eq_false (by rw [c0]; exact Bool.false_ne_true)) ?_; wp_walk using wpAny_loadPart' hl)
      | (refine wpAny_ite_false (decide_eq_false (by rw [c1]; exact Bool.false_ne_true)) ?_; wp_walk using wpAny_loadPart' hl)
      | (refine wpAny_ite_true (decide_eq_true c2) ?_; wp_walk using wpAny_loadPart' hl))
    exact ⟨_, rfl, h⟩
end G3

set_option Elab.async false
set_option linter.all false
set_option maxRecDepth 100000
set_option maxHeartbeats 4000000
/-! (..) * n; an own error without arguments; defs that lean on no repr being under way. -/
namespace G3
open PySem PySem.Spec PyProof.Rows L2

def rRepA : R2 := fun x y H Q => ∃ l k xs, x = .ref l ∧ y = .int k ∧ TupAt H l xs ∧ xs ≠ [] ∧ 0 ≤ k ∧ k ≤ 1000 ∧ xs.length ≤ 1000 ∧ ∀ p H', Same H H' → TupAt H' p (List.replicate k.toNat xs).flatten → Q (.ref p) H'
section
variable {X : Cx}
theorem op_repA : OpR X (binaryOp .Mult) rRepA := by
  intro pins s σ H x y v u Q I rx ry h
  obtain ⟨l, k, xs, rfl, rfl, hT, hne, h0, h1, hz, q⟩ := h
  by_cases k2 : 2 ≤ k
  · exact op_repT pins s σ H _ _ v u Q I rx ry ⟨l, k, xs, rfl, rfl, hT.sq, hne, k2, h1, hz, fun p np => q p _ (same_upd np) (.inl upd_same)⟩
  · cases rx
    obtain ⟨t, rfl⟩ := ry
    obtain ⟨its, r, ⟨⟨cls, dd, data, sl⟩, ho, hc, n, hd⟩, hs⟩ := I.tuple hT.sq
    simp only at hc hd
    subst hc hd
    have hi : its.toArray.isEmpty = false := by
      cases r with
      | nil => exact absurd rfl hne
      | cons _ _ => rfl
    have road : ∀ {R : Result → Shared → Prop} (B : Meets (Builtin.«tuple.__mul__» ⟨[.ref l, .int k t], []⟩) (fun _ R s => s.heap.get? l = some { cls := .type "tuple", dict := dd, data := .seq its.toArray n, slots := sl } ∧ R (.ok (.ret (if k = 1 then Value.ref l else Value.ref s.heap.objs.size))) (if k = 1 then s else { s with heap := s.heap.push { cls := Value.type "tuple", data := Data.seq #[] } }))),
        EP X pins σ Q (if k = 1 then Value.ref l else Value.ref s.heap.objs.size) (if k = 1 then s else { s with heap := s.heap.push { cls := Value.type "tuple", data := Data.seq #[] } }) →
        wpAny (model X.prog X.w) X.A (binaryOp .Mult (.ref l) (.int k t)) (EP X pins σ Q) X.xe s := fun B z =>
      wpAny_binaryOp_repeat_ref (T := "tuple") (U := "int") (by decide) ⟨_, ho, rfl⟩ (fun s' => typeIs_int s' k t) noFill_tuple_mul F.fills_int_mul F.slot_int_rmul repeat_tuple F.slot_int_index.lookup
        (call_meets F.slot_int_rmul (typeIs_int s k t) F.entry_int_rmul (F.args_int_rmul_2 _ _) (int_rmul_tuple k t l its.toArray n dd sl)
          ⟨ho, rfl, ⟨_, ho, rfl⟩, call_meets F.slot_tuple_mul ⟨_, ho, rfl⟩ F.entry_tuple_mul (F.args_tuple_mul_2 _ _) B ⟨ho, z⟩⟩)
    by_cases k1 : k = 1
    · subst k1
      refine road (R := fun _ _ => True) (by simpa using tup_mul1 l its.toArray n dd sl t) ?_
      rw [if_pos rfl, if_pos rfl]
      refine ⟨.ref l, H, I, rfl, q l H (Same.refl H) ?_⟩
      have e : (List.replicate (1 : Int).toNat xs).flatten = xs := by simp
      rw [e]
      exact hT
    · obtain rfl : k = 0 := by omega
      refine road (R := fun _ _ => True) (by simpa using tup_mul0 l its.toArray n dd sl t hi) ?_
      rw [if_neg (by decide), if_neg (by decide)]
      have e : (List.replicate (0 : Int).toNat xs).flatten = [] := by simp
      have J := I.laid (t' := s.toks) (a := s.heap.objs.size) (o := .tup []) (h' := s.heap.push { cls := Value.type "tuple", data := Data.seq #[] }) (fun b ob q => Heap.get?_push_of_some _ q) (Nat.le_refl _) ⟨Nat.zero_le _, [], .nil, ⟨_, Heap.get?_push_size _ rfl, rfl, _, rfl⟩⟩
      refine ⟨.ref s.heap.objs.size, _, J, rfl, q _ _ (same_upd (I.hok.fresh (Nat.le_refl _))) ?_⟩
      rw [e]
      exact .inl upd_same

/-! ### X(), X an own error without own __init__ -/
theorem pmk_own0 {C : Addr} {bmB : List Value} {B newId initId : String} {x : Str} {p pos : Pos} (F : ExcBaseFacts B newId initId bmB) (q : PySem.W.excIn X.K C bmB newId = true) (gC : X.mg x = some (.ref C))
    (kC : PySem.W.keepIn X.K (.ref C) = true) (r : Raises X (.ref C)) (hg : Gl X x) (hdb : (x == ("__debug__" : Str)) = false := by decide) :
    PMk X (.Call (.Name x p) [] [] pos) (fun _ H Q => Q (.ref C) none H) := by
  intro pins s σ H Q I h
  refine wpAny_Call_Name_kw (ld_glob I hg gC ?_ hdb)
  refine PySem.W.callWith_K0 I.kIn kC ?_
  show wpAny _ _ (call (.ref C) []) _ _ _
  obtain ⟨bm, N, nm, qn, bs, hdct, sn, sub, ab, col, dd, k0, k1, k2, k3, k5, mN, hC, hN, hni, T⟩ := exc_obj I.kIn q
  refine wpAny_call_exc_subT F T hC hN hni (fun h' e hm => ?_) (Nat.zero_le _)
  exact mk_of I hm r h (I.hok.gone hm.new)
end

/-! ### a def that may only be called where no repr is under way -/
structure FnG (P : Program) (w : World) (K : PySem.W.Frag) (mg : Str → Option Value) (base : Heap) (k : Nat) (f : Addr) (fd : FuncData) (ps : List Str) (sp : Sp) : Prop where
  len : ∀ vs H Q E, sp vs H Q E → vs.length = ps.length
  run : ∀ (A : Around) (outer : List Env) (s : Shared) (H : Hp) (args : Args) (us : List Value) (vs : List V) (Q : VK) (E : XK), A.guards = some [] → Room k A → Env0 P w K mg base A outer s H → BindsTo s fd args (ps.zip us) →
    Vals vs us → sp vs H Q E → codeAny (model P w) A (.call (.ref f) args) (CR CX0 outer P w H s Q E) s
section
variable {P : Program} {w : World} {K : PySem.W.Frag} {mg : Str → Option Value} {base : Heap}
theorem okG {x qual : Str} {st : Stmt} {f : Addr} {fd : FuncData} {N ps : List Str} {k : Nat} {sp : Sp} (F : Fun K x qual st f fd) (S : FnScope N ps (defScope st)) (len : ∀ vs H Q E, sp vs H Q E → vs.length = ps.length)
    (hbody : ∀ (cdv : Value) (A : Around) (outer : List Env) (s : Shared) (H : Hp) (vs : List V) (Q : VK) (E : XK), A.guards = some [] → Room k (A.deeper (envOfC qual (defScope st) s.heap.objs.size f cdv)) → sp vs H Q E →
      ∃ t, PSs (cxOf CX0 P w K mg base N qual (defScope st) f cdv A outer s H E).nox (defBody st) t ∧ t { nx := fun _ H' => Q .non H', rt := Q } (start N vs) H) : FnG P w K mg base (k + 1) f fd ps sp := by
  obtain ⟨oc, od, kV, doc, pm, an, cdv, ct, osl, rfl, lk, hcd⟩ := F.ex
  refine ⟨len, fun A outer s H args us vs Q E hgd hr e0 hb r hsp => ?_⟩
  have bk : ∀ b o, base.get? b = some o → s.heap.get? b = some o := fun b o e => (e0.bs b o e).1
  have KX : K.In s.heap := e0.mod.kin.keeps bk
  have hk : ∀ y ∈ ps.zip us, (defScope st).names.lookup y.1 = some .local ∨ ((defScope st).names.lookup y.1 = some .cell ∧ ((cellsFrom (s.heap.objs.size + 1) (defScope st).names []).lookup y.1).isSome = true) := by
    rintro ⟨n, v⟩ hy
    rcases S.par n (List.of_mem_zip hy).1 with z | z
    · exact .inl z
    · exact .inr ⟨z, PySem.W.cellsFrom_some _ _ _ (.inl z)⟩
  refine codeAny_call_function hr.depth (KX _ _ lk) rfl S.co S.gen rfl (PySem.W.codeRec_of KX hcd) (hb _ _ _ _ (wpAny_newFunctionEnv_cells S.kind hk fun env he s1 x => ?_))
  subst he
  refine ⟨(e0.mod.nolimit.keeps bk).keeps x.toInCall.keep, codeAny_func ?_⟩
  obtain ⟨t, ht, hq⟩ := hbody cdv A outer s H vs Q E hgd (hr.deeper _) hsp
  refine wpAny_mono (ht.nox.run [] s1 (start N vs) H _ (inv_start S hr.hd e0 (len _ _ _ _ hsp) r x) hq) (fun fl s' hs => ?_) fun e s' hs => hs
  cases fl with
  | ret u =>
    obtain ⟨v, σ', H', J, rv, z⟩ := hs
    exact ⟨v, H', J.os, J.bare, J.base, J.hok, rv, z⟩
  | next =>
    obtain ⟨σ', H', J, z⟩ := hs
    exact ⟨.non, H', J.os, J.bare, J.base, J.hok, rfl, z⟩
  | brk =>
    obtain ⟨_, _, _, z⟩ := hs
    exact z.elim
  | cont =>
    obtain ⟨_, _, _, z⟩ := hs
    exact z.elim

/-! ### a def by its name: where it stands, how it binds, what it promises -/
structure At (K : PySem.W.Frag) (mg : Str → Option Value) (x : Str) (st : Stmt) (ps : List Str) (f : Addr) (fd : FuncData) : Prop where
  g : mg x = some (.ref f)
  fn : Fun K x x st f fd
  b : Binds K fd ps []
end
def Ok (P : Program) (w : World) (K : PySem.W.Frag) (mg : Str → Option Value) (base : Heap) (x : Str) (k : Nat) (ps : List Str) (sp : Sp) : Prop :=
  ∃ f fd, mg x = some (.ref f) ∧ PySem.W.keepIn K (.ref f) = true ∧ Binds K fd ps [] ∧ FnOk P w K mg base CX0 k f fd ps sp
def OkG (P : Program) (w : World) (K : PySem.W.Frag) (mg : Str → Option Value) (base : Heap) (x : Str) (k : Nat) (ps : List Str) (sp : Sp) : Prop :=
  ∃ f fd, mg x = some (.ref f) ∧ PySem.W.keepIn K (.ref f) = true ∧ Binds K fd ps [] ∧ FnG P w K mg base k f fd ps sp
theorem At.ok {P : Program} {w : World} {K : PySem.W.Frag} {mg : Str → Option Value} {base : Heap} {x : Str} {st : Stmt} {ps : List Str} {k : Nat} {sp : Sp} (h : ∃ f fd, At K mg x st ps f fd)
    (F : ∀ f fd, Fun K x x st f fd → FnOk P w K mg base CX0 k f fd ps sp) : Ok P w K mg base x k ps sp := by
  obtain ⟨f, fd, a⟩ := h
  exact ⟨f, fd, a.g, a.fn.kp, a.b, F f fd a.fn⟩
theorem At.okG {P : Program} {w : World} {K : PySem.W.Frag} {mg : Str → Option Value} {base : Heap} {x : Str} {st : Stmt} {ps : List Str} {k : Nat} {sp : Sp} (h : ∃ f fd, At K mg x st ps f fd)
    (F : ∀ f fd, Fun K x x st f fd → FnG P w K mg base k f fd ps sp) : OkG P w K mg base x k ps sp := by
  obtain ⟨f, fd, a⟩ := h
  exact ⟨f, fd, a.g, a.fn.kp, a.b, F f fd a.fn⟩
section
variable {X : Cx} {x : Str} {k : Nat} {ps : List Str} {sp : Sp} {p pos : Pos} {e : Expr} {es : List Expr} {t : TA}
/-- f(e, ..) -/
theorem pe_cd (G : Ok X.prog X.w X.K X.mg X.base x k ps sp) (hr : Room k X.A) (ha : PA X (e :: es) t) (hg : Gl X x := by rfl) (hdb : (x == ("__debug__" : Str)) = false := by decide)
    (he : starEach (e :: es) X.env = (false, eval e X.env) :: starEach es X.env := by rfl) (hpl : (backTo pos (starEach es X.env)).any (·.1) = false := by rfl) :
    PE X (.Call (.Name x p) (e :: es) [] pos) (tCall sp [] E0 t) := by
  obtain ⟨f, fd, g, kp, b, F⟩ := G
  exact pe_call F hr hg g kp b .nil pass0 ha hdb he hpl
theorem pe_cdG (G : OkG X.prog X.w X.K X.mg X.base x k ps sp) (hgd : X.A.guards = some []) (hr : Room k X.A) (ha : PA X (e :: es) t) (hg : Gl X x := by rfl) (hdb : (x == ("__debug__" : Str)) = false := by decide)
    (he : starEach (e :: es) X.env = (false, eval e X.env) :: starEach es X.env := by rfl) (hpl : (backTo pos (starEach es X.env)).any (·.1) = false := by rfl) :
    PE X (.Call (.Name x p) (e :: es) [] pos) (tCall sp [] E0 t) := by
  obtain ⟨f, fd, g, kp, b, F⟩ := G
  refine ⟨fun pins s σ H Q I h => ?_⟩
  refine wpAny_Call_Name_kw (ld_glob I hg g ?_ hdb)
  refine PySem.W.callWith_K (h₀ := X.base) I.ok.mod.kin kp (thn (ha.run pos pins s σ H _ I h) fun us s1 ⟨vs, H1, I1, r, q⟩ => ⟨I1.kIn, ?_⟩) he hpl
  have q : sp (vs ++ []) H1 Q E0 := q
  rw [List.append_nil] at q
  have hl : us.length = ps.length := by rw [← r.length]; exact F.len _ _ _ _ q
  have hb := b s1 us I1.kIn (by rw [List.append_nil]; exact hl)
  rw [List.append_nil] at hb
  refine wpAny_call (codeAny_mono (F.run X.A X.stack s1 H1 ⟨us, []⟩ us vs Q E0 hgd hr I1.env0 hb r q) fun r2 s' hq => ?_)
  cases r2 with
  | error _ => exact hq.elim
  | ok fl =>
    cases fl with
    | ret u => exact I1.after hq
    | next => exact False.elim hq
    | brk => exact False.elim hq
    | cont => exact False.elim hq
end
end G3

set_option Elab.async false
set_option linter.all false
set_option maxRecDepth 100000
set_option maxHeartbeats 4000000
/-! The text by places: each def, its names by slot (printed by gen_d0.py). -/
namespace G3
open PySem PySem.Spec PyProof.Rows L2
def topS (i : Nat) : Stmt := PySem.Challenge.pw_gentlerounds_k11_whole_monitors_lead_on.main.body.getD i (.Pass ⟨0, 0, 0, 0⟩)
abbrev s_is_whole : Stmt := topS 10
abbrev n_is_whole : List Str := ["value"]
abbrev p_is_whole : List Str := ["value"]
theorem sc_is_whole : FnScope n_is_whole p_is_whole (defScope s_is_whole) := ⟨rfl, rfl, rfl, by decide +kernel, rfl, by decide +kernel, by decide +kernel⟩
abbrev s_is_between : Stmt := topS 11
abbrev n_is_between : List Str := ["value", "low", "high"]
abbrev p_is_between : List Str := ["value", "low", "high"]
theorem sc_is_between : FnScope n_is_between p_is_between (defScope s_is_between) := ⟨rfl, rfl, rfl, by decide +kernel, rfl, by decide +kernel, by decide +kernel⟩
abbrev s_is_from : Stmt := topS 12
abbrev n_is_from : List Str := ["value", "low"]
abbrev p_is_from : List Str := ["value", "low"]
theorem sc_is_from : FnScope n_is_from p_is_from (defScope s_is_from) := ⟨rfl, rfl, rfl, by decide +kernel, rfl, by decide +kernel, by decide +kernel⟩
abbrev s_is_tuple_up_to : Stmt := topS 13
abbrev n_is_tuple_up_to : List Str := ["value", "low", "high"]
abbrev p_is_tuple_up_to : List Str := ["value", "low", "high"]
theorem sc_is_tuple_up_to : FnScope n_is_tuple_up_to p_is_tuple_up_to (defScope s_is_tuple_up_to) := ⟨rfl, rfl, rfl, by decide +kernel, rfl, by decide +kernel, by decide +kernel⟩
abbrev s_is_limit : Stmt := topS 19
abbrev n_is_limit : List Str := ["value"]
abbrev p_is_limit : List Str := ["value"]
theorem sc_is_limit : FnScope n_is_limit p_is_limit (defScope s_is_limit) := ⟨rfl, rfl, rfl, by decide +kernel, rfl, by decide +kernel, by decide +kernel⟩
abbrev s_are_limits : Stmt := topS 20
abbrev n_are_limits : List Str := ["value", "pair"]
abbrev p_are_limits : List Str := ["value"]
theorem sc_are_limits : FnScope n_are_limits p_are_limits (defScope s_are_limits) := ⟨rfl, rfl, rfl, by decide +kernel, rfl, by decide +kernel, by decide +kernel⟩
abbrev s_are_hours : Stmt := topS 21
abbrev n_are_hours : List Str := ["value", "hour"]
abbrev p_are_hours : List Str := ["value"]
theorem sc_are_hours : FnScope n_are_hours p_are_hours (defScope s_are_hours) := ⟨rfl, rfl, rfl, by decide +kernel, rfl, by decide +kernel, by decide +kernel⟩
abbrev s_is_rules_pair : Stmt := topS 22
abbrev n_is_rules_pair : List Str := ["limits", "hours"]
abbrev p_is_rules_pair : List Str := ["limits", "hours"]
theorem sc_is_rules_pair : FnScope n_is_rules_pair p_is_rules_pair (defScope s_is_rules_pair) := ⟨rfl, rfl, rfl, by decide +kernel, rfl, by decide +kernel, by decide +kernel⟩
abbrev s_is_open_at : Stmt := topS 23
abbrev n_is_open_at : List Str := ["hours", "moment"]
abbrev p_is_open_at : List Str := ["hours", "moment"]
theorem sc_is_open_at : FnScope n_is_open_at p_is_open_at (defScope s_is_open_at) := ⟨rfl, rfl, rfl, by decide +kernel, rfl, by decide +kernel, by decide +kernel⟩
abbrev s_memory_of : Stmt := topS 24
abbrev n_memory_of : List Str := ["limits", "many", "size"]
abbrev p_memory_of : List Str := ["limits"]
theorem sc_memory_of : FnScope n_memory_of p_memory_of (defScope s_memory_of) := ⟨rfl, rfl, rfl, by decide +kernel, rfl, by decide +kernel, by decide +kernel⟩
abbrev s_is_crowded : Stmt := topS 25
abbrev n_is_crowded : List Str := ["limits", "asks", "index", "many", "size"]
abbrev p_is_crowded : List Str := ["limits", "asks", "index"]
theorem sc_is_crowded : FnScope n_is_crowded p_is_crowded (defScope s_is_crowded) := ⟨rfl, rfl, rfl, by decide +kernel, rfl, by decide +kernel, by decide +kernel⟩
abbrev s_first_wrong_by : Stmt := topS 26
abbrev n_first_wrong_by : List Str := ["rules", "asks", "limits", "hours", "index", "moment"]
abbrev p_first_wrong_by : List Str := ["rules", "asks"]
theorem sc_first_wrong_by : FnScope n_first_wrong_by p_first_wrong_by (defScope s_first_wrong_by) := ⟨rfl, rfl, rfl, by decide +kernel, rfl, by decide +kernel, by decide +kernel⟩
abbrev s_is_polite_by : Stmt := topS 27
abbrev n_is_polite_by : List Str := ["rules", "asks"]
abbrev p_is_polite_by : List Str := ["rules", "asks"]
theorem sc_is_polite_by : FnScope n_is_polite_by p_is_polite_by (defScope s_is_polite_by) := ⟨rfl, rfl, rfl, by decide +kernel, rfl, by decide +kernel, by decide +kernel⟩
abbrev s_check_number : Stmt := topS 31
abbrev n_check_number : List Str := ["value", "low", "high"]
abbrev p_check_number : List Str := ["value", "low", "high"]
theorem sc_check_number : FnScope n_check_number p_check_number (defScope s_check_number) := ⟨rfl, rfl, rfl, by decide +kernel, rfl, by decide +kernel, by decide +kernel⟩
abbrev s_check_moment : Stmt := topS 32
abbrev n_check_moment : List Str := ["value"]
abbrev p_check_moment : List Str := ["value"]
theorem sc_check_moment : FnScope n_check_moment p_check_moment (defScope s_check_moment) := ⟨rfl, rfl, rfl, by decide +kernel, rfl, by decide +kernel, by decide +kernel⟩
abbrev s_check_limits : Stmt := topS 33
abbrev n_check_limits : List Str := ["value"]
abbrev p_check_limits : List Str := ["value"]
theorem sc_check_limits : FnScope n_check_limits p_check_limits (defScope s_check_limits) := ⟨rfl, rfl, rfl, by decide +kernel, rfl, by decide +kernel, by decide +kernel⟩
abbrev s_are_some_rules : Stmt := topS 34
abbrev n_are_some_rules : List Str := ["value"]
abbrev p_are_some_rules : List Str := ["value"]
theorem sc_are_some_rules : FnScope n_are_some_rules p_are_some_rules (defScope s_are_some_rules) := ⟨rfl, rfl, rfl, by decide +kernel, rfl, by decide +kernel, by decide +kernel⟩
abbrev s_check_rules : Stmt := topS 35
abbrev n_check_rules : List Str := ["value"]
abbrev p_check_rules : List Str := ["value"]
theorem sc_check_rules : FnScope n_check_rules p_check_rules (defScope s_check_rules) := ⟨rfl, rfl, rfl, by decide +kernel, rfl, by decide +kernel, by decide +kernel⟩
abbrev s_check_asks : Stmt := topS 36
abbrev n_check_asks : List Str := ["value", "index", "moment"]
abbrev p_check_asks : List Str := ["value"]
theorem sc_check_asks : FnScope n_check_asks p_check_asks (defScope s_check_asks) := ⟨rfl, rfl, rfl, by decide +kernel, rfl, by decide +kernel, by decide +kernel⟩
abbrev s_check_polite : Stmt := topS 37
abbrev n_check_polite : List Str := ["rules", "asks", "wrong"]
abbrev p_check_polite : List Str := ["rules", "asks"]
theorem sc_check_polite : FnScope n_check_polite p_check_polite (defScope s_check_polite) := ⟨rfl, rfl, rfl, by decide +kernel, rfl, by decide +kernel, by decide +kernel⟩
abbrev s_does_let : Stmt := topS 39
abbrev n_does_let : List Str := ["limits", "hours", "moment", "counts", "many", "most", "size"]
abbrev p_does_let : List Str := ["limits", "hours", "moment", "counts", "many"]
theorem sc_does_let : FnScope n_does_let p_does_let (defScope s_does_let) := ⟨rfl, rfl, rfl, by decide +kernel, rfl, by decide +kernel, by decide +kernel⟩
abbrev s_led_counts : Stmt := topS 40
abbrev n_led_counts : List Str := ["counts", "many"]
abbrev p_led_counts : List Str := ["counts", "many"]
theorem sc_led_counts : FnScope n_led_counts p_led_counts (defScope s_led_counts) := ⟨rfl, rfl, rfl, by decide +kernel, rfl, by decide +kernel, by decide +kernel⟩
abbrev s_does_fit : Stmt := topS 41
abbrev n_does_fit : List Str := ["limits", "value", "memory", "most", "size", "start", "count"]
abbrev p_does_fit : List Str := ["limits", "value"]
theorem sc_does_fit : FnScope n_does_fit p_does_fit (defScope s_does_fit) := ⟨rfl, rfl, rfl, by decide +kernel, rfl, by decide +kernel, by decide +kernel⟩
abbrev s_counts_by : Stmt := topS 42
abbrev n_counts_by : List Str := ["limits", "asks", "moment", "back"]
abbrev p_counts_by : List Str := ["limits", "asks", "moment"]
theorem sc_counts_by : FnScope n_counts_by p_counts_by (defScope s_counts_by) := ⟨rfl, rfl, rfl, by decide +kernel, rfl, by decide +kernel, by decide +kernel⟩
abbrev s_most_now_by : Stmt := topS 43
abbrev n_most_now_by : List Str := ["limits", "hours", "moment", "counts", "most", "size"]
abbrev p_most_now_by : List Str := ["limits", "hours", "moment", "counts"]
theorem sc_most_now_by : FnScope n_most_now_by p_most_now_by (defScope s_most_now_by) := ⟨rfl, rfl, rfl, by decide +kernel, rfl, by decide +kernel, by decide +kernel⟩
abbrev s_waited_by : Stmt := topS 44
abbrev n_waited_by : List Str := ["limits", "hours", "moment", "counts", "passed"]
abbrev p_waited_by : List Str := ["limits", "hours", "moment", "counts"]
theorem sc_waited_by : FnScope n_waited_by p_waited_by (defScope s_waited_by) := ⟨rfl, rfl, rfl, by decide +kernel, rfl, by decide +kernel, by decide +kernel⟩
abbrev s_check_counts : Stmt := topS 46
abbrev n_check_counts : List Str := ["limits", "value"]
abbrev p_check_counts : List Str := ["limits", "value"]
theorem sc_check_counts : FnScope n_check_counts p_check_counts (defScope s_check_counts) := ⟨rfl, rfl, rfl, by decide +kernel, rfl, by decide +kernel, by decide +kernel⟩
abbrev s_are_counts : Stmt := topS 47
abbrev n_are_counts : List Str := ["limits", "value"]
abbrev p_are_counts : List Str := ["limits", "value"]
theorem sc_are_counts : FnScope n_are_counts p_are_counts (defScope s_are_counts) := ⟨rfl, rfl, rfl, by decide +kernel, rfl, by decide +kernel, by decide +kernel⟩
abbrev s_counts_at : Stmt := topS 48
abbrev n_counts_at : List Str := ["rules", "asks", "moment"]
abbrev p_counts_at : List Str := ["rules", "asks", "moment"]
theorem sc_counts_at : FnScope n_counts_at p_counts_at (defScope s_counts_at) := ⟨rfl, rfl, rfl, by decide +kernel, rfl, by decide +kernel, by decide +kernel⟩
abbrev s_check_state : Stmt := topS 49
abbrev n_check_state : List Str := ["rules", "moment", "counts"]
abbrev p_check_state : List Str := ["rules", "moment", "counts"]
theorem sc_check_state : FnScope n_check_state p_check_state (defScope s_check_state) := ⟨rfl, rfl, rfl, by decide +kernel, rfl, by decide +kernel, by decide +kernel⟩
abbrev s_most_now : Stmt := topS 50
abbrev n_most_now : List Str := ["rules", "moment", "counts"]
abbrev p_most_now : List Str := ["rules", "moment", "counts"]
theorem sc_most_now : FnScope n_most_now p_most_now (defScope s_most_now) := ⟨rfl, rfl, rfl, by decide +kernel, rfl, by decide +kernel, by decide +kernel⟩
abbrev s_lets : Stmt := topS 51
abbrev n_lets : List Str := ["rules", "moment", "counts", "many"]
abbrev p_lets : List Str := ["rules", "moment", "counts", "many"]
theorem sc_lets : FnScope n_lets p_lets (defScope s_lets) := ⟨rfl, rfl, rfl, by decide +kernel, rfl, by decide +kernel, by decide +kernel⟩
abbrev s_next_counts : Stmt := topS 52
abbrev n_next_counts : List Str := ["rules", "moment", "counts", "many"]
abbrev p_next_counts : List Str := ["rules", "moment", "counts", "many"]
theorem sc_next_counts : FnScope n_next_counts p_next_counts (defScope s_next_counts) := ⟨rfl, rfl, rfl, by decide +kernel, rfl, by decide +kernel, by decide +kernel⟩
abbrev s_wait : Stmt := topS 53
abbrev n_wait : List Str := ["rules", "moment", "counts"]
abbrev p_wait : List Str := ["rules", "moment", "counts"]
theorem sc_wait : FnScope n_wait p_wait (defScope s_wait) := ⟨rfl, rfl, rfl, by decide +kernel, rfl, by decide +kernel, by decide +kernel⟩
abbrev s_is_polite : Stmt := topS 55
abbrev n_is_polite : List Str := ["rules", "asks"]
abbrev p_is_polite : List Str := ["rules", "asks"]
theorem sc_is_polite : FnScope n_is_polite p_is_polite (defScope s_is_polite) := ⟨rfl, rfl, rfl, by decide +kernel, rfl, by decide +kernel, by decide +kernel⟩
abbrev s_first_wrong : Stmt := topS 56
abbrev n_first_wrong : List Str := ["rules", "asks"]
abbrev p_first_wrong : List Str := ["rules", "asks"]
theorem sc_first_wrong : FnScope n_first_wrong p_first_wrong (defScope s_first_wrong) := ⟨rfl, rfl, rfl, by decide +kernel, rfl, by decide +kernel, by decide +kernel⟩
abbrev s_law_well : Stmt := topS 58
abbrev n_law_well : List Str := ["_law_script", "_law_turn", "_law_mixed", "_law_each", "_law_cell", "_law_digits"]
abbrev p_law_well : List Str := ["_law_script", "_law_turn"]
theorem sc_law_well : FnScope n_law_well p_law_well (defScope s_law_well) := ⟨rfl, rfl, rfl, by decide +kernel, rfl, by decide +kernel, by decide +kernel⟩
abbrev s_law_pick : Stmt := topS 59
abbrev n_law_pick : List Str := ["_law_well_here", "_law_top", "_law_digit"]
abbrev p_law_pick : List Str := ["_law_well_here", "_law_top"]
theorem sc_law_pick : FnScope n_law_pick p_law_pick (defScope s_law_pick) := ⟨rfl, rfl, rfl, by decide +kernel, rfl, by decide +kernel, by decide +kernel⟩
abbrev s_law_one : Stmt := topS 60
abbrev n_law_one : List Str := ["_law_well_here", "_law_some"]
abbrev p_law_one : List Str := ["_law_well_here", "_law_some"]
theorem sc_law_one : FnScope n_law_one p_law_one (defScope s_law_one) := ⟨rfl, rfl, rfl, by decide +kernel, rfl, by decide +kernel, by decide +kernel⟩
abbrev s_law_open : Stmt := topS 61
abbrev n_law_open : List Str := ["_law_clock", "_law_time"]
abbrev p_law_open : List Str := ["_law_clock", "_law_time"]
theorem sc_law_open : FnScope n_law_open p_law_open (defScope s_law_open) := ⟨rfl, rfl, rfl, by decide +kernel, rfl, by decide +kernel, by decide +kernel⟩
abbrev s_law_may : Stmt := topS 62
abbrev n_law_may : List Str := ["_law_pairs", "_law_clock", "_law_row", "_law_time", "_law_number", "_law_pair", "_law_other"]
abbrev p_law_may : List Str := ["_law_pairs", "_law_clock", "_law_row", "_law_time", "_law_number"]
theorem sc_law_may : FnScope n_law_may p_law_may (defScope s_law_may) := ⟨rfl, rfl, rfl, by decide +kernel, rfl, by decide +kernel, by decide +kernel⟩
abbrev s_law_some_limits : Stmt := topS 63
abbrev n_law_some_limits : List Str := ["_law_well_here", "_law_top", "_law_width", "_law_number", "_law_turn"]
abbrev p_law_some_limits : List Str := ["_law_well_here", "_law_top", "_law_width"]
theorem sc_law_some_limits : FnScope n_law_some_limits p_law_some_limits (defScope s_law_some_limits) := ⟨rfl, rfl, rfl, by decide +kernel, rfl, by decide +kernel, by decide +kernel⟩
abbrev s_law_some_hours : Stmt := topS 64
abbrev n_law_some_hours : List Str := ["_law_well_here", "_law_top", "_law_row", "_law_turn"]
abbrev p_law_some_hours : List Str := ["_law_well_here", "_law_top"]
theorem sc_law_some_hours : FnScope n_law_some_hours p_law_some_hours (defScope s_law_some_hours) := ⟨rfl, rfl, rfl, by decide +kernel, rfl, by decide +kernel, by decide +kernel⟩
abbrev s_law_greatest : Stmt := topS 65
abbrev n_law_greatest : List Str := ["_law_pairs", "_law_clock", "_law_row", "_law_time", "_law_number"]
abbrev p_law_greatest : List Str := ["_law_pairs", "_law_clock", "_law_row", "_law_time"]
theorem sc_law_greatest : FnScope n_law_greatest p_law_greatest (defScope s_law_greatest) := ⟨rfl, rfl, rfl, by decide +kernel, rfl, by decide +kernel, by decide +kernel⟩
abbrev s_law_led : Stmt := topS 66
abbrev n_law_led : List Str := ["_law_rule", "_law_time", "_law_counts", "_law_number"]
abbrev p_law_led : List Str := ["_law_rule", "_law_time", "_law_counts", "_law_number"]
theorem sc_law_led : FnScope n_law_led p_law_led (defScope s_law_led) := ⟨rfl, rfl, rfl, by decide +kernel, rfl, by decide +kernel, by decide +kernel⟩
abbrev s_law_wait : Stmt := topS 67
abbrev n_law_wait : List Str := ["_law_pairs", "_law_clock", "_law_row", "_law_time", "_law_step"]
abbrev p_law_wait : List Str := ["_law_pairs", "_law_clock", "_law_row", "_law_time"]
theorem sc_law_wait : FnScope n_law_wait p_law_wait (defScope s_law_wait) := ⟨rfl, rfl, rfl, by decide +kernel, rfl, by decide +kernel, by decide +kernel⟩
abbrev s_law_moment_right : Stmt := topS 68
abbrev n_law_moment_right : List Str := ["_law_rule", "_law_row", "_law_time", "_law_counts", "_law_number", "_law_pairs", "_law_clock", "_law_told", "_law_due"]
abbrev p_law_moment_right : List Str := ["_law_rule", "_law_row", "_law_time", "_law_counts", "_law_number"]
theorem sc_law_moment_right : FnScope n_law_moment_right p_law_moment_right (defScope s_law_moment_right) := ⟨rfl, rfl, rfl, by decide +kernel, rfl, by decide +kernel, by decide +kernel⟩
abbrev s_law_right : Stmt := topS 69
abbrev n_law_right : List Str := ["_law_well_here", "_law_pairs", "_law_clock", "_law_rule", "_law_row", "_law_span", "_law_counts", "_law_time", "_law_top", "_law_number", "_law_new", "_law_wrong", "_law_first", "_law_pair"]
abbrev p_law_right : List Str := ["_law_well_here"]
theorem sc_law_right : FnScope n_law_right p_law_right (defScope s_law_right) := ⟨rfl, rfl, rfl, by decide +kernel, rfl, by decide +kernel, by decide +kernel⟩
abbrev s_law : Stmt := topS 70
abbrev n_law : List Str := ["_law_script", "_law_turn"]
abbrev p_law : List Str := ["_law_script"]
theorem sc_law : FnScope n_law p_law (defScope s_law) := ⟨rfl, rfl, rfl, by decide +kernel, rfl, by decide +kernel, by decide +kernel⟩
theorem b_isinstance : bootBuiltins "isinstance" = some (.builtin "isinstance") := by decide +kernel
theorem b_int : bootBuiltins "int" = some (.type "int") := by decide +kernel
theorem b_bool : bootBuiltins "bool" = some (.type "bool") := by decide +kernel
theorem b_tuple : bootBuiltins "tuple" = some (.type "tuple") := by decide +kernel
theorem b_len : bootBuiltins "len" = some (.builtin "len") := by decide +kernel
theorem b_all : bootBuiltins "all" = some (.builtin "all") := by decide +kernel
theorem b_any : bootBuiltins "any" = some (.builtin "any") := by decide +kernel
theorem b_max : bootBuiltins "max" = some (.builtin "max") := by decide +kernel
theorem b_min : bootBuiltins "min" = some (.builtin "min") := by decide +kernel
theorem b_sum : bootBuiltins "sum" = some (.builtin "sum") := by decide +kernel
theorem b_enumerate : bootBuiltins "enumerate" = some (.type "enumerate") := by decide +kernel
theorem b_range : bootBuiltins "range" = some (.type "range") := by decide +kernel
theorem b_abs : bootBuiltins "abs" = some (.builtin "abs") := by decide +kernel
theorem b_divmod : bootBuiltins "divmod" = some (.builtin "divmod") := by decide +kernel
theorem b_repr : bootBuiltins "repr" = some (.builtin "repr") := by decide +kernel
/-- what the top has left: the built-in names, the numbers, the defs, the error that is raised -/
structure Txt (K : PySem.W.Frag) (mg : Str → Option Value) : Prop where
  z_isinstance : mg "isinstance" = none
  z_int : mg "int" = none
  z_bool : mg "bool" = none
  z_tuple : mg "tuple" = none
  z_len : mg "len" = none
  z_all : mg "all" = none
  z_any : mg "any" = none
  z_max : mg "max" = none
  z_min : mg "min" = none
  z_sum : mg "sum" = none
  z_enumerate : mg "enumerate" = none
  z_range : mg "range" = none
  z_abs : mg "abs" = none
  z_divmod : mg "divmod" = none
  z_repr : mg "repr" = none
  c_MOST_LIMITS : ∃ t, mg "MOST_LIMITS" = some (.int 4 t)
  c_MOST_ASKS : ∃ t, mg "MOST_ASKS" = some (.int 6 t)
  c_MOST_MOMENTS : ∃ t, mg "MOST_MOMENTS" = some (.int 12 t)
  c_MOST_HOURS : ∃ t, mg "MOST_HOURS" = some (.int 12 t)
  c_MOST_ROW : ∃ t, mg "MOST_ROW" = some (.int 200 t)
  c_MOST_WINDOW : ∃ t, mg "MOST_WINDOW" = some (.int 100 t)
  d_is_whole : ∃ f fd, At K mg "is_whole" s_is_whole p_is_whole f fd
  d_is_between : ∃ f fd, At K mg "is_between" s_is_between p_is_between f fd
  d_is_from : ∃ f fd, At K mg "is_from" s_is_from p_is_from f fd
  d_is_tuple_up_to : ∃ f fd, At K mg "is_tuple_up_to" s_is_tuple_up_to p_is_tuple_up_to f fd
  d_is_limit : ∃ f fd, At K mg "is_limit" s_is_limit p_is_limit f fd
  d_are_limits : ∃ f fd, At K mg "are_limits" s_are_limits p_are_limits f fd
  d_are_hours : ∃ f fd, At K mg "are_hours" s_are_hours p_are_hours f fd
  d_is_rules_pair : ∃ f fd, At K mg "is_rules_pair" s_is_rules_pair p_is_rules_pair f fd
  d_is_open_at : ∃ f fd, At K mg "is_open_at" s_is_open_at p_is_open_at f fd
  d_memory_of : ∃ f fd, At K mg "memory_of" s_memory_of p_memory_of f fd
  d_is_crowded : ∃ f fd, At K mg "is_crowded" s_is_crowded p_is_crowded f fd
  d_first_wrong_by : ∃ f fd, At K mg "first_wrong_by" s_first_wrong_by p_first_wrong_by f fd
  d_is_polite_by : ∃ f fd, At K mg "is_polite_by" s_is_polite_by p_is_polite_by f fd
  d_check_number : ∃ f fd, At K mg "check_number" s_check_number p_check_number f fd
  d_check_moment : ∃ f fd, At K mg "check_moment" s_check_moment p_check_moment f fd
  d_check_limits : ∃ f fd, At K mg "check_limits" s_check_limits p_check_limits f fd
  d_are_some_rules : ∃ f fd, At K mg "are_some_rules" s_are_some_rules p_are_some_rules f fd
  d_check_rules : ∃ f fd, At K mg "check_rules" s_check_rules p_check_rules f fd
  d_check_asks : ∃ f fd, At K mg "check_asks" s_check_asks p_check_asks f fd
  d_check_polite : ∃ f fd, At K mg "check_polite" s_check_polite p_check_polite f fd
  d_does_let : ∃ f fd, At K mg "does_let" s_does_let p_does_let f fd
  d_led_counts : ∃ f fd, At K mg "led_counts" s_led_counts p_led_counts f fd
  d_does_fit : ∃ f fd, At K mg "does_fit" s_does_fit p_does_fit f fd
  d_counts_by : ∃ f fd, At K mg "counts_by" s_counts_by p_counts_by f fd
  d_most_now_by : ∃ f fd, At K mg "most_now_by" s_most_now_by p_most_now_by f fd
  d_waited_by : ∃ f fd, At K mg "waited_by" s_waited_by p_waited_by f fd
  d_check_counts : ∃ f fd, At K mg "check_counts" s_check_counts p_check_counts f fd
  d_are_counts : ∃ f fd, At K mg "are_counts" s_are_counts p_are_counts f fd
  d_counts_at : ∃ f fd, At K mg "counts_at" s_counts_at p_counts_at f fd
  d_check_state : ∃ f fd, At K mg "check_state" s_check_state p_check_state f fd
  d_most_now : ∃ f fd, At K mg "most_now" s_most_now p_most_now f fd
  d_lets : ∃ f fd, At K mg "lets" s_lets p_lets f fd
  d_next_counts : ∃ f fd, At K mg "next_counts" s_next_counts p_next_counts f fd
  d_wait : ∃ f fd, At K mg "wait" s_wait p_wait f fd
  d_is_polite : ∃ f fd, At K mg "is_polite" s_is_polite p_is_polite f fd
  d_first_wrong : ∃ f fd, At K mg "first_wrong" s_first_wrong p_first_wrong f fd
  d_law_well : ∃ f fd, At K mg "_law_well" s_law_well p_law_well f fd
  d_law_pick : ∃ f fd, At K mg "_law_pick" s_law_pick p_law_pick f fd
  d_law_one : ∃ f fd, At K mg "_law_one" s_law_one p_law_one f fd
  d_law_open : ∃ f fd, At K mg "_law_open" s_law_open p_law_open f fd
  d_law_may : ∃ f fd, At K mg "_law_may" s_law_may p_law_may f fd
  d_law_some_limits : ∃ f fd, At K mg "_law_some_limits" s_law_some_limits p_law_some_limits f fd
  d_law_some_hours : ∃ f fd, At K mg "_law_some_hours" s_law_some_hours p_law_some_hours f fd
  d_law_greatest : ∃ f fd, At K mg "_law_greatest" s_law_greatest p_law_greatest f fd
  d_law_led : ∃ f fd, At K mg "_law_led" s_law_led p_law_led f fd
  d_law_wait : ∃ f fd, At K mg "_law_wait" s_law_wait p_law_wait f fd
  d_law_moment_right : ∃ f fd, At K mg "_law_moment_right" s_law_moment_right p_law_moment_right f fd
  d_law_right : ∃ f fd, At K mg "_law_right" s_law_right p_law_right f fd
  d_law : ∃ f fd, At K mg "law" s_law p_law f fd
  barred : ∃ C, mg "Barred" = some (.ref C) ∧ PySem.W.excIn K C [.type "ValueError", .type "Exception", .type "BaseException", .type "object"] "ValueError.__new__" = true ∧ PySem.W.keepIn K (.ref C) = true ∧
    PySem.W.subIn K (.ref C) (.type "BaseException") = some true ∧ PySem.W.typeIn K (.ref C) = some (.type "type") ∧ PySem.W.isClsIn K C = true ∧ PySem.W.subIn K (.ref C) (.ref C) = some true
end G3

set_option Elab.async false
set_option linter.all false
set_option maxRecDepth 100000
set_option maxHeartbeats 4000000
/-! What the readings want: isinstance, comprehensions whose items leave all that was tracked, limits on the heap. -/
namespace G3
open PySem PySem.Spec PyProof.Rows L2

theorem ifT {c : Bool} {A B : Prop} (hc : c = true) (h : A) : if c = true then A else B := by rw [if_pos hc]; exact h
theorem ifF {c : Bool} {A B : Prop} (hc : c = false) (h : B) : if c = true then A else B := by rw [if_neg (by rw [hc]; exact Bool.false_ne_true)]; exact h
theorem blE {Q : VK} {c d : Bool} {H : Hp} (hc : c = d) (q : Q (.bl d) H) : Q (.bl c) H := by rw [hc]; exact q
theorem inE {Q : VK} {c d : Int} {H : Hp} (hc : c = d) (q : Q (.int d) H) : Q (.int c) H := by rw [hc]; exact q
theorem sqT_same {K : PySem.W.Frag} {H H' : Hp} {a : Addr} {xs : List V} (e : Same H H') (h : SqT K H a xs) : SqT K H' a xs := by
  rcases h with (h | ⟨o, h⟩) | h
  · exact .inl (.inl (e _ _ h))
  · exact .inl (.inr ⟨o, e _ _ h⟩)
  · exact .inr h

/-! ### isinstance -/
section
variable {X : Cx}
theorem cr_isInt : CallR X (.builtin "isinstance") (fun xs H Q => ∃ i, xs = [.int i, .ty "int"] ∧ Q (.bl true) H) := by
  intro pins s σ H xs us Q I r h
  obtain ⟨i, rfl, q⟩ := h
  exact call_isi pins s σ H _ us Q I r ⟨.int i, .ty "int", .type "int", .type "int", true, rfl, .ty _, .base (.int i), kit_ty (by decide +kernel), q⟩
theorem cr_isBool : CallR X (.builtin "isinstance") (fun xs H Q => ∃ i, xs = [.int i, .ty "bool"] ∧ Q (.bl false) H) := by
  intro pins s σ H xs us Q I r h
  obtain ⟨i, rfl, q⟩ := h
  exact call_isi pins s σ H _ us Q I r ⟨.int i, .ty "bool", .type "int", .type "bool", false, rfl, .ty _, .base (.int i), kit_ty (by decide +kernel), q⟩
theorem cr_isTup : CallR X (.builtin "isinstance") (fun xs H Q => ∃ a ys, xs = [.ref a, .ty "tuple"] ∧ TupAt H a ys ∧ Q (.bl true) H) := by
  intro pins s σ H xs us Q I r h
  obtain ⟨a, ys, rfl, ha, q⟩ := h
  exact call_isi pins s σ H _ us Q I r ⟨.ref a, .ty "tuple", .type "tuple", .type "tuple", true, rfl, .ty _, ha.ty, kit_ty (by decide +kernel), q⟩
theorem cr_lenT : CallR X (.builtin "len") (fun xs H Q => ∃ a ys, xs = [.ref a] ∧ TupAt H a ys ∧ Q (.int ys.length) H) := by
  intro pins s σ H xs us Q I r h
  obtain ⟨a, ys, rfl, ha, q⟩ := h
  exact call_len_seq pins s σ H _ us Q I r ⟨a, ys, rfl, .inr ha.sq, q⟩
theorem ix_tupA : IxR X (fun x y H Q => ∃ p xs, ∃ i : Nat, ∃ v, x = .ref p ∧ y = .int i ∧ TupAt H p xs ∧ xs[i]? = some v ∧ Q v H) := by
  intro value slice pins s σ H x y v u Q I rx ry h hs
  obtain ⟨p, xs, i, z, rfl, rfl, hq, he, q⟩ := h
  exact ix_tup value slice pins s σ H _ _ v u Q I rx ry ⟨p, xs, i, z, rfl, rfl, hq.sq, atI_nat he, q⟩ hs
theorem sl_tupS : SlR X (fun x lo hi H Q => ∃ a xs, x = .ref a ∧ TupAt H a xs ∧ ∀ p H', Same H H' → TupAt H' p (cutV xs lo hi) → Q (.ref p) H') := by
  intro pins s σ H x v vl vu lo hi sl Q I rx hs pl pu h
  obtain ⟨a, xs, rfl, hx, q⟩ := h
  refine sl_tupA pins s σ H _ v vl vu lo hi sl Q I rx hs pl pu ⟨a, xs, rfl, hx.sq, fun z => q a H (Same.refl H) ?_, fun _ p np => q p _ (same_upd np) (.inl upd_same)⟩
  have e : cutV xs lo hi = xs := by
    unfold cutV
    rw [z.1, z.2]
    simp
  rw [e]
  exact hx
end

/-! ### comprehensions whose items leave all that was tracked -/
theorem take_succ {α : Type} {l : List α} {i : Nat} {y : α} (h : l[i]? = some y) : l.take i ++ [y] = l.take (i + 1) := by
  rw [List.take_add_one, h]
  rfl
theorem lc_tupS {K : PySem.W.Frag} {a : Addr} {xs ys : List V} {g : TG} {te : TE} {vs : List Nat} {σ : L2.St} {H1 : Hp} {D : Addr} {Qd : Hp → Prop} (nD : H1 D = none) (ha : SqT K H1 a xs) (hl : ys.length = xs.length) (hz : xs.length ≤ sizeLine)
    (hs : ∀ (i : Nat) x y H (Q : VK), xs[i]? = some x → ys[i]? = some y → Same H1 H → (∀ H', Same H H' → Q y H') → g x (wipe σ vs) H fun σ2 H2 => wipe σ2 vs = wipe σ vs ∧ te σ2 H2 Q)
    (hd : ∀ H, Same H1 H → H D = some (.lst ys) → Qd H)
    (gm : ∀ x σ H (A B : L2.St → Hp → Prop), (∀ σ H, A σ H → B σ H) → g x σ H A → g x σ H B) :
    ∃ W : Nat → Nat → Hp → Prop, (∃ m, W 0 m (upd H1 D (.lst []))) ∧ ∀ i m H, W i m H →
      ((Itt K a).stop i H ∧ Qd H) ∨ ((Itt K a).go i H ∧ ∃ Nx : Hp → Prop, (∀ H', Nx H' → ∃ m', m' < m ∧ W (i + 1) m' H') ∧ ∀ x H', (Itt K a).yld i H x H' → g x (wipe σ vs) H' fun σ2 H2 => wipe σ2 vs = wipe σ vs ∧ tYes σ2 H2 fun b H3 =>
        if b = true then te σ2 H3 fun y H4 => ∃ acc, H4 D = some (.lst acc) ∧ acc.length < sizeLine ∧ Nx (upd H4 D (.lst (acc ++ [y]))) else Nx H3) := by
  refine lc_tup (K := K) (a := a) (xs := xs) (fun i H => Same H1 H ∧ H D = some (.lst (ys.take i))) ⟨same_upd nD, upd_same⟩ (fun i H _ p => sqT_same p.1 ha) (fun i x H hx p => ?_) (fun H p => hd H p.1 (by rw [p.2, ← hl, List.take_length]))
  have hi : i < xs.length := (List.getElem?_eq_some_iff.mp hx).1
  have hy : ys[i]? = some ys[i] := List.getElem?_eq_getElem (by omega)
  refine gm _ _ _ (fun σ2 H2 => wipe σ2 vs = wipe σ vs ∧ te σ2 H2 (fun y H4 => ∃ acc, H4 D = some (.lst acc) ∧ acc.length < sizeLine ∧ Same H1 (upd H4 D (.lst (acc ++ [y]))) ∧ upd H4 D (.lst (acc ++ [y])) D = some (.lst (ys.take (i + 1))))) _ (fun σ2 H2 z => ⟨z.1, by unfold tYes; dsimp only; rw [if_pos rfl]; exact z.2⟩) (hs i x ys[i] H (fun y H4 => ∃ acc, H4 D = some (.lst acc) ∧ acc.length < sizeLine ∧ Same H1 (upd H4 D (.lst (acc ++ [y]))) ∧ upd H4 D (.lst (acc ++ [y])) D = some (.lst (ys.take (i + 1)))) hx hy p.1 fun H' e => ⟨ys.take i, e _ _ p.2, ?_, fun b o q => ?_, ?_⟩)
  · rw [List.length_take]
    omega
  · rw [upd_ne (ne_of_none q nD)]
    exact e _ _ (p.1 _ _ q)
  · rw [upd_same, take_succ hy]
theorem lc_rngS {n : Nat} {ys : List V} {g : TG} {te : TE} {vs : List Nat} {σ : L2.St} {H1 : Hp} {D : Addr} {Qd : Hp → Prop} (nD : H1 D = none) (hl : ys.length = n) (hz : n ≤ sizeLine)
    (hs : ∀ (i : Nat) y H (Q : VK), ys[i]? = some y → Same H1 H → (∀ H', Same H H' → Q y H') → g (.int (0 + (i : Int))) (wipe σ vs) H fun σ2 H2 => wipe σ2 vs = wipe σ vs ∧ te σ2 H2 Q)
    (hd : ∀ H, Same H1 H → H D = some (.lst ys) → Qd H)
    (gm : ∀ x σ H (A B : L2.St → Hp → Prop), (∀ σ H, A σ H → B σ H) → g x σ H A → g x σ H B) :
    ∃ W : Nat → Nat → Hp → Prop, (∃ m, W 0 m (upd H1 D (.lst []))) ∧ ∀ i m H, W i m H →
      ((Itr 0 n).stop i H ∧ Qd H) ∨ ((Itr 0 n).go i H ∧ ∃ Nx : Hp → Prop, (∀ H', Nx H' → ∃ m', m' < m ∧ W (i + 1) m' H') ∧ ∀ x H', (Itr 0 n).yld i H x H' → g x (wipe σ vs) H' fun σ2 H2 => wipe σ2 vs = wipe σ vs ∧ tYes σ2 H2 fun b H3 =>
        if b = true then te σ2 H3 fun y H4 => ∃ acc, H4 D = some (.lst acc) ∧ acc.length < sizeLine ∧ Nx (upd H4 D (.lst (acc ++ [y]))) else Nx H3) := by
  refine lc_range (lo := 0) (n := n) (fun i H => Same H1 H ∧ H D = some (.lst (ys.take i))) ⟨same_upd nD, upd_same⟩ (fun i H hi p => ?_) (fun H p => hd H p.1 (by rw [p.2, ← hl, List.take_length]))
  have hy : ys[i]? = some ys[i] := List.getElem?_eq_getElem (by omega)
  refine gm _ _ _ (fun σ2 H2 => wipe σ2 vs = wipe σ vs ∧ te σ2 H2 (fun y H4 => ∃ acc, H4 D = some (.lst acc) ∧ acc.length < sizeLine ∧ Same H1 (upd H4 D (.lst (acc ++ [y]))) ∧ upd H4 D (.lst (acc ++ [y])) D = some (.lst (ys.take (i + 1))))) _ (fun σ2 H2 z => ⟨z.1, by unfold tYes; dsimp only; rw [if_pos rfl]; exact z.2⟩) (hs i ys[i] H (fun y H4 => ∃ acc, H4 D = some (.lst acc) ∧ acc.length < sizeLine ∧ Same H1 (upd H4 D (.lst (acc ++ [y]))) ∧ upd H4 D (.lst (acc ++ [y])) D = some (.lst (ys.take (i + 1)))) hy p.1 fun H' e => ⟨ys.take i, e _ _ p.2, ?_, fun b o q => ?_, ?_⟩)
  · rw [List.length_take]
    omega
  · rw [upd_ne (ne_of_none q nD)]
    exact e _ _ (p.1 _ _ q)
  · rw [upd_same, take_succ hy]
theorem gm_name {i : Nat} : ∀ x σ H (A B : L2.St → Hp → Prop), (∀ σ H, A σ H → B σ H) → gName i x σ H A → gName i x σ H B := fun _ _ _ _ _ h q => h _ _ q
theorem gm_pair {K : PySem.W.Frag} {n i j : Nat} : ∀ x σ H (A B : L2.St → Hp → Prop), (∀ σ H, A σ H → B σ H) → gTup K n (gCons (gName i) (gCons (gName j) gNil)) x σ H A → gTup K n (gCons (gName i) (gCons (gName j) gNil)) x σ H B := by
  rintro x σ H A B h ⟨a, xs, e, hq, hl, v, r, e2, v2, r2, e3, e4, q⟩
  exact ⟨a, xs, e, hq, hl, v, r, e2, v2, r2, e3, e4, h _ _ q⟩
theorem g_pair {K : PySem.W.Frag} {i j : Nat} {σ : L2.St} {H : Hp} {a : Addr} {k v : V} {A : L2.St → Hp → Prop} (h : H a = some (.tup [k, v])) (q : A ((σ.set i (some k)).set j (some v)) H) :
    gTup K 2 (gCons (gName i) (gCons (gName j) gNil)) (.ref a) σ H A := ⟨a, _, rfl, SqT.of h, rfl, _, _, rfl, _, _, rfl, rfl, q⟩

/-! ### limits, hours, rules on the heap -/
def PairsAt (H : Hp) : List Addr → List (Int × Int) → Prop
  | [], [] => True
  | a :: as, p :: ps => H a = some (.tup [.int p.1, .int p.2]) ∧ PairsAt H as ps
  | _, _ => False
theorem PairsAt.same {H H' : Hp} (e : Same H H') : ∀ {as : List Addr} {ls : List (Int × Int)}, PairsAt H as ls → PairsAt H' as ls
  | [], [], _ => trivial
  | a :: as, p :: ps, h => ⟨e _ _ h.1, PairsAt.same e h.2⟩
  | [], _ :: _, h => h.elim
  | _ :: _, [], h => h.elim
theorem PairsAt.length {H : Hp} : ∀ {as : List Addr} {ls : List (Int × Int)}, PairsAt H as ls → as.length = ls.length
  | [], [], _ => rfl
  | a :: as, p :: ps, h => congrArg (· + 1) (PairsAt.length h.2)
  | [], _ :: _, h => h.elim
  | _ :: _, [], h => h.elim
theorem PairsAt.get {H : Hp} : ∀ {as : List Addr} {ls : List (Int × Int)} {i : Nat} {p : Int × Int}, PairsAt H as ls → ls[i]? = some p → ∃ a, as[i]? = some a ∧ H a = some (.tup [.int p.1, .int p.2])
  | a :: as, q :: ps, 0, p, h, e => by
    obtain rfl : q = p := by simpa using e
    exact ⟨a, rfl, h.1⟩
  | a :: as, q :: ps, i + 1, p, h, e => PairsAt.get (i := i) h.2 (by simpa using e)
  | [], [], i, p, _, e => by simp at e
  | [], _ :: _, _, _, h, _ => h.elim
  | _ :: _, [], _, _, h, _ => h.elim
def LimAt (H : Hp) (a : Addr) (ls : List (Int × Int)) : Prop := ∃ as, TupAt H a (as.map V.ref) ∧ PairsAt H as ls
theorem LimAt.same {H H' : Hp} {a : Addr} {ls : List (Int × Int)} (e : Same H H') (h : LimAt H a ls) : LimAt H' a ls := by
  obtain ⟨as, h1, h2⟩ := h
  exact ⟨as, h1.same e, h2.same e⟩
def RuleAt (H : Hp) (r : Addr) (ls : List (Int × Int)) (hs : List Int) : Prop := ∃ la ha, TupAt H r [.ref la, .ref ha] ∧ LimAt H la ls ∧ TupAt H ha (hs.map V.int)
theorem RuleAt.same {H H' : Hp} {r : Addr} {ls : List (Int × Int)} {hs : List Int} (e : Same H H') (h : RuleAt H r ls hs) : RuleAt H' r ls hs := by
  obtain ⟨la, ha, h1, h2, h3⟩ := h
  exact ⟨la, ha, h1.same e, h2.same e, h3.same e⟩
structure LimOk (ls : List (Int × Int)) : Prop where
  few : ls.length ≤ 4
  each : ∀ p ∈ ls, 1 ≤ p.1 ∧ p.1 ≤ 6 ∧ 1 ≤ p.2 ∧ p.2 ≤ 7
structure HrsOk (hs : List Int) : Prop where
  one : 1 ≤ hs.length
  few : hs.length ≤ 5
  each : ∀ h ∈ hs, h = 0 ∨ h = 1
  has : (1 : Int) ∈ hs
theorem get_map {α : Type} {f : α → V} {l : List α} {i : Nat} {x : V} (h : (l.map f)[i]? = some x) : ∃ y, l[i]? = some y ∧ x = f y := by
  rw [List.getElem?_map] at h
  cases e : l[i]? with
  | none => rw [e] at h; cases h
  | some y => rw [e] at h; exact ⟨y, rfl, (Option.some.inj h).symm⟩
theorem map_get {α : Type} {f : α → V} {l : List α} {i : Nat} {y : α} (h : l[i]? = some y) : (l.map f)[i]? = some (f y) := by
  rw [List.getElem?_map, h]
  rfl
end G3

set_option Elab.async false
set_option linter.all false
set_option maxRecDepth 100000
set_option maxHeartbeats 4000000
/-! values, looks at limits and hours. -/
namespace G3
open PySem PySem.Spec PyProof.Rows L2
section
variable {P : Program} {w : World} {K : PySem.W.Frag} {mg : Str → Option Value} {base : Heap}

def sp_whole : Sp := fun vs H Q _ => ∃ i : Int, vs = [.int i] ∧ Q (.bl true) H
theorem ok_whole (T : Txt K mg) : Ok P w K mg base "is_whole" 1 p_is_whole sp_whole := At.ok T.d_is_whole fun f fd F => by
  refine F.ok sc_is_whole (fun vs H Q E h => ?_) (fun cdv A outer s H vs Q E hr h => ?_)
  · obtain ⟨i, rfl, _⟩ := h
    rfl
  · obtain ⟨i, rfl, q⟩ := h
    refine ⟨_, pss_one (ps_ret (pe_and (pe_callB cr_isInt (by rfl) T.z_isinstance b_isinstance (pa_cons (pv 0) (pa_cons (pe_bltn (v := .ty "int") (by rfl) T.z_int b_int rfl) pa_nil)))
      (pe_one (pe_not (pe_callB cr_isBool (by rfl) T.z_isinstance b_isinstance (pa_cons (pv 0) (pa_cons (pe_bltn (v := .ty "bool") (by rfl) T.z_bool b_bool rfl) pa_nil))))))), ?_⟩
    exact ⟨_, rfl, i, rfl, true, rfl, ifT rfl ⟨_, rfl, i, rfl, false, rfl, q⟩⟩

def sp_between : Sp := fun vs H Q _ => ∃ i lo hi : Int, vs = [.int i, .int lo, .int hi] ∧ lo ≤ i ∧ i ≤ hi ∧ Q (.bl true) H
theorem ok_between (T : Txt K mg) : Ok P w K mg base "is_between" 2 p_is_between sp_between := At.ok T.d_is_between fun f fd F => by
  refine F.ok sc_is_between (fun vs H Q E h => ?_) (fun cdv A outer s H vs Q E hr h => ?_)
  · obtain ⟨i, lo, hi, rfl, _⟩ := h
    rfl
  · obtain ⟨i, lo, hi, rfl, h1, h2, q⟩ := h
    refine ⟨_, pss_one (ps_ret (pe_and (pe_cd (ok_whole T) hr (pa_cons (pv 0) pa_nil)) (pe_one (pe_chain op_le op_le (pv 1) (pv 0) (pv 2))))), ?_⟩
    exact ⟨_, rfl, i, rfl, true, rfl, ifT rfl ⟨_, rfl, _, rfl, lo, i, rfl, rfl, _, rfl, ifT (decide_eq_true h1) ⟨_, rfl, i, hi, rfl, rfl, blE (decide_eq_true h2) q⟩⟩⟩

def sp_from : Sp := fun vs H Q _ => ∃ i lo : Int, vs = [.int i, .int lo] ∧ lo ≤ i ∧ Q (.bl true) H
theorem ok_from (T : Txt K mg) : Ok P w K mg base "is_from" 2 p_is_from sp_from := At.ok T.d_is_from fun f fd F => by
  refine F.ok sc_is_from (fun vs H Q E h => ?_) (fun cdv A outer s H vs Q E hr h => ?_)
  · obtain ⟨i, lo, rfl, _⟩ := h
    rfl
  · obtain ⟨i, lo, rfl, h1, q⟩ := h
    refine ⟨_, pss_one (ps_ret (pe_and (pe_cd (ok_whole T) hr (pa_cons (pv 0) pa_nil)) (pe_one (pe_cmpR op_ge (pv 0) (pv 1) (nomark _))))), ?_⟩
    exact ⟨_, rfl, i, rfl, true, rfl, ifT rfl ⟨_, rfl, _, rfl, i, lo, rfl, rfl, blE (decide_eq_true h1) q⟩⟩

def sp_tupto : Sp := fun vs H Q _ => ∃ (a : Addr) (xs : List V) (lo hi : Int), vs = [.ref a, .int lo, .int hi] ∧ TupAt H a xs ∧ lo ≤ xs.length ∧ xs.length ≤ hi ∧ Q (.bl true) H
theorem ok_tupto (T : Txt K mg) : Ok P w K mg base "is_tuple_up_to" 1 p_is_tuple_up_to sp_tupto := At.ok T.d_is_tuple_up_to fun f fd F => by
  refine F.ok sc_is_tuple_up_to (fun vs H Q E h => ?_) (fun cdv A outer s H vs Q E hr h => ?_)
  · obtain ⟨a, xs, lo, hi, rfl, _⟩ := h
    rfl
  · obtain ⟨a, xs, lo, hi, rfl, ha, h1, h2, q⟩ := h
    refine ⟨_, pss_one (ps_ret (pe_and (pe_callB cr_isTup (by rfl) T.z_isinstance b_isinstance (pa_cons (pv 0) (pa_cons (pe_bltn (v := .ty "tuple") (by rfl) T.z_tuple b_tuple rfl) pa_nil)))
      (pe_one (pe_chain op_le op_le (pv 1) (pe_callB cr_lenT (by rfl) T.z_len b_len (pa_cons (pv 0) pa_nil)) (pv 2))))), ?_⟩
    exact ⟨_, rfl, a, xs, rfl, ha, true, rfl, ifT rfl ⟨_, rfl, _, rfl, a, xs, rfl, ha, lo, _, rfl, rfl, _, rfl, ifT (decide_eq_true h1) ⟨_, rfl, _, hi, rfl, rfl, blE (decide_eq_true h2) q⟩⟩⟩

def sp_limit : Sp := fun vs H Q _ => ∃ (a : Addr) (k n : Int), vs = [.ref a] ∧ H a = some (.tup [.int k, .int n]) ∧ (1 ≤ k ∧ k ≤ 6 ∧ 1 ≤ n ∧ n ≤ 7) ∧ Q (.bl true) H
theorem ok_limit (T : Txt K mg) : Ok P w K mg base "is_limit" 3 p_is_limit sp_limit := At.ok T.d_is_limit fun f fd F => by
  refine F.ok sc_is_limit (fun vs H Q E h => ?_) (fun cdv A outer s H vs Q E hr h => ?_)
  · obtain ⟨a, k, n, rfl, _⟩ := h
    rfl
  · obtain ⟨a, k, n, rfl, ha, ⟨h1, h2, h3, h4⟩, q⟩ := h
    obtain ⟨t1, c1⟩ := T.c_MOST_ASKS
    obtain ⟨t2, c2⟩ := T.c_MOST_MOMENTS
    refine ⟨_, pss_cons (ps_if (pt_not (pt_val (pe_cd (ok_tupto T) (hr.mono (by decide)) (pa_cons (pv 0) (pa_cons pe_int (pa_cons pe_int pa_nil)))))) (pss_one (ps_ret pe_bl)) pss_nil)
      (pss_one (ps_ret (pe_and (pe_cd (ok_between T) hr (pa_cons (pe_ix ix_tupA (pv 0) pe_int (fun _ _ => rfl)) (pa_cons pe_int (pa_cons (pe_glob (v := .int 6) (by rfl) c1 ⟨_, rfl⟩) pa_nil))))
        (pe_one (pe_cd (ok_between T) hr (pa_cons (pe_ix ix_tupA (pv 0) pe_int (fun _ _ => rfl)) (pa_cons pe_int (pa_cons (pe_glob (v := .int 12) (by rfl) c2 ⟨_, rfl⟩) pa_nil)))))))), ?_⟩
    refine ⟨_, rfl, a, _, 2, 2, rfl, .inl ha, (by show (2 : Int) ≤ 2; decide), (by show (2 : Int) ≤ 2; decide), true, rfl, ifF rfl ?_⟩
    refine ⟨_, rfl, a, _, 0, _, rfl, rfl, .inl ha, rfl, k, 1, 6, rfl, h1, h2, true, rfl, ifT rfl ?_⟩
    exact ⟨_, rfl, a, _, 1, _, rfl, rfl, .inl ha, rfl, n, 1, 12, rfl, h3, by omega, q⟩

def sp_limits : Sp := fun vs H Q _ => ∃ (a : Addr) (ls : List (Int × Int)), vs = [.ref a] ∧ LimAt H a ls ∧ LimOk ls ∧ ∀ H', Same H H' → Q (.bl true) H'
theorem all_true (n : Nat) : (List.replicate n true).all id = true := by simp
theorem rep_map (n : Nat) : (List.replicate n true).map V.bl = List.replicate n (.bl true) := by simp
theorem get_rep {α : Type} {n i : Nat} {x y : α} (h : (List.replicate n x)[i]? = some y) : y = x := by
  rw [List.getElem?_replicate] at h
  split at h
  · exact (Option.some.inj h).symm
  · cases h
theorem ok_limits (T : Txt K mg) : Ok P w K mg base "are_limits" 4 p_are_limits sp_limits := At.ok T.d_are_limits fun f fd F => by
  refine F.ok sc_are_limits (fun vs H Q E h => ?_) (fun cdv A outer s H vs Q E hr h => ?_)
  · obtain ⟨a, ls, rfl, _⟩ := h
    rfl
  · obtain ⟨a, ls, rfl, ⟨as, ha, hp⟩, ho, q⟩ := h
    obtain ⟨t1, c1⟩ := T.c_MOST_LIMITS
    have hl := hp.length
    have hf := ho.few
    refine ⟨_, pss_one (ps_ret (pe_and (pe_cd (ok_tupto T) (hr.mono (by decide)) (pa_cons (pv 0) (pa_cons pe_int (pa_cons (pe_glob (v := .int 4) (by rfl) c1 ⟨_, rfl⟩) pa_nil))))
      (pe_one (pe_callB (cr_all rfl) (by rfl) T.z_all b_all (pa_cons (pe_lc (own := [("pair", 1)]) (g := gName 1) (tt := tYes) (by rfl) sc_are_limits.nd (pi_tup (pv 0)) (blkOk_by (N := n_are_limits) (sc := defScope s_are_limits) (by decide +kernel))
        (fun _ _ _ _ _ => pg_name (i := 1) sc_are_limits.nd rfl (Or.inl rfl)) (fun _ _ _ _ _ => pts_nil) (fun _ _ _ _ _ => pe_cd (ok_limit T) hr (pa_cons (pv 1) pa_nil))) pa_nil))))), ?_⟩
    refine ⟨_, rfl, a, _, 0, 4, rfl, ha, by omega, by rw [List.length_map]; omega, true, rfl, ifT rfl ?_⟩
    refine ⟨_, rfl, a, rfl, ⟨_, ha.sq⟩, fun D nD => lc_tupS (ys := List.replicate ls.length (.bl true)) nD ha.sq (by simp [hl]) (by rw [List.length_map, sizeLine_eq]; omega) ?_ ?_ gm_name⟩
    · intro i x y H2 Q2 hx hy sm q2
      obtain ⟨c, hc, rfl⟩ := get_map hx
      obtain ⟨hi, _⟩ := List.getElem?_eq_some_iff.mp hc
      have hip : ls[i]? = some ls[i] := List.getElem?_eq_getElem (by omega)
      obtain ⟨c', hc', hH⟩ := hp.get hip
      obtain rfl : c' = c := Option.some.inj (hc'.symm.trans hc)
      obtain rfl := get_rep hy
      exact ⟨rfl, _, rfl, c', _, _, rfl, sm _ _ hH, ho.each _ (List.getElem_mem _), q2 _ (Same.refl _)⟩
    · intro H2 sm hD
      exact ⟨D, List.replicate ls.length true, rfl, SqL.of (by rw [rep_map]; exact hD), blE (all_true _) (q H2 sm)⟩

def sp_hours : Sp := fun vs H Q _ => ∃ (a : Addr) (hs : List Int), vs = [.ref a] ∧ TupAt H a (hs.map V.int) ∧ HrsOk hs ∧ ∀ H', Same H H' → Q (.bl true) H'
theorem inV_int {k : Int} : ∀ {l : List Int}, k ∈ l → inV (.int k) (l.map V.int) = true
  | a :: r, h => by
    unfold inV
    rw [List.map_cons, List.any_cons]
    rcases List.mem_cons.mp h with e | e
    · subst e
      have : eqV (.int k) (.int k) = true := by show (k == k) = true; exact beq_self_eq_true k
      rw [this]
      rfl
    · have := inV_int e
      unfold inV at this
      rw [this, Bool.or_true]
theorem flat_ints (l : List Int) : (l.map V.int).all flatV = true := by
  rw [List.all_map]
  exact List.all_eq_true.mpr fun _ _ => rfl
theorem ok_hours (T : Txt K mg) : Ok P w K mg base "are_hours" 3 p_are_hours sp_hours := At.ok T.d_are_hours fun f fd F => by
  refine F.ok sc_are_hours (fun vs H Q E h => ?_) (fun cdv A outer s H vs Q E hr h => ?_)
  · obtain ⟨a, hs, rfl, _⟩ := h
    rfl
  · obtain ⟨a, hs, rfl, ha, ho, q⟩ := h
    obtain ⟨t1, c1⟩ := T.c_MOST_HOURS
    have hf := ho.few
    have h1 := ho.one
    refine ⟨_, pss_cons (ps_if (PW.pt (pw_or (pt_not (pt_val (pe_cd (ok_tupto T) (hr.mono (by decide)) (pa_cons (pv 0) (pa_cons pe_int (pa_cons (pe_glob (v := .int 12) (by rfl) c1 ⟨_, rfl⟩) pa_nil))))))
      (pw_or1 (pt_not (pt_val (pe_callB (cr_all rfl) (by rfl) T.z_all b_all (pa_cons (pe_lc (own := [("hour", 1)]) (g := gName 1) (tt := tYes) (by rfl) sc_are_hours.nd (pi_tup (pv 0)) (blkOk_by (N := n_are_hours) (sc := defScope s_are_hours) (by decide +kernel))
        (fun _ _ _ _ _ => pg_name (i := 1) sc_are_hours.nd rfl (Or.inl rfl)) (fun _ _ _ _ _ => pts_nil) (fun _ _ _ _ _ => pe_cd (ok_between T) hr (pa_cons (pv 1) (pa_cons pe_int (pa_cons pe_int pa_nil))))) pa_nil))))))) (pss_one (ps_ret pe_bl)) pss_nil)
      (pss_one (ps_ret (pe_cmpR op_in_seq pe_int (pv 0) (by rfl)))), ?_⟩
    refine ⟨_, rfl, a, _, 1, 12, rfl, ha, by rw [List.length_map]; omega, by rw [List.length_map]; omega, true, rfl, ifF rfl ?_⟩
    refine ⟨_, rfl, a, rfl, ⟨_, ha.sq⟩, fun D nD => lc_tupS (ys := List.replicate hs.length (.bl true)) nD ha.sq (by simp) (by rw [List.length_map, sizeLine_eq]; omega) ?_ ?_ gm_name⟩
    · intro i x y H2 Q2 hx hy sm q2
      obtain ⟨c, hc, rfl⟩ := get_map hx
      obtain rfl := get_rep hy
      have hm := ho.each c (List.mem_of_getElem? hc)
      exact ⟨rfl, _, rfl, c, 0, 1, rfl, by omega, by omega, q2 _ (Same.refl _)⟩
    · intro H2 sm hD
      refine ⟨D, List.replicate hs.length true, rfl, SqL.of (by rw [rep_map]; exact hD), _, rfl, ifF (by rw [all_true]; rfl) ?_⟩
      exact ⟨_, rfl, a, _, rfl, .inr (ha.same sm).sq, rfl, flat_ints _, blE (inV_int ho.has) (q H2 sm)⟩
end
end G3

/-! What the program computes, as plain functions (no program here). -/
namespace M3
def openI (hs : List Int) (t : Int) : Bool := decide (hs.getD (t % (hs.length : Int)).toNat 0 = 1)
/-- how many counts a monitor keeps -/
def memN (ls : List (Int × Int)) : Nat := (ls.map (·.2)).foldr (fun w m => max w.toNat m) 1 - 1
theorem memN_nil : memN [] = 0 := rfl
theorem fold_max : ∀ (l : List Int) (m : Int), m ∈ l → (∀ y, y ∈ l → y ≤ m) → 1 ≤ m → (l.foldr (fun w m => max w.toNat m) 1 : Nat) = m.toNat
  | [], m, h, _, _ => by cases h
  | a :: r, m, h, hle, h1 => by
    show max a.toNat (r.foldr (fun w m => max w.toNat m) 1) = m.toNat
    have ha : a ≤ m := hle a List.mem_cons_self
    have low : ∀ (l : List Int), (∀ y, y ∈ l → y ≤ m) → l.foldr (fun w m => max w.toNat m) 1 ≤ m.toNat := by
      intro l
      induction l with
      | nil => intro _; show 1 ≤ m.toNat; omega
      | cons b r ih =>
        intro hb
        have h2 := hb b List.mem_cons_self
        have h3 := ih fun y hy => hb y (List.mem_cons_of_mem _ hy)
        show max b.toNat _ ≤ m.toNat
        omega
    have hr := low r fun y hy => hle y (List.mem_cons_of_mem _ hy)
    rcases List.mem_cons.mp h with e | e
    · subst e
      omega
    · have ih := fold_max r m e (fun y hy => hle y (List.mem_cons_of_mem _ hy)) h1
      omega
theorem memN_max {ls : List (Int × Int)} {m : Int} (h : m ∈ ls.map (·.2)) (hle : ∀ y, y ∈ ls.map (·.2) → y ≤ m) (h1 : 1 ≤ m) : m - 1 = (memN ls : Int) := by
  have := fold_max _ m h hle h1
  unfold memN
  omega
theorem le_fold : ∀ (l : List Int) (w : Int), w ∈ l → w.toNat ≤ l.foldr (fun w m => max w.toNat m) 1
  | [], w, h => by cases h
  | a :: r, w, h => by
    show w.toNat ≤ max a.toNat (r.foldr (fun w m => max w.toNat m) 1)
    rcases List.mem_cons.mp h with e | e
    · subst e; omega
    · have := le_fold r w e; omega
theorem le_memN {ls : List (Int × Int)} {p : Int × Int} (h : p ∈ ls) : p.2 - 1 ≤ (memN ls : Int) := by
  have := le_fold (ls.map (·.2)) p.2 (List.mem_map.mpr ⟨p, h, rfl⟩)
  unfold memN
  omega
theorem memN_le {ls : List (Int × Int)} {n : Nat} (h : ∀ p ∈ ls, p.2 ≤ (n : Int)) (h1 : 1 ≤ n) : memN ls ≤ n - 1 := by
  have low : ∀ (l : List Int), (∀ y, y ∈ l → y ≤ (n : Int)) → l.foldr (fun w m => max w.toNat m) 1 ≤ n := by
    intro l
    induction l with
    | nil => intro _; exact h1
    | cons b r ih =>
      intro hb
      have h2 := hb b List.mem_cons_self
      have h3 := ih fun y hy => hb y (List.mem_cons_of_mem _ hy)
      show max b.toNat _ ≤ n
      omega
  have := low (ls.map (·.2)) fun y hy => by
    obtain ⟨p, hp, rfl⟩ := List.mem_map.mp hy
    exact h p hp
  unfold memN
  omega
/-- one pair is broken at the ask with the index i -/
def tooSoon (asks : List Int) (i : Nat) (p : Int × Int) : Bool := decide (p.1 ≤ (i : Int)) && decide (asks.getD i 0 < asks.getD (i - p.1.toNat) 0 + p.2)
def crowdI (ls : List (Int × Int)) (asks : List Int) (i : Nat) : Bool := ls.any (tooSoon asks i)
def wrongI (ls : List (Int × Int)) (hs asks : List Int) (i : Nat) : Bool := !openI hs (asks.getD i 0) || crowdI ls asks i
/-- the first place below n where p is -/
def FirstAt (p : Nat → Bool) (n : Nat) : Option Nat → Prop
  | none => ∀ j, j < n → p j = false
  | some i => i < n ∧ p i = true ∧ ∀ j, j < i → p j = false
theorem FirstAt.here {p : Nat → Bool} {n i : Nat} {r : Option Nat} (f : FirstAt p n r) (hi : i < n) (hp : p i = true) (hn : ∀ j, j < i → p j = false) : r = some i := by
  cases r with
  | none => rw [f i hi] at hp; cases hp
  | some k =>
    obtain ⟨h1, h2, h3⟩ := f
    by_cases a : k < i
    · rw [hn k a] at h2; cases h2
    · by_cases b : i < k
      · rw [h3 i b] at hp; cases hp
      · exact congrArg some (by omega)
theorem FirstAt.no {p : Nat → Bool} {n : Nat} {r : Option Nat} (f : FirstAt p n r) (hn : ∀ j, j < n → p j = false) : r = none := by
  cases r with
  | none => rfl
  | some k =>
    obtain ⟨h1, h2, _⟩ := f
    rw [hn k h1] at h2; cases h2
/-- whether a monitor lets n asks at t -/
def spent (ci : List Int) (p : Int × Int) : Int := (ci.take (p.2 - 1).toNat).sum
def letsI (ls : List (Int × Int)) (hs : List Int) (t : Int) (ci : List Int) (n : Int) : Bool := decide (n = 0) || (openI hs t && ls.all fun p => decide (n + spent ci p ≤ p.1))
end M3

set_option Elab.async false
set_option linter.all false
set_option maxRecDepth 100000
set_option maxHeartbeats 4000000
/-! rules, hours, memory, crowded asks; the looks. -/
namespace G3
open PySem PySem.Spec PyProof.Rows L2 M3
section
variable {P : Program} {w : World} {K : PySem.W.Frag} {mg : Str → Option Value} {base : Heap}

def sp_pair : Sp := fun vs H Q _ => ∃ (la ha : Addr) (ls : List (Int × Int)) (hs : List Int), vs = [.ref la, .ref ha] ∧ LimAt H la ls ∧ LimOk ls ∧ TupAt H ha (hs.map V.int) ∧ HrsOk hs ∧ ∀ H', Same H H' → Q (.bl true) H'
theorem ok_pair (T : Txt K mg) : Ok P w K mg base "is_rules_pair" 5 p_is_rules_pair sp_pair := At.ok T.d_is_rules_pair fun f fd F => by
  refine F.ok sc_is_rules_pair (fun vs H Q E h => ?_) (fun cdv A outer s H vs Q E hr h => ?_)
  · obtain ⟨la, ha, ls, hs, rfl, _⟩ := h
    rfl
  · obtain ⟨la, ha, ls, hs, rfl, h1, h2, h3, h4, q⟩ := h
    refine ⟨_, pss_one (ps_ret (pe_and (pe_cd (ok_limits T) hr (pa_cons (pv 0) pa_nil)) (pe_one (pe_cd (ok_hours T) (hr.mono (by decide)) (pa_cons (pv 1) pa_nil))))), ?_⟩
    exact ⟨_, rfl, la, ls, rfl, h1, h2, fun H1 s1 => ⟨true, rfl, ifT rfl ⟨_, rfl, ha, hs, rfl, h3.same s1, h4, fun H2 s2 => q H2 (s1.trans s2)⟩⟩⟩

def sp_open : Sp := fun vs H Q _ => ∃ (ha : Addr) (hs : List Int) (t : Int), vs = [.ref ha, .int t] ∧ TupAt H ha (hs.map V.int) ∧ HrsOk hs ∧ Q (.bl (openI hs t)) H
theorem hours_get {hs : List Int} (h : HrsOk hs) (t : Int) : hs[(t % (hs.length : Int)).toNat]? = some (hs.getD (t % (hs.length : Int)).toNat 0) := by
  have h1 := h.one
  have a := Int.emod_nonneg t (show (hs.length : Int) ≠ 0 by omega)
  have b := Int.emod_lt_of_pos t (show (0 : Int) < hs.length by omega)
  rw [List.getD_eq_getElem?_getD, List.getElem?_eq_getElem (by omega)]
  rfl
theorem dec_one (x : Int) : decide (V.int x = V.int 1) = decide (x = 1) := by
  by_cases e : x = 1
  · subst e; rfl
  · rw [decide_eq_false e, decide_eq_false fun z => e (V.int.inj z)]
theorem ok_open (T : Txt K mg) : Ok P w K mg base "is_open_at" 1 p_is_open_at sp_open := At.ok T.d_is_open_at fun f fd F => by
  refine F.ok sc_is_open_at (fun vs H Q E h => ?_) (fun cdv A outer s H vs Q E hr h => ?_)
  · obtain ⟨ha, hs, t, rfl, _⟩ := h
    rfl
  · obtain ⟨ha, hs, t, rfl, h1, h2, q⟩ := h
    refine ⟨_, pss_one (ps_ret (pe_cmpR op_eq (pe_ix ix_tupA (pv 0) (pe_op op_mod (pv 1) (pe_callB cr_lenT (by rfl) T.z_len b_len (pa_cons (pv 0) pa_nil))) (fun _ _ => rfl)) pe_int (nomark _))), ?_⟩
    have ho := h2.one
    have a := Int.emod_nonneg t (show (hs.length : Int) ≠ 0 by omega)
    refine ⟨_, rfl, _, rfl, _, rfl, ha, _, rfl, h1, t, _, rfl, rfl, (by rw [List.length_map]; omega), ha, _, (t % (hs.length : Int)).toNat, .int (hs.getD (t % (hs.length : Int)).toNat 0), rfl, ?_, h1, map_get (hours_get h2 t), rfl, blE (dec_one _) q⟩
    rw [List.length_map, Int.toNat_of_nonneg a]

def sp_mem : Sp := fun vs H Q _ => ∃ (la : Addr) (ls : List (Int × Int)), vs = [.ref la] ∧ LimAt H la ls ∧ LimOk ls ∧ ∀ H', Same H H' → Q (.int (memN ls)) H'
theorem ok_mem (T : Txt K mg) : Ok P w K mg base "memory_of" 1 p_memory_of sp_mem := At.ok T.d_memory_of fun f fd F => by
  refine F.ok sc_memory_of (fun vs H Q E h => ?_) (fun cdv A outer s H vs Q E hr h => ?_)
  · obtain ⟨la, ls, rfl, _⟩ := h
    rfl
  · obtain ⟨la, ls, rfl, ⟨as, ha, hp⟩, h2, q⟩ := h
    have hl := hp.length
    have hf := h2.few
    refine ⟨_, pss_one (ps_ret (pe_op op_sub (pe_callBK (cr_maxD rfl) (by rfl) T.z_max b_max
      (pa_cons (pe_lc (own := [("many", 1), ("size", 2)]) (g := gTup K 2 (gCons (gName 1) (gCons (gName 2) gNil))) (tt := tYes) (by rfl) sc_memory_of.nd (pi_tup (pv 0)) (blkOk_by (N := n_memory_of) (sc := defScope s_memory_of) (by decide +kernel))
        (fun _ _ _ _ _ => pg_tup rfl (pgs_cons (pg_name (i := 1) sc_memory_of.nd rfl (Or.inl rfl)) (pgs_cons (pg_name (i := 2) sc_memory_of.nd rfl (Or.inl rfl)) pgs_nil))) (fun _ _ _ _ _ => pts_nil) (fun _ _ _ _ _ => pv 2)) pa_nil)
      (pk_cons pe_int pk_nil)) pe_int)), ?_⟩
    refine ⟨_, rfl, la, rfl, ⟨_, ha.sq⟩, fun D nD => lc_tupS (ys := ls.map fun p => V.int p.2) nD ha.sq (by simp [hl]) (by rw [List.length_map, sizeLine_eq]; omega) ?_ ?_ gm_pair⟩
    · intro i x y H2 Q2 hx hy sm q2
      obtain ⟨c, hc, rfl⟩ := get_map hx
      obtain ⟨p, hip, rfl⟩ := get_map hy
      obtain ⟨c', hc', hH⟩ := hp.get hip
      obtain rfl : c' = c := Option.some.inj (hc'.symm.trans hc)
      exact g_pair (sm _ _ hH) ⟨rfl, _, rfl, q2 _ (Same.refl _)⟩
    · intro H2 sm hD
      refine ⟨D, ls.map (·.2), .int 1, rfl, rfl, SqL.of (by rw [List.map_map]; exact hD), fun e => ?_, fun m hm hle => ?_⟩
      · obtain rfl : ls = [] := List.map_eq_nil_iff.mp e
        exact ⟨1, 1, rfl, rfl, q H2 sm⟩
      · obtain ⟨p, hp1, rfl⟩ := List.mem_map.mp hm
        exact ⟨p.2, 1, rfl, rfl, inE (memN_max hm hle (h2.each p hp1).2.2.1) (q H2 sm)⟩

def sp_crowd : Sp := fun vs H Q _ => ∃ (la ta : Addr) (ls : List (Int × Int)) (asks : List Int) (i : Nat), vs = [.ref la, .ref ta, .int i] ∧ LimAt H la ls ∧ LimOk ls ∧ TupAt H ta (asks.map V.int) ∧ i < asks.length ∧ ∀ H', Same H H' → Q (.bl (crowdI ls asks i)) H'
theorem any_map {α : Type} (f : α → Bool) (l : List α) : (l.map f).any id = l.any f := by
  rw [List.any_map]
  rfl
theorem getD_get {l : List Int} {i : Nat} (h : i < l.length) : l[i]? = some (l.getD i 0) := by
  rw [List.getD_eq_getElem?_getD, List.getElem?_eq_getElem h]
  rfl
theorem ok_crowd (T : Txt K mg) : Ok P w K mg base "is_crowded" 1 p_is_crowded sp_crowd := At.ok T.d_is_crowded fun f fd F => by
  refine F.ok sc_is_crowded (fun vs H Q E h => ?_) (fun cdv A outer s H vs Q E hr h => ?_)
  · obtain ⟨la, ta, ls, asks, i, rfl, _⟩ := h
    rfl
  · obtain ⟨la, ta, ls, asks, i, rfl, ⟨as, ha, hp⟩, h2, h3, h4, q⟩ := h
    have hl := hp.length
    have hf := h2.few
    refine ⟨_, pss_one (ps_ret (pe_callB (cr_any rfl) (by rfl) T.z_any b_any
      (pa_cons (pe_lc (own := [("many", 3), ("size", 4)]) (g := gTup K 2 (gCons (gName 3) (gCons (gName 4) gNil))) (tt := tYes) (by rfl) sc_is_crowded.nd (pi_tup (pv 0)) (blkOk_by (N := n_is_crowded) (sc := defScope s_is_crowded) (by decide +kernel))
        (fun _ _ _ _ _ => pg_tup rfl (pgs_cons (pg_name (i := 3) sc_is_crowded.nd rfl (Or.inl rfl)) (pgs_cons (pg_name (i := 4) sc_is_crowded.nd rfl (Or.inl rfl)) pgs_nil))) (fun _ _ _ _ _ => pts_nil)
        (fun _ _ _ _ _ => pe_and (pe_cmpR op_ge (pv 2) (pv 3) (nomark _)) (pe_one (pe_cmpR op_lt (pe_ix ix_tupA (pv 1) (pv 2) (fun _ _ => rfl)) (pe_op op_add (pe_ix ix_tupA (pv 1) (pe_op op_sub (pv 2) (pv 3)) (fun _ _ => rfl)) (pv 4)) (nomark _))))) pa_nil))), ?_⟩
    refine ⟨_, rfl, la, rfl, ⟨_, ha.sq⟩, fun D nD => lc_tupS (ys := ls.map fun p => V.bl (tooSoon asks i p)) nD ha.sq (by simp [hl]) (by rw [List.length_map, sizeLine_eq]; omega) ?_ ?_ gm_pair⟩
    · intro j x y H2 Q2 hx hy sm q2
      obtain ⟨c, hc, rfl⟩ := get_map hx
      obtain ⟨p, hip, rfl⟩ := get_map hy
      obtain ⟨c', hc', hH⟩ := hp.get hip
      obtain rfl : c' = c := Option.some.inj (hc'.symm.trans hc)
      have hk := h2.each p (List.mem_of_getElem? hip)
      refine g_pair (sm _ _ hH) ⟨rfl, _, rfl, _, rfl, i, p.1, rfl, rfl, _, rfl, ?_⟩
      by_cases hki : p.1 ≤ (i : Int)
      · refine ifT (decide_eq_true hki) ?_
        refine ⟨_, rfl, _, rfl, ta, _, i, _, rfl, rfl, h3.same sm, map_get (getD_get h4), _, rfl, _, rfl, _, rfl, (i : Int), p.1, rfl, rfl, ta, _, i - p.1.toNat, _, rfl, ?_, h3.same sm, map_get (getD_get (by omega)), _, rfl, _, _, rfl, rfl, _, _, rfl, rfl, ?_⟩
        · exact congrArg V.int (by omega)
        · refine blE (d := tooSoon asks i p) ?_ (q2 _ (Same.refl _))
          unfold tooSoon
          rw [decide_eq_true hki, Bool.true_and]
      · refine ifF (decide_eq_false hki) (blE (d := tooSoon asks i p) ?_ (q2 _ (Same.refl _)))
        unfold tooSoon
        rw [decide_eq_false hki, Bool.false_and]
    · intro H2 sm hD
      exact ⟨D, ls.map (tooSoon asks i), rfl, SqL.of (by rw [List.map_map]; exact hD), blE (any_map _ _) (q H2 sm)⟩
end
end G3

set_option Elab.async false
set_option linter.all false
set_option maxRecDepth 100000
set_option maxHeartbeats 4000000
/-! the first wrong ask; the looks at arguments. -/
namespace G3
open PySem PySem.Spec PyProof.Rows L2 M3
def optV : Option Nat → V
  | none => .non
  | some i => .int i
section
variable {P : Program} {w : World} {K : PySem.W.Frag} {mg : Str → Option Value} {base : Heap}

def sp_first : Sp := fun vs H Q _ => ∃ (r ta : Addr) (ls : List (Int × Int)) (hs asks : List Int) (res : Option Nat), vs = [.ref r, .ref ta] ∧ RuleAt H r ls hs ∧ LimOk ls ∧ HrsOk hs ∧ TupAt H ta (asks.map V.int) ∧
  FirstAt (wrongI ls hs asks) asks.length res ∧ ∀ H', Same H H' → Q (optV res) H'
theorem ok_first (T : Txt K mg) : Ok P w K mg base "first_wrong_by" 2 p_first_wrong_by sp_first := At.ok T.d_first_wrong_by fun f fd F => by
  refine F.ok sc_first_wrong_by (fun vs H Q E h => ?_) (fun cdv A outer s H vs Q E hr h => ?_)
  · obtain ⟨r, ta, ls, hs, asks, res, rfl, _⟩ := h
    rfl
  · obtain ⟨r, ta, ls, hs, asks, res, rfl, ⟨la, ha, hrl, hla, hha⟩, h2, h3, h4, hf, q⟩ := h
    refine ⟨_, pss_cons (ps_asg (pv 0) (pg_tup rfl (pgs_cons (pg_name (i := 2) sc_first_wrong_by.nd rfl (.inl rfl)) (pgs_cons (pg_name (i := 3) sc_first_wrong_by.nd rfl (.inl rfl)) pgs_nil))))
      (pss_cons (ps_for PassesOwn.never rfl (pi_enumT (by rfl) T.z_enumerate (pa_cons (pv 1) pa_nil)) (pg_tup rfl (pgs_cons (pg_name (i := 4) sc_first_wrong_by.nd rfl (.inl rfl)) (pgs_cons (pg_name (i := 5) sc_first_wrong_by.nd rfl (.inl rfl)) pgs_nil)))
        (pss_one (ps_if (PW.pt (pw_or (pt_not (pt_val (pe_cd (ok_open T) hr (pa_cons (pv 3) (pa_cons (pv 5) pa_nil))))) (pw_or1 (pt_val (pe_cd (ok_crowd T) hr (pa_cons (pv 2) (pa_cons (pv 1) (pa_cons (pv 4) pa_nil))))))))
          (pss_one (ps_ret (pv 4))) pss_nil)))
      (pss_one (ps_ret pe_non))), ?_⟩
    refine ⟨_, rfl, r, _, rfl, hrl.sq, rfl, _, _, rfl, _, _, rfl, rfl, ?_⟩
    refine ⟨_, rfl, ta, _, rfl, h4.sq, for_enumT (K := K) (a := ta) (xs := asks.map V.int)
      (fun i σ H2 => ∃ v4 v5, σ = [some (.ref r), some (.ref ta), some (.ref la), some (.ref ha), v4, v5] ∧ Same H H2 ∧ ∀ j, j < i → wrongI ls hs asks j = false)
      ⟨none, none, rfl, Same.refl _, fun j hj => absurd hj (Nat.not_lt_zero _)⟩ (fun i σ H2 _ ⟨_, _, _, sm, _⟩ => sqT_same sm h4.sq) ?_ ?_⟩
    · rintro i x σ H2 T2 hx ⟨v4, v5, rfl, sm, hno⟩ nT
      obtain ⟨m, hm, rfl⟩ := get_map hx
      have hi : i < asks.length := (List.getElem?_eq_some_iff.mp hm).1
      have em : asks.getD i 0 = m := by rw [List.getD_eq_getElem?_getD, hm]; rfl
      have sm2 : Same H (upd H2 T2 (.tup [.int (i : Nat), .int m])) := sm.trans (same_upd nT)
      refine g_pair upd_same ⟨_, rfl, _, rfl, ha, hs, m, rfl, hha.same sm2, h3, openI hs m, rfl, ?_⟩
      by_cases ho : openI hs m = true
      · rw [ho]
        refine ifF rfl ⟨_, rfl, _, rfl, _, rfl, la, ta, ls, asks, i, rfl, hla.same sm2, h2, h4.same sm2, hi, fun H3 s3 => ⟨crowdI ls asks i, rfl, ?_⟩⟩
        by_cases hc : crowdI ls asks i = true
        · rw [hc]
          have hw : wrongI ls hs asks i = true := by unfold wrongI; rw [hc, Bool.or_true]
          have e := hf.here hi hw hno
          exact ifT rfl ⟨_, rfl, by rw [e] at q; exact q H3 (sm2.trans s3)⟩
        · have hc' : crowdI ls asks i = false := by simpa using hc
          rw [hc']
          refine ifF rfl ⟨_, _, rfl, sm2.trans s3, fun j hj => ?_⟩
          by_cases e : j = i
          · subst e
            unfold wrongI
            rw [em, ho, hc']
            rfl
          · exact hno j (by omega)
      · have ho' : openI hs m = false := by simpa using ho
        rw [ho']
        have hw : wrongI ls hs asks i = true := by unfold wrongI; rw [em, ho']; rfl
        have e := hf.here hi hw hno
        exact ifT rfl (ifT rfl ⟨_, rfl, by rw [e] at q; exact q _ sm2⟩)
    · rintro σ H2 ⟨v4, v5, rfl, sm, hno⟩
      rw [List.length_map] at hno
      have e := hf.no hno
      rw [e] at q
      exact q H2 sm

def sp_polby : Sp := fun vs H Q _ => ∃ (r ta : Addr) (ls : List (Int × Int)) (hs asks : List Int) (res : Option Nat), vs = [.ref r, .ref ta] ∧ RuleAt H r ls hs ∧ LimOk ls ∧ HrsOk hs ∧ TupAt H ta (asks.map V.int) ∧
  FirstAt (wrongI ls hs asks) asks.length res ∧ ∀ H', Same H H' → Q (.bl res.isNone) H'
theorem opt_non (r : Option Nat) : decide (optV r = V.non) = r.isNone := by
  cases r with
  | none => rfl
  | some i => exact decide_eq_false (fun z => nomatch z)
theorem ok_polby (T : Txt K mg) : Ok P w K mg base "is_polite_by" 3 p_is_polite_by sp_polby := At.ok T.d_is_polite_by fun f fd F => by
  refine F.ok sc_is_polite_by (fun vs H Q E h => ?_) (fun cdv A outer s H vs Q E hr h => ?_)
  · obtain ⟨r, ta, ls, hs, asks, res, rfl, _⟩ := h
    rfl
  · obtain ⟨r, ta, ls, hs, asks, res, rfl, h1, h2, h3, h4, hf, q⟩ := h
    refine ⟨_, pss_one (ps_ret (pe_cmp (pc_isN (pe_cd (ok_first T) hr (pa_cons (pv 0) (pa_cons (pv 1) pa_nil)))) rfl)), ?_⟩
    exact ⟨_, rfl, _, rfl, r, ta, ls, hs, asks, res, rfl, h1, h2, h3, h4, hf, fun H1 s1 => blE (opt_non res) (q H1 s1)⟩

def sp_cnum : Sp := fun vs H Q _ => ∃ i lo hi : Int, vs = [.int i, .int lo, .int hi] ∧ lo ≤ i ∧ i ≤ hi ∧ Q .non H
theorem ok_cnum (T : Txt K mg) : Ok P w K mg base "check_number" 3 p_check_number sp_cnum := At.ok T.d_check_number fun f fd F => by
  refine F.ok sc_check_number (fun vs H Q E h => ?_) (fun cdv A outer s H vs Q E hr h => ?_)
  · obtain ⟨i, lo, hi, rfl, _⟩ := h
    rfl
  · obtain ⟨i, lo, hi, rfl, h1, h2, q⟩ := h
    refine ⟨_, pss_one (ps_if (pt_not (pt_val (pe_cd (ok_between T) hr (pa_cons (pv 0) (pa_cons (pv 1) (pa_cons (pv 2) pa_nil)))))) (pss_one ps_never) pss_nil), ?_⟩
    exact ⟨_, rfl, _, rfl, _, rfl, i, lo, hi, rfl, h1, h2, true, rfl, ifF rfl q⟩
def sp_cmom : Sp := fun vs H Q _ => ∃ i : Int, vs = [.int i] ∧ 0 ≤ i ∧ Q .non H
theorem ok_cmom (T : Txt K mg) : Ok P w K mg base "check_moment" 3 p_check_moment sp_cmom := At.ok T.d_check_moment fun f fd F => by
  refine F.ok sc_check_moment (fun vs H Q E h => ?_) (fun cdv A outer s H vs Q E hr h => ?_)
  · obtain ⟨i, rfl, _⟩ := h
    rfl
  · obtain ⟨i, rfl, h1, q⟩ := h
    refine ⟨_, pss_one (ps_if (pt_not (pt_val (pe_cd (ok_from T) hr (pa_cons (pv 0) (pa_cons pe_int pa_nil))))) (pss_one ps_never) pss_nil), ?_⟩
    exact ⟨_, rfl, i, 0, rfl, h1, true, rfl, ifF rfl q⟩
def sp_clim : Sp := fun vs H Q _ => ∃ (a : Addr) (ls : List (Int × Int)), vs = [.ref a] ∧ LimAt H a ls ∧ LimOk ls ∧ ∀ H', Same H H' → Q .non H'
theorem ok_clim (T : Txt K mg) : Ok P w K mg base "check_limits" 5 p_check_limits sp_clim := At.ok T.d_check_limits fun f fd F => by
  refine F.ok sc_check_limits (fun vs H Q E h => ?_) (fun cdv A outer s H vs Q E hr h => ?_)
  · obtain ⟨a, ls, rfl, _⟩ := h
    rfl
  · obtain ⟨a, ls, rfl, h1, h2, q⟩ := h
    refine ⟨_, pss_one (ps_if (pt_not (pt_val (pe_cd (ok_limits T) hr (pa_cons (pv 0) pa_nil)))) (pss_one ps_never) pss_nil), ?_⟩
    exact ⟨_, rfl, a, ls, rfl, h1, h2, fun H1 s1 => ⟨true, rfl, ifF rfl (q H1 s1)⟩⟩
def sp_rules (z : V) : Sp := fun vs H Q _ => ∃ (r : Addr) (ls : List (Int × Int)) (hs : List Int), vs = [.ref r] ∧ RuleAt H r ls hs ∧ LimOk ls ∧ HrsOk hs ∧ ∀ H', Same H H' → Q z H'
theorem ok_rules (T : Txt K mg) : Ok P w K mg base "are_some_rules" 6 p_are_some_rules (sp_rules (.bl true)) := At.ok T.d_are_some_rules fun f fd F => by
  refine F.ok sc_are_some_rules (fun vs H Q E h => ?_) (fun cdv A outer s H vs Q E hr h => ?_)
  · obtain ⟨r, ls, hs, rfl, _⟩ := h
    rfl
  · obtain ⟨r, ls, hs, rfl, ⟨la, ha, hrl, hla, hha⟩, h2, h3, q⟩ := h
    refine ⟨_, pss_one (ps_ret (pe_and (pe_cd (ok_tupto T) (hr.mono (by decide)) (pa_cons (pv 0) (pa_cons pe_int (pa_cons pe_int pa_nil))))
      (pe_one (pe_cd (ok_pair T) hr (pa_cons (pe_ix ix_tupA (pv 0) pe_int (fun _ _ => rfl)) (pa_cons (pe_ix ix_tupA (pv 0) pe_int (fun _ _ => rfl)) pa_nil)))))), ?_⟩
    refine ⟨_, rfl, r, _, 2, 2, rfl, hrl, (by show (2 : Int) ≤ 2; decide), (by show (2 : Int) ≤ 2; decide), true, rfl, ifT rfl ?_⟩
    exact ⟨_, rfl, r, _, 0, _, rfl, rfl, hrl, rfl, _, rfl, r, _, 1, _, rfl, rfl, hrl, rfl, la, ha, ls, hs, rfl, hla, h2, hha, h3, q⟩
theorem ok_crules (T : Txt K mg) : Ok P w K mg base "check_rules" 7 p_check_rules (sp_rules .non) := At.ok T.d_check_rules fun f fd F => by
  refine F.ok sc_check_rules (fun vs H Q E h => ?_) (fun cdv A outer s H vs Q E hr h => ?_)
  · obtain ⟨r, ls, hs, rfl, _⟩ := h
    rfl
  · obtain ⟨r, ls, hs, rfl, h1, h2, h3, q⟩ := h
    refine ⟨_, pss_one (ps_if (pt_not (pt_val (pe_cd (ok_rules T) hr (pa_cons (pv 0) pa_nil)))) (pss_one ps_never) pss_nil), ?_⟩
    exact ⟨_, rfl, r, ls, hs, rfl, h1, h2, h3, fun H1 s1 => ⟨true, rfl, ifF rfl (q H1 s1)⟩⟩

structure AsksOk (asks : List Int) : Prop where
  few : asks.length ≤ 200
  nn : ∀ m ∈ asks, 0 ≤ m
  up : ∀ i, 0 < i → i < asks.length → asks.getD (i - 1) 0 ≤ asks.getD i 0
def sp_casks : Sp := fun vs H Q _ => ∃ (ta : Addr) (asks : List Int), vs = [.ref ta] ∧ TupAt H ta (asks.map V.int) ∧ AsksOk asks ∧ ∀ H', Same H H' → Q .non H'
theorem ok_casks (T : Txt K mg) : Ok P w K mg base "check_asks" 3 p_check_asks sp_casks := At.ok T.d_check_asks fun f fd F => by
  refine F.ok sc_check_asks (fun vs H Q E h => ?_) (fun cdv A outer s H vs Q E hr h => ?_)
  · obtain ⟨ta, asks, rfl, _⟩ := h
    rfl
  · obtain ⟨ta, asks, rfl, h1, h2, q⟩ := h
    obtain ⟨t1, c1⟩ := T.c_MOST_ROW
    have hfew := h2.few
    refine ⟨_, pss_cons (ps_if (pt_not (pt_val (pe_cd (ok_tupto T) (hr.mono (by decide)) (pa_cons (pv 0) (pa_cons pe_int (pa_cons (pe_glob (v := .int 200) (by rfl) c1 ⟨_, rfl⟩) pa_nil)))))) (pss_one ps_never) pss_nil)
      (pss_one (ps_for PassesOwn.never rfl (pi_enumT (by rfl) T.z_enumerate (pa_cons (pv 0) pa_nil)) (pg_tup rfl (pgs_cons (pg_name (i := 1) sc_check_asks.nd rfl (.inl rfl)) (pgs_cons (pg_name (i := 2) sc_check_asks.nd rfl (.inl rfl)) pgs_nil)))
        (pss_one (ps_if (PW.pt (pw_or (pt_not (pt_val (pe_cd (ok_from T) hr (pa_cons (pv 2) (pa_cons pe_int pa_nil)))))
          (pw_or1 (PW.pt (pw_and (pt_cmpR op_gt (pv 1) pe_int (nomark _)) (pw_and1 (pt_cmpR op_lt (pv 2) (pe_ix ix_tupA (pv 0) (pe_op op_sub (pv 1) pe_int) (fun _ _ => rfl)) (nomark _))))))))
          (pss_one ps_never) pss_nil)))), ?_⟩
    refine ⟨_, rfl, ta, _, 0, 200, rfl, h1, by omega, by rw [List.length_map]; omega, true, rfl, ifF rfl ?_⟩
    refine ⟨_, rfl, ta, _, rfl, h1.sq, for_enumT (K := K) (a := ta) (xs := asks.map V.int)
      (fun i σ H2 => ∃ v1 v2, σ = [some (.ref ta), v1, v2] ∧ Same H H2)
      ⟨none, none, rfl, Same.refl _⟩ (fun i σ H2 _ ⟨_, _, _, sm⟩ => sqT_same sm h1.sq) ?_ ?_⟩
    · rintro i x σ H2 T2 hx ⟨v1, v2, rfl, sm⟩ nT
      obtain ⟨m, hm, rfl⟩ := get_map hx
      have hi : i < asks.length := (List.getElem?_eq_some_iff.mp hm).1
      have em : asks.getD i 0 = m := by rw [List.getD_eq_getElem?_getD, hm]; rfl
      have sm2 : Same H (upd H2 T2 (.tup [.int (i : Nat), .int m])) := sm.trans (same_upd nT)
      refine g_pair upd_same ⟨_, rfl, m, 0, rfl, h2.nn m (List.mem_of_getElem? hm), true, rfl, ifF rfl ?_⟩
      refine ⟨_, rfl, _, 0, rfl, rfl, _, rfl, ?_⟩
      by_cases hp : 0 < i
      · have hp' : (0 : Int) < ((i : Nat) : Int) := by omega
        refine ifT (decide_eq_true hp') ?_
        have hu := h2.up i hp hi
        rw [em] at hu
        refine ⟨_, rfl, _, rfl, _, rfl, _, 1, rfl, rfl, ta, _, i - 1, _, rfl, congrArg V.int (by omega), h1.same sm2, map_get (getD_get (by omega)), m, _, rfl, rfl, _, rfl, ?_⟩
        exact ifF (decide_eq_false (by omega)) ⟨_, _, rfl, sm2⟩
      · have hp' : ¬ (0 : Int) < ((i : Nat) : Int) := by omega
        exact ifF (decide_eq_false hp') (ifF rfl ⟨_, _, rfl, sm2⟩)
    · rintro σ H2 ⟨v1, v2, rfl, sm⟩
      exact q H2 sm

def sp_cpol : Sp := fun vs H Q _ => ∃ (r ta : Addr) (ls : List (Int × Int)) (hs asks : List Int), vs = [.ref r, .ref ta] ∧ RuleAt H r ls hs ∧ LimOk ls ∧ HrsOk hs ∧ TupAt H ta (asks.map V.int) ∧
  (∀ j, j < asks.length → wrongI ls hs asks j = false) ∧ ∀ H', Same H H' → Q .non H'
theorem ok_cpol (T : Txt K mg) : Ok P w K mg base "check_polite" 3 p_check_polite sp_cpol := At.ok T.d_check_polite fun f fd F => by
  refine F.ok sc_check_polite (fun vs H Q E h => ?_) (fun cdv A outer s H vs Q E hr h => ?_)
  · obtain ⟨r, ta, ls, hs, asks, rfl, _⟩ := h
    rfl
  · obtain ⟨r, ta, ls, hs, asks, rfl, h1, h2, h3, h4, hf, q⟩ := h
    refine ⟨_, pss_cons (ps_set (i := 2) sc_check_polite.nd rfl (.inl rfl) (pe_cd (ok_first T) hr (pa_cons (pv 0) (pa_cons (pv 1) pa_nil))))
      (pss_one (ps_if (pt_cmp (pc_notN (pv 2)) rfl) (pss_one ps_never) pss_nil)), ?_⟩
    refine ⟨_, rfl, _, rfl, r, ta, ls, hs, asks, none, rfl, h1, h2, h3, h4, hf, fun H1 s1 => ?_⟩
    exact ⟨_, rfl, _, rfl, ifF rfl (q H1 s1)⟩
end
end G3

namespace M3
def ledI (ci : List Int) (n : Int) : List Int := (n :: ci).take ci.length
def ledN (ci : List Int) : Nat → List Int
  | 0 => ci
  | k + 1 => ledI (ledN ci k) 0
def FitsI (ls : List (Int × Int)) (ci : List Int) : Prop := ∀ p ∈ ls, ∀ s : Nat, ((ci.drop s).take p.2.toNat).sum ≤ p.1
structure CountsOk (ls : List (Int × Int)) (ci : List Int) : Prop where
  len : ci.length = memN ls
  nn : ∀ n ∈ ci, 0 ≤ n
  fit : FitsI ls ci
def countsI (ls : List (Int × Int)) (asks : List Int) (t : Int) : List Int := (List.range (memN ls)).map fun (i : Nat) => ((asks.count (t - 1 - (i : Int)) : Nat) : Int)
theorem ledI_len (ci : List Int) (n : Int) : (ledI ci n).length = ci.length := by
  unfold ledI
  rw [List.length_take, List.length_cons]
  omega
theorem ledN_len (ci : List Int) : ∀ k, (ledN ci k).length = ci.length
  | 0 => rfl
  | k + 1 => by
    show (ledI (ledN ci k) 0).length = ci.length
    rw [ledI_len, ledN_len ci k]
end M3

set_option Elab.async false
set_option linter.all false
set_option maxRecDepth 100000
set_option maxHeartbeats 4000000
/-! what the counts of the last moments let. -/
namespace G3
open PySem PySem.Spec PyProof.Rows L2 M3
theorem cut_to (xs : List V) (k : Int) (h : 0 ≤ k) : cutV xs none (some k) = xs.take k.toNat := by
  obtain ⟨n, rfl⟩ := Int.eq_ofNat_of_zero_le h
  unfold cutV
  rw [HT.sIx_none, HT.sIx_nat, Int.toNat_natCast, List.drop_zero, Nat.sub_zero, List.take_eq_take_iff]
  omega
theorem cut_rng (xs : List V) (a b : Nat) : cutV xs (some (a : Int)) (some (b : Int)) = (xs.drop a).take (b - a) := by
  unfold cutV
  rw [HT.sIx_nat, HT.sIx_nat]
  by_cases h : a ≤ xs.length
  · rw [Nat.min_eq_left h, List.take_eq_take_iff, List.length_drop]
    omega
  · rw [List.drop_eq_nil_of_le (show xs.length ≤ min a xs.length by omega), List.drop_eq_nil_of_le (by omega)]
    simp
section
variable {P : Program} {w : World} {K : PySem.W.Frag} {mg : Str → Option Value} {base : Heap}

def sp_let : Sp := fun vs H Q _ => ∃ (la ha c : Addr) (ls : List (Int × Int)) (hs ci : List Int) (t n : Int), vs = [.ref la, .ref ha, .int t, .ref c, .int n] ∧ LimAt H la ls ∧ LimOk ls ∧ TupAt H ha (hs.map V.int) ∧ HrsOk hs ∧ TupAt H c (ci.map V.int) ∧
  ∀ H', Same H H' → Q (.bl (letsI ls hs t ci n)) H'
theorem dec_zero (x : Int) : decide (V.int x = V.int 0) = decide (x = 0) := by
  by_cases e : x = 0
  · subst e; rfl
  · rw [decide_eq_false e, decide_eq_false fun z => e (V.int.inj z)]
theorem all_map {α : Type} (f : α → Bool) (l : List α) : (l.map f).all id = l.all f := by
  rw [List.all_map]
  rfl
theorem ok_let (T : Txt K mg) : Ok P w K mg base "does_let" 2 p_does_let sp_let := At.ok T.d_does_let fun f fd F => by
  refine F.ok sc_does_let (fun vs H Q E h => ?_) (fun cdv A outer s H vs Q E hr h => ?_)
  · obtain ⟨la, ha, c, ls, hs, ci, t, n, rfl, _⟩ := h
    rfl
  · obtain ⟨la, ha, c, ls, hs, ci, t, n, rfl, ⟨as, hla, hp⟩, h2, h3, h4, h5, q⟩ := h
    have hl := hp.length
    have hf := h2.few
    refine ⟨_, pss_cons (ps_if (pt_cmpR op_eq (pv 4) pe_int (nomark _)) (pss_one (ps_ret pe_bl)) pss_nil)
      (pss_cons (ps_if (pt_not (pt_val (pe_cd (ok_open T) hr (pa_cons (pv 1) (pa_cons (pv 2) pa_nil))))) (pss_one (ps_ret pe_bl)) pss_nil)
      (pss_one (ps_ret (pe_callB (cr_all rfl) (by rfl) T.z_all b_all
        (pa_cons (pe_lc (own := [("most", 5), ("size", 6)]) (g := gTup K 2 (gCons (gName 5) (gCons (gName 6) gNil))) (tt := tYes) (by rfl) sc_does_let.nd (pi_tup (pv 0)) (blkOk_by (N := n_does_let) (sc := defScope s_does_let) (by decide +kernel))
          (fun _ _ _ _ _ => pg_tup rfl (pgs_cons (pg_name (i := 5) sc_does_let.nd rfl (Or.inl rfl)) (pgs_cons (pg_name (i := 6) sc_does_let.nd rfl (Or.inl rfl)) pgs_nil))) (fun _ _ _ _ _ => pts_nil)
          (fun _ _ _ _ _ => pe_cmpR op_le (pe_op op_add (pv 4) (pe_callB (cr_sumT rfl) (by rfl) T.z_sum b_sum (pa_cons (pe_slice sl_tupS (pv 3) po_none (po_some (pe_op op_sub (pv 6) pe_int))) pa_nil))) (pv 5) (nomark _))) pa_nil))))), ?_⟩
    refine ⟨_, rfl, rfl, _, rfl, ?_⟩
    rw [dec_zero]
    by_cases hn : n = 0
    · refine ifT (decide_eq_true hn) (blE (c := true) (d := letsI ls hs t ci n) ?_ (q H (Same.refl H)))
      unfold letsI
      rw [decide_eq_true hn]
      rfl
    · refine ifF (decide_eq_false hn) ⟨_, rfl, _, rfl, ha, hs, t, rfl, h3, h4, openI hs t, rfl, ?_⟩
      by_cases ho : openI hs t = true
      · rw [ho]
        refine ifF rfl ⟨_, rfl, la, rfl, ⟨_, hla.sq⟩, fun D nD => lc_tupS (ys := ls.map fun p => V.bl (decide (n + spent ci p ≤ p.1))) nD hla.sq (by simp [hl]) (by rw [List.length_map, sizeLine_eq]; omega) ?_ ?_ gm_pair⟩
        · intro j x y H2 Q2 hx hy sm q2
          obtain ⟨a, hc, rfl⟩ := get_map hx
          obtain ⟨p, hip, rfl⟩ := get_map hy
          obtain ⟨a', hc', hH⟩ := hp.get hip
          obtain rfl : a' = a := Option.some.inj (hc'.symm.trans hc)
          have hk := h2.each p (List.mem_of_getElem? hip)
          refine g_pair (sm _ _ hH) ⟨rfl, _, rfl, _, rfl, _, rfl, _, 1, rfl, rfl, p.2 - 1, rfl, c, _, rfl, h5.same sm, fun z H3 s3 hz => ?_⟩
          rw [cut_to _ _ (by omega), ← List.map_take] at hz
          exact ⟨z, _, rfl, hz, n, _, rfl, rfl, _, rfl, _, _, rfl, rfl, q2 _ s3⟩
        · intro H2 sm hD
          refine ⟨D, ls.map fun p => decide (n + spent ci p ≤ p.1), rfl, SqL.of (by rw [List.map_map]; exact hD), blE (d := letsI ls hs t ci n) ?_ (q H2 sm)⟩
          rw [all_map]
          unfold letsI
          rw [decide_eq_false hn, ho]
          rfl
      · have ho' : openI hs t = false := by simpa using ho
        rw [ho']
        refine ifT rfl (blE (c := false) (d := letsI ls hs t ci n) ?_ (q H (Same.refl H)))
        unfold letsI
        rw [decide_eq_false hn, ho']
        rfl

def sp_led : Sp := fun vs H Q _ => ∃ (c : Addr) (ci : List Int) (n : Int), vs = [.ref c, .int n] ∧ TupAt H c (ci.map V.int) ∧ ci.length ≤ 100 ∧ ∀ p H', Same H H' → TupAt H' p ((ledI ci n).map V.int) → Q (.ref p) H'
theorem ok_led (T : Txt K mg) : Ok P w K mg base "led_counts" 1 p_led_counts sp_led := At.ok T.d_led_counts fun f fd F => by
  refine F.ok sc_led_counts (fun vs H Q E h => ?_) (fun cdv A outer s H vs Q E hr h => ?_)
  · obtain ⟨c, ci, n, rfl, _⟩ := h
    rfl
  · obtain ⟨c, ci, n, rfl, h1, h2, q⟩ := h
    refine ⟨_, pss_one (ps_ret (pe_slice sl_tupS (pe_tup (pa_cons (pv 1) (StX.pa_star (pv 0) pa_nil))) po_none (po_some (pe_callB cr_lenT (by rfl) T.z_len b_len (pa_cons (pv 0) pa_nil))))), ?_⟩
    refine ⟨_, rfl, _, rfl, c, _, rfl, .inl h1.sq, ?_, fun t nt => ?_⟩
    · rw [List.append_nil, List.length_cons, List.length_map, sizeLine_eq]
      omega
    · refine ⟨_, rfl, c, _, rfl, h1.same (same_upd nt), _, rfl, t, _, rfl, .inl upd_same, fun p H' s' hp => q p H' ((same_upd nt).trans s') ?_⟩
      rw [cut_to _ _ (Int.natCast_nonneg _), Int.toNat_natCast, List.append_nil, List.length_map, ← List.map_cons, ← List.map_take] at hp
      exact hp

def sp_fit : Sp := fun vs H Q _ => ∃ (la c : Addr) (ls : List (Int × Int)) (ci : List Int), vs = [.ref la, .ref c] ∧ LimAt H la ls ∧ LimOk ls ∧ TupAt H c (ci.map V.int) ∧ CountsOk ls ci ∧ ∀ H', Same H H' → Q (.bl true) H'
theorem mem_few {ls : List (Int × Int)} (h : LimOk ls) : memN ls ≤ 6 := memN_le (n := 7) (fun p hp => (h.each p hp).2.2.2) (by decide)
theorem ok_fit (T : Txt K mg) : Ok P w K mg base "does_fit" 3 p_does_fit sp_fit := At.ok T.d_does_fit fun f fd F => by
  refine F.ok sc_does_fit (fun vs H Q E h => ?_) (fun cdv A outer s H vs Q E hr h => ?_)
  · obtain ⟨la, c, ls, ci, rfl, _⟩ := h
    rfl
  · obtain ⟨la, c, ls, ci, rfl, hlim, h2, h5, hok, q⟩ := h
    have hm := mem_few h2
    have hlen := hok.len
    refine ⟨_, pss_cons (ps_set (i := 2) sc_does_fit.nd rfl (.inl rfl) (pe_cd (ok_mem T) (hr.mono (by decide)) (pa_cons (pv 0) pa_nil)))
      (pss_cons (ps_if (PW.pt (pw_or (pt_not (pt_val (pe_callB cr_isTup (by rfl) T.z_isinstance b_isinstance (pa_cons (pv 1) (pa_cons (pe_bltn (v := .ty "tuple") (by rfl) T.z_tuple b_tuple rfl) pa_nil)))))
        (pw_or1 (pt_cmpR op_ne (pe_callB cr_lenT (by rfl) T.z_len b_len (pa_cons (pv 1) pa_nil)) (pv 2) (nomark _))))) (pss_one (ps_ret pe_bl)) pss_nil)
      (pss_cons (ps_if (pt_not (pt_val (pe_callB (cr_all rfl) (by rfl) T.z_all b_all (pa_cons (pe_lc (own := [("count", 6)]) (g := gName 6) (tt := tYes) (by rfl) sc_does_fit.nd (pi_tup (pv 1)) (blkOk_by (N := n_does_fit) (sc := defScope s_does_fit) (by decide +kernel))
          (fun _ _ _ _ _ => pg_name (i := 6) sc_does_fit.nd rfl (Or.inl rfl)) (fun _ _ _ _ _ => pts_nil) (fun _ _ _ _ _ => pe_cd (ok_from T) hr (pa_cons (pv 6) (pa_cons pe_int pa_nil)))) pa_nil)))) (pss_one (ps_ret pe_bl)) pss_nil)
      (pss_cons (ps_for PassesOwn.never rfl (pi_tup (pv 0)) (pg_tup rfl (pgs_cons (pg_name (i := 3) sc_does_fit.nd rfl (.inl rfl)) (pgs_cons (pg_name (i := 4) sc_does_fit.nd rfl (.inl rfl)) pgs_nil)))
        (pss_one (ps_for PassesOwn.never rfl (pi_range1 (by rfl) T.z_range (pa_cons (pe_callB (call_max2 rfl) (by rfl) T.z_max b_max (pa_cons pe_int (pa_cons (pe_op op_add (pe_op op_sub (pv 2) (pv 4)) pe_int) pa_nil))) pa_nil)) (pg_name (i := 5) sc_does_fit.nd rfl (.inl rfl))
          (pss_one (ps_if (pt_cmpR op_gt (pe_callB (cr_sumT rfl) (by rfl) T.z_sum b_sum (pa_cons (pe_slice sl_tupS (pv 1) (po_some (pv 5)) (po_some (pe_op op_add (pv 5) (pv 4)))) pa_nil)) (pv 3) (nomark _)) (pss_one (ps_ret pe_bl)) pss_nil)))))
      (pss_one (ps_ret pe_bl))))), ?_⟩
    refine ⟨_, rfl, la, ls, rfl, hlim, h2, fun H1 s1 => ?_⟩
    have hc1 := h5.same s1
    refine ⟨_, rfl, c, _, rfl, hc1, true, rfl, ifF rfl ⟨_, rfl, c, _, rfl, hc1, _, rfl, rfl, _, rfl, ifF ?_ ?_⟩⟩
    · rw [List.length_map, hlen]
      simp
    refine ⟨_, rfl, c, rfl, ⟨_, hc1.sq⟩, fun D nD => lc_tupS (ys := List.replicate ci.length (.bl true)) nD hc1.sq (by simp) (by rw [List.length_map, sizeLine_eq]; omega) ?_ ?_ gm_name⟩
    · intro i x y H2 Q2 hx hy sm q2
      obtain ⟨n, hn, rfl⟩ := get_map hx
      obtain rfl := get_rep hy
      exact ⟨rfl, _, rfl, n, 0, rfl, hok.nn n (List.mem_of_getElem? hn), q2 _ (Same.refl _)⟩
    · intro H2 sm2 hD
      refine ⟨D, List.replicate ci.length true, rfl, SqL.of (by rw [rep_map]; exact hD), _, rfl, ifF (by rw [all_true]; rfl) ?_⟩
      have sA := s1.trans sm2
      obtain ⟨as, hla, hp⟩ := hlim.same sA
      have hl := hp.length
      have hc2 := h5.same sA
      refine ⟨_, rfl, la, rfl, ⟨_, hla.sq⟩, for_tup (K := K) (a := la) (xs := as.map V.ref) (fun i σ H3 => ∃ v3 v4 v5 v6, σ = [some (.ref la), some (.ref c), some (.int (memN ls)), v3, v4, v5, v6] ∧ Same H2 H3)
        ⟨_, _, _, _, rfl, Same.refl _⟩ (fun i σ H3 _ ⟨_, _, _, _, _, s3⟩ => sqT_same s3 hla.sq) ?_ ?_⟩
      · rintro i x σ H3 hx ⟨v3, v4, v5, v6, rfl, s3⟩
        obtain ⟨a, hc, rfl⟩ := get_map hx
        obtain ⟨hi, _⟩ := List.getElem?_eq_some_iff.mp hc
        have hip : ls[i]? = some ls[i] := List.getElem?_eq_getElem (by omega)
        obtain ⟨a', hc', hH⟩ := hp.get hip
        obtain rfl : a' = a := Option.some.inj (hc'.symm.trans hc)
        have hm' : ls[i] ∈ ls := List.getElem_mem _
        generalize hpp : ls[i] = p at hip hH hm'
        have hk := h2.each p hm'
        refine g_pair (s3 _ _ hH) ⟨_, rfl, _, rfl, _, _, rfl, rfl, _, 1, rfl, rfl, _, _, rfl, _, rfl, ?_, ?_, ?_⟩
        · split <;> omega
        · split <;> omega
        refine for_range (lo := 0) (fun j σ H4 => ∃ v5 v6, σ = [some (.ref la), some (.ref c), some (.int (memN ls)), some (.int p.1), some (.int p.2), v5, v6] ∧ Same H3 H4) ⟨_, _, rfl, Same.refl _⟩ ?_ ?_
        · rintro j σ H4 hj ⟨w5, w6, rfl, s4⟩
          refine ⟨_, rfl, _, rfl, 0 + (j : Int), rfl, _, rfl, _, rfl, 0 + (j : Int), p.2, rfl, rfl, (0 + (j : Int)) + p.2, rfl, c, _, rfl, (hc2.same s3).same s4, fun z H5 s5 hz => ?_⟩
          have e1 : (0 + (j : Int)) = ((j : Nat) : Int) := by omega
          have e2 : (0 + (j : Int)) + p.2 = ((j + p.2.toNat : Nat) : Int) := by omega
          rw [e2, e1, cut_rng, ← List.map_drop, ← List.map_take, Nat.add_sub_cancel_left] at hz
          refine ⟨z, _, rfl, hz, _, rfl, _, _, rfl, rfl, _, rfl, ifF (decide_eq_false ?_) ⟨_, _, rfl, s4.trans s5⟩⟩
          have := hok.fit p hm' j
          omega
        · rintro σ H4 ⟨w5, w6, rfl, s4⟩
          exact ⟨_, _, _, _, rfl, s3.trans s4⟩
      · rintro σ H3 ⟨v3, v4, v5, v6, rfl, s3⟩
        exact q H3 (sA.trans s3)
end
end G3

set_option Elab.async false
set_option linter.all false
set_option maxRecDepth 100000
set_option maxHeartbeats 4000000
/-! counts of asks, the most now, waiting; the functions that are called from outside. -/
namespace G3
open PySem PySem.Spec PyProof.Rows L2 M3
section
variable {P : Program} {w : World} {K : PySem.W.Frag} {mg : Str → Option Value} {base : Heap}

def sp_cby : Sp := fun vs H Q _ => ∃ (la ta : Addr) (ls : List (Int × Int)) (asks : List Int) (t : Int), vs = [.ref la, .ref ta, .int t] ∧ LimAt H la ls ∧ LimOk ls ∧ FrzAt H ta (asks.map V.int) ∧
  ∀ p H', Same H H' → TupAt H' p ((countsI ls asks t).map V.int) → Q (.ref p) H'
theorem ok_cby (T : Txt K mg) : Ok P w K mg base "counts_by" 2 p_counts_by sp_cby := At.ok T.d_counts_by fun f fd F => by
  refine F.ok sc_counts_by (fun vs H Q E h => ?_) (fun cdv A outer s H vs Q E hr h => ?_)
  · obtain ⟨la, ta, ls, asks, t, rfl, _⟩ := h
    rfl
  · obtain ⟨la, ta, ls, asks, t, rfl, h1, h2, h3, q⟩ := h
    have hm := mem_few h2
    refine ⟨_, pss_one (ps_ret (pe_callTy call_tupleF (by rfl) T.z_tuple b_tuple
      (pa_cons (pe_lc (own := [("back", 3)]) (g := gName 3) (tt := tYes) (by rfl) sc_counts_by.nd (pi_range1 (by rfl) T.z_range (pa_cons (pe_cd (ok_mem T) hr (pa_cons (pv 0) pa_nil)) pa_nil)) (blkOk_by (N := n_counts_by) (sc := defScope s_counts_by) (by decide +kernel))
        (fun _ _ _ _ _ => pg_name (i := 3) sc_counts_by.nd rfl (Or.inl rfl)) (fun _ _ _ _ _ => pts_nil) (fun _ _ _ _ _ => pe_tcount (pv 1) (pa_cons (pe_op op_sub (pe_op op_sub (pv 2) pe_int) (pv 3)) pa_nil))) pa_nil))), ?_⟩
    refine ⟨_, rfl, la, ls, rfl, h1, h2, fun H1 s1 => ⟨_, rfl, by omega, by omega, fun D nD => ?_⟩⟩
    rw [Int.toNat_natCast]
    refine lc_rngS (n := memN ls) (ys := (countsI ls asks t).map V.int) nD (by simp [countsI]) (by rw [sizeLine_eq]; omega) ?_ ?_ gm_name
    · intro i y H2 Q2 hy sm q2
      obtain ⟨n, hn, rfl⟩ := get_map hy
      have ft := (h3.same s1).same sm
      refine ⟨rfl, _, rfl, ta, rfl, ⟨_, ft⟩, _, rfl, _, 1, rfl, rfl, _, rfl, _, _, rfl, rfl, asks, t - 1 - (0 + (i : Int)), rfl, ft, ?_⟩
      have e : ((asks.count (t - 1 - (0 + (i : Int))) : Nat) : Int) = n := by
        unfold countsI at hn
        rw [List.getElem?_map] at hn
        have hi : i < memN ls := by
          by_cases z : i < memN ls
          · exact z
          · rw [List.getElem?_eq_none (by simpa using z)] at hn
            cases hn
        rw [List.getElem?_eq_getElem (by simpa using hi), List.getElem_range] at hn
        have := Option.some.inj hn
        rw [← this, Int.zero_add]
      rw [e]
      exact q2 _ (Same.refl _)
    · intro H2 sm hD
      refine ⟨D, _, rfl, SqL.of hD, fun l nl o ho => q l _ ((s1.trans sm).trans (same_upd nl)) (.inr ⟨o, ho, upd_same⟩)⟩

def sp_mostby : Sp := fun vs H Q _ => ∃ (la ha c : Addr) (ls : List (Int × Int)) (hs ci : List Int) (t : Int) (res : V), vs = [.ref la, .ref ha, .int t, .ref c] ∧ LimAt H la ls ∧ LimOk ls ∧ TupAt H ha (hs.map V.int) ∧ HrsOk hs ∧ TupAt H c (ci.map V.int) ∧
  (openI hs t = false → res = .int 0) ∧ (openI hs t = true → ls = [] → res = .non) ∧ (openI hs t = true → ∀ m, m ∈ ls.map (fun p => p.1 - spent ci p) → (∀ y, y ∈ ls.map (fun p => p.1 - spent ci p) → m ≤ y) → res = .int m) ∧ ∀ H', Same H H' → Q res H'
theorem ok_mostby (T : Txt K mg) : Ok P w K mg base "most_now_by" 2 p_most_now_by sp_mostby := At.ok T.d_most_now_by fun f fd F => by
  refine F.ok sc_most_now_by (fun vs H Q E h => ?_) (fun cdv A outer s H vs Q E hr h => ?_)
  · obtain ⟨la, ha, c, ls, hs, ci, t, res, rfl, _⟩ := h
    rfl
  · obtain ⟨la, ha, c, ls, hs, ci, t, res, rfl, ⟨as, hla, hp⟩, h2, h3, h4, h5, r0, r1, r2, q⟩ := h
    have hl := hp.length
    have hf := h2.few
    refine ⟨_, pss_cons (ps_if (pt_not (pt_val (pe_cd (ok_open T) hr (pa_cons (pv 1) (pa_cons (pv 2) pa_nil))))) (pss_one (ps_ret pe_int)) pss_nil)
      (pss_one (ps_ret (pe_callBK (cr_minD rfl) (by rfl) T.z_min b_min
        (pa_cons (pe_lc (own := [("most", 4), ("size", 5)]) (g := gTup K 2 (gCons (gName 4) (gCons (gName 5) gNil))) (tt := tYes) (by rfl) sc_most_now_by.nd (pi_tup (pv 0)) (blkOk_by (N := n_most_now_by) (sc := defScope s_most_now_by) (by decide +kernel))
          (fun _ _ _ _ _ => pg_tup rfl (pgs_cons (pg_name (i := 4) sc_most_now_by.nd rfl (Or.inl rfl)) (pgs_cons (pg_name (i := 5) sc_most_now_by.nd rfl (Or.inl rfl)) pgs_nil))) (fun _ _ _ _ _ => pts_nil)
          (fun _ _ _ _ _ => pe_op op_sub (pv 4) (pe_callB (cr_sumT rfl) (by rfl) T.z_sum b_sum (pa_cons (pe_slice sl_tupS (pv 3) po_none (po_some (pe_op op_sub (pv 5) pe_int))) pa_nil)))) pa_nil)
        (pk_cons pe_non pk_nil)))), ?_⟩
    refine ⟨_, rfl, _, rfl, ha, hs, t, rfl, h3, h4, openI hs t, rfl, ?_⟩
    by_cases ho : openI hs t = true
    · rw [ho]
      refine ifF rfl ⟨_, rfl, la, rfl, ⟨_, hla.sq⟩, fun D nD => lc_tupS (ys := ls.map fun p => V.int (p.1 - spent ci p)) nD hla.sq (by simp [hl]) (by rw [List.length_map, sizeLine_eq]; omega) ?_ ?_ gm_pair⟩
      · intro j x y H2 Q2 hx hy sm q2
        obtain ⟨a, hc, rfl⟩ := get_map hx
        obtain ⟨p, hip, rfl⟩ := get_map hy
        obtain ⟨a', hc', hH⟩ := hp.get hip
        obtain rfl : a' = a := Option.some.inj (hc'.symm.trans hc)
        have hk := h2.each p (List.mem_of_getElem? hip)
        refine g_pair (sm _ _ hH) ⟨rfl, _, rfl, _, rfl, _, rfl, _, 1, rfl, rfl, p.2 - 1, rfl, c, _, rfl, h5.same sm, fun z H3 s3 hz => ?_⟩
        rw [cut_to _ _ (by omega), ← List.map_take] at hz
        exact ⟨z, _, rfl, hz, _, _, rfl, rfl, q2 _ s3⟩
      · intro H2 sm hD
        refine ⟨D, ls.map fun p => p.1 - spent ci p, .non, rfl, rfl, SqL.of (by rw [List.map_map]; exact hD), fun e => ?_, fun m hm hle => ?_⟩
        · rw [← r1 ho (List.map_eq_nil_iff.mp e)]
          exact q H2 sm
        · rw [← r2 ho m hm hle]
          exact q H2 sm
    · have ho' : openI hs t = false := by simpa using ho
      rw [ho']
      refine ifT rfl ?_
      show Q (.int 0) H
      rw [← r0 ho']
      exact q H (Same.refl H)

def sp_waitby : Sp := fun vs H Q _ => ∃ (la ha c : Addr) (ls : List (Int × Int)) (hs ci : List Int) (t : Int) (s0 : Nat), vs = [.ref la, .ref ha, .int t, .ref c] ∧ LimAt H la ls ∧ LimOk ls ∧ TupAt H ha (hs.map V.int) ∧ HrsOk hs ∧ TupAt H c (ci.map V.int) ∧ ci.length ≤ 100 ∧
  letsI ls hs (t + s0) (ledN ci s0) 1 = true ∧ (∀ k, k < s0 → letsI ls hs (t + (k : Nat)) (ledN ci k) 1 = false) ∧ ∀ H', Same H H' → Q (.int (s0 : Nat)) H'
theorem ok_waitby (T : Txt K mg) : Ok P w K mg base "waited_by" 3 p_waited_by sp_waitby := At.ok T.d_waited_by fun f fd F => by
  refine F.ok sc_waited_by (fun vs H Q E h => ?_) (fun cdv A outer s H vs Q E hr h => ?_)
  · obtain ⟨la, ha, c, ls, hs, ci, t, s0, rfl, _⟩ := h
    rfl
  · obtain ⟨la, ha, c, ls, hs, ci, t, s0, rfl, h1, h2, h3, h4, h5, h6, hy, hn, q⟩ := h
    refine ⟨_, pss_cons (ps_set (i := 4) sc_waited_by.nd rfl (.inl rfl) pe_int)
      (pss_cons (ps_while PassesOwn.never (pt_not (pt_val (pe_cd (ok_let T) hr (pa_cons (pv 0) (pa_cons (pv 1) (pa_cons (pe_op op_add (pv 2) (pv 4)) (pa_cons (pv 3) (pa_cons pe_int pa_nil))))))))
        (pss_cons (ps_set (i := 3) sc_waited_by.nd rfl (.inl rfl) (pe_cd (ok_led T) (hr.mono (by decide)) (pa_cons (pv 3) (pa_cons pe_int pa_nil))))
        (pss_one (ps_aug (i := 4) sc_waited_by.nd rfl (.inl rfl) pe_int ip_add))))
      (pss_one (ps_ret (pv 4)))), ?_⟩
    refine ⟨fun m σ H2 => ∃ (k : Nat) (c' : Addr), m + k = s0 ∧ σ = [some (.ref la), some (.ref ha), some (.int t), some (.ref c'), some (.int (k : Nat))] ∧ Same H H2 ∧ TupAt H2 c' ((ledN ci k).map V.int), ⟨s0, 0, c, by omega, rfl, Same.refl _, h5⟩, ?_⟩
    rintro m σ H2 ⟨k, c', hk, rfl, sm, hc⟩
    refine ⟨_, rfl, _, rfl, _, rfl, _, rfl, _, _, rfl, rfl, _, rfl, la, ha, c', ls, hs, ledN ci k, t + (k : Nat), 1, rfl, h1.same sm, h2, h3.same sm, h4, hc, fun H3 s3 => ?_⟩
    by_cases hk0 : m = 0
    · obtain rfl : k = s0 := by omega
      rw [hy]
      exact ⟨true, rfl, ifF rfl ⟨_, rfl, q H3 (sm.trans s3)⟩⟩
    · rw [hn k (by omega)]
      refine ⟨false, rfl, ifT rfl ⟨fun σ' H' => ∃ (c' : Addr), σ' = [some (.ref la), some (.ref ha), some (.int t), some (.ref c'), some (.int ((k + 1 : Nat) : Int))] ∧ Same H H' ∧ TupAt H' c' ((ledN ci (k + 1)).map V.int), fun σ' H' ⟨c2, e, s4, h7⟩ => ⟨m - 1, by omega, k + 1, c2, by omega, e, s4, h7⟩, ?_⟩⟩
      refine ⟨_, rfl, c', ledN ci k, 0, rfl, hc.same s3, by rw [ledN_len]; exact h6, fun p H4 s4 hp => ?_⟩
      refine ⟨_, rfl, _, 1, rfl, rfl, p, ?_, (sm.trans s3).trans s4, hp⟩
      show [some (V.ref la), some (V.ref ha), some (V.int t), some (V.ref p), some (V.int ((k : Int) + 1))] = _
      rw [show ((k + 1 : Nat) : Int) = (k : Int) + 1 by omega]

/-! ### the looks at a state -/
def sp_fits (z : V) : Sp := fun vs H Q _ => ∃ (la c : Addr) (ls : List (Int × Int)) (ci : List Int), vs = [.ref la, .ref c] ∧ LimAt H la ls ∧ LimOk ls ∧ TupAt H c (ci.map V.int) ∧ CountsOk ls ci ∧ ∀ H', Same H H' → Q z H'
theorem ok_ccnt (T : Txt K mg) : Ok P w K mg base "check_counts" 4 p_check_counts (sp_fits .non) := At.ok T.d_check_counts fun f fd F => by
  refine F.ok sc_check_counts (fun vs H Q E h => ?_) (fun cdv A outer s H vs Q E hr h => ?_)
  · obtain ⟨la, c, ls, ci, rfl, _⟩ := h
    rfl
  · obtain ⟨la, c, ls, ci, rfl, h1, h2, h3, h4, q⟩ := h
    refine ⟨_, pss_one (ps_if (pt_not (pt_val (pe_cd (ok_fit T) hr (pa_cons (pv 0) (pa_cons (pv 1) pa_nil))))) (pss_one ps_never) pss_nil), ?_⟩
    exact ⟨_, rfl, _, rfl, la, c, ls, ci, rfl, h1, h2, h3, h4, fun H1 s1 => ⟨true, rfl, ifF rfl (q H1 s1)⟩⟩
theorem ok_arec (T : Txt K mg) : Ok P w K mg base "are_counts" 6 p_are_counts (sp_fits (.bl true)) := At.ok T.d_are_counts fun f fd F => by
  refine F.ok sc_are_counts (fun vs H Q E h => ?_) (fun cdv A outer s H vs Q E hr h => ?_)
  · obtain ⟨la, c, ls, ci, rfl, _⟩ := h
    rfl
  · obtain ⟨la, c, ls, ci, rfl, h1, h2, h3, h4, q⟩ := h
    refine ⟨_, pss_cons (ps_expr (pe_cd (ok_clim T) hr (pa_cons (pv 0) pa_nil))) (pss_one (ps_ret (pe_cd (ok_fit T) (hr.mono (by decide)) (pa_cons (pv 0) (pa_cons (pv 1) pa_nil))))), ?_⟩
    exact ⟨_, rfl, la, ls, rfl, h1, h2, fun H1 s1 => ⟨_, rfl, _, rfl, la, c, ls, ci, rfl, h1.same s1, h2, h3.same s1, h4, fun H2 s2 => q H2 (s1.trans s2)⟩⟩

/-- rules, a moment, counts -/
def StateAt (H : Hp) (r c : Addr) (ls : List (Int × Int)) (hs ci : List Int) (t : Int) : Prop := RuleAt H r ls hs ∧ LimOk ls ∧ HrsOk hs ∧ 0 ≤ t ∧ TupAt H c (ci.map V.int) ∧ CountsOk ls ci
theorem StateAt.same {H H' : Hp} {r c : Addr} {ls : List (Int × Int)} {hs ci : List Int} {t : Int} (e : Same H H') (h : StateAt H r c ls hs ci t) : StateAt H' r c ls hs ci t := ⟨h.1.same e, h.2.1, h.2.2.1, h.2.2.2.1, h.2.2.2.2.1.same e, h.2.2.2.2.2⟩
def sp_cst : Sp := fun vs H Q _ => ∃ (r c : Addr) (ls : List (Int × Int)) (hs ci : List Int) (t : Int), vs = [.ref r, .int t, .ref c] ∧ StateAt H r c ls hs ci t ∧ ∀ H', Same H H' → Q .non H'
theorem ok_cst (T : Txt K mg) : Ok P w K mg base "check_state" 8 p_check_state sp_cst := At.ok T.d_check_state fun f fd F => by
  refine F.ok sc_check_state (fun vs H Q E h => ?_) (fun cdv A outer s H vs Q E hr h => ?_)
  · obtain ⟨r, c, ls, hs, ci, t, rfl, _⟩ := h
    rfl
  · obtain ⟨r, c, ls, hs, ci, t, rfl, ⟨h1, h2, h3, h4, h5, h6⟩, q⟩ := h
    refine ⟨_, pss_cons (ps_expr (pe_cd (ok_crules T) hr (pa_cons (pv 0) pa_nil)))
      (pss_cons (ps_expr (pe_cd (ok_cmom T) (hr.mono (by decide)) (pa_cons (pv 1) pa_nil)))
      (pss_one (ps_expr (pe_cd (ok_ccnt T) (hr.mono (by decide)) (pa_cons (pe_ix ix_tupA (pv 0) pe_int (fun _ _ => rfl)) (pa_cons (pv 2) pa_nil)))))), ?_⟩
    refine ⟨_, rfl, r, ls, hs, rfl, h1, h2, h3, fun H1 s1 => ?_⟩
    obtain ⟨la, ha, hrl, hla, hha⟩ := h1.same s1
    exact ⟨_, rfl, t, rfl, h4, _, rfl, r, _, 0, _, rfl, rfl, hrl, rfl, _, rfl, la, c, ls, ci, rfl, hla, h2, h5.same s1, h6, fun H2 s2 => q H2 (s1.trans s2)⟩

def sp_most : Sp := fun vs H Q _ => ∃ (r c : Addr) (ls : List (Int × Int)) (hs ci : List Int) (t : Int) (res : V), vs = [.ref r, .int t, .ref c] ∧ StateAt H r c ls hs ci t ∧
  (openI hs t = false → res = .int 0) ∧ (openI hs t = true → ls = [] → res = .non) ∧ (openI hs t = true → ∀ m, m ∈ ls.map (fun p => p.1 - spent ci p) → (∀ y, y ∈ ls.map (fun p => p.1 - spent ci p) → m ≤ y) → res = .int m) ∧ ∀ H', Same H H' → Q res H'
theorem ok_most (T : Txt K mg) : Ok P w K mg base "most_now" 9 p_most_now sp_most := At.ok T.d_most_now fun f fd F => by
  refine F.ok sc_most_now (fun vs H Q E h => ?_) (fun cdv A outer s H vs Q E hr h => ?_)
  · obtain ⟨r, c, ls, hs, ci, t, res, rfl, _⟩ := h
    rfl
  · obtain ⟨r, c, ls, hs, ci, t, res, rfl, hst, r0, r1, r2, q⟩ := h
    refine ⟨_, pss_cons (ps_expr (pe_cd (ok_cst T) hr (pa_cons (pv 0) (pa_cons (pv 1) (pa_cons (pv 2) pa_nil)))))
      (pss_one (ps_ret (pe_cd (ok_mostby T) (hr.mono (by decide)) (pa_cons (pe_ix ix_tupA (pv 0) pe_int (fun _ _ => rfl)) (pa_cons (pe_ix ix_tupA (pv 0) pe_int (fun _ _ => rfl)) (pa_cons (pv 1) (pa_cons (pv 2) pa_nil))))))), ?_⟩
    refine ⟨_, rfl, _, rfl, _, rfl, r, c, ls, hs, ci, t, rfl, hst, fun H1 s1 => ?_⟩
    obtain ⟨⟨la, ha, hrl, hla, hha⟩, h2, h3, h4, h5, h6⟩ := hst.same s1
    exact ⟨_, rfl, r, _, 0, _, rfl, rfl, hrl, rfl, _, rfl, r, _, 1, _, rfl, rfl, hrl, rfl, _, rfl, _, rfl, la, ha, c, ls, hs, ci, t, res, rfl, hla, h2, hha, h3, h5, r0, r1, r2, fun H2 s2 => q H2 (s1.trans s2)⟩

def sp_lets : Sp := fun vs H Q _ => ∃ (r c : Addr) (ls : List (Int × Int)) (hs ci : List Int) (t n : Int), vs = [.ref r, .int t, .ref c, .int n] ∧ StateAt H r c ls hs ci t ∧ 0 ≤ n ∧ n ≤ 100 ∧ ∀ H', Same H H' → Q (.bl (letsI ls hs t ci n)) H'
theorem ok_lets (T : Txt K mg) : Ok P w K mg base "lets" 9 p_lets sp_lets := At.ok T.d_lets fun f fd F => by
  refine F.ok sc_lets (fun vs H Q E h => ?_) (fun cdv A outer s H vs Q E hr h => ?_)
  · obtain ⟨r, c, ls, hs, ci, t, n, rfl, _⟩ := h
    rfl
  · obtain ⟨r, c, ls, hs, ci, t, n, rfl, hst, n0, n1, q⟩ := h
    obtain ⟨t1, c1⟩ := T.c_MOST_WINDOW
    refine ⟨_, pss_cons (ps_expr (pe_cd (ok_cst T) hr (pa_cons (pv 0) (pa_cons (pv 1) (pa_cons (pv 2) pa_nil)))))
      (pss_cons (ps_expr (pe_cd (ok_cnum T) (hr.mono (by decide)) (pa_cons (pv 3) (pa_cons pe_int (pa_cons (pe_glob (v := .int 100) (by rfl) c1 ⟨_, rfl⟩) pa_nil)))))
      (pss_one (ps_ret (pe_cd (ok_let T) (hr.mono (by decide)) (pa_cons (pe_ix ix_tupA (pv 0) pe_int (fun _ _ => rfl)) (pa_cons (pe_ix ix_tupA (pv 0) pe_int (fun _ _ => rfl)) (pa_cons (pv 1) (pa_cons (pv 2) (pa_cons (pv 3) pa_nil))))))))), ?_⟩
    refine ⟨_, rfl, _, rfl, _, rfl, r, c, ls, hs, ci, t, rfl, hst, fun H1 s1 => ?_⟩
    obtain ⟨⟨la, ha, hrl, hla, hha⟩, h2, h3, h4, h5, h6⟩ := hst.same s1
    exact ⟨_, rfl, n, 0, 100, rfl, n0, n1, _, rfl, r, _, 0, _, rfl, rfl, hrl, rfl, _, rfl, r, _, 1, _, rfl, rfl, hrl, rfl, _, rfl, _, rfl, _, rfl, la, ha, c, ls, hs, ci, t, n, rfl, hla, h2, hha, h3, h5, fun H2 s2 => q H2 (s1.trans s2)⟩

def sp_wait : Sp := fun vs H Q _ => ∃ (r c : Addr) (ls : List (Int × Int)) (hs ci : List Int) (t : Int) (s0 : Nat), vs = [.ref r, .int t, .ref c] ∧ StateAt H r c ls hs ci t ∧
  letsI ls hs (t + s0) (ledN ci s0) 1 = true ∧ (∀ k, k < s0 → letsI ls hs (t + (k : Nat)) (ledN ci k) 1 = false) ∧ ∀ H', Same H H' → Q (.int (s0 : Nat)) H'
theorem ok_wait (T : Txt K mg) : Ok P w K mg base "wait" 9 p_wait sp_wait := At.ok T.d_wait fun f fd F => by
  refine F.ok sc_wait (fun vs H Q E h => ?_) (fun cdv A outer s H vs Q E hr h => ?_)
  · obtain ⟨r, c, ls, hs, ci, t, s0, rfl, _⟩ := h
    rfl
  · obtain ⟨r, c, ls, hs, ci, t, s0, rfl, hst, r0, r1, q⟩ := h
    refine ⟨_, pss_cons (ps_expr (pe_cd (ok_cst T) hr (pa_cons (pv 0) (pa_cons (pv 1) (pa_cons (pv 2) pa_nil)))))
      (pss_one (ps_ret (pe_cd (ok_waitby T) (hr.mono (by decide)) (pa_cons (pe_ix ix_tupA (pv 0) pe_int (fun _ _ => rfl)) (pa_cons (pe_ix ix_tupA (pv 0) pe_int (fun _ _ => rfl)) (pa_cons (pv 1) (pa_cons (pv 2) pa_nil))))))), ?_⟩
    refine ⟨_, rfl, _, rfl, _, rfl, r, c, ls, hs, ci, t, rfl, hst, fun H1 s1 => ?_⟩
    obtain ⟨⟨la, ha, hrl, hla, hha⟩, h2, h3, h4, h5, h6⟩ := hst.same s1
    have hm := mem_few h2
    have hlen := h6.len
    exact ⟨_, rfl, r, _, 0, _, rfl, rfl, hrl, rfl, _, rfl, r, _, 1, _, rfl, rfl, hrl, rfl, _, rfl, _, rfl, la, ha, c, ls, hs, ci, t, s0, rfl, hla, h2, hha, h3, h5, by omega, r0, r1, fun H2 s2 => q H2 (s1.trans s2)⟩
end
end G3

set_option Elab.async false
set_option linter.all false
set_option maxRecDepth 100000
set_option maxHeartbeats 4000000
/-! counts_at, next_counts, is_polite, first_wrong. -/
namespace G3
open PySem PySem.Spec PyProof.Rows L2 M3
theorem dpAll_ints {K : PySem.W.Frag} {H : Hp} : ∀ l : List Int, DpAll K H (l.map V.int) (l.map PyData.int)
  | [] => .nil
  | a :: r => .cons (.int a) (dpAll_ints r)
theorem shaped_ints (l : List Int) : SeqAt.shaped (.tuple (l.map PyData.int)) = true := by
  have h1 : ∀ l : List Int, PyData.canLayAll0 (l.map PyData.int) = true := by
    intro l
    induction l with
    | nil => simp [PyData.canLayAll0]
    | cons a r ih => simp [PyData.canLayAll0, PyData.canLay0, ih]
  have h2 : ∀ l : List Int, PyData.depthAll (l.map PyData.int) = 0 := by
    intro l
    induction l with
    | nil => simp [PyData.depthAll]
    | cons a r ih => simp [PyData.depthAll, PyData.depth, ih]
  simp [SeqAt.shaped, PyData.canLay0, PyData.depth, h1 l, h2 l]
section
variable {P : Program} {w : World} {K : PySem.W.Frag} {mg : Str → Option Value} {base : Heap}
def sp_cat : Sp := fun vs H Q _ => ∃ (r ta : Addr) (ls : List (Int × Int)) (hs asks : List Int) (t : Int), vs = [.ref r, .ref ta, .int t] ∧ RuleAt H r ls hs ∧ LimOk ls ∧ HrsOk hs ∧ FrzAt H ta (asks.map V.int) ∧ AsksOk asks ∧ 0 ≤ t ∧
  (∀ m ∈ asks, m < t) ∧ (∀ j, j < asks.length → wrongI ls hs asks j = false) ∧ ∀ p H', Same H H' → TupAt H' p ((countsI ls asks t).map V.int) → Q (.ref p) H'
theorem ok_cat (T : Txt K mg) : Ok P w K mg base "counts_at" 8 p_counts_at sp_cat := At.ok T.d_counts_at fun f fd F => by
  refine F.ok sc_counts_at (fun vs H Q E h => ?_) (fun cdv A outer s H vs Q E hr h => ?_)
  · obtain ⟨r, ta, ls, hs, asks, t, rfl, _⟩ := h
    rfl
  · obtain ⟨r, ta, ls, hs, asks, t, rfl, h1, h2, h3, h4, h5, h6, h7, h8, q⟩ := h
    refine ⟨_, pss_cons (ps_expr (pe_cd (ok_crules T) hr (pa_cons (pv 0) pa_nil)))
      (pss_cons (ps_expr (pe_cd (ok_casks T) (hr.mono (by decide)) (pa_cons (pv 1) pa_nil)))
      (pss_cons (ps_expr (pe_cd (ok_cmom T) (hr.mono (by decide)) (pa_cons (pv 2) pa_nil)))
      (pss_cons (ps_if (PW.pt (pw_and (pt_cmpR (op_neD hr.units) (pv 1) (pe_tup pa_nil) (nomark _)) (pw_and1 (pt_cmpR op_le (pv 2) (pe_ix ix_tup (pv 1) (pe_un un_neg pe_int) (fun _ _ => rfl)) (nomark _))))) (pss_one ps_never) pss_nil)
      (pss_cons (ps_expr (pe_cd (ok_cpol T) (hr.mono (by decide)) (pa_cons (pv 0) (pa_cons (pv 1) pa_nil))))
      (pss_one (ps_ret (pe_cd (ok_cby T) (hr.mono (by decide)) (pa_cons (pe_ix ix_tupA (pv 0) pe_int (fun _ _ => rfl)) (pa_cons (pv 1) (pa_cons (pv 2) pa_nil)))))))))), ?_⟩
    refine ⟨_, rfl, r, ls, hs, rfl, h1, h2, h3, fun H1 s1 => ?_⟩
    refine ⟨_, rfl, ta, asks, rfl, .inr (h4.same s1), h5, fun H2 s2 => ?_⟩
    have s12 := s1.trans s2
    refine ⟨_, rfl, t, rfl, h6, _, rfl, Nat.zero_le _, fun e ne => ?_⟩
    have s3 := s12.trans (same_upd (o := .tup []) ne)
    have hf := h4.same s3
    refine ⟨.tuple (asks.map PyData.int), .tuple [], .tup (TupAt.sq (.inr hf)) (dpAll_ints asks), .tup (SqT.of upd_same) .nil, shaped_ints asks, by decide +kernel, _, rfl, ?_⟩
    have low : (!PyData.eqv (.tuple (asks.map PyData.int)) (.tuple [])) = false ∨ ((!PyData.eqv (.tuple (asks.map PyData.int)) (.tuple [])) = true ∧ ∃ l, atI (asks.map V.int) (-1) = some (.int l) ∧ l < t) := by
      by_cases hne : asks = []
      · left
        rw [hne]
        decide +kernel
      · cases hb : (!PyData.eqv (.tuple (asks.map PyData.int)) (.tuple [])) with
        | false => exact .inl rfl
        | true =>
          refine .inr ⟨rfl, asks.getLast hne, ?_, h7 _ (List.getLast_mem hne)⟩
          have el : asks.map V.int = asks.dropLast.map V.int ++ [V.int (asks.getLast hne)] := by
            rw [← List.map_singleton, ← List.map_append, List.dropLast_concat_getLast]
          rw [el]
          exact atI_last _ _
    rcases low with e0 | ⟨e0, l, hl, hlt⟩
    · refine ifF e0 (ifF rfl ?_)
      refine ⟨_, rfl, _, rfl, r, ta, ls, hs, asks, rfl, h1.same s3, h2, h3, .inr hf, h8, fun H4 s5 => ?_⟩
      obtain ⟨la, ha, hrl, hla, hha⟩ := h1.same (s3.trans s5)
      exact ⟨_, rfl, r, _, 0, _, rfl, rfl, hrl, rfl, _, rfl, _, rfl, la, ta, ls, asks, t, rfl, hla, h2, h4.same (s3.trans s5), fun p H5 s6 hp => q p H5 ((s3.trans s5).trans s6) hp⟩
    · refine ifT e0 ⟨_, rfl, _, rfl, _, rfl, ta, _, -1, V.int l, rfl, rfl, TupAt.sq (.inr hf), hl, _, _, rfl, rfl, _, rfl, ifF (decide_eq_false (by omega)) ?_⟩
      refine ⟨_, rfl, _, rfl, r, ta, ls, hs, asks, rfl, h1.same s3, h2, h3, .inr hf, h8, fun H4 s5 => ?_⟩
      obtain ⟨la, ha, hrl, hla, hha⟩ := h1.same (s3.trans s5)
      exact ⟨_, rfl, r, _, 0, _, rfl, rfl, hrl, rfl, _, rfl, _, rfl, la, ta, ls, asks, t, rfl, hla, h2, h4.same (s3.trans s5), fun p H5 s6 hp => q p H5 ((s3.trans s5).trans s6) hp⟩

def sp_ispol : Sp := fun vs H Q _ => ∃ (r ta : Addr) (ls : List (Int × Int)) (hs asks : List Int) (res : Option Nat), vs = [.ref r, .ref ta] ∧ RuleAt H r ls hs ∧ LimOk ls ∧ HrsOk hs ∧ TupAt H ta (asks.map V.int) ∧ AsksOk asks ∧
  FirstAt (wrongI ls hs asks) asks.length res ∧ ∀ H', Same H H' → Q (.bl res.isNone) H'
theorem ok_ispol (T : Txt K mg) : Ok P w K mg base "is_polite" 8 p_is_polite sp_ispol := At.ok T.d_is_polite fun f fd F => by
  refine F.ok sc_is_polite (fun vs H Q E h => ?_) (fun cdv A outer s H vs Q E hr h => ?_)
  · obtain ⟨r, ta, ls, hs, asks, res, rfl, _⟩ := h
    rfl
  · obtain ⟨r, ta, ls, hs, asks, res, rfl, h1, h2, h3, h4, h5, hf, q⟩ := h
    refine ⟨_, pss_cons (ps_expr (pe_cd (ok_crules T) hr (pa_cons (pv 0) pa_nil)))
      (pss_cons (ps_expr (pe_cd (ok_casks T) (hr.mono (by decide)) (pa_cons (pv 1) pa_nil)))
      (pss_one (ps_ret (pe_cd (ok_polby T) (hr.mono (by decide)) (pa_cons (pv 0) (pa_cons (pv 1) pa_nil)))))), ?_⟩
    refine ⟨_, rfl, r, ls, hs, rfl, h1, h2, h3, fun H1 s1 => ⟨_, rfl, ta, asks, rfl, h4.same s1, h5, fun H2 s2 => ?_⟩⟩
    have sA := s1.trans s2
    exact ⟨_, rfl, _, rfl, r, ta, ls, hs, asks, res, rfl, h1.same sA, h2, h3, h4.same sA, hf, fun H3 s3 => q H3 (sA.trans s3)⟩
def sp_firstw : Sp := fun vs H Q _ => ∃ (r ta : Addr) (ls : List (Int × Int)) (hs asks : List Int) (res : Option Nat), vs = [.ref r, .ref ta] ∧ RuleAt H r ls hs ∧ LimOk ls ∧ HrsOk hs ∧ TupAt H ta (asks.map V.int) ∧ AsksOk asks ∧
  FirstAt (wrongI ls hs asks) asks.length res ∧ ∀ H', Same H H' → Q (optV res) H'
theorem ok_firstw (T : Txt K mg) : Ok P w K mg base "first_wrong" 8 p_first_wrong sp_firstw := At.ok T.d_first_wrong fun f fd F => by
  refine F.ok sc_first_wrong (fun vs H Q E h => ?_) (fun cdv A outer s H vs Q E hr h => ?_)
  · obtain ⟨r, ta, ls, hs, asks, res, rfl, _⟩ := h
    rfl
  · obtain ⟨r, ta, ls, hs, asks, res, rfl, h1, h2, h3, h4, h5, hf, q⟩ := h
    refine ⟨_, pss_cons (ps_expr (pe_cd (ok_crules T) hr (pa_cons (pv 0) pa_nil)))
      (pss_cons (ps_expr (pe_cd (ok_casks T) (hr.mono (by decide)) (pa_cons (pv 1) pa_nil)))
      (pss_one (ps_ret (pe_cd (ok_first T) (hr.mono (by decide)) (pa_cons (pv 0) (pa_cons (pv 1) pa_nil)))))), ?_⟩
    refine ⟨_, rfl, r, ls, hs, rfl, h1, h2, h3, fun H1 s1 => ⟨_, rfl, ta, asks, rfl, h4.same s1, h5, fun H2 s2 => ?_⟩⟩
    have sA := s1.trans s2
    exact ⟨_, rfl, _, rfl, r, ta, ls, hs, asks, res, rfl, h1.same sA, h2, h3, h4.same sA, hf, fun H3 s3 => q H3 (sA.trans s3)⟩

/-! ### next_counts, which may raise -/
structure BarredAt (K : PySem.W.Frag) (mg : Str → Option Value) (C : Addr) : Prop where
  g : mg "Barred" = some (.ref C)
  ex : PySem.W.excIn K C [.type "ValueError", .type "Exception", .type "BaseException", .type "object"] "ValueError.__new__" = true
  kp : PySem.W.keepIn K (.ref C) = true
  sb : PySem.W.subIn K (.ref C) (.type "BaseException") = some true
  ty : PySem.W.typeIn K (.ref C) = some (.type "type")
  cls : PySem.W.isClsIn K C = true
  self : PySem.W.subIn K (.ref C) (.ref C) = some true
theorem Txt.bar (T : Txt K mg) : ∃ C, BarredAt K mg C := by
  obtain ⟨C, h1, h2, h3, h4, h5, h6, h7⟩ := T.barred
  exact ⟨C, h1, h2, h3, h4, h5, h6, h7⟩
def OkX (P : Program) (w : World) (K : PySem.W.Frag) (mg : Str → Option Value) (base : Heap) (x : Str) (k : Nat) (ps : List Str) (sp : Sp) : Prop :=
  ∃ f fd, mg x = some (.ref f) ∧ PySem.W.keepIn K (.ref f) = true ∧ Binds K fd ps [] ∧ FnOk P w K mg base (L2.CX P w) k f fd ps sp
def sp_next (C : Addr) : Sp := fun vs H Q E => ∃ (r c : Addr) (ls : List (Int × Int)) (hs ci : List Int) (t n : Int), vs = [.ref r, .int t, .ref c, .int n] ∧ StateAt H r c ls hs ci t ∧ 0 ≤ n ∧ n ≤ 100 ∧
  (letsI ls hs t ci n = true → ∀ p H', Same H H' → TupAt H' p ((ledI ci n).map V.int) → Q (.ref p) H') ∧ (letsI ls hs t ci n = false → ∀ H', Same H H' → E (.ref C) none H')
theorem ok_next (T : Txt K mg) {C : Addr} (B : BarredAt K mg C) : OkX P w K mg base "next_counts" 9 p_next_counts (sp_next C) := by
  obtain ⟨f, fd, a⟩ := T.d_next_counts
  refine ⟨f, fd, a.g, a.fn.kp, a.b, a.fn.okX sc_next_counts (fun vs H Q E h => ?_) (fun cdv A outer s H vs Q E hr h => ?_)⟩
  · obtain ⟨r, c, ls, hs, ci, t, n, rfl, _⟩ := h
    rfl
  · obtain ⟨r, c, ls, hs, ci, t, n, rfl, hst, n0, n1, qy, qn⟩ := h
    obtain ⟨t1, c1⟩ := T.c_MOST_WINDOW
    refine ⟨_, pss_cons (ps_expr (pe_cd (ok_cst T) hr (pa_cons (pv 0) (pa_cons (pv 1) (pa_cons (pv 2) pa_nil)))))
      (pss_cons (ps_expr (pe_cd (ok_cnum T) (hr.mono (by decide)) (pa_cons (pv 3) (pa_cons pe_int (pa_cons (pe_glob (v := .int 100) (by rfl) c1 ⟨_, rfl⟩) pa_nil)))))
      (pss_cons (ps_if (pt_not (pt_val (pe_cd (ok_let T) (hr.mono (by decide)) (pa_cons (pe_ix ix_tupA (pv 0) pe_int (fun _ _ => rfl)) (pa_cons (pe_ix ix_tupA (pv 0) pe_int (fun _ _ => rfl)) (pa_cons (pv 1) (pa_cons (pv 2) (pa_cons (pv 3) pa_nil))))))))
        (pss_one (ps_raise (W := fun cls d _ H => E cls d H) rfl (takes_of rfl rfl rfl rfl) (pmk_own0 PySem.F.excBase_ValueError B.ex B.g B.kp (raises_own B.sb B.ty) rfl))) pss_nil)
      (pss_one (ps_ret (pe_cd (ok_led T) (hr.mono (by decide)) (pa_cons (pv 2) (pa_cons (pv 3) pa_nil))))))), ?_⟩
    refine ⟨_, rfl, _, rfl, _, rfl, r, c, ls, hs, ci, t, rfl, hst, fun H1 s1 => ?_⟩
    obtain ⟨⟨la, ha, hrl, hla, hha⟩, h2, h3, h4, h5, h6⟩ := hst.same s1
    have hm := mem_few h2
    have hlen := h6.len
    refine ⟨_, rfl, n, 0, 100, rfl, n0, n1, _, rfl, r, _, 0, _, rfl, rfl, hrl, rfl, _, rfl, r, _, 1, _, rfl, rfl, hrl, rfl, _, rfl, _, rfl, _, rfl, la, ha, c, ls, hs, ci, t, n, rfl, hla, h2, hha, h3, h5, fun H2 s2 => ⟨_, rfl, ?_⟩⟩
    cases hb : letsI ls hs t ci n with
    | true => exact ifF rfl ⟨_, rfl, _, rfl, c, ci, n, rfl, h5.same s2, by omega, fun p H3 s3 hp => qy hb p H3 ((s1.trans s2).trans s3) hp⟩
    | false => exact ifT rfl (qn hb H2 (s1.trans s2))
end
end G3

namespace M3
def cntI (row : List Int) (t w : Int) : Nat := (row.filter fun x => decide (t - w < x)).length
def fineI (row : List Int) (t n : Int) (p : Int × Int) : Bool := !(decide (0 < n) && decide (p.1 < (cntI row t p.2 : Int) + n))
def mayI (ls : List (Int × Int)) (hs row : List Int) (t n : Int) : Bool := !(decide (0 < n) && !openI hs t) && ls.all (fineI row t n)
theorem all_of_get {α : Type} {f : α → Bool} : ∀ {l : List α}, (∀ (j : Nat) x, l[j]? = some x → f x = true) → l.all f = true
  | [], _ => rfl
  | a :: r, h => by
    rw [List.all_cons, h 0 a rfl, Bool.true_and]
    exact all_of_get fun j x e => h (j + 1) x (by simpa using e)
theorem all_no {α : Type} {f : α → Bool} {l : List α} {j : Nat} {x : α} (h : l[j]? = some x) (e : f x = false) : l.all f = false := by
  cases q : l.all f with
  | false => rfl
  | true =>
    have := List.all_eq_true.mp q x (List.mem_of_getElem? h)
    rw [this] at e; cases e
end M3

set_option Elab.async false
set_option linter.all false
set_option maxRecDepth 100000
set_option maxHeartbeats 4000000
/-! The law's draws; what may be asked by the law's own count. -/
namespace G3
open PySem PySem.Spec PyProof.Rows L2 M3

/-! ### the well: a list of three ints that every draw turns -/
def WellAt (H : Hp) (a : Addr) : Prop := ∃ d m c : Int, H a = some (.lst [.int d, .int m, .int c])
def But (a : Addr) (H H' : Hp) : Prop := ∀ b o, b ≠ a → H b = some o → H' b = some o
theorem But.refl (a : Addr) (H : Hp) : But a H H := fun _ _ _ h => h
theorem But.trans {a : Addr} {H H1 H2 : Hp} (x : But a H H1) (y : But a H1 H2) : But a H H2 := fun b o n h => y b o n (x b o n h)
theorem But.of {a : Addr} {H H' : Hp} (x : Same H H') : But a H H' := fun b o _ h => x b o h
theorem but_upd {a : Addr} {H : Hp} {o : HO} : But a H (upd H a o) := fun b u n h => by rw [upd_ne n]; exact h
theorem WellAt.same {H H' : Hp} {a : Addr} (e : Same H H') (h : WellAt H a) : WellAt H' a := by
  obtain ⟨d, m, c, h⟩ := h
  exact ⟨d, m, c, e _ _ h⟩
theorem WellAt.ne {H : Hp} {a b : Addr} {o : HO} (h : WellAt H a) (hb : H b = some o) (d : ∀ xs, o ≠ .lst xs) : b ≠ a := by
  obtain ⟨x, m, c, h⟩ := h
  exact ne_of hb h (d _)
theorem TupAt.but {H H' : Hp} {a b : Addr} {xs : List V} (w : WellAt H a) (e : But a H H') (h : TupAt H b xs) : TupAt H' b xs := by
  rcases h with h | ⟨o, d, h⟩
  · exact .inl (e _ _ (w.ne h fun _ z => nomatch z) h)
  · exact .inr ⟨o, d, e _ _ (w.ne h fun _ z => nomatch z) h⟩
theorem PairsAt.but {H H' : Hp} {a : Addr} (w : WellAt H a) (e : But a H H') : ∀ {as : List Addr} {ls : List (Int × Int)}, PairsAt H as ls → PairsAt H' as ls
  | [], [], _ => trivial
  | b :: as, p :: ps, h => ⟨e _ _ (w.ne h.1 fun _ z => nomatch z) h.1, PairsAt.but w e h.2⟩
  | [], _ :: _, h => h.elim
  | _ :: _, [], h => h.elim
theorem LimAt.but {H H' : Hp} {a b : Addr} {ls : List (Int × Int)} (w : WellAt H a) (e : But a H H') (h : LimAt H b ls) : LimAt H' b ls := by
  obtain ⟨as, h1, h2⟩ := h
  exact ⟨as, h1.but w e, h2.but w e⟩
theorem PairsAt.snoc {H : Hp} {c : Addr} {p : Int × Int} (hc : H c = some (.tup [.int p.1, .int p.2])) : ∀ {as : List Addr} {ls : List (Int × Int)}, PairsAt H as ls → PairsAt H (as ++ [c]) (ls ++ [p])
  | [], [], _ => ⟨hc, trivial⟩
  | b :: as, q :: ps, h => ⟨h.1, PairsAt.snoc hc h.2⟩
  | [], _ :: _, h => h.elim
  | _ :: _, [], h => h.elim
section
variable {P : Program} {w : World} {K : PySem.W.Frag} {mg : Str → Option Value} {base : Heap}

def sp_pick : Sp := fun vs H Q _ => ∃ (a : Addr) (top : Int), vs = [.ref a, .int top] ∧ WellAt H a ∧ 0 < top ∧ top < 1073741824 ∧ ∀ r H', 0 ≤ r → r < top → But a H H' → WellAt H' a → Q (.int r) H'
theorem ok_pick (T : Txt K mg) : Ok P w K mg base "_law_pick" 1 p_law_pick sp_pick := At.ok T.d_law_pick fun f fd F => by
  refine F.ok sc_law_pick (fun vs H Q E h => ?_) (fun cdv A outer s H vs Q E hr h => ?_)
  · obtain ⟨a, top, rfl, _⟩ := h
    rfl
  · obtain ⟨a, top, rfl, ⟨d, m, c, ha⟩, h1, h2, q⟩ := h
    refine ⟨_, pss_cons (ps_if (pt_cmpR op_gt (pe_ix ix_list (pv 0) pe_int (fun _ _ => rfl)) pe_int (nomark _))
        (pss_cons (ps_asg (pe_callB call_divmod (by rfl) T.z_divmod b_divmod (pa_cons (pe_ix ix_list (pv 0) pe_int (fun _ _ => rfl)) (pa_cons (pv 1) pa_nil)))
          (pg_tup rfl (pgs_cons (pg_sub (pv 0) pe_int set_list) (pgs_cons (pg_name (i := 2) sc_law_pick.nd rfl (.inl rfl)) pgs_nil))))
        (pss_one (ps_ret (pv 2)))) pss_nil)
      (pss_cons (ps_asg (pe_op op_add (pe_ix ix_list (pv 0) pe_int (fun _ _ => rfl)) pe_int) (pg_sub (pv 0) pe_int set_list))
      (pss_cons (ps_asg (pe_op op_mod (pe_callTy call_int1 (by rfl) T.z_int b_int (pa_cons (pe_op op_add (pe_op op_mul (pe_ix ix_list (pv 0) pe_int (fun _ _ => rfl)) pe_int) (pe_op op_mul pe_int (pe_ix ix_list (pv 0) pe_int (fun _ _ => rfl)))) pa_nil)) pe_int) (pg_sub (pv 0) pe_int set_list))
      (pss_one (ps_ret (pe_op op_mod (pe_callTy call_int1 (by rfl) T.z_int b_int (pa_cons (pe_op op_fdiv (pe_ix ix_list (pv 0) pe_int (fun _ _ => rfl)) pe_int) pa_nil)) (pv 1)))))), ?_⟩
    refine ⟨_, rfl, a, _, 0, _, rfl, rfl, SqL.of ha, atI_nat (j := 0) rfl, d, 0, rfl, rfl, _, rfl, ?_⟩
    by_cases hd : 0 < d
    · refine ifT (decide_eq_true hd) ⟨_, rfl, a, _, 0, _, rfl, rfl, SqL.of ha, atI_nat (j := 0) rfl, _, rfl, d, top, rfl, ⟨h1, h2⟩, fun p np => ?_⟩
      have nap : a ≠ p := ne_of_none ha np
      refine ⟨p, _, rfl, SqT.of upd_same, rfl, _, _, rfl, ⟨_, rfl, a, _, 0, 0, rfl, rfl, by rw [upd_ne nap]; exact ha, rfl, _, _, rfl, rfl, _, rfl, ?_⟩⟩
      refine q _ _ (Int.emod_nonneg _ (by omega)) (Int.emod_lt_of_pos _ h1) (fun b o nb hb => ?_) ⟨d / top, m, c, upd_same⟩
      rw [upd_ne nb, upd_ne (ne_of_none hb np)]
      exact hb
    · refine ifF (decide_eq_false hd) ⟨_, rfl, a, _, 2, _, rfl, rfl, SqL.of ha, atI_nat (j := 2) rfl, c, 1, rfl, rfl, _, rfl, a, _, 2, 2, rfl, rfl, ha, rfl, ?_⟩
      refine ⟨_, rfl, a, _, 1, _, rfl, rfl, SqL.of upd_same, atI_nat (j := 1) rfl, m, 48271, rfl, rfl, .inr ⟨by decide, by decide⟩, _, rfl, a, _, 2, _, rfl, rfl, SqL.of upd_same, atI_nat (j := 2) rfl, 1013, c + 1, rfl, rfl, .inl ⟨by decide, by decide⟩, _, _, rfl, rfl, .inl ⟨_, rfl, _, 2038074743, rfl, rfl, (by show (0 : Int) < 2038074743; decide), _, rfl, a, _, 1, 1, rfl, rfl, upd_same, rfl, ?_⟩⟩
      refine ⟨_, rfl, a, _, 1, _, rfl, rfl, SqL.of upd_same, atI_nat (j := 1) rfl, _, 23, rfl, rfl, ⟨by decide, by decide⟩, .inl ⟨_, rfl, _, rfl, _, top, rfl, rfl, h1, ?_⟩⟩
      refine q _ _ (Int.emod_nonneg _ (by omega)) (Int.emod_lt_of_pos _ h1) (fun b o nb hb => ?_) ⟨d, _, c + 1, upd_same⟩
      rw [upd_ne nb, upd_ne nb]
      exact hb

def sp_one : Sp := fun vs H Q _ => ∃ (a b : Addr) (xs : List V), vs = [.ref a, .ref b] ∧ WellAt H a ∧ H b = some (.lst xs) ∧ b ≠ a ∧ 0 < xs.length ∧ xs.length < 1000 ∧ ∀ v H', v ∈ xs → But a H H' → WellAt H' a → Q v H'
theorem ok_one (T : Txt K mg) : Ok P w K mg base "_law_one" 2 p_law_one sp_one := At.ok T.d_law_one fun f fd F => by
  refine F.ok sc_law_one (fun vs H Q E h => ?_) (fun cdv A outer s H vs Q E hr h => ?_)
  · obtain ⟨a, b, xs, rfl, _⟩ := h
    rfl
  · obtain ⟨a, b, xs, rfl, h1, h2, h3, h4, h5, q⟩ := h
    refine ⟨_, pss_one (ps_ret (pe_ix ix_list (pv 1) (pe_cd (ok_pick T) hr (pa_cons (pv 0) (pa_cons (pe_callB call_len_seq (by rfl) T.z_len b_len (pa_cons (pv 1) pa_nil)) pa_nil))) (fun _ _ => rfl))), ?_⟩
    refine ⟨_, rfl, _, rfl, _, rfl, b, xs, rfl, .inl (SqL.of h2), a, _, rfl, h1, by omega, by omega, fun r H1 r0 r1 e w1 => ?_⟩
    obtain ⟨n, rfl⟩ := Int.eq_ofNat_of_zero_le r0
    have hn : n < xs.length := by omega
    exact ⟨b, xs, _, xs[n], rfl, rfl, SqL.of (e _ _ h3 h2), atI_nat (List.getElem?_eq_getElem hn), q _ H1 (List.getElem_mem _) e w1⟩

theorem ok_lopen (T : Txt K mg) : Ok P w K mg base "_law_open" 1 p_law_open sp_open := At.ok T.d_law_open fun f fd F => by
  refine F.ok sc_law_open (fun vs H Q E h => ?_) (fun cdv A outer s H vs Q E hr h => ?_)
  · obtain ⟨ha, hs, t, rfl, _⟩ := h
    rfl
  · obtain ⟨ha, hs, t, rfl, h1, h2, q⟩ := h
    refine ⟨_, pss_one (ps_ret (pe_cmpR op_eq (pe_ix ix_tupA (pv 0) (pe_op op_mod (pe_callTy call_int1 (by rfl) T.z_int b_int (pa_cons (pv 1) pa_nil)) (pe_callB cr_lenT (by rfl) T.z_len b_len (pa_cons (pv 0) pa_nil))) (fun _ _ => rfl)) pe_int (nomark _))), ?_⟩
    have ho := h2.one
    have a := Int.emod_nonneg t (show (hs.length : Int) ≠ 0 by omega)
    refine ⟨_, rfl, _, rfl, .inl ⟨t, rfl, _, rfl, ha, _, rfl, h1, t, _, rfl, rfl, (by rw [List.length_map]; omega), ha, _, (t % (hs.length : Int)).toNat, .int (hs.getD (t % (hs.length : Int)).toNat 0), rfl, ?_, h1, map_get (hours_get h2 t), rfl, blE (dec_one _) q⟩⟩
    rw [List.length_map, Int.toNat_of_nonneg a]

def sp_may : Sp := fun vs H Q _ => ∃ (la ha ra : Addr) (ls : List (Int × Int)) (hs row : List Int) (t n : Int), vs = [.ref la, .ref ha, .ref ra, .int t, .int n] ∧ LimAt H la ls ∧ LimOk ls ∧ TupAt H ha (hs.map V.int) ∧ HrsOk hs ∧
  H ra = some (.lst (row.map V.int)) ∧ row.length ≤ 1000 ∧ ∀ H', Same H H' → Q (.bl (mayI ls hs row t n)) H'
theorem ok_may (T : Txt K mg) : Ok P w K mg base "_law_may" 2 p_law_may sp_may := At.ok T.d_law_may fun f fd F => by
  refine F.ok sc_law_may (fun vs H Q E h => ?_) (fun cdv A outer s H vs Q E hr h => ?_)
  · obtain ⟨la, ha, ra, ls, hs, row, t, n, rfl, _⟩ := h
    rfl
  · obtain ⟨la, ha, ra, ls, hs, row, t, n, rfl, ⟨as, hla, hp⟩, h2, h3, h4, h5, h6, q⟩ := h
    have hl := hp.length
    have hf := h2.few
    refine ⟨_, pss_cons (ps_if (PW.pt (pw_and (pt_cmpR op_gt (pv 4) pe_int (nomark _)) (pw_and1 (pt_not (pt_val (pe_cd (ok_lopen T) hr (pa_cons (pv 1) (pa_cons (pv 3) pa_nil)))))))) (pss_one (ps_ret pe_bl)) pss_nil)
      (pss_cons (ps_for PassesOwn.never rfl (pi_tup (pv 0)) (pg_name (i := 5) sc_law_may.nd rfl (.inr rfl))
        (pss_one (ps_if (PW.pt (pw_and (pt_cmpR op_gt (pv 4) pe_int (nomark _)) (pw_and1 (pt_cmpR op_gt (pe_op op_add (pe_callB call_len_seq (by rfl) T.z_len b_len
            (pa_cons (pe_lc (own := [("_law_other", 6)]) (g := gName 6) (by rfl) sc_law_may.nd (pi_list (pv 2)) (blkOk_by (N := n_law_may) (sc := defScope s_law_may) (by decide +kernel))
              (fun _ _ _ _ _ => pg_name (i := 6) sc_law_may.nd rfl (Or.inl rfl)) (fun _ _ _ _ _ => pts_one (pt_cmpR op_gt (pv 6) (pe_op op_sub (pv 3) (pe_ix ix_tupA (pv 5) pe_int (fun _ _ => rfl))) (nomark _))) (fun _ _ _ _ _ => pv 6)) pa_nil)) (pv 4))
            (pe_ix ix_tupA (pv 5) pe_int (fun _ _ => rfl)) (nomark _))))) (pss_one (ps_ret pe_bl)) pss_nil)))
      (pss_one (ps_ret pe_bl))), ?_⟩
    have stepF : ∀ {j : Nat} {p : Int × Int}, ls[j]? = some p → fineI row t n p = false → mayI ls hs row t n = false := fun hj e => by
      unfold mayI
      rw [all_no hj e, Bool.and_false]
    by_cases n0 : 0 < n
    · refine ⟨_, rfl, n, 0, rfl, rfl, _, rfl, ifT (decide_eq_true n0) ⟨_, rfl, _, rfl, ha, hs, t, rfl, h3, h4, openI hs t, rfl, ?_⟩⟩
      by_cases ho : openI hs t = true
      · rw [ho]
        refine ifF rfl ⟨_, rfl, la, rfl, ⟨_, hla.sq⟩, for_tup (K := K) (a := la) (xs := as.map V.ref)
          (fun i σ H2 => ∃ v5 v6, σ = [some (.ref la), some (.ref ha), some (.ref ra), some (.int t), some (.int n), v5, v6] ∧ Same H H2 ∧ ∀ j p, j < i → ls[j]? = some p → fineI row t n p = true)
          ⟨none, none, rfl, Same.refl _, fun j p hj => absurd hj (Nat.not_lt_zero _)⟩ (fun i σ H2 _ ⟨_, _, _, sm, _⟩ => sqT_same sm hla.sq) ?_ ?_⟩
        · rintro i x σ H2 hx ⟨v5, v6, rfl, sm, hno⟩
          obtain ⟨a, hc, rfl⟩ := get_map hx
          obtain ⟨hi, _⟩ := List.getElem?_eq_some_iff.mp hc
          have hip : ls[i]? = some ls[i] := List.getElem?_eq_getElem (by omega)
          obtain ⟨a', hc', hH⟩ := hp.get hip
          obtain rfl : a' = a := Option.some.inj (hc'.symm.trans hc)
          generalize hpp : ls[i] = p at hip hH
          have hpa : ∀ {H4}, Same H2 H4 → TupAt H4 a' [.int p.1, .int p.2] := fun s4 => .inl (s4 _ _ (sm _ _ hH))
          refine ⟨_, rfl, n, 0, rfl, rfl, _, rfl, ifT (decide_eq_true n0) ⟨_, rfl, ra, rfl, ⟨_, SqL.of (sm _ _ h5)⟩, fun D nD => ?_⟩⟩
          refine lc_list (K := K) (a := ra) (xs := row.map V.int) (fun j H4 => Same H2 H4 ∧ H4 D = some (.lst (((row.take j).filter fun x => decide (t - p.2 < x)).map V.int)))
            ⟨same_upd nD, upd_same⟩ (fun j H4 _ z => SqL.of (z.1 _ _ (sm _ _ h5))) ?_ ?_
          · rintro j x H4 hx4 ⟨s4, hD⟩
            obtain ⟨m, hm, rfl⟩ := get_map hx4
            have hj := (List.getElem?_eq_some_iff.mp hm).1
            have et : (row.take (j + 1)).filter (fun x => decide (t - p.2 < x)) = (row.take j).filter (fun x => decide (t - p.2 < x)) ++ [m].filter (fun x => decide (t - p.2 < x)) := by
              rw [← take_succ hm, List.filter_append]
            refine ⟨rfl, _, rfl, _, rfl, _, rfl, a', _, 1, _, rfl, rfl, hpa s4, rfl, _, _, rfl, rfl, _, _, rfl, rfl, _, rfl, ?_⟩
            by_cases hlt : t - p.2 < m
            · refine ifT (decide_eq_true hlt) ⟨_, rfl, _, hD, ?_, fun b o z => ?_, ?_⟩
              · rw [List.length_map, sizeLine_eq]
                have h1 := List.length_filter_le (fun x => decide (t - p.2 < x)) (row.take j)
                rw [List.length_take] at h1
                omega
              · rw [upd_ne (ne_of_none z nD)]
                exact s4 _ _ z
              · rw [upd_same, et, List.map_append, show [m].filter (fun x => decide (t - p.2 < x)) = [m] from List.filter_cons_of_pos (decide_eq_true hlt)]
                rfl
            · refine ifF (decide_eq_false hlt) ⟨s4, ?_⟩
              rw [et, show [m].filter (fun x => decide (t - p.2 < x)) = [] from List.filter_cons_of_neg (by simpa using hlt), List.append_nil]
              exact hD
          · rintro H4 ⟨s4, hD⟩
            rw [List.length_map, List.take_length] at hD
            refine ⟨D, _, rfl, .inl (SqL.of hD), ?_⟩
            rw [List.length_map]
            refine ⟨_, rfl, _, n, rfl, rfl, _, rfl, a', _, 0, _, rfl, rfl, hpa s4, rfl, _, _, rfl, rfl, _, rfl, ?_⟩
            by_cases hw : p.1 < (cntI row t p.2 : Int) + n
            · have hf : fineI row t n p = false := by
                unfold fineI
                rw [decide_eq_true n0, decide_eq_true hw]
                rfl
              refine ifT (decide_eq_true hw) ?_
              have e := stepF hip hf
              rw [e] at q
              exact q H4 (sm.trans s4)
            · refine ifF (decide_eq_false hw) ⟨_, _, rfl, sm.trans s4, fun k p' hk hp' => ?_⟩
              by_cases e : k = i
              · subst e
                obtain rfl : p = p' := Option.some.inj (hip.symm.trans hp')
                unfold fineI
                rw [decide_eq_false hw, Bool.and_false]
                rfl
              · exact hno k p' (by omega) hp'
        · rintro σ H2 ⟨v5, v6, rfl, sm, hno⟩
          have e : mayI ls hs row t n = true := by
            unfold mayI
            rw [ho, all_of_get fun j p hj => hno j p ?_ hj]
            · simp
            · rw [List.length_map, hl]
              exact (List.getElem?_eq_some_iff.mp hj).1
          rw [e] at q
          exact q H2 sm
      · have ho' : openI hs t = false := by simpa using ho
        rw [ho']
        refine ifT rfl ?_
        have e : mayI ls hs row t n = false := by
          unfold mayI
          rw [ho', decide_eq_true n0]
          rfl
        rw [e] at q
        exact q H (Same.refl H)
    · refine ⟨_, rfl, n, 0, rfl, rfl, _, rfl, ifF (decide_eq_false n0) ⟨_, rfl, la, rfl, ⟨_, hla.sq⟩, for_tup (K := K) (a := la) (xs := as.map V.ref)
          (fun i σ H2 => ∃ v5 v6, σ = [some (.ref la), some (.ref ha), some (.ref ra), some (.int t), some (.int n), v5, v6] ∧ Same H H2)
          ⟨none, none, rfl, Same.refl _⟩ (fun i σ H2 _ ⟨_, _, _, sm⟩ => sqT_same sm hla.sq) ?_ ?_⟩⟩
      · rintro i x σ H2 hx ⟨v5, v6, rfl, sm⟩
        exact ⟨_, rfl, n, 0, rfl, rfl, _, rfl, ifF (decide_eq_false n0) ⟨_, _, rfl, sm⟩⟩
      · rintro σ H2 ⟨v5, v6, rfl, sm⟩
        have e : mayI ls hs row t n = true := by
          unfold mayI
          rw [decide_eq_false n0, all_of_get fun j p hj => ?_]
          · rfl
          · unfold fineI
            rw [decide_eq_false n0]
            rfl
        rw [e] at q
        exact q H2 sm
end
end G3

set_option Elab.async false
set_option linter.all false
set_option maxRecDepth 100000
set_option maxHeartbeats 4000000
/-! The law's draws: the well, some limits, some hours. -/
namespace G3
open PySem PySem.Spec PyProof.Rows L2 M3
theorem none_of {H H' : Hp} {l : Addr} (s : Same H H') (n : H' l = none) : H l = none := by
  cases e : H l with
  | none => rfl
  | some o =>
    rw [s _ _ e] at n
    cases n
theorem sqL_same {K : PySem.W.Frag} {H H' : Hp} {a : Addr} {xs : List V} (e : Same H H') (h : SqL K H a xs) : SqL K H' a xs := by
  rcases h with (h | ⟨o, h⟩) | h
  · exact .inl (.inl (e _ _ h))
  · exact .inl (.inr ⟨o, e _ _ h⟩)
  · exact .inr h
section
variable {P : Program} {w : World} {K : PySem.W.Frag} {mg : Str → Option Value} {base : Heap}

def sp_well (K : PySem.W.Frag) : Sp := fun vs H Q _ => ∃ (a : Addr) (ns : List Int) (t : Int), vs = [.ref a, .int t] ∧ SqL K H a (ns.map V.int) ∧ 0 ≤ t ∧ ∀ p H', H p = none → Same H H' → WellAt H' p → Q (.ref p) H'
theorem ok_well (T : Txt K mg) : Ok P w K mg base "_law_well" 1 p_law_well (sp_well K) := At.ok T.d_law_well fun f fd F => by
  refine F.ok sc_law_well (fun vs H Q E h => ?_) (fun cdv A outer s H vs Q E hr h => ?_)
  · obtain ⟨a, ns, t, rfl, _⟩ := h
    rfl
  · obtain ⟨a, ns, t, rfl, h1, h2, q⟩ := h
    refine ⟨_, pss_cons (ps_set (i := 2) sc_law_well.nd rfl (.inl rfl) (pe_op op_add pe_int (pe_op op_mul pe_int (pv 1))))
      (pss_cons (ps_for PassesOwn.never rfl (pi_list (pe_slice sl_list (pv 0) po_none (po_some pe_int))) (pg_name (i := 3) sc_law_well.nd rfl (.inl rfl))
        (pss_one (ps_set (i := 2) sc_law_well.nd rfl (.inl rfl) (pe_op op_mod (pe_callTy call_int1 (by rfl) T.z_int b_int (pa_cons (pe_op op_add (pe_op op_add (pe_op op_mul (pv 2) pe_int) (pe_op op_mul (pe_op op_mod (pe_callTy call_int1 (by rfl) T.z_int b_int (pa_cons (pv 3) pa_nil)) pe_int) pe_int)) pe_int) pa_nil)) pe_int))))
      (pss_cons (ps_set (i := 4) sc_law_well.nd rfl (.inl rfl) (pe_ifExp (pt_cmpR op_lt (pv 1) (pe_callB call_len_seq (by rfl) T.z_len b_len (pa_cons (pv 0) pa_nil)) (nomark _))
        (pe_callTy call_int1 (by rfl) T.z_int b_int (pa_cons (pe_ix ix_list (pv 0) (pv 1) (fun _ _ => rfl)) pa_nil)) (pv 2)))
      (pss_cons (ps_set (i := 5) sc_law_well.nd rfl (.inl rfl) (pe_ifExp (pt_cmpR op_ge (pe_callB call_abs (by rfl) T.z_abs b_abs (pa_cons (pv 4) pa_nil)) (pe_op op_pow pe_int pe_int) (nomark _))
        (pe_callB call_abs (by rfl) T.z_abs b_abs (pa_cons (pv 4) pa_nil)) pe_int))
      (pss_cons (ps_set (i := 2) sc_law_well.nd rfl (.inl rfl) (pe_op op_mod (pe_callTy call_int1 (by rfl) T.z_int b_int (pa_cons (pe_op op_add (pe_op op_add (pe_op op_mul (pv 2) pe_int) (pe_op op_mul (pe_op op_mod (pe_callTy call_int1 (by rfl) T.z_int b_int (pa_cons (pv 4) pa_nil)) pe_int) pe_int)) pe_int) pa_nil)) pe_int))
      (pss_one (ps_ret (pe_lst (pa_cons (pv 5) (pa_cons (pv 2) (pa_cons pe_int pa_nil)))))))))), ?_⟩
    refine ⟨_, rfl, _, _, rfl, rfl, .inl ⟨by decide, by decide⟩, _, _, rfl, rfl, ?_⟩
    refine ⟨_, rfl, 9, rfl, a, ns.map V.int, rfl, h1, fun p np => ⟨p, rfl, ⟨_, SqL.of upd_same⟩, ?_⟩⟩
    have cutm : ∃ ms : List Int, cutV (ns.map V.int) none (some 9) = ms.map V.int := ⟨(ns.take 9), by rw [cut_to _ _ (by decide), List.map_take]; rfl⟩
    obtain ⟨ms, em⟩ := cutm
    rw [em]
    refine for_list (K := K) (a := p) (xs := ms.map V.int) (fun i σ H2 => ∃ m : Int, ∃ v3, σ = [some (.ref a), some (.int t), some (.int m), v3, none, none] ∧ Same (upd H p (.lst (ms.map V.int))) H2) ⟨_, none, rfl, Same.refl _⟩ (fun i σ H2 _ ⟨_, _, _, sm⟩ => SqL.of (sm _ _ upd_same)) ?_ ?_
    · rintro i x σ H2 hx ⟨m, v3, rfl, sm⟩
      obtain ⟨n, hn, rfl⟩ := get_map hx
      exact ⟨_, rfl, _, _, rfl, rfl, .inr ⟨by decide, by decide⟩, _, rfl, .inl ⟨_, rfl, _, _, rfl, rfl, (by show (0 : Int) < 2038074743; decide), _, _, rfl, rfl, .inr ⟨by decide, by decide⟩, _, _, rfl, rfl, _, _, rfl, rfl, .inl ⟨_, rfl, _, _, rfl, rfl, (by show (0 : Int) < 2038074743; decide), _, _, rfl, sm⟩⟩⟩
    · rintro σ H2 ⟨m, v3, rfl, sm⟩
      have sm : Same H H2 := (same_upd np).trans sm
      have fin : ∀ (H3 : Hp) (x y : Int), Same H H3 → 3 ≤ sizeLine ∧ ∀ l, H3 l = none → Q (.ref l) (upd H3 l (.lst [.int x, .int y, .int 0])) := fun H3 x y s3 => ⟨by rw [sizeLine_eq]; omega, fun l nl => q l _ (none_of s3 nl) (s3.trans (same_upd nl)) ⟨x, y, 0, upd_same⟩⟩
      refine ⟨_, rfl, _, rfl, a, _, rfl, .inl (sqL_same sm h1), _, _, rfl, rfl, _, rfl, ?_⟩
      rw [List.length_map]
      by_cases hlt : t < (ns.length : Int)
      · obtain ⟨n, rfl⟩ := Int.eq_ofNat_of_zero_le h2
        have hn : n < ns.length := by omega
        refine ifT (decide_eq_true hlt) ⟨_, rfl, _, rfl, a, _, (n : Int), .int ns[n], rfl, rfl, sqL_same sm h1, atI_nat (map_get (List.getElem?_eq_getElem hn)), .inl ⟨_, rfl, ?_⟩⟩
        refine ⟨_, rfl, _, rfl, 10, 18, rfl, rfl, ⟨by decide, by decide, by decide⟩, _, _, rfl, rfl, _, rfl, ?_⟩
        generalize ns[n] = c
        by_cases hb : ((10 : Int) ^ (18 : Int).toNat) ≤ (if c < 0 then -c else c)
        · refine ifT (decide_eq_true hb) ⟨_, rfl, _, rfl, ?_⟩
          exact ⟨_, rfl, _, _, rfl, rfl, .inr ⟨by decide, by decide⟩, _, rfl, .inl ⟨_, rfl, _, _, rfl, rfl, (by show (0 : Int) < 2038074743; decide), _, _, rfl, rfl, .inr ⟨by decide, by decide⟩, _, _, rfl, rfl, _, _, rfl, rfl, .inl ⟨_, rfl, _, _, rfl, rfl, (by show (0 : Int) < 2038074743; decide), _, rfl, _, rfl, fin H2 _ _ sm⟩⟩⟩
        · refine ifF (decide_eq_false hb) ?_
          exact ⟨_, rfl, _, _, rfl, rfl, .inr ⟨by decide, by decide⟩, _, rfl, .inl ⟨_, rfl, _, _, rfl, rfl, (by show (0 : Int) < 2038074743; decide), _, _, rfl, rfl, .inr ⟨by decide, by decide⟩, _, _, rfl, rfl, _, _, rfl, rfl, .inl ⟨_, rfl, _, _, rfl, rfl, (by show (0 : Int) < 2038074743; decide), _, rfl, _, rfl, fin H2 _ _ sm⟩⟩⟩
      · refine ifF (decide_eq_false hlt) ⟨_, rfl, ?_⟩
        refine ⟨_, rfl, _, rfl, 10, 18, rfl, rfl, ⟨by decide, by decide, by decide⟩, _, _, rfl, rfl, _, rfl, ?_⟩
        generalize m = c
        by_cases hb : ((10 : Int) ^ (18 : Int).toNat) ≤ (if c < 0 then -c else c)
        · refine ifT (decide_eq_true hb) ⟨_, rfl, _, rfl, ?_⟩
          exact ⟨_, rfl, _, _, rfl, rfl, .inr ⟨by decide, by decide⟩, _, rfl, .inl ⟨_, rfl, _, _, rfl, rfl, (by show (0 : Int) < 2038074743; decide), _, _, rfl, rfl, .inr ⟨by decide, by decide⟩, _, _, rfl, rfl, _, _, rfl, rfl, .inl ⟨_, rfl, _, _, rfl, rfl, (by show (0 : Int) < 2038074743; decide), _, rfl, _, rfl, fin H2 _ _ sm⟩⟩⟩
        · refine ifF (decide_eq_false hb) ?_
          exact ⟨_, rfl, _, _, rfl, rfl, .inr ⟨by decide, by decide⟩, _, rfl, .inl ⟨_, rfl, _, _, rfl, rfl, (by show (0 : Int) < 2038074743; decide), _, _, rfl, rfl, .inr ⟨by decide, by decide⟩, _, _, rfl, rfl, _, _, rfl, rfl, .inl ⟨_, rfl, _, _, rfl, rfl, (by show (0 : Int) < 2038074743; decide), _, rfl, _, rfl, fin H2 _ _ sm⟩⟩⟩
end
end G3

set_option Elab.async false
set_option linter.all false
set_option maxRecDepth 100000
set_option maxHeartbeats 4000000
/-! The law's draws: some limits, some hours. -/
namespace G3
open PySem PySem.Spec PyProof.Rows L2 M3
theorem PairsAt.updL {H : Hp} {D : Addr} {zs : List V} {o : HO} (hD : H D = some (.lst zs)) : ∀ {as : List Addr} {ls : List (Int × Int)}, PairsAt H as ls → PairsAt (upd H D o) as ls
  | [], [], _ => trivial
  | b :: as, p :: ps, h => ⟨by rw [upd_ne (ne_of h.1 hD fun z => nomatch z)]; exact h.1, PairsAt.updL hD h.2⟩
  | [], _ :: _, h => h.elim
  | _ :: _, [], h => h.elim
theorem WellAt.upd {H : Hp} {a b : Addr} {o : HO} (n : a ≠ b) (h : WellAt H a) : WellAt (upd H b o) a := by
  obtain ⟨d, m, c, h⟩ := h
  exact ⟨d, m, c, by rw [upd_ne n]; exact h⟩
theorem WellAt.neN {H : Hp} {a b : Addr} (h : WellAt H a) (n : H b = none) : a ≠ b := by
  obtain ⟨d, m, c, h⟩ := h
  exact ne_of_none h n
section
variable {P : Program} {w : World} {K : PySem.W.Frag} {mg : Str → Option Value} {base : Heap}

def sp_slim : Sp := fun vs H Q _ => ∃ (a : Addr) (top : Int), vs = [.ref a, .int top, .int 7] ∧ WellAt H a ∧ 1 ≤ top ∧ top ≤ 6 ∧ ∀ p H' ls, LimOk ls → But a H H' → WellAt H' a → LimAt H' p ls → Q (.ref p) H'
theorem ok_slim (T : Txt K mg) : Ok P w K mg base "_law_some_limits" 3 p_law_some_limits sp_slim := At.ok T.d_law_some_limits fun f fd F => by
  refine F.ok sc_law_some_limits (fun vs H Q E h => ?_) (fun cdv A outer s H vs Q E hr h => ?_)
  · obtain ⟨a, top, rfl, _⟩ := h
    rfl
  · obtain ⟨a, top, rfl, h1, h2, h3, q⟩ := h
    refine ⟨_, pss_cons (ps_set (i := 3) sc_law_some_limits.nd rfl (.inl rfl) (pe_cd (ok_one T) hr (pa_cons (pv 0) (pa_cons (pe_lst (pa_cons pe_int (pa_cons pe_int (pa_cons pe_int (pa_cons pe_int (pa_cons pe_int (pa_cons pe_int (pa_cons pe_int (pa_cons pe_int (pa_cons pe_int pa_nil)))))))))) pa_nil))))
      (pss_one (ps_ret (pe_callTy call_tupleF (by rfl) T.z_tuple b_tuple
        (pa_cons (pe_lc (own := [("_law_turn", 4)]) (g := gName 4) (tt := tYes) (by rfl) sc_law_some_limits.nd (pi_range1 (by rfl) T.z_range (pa_cons (pv 3) pa_nil)) (blkOk_by (N := n_law_some_limits) (sc := defScope s_law_some_limits) (by decide +kernel))
          (fun _ _ _ _ _ => pg_name (i := 4) sc_law_some_limits.nd rfl (Or.inl rfl)) (fun _ _ _ _ _ => pts_nil)
          (fun _ _ _ _ _ => pe_tup (pa_cons (pe_op op_add pe_int (pe_cd (ok_pick T) (hr.mono (by decide)) (pa_cons (pv 0) (pa_cons (pv 1) pa_nil)))) (pa_cons (pe_op op_add pe_int (pe_cd (ok_pick T) (hr.mono (by decide)) (pa_cons (pv 0) (pa_cons (pv 2) pa_nil)))) pa_nil)))) pa_nil)))), ?_⟩
    refine ⟨_, rfl, by rw [sizeLine_eq]; decide, fun l nl => ⟨a, l, _, rfl, h1.upd (h1.neN nl), upd_same, (h1.neN nl).symm, by decide, by decide, fun v H1 hv b1 w1 => ?_⟩⟩
    have b0 : But a H H1 := But.trans (But.of (same_upd nl)) b1
    obtain ⟨n, hn, rfl⟩ : ∃ n : Nat, n ≤ 4 ∧ v = .int n := by
      simp only [List.mem_cons, List.not_mem_nil, or_false] at hv
      rcases hv with h | h | h | h | h | h | h | h | h <;> subst h
      · exact ⟨1, by decide, rfl⟩
      · exact ⟨1, by decide, rfl⟩
      · exact ⟨1, by decide, rfl⟩
      · exact ⟨2, by decide, rfl⟩
      · exact ⟨2, by decide, rfl⟩
      · exact ⟨2, by decide, rfl⟩
      · exact ⟨3, by decide, rfl⟩
      · exact ⟨4, by decide, rfl⟩
      · exact ⟨0, by decide, rfl⟩
    refine ⟨_, rfl, _, rfl, by omega, by omega, fun D nD => ?_⟩
    rw [Int.toNat_natCast]
    have hDa : D ≠ a := (w1.neN nD).symm
    refine lc_range (lo := 0) (fun i H2 => But a H1 H2 ∧ WellAt H2 a ∧ ∃ as ls, H2 D = some (.lst (as.map V.ref)) ∧ PairsAt H2 as ls ∧ ls.length = i ∧ ∀ p ∈ ls, 1 ≤ p.1 ∧ p.1 ≤ 6 ∧ 1 ≤ p.2 ∧ p.2 ≤ 7)
      ⟨But.of (same_upd nD), w1.upd hDa.symm, [], [], upd_same, trivial, rfl, fun p hp => nomatch hp⟩ ?_ ?_
    · rintro i H2 hi ⟨b2, w2, as, ls, hD, hp, hl, he⟩
      refine ⟨rfl, ?_⟩
      unfold tYes
      dsimp only
      rw [if_pos rfl]
      refine ⟨_, rfl, _, rfl, a, top, rfl, w2, by omega, by omega, fun r H3 r0 r1 b3 w3 => ⟨_, _, rfl, rfl, _, rfl, _, rfl, a, 7, rfl, w3, by decide, by decide, fun r' H4 r0' r1' b4 w4 => ⟨_, _, rfl, rfl, by rw [sizeLine_eq]; show 2 ≤ 16777216; omega, fun c nc => ?_⟩⟩⟩
      have b34 := b3.trans b4
      have hD4 : H4 D = some (.lst (as.map V.ref)) := b34 _ _ hDa hD
      have hp4 := hp.but w2 b34
      have hDc : D ≠ c := ne_of_none hD4 nc
      have hac : a ≠ c := w4.neN nc
      have hD5 : upd H4 c (.tup [.int (1 + r), .int (1 + r')]) D = some (.lst (as.map V.ref)) := by rw [upd_ne hDc]; exact hD4
      refine ⟨as.map V.ref, hD5, ?_, fun b o hb ho => ?_, (w4.upd hac).upd hDa.symm, as ++ [c], ls ++ [(1 + r, 1 + r')], ?_, ?_, ?_, ?_⟩
      · have := hp.length
        rw [List.length_map, sizeLine_eq]
        omega
      · have o4 := b34 _ _ hb (b2 _ _ hb ho)
        rw [upd_ne (ne_of_none ho nD), upd_ne (ne_of_none o4 nc)]
        exact o4
      · rw [upd_same, List.map_append]
        rfl
      · exact (PairsAt.snoc (p := (1 + r, 1 + r')) upd_same (hp4.same (same_upd nc))).updL hD5
      · rw [List.length_append, hl]
        rfl
      · intro p hp
        rcases List.mem_append.mp hp with z | z
        · exact he p z
        · rw [List.mem_singleton.mp z]
          dsimp only
          omega
    · rintro H2 ⟨b2, w2, as, ls, hD, hp, hl, he⟩
      refine ⟨D, _, rfl, SqL.of hD, fun t nt o ho => q t _ ls ⟨by omega, he⟩ ?_ (w2.upd (w2.neN nt)) ⟨as, .inr ⟨o, ho, upd_same⟩, hp.same (same_upd nt)⟩⟩
      exact (b0.trans b2).trans (But.of (same_upd nt))
def sp_shrs : Sp := fun vs H Q _ => ∃ (a : Addr), vs = [.ref a, .int 5] ∧ WellAt H a ∧ ∀ p H' hs, HrsOk hs → But a H H' → WellAt H' a → TupAt H' p (hs.map V.int) → Q (.ref p) H'
theorem ok_shrs (T : Txt K mg) : Ok P w K mg base "_law_some_hours" 3 p_law_some_hours sp_shrs := At.ok T.d_law_some_hours fun f fd F => by
  refine F.ok sc_law_some_hours (fun vs H Q E h => ?_) (fun cdv A outer s H vs Q E hr h => ?_)
  · obtain ⟨a, rfl, _⟩ := h
    rfl
  · obtain ⟨a, rfl, h1, q⟩ := h
    refine ⟨_, pss_cons (ps_setLc (i := 2) (own := [("_law_turn", 3)]) (g := gName 3) (tt := tYes) (by rfl) sc_law_some_hours.nd rfl rfl (sw_true rfl rfl rfl (by decide +kernel))
        (pi_range1 (by rfl) T.z_range (pa_cons (pe_op op_add pe_int (pe_cd (ok_pick T) (hr.mono (by decide)) (pa_cons (pv 0) (pa_cons (pv 1) pa_nil)))) pa_nil)) (blkOk_by (N := n_law_some_hours) (sc := defScope s_law_some_hours) (by decide +kernel))
          (fun _ _ _ _ _ => pg_name (i := 3) sc_law_some_hours.nd rfl (Or.inl rfl)) (fun _ _ _ _ _ => pts_nil)
          (fun _ _ _ _ _ => pe_cd (ok_one T) hr (pa_cons (pv 0) (pa_cons (pe_lst (pa_cons pe_int (pa_cons pe_int (pa_cons pe_int pa_nil)))) pa_nil))))
      (pss_cons (ps_asg pe_int (pg_sub (pv 2) (pe_cd (ok_pick T) (hr.mono (by decide)) (pa_cons (pv 0) (pa_cons (pe_callB call_len_seq (by rfl) T.z_len b_len (pa_cons (pv 2) pa_nil)) pa_nil))) set_list))
      (pss_one (ps_ret (pe_callTy call_tupleF (by rfl) T.z_tuple b_tuple (pa_cons (pv 2) pa_nil))))), ?_⟩
    refine ⟨_, rfl, _, rfl, a, 5, rfl, h1, by decide, by decide, fun n H1 n0 n1 b1 w1 => ⟨_, _, rfl, rfl, _, rfl, by omega, by omega, fun D nD => ?_⟩⟩
    have hDa : D ≠ a := (w1.neN nD).symm
    refine lc_range (lo := 0) (fun i H2 => But a H1 H2 ∧ WellAt H2 a ∧ ∃ hs : List Int, H2 D = some (.lst (hs.map V.int)) ∧ hs.length = i ∧ ∀ h ∈ hs, h = 0 ∨ h = 1)
      ⟨But.of (same_upd nD), w1.upd hDa.symm, [], upd_same, rfl, fun p hp => nomatch hp⟩ ?_ ?_
    · rintro i H2 hi ⟨b2, w2, hs, hD, hl, he⟩
      refine ⟨rfl, ?_⟩
      unfold tYes
      dsimp only
      rw [if_pos rfl]
      refine ⟨_, rfl, by rw [sizeLine_eq]; decide, fun l nl => ⟨a, l, _, rfl, w2.upd (w2.neN nl), upd_same, (w2.neN nl).symm, by decide, by decide, fun v H3 hv b3 w3 => ?_⟩⟩
      obtain ⟨z, hz, rfl⟩ : ∃ z : Int, (z = 0 ∨ z = 1) ∧ v = .int z := by
        simp only [List.mem_cons, List.not_mem_nil, or_false] at hv
        rcases hv with h | h | h <;> subst h
        · exact ⟨1, .inr rfl, rfl⟩
        · exact ⟨1, .inr rfl, rfl⟩
        · exact ⟨0, .inl rfl, rfl⟩
      have b23 : But a H2 H3 := But.trans (But.of (same_upd nl)) b3
      have hD3 : H3 D = some (.lst (hs.map V.int)) := b23 _ _ hDa hD
      refine ⟨hs.map V.int, hD3, ?_, fun b o hb ho => ?_, w3.upd hDa.symm, hs ++ [z], ?_, ?_, ?_⟩
      · rw [List.length_map, sizeLine_eq]
        omega
      · rw [upd_ne (ne_of_none ho nD)]
        exact b23 _ _ hb (b2 _ _ hb ho)
      · rw [upd_same, List.map_append]
        rfl
      · rw [List.length_append, hl]
        rfl
      · intro p hp
        rcases List.mem_append.mp hp with y | y
        · exact he p y
        · rw [List.mem_singleton.mp y]
          exact hz
    · rintro H2 ⟨b2, w2, hs, hD, hl, he⟩
      refine ⟨_, rfl, _, rfl, _, rfl, D, _, rfl, .inl (SqL.of hD), a, _, rfl, w2, ?_, ?_, fun r H3 r0 r1 b3 w3 => ?_⟩
      · rw [List.length_map, hl]; omega
      · rw [List.length_map, hl]; omega
      rw [List.length_map] at r1
      obtain ⟨j, rfl⟩ := Int.eq_ofNat_of_zero_le r0
      have hj : j < hs.length := by omega
      have hD3 := b3 _ _ hDa hD
      refine ⟨D, _, (j : Int), j, rfl, rfl, hD3, ?_, _, rfl, D, _, rfl, SqL.of upd_same, fun t nt o ho => ?_⟩
      · unfold ixN
        rw [if_pos (by omega), if_pos (by rw [List.length_map]; omega)]
        simp
      · have w4 : WellAt (upd H3 D (.lst ((hs.map V.int).set j (.int 1)))) a := w3.upd hDa.symm
        refine q t _ (hs.set j 1) ⟨?_, ?_, ?_, ?_⟩ (fun b ob hb hob => ?_) (w4.upd (w4.neN nt)) (.inr ⟨o, ho, by rw [upd_same, List.map_set]⟩)
        · rw [List.length_set]; omega
        · rw [List.length_set]; omega
        · intro h hh
          rcases List.mem_or_eq_of_mem_set hh with z | z
          · exact he h z
          · exact .inr z
        · exact List.mem_set (by exact hj) 1
        · have o1 := b1 _ _ hb hob
          have o3 := b3 _ _ hb (b2 _ _ hb o1)
          have o4 : upd H3 D (.lst ((hs.map V.int).set j (.int 1))) b = some ob := by rw [upd_ne (ne_of_none o1 nD)]; exact o3
          rw [upd_ne (ne_of_none o4 nt)]
          exact o4
end
end G3

set_option Elab.async false
set_option linter.all false
set_option maxRecDepth 100000
set_option maxHeartbeats 4000000
/-! The law's own counts: the greatest number, the wait. -/
namespace M3
def TopAt (ls : List (Int × Int)) (hs row : List Int) (t : Int) : Option Nat → Prop
  | none => ls = [] ∧ openI hs t = true
  | some n => ¬(ls = [] ∧ openI hs t = true) ∧ n < 7 ∧ mayI ls hs row t n = true ∧ ∀ k : Nat, k < 7 → mayI ls hs row t k = true → k ≤ n
end M3
namespace G3
open PySem PySem.Spec PyProof.Rows L2 M3
def pdP (p : Int × Int) : PyData := .tuple [.int p.1, .int p.2]
theorem dpAll_pairs {K : PySem.W.Frag} {H : Hp} : ∀ {as : List Addr} {ls : List (Int × Int)}, PairsAt H as ls → DpAll K H (as.map V.ref) (ls.map pdP)
  | [], [], _ => .nil
  | a :: as, p :: ps, h => .cons (.tup (SqT.of h.1) (.cons (.int _) (.cons (.int _) .nil))) (dpAll_pairs h.2)
  | [], _ :: _, h => h.elim
  | _ :: _, [], h => h.elim
theorem shaped_pairs (l : List (Int × Int)) : SeqAt.shaped (.tuple (l.map pdP)) = true := by
  have h1 : ∀ l : List (Int × Int), PyData.canLayAll0 (l.map pdP) = true := by
    intro l
    induction l with
    | nil => simp [PyData.canLayAll0]
    | cons a r ih => simp [PyData.canLayAll0, PyData.canLay0, pdP, ih]
  have h2 : ∀ l : List (Int × Int), PyData.depthAll (l.map pdP) ≤ 1 := by
    intro l
    induction l with
    | nil => simp [PyData.depthAll]
    | cons a r ih => simp [PyData.depthAll, PyData.depth, pdP, ih]
  have := h2 l
  simp [SeqAt.shaped, PyData.canLay0, PyData.depth, h1 l]
  omega
section
variable {P : Program} {w : World} {K : PySem.W.Frag} {mg : Str → Option Value} {base : Heap}
def MayAt (H : Hp) (la ha ra : Addr) (ls : List (Int × Int)) (hs row : List Int) : Prop := LimAt H la ls ∧ LimOk ls ∧ TupAt H ha (hs.map V.int) ∧ HrsOk hs ∧ H ra = some (.lst (row.map V.int)) ∧ row.length ≤ 1000
theorem MayAt.same {H H' : Hp} {la ha ra : Addr} {ls : List (Int × Int)} {hs row : List Int} (e : Same H H') (h : MayAt H la ha ra ls hs row) : MayAt H' la ha ra ls hs row :=
  ⟨h.1.same e, h.2.1, h.2.2.1.same e, h.2.2.2.1, e _ _ h.2.2.2.2.1, h.2.2.2.2.2⟩
theorem may_in {H : Hp} {la ha ra : Addr} {ls : List (Int × Int)} {hs row : List Int} {t n : Int} {Q : VK} {E : XK} (h : MayAt H la ha ra ls hs row) (q : ∀ H', Same H H' → Q (.bl (mayI ls hs row t n)) H') :
    sp_may [.ref la, .ref ha, .ref ra, .int t, .int n] H Q E := ⟨la, ha, ra, ls, hs, row, t, n, rfl, h.1, h.2.1, h.2.2.1, h.2.2.2.1, h.2.2.2.2.1, h.2.2.2.2.2, q⟩

def sp_great : Sp := fun vs H Q _ => ∃ (la ha ra : Addr) (ls : List (Int × Int)) (hs row : List Int) (t : Int) (g : Option Nat), vs = [.ref la, .ref ha, .ref ra, .int t] ∧ MayAt H la ha ra ls hs row ∧ TopAt ls hs row t g ∧ ∀ H', Same H H' → Q (optV g) H'
theorem ok_great (T : Txt K mg) : Ok P w K mg base "_law_greatest" 3 p_law_greatest sp_great := At.ok T.d_law_greatest fun f fd F => by
  refine F.ok sc_law_greatest (fun vs H Q E h => ?_) (fun cdv A outer s H vs Q E hr h => ?_)
  · obtain ⟨la, ha, ra, ls, hs, row, t, g, rfl, _⟩ := h
    rfl
  · obtain ⟨la, ha, ra, ls, hs, row, t, g, rfl, hm, hg, q⟩ := h
    refine ⟨_, pss_cons (ps_if (PW.pt (pw_and (pt_cmpR (op_eqD hr.units) (pv 0) (pe_tup pa_nil) (nomark _)) (pw_and1 (pt_val (pe_cd (ok_lopen T) (hr.mono (by decide)) (pa_cons (pv 1) (pa_cons (pv 3) pa_nil))))))) (pss_one (ps_ret pe_non)) pss_nil)
      (pss_one (ps_ret (pe_callB (cr_max rfl) (by rfl) T.z_max b_max
        (pa_cons (pe_lc (own := [("_law_number", 4)]) (g := gName 4) (by rfl) sc_law_greatest.nd (pi_range1 (by rfl) T.z_range (pa_cons pe_int pa_nil)) (blkOk_by (N := n_law_greatest) (sc := defScope s_law_greatest) (by decide +kernel))
          (fun _ _ _ _ _ => pg_name (i := 4) sc_law_greatest.nd rfl (Or.inl rfl)) (fun _ _ _ _ _ => pts_one (pt_val (pe_cd (ok_may T) hr (pa_cons (pv 0) (pa_cons (pv 1) (pa_cons (pv 2) (pa_cons (pv 3) (pa_cons (pv 4) pa_nil)))))))) (fun _ _ _ _ _ => pv 4)) pa_nil)))), ?_⟩
    refine ⟨_, rfl, Nat.zero_le _, fun e ne => ?_⟩
    have s1 := same_upd (o := .tup []) ne
    obtain ⟨as, hla, hp⟩ := (hm.same s1).1
    refine ⟨.tuple (ls.map pdP), .tuple [], .tup hla.sq (dpAll_pairs hp), .tup (SqT.of upd_same) .nil, shaped_pairs ls, by decide +kernel, _, rfl, ?_⟩
    have eb : PyData.eqv (.tuple (ls.map pdP)) (.tuple []) = decide (ls = []) := by cases ls <;> simp [PyData.eqv, PyData.eqvAll]
    rw [eb]
    by_cases hl : ls = []
    · refine ifT (decide_eq_true hl) ⟨_, rfl, _, rfl, ha, hs, t, rfl, (hm.same s1).2.2.1, hm.2.2.2.1, openI hs t, rfl, ?_⟩
      by_cases ho : openI hs t = true
      · rw [ho]
        refine ifT rfl ?_
        cases g with
        | none => exact q _ s1
        | some n => exact absurd ⟨hl, ho⟩ hg.1
      · have ho' : openI hs t = false := by simpa using ho
        rw [ho']
        refine ifF rfl ?_
        have s2 := s1
        have hng : ¬(ls = [] ∧ openI hs t = true) := fun z => ho z.2
        generalize upd H e (.tup []) = H2 at s2
        refine ⟨7, rfl, by decide, by decide, fun D nD => lc_range (lo := 0) (fun i H3 => Same H2 H3 ∧ H3 D = some (.lst (((List.range i).filter fun k => mayI ls hs row t (k : Nat)).map fun k => V.int (k : Nat)))) ⟨same_upd nD, upd_same⟩ ?_ ?_⟩
        · rintro i H3 hi ⟨s3, hD⟩
          refine ⟨rfl, _, rfl, _, rfl, _, rfl, _, rfl, _, rfl, la, ha, ra, ls, hs, row, t, _, rfl, ((hm.same s2).same s3).1, hm.2.1, ((hm.same s2).same s3).2.2.1, hm.2.2.2.1, ((hm.same s2).same s3).2.2.2.2.1, hm.2.2.2.2.2, fun H4 s4 => ⟨_, rfl, ?_⟩⟩
          have hD4 := s4 _ _ hD
          have e0 : (0 + (i : Int)) = (i : Nat) := by omega
          rw [e0]
          cases hb : mayI ls hs row t (i : Nat) with
          | true =>
            refine ifT rfl ⟨_, rfl, _, hD4, ?_, fun b o ho => ?_, ?_⟩
            · rw [List.length_map, sizeLine_eq]
              have h1 := List.length_filter_le (fun k => mayI ls hs row t (k : Nat)) (List.range i)
              rw [List.length_range] at h1
              omega
            · rw [upd_ne (ne_of_none ho nD)]
              exact s4 _ _ (s3 _ _ ho)
            · rw [upd_same, List.range_succ, List.filter_append, show [i].filter (fun k => mayI ls hs row t (k : Nat)) = [i] from List.filter_cons_of_pos hb, List.map_append]
              rfl
          | false =>
            refine ifF rfl ⟨s3.trans s4, ?_⟩
            rw [List.range_succ, List.filter_append, show [i].filter (fun k => mayI ls hs row t (k : Nat)) = [] from List.filter_cons_of_neg (by rw [hb]; decide), List.append_nil]
            exact hD4
        · rintro H3 ⟨s3, hD⟩
          cases g with
          | none => exact absurd hg hng
          | some n =>
            obtain ⟨_, g1, g2, g3⟩ := hg
            have hmem : ∀ k : Nat, k ∈ (List.range 7).filter (fun k => mayI ls hs row t (k : Nat)) ↔ k < 7 ∧ mayI ls hs row t (k : Nat) = true := fun k => by rw [List.mem_filter, List.mem_range]
            refine ⟨D, ((List.range 7).filter fun k => mayI ls hs row t (k : Nat)).map (fun (k : Nat) => (k : Int)), rfl, SqL.of (by rw [List.map_map]; exact hD), ?_, fun m hin hle => ?_⟩
            · rw [List.length_map]
              exact List.length_pos_of_mem ((hmem n).mpr ⟨g1, g2⟩)
            · obtain ⟨k, hk, rfl⟩ := List.mem_map.mp hin
              obtain ⟨k1, k2⟩ := (hmem k).mp hk
              have a1 := g3 k k1 k2
              have a2 := hle (n : Nat) (List.mem_map.mpr ⟨n, (hmem n).mpr ⟨g1, g2⟩, rfl⟩)
              obtain rfl : k = n := by omega
              exact q H3 (s2.trans s3)
    · refine ifF (decide_eq_false hl) (ifF rfl ?_)
      have s2 := s1
      have hng : ¬(ls = [] ∧ openI hs t = true) := fun z => hl z.1
      generalize upd H e (.tup []) = H2 at s2
      refine ⟨7, rfl, by decide, by decide, fun D nD => lc_range (lo := 0) (fun i H3 => Same H2 H3 ∧ H3 D = some (.lst (((List.range i).filter fun k => mayI ls hs row t (k : Nat)).map fun k => V.int (k : Nat)))) ⟨same_upd nD, upd_same⟩ ?_ ?_⟩
      · rintro i H3 hi ⟨s3, hD⟩
        refine ⟨rfl, _, rfl, _, rfl, _, rfl, _, rfl, _, rfl, la, ha, ra, ls, hs, row, t, _, rfl, ((hm.same s2).same s3).1, hm.2.1, ((hm.same s2).same s3).2.2.1, hm.2.2.2.1, ((hm.same s2).same s3).2.2.2.2.1, hm.2.2.2.2.2, fun H4 s4 => ⟨_, rfl, ?_⟩⟩
        have hD4 := s4 _ _ hD
        have e0 : (0 + (i : Int)) = (i : Nat) := by omega
        rw [e0]
        cases hb : mayI ls hs row t (i : Nat) with
        | true =>
          refine ifT rfl ⟨_, rfl, _, hD4, ?_, fun b o ho => ?_, ?_⟩
          · rw [List.length_map, sizeLine_eq]
            have h1 := List.length_filter_le (fun k => mayI ls hs row t (k : Nat)) (List.range i)
            rw [List.length_range] at h1
            omega
          · rw [upd_ne (ne_of_none ho nD)]
            exact s4 _ _ (s3 _ _ ho)
          · rw [upd_same, List.range_succ, List.filter_append, show [i].filter (fun k => mayI ls hs row t (k : Nat)) = [i] from List.filter_cons_of_pos hb, List.map_append]
            rfl
        | false =>
          refine ifF rfl ⟨s3.trans s4, ?_⟩
          rw [List.range_succ, List.filter_append, show [i].filter (fun k => mayI ls hs row t (k : Nat)) = [] from List.filter_cons_of_neg (by rw [hb]; decide), List.append_nil]
          exact hD4
      · rintro H3 ⟨s3, hD⟩
        cases g with
        | none => exact absurd hg hng
        | some n =>
          obtain ⟨_, g1, g2, g3⟩ := hg
          have hmem : ∀ k : Nat, k ∈ (List.range 7).filter (fun k => mayI ls hs row t (k : Nat)) ↔ k < 7 ∧ mayI ls hs row t (k : Nat) = true := fun k => by rw [List.mem_filter, List.mem_range]
          refine ⟨D, ((List.range 7).filter fun k => mayI ls hs row t (k : Nat)).map (fun (k : Nat) => (k : Int)), rfl, SqL.of (by rw [List.map_map]; exact hD), ?_, fun m hin hle => ?_⟩
          · rw [List.length_map]
            exact List.length_pos_of_mem ((hmem n).mpr ⟨g1, g2⟩)
          · obtain ⟨k, hk, rfl⟩ := List.mem_map.mp hin
            obtain ⟨k1, k2⟩ := (hmem k).mp hk
            have a1 := g3 k k1 k2
            have a2 := hle (n : Nat) (List.mem_map.mpr ⟨n, (hmem n).mpr ⟨g1, g2⟩, rfl⟩)
            obtain rfl : k = n := by omega
            exact q H3 (s2.trans s3)
end
end G3

set_option Elab.async false
set_option linter.all false
set_option maxRecDepth 100000
set_option maxHeartbeats 4000000
/-! The law's wait; the lead that may be barred. -/
namespace G3
open PySem PySem.Spec PyProof.Rows L2 M3
theorem exm_me {K : PySem.W.Frag} {S : Addr} (h1 : PySem.W.subIn K (.ref S) (.type "BaseException") = some true) (h2 : PySem.W.isClsIn K S = true) (h3 : PySem.W.typeIn K (.ref S) = some (.type "type")) (h4 : PySem.W.subIn K (.ref S) (.ref S) = some true) :
    PySem.W.exmOne K (.ref S) (.ref S) = some true := by
  have e1 : (PySem.W.subIn K (.ref S) (.type "BaseException") == some true) = true := by rw [h1] <;> rfl
  have e2 : ((PySem.W.clsIn K S).isSome && PySem.W.typeIn K (.ref S) == some (.type "type")) = true := by
    have h2' : (PySem.W.clsIn K S).isSome = true := h2
    rw [h2', h3] <;> rfl
  show (if (PySem.W.subIn K (.ref S) (.type "BaseException") == some true) = true then (if ((PySem.W.clsIn K S).isSome && PySem.W.typeIn K (.ref S) == some (.type "type")) = true then PySem.W.subIn K (.ref S) (.ref S) else none) else none) = some true
  rw [if_pos e1, if_pos e2]
  exact h4
theorem takesN {X : Cx} : L2.Takes X (fun _ _ _ _ => False) := fun _ _ x => by
  obtain ⟨_, _, _, _, _, _, _, _, _, _, _, _, _, _, _, _, z⟩ := x
  exact z.elim
section
variable {P : Program} {w : World} {K : PySem.W.Frag} {mg : Str → Option Value} {base : Heap}

def sp_lwait : Sp := fun vs H Q _ => ∃ (la ha ra : Addr) (ls : List (Int × Int)) (hs row : List Int) (t : Int) (s0 : Nat), vs = [.ref la, .ref ha, .ref ra, .int t] ∧ MayAt H la ha ra ls hs row ∧ s0 < 200 ∧ mayI ls hs row (t + (s0 : Nat)) 1 = true ∧
  (∀ k, k < s0 → mayI ls hs row (t + (k : Nat)) 1 = false) ∧ ∀ H', Same H H' → Q (.int (s0 : Nat)) H'
theorem ok_lwait (T : Txt K mg) : Ok P w K mg base "_law_wait" 3 p_law_wait sp_lwait := At.ok T.d_law_wait fun f fd F => by
  refine F.ok sc_law_wait (fun vs H Q E h => ?_) (fun cdv A outer s H vs Q E hr h => ?_)
  · obtain ⟨la, ha, ra, ls, hs, row, t, s0, rfl, _⟩ := h
    rfl
  · obtain ⟨la, ha, ra, ls, hs, row, t, s0, rfl, hm, h1, h2, h3, q⟩ := h
    refine ⟨_, pss_cons (ps_for PassesOwn.never rfl (pi_range1 (by rfl) T.z_range (pa_cons pe_int pa_nil)) (pg_name (i := 4) sc_law_wait.nd rfl (.inl rfl))
        (pss_one (ps_if (pt_val (pe_cd (ok_may T) hr (pa_cons (pv 0) (pa_cons (pv 1) (pa_cons (pv 2) (pa_cons (pe_op op_add (pv 3) (pv 4)) (pa_cons pe_int pa_nil))))))) (pss_one (ps_ret (pv 4))) pss_nil)))
      (pss_one (ps_ret pe_non)), ?_⟩
    refine ⟨200, rfl, by decide, by decide, for_range (lo := 0) (fun i σ H2 => ∃ v4, σ = [some (.ref la), some (.ref ha), some (.ref ra), some (.int t), v4] ∧ Same H H2 ∧ i ≤ s0) ⟨none, rfl, Same.refl _, Nat.zero_le _⟩ ?_ ?_⟩
    · rintro i σ H2 hi ⟨v4, rfl, sm, hle⟩
      have e0 : (0 + (i : Int)) = (i : Nat) := by omega
      rw [e0]
      refine ⟨_, rfl, _, rfl, _, rfl, _, rfl, _, rfl, _, _, rfl, rfl, la, ha, ra, ls, hs, row, _, _, rfl, (hm.same sm).1, hm.2.1, (hm.same sm).2.2.1, hm.2.2.2.1, (hm.same sm).2.2.2.2.1, hm.2.2.2.2.2, fun H4 s4 => ⟨_, rfl, ?_⟩⟩
      by_cases e : i = s0
      · subst e
        rw [h2]
        exact ifT rfl ⟨_, rfl, q H4 (sm.trans s4)⟩
      · rw [h3 i (by omega)]
        exact ifF rfl ⟨_, rfl, sm.trans s4, by omega⟩
    · rintro σ H2 ⟨v4, rfl, sm, hle⟩
      exact absurd hle (by show ¬((200 : Int).toNat ≤ s0); have : (200 : Int).toNat = 200 := rfl; omega)

def sp_lled : Sp := fun vs H Q _ => ∃ (r c : Addr) (ls : List (Int × Int)) (hs ci : List Int) (t n : Int), vs = [.ref r, .int t, .ref c, .int n] ∧ StateAt H r c ls hs ci t ∧ 0 ≤ n ∧ n ≤ 100 ∧
  (letsI ls hs t ci n = true → ∀ p H', Same H H' → TupAt H' p ((ledI ci n).map V.int) → Q (.ref p) H') ∧ (letsI ls hs t ci n = false → ∀ p H', Same H H' → TupAt H' p [.str "barred"] → Q (.ref p) H')
theorem ok_lled (T : Txt K mg) : Ok P w K mg base "_law_led" 10 p_law_led sp_lled := At.ok T.d_law_led fun f fd F => by
  refine F.ok sc_law_led (fun vs H Q E h => ?_) (fun cdv A outer s H vs Q E hr h => ?_)
  · obtain ⟨r, c, ls, hs, ci, t, n, rfl, _⟩ := h
    rfl
  · obtain ⟨r, c, ls, hs, ci, t, n, rfl, hst, n0, n1, qy, qn⟩ := h
    obtain ⟨C, B⟩ := T.bar
    obtain ⟨fa, fdn, mgf, kp, bn, G⟩ := ok_next (P := P) (w := w) (base := base) T B
    refine ⟨_, pss_one (ps_try_only (tb := fun W => tRet (tCallS (sp_next C) (WE W) (tCons (tVar 0) (tCons (tVar 1) (tCons (tVar 2) (tCons (tVar 3) tNil)))))) (ts := fun _ _ _ => tRet (tTup (tCons (tC (.str "barred")) tNil))) (Wout := fun _ _ _ _ => False) rfl rfl ⟨rfl, by decide, Or.inl B.g⟩ takesN
      (fun W pn xe tk _ => pss_one (ps_ret (pe_callS G hr rfl mgf kp bn (fun σ => passAt tk σ) (by exact (pa_cons (pv 0) (pa_cons (pv 1) (pa_cons (pv 2) (pa_cons (pv 3) pa_nil))))))))
      (fun _ _ _ _ _ _ _ => pss_one (ps_ret (pe_tup (pa_cons pe_str pa_nil))))), ?_⟩
    refine ⟨_, rfl, _, rfl, _, rfl, _, rfl, r, c, ls, hs, ci, t, n, rfl, hst, n0, n1, qy, fun hn H1 s1 => ?_⟩
    refine ⟨true, exm_me B.sb B.cls B.ty B.self, fun _ a ha => ?_, fun z => nomatch z⟩
    refine ⟨by rw [sizeLine_eq]; decide, fun p np => qn hn p _ (s1.trans (same_upd np)) (.inl upd_same)⟩
end
end G3

set_option Elab.async false
set_option linter.all false
set_option maxRecDepth 100000
set_option maxHeartbeats 4000000
/-! What is short enough to be shown. -/
namespace G3
open PySem PySem.Spec PyProof.Rows L2 M3
structure RepOk (d : PyData) (k N : Nat) : Prop where
  sh : d.showable = true
  nd : d.hasDict = false
  dp : d.depth ≤ k
  ln : d.shown.length ≤ N
theorem RepOk.mono {d : PyData} {k N k' N' : Nat} (h : RepOk d k N) (a : k ≤ k') (b : N ≤ N') : RepOk d k' N' := ⟨h.sh, h.nd, Nat.le_trans h.dp a, Nat.le_trans h.ln b⟩
theorem rep_ints : ∀ i : Fin 300, (PyData.shown (.int (i.val : Int))).length ≤ 20 ∧ PyData.showable (.int (i.val : Int)) = true := by decide +kernel
theorem rep_int {i : Int} (h0 : 0 ≤ i) (h1 : i < 300) : RepOk (.int i) 0 20 := by
  obtain ⟨n, rfl⟩ := Int.eq_ofNat_of_zero_le h0
  obtain ⟨a, b⟩ := rep_ints ⟨n, by omega⟩
  exact ⟨b, rfl, Nat.le_refl _, a⟩
theorem rep_bl (b : Bool) : RepOk (.bool b) 0 20 := by cases b <;> exact ⟨rfl, rfl, Nat.le_refl _, by decide +kernel⟩
theorem rep_non : RepOk .none 0 20 := ⟨rfl, rfl, Nat.le_refl _, by decide +kernel⟩
theorem rep_bar : RepOk (.str "barred") 0 20 := ⟨rfl, rfl, Nat.le_refl _, by decide +kernel⟩
theorem rep_all {k N : Nat} : ∀ {ds : List PyData}, (∀ d ∈ ds, RepOk d k N) → PyData.showableAll ds = true ∧ PyData.hasDictAll ds = false ∧ PyData.depthAll ds ≤ k ∧ piled (PyData.shownAll ds) ≤ ds.length * (N + 2)
  | [], _ => ⟨rfl, rfl, Nat.zero_le _, by simp [PyData.shownAll, piled]⟩
  | d :: r, h => by
    obtain ⟨a, b, c, e⟩ := rep_all fun x hx => h x (List.mem_cons_of_mem _ hx)
    have hd := h d List.mem_cons_self
    refine ⟨?_, ?_, ?_, ?_⟩
    · show (PyData.showable d && PyData.showableAll r) = true
      rw [hd.sh, a]; rfl
    · show (PyData.hasDict d || PyData.hasDictAll r) = false
      rw [hd.nd, b]; rfl
    · show max (PyData.depth d) (PyData.depthAll r) ≤ k
      have := hd.dp
      omega
    · show piled (PyData.shown d :: PyData.shownAll r) ≤ (r.length + 1) * (N + 2)
      rw [piled_cons, Nat.succ_mul]
      have := hd.ln
      omega
theorem listText_le : ∀ ts : List Str, (listText ts).length ≤ piled ts + 2
  | [] => by decide +kernel
  | t :: r => by
    have h := textFrom_length_pos r 1 (("[" : Str) ++ (if (0 : Nat) > 0 then ", " else "" : String) ++ t) (Nat.succ_pos 0)
    have e : ((("[" : Str) ++ (if (0 : Nat) > 0 then ", " else "" : String) ++ t)).length = 1 + t.length := by
      rw [strLen_append, strLen_append]; rfl
    have hX : (listText (t :: r)).length = (textFrom 0 "[" (t :: r)).length + 1 := by
      show (textFrom 0 "[" (t :: r) ++ "]").length = _
      rw [strLen_append]; rfl
    have hY : (textFrom 0 "[" (t :: r)).length = (textFrom 1 (("[" : Str) ++ (if (0 : Nat) > 0 then ", " else "" : String) ++ t) r).length := rfl
    rw [hX, hY, h, e, piled_cons]; omega
theorem tupleText_le (ts : List Str) : (tupleText ts).length ≤ piled ts + 3 := by
  unfold tupleText
  rw [strLen_append, strLen_append]
  have e1 : ((("(" : String) : Str)).length = 1 := rfl
  have e3 : (((if ts.length == 1 then ",)" else ")" : String) : Str)).length ≤ 2 := by split <;> decide
  rw [e1]
  by_cases h : ts = []
  · subst h
    have : (Str.join ", " []).length = 0 := rfl
    omega
  · have := join_length_add ts h
    omega
theorem rep_lst {ds : List PyData} {k N : Nat} (h : ∀ d ∈ ds, RepOk d k N) : RepOk (.list ds) (k + 1) (ds.length * (N + 2) + 3) := by
  obtain ⟨a, b, c, e⟩ := rep_all h
  refine ⟨a, b, Nat.succ_le_succ c, ?_⟩
  have := listText_le (PyData.shownAll ds)
  show (listText (PyData.shownAll ds)).length ≤ _
  omega
theorem rep_tup {ds : List PyData} {k N : Nat} (h : ∀ d ∈ ds, RepOk d k N) : RepOk (.tuple ds) (k + 1) (ds.length * (N + 2) + 3) := by
  obtain ⟨a, b, c, e⟩ := rep_all h
  refine ⟨a, b, Nat.succ_le_succ c, ?_⟩
  have := tupleText_le (PyData.shownAll ds)
  show (tupleText (PyData.shownAll ds)).length ≤ _
  omega
theorem rep_cnts {ci : List Int} (h : ∀ k ∈ ci, 0 ≤ k ∧ k ≤ 200) (hl : ci.length ≤ 10) : RepOk (.tuple (ci.map PyData.int)) 1 223 := by
  refine (rep_tup (N := 20) (k := 0) fun d hd => ?_).mono (Nat.le_refl _) ?_
  · obtain ⟨k, hk, rfl⟩ := List.mem_map.mp hd
    have := h k hk
    exact rep_int (by omega) (by omega)
  · rw [List.length_map]
    omega
theorem room9 {k : Nat} {A : Around} (h : Room k A) : A.units + 9 < cLine := Nat.lt_of_le_of_lt (Nat.add_le_add_left (by decide) _) h.units
end G3

set_option Elab.async false
set_option linter.all false
set_option maxRecDepth 100000
set_option maxHeartbeats 4000000
/-! A moment is right. -/
namespace G3
open PySem PySem.Spec PyProof.Rows L2 M3
theorem same_updN {H H1 : Hp} {p : Addr} {o : HO} (s : Same H H1) (n : H p = none) : Same H (upd H1 p o) := fun b ob h => by
  rw [upd_ne (ne_of_none h n)]
  exact s b ob h
def pdO : Option Nat → PyData
  | none => .none
  | some n => .int n
theorem dp_opt {K : PySem.W.Frag} {H : Hp} : ∀ g : Option Nat, Dp K H (optV g) (pdO g)
  | none => .non
  | some n => .int n
theorem rep_opt : ∀ {g : Option Nat}, (∀ n, g = some n → n < 300) → RepOk (pdO g) 0 20
  | none, _ => rep_non
  | some n, h => rep_int (i := (n : Int)) (by omega) (by have := h n rfl; omega)
def pdM (a b : Bool) (g : Option Nat) (s0 : Nat) : PyData := .list [.bool a, .bool b, .bool true, pdO g, .int (s0 : Nat), .bool true]
theorem dp_pdM {K : PySem.W.Frag} {H : Hp} {p : Addr} {a b : Bool} {g : Option Nat} {s0 : Nat} (h : H p = some (.lst ([V.bl a, V.bl b, V.bl true] ++ [optV g, .int (s0 : Nat), .bl true]))) : Dp K H (.ref p) (pdM a b g s0) :=
  .lst (SqL.of h) (.cons (.bl _) (.cons (.bl _) (.cons (.bl _) (.cons (dp_opt g) (.cons (.int _) (.cons (.bl _) .nil))))))
theorem rep_pdM {a b : Bool} {g : Option Nat} {s0 : Nat} (h1 : ∀ n, g = some n → n < 300) (h2 : s0 < 300) : RepOk (pdM a b g s0) 1 135 := by
  refine rep_lst (N := 20) fun d hd => ?_
  simp only [List.mem_cons, List.not_mem_nil, or_false] at hd
  rcases hd with e | e | e | e | e | e <;> subst e
  · exact rep_bl _
  · exact rep_bl _
  · exact rep_bl _
  · exact rep_opt h1
  · exact rep_int (by omega) (by omega)
  · exact rep_bl _
section
variable {P : Program} {w : World} {K : PySem.W.Frag} {mg : Str → Option Value} {base : Heap}

/-- all that a moment is right for -/
structure MomentOk (ls : List (Int × Int)) (hs row ci : List Int) (t n : Int) (g : Option Nat) (s0 : Nat) : Prop where
  n0 : 0 ≤ n
  n1 : n ≤ 99
  len : row.length ≤ 190
  asks : AsksOk row
  past : ∀ m ∈ row, m < t
  fine : ∀ j, j < row.length → wrongI ls hs row j = false
  cnt : countsI ls row t = ci
  small : ∀ k ∈ ci, 0 ≤ k ∧ k ≤ 200
  let1 : letsI ls hs t ci n = mayI ls hs row t n
  let2 : letsI ls hs t ci (n + 1) = mayI ls hs row t (n + 1)
  top : TopAt ls hs row t g
  most0 : openI hs t = false → optV g = .int 0
  most1 : openI hs t = true → ls = [] → optV g = .non
  most2 : openI hs t = true → ∀ m, m ∈ ls.map (fun p => p.1 - spent ci p) → (∀ y, y ∈ ls.map (fun p => p.1 - spent ci p) → m ≤ y) → optV g = .int m
  few : s0 < 200
  wait : letsI ls hs (t + s0) (ledN ci s0) 1 = true
  waitN : ∀ k, k < s0 → letsI ls hs (t + (k : Nat)) (ledN ci k) 1 = false
  may : mayI ls hs row (t + (s0 : Nat)) 1 = true
  mayN : ∀ k, k < s0 → mayI ls hs row (t + (k : Nat)) 1 = false

def sp_mright : Sp := fun vs H Q _ => ∃ (r ra c : Addr) (ls : List (Int × Int)) (hs row ci : List Int) (t n : Int) (g : Option Nat) (s0 : Nat), vs = [.ref r, .ref ra, .int t, .ref c, .int n] ∧ StateAt H r c ls hs ci t ∧ H ra = some (.lst (row.map V.int)) ∧
  MomentOk ls hs row ci t n g s0 ∧ ∀ H', Same H H' → Q (.bl true) H'
theorem ok_mright (T : Txt K mg) : OkG P w K mg base "_law_moment_right" 10 p_law_moment_right sp_mright := At.okG T.d_law_moment_right fun f fd F => by
  refine okG F sc_law_moment_right (fun vs H Q E h => ?_) (fun cdv A outer s H vs Q E hgd hr h => ?_)
  · obtain ⟨r, ra, c, ls, hs, row, ci, t, n, g, s0, rfl, _⟩ := h
    rfl
  · obtain ⟨r, ra, c, ls, hs, row, ci, t, n, g, s0, rfl, hst, hra, M, q⟩ := h
    obtain ⟨⟨la, ha, hrl, hla, hha⟩, k2, k3, k4, k5, k6⟩ := id hst
    refine ⟨_, pss_cons (ps_asg (pv 0) (pg_tup rfl (pgs_cons (pg_name (i := 5) sc_law_moment_right.nd rfl (.inl rfl)) (pgs_cons (pg_name (i := 6) sc_law_moment_right.nd rfl (.inl rfl)) pgs_nil))))
      (pss_cons (ps_set (i := 7) sc_law_moment_right.nd rfl (.inl rfl) (pe_lst (pa_cons (pe_cd (ok_lets T) hr (pa_cons (pv 0) (pa_cons (pv 2) (pa_cons (pv 3) (pa_cons (pv 4) pa_nil)))))
        (pa_cons (pe_cd (ok_lets T) hr (pa_cons (pv 0) (pa_cons (pv 2) (pa_cons (pv 3) (pa_cons (pe_op op_add (pv 4) pe_int) pa_nil)))))
        (pa_cons (pe_cd (ok_lets T) hr (pa_cons (pv 0) (pa_cons (pv 2) (pa_cons (pv 3) (pa_cons pe_int pa_nil))))) pa_nil)))))
      (pss_cons (ps_expr (pe_bm PySem.F.plainAttrs_list PySem.F.slot_list_extend PySem.F.type_list_extend mt_extend (pv 7)
        (pa_cons (pe_lst (pa_cons (pe_cd (ok_most T) hr (pa_cons (pv 0) (pa_cons (pv 2) (pa_cons (pv 3) pa_nil))))
          (pa_cons (pe_cd (ok_wait T) hr (pa_cons (pv 0) (pa_cons (pv 2) (pa_cons (pv 3) pa_nil))))
          (pa_cons (pe_cd (ok_arec T) (hr.mono (by decide)) (pa_cons (pv 5) (pa_cons (pv 3) pa_nil))) pa_nil)))) pa_nil)))
      (pss_cons (ps_set (i := 8) sc_law_moment_right.nd rfl (.inl rfl) (pe_lst (pa_cons (pe_cd (ok_may T) (hr.mono (by decide)) (pa_cons (pv 5) (pa_cons (pv 6) (pa_cons (pv 1) (pa_cons (pv 2) (pa_cons (pv 4) pa_nil))))))
        (pa_cons (pe_cd (ok_may T) (hr.mono (by decide)) (pa_cons (pv 5) (pa_cons (pv 6) (pa_cons (pv 1) (pa_cons (pv 2) (pa_cons (pe_op op_add (pv 4) pe_int) pa_nil))))))
        (pa_cons pe_bl pa_nil)))))
      (pss_cons (ps_expr (pe_bm PySem.F.plainAttrs_list PySem.F.slot_list_extend PySem.F.type_list_extend mt_extend (pv 8)
        (pa_cons (pe_lst (pa_cons (pe_cd (ok_great T) (hr.mono (by decide)) (pa_cons (pv 5) (pa_cons (pv 6) (pa_cons (pv 1) (pa_cons (pv 2) pa_nil)))))
          (pa_cons (pe_cd (ok_lwait T) (hr.mono (by decide)) (pa_cons (pv 5) (pa_cons (pv 6) (pa_cons (pv 1) (pa_cons (pv 2) pa_nil)))))
          (pa_cons pe_bl pa_nil)))) pa_nil)))
      (pss_one (ps_ret (pe_and (pe_cmpR op_eq (pe_callB (cr_reprD hgd (room9 hr)) (by rfl) T.z_repr b_repr (pa_cons (pv 7) pa_nil)) (pe_callB (cr_reprD hgd (room9 hr)) (by rfl) T.z_repr b_repr (pa_cons (pv 8) pa_nil)) (nomark _))
        (pe_one (pe_cmpR op_eq (pe_callB (cr_reprD hgd (room9 hr)) (by rfl) T.z_repr b_repr (pa_cons (pe_cd (ok_cat T) (hr.mono (by decide)) (pa_cons (pv 0) (pa_cons (pe_callTy call_tupleF (by rfl) T.z_tuple b_tuple (pa_cons (pv 1) pa_nil)) (pa_cons (pv 2) pa_nil)))) pa_nil))
          (pe_callB (cr_reprD hgd (room9 hr)) (by rfl) T.z_repr b_repr (pa_cons (pv 3) pa_nil)) (nomark _)))))))))), ?_⟩
    have hmay : MayAt H la ha ra ls hs row := ⟨hla, k2, hha, k3, hra, Nat.le_trans M.len (by decide)⟩
    have hm := mem_few k2
    have hlen := k6.len
    refine ⟨_, rfl, r, _, rfl, hrl.sq, rfl, _, _, rfl, _, _, rfl, rfl, ?_⟩
    refine ⟨_, rfl, _, rfl, _, rfl, _, rfl, r, c, ls, hs, ci, t, n, rfl, hst, M.n0, by have := M.n1; omega, fun H1 s1 => ?_⟩
    refine ⟨_, rfl, _, rfl, _, rfl, _, rfl, _, _, rfl, rfl, r, c, ls, hs, ci, t, n + 1, rfl, hst.same s1, by have := M.n0; omega, by have := M.n1; omega, fun H2 s2 => ?_⟩
    have s2 := s1.trans s2
    refine ⟨_, rfl, _, rfl, _, rfl, r, c, ls, hs, ci, t, 0, rfl, hst.same s2, by decide, by decide, fun H3 s3 => ⟨by rw [sizeLine_eq]; show 3 ≤ 16777216; omega, fun p1 np1 => ?_⟩⟩
    have s3 := s2.trans s3
    have n1 : H p1 = none := by
      cases e : H p1 with
      | none => rfl
      | some o => rw [s3 _ _ e] at np1; cases np1
    have s4 : Same H (upd H3 p1 (.lst [.bl (letsI ls hs t ci n), .bl (letsI ls hs t ci (n + 1)), .bl (letsI ls hs t ci 0)])) := same_updN s3 n1
    refine ⟨_, rfl, .inl ⟨rfl, _, SqL.of upd_same⟩, ?_⟩
    refine ⟨_, rfl, _, rfl, _, rfl, r, c, ls, hs, ci, t, optV g, rfl, hst.same s4, M.most0, M.most1, M.most2, fun H5 s5 => ?_⟩
    refine ⟨_, rfl, _, rfl, _, rfl, r, c, ls, hs, ci, t, s0, rfl, (hst.same s4).same s5, M.wait, M.waitN, fun H6 s6 => ?_⟩
    have s56 := s5.trans s6
    have sH6 := s4.trans s56
    refine ⟨_, rfl, _, rfl, la, c, ls, ci, rfl, hla.same sH6, k2, k5.same sH6, k6, fun H7 s7 => ⟨by rw [sizeLine_eq]; show 3 ≤ 16777216; omega, fun p2 np2 => ?_⟩⟩
    have s47 := s56.trans s7
    have e1 := s47 _ _ (upd_same (H := H3) (a := p1))
    have d12 : p1 ≠ p2 := ne_of_none e1 np2
    refine ⟨p1, p2, _, _, rfl, rfl, by rw [upd_ne d12]; exact e1, upd_same, by rw [sizeLine_eq]; show 3 + 3 ≤ 16777216; omega, ?_⟩
    have sa := same_updN (o := .lst ([V.bl (letsI ls hs t ci n), V.bl (letsI ls hs t ci (n + 1)), V.bl (letsI ls hs t ci 0)] ++ [optV g, .int (s0 : Nat), .bl true])) ((s4.trans s47).trans (same_upd (o := .lst [optV g, .int (s0 : Nat), .bl true]) np2)) n1
    have ea := upd_same (H := upd H7 p2 (.lst [optV g, .int (s0 : Nat), .bl true])) (a := p1) (o := .lst ([V.bl (letsI ls hs t ci n), V.bl (letsI ls hs t ci (n + 1)), V.bl (letsI ls hs t ci 0)] ++ [optV g, .int (s0 : Nat), .bl true]))
    generalize upd (upd H7 p2 (.lst [optV g, .int (s0 : Nat), .bl true])) p1 (.lst ([V.bl (letsI ls hs t ci n), V.bl (letsI ls hs t ci (n + 1)), V.bl (letsI ls hs t ci 0)] ++ [optV g, .int (s0 : Nat), .bl true])) = Ha at sa ea
    have ma := hmay.same sa
    refine ⟨_, rfl, _, rfl, _, rfl, _, rfl, _, rfl, la, ha, ra, ls, hs, row, t, n, rfl, ma.1, k2, ma.2.2.1, k3, ma.2.2.2.2.1, ma.2.2.2.2.2, fun H8 s8 => ?_⟩
    have mb := ma.same s8
    refine ⟨_, rfl, _, rfl, _, rfl, _, rfl, _, rfl, _, _, rfl, rfl, la, ha, ra, ls, hs, row, t, n + 1, rfl, mb.1, k2, mb.2.2.1, k3, mb.2.2.2.2.1, mb.2.2.2.2.2, fun H9 s9 => ⟨by rw [sizeLine_eq]; show 3 ≤ 16777216; omega, fun p3 np3 => ?_⟩⟩
    have s89 := s8.trans s9
    have n3 : Ha p3 = none := by
      cases e : Ha p3 with
      | none => rfl
      | some o => rw [s89 _ _ e] at np3; cases np3
    have sb := s89.trans (same_upd (o := .lst [V.bl (mayI ls hs row t n), V.bl (mayI ls hs row t (n + 1)), V.bl true]) np3)
    refine ⟨_, rfl, .inl ⟨rfl, _, SqL.of upd_same⟩, ?_⟩
    have mc := ma.same sb
    refine ⟨_, rfl, _, rfl, _, rfl, _, rfl, la, ha, ra, ls, hs, row, t, g, rfl, mc, M.top, fun Hb s10 => ?_⟩
    refine ⟨_, rfl, _, rfl, _, rfl, _, rfl, la, ha, ra, ls, hs, row, t, s0, rfl, mc.same s10, M.few, M.may, M.mayN, fun Hc s11 => ⟨by rw [sizeLine_eq]; show 3 ≤ 16777216; omega, fun p4 np4 => ?_⟩⟩
    have sc := s10.trans s11
    have e3 := sc _ _ (upd_same (H := H9) (a := p3))
    have d34 : p3 ≠ p4 := ne_of_none e3 np4
    refine ⟨p3, p4, _, _, rfl, rfl, by rw [upd_ne d34]; exact e3, upd_same, by rw [sizeLine_eq]; show 3 + 3 ≤ 16777216; omega, ?_⟩
    have sz := same_updN (o := .lst ([V.bl (mayI ls hs row t n), V.bl (mayI ls hs row t (n + 1)), V.bl true] ++ [optV g, .int (s0 : Nat), .bl true])) ((sb.trans sc).trans (same_upd (o := .lst [optV g, .int (s0 : Nat), .bl true]) np4)) n3
    have ez := upd_same (H := upd Hc p4 (.lst [optV g, .int (s0 : Nat), .bl true])) (a := p3) (o := .lst ([V.bl (mayI ls hs row t n), V.bl (mayI ls hs row t (n + 1)), V.bl true] ++ [optV g, .int (s0 : Nat), .bl true]))
    generalize upd (upd Hc p4 (.lst [optV g, .int (s0 : Nat), .bl true])) p3 (.lst ([V.bl (mayI ls hs row t n), V.bl (mayI ls hs row t (n + 1)), V.bl true] ++ [optV g, .int (s0 : Nat), .bl true])) = Hz at sz ez
    have eaz := sz _ _ ea
    have sHz := sa.trans sz
    rw [M.let1, M.let2, show letsI ls hs t ci 0 = true from by unfold letsI; rfl] at eaz
    have g6 : ∀ m, g = some m → m < 300 := fun m e => by
      have z := M.top
      rw [e] at z
      have := z.2.1
      omega
    have R1 := rep_pdM (a := mayI ls hs row t n) (b := mayI ls hs row t (n + 1)) g6 (Nat.lt_trans M.few (by decide))
    have szl : ∀ {d : PyData} {N : Nat}, d.shown.length ≤ N → N ≤ 300 → d.shown.length ≤ sizeLine := fun a b => by rw [sizeLine_eq]; omega
    have R2 := rep_cnts M.small (by omega)
    refine ⟨_, rfl, p1, pdM (mayI ls hs row t n) (mayI ls hs row t (n + 1)) g s0, rfl, dp_pdM eaz, R1.sh, R1.nd, Nat.le_trans R1.dp (by decide), szl R1.ln (by decide), ?_⟩
    refine ⟨_, rfl, p3, pdM (mayI ls hs row t n) (mayI ls hs row t (n + 1)) g s0, rfl, dp_pdM ez, R1.sh, R1.nd, Nat.le_trans R1.dp (by decide), szl R1.ln (by decide), ?_⟩
    refine ⟨rfl, _, rfl, ifT (decide_eq_true rfl) ?_⟩
    have stz := hst.same sHz
    refine ⟨_, rfl, _, rfl, ra, _, rfl, SqL.of (sHz _ _ hra), fun l nl o ho => ?_⟩
    have su := sHz.trans (same_upd (o := .frz o (.tup (row.map V.int))) nl)
    refine ⟨_, rfl, r, l, ls, hs, row, t, rfl, (hst.same su).1, k2, k3, ⟨o, ho, upd_same⟩, M.asks, k4, M.past, M.fine, fun p Hy sy hp => ?_⟩
    rw [M.cnt] at hp
    refine ⟨p, .tuple (ci.map PyData.int), rfl, .tup hp.sq (dpAll_ints ci), R2.sh, R2.nd, Nat.le_trans R2.dp (by decide), szl R2.ln (by decide), ?_⟩
    refine ⟨_, rfl, c, .tuple (ci.map PyData.int), rfl, .tup (k5.same (su.trans sy)).sq (dpAll_ints ci), R2.sh, R2.nd, Nat.le_trans R2.dp (by decide), szl R2.ln (by decide), ?_⟩
    exact ⟨rfl, blE (decide_eq_true rfl) (q Hy (su.trans sy))⟩
end
end G3

set_option linter.all false
/-! The counts as time goes by, and the row of asks that they leave. -/
namespace M3
def rowOf : List Nat → List Int
  | [] => []
  | c :: cs => rowOf cs ++ List.replicate c (cs.length : Int)
def countsOf (m : Nat) (cs : List Nat) : List Int := ((cs.map fun (n : Nat) => (n : Int)) ++ List.replicate m 0).take m
def Polite (ls : List (Int × Int)) (hs : List Int) : List Nat → Prop
  | [] => True
  | c :: cs => Polite ls hs cs ∧ letsI ls hs (cs.length : Nat) (countsOf (memN ls) cs) (c : Nat) = true
theorem row_lt : ∀ (cs : List Nat), ∀ x ∈ rowOf cs, 0 ≤ x ∧ x < (cs.length : Int)
  | [], x, h => by cases h
  | c :: cs, x, h => by
    rw [List.length_cons]
    rcases List.mem_append.mp h with z | z
    · have := row_lt cs x z
      omega
    · have := (List.mem_replicate.mp z).2
      omega
theorem row_len : ∀ (cs : List Nat), (rowOf cs).length = cs.sum
  | [] => rfl
  | c :: cs => by
    show (rowOf cs ++ List.replicate c (cs.length : Int)).length = _
    rw [List.length_append, List.length_replicate, row_len cs, List.sum_cons, Nat.add_comm]
theorem row_sorted : ∀ (cs : List Nat), (rowOf cs).Pairwise (· ≤ ·)
  | [] => List.Pairwise.nil
  | c :: cs => by
    show (rowOf cs ++ List.replicate c (cs.length : Int)).Pairwise (· ≤ ·)
    rw [List.pairwise_append]
    refine ⟨row_sorted cs, List.pairwise_replicate.mpr (.inr (Int.le_refl _)), fun a ha b hb => ?_⟩
    have := row_lt cs a ha
    have := (List.mem_replicate.mp hb).2
    omega
theorem counts_len (m : Nat) (cs : List Nat) : (countsOf m cs).length = m := by
  unfold countsOf
  rw [List.length_take, List.length_append, List.length_replicate]
  omega
theorem led_counts (m : Nat) (cs : List Nat) (n : Nat) : ledI (countsOf m cs) (n : Nat) = countsOf m (n :: cs) := by
  unfold ledI
  rw [counts_len]
  unfold countsOf
  cases m with
  | zero => rfl
  | succ k =>
    rw [List.map_cons, List.cons_append, List.take_succ_cons, List.take_succ_cons, List.take_take, Nat.min_eq_left (Nat.le_succ k)]
theorem sum_cast : ∀ (l : List Nat), (l.map fun (n : Nat) => (n : Int)).sum = ((l.sum : Nat) : Int)
  | [] => rfl
  | a :: r => by
    rw [List.map_cons, List.sum_cons, List.sum_cons, sum_cast r]
    omega
theorem sum_zeros : ∀ (n : Nat), (List.replicate n (0 : Int)).sum = 0
  | 0 => rfl
  | n + 1 => by
    rw [List.replicate_succ, List.sum_cons, sum_zeros n]
    rfl
theorem sum_take (m k : Nat) (cs : List Nat) : (((cs.map fun (n : Nat) => (n : Int)) ++ List.replicate m 0).take k).sum = (((cs.take k).sum : Nat) : Int) := by
  rw [List.take_append, List.sum_append, ← List.map_take, sum_cast, List.take_replicate, sum_zeros]
  omega
theorem spent_counts {ls : List (Int × Int)} {p : Int × Int} (h : p ∈ ls) (cs : List Nat) : spent (countsOf (memN ls) cs) p = (((cs.take (p.2 - 1).toNat).sum : Nat) : Int) := by
  unfold spent countsOf
  have := le_memN h
  rw [List.take_take, Nat.min_eq_left (by omega), sum_take]
theorem none_over {l : List Int} {b : Int} (h : ∀ x ∈ l, x ≤ b) : (l.filter fun x => decide (b < x)) = [] := by
  rw [List.filter_eq_nil_iff]
  intro x hx
  have := h x hx
  simp
  omega
theorem all_over {l : List Int} {b : Int} (h : ∀ x ∈ l, b < x) : (l.filter fun x => decide (b < x)) = l := by
  rw [List.filter_eq_self]
  intro x hx
  have := h x hx
  simp
  omega
theorem cnt_tail : ∀ (cs : List Nat) (k : Nat), ((rowOf cs).filter fun x => decide ((cs.length : Int) - 1 - (k : Nat) < x)).length = (cs.take k).sum
  | [], k => by simp [rowOf]
  | c :: cs, 0 => by
    rw [none_over fun x hx => ?_]
    · rfl
    · have := row_lt (c :: cs) x hx
      omega
  | c :: cs, k + 1 => by
    have ih := cnt_tail cs k
    have e : (((c :: cs).length : Nat) : Int) - 1 - ((k + 1 : Nat) : Int) = (cs.length : Int) - 1 - (k : Nat) := by
      rw [List.length_cons]
      omega
    rw [e]
    show ((rowOf cs ++ List.replicate c (cs.length : Int)).filter _).length = _
    rw [List.filter_append, List.length_append, ih, all_over (l := List.replicate c (cs.length : Int)) fun x hx => ?_, List.length_replicate, List.take_succ_cons, List.sum_cons, Nat.add_comm]
    have := (List.mem_replicate.mp hx).2
    omega
theorem cnt_row (cs : List Nat) {w : Int} (h : 1 ≤ w) : cntI (rowOf cs) (cs.length : Nat) w = (cs.take (w - 1).toNat).sum := by
  unfold cntI
  have e : ((cs.length : Nat) : Int) - w = (cs.length : Int) - 1 - ((w - 1).toNat : Nat) := by omega
  rw [e, cnt_tail]
/-- what is let is what may be asked -/
theorem lets_may {ls : List (Int × Int)} (hl : ∀ p ∈ ls, 1 ≤ p.2) (hs : List Int) (cs : List Nat) {n : Int} (h : 0 ≤ n) : letsI ls hs (cs.length : Nat) (countsOf (memN ls) cs) n = mayI ls hs (rowOf cs) (cs.length : Nat) n := by
  unfold letsI mayI
  by_cases h0 : n = 0
  · subst h0
    have : (ls.all (fineI (rowOf cs) (cs.length : Nat) 0)) = true := by
      rw [List.all_eq_true]
      intro p _
      simp [fineI]
    rw [this]
    simp
  · have h1 : 0 < n := by omega
    rw [decide_eq_false h0, decide_eq_true h1]
    have e : (ls.all fun p => decide (n + spent (countsOf (memN ls) cs) p ≤ p.1)) = ls.all (fineI (rowOf cs) (cs.length : Nat) n) := by
      rw [Bool.eq_iff_iff, List.all_eq_true, List.all_eq_true]
      refine forall_congr' fun p => forall_congr' fun hp => ?_
      have a := spent_counts hp cs
      have b := cnt_row cs (hl p hp)
      unfold fineI
      rw [a, b, decide_eq_true h1]
      simp
      omega
    rw [e]
    cases openI hs (cs.length : Nat) <;> simp
end M3

set_option linter.all false
/-! Polite counts: what is asked is never crowded, and the first ask beyond them is. -/
namespace M3
theorem polite_drop {ls : List (Int × Int)} {hs : List Int} : ∀ {cs : List Nat} (k : Nat), Polite ls hs cs → Polite ls hs (cs.drop k)
  | cs, 0, h => h
  | [], k + 1, h => h
  | c :: cs, k + 1, h => polite_drop k h.1
theorem take_mono (cs : List Nat) {k m : Nat} (h : k ≤ m) : (cs.take k).sum ≤ (cs.take m).sum := by
  have e : cs.take m = cs.take k ++ (cs.drop k).take (m - k) := by
    rw [← List.take_add, Nat.add_sub_cancel' h]
  rw [e, List.sum_append]
  omega
theorem lets_open {ls : List (Int × Int)} {hs ci : List Int} {t n : Int} (h : letsI ls hs t ci n = true) (h0 : n ≠ 0) : openI hs t = true ∧ ∀ p ∈ ls, n + spent ci p ≤ p.1 := by
  unfold letsI at h
  rw [decide_eq_false h0, Bool.false_or, Bool.and_eq_true, List.all_eq_true] at h
  exact ⟨h.1, fun p hp => of_decide_eq_true (h.2 p hp)⟩
theorem polite_sum {ls : List (Int × Int)} {hs : List Int} (hl : ∀ p ∈ ls, 1 ≤ p.1 ∧ 1 ≤ p.2) : ∀ {cs : List Nat}, Polite ls hs cs → ∀ p ∈ ls, (((cs.take p.2.toNat).sum : Nat) : Int) ≤ p.1
  | [], _, p, hp => by
    have := (hl p hp).1
    simp
    omega
  | c :: cs, h, p, hp => by
    have ih := polite_sum hl h.1 p hp
    have hw := (hl p hp).2
    have e : p.2.toNat = (p.2 - 1).toNat + 1 := by omega
    rw [e, List.take_succ_cons, List.sum_cons]
    by_cases hc : c = 0
    · have := take_mono cs (k := (p.2 - 1).toNat) (m := p.2.toNat) (by omega)
      omega
    · have := (lets_open h.2 (by omega)).2 p hp
      rw [spent_counts hp] at this
      omega
theorem counts_fit {ls : List (Int × Int)} {hs : List Int} (hl : ∀ p ∈ ls, 1 ≤ p.1 ∧ 1 ≤ p.2) {cs : List Nat} (h : Polite ls hs cs) (m : Nat) : FitsI ls (countsOf m cs) := by
  intro p hp s
  have e : (countsOf m cs).drop s = (((cs.drop s).map fun (n : Nat) => (n : Int)) ++ List.replicate (m - (s - cs.length)) 0).take (m - s) := by
    unfold countsOf
    rw [List.drop_take, List.drop_append, List.map_drop, List.length_map, List.drop_replicate]
  rw [e, List.take_take]
  have a := sum_take (m - (s - cs.length)) (min p.2.toNat (m - s)) (cs.drop s)
  rw [a]
  have b := polite_sum hl (polite_drop s h) p hp
  have c := take_mono (cs.drop s) (Nat.min_le_left p.2.toNat (m - s))
  omega
theorem counts_nn (m : Nat) (cs : List Nat) : ∀ n ∈ countsOf m cs, 0 ≤ n := by
  intro n hn
  rcases List.mem_append.mp (List.mem_of_mem_take hn) with z | z
  · obtain ⟨k, _, rfl⟩ := List.mem_map.mp z
    omega
  · have := (List.mem_replicate.mp z).2
    omega
theorem counts_small (m B : Nat) (cs : List Nat) (h : ∀ c ∈ cs, c ≤ B) : ∀ n ∈ countsOf m cs, 0 ≤ n ∧ n ≤ (B : Int) := by
  intro n hn
  rcases List.mem_append.mp (List.mem_of_mem_take hn) with z | z
  · obtain ⟨k, hk, rfl⟩ := List.mem_map.mp z
    have := h k hk
    omega
  · have := (List.mem_replicate.mp z).2
    omega
theorem counts_ok {ls : List (Int × Int)} {hs : List Int} (hl : ∀ p ∈ ls, 1 ≤ p.1 ∧ 1 ≤ p.2) {cs : List Nat} (h : Polite ls hs cs) : CountsOk ls (countsOf (memN ls) cs) :=
  ⟨counts_len _ _, counts_nn _ _, counts_fit hl h _⟩
theorem cnt_at : ∀ (cs : List Nat) (i : Nat), (rowOf cs).count ((cs.length : Int) - 1 - (i : Nat)) = cs.getD i 0
  | [], i => by simp [rowOf]
  | c :: cs, 0 => by
    have e : (((c :: cs).length : Nat) : Int) - 1 - ((0 : Nat) : Int) = (cs.length : Int) := by
      rw [List.length_cons]
      omega
    rw [e]
    show (rowOf cs ++ List.replicate c (cs.length : Int)).count _ = c
    rw [List.count_append, List.count_replicate_self, List.count_eq_zero.mpr, Nat.zero_add]
    intro hx
    have := row_lt cs _ hx
    omega
  | c :: cs, j + 1 => by
    have e : (((c :: cs).length : Nat) : Int) - 1 - ((j + 1 : Nat) : Int) = (cs.length : Int) - 1 - (j : Nat) := by
      rw [List.length_cons]
      omega
    rw [e]
    show (rowOf cs ++ List.replicate c (cs.length : Int)).count _ = cs.getD j 0
    rw [List.count_append, cnt_at cs j, List.count_eq_zero.mpr, Nat.add_zero]
    intro hx
    have := (List.mem_replicate.mp hx).2
    omega
theorem counts_row (ls : List (Int × Int)) (cs : List Nat) : countsI ls (rowOf cs) (cs.length : Nat) = countsOf (memN ls) cs := by
  unfold countsI countsOf
  refine List.ext_getElem (by simp) fun i h1 h2 => ?_
  rw [List.getElem_map, List.getElem_range, cnt_at, List.getElem_take, List.getElem_append]
  rw [List.length_map, List.length_range] at h1
  split
  · rename_i h
    rw [List.length_map] at h
    rw [List.getElem_map, List.getD_eq_getElem?_getD, List.getElem?_eq_getElem h]
    rfl
  · rename_i h
    rw [List.length_map] at h
    rw [List.getElem_replicate, List.getD_eq_getElem?_getD, List.getElem?_eq_none (by omega)]
    rfl
theorem sorted_cnt {xs : List Int} (hs : xs.Pairwise (· ≤ ·)) {i : Nat} (hi : i < xs.length) (b : Int) : b < xs[i] ↔ xs.length ≤ i + (xs.filter fun x => decide (b < x)).length := by
  have le : ∀ (j k : Nat) (hj : j < xs.length) (hk : k < xs.length), j ≤ k → xs[j] ≤ xs[k] := fun j k hj hk h => by
    rcases Nat.lt_or_eq_of_le h with a | a
    · exact List.pairwise_iff_getElem.mp hs j k hj hk a
    · subst a
      exact Int.le_refl _
  constructor
  · intro hb
    have e : (xs.filter fun x => decide (b < x)) = (xs.take i).filter (fun x => decide (b < x)) ++ xs.drop i := by
      have z : (xs.drop i).filter (fun x => decide (b < x)) = xs.drop i := all_over fun x hx => by
        obtain ⟨k, hk, rfl⟩ := List.mem_iff_getElem.mp hx
        rw [List.getElem_drop]
        rw [List.length_drop] at hk
        have := le i (i + k) hi (by omega) (by omega)
        omega
      conv => lhs; rw [← List.take_append_drop i xs]
      rw [List.filter_append, z]
    rw [e, List.length_append, List.length_drop]
    omega
  · intro h
    refine Decidable.byContradiction fun hb => ?_
    have e : (xs.filter fun x => decide (b < x)) = (xs.drop (i + 1)).filter (fun x => decide (b < x)) := by
      have z : (xs.take (i + 1)).filter (fun x => decide (b < x)) = [] := none_over fun x hx => by
        obtain ⟨k, hk, rfl⟩ := List.mem_iff_getElem.mp hx
        rw [List.getElem_take]
        rw [List.length_take] at hk
        have := le k i (by omega) hi (by omega)
        omega
      conv => lhs; rw [← List.take_append_drop (i + 1) xs]
      rw [List.filter_append, z, List.nil_append]
    have l := List.length_filter_le (fun x => decide (b < x)) (xs.drop (i + 1))
    rw [List.length_drop] at l
    rw [e] at h
    omega
theorem wrong_at {ls : List (Int × Int)} (hl : ∀ p ∈ ls, 1 ≤ p.1 ∧ 1 ≤ p.2) (hs : List Int) {asks : List Int} {j : Nat} (hj : j < asks.length) (cs : List Nat) (d : Nat) (hp : asks.take (j + 1) = rowOf ((d + 1) :: cs)) :
    wrongI ls hs asks j = !letsI ls hs (cs.length : Nat) (countsOf (memN ls) cs) ((d + 1 : Nat) : Int) := by
  have hB := row_sorted ((d + 1) :: cs)
  have hlen : (rowOf ((d + 1) :: cs)).length = j + 1 := by
    rw [← hp, List.length_take]
    omega
  have hget : ∀ i, i ≤ j → asks.getD i 0 = (rowOf ((d + 1) :: cs)).getD i 0 := fun i hi => by
    rw [← hp, List.getD_eq_getElem?_getD, List.getD_eq_getElem?_getD, List.getElem?_take, if_pos (by omega)]
  have hrow : rowOf ((d + 1) :: cs) = rowOf cs ++ List.replicate (d + 1) (cs.length : Int) := rfl
  have hlast : asks.getD j 0 = (cs.length : Int) := by
    rw [hget j (Nat.le_refl _)]
    rw [hrow, List.length_append, List.length_replicate] at hlen
    rw [hrow, List.getD_eq_getElem?_getD, List.getElem?_append_right (by omega), List.getElem?_replicate, if_pos (by omega)]
    rfl
  have hsoon : ∀ p ∈ ls, tooSoon asks j p = decide (p.1 < ((d + 1 : Nat) : Int) + spent (countsOf (memN ls) cs) p) := fun p hpl => by
    obtain ⟨k1, w1⟩ := hl p hpl
    have hc : ((rowOf ((d + 1) :: cs)).filter fun x => decide ((cs.length : Int) - p.2 < x)).length = (cs.take (p.2 - 1).toNat).sum + (d + 1) := by
      have a := cnt_row cs w1
      unfold cntI at a
      rw [hrow, List.filter_append, List.length_append, a, all_over (l := List.replicate (d + 1) (cs.length : Int)) fun x hx => ?_, List.length_replicate]
      have := (List.mem_replicate.mp hx).2
      omega
    rw [spent_counts hpl]
    unfold tooSoon
    rw [hlast]
    by_cases hk : p.1 ≤ (j : Int)
    · have hi : j - p.1.toNat < (rowOf ((d + 1) :: cs)).length := by omega
      have a := sorted_cnt hB hi ((cs.length : Int) - p.2)
      rw [hc, hlen] at a
      have g : asks.getD (j - p.1.toNat) 0 = (rowOf ((d + 1) :: cs))[j - p.1.toNat] := by
        rw [hget _ (by omega), List.getD_eq_getElem?_getD, List.getElem?_eq_getElem hi]
        rfl
      rw [decide_eq_true hk, Bool.true_and, g]
      refine decide_eq_decide.mpr ?_
      constructor
      · intro z
        have := a.mp (by omega)
        omega
      · intro z
        have := a.mpr (by omega)
        omega
    · rw [decide_eq_false hk, Bool.false_and]
      symm
      refine decide_eq_false fun z => ?_
      have l := List.length_filter_le (fun x => decide ((cs.length : Int) - p.2 < x)) (rowOf ((d + 1) :: cs))
      omega
  unfold wrongI crowdI letsI
  rw [hlast, decide_eq_false (by omega : ¬((d + 1 : Nat) : Int) = 0), Bool.false_or]
  have e : ls.any (tooSoon asks j) = !(ls.all fun p => decide (((d + 1 : Nat) : Int) + spent (countsOf (memN ls) cs) p ≤ p.1)) := by
    rw [Bool.eq_iff_iff, List.any_eq_true, Bool.not_eq_true', ← Bool.not_eq_true, List.all_eq_true]
    constructor
    · rintro ⟨p, hpl, h⟩ z
      rw [hsoon p hpl] at h
      have a := of_decide_eq_true h
      have b := of_decide_eq_true (z p hpl)
      omega
    · intro z
      refine Decidable.byContradiction fun hn => z fun p hpl => decide_eq_true ?_
      refine Decidable.byContradiction fun q => hn ⟨p, hpl, ?_⟩
      rw [hsoon p hpl]
      exact decide_eq_true (by omega)
  rw [e]
  cases openI hs (cs.length : Nat) <;> simp
end M3

set_option Elab.async false
set_option linter.all false
set_option maxRecDepth 100000
set_option maxHeartbeats 4000000
/-! Polite counts: the first wrong ask, the most, the wait. -/
namespace M3
theorem lets_zero (ls : List (Int × Int)) (hs ci : List Int) (t : Int) : letsI ls hs t ci 0 = true := rfl
theorem lets_of {ls : List (Int × Int)} {hs ci : List Int} {t n : Int} (ho : openI hs t = true) (h : ∀ p ∈ ls, n + spent ci p ≤ p.1) : letsI ls hs t ci n = true := by
  unfold letsI
  rw [ho, List.all_eq_true.mpr fun p hp => decide_eq_true (h p hp)]
  simp
theorem lets_mono {ls : List (Int × Int)} {hs ci : List Int} {t n k : Int} (h : letsI ls hs t ci n = true) (h0 : 0 ≤ k) (h1 : k ≤ n) : letsI ls hs t ci k = true := by
  by_cases z : n = 0
  · obtain rfl : k = 0 := by omega
    rfl
  · obtain ⟨a, b⟩ := lets_open h z
    exact lets_of a fun p hp => by have := b p hp; omega
theorem fine_row {ls : List (Int × Int)} {hs : List Int} (hl : ∀ p ∈ ls, 1 ≤ p.1 ∧ 1 ≤ p.2) : ∀ {cs : List Nat}, Polite ls hs cs → ∀ (rest : List Int) (j : Nat), j < (rowOf cs).length → wrongI ls hs (rowOf cs ++ rest) j = false
  | [], _, rest, j, hj => absurd hj (Nat.not_lt_zero _)
  | c :: cs, h, rest, j, hj => by
    have e : rowOf (c :: cs) ++ rest = rowOf cs ++ (List.replicate c (cs.length : Int) ++ rest) := List.append_assoc _ _ _
    have hlen : (rowOf (c :: cs)).length = (rowOf cs).length + c := by
      show (rowOf cs ++ List.replicate c (cs.length : Int)).length = _
      rw [List.length_append, List.length_replicate]
    rw [e]
    by_cases a : j < (rowOf cs).length
    · exact fine_row hl h.1 _ j a
    · obtain ⟨d, rfl⟩ : ∃ d, j = (rowOf cs).length + d := ⟨j - (rowOf cs).length, by omega⟩
      have hd : d < c := by omega
      have hp : (rowOf cs ++ (List.replicate c (cs.length : Int) ++ rest)).take ((rowOf cs).length + d + 1) = rowOf ((d + 1) :: cs) := by
        show _ = rowOf cs ++ List.replicate (d + 1) (cs.length : Int)
        rw [Nat.add_assoc, List.take_length_add_append, List.take_append_of_le_length (by rw [List.length_replicate]; omega), List.take_replicate, Nat.min_eq_left (by omega)]
      rw [wrong_at hl hs (by rw [List.length_append, List.length_append, List.length_replicate]; omega) cs d hp, lets_mono h.2 (by omega) (by omega)]
      rfl
theorem fine_all {ls : List (Int × Int)} {hs : List Int} (hl : ∀ p ∈ ls, 1 ≤ p.1 ∧ 1 ≤ p.2) {cs : List Nat} (h : Polite ls hs cs) (j : Nat) (hj : j < (rowOf cs).length) : wrongI ls hs (rowOf cs) j = false := by
  have := fine_row hl h [] j hj
  rwa [List.append_nil] at this
/-- the first wrong ask, when n are asked and g are let -/
theorem first_row {ls : List (Int × Int)} {hs : List Int} (hl : ∀ p ∈ ls, 1 ≤ p.1 ∧ 1 ≤ p.2) {cs : List Nat} (h : Polite ls hs cs) {n g : Nat} (hg : g < n) (h1 : letsI ls hs (cs.length : Nat) (countsOf (memN ls) cs) (g : Nat) = true)
    (h2 : letsI ls hs (cs.length : Nat) (countsOf (memN ls) cs) ((g + 1 : Nat) : Int) = false) :
    FirstAt (wrongI ls hs (rowOf cs ++ List.replicate n (cs.length : Int))) (rowOf cs ++ List.replicate n (cs.length : Int)).length (some ((rowOf cs).length + g)) := by
  have hp : (rowOf cs ++ List.replicate n (cs.length : Int)).take ((rowOf cs).length + g + 1) = rowOf ((g + 1) :: cs) := by
    show _ = rowOf cs ++ List.replicate (g + 1) (cs.length : Int)
    rw [Nat.add_assoc, List.take_length_add_append, List.take_replicate, Nat.min_eq_left (by omega)]
  have hlt : (rowOf cs).length + g < (rowOf cs ++ List.replicate n (cs.length : Int)).length := by
    rw [List.length_append, List.length_replicate]
    omega
  refine ⟨hlt, ?_, fun j hj => ?_⟩
  · rw [wrong_at hl hs hlt cs g hp, h2]
    rfl
  · have hP : Polite ls hs (g :: cs) := ⟨h, h1⟩
    have e : rowOf cs ++ List.replicate n (cs.length : Int) = rowOf (g :: cs) ++ List.replicate (n - g) (cs.length : Int) := by
      show _ = rowOf cs ++ List.replicate g (cs.length : Int) ++ _
      rw [List.append_assoc, ← List.replicate_append_replicate.symm, Nat.add_sub_cancel' (by omega)]
    rw [e]
    refine fine_row hl hP _ j ?_
    show j < (rowOf cs ++ List.replicate g (cs.length : Int)).length
    rw [List.length_append, List.length_replicate]
    exact hj
theorem min_ex : ∀ (l : List Int), l ≠ [] → ∃ m, m ∈ l ∧ ∀ y ∈ l, m ≤ y
  | [], h => absurd rfl h
  | [a], _ => ⟨a, List.mem_cons_self, fun y hy => by rw [List.mem_singleton.mp hy]; exact Int.le_refl _⟩
  | a :: b :: r, _ => by
    obtain ⟨m, h1, h2⟩ := min_ex (b :: r) (by simp)
    by_cases z : a ≤ m
    · refine ⟨a, List.mem_cons_self, fun y hy => ?_⟩
      rcases List.mem_cons.mp hy with e | e
      · omega
      · have := h2 y e
        omega
    · refine ⟨m, List.mem_cons_of_mem _ h1, fun y hy => ?_⟩
      rcases List.mem_cons.mp hy with e | e
      · omega
      · exact h2 y e
structure TopOk (ls : List (Int × Int)) (hs : List Int) (cs : List Nat) (g : Option Nat) : Prop where
  top : TopAt ls hs (rowOf cs) (cs.length : Nat) g
  shut : openI hs (cs.length : Nat) = false → g = some 0
  free : openI hs (cs.length : Nat) = true → ls = [] → g = none
  least : openI hs (cs.length : Nat) = true → ∀ m, m ∈ ls.map (fun p => p.1 - spent (countsOf (memN ls) cs) p) → (∀ y, y ∈ ls.map (fun p => p.1 - spent (countsOf (memN ls) cs) p) → m ≤ y) → ∃ k : Nat, g = some k ∧ m = (k : Int)
  next : ∀ k, g = some k → letsI ls hs (cs.length : Nat) (countsOf (memN ls) cs) (k : Nat) = true ∧ letsI ls hs (cs.length : Nat) (countsOf (memN ls) cs) ((k + 1 : Nat) : Int) = false
theorem top_ex {ls : List (Int × Int)} {hs : List Int} (hl : ∀ p ∈ ls, 1 ≤ p.1 ∧ p.1 ≤ 6 ∧ 1 ≤ p.2) {cs : List Nat} (h : Polite ls hs cs) : ∃ g, TopOk ls hs cs g := by
  have hl2 : ∀ p ∈ ls, 1 ≤ p.1 ∧ 1 ≤ p.2 := fun p hp => ⟨(hl p hp).1, (hl p hp).2.2⟩
  have hm : ∀ k : Nat, mayI ls hs (rowOf cs) (cs.length : Nat) (k : Nat) = letsI ls hs (cs.length : Nat) (countsOf (memN ls) cs) (k : Nat) := fun k => (lets_may (fun p hp => (hl p hp).2.2) hs cs (by omega)).symm
  cases ho : openI hs (cs.length : Nat) with
  | false =>
    refine ⟨some 0, ⟨fun z => ?_, by decide, ?_, fun k _ hk => ?_⟩, fun _ => rfl, fun z => ?_, fun z => ?_, fun k hk => ?_⟩
    · rw [ho] at z
      cases z.2
    · rw [hm]
      rfl
    · rw [hm] at hk
      refine Decidable.byContradiction fun z => ?_
      have := (lets_open hk (by omega)).1
      rw [ho] at this
      cases this
    · exact absurd (ho.symm.trans z) (by decide)
    · exact absurd (ho.symm.trans z) (by decide)
    · obtain rfl : 0 = k := Option.some.inj hk
      refine ⟨rfl, ?_⟩
      cases e : letsI ls hs (cs.length : Nat) (countsOf (memN ls) cs) ((0 + 1 : Nat) : Int) with
      | false => rfl
      | true =>
        have := (lets_open e (by decide)).1
        rw [ho] at this
        cases this
  | true =>
    by_cases hn : ls = []
    · subst hn
      exact ⟨none, ⟨rfl, ho⟩, fun z => absurd (ho.symm.trans z) (by decide), fun _ _ => rfl, fun _ m hm => (by cases hm), fun k z => (by cases z)⟩
    · obtain ⟨m, hm1, hm2⟩ := min_ex (ls.map fun p => p.1 - spent (countsOf (memN ls) cs) p) (by simpa using hn)
      obtain ⟨p0, hp0, e0⟩ := List.mem_map.mp hm1
      have low : ∀ p ∈ ls, m ≤ p.1 - spent (countsOf (memN ls) cs) p := fun p hp => hm2 _ (List.mem_map.mpr ⟨p, hp, rfl⟩)
      have s0 : 0 ≤ spent (countsOf (memN ls) cs) p0 := by
        rw [spent_counts hp0]
        omega
      have m0 : 0 ≤ m := by
        have a := polite_sum hl2 h p0 hp0
        have b := take_mono cs (k := (p0.2 - 1).toNat) (m := p0.2.toNat) (by omega)
        rw [spent_counts hp0] at e0
        omega
      have m6 : m ≤ 6 := by
        have := (hl p0 hp0).2.1
        omega
      obtain ⟨g, rfl⟩ := Int.eq_ofNat_of_zero_le m0
      have yes : ∀ k : Nat, k ≤ g → letsI ls hs (cs.length : Nat) (countsOf (memN ls) cs) (k : Nat) = true := fun k hk => lets_of ho fun p hp => by
        have := low p hp
        omega
      have no : ∀ k : Nat, letsI ls hs (cs.length : Nat) (countsOf (memN ls) cs) (k : Nat) = true → k ≤ g := fun k hk => by
        by_cases z : k = 0
        · omega
        · have := (lets_open hk (by omega)).2 p0 hp0
          omega
      refine ⟨some g, ⟨fun z => hn z.1, by omega, by rw [hm]; exact yes g (Nat.le_refl _), fun k _ hk => no k (by rw [hm] at hk; exact hk)⟩, fun z => absurd (ho.symm.trans z) (by decide), fun _ z => absurd z hn, fun _ m' a b => ⟨g, rfl, ?_⟩, fun k hk => ?_⟩
      · have x := b _ hm1
        have y := hm2 _ a
        omega
      · obtain rfl : g = k := Option.some.inj hk
        refine ⟨yes g (Nat.le_refl _), ?_⟩
        cases e : letsI ls hs (cs.length : Nat) (countsOf (memN ls) cs) ((g + 1 : Nat) : Int) with
        | false => rfl
        | true =>
          have := no _ e
          omega
theorem first_of {p : Nat → Bool} : ∀ (n : Nat), (∃ s, s < n ∧ p s = true) → ∃ s, s < n ∧ p s = true ∧ ∀ k, k < s → p k = false
  | 0, ⟨s, h, _⟩ => absurd h (Nat.not_lt_zero _)
  | n + 1, ⟨s, h, hp⟩ => by
    by_cases z : ∃ s, s < n ∧ p s = true
    · obtain ⟨s', h1, h2, h3⟩ := first_of n z
      exact ⟨s', by omega, h2, h3⟩
    · have e : s = n := by
        refine Decidable.byContradiction fun q => z ⟨s, by omega, hp⟩
      refine ⟨s, h, hp, fun k hk => ?_⟩
      cases q : p k with
      | false => rfl
      | true => exact absurd ⟨k, by omega, q⟩ z
theorem row_zeros (cs : List Nat) : ∀ s, rowOf (List.replicate s 0 ++ cs) = rowOf cs
  | 0 => rfl
  | s + 1 => by
    show rowOf (List.replicate s 0 ++ cs) ++ List.replicate 0 _ = rowOf cs
    rw [row_zeros cs s]
    exact List.append_nil _
theorem led_zeros (m : Nat) (cs : List Nat) : ∀ s, ledN (countsOf m cs) s = countsOf m (List.replicate s 0 ++ cs)
  | 0 => rfl
  | s + 1 => by
    show ledI (ledN (countsOf m cs) s) 0 = _
    rw [led_zeros m cs s]
    exact led_counts m _ 0
theorem len_zeros (cs : List Nat) (s : Nat) : (((List.replicate s 0 ++ cs).length : Nat) : Int) = (cs.length : Int) + (s : Nat) := by
  rw [List.length_append, List.length_replicate]
  omega
theorem take_zeros (cs : List Nat) {k s : Nat} (h : k ≤ s) : ((List.replicate s 0 ++ cs).take k).sum = 0 := by
  rw [List.take_append_of_le_length (by rw [List.length_replicate]; exact h), List.take_replicate]
  generalize min k s = n
  induction n with
  | zero => rfl
  | succ n ih => rw [List.replicate_succ, List.sum_cons, ih]
theorem open_ex {hs : List Int} (h1 : (1 : Int) ∈ hs) (t : Int) : ∃ r, r < hs.length ∧ openI hs (t + (r : Nat)) = true := by
  obtain ⟨j, hj, e⟩ := List.mem_iff_getElem.mp h1
  have hp : (0 : Int) < (hs.length : Int) := by omega
  have a := Int.emod_nonneg ((j : Int) - t) (Int.ne_of_gt hp)
  have b := Int.emod_lt_of_pos ((j : Int) - t) hp
  refine ⟨(((j : Int) - t) % (hs.length : Int)).toNat, by omega, ?_⟩
  unfold openI
  have c : (t + ((((j : Int) - t) % (hs.length : Int)).toNat : Nat)) % (hs.length : Int) = (j : Int) := by
    rw [Int.toNat_of_nonneg a, Int.add_emod, Int.emod_emod, ← Int.add_emod]
    have : t + ((j : Int) - t) = (j : Int) := by omega
    rw [this]
    exact Int.emod_eq_of_lt (by omega) (by omega)
  rw [c, Int.toNat_natCast, List.getD_eq_getElem?_getD, List.getElem?_eq_getElem hj, e]
  rfl
theorem wait_ex {ls : List (Int × Int)} {hs : List Int} (hl : ∀ p ∈ ls, 1 ≤ p.1 ∧ 1 ≤ p.2) (h1 : (1 : Int) ∈ hs) (hb : memN ls + hs.length ≤ 200) (cs : List Nat) : ∃ s, s < 200 ∧ letsI ls hs ((cs.length : Nat) + (s : Nat)) (ledN (countsOf (memN ls) cs) s) 1 = true ∧
    ∀ k, k < s → letsI ls hs ((cs.length : Nat) + (k : Nat)) (ledN (countsOf (memN ls) cs) k) 1 = false := by
  refine first_of (p := fun s => letsI ls hs ((cs.length : Nat) + (s : Nat)) (ledN (countsOf (memN ls) cs) s) 1) 200 ?_
  obtain ⟨r, hr, ho⟩ := open_ex h1 ((cs.length : Int) + (memN ls : Nat))
  refine ⟨memN ls + r, by omega, ?_⟩
  have e : ((cs.length : Nat) : Int) + ((memN ls + r : Nat) : Int) = (cs.length : Int) + (memN ls : Nat) + (r : Nat) := by omega
  refine lets_of (by rw [e]; exact ho) fun p hp => ?_
  rw [led_zeros, spent_counts hp, take_zeros cs (by have := le_memN hp; omega)]
  have := (hl p hp).1
  omega
theorem wait_may {ls : List (Int × Int)} (hl : ∀ p ∈ ls, 1 ≤ p.1 ∧ 1 ≤ p.2) (hs : List Int) (cs : List Nat) (s : Nat) : letsI ls hs ((cs.length : Nat) + (s : Nat)) (ledN (countsOf (memN ls) cs) s) 1 = mayI ls hs (rowOf cs) ((cs.length : Nat) + (s : Nat)) 1 := by
  have := lets_may (fun p hp => (hl p hp).2) hs (List.replicate s 0 ++ cs) (n := 1) (by decide)
  rw [len_zeros, row_zeros, ← led_zeros] at this
  exact this
end M3

set_option Elab.async false
set_option linter.all false
set_option maxRecDepth 100000
set_option maxHeartbeats 4000000
/-! A polite row: all that a moment asks for. -/
namespace G3
open PySem PySem.Spec PyProof.Rows L2 M3
theorem sum_le {B : Nat} : ∀ {cs : List Nat}, (∀ c ∈ cs, c ≤ B) → cs.sum ≤ cs.length * B
  | [], _ => Nat.zero_le _
  | c :: cs, h => by
    have ih := sum_le (cs := cs) fun x hx => h x (List.mem_cons_of_mem _ hx)
    have := h c List.mem_cons_self
    rw [List.sum_cons, List.length_cons, Nat.succ_mul]
    omega
theorem asks_row {cs : List Nat} (h : cs.sum ≤ 200) : AsksOk (rowOf cs) := by
  refine ⟨by rw [row_len]; exact h, fun m hm => (row_lt cs m hm).1, fun i h0 hi => ?_⟩
  have a := List.pairwise_iff_getElem.mp (row_sorted cs) (i - 1) i (by omega) hi (by omega)
  rw [List.getD_eq_getElem?_getD, List.getD_eq_getElem?_getD, List.getElem?_eq_getElem hi, List.getElem?_eq_getElem (by omega : i - 1 < (rowOf cs).length)]
  exact a
theorem LimOk.lo {ls : List (Int × Int)} (h : LimOk ls) : ∀ p ∈ ls, 1 ≤ p.1 ∧ 1 ≤ p.2 := fun p hp => ⟨(h.each p hp).1, (h.each p hp).2.2.1⟩
theorem LimOk.mid {ls : List (Int × Int)} (h : LimOk ls) : ∀ p ∈ ls, 1 ≤ p.1 ∧ p.1 ≤ 6 ∧ 1 ≤ p.2 := fun p hp => ⟨(h.each p hp).1, (h.each p hp).2.1, (h.each p hp).2.2.1⟩
theorem moment_ok {ls : List (Int × Int)} {hs : List Int} {cs : List Nat} (hl : LimOk ls) (hh : HrsOk hs) (hp : Polite ls hs cs) (hc : ∀ c ∈ cs, c ≤ 7) (hlen : cs.length ≤ 14) {n : Nat} (hn : n ≤ 7) {g : Option Nat} (hg : TopOk ls hs cs g) :
    ∃ s0, MomentOk ls hs (rowOf cs) (countsOf (memN ls) cs) (cs.length : Nat) (n : Nat) g s0 := by
  have hm := mem_few hl
  have hf := hh.few
  have hs7 := sum_le hc
  obtain ⟨s0, w0, w1, w2⟩ := wait_ex hl.lo hh.has (by omega) cs
  have lo2 : ∀ p ∈ ls, 1 ≤ p.2 := fun p hp => (hl.lo p hp).2
  refine ⟨s0, ⟨by omega, by omega, by rw [row_len]; omega, asks_row (by omega), fun m hm => (row_lt cs m hm).2, fine_all hl.lo hp, counts_row ls cs, fun k hk => ?_, lets_may lo2 hs cs (by omega), lets_may lo2 hs cs (by omega), hg.top, fun z => ?_, fun z1 z2 => ?_, fun z m h1 h2 => ?_, w0, w1, w2, ?_, fun k hk => ?_⟩⟩
  · have := counts_small (memN ls) 7 cs hc k hk
    omega
  · rw [hg.shut z]
    rfl
  · rw [hg.free z1 z2]
    rfl
  · obtain ⟨k, e1, e2⟩ := hg.least z m h1 h2
    rw [e1, e2]
    rfl
  · rw [← wait_may hl.lo]
    exact w1
  · rw [← wait_may hl.lo]
    exact w2 k hk
theorem span_of {ls : List (Int × Int)} {m : Int} (h : m ∈ ls.map (·.2) ++ [1]) (hle : ∀ y, y ∈ ls.map (·.2) ++ [1] → y ≤ m) : m - 1 = (memN ls : Int) := by
  have h1 : 1 ≤ m := hle 1 (List.mem_append_right _ List.mem_cons_self)
  rcases List.mem_append.mp h with z | z
  · exact memN_max z (fun y hy => hle y (List.mem_append_left _ hy)) h1
  · obtain rfl := List.mem_singleton.mp z
    have := memN_le (ls := ls) (n := 1) (fun p hp => hle p.2 (List.mem_append_left _ (List.mem_map.mpr ⟨p, hp, rfl⟩))) (Nat.le_refl _)
    omega
end G3

set_option Elab.async false
set_option linter.all false
set_option maxRecDepth 100000
set_option maxHeartbeats 4000000
/-! The law is right at every moment of a well. -/
namespace G3
open PySem PySem.Spec PyProof.Rows L2 M3
theorem TupAt.updL {H : Hp} {D b : Addr} {zs xs : List V} {o : HO} (hD : H D = some (.lst zs)) (h : TupAt H b xs) : TupAt (upd H D o) b xs := by
  rcases h with h | ⟨ob, d, h⟩
  · exact .inl (by rw [upd_ne (ne_of h hD fun z => nomatch z)]; exact h)
  · exact .inr ⟨ob, d, by rw [upd_ne (ne_of h hD fun z => nomatch z)]; exact h⟩
theorem LimAt.updL {H : Hp} {D b : Addr} {zs : List V} {ls : List (Int × Int)} {o : HO} (hD : H D = some (.lst zs)) (h : LimAt H b ls) : LimAt (upd H D o) b ls := by
  obtain ⟨as, h1, h2⟩ := h
  exact ⟨as, h1.updL hD, h2.updL hD⟩
structure LoopAt (H : Hp) (a r la ha ra c : Addr) (ls : List (Int × Int)) (hs : List Int) (cs : List Nat) : Prop where
  well : WellAt H a
  rule : TupAt H r [.ref la, .ref ha]
  lim : LimAt H la ls
  hrs : TupAt H ha (hs.map V.int)
  row : H ra = some (.lst ((rowOf cs).map V.int))
  cnt : TupAt H c ((countsOf (memN ls) cs).map V.int)
  ne : ra ≠ a
theorem LoopAt.same {H H' : Hp} {a r la ha ra c : Addr} {ls : List (Int × Int)} {hs : List Int} {cs : List Nat} (e : Same H H') (h : LoopAt H a r la ha ra c ls hs cs) : LoopAt H' a r la ha ra c ls hs cs :=
  ⟨h.well.same e, h.rule.same e, h.lim.same e, h.hrs.same e, e _ _ h.row, h.cnt.same e, h.ne⟩
theorem LoopAt.but {H H' : Hp} {a r la ha ra c : Addr} {ls : List (Int × Int)} {hs : List Int} {cs : List Nat} (e : But a H H') (w : WellAt H' a) (h : LoopAt H a r la ha ra c ls hs cs) : LoopAt H' a r la ha ra c ls hs cs :=
  ⟨w, h.rule.but h.well e, h.lim.but h.well e, h.hrs.but h.well e, e _ _ h.ne h.row, h.cnt.but h.well e, h.ne⟩
theorem LoopAt.ruleAt {H : Hp} {a r la ha ra c : Addr} {ls : List (Int × Int)} {hs : List Int} {cs : List Nat} (h : LoopAt H a r la ha ra c ls hs cs) : RuleAt H r ls hs := ⟨la, ha, h.rule, h.lim, h.hrs⟩
theorem LoopAt.may {H : Hp} {a r la ha ra c : Addr} {ls : List (Int × Int)} {hs : List Int} {cs : List Nat} (h : LoopAt H a r la ha ra c ls hs cs) (h1 : LimOk ls) (h2 : HrsOk hs) (h3 : cs.sum ≤ 200) : MayAt H la ha ra ls hs (rowOf cs) :=
  ⟨h.lim, h1, h.hrs, h2, h.row, by rw [row_len]; omega⟩
theorem LoopAt.state {H : Hp} {a r la ha ra c : Addr} {ls : List (Int × Int)} {hs : List Int} {cs : List Nat} (h : LoopAt H a r la ha ra c ls hs cs) (h1 : LimOk ls) (h2 : HrsOk hs) (h3 : Polite ls hs cs) : StateAt H r c ls hs (countsOf (memN ls) cs) (cs.length : Nat) :=
  ⟨h.ruleAt, h1, h2, by omega, h.cnt, counts_ok h1.lo h3⟩
section
variable {P : Program} {w : World} {K : PySem.W.Frag} {mg : Str → Option Value} {base : Heap}
def tSome : TE := tIf (tTest (tOp (fun x y H Q => y = V.non ∧ Q (V.bl (decide (x = V.non))) H) (tVar 8) (tC V.non)))
  (tLst (tCons (tC (V.int 0)) (tCons (tC (V.int 0)) (tCons (tC (V.int 1)) (tCons (tC (V.int 2)) (tCons (tC (V.int 4)) tNil))))))
  (tLst (tCons (tC (V.int 0)) (tCons (tC (V.int 0)) (tCons (tC (V.int 1)) (tCons (tVar 8) (tCons (tVar 8) (tCons (tOp (rI0 fun i j => V.int (i + j)) (tVar 8) (tC (V.int 1))) (tCons (tC (V.int 2)) tNil))))))))
theorem rd_some {σ : L2.St} {H : Hp} {Q : VK} {g : Option Nat} (h8 : σ[8]? = some (some (optV g))) (hg : ∀ k, g = some k → k ≤ 6)
    (q : ∀ l xs, H l = none → (∀ v ∈ xs, ∃ n : Nat, n ≤ 7 ∧ v = V.int (n : Nat)) → 0 < xs.length → xs.length < 1000 → Q (.ref l) (upd H l (.lst xs))) : tSome σ H Q := by
  cases g with
  | none =>
    refine ⟨_, h8, rfl, _, rfl, ifT (decide_eq_true rfl) ⟨by rw [sizeLine_eq]; show 5 ≤ 16777216; omega, fun l nl => q l _ nl (fun v hv => ?_) (by decide) (by decide)⟩⟩
    simp only [List.mem_cons, List.not_mem_nil, or_false] at hv
    rcases hv with h | h | h | h | h <;> subst h
    · exact ⟨0, by decide, rfl⟩
    · exact ⟨0, by decide, rfl⟩
    · exact ⟨1, by decide, rfl⟩
    · exact ⟨2, by decide, rfl⟩
    · exact ⟨4, by decide, rfl⟩
  | some k =>
    have hk := hg k rfl
    refine ⟨_, h8, rfl, _, rfl, ifF (decide_eq_false (fun z => by cases z)) ⟨_, h8, _, h8, _, h8, _, _, rfl, rfl, by rw [sizeLine_eq]; show 7 ≤ 16777216; omega, fun l nl => q l _ nl (fun v hv => ?_) (by show 0 < 7; decide) (by show 7 < 1000; decide)⟩⟩
    simp only [List.mem_cons, List.not_mem_nil, or_false] at hv
    rcases hv with h | h | h | h | h | h | h <;> subst h
    · exact ⟨0, by decide, rfl⟩
    · exact ⟨0, by decide, rfl⟩
    · exact ⟨1, by decide, rfl⟩
    · exact ⟨k, by omega, rfl⟩
    · exact ⟨k, by omega, rfl⟩
    · exact ⟨k + 1, by omega, rfl⟩
    · exact ⟨2, by decide, rfl⟩
def tTail (K : PySem.W.Frag) : TS := tSeq (tDrop (tBM K "list" rExtend (tVar 4) (tCons (tOp rRep (tLst (tCons (tVar 7) tNil)) (tVar 9)) tNil)))
  (tSeq (tAsg (tSl (fun x lo hi H Q => ∃ a xs, x = V.ref a ∧ TupAt H a xs ∧ ∀ (p : Addr) (H' : Hp), Same H H' → TupAt H' p (cutV xs lo hi) → Q (V.ref p) H') (tOp (rCatT K) (tTup (tCons (tVar 9) tNil)) (tVar 6)) tNoPart (tPart (tVar 5))) (gName 6))
    (tIfS (tTest (tOp rNe (tCB (rReprD K) (tCons (tVar 10) tNil)) (tCB (rReprD K) (tCons (tVar 6) tNil)))) (tRet (tC (V.bl false))) tNext))
theorem row_cons (cs : List Nat) (n : Nat) : (rowOf (n :: cs)).map V.int = (rowOf cs).map V.int ++ (List.replicate ((n : Nat) : Int).toNat [V.int (cs.length : Nat)]).flatten := by
  show (rowOf cs ++ List.replicate n (cs.length : Int)).map V.int = _
  rw [Int.toNat_natCast, List.flatten_replicate_singleton, List.map_append, List.map_replicate]
theorem rd_cat {K : PySem.W.Frag} {H : Hp} {z c : Addr} {xs ys : List V} {Q : VK} (h1 : TupAt H z xs) (h2 : TupAt H c ys) (hne : xs ≠ []) (hz : xs.length + ys.length ≤ sizeLine)
    (q : ∀ p H', Same H H' → TupAt H' p (xs ++ ys) → Q (.ref p) H') : rCatT K (.ref z) (.ref c) H Q :=
  ⟨z, c, xs, ys, rfl, rfl, h1.sq, h2.sq, hne, hz, fun e => q z H (Same.refl H) (by rw [e, List.append_nil]; exact h1), fun _ p np => q p _ (same_upd np) (.inl upd_same)⟩
theorem rd_tail {K : PySem.W.Frag} {H H0 : Hp} {D : Ends} {a r la ha ra c p : Addr} {ls : List (Int × Int)} {hs : List Int} {cs : List Nat} {n : Nat} {v8 v11 v12 v13 : Option V} (L : LoopAt H a r la ha ra c ls hs cs) (hl : LimOk ls)
    (hn : n ≤ 7) (hc : ∀ x ∈ cs, x ≤ 7) (hlen : cs.length ≤ 13) (hp : TupAt H p ((countsOf (memN ls) (n :: cs)).map V.int)) (b : But a H0 H) (n0 : H0 ra = none)
    (q : ∀ c' H', But a H0 H' → LoopAt H' a r la ha ra c' ls hs (n :: cs) → D.nx [some (.ref a), some (.ref la), some (.ref ha), some (.ref r), some (.ref ra), some (.int (memN ls : Nat)), some (.ref c'), some (.int (cs.length : Nat)), v8, some (.int (n : Nat)), some (.ref p), v11, v12, v13] H') :
    tTail K D [some (.ref a), some (.ref la), some (.ref ha), some (.ref r), some (.ref ra), some (.int (memN ls : Nat)), some (.ref c), some (.int (cs.length : Nat)), v8, some (.int (n : Nat)), some (.ref p), v11, v12, v13] H := by
  have hs7 := sum_le hc
  have hrl := row_len cs
  have hm6 := mem_few hl
  refine ⟨_, rfl, .inl ⟨rfl, _, SqL.of L.row⟩, ?_⟩
  refine ⟨_, rfl, by rw [sizeLine_eq]; show 1 ≤ 16777216; omega, fun l1 nl1 => ⟨_, rfl, l1, (n : Nat), _, rfl, rfl, upd_same, by omega, by omega, by rw [sizeLine_eq]; show 1 * ((n : Nat) : Int).toNat ≤ 16777216; omega, fun l2 nl2 => ?_⟩⟩
  have s1 := (same_upd (o := .lst [.int (cs.length : Nat)]) nl1).trans (same_upd (o := .lst (List.replicate ((n : Nat) : Int).toNat [V.int (cs.length : Nat)]).flatten) nl2)
  have e2 : (upd (upd H l1 (.lst [.int (cs.length : Nat)])) l2 (.lst (List.replicate ((n : Nat) : Int).toNat [V.int (cs.length : Nat)]).flatten)) l2 = some (.lst (List.replicate ((n : Nat) : Int).toNat [V.int (cs.length : Nat)]).flatten) := upd_same
  generalize upd (upd H l1 (.lst [.int (cs.length : Nat)])) l2 (.lst (List.replicate ((n : Nat) : Int).toNat [V.int (cs.length : Nat)]).flatten) = H2 at s1 e2
  have L2 := L.same s1
  have hp2 := hp.same s1
  have b2 : But a H0 H2 := b.trans (But.of s1)
  refine ⟨ra, l2, _, _, rfl, rfl, L2.row, e2, ?_, ?_⟩
  · rw [List.length_map, sizeLine_eq, Int.toNat_natCast, List.flatten_replicate_singleton, List.length_replicate]
    omega
  rw [← row_cons]
  have b3 : But a H0 (upd H2 ra (.lst ((rowOf (n :: cs)).map V.int))) := fun bb o nb hb => by
    rw [upd_ne (ne_of_none hb n0)]
    exact b2 bb o nb hb
  have w3 := L2.well.upd (b := ra) (o := .lst ((rowOf (n :: cs)).map V.int)) L2.ne.symm
  have r3 := L2.rule.updL (o := .lst ((rowOf (n :: cs)).map V.int)) L2.row
  have m3 := L2.lim.updL (o := .lst ((rowOf (n :: cs)).map V.int)) L2.row
  have h3 := L2.hrs.updL (o := .lst ((rowOf (n :: cs)).map V.int)) L2.row
  have c3 := L2.cnt.updL (o := .lst ((rowOf (n :: cs)).map V.int)) L2.row
  have p3 := hp2.updL (o := .lst ((rowOf (n :: cs)).map V.int)) L2.row
  have e3 : (upd H2 ra (.lst ((rowOf (n :: cs)).map V.int))) ra = some (.lst ((rowOf (n :: cs)).map V.int)) := upd_same
  generalize upd H2 ra (.lst ((rowOf (n :: cs)).map V.int)) = H3 at b3 w3 r3 m3 h3 c3 p3 e3
  have hcl := counts_len (memN ls) cs
  refine ⟨_, rfl, by rw [sizeLine_eq]; show 1 ≤ 16777216; omega, fun z nz => ⟨_, rfl, rd_cat (.inl upd_same) (c3.same (same_upd nz)) (by simp) (by rw [List.length_map, hcl, sizeLine_eq]; show 1 + _ ≤ 16777216; omega) fun y H5 s5 hy => ⟨_, rfl, _, rfl, y, _, rfl, hy, fun c' H6 s6 hc' => ?_⟩⟩⟩
  have s36 := ((same_upd (o := .tup [.int (n : Nat)]) nz).trans s5).trans s6
  have ec : cutV ([V.int (n : Nat)] ++ (countsOf (memN ls) cs).map V.int) none (some ((memN ls : Nat) : Int)) = (countsOf (memN ls) (n :: cs)).map V.int := by
    rw [cut_to _ _ (by omega), Int.toNat_natCast, ← led_counts]
    unfold ledI
    rw [hcl, List.map_take]
    rfl
  rw [ec] at hc'
  have R := rep_cnts (ci := countsOf (memN ls) (n :: cs)) (fun k hk => by
    have := counts_small (memN ls) 7 (n :: cs) (fun x hx => by rcases List.mem_cons.mp hx with e | e; · omega
                                                               · exact hc x e) k hk
    omega) (by rw [counts_len]; omega)
  have szl : (PyData.shown (.tuple ((countsOf (memN ls) (n :: cs)).map PyData.int))).length ≤ sizeLine := by
    have := R.ln
    rw [sizeLine_eq]
    omega
  refine ⟨_, rfl, p, .tuple ((countsOf (memN ls) (n :: cs)).map PyData.int), rfl, .tup (p3.same s36).sq (dpAll_ints _), R.sh, R.nd, Nat.le_trans R.dp (by decide), szl, ?_⟩
  refine ⟨_, rfl, c', .tuple ((countsOf (memN ls) (n :: cs)).map PyData.int), rfl, .tup hc'.sq (dpAll_ints _), R.sh, R.nd, Nat.le_trans R.dp (by decide), szl, ?_⟩
  refine ⟨rfl, _, rfl, ifF (by rw [decide_eq_true rfl]; rfl) (q c' H6 (b3.trans (But.of s36)) ⟨w3.same s36, r3.same s36, m3.same s36, h3.same s36, s36 _ _ e3, hc', L.ne⟩)⟩
def tBar (K : PySem.W.Frag) (C : Addr) : TS := tSeq (tPar 11 12
    (tCons (tCB (fun xs H_1 Q => ∃ p ys, xs = [V.ref p] ∧ SqL K H_1 p ys ∧ ∀ (l : Addr), H_1 l = none → ∀ (o : Obj), o.dict = none → Q (V.ref l) (upd H_1 l (HO.frz o (HO.tup ys)))) (tCons (tOp rCat (tVar 4) (tOp rRep (tLst (tCons (tVar 7) tNil)) (tVar 9))) tNil))
    (tCons (tOp (rI0 fun i j => V.int (i + j)) (tCB (fun xs H_1 Q => ∃ p ys, xs = [V.ref p] ∧ (SqL K H_1 p ys ∨ SqT K H_1 p ys) ∧ Q (V.int ↑ys.length) H_1) (tCons (tVar 4) tNil)) (tVar 8)) tNil)))
  (tSeq (tIfS (tTest (tOp rNe (tCB (rReprD K) (tCons (tLst (tCons (tVar 10) (tCons (tCall sp_ispol [] E0 (tCons (tVar 3) (tCons (tVar 11) tNil))) (tCons (tCall sp_firstw [] E0 (tCons (tVar 3) (tCons (tVar 11) tNil))) tNil)))) tNil))
      (tCB (rReprD K) (tCons (tLst (tCons (tTup (tCons (tC (V.str (Str.ofString "barred"))) tNil)) (tCons (tC (V.bl false)) (tCons (tVar 12) tNil)))) tNil)))) (tRet (tC (V.bl false))) tNext)
    (tPar 9 10 (tCons (tC (V.int 0)) (tCons (tCall (sp_next C) [] E0 (tCons (tVar 3) (tCons (tVar 7) (tCons (tVar 6) (tCons (tC (V.int 0)) tNil))))) tNil))))
theorem rd_bar {K : PySem.W.Frag} {C : Addr} {H : Hp} {D : Ends} {a r la ha ra c p : Addr} {ls : List (Int × Int)} {hs : List Int} {cs : List Nat} {n k : Nat} {v11 v12 v13 : Option V} (L : LoopAt H a r la ha ra c ls hs cs) (hl : LimOk ls) (hh : HrsOk hs) (hP : Polite ls hs cs)
    (hn : n ≤ 7) (hc : ∀ x ∈ cs, x ≤ 7) (hlen : cs.length ≤ 13) (hkn : k < n) (y1 : letsI ls hs (cs.length : Nat) (countsOf (memN ls) cs) (k : Nat) = true) (y2 : letsI ls hs (cs.length : Nat) (countsOf (memN ls) cs) ((k + 1 : Nat) : Int) = false) (hp : TupAt H p [.str "barred"])
    (q : ∀ p' H' x11 x12, Same H H' → TupAt H' p' ((countsOf (memN ls) (0 :: cs)).map V.int) → D.nx [some (.ref a), some (.ref la), some (.ref ha), some (.ref r), some (.ref ra), some (.int (memN ls : Nat)), some (.ref c), some (.int (cs.length : Nat)), some (.int (k : Nat)), some (.int (0 : Nat)), some (.ref p'), x11, x12, v13] H') :
    tBar K C D [some (.ref a), some (.ref la), some (.ref ha), some (.ref r), some (.ref ra), some (.int (memN ls : Nat)), some (.ref c), some (.int (cs.length : Nat)), some (.int (k : Nat)), some (.int (n : Nat)), some (.ref p), v11, v12, v13] H := by
  have hs7 := sum_le hc
  have hrl := row_len cs
  refine ⟨_, rfl, _, rfl, by rw [sizeLine_eq]; show 1 ≤ 16777216; omega, fun l1 nl1 => ⟨_, rfl, l1, (n : Nat), _, rfl, rfl, upd_same, by omega, by omega, by rw [sizeLine_eq]; show 1 * ((n : Nat) : Int).toNat ≤ 16777216; omega, fun l2 nl2 => ?_⟩⟩
  have s1 := (same_upd (o := .lst [.int (cs.length : Nat)]) nl1).trans (same_upd (o := .lst (List.replicate ((n : Nat) : Int).toNat [V.int (cs.length : Nat)]).flatten) nl2)
  have e2 : (upd (upd H l1 (.lst [.int (cs.length : Nat)])) l2 (.lst (List.replicate ((n : Nat) : Int).toNat [V.int (cs.length : Nat)]).flatten)) l2 = some (.lst (List.replicate ((n : Nat) : Int).toNat [V.int (cs.length : Nat)]).flatten) := upd_same
  generalize upd (upd H l1 (.lst [.int (cs.length : Nat)])) l2 (.lst (List.replicate ((n : Nat) : Int).toNat [V.int (cs.length : Nat)]).flatten) = H2 at s1 e2
  have L2 := L.same s1
  refine ⟨ra, l2, _, _, rfl, rfl, L2.row, e2, ?_, fun l3 nl3 => ?_⟩
  · rw [List.length_map, sizeLine_eq, Int.toNat_natCast, List.flatten_replicate_singleton, List.length_replicate]
    omega
  rw [← row_cons]
  refine ⟨l3, _, rfl, SqL.of upd_same, fun w nw ow how => ?_⟩
  have s2 := (s1.trans (same_upd (o := .lst ((rowOf (n :: cs)).map V.int)) nl3)).trans (same_upd (o := .frz ow (.tup ((rowOf (n :: cs)).map V.int))) nw)
  have ew : TupAt (upd (upd H2 l3 (.lst ((rowOf (n :: cs)).map V.int))) w (.frz ow (.tup ((rowOf (n :: cs)).map V.int)))) w ((rowOf (n :: cs)).map V.int) := .inr ⟨ow, how, upd_same⟩
  generalize upd (upd H2 l3 (.lst ((rowOf (n :: cs)).map V.int))) w (.frz ow (.tup ((rowOf (n :: cs)).map V.int))) = H3 at s2 ew
  have L3 := L.same s2
  refine ⟨_, rfl, ra, _, rfl, .inl (SqL.of L3.row), _, rfl, _, _, rfl, rfl, _, _, rfl, ?_⟩
  have hA : AsksOk (rowOf (n :: cs)) := asks_row (by rw [List.sum_cons]; omega)
  have hF : FirstAt (wrongI ls hs (rowOf (n :: cs))) (rowOf (n :: cs)).length (some ((rowOf cs).length + k)) := first_row hl.lo hP hkn y1 y2
  refine ⟨_, rfl, _, rfl, _, rfl, r, w, ls, hs, rowOf (n :: cs), _, rfl, L3.ruleAt, hl, hh, ew, hA, hF, fun H4 s4 => ?_⟩
  have L4 := L3.same s4
  refine ⟨_, rfl, _, rfl, r, w, ls, hs, rowOf (n :: cs), _, rfl, L4.ruleAt, hl, hh, ew.same s4, hA, hF, fun H5 s5 => ?_⟩
  have L5 := L4.same s5
  have hp5 := hp.same ((s2.trans s4).trans s5)
  refine ⟨by rw [sizeLine_eq]; show 3 ≤ 16777216; omega, fun b1 nb1 => ?_⟩
  have R : RepOk (.list [.tuple [.str "barred"], .bool false, .int (((rowOf cs).length + k : Nat) : Int)]) 2 84 := by
    refine (rep_lst (k := 1) (N := 25) fun d hd => ?_)
    simp only [List.mem_cons, List.not_mem_nil, or_false] at hd
    rcases hd with e | e | e <;> subst e
    · refine (rep_tup (k := 0) (N := 20) fun d hd => ?_).mono (by decide) (by decide)
      simp only [List.mem_cons, List.not_mem_nil, or_false] at hd
      subst hd
      exact rep_bar
    · exact (rep_bl _).mono (by decide) (by decide)
    · exact (rep_int (by omega) (by omega)).mono (by decide) (by decide)
  have szl : (PyData.shown (.list [.tuple [.str "barred"], .bool false, .int (((rowOf cs).length + k : Nat) : Int)])).length ≤ sizeLine := by
    have := R.ln
    rw [sizeLine_eq]
    omega
  refine ⟨b1, .list [.tuple [.str "barred"], .bool false, .int (((rowOf cs).length + k : Nat) : Int)], rfl, .lst (SqL.of upd_same) (.cons (.tup (hp5.same (same_upd nb1)).sq (.cons (.str _) .nil)) (.cons (.bl _) (.cons (.int _) .nil))), R.sh, R.nd, Nat.le_trans R.dp (by decide), szl, ?_⟩
  refine ⟨by rw [sizeLine_eq]; show 1 ≤ 16777216; omega, fun b2 nb2 => ⟨_, rfl, by rw [sizeLine_eq]; show 3 ≤ 16777216; omega, fun b3 nb3 => ?_⟩⟩
  refine ⟨b3, .list [.tuple [.str "barred"], .bool false, .int (((rowOf cs).length + k : Nat) : Int)], rfl, .lst (SqL.of upd_same) (.cons (.tup (SqT.of (same_upd nb3 _ _ upd_same)) (.cons (.str _) .nil)) (.cons (.bl _) (.cons ?_ .nil))), R.sh, R.nd, Nat.le_trans R.dp (by decide), szl, ?_⟩
  · have e : (((rowOf cs).map V.int).length : Int) + (k : Nat) = (((rowOf cs).length + k : Nat) : Int) := by
      rw [List.length_map]
      omega
    show Dp _ _ (V.int ((((rowOf cs).map V.int).length : Int) + (k : Nat))) _
    rw [e]
    exact .int _
  have s9 := fun (o3 : HO) => ((same_upd nb1).trans (same_upd nb2)).trans (same_upd (o := o3) nb3)
  refine ⟨rfl, _, rfl, ifF (by rw [decide_eq_true rfl]; rfl) ?_⟩
  refine ⟨_, rfl, _, rfl, _, rfl, r, c, ls, hs, countsOf (memN ls) cs, (cs.length : Nat), 0, rfl, (L5.same (s9 _)).state hl hh hP, by decide, by decide, fun _ p' H' s' hp' => ⟨_, _, rfl, ?_⟩, fun z => absurd z (by rw [lets_zero]; decide)⟩
  rw [show ledI (countsOf (memN ls) cs) 0 = countsOf (memN ls) (0 :: cs) from led_counts _ _ 0] at hp'
  exact q p' H' _ _ ((((s2.trans s4).trans s5).trans (s9 _)).trans s') hp'
def sp_right : Sp := fun vs H Q _ => ∃ (a : Addr), vs = [.ref a] ∧ WellAt H a ∧ ∀ H', But a H H' → Q (.bl true) H'
theorem ok_right (T : Txt K mg) : OkG P w K mg base "_law_right" 11 p_law_right sp_right := At.okG T.d_law_right fun f fd F => by
  obtain ⟨C, B⟩ := T.bar
  obtain ⟨fa, fdn, mgf, kp, bn, G⟩ := ok_next (P := P) (w := w) (base := base) T B
  refine okG F sc_law_right (fun vs H Q E h => ?_) (fun cdv A outer s H vs Q E hgd hr h => ?_)
  · obtain ⟨a, rfl, _⟩ := h
    rfl
  · obtain ⟨a, rfl, ha, q⟩ := h
    have nd := sc_law_right.nd
    refine ⟨_, pss_cons (ps_par (i := 1) (j := 2) (by rfl) nd rfl rfl (by decide) rfl rfl
        (pa_cons (pe_cd (ok_slim T) (hr.mono (by decide)) (pa_cons (pv 0) (pa_cons (pe_cd (ok_one T) (hr.mono (by decide)) (pa_cons (pv 0) (pa_cons (pe_lst (pa_cons pe_int (pa_cons pe_int (pa_cons pe_int pa_nil)))) pa_nil))) (pa_cons pe_int pa_nil))))
        (pa_cons (pe_cd (ok_shrs T) (hr.mono (by decide)) (pa_cons (pv 0) (pa_cons pe_int pa_nil))) pa_nil)) (by rfl))
      (pss_cons (ps_par (i := 3) (j := 4) (by rfl) nd rfl rfl (by decide) rfl rfl (pa_cons (pe_tup (pa_cons (pv 1) (pa_cons (pv 2) pa_nil))) (pa_cons (pe_lst pa_nil) pa_nil)) (by rfl))
      (pss_cons (ps_set (i := 5) nd rfl (.inl rfl) (pe_op op_sub (pe_callB (cr_max rfl) (by rfl) T.z_max b_max
        (pa_cons (pe_op op_cat (pe_lc (own := [("_law_pair", 13)]) (g := gName 13) (tt := tYes) (by rfl) nd (pi_tup (pv 1)) (blkOk_by (N := n_law_right) (sc := defScope s_law_right) (by decide +kernel))
          (fun _ _ _ _ _ => pg_name (i := 13) nd rfl (Or.inl rfl)) (fun _ _ _ _ _ => pts_nil) (fun _ _ _ _ _ => pe_ix ix_tupA (pv 13) pe_int (fun _ _ => rfl))) (pe_lst (pa_cons pe_int pa_nil))) pa_nil)) pe_int))
      (pss_cons (ps_set (i := 6) nd rfl (.inl rfl) (pe_op op_repA (pe_tup (pa_cons pe_int pa_nil)) (pv 5)))
      (pss_cons (ps_for PassesOwn.never rfl (pi_range1 (by rfl) T.z_range (pa_cons pe_int pa_nil)) (pg_name (i := 7) nd rfl (.inl rfl))
        (pss_cons (ps_set (i := 8) nd rfl (.inl rfl) (pe_cd (ok_great T) (hr.mono (by decide)) (pa_cons (pv 1) (pa_cons (pv 2) (pa_cons (pv 4) (pa_cons (pv 7) pa_nil))))))
        (pss_cons (ps_set (i := 9) nd rfl (.inl rfl) (pe_cd (ok_one T) (hr.mono (by decide)) (pa_cons (pv 0) (pa_cons (pe_ifExp (pt_cmpR op_isN (pv 8) pe_non (nomark _))
          (pe_lst (pa_cons pe_int (pa_cons pe_int (pa_cons pe_int (pa_cons pe_int (pa_cons pe_int pa_nil))))))
          (pe_lst (pa_cons pe_int (pa_cons pe_int (pa_cons pe_int (pa_cons (pv 8) (pa_cons (pv 8) (pa_cons (pe_op op_add (pv 8) pe_int) (pa_cons pe_int pa_nil))))))))) pa_nil))))
        (pss_cons (ps_if (pt_not (pt_val (pe_cdG (ok_mright T) hgd hr (pa_cons (pv 3) (pa_cons (pv 4) (pa_cons (pv 7) (pa_cons (pv 6) (pa_cons (pv 9) pa_nil)))))))) (pss_one (ps_ret pe_bl)) pss_nil)
        (pss_cons (ps_set (i := 10) nd rfl (.inl rfl) (pe_cd (ok_lled T) hr (pa_cons (pv 3) (pa_cons (pv 7) (pa_cons (pv 6) (pa_cons (pv 9) pa_nil))))))
        (pss_cons (ps_if (pt_not (pt_val (pe_cd (ok_may T) (hr.mono (by decide)) (pa_cons (pv 1) (pa_cons (pv 2) (pa_cons (pv 4) (pa_cons (pv 7) (pa_cons (pv 9) pa_nil))))))))
          (pss_cons (ps_par (i := 11) (j := 12) (by rfl) nd rfl rfl (by decide) rfl rfl
            (pa_cons (pe_callTy call_tupleF (by rfl) T.z_tuple b_tuple (pa_cons (pe_op op_cat (pv 4) (pe_op op_rep (pe_lst (pa_cons (pv 7) pa_nil)) (pv 9))) pa_nil))
            (pa_cons (pe_op op_add (pe_callB call_len_seq (by rfl) T.z_len b_len (pa_cons (pv 4) pa_nil)) (pv 8)) pa_nil)) (by rfl))
          (pss_cons (ps_if (pt_cmpR op_ne (pe_callB (cr_reprD hgd (room9 hr)) (by rfl) T.z_repr b_repr (pa_cons (pe_lst (pa_cons (pv 10) (pa_cons (pe_cd (ok_ispol T) (hr.mono (by decide)) (pa_cons (pv 3) (pa_cons (pv 11) pa_nil)))
              (pa_cons (pe_cd (ok_firstw T) (hr.mono (by decide)) (pa_cons (pv 3) (pa_cons (pv 11) pa_nil))) pa_nil)))) pa_nil))
            (pe_callB (cr_reprD hgd (room9 hr)) (by rfl) T.z_repr b_repr (pa_cons (pe_lst (pa_cons (pe_tup (pa_cons pe_str pa_nil)) (pa_cons pe_bl (pa_cons (pv 12) pa_nil)))) pa_nil)) (nomark _)) (pss_one (ps_ret pe_bl)) pss_nil)
          (pss_one (ps_par (i := 9) (j := 10) (by rfl) nd rfl rfl (by decide) rfl rfl (pa_cons pe_int (pa_cons (pe_call (E := E0) G (hr.mono (by decide)) rfl mgf kp bn .nil passL (pa_cons (pv 3) (pa_cons (pv 7) (pa_cons (pv 6) (pa_cons pe_int pa_nil))))) pa_nil)) (by rfl))))) pss_nil)
        (pss_cons (ps_expr (pe_bm PySem.F.plainAttrs_list PySem.F.slot_list_extend PySem.F.type_list_extend mt_extend (pv 4) (pa_cons (pe_op op_rep (pe_lst (pa_cons (pv 7) pa_nil)) (pv 9)) pa_nil)))
        (pss_cons (ps_set (i := 6) nd rfl (.inl rfl) (pe_slice sl_tupS (pe_op op_catT (pe_tup (pa_cons (pv 9) pa_nil)) (pv 6)) po_none (po_some (pv 5))))
        (pss_one (ps_if (pt_cmpR op_ne (pe_callB (cr_reprD hgd (room9 hr)) (by rfl) T.z_repr b_repr (pa_cons (pv 10) pa_nil)) (pe_callB (cr_reprD hgd (room9 hr)) (by rfl) T.z_repr b_repr (pa_cons (pv 6) pa_nil)) (nomark _)) (pss_one (ps_ret pe_bl)) pss_nil))))))))))
      (pss_one (ps_ret (pe_cmpR op_eq (pe_callB (cr_reprD hgd (room9 hr)) (by rfl) T.z_repr b_repr (pa_cons (pe_lst (pa_cons (pe_cd (ok_ispol T) (hr.mono (by decide)) (pa_cons (pv 3) (pa_cons (pe_callTy call_tupleF (by rfl) T.z_tuple b_tuple (pa_cons (pv 4) pa_nil)) pa_nil)))
          (pa_cons (pe_cd (ok_firstw T) (hr.mono (by decide)) (pa_cons (pv 3) (pa_cons (pe_callTy call_tupleF (by rfl) T.z_tuple b_tuple (pa_cons (pv 4) pa_nil)) pa_nil))) pa_nil))) pa_nil)) pe_str (nomark _)))))))), ?_⟩
    refine ⟨_, rfl, _, rfl, by rw [sizeLine_eq]; show 3 ≤ 16777216; omega, fun l nl => ⟨a, l, _, rfl, ha.upd (ha.neN nl), upd_same, (ha.neN nl).symm, by decide, by decide, fun v H1 hv b1 w1 => ?_⟩⟩
    obtain ⟨top, t1, t6, rfl⟩ : ∃ z : Int, 1 ≤ z ∧ z ≤ 6 ∧ v = .int z := by
      simp only [List.mem_cons, List.not_mem_nil, or_false] at hv
      rcases hv with h | h | h <;> subst h
      · exact ⟨2, by decide, by decide, rfl⟩
      · exact ⟨3, by decide, by decide, rfl⟩
      · exact ⟨6, by decide, by decide, rfl⟩
    have b1 : But a H H1 := But.trans (But.of (same_upd nl)) b1
    refine ⟨a, top, rfl, w1, t1, t6, fun la H2 ls hl b2 w2 hlim => ⟨_, rfl, a, rfl, w2, fun haa H3 hs hh b3 w3 hhs => ⟨_, _, rfl, ?_⟩⟩⟩
    have hlim := hlim.but w2 b3
    have b3 : But a H H3 := (b1.trans b2).trans b3
    refine ⟨_, rfl, _, rfl, by rw [sizeLine_eq]; show 2 ≤ 16777216; omega, fun r nr => ⟨Nat.zero_le _, fun ra nra => ⟨_, _, rfl, ?_⟩⟩⟩
    have s4 : Same H3 (upd (upd H3 r (.tup [.ref la, .ref haa])) ra (.lst [])) := (same_upd nr).trans (same_upd nra)
    have er : (upd (upd H3 r (.tup [.ref la, .ref haa])) ra (.lst [])) r = some (.tup [.ref la, .ref haa]) := same_upd nra _ _ upd_same
    have era : (upd (upd H3 r (.tup [.ref la, .ref haa])) ra (.lst [])) ra = some (.lst []) := upd_same
    have nea : ra ≠ a := fun z => by
      subst z
      obtain ⟨d, m, c, w⟩ := w3
      rw [none_of (same_upd nr) nra] at w
      cases w
    generalize upd (upd H3 r (.tup [.ref la, .ref haa])) ra (.lst []) = H4 at s4 er era
    have hlim4 := hlim.same s4
    obtain ⟨as, hla, hp⟩ := hlim4
    have hln := hp.length
    have hfew := hl.few
    refine ⟨_, rfl, la, rfl, ⟨_, hla.sq⟩, fun D nD => lc_tupS (ys := ls.map fun p => V.int p.2) nD hla.sq (by simp [hln]) (by rw [List.length_map, sizeLine_eq]; omega) ?_ ?_ gm_name⟩
    · intro j x y H5 Q5 hx hy sm q5
      obtain ⟨b, hc, rfl⟩ := get_map hx
      obtain ⟨p, hip, rfl⟩ := get_map hy
      obtain ⟨b', hc', hH⟩ := hp.get hip
      obtain rfl : b' = b := Option.some.inj (hc'.symm.trans hc)
      exact ⟨rfl, _, rfl, b', _, 1, _, rfl, rfl, .inl (sm _ _ hH), rfl, q5 _ (Same.refl _)⟩
    intro H5 s5 hD
    refine ⟨by rw [sizeLine_eq]; show 1 ≤ 16777216; omega, fun p1 np1 => ⟨D, p1, _, _, rfl, rfl, same_upd np1 _ _ hD, upd_same, by rw [List.length_map, sizeLine_eq]; show ls.length + 1 ≤ 16777216; omega, fun p2 np2 => ⟨p2, ls.map (·.2) ++ [1], rfl, SqL.of (by rw [upd_same, List.map_append, List.map_map]; rfl), by rw [List.length_append]; exact Nat.succ_pos _, fun m hin hle => ⟨_, _, rfl, rfl, ?_⟩⟩⟩⟩
    show gName 5 (.int (m - 1)) _ _ _
    rw [span_of hin hle]
    have s6 : Same H4 (upd (upd H5 p1 (.lst [.int 1])) p2 (.lst ((ls.map fun p => V.int p.2) ++ [.int 1]))) := (s5.trans (same_upd np1)).trans (same_upd np2)
    generalize upd (upd H5 p1 (.lst [.int 1])) p2 (.lst ((ls.map fun p => V.int p.2) ++ [.int 1])) = H6 at s6
    have hm6 := mem_few hl
    refine ⟨by rw [sizeLine_eq]; show 1 ≤ 16777216; omega, fun z nz => ⟨_, rfl, z, (memN ls : Nat), _, rfl, rfl, .inl upd_same, by decide, by omega, by omega, by decide, fun c H7 s7 hc => ?_⟩⟩
    have e0 : (List.replicate ((memN ls : Nat) : Int).toNat [V.int 0]).flatten = (countsOf (memN ls) []).map V.int := by
      unfold countsOf
      rw [Int.toNat_natCast, List.flatten_replicate_singleton, List.map_nil, List.nil_append, List.take_replicate, Nat.min_self, List.map_replicate]
    rw [e0] at hc
    have s47 : Same H4 H7 := (s6.trans (same_upd nz)).trans s7
    have L0 : LoopAt H7 a r la haa ra c ls hs [] := ⟨(w3.same s4).same s47, .inl (s47 _ _ er), (hlim.same s4).same s47, (hhs.same s4).same s47, s47 _ _ era, hc, nea⟩
    have b7 : But a H H7 := (b3.trans (But.of s4)).trans (But.of s47)
    have nra0 : H ra = none := by
      cases e : H ra with
      | none => rfl
      | some o =>
        have z := b3 ra o nea e
        rw [none_of (same_upd nr) nra] at z
        cases z
    refine ⟨14, rfl, by decide, by decide, for_range (lo := 0) (fun i σ H8 => ∃ (cs : List Nat), ∃ (c : Addr), ∃ v7 v8 v9 v10 v11 v12 v13, σ = [some (.ref a), some (.ref la), some (.ref haa), some (.ref r), some (.ref ra), some (.int (memN ls : Nat)), some (.ref c), v7, v8, v9, v10, v11, v12, v13] ∧
      But a H H8 ∧ LoopAt H8 a r la haa ra c ls hs cs ∧ Polite ls hs cs ∧ (∀ x ∈ cs, x ≤ 7) ∧ cs.length = i) ⟨[], c, _, _, _, _, _, _, _, rfl, b7, L0, trivial, And.intro (fun x hx => absurd hx List.not_mem_nil) rfl⟩ ?_ ?_⟩
    · rintro i σ H8 hi ⟨cs, c, v7, v8, v9, v10, v11, v12, v13, rfl, b8, L, hP, h7, hlen⟩
      have hi14 : i < 14 := hi
      have e0 : (0 + (i : Int)) = (cs.length : Nat) := by omega
      rw [e0]
      have hs7 := sum_le h7
      obtain ⟨g, hg⟩ := top_ex hl.mid hP
      have hm := L.may hl hh (by omega)
      refine ⟨_, rfl, _, rfl, _, rfl, _, rfl, la, haa, ra, ls, hs, rowOf cs, _, g, rfl, hm, hg.top, fun H9 s9 => ?_⟩
      have L9 := L.same s9
      have b9 := b8.trans (But.of s9)
      refine ⟨_, rfl, rd_some (g := g) rfl (fun k e => ?_) fun l9 xs nl9 hxs hx0 hx1 => ⟨a, l9, xs, rfl, L9.well.upd (L9.well.neN nl9), upd_same, (L9.well.neN nl9).symm, hx0, hx1, fun v H10 hv b10 w10 => ?_⟩⟩
      · have z := hg.top
        rw [e] at z
        have := z.2.1
        omega
      obtain ⟨n, hn, rfl⟩ := hxs v hv
      have L10 := (L9.same (same_upd nl9)).but b10 w10
      have b10 : But a H H10 := (b9.trans (But.of (same_upd nl9))).trans b10
      obtain ⟨s0, M⟩ := moment_ok hl hh hP h7 (by omega) hn hg
      refine ⟨_, rfl, _, rfl, _, rfl, _, rfl, _, rfl, r, ra, c, ls, hs, rowOf cs, countsOf (memN ls) cs, _, _, g, s0, rfl, L10.state hl hh hP, L10.row, M, fun H11 s11 => ⟨true, rfl, ifF rfl ?_⟩⟩
      have L11 := L10.same s11
      have b11 := b10.trans (But.of s11)
      have lo2 : ∀ p ∈ ls, 1 ≤ p.2 := fun p hp => (hl.lo p hp).2
      refine ⟨_, rfl, _, rfl, _, rfl, _, rfl, r, c, ls, hs, countsOf (memN ls) cs, _, _, rfl, L11.state hl hh hP, by omega, by omega, fun hy p H12 s12 hp12 => ?_, fun hno p H12 s12 hp12 => ?_⟩
      · have L12 := L11.same s12
        have b12 := b11.trans (But.of s12)
        have m12 := L12.may hl hh (by omega)
        refine ⟨_, rfl, _, rfl, _, rfl, _, rfl, _, rfl, la, haa, ra, ls, hs, rowOf cs, _, _, rfl, m12.1, hl, m12.2.2.1, hh, m12.2.2.2.2.1, m12.2.2.2.2.2, fun H13 s13 => ⟨_, rfl, ?_⟩⟩
        rw [← lets_may lo2 hs cs (by omega), hy]
        rw [led_counts] at hp12
        refine ifF rfl ?_
        refine rd_tail (L12.same s13) hl hn h7 (by omega) (hp12.same s13) (b12.trans (But.of s13)) nra0 fun c' H' b' L' => ?_
        refine ⟨n :: cs, c', _, _, _, _, _, _, _, rfl, b', L', ⟨hP, hy⟩, fun x hx => ?_, by rw [List.length_cons, hlen]⟩
        rcases List.mem_cons.mp hx with e | e
        · omega
        · exact h7 x e
      · have L12 := L11.same s12
        have b12 := b11.trans (But.of s12)
        have m12 := L12.may hl hh (by omega)
        refine ⟨_, rfl, _, rfl, _, rfl, _, rfl, _, rfl, la, haa, ra, ls, hs, rowOf cs, _, _, rfl, m12.1, hl, m12.2.2.1, hh, m12.2.2.2.2.1, m12.2.2.2.2.2, fun H13 s13 => ⟨_, rfl, ?_⟩⟩
        rw [← lets_may lo2 hs cs (by omega), hno]
        refine ifT rfl ?_
        cases g with
        | none =>
          obtain ⟨z1, z2⟩ := hg.top
          rw [lets_of z2 (fun p hp => by rw [z1] at hp; cases hp)] at hno
          cases hno
        | some k =>
          obtain ⟨y1, y2⟩ := hg.next k rfl
          have hkn : k < n := by
            refine Decidable.byContradiction fun z => ?_
            rw [lets_mono y1 (by omega) (by omega)] at hno
            cases hno
          refine rd_bar (L12.same s13) hl hh hP hn h7 (by omega) hkn y1 y2 (hp12.same s13) fun p' H14 x11 x12 s14 hp14 => ?_
          refine rd_tail (n := 0) ((L12.same s13).same s14) hl (by decide) h7 (by omega) hp14 ((b12.trans (But.of s13)).trans (But.of s14)) nra0 fun c' H' b' L' => ?_
          refine ⟨0 :: cs, c', _, _, _, _, _, _, _, rfl, b', L', ⟨hP, lets_zero _ _ _ _⟩, fun x hx => ?_, by rw [List.length_cons, hlen]⟩
          rcases List.mem_cons.mp hx with e | e
          · omega
          · exact h7 x e
    · rintro σ H8 ⟨cs, c, v7, v8, v9, v10, v11, v12, v13, rfl, b8, L, hP, h7, hlen⟩
      have hlen : cs.length = 14 := hlen
      have hs7 := sum_le h7
      have hA : AsksOk (rowOf cs) := asks_row (by omega)
      refine ⟨_, rfl, _, rfl, ra, _, rfl, SqL.of L.row, fun l1 nl1 o1 ho1 => ?_⟩
      have L1 := L.same (same_upd (o := .frz o1 (.tup ((rowOf cs).map V.int))) nl1)
      refine ⟨r, l1, ls, hs, rowOf cs, none, rfl, L1.ruleAt, hl, hh, .inr ⟨o1, ho1, upd_same⟩, hA, fine_all hl.lo hP, fun H9 s9 => ?_⟩
      have L2 := L1.same s9
      refine ⟨_, rfl, _, rfl, ra, _, rfl, SqL.of L2.row, fun l2 nl2 o2 ho2 => ?_⟩
      have L3 := L2.same (same_upd (o := .frz o2 (.tup ((rowOf cs).map V.int))) nl2)
      refine ⟨r, l2, ls, hs, rowOf cs, none, rfl, L3.ruleAt, hl, hh, .inr ⟨o2, ho2, upd_same⟩, hA, fine_all hl.lo hP, fun H10 s10 => ⟨by rw [sizeLine_eq]; show 2 ≤ 16777216; omega, fun l3 nl3 => ?_⟩⟩
      refine ⟨l3, .list [.bool true, .none], rfl, .lst (SqL.of upd_same) (.cons (.bl _) (.cons .non .nil)), rfl, rfl, by decide, by rw [sizeLine_eq]; decide +kernel, ?_⟩
      refine ⟨rfl, blE (decide_eq_true ?_) (q _ ((((b8.trans (But.of (same_upd nl1))).trans (But.of s9)).trans (But.of (same_upd nl2))).trans ((But.of s10).trans (But.of (same_upd nl3)))))⟩
      exact congrArg V.str (by decide +kernel)
end
end G3

set_option Elab.async false
set_option linter.all false
set_option maxRecDepth 100000
set_option maxHeartbeats 4000000
/-! The law itself. -/
namespace G3
open PySem PySem.Spec PyProof.Rows L2 M3
section
variable {P : Program} {w : World} {K : PySem.W.Frag} {mg : Str → Option Value} {base : Heap}
def sp_law (K : PySem.W.Frag) : Sp := fun vs H Q _ => ∃ (a : Addr) (ns : List Int), vs = [.ref a] ∧ SqL K H a (ns.map V.int) ∧ ns.length ≤ 1000 ∧ ∀ H', Q (.bl true) H'
theorem fn_law (T : Txt K mg) {f : Addr} {fd : FuncData} (F : Fun K "law" "law" s_law f fd) : FnG P w K mg base 12 f fd p_law (sp_law K) := by
  refine okG F sc_law (fun vs H Q E h => ?_) (fun cdv A outer s H vs Q E hgd hr h => ?_)
  · obtain ⟨a, ns, rfl, _⟩ := h
    rfl
  · obtain ⟨a, ns, rfl, hS, hlen, q⟩ := h
    refine ⟨_, pss_one (ps_ret (pe_callB (cr_all rfl) (by rfl) T.z_all b_all
      (pa_cons (pe_lc (own := [("_law_turn", 1)]) (g := gName 1) (tt := tYes) (by rfl) sc_law.nd
        (pi_range1 (by rfl) T.z_range (pa_cons (pe_callB (call_max2 rfl) (by rfl) T.z_max b_max (pa_cons pe_int (pa_cons (pe_callB (call_min2 rfl) (by rfl) T.z_min b_min (pa_cons (pe_callB call_len_seq (by rfl) T.z_len b_len (pa_cons (pv 0) pa_nil)) (pa_cons pe_int pa_nil))) pa_nil))) pa_nil))
        (blkOk_by (N := n_law) (sc := defScope s_law) (by decide +kernel))
        (fun _ _ _ _ _ => pg_name (i := 1) sc_law.nd rfl (Or.inl rfl)) (fun _ _ _ _ _ => pts_nil)
        (fun _ _ _ _ _ => pe_cdG (ok_right T) hgd hr (pa_cons (pe_cd (ok_well T) (hr.mono (by decide)) (pa_cons (pv 0) (pa_cons (pv 1) pa_nil))) pa_nil))) pa_nil))), ?_⟩
    refine ⟨_, rfl, a, _, rfl, .inl hS, _, _, rfl, _, _, rfl, _, rfl, ?_, ?_, fun D nD => ?_⟩
    · split <;> split <;> omega
    · rw [List.length_map]
      split <;> split <;> omega
    have hN : ∃ N : Nat, N ≤ 4 ∧ (if (if (4 : Int) < ((ns.map V.int).length : Int) then 4 else ((ns.map V.int).length : Int)) > 2 then (if (4 : Int) < ((ns.map V.int).length : Int) then 4 else ((ns.map V.int).length : Int)) else 2 : Int) = (N : Int) := by
      rw [List.length_map]
      refine ⟨(if (if (4 : Int) < (ns.length : Int) then 4 else (ns.length : Int)) > 2 then (if (4 : Int) < (ns.length : Int) then 4 else (ns.length : Int)) else 2 : Int).toNat, ?_, ?_⟩
      · split <;> split <;> omega
      · split <;> split <;> omega
    obtain ⟨N, hN4, eN⟩ := hN
    rw [eN, Int.toNat_natCast]
    refine lc_rngS (n := N) (ys := List.replicate N (.bl true)) nD (by simp) (by rw [sizeLine_eq]; omega) ?_ ?_ gm_name
    · intro i y H2 Q2 hy sm q2
      obtain rfl := get_rep hy
      refine ⟨rfl, _, rfl, _, rfl, a, ns, _, rfl, sqL_same sm hS, by omega, fun p H3 np s3 w3 => ⟨p, rfl, w3, fun H4 b4 => q2 H4 fun b o hb => b4 b o (ne_of_none hb np) (s3 b o hb)⟩⟩
    · intro H2 sm hD
      refine ⟨D, List.replicate N true, rfl, SqL.of (by rw [rep_map]; exact hD), ?_⟩
      rw [all_true]
      exact q H2
end
end G3

set_option Elab.async false
set_option linter.all false
set_option maxRecDepth 100000
set_option maxHeartbeats 4000000
/-! The end for a def that leans on no repr being under way. -/
namespace G3
open PySem PySem.Spec PyProof.Rows L2 M3
/-- the only thing that is known: the script, unless it is one of the module's own objects -/
def scriptH (K : PySem.W.Frag) (a : Addr) (o : Obj) (xs : List V) : Hp := fun b => if b = a ∧ K.lookup a = none then some (.frz o (.lst xs)) else none
theorem scriptH_some {K : PySem.W.Frag} {a b : Addr} {o : Obj} {xs : List V} {u : HO} (h : scriptH K a o xs b = some u) : b = a ∧ K.lookup a = none ∧ u = .frz o (.lst xs) := by
  unfold scriptH at h
  by_cases c : b = a ∧ K.lookup a = none
  · rw [if_pos c] at h
    exact ⟨c.1, c.2, (Option.some.inj h).symm⟩
  · rw [if_neg c] at h
    cases h
theorem law_callG {P : Program} {w : World} {K : PySem.W.Frag} {mg mb : Str → Option Value} {k : Nat} {fa a : Addr} {fd : FuncData} {x : Str} {s₁ : Shared} {vs : List Value} {ns : List Int}
    (KX : K.In s₁.heap) (hns : s₁.heap.Ns mainGlobals mg) (hb : s₁.heap.Ns builtinsNs mb) (hbb : ∀ x : Str, x ≠ "__name__" → mb x = bootBuiltins x) (hlim : s₁.heap.NoLimit) (hg : s₁.gens = #[])
    (ha : s₁.heap.get? a = some { cls := .type "list", data := .seq vs.toArray }) (hi : IntsAre vs ns) (hl : ns.length ≤ 1000) (hr : Room k callerA)
    (F : ∀ base : Heap, K.In base → base.Ns mainGlobals mg → FnG P w K mg base k fa fd [x] (sp_law K)) (hbind : ∀ (s : Shared) (u : Value), BindsTo s fd ⟨[u], []⟩ [(x, u)]) :
    codeAny (model P w) callerA (.call (.ref fa) ⟨[.ref a], []⟩) (fun r s' => r = .ok (.ret (.bool true)) ∧ PySem.OldK s₁.heap s'.heap ∧ s'.os = s₁.os ∧ PyProof.Rows.AllBare s'.gens) s₁ := by
  have rv := vals_ints hi
  have hz : ns.length ≤ sizeLine := by rw [sizeLine_eq]; omega
  generalize hH : scriptH K a { cls := .type "list", data := .seq vs.toArray } (ns.map V.int) = H
  have hs : ∀ {b : Addr} {u : HO}, H b = some u → b = a ∧ K.lookup a = none ∧ u = .frz { cls := .type "list", data := .seq vs.toArray } (.lst (ns.map V.int)) := fun h => scriptH_some (by rw [hH]; exact h)
  have hS : SqL K H a (ns.map V.int) := by
    cases e : K.lookup a with
    | none =>
      refine .inl (.inr ⟨{ cls := .type "list", data := .seq vs.toArray }, ?_⟩)
      rw [← hH]
      exact if_pos ⟨rfl, e⟩
    | some o =>
      have e2 := KX a o e
      rw [ha] at e2
      cases e2
      exact .inr ⟨_, vs.toArray, _, e, rfl, rfl, rfl, by rw [List.size_toArray, hi.length]; exact hz, by simpa using rv⟩
  have hok : HOk P w H s₁.heap := fun b u z => by
    obtain ⟨e1, _, e3⟩ := hs z
    subst e1 e3
    exact ⟨ha, by rw [List.length_map]; exact hz, vs, _, rv, ha⟩
  have free : ∀ {b : Addr} {m : Str → Option Value}, s₁.heap.Ns b m → (hidT s₁.heap H).Ns b m := fun {b m} ⟨o, es, ep, e, d, r⟩ => by
    refine ⟨o, es, ep, hidT_get e ?_, d, r⟩
    cases q : H b with
    | none => rfl
    | some u =>
      obtain ⟨e1, _, _⟩ := hs q
      subst e1
      rw [ha] at e
      cases e
      have d' : Data.seq vs.toArray _ = Data.dict es ep := d
      cases d'
  have hKb : K.In (hidT s₁.heap H) := fun b o e => hidT_get (KX b o e) (by
    cases q : H b with
    | none => rfl
    | some u =>
      obtain ⟨e1, e2, _⟩ := hs q
      subst e1
      rw [e2] at e
      cases e)
  have hM : Mod K mg (hidT s₁.heap H) := ⟨hKb, free hns, ⟨mb, free hb, hbb⟩, let ⟨mc, h1, h2⟩ := hlim; ⟨mc, free h1, h2⟩⟩
  have e0 : Env0 P w K mg (hidT s₁.heap H) callerA [] s₁ H := ⟨rfl, hM, fun b o e => of_hidT e, Nat.le_of_eq (hidT_size _ _), trivial, fun b hb => absurd (show b ∈ ([] : List Addr) from hb) List.not_mem_nil, hok, .of_eq hg⟩
  refine codeAny_mono ((F _ hKb (free hns)).run callerA [] s₁ H ⟨[.ref a], []⟩ [.ref a] [.ref a] (fun v _ => v = .bl true) (fun _ _ _ => False) rfl hr e0 (hbind s₁ (.ref a)) (.cons rfl .nil) ⟨a, ns, rfl, hS, hl, fun _ => rfl⟩) fun r s' h => ?_
  cases r with
  | error e => exact False.elim h
  | ok fl =>
    cases fl with
    | next => exact False.elim h
    | brk => exact False.elim h
    | cont => exact False.elim h
    | ret u =>
      obtain ⟨v, H', os, bare, un, hok', r', q⟩ := h
      have q' : v = .bl true := q
      subst q'
      obtain rfl : u = Value.bool true := r'
      refine ⟨rfl, PySem.OldK.of_keep fun b o e => ?_, os, bare⟩
      cases q : H b with
      | none => exact un.keep b o e q (fun z => absurd (show b ∈ ([] : List Addr) from z) List.not_mem_nil) (by simp)
      | some u =>
        obtain ⟨_, _, e3⟩ := hs q
        subst e3
        have z2 := un.frzs b _ _ q
        obtain ⟨e1, _⟩ := hok b _ q
        obtain ⟨e2, _⟩ := hok' b _ z2
        rw [e] at e1
        cases e1
        exact e2
theorem walk_G {l : PySem.W.OpenLaw} {n k : Nat} {q : Program} {loose : List Str} {XP : (Str → Option Value) → Heap → Prop} {YP : World → Heap → Prop} {d : DefRec} {K : Params → PySem.W.Frag} {x : Str}
    (hn : l.most = some n) (hn2 : n ≤ 1000) (hdf : d.params.defaults = []) (hr : Room k callerA) (hY : ∀ (w : World) (h : Heap), YP w h → (K w.params).In h)
    (F : ∀ (w : World) (mg : Str → Option Value) (fa : Addr) (h : Heap), (K w.params).In h → h.Ns mainGlobals mg → mg d.name = some (.ref fa) →
      ∃ fd : FuncData, (∀ (s : Shared) (u : Value), BindsTo s fd ⟨[u], []⟩ [(x, u)]) ∧ ∀ base : Heap, (K w.params).In base → base.Ns mainGlobals mg → FnG l.prog w (K w.params) mg base k fa fd [x] (sp_law (K w.params))) :
    PySem.W.WalkO q loose XP YP l.row.toRowW d [] (fun f vs => PySem.call f vs) := by
  refine Att.attach_call hn hdf fun w s₀ s₁ mg mb fa o pm cd doc a vs ns G Y ho hd hcd hmg hobj hints hlen hg => ?_
  obtain ⟨fd, hb, hF⟩ := F w mg fa _ (hY w _ Y) G.T.g hmg
  exact law_callG (hY w _ Y) G.T.g G.T.b G.T.builtins G.T.nolimit hg hobj hints (Nat.le_trans hlen hn2) hr hF hb
end G3

set_option Elab.async false
set_option linter.all false
set_option maxRecDepth 100000
set_option maxHeartbeats 4000000
/-! What the written part of the heap says, gathered (printed by gen_fin.py). -/
namespace G3
open PySem PySem.Spec PyProof.Rows L2 M3
def DefIn (K : PySem.W.Frag) (x : Str) (st : Stmt) : Prop := ∃ (f : Addr) (oc : Value) (od an : Option Addr) (osl : Array (Option Value)) (kV doc pm cdv ct : Value), PySem.W.nsIn K mainGlobals x = some (some (.ref f)) ∧
  K.lookup f = some ⟨oc, od, .func (PySem.W.fnOf x x (defArgs st) (defBody st) (defScope st) .none kV doc pm an cdv ct), osl⟩ ∧ PySem.W.codeIn K cdv x = true ∧ PySem.W.keepIn K (.ref f) = true
theorem at_of {K : PySem.W.Frag} {h : Heap} {mg : Str → Option Value} {x : Str} {st : Stmt} {ps : List Str} (X : K.In h) (G : h.Ns mainGlobals mg) (d : DefIn K x st)
    (b : ∀ (kV doc pm : Value) (an : Option Addr) (cdv ct : Value) (us : List Value), us.length = ps.length → bindArgs (PySem.W.fnOf x x (defArgs st) (defBody st) (defScope st) .none kV doc pm an cdv ct) ⟨us, []⟩ = pure (ps.zip us)) : ∃ f fd, At K mg x st ps f fd := by
  obtain ⟨f, oc, od, an, osl, kV, doc, pm, cdv, ct, a, l, c, k⟩ := d
  have F := fun_mk (st := st) l c k
  exact ⟨f, _, PySem.W.mg_of X G a, F, F.binds b⟩
theorem def_in {K : PySem.W.Frag} {x : Str} {st : Stmt} {f : Addr} {oc : Value} {od an : Option Addr} {osl : Array (Option Value)} {kV doc pm cdv ct : Value} (a : PySem.W.nsIn K mainGlobals x = some (some (.ref f)))
    (l : K.lookup f = some ⟨oc, od, .func (PySem.W.fnOf x x (defArgs st) (defBody st) (defScope st) .none kV doc pm an cdv ct), osl⟩) (c : PySem.W.codeIn K cdv x = true) (k : PySem.W.keepIn K (.ref f) = true) : DefIn K x st := ⟨f, oc, od, an, osl, kV, doc, pm, cdv, ct, a, l, c, k⟩
theorem bar_in {K : PySem.W.Frag} {C : Addr} (a : PySem.W.nsIn K mainGlobals "Barred" = some (some (.ref C))) (x : PySem.W.excIn K C [.type "ValueError", .type "Exception", .type "BaseException", .type "object"] "ValueError.__new__" = true) (k : PySem.W.keepIn K (.ref C) = true)
    (s : PySem.W.subIn K (.ref C) (.type "BaseException") = some true) (t : PySem.W.typeIn K (.ref C) = some (.type "type")) (i : PySem.W.isClsIn K C = true) (m : PySem.W.subIn K (.ref C) (.ref C) = some true) :
    ∃ C, PySem.W.nsIn K mainGlobals "Barred" = some (some (.ref C)) ∧ PySem.W.excIn K C [.type "ValueError", .type "Exception", .type "BaseException", .type "object"] "ValueError.__new__" = true ∧ PySem.W.keepIn K (.ref C) = true ∧
      PySem.W.subIn K (.ref C) (.type "BaseException") = some true ∧ PySem.W.typeIn K (.ref C) = some (.type "type") ∧ PySem.W.isClsIn K C = true ∧ PySem.W.subIn K (.ref C) (.ref C) = some true := ⟨C, a, x, k, s, t, i, m⟩
theorem int_in {K : PySem.W.Frag} {x : Str} {i : Int} {t : Tok} (a : PySem.W.nsIn K mainGlobals x = some (some (.int i t))) : ∃ t, PySem.W.nsIn K mainGlobals x = some (some (.int i t)) := ⟨t, a⟩
structure KTxt (K : PySem.W.Frag) : Prop where
  z_isinstance : PySem.W.nsIn K mainGlobals "isinstance" = some none
  z_int : PySem.W.nsIn K mainGlobals "int" = some none
  z_bool : PySem.W.nsIn K mainGlobals "bool" = some none
  z_tuple : PySem.W.nsIn K mainGlobals "tuple" = some none
  z_len : PySem.W.nsIn K mainGlobals "len" = some none
  z_all : PySem.W.nsIn K mainGlobals "all" = some none
  z_any : PySem.W.nsIn K mainGlobals "any" = some none
  z_max : PySem.W.nsIn K mainGlobals "max" = some none
  z_min : PySem.W.nsIn K mainGlobals "min" = some none
  z_sum : PySem.W.nsIn K mainGlobals "sum" = some none
  z_enumerate : PySem.W.nsIn K mainGlobals "enumerate" = some none
  z_range : PySem.W.nsIn K mainGlobals "range" = some none
  z_abs : PySem.W.nsIn K mainGlobals "abs" = some none
  z_divmod : PySem.W.nsIn K mainGlobals "divmod" = some none
  z_repr : PySem.W.nsIn K mainGlobals "repr" = some none
  c_MOST_LIMITS : ∃ t, PySem.W.nsIn K mainGlobals "MOST_LIMITS" = some (some (.int 4 t))
  c_MOST_ASKS : ∃ t, PySem.W.nsIn K mainGlobals "MOST_ASKS" = some (some (.int 6 t))
  c_MOST_MOMENTS : ∃ t, PySem.W.nsIn K mainGlobals "MOST_MOMENTS" = some (some (.int 12 t))
  c_MOST_HOURS : ∃ t, PySem.W.nsIn K mainGlobals "MOST_HOURS" = some (some (.int 12 t))
  c_MOST_ROW : ∃ t, PySem.W.nsIn K mainGlobals "MOST_ROW" = some (some (.int 200 t))
  c_MOST_WINDOW : ∃ t, PySem.W.nsIn K mainGlobals "MOST_WINDOW" = some (some (.int 100 t))
  d_is_whole : DefIn K "is_whole" s_is_whole
  d_is_between : DefIn K "is_between" s_is_between
  d_is_from : DefIn K "is_from" s_is_from
  d_is_tuple_up_to : DefIn K "is_tuple_up_to" s_is_tuple_up_to
  d_is_limit : DefIn K "is_limit" s_is_limit
  d_are_limits : DefIn K "are_limits" s_are_limits
  d_are_hours : DefIn K "are_hours" s_are_hours
  d_is_rules_pair : DefIn K "is_rules_pair" s_is_rules_pair
  d_is_open_at : DefIn K "is_open_at" s_is_open_at
  d_memory_of : DefIn K "memory_of" s_memory_of
  d_is_crowded : DefIn K "is_crowded" s_is_crowded
  d_first_wrong_by : DefIn K "first_wrong_by" s_first_wrong_by
  d_is_polite_by : DefIn K "is_polite_by" s_is_polite_by
  d_check_number : DefIn K "check_number" s_check_number
  d_check_moment : DefIn K "check_moment" s_check_moment
  d_check_limits : DefIn K "check_limits" s_check_limits
  d_are_some_rules : DefIn K "are_some_rules" s_are_some_rules
  d_check_rules : DefIn K "check_rules" s_check_rules
  d_check_asks : DefIn K "check_asks" s_check_asks
  d_check_polite : DefIn K "check_polite" s_check_polite
  d_does_let : DefIn K "does_let" s_does_let
  d_led_counts : DefIn K "led_counts" s_led_counts
  d_does_fit : DefIn K "does_fit" s_does_fit
  d_counts_by : DefIn K "counts_by" s_counts_by
  d_most_now_by : DefIn K "most_now_by" s_most_now_by
  d_waited_by : DefIn K "waited_by" s_waited_by
  d_check_counts : DefIn K "check_counts" s_check_counts
  d_are_counts : DefIn K "are_counts" s_are_counts
  d_counts_at : DefIn K "counts_at" s_counts_at
  d_check_state : DefIn K "check_state" s_check_state
  d_most_now : DefIn K "most_now" s_most_now
  d_lets : DefIn K "lets" s_lets
  d_next_counts : DefIn K "next_counts" s_next_counts
  d_wait : DefIn K "wait" s_wait
  d_is_polite : DefIn K "is_polite" s_is_polite
  d_first_wrong : DefIn K "first_wrong" s_first_wrong
  d_law_well : DefIn K "_law_well" s_law_well
  d_law_pick : DefIn K "_law_pick" s_law_pick
  d_law_one : DefIn K "_law_one" s_law_one
  d_law_open : DefIn K "_law_open" s_law_open
  d_law_may : DefIn K "_law_may" s_law_may
  d_law_some_limits : DefIn K "_law_some_limits" s_law_some_limits
  d_law_some_hours : DefIn K "_law_some_hours" s_law_some_hours
  d_law_greatest : DefIn K "_law_greatest" s_law_greatest
  d_law_led : DefIn K "_law_led" s_law_led
  d_law_wait : DefIn K "_law_wait" s_law_wait
  d_law_moment_right : DefIn K "_law_moment_right" s_law_moment_right
  d_law_right : DefIn K "_law_right" s_law_right
  d_law : DefIn K "law" s_law
  barred : ∃ C, PySem.W.nsIn K mainGlobals "Barred" = some (some (.ref C)) ∧ PySem.W.excIn K C [.type "ValueError", .type "Exception", .type "BaseException", .type "object"] "ValueError.__new__" = true ∧ PySem.W.keepIn K (.ref C) = true ∧
    PySem.W.subIn K (.ref C) (.type "BaseException") = some true ∧ PySem.W.typeIn K (.ref C) = some (.type "type") ∧ PySem.W.isClsIn K C = true ∧ PySem.W.subIn K (.ref C) (.ref C) = some true
theorem int_of {K : PySem.W.Frag} {h : Heap} {mg : Str → Option Value} {x : Str} {i : Int} (X : K.In h) (G : h.Ns mainGlobals mg) (e : ∃ t, PySem.W.nsIn K mainGlobals x = some (some (.int i t))) : ∃ t, mg x = some (.int i t) := by
  obtain ⟨t, e⟩ := e
  exact ⟨t, PySem.W.mg_of X G e⟩
theorem txt_of {K : PySem.W.Frag} {h : Heap} {mg : Str → Option Value} (X : K.In h) (G : h.Ns mainGlobals mg) (k : KTxt K) : Txt K mg where
  z_isinstance := PySem.W.mg_none_of X G k.z_isinstance
  z_int := PySem.W.mg_none_of X G k.z_int
  z_bool := PySem.W.mg_none_of X G k.z_bool
  z_tuple := PySem.W.mg_none_of X G k.z_tuple
  z_len := PySem.W.mg_none_of X G k.z_len
  z_all := PySem.W.mg_none_of X G k.z_all
  z_any := PySem.W.mg_none_of X G k.z_any
  z_max := PySem.W.mg_none_of X G k.z_max
  z_min := PySem.W.mg_none_of X G k.z_min
  z_sum := PySem.W.mg_none_of X G k.z_sum
  z_enumerate := PySem.W.mg_none_of X G k.z_enumerate
  z_range := PySem.W.mg_none_of X G k.z_range
  z_abs := PySem.W.mg_none_of X G k.z_abs
  z_divmod := PySem.W.mg_none_of X G k.z_divmod
  z_repr := PySem.W.mg_none_of X G k.z_repr
  c_MOST_LIMITS := int_of X G k.c_MOST_LIMITS
  c_MOST_ASKS := int_of X G k.c_MOST_ASKS
  c_MOST_MOMENTS := int_of X G k.c_MOST_MOMENTS
  c_MOST_HOURS := int_of X G k.c_MOST_HOURS
  c_MOST_ROW := int_of X G k.c_MOST_ROW
  c_MOST_WINDOW := int_of X G k.c_MOST_WINDOW
  d_is_whole := at_of X G k.d_is_whole fun _ _ _ _ _ _ us hl => match us, hl with | [_], _ => rfl
  d_is_between := at_of X G k.d_is_between fun _ _ _ _ _ _ us hl => match us, hl with | [_, _, _], _ => rfl
  d_is_from := at_of X G k.d_is_from fun _ _ _ _ _ _ us hl => match us, hl with | [_, _], _ => rfl
  d_is_tuple_up_to := at_of X G k.d_is_tuple_up_to fun _ _ _ _ _ _ us hl => match us, hl with | [_, _, _], _ => rfl
  d_is_limit := at_of X G k.d_is_limit fun _ _ _ _ _ _ us hl => match us, hl with | [_], _ => rfl
  d_are_limits := at_of X G k.d_are_limits fun _ _ _ _ _ _ us hl => match us, hl with | [_], _ => rfl
  d_are_hours := at_of X G k.d_are_hours fun _ _ _ _ _ _ us hl => match us, hl with | [_], _ => rfl
  d_is_rules_pair := at_of X G k.d_is_rules_pair fun _ _ _ _ _ _ us hl => match us, hl with | [_, _], _ => rfl
  d_is_open_at := at_of X G k.d_is_open_at fun _ _ _ _ _ _ us hl => match us, hl with | [_, _], _ => rfl
  d_memory_of := at_of X G k.d_memory_of fun _ _ _ _ _ _ us hl => match us, hl with | [_], _ => rfl
  d_is_crowded := at_of X G k.d_is_crowded fun _ _ _ _ _ _ us hl => match us, hl with | [_, _, _], _ => rfl
  d_first_wrong_by := at_of X G k.d_first_wrong_by fun _ _ _ _ _ _ us hl => match us, hl with | [_, _], _ => rfl
  d_is_polite_by := at_of X G k.d_is_polite_by fun _ _ _ _ _ _ us hl => match us, hl with | [_, _], _ => rfl
  d_check_number := at_of X G k.d_check_number fun _ _ _ _ _ _ us hl => match us, hl with | [_, _, _], _ => rfl
  d_check_moment := at_of X G k.d_check_moment fun _ _ _ _ _ _ us hl => match us, hl with | [_], _ => rfl
  d_check_limits := at_of X G k.d_check_limits fun _ _ _ _ _ _ us hl => match us, hl with | [_], _ => rfl
  d_are_some_rules := at_of X G k.d_are_some_rules fun _ _ _ _ _ _ us hl => match us, hl with | [_], _ => rfl
  d_check_rules := at_of X G k.d_check_rules fun _ _ _ _ _ _ us hl => match us, hl with | [_], _ => rfl
  d_check_asks := at_of X G k.d_check_asks fun _ _ _ _ _ _ us hl => match us, hl with | [_], _ => rfl
  d_check_polite := at_of X G k.d_check_polite fun _ _ _ _ _ _ us hl => match us, hl with | [_, _], _ => rfl
  d_does_let := at_of X G k.d_does_let fun _ _ _ _ _ _ us hl => match us, hl with | [_, _, _, _, _], _ => rfl
  d_led_counts := at_of X G k.d_led_counts fun _ _ _ _ _ _ us hl => match us, hl with | [_, _], _ => rfl
  d_does_fit := at_of X G k.d_does_fit fun _ _ _ _ _ _ us hl => match us, hl with | [_, _], _ => rfl
  d_counts_by := at_of X G k.d_counts_by fun _ _ _ _ _ _ us hl => match us, hl with | [_, _, _], _ => rfl
  d_most_now_by := at_of X G k.d_most_now_by fun _ _ _ _ _ _ us hl => match us, hl with | [_, _, _, _], _ => rfl
  d_waited_by := at_of X G k.d_waited_by fun _ _ _ _ _ _ us hl => match us, hl with | [_, _, _, _], _ => rfl
  d_check_counts := at_of X G k.d_check_counts fun _ _ _ _ _ _ us hl => match us, hl with | [_, _], _ => rfl
  d_are_counts := at_of X G k.d_are_counts fun _ _ _ _ _ _ us hl => match us, hl with | [_, _], _ => rfl
  d_counts_at := at_of X G k.d_counts_at fun _ _ _ _ _ _ us hl => match us, hl with | [_, _, _], _ => rfl
  d_check_state := at_of X G k.d_check_state fun _ _ _ _ _ _ us hl => match us, hl with | [_, _, _], _ => rfl
  d_most_now := at_of X G k.d_most_now fun _ _ _ _ _ _ us hl => match us, hl with | [_, _, _], _ => rfl
  d_lets := at_of X G k.d_lets fun _ _ _ _ _ _ us hl => match us, hl with | [_, _, _, _], _ => rfl
  d_next_counts := at_of X G k.d_next_counts fun _ _ _ _ _ _ us hl => match us, hl with | [_, _, _, _], _ => rfl
  d_wait := at_of X G k.d_wait fun _ _ _ _ _ _ us hl => match us, hl with | [_, _, _], _ => rfl
  d_is_polite := at_of X G k.d_is_polite fun _ _ _ _ _ _ us hl => match us, hl with | [_, _], _ => rfl
  d_first_wrong := at_of X G k.d_first_wrong fun _ _ _ _ _ _ us hl => match us, hl with | [_, _], _ => rfl
  d_law_well := at_of X G k.d_law_well fun _ _ _ _ _ _ us hl => match us, hl with | [_, _], _ => rfl
  d_law_pick := at_of X G k.d_law_pick fun _ _ _ _ _ _ us hl => match us, hl with | [_, _], _ => rfl
  d_law_one := at_of X G k.d_law_one fun _ _ _ _ _ _ us hl => match us, hl with | [_, _], _ => rfl
  d_law_open := at_of X G k.d_law_open fun _ _ _ _ _ _ us hl => match us, hl with | [_, _], _ => rfl
  d_law_may := at_of X G k.d_law_may fun _ _ _ _ _ _ us hl => match us, hl with | [_, _, _, _, _], _ => rfl
  d_law_some_limits := at_of X G k.d_law_some_limits fun _ _ _ _ _ _ us hl => match us, hl with | [_, _, _], _ => rfl
  d_law_some_hours := at_of X G k.d_law_some_hours fun _ _ _ _ _ _ us hl => match us, hl with | [_, _], _ => rfl
  d_law_greatest := at_of X G k.d_law_greatest fun _ _ _ _ _ _ us hl => match us, hl with | [_, _, _, _], _ => rfl
  d_law_led := at_of X G k.d_law_led fun _ _ _ _ _ _ us hl => match us, hl with | [_, _, _, _], _ => rfl
  d_law_wait := at_of X G k.d_law_wait fun _ _ _ _ _ _ us hl => match us, hl with | [_, _, _, _], _ => rfl
  d_law_moment_right := at_of X G k.d_law_moment_right fun _ _ _ _ _ _ us hl => match us, hl with | [_, _, _, _, _], _ => rfl
  d_law_right := at_of X G k.d_law_right fun _ _ _ _ _ _ us hl => match us, hl with | [_], _ => rfl
  d_law := at_of X G k.d_law fun _ _ _ _ _ _ us hl => match us, hl with | [_], _ => rfl
  barred := by
    obtain ⟨C, a, r⟩ := k.barred
    exact ⟨C, PySem.W.mg_of X G a, r⟩
theorem law_fin {P : Program} {w : World} {K : PySem.W.Frag} {h : Heap} {mg : Str → Option Value} {fa : Addr} (X : K.In h) (G : h.Ns mainGlobals mg) (hfa : mg "law" = some (.ref fa)) (k : KTxt K) :
    ∃ fd : FuncData, (∀ (s : Shared) (u : Value), BindsTo s fd ⟨[u], []⟩ [("_law_script", u)]) ∧ ∀ base : Heap, K.In base → base.Ns mainGlobals mg → FnG P w K mg base 12 fa fd ["_law_script"] (sp_law K) := by
  have T := txt_of X G k
  obtain ⟨f, oc, od, an, osl, kV, doc, pm, cdv, ct, a, l, c, kk⟩ := k.d_law
  have e := hfa.symm.trans (PySem.W.mg_of X G a)
  cases e
  exact ⟨_, fun s u => .of_eq rfl, fun base _ _ => fn_law T (fun_mk (st := s_law) l c kk)⟩
end G3

set_option Elab.async false
open PySem PySem.W PyProof.Rows
set_option maxRecDepth 100000 in
set_option maxHeartbeats 0 in
theorem PySem.Challenge.cw_gentlerounds_k11_whole_monitors_lead_on_holds : PySem.Challenge.rw_gentlerounds_k11_whole_monitors_lead_on.Holds := by
  w_on; o_law; k_head; (case hw => w_witness2)
  k_fill
  refine G3.walk_G (l := PySem.Challenge.rw_gentlerounds_k11_whole_monitors_lead_on) (k := 12) (x := "_law_script") rfl (by decide) rfl ⟨rfl, by decide, by decide⟩ (fun w h Y => PySem.W.kIn_of Y) ?F
  case F =>
    intro w mg fa h KX G hmg
    refine' G3.law_fin KX G hmg ⟨?z_isinstance, ?z_int, ?z_bool, ?z_tuple, ?z_len, ?z_all, ?z_any, ?z_max, ?z_min, ?z_sum, ?z_enumerate, ?z_range, ?z_abs, ?z_divmod, ?z_repr, ?c_MOST_LIMITS, ?c_MOST_ASKS, ?c_MOST_MOMENTS, ?c_MOST_HOURS, ?c_MOST_ROW, ?c_MOST_WINDOW, ?d_is_whole, ?d_is_between, ?d_is_from, ?d_is_tuple_up_to, ?d_is_limit, ?d_are_limits, ?d_are_hours, ?d_is_rules_pair, ?d_is_open_at, ?d_memory_of, ?d_is_crowded, ?d_first_wrong_by, ?d_is_polite_by, ?d_check_number, ?d_check_moment, ?d_check_limits, ?d_are_some_rules, ?d_check_rules, ?d_check_asks, ?d_check_polite, ?d_does_let, ?d_led_counts, ?d_does_fit, ?d_counts_by, ?d_most_now_by, ?d_waited_by, ?d_check_counts, ?d_are_counts, ?d_counts_at, ?d_check_state, ?d_most_now, ?d_lets, ?d_next_counts, ?d_wait, ?d_is_polite, ?d_first_wrong, ?d_law_well, ?d_law_pick, ?d_law_one, ?d_law_open, ?d_law_may, ?d_law_some_limits, ?d_law_some_hours, ?d_law_greatest, ?d_law_led, ?d_law_wait, ?d_law_moment_right, ?d_law_right, ?d_law, ?barred⟩
    (case z_isinstance => k_is)
    (case z_int => k_is)
    (case z_bool => k_is)
    (case z_tuple => k_is)
    (case z_len => k_is)
    (case z_all => k_is)
    (case z_any => k_is)
    (case z_max => k_is)
    (case z_min => k_is)
    (case z_sum => k_is)
    (case z_enumerate => k_is)
    (case z_range => k_is)
    (case z_abs => k_is)
    (case z_divmod => k_is)
    (case z_repr => k_is)
    (case c_MOST_LIMITS => (refine' G3.int_in ?a; (case a => k_is)))
    (case c_MOST_ASKS => (refine' G3.int_in ?a; (case a => k_is)))
    (case c_MOST_MOMENTS => (refine' G3.int_in ?a; (case a => k_is)))
    (case c_MOST_HOURS => (refine' G3.int_in ?a; (case a => k_is)))
    (case c_MOST_ROW => (refine' G3.int_in ?a; (case a => k_is)))
    (case c_MOST_WINDOW => (refine' G3.int_in ?a; (case a => k_is)))
    (case d_is_whole => (refine' G3.def_in ?a ?l ?c ?k; (case a => k_is); (case l => k_is); (case c => k_is); (case k => k_is)))
    (case d_is_between => (refine' G3.def_in ?a ?l ?c ?k; (case a => k_is); (case l => k_is); (case c => k_is); (case k => k_is)))
    (case d_is_from => (refine' G3.def_in ?a ?l ?c ?k; (case a => k_is); (case l => k_is); (case c => k_is); (case k => k_is)))
    (case d_is_tuple_up_to => (refine' G3.def_in ?a ?l ?c ?k; (case a => k_is); (case l => k_is); (case c => k_is); (case k => k_is)))
    (case d_is_limit => (refine' G3.def_in ?a ?l ?c ?k; (case a => k_is); (case l => k_is); (case c => k_is); (case k => k_is)))
    (case d_are_limits => (refine' G3.def_in ?a ?l ?c ?k; (case a => k_is); (case l => k_is); (case c => k_is); (case k => k_is)))
    (case d_are_hours => (refine' G3.def_in ?a ?l ?c ?k; (case a => k_is); (case l => k_is); (case c => k_is); (case k => k_is)))
    (case d_is_rules_pair => (refine' G3.def_in ?a ?l ?c ?k; (case a => k_is); (case l => k_is); (case c => k_is); (case k => k_is)))
    (case d_is_open_at => (refine' G3.def_in ?a ?l ?c ?k; (case a => k_is); (case l => k_is); (case c => k_is); (case k => k_is)))
    (case d_memory_of => (refine' G3.def_in ?a ?l ?c ?k; (case a => k_is); (case l => k_is); (case c => k_is); (case k => k_is)))
    (case d_is_crowded => (refine' G3.def_in ?a ?l ?c ?k; (case a => k_is); (case l => k_is); (case c => k_is); (case k => k_is)))
    (case d_first_wrong_by => (refine' G3.def_in ?a ?l ?c ?k; (case a => k_is); (case l => k_is); (case c => k_is); (case k => k_is)))
    (case d_is_polite_by => (refine' G3.def_in ?a ?l ?c ?k; (case a => k_is); (case l => k_is); (case c => k_is); (case k => k_is)))
    (case d_check_number => (refine' G3.def_in ?a ?l ?c ?k; (case a => k_is); (case l => k_is); (case c => k_is); (case k => k_is)))
    (case d_check_moment => (refine' G3.def_in ?a ?l ?c ?k; (case a => k_is); (case l => k_is); (case c => k_is); (case k => k_is)))
    (case d_check_limits => (refine' G3.def_in ?a ?l ?c ?k; (case a => k_is); (case l => k_is); (case c => k_is); (case k => k_is)))
    (case d_are_some_rules => (refine' G3.def_in ?a ?l ?c ?k; (case a => k_is); (case l => k_is); (case c => k_is); (case k => k_is)))
    (case d_check_rules => (refine' G3.def_in ?a ?l ?c ?k; (case a => k_is); (case l => k_is); (case c => k_is); (case k => k_is)))
    (case d_check_asks => (refine' G3.def_in ?a ?l ?c ?k; (case a => k_is); (case l => k_is); (case c => k_is); (case k => k_is)))
    (case d_check_polite => (refine' G3.def_in ?a ?l ?c ?k; (case a => k_is); (case l => k_is); (case c => k_is); (case k => k_is)))
    (case d_does_let => (refine' G3.def_in ?a ?l ?c ?k; (case a => k_is); (case l => k_is); (case c => k_is); (case k => k_is)))
    (case d_led_counts => (refine' G3.def_in ?a ?l ?c ?k; (case a => k_is); (case l => k_is); (case c => k_is); (case k => k_is)))
    (case d_does_fit => (refine' G3.def_in ?a ?l ?c ?k; (case a => k_is); (case l => k_is); (case c => k_is); (case k => k_is)))
    (case d_counts_by => (refine' G3.def_in ?a ?l ?c ?k; (case a => k_is); (case l => k_is); (case c => k_is); (case k => k_is)))
    (case d_most_now_by => (refine' G3.def_in ?a ?l ?c ?k; (case a => k_is); (case l => k_is); (case c => k_is); (case k => k_is)))
    (case d_waited_by => (refine' G3.def_in ?a ?l ?c ?k; (case a => k_is); (case l => k_is); (case c => k_is); (case k => k_is)))
    (case d_check_counts => (refine' G3.def_in ?a ?l ?c ?k; (case a => k_is); (case l => k_is); (case c => k_is); (case k => k_is)))
    (case d_are_counts => (refine' G3.def_in ?a ?l ?c ?k; (case a => k_is); (case l => k_is); (case c => k_is); (case k => k_is)))
    (case d_counts_at => (refine' G3.def_in ?a ?l ?c ?k; (case a => k_is); (case l => k_is); (case c => k_is); (case k => k_is)))
    (case d_check_state => (refine' G3.def_in ?a ?l ?c ?k; (case a => k_is); (case l => k_is); (case c => k_is); (case k => k_is)))
    (case d_most_now => (refine' G3.def_in ?a ?l ?c ?k; (case a => k_is); (case l => k_is); (case c => k_is); (case k => k_is)))
    (case d_lets => (refine' G3.def_in ?a ?l ?c ?k; (case a => k_is); (case l => k_is); (case c => k_is); (case k => k_is)))
    (case d_next_counts => (refine' G3.def_in ?a ?l ?c ?k; (case a => k_is); (case l => k_is); (case c => k_is); (case k => k_is)))
    (case d_wait => (refine' G3.def_in ?a ?l ?c ?k; (case a => k_is); (case l => k_is); (case c => k_is); (case k => k_is)))
    (case d_is_polite => (refine' G3.def_in ?a ?l ?c ?k; (case a => k_is); (case l => k_is); (case c => k_is); (case k => k_is)))
    (case d_first_wrong => (refine' G3.def_in ?a ?l ?c ?k; (case a => k_is); (case l => k_is); (case c => k_is); (case k => k_is)))
    (case d_law_well => (refine' G3.def_in ?a ?l ?c ?k; (case a => k_is); (case l => k_is); (case c => k_is); (case k => k_is)))
    (case d_law_pick => (refine' G3.def_in ?a ?l ?c ?k; (case a => k_is); (case l => k_is); (case c => k_is); (case k => k_is)))
    (case d_law_one => (refine' G3.def_in ?a ?l ?c ?k; (case a => k_is); (case l => k_is); (case c => k_is); (case k => k_is)))
    (case d_law_open => (refine' G3.def_in ?a ?l ?c ?k; (case a => k_is); (case l => k_is); (case c => k_is); (case k => k_is)))
    (case d_law_may => (refine' G3.def_in ?a ?l ?c ?k; (case a => k_is); (case l => k_is); (case c => k_is); (case k => k_is)))
    (case d_law_some_limits => (refine' G3.def_in ?a ?l ?c ?k; (case a => k_is); (case l => k_is); (case c => k_is); (case k => k_is)))
    (case d_law_some_hours => (refine' G3.def_in ?a ?l ?c ?k; (case a => k_is); (case l => k_is); (case c => k_is); (case k => k_is)))
    (case d_law_greatest => (refine' G3.def_in ?a ?l ?c ?k; (case a => k_is); (case l => k_is); (case c => k_is); (case k => k_is)))
    (case d_law_led => (refine' G3.def_in ?a ?l ?c ?k; (case a => k_is); (case l => k_is); (case c => k_is); (case k => k_is)))
    (case d_law_wait => (refine' G3.def_in ?a ?l ?c ?k; (case a => k_is); (case l => k_is); (case c => k_is); (case k => k_is)))
    (case d_law_moment_right => (refine' G3.def_in ?a ?l ?c ?k; (case a => k_is); (case l => k_is); (case c => k_is); (case k => k_is)))
    (case d_law_right => (refine' G3.def_in ?a ?l ?c ?k; (case a => k_is); (case l => k_is); (case c => k_is); (case k => k_is)))
    (case d_law => (refine' G3.def_in ?a ?l ?c ?k; (case a => k_is); (case l => k_is); (case c => k_is); (case k => k_is)))
    (case barred => (refine' G3.bar_in ?a ?x ?k ?s ?t ?i ?m; (case a => k_is); (case x => k_exc); (case k => k_is); (case s => k_is); (case t => k_is); (case i => k_is); (case m => first | rfl | k_is)))
