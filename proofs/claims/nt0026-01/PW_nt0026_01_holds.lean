import PyProof.Rows.All
import Wide.All
import OpenK.AllK
import Wide.FinOn
import Lean
import PySem.Challenge.RW_nt0026_01
open PySem PySem.W PyProof.Rows PySem.Calls
set_option Elab.async false
namespace Mine
/- The head by ONE kernel check: the library's o_law, o_head are turned aside here, for their twins (Fast) make 38 MB of compiled file. -/
set_option maxRecDepth 100000 in
noncomputable def seenB : { b : List Stmt // ∃ a0 a1 a2 a3 a4 a5 a6 a7 a8 a9 a10 a11 a12 a13 a14 a15 a16 a17 a18 a19 a20 a21 a22 a23 a24 a25 a26 a27 a28 a29 a30 a31 a32 a33 a34 a35 a36 a37 a38 a39 a40 a41 a42 a43 : Stmt, PySem.Challenge.pw_nt0026_01.main.body = [a0, a1, a2, a3, a4, a5, a6, a7, a8, a9, a10, a11, a12, a13, a14, a15, a16, a17, a18, a19, a20, a21, a22, a23, a24, a25, a26, a27, a28, a29, a30, a31, a32, a33, a34, a35, a36, a37, a38, a39, a40, a41, a42, a43] ∧ b = [a0, a2, a3, a4, a5, a6, a7, a8, a10, a11, a12, a13, a14, a15, a16, a17, a18, a19, a21, a23, a24, a26, a27, a29, a30, a32, a33, a34, a35, a36, a37, a38, a39, a40, a41, a42, a43] } := ⟨_, _, _, _, _, _, _, _, _, _, _, _, _, _, _, _, _, _, _, _, _, _, _, _, _, _, _, _, _, _, _, _, _, _, _, _, _, _, _, _, _, _, _, _, _, rfl, rfl⟩
noncomputable def seen1 : Program := { PySem.Challenge.pw_nt0026_01 with main := { PySem.Challenge.pw_nt0026_01.main with body := seenB.1 } }
set_option maxRecDepth 100000 in
theorem said1 : PySem.Challenge.rw_nt0026_01.wellSaid = true := by
  unfold OpenLaw.wellSaid OpenRow.wellSaid OpenRow.partSaid looksOpen
  repeat' (with_reducible refine look_both ?_ ?_)
  all_goals first
    | (rw [PySem.W.Fast.te8377067652309620493]; decide +kernel)
    | (rw [PySem.W.Fast.te8326940854005059898]; decide +kernel)
    | (rw [PySem.W.Fast.te17119622794617984870]; decide +kernel)
    | (rw [PySem.W.Fast.named_eq]; decide +kernel)
    | decide +kernel
theorem ok1 : (chainsOk seen1 && opensWell PySem.Challenge.rw_nt0026_01.row.prog && (frees (OpenRow.toRowW PySem.Challenge.rw_nt0026_01.row) && (OpenRow.toRowW PySem.Challenge.rw_nt0026_01.row).within.isEmpty)) = true := by decide +kernel
noncomputable def treeOf : List Obj → Nat → BT → BT
  | [], _, t => t
  | o :: r, i, t => treeOf r (i + 1) (t.ins i o)
noncomputable def preS (p : Program) (w : World) (os : OsState) : Shared := match topGo treeTable p w 11 (some (.ref 6)) 12 ⟨boot_heap w.params, { toList := [] }, boot_drawn, boot_toks, os⟩ (topStub p) with
  | some (s, _) => s
  | none => ⟨{}, { toList := [] }, boot_drawn, boot_toks, os⟩
theorem end_top {tb : String → Option Builtin} {p : Program} {w : World} {n₀ : Nat} {ann : Option Value} {c : Code} {pos q : Pos} (s : Shared) : topRun tb p w n₀ ann 2 s ⟨doneF .next, c, pos, [topFrame q]⟩ = some s := by
  obtain ⟨h, gs, d, k, os⟩ := s
  rfl
theorem left_tree {p q : Program} {loose : List Str} {Xt : Shared → Bool} {α : Type} {Yf : Shared → α} {Ya : World → α} {g0 : Bool} {m₀ : Nat} {ann : Option Value} {M : Nat} {env : Env} {c : Code} {pos q0 : Pos} {T₀ : World → OsState → SharedT} (a : opening p = plainProg p.main.scope.names) (f : ∀ s : Shared, fenceModules? p s = some s)
    (z : ∀ w : World, ((boot_heap w.params).isNs mainGlobals && ({ toList := [] } : Array GenState).size == 0, (boot_heap w.params).objs.size, (boot_heap w.params).nsMap mainGlobals "__annotations__") = (true, m₀, ann))
    (pre : ∀ (w : World) (os : OsState), topGo treeTable p w m₀ ann 12 ⟨boot_heap w.params, { toList := [] }, boot_drawn, boot_toks, os⟩ (topStub p) = some ((T₀ w os).abs, ⟨denote treeTable (.body (behindTheImports p) env), c, pos, [topFrame q0]⟩))
    (blk : ∀ (w : World) (os : OsState), segRun treeTable p w m₀ ann 1 1 (T₀ w os).abs (blockOf (behindTheImports p) env c pos [topFrame q0]) = some (.next, (T₀ w os).abs, c, pos))
    (run : ∀ (w : World) (os : OsState), (segRunT treeTable p w m₀ ann 1 M (T₀ w os) ⟨(execs (behindTheImports p) env).wrap doneF deadEnd id id, c, pos, [topFrame q0]⟩).map (fun r => (r.1, r.2.2.1, (staticsOk (importedModules p.main.body) (boot_heap w.params) r.2.1.abs.heap && namesBound p r.2.1.abs.heap && gensDone r.2.1.abs && laidKept (boot_heap w.params) r.2.1.abs.heap), openSeen q loose (importedModules p.main.body) Xt g0 r.2.1.abs, Yf r.2.1.abs)) = some (.next, c, true, openGood q loose, Ya w))
    (le : 12 + (1 + (M + 2)) ≤ 4080) : LeftO p q loose Xt Yf Ya 4080 g0 := fun w => by
  obtain ⟨⟨h, gs, d, k, os⟩, e, e'⟩ := Option.map_eq_some_iff.mp (boot_open (p := p) (N := 4080) a (by decide +kernel) f w)
  obtain ⟨rfl, rfl, rfl, rfl⟩ : h = boot_heap w.params ∧ gs = { toList := [] } ∧ d = boot_drawn ∧ k = boot_toks := by simpa only [Prod.mk.injEq] using Option.some.inj (congrArg some e')
  unfold openEnds
  rw [e, Option.bind_some]
  obtain ⟨z1, z2, z3⟩ : _ ∧ _ ∧ _ := by simpa only [Prod.mk.injEq] using z w
  obtain ⟨⟨fl, s', c', p'⟩, er, ee⟩ := Option.map_eq_some_iff.mp (run w os)
  have ee1 := congrArg (fun x => x.1) ee
  have ee2 := congrArg (fun x => x.2.1) ee
  have l1 := congrArg (fun x => x.2.2.1) ee
  have l2 := congrArg (fun x => x.2.2.2.1) ee
  have l3 := congrArg (fun x => x.2.2.2.2) ee
  dsimp only at ee1 ee2 l1 l2 l3
  subst ee1 ee2
  have r5 := piece_app (rest := []) (segRun_of er) (piece_nil (env := env) (end_top (tb := treeTable) (p := p) (w := w) (n₀ := m₀) (ann := ann) (c := c') (pos := p') (q := q0) s'.abs))
  rw [List.append_nil] at r5
  have r7 := topRun_mono (4080 - (12 + (1 + (M + 2)))) _ _ _ _ (go_top (pre w os) (piece_block (blk w os) r5))
  rw [show 12 + (1 + (M + 2)) + (4080 - (12 + (1 + (M + 2)))) = 4080 by omega] at r7
  have t : topFrom treeTable p w 4080 ⟨boot_heap w.params, { toList := [] }, boot_drawn, boot_toks, os⟩ = some s'.abs := by
    unfold topFrom
    dsimp only
    rw [z1, z2, z3, r7]
    show (match staticsOk (importedModules p.main.body) (boot_heap w.params) s'.abs.heap && namesBound p s'.abs.heap && gensDone s'.abs && laidKept (boot_heap w.params) s'.abs.heap with | true => _ | false => _) = _
    rw [l1]
  rw [t]
  exact congrArg some (Prod.ext l2 l3)
set_option hygiene false in
local macro_rules | `(tactic| o_law) => `(tactic| (refine holds_law ?said1 fun said => ?_; (case said1 => exact Mine.said1)))
set_option hygiene false in
local macro_rules | `(tactic| o_head $H:term) => `(tactic| (
  refine holds_open (q := Mine.seen1) (loose := [Str.ofString "SYLLABLES", Str.ofString "cluster_break"]) (Xt := fun s => xlAt Mine.seen1 [(Str.ofString "SYLLABLES", WData.int 11172)] s && recOk (RowW.records (OpenRow.toRowW (OpenLaw.row PySem.Challenge.rw_nt0026_01))) s) (XP := XL Mine.seen1 [(Str.ofString "SYLLABLES", WData.int 11172)]) (Yf := Hook.obs $H) (Ya := Hook.val $H) (YP := Hook.says $H) (N := 4080) ?hl (Hook.of $H) (Hook.keeps $H) (fun s e => xl_of s (Bool.and_eq_true_iff.mp e).1) XL.keeps (by rfl) (by rfl) (by rfl) (fun s e => recFacts_of (Bool.and_eq_true_iff.mp e).2) (by rfl) (by assumption) Mine.ok1 ⟨rfl, rfl, rfl, rfl, rfl, by decide +kernel⟩ ?hw ?hc
  (case hl => (refine Mine.left_tree (m₀ := 11) (ann := some (.ref 6)) (M := 2100) (pos := ⟨0, 0, 0, 0⟩) (q0 := ⟨0, 0, 0, 0⟩) (env := { scope := PySem.Challenge.pw_nt0026_01.main.scope, locals := mainNs, globals := mainNs, cells := [], code := .ref 13, frame := some 14 }) (c := Code.body (behindTheImports PySem.Challenge.pw_nt0026_01) { scope := PySem.Challenge.pw_nt0026_01.main.scope, locals := mainNs, globals := mainNs, cells := [], code := .ref 13, frame := some 14 }) (T₀ := fun w os => ⟨Mine.treeOf (Mine.preS PySem.Challenge.pw_nt0026_01 w os).heap.objs.toList 0 .nil, 15, {}, { toList := [] }, (Mine.preS PySem.Challenge.pw_nt0026_01 w os).drawn, (Mine.preS PySem.Challenge.pw_nt0026_01 w os).toks, os⟩) (by kernel_rfl) (fun s => by kernel_rfl) (fun w => by kernel_rfl) (fun w os => by kernel_rfl) (fun w os => by kernel_rfl) (fun w os => ?_) (by decide +kernel); rw [PySem.W.Fast.te10110043849684766642, PySem.W.Fast.te14364793385576792824, PySem.W.Fast.te4187177175401517315, PySem.W.Fast.te12563942051412417395]; kernel_rfl))))
set_option maxRecDepth 100000 in
set_option maxHeartbeats 0 in
open_top hd for PySem.Challenge.rw_nt0026_01


local macro_rules | `(tactic| walk_at $s:str) => `(tactic| k_extra $s)
local macro_rules | `(tactic| is_list) => `(tactic| k_extra "is_list")
local macro_rules | `(tactic| k_mem) => `(tactic| k_extra "k_mem")
local macro_rules | `(tactic| k_room) => `(tactic| k_extra "k_room")
local macro_rules | `(tactic| k_qdec) => `(tactic| k_extra "k_qdec")
local macro_rules | `(tactic| k_ne) => `(tactic| k_extra "k_ne")
local macro_rules | `(tactic| l_idx) => `(tactic| k_extra "l_idx")
local macro_rules | `(tactic| k_all) => `(tactic| k_extra "k_all")
local macro_rules | `(tactic| ksw_same) => `(tactic| k_extra "ksw_same")
local macro_rules | `(tactic| k_steps) => `(tactic| k_extra "k_steps")
theorem fresh_base : True := by
  k_with_none
  w_top off
  k_with "is_list" => exact News.isList (by k_asm) (by k_mem)
  k_with "exec While Compare cons nil" => k_extra "my while"
  k_with "exec While BoolOp cons nil" => k_extra "my while"
  k_with "exec While Constant cons nil" => k_extra "my whileT"
  k_with "MPost" => with_reducible first | refine MPost.next ?_ | refine MPost.ret ?_ | refine MPost.brk ?_ | refine MPost.cont ?_
  k_with "seqQ" => with_reducible first | refine seqQ.next ?_ | refine seqQ.ret ?_ | refine seqQ.brk ?_ | refine seqQ.cont ?_
  k_with "my enter" => (
      refine' enter ?k6 ?k7 ?k9 ?kB ?kN ?kU ?c2 ?c3 ?c4 ?c5 ?_
      case k6 => k_is
      case k7 => k_is
      case k9 => first | exact fun _ _ => BindsTo.of_eq rfl | (intro s9ω X9ω; exact binds_K X9ω rfl (by k_is) rfl rfl rfl)
      case kB => exact locs rfl
      case kN => exact rfl
      case kU => exact rfl
      case c2 => exact rfl
      case c3 => exact rfl
      case c4 => exact rfl
      case c5 => decide
      intro dpω unω gdω outerω A₀ω baseω gω h₁ω Lω gnω drω osω tkω meanω mgω mbω Eω Bω Xω Tω hdω huω eω Aω mω hEω Fω Nω)
  k_with "my ret" => (
      first
        | refine Post.ret (by k_asm) ?kN9 ⟨rfl, ?_⟩
        | refine Post.next (by k_asm) ?kN9 ⟨rfl, ?_⟩
      case kN9 => first | k_asm | exact kst_newsOf (by assumption) (by kst_inAny)
      k_extra "my clean")
  k_with "my clean" => ((repeat (rename Fr _ _ _ _ => z9ω; clear z9ω)); (repeat (rename News _ _ _ _ => z9ω; clear z9ω)); (try clear hEω Bω Xω Tω hdω huω))
  k_with "my roomx" => first | exact room_c (by assumption) rfl | exact room_b (by assumption) rfl | exact room_a (by assumption) | exact room_d (by assumption) rfl | exact room_e (by assumption) rfl | exact Nat.le_of_ble_eq_true rfl | omega
  k_with "my room" => ((try dsimp (config := { zetaDelta := true }) only [Around.deeper, Around.mark, Around.in1]); k_extra "my roomx")
  k_with "my sides" => (
      (case k1 => k_asm)
      (case k2 => k_asm)
      (case k3 => k_asm)
      (case k4 => k_asm)
      (case k5 => k_asm)
      (case k6 => exact rfl)
      (case k7 => exact rfl)
      (case k8 => k_extra "my room")
      (case k9 => k_extra "my room"))
  k_with "compareOp In str ref" => (k_here; (with_reducible show wpAny _ _ (compareOp CmpOp.In (Value.str _ _) (Value.ref _)) _ _ _); (with_unfolding_all refine' in_tuple_strs ?k1 ?k2 ?_; (case k1 => first | exact kun_topT (by k_asm) (by k_asm) (by k_is) | exact News.isTup (by k_asm) (by k_mem)); (case k2 => kde_strs); k_whole))
  k_with "compareOp NotIn str ref" => (k_here; (with_reducible show wpAny _ _ (compareOp CmpOp.NotIn (Value.str _ _) (Value.ref _)) _ _ _); (with_unfolding_all refine' notin_tuple_strs ?k1 ?k2 ?_; (case k1 => first | exact kun_topT (by k_asm) (by k_asm) (by k_is) | exact News.isTup (by k_asm) (by k_mem)); (case k2 => kde_strs); k_whole))
  k_with "my plain" => ((intro h9ω tk9ω F9ω N9ω); (try k_sweep))
  k_with "subscriptTail" => k_extra "my item"
  k_with "compareOp In str ref" => k_extra "my in"
  k_with "my plain1" => ((intro u9ω h9ω tk9ω F9ω N9ω); (try k_sweep))
  k_with "compareOp NotEq ref ref" => (k_here; (with_reducible show wpAny _ _ (compareOp CmpOp.NotEq (Value.ref _) (Value.ref _)) _ _ _); (with_unfolding_all refine' ne_intsK ?k1 ?k2 ?k3 ?k4 ?k5 ?_; (case k1 => is_list); (case k2 => l_ints); (case k3 => is_list); (case k4 => l_ints); (case k5 => k_extra "my room"); k_whole))
  k_with "my mem" => first | ktr_member | exact List.Mem.head _ | (refine List.mem_cons_of_mem _ ?_; k_extra "my mem")
  k_with "k_mem" => k_extra "my mem"
  k_with "compareOp NotIn str ref" => k_extra "my notin"
  k_with "call builtin:dict.get" => k_extra "my get"
  k_with "getMethod ref" => k_extra "my getm"
  k_with "setItem ref str" => k_extra "my set"
  k_with "k_room" => ((try dsimp (config := { zetaDelta := true }) only); (try simp only [depth_under_make, depth_under_kw, depth_in1, depth_deeper, depth_caller]); (try dsimp only); k_extra "my roomx")
  k_with "getItem ref str" => k_extra "my gitem"
  k_with "pyIter ref" => k_extra "my for"
  k_with "k_qdec" => decide +kernel
  k_with "my lt" => with_reducible (first | assumption | exact And.left (by assumption) | exact And.left (And.right (by assumption)) | exact And.left (And.right (And.right (by assumption))) | exact And.left (And.right (And.right (And.right (by assumption)))) | exact And.left (And.right (And.right (And.right (And.right (by assumption))))) | exact And.left (And.right (And.right (And.right (And.right (And.right (by assumption)))))) | exact And.left (And.right (And.right (And.right (And.right (And.right (And.right (by assumption))))))) | exact And.left (And.right (And.right (And.right (And.right (And.right (And.right (And.right (by assumption)))))))) | exact And.left (And.right (And.right (And.right (And.right (And.right (And.right (And.right (And.right (by assumption))))))))) | exact And.left (And.right (And.right (And.right (And.right (And.right (And.right (And.right (And.right (And.right (by assumption)))))))))))
  k_with "k_ne" => first | with_reducible assumption | with_reducible exact Ne.symm (by assumption) | (refine Nat.ne_of_lt ?_; k_extra "my lt") | (refine Nat.ne_of_gt ?_; k_extra "my lt") | (refine Nat.ne_of_gt ?_; (repeat (first | exact Nat.lt_succ_self _ | refine Nat.lt_succ_of_lt ?_)); done) | (refine Nat.ne_of_lt ?_; (repeat (first | exact Nat.lt_succ_self _ | refine Nat.lt_succ_of_lt ?_)); done) | (refine neN ?_; (try dsimp only); omega)
  k_with "l_idx" => first | assumption | exact idx_a (by assumption) (by assumption) | exact idx_b (by assumption) | exact idx_c (by assumption) (by assumption)
  k_with "JPost" => with_reducible first | refine JPost.next ?_ | refine JPost.ret ?_ | refine JPost.brk ?_ | refine JPost.cont ?_
  k_with "storeName" => (k_here; k_dflt (refine' storeX_M ?F ?N ?_ ?a ?b; (case F => k_asm); (case N => k_asm); (case a => rfl); (case b => rfl); k_whole); (intro h'ω tk'ω m'ω F'ω N'ω); (try k_sweep))
  k_with "ksw skip" => repeat (first | (refine' ite_skip ?hx ?_; (case hx => first | exact ne_stored (by assumption) rfl | exact h2ω _ (List.Mem.head _) | exact h2ω _ (List.Mem.tail _ (List.Mem.head _)) | exact h2ω _ (List.Mem.tail _ (List.Mem.tail _ (List.Mem.head _))))) | refine ite_skip2 (by assumption) ?_)
  k_with "ksw_same" => (
      intro zω h2ω h3ω
      first
        | rfl
        | (k_extra "ksw skip"; first | rfl | (refine Eq.symm ?_; k_extra "ksw skip"; rfl))
        | ((simp only [List.forall_mem_cons, List.not_mem_nil, false_implies, implies_true, and_true, ne_eq] at h2ω); (simp (zetaDelta := true) [h2ω]; done))
        | ((simp only [List.forall_mem_cons, List.not_mem_nil, false_implies, implies_true, and_true, ne_eq] at h2ω); (simp only [List.contains_cons, List.contains_nil, Bool.or_false, Bool.or_eq_false_iff, beq_eq_false_iff_ne, ne_eq] at h3ω); (simp (zetaDelta := true) [h2ω, h3ω]; done)))
  k_with "execs cons" => (k_here; (first | (refine' norm_M (gn := gnω) (dr := drω) (os := osω) ?F9 ?e9 ?_; (case F9 => k_asm); (case e9 => exact rfl); intro tk9ω) | ((try dsimp only); (try k_gentoks))); first | (with_reducible refine' execs_one ?_) | ((with_reducible refine' execs_let ?_); intro kkω))
  k_with "my leaf" => with_reducible first | show Post _ _ _ _ _ _ _ _ | show JOut _ _ _ _ _ _ _ _ _ | show MEnd _ _ _ _ _ _ _ _ _ _ _ _ _ | show MOut _ _ _ _ _ _ _ _ _ _ _
  k_with "k_steps" => repeat' (first | k_unfold | ((fail_if_success k_extra "my leaf"); first | walk1 | (dsimp only; walk1)) | (leave1; walk_say "STEP leave1"; (try dsimp only)) | fail "no step")
  k_with "my cond" => simp only [true_and, and_true, false_and, and_false, true_or, or_true, false_or, or_false, if_true, if_false, Bool.false_eq_true, Bool.true_eq_false, reduceCtorEq, and_self, or_self, not_true_eq_false, not_false_eq_true]
  k_with "eval Constant int" => (k_here; (with_reducible refine int_M ?_); intro t9ω tk9ω)
  k_with "eval Constant str" => (k_here; (with_reducible refine str_M ?_); intro t9ω tk9ω)
  k_with "binaryOp Add int int" => (k_here; (with_reducible refine add_M ?_); intro t9ω tk9ω)
  k_with "binaryOp Sub int int" => (k_here; (with_reducible refine sub_M ?_); intro t9ω tk9ω)
  trivial
section
/-- what a call of the def f upon vs does, from any frame: it hands back a value, and leaves a ledger -/
noncomputable def Does (w : World) (f : Addr) (vs : List Value) (N U : Nat) (news : List (Addr × Obj)) (Ret : Value → List (Addr × Obj) → Prop) : Prop :=
  ∀ (dp un : Nat) (gd : Option (List Code)) (env : Env) (outer : List Env) (A₀ : Around) (base h₀ : Heap) (L : Addr) (m : Str → Option Value) (s : Shared)
    (mean : ExcName → Option Value) (mg mb : Str → Option Value) (R : Result → Shared → Prop),
    Below A₀ base outer h₀ → Fr h₀ L s.heap m → (Mine.hd.heap_1 w.params).In h₀ → News h₀ L s.heap news →
    Top Mine.seen1 (looseW Mine.seen1 [Str.ofString "SYLLABLES", Str.ofString "cluster_break"]) mean mg mb h₀ →
    env.frame = some L → env.scope.kind = .function → dp + N < recursionLimit → un + U < cLine →
    (∀ (v : Value) (news' : List (Addr × Obj)) (h' : Heap) (tk' : Nat), Fr h₀ L h' m → News h₀ L h' news' → Ret v news' → R (.ok (.ret v)) { s with heap := h', toks := tk' }) →
    codeAny (model PySem.Challenge.rw_nt0026_01.row.prog w) { handled := none, depth := dp, frames := some (env :: outer), guards := gd, units := un } (.call (.ref f) ⟨vs, []⟩) R s

section
variable {w : World} {f : Addr} {vs : List Value} {NN UU : Nat} {news : List (Addr × Obj)} {Ret : Value → List (Addr × Obj) → Prop}
theorem Does.here (C : Does w f vs NN UU news Ret) {dp un : Nat} {gd : Option (List Code)} {env : Env} {outer : List Env} {A₀ : Around} {base h₀ : Heap} {L : Addr} {m : Str → Option Value} {s : Shared}
    {mean : ExcName → Option Value} {mg mb : Str → Option Value} {Q E : Value → Shared → Prop}
    (B : Below A₀ base outer h₀) (F : Fr h₀ L s.heap m) (X : (Mine.hd.heap_1 w.params).In h₀) (N : News h₀ L s.heap news)
    (T : Top Mine.seen1 (looseW Mine.seen1 [Str.ofString "SYLLABLES", Str.ofString "cluster_break"]) mean mg mb h₀)
    (hf : env.frame = some L) (hk : env.scope.kind = .function) (hd : dp + NN < recursionLimit) (hu : un + UU < cLine)
    (h : ∀ (v : Value) (news' : List (Addr × Obj)) (h' : Heap) (tk' : Nat), Fr h₀ L h' m → News h₀ L h' news' → Ret v news' → Q v { s with heap := h', toks := tk' }) :
    wpAny (model PySem.Challenge.rw_nt0026_01.row.prog w) { handled := none, depth := dp, frames := some (env :: outer), guards := gd, units := un } (call (.ref f) vs) Q E s :=
  wpAny_call (C dp un gd env outer A₀ base h₀ L m s mean mg mb _ B F X N T hf hk hd hu fun v news' h' tk' F' N' r => h v news' h' tk' F' N' r)
end

section
variable {w : World} {f : Addr} {vs : List Value} {NN UU : Nat} {news : List (Addr × Obj)} {dp un : Nat} {gd : Option (List Code)} {env : Env} {outer : List Env} {A₀ : Around} {base h₀ h0 : Heap} {L : Addr} {m : Str → Option Value} {gn : Array GenState} {dr : Drawn} {tk : Nat} {os : OsState}
    {mean : ExcName → Option Value} {mg mb : Str → Option Value} {Q E : Value → Shared → Prop}
/-- a call that hands back a value and leaves the ledger -/
theorem Does.val {x : Value} (C : Does w f vs NN UU news (fun r news' => news' = news ∧ r = x))
    (B : Below A₀ base outer h₀) (F : Fr h₀ L h0 m) (X : (Mine.hd.heap_1 w.params).In h₀) (N : News h₀ L h0 news)
    (T : Top Mine.seen1 (looseW Mine.seen1 [Str.ofString "SYLLABLES", Str.ofString "cluster_break"]) mean mg mb h₀)
    (hf : env.frame = some L) (hk : env.scope.kind = .function) (hd : dp + NN < recursionLimit) (hu : un + UU < cLine)
    (h : ∀ (h' : Heap) (tk' : Nat), Fr h₀ L h' m → News h₀ L h' news → Q x ⟨h', gn, dr, tk', os⟩) :
    wpAny (model PySem.Challenge.rw_nt0026_01.row.prog w) { handled := none, depth := dp, frames := some (env :: outer), guards := gd, units := un } (call (.ref f) vs) Q E ⟨h0, gn, dr, tk, os⟩ :=
  Does.here C (s := ⟨h0, gn, dr, tk, os⟩) B F X N T hf hk hd hu fun v news' h' tk' F' N' r => by
    obtain ⟨rfl, rfl⟩ := r
    exact h h' tk' F' N'
/-- the same, the value but for its mark -/
theorem Does.val1 {x : Tok → Value} (C : Does w f vs NN UU news (fun r news' => news' = news ∧ ∃ u, r = x u))
    (B : Below A₀ base outer h₀) (F : Fr h₀ L h0 m) (X : (Mine.hd.heap_1 w.params).In h₀) (N : News h₀ L h0 news)
    (T : Top Mine.seen1 (looseW Mine.seen1 [Str.ofString "SYLLABLES", Str.ofString "cluster_break"]) mean mg mb h₀)
    (hf : env.frame = some L) (hk : env.scope.kind = .function) (hd : dp + NN < recursionLimit) (hu : un + UU < cLine)
    (h : ∀ (u : Tok) (h' : Heap) (tk' : Nat), Fr h₀ L h' m → News h₀ L h' news → Q (x u) ⟨h', gn, dr, tk', os⟩) :
    wpAny (model PySem.Challenge.rw_nt0026_01.row.prog w) { handled := none, depth := dp, frames := some (env :: outer), guards := gd, units := un } (call (.ref f) vs) Q E ⟨h0, gn, dr, tk, os⟩ :=
  Does.here C (s := ⟨h0, gn, dr, tk, os⟩) B F X N T hf hk hd hu fun v news' h' tk' F' N' r => by
    obtain ⟨rfl, u, rfl⟩ := r
    exact h u h' tk' F' N'
end
theorem Does.weak {w : World} {f : Addr} {vs : List Value} {NN UU : Nat} {news : List (Addr × Obj)} {Ret Ret' : Value → List (Addr × Obj) → Prop} (C : Does w f vs NN UU news Ret) (h : ∀ v n, Ret v n → Ret' v n) : Does w f vs NN UU news Ret' :=
  fun dp un gd env outer A₀ base h₀ L m s mean mg mb R B F X N T hf hk hd hu q => C dp un gd env outer A₀ base h₀ L m s mean mg mb R B F X N T hf hk hd hu fun v n h' tk' F' N' r => q v n h' tk' F' N' (h v n r)
/-- the end of a while's turn -/
noncomputable def MEnd {σ : Type} (h₀ : Heap) (L : Addr) (gn : Array GenState) (dr : Drawn) (os : OsState) (ps : σ → List (Str × Value)) (P : σ → Prop) (stored : List Str) (m₀ : Str → Option Value) (μ : σ → Nat) (news : List (Addr × Obj)) (c : σ) (s₂ : Shared) : Prop :=
  ∃ (c' : σ) (h' : Heap) (tk : Nat) (m' : Str → Option Value) (news' : List (Addr × Obj)), s₂ = ⟨h', gn, dr, tk, os⟩ ∧ Fr h₀ L h' m' ∧ News h₀ L h' news' ∧ (∀ p ∈ news, p ∈ news') ∧ (∀ p ∈ ps c', m' p.1 = some p.2) ∧
    (∀ z, (∀ p ∈ ps c', z ≠ p.1) → stored.contains z = false → m' z = m₀ z) ∧ P c' ∧ μ c' < μ c
noncomputable def MPost {σ : Type} (h₀ : Heap) (L : Addr) (gn : Array GenState) (dr : Drawn) (os : OsState) (ps : σ → List (Str × Value)) (P : σ → Prop) (stored : List Str) (m₀ : Str → Option Value) (μ : σ → Nat) (news : List (Addr × Obj)) (Q : Flow → Shared → Prop) (c : σ) (f : Flow) (s₂ : Shared) : Prop :=
  match f with
  | .ret v => Q (.ret v) s₂
  | .brk => Q .next s₂
  | _ => MEnd h₀ L gn dr os ps P stored m₀ μ news c s₂
theorem MEnd.intro {σ : Type} {h₀ : Heap} {L : Addr} {gn : Array GenState} {dr : Drawn} {os : OsState} {ps : σ → List (Str × Value)} {P : σ → Prop} {stored : List Str} {m₀ : Str → Option Value} {μ : σ → Nat} {news : List (Addr × Obj)} {c : σ} (c' : σ) {h' : Heap} {tk : Nat} {m' : Str → Option Value} {news' : List (Addr × Obj)}
    (F : Fr h₀ L h' m') (N : News h₀ L h' news') (hn : ∀ p ∈ news, p ∈ news') (hk : ∀ p ∈ ps c', m' p.1 = some p.2) (hr : ∀ z, (∀ p ∈ ps c', z ≠ p.1) → stored.contains z = false → m' z = m₀ z) (hp : P c') (hm : μ c' < μ c) :
    MEnd h₀ L gn dr os ps P stored m₀ μ news c ⟨h', gn, dr, tk, os⟩ := ⟨c', h', tk, m', news', rfl, F, N, hn, hk, hr, hp, hm⟩

section
variable {prog : Program} {w : World} {A : Around} {E : Value → Shared → Prop} {Q : Flow → Shared → Prop} {h0 : Heap} {gn : Array GenState} {dr : Drawn} {tk₀ : Nat} {os : OsState} {env : Env} {h₀ : Heap} {L : Addr}
/-- a while by its changed names, a word and a measure; the ledger stays -/
theorem m_while {σ : Type} {test : Expr} {body : List Stmt} {pos : Pos} {m₀ : Str → Option Value} {news : List (Addr × Obj)} (ps : σ → List (Str × Value)) (stored : List Str) (P : σ → Prop) (μ : σ → Nat) (c₀ : σ)
    (F : Fr h₀ L h0 m₀) (N : News h₀ L h0 news) (hk : ∀ p ∈ ps c₀, m₀ p.1 = some p.2) (hp : P c₀)
    (turn : ∀ (c : σ) (u : Str → Option Value) h tk, P c → Fr h₀ L h (kstB (fun z => if stored.contains z then u z else m₀ z) (ps c)) → News h₀ L h news →
      wpAny (model prog w) A (isTrue test env (eval test env)) (fun b s₂ =>
        if b = true then wpAny (model prog w) A (execs body env) (MPost h₀ L gn dr os ps P stored m₀ μ news Q c) E s₂ else Q .next s₂) E ⟨h, gn, dr, tk, os⟩)
    (hE : PassesOwn (model prog w) A env E := by passes_own) :
    wpAny (model prog w) A (exec (.While test body [] pos) env) Q E ⟨h0, gn, dr, tk₀, os⟩ := by
  refine ksw_while (fun _ => news) ps (fun _ => True) stored P μ c₀ F N trivial hk hp (fun c u h tk _ hP F' N' => ?_) hE
  refine wpAny_mono (turn c u h tk hP F' N') (fun b s₂ p => ?_) fun _ _ x => x
  cases b with
  | false => simpa using p
  | true =>
    simp only [if_true] at p ⊢
    refine wpAny_mono p (fun fl s₃ q => ?_) fun _ _ x => x
    cases fl with
    | ret v => exact q
    | brk => exact q
    | next => obtain ⟨c', h', tk', m', news', rfl, F', N', hn, hk9, hr9, hp9, hm9⟩ := q; exact ksw_end (s := ⟨h0, gn, dr, tk₀, os⟩) c' F' N' hn trivial hk9 hr9 hp9 hm9
    | cont => obtain ⟨c', h', tk', m', news', rfl, F', N', hn, hk9, hr9, hp9, hm9⟩ := q; exact ksw_end (s := ⟨h0, gn, dr, tk₀, os⟩) c' F' N' hn trivial hk9 hr9 hp9 hm9
/-- the way out of a while -/
noncomputable def MOut {σ : Type} (h₀ : Heap) (L : Addr) (gn : Array GenState) (dr : Drawn) (os : OsState) (ps : σ → List (Str × Value)) (X : σ → Prop) (stored : List Str) (m₀ : Str → Option Value) (news : List (Addr × Obj)) (s₂ : Shared) : Prop :=
  ∃ (c : σ) (h' : Heap) (tk : Nat) (m' : Str → Option Value) (news' : List (Addr × Obj)), s₂ = ⟨h', gn, dr, tk, os⟩ ∧ Fr h₀ L h' m' ∧ News h₀ L h' news' ∧ (∀ p ∈ news, p ∈ news') ∧ (∀ p ∈ ps c, m' p.1 = some p.2) ∧
    (∀ z, (∀ p ∈ ps c, z ≠ p.1) → stored.contains z = false → m' z = m₀ z) ∧ X c
theorem MOut.intro {σ : Type} {h₀ : Heap} {L : Addr} {gn : Array GenState} {dr : Drawn} {os : OsState} {ps : σ → List (Str × Value)} {X : σ → Prop} {stored : List Str} {m₀ : Str → Option Value} {news : List (Addr × Obj)} (c : σ) {h' : Heap} {tk : Nat} {m' : Str → Option Value} {news' : List (Addr × Obj)}
    (F : Fr h₀ L h' m') (N : News h₀ L h' news') (hn : ∀ p ∈ news, p ∈ news') (hk : ∀ p ∈ ps c, m' p.1 = some p.2) (hr : ∀ z, (∀ p ∈ ps c, z ≠ p.1) → stored.contains z = false → m' z = m₀ z) (hx : X c) :
    MOut h₀ L gn dr os ps X stored m₀ news ⟨h', gn, dr, tk, os⟩ := ⟨c, h', tk, m', news', rfl, F, N, hn, hk, hr, hx⟩
/-- the same, what stands behind walked once -/
theorem m_whileX {σ : Type} {test : Expr} {body : List Stmt} {pos : Pos} {m₀ : Str → Option Value} {news : List (Addr × Obj)} (ps : σ → List (Str × Value)) (stored : List Str) (P X : σ → Prop) (μ : σ → Nat) (c₀ : σ)
    (F : Fr h₀ L h0 m₀) (N : News h₀ L h0 news) (hk : ∀ p ∈ ps c₀, m₀ p.1 = some p.2) (hp : P c₀)
    (done : ∀ (c : σ) (u : Str → Option Value) h tk, X c → Fr h₀ L h (kstB (fun z => if stored.contains z then u z else m₀ z) (ps c)) → News h₀ L h news → Q .next ⟨h, gn, dr, tk, os⟩)
    (turn : ∀ (c : σ) (u : Str → Option Value) h tk, P c → Fr h₀ L h (kstB (fun z => if stored.contains z then u z else m₀ z) (ps c)) → News h₀ L h news →
      wpAny (model prog w) A (isTrue test env (eval test env)) (fun b s₂ =>
        if b = true then wpAny (model prog w) A (execs body env) (MPost h₀ L gn dr os ps P stored m₀ μ news Q c) E s₂ else MOut h₀ L gn dr os ps X stored m₀ news s₂) E ⟨h, gn, dr, tk, os⟩)
    (hE : PassesOwn (model prog w) A env E := by passes_own) :
    wpAny (model prog w) A (exec (.While test body [] pos) env) Q E ⟨h0, gn, dr, tk₀, os⟩ := by
  refine m_while ps stored P μ c₀ F N hk hp (fun c u h tk hP F' N' => ?_) hE
  refine wpAny_mono (turn c u h tk hP F' N') (fun b s₂ p => ?_) fun _ _ x => x
  cases b with
  | true => exact p
  | false =>
    simp only [Bool.false_eq_true, if_false] at p ⊢
    obtain ⟨c', h', tk', m', news', rfl, F', N', hn, hk', hr', hx⟩ := p
    exact done c' m' h' tk' hx (ksw_fr hk' hr' F') (fun q hq => N' q (hn q hq))
end

theorem room_a {a N c : Nat} (h : a + N < c) : a < c := Nat.lt_of_le_of_lt (Nat.le_add_right a N) h
theorem room_b {a n N c : Nat} (h : a + N < c) (e : Nat.ble n N = true) : a + n < c := Nat.lt_of_le_of_lt (Nat.add_le_add_left (Nat.le_of_ble_eq_true e) a) h
theorem room_c {a k n N c : Nat} (h : a + N < c) (e : Nat.ble (k + n) N = true) : a + k + n < c := by rw [Nat.add_assoc]; exact room_b h e
theorem room_d {a k j n N c : Nat} (h : a + N < c) (e : Nat.ble (k + j + n) N = true) : a + k + j + n < c := by rw [Nat.add_assoc, Nat.add_assoc, ← Nat.add_assoc k j n]; exact room_b h e
theorem room_e {a k j i n N c : Nat} (h : a + N < c) (e : Nat.ble (k + j + i + n) N = true) : a + k + j + i + n < c := by rw [Nat.add_assoc a k j, Nat.add_assoc a (k + j) i, Nat.add_assoc a (k + j + i) n]; exact room_b h e
theorem len_app {α : Type} {xs ys : List α} {a b : Nat} (h1 : xs.length ≤ a) (h2 : ys.length ≤ b) : (xs ++ ys).length ≤ a + b := by rw [List.length_append]; exact Nat.add_le_add h1 h2
theorem len_take {α : Type} {xs : List α} {k a : Nat} (h : xs.length ≤ a) : (xs.take k).length ≤ a := Nat.le_trans (by rw [List.length_take]; exact Nat.min_le_right _ _) h
theorem len_drop' {α : Type} {xs : List α} {k a : Nat} (h : xs.length ≤ a) : (xs.drop k).length ≤ a := Nat.le_trans (by rw [List.length_drop]; exact Nat.sub_le _ _) h

theorem ts1 {b : Int} (h : 0 ≤ b) : b.toNat + 1 = (b + 1).toNat := by omega
theorem ts2 {b : Int} (h : 0 ≤ b) : b.toNat + 2 = (b + 2).toNat := by omega
theorem tlt1 {b : Int} {n : Nat} (h : 0 ≤ b) : ((b + 1).toNat < n) = (b + 1 < (n : Int)) := by apply propext; omega
theorem tc1 {b : Int} (h : 0 ≤ b) : (((b + 1).toNat : Nat) : Int) = b + 1 := by omega
theorem tc2 {b : Int} (h : 0 ≤ b) : (((b + 2).toNat : Nat) : Int) = b + 2 := by omega
theorem tp1 {a : Int} (h : 1 ≤ a) : a.toNat - 1 = (a - 1).toNat := by omega
theorem lt13 : ∀ k < 13, k = 0 ∨ k = 1 ∨ k = 2 ∨ k = 3 ∨ k = 4 ∨ k = 5 ∨ k = 6 ∨ k = 7 ∨ k = 8 ∨ k = 9 ∨ k = 10 ∨ k = 11 ∨ k = 12 := by decide +kernel
theorem lt5 : ∀ k < 5, k = 0 ∨ k = 1 ∨ k = 2 ∨ k = 3 ∨ k = 4 := by decide +kernel
theorem idx_a {a : Int} {n : Nat} (h0 : 0 ≤ a) (h : a < (n : Int)) : a.toNat < n := by omega
theorem idx_b {n : Nat} (h : n < 100000) : n < 2 ^ 62 := Nat.lt_trans h (by decide)
theorem idx_c {a : Int} {n : Nat} (h : a < (n : Int)) (hl : n < 100000) : a < 2 ^ 63 := by omega
theorem lt_toNat {k : Nat} {n : Int} (h : k < n.toNat) : (k : Int) < n := by omega
theorem eq_toNat {k : Nat} {n : Int} (h : k = n.toNat) (h0 : 0 ≤ n) : (k : Int) = n := by omega
theorem len_nil {α : Type} : ([] : List α).length ≤ 0 := Nat.le_refl 0
theorem len_one {α : Type} {a : α} : [a].length ≤ 1 := Nat.le_refl 1
theorem len_two {α : Type} {a b : α} : [a, b].length ≤ 2 := Nat.le_refl 2
noncomputable def Stop (p : Prop) : Prop := p
theorem Stop.at {p : Prop} (h : Stop p) : p := h
/-- what holds where several ways meet -/
noncomputable def JOut {σ : Type} (h₀ : Heap) (L : Addr) (gn : Array GenState) (dr : Drawn) (os : OsState) (ps : σ → List (Str × Value)) (ld : σ → List (Addr × Obj)) (X : σ → Prop) (s₂ : Shared) : Prop :=
  ∃ (c : σ) (h' : Heap) (tk : Nat) (m' : Str → Option Value), s₂ = ⟨h', gn, dr, tk, os⟩ ∧ Fr h₀ L h' m' ∧ News h₀ L h' (ld c) ∧ (∀ p ∈ ps c, m' p.1 = some p.2) ∧ X c
noncomputable def JPost {σ : Type} (h₀ : Heap) (L : Addr) (gn : Array GenState) (dr : Drawn) (os : OsState) (ps : σ → List (Str × Value)) (ld : σ → List (Addr × Obj)) (X : σ → Prop) (Q : Flow → Shared → Prop) (f : Flow) (s₂ : Shared) : Prop :=
  match f with
  | .next => JOut h₀ L gn dr os ps ld X s₂
  | f => Q f s₂
theorem JOut.intro {σ : Type} {h₀ : Heap} {L : Addr} {gn : Array GenState} {dr : Drawn} {os : OsState} {ps : σ → List (Str × Value)} {ld : σ → List (Addr × Obj)} {X : σ → Prop} (c : σ) {h' : Heap} {tk : Nat} {m' : Str → Option Value} {news : List (Addr × Obj)}
    (F : Fr h₀ L h' m') (N : News h₀ L h' news) (hn : ∀ p ∈ ld c, p ∈ news) (hk : ∀ p ∈ ps c, m' p.1 = some p.2) (hx : X c) : JOut h₀ L gn dr os ps ld X ⟨h', gn, dr, tk, os⟩ :=
  ⟨c, h', tk, m', rfl, F, fun p hp => N p (hn p hp), hk, hx⟩
theorem fr_base {h₀ h : Heap} {L : Addr} {m : Str → Option Value} (F : Fr h₀ L h m) (ps : List (Str × Value)) (hk : ∀ p ∈ ps, m p.1 = some p.2) : ∃ u, Fr h₀ L h (kstB u ps) := by
  refine ⟨m, ?_⟩
  have e : kstB m ps = m := funext fun y => kstB_eq hk fun _ => rfl
  rw [e]; exact F
/-- the ways of a statement meet behind it -/
theorem m_join {σ : Type} {prog : Program} {w : World} {A : Around} {E : Value → Shared → Prop} {Q : Flow → Shared → Prop} {h0 : Heap} {gn : Array GenState} {dr : Drawn} {tk₀ : Nat} {os : OsState} {env : Env} {h₀ : Heap} {L : Addr} {st : Stmt} {rest : List Stmt} {m₀ : Str → Option Value} (_F : Fr h₀ L h0 m₀) (ps : σ → List (Str × Value)) (ld : σ → List (Addr × Obj)) (X : σ → Prop)
    (step : wpAny (model prog w) A (exec st env) (JPost h₀ L gn dr os ps ld X Q) E ⟨h0, gn, dr, tk₀, os⟩)
    (go : ∀ (c : σ) (u : Str → Option Value) h tk, X c → Fr h₀ L h (kstB u (ps c)) → News h₀ L h (ld c) → wpAny (model prog w) A (execs rest env) Q E ⟨h, gn, dr, tk, os⟩) :
    wpAny (model prog w) A (execs (st :: rest) env) Q E ⟨h0, gn, dr, tk₀, os⟩ := by
  refine wpAny_execs_cons (wpAny_mono step (fun f s₂ p => ?_) fun _ _ x => x)
  cases f with
  | next =>
    obtain ⟨c, h', tk', m', rfl, F', N', hk, hx⟩ := p
    obtain ⟨u, F''⟩ := fr_base F' (ps c) hk
    exact go c u h' tk' hx F'' N'
  | _ => exact p
/-- where a call's own walk ends -/
noncomputable def Post (g : Heap) (L : Addr) (gn : Array GenState) (dr : Drawn) (os : OsState) (Ret : Value → List (Addr × Obj) → Prop) (fl : Flow) (s' : Shared) : Prop :=
  ∃ (h' : Heap) (tk : Nat) (m' : Str → Option Value) (news' : List (Addr × Obj)), s' = ⟨h', gn, dr, tk, os⟩ ∧ Fr g L h' m' ∧ News g L h' news' ∧ Ret (match fl with | .ret v => v | _ => .none) news'
theorem Post.ret {g h' : Heap} {L : Addr} {gn : Array GenState} {dr : Drawn} {os : OsState} {Ret : Value → List (Addr × Obj) → Prop} {v : Value} {tk : Nat} {m' : Str → Option Value} {news' : List (Addr × Obj)} (F : Fr g L h' m') (N : News g L h' news') (r : Ret v news') :
    Post g L gn dr os Ret (.ret v) ⟨h', gn, dr, tk, os⟩ := ⟨h', tk, m', news', rfl, F, N, r⟩
theorem Post.next {g h' : Heap} {L : Addr} {gn : Array GenState} {dr : Drawn} {os : OsState} {Ret : Value → List (Addr × Obj) → Prop} {tk : Nat} {m' : Str → Option Value} {news' : List (Addr × Obj)} (F : Fr g L h' m') (N : News g L h' news') (r : Ret .none news') :
    Post g L gn dr os Ret .next ⟨h', gn, dr, tk, os⟩ := ⟨h', tk, m', news', rfl, F, N, r⟩
/-- a def is called: its body walked, in a frame of its own; the frame, the stack and the names' map are said by letters -/
theorem enter {w : World} {f : Addr} {vs : List Value} {NN UU : Nat} {news : List (Addr × Obj)} {Ret : Value → List (Addr × Obj) → Prop} {name qual : Str} {params : Arguments} {body : List Stmt} {scope : Scope} {dV kV doc pm cdv ct oc : Value} {an od : Option Addr} {osl : Array (Option Value)}
    (ho : (Mine.hd.heap_1 w.params).lookup f = some ⟨oc, od, .func (fnOf name qual params body scope dV kV doc pm an cdv ct), osl⟩)
    (hcd : codeIn (Mine.hd.heap_1 w.params) cdv qual = true)
    (hbind : ∀ s : Shared, (Mine.hd.heap_1 w.params).In s.heap → BindsTo s (fnOf name qual params body scope dV kV doc pm an cdv ct) ⟨vs, []⟩ (List.zip (params.args.map (·.arg)) vs))
    (hloc : ∀ y ∈ List.zip (params.args.map (·.arg)) vs, scope.names.lookup y.1 = some .local)
    (hN : Nat.ble 1 NN = true) (hU : Nat.ble 3 UU = true) (hco : scope.isCoroutine = false) (hgen : scope.isGenerator = false) (hk : scope.kind = .function) (hcell : ∀ x ∈ scope.names, x.2 ≠ .cell)
    (h : ∀ (dp un : Nat) (gd : Option (List Code)) (outer : List Env) (A₀ : Around) (base g h₁ : Heap) (L : Addr) (gn : Array GenState) (dr : Drawn) (os : OsState) (tk : Nat) (mean : ExcName → Option Value) (mg mb : Str → Option Value) (E : Value → Shared → Prop),
      Below A₀ base outer g → (Mine.hd.heap_1 w.params).In g → Top Mine.seen1 (looseW Mine.seen1 [Str.ofString "SYLLABLES", Str.ofString "cluster_break"]) mean mg mb g → dp + (NN - 1) < recursionLimit → un + (UU - 3) < cLine →
      let e := envOf qual scope L f cdv
      let A : Around := { handled := none, depth := dp, frames := some (e :: outer), guards := gd, units := un }
      let m := fun y => List.lookup y (List.zip (params.args.map (·.arg)) vs).reverse
      PassesOwn (model PySem.Challenge.rw_nt0026_01.row.prog w) A e E → Fr g L h₁ m → News g L h₁ news →
      wpAny (model PySem.Challenge.rw_nt0026_01.row.prog w) A (execs body e) (Post g L gn dr os Ret) E ⟨h₁, gn, dr, tk, os⟩) :
    Does w f vs NN UU news Ret := by
  intro dp un gd env outer A₀ base h₀ L m s mean mg mb R B F X N T hf hke hd hu hret
  have hN := Nat.le_of_ble_eq_true hN
  have hU := Nat.le_of_ble_eq_true hU
  refine code_def (env := env) (outer := outer) B F X N T rfl hf hke ho hcd (show dp < recursionLimit by omega) (hbind s (X.keeps F.keep)) hloc (fun g L' h₁ FG F' N' B' X' T' => ?_) hco hgen hk hcell
  refine wpAny_mono (h (dp + 1) (un + 3) gd (env :: outer) _ base g h₁ L' s.gens s.drawn s.os _ mean mg mb _ B' X' T' (by omega) (by omega) PassesOwn.leaving F' N') (fun fl s' p => ?_) (fun _ _ x => x)
  obtain ⟨h', tk, m', news', rfl, F'', N'', r⟩ := p
  exact leaveK_ F'' N'' (fun FF NN => hret _ _ _ _ FF NN r)
section
variable {M : Model} {A : Around} {E : Value → Shared → Prop} {h₀ h0 : Heap} {gn : Array GenState} {dr : Drawn} {tk : Nat} {os : OsState} {L a : Addr} {m : Str → Option Value} {cn : Str} {cs : Scope} {ccd : Value} {cl : List (Str × Addr)} {x : Str} {v : Value} {news : List (Addr × Obj)} {env : Env} {k : Nat} {pos : Pos} {i b : Int} {t u : Tok} {prog : Program} {w : World}
theorem storeX_M {Q : Unit → Shared → Prop} (F : Fr h₀ L h0 m) (N : News h₀ L h0 news)
    (h : ∀ h' tk', let m' := fun y => if y = x then some v else m y; Fr h₀ L h' m' → News h₀ L h' news → Q () ⟨h', gn, dr, tk', os⟩)
    (hk : cs.kind = .function := by rfl) (hx : (envX cn cs L a ccd cl).kindOf x = some .local := by rfl) : wpAny M A (storeName (envX cn cs L a ccd cl) x v) Q E ⟨h0, gn, dr, tk, os⟩ :=
  storeX_L (s := ⟨h0, gn, dr, tk, os⟩) F N (fun h' F' N' => h h' _ F' N') hk hx
theorem int_M {Q : Value → Shared → Prop} (h : ∀ t tk', Q (.int i t) ⟨h0, gn, dr, tk', os⟩) : wpAny M A (eval (.Constant (.int i) k pos) env) Q E ⟨h0, gn, dr, tk, os⟩ := wpAny_Constant_int (h _ _)
theorem str_M {Q : Value → Shared → Prop} (h : ∀ t tk', Q (.str x t) ⟨h0, gn, dr, tk', os⟩) : wpAny M A (eval (.Constant (.str x) k pos) env) Q E ⟨h0, gn, dr, tk, os⟩ := Calls.Constant_str (h _ _)
theorem add_M {Q : Value → Shared → Prop} (h : ∀ t tk', Q (.int (i + b) t) ⟨h0, gn, dr, tk', os⟩) : wpAny (model prog w) A (binaryOp .Add (.int i t) (.int b u)) Q E ⟨h0, gn, dr, tk, os⟩ := PyProof.Rows.add_int (h _ _)
theorem sub_M {Q : Value → Shared → Prop} (h : ∀ t tk', Q (.int (i - b) t) ⟨h0, gn, dr, tk', os⟩) : wpAny (model prog w) A (binaryOp .Sub (.int i t) (.int b u)) Q E ⟨h0, gn, dr, tk, os⟩ := PyProof.Rows.sub_int (h _ _)
/-- the state, said plainly -/
theorem norm_M {α : Type} {T : Sem α} {s : Shared} {Q : α → Shared → Prop} (F : Fr h₀ L h0 m) (e : s = ⟨h0, gn, dr, tk, os⟩) (h : ∀ tk', wpAny M A T Q E ⟨h0, gn, dr, tk', os⟩) : wpAny M A T Q E s := by rw [e]; exact h tk
end
theorem ite_skip {z x : Str} {v r : Option Value} {rest : Option Value} (h : z ≠ x) (e : rest = r) : (if z = x then v else rest) = r := by rw [if_neg h]; exact e
theorem ite_skip2 {b : Bool} {v r : Option Value} {rest : Option Value} (h : b = false) (e : rest = r) : (if b = true then v else rest) = r := by rw [h]; exact e
/-- what stands behind a statement, by a letter -/
noncomputable def seqQ (K : Shared → Prop) (Q : Flow → Shared → Prop) (f : Flow) (s : Shared) : Prop :=
  match f with
  | .next => K s
  | f => Q f s
section
variable {K : Shared → Prop} {Q : Flow → Shared → Prop} {v : Value} {s : Shared}
theorem seqQ.next (h : K s) : seqQ K Q .next s := h
theorem seqQ.ret (h : Q (.ret v) s) : seqQ K Q (.ret v) s := h
theorem seqQ.brk (h : Q .brk s) : seqQ K Q .brk s := h
theorem seqQ.cont (h : Q .cont s) : seqQ K Q .cont s := h
end
theorem execs_let {M : Model} {A : Around} {E : Value → Shared → Prop} {s : Shared} {env : Env} {st : Stmt} {rest : List Stmt} {Q : Flow → Shared → Prop}
    (h : let K : Shared → Prop := fun s' => wpAny M A (execs rest env) Q E s'; wpAny M A (exec st env) (seqQ K Q) E s) : wpAny M A (execs (st :: rest) env) Q E s :=
  wpAny_execs_cons (wpAny_mono h (fun f _ p => by cases f <;> exact p) fun _ _ x => x)
theorem execs_one {M : Model} {A : Around} {E : Value → Shared → Prop} {s : Shared} {env : Env} {st : Stmt} {Q : Flow → Shared → Prop}
    (h : wpAny M A (exec st env) Q E s) : wpAny M A (execs [st] env) Q E s :=
  wpAny_execs_cons (wpAny_mono h (fun f _ p => by cases f <;> first | exact wpAny_execs_nil p | exact p) fun _ _ x => x)
theorem ne_stored {z x : Str} {stored : List Str} (h : stored.contains z = false) (hx : stored.contains x = true) : z ≠ x := fun e => by rw [e, hx] at h; cases h
section
variable {σ : Type} {h₀ : Heap} {L : Addr} {gn : Array GenState} {dr : Drawn} {os : OsState} {ps : σ → List (Str × Value)} {P : σ → Prop} {stored : List Str} {m₀ : Str → Option Value} {μ : σ → Nat} {news : List (Addr × Obj)} {Q : Flow → Shared → Prop} {c : σ} {s : Shared} {v : Value} {ld : σ → List (Addr × Obj)} {X : σ → Prop}
theorem MPost.next (h : MEnd h₀ L gn dr os ps P stored m₀ μ news c s) : MPost h₀ L gn dr os ps P stored m₀ μ news Q c .next s := h
theorem MPost.cont (h : MEnd h₀ L gn dr os ps P stored m₀ μ news c s) : MPost h₀ L gn dr os ps P stored m₀ μ news Q c .cont s := h
theorem MPost.brk (h : Q .next s) : MPost h₀ L gn dr os ps P stored m₀ μ news Q c .brk s := h
theorem MPost.ret (h : Q (.ret v) s) : MPost h₀ L gn dr os ps P stored m₀ μ news Q c (.ret v) s := h
theorem JPost.next (h : JOut h₀ L gn dr os ps ld X s) : JPost h₀ L gn dr os ps ld X Q .next s := h
theorem JPost.ret (h : Q (.ret v) s) : JPost h₀ L gn dr os ps ld X Q (.ret v) s := h
theorem JPost.brk (h : Q .brk s) : JPost h₀ L gn dr os ps ld X Q .brk s := h
theorem JPost.cont (h : Q .cont s) : JPost h₀ L gn dr os ps ld X Q .cont s := h
end


end
theorem fresh_place : True := by
  have : Mine.hd.heap_1 = Mine.hd.heap_1 ∧ PySem.Challenge.rw_nt0026_01 = PySem.Challenge.rw_nt0026_01 := by
    k_fill
    exact ⟨rfl, rfl⟩
  trivial
section
/-- binary search, with fuel -/
noncomputable def placeF (ns : List Int) (x : Int) (lo hi : Nat) : Nat → Nat
  | 0 => lo
  | f + 1 => if lo < hi then (if ns.getD ((lo + hi) / 2) 0 ≤ x then placeF ns x ((lo + hi) / 2 + 1) hi f else placeF ns x lo ((lo + hi) / 2) f) else lo
theorem placeF_succ (ns : List Int) (x : Int) (lo hi f : Nat) : placeF ns x lo hi (f + 1) = if lo < hi then (if ns.getD ((lo + hi) / 2) 0 ≤ x then placeF ns x ((lo + hi) / 2 + 1) hi f else placeF ns x lo ((lo + hi) / 2) f) else lo := rfl
theorem placeF_more (ns : List Int) (x : Int) : ∀ (f g lo hi : Nat), hi - lo ≤ f → hi - lo ≤ g → placeF ns x lo hi f = placeF ns x lo hi g
  | 0, 0, _, _, _, _ => rfl
  | 0, g + 1, lo, hi, h, _ => by unfold placeF; rw [if_neg (by omega)]
  | f + 1, 0, lo, hi, _, h => by unfold placeF; rw [if_neg (by omega)]
  | f + 1, g + 1, lo, hi, h1, h2 => by
    unfold placeF
    by_cases hl : lo < hi
    · rw [if_pos hl, if_pos hl, placeF_more ns x f g _ hi (by omega) (by omega), placeF_more ns x f g lo _ (by omega) (by omega)]
    · rw [if_neg hl, if_neg hl]
noncomputable def place (ns : List Int) (x : Int) : Nat := placeF ns x 0 ns.length ns.length
noncomputable def PlaceI (ns : List Int) (x lo hi : Int) : Prop := 0 ≤ lo ∧ lo ≤ hi ∧ hi ≤ ns.length ∧ placeF ns x lo.toNat hi.toNat ns.length = place ns x
theorem place_start (ns : List Int) (x : Int) : PlaceI ns x 0 ns.length := ⟨by omega, by omega, by omega, by simp [place]⟩
theorem place_mid {lo hi : Int} (h0 : 0 ≤ lo) (h : lo < hi) : lo ≤ Int.fdiv (lo + hi) 2 ∧ Int.fdiv (lo + hi) 2 < hi ∧ (Int.fdiv (lo + hi) 2).toNat = (lo.toNat + hi.toNat) / 2 := by
  rw [Int.fdiv_eq_ediv_of_nonneg _ (by decide)]; omega
theorem place_up {ns : List Int} {x lo hi : Int} (I : PlaceI ns x lo hi) (h : lo < hi) (hx : ns.getD (Int.fdiv (lo + hi) 2).toNat 0 ≤ x) : PlaceI ns x (Int.fdiv (lo + hi) 2 + 1) hi := by
  obtain ⟨a, b, c, e⟩ := I
  obtain ⟨m1, m2, m3⟩ := place_mid a h
  refine ⟨by omega, by omega, c, ?_⟩
  rw [← e, placeF_more ns x ns.length (ns.length + 1) lo.toNat hi.toNat (by omega) (by omega)]
  rw [placeF_succ, if_pos (by omega), ← m3, if_pos hx, show (Int.fdiv (lo + hi) 2 + 1).toNat = (Int.fdiv (lo + hi) 2).toNat + 1 by omega]
theorem place_down {ns : List Int} {x lo hi : Int} (I : PlaceI ns x lo hi) (h : lo < hi) (hx : ¬ ns.getD (Int.fdiv (lo + hi) 2).toNat 0 ≤ x) : PlaceI ns x lo (Int.fdiv (lo + hi) 2) := by
  obtain ⟨a, b, c, e⟩ := I
  obtain ⟨m1, m2, m3⟩ := place_mid a h
  refine ⟨a, by omega, by omega, ?_⟩
  rw [← e, placeF_more ns x ns.length (ns.length + 1) lo.toNat hi.toNat (by omega) (by omega)]
  rw [placeF_succ, if_pos (by omega), ← m3, if_neg hx]
theorem place_done {ns : List Int} {x lo hi : Int} (I : PlaceI ns x lo hi) (h : ¬ lo < hi) : lo = place ns x := by
  obtain ⟨a, b, c, e⟩ := I
  rw [← e]
  unfold placeF
  split
  · omega
  · rw [if_neg (by omega)]; omega

set_option maxRecDepth 100000 in
set_option maxHeartbeats 4000000 in
theorem place_does {w : World} {l : Addr} {vs : List Value} {ns : List Int} {x : Int} {t : Tok} {nn : Nat} {news : List (Addr × Obj)}
    (hm : (l, listOf vs.toArray nn) ∈ news) (hi : IntsAre vs ns) (hl : ns.length < 100000) :
    Does w 145 [.ref l, .int x t] 1 12 news (fun v news' => news' = news ∧ ∃ t, v = .int (place ns x - 1) t) := by
  k_with "my while" =>
    rename Fr _ _ _ _ => lF'
    rename News _ _ _ _ => lN'
    with_unfolding_all refine' m_while (σ := Int × Tok × Int × Tok) (fun c => [(Str.ofString "low", .int c.1 c.2.1), (Str.ofString "high", .int c.2.2.1 c.2.2.2)]) [Str.ofString "middle"] (fun c => PlaceI ns x c.1 c.2.2.1) (fun c => (c.2.2.1 - c.1).toNat) ⟨_, _, _, _⟩ lF' lN' ?kk ?kp ?_
    case kk => kst_all
    case kp => exact place_start ns x
    clear lF' lN'
    rintro ⟨lo, t1, hi, t2⟩ u h tk hP F5 N5
    dsimp only [kstB] at F5
    dsimp only at hP
    have hP1 := hP.1
    have hP2 := hP.2.1
    have hP3 := hP.2.2.1
    try k_fold
  k_extra "my enter"
  k_steps
  · refine MEnd.intro ⟨_, _, _, _⟩ (by assumption) (by assumption) (fun _ h => h) (by kst_all) (by ksw_same) (place_up hP (by assumption) (by assumption)) ?_
    have hmid := place_mid hP1 (by assumption)
    show (hi - (Int.fdiv (lo + hi) 2 + 1)).toNat < (hi - lo).toNat
    omega
  · refine MEnd.intro ⟨_, _, _, _⟩ (by assumption) (by assumption) (fun _ h => h) (by kst_all) (by ksw_same) (place_down hP (by assumption) (by assumption)) ?_
    have hmid := place_mid hP1 (by assumption)
    show (Int.fdiv (lo + hi) 2 - lo).toNat < (hi - lo).toNat
    omega
  · k_extra "my ret"
    rw [place_done hP (by assumption)]
    exact ⟨_, rfl⟩


end
theorem fresh_small : True := by
  k_with_none
  w_top off
  k_with "is_list" => exact News.isList (by k_asm) (by k_mem)
  k_with "exec While Compare cons nil" => k_extra "my while"
  k_with "exec While BoolOp cons nil" => k_extra "my while"
  k_with "exec While Constant cons nil" => k_extra "my whileT"
  k_with "MPost" => with_reducible first | refine MPost.next ?_ | refine MPost.ret ?_ | refine MPost.brk ?_ | refine MPost.cont ?_
  k_with "seqQ" => with_reducible first | refine seqQ.next ?_ | refine seqQ.ret ?_ | refine seqQ.brk ?_ | refine seqQ.cont ?_
  k_with "my enter" => (
      refine' enter ?k6 ?k7 ?k9 ?kB ?kN ?kU ?c2 ?c3 ?c4 ?c5 ?_
      case k6 => k_is
      case k7 => k_is
      case k9 => first | exact fun _ _ => BindsTo.of_eq rfl | (intro s9ω X9ω; exact binds_K X9ω rfl (by k_is) rfl rfl rfl)
      case kB => exact locs rfl
      case kN => exact rfl
      case kU => exact rfl
      case c2 => exact rfl
      case c3 => exact rfl
      case c4 => exact rfl
      case c5 => decide
      intro dpω unω gdω outerω A₀ω baseω gω h₁ω Lω gnω drω osω tkω meanω mgω mbω Eω Bω Xω Tω hdω huω eω Aω mω hEω Fω Nω)
  k_with "my ret" => (
      first
        | refine Post.ret (by k_asm) ?kN9 ⟨rfl, ?_⟩
        | refine Post.next (by k_asm) ?kN9 ⟨rfl, ?_⟩
      case kN9 => first | k_asm | exact kst_newsOf (by assumption) (by kst_inAny)
      k_extra "my clean")
  k_with "my clean" => ((repeat (rename Fr _ _ _ _ => z9ω; clear z9ω)); (repeat (rename News _ _ _ _ => z9ω; clear z9ω)); (try clear hEω Bω Xω Tω hdω huω))
  k_with "my roomx" => first | exact room_c (by assumption) rfl | exact room_b (by assumption) rfl | exact room_a (by assumption) | exact room_d (by assumption) rfl | exact room_e (by assumption) rfl | exact Nat.le_of_ble_eq_true rfl | omega
  k_with "my room" => ((try dsimp (config := { zetaDelta := true }) only [Around.deeper, Around.mark, Around.in1]); k_extra "my roomx")
  k_with "my sides" => (
      (case k1 => k_asm)
      (case k2 => k_asm)
      (case k3 => k_asm)
      (case k4 => k_asm)
      (case k5 => k_asm)
      (case k6 => exact rfl)
      (case k7 => exact rfl)
      (case k8 => k_extra "my room")
      (case k9 => k_extra "my room"))
  k_with "compareOp In str ref" => (k_here; (with_reducible show wpAny _ _ (compareOp CmpOp.In (Value.str _ _) (Value.ref _)) _ _ _); (with_unfolding_all refine' in_tuple_strs ?k1 ?k2 ?_; (case k1 => first | exact kun_topT (by k_asm) (by k_asm) (by k_is) | exact News.isTup (by k_asm) (by k_mem)); (case k2 => kde_strs); k_whole))
  k_with "compareOp NotIn str ref" => (k_here; (with_reducible show wpAny _ _ (compareOp CmpOp.NotIn (Value.str _ _) (Value.ref _)) _ _ _); (with_unfolding_all refine' notin_tuple_strs ?k1 ?k2 ?_; (case k1 => first | exact kun_topT (by k_asm) (by k_asm) (by k_is) | exact News.isTup (by k_asm) (by k_mem)); (case k2 => kde_strs); k_whole))
  k_with "my plain" => ((intro h9ω tk9ω F9ω N9ω); (try k_sweep))
  k_with "subscriptTail" => k_extra "my item"
  k_with "compareOp In str ref" => k_extra "my in"
  k_with "my plain1" => ((intro u9ω h9ω tk9ω F9ω N9ω); (try k_sweep))
  k_with "compareOp NotEq ref ref" => (k_here; (with_reducible show wpAny _ _ (compareOp CmpOp.NotEq (Value.ref _) (Value.ref _)) _ _ _); (with_unfolding_all refine' ne_intsK ?k1 ?k2 ?k3 ?k4 ?k5 ?_; (case k1 => is_list); (case k2 => l_ints); (case k3 => is_list); (case k4 => l_ints); (case k5 => k_extra "my room"); k_whole))
  k_with "my mem" => first | ktr_member | exact List.Mem.head _ | (refine List.mem_cons_of_mem _ ?_; k_extra "my mem")
  k_with "k_mem" => k_extra "my mem"
  k_with "compareOp NotIn str ref" => k_extra "my notin"
  k_with "call builtin:dict.get" => k_extra "my get"
  k_with "getMethod ref" => k_extra "my getm"
  k_with "setItem ref str" => k_extra "my set"
  k_with "k_room" => ((try dsimp (config := { zetaDelta := true }) only); (try simp only [depth_under_make, depth_under_kw, depth_in1, depth_deeper, depth_caller]); (try dsimp only); k_extra "my roomx")
  k_with "getItem ref str" => k_extra "my gitem"
  k_with "pyIter ref" => k_extra "my for"
  k_with "k_qdec" => decide +kernel
  k_with "my lt" => with_reducible (first | assumption | exact And.left (by assumption) | exact And.left (And.right (by assumption)) | exact And.left (And.right (And.right (by assumption))) | exact And.left (And.right (And.right (And.right (by assumption)))) | exact And.left (And.right (And.right (And.right (And.right (by assumption))))) | exact And.left (And.right (And.right (And.right (And.right (And.right (by assumption)))))) | exact And.left (And.right (And.right (And.right (And.right (And.right (And.right (by assumption))))))) | exact And.left (And.right (And.right (And.right (And.right (And.right (And.right (And.right (by assumption)))))))) | exact And.left (And.right (And.right (And.right (And.right (And.right (And.right (And.right (And.right (by assumption))))))))) | exact And.left (And.right (And.right (And.right (And.right (And.right (And.right (And.right (And.right (And.right (by assumption)))))))))))
  k_with "k_ne" => first | with_reducible assumption | with_reducible exact Ne.symm (by assumption) | (refine Nat.ne_of_lt ?_; k_extra "my lt") | (refine Nat.ne_of_gt ?_; k_extra "my lt") | (refine Nat.ne_of_gt ?_; (repeat (first | exact Nat.lt_succ_self _ | refine Nat.lt_succ_of_lt ?_)); done) | (refine Nat.ne_of_lt ?_; (repeat (first | exact Nat.lt_succ_self _ | refine Nat.lt_succ_of_lt ?_)); done) | (refine neN ?_; (try dsimp only); omega)
  k_with "l_idx" => first | assumption | exact idx_a (by assumption) (by assumption) | exact idx_b (by assumption) | exact idx_c (by assumption) (by assumption)
  k_with "JPost" => with_reducible first | refine JPost.next ?_ | refine JPost.ret ?_ | refine JPost.brk ?_ | refine JPost.cont ?_
  k_with "storeName" => (k_here; k_dflt (refine' storeX_M ?F ?N ?_ ?a ?b; (case F => k_asm); (case N => k_asm); (case a => rfl); (case b => rfl); k_whole); (intro h'ω tk'ω m'ω F'ω N'ω); (try k_sweep))
  k_with "ksw skip" => repeat (first | (refine' ite_skip ?hx ?_; (case hx => first | exact ne_stored (by assumption) rfl | exact h2ω _ (List.Mem.head _) | exact h2ω _ (List.Mem.tail _ (List.Mem.head _)) | exact h2ω _ (List.Mem.tail _ (List.Mem.tail _ (List.Mem.head _))))) | refine ite_skip2 (by assumption) ?_)
  k_with "ksw_same" => (
      intro zω h2ω h3ω
      first
        | rfl
        | (k_extra "ksw skip"; first | rfl | (refine Eq.symm ?_; k_extra "ksw skip"; rfl))
        | ((simp only [List.forall_mem_cons, List.not_mem_nil, false_implies, implies_true, and_true, ne_eq] at h2ω); (simp (zetaDelta := true) [h2ω]; done))
        | ((simp only [List.forall_mem_cons, List.not_mem_nil, false_implies, implies_true, and_true, ne_eq] at h2ω); (simp only [List.contains_cons, List.contains_nil, Bool.or_false, Bool.or_eq_false_iff, beq_eq_false_iff_ne, ne_eq] at h3ω); (simp (zetaDelta := true) [h2ω, h3ω]; done)))
  k_with "execs cons" => (k_here; (first | (refine' norm_M (gn := gnω) (dr := drω) (os := osω) ?F9 ?e9 ?_; (case F9 => k_asm); (case e9 => exact rfl); intro tk9ω) | ((try dsimp only); (try k_gentoks))); first | (with_reducible refine' execs_one ?_) | ((with_reducible refine' execs_let ?_); intro kkω))
  k_with "my leaf" => with_reducible first | show Post _ _ _ _ _ _ _ _ | show JOut _ _ _ _ _ _ _ _ _ | show MEnd _ _ _ _ _ _ _ _ _ _ _ _ _ | show MOut _ _ _ _ _ _ _ _ _ _ _
  k_with "k_steps" => repeat' (first | k_unfold | ((fail_if_success k_extra "my leaf"); first | walk1 | (dsimp only; walk1)) | (leave1; walk_say "STEP leave1"; (try dsimp only)) | fail "no step")
  k_with "my cond" => simp only [true_and, and_true, false_and, and_false, true_or, or_true, false_or, or_false, if_true, if_false, Bool.false_eq_true, Bool.true_eq_false, reduceCtorEq, and_self, or_self, not_true_eq_false, not_false_eq_true]
  k_with "eval Constant int" => (k_here; (with_reducible refine int_M ?_); intro t9ω tk9ω)
  k_with "eval Constant str" => (k_here; (with_reducible refine str_M ?_); intro t9ω tk9ω)
  k_with "binaryOp Add int int" => (k_here; (with_reducible refine add_M ?_); intro t9ω tk9ω)
  k_with "binaryOp Sub int int" => (k_here; (with_reducible refine sub_M ?_); intro t9ω tk9ω)
  k_with "call ref" => (
      (with_reducible show wpAny _ _ (call (Value.ref 145) _) _ _ _)
      k_dflt (refine' Does.val1 (place_does ?p1 ?p2 ?p3) ?k1 ?k2 ?k3 ?k4 ?k5 ?k6 ?k7 ?k8 ?k9 ?_; k_extra "my sides"; (case p1 => k_mem); (case p2 => assumption); (case p3 => first | assumption | omega))
      k_extra "my plain1")
  trivial
section
noncomputable def sylF (c : Int) : Bool := decide (0 ≤ c - 44032) && decide (c - 44032 < 11172)
noncomputable def joinsF (a b : Str) : Bool :=
  if (a == Str.ofString "L") = true then [Str.ofString "L", Str.ofString "V", Str.ofString "LV", Str.ofString "LVT"].any fun x => x == b
  else if ([Str.ofString "LV", Str.ofString "V"].any fun x => x == a) = true then [Str.ofString "V", Str.ofString "T"].any fun x => x == b
  else ([Str.ofString "LVT", Str.ofString "T"].any fun x => x == a) && b == Str.ofString "T"
noncomputable def kindH (c : Int) : Option Str :=
  if sylF c = true then (if Int.fmod (c - 44032) 28 = 0 then some (Str.ofString "LV") else some (Str.ofString "LVT"))
  else if (4352 ≤ c ∧ c ≤ 4447) ∨ (43360 ≤ c ∧ c ≤ 43388) then some (Str.ofString "L")
  else if (4448 ≤ c ∧ c ≤ 4519) ∨ (55216 ≤ c ∧ c ≤ 55238) then some (Str.ofString "V")
  else if (4520 ≤ c ∧ c ≤ 4607) ∨ (55243 ≤ c ∧ c ≤ 55291) then some (Str.ofString "T")
  else none
noncomputable def strV (o : Option Str) (v : Value) : Prop := match o with
  | some x => ∃ t, v = .str x t
  | none => v = .none
noncomputable def endsF (a : Str) : Bool := [Str.ofString "CR", Str.ofString "LF", Str.ofString "Control"].any fun x => x == a
noncomputable def marksF (a : Str) : Bool := [Str.ofString "Extend", Str.ofString "ZWJ"].any fun x => x == a
noncomputable def jointsF (a : Str) : Bool := [Str.ofString "Extend", Str.ofString "Linker"].any fun x => x == a
noncomputable def pairF (a b : Str) (leg : Bool) : Option Bool :=
  if (a == Str.ofString "CR") = true ∧ (b == Str.ofString "LF") = true then some false
  else if endsF a = true ∨ endsF b = true then some true
  else if joinsF a b = true ∨ marksF b = true then some false
  else if leg = false ∧ ((b == Str.ofString "SpacingMark") = true ∨ (a == Str.ofString "Prepend") = true) then some false
  else none
noncomputable def boolV (o : Option Bool) : Value := match o with
  | some b => .bool b
  | none => .none
set_option maxRecDepth 100000 in
set_option maxHeartbeats 4000000 in
theorem syllable_does {w : World} {c : Int} {t : Tok} {news : List (Addr × Obj)} :
    Does w 28 [.int c t] 1 12 news (fun v news' => news' = news ∧ v = .bool (sylF c)) := by
  k_extra "my enter"
  k_steps
  all_goals (k_extra "my ret"; simp_all [sylF]; try omega)
set_option maxRecDepth 100000 in
set_option maxHeartbeats 4000000 in
theorem joins_does {w : World} {a b : Str} {t t' : Tok} {news : List (Addr × Obj)} :
    Does w 52 [.str a t, .str b t'] 1 12 news (fun v news' => news' = news ∧ v = .bool (joinsF a b)) := by
  k_extra "my enter"
  k_steps
  all_goals (k_extra "my ret"; simp only [joinsF, *]; try simp)
set_option maxRecDepth 100000 in
set_option maxHeartbeats 4000000 in
theorem like_s_does {w : World} {a b : Str} {t t' : Tok} {news : List (Addr × Obj)} :
    Does w 152 [.str a t, .str b t'] 1 12 news (fun v news' => news' = news ∧ v = .bool (a == b)) := by
  k_extra "my enter"
  k_steps
  all_goals (k_extra "my ret"; simp only [*]; try simp)
set_option maxRecDepth 100000 in
set_option maxHeartbeats 4000000 in
theorem like_b_does {w : World} {a b : Bool} {news : List (Addr × Obj)} :
    Does w 152 [.bool a, .bool b] 1 12 news (fun v news' => news' = news ∧ v = .bool (a == b)) := by
  k_extra "my enter"
  k_steps
  all_goals (k_extra "my ret"; simp only [*]; try simp)


end
theorem fresh_pair : True := by
  k_with "call ref" => (
      (with_reducible show wpAny _ _ (call (Value.ref 28) _) _ _ _)
      k_dflt (refine' Does.val syllable_does ?k1 ?k2 ?k3 ?k4 ?k5 ?k6 ?k7 ?k8 ?k9 ?_; k_extra "my sides")
      k_extra "my plain")
  k_with "call ref" => (
      (with_reducible show wpAny _ _ (call (Value.ref 52) _) _ _ _)
      k_dflt (refine' Does.val joins_does ?k1 ?k2 ?k3 ?k4 ?k5 ?k6 ?k7 ?k8 ?k9 ?_; k_extra "my sides")
      k_extra "my plain")
  trivial
section
set_option maxRecDepth 100000 in
set_option maxHeartbeats 4000000 in
theorem pair_does {w : World} {a b : Str} {t t' : Tok} {leg : Bool} {news : List (Addr × Obj)} :
    Does w 59 [.str a t, .str b t', .bool leg] 3 30 news (fun v news' => news' = news ∧ v = boolV (pairF a b leg)) := by
  k_extra "my enter"
  k_steps
  all_goals (k_extra "my ret"; simp only [pairF, endsF, marksF, *]; k_extra "my cond"; rfl)
set_option maxRecDepth 100000 in
set_option maxHeartbeats 4000000 in
theorem kindH_does {w : World} {c : Int} {t : Tok} {news : List (Addr × Obj)} :
    Does w 35 [.int c t] 3 30 news (fun v news' => news' = news ∧ strV (kindH c) v) := by
  k_extra "my enter"
  k_steps
  all_goals (
    k_extra "my ret"
    try simp only [decide_eq_true_eq, decide_eq_false_iff_not] at *
    unfold kindH
    simp only [*]
    first | exact ⟨_, rfl⟩ | rfl | ((try k_extra "my cond"); first | done | exact ⟨_, rfl⟩ | rfl | ((repeat' split) <;> first | exact ⟨_, rfl⟩ | rfl | (exfalso; omega))))


end
section
/-- a map of ranges in the ledger: its starts, its values -/
noncomputable abbrev RMapX (news : List (Addr × Obj)) (a dx : Addr) (ns : List Int) (vs : List Value) : Prop :=
  ∃ h1 t1 v0 h2 t2 ls h3 t3 lv ws, (a, instObj 197 dx) ∈ news ∧
    (dx, dictOf [⟨h1, .str (Str.ofString "default") t1, v0⟩, ⟨h2, .str (Str.ofString "starts") t2, .ref ls⟩, ⟨h3, .str (Str.ofString "values") t3, .ref lv⟩] 3) ∈ news ∧
    (ls, listOf (List.toArray ws) 0) ∈ news ∧ IntsAre ws ns ∧ (lv, listOf (List.toArray vs) 0) ∈ news
noncomputable def RMapAt (news : List (Addr × Obj)) (a : Addr) (ns : List Int) (vs : List Value) : Prop := ∃ dx, RMapX news a dx ns vs
theorem RMapAt.mono {news news' : List (Addr × Obj)} {a : Addr} {ns : List Int} {vs : List Value} (h : RMapAt news a ns vs) (hs : ∀ p ∈ news, p ∈ news') : RMapAt news' a ns vs := by
  obtain ⟨dx, h1, t1, v0, h2, t2, ls, h3, t3, lv, ws, a1, a2, a3, a4, a5⟩ := h
  exact ⟨dx, h1, t1, v0, h2, t2, ls, h3, t3, lv, ws, hs _ a1, hs _ a2, hs _ a3, a4, hs _ a5⟩
section
variable {prog : Program} {w : World} {A : Around} {E : Value → Shared → Prop} {s : Shared} {h₀ : Heap} {L : Addr}
theorem m_item {value slice : Expr} {news : List (Addr × Obj)} {l : Addr} {vs : List Value} {nn : Nat} {k : Int} {u : Tok} {v : Value} {Q : Value → Shared → Prop} (N : News h₀ L s.heap news) (hm : (l, listOf (List.toArray vs) nn) ∈ news)
    (h0 : 0 ≤ k) (hk : k < 2 ^ 63) (hx : vs[k.toNat]? = some v) (h : Q v s)
    (hs : subscripted slice false (.ref l) (.int k u) = operate [.ref l, .int k u] (getItem (.ref l) (.int k u)) := by with_unfolding_all rfl) (hg : ∀ r, letTemporaryGo value (.ref l) r = pure () := by intro _; with_unfolding_all rfl) :
    wpAny (model prog w) A (subscriptTail value slice (.ref l) (.int k u)) Q E s := item_listL (News.isList N hm) h0 hk hx h hs hg
end
set_option maxRecDepth 100000 in
set_option maxHeartbeats 4000000 in
theorem rget_does {w : World} {a : Addr} {ns : List Int} {vs : List Value} {c : Int} {t : Tok} {v : Value} {news : List (Addr × Obj)}
    (R : RMapAt news a ns vs) (hl : ns.length < 100000) (h1 : 1 ≤ place ns c) (hp : place ns c ≤ ns.length) (hv : vs[place ns c - 1]? = some v) :
    Does w 173 [.ref a, .int c t] 3 30 news (fun r news' => news' = news ∧ r = v) := by
  obtain ⟨dx, h1, t1, v0, h2, t2, ls, h3, t3, lv, ws, m1, m2, m3, m4, m5⟩ := R
  k_with "my item" =>
    refine' m_item ?N ?hm ?h0 ?hk ?hx ?_ ?hs ?hg
    case N => k_asm
    case hm => k_mem
    case hs => with_unfolding_all rfl
    case hg => intro _; with_unfolding_all rfl
    case h0 => omega
    case hk => omega
    case hx => (rw [show ((place ns c : Int) - 1).toNat = place ns c - 1 by omega]; exact hv)
  k_extra "my enter"
  k_steps
  all_goals (k_extra "my ret"; rfl)
/-- what a map of ranges tells of a code -/
noncomputable def Tell (T : List Int × List Value) (c : Int) (v : Value) : Prop := T.1.length < 100000 ∧ 1 ≤ place T.1 c ∧ place T.1 c ≤ T.1.length ∧ T.2[place T.1 c - 1]? = some v
theorem rget_does' {w : World} {a : Addr} {T : List Int × List Value} {c : Int} {t : Tok} {v : Value} {news : List (Addr × Obj)} (R : RMapAt news a T.1 T.2) (H : Tell T c v) :
    Does w 173 [.ref a, .int c t] 3 30 news (fun r news' => news' = news ∧ r = v) := rget_does R H.1 H.2.1 H.2.2.1 H.2.2.2
theorem pairS_does {w : World} {a b : Str} {t t' : Tok} {leg r : Bool} {news : List (Addr × Obj)} (h : pairF a b leg = some r) : Does w 59 [.str a t, .str b t', .bool leg] 3 30 news (fun v news' => news' = news ∧ v = .bool r) :=
  Does.weak pair_does fun v n q => ⟨q.1, by have e := q.2; rw [h] at e; exact e⟩
theorem pairN_does {w : World} {a b : Str} {t t' : Tok} {leg : Bool} {news : List (Addr × Obj)} (h : pairF a b leg = none) : Does w 59 [.str a t, .str b t', .bool leg] 3 30 news (fun v news' => news' = news ∧ v = .none) :=
  Does.weak pair_does fun v n q => ⟨q.1, by have e := q.2; rw [h] at e; exact e⟩


end
theorem fresh_data : True := by
  k_with_none
  w_top off
  k_with "is_list" => exact News.isList (by k_asm) (by k_mem)
  k_with "exec While Compare cons nil" => k_extra "my while"
  k_with "exec While BoolOp cons nil" => k_extra "my while"
  k_with "exec While Constant cons nil" => k_extra "my whileT"
  k_with "MPost" => with_reducible first | refine MPost.next ?_ | refine MPost.ret ?_ | refine MPost.brk ?_ | refine MPost.cont ?_
  k_with "seqQ" => with_reducible first | refine seqQ.next ?_ | refine seqQ.ret ?_ | refine seqQ.brk ?_ | refine seqQ.cont ?_
  k_with "my enter" => (
      refine' enter ?k6 ?k7 ?k9 ?kB ?kN ?kU ?c2 ?c3 ?c4 ?c5 ?_
      case k6 => k_is
      case k7 => k_is
      case k9 => first | exact fun _ _ => BindsTo.of_eq rfl | (intro s9ω X9ω; exact binds_K X9ω rfl (by k_is) rfl rfl rfl)
      case kB => exact locs rfl
      case kN => exact rfl
      case kU => exact rfl
      case c2 => exact rfl
      case c3 => exact rfl
      case c4 => exact rfl
      case c5 => decide
      intro dpω unω gdω outerω A₀ω baseω gω h₁ω Lω gnω drω osω tkω meanω mgω mbω Eω Bω Xω Tω hdω huω eω Aω mω hEω Fω Nω)
  k_with "my ret" => (
      first
        | refine Post.ret (by k_asm) ?kN9 ⟨rfl, ?_⟩
        | refine Post.next (by k_asm) ?kN9 ⟨rfl, ?_⟩
      case kN9 => first | k_asm | exact kst_newsOf (by assumption) (by kst_inAny)
      k_extra "my clean")
  k_with "my clean" => ((repeat (rename Fr _ _ _ _ => z9ω; clear z9ω)); (repeat (rename News _ _ _ _ => z9ω; clear z9ω)); (try clear hEω Bω Xω Tω hdω huω))
  k_with "my roomx" => first | exact room_c (by assumption) rfl | exact room_b (by assumption) rfl | exact room_a (by assumption) | exact room_d (by assumption) rfl | exact room_e (by assumption) rfl | exact Nat.le_of_ble_eq_true rfl | omega
  k_with "my room" => ((try dsimp (config := { zetaDelta := true }) only [Around.deeper, Around.mark, Around.in1]); k_extra "my roomx")
  k_with "my sides" => (
      (case k1 => k_asm)
      (case k2 => k_asm)
      (case k3 => k_asm)
      (case k4 => k_asm)
      (case k5 => k_asm)
      (case k6 => exact rfl)
      (case k7 => exact rfl)
      (case k8 => k_extra "my room")
      (case k9 => k_extra "my room"))
  k_with "compareOp In str ref" => (k_here; (with_reducible show wpAny _ _ (compareOp CmpOp.In (Value.str _ _) (Value.ref _)) _ _ _); (with_unfolding_all refine' in_tuple_strs ?k1 ?k2 ?_; (case k1 => first | exact kun_topT (by k_asm) (by k_asm) (by k_is) | exact News.isTup (by k_asm) (by k_mem)); (case k2 => kde_strs); k_whole))
  k_with "compareOp NotIn str ref" => (k_here; (with_reducible show wpAny _ _ (compareOp CmpOp.NotIn (Value.str _ _) (Value.ref _)) _ _ _); (with_unfolding_all refine' notin_tuple_strs ?k1 ?k2 ?_; (case k1 => first | exact kun_topT (by k_asm) (by k_asm) (by k_is) | exact News.isTup (by k_asm) (by k_mem)); (case k2 => kde_strs); k_whole))
  k_with "my plain" => ((intro h9ω tk9ω F9ω N9ω); (try k_sweep))
  k_with "subscriptTail" => k_extra "my item"
  k_with "compareOp In str ref" => k_extra "my in"
  k_with "my plain1" => ((intro u9ω h9ω tk9ω F9ω N9ω); (try k_sweep))
  k_with "compareOp NotEq ref ref" => (k_here; (with_reducible show wpAny _ _ (compareOp CmpOp.NotEq (Value.ref _) (Value.ref _)) _ _ _); (with_unfolding_all refine' ne_intsK ?k1 ?k2 ?k3 ?k4 ?k5 ?_; (case k1 => is_list); (case k2 => l_ints); (case k3 => is_list); (case k4 => l_ints); (case k5 => k_extra "my room"); k_whole))
  k_with "my mem" => first | ktr_member | exact List.Mem.head _ | (refine List.mem_cons_of_mem _ ?_; k_extra "my mem")
  k_with "k_mem" => k_extra "my mem"
  k_with "compareOp NotIn str ref" => k_extra "my notin"
  k_with "call builtin:dict.get" => k_extra "my get"
  k_with "getMethod ref" => k_extra "my getm"
  k_with "setItem ref str" => k_extra "my set"
  k_with "k_room" => ((try dsimp (config := { zetaDelta := true }) only); (try simp only [depth_under_make, depth_under_kw, depth_in1, depth_deeper, depth_caller]); (try dsimp only); k_extra "my roomx")
  k_with "getItem ref str" => k_extra "my gitem"
  k_with "pyIter ref" => k_extra "my for"
  k_with "k_qdec" => decide +kernel
  k_with "my lt" => with_reducible (first | assumption | exact And.left (by assumption) | exact And.left (And.right (by assumption)) | exact And.left (And.right (And.right (by assumption))) | exact And.left (And.right (And.right (And.right (by assumption)))) | exact And.left (And.right (And.right (And.right (And.right (by assumption))))) | exact And.left (And.right (And.right (And.right (And.right (And.right (by assumption)))))) | exact And.left (And.right (And.right (And.right (And.right (And.right (And.right (by assumption))))))) | exact And.left (And.right (And.right (And.right (And.right (And.right (And.right (And.right (by assumption)))))))) | exact And.left (And.right (And.right (And.right (And.right (And.right (And.right (And.right (And.right (by assumption))))))))) | exact And.left (And.right (And.right (And.right (And.right (And.right (And.right (And.right (And.right (And.right (by assumption)))))))))))
  k_with "k_ne" => first | with_reducible assumption | with_reducible exact Ne.symm (by assumption) | (refine Nat.ne_of_lt ?_; k_extra "my lt") | (refine Nat.ne_of_gt ?_; k_extra "my lt") | (refine Nat.ne_of_gt ?_; (repeat (first | exact Nat.lt_succ_self _ | refine Nat.lt_succ_of_lt ?_)); done) | (refine Nat.ne_of_lt ?_; (repeat (first | exact Nat.lt_succ_self _ | refine Nat.lt_succ_of_lt ?_)); done) | (refine neN ?_; (try dsimp only); omega)
  k_with "l_idx" => first | assumption | exact idx_a (by assumption) (by assumption) | exact idx_b (by assumption) | exact idx_c (by assumption) (by assumption)
  k_with "JPost" => with_reducible first | refine JPost.next ?_ | refine JPost.ret ?_ | refine JPost.brk ?_ | refine JPost.cont ?_
  k_with "storeName" => (k_here; k_dflt (refine' storeX_M ?F ?N ?_ ?a ?b; (case F => k_asm); (case N => k_asm); (case a => rfl); (case b => rfl); k_whole); (intro h'ω tk'ω m'ω F'ω N'ω); (try k_sweep))
  k_with "ksw skip" => repeat (first | (refine' ite_skip ?hx ?_; (case hx => first | exact ne_stored (by assumption) rfl | exact h2ω _ (List.Mem.head _) | exact h2ω _ (List.Mem.tail _ (List.Mem.head _)) | exact h2ω _ (List.Mem.tail _ (List.Mem.tail _ (List.Mem.head _))))) | refine ite_skip2 (by assumption) ?_)
  k_with "ksw_same" => (
      intro zω h2ω h3ω
      first
        | rfl
        | (k_extra "ksw skip"; first | rfl | (refine Eq.symm ?_; k_extra "ksw skip"; rfl))
        | ((simp only [List.forall_mem_cons, List.not_mem_nil, false_implies, implies_true, and_true, ne_eq] at h2ω); (simp (zetaDelta := true) [h2ω]; done))
        | ((simp only [List.forall_mem_cons, List.not_mem_nil, false_implies, implies_true, and_true, ne_eq] at h2ω); (simp only [List.contains_cons, List.contains_nil, Bool.or_false, Bool.or_eq_false_iff, beq_eq_false_iff_ne, ne_eq] at h3ω); (simp (zetaDelta := true) [h2ω, h3ω]; done)))
  k_with "execs cons" => (k_here; (first | (refine' norm_M (gn := gnω) (dr := drω) (os := osω) ?F9 ?e9 ?_; (case F9 => k_asm); (case e9 => exact rfl); intro tk9ω) | ((try dsimp only); (try k_gentoks))); first | (with_reducible refine' execs_one ?_) | ((with_reducible refine' execs_let ?_); intro kkω))
  k_with "my leaf" => with_reducible first | show Post _ _ _ _ _ _ _ _ | show JOut _ _ _ _ _ _ _ _ _ | show MEnd _ _ _ _ _ _ _ _ _ _ _ _ _ | show MOut _ _ _ _ _ _ _ _ _ _ _
  k_with "k_steps" => repeat' (first | k_unfold | ((fail_if_success k_extra "my leaf"); first | walk1 | (dsimp only; walk1)) | (leave1; walk_say "STEP leave1"; (try dsimp only)) | fail "no step")
  k_with "my cond" => simp only [true_and, and_true, false_and, and_false, true_or, or_true, false_or, or_false, if_true, if_false, Bool.false_eq_true, Bool.true_eq_false, reduceCtorEq, and_self, or_self, not_true_eq_false, not_false_eq_true]
  k_with "eval Constant int" => (k_here; (with_reducible refine int_M ?_); intro t9ω tk9ω)
  k_with "eval Constant str" => (k_here; (with_reducible refine str_M ?_); intro t9ω tk9ω)
  k_with "binaryOp Add int int" => (k_here; (with_reducible refine add_M ?_); intro t9ω tk9ω)
  k_with "binaryOp Sub int int" => (k_here; (with_reducible refine sub_M ?_); intro t9ω tk9ω)
  k_with "call ref" => (
      (with_reducible show wpAny _ _ (call (Value.ref 145) _) _ _ _)
      k_dflt (refine' Does.val1 (place_does ?p1 ?p2 ?p3) ?k1 ?k2 ?k3 ?k4 ?k5 ?k6 ?k7 ?k8 ?k9 ?_; k_extra "my sides"; (case p1 => k_mem); (case p2 => assumption); (case p3 => first | assumption | omega))
      k_extra "my plain1")
  k_with "call ref" => (
      (with_reducible show wpAny _ _ (call (Value.ref 28) _) _ _ _)
      k_dflt (refine' Does.val syllable_does ?k1 ?k2 ?k3 ?k4 ?k5 ?k6 ?k7 ?k8 ?k9 ?_; k_extra "my sides")
      k_extra "my plain")
  k_with "call ref" => (
      (with_reducible show wpAny _ _ (call (Value.ref 52) _) _ _ _)
      k_dflt (refine' Does.val joins_does ?k1 ?k2 ?k3 ?k4 ?k5 ?k6 ?k7 ?k8 ?k9 ?_; k_extra "my sides")
      k_extra "my plain")
  k_with "call ref" => (
      (with_reducible show wpAny _ _ (call (Value.ref 59) _) _ _ _)
      k_dflt (first
        | (refine' Does.val (pairS_does ?p1) ?k1 ?k2 ?k3 ?k4 ?k5 ?k6 ?k7 ?k8 ?k9 ?_; (case p1 => assumption); k_extra "my sides")
        | (refine' Does.val (pairN_does ?p1) ?k1 ?k2 ?k3 ?k4 ?k5 ?k6 ?k7 ?k8 ?k9 ?_; (case p1 => assumption); k_extra "my sides"))
      k_extra "my plain")
  k_with "call ref" => (
      (with_reducible show wpAny _ _ (call (Value.ref 173) _) _ _ _)
      k_dflt (refine' Does.val (rget_does' (by assumption) (by assumption)) ?k1 ?k2 ?k3 ?k4 ?k5 ?k6 ?k7 ?k8 ?k9 ?_; k_extra "my sides")
      k_extra "my plain")
  trivial
section
noncomputable abbrev Pg : Program := PySem.Challenge.rw_nt0026_01.row.prog
/-- the data in the ledger, by the pairs of its dict of maps -/
noncomputable def DataIn (w : World) (news : List (Addr × Obj)) (dat : Addr) (kvs : List (Str × Value)) : Prop :=
  ∃ dd h1 t1 df h2 t2 dm h3 t3 v3 h4 t4 v4 om, (dat, instObj 246 dd) ∈ news ∧
    (dd, dictOf [⟨h1, .str (Str.ofString "defaults") t1, df⟩, ⟨h2, .str (Str.ofString "maps") t2, .ref dm⟩, ⟨h3, .str (Str.ofString "properties") t3, v3⟩, ⟨h4, .str (Str.ofString "words") t4, v4⟩] 4) ∈ news ∧
    (dm, om) ∈ news ∧ (dm == sysModules) = false ∧ om.IsDictOf (PySem.strKind Pg w) kvs
theorem DataIn.mono {w : World} {news news' : List (Addr × Obj)} {dat : Addr} {kvs : List (Str × Value)} (h : DataIn w news dat kvs) (hs : ∀ p ∈ news, p ∈ news') : DataIn w news' dat kvs := by
  obtain ⟨dd, h1, t1, df, h2, t2, dm, h3, t3, v3, h4, t4, v4, om, a1, a2, a3, a4, a5⟩ := h
  exact ⟨dd, h1, t1, df, h2, t2, dm, h3, t3, v3, h4, t4, v4, om, hs _ a1, hs _ a2, hs _ a3, a4, a5⟩
set_option maxRecDepth 100000 in
set_option maxHeartbeats 4000000 in
theorem dget_does {w : World} {dat : Addr} {kvs : List (Str × Value)} {nm : Str} {rm : Addr} {T : List Int × List Value} {c : Int} {t t' : Tok} {v : Value} {news : List (Addr × Obj)}
    (D : DataIn w news dat kvs) (hk : valueAt kvs nm = some (.ref rm)) (R : RMapAt news rm T.1 T.2) (H : Tell T c v) :
    Does w 236 [.ref dat, .str nm t, .int c t'] 5 50 news (fun r news' => news' = news ∧ r = v) := by
  obtain ⟨dd, h1, t1, df, h2, t2, dm, h3, t3, v3, h4, t4, v4, om, m1, m2, m3, m4, m5⟩ := D
  have R9 := R
  obtain ⟨dx, g1, u1, w0, g2, u2, ls, g3, u3, lv, ws, n1, n2, n3, n4, n5⟩ := R9
  k_with "my in" =>
    refine' kda_in ?N ?hm ?hd ?lo (strKind_is _ _ _ _) true ?hb ?_
    case N => k_asm
    case hm => exact m3
    case hd => exact m5
    case lo => exact m4
    case hb => rw [hk]; rfl
  k_with "my item" =>
    refine' kda_item ?N ?hm ?hd (strKind_is _ _ _ _) hk ?_ ?hs ?hg
    case N => k_asm
    case hm => exact m3
    case hd => exact m5
    case hs => with_unfolding_all rfl
    case hg => intro _; with_unfolding_all rfl
  k_extra "my enter"
  k_steps
  all_goals (k_extra "my ret"; rfl)
/-- the database of three maps -/
noncomputable def DB (w : World) (news : List (Addr × Obj)) (dat : Addr) (G I P : List Int × List Value) : Prop :=
  ∃ kvs rg ri rp, DataIn w news dat kvs ∧ valueAt kvs (Str.ofString "gcb") = some (.ref rg) ∧ valueAt kvs (Str.ofString "incb") = some (.ref ri) ∧ valueAt kvs (Str.ofString "ep") = some (.ref rp) ∧
    RMapAt news rg G.1 G.2 ∧ RMapAt news ri I.1 I.2 ∧ RMapAt news rp P.1 P.2
theorem DB.mono {w : World} {news news' : List (Addr × Obj)} {dat : Addr} {G I P : List Int × List Value} (h : DB w news dat G I P) (hs : ∀ p ∈ news, p ∈ news') : DB w news' dat G I P := by
  obtain ⟨kvs, rg, ri, rp, a1, a2, a3, a4, a5, a6, a7⟩ := h
  exact ⟨kvs, rg, ri, rp, a1.mono hs, a2, a3, a4, a5.mono hs, a6.mono hs, a7.mono hs⟩
/-- what is told of one code: its kind, its word, whether it is a picture -/
structure Cell where
  k : Str
  i : Str
  p : Bool
noncomputable def kindOf (g : Str) (c : Int) : Str := if (g == Str.ofString "Other") = true then (kindH c).getD g else g
noncomputable def CellOf (G I P : List Int × List Value) (c : Int) (x : Cell) : Prop :=
  ∃ g tg ti, Tell G c (.str g tg) ∧ Tell I c (.str x.i ti) ∧ Tell P c (.bool x.p) ∧ x.k = kindOf g c
noncomputable def c0 : Cell := ⟨Str.ofString "", Str.ofString "", false⟩
structure Cells (G I P : List Int × List Value) (codes : List Int) (cells : List Cell) : Prop where
  len : codes.length = cells.length
  at' : ∀ k, k < codes.length → CellOf G I P (codes.getD k 0) (cells.getD k c0)
theorem dgetI_does {w : World} {dat : Addr} {G I P : List Int × List Value} {c : Int} {x : Cell} {t t' : Tok} {news : List (Addr × Obj)} (D : DB w news dat G I P) (H : CellOf G I P c x) :
    Does w 236 [.ref dat, .str (Str.ofString "incb") t, .int c t'] 5 50 news (fun r news' => news' = news ∧ ∃ u, r = .str x.i u) := by
  obtain ⟨kvs, rg, ri, rp, a1, a2, a3, a4, a5, a6, a7⟩ := D
  obtain ⟨g, tg, ti, b1, b2, b3, b4⟩ := H
  exact Does.weak (dget_does a1 a3 a6 b2) fun v n h => ⟨h.1, ti, h.2⟩
theorem dgetP_does {w : World} {dat : Addr} {G I P : List Int × List Value} {c : Int} {x : Cell} {t t' : Tok} {news : List (Addr × Obj)} (D : DB w news dat G I P) (H : CellOf G I P c x) :
    Does w 236 [.ref dat, .str (Str.ofString "ep") t, .int c t'] 5 50 news (fun r news' => news' = news ∧ r = .bool x.p) := by
  obtain ⟨kvs, rg, ri, rp, a1, a2, a3, a4, a5, a6, a7⟩ := D
  obtain ⟨g, tg, ti, b1, b2, b3, b4⟩ := H
  exact dget_does a1 a4 a7 b3
theorem dgetG_does {w : World} {dat : Addr} {G I P : List Int × List Value} {c : Int} {g : Str} {tg : Tok} {t t' : Tok} {news : List (Addr × Obj)} (D : DB w news dat G I P) (H : Tell G c (.str g tg)) :
    Does w 236 [.ref dat, .str (Str.ofString "gcb") t, .int c t'] 5 50 news (fun r news' => news' = news ∧ r = .str g tg) := by
  obtain ⟨kvs, rg, ri, rp, a1, a2, a3, a4, a5, a6, a7⟩ := D
  exact dget_does a1 a2 a5 H
theorem kindHs_does {w : World} {c : Int} {k : Str} {t : Tok} {news : List (Addr × Obj)} (h : kindH c = some k) : Does w 35 [.int c t] 3 30 news (fun v news' => news' = news ∧ ∃ u, v = .str k u) :=
  Does.weak kindH_does fun v n r => ⟨r.1, by have q := r.2; rw [h] at q; exact q⟩
theorem kindHn_does {w : World} {c : Int} {t : Tok} {news : List (Addr × Obj)} (h : kindH c = none) : Does w 35 [.int c t] 3 30 news (fun v news' => news' = news ∧ v = .none) :=
  Does.weak kindH_does fun v n r => ⟨r.1, by have q := r.2; rw [h] at q; exact q⟩
theorem DB.inst {w : World} {news : List (Addr × Obj)} {dat : Addr} {G I P : List Int × List Value} (D : DB w news dat G I P) : ∃ dd h1 t1 df h2 t2 dm h3 t3 v3 h4 t4 v4, (dat, instObj 246 dd) ∈ news ∧
    (dd, dictOf [⟨h1, .str (Str.ofString "defaults") t1, df⟩, ⟨h2, .str (Str.ofString "maps") t2, .ref dm⟩, ⟨h3, .str (Str.ofString "properties") t3, v3⟩, ⟨h4, .str (Str.ofString "words") t4, v4⟩] 4) ∈ news := by
  obtain ⟨kvs, rg, ri, rp, ⟨dd, h1, t1, df, h2, t2, dm, h3, t3, v3, h4, t4, v4, om, a1, a2, _⟩, _⟩ := D
  exact ⟨dd, h1, t1, df, h2, t2, dm, h3, t3, v3, h4, t4, v4, a1, a2⟩


end
theorem fresh_kind : True := by
  k_with_none
  w_top off
  k_with "is_list" => exact News.isList (by k_asm) (by k_mem)
  k_with "exec While Compare cons nil" => k_extra "my while"
  k_with "exec While BoolOp cons nil" => k_extra "my while"
  k_with "exec While Constant cons nil" => k_extra "my whileT"
  k_with "MPost" => with_reducible first | refine MPost.next ?_ | refine MPost.ret ?_ | refine MPost.brk ?_ | refine MPost.cont ?_
  k_with "seqQ" => with_reducible first | refine seqQ.next ?_ | refine seqQ.ret ?_ | refine seqQ.brk ?_ | refine seqQ.cont ?_
  k_with "my enter" => (
      refine' enter ?k6 ?k7 ?k9 ?kB ?kN ?kU ?c2 ?c3 ?c4 ?c5 ?_
      case k6 => k_is
      case k7 => k_is
      case k9 => first | exact fun _ _ => BindsTo.of_eq rfl | (intro s9ω X9ω; exact binds_K X9ω rfl (by k_is) rfl rfl rfl)
      case kB => exact locs rfl
      case kN => exact rfl
      case kU => exact rfl
      case c2 => exact rfl
      case c3 => exact rfl
      case c4 => exact rfl
      case c5 => decide
      intro dpω unω gdω outerω A₀ω baseω gω h₁ω Lω gnω drω osω tkω meanω mgω mbω Eω Bω Xω Tω hdω huω eω Aω mω hEω Fω Nω)
  k_with "my ret" => (
      first
        | refine Post.ret (by k_asm) ?kN9 ⟨rfl, ?_⟩
        | refine Post.next (by k_asm) ?kN9 ⟨rfl, ?_⟩
      case kN9 => first | k_asm | exact kst_newsOf (by assumption) (by kst_inAny)
      k_extra "my clean")
  k_with "my clean" => ((repeat (rename Fr _ _ _ _ => z9ω; clear z9ω)); (repeat (rename News _ _ _ _ => z9ω; clear z9ω)); (try clear hEω Bω Xω Tω hdω huω))
  k_with "my roomx" => first | exact room_c (by assumption) rfl | exact room_b (by assumption) rfl | exact room_a (by assumption) | exact room_d (by assumption) rfl | exact room_e (by assumption) rfl | exact Nat.le_of_ble_eq_true rfl | omega
  k_with "my room" => ((try dsimp (config := { zetaDelta := true }) only [Around.deeper, Around.mark, Around.in1]); k_extra "my roomx")
  k_with "my sides" => (
      (case k1 => k_asm)
      (case k2 => k_asm)
      (case k3 => k_asm)
      (case k4 => k_asm)
      (case k5 => k_asm)
      (case k6 => exact rfl)
      (case k7 => exact rfl)
      (case k8 => k_extra "my room")
      (case k9 => k_extra "my room"))
  k_with "compareOp In str ref" => (k_here; (with_reducible show wpAny _ _ (compareOp CmpOp.In (Value.str _ _) (Value.ref _)) _ _ _); (with_unfolding_all refine' in_tuple_strs ?k1 ?k2 ?_; (case k1 => first | exact kun_topT (by k_asm) (by k_asm) (by k_is) | exact News.isTup (by k_asm) (by k_mem)); (case k2 => kde_strs); k_whole))
  k_with "compareOp NotIn str ref" => (k_here; (with_reducible show wpAny _ _ (compareOp CmpOp.NotIn (Value.str _ _) (Value.ref _)) _ _ _); (with_unfolding_all refine' notin_tuple_strs ?k1 ?k2 ?_; (case k1 => first | exact kun_topT (by k_asm) (by k_asm) (by k_is) | exact News.isTup (by k_asm) (by k_mem)); (case k2 => kde_strs); k_whole))
  k_with "my plain" => ((intro h9ω tk9ω F9ω N9ω); (try k_sweep))
  k_with "subscriptTail" => k_extra "my item"
  k_with "compareOp In str ref" => k_extra "my in"
  k_with "my plain1" => ((intro u9ω h9ω tk9ω F9ω N9ω); (try k_sweep))
  k_with "compareOp NotEq ref ref" => (k_here; (with_reducible show wpAny _ _ (compareOp CmpOp.NotEq (Value.ref _) (Value.ref _)) _ _ _); (with_unfolding_all refine' ne_intsK ?k1 ?k2 ?k3 ?k4 ?k5 ?_; (case k1 => is_list); (case k2 => l_ints); (case k3 => is_list); (case k4 => l_ints); (case k5 => k_extra "my room"); k_whole))
  k_with "my mem" => first | ktr_member | exact List.Mem.head _ | (refine List.mem_cons_of_mem _ ?_; k_extra "my mem")
  k_with "k_mem" => k_extra "my mem"
  k_with "compareOp NotIn str ref" => k_extra "my notin"
  k_with "call builtin:dict.get" => k_extra "my get"
  k_with "getMethod ref" => k_extra "my getm"
  k_with "setItem ref str" => k_extra "my set"
  k_with "k_room" => ((try dsimp (config := { zetaDelta := true }) only); (try simp only [depth_under_make, depth_under_kw, depth_in1, depth_deeper, depth_caller]); (try dsimp only); k_extra "my roomx")
  k_with "getItem ref str" => k_extra "my gitem"
  k_with "pyIter ref" => k_extra "my for"
  k_with "k_qdec" => decide +kernel
  k_with "my lt" => with_reducible (first | assumption | exact And.left (by assumption) | exact And.left (And.right (by assumption)) | exact And.left (And.right (And.right (by assumption))) | exact And.left (And.right (And.right (And.right (by assumption)))) | exact And.left (And.right (And.right (And.right (And.right (by assumption))))) | exact And.left (And.right (And.right (And.right (And.right (And.right (by assumption)))))) | exact And.left (And.right (And.right (And.right (And.right (And.right (And.right (by assumption))))))) | exact And.left (And.right (And.right (And.right (And.right (And.right (And.right (And.right (by assumption)))))))) | exact And.left (And.right (And.right (And.right (And.right (And.right (And.right (And.right (And.right (by assumption))))))))) | exact And.left (And.right (And.right (And.right (And.right (And.right (And.right (And.right (And.right (And.right (by assumption)))))))))))
  k_with "k_ne" => first | with_reducible assumption | with_reducible exact Ne.symm (by assumption) | (refine Nat.ne_of_lt ?_; k_extra "my lt") | (refine Nat.ne_of_gt ?_; k_extra "my lt") | (refine Nat.ne_of_gt ?_; (repeat (first | exact Nat.lt_succ_self _ | refine Nat.lt_succ_of_lt ?_)); done) | (refine Nat.ne_of_lt ?_; (repeat (first | exact Nat.lt_succ_self _ | refine Nat.lt_succ_of_lt ?_)); done) | (refine neN ?_; (try dsimp only); omega)
  k_with "l_idx" => first | assumption | exact idx_a (by assumption) (by assumption) | exact idx_b (by assumption) | exact idx_c (by assumption) (by assumption)
  k_with "JPost" => with_reducible first | refine JPost.next ?_ | refine JPost.ret ?_ | refine JPost.brk ?_ | refine JPost.cont ?_
  k_with "storeName" => (k_here; k_dflt (refine' storeX_M ?F ?N ?_ ?a ?b; (case F => k_asm); (case N => k_asm); (case a => rfl); (case b => rfl); k_whole); (intro h'ω tk'ω m'ω F'ω N'ω); (try k_sweep))
  k_with "ksw skip" => repeat (first | (refine' ite_skip ?hx ?_; (case hx => first | exact ne_stored (by assumption) rfl | exact h2ω _ (List.Mem.head _) | exact h2ω _ (List.Mem.tail _ (List.Mem.head _)) | exact h2ω _ (List.Mem.tail _ (List.Mem.tail _ (List.Mem.head _))))) | refine ite_skip2 (by assumption) ?_)
  k_with "ksw_same" => (
      intro zω h2ω h3ω
      first
        | rfl
        | (k_extra "ksw skip"; first | rfl | (refine Eq.symm ?_; k_extra "ksw skip"; rfl))
        | ((simp only [List.forall_mem_cons, List.not_mem_nil, false_implies, implies_true, and_true, ne_eq] at h2ω); (simp (zetaDelta := true) [h2ω]; done))
        | ((simp only [List.forall_mem_cons, List.not_mem_nil, false_implies, implies_true, and_true, ne_eq] at h2ω); (simp only [List.contains_cons, List.contains_nil, Bool.or_false, Bool.or_eq_false_iff, beq_eq_false_iff_ne, ne_eq] at h3ω); (simp (zetaDelta := true) [h2ω, h3ω]; done)))
  k_with "execs cons" => (k_here; (first | (refine' norm_M (gn := gnω) (dr := drω) (os := osω) ?F9 ?e9 ?_; (case F9 => k_asm); (case e9 => exact rfl); intro tk9ω) | ((try dsimp only); (try k_gentoks))); first | (with_reducible refine' execs_one ?_) | ((with_reducible refine' execs_let ?_); intro kkω))
  k_with "my leaf" => with_reducible first | show Post _ _ _ _ _ _ _ _ | show JOut _ _ _ _ _ _ _ _ _ | show MEnd _ _ _ _ _ _ _ _ _ _ _ _ _ | show MOut _ _ _ _ _ _ _ _ _ _ _
  k_with "k_steps" => repeat' (first | k_unfold | ((fail_if_success k_extra "my leaf"); first | walk1 | (dsimp only; walk1)) | (leave1; walk_say "STEP leave1"; (try dsimp only)) | fail "no step")
  k_with "my cond" => simp only [true_and, and_true, false_and, and_false, true_or, or_true, false_or, or_false, if_true, if_false, Bool.false_eq_true, Bool.true_eq_false, reduceCtorEq, and_self, or_self, not_true_eq_false, not_false_eq_true]
  k_with "eval Constant int" => (k_here; (with_reducible refine int_M ?_); intro t9ω tk9ω)
  k_with "eval Constant str" => (k_here; (with_reducible refine str_M ?_); intro t9ω tk9ω)
  k_with "binaryOp Add int int" => (k_here; (with_reducible refine add_M ?_); intro t9ω tk9ω)
  k_with "binaryOp Sub int int" => (k_here; (with_reducible refine sub_M ?_); intro t9ω tk9ω)
  k_with "call ref" => (
      (with_reducible show wpAny _ _ (call (Value.ref 145) _) _ _ _)
      k_dflt (refine' Does.val1 (place_does ?p1 ?p2 ?p3) ?k1 ?k2 ?k3 ?k4 ?k5 ?k6 ?k7 ?k8 ?k9 ?_; k_extra "my sides"; (case p1 => k_mem); (case p2 => assumption); (case p3 => first | assumption | omega))
      k_extra "my plain1")
  k_with "call ref" => (
      (with_reducible show wpAny _ _ (call (Value.ref 28) _) _ _ _)
      k_dflt (refine' Does.val syllable_does ?k1 ?k2 ?k3 ?k4 ?k5 ?k6 ?k7 ?k8 ?k9 ?_; k_extra "my sides")
      k_extra "my plain")
  k_with "call ref" => (
      (with_reducible show wpAny _ _ (call (Value.ref 52) _) _ _ _)
      k_dflt (refine' Does.val joins_does ?k1 ?k2 ?k3 ?k4 ?k5 ?k6 ?k7 ?k8 ?k9 ?_; k_extra "my sides")
      k_extra "my plain")
  k_with "call ref" => (
      (with_reducible show wpAny _ _ (call (Value.ref 59) _) _ _ _)
      k_dflt (first
        | (refine' Does.val (pairS_does ?p1) ?k1 ?k2 ?k3 ?k4 ?k5 ?k6 ?k7 ?k8 ?k9 ?_; (case p1 => assumption); k_extra "my sides")
        | (refine' Does.val (pairN_does ?p1) ?k1 ?k2 ?k3 ?k4 ?k5 ?k6 ?k7 ?k8 ?k9 ?_; (case p1 => assumption); k_extra "my sides"))
      k_extra "my plain")
  k_with "call ref" => (
      (with_reducible show wpAny _ _ (call (Value.ref 173) _) _ _ _)
      k_dflt (refine' Does.val (rget_does' (by assumption) (by assumption)) ?k1 ?k2 ?k3 ?k4 ?k5 ?k6 ?k7 ?k8 ?k9 ?_; k_extra "my sides")
      k_extra "my plain")
  k_with "my cell" => first | assumption | exact Cells.at' (by assumption) _ (by omega)
  k_with "call ref" => (
      (with_reducible show wpAny _ _ (call (Value.ref 236) _) _ _ _)
      k_dflt (first
       | ((with_reducible show wpAny _ _ (call _ [_, Value.str (Str.ofString "gcb") _, _]) _ _ _); refine' Does.val (dgetG_does ?p1 ?p2) ?k1 ?k2 ?k3 ?k4 ?k5 ?k6 ?k7 ?k8 ?k9 ?_; k_extra "my sides"; (case p1 => assumption); (case p2 => assumption); k_extra "my plain")
       | ((with_reducible show wpAny _ _ (call _ [_, Value.str (Str.ofString "incb") _, _]) _ _ _); refine' Does.val1 (dgetI_does ?p1 ?p2) ?k1 ?k2 ?k3 ?k4 ?k5 ?k6 ?k7 ?k8 ?k9 ?_; k_extra "my sides"; (case p1 => assumption); (case p2 => k_extra "my cell"); k_extra "my plain1")
       | ((with_reducible show wpAny _ _ (call _ [_, Value.str (Str.ofString "ep") _, _]) _ _ _); refine' Does.val (dgetP_does ?p1 ?p2) ?k1 ?k2 ?k3 ?k4 ?k5 ?k6 ?k7 ?k8 ?k9 ?_; k_extra "my sides"; (case p1 => assumption); (case p2 => k_extra "my cell"); k_extra "my plain")))
  k_with "call ref" => (
      (with_reducible show wpAny _ _ (call (Value.ref 35) _) _ _ _)
      k_dflt (first
        | (refine' Does.val1 (kindHs_does ?p1) ?k1 ?k2 ?k3 ?k4 ?k5 ?k6 ?k7 ?k8 ?k9 ?_; (case p1 => assumption); k_extra "my sides"; k_extra "my plain1")
        | (refine' Does.val (kindHn_does ?p1) ?k1 ?k2 ?k3 ?k4 ?k5 ?k6 ?k7 ?k8 ?k9 ?_; (case p1 => assumption); k_extra "my sides"; k_extra "my plain")))
  trivial
section

set_option maxRecDepth 100000 in
set_option maxHeartbeats 4000000 in
theorem kind_does {w : World} {dat : Addr} {G I P : List Int × List Value} {c : Int} {x : Cell} {t : Tok} {news : List (Addr × Obj)} (D : DB w news dat G I P) (H : CellOf G I P c x) :
    Does w 45 [.int c t, .ref dat] 7 70 news (fun r news' => news' = news ∧ ∃ u, r = .str x.k u) := by
  obtain ⟨g, tg, ti, b1, b2, b3, b4⟩ := H
  have D9 := D
  obtain ⟨kvs, rg, ri, rp, a1, a2, a3, a4, a5, a6, a7⟩ := D9
  obtain ⟨dd, h1, t1, df, h2, t2, dm, h3, t3, v3, h4, t4, v4, om, m1, m2, m3, m4, m5⟩ := a1
  cases hk : kindH c
  all_goals (
    k_extra "my enter"
    k_steps
    all_goals (k_extra "my ret"; rw [b4]; unfold kindOf; simp_all [bne]))


end
theorem fresh_conj : True := by
  k_with "call ref" => (
      (with_reducible show wpAny _ _ (call (Value.ref 45) _) _ _ _)
      k_dflt (refine' Does.val1 (kind_does ?p1 ?p2) ?k1 ?k2 ?k3 ?k4 ?k5 ?k6 ?k7 ?k8 ?k9 ?_; k_extra "my sides"; (case p1 => assumption); (case p2 => k_extra "my cell"))
      k_extra "my plain1")
  trivial
section
noncomputable def conjBack (cells : List Cell) (lk : Bool) : Nat → Bool
  | 0 => false
  | n + 1 => if ((cells.getD n c0).i == Str.ofString "Consonant") = true then lk
    else if jointsF (cells.getD n c0).i = true then conjBack cells (lk || (cells.getD n c0).i == Str.ofString "Linker") n else false
noncomputable def conjF (cells : List Cell) (at' : Nat) : Bool := if ((cells.getD at' c0).i == Str.ofString "Consonant") = true then conjBack cells false at' else false
noncomputable def ConjI (cells : List Cell) (at' : Nat) (back : Int) (lk : Bool) : Prop := -1 ≤ back ∧ back < at' ∧ conjBack cells lk (back + 1).toNat = conjBack cells false at'
theorem conjF_no {cells : List Cell} {a : Nat} (h : ((cells.getD a c0).i != Str.ofString "Consonant") = true) : conjF cells a = false := by
  unfold conjF; rw [if_neg (by simpa [bne] using h)]
theorem conjF_yes {cells : List Cell} {a : Nat} (h : ((cells.getD a c0).i != Str.ofString "Consonant") = false) : conjF cells a = conjBack cells false a := by
  unfold conjF; rw [if_pos (by simpa [bne] using h)]
theorem conj_start {cells : List Cell} {a : Int} (h : 0 ≤ a) : ConjI cells a.toNat (a - 1) false := ⟨by lia, by lia, by rw [show (a - 1 + 1).toNat = a.toNat by lia]⟩
theorem conjBack_at {cells : List Cell} {lk : Bool} {back : Int} (h : 0 ≤ back) : conjBack cells lk (back + 1).toNat = if ((cells.getD back.toNat c0).i == Str.ofString "Consonant") = true then lk
    else if jointsF (cells.getD back.toNat c0).i = true then conjBack cells (lk || (cells.getD back.toNat c0).i == Str.ofString "Linker") back.toNat else false := by
  rw [show (back + 1).toNat = back.toNat + 1 by lia]; rfl
theorem conj_done {cells : List Cell} {a : Nat} {back : Int} {lk : Bool} (I : ConjI cells a back lk) (h : ¬ 0 ≤ back) : conjBack cells false a = false := by
  rw [← I.2.2, show (back + 1).toNat = 0 by lia]; rfl
theorem conj_cons {cells : List Cell} {a : Nat} {back : Int} {lk : Bool} (I : ConjI cells a back lk) (h : 0 ≤ back) (hc : ((cells.getD back.toNat c0).i == Str.ofString "Consonant") = true) : conjBack cells false a = lk := by
  rw [← I.2.2, conjBack_at h, if_pos hc]
theorem conj_no {cells : List Cell} {a : Nat} {back : Int} {lk : Bool} (I : ConjI cells a back lk) (h : 0 ≤ back) (hc : ((cells.getD back.toNat c0).i == Str.ofString "Consonant") = false) (hj : jointsF (cells.getD back.toNat c0).i = false) : conjBack cells false a = false := by
  rw [← I.2.2, conjBack_at h, if_neg (by rw [hc]; decide), if_neg (by rw [hj]; decide)]
theorem conj_on {cells : List Cell} {a : Nat} {back : Int} {lk lk' : Bool} (I : ConjI cells a back lk) (h : 0 ≤ back) (hc : ((cells.getD back.toNat c0).i == Str.ofString "Consonant") = false) (hj : jointsF (cells.getD back.toNat c0).i = true)
    (hl : lk' = (lk || (cells.getD back.toNat c0).i == Str.ofString "Linker")) : ConjI cells a (back - 1) lk' := by
  refine ⟨by lia, by have := I.2.1; lia, ?_⟩
  rw [← I.2.2, conjBack_at h, if_neg (by rw [hc]; decide), if_pos hj, hl, show (back - 1 + 1).toNat = back.toNat by lia]
set_option maxRecDepth 100000 in
set_option maxHeartbeats 4000000 in
theorem conj_does {w : World} {txt dat : Addr} {ws : List Value} {codes : List Int} {cells : List Cell} {nn : Nat} {G I P : List Int × List Value} {a : Int} {t : Tok} {news : List (Addr × Obj)}
    (D : DB w news dat G I P) (hm : (txt, listOf (List.toArray ws) nn) ∈ news) (hi : IntsAre ws codes) (hl : codes.length < 100000) (C : Cells G I P codes cells) (h0 : 0 ≤ a) (h1 : a < codes.length) :
    Does w 66 [.ref txt, .int a t, .ref dat] 7 70 news (fun r news' => news' = news ∧ r = .bool (conjF cells a.toNat)) := by
  obtain ⟨dd, e1, u1, df, e2, u2, dm, e3, u3, v3, e4, u4, v4, m1, m2⟩ := DB.inst D
  have hlen := C.len
  k_with "my while" =>
    rename Fr _ _ _ _ => lF'
    rename News _ _ _ _ => lN'
    with_unfolding_all refine' m_while (σ := Int × Tok × Bool) (fun c => [(Str.ofString "back", .int c.1 c.2.1), (Str.ofString "has_linker", .bool c.2.2)]) [Str.ofString "word"] (fun c => ConjI cells a.toNat c.1 c.2.2) (fun c => (c.1 + 1).toNat) ⟨_, _, _⟩ lF' lN' ?kk ?kp ?_
    case kk => kst_all
    case kp => exact conj_start h0
    clear lF' lN'
    rintro ⟨back, t1, lk⟩ u h tk hP F5 N5
    dsimp only [kstB] at F5
    dsimp only at hP
    have hP1 := hP.1
    have hP2 := hP.2.1
    try k_fold
  k_extra "my enter"
  k_steps
  · k_extra "my ret"
    rw [conjF_no (by assumption)]
  · k_extra "my ret"
    rw [conjF_yes (by assumption), conj_cons hP (by assumption) (by assumption)]
  · refine MEnd.intro ⟨_, _, _⟩ (by assumption) (by assumption) (fun _ h => h) (by kst_all) (by ksw_same) (conj_on hP (by assumption) (by assumption) (by assumption) (by simp only [*, Bool.true_or])) ?_
    show (back - 1 + 1).toNat < (back + 1).toNat
    omega
  · refine MEnd.intro ⟨_, _, _⟩ (by assumption) (by assumption) (fun _ h => h) (by kst_all) (by ksw_same) (conj_on hP (by assumption) (by assumption) (by assumption) (by simp only [*, Bool.false_or])) ?_
    show (back - 1 + 1).toNat < (back + 1).toNat
    omega
  · k_extra "my ret"
    rw [conjF_yes (by assumption), conj_no hP (by assumption) (by assumption) (by assumption)]
  · k_extra "my ret"
    rw [conjF_yes (by assumption), conj_done hP (by assumption)]


end
theorem fresh_pict : True := by
  k_with_none
  w_top off
  k_with "is_list" => exact News.isList (by k_asm) (by k_mem)
  k_with "exec While Compare cons nil" => k_extra "my while"
  k_with "exec While BoolOp cons nil" => k_extra "my while"
  k_with "exec While Constant cons nil" => k_extra "my whileT"
  k_with "MPost" => with_reducible first | refine MPost.next ?_ | refine MPost.ret ?_ | refine MPost.brk ?_ | refine MPost.cont ?_
  k_with "seqQ" => with_reducible first | refine seqQ.next ?_ | refine seqQ.ret ?_ | refine seqQ.brk ?_ | refine seqQ.cont ?_
  k_with "my enter" => (
      refine' enter ?k6 ?k7 ?k9 ?kB ?kN ?kU ?c2 ?c3 ?c4 ?c5 ?_
      case k6 => k_is
      case k7 => k_is
      case k9 => first | exact fun _ _ => BindsTo.of_eq rfl | (intro s9ω X9ω; exact binds_K X9ω rfl (by k_is) rfl rfl rfl)
      case kB => exact locs rfl
      case kN => exact rfl
      case kU => exact rfl
      case c2 => exact rfl
      case c3 => exact rfl
      case c4 => exact rfl
      case c5 => decide
      intro dpω unω gdω outerω A₀ω baseω gω h₁ω Lω gnω drω osω tkω meanω mgω mbω Eω Bω Xω Tω hdω huω eω Aω mω hEω Fω Nω)
  k_with "my ret" => (
      first
        | refine Post.ret (by k_asm) ?kN9 ⟨rfl, ?_⟩
        | refine Post.next (by k_asm) ?kN9 ⟨rfl, ?_⟩
      case kN9 => first | k_asm | exact kst_newsOf (by assumption) (by kst_inAny)
      k_extra "my clean")
  k_with "my clean" => ((repeat (rename Fr _ _ _ _ => z9ω; clear z9ω)); (repeat (rename News _ _ _ _ => z9ω; clear z9ω)); (try clear hEω Bω Xω Tω hdω huω))
  k_with "my roomx" => first | exact room_c (by assumption) rfl | exact room_b (by assumption) rfl | exact room_a (by assumption) | exact room_d (by assumption) rfl | exact room_e (by assumption) rfl | exact Nat.le_of_ble_eq_true rfl | omega
  k_with "my room" => ((try dsimp (config := { zetaDelta := true }) only [Around.deeper, Around.mark, Around.in1]); k_extra "my roomx")
  k_with "my sides" => (
      (case k1 => k_asm)
      (case k2 => k_asm)
      (case k3 => k_asm)
      (case k4 => k_asm)
      (case k5 => k_asm)
      (case k6 => exact rfl)
      (case k7 => exact rfl)
      (case k8 => k_extra "my room")
      (case k9 => k_extra "my room"))
  k_with "compareOp In str ref" => (k_here; (with_reducible show wpAny _ _ (compareOp CmpOp.In (Value.str _ _) (Value.ref _)) _ _ _); (with_unfolding_all refine' in_tuple_strs ?k1 ?k2 ?_; (case k1 => first | exact kun_topT (by k_asm) (by k_asm) (by k_is) | exact News.isTup (by k_asm) (by k_mem)); (case k2 => kde_strs); k_whole))
  k_with "compareOp NotIn str ref" => (k_here; (with_reducible show wpAny _ _ (compareOp CmpOp.NotIn (Value.str _ _) (Value.ref _)) _ _ _); (with_unfolding_all refine' notin_tuple_strs ?k1 ?k2 ?_; (case k1 => first | exact kun_topT (by k_asm) (by k_asm) (by k_is) | exact News.isTup (by k_asm) (by k_mem)); (case k2 => kde_strs); k_whole))
  k_with "my plain" => ((intro h9ω tk9ω F9ω N9ω); (try k_sweep))
  k_with "subscriptTail" => k_extra "my item"
  k_with "compareOp In str ref" => k_extra "my in"
  k_with "my plain1" => ((intro u9ω h9ω tk9ω F9ω N9ω); (try k_sweep))
  k_with "compareOp NotEq ref ref" => (k_here; (with_reducible show wpAny _ _ (compareOp CmpOp.NotEq (Value.ref _) (Value.ref _)) _ _ _); (with_unfolding_all refine' ne_intsK ?k1 ?k2 ?k3 ?k4 ?k5 ?_; (case k1 => is_list); (case k2 => l_ints); (case k3 => is_list); (case k4 => l_ints); (case k5 => k_extra "my room"); k_whole))
  k_with "my mem" => first | ktr_member | exact List.Mem.head _ | (refine List.mem_cons_of_mem _ ?_; k_extra "my mem")
  k_with "k_mem" => k_extra "my mem"
  k_with "compareOp NotIn str ref" => k_extra "my notin"
  k_with "call builtin:dict.get" => k_extra "my get"
  k_with "getMethod ref" => k_extra "my getm"
  k_with "setItem ref str" => k_extra "my set"
  k_with "k_room" => ((try dsimp (config := { zetaDelta := true }) only); (try simp only [depth_under_make, depth_under_kw, depth_in1, depth_deeper, depth_caller]); (try dsimp only); k_extra "my roomx")
  k_with "getItem ref str" => k_extra "my gitem"
  k_with "pyIter ref" => k_extra "my for"
  k_with "k_qdec" => decide +kernel
  k_with "my lt" => with_reducible (first | assumption | exact And.left (by assumption) | exact And.left (And.right (by assumption)) | exact And.left (And.right (And.right (by assumption))) | exact And.left (And.right (And.right (And.right (by assumption)))) | exact And.left (And.right (And.right (And.right (And.right (by assumption))))) | exact And.left (And.right (And.right (And.right (And.right (And.right (by assumption)))))) | exact And.left (And.right (And.right (And.right (And.right (And.right (And.right (by assumption))))))) | exact And.left (And.right (And.right (And.right (And.right (And.right (And.right (And.right (by assumption)))))))) | exact And.left (And.right (And.right (And.right (And.right (And.right (And.right (And.right (And.right (by assumption))))))))) | exact And.left (And.right (And.right (And.right (And.right (And.right (And.right (And.right (And.right (And.right (by assumption)))))))))))
  k_with "k_ne" => first | with_reducible assumption | with_reducible exact Ne.symm (by assumption) | (refine Nat.ne_of_lt ?_; k_extra "my lt") | (refine Nat.ne_of_gt ?_; k_extra "my lt") | (refine Nat.ne_of_gt ?_; (repeat (first | exact Nat.lt_succ_self _ | refine Nat.lt_succ_of_lt ?_)); done) | (refine Nat.ne_of_lt ?_; (repeat (first | exact Nat.lt_succ_self _ | refine Nat.lt_succ_of_lt ?_)); done) | (refine neN ?_; (try dsimp only); omega)
  k_with "l_idx" => first | assumption | exact idx_a (by assumption) (by assumption) | exact idx_b (by assumption) | exact idx_c (by assumption) (by assumption)
  k_with "JPost" => with_reducible first | refine JPost.next ?_ | refine JPost.ret ?_ | refine JPost.brk ?_ | refine JPost.cont ?_
  k_with "storeName" => (k_here; k_dflt (refine' storeX_M ?F ?N ?_ ?a ?b; (case F => k_asm); (case N => k_asm); (case a => rfl); (case b => rfl); k_whole); (intro h'ω tk'ω m'ω F'ω N'ω); (try k_sweep))
  k_with "ksw skip" => repeat (first | (refine' ite_skip ?hx ?_; (case hx => first | exact ne_stored (by assumption) rfl | exact h2ω _ (List.Mem.head _) | exact h2ω _ (List.Mem.tail _ (List.Mem.head _)) | exact h2ω _ (List.Mem.tail _ (List.Mem.tail _ (List.Mem.head _))))) | refine ite_skip2 (by assumption) ?_)
  k_with "ksw_same" => (
      intro zω h2ω h3ω
      first
        | rfl
        | (k_extra "ksw skip"; first | rfl | (refine Eq.symm ?_; k_extra "ksw skip"; rfl))
        | ((simp only [List.forall_mem_cons, List.not_mem_nil, false_implies, implies_true, and_true, ne_eq] at h2ω); (simp (zetaDelta := true) [h2ω]; done))
        | ((simp only [List.forall_mem_cons, List.not_mem_nil, false_implies, implies_true, and_true, ne_eq] at h2ω); (simp only [List.contains_cons, List.contains_nil, Bool.or_false, Bool.or_eq_false_iff, beq_eq_false_iff_ne, ne_eq] at h3ω); (simp (zetaDelta := true) [h2ω, h3ω]; done)))
  k_with "execs cons" => (k_here; (first | (refine' norm_M (gn := gnω) (dr := drω) (os := osω) ?F9 ?e9 ?_; (case F9 => k_asm); (case e9 => exact rfl); intro tk9ω) | ((try dsimp only); (try k_gentoks))); first | (with_reducible refine' execs_one ?_) | ((with_reducible refine' execs_let ?_); intro kkω))
  k_with "my leaf" => with_reducible first | show Post _ _ _ _ _ _ _ _ | show JOut _ _ _ _ _ _ _ _ _ | show MEnd _ _ _ _ _ _ _ _ _ _ _ _ _ | show MOut _ _ _ _ _ _ _ _ _ _ _
  k_with "k_steps" => repeat' (first | k_unfold | ((fail_if_success k_extra "my leaf"); first | walk1 | (dsimp only; walk1)) | (leave1; walk_say "STEP leave1"; (try dsimp only)) | fail "no step")
  k_with "my cond" => simp only [true_and, and_true, false_and, and_false, true_or, or_true, false_or, or_false, if_true, if_false, Bool.false_eq_true, Bool.true_eq_false, reduceCtorEq, and_self, or_self, not_true_eq_false, not_false_eq_true]
  k_with "eval Constant int" => (k_here; (with_reducible refine int_M ?_); intro t9ω tk9ω)
  k_with "eval Constant str" => (k_here; (with_reducible refine str_M ?_); intro t9ω tk9ω)
  k_with "binaryOp Add int int" => (k_here; (with_reducible refine add_M ?_); intro t9ω tk9ω)
  k_with "binaryOp Sub int int" => (k_here; (with_reducible refine sub_M ?_); intro t9ω tk9ω)
  k_with "call ref" => (
      (with_reducible show wpAny _ _ (call (Value.ref 145) _) _ _ _)
      k_dflt (refine' Does.val1 (place_does ?p1 ?p2 ?p3) ?k1 ?k2 ?k3 ?k4 ?k5 ?k6 ?k7 ?k8 ?k9 ?_; k_extra "my sides"; (case p1 => k_mem); (case p2 => assumption); (case p3 => first | assumption | omega))
      k_extra "my plain1")
  k_with "call ref" => (
      (with_reducible show wpAny _ _ (call (Value.ref 28) _) _ _ _)
      k_dflt (refine' Does.val syllable_does ?k1 ?k2 ?k3 ?k4 ?k5 ?k6 ?k7 ?k8 ?k9 ?_; k_extra "my sides")
      k_extra "my plain")
  k_with "call ref" => (
      (with_reducible show wpAny _ _ (call (Value.ref 52) _) _ _ _)
      k_dflt (refine' Does.val joins_does ?k1 ?k2 ?k3 ?k4 ?k5 ?k6 ?k7 ?k8 ?k9 ?_; k_extra "my sides")
      k_extra "my plain")
  k_with "call ref" => (
      (with_reducible show wpAny _ _ (call (Value.ref 59) _) _ _ _)
      k_dflt (first
        | (refine' Does.val (pairS_does ?p1) ?k1 ?k2 ?k3 ?k4 ?k5 ?k6 ?k7 ?k8 ?k9 ?_; (case p1 => assumption); k_extra "my sides")
        | (refine' Does.val (pairN_does ?p1) ?k1 ?k2 ?k3 ?k4 ?k5 ?k6 ?k7 ?k8 ?k9 ?_; (case p1 => assumption); k_extra "my sides"))
      k_extra "my plain")
  k_with "call ref" => (
      (with_reducible show wpAny _ _ (call (Value.ref 173) _) _ _ _)
      k_dflt (refine' Does.val (rget_does' (by assumption) (by assumption)) ?k1 ?k2 ?k3 ?k4 ?k5 ?k6 ?k7 ?k8 ?k9 ?_; k_extra "my sides")
      k_extra "my plain")
  k_with "my cell" => first | assumption | exact Cells.at' (by assumption) _ (by omega)
  k_with "call ref" => (
      (with_reducible show wpAny _ _ (call (Value.ref 236) _) _ _ _)
      k_dflt (first
       | ((with_reducible show wpAny _ _ (call _ [_, Value.str (Str.ofString "gcb") _, _]) _ _ _); refine' Does.val (dgetG_does ?p1 ?p2) ?k1 ?k2 ?k3 ?k4 ?k5 ?k6 ?k7 ?k8 ?k9 ?_; k_extra "my sides"; (case p1 => assumption); (case p2 => assumption); k_extra "my plain")
       | ((with_reducible show wpAny _ _ (call _ [_, Value.str (Str.ofString "incb") _, _]) _ _ _); refine' Does.val1 (dgetI_does ?p1 ?p2) ?k1 ?k2 ?k3 ?k4 ?k5 ?k6 ?k7 ?k8 ?k9 ?_; k_extra "my sides"; (case p1 => assumption); (case p2 => k_extra "my cell"); k_extra "my plain1")
       | ((with_reducible show wpAny _ _ (call _ [_, Value.str (Str.ofString "ep") _, _]) _ _ _); refine' Does.val (dgetP_does ?p1 ?p2) ?k1 ?k2 ?k3 ?k4 ?k5 ?k6 ?k7 ?k8 ?k9 ?_; k_extra "my sides"; (case p1 => assumption); (case p2 => k_extra "my cell"); k_extra "my plain")))
  k_with "call ref" => (
      (with_reducible show wpAny _ _ (call (Value.ref 35) _) _ _ _)
      k_dflt (first
        | (refine' Does.val1 (kindHs_does ?p1) ?k1 ?k2 ?k3 ?k4 ?k5 ?k6 ?k7 ?k8 ?k9 ?_; (case p1 => assumption); k_extra "my sides"; k_extra "my plain1")
        | (refine' Does.val (kindHn_does ?p1) ?k1 ?k2 ?k3 ?k4 ?k5 ?k6 ?k7 ?k8 ?k9 ?_; (case p1 => assumption); k_extra "my sides"; k_extra "my plain")))
  k_with "call ref" => (
      (with_reducible show wpAny _ _ (call (Value.ref 45) _) _ _ _)
      k_dflt (refine' Does.val1 (kind_does ?p1 ?p2) ?k1 ?k2 ?k3 ?k4 ?k5 ?k6 ?k7 ?k8 ?k9 ?_; k_extra "my sides"; (case p1 => assumption); (case p2 => k_extra "my cell"))
      k_extra "my plain1")
  k_with "call ref" => (
      (with_reducible show wpAny _ _ (call (Value.ref 66) _) _ _ _)
      k_dflt (refine' Does.val (conj_does ?p1 ?p2 ?p3 ?p4 ?p5 ?p6 ?p7) ?k1 ?k2 ?k3 ?k4 ?k5 ?k6 ?k7 ?k8 ?k9 ?_; k_extra "my sides"; (case p1 => assumption); (case p2 => k_mem); (case p3 => assumption); (case p4 => omega); (case p5 => assumption); (case p6 => omega); (case p7 => omega))
      k_extra "my plain")
  trivial
section
/-- how many places are left, the marks behind them passed -/
noncomputable def extBack (cells : List Cell) : Nat → Nat
  | 0 => 0
  | n + 1 => if ((cells.getD n c0).k == Str.ofString "Extend") = true then extBack cells n else n + 1
noncomputable def pictF (cells : List Cell) (at' : Nat) : Bool :=
  (cells.getD at' c0).p && (cells.getD (at' - 1) c0).k == Str.ofString "ZWJ" && decide (0 < extBack cells (at' - 1)) && (cells.getD (extBack cells (at' - 1) - 1) c0).p
noncomputable def riBack (cells : List Cell) : Nat → Nat
  | 0 => 0
  | n + 1 => if ((cells.getD n c0).k == Str.ofString "Regional_Indicator") = true then riBack cells n + 1 else 0
noncomputable def flagF (cells : List Cell) (at' : Nat) : Bool := (cells.getD at' c0).k == Str.ofString "Regional_Indicator" && riBack cells at' % 2 == 1
noncomputable def PictI (cells : List Cell) (at' : Nat) (back : Int) : Prop := -1 ≤ back ∧ back < at' ∧ extBack cells (back + 1).toNat = extBack cells (at' - 1)
theorem pict_start {cells : List Cell} {a : Int} (h : 1 ≤ a) : PictI cells a.toNat (a - 2) := ⟨by lia, by lia, by rw [show (a - 2 + 1).toNat = a.toNat - 1 by lia]⟩
theorem extBack_at {cells : List Cell} {back : Int} (h : 0 ≤ back) : extBack cells (back + 1).toNat = if ((cells.getD back.toNat c0).k == Str.ofString "Extend") = true then extBack cells back.toNat else back.toNat + 1 := by
  rw [show (back + 1).toNat = back.toNat + 1 by lia]; rfl
theorem pict_on {cells : List Cell} {a : Nat} {back : Int} (I : PictI cells a back) (h : 0 ≤ back) (hk : ((cells.getD back.toNat c0).k == Str.ofString "Extend") = true) : PictI cells a (back - 1) := by
  refine ⟨by lia, by have := I.2.1; lia, ?_⟩
  rw [← I.2.2, extBack_at h, if_pos hk, show (back - 1 + 1).toNat = back.toNat by lia]
theorem pict_out {cells : List Cell} {a : Nat} {back : Int} (I : PictI cells a back) (h : ¬ 0 ≤ back) : extBack cells (a - 1) = 0 := by
  rw [← I.2.2, show (back + 1).toNat = 0 by lia]; rfl
theorem pict_end {cells : List Cell} {a : Nat} {back : Int} (I : PictI cells a back) (h : 0 ≤ back) (hk : ((cells.getD back.toNat c0).k == Str.ofString "Extend") = false) : extBack cells (a - 1) = back.toNat + 1 := by
  rw [← I.2.2, extBack_at h, if_neg (by rw [hk]; decide)]
noncomputable def RiI (cells : List Cell) (at' : Nat) (many : Int) : Prop := 0 ≤ many ∧ many ≤ at' ∧ riBack cells at' = many.toNat + riBack cells (at' - many.toNat)
theorem ri_start {cells : List Cell} {a : Nat} : RiI cells a 0 := ⟨by lia, by lia, by simp⟩
theorem riBack_at {cells : List Cell} {a : Nat} {many : Int} (h0 : 0 ≤ many) (h : many < a) : riBack cells (a - many.toNat) = if ((cells.getD (a - 1 - many).toNat c0).k == Str.ofString "Regional_Indicator") = true then riBack cells (a - 1 - many).toNat + 1 else 0 := by
  rw [show a - many.toNat = ((a : Int) - 1 - many).toNat + 1 by lia]; rfl
theorem ri_on {cells : List Cell} {a : Nat} {many : Int} (I : RiI cells a many) (h : many < a) (hk : ((cells.getD (a - 1 - many).toNat c0).k == Str.ofString "Regional_Indicator") = true) : RiI cells a (many + 1) := by
  have h0 := I.1
  refine ⟨by lia, by lia, ?_⟩
  rw [I.2.2, riBack_at h0 h, if_pos hk, show ((a : Int) - 1 - many).toNat = a - (many + 1).toNat by lia]
  lia
theorem ri_no {cells : List Cell} {a : Nat} {many : Int} (I : RiI cells a many) (h : many < a) (hk : ((cells.getD (a - 1 - many).toNat c0).k == Str.ofString "Regional_Indicator") = false) : many = riBack cells a := by
  rw [I.2.2, riBack_at I.1 h, if_neg (by rw [hk]; decide)]
  have := I.1
  lia
theorem ri_out {cells : List Cell} {a : Nat} {many : Int} (I : RiI cells a many) (h : ¬ many < a) : many = riBack cells a := by
  have h0 := I.1
  have h1 := I.2.1
  rw [I.2.2, show a - many.toNat = 0 by lia]
  show many = ((many.toNat + 0 : Nat) : Int)
  lia
set_option maxRecDepth 100000 in
set_option maxHeartbeats 4000000 in
theorem pict_does {w : World} {txt dat : Addr} {ws : List Value} {codes : List Int} {cells : List Cell} {nn : Nat} {G I P : List Int × List Value} {a : Int} {t : Tok} {news : List (Addr × Obj)}
    (D : DB w news dat G I P) (hm : (txt, listOf (List.toArray ws) nn) ∈ news) (hi : IntsAre ws codes) (hl : codes.length < 100000) (C : Cells G I P codes cells) (h0 : 1 ≤ a) (h1 : a < codes.length) :
    Does w 73 [.ref txt, .int a t, .ref dat] 9 90 news (fun r news' => news' = news ∧ r = .bool (pictF cells a.toNat)) := by
  obtain ⟨dd, e1, u1, df, e2, u2, dm, e3, u3, v3, e4, u4, v4, m1, m2⟩ := DB.inst D
  have hlen := C.len
  have e1 : (a - 1).toNat = a.toNat - 1 := by omega
  have i0 : 0 ≤ a := Int.le_trans (by decide) h0
  have i1 : 0 ≤ a - 1 := by omega
  have i2 : a - 1 < codes.length := by omega
  k_with "my while" =>
    rename Fr _ _ _ _ => lF'
    rename News _ _ _ _ => lN'
    with_unfolding_all refine' m_while (σ := Int × Tok) (fun c => [(Str.ofString "back", .int c.1 c.2)]) [] (fun c => PictI cells a.toNat c.1) (fun c => (c.1 + 1).toNat) ⟨_, _⟩ lF' lN' ?kk ?kp ?_
    case kk => kst_all
    case kp => exact pict_start h0
    clear lF' lN'
    rintro ⟨back, t1⟩ u h tk hP F5 N5
    dsimp only [kstB] at F5
    dsimp only at hP
    have hP1 := hP.1
    have hP2 := hP.2.1
    try k_fold
  k_extra "my enter"
  k_steps
  · k_extra "my ret"
    simp_all [pictF, bne]
  · refine MEnd.intro ⟨_, _⟩ (by assumption) (by assumption) (fun _ h => h) (by kst_all) (by ksw_same) (pict_on hP (by assumption) (by assumption)) ?_
    show (back - 1 + 1).toNat < (back + 1).toNat
    omega
  · k_extra "my ret"
    have e2 := pict_end hP (by assumption) (by assumption)
    simp_all [pictF, bne]
  · k_extra "my ret"
    have e2 := pict_out hP (by assumption)
    simp_all [pictF, bne]
  · k_extra "my ret"
    simp_all [pictF, bne]
set_option maxRecDepth 100000 in
set_option maxHeartbeats 4000000 in
theorem flags_does {w : World} {txt dat : Addr} {ws : List Value} {codes : List Int} {cells : List Cell} {nn : Nat} {G I P : List Int × List Value} {a : Int} {t : Tok} {news : List (Addr × Obj)}
    (D : DB w news dat G I P) (hm : (txt, listOf (List.toArray ws) nn) ∈ news) (hi : IntsAre ws codes) (hl : codes.length < 100000) (C : Cells G I P codes cells) (h0 : 0 ≤ a) (h1 : a < codes.length) :
    Does w 80 [.ref txt, .int a t, .ref dat] 9 90 news (fun r news' => news' = news ∧ ∃ u, r = .int (riBack cells a.toNat) u) := by
  have hlen := C.len
  have e1 : ((a.toNat : Nat) : Int) = a := by omega
  k_with "my while" =>
    rename Fr _ _ _ _ => lF'
    rename News _ _ _ _ => lN'
    with_unfolding_all refine' m_while (σ := Int × Tok) (fun c => [(Str.ofString "many", .int c.1 c.2)]) [] (fun c => RiI cells a.toNat c.1) (fun c => (a - c.1).toNat) ⟨_, _⟩ lF' lN' ?kk ?kp ?_
    case kk => kst_all
    case kp => exact ri_start
    clear lF' lN'
    rintro ⟨many, t1⟩ u h tk hP F5 N5
    dsimp only [kstB] at F5
    dsimp only at hP
    have hP1 := hP.1
    have hP2 := hP.2.1
    try k_fold
  k_extra "my enter"
  k_steps
  · refine MEnd.intro ⟨_, _⟩ (by assumption) (by assumption) (fun _ h => h) (by kst_all) (by ksw_same) (ri_on hP (by omega) (by rw [e1]; assumption)) ?_
    show (a - (many + 1)).toNat < (a - many).toNat
    omega
  · k_extra "my ret"
    rw [ri_no hP (by omega) (by rw [e1]; assumption)]
    exact ⟨_, rfl⟩
  · k_extra "my ret"
    rw [ri_out hP (by omega)]
    exact ⟨_, rfl⟩


end
theorem fresh_flag : True := by
  k_with_none
  w_top off
  k_with "is_list" => exact News.isList (by k_asm) (by k_mem)
  k_with "exec While Compare cons nil" => k_extra "my while"
  k_with "exec While BoolOp cons nil" => k_extra "my while"
  k_with "exec While Constant cons nil" => k_extra "my whileT"
  k_with "MPost" => with_reducible first | refine MPost.next ?_ | refine MPost.ret ?_ | refine MPost.brk ?_ | refine MPost.cont ?_
  k_with "seqQ" => with_reducible first | refine seqQ.next ?_ | refine seqQ.ret ?_ | refine seqQ.brk ?_ | refine seqQ.cont ?_
  k_with "my enter" => (
      refine' enter ?k6 ?k7 ?k9 ?kB ?kN ?kU ?c2 ?c3 ?c4 ?c5 ?_
      case k6 => k_is
      case k7 => k_is
      case k9 => first | exact fun _ _ => BindsTo.of_eq rfl | (intro s9ω X9ω; exact binds_K X9ω rfl (by k_is) rfl rfl rfl)
      case kB => exact locs rfl
      case kN => exact rfl
      case kU => exact rfl
      case c2 => exact rfl
      case c3 => exact rfl
      case c4 => exact rfl
      case c5 => decide
      intro dpω unω gdω outerω A₀ω baseω gω h₁ω Lω gnω drω osω tkω meanω mgω mbω Eω Bω Xω Tω hdω huω eω Aω mω hEω Fω Nω)
  k_with "my ret" => (
      first
        | refine Post.ret (by k_asm) ?kN9 ⟨rfl, ?_⟩
        | refine Post.next (by k_asm) ?kN9 ⟨rfl, ?_⟩
      case kN9 => first | k_asm | exact kst_newsOf (by assumption) (by kst_inAny)
      k_extra "my clean")
  k_with "my clean" => ((repeat (rename Fr _ _ _ _ => z9ω; clear z9ω)); (repeat (rename News _ _ _ _ => z9ω; clear z9ω)); (try clear hEω Bω Xω Tω hdω huω))
  k_with "my roomx" => first | exact room_c (by assumption) rfl | exact room_b (by assumption) rfl | exact room_a (by assumption) | exact room_d (by assumption) rfl | exact room_e (by assumption) rfl | exact Nat.le_of_ble_eq_true rfl | omega
  k_with "my room" => ((try dsimp (config := { zetaDelta := true }) only [Around.deeper, Around.mark, Around.in1]); k_extra "my roomx")
  k_with "my sides" => (
      (case k1 => k_asm)
      (case k2 => k_asm)
      (case k3 => k_asm)
      (case k4 => k_asm)
      (case k5 => k_asm)
      (case k6 => exact rfl)
      (case k7 => exact rfl)
      (case k8 => k_extra "my room")
      (case k9 => k_extra "my room"))
  k_with "compareOp In str ref" => (k_here; (with_reducible show wpAny _ _ (compareOp CmpOp.In (Value.str _ _) (Value.ref _)) _ _ _); (with_unfolding_all refine' in_tuple_strs ?k1 ?k2 ?_; (case k1 => first | exact kun_topT (by k_asm) (by k_asm) (by k_is) | exact News.isTup (by k_asm) (by k_mem)); (case k2 => kde_strs); k_whole))
  k_with "compareOp NotIn str ref" => (k_here; (with_reducible show wpAny _ _ (compareOp CmpOp.NotIn (Value.str _ _) (Value.ref _)) _ _ _); (with_unfolding_all refine' notin_tuple_strs ?k1 ?k2 ?_; (case k1 => first | exact kun_topT (by k_asm) (by k_asm) (by k_is) | exact News.isTup (by k_asm) (by k_mem)); (case k2 => kde_strs); k_whole))
  k_with "my plain" => ((intro h9ω tk9ω F9ω N9ω); (try k_sweep))
  k_with "subscriptTail" => k_extra "my item"
  k_with "compareOp In str ref" => k_extra "my in"
  k_with "my plain1" => ((intro u9ω h9ω tk9ω F9ω N9ω); (try k_sweep))
  k_with "compareOp NotEq ref ref" => (k_here; (with_reducible show wpAny _ _ (compareOp CmpOp.NotEq (Value.ref _) (Value.ref _)) _ _ _); (with_unfolding_all refine' ne_intsK ?k1 ?k2 ?k3 ?k4 ?k5 ?_; (case k1 => is_list); (case k2 => l_ints); (case k3 => is_list); (case k4 => l_ints); (case k5 => k_extra "my room"); k_whole))
  k_with "my mem" => first | ktr_member | exact List.Mem.head _ | (refine List.mem_cons_of_mem _ ?_; k_extra "my mem")
  k_with "k_mem" => k_extra "my mem"
  k_with "compareOp NotIn str ref" => k_extra "my notin"
  k_with "call builtin:dict.get" => k_extra "my get"
  k_with "getMethod ref" => k_extra "my getm"
  k_with "setItem ref str" => k_extra "my set"
  k_with "k_room" => ((try dsimp (config := { zetaDelta := true }) only); (try simp only [depth_under_make, depth_under_kw, depth_in1, depth_deeper, depth_caller]); (try dsimp only); k_extra "my roomx")
  k_with "getItem ref str" => k_extra "my gitem"
  k_with "pyIter ref" => k_extra "my for"
  k_with "k_qdec" => decide +kernel
  k_with "my lt" => with_reducible (first | assumption | exact And.left (by assumption) | exact And.left (And.right (by assumption)) | exact And.left (And.right (And.right (by assumption))) | exact And.left (And.right (And.right (And.right (by assumption)))) | exact And.left (And.right (And.right (And.right (And.right (by assumption))))) | exact And.left (And.right (And.right (And.right (And.right (And.right (by assumption)))))) | exact And.left (And.right (And.right (And.right (And.right (And.right (And.right (by assumption))))))) | exact And.left (And.right (And.right (And.right (And.right (And.right (And.right (And.right (by assumption)))))))) | exact And.left (And.right (And.right (And.right (And.right (And.right (And.right (And.right (And.right (by assumption))))))))) | exact And.left (And.right (And.right (And.right (And.right (And.right (And.right (And.right (And.right (And.right (by assumption)))))))))))
  k_with "k_ne" => first | with_reducible assumption | with_reducible exact Ne.symm (by assumption) | (refine Nat.ne_of_lt ?_; k_extra "my lt") | (refine Nat.ne_of_gt ?_; k_extra "my lt") | (refine Nat.ne_of_gt ?_; (repeat (first | exact Nat.lt_succ_self _ | refine Nat.lt_succ_of_lt ?_)); done) | (refine Nat.ne_of_lt ?_; (repeat (first | exact Nat.lt_succ_self _ | refine Nat.lt_succ_of_lt ?_)); done) | (refine neN ?_; (try dsimp only); omega)
  k_with "l_idx" => first | assumption | exact idx_a (by assumption) (by assumption) | exact idx_b (by assumption) | exact idx_c (by assumption) (by assumption)
  k_with "JPost" => with_reducible first | refine JPost.next ?_ | refine JPost.ret ?_ | refine JPost.brk ?_ | refine JPost.cont ?_
  k_with "storeName" => (k_here; k_dflt (refine' storeX_M ?F ?N ?_ ?a ?b; (case F => k_asm); (case N => k_asm); (case a => rfl); (case b => rfl); k_whole); (intro h'ω tk'ω m'ω F'ω N'ω); (try k_sweep))
  k_with "ksw skip" => repeat (first | (refine' ite_skip ?hx ?_; (case hx => first | exact ne_stored (by assumption) rfl | exact h2ω _ (List.Mem.head _) | exact h2ω _ (List.Mem.tail _ (List.Mem.head _)) | exact h2ω _ (List.Mem.tail _ (List.Mem.tail _ (List.Mem.head _))))) | refine ite_skip2 (by assumption) ?_)
  k_with "ksw_same" => (
      intro zω h2ω h3ω
      first
        | rfl
        | (k_extra "ksw skip"; first | rfl | (refine Eq.symm ?_; k_extra "ksw skip"; rfl))
        | ((simp only [List.forall_mem_cons, List.not_mem_nil, false_implies, implies_true, and_true, ne_eq] at h2ω); (simp (zetaDelta := true) [h2ω]; done))
        | ((simp only [List.forall_mem_cons, List.not_mem_nil, false_implies, implies_true, and_true, ne_eq] at h2ω); (simp only [List.contains_cons, List.contains_nil, Bool.or_false, Bool.or_eq_false_iff, beq_eq_false_iff_ne, ne_eq] at h3ω); (simp (zetaDelta := true) [h2ω, h3ω]; done)))
  k_with "execs cons" => (k_here; (first | (refine' norm_M (gn := gnω) (dr := drω) (os := osω) ?F9 ?e9 ?_; (case F9 => k_asm); (case e9 => exact rfl); intro tk9ω) | ((try dsimp only); (try k_gentoks))); first | (with_reducible refine' execs_one ?_) | ((with_reducible refine' execs_let ?_); intro kkω))
  k_with "my leaf" => with_reducible first | show Post _ _ _ _ _ _ _ _ | show JOut _ _ _ _ _ _ _ _ _ | show MEnd _ _ _ _ _ _ _ _ _ _ _ _ _ | show MOut _ _ _ _ _ _ _ _ _ _ _
  k_with "k_steps" => repeat' (first | k_unfold | ((fail_if_success k_extra "my leaf"); first | walk1 | (dsimp only; walk1)) | (leave1; walk_say "STEP leave1"; (try dsimp only)) | fail "no step")
  k_with "my cond" => simp only [true_and, and_true, false_and, and_false, true_or, or_true, false_or, or_false, if_true, if_false, Bool.false_eq_true, Bool.true_eq_false, reduceCtorEq, and_self, or_self, not_true_eq_false, not_false_eq_true]
  k_with "eval Constant int" => (k_here; (with_reducible refine int_M ?_); intro t9ω tk9ω)
  k_with "eval Constant str" => (k_here; (with_reducible refine str_M ?_); intro t9ω tk9ω)
  k_with "binaryOp Add int int" => (k_here; (with_reducible refine add_M ?_); intro t9ω tk9ω)
  k_with "binaryOp Sub int int" => (k_here; (with_reducible refine sub_M ?_); intro t9ω tk9ω)
  k_with "call ref" => (
      (with_reducible show wpAny _ _ (call (Value.ref 145) _) _ _ _)
      k_dflt (refine' Does.val1 (place_does ?p1 ?p2 ?p3) ?k1 ?k2 ?k3 ?k4 ?k5 ?k6 ?k7 ?k8 ?k9 ?_; k_extra "my sides"; (case p1 => k_mem); (case p2 => assumption); (case p3 => first | assumption | omega))
      k_extra "my plain1")
  k_with "call ref" => (
      (with_reducible show wpAny _ _ (call (Value.ref 28) _) _ _ _)
      k_dflt (refine' Does.val syllable_does ?k1 ?k2 ?k3 ?k4 ?k5 ?k6 ?k7 ?k8 ?k9 ?_; k_extra "my sides")
      k_extra "my plain")
  k_with "call ref" => (
      (with_reducible show wpAny _ _ (call (Value.ref 52) _) _ _ _)
      k_dflt (refine' Does.val joins_does ?k1 ?k2 ?k3 ?k4 ?k5 ?k6 ?k7 ?k8 ?k9 ?_; k_extra "my sides")
      k_extra "my plain")
  k_with "call ref" => (
      (with_reducible show wpAny _ _ (call (Value.ref 59) _) _ _ _)
      k_dflt (first
        | (refine' Does.val (pairS_does ?p1) ?k1 ?k2 ?k3 ?k4 ?k5 ?k6 ?k7 ?k8 ?k9 ?_; (case p1 => assumption); k_extra "my sides")
        | (refine' Does.val (pairN_does ?p1) ?k1 ?k2 ?k3 ?k4 ?k5 ?k6 ?k7 ?k8 ?k9 ?_; (case p1 => assumption); k_extra "my sides"))
      k_extra "my plain")
  k_with "call ref" => (
      (with_reducible show wpAny _ _ (call (Value.ref 173) _) _ _ _)
      k_dflt (refine' Does.val (rget_does' (by assumption) (by assumption)) ?k1 ?k2 ?k3 ?k4 ?k5 ?k6 ?k7 ?k8 ?k9 ?_; k_extra "my sides")
      k_extra "my plain")
  k_with "my cell" => first | assumption | exact Cells.at' (by assumption) _ (by omega)
  k_with "call ref" => (
      (with_reducible show wpAny _ _ (call (Value.ref 236) _) _ _ _)
      k_dflt (first
       | ((with_reducible show wpAny _ _ (call _ [_, Value.str (Str.ofString "gcb") _, _]) _ _ _); refine' Does.val (dgetG_does ?p1 ?p2) ?k1 ?k2 ?k3 ?k4 ?k5 ?k6 ?k7 ?k8 ?k9 ?_; k_extra "my sides"; (case p1 => assumption); (case p2 => assumption); k_extra "my plain")
       | ((with_reducible show wpAny _ _ (call _ [_, Value.str (Str.ofString "incb") _, _]) _ _ _); refine' Does.val1 (dgetI_does ?p1 ?p2) ?k1 ?k2 ?k3 ?k4 ?k5 ?k6 ?k7 ?k8 ?k9 ?_; k_extra "my sides"; (case p1 => assumption); (case p2 => k_extra "my cell"); k_extra "my plain1")
       | ((with_reducible show wpAny _ _ (call _ [_, Value.str (Str.ofString "ep") _, _]) _ _ _); refine' Does.val (dgetP_does ?p1 ?p2) ?k1 ?k2 ?k3 ?k4 ?k5 ?k6 ?k7 ?k8 ?k9 ?_; k_extra "my sides"; (case p1 => assumption); (case p2 => k_extra "my cell"); k_extra "my plain")))
  k_with "call ref" => (
      (with_reducible show wpAny _ _ (call (Value.ref 35) _) _ _ _)
      k_dflt (first
        | (refine' Does.val1 (kindHs_does ?p1) ?k1 ?k2 ?k3 ?k4 ?k5 ?k6 ?k7 ?k8 ?k9 ?_; (case p1 => assumption); k_extra "my sides"; k_extra "my plain1")
        | (refine' Does.val (kindHn_does ?p1) ?k1 ?k2 ?k3 ?k4 ?k5 ?k6 ?k7 ?k8 ?k9 ?_; (case p1 => assumption); k_extra "my sides"; k_extra "my plain")))
  k_with "call ref" => (
      (with_reducible show wpAny _ _ (call (Value.ref 45) _) _ _ _)
      k_dflt (refine' Does.val1 (kind_does ?p1 ?p2) ?k1 ?k2 ?k3 ?k4 ?k5 ?k6 ?k7 ?k8 ?k9 ?_; k_extra "my sides"; (case p1 => assumption); (case p2 => k_extra "my cell"))
      k_extra "my plain1")
  k_with "call ref" => (
      (with_reducible show wpAny _ _ (call (Value.ref 66) _) _ _ _)
      k_dflt (refine' Does.val (conj_does ?p1 ?p2 ?p3 ?p4 ?p5 ?p6 ?p7) ?k1 ?k2 ?k3 ?k4 ?k5 ?k6 ?k7 ?k8 ?k9 ?_; k_extra "my sides"; (case p1 => assumption); (case p2 => k_mem); (case p3 => assumption); (case p4 => omega); (case p5 => assumption); (case p6 => omega); (case p7 => omega))
      k_extra "my plain")
  k_with "call ref" => (
      (with_reducible show wpAny _ _ (call (Value.ref 73) _) _ _ _)
      k_dflt (refine' Does.val (pict_does ?p1 ?p2 ?p3 ?p4 ?p5 ?p6 ?p7) ?k1 ?k2 ?k3 ?k4 ?k5 ?k6 ?k7 ?k8 ?k9 ?_; k_extra "my sides"; (case p1 => assumption); (case p2 => k_mem); (case p3 => assumption); (case p4 => omega); (case p5 => assumption); (case p6 => omega); (case p7 => omega))
      k_extra "my plain")
  k_with "call ref" => (
      (with_reducible show wpAny _ _ (call (Value.ref 80) _) _ _ _)
      k_dflt (refine' Does.val1 (flags_does ?p1 ?p2 ?p3 ?p4 ?p5 ?p6 ?p7) ?k1 ?k2 ?k3 ?k4 ?k5 ?k6 ?k7 ?k8 ?k9 ?_; k_extra "my sides"; (case p1 => assumption); (case p2 => k_mem); (case p3 => assumption); (case p4 => omega); (case p5 => assumption); (case p6 => omega); (case p7 => omega))
      k_extra "my plain1")
  trivial
section

set_option maxRecDepth 100000 in
set_option maxHeartbeats 4000000 in
theorem flag_does {w : World} {txt dat : Addr} {ws : List Value} {codes : List Int} {cells : List Cell} {nn : Nat} {G I P : List Int × List Value} {a : Int} {t : Tok} {news : List (Addr × Obj)}
    (D : DB w news dat G I P) (hm : (txt, listOf (List.toArray ws) nn) ∈ news) (hi : IntsAre ws codes) (hl : codes.length < 100000) (C : Cells G I P codes cells) (h0 : 0 ≤ a) (h1 : a < codes.length) :
    Does w 87 [.ref txt, .int a t, .ref dat] 11 110 news (fun r news' => news' = news ∧ r = .bool (flagF cells a.toNat)) := by
  have hlen := C.len
  k_extra "my enter"
  k_steps
  · k_extra "my ret"
    simp_all [flagF, bne]
  · k_extra "my ret"
    have e1 : (Int.fmod ((riBack cells a.toNat : Nat) : Int) 2 == 1) = (riBack cells a.toNat % 2 == 1) := by
      rw [Int.fmod_eq_emod_of_nonneg _ (by decide), Bool.eq_iff_iff]
      simp only [beq_iff_eq]
      omega
    rw [e1]
    simp_all [flagF, bne]


end
theorem fresh_brk : True := by
  k_with "call ref" => (
      (with_reducible show wpAny _ _ (call (Value.ref 87) _) _ _ _)
      k_dflt (refine' Does.val (flag_does ?p1 ?p2 ?p3 ?p4 ?p5 ?p6 ?p7) ?k1 ?k2 ?k3 ?k4 ?k5 ?k6 ?k7 ?k8 ?k9 ?_; k_extra "my sides"; (case p1 => assumption); (case p2 => k_mem); (case p3 => assumption); (case p4 => omega); (case p5 => assumption); (case p6 => omega); (case p7 => omega))
      k_extra "my plain")
  trivial
section
noncomputable def breakF (cells : List Cell) (at' : Nat) (leg : Bool) : Bool :=
  if at' = 0 ∨ at' = cells.length then decide (cells ≠ []) else
    match pairF (cells.getD (at' - 1) c0).k (cells.getD at' c0).k leg with
    | some b => b
    | none => if (!leg && conjF cells at') = true then false else !(pictF cells at' || flagF cells at')
theorem break_edge {cells : List Cell} {codes : List Int} {a : Nat} {leg : Bool} (hl : codes.length = cells.length) (h : a = 0 ∨ a = cells.length) : breakF cells a leg = !decide (codes = []) := by
  unfold breakF
  rw [if_pos h]
  cases cells with
  | nil => cases codes with
    | nil => rfl
    | cons x y => simp at hl
  | cons c r => cases codes with
    | nil => simp at hl
    | cons x y => simp
theorem break_in {cells : List Cell} {a : Nat} {leg : Bool} (h0 : a ≠ 0) (h1 : a ≠ cells.length) : breakF cells a leg = match pairF (cells.getD (a - 1) c0).k (cells.getD a c0).k leg with
    | some b => b
    | none => if (!leg && conjF cells a) = true then false else !(pictF cells a || flagF cells a) := by
  unfold breakF
  rw [if_neg (by rintro (h | h); exact h0 h; exact h1 h)]
set_option maxRecDepth 100000 in
set_option maxHeartbeats 4000000 in
theorem break_does {w : World} {txt dat : Addr} {ws : List Value} {codes : List Int} {cells : List Cell} {nn : Nat} {G I P : List Int × List Value} {a : Int} {t : Tok} {leg : Bool} {news : List (Addr × Obj)}
    (D : DB w news dat G I P) (hm : (txt, listOf (List.toArray ws) nn) ∈ news) (hi : IntsAre ws codes) (hl : codes.length < 100000) (C : Cells G I P codes cells) (h0 : 0 ≤ a) (h1 : a ≤ codes.length) :
    Does w 95 [.ref txt, .int a t, .ref dat, .bool leg] 13 130 news (fun r news' => news' = news ∧ r = .bool (breakF cells a.toNat leg)) := by
  have hlen := C.len
  rcases hp : pairF (cells.getD (a - 1).toNat c0).k (cells.getD a.toNat c0).k leg with _ | b
  all_goals (
    k_extra "my enter"
    k_steps)
  all_goals k_extra "my ret"
  all_goals first
    | (rw [break_edge hlen (by omega)]; done)
    | (rw [break_in (by omega) (by omega), show a.toNat - 1 = (a - 1).toNat by omega, hp]; done)
    | (rw [break_in (by omega) (by omega), show a.toNat - 1 = (a - 1).toNat by omega, hp]; simp_all; done)


end
theorem fresh_row : True := by
  k_with "call ref" => (
      (with_reducible show wpAny _ _ (call (Value.ref 95) _) _ _ _)
      k_dflt (refine' Does.val (break_does ?p1 ?p2 ?p3 ?p4 ?p5 ?p6 ?p7) ?k1 ?k2 ?k3 ?k4 ?k5 ?k6 ?k7 ?k8 ?k9 ?_; k_extra "my sides"; (case p1 => assumption); (case p2 => k_mem); (case p3 => assumption); (case p4 => omega); (case p5 => assumption); (case p6 => omega); (case p7 => omega))
      k_extra "my plain")
  trivial
section
noncomputable abbrev tupObj (x : Cell) (t1 t2 : Tok) (n : Nat) : Obj := { cls := .type "tuple", data := .seq #[.str x.k t1, .str x.i t2, .bool x.p] n }
noncomputable def TupIn (news : List (Addr × Obj)) (v : Value) (x : Cell) : Prop := ∃ a t1 t2 n, v = .ref a ∧ (a, tupObj x t1 t2 n) ∈ news
/-- the row in the ledger -/
noncomputable def RowAt (news : List (Addr × Obj)) (rl : Addr) (cells : List Cell) : Prop :=
  ∃ rs nn, (rl, listOf (List.toArray rs) nn) ∈ news ∧ rs.length = cells.length ∧ ∀ k, k < cells.length → ∃ v, rs[k]? = some v ∧ TupIn news v (cells.getD k c0)
theorem RowAt.mono {news news' : List (Addr × Obj)} {rl : Addr} {cells : List Cell} (R : RowAt news rl cells) (hs : ∀ p ∈ news, p ∈ news') : RowAt news' rl cells := by
  obtain ⟨rs, nn, m, e, h⟩ := R
  refine ⟨rs, nn, hs _ m, e, fun k hk => ?_⟩
  obtain ⟨v, hv, a, t1, t2, n, e', m'⟩ := h k hk
  exact ⟨v, hv, a, t1, t2, n, e', hs _ m'⟩
section
variable {prog : Program} {w : World} {A : Around} {E : Value → Shared → Prop} {s : Shared} {h₀ : Heap} {L : Addr}
theorem row_len {news₀ news : List (Addr × Obj)} {rl : Addr} {cells : List Cell} {Q : Value → Shared → Prop} (N : News h₀ L s.heap news) (R : RowAt news₀ rl cells) (hs : ∀ p ∈ news₀, p ∈ news) (hl : cells.length < 100000)
    (h : Q (.int (cells.length : Nat) (s.toks + 1)) { s with toks := s.toks + 1 + 1 }) : wpAny (model prog w) A (call (.builtin "len") [.ref rl]) Q E s := by
  obtain ⟨rs, nn, m, e, _⟩ := R
  refine len_list (News.isList N (hs _ m)) (by simp only [List.size_toArray]; omega) ?_
  simp only [List.size_toArray]
  rw [e]
  exact h
theorem row_item {value slice : Expr} {news₀ news : List (Addr × Obj)} {rl : Addr} {cells : List Cell} {k : Int} {u : Tok} {Q : Value → Shared → Prop} (N : News h₀ L s.heap news) (R : RowAt news₀ rl cells) (hs : ∀ p ∈ news₀, p ∈ news)
    (h0 : 0 ≤ k) (h1 : k < cells.length) (hl : cells.length < 100000) (h : ∀ a t1 t2 n, (a, tupObj (cells.getD k.toNat c0) t1 t2 n) ∈ news₀ → Q (.ref a) s)
    (hs' : subscripted slice false (.ref rl) (.int k u) = operate [.ref rl, .int k u] (getItem (.ref rl) (.int k u)) := by with_unfolding_all rfl) (hg : ∀ r, letTemporaryGo value (.ref rl) r = pure () := by intro _; with_unfolding_all rfl) :
    wpAny (model prog w) A (subscriptTail value slice (.ref rl) (.int k u)) Q E s := by
  obtain ⟨rs, nn, m, e, hx⟩ := R
  obtain ⟨v, hv, a, t1, t2, n, rfl, m'⟩ := hx k.toNat (by omega)
  exact item_listL (News.isList N (hs _ m)) h0 (by omega) hv (h a t1 t2 n m') hs' hg
end
/-- how many cells from the front have a kind among some -/
noncomputable def pastN (ys : List Str) : List Cell → Nat
  | [] => 0
  | x :: r => if (ys.any fun y => y == x.k) = true then pastN ys r + 1 else 0
noncomputable def pastF (cells : List Cell) (ys : List Str) (a : Nat) : Nat := a + pastN ys (cells.drop a)
theorem drop_at {cells : List Cell} {a : Nat} (h : a < cells.length) : cells.drop a = cells.getD a c0 :: cells.drop (a + 1) := by
  rw [List.drop_eq_getElem_cons h]
  simp [List.getD, h]
theorem pastF_yes {cells : List Cell} {ys : List Str} {a : Nat} (h : a < cells.length) (hk : (ys.any fun y => y == (cells.getD a c0).k) = true) : pastF cells ys a = pastF cells ys (a + 1) := by
  unfold pastF
  rw [drop_at h]
  simp only [pastN]
  rw [if_pos hk]
  lia
theorem pastF_no {cells : List Cell} {ys : List Str} {a : Nat} (h : a < cells.length) (hk : (ys.any fun y => y == (cells.getD a c0).k) = false) : pastF cells ys a = a := by
  unfold pastF
  rw [drop_at h]
  simp only [pastN]
  rw [if_neg (by rw [hk]; decide)]
  lia
theorem pastF_out {cells : List Cell} {ys : List Str} {a : Nat} (h : cells.length ≤ a) : pastF cells ys a = a := by
  unfold pastF
  rw [List.drop_of_length_le h]
  rfl
theorem pastF_ge {cells : List Cell} {ys : List Str} {a : Nat} : a ≤ pastF cells ys a := Nat.le_add_right _ _
theorem pastN_le {ys : List Str} : ∀ l : List Cell, pastN ys l ≤ l.length
  | [] => Nat.le_refl _
  | x :: r => by
    simp only [pastN]
    split
    · have := pastN_le (ys := ys) r; simp; lia
    · exact Nat.zero_le _
theorem pastF_le {cells : List Cell} {ys : List Str} {a : Nat} (h : a ≤ cells.length) : pastF cells ys a ≤ cells.length := by
  unfold pastF
  have := pastN_le (ys := ys) (cells.drop a)
  rw [List.length_drop] at this
  lia


end
theorem fresh_past : True := by
  k_with "my inc" => first | exact fun _ h => h | exact kst_inSelf | kst_inAny
  k_with "call builtin:len" => (k_here; (with_reducible show wpAny _ _ (call (Value.builtin "len") [Value.ref _]) _ _ _); k_dflt (refine' row_len ?k1 ?k2 ?k3 ?k4 ?_; (case k1 => k_asm); (case k2 => assumption); (case k3 => k_extra "my inc"); (case k4 => omega)); k_whole)
  k_with "subscriptTail Name Name ref int" => k_extra "my row"
  k_with "subscriptTail Name BinOp ref int" => k_extra "my row"
  k_with "my row" => (k_here; (with_reducible show wpAny _ _ (subscriptTail _ _ (Value.ref _) (Value.int _ _)) _ _ _); k_dflt (refine' row_item ?k1 ?k2 ?k3 ?k4 ?k5 ?k6 ?_ ?k8 ?k9; (case k1 => k_asm); (case k2 => assumption); (case k3 => k_extra "my inc"); (case k8 => with_unfolding_all rfl); (case k9 => (intro _; with_unfolding_all rfl)); (case k4 => omega); (case k5 => omega); (case k6 => omega)); k_whole; (intro a9ω t8ω t9ω n9ω hm9ω))
  trivial
section
noncomputable def PastI (cells : List Cell) (ys : List Str) (a : Nat) (b : Int) : Prop := (a : Int) ≤ b ∧ pastF cells ys b.toNat = pastF cells ys a
theorem past_start {cells : List Cell} {ys : List Str} {a : Int} (h : 0 ≤ a) : PastI cells ys a.toNat a := ⟨by lia, rfl⟩
theorem past_on {cells : List Cell} {ys : List Str} {a : Nat} {b : Int} (I : PastI cells ys a b) (h : b < cells.length) (hk : (ys.any fun y => y == (cells.getD b.toNat c0).k) = true) : PastI cells ys a (b + 1) := by
  have h1 := I.1
  refine ⟨by lia, ?_⟩
  rw [← I.2, pastF_yes (a := b.toNat) (by lia) hk, show (b + 1).toNat = b.toNat + 1 by lia]
theorem past_no {cells : List Cell} {ys : List Str} {a : Nat} {b : Int} (I : PastI cells ys a b) (h : b < cells.length) (hk : (ys.any fun y => y == (cells.getD b.toNat c0).k) = false) : b = pastF cells ys a := by
  have h1 := I.1
  rw [← I.2, pastF_no (a := b.toNat) (by lia) hk]
  lia
theorem past_out {cells : List Cell} {ys : List Str} {a : Nat} {b : Int} (I : PastI cells ys a b) (h : ¬ b < cells.length) : b = pastF cells ys a := by
  have h1 := I.1
  rw [← I.2, pastF_out (a := b.toNat) (by lia)]
  lia
set_option maxRecDepth 100000 in
set_option maxHeartbeats 4000000 in
theorem past_does {w : World} {rl sm : Addr} {cells : List Cell} {items : Array Value} {n : Nat} {ys : List Str} {a : Int} {t : Tok} {news : List (Addr × Obj)}
    (R : RowAt news rl cells) (hl : cells.length < 100000) (h0 : 0 ≤ a) (hm : (sm, ({ cls := .type "tuple", data := .seq items n } : Obj)) ∈ news) (hy : StrsAre items.toList ys) :
    Does w 297 [.ref rl, .int a t, .ref sm] 1 20 news (fun r news' => news' = news ∧ ∃ u, r = .int (pastF cells ys a.toNat) u) := by
  k_with "my while" =>
    rename Fr _ _ _ _ => lF'
    rename News _ _ _ _ => lN'
    with_unfolding_all refine' m_while (σ := Int × Tok) (fun c => [(Str.ofString "at", .int c.1 c.2)]) [] (fun c => PastI cells ys a.toNat c.1) (fun c => (cells.length - c.1).toNat) ⟨_, _⟩ lF' lN' ?kk ?kp ?_
    case kk => kst_all
    case kp => exact past_start h0
    clear lF' lN'
    rintro ⟨b, t1⟩ u h tk hP F5 N5
    dsimp only [kstB] at F5
    dsimp only at hP
    have hP1 := hP.1
    try k_fold
  k_extra "my enter"
  k_steps
  · refine MEnd.intro ⟨_, _⟩ (by assumption) (by assumption) (fun _ h => h) (by kst_all) (by ksw_same) (past_on hP (by assumption) (by assumption)) ?_
    show (cells.length - (b + 1)).toNat < (cells.length - b).toNat
    omega
  · k_extra "my ret"
    rw [past_no hP (by assumption) (by assumption)]
    exact ⟨_, rfl⟩
  · k_extra "my ret"
    rw [past_out hP (by assumption)]
    exact ⟨_, rfl⟩


end
theorem fresh_syl : True := by
  k_with_none
  w_top off
  k_with "is_list" => exact News.isList (by k_asm) (by k_mem)
  k_with "exec While Compare cons nil" => k_extra "my while"
  k_with "exec While BoolOp cons nil" => k_extra "my while"
  k_with "exec While Constant cons nil" => k_extra "my whileT"
  k_with "MPost" => with_reducible first | refine MPost.next ?_ | refine MPost.ret ?_ | refine MPost.brk ?_ | refine MPost.cont ?_
  k_with "seqQ" => with_reducible first | refine seqQ.next ?_ | refine seqQ.ret ?_ | refine seqQ.brk ?_ | refine seqQ.cont ?_
  k_with "my enter" => (
      refine' enter ?k6 ?k7 ?k9 ?kB ?kN ?kU ?c2 ?c3 ?c4 ?c5 ?_
      case k6 => k_is
      case k7 => k_is
      case k9 => first | exact fun _ _ => BindsTo.of_eq rfl | (intro s9ω X9ω; exact binds_K X9ω rfl (by k_is) rfl rfl rfl)
      case kB => exact locs rfl
      case kN => exact rfl
      case kU => exact rfl
      case c2 => exact rfl
      case c3 => exact rfl
      case c4 => exact rfl
      case c5 => decide
      intro dpω unω gdω outerω A₀ω baseω gω h₁ω Lω gnω drω osω tkω meanω mgω mbω Eω Bω Xω Tω hdω huω eω Aω mω hEω Fω Nω)
  k_with "my ret" => (
      first
        | refine Post.ret (by k_asm) ?kN9 ⟨rfl, ?_⟩
        | refine Post.next (by k_asm) ?kN9 ⟨rfl, ?_⟩
      case kN9 => first | k_asm | exact kst_newsOf (by assumption) (by kst_inAny)
      k_extra "my clean")
  k_with "my clean" => ((repeat (rename Fr _ _ _ _ => z9ω; clear z9ω)); (repeat (rename News _ _ _ _ => z9ω; clear z9ω)); (try clear hEω Bω Xω Tω hdω huω))
  k_with "my roomx" => first | exact room_c (by assumption) rfl | exact room_b (by assumption) rfl | exact room_a (by assumption) | exact room_d (by assumption) rfl | exact room_e (by assumption) rfl | exact Nat.le_of_ble_eq_true rfl | omega
  k_with "my room" => ((try dsimp (config := { zetaDelta := true }) only [Around.deeper, Around.mark, Around.in1]); k_extra "my roomx")
  k_with "my sides" => (
      (case k1 => k_asm)
      (case k2 => k_asm)
      (case k3 => k_asm)
      (case k4 => k_asm)
      (case k5 => k_asm)
      (case k6 => exact rfl)
      (case k7 => exact rfl)
      (case k8 => k_extra "my room")
      (case k9 => k_extra "my room"))
  k_with "compareOp In str ref" => (k_here; (with_reducible show wpAny _ _ (compareOp CmpOp.In (Value.str _ _) (Value.ref _)) _ _ _); (with_unfolding_all refine' in_tuple_strs ?k1 ?k2 ?_; (case k1 => first | exact kun_topT (by k_asm) (by k_asm) (by k_is) | exact News.isTup (by k_asm) (by k_mem)); (case k2 => kde_strs); k_whole))
  k_with "compareOp NotIn str ref" => (k_here; (with_reducible show wpAny _ _ (compareOp CmpOp.NotIn (Value.str _ _) (Value.ref _)) _ _ _); (with_unfolding_all refine' notin_tuple_strs ?k1 ?k2 ?_; (case k1 => first | exact kun_topT (by k_asm) (by k_asm) (by k_is) | exact News.isTup (by k_asm) (by k_mem)); (case k2 => kde_strs); k_whole))
  k_with "my plain" => ((intro h9ω tk9ω F9ω N9ω); (try k_sweep))
  k_with "subscriptTail" => k_extra "my item"
  k_with "compareOp In str ref" => k_extra "my in"
  k_with "my plain1" => ((intro u9ω h9ω tk9ω F9ω N9ω); (try k_sweep))
  k_with "compareOp NotEq ref ref" => (k_here; (with_reducible show wpAny _ _ (compareOp CmpOp.NotEq (Value.ref _) (Value.ref _)) _ _ _); (with_unfolding_all refine' ne_intsK ?k1 ?k2 ?k3 ?k4 ?k5 ?_; (case k1 => is_list); (case k2 => l_ints); (case k3 => is_list); (case k4 => l_ints); (case k5 => k_extra "my room"); k_whole))
  k_with "my mem" => first | ktr_member | exact List.Mem.head _ | (refine List.mem_cons_of_mem _ ?_; k_extra "my mem")
  k_with "k_mem" => k_extra "my mem"
  k_with "compareOp NotIn str ref" => k_extra "my notin"
  k_with "call builtin:dict.get" => k_extra "my get"
  k_with "getMethod ref" => k_extra "my getm"
  k_with "setItem ref str" => k_extra "my set"
  k_with "k_room" => ((try dsimp (config := { zetaDelta := true }) only); (try simp only [depth_under_make, depth_under_kw, depth_in1, depth_deeper, depth_caller]); (try dsimp only); k_extra "my roomx")
  k_with "getItem ref str" => k_extra "my gitem"
  k_with "pyIter ref" => k_extra "my for"
  k_with "k_qdec" => decide +kernel
  k_with "my lt" => with_reducible (first | assumption | exact And.left (by assumption) | exact And.left (And.right (by assumption)) | exact And.left (And.right (And.right (by assumption))) | exact And.left (And.right (And.right (And.right (by assumption)))) | exact And.left (And.right (And.right (And.right (And.right (by assumption))))) | exact And.left (And.right (And.right (And.right (And.right (And.right (by assumption)))))) | exact And.left (And.right (And.right (And.right (And.right (And.right (And.right (by assumption))))))) | exact And.left (And.right (And.right (And.right (And.right (And.right (And.right (And.right (by assumption)))))))) | exact And.left (And.right (And.right (And.right (And.right (And.right (And.right (And.right (And.right (by assumption))))))))) | exact And.left (And.right (And.right (And.right (And.right (And.right (And.right (And.right (And.right (And.right (by assumption)))))))))))
  k_with "k_ne" => first | with_reducible assumption | with_reducible exact Ne.symm (by assumption) | (refine Nat.ne_of_lt ?_; k_extra "my lt") | (refine Nat.ne_of_gt ?_; k_extra "my lt") | (refine Nat.ne_of_gt ?_; (repeat (first | exact Nat.lt_succ_self _ | refine Nat.lt_succ_of_lt ?_)); done) | (refine Nat.ne_of_lt ?_; (repeat (first | exact Nat.lt_succ_self _ | refine Nat.lt_succ_of_lt ?_)); done) | (refine neN ?_; (try dsimp only); omega)
  k_with "l_idx" => first | assumption | exact idx_a (by assumption) (by assumption) | exact idx_b (by assumption) | exact idx_c (by assumption) (by assumption)
  k_with "JPost" => with_reducible first | refine JPost.next ?_ | refine JPost.ret ?_ | refine JPost.brk ?_ | refine JPost.cont ?_
  k_with "storeName" => (k_here; k_dflt (refine' storeX_M ?F ?N ?_ ?a ?b; (case F => k_asm); (case N => k_asm); (case a => rfl); (case b => rfl); k_whole); (intro h'ω tk'ω m'ω F'ω N'ω); (try k_sweep))
  k_with "ksw skip" => repeat (first | (refine' ite_skip ?hx ?_; (case hx => first | exact ne_stored (by assumption) rfl | exact h2ω _ (List.Mem.head _) | exact h2ω _ (List.Mem.tail _ (List.Mem.head _)) | exact h2ω _ (List.Mem.tail _ (List.Mem.tail _ (List.Mem.head _))))) | refine ite_skip2 (by assumption) ?_)
  k_with "ksw_same" => (
      intro zω h2ω h3ω
      first
        | rfl
        | (k_extra "ksw skip"; first | rfl | (refine Eq.symm ?_; k_extra "ksw skip"; rfl))
        | ((simp only [List.forall_mem_cons, List.not_mem_nil, false_implies, implies_true, and_true, ne_eq] at h2ω); (simp (zetaDelta := true) [h2ω]; done))
        | ((simp only [List.forall_mem_cons, List.not_mem_nil, false_implies, implies_true, and_true, ne_eq] at h2ω); (simp only [List.contains_cons, List.contains_nil, Bool.or_false, Bool.or_eq_false_iff, beq_eq_false_iff_ne, ne_eq] at h3ω); (simp (zetaDelta := true) [h2ω, h3ω]; done)))
  k_with "execs cons" => (k_here; (first | (refine' norm_M (gn := gnω) (dr := drω) (os := osω) ?F9 ?e9 ?_; (case F9 => k_asm); (case e9 => exact rfl); intro tk9ω) | ((try dsimp only); (try k_gentoks))); first | (with_reducible refine' execs_one ?_) | ((with_reducible refine' execs_let ?_); intro kkω))
  k_with "my leaf" => with_reducible first | show Post _ _ _ _ _ _ _ _ | show JOut _ _ _ _ _ _ _ _ _ | show MEnd _ _ _ _ _ _ _ _ _ _ _ _ _ | show MOut _ _ _ _ _ _ _ _ _ _ _
  k_with "k_steps" => repeat' (first | k_unfold | ((fail_if_success k_extra "my leaf"); first | walk1 | (dsimp only; walk1)) | (leave1; walk_say "STEP leave1"; (try dsimp only)) | fail "no step")
  k_with "my cond" => simp only [true_and, and_true, false_and, and_false, true_or, or_true, false_or, or_false, if_true, if_false, Bool.false_eq_true, Bool.true_eq_false, reduceCtorEq, and_self, or_self, not_true_eq_false, not_false_eq_true]
  k_with "eval Constant int" => (k_here; (with_reducible refine int_M ?_); intro t9ω tk9ω)
  k_with "eval Constant str" => (k_here; (with_reducible refine str_M ?_); intro t9ω tk9ω)
  k_with "binaryOp Add int int" => (k_here; (with_reducible refine add_M ?_); intro t9ω tk9ω)
  k_with "binaryOp Sub int int" => (k_here; (with_reducible refine sub_M ?_); intro t9ω tk9ω)
  k_with "call ref" => (
      (with_reducible show wpAny _ _ (call (Value.ref 145) _) _ _ _)
      k_dflt (refine' Does.val1 (place_does ?p1 ?p2 ?p3) ?k1 ?k2 ?k3 ?k4 ?k5 ?k6 ?k7 ?k8 ?k9 ?_; k_extra "my sides"; (case p1 => k_mem); (case p2 => assumption); (case p3 => first | assumption | omega))
      k_extra "my plain1")
  k_with "call ref" => (
      (with_reducible show wpAny _ _ (call (Value.ref 28) _) _ _ _)
      k_dflt (refine' Does.val syllable_does ?k1 ?k2 ?k3 ?k4 ?k5 ?k6 ?k7 ?k8 ?k9 ?_; k_extra "my sides")
      k_extra "my plain")
  k_with "call ref" => (
      (with_reducible show wpAny _ _ (call (Value.ref 52) _) _ _ _)
      k_dflt (refine' Does.val joins_does ?k1 ?k2 ?k3 ?k4 ?k5 ?k6 ?k7 ?k8 ?k9 ?_; k_extra "my sides")
      k_extra "my plain")
  k_with "call ref" => (
      (with_reducible show wpAny _ _ (call (Value.ref 59) _) _ _ _)
      k_dflt (first
        | (refine' Does.val (pairS_does ?p1) ?k1 ?k2 ?k3 ?k4 ?k5 ?k6 ?k7 ?k8 ?k9 ?_; (case p1 => assumption); k_extra "my sides")
        | (refine' Does.val (pairN_does ?p1) ?k1 ?k2 ?k3 ?k4 ?k5 ?k6 ?k7 ?k8 ?k9 ?_; (case p1 => assumption); k_extra "my sides"))
      k_extra "my plain")
  k_with "call ref" => (
      (with_reducible show wpAny _ _ (call (Value.ref 173) _) _ _ _)
      k_dflt (refine' Does.val (rget_does' (by assumption) (by assumption)) ?k1 ?k2 ?k3 ?k4 ?k5 ?k6 ?k7 ?k8 ?k9 ?_; k_extra "my sides")
      k_extra "my plain")
  k_with "my cell" => first | assumption | exact Cells.at' (by assumption) _ (by omega)
  k_with "call ref" => (
      (with_reducible show wpAny _ _ (call (Value.ref 236) _) _ _ _)
      k_dflt (first
       | ((with_reducible show wpAny _ _ (call _ [_, Value.str (Str.ofString "gcb") _, _]) _ _ _); refine' Does.val (dgetG_does ?p1 ?p2) ?k1 ?k2 ?k3 ?k4 ?k5 ?k6 ?k7 ?k8 ?k9 ?_; k_extra "my sides"; (case p1 => assumption); (case p2 => assumption); k_extra "my plain")
       | ((with_reducible show wpAny _ _ (call _ [_, Value.str (Str.ofString "incb") _, _]) _ _ _); refine' Does.val1 (dgetI_does ?p1 ?p2) ?k1 ?k2 ?k3 ?k4 ?k5 ?k6 ?k7 ?k8 ?k9 ?_; k_extra "my sides"; (case p1 => assumption); (case p2 => k_extra "my cell"); k_extra "my plain1")
       | ((with_reducible show wpAny _ _ (call _ [_, Value.str (Str.ofString "ep") _, _]) _ _ _); refine' Does.val (dgetP_does ?p1 ?p2) ?k1 ?k2 ?k3 ?k4 ?k5 ?k6 ?k7 ?k8 ?k9 ?_; k_extra "my sides"; (case p1 => assumption); (case p2 => k_extra "my cell"); k_extra "my plain")))
  k_with "call ref" => (
      (with_reducible show wpAny _ _ (call (Value.ref 35) _) _ _ _)
      k_dflt (first
        | (refine' Does.val1 (kindHs_does ?p1) ?k1 ?k2 ?k3 ?k4 ?k5 ?k6 ?k7 ?k8 ?k9 ?_; (case p1 => assumption); k_extra "my sides"; k_extra "my plain1")
        | (refine' Does.val (kindHn_does ?p1) ?k1 ?k2 ?k3 ?k4 ?k5 ?k6 ?k7 ?k8 ?k9 ?_; (case p1 => assumption); k_extra "my sides"; k_extra "my plain")))
  k_with "call ref" => (
      (with_reducible show wpAny _ _ (call (Value.ref 45) _) _ _ _)
      k_dflt (refine' Does.val1 (kind_does ?p1 ?p2) ?k1 ?k2 ?k3 ?k4 ?k5 ?k6 ?k7 ?k8 ?k9 ?_; k_extra "my sides"; (case p1 => assumption); (case p2 => k_extra "my cell"))
      k_extra "my plain1")
  k_with "call ref" => (
      (with_reducible show wpAny _ _ (call (Value.ref 66) _) _ _ _)
      k_dflt (refine' Does.val (conj_does ?p1 ?p2 ?p3 ?p4 ?p5 ?p6 ?p7) ?k1 ?k2 ?k3 ?k4 ?k5 ?k6 ?k7 ?k8 ?k9 ?_; k_extra "my sides"; (case p1 => assumption); (case p2 => k_mem); (case p3 => assumption); (case p4 => omega); (case p5 => assumption); (case p6 => omega); (case p7 => omega))
      k_extra "my plain")
  k_with "call ref" => (
      (with_reducible show wpAny _ _ (call (Value.ref 73) _) _ _ _)
      k_dflt (refine' Does.val (pict_does ?p1 ?p2 ?p3 ?p4 ?p5 ?p6 ?p7) ?k1 ?k2 ?k3 ?k4 ?k5 ?k6 ?k7 ?k8 ?k9 ?_; k_extra "my sides"; (case p1 => assumption); (case p2 => k_mem); (case p3 => assumption); (case p4 => omega); (case p5 => assumption); (case p6 => omega); (case p7 => omega))
      k_extra "my plain")
  k_with "call ref" => (
      (with_reducible show wpAny _ _ (call (Value.ref 80) _) _ _ _)
      k_dflt (refine' Does.val1 (flags_does ?p1 ?p2 ?p3 ?p4 ?p5 ?p6 ?p7) ?k1 ?k2 ?k3 ?k4 ?k5 ?k6 ?k7 ?k8 ?k9 ?_; k_extra "my sides"; (case p1 => assumption); (case p2 => k_mem); (case p3 => assumption); (case p4 => omega); (case p5 => assumption); (case p6 => omega); (case p7 => omega))
      k_extra "my plain1")
  k_with "call ref" => (
      (with_reducible show wpAny _ _ (call (Value.ref 87) _) _ _ _)
      k_dflt (refine' Does.val (flag_does ?p1 ?p2 ?p3 ?p4 ?p5 ?p6 ?p7) ?k1 ?k2 ?k3 ?k4 ?k5 ?k6 ?k7 ?k8 ?k9 ?_; k_extra "my sides"; (case p1 => assumption); (case p2 => k_mem); (case p3 => assumption); (case p4 => omega); (case p5 => assumption); (case p6 => omega); (case p7 => omega))
      k_extra "my plain")
  k_with "call ref" => (
      (with_reducible show wpAny _ _ (call (Value.ref 95) _) _ _ _)
      k_dflt (refine' Does.val (break_does ?p1 ?p2 ?p3 ?p4 ?p5 ?p6 ?p7) ?k1 ?k2 ?k3 ?k4 ?k5 ?k6 ?k7 ?k8 ?k9 ?_; k_extra "my sides"; (case p1 => assumption); (case p2 => k_mem); (case p3 => assumption); (case p4 => omega); (case p5 => assumption); (case p6 => omega); (case p7 => omega))
      k_extra "my plain")
  k_with "my inc" => first | exact fun _ h => h | exact kst_inSelf | kst_inAny
  k_with "call builtin:len" => (k_here; (with_reducible show wpAny _ _ (call (Value.builtin "len") [Value.ref _]) _ _ _); k_dflt (refine' row_len ?k1 ?k2 ?k3 ?k4 ?_; (case k1 => k_asm); (case k2 => assumption); (case k3 => k_extra "my inc"); (case k4 => omega)); k_whole)
  k_with "subscriptTail Name Name ref int" => k_extra "my row"
  k_with "subscriptTail Name BinOp ref int" => k_extra "my row"
  k_with "my row" => (k_here; (with_reducible show wpAny _ _ (subscriptTail _ _ (Value.ref _) (Value.int _ _)) _ _ _); k_dflt (refine' row_item ?k1 ?k2 ?k3 ?k4 ?k5 ?k6 ?_ ?k8 ?k9; (case k1 => k_asm); (case k2 => assumption); (case k3 => k_extra "my inc"); (case k8 => with_unfolding_all rfl); (case k9 => (intro _; with_unfolding_all rfl)); (case k4 => omega); (case k5 => omega); (case k6 => omega)); k_whole; (intro a9ω t8ω t9ω n9ω hm9ω))
  k_with "call ref" => (
      (with_reducible show wpAny _ _ (call (Value.ref 297) _) _ _ _)
      k_dflt (refine' Does.val1 (past_does ?p1 ?p2 ?p3 ?p4 ?p5) ?k1 ?k2 ?k3 ?k4 ?k5 ?k6 ?k7 ?k8 ?k9 ?_; k_extra "my sides"; (case p1 => first | assumption | exact RowAt.mono (by assumption) (by k_extra "my inc")); (case p2 => omega); (case p4 => k_mem); (case p5 => kde_strs); (case p3 => omega))
      k_extra "my plain1")
  trivial
section

noncomputable def inK (ys : List Str) (cells : List Cell) (a : Nat) : Bool := ys.any fun y => y == (cells.getD a c0).k
noncomputable def sylOn (cells : List Cell) (a here : Nat) : Nat :=
  if here < cells.length ∧ ([Str.ofString "V", Str.ofString "LV"].any fun y => y == (cells.getD here c0).k) = true then pastF cells [Str.ofString "T"] (pastF cells [Str.ofString "V"] (here + 1))
  else if here < cells.length ∧ ((cells.getD here c0).k == Str.ofString "LVT") = true then pastF cells [Str.ofString "T"] (here + 1)
  else if a < here then here else pastF cells [Str.ofString "T"] a
noncomputable def sylEnd (cells : List Cell) (a : Nat) : Nat := sylOn cells a (pastF cells [Str.ofString "L"] a)
section
variable {cells : List Cell} {a : Int} {here : Nat}
theorem syl_a (h : (here : Int) < cells.length) (hk : ([Str.ofString "V", Str.ofString "LV"].any fun y => y == (cells.getD (here : Int).toNat c0).k) = true) :
    sylOn cells a.toNat here = pastF cells [Str.ofString "T"] (pastF cells [Str.ofString "V"] (here + 1)) := if_pos ⟨by omega, hk⟩
theorem syl_b (h : (here : Int) < cells.length) (hk : ([Str.ofString "V", Str.ofString "LV"].any fun y => y == (cells.getD (here : Int).toNat c0).k) = false) (hl : ((cells.getD (here : Int).toNat c0).k == Str.ofString "LVT") = true) :
    sylOn cells a.toNat here = pastF cells [Str.ofString "T"] (here + 1) := (if_neg (fun q => by rw [Int.toNat_natCast, q.2] at hk; cases hk)).trans (if_pos ⟨by omega, hl⟩)
theorem syl_c (h : (here : Int) < cells.length) (hk : ([Str.ofString "V", Str.ofString "LV"].any fun y => y == (cells.getD (here : Int).toNat c0).k) = false) (hl : ((cells.getD (here : Int).toNat c0).k == Str.ofString "LVT") = false) :
    sylOn cells a.toNat here = if a.toNat < here then here else pastF cells [Str.ofString "T"] a.toNat :=
  (if_neg (fun q => by rw [Int.toNat_natCast, q.2] at hk; cases hk)).trans (if_neg fun q => by rw [Int.toNat_natCast, q.2] at hl; cases hl)
theorem syl_d (h : ¬ (here : Int) < cells.length) : sylOn cells a.toNat here = if a.toNat < here then here else pastF cells [Str.ofString "T"] a.toNat :=
  (if_neg (fun q => h (by have := q.1; omega))).trans (if_neg fun q => h (by have := q.1; omega))
end
set_option maxRecDepth 100000 in
set_option maxHeartbeats 4000000 in
theorem syl_does {w : World} {rl : Addr} {cells : List Cell} {a : Int} {t : Tok} {news : List (Addr × Obj)}
    (R : RowAt news rl cells) (hl : cells.length < 100000) (h0 : 0 ≤ a) (h1 : a ≤ cells.length) :
    Does w 304 [.ref rl, .int a t] 3 50 news (fun r news' => news' = news ∧ ∃ u, r = .int (sylEnd cells a.toNat) u) := by
  have q1 := pastF_le (ys := [Str.ofString "L"]) (show a.toNat ≤ cells.length by omega)
  have e2 : ∀ n : Nat, ((n : Int) + 1).toNat = n + 1 := fun n => by omega
  k_extra "my enter"
  k_steps
  all_goals k_extra "my ret"
  all_goals refine ⟨_, congrArg (fun z => Value.int z _) ?_⟩
  all_goals unfold sylEnd
  · rw [syl_a (by assumption) (by assumption), e2, Int.toNat_natCast]
  · rw [syl_b (by assumption) (by assumption) (by assumption), e2]
  · rw [syl_c (by assumption) (by assumption) (by assumption), if_pos (by omega)]
  · rw [syl_c (by assumption) (by assumption) (by assumption), if_neg (by omega)]
  · rw [syl_d (by assumption), if_pos (by omega)]
  · rw [syl_d (by assumption), if_neg (by omega)]


end
theorem fresh_pics : True := by
  k_with "my rowp" => first | assumption | exact RowAt.mono (by assumption) (by k_extra "my inc")
  k_with "call ref" => (
      (with_reducible show wpAny _ _ (call (Value.ref 304) _) _ _ _)
      k_dflt (refine' Does.val1 (syl_does ?p1 ?p2 ?p3 ?p4) ?k1 ?k2 ?k3 ?k4 ?k5 ?k6 ?k7 ?k8 ?k9 ?_; k_extra "my sides"; (case p1 => k_extra "my rowp"); (case p2 => omega); (case p3 => omega); (case p4 => omega))
      k_extra "my plain1")
  trivial
section
noncomputable def ext1 : List Str := [Str.ofString "Extend"]
/-- behind a picture: on over joined pictures -/
noncomputable def picsF (cells : List Cell) : Nat → Nat → Nat
  | 0, here => here
  | f + 1, here => if pastF cells [Str.ofString "Extend"] here + 1 < cells.length ∧ ((cells.getD (pastF cells [Str.ofString "Extend"] here) c0).k == Str.ofString "ZWJ") = true ∧ (cells.getD (pastF cells [Str.ofString "Extend"] here + 1) c0).p = true
      then picsF cells f (pastF cells [Str.ofString "Extend"] here + 2) else here
theorem picsF_succ (cells : List Cell) (f here : Nat) : picsF cells (f + 1) here = if pastF cells [Str.ofString "Extend"] here + 1 < cells.length ∧ ((cells.getD (pastF cells [Str.ofString "Extend"] here) c0).k == Str.ofString "ZWJ") = true ∧ (cells.getD (pastF cells [Str.ofString "Extend"] here + 1) c0).p = true
      then picsF cells f (pastF cells [Str.ofString "Extend"] here + 2) else here := rfl
noncomputable def picsEnd (cells : List Cell) (a : Nat) : Nat := picsF cells (cells.length + 1) (a + 1)
theorem picsF_more (cells : List Cell) : ∀ (f g here : Nat), cells.length + 1 ≤ f + here → cells.length + 1 ≤ g + here → picsF cells f here = picsF cells g here
  | 0, 0, _, _, _ => rfl
  | 0, g + 1, here, h, _ => by
    unfold picsF
    rw [if_neg]
    have := pastF_ge (cells := cells) (ys := [Str.ofString "Extend"]) (a := here)
    lia
  | f + 1, 0, here, _, h => by
    unfold picsF
    rw [if_neg]
    have := pastF_ge (cells := cells) (ys := [Str.ofString "Extend"]) (a := here)
    lia
  | f + 1, g + 1, here, h1, h2 => by
    unfold picsF
    have := pastF_ge (cells := cells) (ys := [Str.ofString "Extend"]) (a := here)
    rw [picsF_more cells f g (pastF cells [Str.ofString "Extend"] here + 2) (by lia) (by lia)]
noncomputable def PicsI (cells : List Cell) (a : Nat) (here : Int) : Prop := (a : Int) + 1 ≤ here ∧ here ≤ cells.length ∧ picsF cells (cells.length + 1) here.toNat = picsEnd cells a
theorem pics_start {cells : List Cell} {a : Int} (h : 0 ≤ a) (h1 : a < cells.length) : PicsI cells a.toNat (a + 1) := ⟨by lia, by lia, by rw [show (a + 1).toNat = a.toNat + 1 by lia]; rfl⟩
theorem pics_on {cells : List Cell} {a : Nat} {here : Int} (I : PicsI cells a here) (h : ((pastF cells [Str.ofString "Extend"] here.toNat : Nat) : Int) + 1 < cells.length)
    (hk : ((cells.getD ((pastF cells [Str.ofString "Extend"] here.toNat : Nat) : Int).toNat c0).k == Str.ofString "ZWJ") = true) (hp : (cells.getD (((pastF cells [Str.ofString "Extend"] here.toNat : Nat) : Int) + 1).toNat c0).p = true) : PicsI cells a (pastF cells [Str.ofString "Extend"] here.toNat + 2) := by
  obtain ⟨i1, i2, i3⟩ := I
  have e2 : ∀ n : Nat, ((n : Int) + 1).toNat = n + 1 := fun n => by lia
  have := pastF_ge (cells := cells) (ys := [Str.ofString "Extend"]) (a := here.toNat)
  refine ⟨by lia, by lia, ?_⟩
  rw [← i3, picsF_more cells (cells.length + 1) (cells.length + 1 + 1) here.toNat (by lia) (by lia)]
  rw [picsF_succ cells (cells.length + 1) here.toNat, if_pos ⟨by lia, by simpa using hk, by simpa [e2] using hp⟩, show ((pastF cells [Str.ofString "Extend"] here.toNat : Nat) + 2 : Int).toNat = pastF cells [Str.ofString "Extend"] here.toNat + 2 by lia]
theorem pics_no {cells : List Cell} {a : Nat} {here : Int} (I : PicsI cells a here)
    (h : ((pastF cells [Str.ofString "Extend"] here.toNat : Nat) : Int) + 1 < cells.length → ((cells.getD ((pastF cells [Str.ofString "Extend"] here.toNat : Nat) : Int).toNat c0).k == Str.ofString "ZWJ") = true → (cells.getD (((pastF cells [Str.ofString "Extend"] here.toNat : Nat) : Int) + 1).toNat c0).p = true → False) :
    here = picsEnd cells a := by
  obtain ⟨i1, i2, i3⟩ := I
  have e2 : ∀ n : Nat, ((n : Int) + 1).toNat = n + 1 := fun n => by lia
  rw [← i3, picsF_succ, if_neg (fun q => h (by have := q.1; lia) (by simpa using q.2.1) (by simpa [e2] using q.2.2))]
  lia
set_option maxRecDepth 100000 in
set_option maxHeartbeats 4000000 in
theorem pics_does {w : World} {rl : Addr} {cells : List Cell} {a : Int} {t : Tok} {news : List (Addr × Obj)}
    (R : RowAt news rl cells) (hl : cells.length < 100000) (h0 : 0 ≤ a) (h1 : a < cells.length) :
    Does w 311 [.ref rl, .int a t] 3 50 news (fun r news' => news' = news ∧ ∃ u, r = .int (picsEnd cells a.toNat) u) := by
  k_with "my whileT" =>
    rename Fr _ _ _ _ => lF'
    rename News _ _ _ _ => lN'
    with_unfolding_all refine' m_while (σ := Int × Tok) (fun c => [(Str.ofString "here", .int c.1 c.2)]) [Str.ofString "there"] (fun c => PicsI cells a.toNat c.1) (fun c => (cells.length + 1 - c.1).toNat) ⟨_, _⟩ lF' lN' ?kk ?kp ?_
    case kk => kst_all
    case kp => exact pics_start h0 h1
    clear lF' lN'
    rintro ⟨here, t1⟩ u h tk hP F5 N5
    dsimp only [kstB] at F5
    dsimp only at hP
    have hP1 := hP.1
    have hP2 := hP.2.1
    have hP3 := pastF_ge (cells := cells) (ys := [Str.ofString "Extend"]) (a := here.toNat)
    try k_fold
  k_extra "my enter"
  k_steps
  · refine MEnd.intro ⟨_, _⟩ (by assumption) (by assumption) (by k_extra "my inc") (by kst_all) (by ksw_same) (pics_on hP (by assumption) (by assumption) (by assumption)) ?_
    show (cells.length + 1 - ((pastF cells [Str.ofString "Extend"] here.toNat : Nat) + 2 : Int)).toNat < (cells.length + 1 - here).toNat
    omega
  all_goals
    k_extra "my ret"
    rw [pics_no hP (by intro p1 p2 p3; simp_all)]
    exact ⟨_, rfl⟩


end
theorem fresh_cons : True := by
  k_with_none
  w_top off
  k_with "is_list" => exact News.isList (by k_asm) (by k_mem)
  k_with "exec While Compare cons nil" => k_extra "my while"
  k_with "exec While BoolOp cons nil" => k_extra "my while"
  k_with "exec While Constant cons nil" => k_extra "my whileT"
  k_with "MPost" => with_reducible first | refine MPost.next ?_ | refine MPost.ret ?_ | refine MPost.brk ?_ | refine MPost.cont ?_
  k_with "seqQ" => with_reducible first | refine seqQ.next ?_ | refine seqQ.ret ?_ | refine seqQ.brk ?_ | refine seqQ.cont ?_
  k_with "my enter" => (
      refine' enter ?k6 ?k7 ?k9 ?kB ?kN ?kU ?c2 ?c3 ?c4 ?c5 ?_
      case k6 => k_is
      case k7 => k_is
      case k9 => first | exact fun _ _ => BindsTo.of_eq rfl | (intro s9ω X9ω; exact binds_K X9ω rfl (by k_is) rfl rfl rfl)
      case kB => exact locs rfl
      case kN => exact rfl
      case kU => exact rfl
      case c2 => exact rfl
      case c3 => exact rfl
      case c4 => exact rfl
      case c5 => decide
      intro dpω unω gdω outerω A₀ω baseω gω h₁ω Lω gnω drω osω tkω meanω mgω mbω Eω Bω Xω Tω hdω huω eω Aω mω hEω Fω Nω)
  k_with "my ret" => (
      first
        | refine Post.ret (by k_asm) ?kN9 ⟨rfl, ?_⟩
        | refine Post.next (by k_asm) ?kN9 ⟨rfl, ?_⟩
      case kN9 => first | k_asm | exact kst_newsOf (by assumption) (by kst_inAny)
      k_extra "my clean")
  k_with "my clean" => ((repeat (rename Fr _ _ _ _ => z9ω; clear z9ω)); (repeat (rename News _ _ _ _ => z9ω; clear z9ω)); (try clear hEω Bω Xω Tω hdω huω))
  k_with "my roomx" => first | exact room_c (by assumption) rfl | exact room_b (by assumption) rfl | exact room_a (by assumption) | exact room_d (by assumption) rfl | exact room_e (by assumption) rfl | exact Nat.le_of_ble_eq_true rfl | omega
  k_with "my room" => ((try dsimp (config := { zetaDelta := true }) only [Around.deeper, Around.mark, Around.in1]); k_extra "my roomx")
  k_with "my sides" => (
      (case k1 => k_asm)
      (case k2 => k_asm)
      (case k3 => k_asm)
      (case k4 => k_asm)
      (case k5 => k_asm)
      (case k6 => exact rfl)
      (case k7 => exact rfl)
      (case k8 => k_extra "my room")
      (case k9 => k_extra "my room"))
  k_with "compareOp In str ref" => (k_here; (with_reducible show wpAny _ _ (compareOp CmpOp.In (Value.str _ _) (Value.ref _)) _ _ _); (with_unfolding_all refine' in_tuple_strs ?k1 ?k2 ?_; (case k1 => first | exact kun_topT (by k_asm) (by k_asm) (by k_is) | exact News.isTup (by k_asm) (by k_mem)); (case k2 => kde_strs); k_whole))
  k_with "compareOp NotIn str ref" => (k_here; (with_reducible show wpAny _ _ (compareOp CmpOp.NotIn (Value.str _ _) (Value.ref _)) _ _ _); (with_unfolding_all refine' notin_tuple_strs ?k1 ?k2 ?_; (case k1 => first | exact kun_topT (by k_asm) (by k_asm) (by k_is) | exact News.isTup (by k_asm) (by k_mem)); (case k2 => kde_strs); k_whole))
  k_with "my plain" => ((intro h9ω tk9ω F9ω N9ω); (try k_sweep))
  k_with "subscriptTail" => k_extra "my item"
  k_with "compareOp In str ref" => k_extra "my in"
  k_with "my plain1" => ((intro u9ω h9ω tk9ω F9ω N9ω); (try k_sweep))
  k_with "compareOp NotEq ref ref" => (k_here; (with_reducible show wpAny _ _ (compareOp CmpOp.NotEq (Value.ref _) (Value.ref _)) _ _ _); (with_unfolding_all refine' ne_intsK ?k1 ?k2 ?k3 ?k4 ?k5 ?_; (case k1 => is_list); (case k2 => l_ints); (case k3 => is_list); (case k4 => l_ints); (case k5 => k_extra "my room"); k_whole))
  k_with "my mem" => first | ktr_member | exact List.Mem.head _ | (refine List.mem_cons_of_mem _ ?_; k_extra "my mem")
  k_with "k_mem" => k_extra "my mem"
  k_with "compareOp NotIn str ref" => k_extra "my notin"
  k_with "call builtin:dict.get" => k_extra "my get"
  k_with "getMethod ref" => k_extra "my getm"
  k_with "setItem ref str" => k_extra "my set"
  k_with "k_room" => ((try dsimp (config := { zetaDelta := true }) only); (try simp only [depth_under_make, depth_under_kw, depth_in1, depth_deeper, depth_caller]); (try dsimp only); k_extra "my roomx")
  k_with "getItem ref str" => k_extra "my gitem"
  k_with "pyIter ref" => k_extra "my for"
  k_with "k_qdec" => decide +kernel
  k_with "my lt" => with_reducible (first | assumption | exact And.left (by assumption) | exact And.left (And.right (by assumption)) | exact And.left (And.right (And.right (by assumption))) | exact And.left (And.right (And.right (And.right (by assumption)))) | exact And.left (And.right (And.right (And.right (And.right (by assumption))))) | exact And.left (And.right (And.right (And.right (And.right (And.right (by assumption)))))) | exact And.left (And.right (And.right (And.right (And.right (And.right (And.right (by assumption))))))) | exact And.left (And.right (And.right (And.right (And.right (And.right (And.right (And.right (by assumption)))))))) | exact And.left (And.right (And.right (And.right (And.right (And.right (And.right (And.right (And.right (by assumption))))))))) | exact And.left (And.right (And.right (And.right (And.right (And.right (And.right (And.right (And.right (And.right (by assumption)))))))))))
  k_with "k_ne" => first | with_reducible assumption | with_reducible exact Ne.symm (by assumption) | (refine Nat.ne_of_lt ?_; k_extra "my lt") | (refine Nat.ne_of_gt ?_; k_extra "my lt") | (refine Nat.ne_of_gt ?_; (repeat (first | exact Nat.lt_succ_self _ | refine Nat.lt_succ_of_lt ?_)); done) | (refine Nat.ne_of_lt ?_; (repeat (first | exact Nat.lt_succ_self _ | refine Nat.lt_succ_of_lt ?_)); done) | (refine neN ?_; (try dsimp only); omega)
  k_with "l_idx" => first | assumption | exact idx_a (by assumption) (by assumption) | exact idx_b (by assumption) | exact idx_c (by assumption) (by assumption)
  k_with "JPost" => with_reducible first | refine JPost.next ?_ | refine JPost.ret ?_ | refine JPost.brk ?_ | refine JPost.cont ?_
  k_with "storeName" => (k_here; k_dflt (refine' storeX_M ?F ?N ?_ ?a ?b; (case F => k_asm); (case N => k_asm); (case a => rfl); (case b => rfl); k_whole); (intro h'ω tk'ω m'ω F'ω N'ω); (try k_sweep))
  k_with "ksw skip" => repeat (first | (refine' ite_skip ?hx ?_; (case hx => first | exact ne_stored (by assumption) rfl | exact h2ω _ (List.Mem.head _) | exact h2ω _ (List.Mem.tail _ (List.Mem.head _)) | exact h2ω _ (List.Mem.tail _ (List.Mem.tail _ (List.Mem.head _))))) | refine ite_skip2 (by assumption) ?_)
  k_with "ksw_same" => (
      intro zω h2ω h3ω
      first
        | rfl
        | (k_extra "ksw skip"; first | rfl | (refine Eq.symm ?_; k_extra "ksw skip"; rfl))
        | ((simp only [List.forall_mem_cons, List.not_mem_nil, false_implies, implies_true, and_true, ne_eq] at h2ω); (simp (zetaDelta := true) [h2ω]; done))
        | ((simp only [List.forall_mem_cons, List.not_mem_nil, false_implies, implies_true, and_true, ne_eq] at h2ω); (simp only [List.contains_cons, List.contains_nil, Bool.or_false, Bool.or_eq_false_iff, beq_eq_false_iff_ne, ne_eq] at h3ω); (simp (zetaDelta := true) [h2ω, h3ω]; done)))
  k_with "execs cons" => (k_here; (first | (refine' norm_M (gn := gnω) (dr := drω) (os := osω) ?F9 ?e9 ?_; (case F9 => k_asm); (case e9 => exact rfl); intro tk9ω) | ((try dsimp only); (try k_gentoks))); first | (with_reducible refine' execs_one ?_) | ((with_reducible refine' execs_let ?_); intro kkω))
  k_with "my leaf" => with_reducible first | show Post _ _ _ _ _ _ _ _ | show JOut _ _ _ _ _ _ _ _ _ | show MEnd _ _ _ _ _ _ _ _ _ _ _ _ _ | show MOut _ _ _ _ _ _ _ _ _ _ _
  k_with "k_steps" => repeat' (first | k_unfold | ((fail_if_success k_extra "my leaf"); first | walk1 | (dsimp only; walk1)) | (leave1; walk_say "STEP leave1"; (try dsimp only)) | fail "no step")
  k_with "my cond" => simp only [true_and, and_true, false_and, and_false, true_or, or_true, false_or, or_false, if_true, if_false, Bool.false_eq_true, Bool.true_eq_false, reduceCtorEq, and_self, or_self, not_true_eq_false, not_false_eq_true]
  k_with "eval Constant int" => (k_here; (with_reducible refine int_M ?_); intro t9ω tk9ω)
  k_with "eval Constant str" => (k_here; (with_reducible refine str_M ?_); intro t9ω tk9ω)
  k_with "binaryOp Add int int" => (k_here; (with_reducible refine add_M ?_); intro t9ω tk9ω)
  k_with "binaryOp Sub int int" => (k_here; (with_reducible refine sub_M ?_); intro t9ω tk9ω)
  k_with "call ref" => (
      (with_reducible show wpAny _ _ (call (Value.ref 145) _) _ _ _)
      k_dflt (refine' Does.val1 (place_does ?p1 ?p2 ?p3) ?k1 ?k2 ?k3 ?k4 ?k5 ?k6 ?k7 ?k8 ?k9 ?_; k_extra "my sides"; (case p1 => k_mem); (case p2 => assumption); (case p3 => first | assumption | omega))
      k_extra "my plain1")
  k_with "call ref" => (
      (with_reducible show wpAny _ _ (call (Value.ref 28) _) _ _ _)
      k_dflt (refine' Does.val syllable_does ?k1 ?k2 ?k3 ?k4 ?k5 ?k6 ?k7 ?k8 ?k9 ?_; k_extra "my sides")
      k_extra "my plain")
  k_with "call ref" => (
      (with_reducible show wpAny _ _ (call (Value.ref 52) _) _ _ _)
      k_dflt (refine' Does.val joins_does ?k1 ?k2 ?k3 ?k4 ?k5 ?k6 ?k7 ?k8 ?k9 ?_; k_extra "my sides")
      k_extra "my plain")
  k_with "call ref" => (
      (with_reducible show wpAny _ _ (call (Value.ref 59) _) _ _ _)
      k_dflt (first
        | (refine' Does.val (pairS_does ?p1) ?k1 ?k2 ?k3 ?k4 ?k5 ?k6 ?k7 ?k8 ?k9 ?_; (case p1 => assumption); k_extra "my sides")
        | (refine' Does.val (pairN_does ?p1) ?k1 ?k2 ?k3 ?k4 ?k5 ?k6 ?k7 ?k8 ?k9 ?_; (case p1 => assumption); k_extra "my sides"))
      k_extra "my plain")
  k_with "call ref" => (
      (with_reducible show wpAny _ _ (call (Value.ref 173) _) _ _ _)
      k_dflt (refine' Does.val (rget_does' (by assumption) (by assumption)) ?k1 ?k2 ?k3 ?k4 ?k5 ?k6 ?k7 ?k8 ?k9 ?_; k_extra "my sides")
      k_extra "my plain")
  k_with "my cell" => first | assumption | exact Cells.at' (by assumption) _ (by omega)
  k_with "call ref" => (
      (with_reducible show wpAny _ _ (call (Value.ref 236) _) _ _ _)
      k_dflt (first
       | ((with_reducible show wpAny _ _ (call _ [_, Value.str (Str.ofString "gcb") _, _]) _ _ _); refine' Does.val (dgetG_does ?p1 ?p2) ?k1 ?k2 ?k3 ?k4 ?k5 ?k6 ?k7 ?k8 ?k9 ?_; k_extra "my sides"; (case p1 => assumption); (case p2 => assumption); k_extra "my plain")
       | ((with_reducible show wpAny _ _ (call _ [_, Value.str (Str.ofString "incb") _, _]) _ _ _); refine' Does.val1 (dgetI_does ?p1 ?p2) ?k1 ?k2 ?k3 ?k4 ?k5 ?k6 ?k7 ?k8 ?k9 ?_; k_extra "my sides"; (case p1 => assumption); (case p2 => k_extra "my cell"); k_extra "my plain1")
       | ((with_reducible show wpAny _ _ (call _ [_, Value.str (Str.ofString "ep") _, _]) _ _ _); refine' Does.val (dgetP_does ?p1 ?p2) ?k1 ?k2 ?k3 ?k4 ?k5 ?k6 ?k7 ?k8 ?k9 ?_; k_extra "my sides"; (case p1 => assumption); (case p2 => k_extra "my cell"); k_extra "my plain")))
  k_with "call ref" => (
      (with_reducible show wpAny _ _ (call (Value.ref 35) _) _ _ _)
      k_dflt (first
        | (refine' Does.val1 (kindHs_does ?p1) ?k1 ?k2 ?k3 ?k4 ?k5 ?k6 ?k7 ?k8 ?k9 ?_; (case p1 => assumption); k_extra "my sides"; k_extra "my plain1")
        | (refine' Does.val (kindHn_does ?p1) ?k1 ?k2 ?k3 ?k4 ?k5 ?k6 ?k7 ?k8 ?k9 ?_; (case p1 => assumption); k_extra "my sides"; k_extra "my plain")))
  k_with "call ref" => (
      (with_reducible show wpAny _ _ (call (Value.ref 45) _) _ _ _)
      k_dflt (refine' Does.val1 (kind_does ?p1 ?p2) ?k1 ?k2 ?k3 ?k4 ?k5 ?k6 ?k7 ?k8 ?k9 ?_; k_extra "my sides"; (case p1 => assumption); (case p2 => k_extra "my cell"))
      k_extra "my plain1")
  k_with "call ref" => (
      (with_reducible show wpAny _ _ (call (Value.ref 66) _) _ _ _)
      k_dflt (refine' Does.val (conj_does ?p1 ?p2 ?p3 ?p4 ?p5 ?p6 ?p7) ?k1 ?k2 ?k3 ?k4 ?k5 ?k6 ?k7 ?k8 ?k9 ?_; k_extra "my sides"; (case p1 => assumption); (case p2 => k_mem); (case p3 => assumption); (case p4 => omega); (case p5 => assumption); (case p6 => omega); (case p7 => omega))
      k_extra "my plain")
  k_with "call ref" => (
      (with_reducible show wpAny _ _ (call (Value.ref 73) _) _ _ _)
      k_dflt (refine' Does.val (pict_does ?p1 ?p2 ?p3 ?p4 ?p5 ?p6 ?p7) ?k1 ?k2 ?k3 ?k4 ?k5 ?k6 ?k7 ?k8 ?k9 ?_; k_extra "my sides"; (case p1 => assumption); (case p2 => k_mem); (case p3 => assumption); (case p4 => omega); (case p5 => assumption); (case p6 => omega); (case p7 => omega))
      k_extra "my plain")
  k_with "call ref" => (
      (with_reducible show wpAny _ _ (call (Value.ref 80) _) _ _ _)
      k_dflt (refine' Does.val1 (flags_does ?p1 ?p2 ?p3 ?p4 ?p5 ?p6 ?p7) ?k1 ?k2 ?k3 ?k4 ?k5 ?k6 ?k7 ?k8 ?k9 ?_; k_extra "my sides"; (case p1 => assumption); (case p2 => k_mem); (case p3 => assumption); (case p4 => omega); (case p5 => assumption); (case p6 => omega); (case p7 => omega))
      k_extra "my plain1")
  k_with "call ref" => (
      (with_reducible show wpAny _ _ (call (Value.ref 87) _) _ _ _)
      k_dflt (refine' Does.val (flag_does ?p1 ?p2 ?p3 ?p4 ?p5 ?p6 ?p7) ?k1 ?k2 ?k3 ?k4 ?k5 ?k6 ?k7 ?k8 ?k9 ?_; k_extra "my sides"; (case p1 => assumption); (case p2 => k_mem); (case p3 => assumption); (case p4 => omega); (case p5 => assumption); (case p6 => omega); (case p7 => omega))
      k_extra "my plain")
  k_with "call ref" => (
      (with_reducible show wpAny _ _ (call (Value.ref 95) _) _ _ _)
      k_dflt (refine' Does.val (break_does ?p1 ?p2 ?p3 ?p4 ?p5 ?p6 ?p7) ?k1 ?k2 ?k3 ?k4 ?k5 ?k6 ?k7 ?k8 ?k9 ?_; k_extra "my sides"; (case p1 => assumption); (case p2 => k_mem); (case p3 => assumption); (case p4 => omega); (case p5 => assumption); (case p6 => omega); (case p7 => omega))
      k_extra "my plain")
  k_with "my inc" => first | exact fun _ h => h | exact kst_inSelf | kst_inAny
  k_with "call builtin:len" => (k_here; (with_reducible show wpAny _ _ (call (Value.builtin "len") [Value.ref _]) _ _ _); k_dflt (refine' row_len ?k1 ?k2 ?k3 ?k4 ?_; (case k1 => k_asm); (case k2 => assumption); (case k3 => k_extra "my inc"); (case k4 => omega)); k_whole)
  k_with "subscriptTail Name Name ref int" => k_extra "my row"
  k_with "subscriptTail Name BinOp ref int" => k_extra "my row"
  k_with "my row" => (k_here; (with_reducible show wpAny _ _ (subscriptTail _ _ (Value.ref _) (Value.int _ _)) _ _ _); k_dflt (refine' row_item ?k1 ?k2 ?k3 ?k4 ?k5 ?k6 ?_ ?k8 ?k9; (case k1 => k_asm); (case k2 => assumption); (case k3 => k_extra "my inc"); (case k8 => with_unfolding_all rfl); (case k9 => (intro _; with_unfolding_all rfl)); (case k4 => omega); (case k5 => omega); (case k6 => omega)); k_whole; (intro a9ω t8ω t9ω n9ω hm9ω))
  k_with "call ref" => (
      (with_reducible show wpAny _ _ (call (Value.ref 297) _) _ _ _)
      k_dflt (refine' Does.val1 (past_does ?p1 ?p2 ?p3 ?p4 ?p5) ?k1 ?k2 ?k3 ?k4 ?k5 ?k6 ?k7 ?k8 ?k9 ?_; k_extra "my sides"; (case p1 => first | assumption | exact RowAt.mono (by assumption) (by k_extra "my inc")); (case p2 => omega); (case p4 => k_mem); (case p5 => kde_strs); (case p3 => omega))
      k_extra "my plain1")
  k_with "my rowp" => first | assumption | exact RowAt.mono (by assumption) (by k_extra "my inc")
  k_with "call ref" => (
      (with_reducible show wpAny _ _ (call (Value.ref 304) _) _ _ _)
      k_dflt (refine' Does.val1 (syl_does ?p1 ?p2 ?p3 ?p4) ?k1 ?k2 ?k3 ?k4 ?k5 ?k6 ?k7 ?k8 ?k9 ?_; k_extra "my sides"; (case p1 => k_extra "my rowp"); (case p2 => omega); (case p3 => omega); (case p4 => omega))
      k_extra "my plain1")
  k_with "my plainR" => (
      (intro v9ω news9ω h9ω tk9ω F9ω N9ω r9ω)
      (obtain ⟨e9ω, t9ω, f9ω⟩ := r9ω)
      (subst f9ω)
      (subst e9ω)
      (try dsimp only)
      (try k_fold))
  k_with "call ref" => (
      (with_reducible show wpAny _ _ (call (Value.ref 311) _) _ _ _)
      k_dflt (refine' Does.val1 (pics_does ?p1 ?p2 ?p3 ?p4) ?k1 ?k2 ?k3 ?k4 ?k5 ?k6 ?k7 ?k8 ?k9 ?_; k_extra "my sides"; (case p1 => k_extra "my rowp"); (case p2 => omega); (case p3 => omega); (case p4 => omega))
      k_extra "my plain1")
  trivial
section
noncomputable def runN : List Cell → Nat
  | [] => 0
  | x :: r => if jointsF x.i = true then runN r + 1 else 0
noncomputable def runL : List Cell → Bool
  | [] => false
  | x :: r => if jointsF x.i = true then (x.i == Str.ofString "Linker" || runL r) else false
noncomputable def runF (cells : List Cell) (a : Nat) : Nat := a + runN (cells.drop a)
noncomputable def runLF (cells : List Cell) (a : Nat) : Bool := runL (cells.drop a)
theorem runN_le : ∀ l : List Cell, runN l ≤ l.length
  | [] => Nat.le_refl _
  | x :: r => by
    simp only [runN]
    split
    · have := runN_le r; simp; lia
    · exact Nat.zero_le _
theorem runF_le {cells : List Cell} {a : Nat} (h : a ≤ cells.length) : runF cells a ≤ cells.length := by
  unfold runF
  have := runN_le (cells.drop a)
  rw [List.length_drop] at this
  lia
theorem runF_ge {cells : List Cell} {a : Nat} : a ≤ runF cells a := Nat.le_add_right _ _
theorem run_yes {cells : List Cell} {a : Nat} (h : a < cells.length) (hj : jointsF (cells.getD a c0).i = true) : runF cells a = runF cells (a + 1) ∧ runLF cells a = ((cells.getD a c0).i == Str.ofString "Linker" || runLF cells (a + 1)) := by
  unfold runF runLF
  rw [drop_at h]
  simp only [runN, runL]
  rw [if_pos hj, if_pos hj]
  exact ⟨by lia, rfl⟩
theorem run_no {cells : List Cell} {a : Nat} (h : a < cells.length) (hj : jointsF (cells.getD a c0).i = false) : runF cells a = a ∧ runLF cells a = false := by
  unfold runF runLF
  rw [drop_at h]
  simp only [runN, runL]
  rw [if_neg (by rw [hj]; decide), if_neg (by rw [hj]; decide)]
  exact ⟨by lia, rfl⟩
theorem run_out {cells : List Cell} {a : Nat} (h : cells.length ≤ a) : runF cells a = a ∧ runLF cells a = false := by
  unfold runF runLF
  rw [List.drop_of_length_le h]
  exact ⟨rfl, rfl⟩
noncomputable def RunI (cells : List Cell) (here : Int) (there : Int) (lk : Bool) : Prop := here ≤ there ∧ there ≤ cells.length ∧ runF cells there.toNat = runF cells here.toNat ∧ (lk || runLF cells there.toNat) = runLF cells here.toNat
theorem runI_start {cells : List Cell} {here : Int} (h : here ≤ cells.length) : RunI cells here here false := ⟨by lia, h, rfl, rfl⟩
theorem runI_on {cells : List Cell} {here there : Int} {lk lk' : Bool} (h0 : 0 ≤ here) (I : RunI cells here there lk) (h : there < cells.length) (hj : jointsF (cells.getD there.toNat c0).i = true) (hl : lk' = (lk || (cells.getD there.toNat c0).i == Str.ofString "Linker")) : RunI cells here (there + 1) lk' := by
  obtain ⟨i1, i2, i3, i4⟩ := I
  obtain ⟨r1, r2⟩ := run_yes (show there.toNat < cells.length by lia) hj
  refine ⟨by lia, by lia, ?_, ?_⟩
  · rw [show (there + 1).toNat = there.toNat + 1 by lia, ← r1, i3]
  · rw [show (there + 1).toNat = there.toNat + 1 by lia, hl, Bool.or_assoc, ← r2, i4]
theorem runI_no {cells : List Cell} {here there : Int} {lk : Bool} (h0 : 0 ≤ here) (I : RunI cells here there lk) (h : there < cells.length) (hj : jointsF (cells.getD there.toNat c0).i = false) : there = runF cells here.toNat ∧ lk = runLF cells here.toNat := by
  obtain ⟨i1, i2, i3, i4⟩ := I
  obtain ⟨r1, r2⟩ := run_no (show there.toNat < cells.length by lia) hj
  rw [← i3, ← i4, r1, r2, Bool.or_false]
  exact ⟨by lia, rfl⟩
theorem runI_out {cells : List Cell} {here there : Int} {lk : Bool} (h0 : 0 ≤ here) (I : RunI cells here there lk) (h : ¬ there < cells.length) : there = runF cells here.toNat ∧ lk = runLF cells here.toNat := by
  obtain ⟨i1, i2, i3, i4⟩ := I
  obtain ⟨r1, r2⟩ := run_out (show cells.length ≤ there.toNat by lia)
  rw [← i3, ← i4, r1, r2, Bool.or_false]
  exact ⟨by lia, rfl⟩
noncomputable def consF (cells : List Cell) : Nat → Nat → Nat
  | 0, here => here
  | f + 1, here => if runLF cells here = true ∧ runF cells here < cells.length ∧ ((cells.getD (runF cells here) c0).i == Str.ofString "Consonant") = true then consF cells f (runF cells here + 1) else here
theorem consF_succ (cells : List Cell) (f here : Nat) : consF cells (f + 1) here = if runLF cells here = true ∧ runF cells here < cells.length ∧ ((cells.getD (runF cells here) c0).i == Str.ofString "Consonant") = true then consF cells f (runF cells here + 1) else here := rfl
noncomputable def consEnd (cells : List Cell) (a : Nat) : Nat := consF cells (cells.length + 1) (a + 1)
theorem consF_more (cells : List Cell) : ∀ (f g here : Nat), cells.length ≤ f + here → cells.length ≤ g + here → consF cells f here = consF cells g here
  | 0, 0, _, _, _ => rfl
  | 0, g + 1, here, h, _ => by
    unfold consF
    rw [if_neg]
    have := runF_ge (cells := cells) (a := here)
    lia
  | f + 1, 0, here, _, h => by
    unfold consF
    rw [if_neg]
    have := runF_ge (cells := cells) (a := here)
    lia
  | f + 1, g + 1, here, h1, h2 => by
    unfold consF
    have := runF_ge (cells := cells) (a := here)
    rw [consF_more cells f g (runF cells here + 1) (by lia) (by lia)]
noncomputable def ConsI (cells : List Cell) (a : Nat) (here : Int) : Prop := (a : Int) + 1 ≤ here ∧ here ≤ cells.length ∧ consF cells (cells.length + 1) here.toNat = consEnd cells a
theorem cons_start {cells : List Cell} {a : Int} (h : 0 ≤ a) (h1 : a < cells.length) : ConsI cells a.toNat (a + 1) := ⟨by lia, by lia, by rw [show (a + 1).toNat = a.toNat + 1 by lia]; rfl⟩
theorem cons_on {cells : List Cell} {a : Nat} {here there : Int} {lk : Bool} (I : ConsI cells a here) (e : there = runF cells here.toNat ∧ lk = runLF cells here.toNat) (hl : lk = true) (h : there < cells.length)
    (hk : ((cells.getD there.toNat c0).i == Str.ofString "Consonant") = true) : ConsI cells a (there + 1) := by
  obtain ⟨i1, i2, i3⟩ := I
  obtain ⟨rfl, rfl⟩ := e
  have := runF_ge (cells := cells) (a := here.toNat)
  refine ⟨by lia, by lia, ?_⟩
  rw [← i3, consF_more cells (cells.length + 1) (cells.length + 1 + 1) here.toNat (by lia) (by lia)]
  rw [consF_succ cells (cells.length + 1) here.toNat, if_pos ⟨hl, by lia, by simpa using hk⟩, show ((runF cells here.toNat : Nat) + 1 : Int).toNat = runF cells here.toNat + 1 by lia]
theorem cons_no {cells : List Cell} {a : Nat} {here there : Int} {lk : Bool} (I : ConsI cells a here) (e : there = runF cells here.toNat ∧ lk = runLF cells here.toNat)
    (h : lk = true → there < cells.length → ((cells.getD there.toNat c0).i == Str.ofString "Consonant") = true → False) : here = consEnd cells a := by
  obtain ⟨i1, i2, i3⟩ := I
  obtain ⟨rfl, rfl⟩ := e
  rw [← i3, consF_succ, if_neg (fun q => h q.1 (by have := q.2.1; lia) (by simpa using q.2.2))]
  lia
set_option maxRecDepth 100000 in
set_option maxHeartbeats 4000000 in
theorem cons_does {w : World} {rl : Addr} {cells : List Cell} {a : Int} {t : Tok} {news : List (Addr × Obj)}
    (R : RowAt news rl cells) (hl : cells.length < 100000) (h0 : 0 ≤ a) (h1 : a < cells.length) :
    Does w 318 [.ref rl, .int a t] 3 50 news (fun r news' => news' = news ∧ ∃ u, r = .int (consEnd cells a.toNat) u) := by
  k_with "my whileT" =>
    rename Fr _ _ _ _ => lF'
    rename News _ _ _ _ => lN'
    with_unfolding_all refine' m_while (σ := Int × Tok) (fun c => [(Str.ofString "here", .int c.1 c.2)]) [Str.ofString "there", Str.ofString "is_linked"] (fun c => ConsI cells a.toNat c.1) (fun c => (cells.length + 1 - c.1).toNat) ⟨_, _⟩ lF' lN' ?kk ?kp ?_
    case kk => kst_all
    case kp => exact cons_start h0 h1
    clear lF' lN'
    rintro ⟨here, t1⟩ u h tk hP F5 N5
    dsimp only [kstB] at F5
    dsimp only at hP
    have hP1 := hP.1
    have hP2 := hP.2.1
    try k_fold
  k_with "my while" =>
    rename Fr _ _ _ _ => lF'
    rename News _ _ _ _ => lN'
    with_unfolding_all refine' m_while (σ := Int × Tok × Bool) (fun c => [(Str.ofString "there", .int c.1 c.2.1), (Str.ofString "is_linked", .bool c.2.2)]) [] (fun c => RunI cells here c.1 c.2.2) (fun c => (cells.length - c.1).toNat) ⟨_, _, _⟩ lF' lN' ?kk ?kp ?_
    case kk => kst_all
    case kp => exact runI_start hP2
    clear lF' lN'
    rintro ⟨there, t2, lk⟩ u2 h2 tk2 hR F6 N6
    dsimp only [kstB] at F6
    dsimp only at hR
    have hR1 := hR.1
    have hR2 := hR.2.1
    try k_fold
  k_extra "my enter"
  k_steps
  · refine MEnd.intro ⟨_, _, _⟩ (by assumption) (by assumption) (by k_extra "my inc") (by kst_all) (by ksw_same) (runI_on (by omega) hR (by assumption) (by assumption) (by simp only [*, Bool.true_or])) ?_
    show (cells.length - (there + 1)).toNat < (cells.length - there).toNat
    omega
  · refine MEnd.intro ⟨_, _, _⟩ (by assumption) (by assumption) (by k_extra "my inc") (by kst_all) (by ksw_same) (runI_on (by omega) hR (by assumption) (by assumption) (by simp only [*, Bool.false_or])) ?_
    show (cells.length - (there + 1)).toNat < (cells.length - there).toNat
    omega
  · refine MEnd.intro ⟨_, _⟩ (by assumption) (by assumption) (by k_extra "my inc") (by kst_all) (by ksw_same) (cons_on hP (runI_no (by omega) hR (by assumption) (by assumption)) (by assumption) (by assumption) (by assumption)) ?_
    show (cells.length + 1 - (there + 1)).toNat < (cells.length + 1 - here).toNat
    omega
  · k_extra "my ret"
    rw [cons_no hP (runI_no (by omega) hR (by assumption) (by assumption)) (by intro p1 p2 p3; simp_all)]
    exact ⟨_, rfl⟩
  · k_extra "my ret"
    rw [cons_no hP (runI_no (by omega) hR (by assumption) (by assumption)) (by intro p1 p2 p3; simp_all)]
    exact ⟨_, rfl⟩
  · k_extra "my ret"
    rw [cons_no hP (runI_out (by omega) hR (by assumption)) (by intro p1 p2 p3; omega)]
    exact ⟨_, rfl⟩
  · k_extra "my ret"
    rw [cons_no hP (runI_out (by omega) hR (by assumption)) (by intro p1 p2 p3; omega)]
    exact ⟨_, rfl⟩


end
theorem fresh_lend : True := by
  k_with_none
  w_top off
  k_with "is_list" => exact News.isList (by k_asm) (by k_mem)
  k_with "exec While Compare cons nil" => k_extra "my while"
  k_with "exec While BoolOp cons nil" => k_extra "my while"
  k_with "exec While Constant cons nil" => k_extra "my whileT"
  k_with "MPost" => with_reducible first | refine MPost.next ?_ | refine MPost.ret ?_ | refine MPost.brk ?_ | refine MPost.cont ?_
  k_with "seqQ" => with_reducible first | refine seqQ.next ?_ | refine seqQ.ret ?_ | refine seqQ.brk ?_ | refine seqQ.cont ?_
  k_with "my enter" => (
      refine' enter ?k6 ?k7 ?k9 ?kB ?kN ?kU ?c2 ?c3 ?c4 ?c5 ?_
      case k6 => k_is
      case k7 => k_is
      case k9 => first | exact fun _ _ => BindsTo.of_eq rfl | (intro s9ω X9ω; exact binds_K X9ω rfl (by k_is) rfl rfl rfl)
      case kB => exact locs rfl
      case kN => exact rfl
      case kU => exact rfl
      case c2 => exact rfl
      case c3 => exact rfl
      case c4 => exact rfl
      case c5 => decide
      intro dpω unω gdω outerω A₀ω baseω gω h₁ω Lω gnω drω osω tkω meanω mgω mbω Eω Bω Xω Tω hdω huω eω Aω mω hEω Fω Nω)
  k_with "my ret" => (
      first
        | refine Post.ret (by k_asm) ?kN9 ⟨rfl, ?_⟩
        | refine Post.next (by k_asm) ?kN9 ⟨rfl, ?_⟩
      case kN9 => first | k_asm | exact kst_newsOf (by assumption) (by kst_inAny)
      k_extra "my clean")
  k_with "my clean" => ((repeat (rename Fr _ _ _ _ => z9ω; clear z9ω)); (repeat (rename News _ _ _ _ => z9ω; clear z9ω)); (try clear hEω Bω Xω Tω hdω huω))
  k_with "my roomx" => first | exact room_c (by assumption) rfl | exact room_b (by assumption) rfl | exact room_a (by assumption) | exact room_d (by assumption) rfl | exact room_e (by assumption) rfl | exact Nat.le_of_ble_eq_true rfl | omega
  k_with "my room" => ((try dsimp (config := { zetaDelta := true }) only [Around.deeper, Around.mark, Around.in1]); k_extra "my roomx")
  k_with "my sides" => (
      (case k1 => k_asm)
      (case k2 => k_asm)
      (case k3 => k_asm)
      (case k4 => k_asm)
      (case k5 => k_asm)
      (case k6 => exact rfl)
      (case k7 => exact rfl)
      (case k8 => k_extra "my room")
      (case k9 => k_extra "my room"))
  k_with "compareOp In str ref" => (k_here; (with_reducible show wpAny _ _ (compareOp CmpOp.In (Value.str _ _) (Value.ref _)) _ _ _); (with_unfolding_all refine' in_tuple_strs ?k1 ?k2 ?_; (case k1 => first | exact kun_topT (by k_asm) (by k_asm) (by k_is) | exact News.isTup (by k_asm) (by k_mem)); (case k2 => kde_strs); k_whole))
  k_with "compareOp NotIn str ref" => (k_here; (with_reducible show wpAny _ _ (compareOp CmpOp.NotIn (Value.str _ _) (Value.ref _)) _ _ _); (with_unfolding_all refine' notin_tuple_strs ?k1 ?k2 ?_; (case k1 => first | exact kun_topT (by k_asm) (by k_asm) (by k_is) | exact News.isTup (by k_asm) (by k_mem)); (case k2 => kde_strs); k_whole))
  k_with "my plain" => ((intro h9ω tk9ω F9ω N9ω); (try k_sweep))
  k_with "subscriptTail" => k_extra "my item"
  k_with "compareOp In str ref" => k_extra "my in"
  k_with "my plain1" => ((intro u9ω h9ω tk9ω F9ω N9ω); (try k_sweep))
  k_with "compareOp NotEq ref ref" => (k_here; (with_reducible show wpAny _ _ (compareOp CmpOp.NotEq (Value.ref _) (Value.ref _)) _ _ _); (with_unfolding_all refine' ne_intsK ?k1 ?k2 ?k3 ?k4 ?k5 ?_; (case k1 => is_list); (case k2 => l_ints); (case k3 => is_list); (case k4 => l_ints); (case k5 => k_extra "my room"); k_whole))
  k_with "my mem" => first | ktr_member | exact List.Mem.head _ | (refine List.mem_cons_of_mem _ ?_; k_extra "my mem")
  k_with "k_mem" => k_extra "my mem"
  k_with "compareOp NotIn str ref" => k_extra "my notin"
  k_with "call builtin:dict.get" => k_extra "my get"
  k_with "getMethod ref" => k_extra "my getm"
  k_with "setItem ref str" => k_extra "my set"
  k_with "k_room" => ((try dsimp (config := { zetaDelta := true }) only); (try simp only [depth_under_make, depth_under_kw, depth_in1, depth_deeper, depth_caller]); (try dsimp only); k_extra "my roomx")
  k_with "getItem ref str" => k_extra "my gitem"
  k_with "pyIter ref" => k_extra "my for"
  k_with "k_qdec" => decide +kernel
  k_with "my lt" => with_reducible (first | assumption | exact And.left (by assumption) | exact And.left (And.right (by assumption)) | exact And.left (And.right (And.right (by assumption))) | exact And.left (And.right (And.right (And.right (by assumption)))) | exact And.left (And.right (And.right (And.right (And.right (by assumption))))) | exact And.left (And.right (And.right (And.right (And.right (And.right (by assumption)))))) | exact And.left (And.right (And.right (And.right (And.right (And.right (And.right (by assumption))))))) | exact And.left (And.right (And.right (And.right (And.right (And.right (And.right (And.right (by assumption)))))))) | exact And.left (And.right (And.right (And.right (And.right (And.right (And.right (And.right (And.right (by assumption))))))))) | exact And.left (And.right (And.right (And.right (And.right (And.right (And.right (And.right (And.right (And.right (by assumption)))))))))))
  k_with "k_ne" => first | with_reducible assumption | with_reducible exact Ne.symm (by assumption) | (refine Nat.ne_of_lt ?_; k_extra "my lt") | (refine Nat.ne_of_gt ?_; k_extra "my lt") | (refine Nat.ne_of_gt ?_; (repeat (first | exact Nat.lt_succ_self _ | refine Nat.lt_succ_of_lt ?_)); done) | (refine Nat.ne_of_lt ?_; (repeat (first | exact Nat.lt_succ_self _ | refine Nat.lt_succ_of_lt ?_)); done) | (refine neN ?_; (try dsimp only); omega)
  k_with "l_idx" => first | assumption | exact idx_a (by assumption) (by assumption) | exact idx_b (by assumption) | exact idx_c (by assumption) (by assumption)
  k_with "JPost" => with_reducible first | refine JPost.next ?_ | refine JPost.ret ?_ | refine JPost.brk ?_ | refine JPost.cont ?_
  k_with "storeName" => (k_here; k_dflt (refine' storeX_M ?F ?N ?_ ?a ?b; (case F => k_asm); (case N => k_asm); (case a => rfl); (case b => rfl); k_whole); (intro h'ω tk'ω m'ω F'ω N'ω); (try k_sweep))
  k_with "ksw skip" => repeat (first | (refine' ite_skip ?hx ?_; (case hx => first | exact ne_stored (by assumption) rfl | exact h2ω _ (List.Mem.head _) | exact h2ω _ (List.Mem.tail _ (List.Mem.head _)) | exact h2ω _ (List.Mem.tail _ (List.Mem.tail _ (List.Mem.head _))))) | refine ite_skip2 (by assumption) ?_)
  k_with "ksw_same" => (
      intro zω h2ω h3ω
      first
        | rfl
        | (k_extra "ksw skip"; first | rfl | (refine Eq.symm ?_; k_extra "ksw skip"; rfl))
        | ((simp only [List.forall_mem_cons, List.not_mem_nil, false_implies, implies_true, and_true, ne_eq] at h2ω); (simp (zetaDelta := true) [h2ω]; done))
        | ((simp only [List.forall_mem_cons, List.not_mem_nil, false_implies, implies_true, and_true, ne_eq] at h2ω); (simp only [List.contains_cons, List.contains_nil, Bool.or_false, Bool.or_eq_false_iff, beq_eq_false_iff_ne, ne_eq] at h3ω); (simp (zetaDelta := true) [h2ω, h3ω]; done)))
  k_with "execs cons" => (k_here; (first | (refine' norm_M (gn := gnω) (dr := drω) (os := osω) ?F9 ?e9 ?_; (case F9 => k_asm); (case e9 => exact rfl); intro tk9ω) | ((try dsimp only); (try k_gentoks))); first | (with_reducible refine' execs_one ?_) | ((with_reducible refine' execs_let ?_); intro kkω))
  k_with "my leaf" => with_reducible first | show Post _ _ _ _ _ _ _ _ | show JOut _ _ _ _ _ _ _ _ _ | show MEnd _ _ _ _ _ _ _ _ _ _ _ _ _ | show MOut _ _ _ _ _ _ _ _ _ _ _
  k_with "k_steps" => repeat' (first | k_unfold | ((fail_if_success k_extra "my leaf"); first | walk1 | (dsimp only; walk1)) | (leave1; walk_say "STEP leave1"; (try dsimp only)) | fail "no step")
  k_with "my cond" => simp only [true_and, and_true, false_and, and_false, true_or, or_true, false_or, or_false, if_true, if_false, Bool.false_eq_true, Bool.true_eq_false, reduceCtorEq, and_self, or_self, not_true_eq_false, not_false_eq_true]
  k_with "eval Constant int" => (k_here; (with_reducible refine int_M ?_); intro t9ω tk9ω)
  k_with "eval Constant str" => (k_here; (with_reducible refine str_M ?_); intro t9ω tk9ω)
  k_with "binaryOp Add int int" => (k_here; (with_reducible refine add_M ?_); intro t9ω tk9ω)
  k_with "binaryOp Sub int int" => (k_here; (with_reducible refine sub_M ?_); intro t9ω tk9ω)
  k_with "call ref" => (
      (with_reducible show wpAny _ _ (call (Value.ref 145) _) _ _ _)
      k_dflt (refine' Does.val1 (place_does ?p1 ?p2 ?p3) ?k1 ?k2 ?k3 ?k4 ?k5 ?k6 ?k7 ?k8 ?k9 ?_; k_extra "my sides"; (case p1 => k_mem); (case p2 => assumption); (case p3 => first | assumption | omega))
      k_extra "my plain1")
  k_with "call ref" => (
      (with_reducible show wpAny _ _ (call (Value.ref 28) _) _ _ _)
      k_dflt (refine' Does.val syllable_does ?k1 ?k2 ?k3 ?k4 ?k5 ?k6 ?k7 ?k8 ?k9 ?_; k_extra "my sides")
      k_extra "my plain")
  k_with "call ref" => (
      (with_reducible show wpAny _ _ (call (Value.ref 52) _) _ _ _)
      k_dflt (refine' Does.val joins_does ?k1 ?k2 ?k3 ?k4 ?k5 ?k6 ?k7 ?k8 ?k9 ?_; k_extra "my sides")
      k_extra "my plain")
  k_with "call ref" => (
      (with_reducible show wpAny _ _ (call (Value.ref 59) _) _ _ _)
      k_dflt (first
        | (refine' Does.val (pairS_does ?p1) ?k1 ?k2 ?k3 ?k4 ?k5 ?k6 ?k7 ?k8 ?k9 ?_; (case p1 => assumption); k_extra "my sides")
        | (refine' Does.val (pairN_does ?p1) ?k1 ?k2 ?k3 ?k4 ?k5 ?k6 ?k7 ?k8 ?k9 ?_; (case p1 => assumption); k_extra "my sides"))
      k_extra "my plain")
  k_with "call ref" => (
      (with_reducible show wpAny _ _ (call (Value.ref 173) _) _ _ _)
      k_dflt (refine' Does.val (rget_does' (by assumption) (by assumption)) ?k1 ?k2 ?k3 ?k4 ?k5 ?k6 ?k7 ?k8 ?k9 ?_; k_extra "my sides")
      k_extra "my plain")
  k_with "my cell" => first | assumption | exact Cells.at' (by assumption) _ (by omega)
  k_with "call ref" => (
      (with_reducible show wpAny _ _ (call (Value.ref 236) _) _ _ _)
      k_dflt (first
       | ((with_reducible show wpAny _ _ (call _ [_, Value.str (Str.ofString "gcb") _, _]) _ _ _); refine' Does.val (dgetG_does ?p1 ?p2) ?k1 ?k2 ?k3 ?k4 ?k5 ?k6 ?k7 ?k8 ?k9 ?_; k_extra "my sides"; (case p1 => assumption); (case p2 => assumption); k_extra "my plain")
       | ((with_reducible show wpAny _ _ (call _ [_, Value.str (Str.ofString "incb") _, _]) _ _ _); refine' Does.val1 (dgetI_does ?p1 ?p2) ?k1 ?k2 ?k3 ?k4 ?k5 ?k6 ?k7 ?k8 ?k9 ?_; k_extra "my sides"; (case p1 => assumption); (case p2 => k_extra "my cell"); k_extra "my plain1")
       | ((with_reducible show wpAny _ _ (call _ [_, Value.str (Str.ofString "ep") _, _]) _ _ _); refine' Does.val (dgetP_does ?p1 ?p2) ?k1 ?k2 ?k3 ?k4 ?k5 ?k6 ?k7 ?k8 ?k9 ?_; k_extra "my sides"; (case p1 => assumption); (case p2 => k_extra "my cell"); k_extra "my plain")))
  k_with "call ref" => (
      (with_reducible show wpAny _ _ (call (Value.ref 35) _) _ _ _)
      k_dflt (first
        | (refine' Does.val1 (kindHs_does ?p1) ?k1 ?k2 ?k3 ?k4 ?k5 ?k6 ?k7 ?k8 ?k9 ?_; (case p1 => assumption); k_extra "my sides"; k_extra "my plain1")
        | (refine' Does.val (kindHn_does ?p1) ?k1 ?k2 ?k3 ?k4 ?k5 ?k6 ?k7 ?k8 ?k9 ?_; (case p1 => assumption); k_extra "my sides"; k_extra "my plain")))
  k_with "call ref" => (
      (with_reducible show wpAny _ _ (call (Value.ref 45) _) _ _ _)
      k_dflt (refine' Does.val1 (kind_does ?p1 ?p2) ?k1 ?k2 ?k3 ?k4 ?k5 ?k6 ?k7 ?k8 ?k9 ?_; k_extra "my sides"; (case p1 => assumption); (case p2 => k_extra "my cell"))
      k_extra "my plain1")
  k_with "call ref" => (
      (with_reducible show wpAny _ _ (call (Value.ref 66) _) _ _ _)
      k_dflt (refine' Does.val (conj_does ?p1 ?p2 ?p3 ?p4 ?p5 ?p6 ?p7) ?k1 ?k2 ?k3 ?k4 ?k5 ?k6 ?k7 ?k8 ?k9 ?_; k_extra "my sides"; (case p1 => assumption); (case p2 => k_mem); (case p3 => assumption); (case p4 => omega); (case p5 => assumption); (case p6 => omega); (case p7 => omega))
      k_extra "my plain")
  k_with "call ref" => (
      (with_reducible show wpAny _ _ (call (Value.ref 73) _) _ _ _)
      k_dflt (refine' Does.val (pict_does ?p1 ?p2 ?p3 ?p4 ?p5 ?p6 ?p7) ?k1 ?k2 ?k3 ?k4 ?k5 ?k6 ?k7 ?k8 ?k9 ?_; k_extra "my sides"; (case p1 => assumption); (case p2 => k_mem); (case p3 => assumption); (case p4 => omega); (case p5 => assumption); (case p6 => omega); (case p7 => omega))
      k_extra "my plain")
  k_with "call ref" => (
      (with_reducible show wpAny _ _ (call (Value.ref 80) _) _ _ _)
      k_dflt (refine' Does.val1 (flags_does ?p1 ?p2 ?p3 ?p4 ?p5 ?p6 ?p7) ?k1 ?k2 ?k3 ?k4 ?k5 ?k6 ?k7 ?k8 ?k9 ?_; k_extra "my sides"; (case p1 => assumption); (case p2 => k_mem); (case p3 => assumption); (case p4 => omega); (case p5 => assumption); (case p6 => omega); (case p7 => omega))
      k_extra "my plain1")
  k_with "call ref" => (
      (with_reducible show wpAny _ _ (call (Value.ref 87) _) _ _ _)
      k_dflt (refine' Does.val (flag_does ?p1 ?p2 ?p3 ?p4 ?p5 ?p6 ?p7) ?k1 ?k2 ?k3 ?k4 ?k5 ?k6 ?k7 ?k8 ?k9 ?_; k_extra "my sides"; (case p1 => assumption); (case p2 => k_mem); (case p3 => assumption); (case p4 => omega); (case p5 => assumption); (case p6 => omega); (case p7 => omega))
      k_extra "my plain")
  k_with "call ref" => (
      (with_reducible show wpAny _ _ (call (Value.ref 95) _) _ _ _)
      k_dflt (refine' Does.val (break_does ?p1 ?p2 ?p3 ?p4 ?p5 ?p6 ?p7) ?k1 ?k2 ?k3 ?k4 ?k5 ?k6 ?k7 ?k8 ?k9 ?_; k_extra "my sides"; (case p1 => assumption); (case p2 => k_mem); (case p3 => assumption); (case p4 => omega); (case p5 => assumption); (case p6 => omega); (case p7 => omega))
      k_extra "my plain")
  k_with "my inc" => first | exact fun _ h => h | exact kst_inSelf | kst_inAny
  k_with "call builtin:len" => (k_here; (with_reducible show wpAny _ _ (call (Value.builtin "len") [Value.ref _]) _ _ _); k_dflt (refine' row_len ?k1 ?k2 ?k3 ?k4 ?_; (case k1 => k_asm); (case k2 => assumption); (case k3 => k_extra "my inc"); (case k4 => omega)); k_whole)
  k_with "subscriptTail Name Name ref int" => k_extra "my row"
  k_with "subscriptTail Name BinOp ref int" => k_extra "my row"
  k_with "my row" => (k_here; (with_reducible show wpAny _ _ (subscriptTail _ _ (Value.ref _) (Value.int _ _)) _ _ _); k_dflt (refine' row_item ?k1 ?k2 ?k3 ?k4 ?k5 ?k6 ?_ ?k8 ?k9; (case k1 => k_asm); (case k2 => assumption); (case k3 => k_extra "my inc"); (case k8 => with_unfolding_all rfl); (case k9 => (intro _; with_unfolding_all rfl)); (case k4 => omega); (case k5 => omega); (case k6 => omega)); k_whole; (intro a9ω t8ω t9ω n9ω hm9ω))
  k_with "call ref" => (
      (with_reducible show wpAny _ _ (call (Value.ref 297) _) _ _ _)
      k_dflt (refine' Does.val1 (past_does ?p1 ?p2 ?p3 ?p4 ?p5) ?k1 ?k2 ?k3 ?k4 ?k5 ?k6 ?k7 ?k8 ?k9 ?_; k_extra "my sides"; (case p1 => first | assumption | exact RowAt.mono (by assumption) (by k_extra "my inc")); (case p2 => omega); (case p4 => k_mem); (case p5 => kde_strs); (case p3 => omega))
      k_extra "my plain1")
  k_with "my rowp" => first | assumption | exact RowAt.mono (by assumption) (by k_extra "my inc")
  k_with "call ref" => (
      (with_reducible show wpAny _ _ (call (Value.ref 304) _) _ _ _)
      k_dflt (refine' Does.val1 (syl_does ?p1 ?p2 ?p3 ?p4) ?k1 ?k2 ?k3 ?k4 ?k5 ?k6 ?k7 ?k8 ?k9 ?_; k_extra "my sides"; (case p1 => k_extra "my rowp"); (case p2 => omega); (case p3 => omega); (case p4 => omega))
      k_extra "my plain1")
  k_with "my plainR" => (
      (intro v9ω news9ω h9ω tk9ω F9ω N9ω r9ω)
      (obtain ⟨e9ω, t9ω, f9ω⟩ := r9ω)
      (subst f9ω)
      (subst e9ω)
      (try dsimp only)
      (try k_fold))
  k_with "call ref" => (
      (with_reducible show wpAny _ _ (call (Value.ref 311) _) _ _ _)
      k_dflt (refine' Does.val1 (pics_does ?p1 ?p2 ?p3 ?p4) ?k1 ?k2 ?k3 ?k4 ?k5 ?k6 ?k7 ?k8 ?k9 ?_; k_extra "my sides"; (case p1 => k_extra "my rowp"); (case p2 => omega); (case p3 => omega); (case p4 => omega))
      k_extra "my plain1")
  k_with "call ref" => (
      (with_reducible show wpAny _ _ (call (Value.ref 318) _) _ _ _)
      k_dflt (refine' Does.val1 (cons_does ?p1 ?p2 ?p3 ?p4) ?k1 ?k2 ?k3 ?k4 ?k5 ?k6 ?k7 ?k8 ?k9 ?_; k_extra "my sides"; (case p1 => k_extra "my rowp"); (case p2 => omega); (case p3 => omega); (case p4 => omega))
      k_extra "my plain1")
  trivial
section

noncomputable def loneF (a : Str) : Bool := [Str.ofString "CR", Str.ofString "LF", Str.ofString "Control"].any fun x => x == a
/-- over the signs ahead -/
noncomputable def preN : List Cell → Nat
  | [] => 0
  | [_] => 0
  | x :: y :: r => if (x.k == Str.ofString "Prepend") = true ∧ loneF y.k = false then preN (y :: r) + 1 else 0
noncomputable def preF (cells : List Cell) (leg : Bool) (a : Nat) : Nat := if leg = true then a else a + preN (cells.drop a)
noncomputable def hangF (a : Str) : Bool := [Str.ofString "L", Str.ofString "V", Str.ofString "T", Str.ofString "LV", Str.ofString "LVT"].any fun x => x == a
noncomputable def coreF (cells : List Cell) (leg : Bool) (b : Nat) : Nat :=
  if ((cells.getD b c0).k == Str.ofString "Regional_Indicator") = true then (if b + 1 < cells.length ∧ ((cells.getD (b + 1) c0).k == (cells.getD b c0).k) = true then b + 2 else b + 1)
  else if hangF (cells.getD b c0).k = true then sylEnd cells b
  else if (cells.getD b c0).p = true then picsEnd cells b
  else if ((cells.getD b c0).i == Str.ofString "Consonant") = true ∧ leg = false then consEnd cells b
  else b + 1
noncomputable def endF (cells : List Cell) (leg : Bool) (a : Nat) : Nat :=
  if loneF (cells.getD a c0).k = true then (if ((cells.getD a c0).k == Str.ofString "CR") = true ∧ a + 1 < cells.length ∧ ((cells.getD (a + 1) c0).k == Str.ofString "LF") = true then a + 2 else a + 1)
  else pastF cells (if leg = true then [Str.ofString "Extend", Str.ofString "ZWJ"] else [Str.ofString "Extend", Str.ofString "ZWJ", Str.ofString "SpacingMark"]) (coreF cells leg (preF cells leg a))
theorem preN_at {cells : List Cell} {b : Nat} (h : b < cells.length) : preN (cells.drop b) = if ((cells.getD b c0).k == Str.ofString "Prepend") = true ∧ b + 1 < cells.length ∧ loneF (cells.getD (b + 1) c0).k = false then preN (cells.drop (b + 1)) + 1 else 0 := by
  rw [drop_at h]
  by_cases h1 : b + 1 < cells.length
  · rw [drop_at h1]
    simp only [preN]
    by_cases h2 : ((cells.getD b c0).k == Str.ofString "Prepend") = true ∧ loneF (cells.getD (b + 1) c0).k = false
    · rw [if_pos h2, if_pos ⟨h2.1, h1, h2.2⟩]
    · rw [if_neg h2, if_neg (fun q => h2 ⟨q.1, q.2.2⟩)]
  · rw [List.drop_of_length_le (by omega), if_neg (fun q => h1 q.2.1)]
    rfl
noncomputable def PreI (cells : List Cell) (leg : Bool) (a : Nat) (b : Int) : Prop := (a : Int) ≤ b ∧ b < cells.length ∧ preF cells leg b.toNat = preF cells leg a
theorem pre_start {cells : List Cell} {leg : Bool} {a : Int} (h : 0 ≤ a) (h1 : a < cells.length) : PreI cells leg a.toNat a := ⟨by omega, h1, rfl⟩
theorem pre_on {cells : List Cell} {leg : Bool} {a : Nat} {b : Int} (I : PreI cells leg a b) (hg : leg = false) (hk : ((cells.getD b.toNat c0).k == Str.ofString "Prepend") = true) (h : b + 1 < cells.length) (hl : loneF (cells.getD (b + 1).toNat c0).k = false) : PreI cells leg a (b + 1) := by
  obtain ⟨i1, i2, i3⟩ := I
  refine ⟨by omega, h, ?_⟩
  rw [← i3]
  subst hg
  unfold preF
  rw [if_neg (by decide), if_neg (by decide), preN_at (b := b.toNat) (by omega), show (b + 1).toNat = b.toNat + 1 by omega, if_pos ⟨hk, by omega, by rw [← show (b + 1).toNat = b.toNat + 1 by omega]; exact hl⟩]
  omega
theorem pre_no {cells : List Cell} {leg : Bool} {a : Nat} {b : Int} (I : PreI cells leg a b) (h : leg = false → ((cells.getD b.toNat c0).k == Str.ofString "Prepend") = true → b + 1 < cells.length → loneF (cells.getD (b + 1).toNat c0).k = false → False) : preF cells leg a = b.toNat := by
  obtain ⟨i1, i2, i3⟩ := I
  rw [← i3]
  unfold preF
  cases leg with
  | true => rw [if_pos rfl]
  | false =>
    rw [if_neg (by decide), preN_at (b := b.toNat) (by omega), if_neg (fun q => h rfl q.1 (by have := q.2.1; omega) (by rw [show (b + 1).toNat = b.toNat + 1 by omega]; exact q.2.2))]
    rfl
noncomputable def PreX (cells : List Cell) (leg : Bool) (a : Nat) (b : Int) : Prop := (a : Int) ≤ b ∧ b < cells.length ∧ preF cells leg a = b.toNat
theorem end_lone {cells : List Cell} {leg : Bool} {a : Nat} (h : ([Str.ofString "CR", Str.ofString "LF", Str.ofString "Control"].any fun x => x == (cells.getD a c0).k) = true) :
    endF cells leg a = if ((cells.getD a c0).k == Str.ofString "CR") = true ∧ a + 1 < cells.length ∧ ((cells.getD (a + 1) c0).k == Str.ofString "LF") = true then a + 2 else a + 1 := by
  unfold endF loneF; rw [if_pos h]
theorem end_core {cells : List Cell} {leg : Bool} {a : Nat} {b : Int} (h : ([Str.ofString "CR", Str.ofString "LF", Str.ofString "Control"].any fun x => x == (cells.getD a c0).k) = false) (hX : PreX cells leg a b) :
    endF cells leg a = pastF cells (if leg = true then [Str.ofString "Extend", Str.ofString "ZWJ"] else [Str.ofString "Extend", Str.ofString "ZWJ", Str.ofString "SpacingMark"]) (coreF cells leg b.toNat) := by
  unfold endF loneF; rw [if_neg (by rw [h]; decide), hX.2.2]
theorem ne_true {b : Bool} (h : b = false) : ¬ b = true := by rw [h]; decide
set_option maxRecDepth 100000 in
set_option maxHeartbeats 4000000 in
theorem end_does {w : World} {rl : Addr} {cells : List Cell} {a : Int} {t : Tok} {leg : Bool} {news : List (Addr × Obj)}
    (R : RowAt news rl cells) (hl : cells.length < 100000) (h0 : 0 ≤ a) (h1 : a < cells.length) :
    Does w 325 [.ref rl, .int a t, .bool leg] 5 70 news (fun r news' => news' = news ∧ ∃ u, r = .int (endF cells leg a.toNat) u) := by
  k_with "my while" =>
    rename Fr _ _ _ _ => lF'
    rename News _ _ _ _ => lN'
    with_unfolding_all refine' m_whileX (σ := Int × Tok) (fun c => [(Str.ofString "at", .int c.1 c.2)]) [] (fun c => PreI cells leg a.toNat c.1) (fun c => PreX cells leg a.toNat c.1) (fun c => (cells.length - c.1).toNat) ⟨_, _⟩ lF' lN' ?kk ?kp ?kd ?kt
    case kk => kst_all
    case kp => exact pre_start h0 h1
    case' kd =>
      clear lF' lN'
      rintro ⟨b, t1⟩ u h tk hX F5 N5
      dsimp only [kstB] at F5
      dsimp only at hX
      have hP1 := hX.1
      have hP2 := hX.2.1
      try k_fold
    case' kt =>
      clear lF' lN'
      rintro ⟨b, t1⟩ u h tk hP F5 N5
      dsimp only [kstB] at F5
      dsimp only at hP
      have hP1 := hP.1
      have hP2 := hP.2.1
      try k_fold
  k_with "execs cons" =>
    (with_reducible show wpAny _ _ (execs (PySem.Stmt.If (PySem.Expr.Compare _ _ _ _) _ _ _ :: PySem.Stmt.Return _ _ :: _) _) _ _ _)
    (rename Fr _ _ _ _ => lF')
    refine' m_join (σ := Int × Tok) lF' (fun q => [(Str.ofString "row", .ref rl), (Str.ofString "is_legacy", .bool leg), (Str.ofString "here", .int q.1 q.2)]) (fun _ => news) (fun q => q.1 = ((coreF cells leg b.toNat : Nat) : Int)) ?_ ?go9
    case' go9 =>
      clear lF'
      rintro ⟨here, th⟩ u5 h5 tk5 hq F6 N6
      dsimp only at hq F6 N6
      dsimp only [kstB] at F6
      have hh0 : 0 ≤ here := by rw [hq]; exact Int.natCast_nonneg _
  k_extra "my enter"
  k_steps
  -- the ends of a lone sign; the loop's turns and ways out; the ways that meet; the end
  all_goals first
    | (refine MOut.intro ⟨_, _⟩ (by assumption) (by assumption) (by k_extra "my inc") (by kst_all) (by ksw_same) ?_; exact ⟨hP1, hP2, pre_no hP (by intro p1 p2 p3 p4; simp_all [loneF])⟩)
    | (refine MEnd.intro ⟨_, _⟩ (by assumption) (by assumption) (by k_extra "my inc") (by kst_all) (by ksw_same) (pre_on hP (by assumption) (by assumption) (by assumption) (by assumption)) ?_; show (cells.length - (b + 1)).toNat < (cells.length - b).toNat; omega)
    | (refine' JOut.intro ⟨_, _⟩ (by assumption) (by assumption) ?hn ?hk ?hx
       case hk => kst_all
       case hn => k_extra "my inc"
       case hx =>
         k_extra "my clean"
         have hb0 : 0 ≤ b := Int.le_trans (Int.natCast_nonneg _) hP1
         have e1 := ts1 hb0
         have e2 := ts2 hb0
         have e3 := @tlt1 b cells.length hb0
         have e4 := tc1 hb0
         have e5 := tc2 hb0
         clear hP1 hP2 hX
         unfold coreF hangF
         simp only [e1, e2, e3, *]
         k_extra "my cond"
         first | done | exact e4.symm | exact e5.symm)
    | (k_extra "my ret"
       rw [end_lone (by assumption)]
       have e1 := ts1 h0
       have e2 := ts2 h0
       have e3 := @tlt1 a cells.length h0
       have e4 := tc1 h0
       have e5 := tc2 h0
       simp only [e1, e2, e3, *]
       k_extra "my cond"
       first | (rw [e4]; exact ⟨_, rfl⟩) | (rw [e5]; exact ⟨_, rfl⟩))
    | (k_extra "my ret"
       have e1 : here.toNat = coreF cells leg b.toNat := by rw [hq]; exact Int.toNat_natCast _
       rw [end_core (by assumption) hX, e1]
       first | (rw [if_pos (by assumption)]; exact ⟨_, rfl⟩) | (rw [if_neg (ne_true (by assumption))]; exact ⟨_, rfl⟩))


end
theorem fresh_slice : True := by
  k_with_none
  w_top off
  k_with "is_list" => exact News.isList (by k_asm) (by k_mem)
  k_with "exec While Compare cons nil" => k_extra "my while"
  k_with "exec While BoolOp cons nil" => k_extra "my while"
  k_with "exec While Constant cons nil" => k_extra "my whileT"
  k_with "MPost" => with_reducible first | refine MPost.next ?_ | refine MPost.ret ?_ | refine MPost.brk ?_ | refine MPost.cont ?_
  k_with "seqQ" => with_reducible first | refine seqQ.next ?_ | refine seqQ.ret ?_ | refine seqQ.brk ?_ | refine seqQ.cont ?_
  k_with "my enter" => (
      refine' enter ?k6 ?k7 ?k9 ?kB ?kN ?kU ?c2 ?c3 ?c4 ?c5 ?_
      case k6 => k_is
      case k7 => k_is
      case k9 => first | exact fun _ _ => BindsTo.of_eq rfl | (intro s9ω X9ω; exact binds_K X9ω rfl (by k_is) rfl rfl rfl)
      case kB => exact locs rfl
      case kN => exact rfl
      case kU => exact rfl
      case c2 => exact rfl
      case c3 => exact rfl
      case c4 => exact rfl
      case c5 => decide
      intro dpω unω gdω outerω A₀ω baseω gω h₁ω Lω gnω drω osω tkω meanω mgω mbω Eω Bω Xω Tω hdω huω eω Aω mω hEω Fω Nω)
  k_with "my ret" => (
      first
        | refine Post.ret (by k_asm) ?kN9 ⟨rfl, ?_⟩
        | refine Post.next (by k_asm) ?kN9 ⟨rfl, ?_⟩
      case kN9 => first | k_asm | exact kst_newsOf (by assumption) (by kst_inAny)
      k_extra "my clean")
  k_with "my clean" => ((repeat (rename Fr _ _ _ _ => z9ω; clear z9ω)); (repeat (rename News _ _ _ _ => z9ω; clear z9ω)); (try clear hEω Bω Xω Tω hdω huω))
  k_with "my roomx" => first | exact room_c (by assumption) rfl | exact room_b (by assumption) rfl | exact room_a (by assumption) | exact room_d (by assumption) rfl | exact room_e (by assumption) rfl | exact Nat.le_of_ble_eq_true rfl | omega
  k_with "my room" => ((try dsimp (config := { zetaDelta := true }) only [Around.deeper, Around.mark, Around.in1]); k_extra "my roomx")
  k_with "my sides" => (
      (case k1 => k_asm)
      (case k2 => k_asm)
      (case k3 => k_asm)
      (case k4 => k_asm)
      (case k5 => k_asm)
      (case k6 => exact rfl)
      (case k7 => exact rfl)
      (case k8 => k_extra "my room")
      (case k9 => k_extra "my room"))
  k_with "compareOp In str ref" => (k_here; (with_reducible show wpAny _ _ (compareOp CmpOp.In (Value.str _ _) (Value.ref _)) _ _ _); (with_unfolding_all refine' in_tuple_strs ?k1 ?k2 ?_; (case k1 => first | exact kun_topT (by k_asm) (by k_asm) (by k_is) | exact News.isTup (by k_asm) (by k_mem)); (case k2 => kde_strs); k_whole))
  k_with "compareOp NotIn str ref" => (k_here; (with_reducible show wpAny _ _ (compareOp CmpOp.NotIn (Value.str _ _) (Value.ref _)) _ _ _); (with_unfolding_all refine' notin_tuple_strs ?k1 ?k2 ?_; (case k1 => first | exact kun_topT (by k_asm) (by k_asm) (by k_is) | exact News.isTup (by k_asm) (by k_mem)); (case k2 => kde_strs); k_whole))
  k_with "my plain" => ((intro h9ω tk9ω F9ω N9ω); (try k_sweep))
  k_with "subscriptTail" => k_extra "my item"
  k_with "compareOp In str ref" => k_extra "my in"
  k_with "my plain1" => ((intro u9ω h9ω tk9ω F9ω N9ω); (try k_sweep))
  k_with "compareOp NotEq ref ref" => (k_here; (with_reducible show wpAny _ _ (compareOp CmpOp.NotEq (Value.ref _) (Value.ref _)) _ _ _); (with_unfolding_all refine' ne_intsK ?k1 ?k2 ?k3 ?k4 ?k5 ?_; (case k1 => is_list); (case k2 => l_ints); (case k3 => is_list); (case k4 => l_ints); (case k5 => k_extra "my room"); k_whole))
  k_with "my mem" => first | ktr_member | exact List.Mem.head _ | (refine List.mem_cons_of_mem _ ?_; k_extra "my mem")
  k_with "k_mem" => k_extra "my mem"
  k_with "compareOp NotIn str ref" => k_extra "my notin"
  k_with "call builtin:dict.get" => k_extra "my get"
  k_with "getMethod ref" => k_extra "my getm"
  k_with "setItem ref str" => k_extra "my set"
  k_with "k_room" => ((try dsimp (config := { zetaDelta := true }) only); (try simp only [depth_under_make, depth_under_kw, depth_in1, depth_deeper, depth_caller]); (try dsimp only); k_extra "my roomx")
  k_with "getItem ref str" => k_extra "my gitem"
  k_with "pyIter ref" => k_extra "my for"
  k_with "k_qdec" => decide +kernel
  k_with "my lt" => with_reducible (first | assumption | exact And.left (by assumption) | exact And.left (And.right (by assumption)) | exact And.left (And.right (And.right (by assumption))) | exact And.left (And.right (And.right (And.right (by assumption)))) | exact And.left (And.right (And.right (And.right (And.right (by assumption))))) | exact And.left (And.right (And.right (And.right (And.right (And.right (by assumption)))))) | exact And.left (And.right (And.right (And.right (And.right (And.right (And.right (by assumption))))))) | exact And.left (And.right (And.right (And.right (And.right (And.right (And.right (And.right (by assumption)))))))) | exact And.left (And.right (And.right (And.right (And.right (And.right (And.right (And.right (And.right (by assumption))))))))) | exact And.left (And.right (And.right (And.right (And.right (And.right (And.right (And.right (And.right (And.right (by assumption)))))))))))
  k_with "k_ne" => first | with_reducible assumption | with_reducible exact Ne.symm (by assumption) | (refine Nat.ne_of_lt ?_; k_extra "my lt") | (refine Nat.ne_of_gt ?_; k_extra "my lt") | (refine Nat.ne_of_gt ?_; (repeat (first | exact Nat.lt_succ_self _ | refine Nat.lt_succ_of_lt ?_)); done) | (refine Nat.ne_of_lt ?_; (repeat (first | exact Nat.lt_succ_self _ | refine Nat.lt_succ_of_lt ?_)); done) | (refine neN ?_; (try dsimp only); omega)
  k_with "l_idx" => first | assumption | exact idx_a (by assumption) (by assumption) | exact idx_b (by assumption) | exact idx_c (by assumption) (by assumption)
  k_with "JPost" => with_reducible first | refine JPost.next ?_ | refine JPost.ret ?_ | refine JPost.brk ?_ | refine JPost.cont ?_
  k_with "storeName" => (k_here; k_dflt (refine' storeX_M ?F ?N ?_ ?a ?b; (case F => k_asm); (case N => k_asm); (case a => rfl); (case b => rfl); k_whole); (intro h'ω tk'ω m'ω F'ω N'ω); (try k_sweep))
  k_with "ksw skip" => repeat (first | (refine' ite_skip ?hx ?_; (case hx => first | exact ne_stored (by assumption) rfl | exact h2ω _ (List.Mem.head _) | exact h2ω _ (List.Mem.tail _ (List.Mem.head _)) | exact h2ω _ (List.Mem.tail _ (List.Mem.tail _ (List.Mem.head _))))) | refine ite_skip2 (by assumption) ?_)
  k_with "ksw_same" => (
      intro zω h2ω h3ω
      first
        | rfl
        | (k_extra "ksw skip"; first | rfl | (refine Eq.symm ?_; k_extra "ksw skip"; rfl))
        | ((simp only [List.forall_mem_cons, List.not_mem_nil, false_implies, implies_true, and_true, ne_eq] at h2ω); (simp (zetaDelta := true) [h2ω]; done))
        | ((simp only [List.forall_mem_cons, List.not_mem_nil, false_implies, implies_true, and_true, ne_eq] at h2ω); (simp only [List.contains_cons, List.contains_nil, Bool.or_false, Bool.or_eq_false_iff, beq_eq_false_iff_ne, ne_eq] at h3ω); (simp (zetaDelta := true) [h2ω, h3ω]; done)))
  k_with "execs cons" => (k_here; (first | (refine' norm_M (gn := gnω) (dr := drω) (os := osω) ?F9 ?e9 ?_; (case F9 => k_asm); (case e9 => exact rfl); intro tk9ω) | ((try dsimp only); (try k_gentoks))); first | (with_reducible refine' execs_one ?_) | ((with_reducible refine' execs_let ?_); intro kkω))
  k_with "my leaf" => with_reducible first | show Post _ _ _ _ _ _ _ _ | show JOut _ _ _ _ _ _ _ _ _ | show MEnd _ _ _ _ _ _ _ _ _ _ _ _ _ | show MOut _ _ _ _ _ _ _ _ _ _ _
  k_with "k_steps" => repeat' (first | k_unfold | ((fail_if_success k_extra "my leaf"); first | walk1 | (dsimp only; walk1)) | (leave1; walk_say "STEP leave1"; (try dsimp only)) | fail "no step")
  k_with "my cond" => simp only [true_and, and_true, false_and, and_false, true_or, or_true, false_or, or_false, if_true, if_false, Bool.false_eq_true, Bool.true_eq_false, reduceCtorEq, and_self, or_self, not_true_eq_false, not_false_eq_true]
  k_with "eval Constant int" => (k_here; (with_reducible refine int_M ?_); intro t9ω tk9ω)
  k_with "eval Constant str" => (k_here; (with_reducible refine str_M ?_); intro t9ω tk9ω)
  k_with "binaryOp Add int int" => (k_here; (with_reducible refine add_M ?_); intro t9ω tk9ω)
  k_with "binaryOp Sub int int" => (k_here; (with_reducible refine sub_M ?_); intro t9ω tk9ω)
  k_with "call ref" => (
      (with_reducible show wpAny _ _ (call (Value.ref 145) _) _ _ _)
      k_dflt (refine' Does.val1 (place_does ?p1 ?p2 ?p3) ?k1 ?k2 ?k3 ?k4 ?k5 ?k6 ?k7 ?k8 ?k9 ?_; k_extra "my sides"; (case p1 => k_mem); (case p2 => assumption); (case p3 => first | assumption | omega))
      k_extra "my plain1")
  k_with "call ref" => (
      (with_reducible show wpAny _ _ (call (Value.ref 28) _) _ _ _)
      k_dflt (refine' Does.val syllable_does ?k1 ?k2 ?k3 ?k4 ?k5 ?k6 ?k7 ?k8 ?k9 ?_; k_extra "my sides")
      k_extra "my plain")
  k_with "call ref" => (
      (with_reducible show wpAny _ _ (call (Value.ref 52) _) _ _ _)
      k_dflt (refine' Does.val joins_does ?k1 ?k2 ?k3 ?k4 ?k5 ?k6 ?k7 ?k8 ?k9 ?_; k_extra "my sides")
      k_extra "my plain")
  k_with "call ref" => (
      (with_reducible show wpAny _ _ (call (Value.ref 59) _) _ _ _)
      k_dflt (first
        | (refine' Does.val (pairS_does ?p1) ?k1 ?k2 ?k3 ?k4 ?k5 ?k6 ?k7 ?k8 ?k9 ?_; (case p1 => assumption); k_extra "my sides")
        | (refine' Does.val (pairN_does ?p1) ?k1 ?k2 ?k3 ?k4 ?k5 ?k6 ?k7 ?k8 ?k9 ?_; (case p1 => assumption); k_extra "my sides"))
      k_extra "my plain")
  k_with "call ref" => (
      (with_reducible show wpAny _ _ (call (Value.ref 173) _) _ _ _)
      k_dflt (refine' Does.val (rget_does' (by assumption) (by assumption)) ?k1 ?k2 ?k3 ?k4 ?k5 ?k6 ?k7 ?k8 ?k9 ?_; k_extra "my sides")
      k_extra "my plain")
  k_with "my cell" => first | assumption | exact Cells.at' (by assumption) _ (by omega)
  k_with "call ref" => (
      (with_reducible show wpAny _ _ (call (Value.ref 236) _) _ _ _)
      k_dflt (first
       | ((with_reducible show wpAny _ _ (call _ [_, Value.str (Str.ofString "gcb") _, _]) _ _ _); refine' Does.val (dgetG_does ?p1 ?p2) ?k1 ?k2 ?k3 ?k4 ?k5 ?k6 ?k7 ?k8 ?k9 ?_; k_extra "my sides"; (case p1 => assumption); (case p2 => assumption); k_extra "my plain")
       | ((with_reducible show wpAny _ _ (call _ [_, Value.str (Str.ofString "incb") _, _]) _ _ _); refine' Does.val1 (dgetI_does ?p1 ?p2) ?k1 ?k2 ?k3 ?k4 ?k5 ?k6 ?k7 ?k8 ?k9 ?_; k_extra "my sides"; (case p1 => assumption); (case p2 => k_extra "my cell"); k_extra "my plain1")
       | ((with_reducible show wpAny _ _ (call _ [_, Value.str (Str.ofString "ep") _, _]) _ _ _); refine' Does.val (dgetP_does ?p1 ?p2) ?k1 ?k2 ?k3 ?k4 ?k5 ?k6 ?k7 ?k8 ?k9 ?_; k_extra "my sides"; (case p1 => assumption); (case p2 => k_extra "my cell"); k_extra "my plain")))
  k_with "call ref" => (
      (with_reducible show wpAny _ _ (call (Value.ref 35) _) _ _ _)
      k_dflt (first
        | (refine' Does.val1 (kindHs_does ?p1) ?k1 ?k2 ?k3 ?k4 ?k5 ?k6 ?k7 ?k8 ?k9 ?_; (case p1 => assumption); k_extra "my sides"; k_extra "my plain1")
        | (refine' Does.val (kindHn_does ?p1) ?k1 ?k2 ?k3 ?k4 ?k5 ?k6 ?k7 ?k8 ?k9 ?_; (case p1 => assumption); k_extra "my sides"; k_extra "my plain")))
  k_with "call ref" => (
      (with_reducible show wpAny _ _ (call (Value.ref 45) _) _ _ _)
      k_dflt (refine' Does.val1 (kind_does ?p1 ?p2) ?k1 ?k2 ?k3 ?k4 ?k5 ?k6 ?k7 ?k8 ?k9 ?_; k_extra "my sides"; (case p1 => assumption); (case p2 => k_extra "my cell"))
      k_extra "my plain1")
  k_with "call ref" => (
      (with_reducible show wpAny _ _ (call (Value.ref 66) _) _ _ _)
      k_dflt (refine' Does.val (conj_does ?p1 ?p2 ?p3 ?p4 ?p5 ?p6 ?p7) ?k1 ?k2 ?k3 ?k4 ?k5 ?k6 ?k7 ?k8 ?k9 ?_; k_extra "my sides"; (case p1 => assumption); (case p2 => k_mem); (case p3 => assumption); (case p4 => omega); (case p5 => assumption); (case p6 => omega); (case p7 => omega))
      k_extra "my plain")
  k_with "call ref" => (
      (with_reducible show wpAny _ _ (call (Value.ref 73) _) _ _ _)
      k_dflt (refine' Does.val (pict_does ?p1 ?p2 ?p3 ?p4 ?p5 ?p6 ?p7) ?k1 ?k2 ?k3 ?k4 ?k5 ?k6 ?k7 ?k8 ?k9 ?_; k_extra "my sides"; (case p1 => assumption); (case p2 => k_mem); (case p3 => assumption); (case p4 => omega); (case p5 => assumption); (case p6 => omega); (case p7 => omega))
      k_extra "my plain")
  k_with "call ref" => (
      (with_reducible show wpAny _ _ (call (Value.ref 80) _) _ _ _)
      k_dflt (refine' Does.val1 (flags_does ?p1 ?p2 ?p3 ?p4 ?p5 ?p6 ?p7) ?k1 ?k2 ?k3 ?k4 ?k5 ?k6 ?k7 ?k8 ?k9 ?_; k_extra "my sides"; (case p1 => assumption); (case p2 => k_mem); (case p3 => assumption); (case p4 => omega); (case p5 => assumption); (case p6 => omega); (case p7 => omega))
      k_extra "my plain1")
  k_with "call ref" => (
      (with_reducible show wpAny _ _ (call (Value.ref 87) _) _ _ _)
      k_dflt (refine' Does.val (flag_does ?p1 ?p2 ?p3 ?p4 ?p5 ?p6 ?p7) ?k1 ?k2 ?k3 ?k4 ?k5 ?k6 ?k7 ?k8 ?k9 ?_; k_extra "my sides"; (case p1 => assumption); (case p2 => k_mem); (case p3 => assumption); (case p4 => omega); (case p5 => assumption); (case p6 => omega); (case p7 => omega))
      k_extra "my plain")
  k_with "call ref" => (
      (with_reducible show wpAny _ _ (call (Value.ref 95) _) _ _ _)
      k_dflt (refine' Does.val (break_does ?p1 ?p2 ?p3 ?p4 ?p5 ?p6 ?p7) ?k1 ?k2 ?k3 ?k4 ?k5 ?k6 ?k7 ?k8 ?k9 ?_; k_extra "my sides"; (case p1 => assumption); (case p2 => k_mem); (case p3 => assumption); (case p4 => omega); (case p5 => assumption); (case p6 => omega); (case p7 => omega))
      k_extra "my plain")
  k_with "my inc" => first | exact fun _ h => h | exact kst_inSelf | kst_inAny
  k_with "call builtin:len" => (k_here; (with_reducible show wpAny _ _ (call (Value.builtin "len") [Value.ref _]) _ _ _); k_dflt (refine' row_len ?k1 ?k2 ?k3 ?k4 ?_; (case k1 => k_asm); (case k2 => assumption); (case k3 => k_extra "my inc"); (case k4 => omega)); k_whole)
  k_with "subscriptTail Name Name ref int" => k_extra "my row"
  k_with "subscriptTail Name BinOp ref int" => k_extra "my row"
  k_with "my row" => (k_here; (with_reducible show wpAny _ _ (subscriptTail _ _ (Value.ref _) (Value.int _ _)) _ _ _); k_dflt (refine' row_item ?k1 ?k2 ?k3 ?k4 ?k5 ?k6 ?_ ?k8 ?k9; (case k1 => k_asm); (case k2 => assumption); (case k3 => k_extra "my inc"); (case k8 => with_unfolding_all rfl); (case k9 => (intro _; with_unfolding_all rfl)); (case k4 => omega); (case k5 => omega); (case k6 => omega)); k_whole; (intro a9ω t8ω t9ω n9ω hm9ω))
  k_with "call ref" => (
      (with_reducible show wpAny _ _ (call (Value.ref 297) _) _ _ _)
      k_dflt (refine' Does.val1 (past_does ?p1 ?p2 ?p3 ?p4 ?p5) ?k1 ?k2 ?k3 ?k4 ?k5 ?k6 ?k7 ?k8 ?k9 ?_; k_extra "my sides"; (case p1 => first | assumption | exact RowAt.mono (by assumption) (by k_extra "my inc")); (case p2 => omega); (case p4 => k_mem); (case p5 => kde_strs); (case p3 => omega))
      k_extra "my plain1")
  k_with "my rowp" => first | assumption | exact RowAt.mono (by assumption) (by k_extra "my inc")
  k_with "call ref" => (
      (with_reducible show wpAny _ _ (call (Value.ref 304) _) _ _ _)
      k_dflt (refine' Does.val1 (syl_does ?p1 ?p2 ?p3 ?p4) ?k1 ?k2 ?k3 ?k4 ?k5 ?k6 ?k7 ?k8 ?k9 ?_; k_extra "my sides"; (case p1 => k_extra "my rowp"); (case p2 => omega); (case p3 => omega); (case p4 => omega))
      k_extra "my plain1")
  k_with "my plainR" => (
      (intro v9ω news9ω h9ω tk9ω F9ω N9ω r9ω)
      (obtain ⟨e9ω, t9ω, f9ω⟩ := r9ω)
      (subst f9ω)
      (subst e9ω)
      (try dsimp only)
      (try k_fold))
  k_with "call ref" => (
      (with_reducible show wpAny _ _ (call (Value.ref 311) _) _ _ _)
      k_dflt (refine' Does.val1 (pics_does ?p1 ?p2 ?p3 ?p4) ?k1 ?k2 ?k3 ?k4 ?k5 ?k6 ?k7 ?k8 ?k9 ?_; k_extra "my sides"; (case p1 => k_extra "my rowp"); (case p2 => omega); (case p3 => omega); (case p4 => omega))
      k_extra "my plain1")
  k_with "call ref" => (
      (with_reducible show wpAny _ _ (call (Value.ref 318) _) _ _ _)
      k_dflt (refine' Does.val1 (cons_does ?p1 ?p2 ?p3 ?p4) ?k1 ?k2 ?k3 ?k4 ?k5 ?k6 ?k7 ?k8 ?k9 ?_; k_extra "my sides"; (case p1 => k_extra "my rowp"); (case p2 => omega); (case p3 => omega); (case p4 => omega))
      k_extra "my plain1")
  trivial
section
/-- two values are alike -/
noncomputable def likeV : Value → Value → Bool
  | .str a _, .str b _ => a == b
  | .bool a, .bool b => a == b
  | _, _ => false
noncomputable def isText : Value → Bool
  | .str .. => true
  | _ => false
noncomputable def isFlag : Value → Bool
  | .bool .. => true
  | _ => false
noncomputable def alikeK (a b : Value) : Bool := (isText a && isText b) || (isFlag a && isFlag b)
theorem like_does {w : World} {a b : Value} {news : List (Addr × Obj)} (h : alikeK a b = true) : Does w 152 [a, b] 1 12 news (fun v news' => news' = news ∧ v = .bool (likeV a b)) := by
  cases a with
  | str x t => cases b with
    | str y u => exact like_s_does
    | _ => cases h
  | bool x => cases b with
    | bool y => exact like_b_does
    | _ => cases h
  | _ => cases h
/-- what a put of one code makes of a map -/
noncomputable def putV (T : List Int × List Value) (c : Int) (v : Value) : List Int × List Value :=
  let low := place T.1 (c - 1)
  let high := place T.1 (c + 1)
  let behind := T.2.getD (high - 1) .none
  let S := if likeV behind v = true then ([c], [v]) else ([c, c + 1], [v, behind])
  let S' := if 0 < low ∧ likeV (T.2.getD (low - 1) .none) v = true then (S.1.drop 1, S.2.drop 1) else S
  (T.1.take low ++ S'.1 ++ T.1.drop high, T.2.take low ++ S'.2 ++ T.2.drop high)
theorem putV_eq {ns : List Int} {vs : List Value} {c : Int} {v b y : Value} (hb : vs[place ns (c + 1) - 1]? = some b) (hy : vs[place ns (c - 1) - 1]? = some y) (p1 : 1 ≤ place ns (c - 1)) :
    putV (ns, vs) c v = (ns.take (place ns (c - 1)) ++ (if likeV y v = true then (if likeV b v = true then [] else [c + 1]) else if likeV b v = true then [c] else [c, c + 1]) ++ ns.drop (place ns (c + 1)),
      vs.take (place ns (c - 1)) ++ (if likeV y v = true then (if likeV b v = true then [] else [b]) else if likeV b v = true then [v] else [v, b]) ++ vs.drop (place ns (c + 1))) := by
  unfold putV
  simp only [List.getD_eq_getElem?_getD, hb, hy, Option.getD_some]
  cases h1 : likeV b v <;> cases h2 : likeV y v <;> simp [p1, Nat.lt_of_lt_of_le Nat.zero_lt_one p1]
theorem ints_take {ws : List Value} {ns : List Int} (h : IntsAre ws ns) : ∀ k : Nat, IntsAre (ws.take k) (ns.take k) := by
  induction h with
  | nil => intro k; simp only [List.take_nil]; exact IntsAre.nil
  | cons i t _ ih => intro k; cases k with
    | zero => exact IntsAre.nil
    | succ k => exact IntsAre.cons _ _ (ih k)
theorem ints_drop {ws : List Value} {ns : List Int} (h : IntsAre ws ns) : ∀ k : Nat, IntsAre (ws.drop k) (ns.drop k) := by
  induction h with
  | nil => intro k; simp only [List.drop_nil]; exact IntsAre.nil
  | cons i t h ih => intro k; cases k with
    | zero => exact IntsAre.cons _ _ h
    | succ k => exact ih k
theorem allLt_ne {d : Addr} : ∀ {l : List (Addr × Obj)}, AllLt d l → ∀ p ∈ l, p.1 ≠ d
  | [], _, _, h => nomatch h
  | p :: r, h, q, hq => by
    rcases List.mem_cons.mp hq with rfl | hq
    · exact Nat.ne_of_lt h.1
    · exact allLt_ne h.2 q hq
section
variable {prog : Program} {w : World} {A : Around} {E : Value → Shared → Prop} {s : Shared} {h₀ : Heap} {L l : Addr} {m : Str → Option Value} {news : List (Addr × Obj)} {value slice : PySem.Expr} {vs us : List Value} {Q : Value → Shared → Prop}
theorem m_slice_to {y : Int} {u : Tok} {n : Nat} (F : Fr h₀ L s.heap m) (N : News h₀ L s.heap news) (hm : (l, listOf (List.toArray vs) n) ∈ news) (hy : 0 ≤ y) (hz : vs.length ≤ 100000)
    (h : ∀ D h', Fr h₀ L h' m → News h₀ L h' ((D, listOf (List.toArray (vs.take y.toNat)) 0) :: news) → (∀ p ∈ news, p.1 < D) → Q (.ref D) { s with heap := h' })
    (hs : subscripted slice false (.ref l) (.ref s.heap.objs.size) = operate [.ref s.heap.objs.size, .ref l] (getItem (.ref l) (.ref s.heap.objs.size))) (ht : ∀ r, letTemporaryGo value (.ref l) r = pure ()) :
    wpAny (model prog w) A (subscriptTail value slice (.ref l) (.ref s.heap.objs.size)) Q E { s with heap := s.heap.push { cls := .type "slice", data := .fields #[.none, .int y u, .none] } } :=
  kms_slice_lit F N (News.isList N hm) IsPart.none (IsPart.int _ _) (by
    unfold kms_pick kms_lo kms_hi
    simp only [List.drop_zero, Nat.sub_zero]
    rw [if_neg (by omega)]
    rcases Nat.le_total y.toNat vs.length with q | q
    · rw [Nat.min_eq_left q]
    · rw [Nat.min_eq_right q, List.take_of_length_le (Nat.le_refl _), List.take_of_length_le q]) h hs ht (by simp only [List.size_toArray, sizeLine_eq]; omega)
theorem m_slice_from {y : Int} {u : Tok} {n : Nat} (F : Fr h₀ L s.heap m) (N : News h₀ L s.heap news) (hm : (l, listOf (List.toArray vs) n) ∈ news) (hy : 0 ≤ y) (hz : vs.length ≤ 100000)
    (h : ∀ D h', Fr h₀ L h' m → News h₀ L h' ((D, listOf (List.toArray (vs.drop y.toNat)) 0) :: news) → (∀ p ∈ news, p.1 < D) → Q (.ref D) { s with heap := h' })
    (hs : subscripted slice false (.ref l) (.ref s.heap.objs.size) = operate [.ref s.heap.objs.size, .ref l] (getItem (.ref l) (.ref s.heap.objs.size))) (ht : ∀ r, letTemporaryGo value (.ref l) r = pure ()) :
    wpAny (model prog w) A (subscriptTail value slice (.ref l) (.ref s.heap.objs.size)) Q E { s with heap := s.heap.push { cls := .type "slice", data := .fields #[.int y u, .none, .none] } } :=
  kms_slice_lit F N (News.isList N hm) (IsPart.int _ _) IsPart.none (by
    unfold kms_pick kms_lo kms_hi
    simp only
    rw [if_neg (by omega)]
    rcases Nat.le_total y.toNat vs.length with q | q
    · rw [Nat.min_eq_left q, List.take_of_length_le (by simp)]
    · rw [Nat.min_eq_right q, List.drop_of_length_le (Nat.le_refl _), List.drop_of_length_le q]; simp) h hs ht (by simp only [List.size_toArray, sizeLine_eq]; omega)
theorem m_add {b : Addr} {n n' : Nat} (F : Fr h₀ L s.heap m) (N : News h₀ L s.heap news) (hm : (l, listOf (List.toArray vs) n) ∈ news) (hb : (b, listOf (List.toArray us) n') ∈ news) (hz : vs.length + us.length ≤ 100000)
    (h : ∀ D h', Fr h₀ L h' m → News h₀ L h' ((D, listOf (List.toArray (vs ++ us)) 0) :: news) → (∀ p ∈ news, p.1 < D) → Q (.ref D) { s with heap := h' }) :
    wpAny (model prog w) A (binaryOp .Add (.ref l) (.ref b)) Q E s :=
  add_lists F N (News.isList N hm) (News.isList N hb) (fun h' F' N' => h _ h' F' N' fun p hp => Heap.lt_size (N p hp).1) (by rw [sizeLine_eq]; omega)
end


end
theorem fresh_rput : True := by
  k_with "my len" => ((try simp only [List.length_append, List.length_take, List.length_drop, List.length_cons, List.length_nil]); omega)
  k_with "subscriptTail Name Slice ref ref" => (k_here; (with_reducible show wpAny _ _ (subscriptTail _ (PySem.Expr.Slice _ _ none _) (Value.ref _) (Value.ref _)) _ _ _); k_dflt (first
      | (refine' m_slice_to ?F ?N ?l ?i ?z ?_ ?s ?t; (case F => k_asm); (case N => k_asm); (case l => k_mem); (case i => first | assumption | omega); (case z => k_extra "my len"); (case s => with_unfolding_all rfl); (case t => (intro _; with_unfolding_all rfl)))
      | (refine' m_slice_from ?F ?N ?l ?i ?z ?_ ?s ?t; (case F => k_asm); (case N => k_asm); (case l => k_mem); (case i => first | assumption | decide | omega); (case z => k_extra "my len"); (case s => with_unfolding_all rfl); (case t => (intro _; with_unfolding_all rfl)))); k_whole; intro D'ω h'ω F'ω N'ω l1ω; (try k_lt l1ω); (try k_sweep))
  k_with "binaryOp Add ref ref" => (k_here; k_dflt (refine' m_add ?F ?N ?l ?i ?z ?_; (case F => k_asm); (case N => k_asm); (case l => k_mem); (case i => k_mem); (case z => k_extra "my len")); k_whole; intro D'ω h'ω F'ω N'ω l1ω; (try k_lt l1ω); (try k_sweep))
  k_with "k_all" => first | assumption | exact allLt_ne (by first | assumption | exact And.right (by assumption) | exact And.right (And.right (by assumption)) | exact And.right (And.right (And.right (by assumption))))
  k_with "call ref" => (
      (with_reducible show wpAny _ _ (call (Value.ref 152) _) _ _ _)
      k_dflt (refine' Does.val (like_does ?p1) ?k1 ?k2 ?k3 ?k4 ?k5 ?k6 ?k7 ?k8 ?k9 ?_; (case p1 => assumption); k_extra "my sides")
      k_extra "my plain")
  k_with "subscriptTail Attribute Name Slice ref ref" => (refine kba_turn (value' := PySem.Expr.Name (PySem.Str.ofString "_") ⟨0, 0, 0, 0⟩) (fun _ => rfl) ?_)
  trivial
section
theorem rput_len {us vs : List Value} {b v : Value} {c : Int} (h1 : IntsAre us (if likeV b v = true then [c] else [c, c + 1])) (h2 : vs = (if likeV b v = true then [v] else [v, b])) : us.length ≤ 2 ∧ vs.length ≤ 2 := by
  have e := h1.length
  subst h2
  rw [e]
  split <;> exact ⟨Nat.le_of_ble_eq_true rfl, Nat.le_of_ble_eq_true rfl⟩
theorem rput_cut {us vs : List Value} {y b v : Value} {c : Int} (hy : likeV y v = true) (h1 : IntsAre us (if likeV b v = true then [c] else [c, c + 1])) (h2 : vs = (if likeV b v = true then [v] else [v, b])) :
    IntsAre (us.drop 1) (if likeV y v = true then (if likeV b v = true then [] else [c + 1]) else if likeV b v = true then [c] else [c, c + 1]) ∧ vs.drop 1 = (if likeV y v = true then (if likeV b v = true then [] else [b]) else if likeV b v = true then [v] else [v, b]) := by
  rw [if_pos hy, if_pos hy, h2]
  have h3 := ints_drop h1 1
  revert h3
  split <;> exact fun h3 => ⟨h3, rfl⟩
theorem rput_uncut {us vs : List Value} {y b v : Value} {c : Int} (hy : likeV y v = false) (h1 : IntsAre us (if likeV b v = true then [c] else [c, c + 1])) (h2 : vs = (if likeV b v = true then [v] else [v, b])) :
    IntsAre us (if likeV y v = true then (if likeV b v = true then [] else [c + 1]) else if likeV b v = true then [c] else [c, c + 1]) ∧ vs = (if likeV y v = true then (if likeV b v = true then [] else [b]) else if likeV b v = true then [v] else [v, b]) := by
  have e : ¬ likeV y v = true := by rw [hy]; decide
  rw [if_neg e, if_neg e]
  exact ⟨h1, h2⟩
set_option maxRecDepth 100000 in
set_option maxHeartbeats 8000000 in
theorem rput_front {w : World} {a dx : Addr} {h1 h2 h3 : Int} {t1 t2 t3 : Tok} {v0 : Value} {ls lv : Addr} {k2 k3 : Nat} {ws vs : List Value} {ns : List Int} {c : Int} {t t' : Tok} {v b y : Value} {rest : List (Addr × Obj)}
    (m1 : (a, instObj 197 dx) ∈ rest) (m3 : (ls, listOf (List.toArray ws) k2) ∈ rest) (m4 : IntsAre ws ns) (m5 : (lv, listOf (List.toArray vs) k3) ∈ rest) (hne : ∀ p ∈ rest, p.1 ≠ dx)
    (hl : ns.length < 1000) (hv : vs.length = ns.length) (hc : c < 100000) (p1 : 1 ≤ place ns (c - 1)) (p2 : place ns (c - 1) ≤ ns.length) (q1 : 1 ≤ place ns (c + 1)) (q2 : place ns (c + 1) ≤ ns.length)
    (hb : vs[place ns (c + 1) - 1]? = some b) (hy : vs[place ns (c - 1) - 1]? = some y) (kb : alikeK b v = true) (ky : alikeK y v = true) :
    Does w 180 [.ref a, .int c t, .int c t', v] 3 50
      ((dx, dictOf [⟨h1, .str (Str.ofString "default") t1, v0⟩, ⟨h2, .str (Str.ofString "starts") t2, .ref ls⟩, ⟨h3, .str (Str.ofString "values") t3, .ref lv⟩] 3) :: rest)
      (fun r news' => r = .none ∧ RMapX news' a dx (putV (ns, vs) c v).1 (putV (ns, vs) c v).2 ∧ ∀ p ∈ rest, p ∈ news') := by
  k_with "my item" =>
    refine' m_item ?N ?hm ?h0 ?hk ?hx ?_ ?hs ?hg
    case N => k_asm
    case hm => k_mem
    case hs => with_unfolding_all rfl
    case hg => intro _; with_unfolding_all rfl
    case h0 => omega
    case hk => omega
    case hx => first
      | (rw [show ((place ns (c + 1) : Int) - 1 + 1 - 1).toNat = place ns (c + 1) - 1 by omega]; exact hb)
      | (rw [show ((place ns (c - 1) : Int) - 1 + 1 - 1).toNat = place ns (c - 1) - 1 by omega]; exact hy)
  k_with "execs cons" =>
    (with_reducible show wpAny _ _ (execs (PySem.Stmt.If (PySem.Expr.BoolOp _ _ _) _ _ _ :: PySem.Stmt.If _ _ _ _ :: _) _) _ _ _)
    refine Stop.at ?_
  have hws := m4.length
  have hw9 : ws.length < 1000 := by rw [hws]; exact hl
  have hv9 : vs.length < 1000 := by rw [hv]; exact hl
  have hl9 : ns.length < 100000 := Nat.lt_trans hl (by decide)
  have y1 : (0 : Int) ≤ (place ns (c - 1) : Nat) - 1 + 1 := by omega
  have y2 : (0 : Int) ≤ (place ns (c + 1) : Nat) - 1 + 1 := by omega
  have e1 : ((place ns (c - 1) : Int) - 1 + 1).toNat = place ns (c - 1) := by omega
  have e2 : ((place ns (c + 1) : Int) - 1 + 1).toNat = place ns (c + 1) := by omega
  k_extra "my enter"
  k_steps
  unfold Stop
  (rename Fr _ _ _ _ => lF')
  refine' m_join (σ := Addr × Addr × List Value × List Value × Nat × Nat × Tok × Tok) lF' (fun q => [(Str.ofString "self", .ref a), (Str.ofString "value", v), (Str.ofString "low", .int (place ns (c - 1) - 1 + 1) q.2.2.2.2.2.2.1), (Str.ofString "high", .int (place ns (c + 1) - 1 + 1) q.2.2.2.2.2.2.2), (Str.ofString "starts", .ref q.1), (Str.ofString "values", .ref q.2.1)])
    (fun q => (q.1, listOf (List.toArray q.2.2.1) q.2.2.2.2.1) :: (q.2.1, listOf (List.toArray q.2.2.2.1) q.2.2.2.2.2.1) :: (dx, dictOf [⟨h1, .str (Str.ofString "default") t1, v0⟩, ⟨h2, .str (Str.ofString "starts") t2, .ref ls⟩, ⟨h3, .str (Str.ofString "values") t3, .ref lv⟩] 3) :: rest)
    (fun q => IntsAre q.2.2.1 (if likeV b v = true then [c] else [c, c + 1]) ∧ q.2.2.2.1 = (if likeV b v = true then [v] else [v, b]) ∧ @Ne Nat dx q.1 ∧ @Ne Nat dx q.2.1) ?step ?go
  case step =>
    k_steps
    all_goals try simp only [List.push_toArray, List.cons_append, List.nil_append] at N'
    all_goals (
      refine' JOut.intro ⟨_, _, _, _, _, _, _, _⟩ (by assumption) (by assumption) ?hn ?hk ?hx
      case hk => kst_all
      case hn => exact List.forall_mem_cons.mpr ⟨by k_mem, List.forall_mem_cons.mpr ⟨by k_mem, by kst_inAny⟩⟩
      case hx =>
        refine ⟨?_, ?_, by k_ne, by k_ne⟩
        all_goals simp only [*, if_true, if_false, Bool.false_eq_true]
        all_goals first | rfl | exact IntsAre.cons _ _ IntsAre.nil | exact IntsAre.cons _ _ (IntsAre.cons _ _ IntsAre.nil))
  case go =>
    clear lF'
    rintro ⟨S, V, us, vs', kS, kV, tl, th⟩ u h tk ⟨x1, x2, x3, x4⟩ F5 N5
    dsimp only at x1 x2 x3 x4 N5
    dsimp only [kstB] at F5
    try dsimp only
    try k_fold
    have x5 := (rput_len x1 x2).1
    have x6 := (rput_len x1 x2).2
    refine' m_join (σ := Addr × Addr × List Value × List Value × Nat × Nat × Tok × Tok) F5 (fun q => [(Str.ofString "self", .ref a), (Str.ofString "low", .int (place ns (c - 1) - 1 + 1) q.2.2.2.2.2.2.1), (Str.ofString "high", .int (place ns (c + 1) - 1 + 1) q.2.2.2.2.2.2.2), (Str.ofString "starts", .ref q.1), (Str.ofString "values", .ref q.2.1)])
      (fun q => (q.1, listOf (List.toArray q.2.2.1) q.2.2.2.2.1) :: (q.2.1, listOf (List.toArray q.2.2.2.1) q.2.2.2.2.2.1) :: (dx, dictOf [⟨h1, .str (Str.ofString "default") t1, v0⟩, ⟨h2, .str (Str.ofString "starts") t2, .ref ls⟩, ⟨h3, .str (Str.ofString "values") t3, .ref lv⟩] 3) :: rest)
      (fun q => (IntsAre q.2.2.1 (if likeV y v = true then (if likeV b v = true then [] else [c + 1]) else if likeV b v = true then [c] else [c, c + 1]) ∧ q.2.2.2.1 = (if likeV y v = true then (if likeV b v = true then [] else [b]) else if likeV b v = true then [v] else [v, b])) ∧ @Ne Nat dx q.1 ∧ @Ne Nat dx q.2.1 ∧ q.2.2.1.length ≤ 2 ∧ q.2.2.2.1.length ≤ 2) ?step2 ?go2
    case step2 =>
      k_steps
      all_goals (
        refine' JOut.intro ⟨_, _, _, _, _, _, _, _⟩ (by assumption) (by assumption) ?hn ?hk ?hx
        case hk => kst_all
        case hn => exact List.forall_mem_cons.mpr ⟨by k_mem, List.forall_mem_cons.mpr ⟨by k_mem, by kst_inAny⟩⟩
        case hx => first
          | exact ⟨rput_uncut (by assumption) x1 x2, by k_ne, by k_ne, x5, x6⟩
          | exact ⟨rput_cut (by assumption) x1 x2, by k_ne, by k_ne, len_drop' x5, len_drop' x6⟩)
    case go2 =>
      clear F5 N5 x1 x2 x3 x4 x5 x6
      rintro ⟨S, V, us, vs', kS, kV, tl, th⟩ u h tk ⟨⟨x1, x2⟩, x3, x4, x5, x6⟩ F5 N5
      dsimp only at x1 x2 x3 x4 x5 x6 N5
      dsimp only [kstB] at F5
      try dsimp only
      try k_fold
      k_steps
      refine Post.next (by k_asm) (by k_asm) ⟨rfl, ?_, by kst_inAny⟩
      rw [putV_eq hb hy p1, ← x2]
      rw [e1, e2]
      refine ⟨_, _, _, _, _, _, _, _, _, _, by k_mem, by k_mem, by k_mem, ?_, by k_mem⟩
      exact IntsAre.append (IntsAre.append (ints_take m4 _) x1) (ints_drop m4 _)


end
theorem fresh_tab : True := by
  k_with_none
  w_top off
  k_with "is_list" => exact News.isList (by k_asm) (by k_mem)
  k_with "exec While Compare cons nil" => k_extra "my while"
  k_with "exec While BoolOp cons nil" => k_extra "my while"
  k_with "exec While Constant cons nil" => k_extra "my whileT"
  k_with "MPost" => with_reducible first | refine MPost.next ?_ | refine MPost.ret ?_ | refine MPost.brk ?_ | refine MPost.cont ?_
  k_with "seqQ" => with_reducible first | refine seqQ.next ?_ | refine seqQ.ret ?_ | refine seqQ.brk ?_ | refine seqQ.cont ?_
  k_with "my enter" => (
      refine' enter ?k6 ?k7 ?k9 ?kB ?kN ?kU ?c2 ?c3 ?c4 ?c5 ?_
      case k6 => k_is
      case k7 => k_is
      case k9 => first | exact fun _ _ => BindsTo.of_eq rfl | (intro s9ω X9ω; exact binds_K X9ω rfl (by k_is) rfl rfl rfl)
      case kB => exact locs rfl
      case kN => exact rfl
      case kU => exact rfl
      case c2 => exact rfl
      case c3 => exact rfl
      case c4 => exact rfl
      case c5 => decide
      intro dpω unω gdω outerω A₀ω baseω gω h₁ω Lω gnω drω osω tkω meanω mgω mbω Eω Bω Xω Tω hdω huω eω Aω mω hEω Fω Nω)
  k_with "my ret" => (
      first
        | refine Post.ret (by k_asm) ?kN9 ⟨rfl, ?_⟩
        | refine Post.next (by k_asm) ?kN9 ⟨rfl, ?_⟩
      case kN9 => first | k_asm | exact kst_newsOf (by assumption) (by kst_inAny)
      k_extra "my clean")
  k_with "my clean" => ((repeat (rename Fr _ _ _ _ => z9ω; clear z9ω)); (repeat (rename News _ _ _ _ => z9ω; clear z9ω)); (try clear hEω Bω Xω Tω hdω huω))
  k_with "my roomx" => first | exact room_c (by assumption) rfl | exact room_b (by assumption) rfl | exact room_a (by assumption) | exact room_d (by assumption) rfl | exact room_e (by assumption) rfl | exact Nat.le_of_ble_eq_true rfl | omega
  k_with "my room" => ((try dsimp (config := { zetaDelta := true }) only [Around.deeper, Around.mark, Around.in1]); k_extra "my roomx")
  k_with "my sides" => (
      (case k1 => k_asm)
      (case k2 => k_asm)
      (case k3 => k_asm)
      (case k4 => k_asm)
      (case k5 => k_asm)
      (case k6 => exact rfl)
      (case k7 => exact rfl)
      (case k8 => k_extra "my room")
      (case k9 => k_extra "my room"))
  k_with "compareOp In str ref" => (k_here; (with_reducible show wpAny _ _ (compareOp CmpOp.In (Value.str _ _) (Value.ref _)) _ _ _); (with_unfolding_all refine' in_tuple_strs ?k1 ?k2 ?_; (case k1 => first | exact kun_topT (by k_asm) (by k_asm) (by k_is) | exact News.isTup (by k_asm) (by k_mem)); (case k2 => kde_strs); k_whole))
  k_with "compareOp NotIn str ref" => (k_here; (with_reducible show wpAny _ _ (compareOp CmpOp.NotIn (Value.str _ _) (Value.ref _)) _ _ _); (with_unfolding_all refine' notin_tuple_strs ?k1 ?k2 ?_; (case k1 => first | exact kun_topT (by k_asm) (by k_asm) (by k_is) | exact News.isTup (by k_asm) (by k_mem)); (case k2 => kde_strs); k_whole))
  k_with "my plain" => ((intro h9ω tk9ω F9ω N9ω); (try k_sweep))
  k_with "subscriptTail" => k_extra "my item"
  k_with "compareOp In str ref" => k_extra "my in"
  k_with "my plain1" => ((intro u9ω h9ω tk9ω F9ω N9ω); (try k_sweep))
  k_with "compareOp NotEq ref ref" => (k_here; (with_reducible show wpAny _ _ (compareOp CmpOp.NotEq (Value.ref _) (Value.ref _)) _ _ _); (with_unfolding_all refine' ne_intsK ?k1 ?k2 ?k3 ?k4 ?k5 ?_; (case k1 => is_list); (case k2 => l_ints); (case k3 => is_list); (case k4 => l_ints); (case k5 => k_extra "my room"); k_whole))
  k_with "my mem" => first | ktr_member | exact List.Mem.head _ | (refine List.mem_cons_of_mem _ ?_; k_extra "my mem")
  k_with "k_mem" => k_extra "my mem"
  k_with "compareOp NotIn str ref" => k_extra "my notin"
  k_with "call builtin:dict.get" => k_extra "my get"
  k_with "getMethod ref" => k_extra "my getm"
  k_with "setItem ref str" => k_extra "my set"
  k_with "k_room" => ((try dsimp (config := { zetaDelta := true }) only); (try simp only [depth_under_make, depth_under_kw, depth_in1, depth_deeper, depth_caller]); (try dsimp only); k_extra "my roomx")
  k_with "getItem ref str" => k_extra "my gitem"
  k_with "pyIter ref" => k_extra "my for"
  k_with "k_qdec" => decide +kernel
  k_with "my lt" => with_reducible (first | assumption | exact And.left (by assumption) | exact And.left (And.right (by assumption)) | exact And.left (And.right (And.right (by assumption))) | exact And.left (And.right (And.right (And.right (by assumption)))) | exact And.left (And.right (And.right (And.right (And.right (by assumption))))) | exact And.left (And.right (And.right (And.right (And.right (And.right (by assumption)))))) | exact And.left (And.right (And.right (And.right (And.right (And.right (And.right (by assumption))))))) | exact And.left (And.right (And.right (And.right (And.right (And.right (And.right (And.right (by assumption)))))))) | exact And.left (And.right (And.right (And.right (And.right (And.right (And.right (And.right (And.right (by assumption))))))))) | exact And.left (And.right (And.right (And.right (And.right (And.right (And.right (And.right (And.right (And.right (by assumption)))))))))))
  k_with "k_ne" => first | with_reducible assumption | with_reducible exact Ne.symm (by assumption) | (refine Nat.ne_of_lt ?_; k_extra "my lt") | (refine Nat.ne_of_gt ?_; k_extra "my lt") | (refine Nat.ne_of_gt ?_; (repeat (first | exact Nat.lt_succ_self _ | refine Nat.lt_succ_of_lt ?_)); done) | (refine Nat.ne_of_lt ?_; (repeat (first | exact Nat.lt_succ_self _ | refine Nat.lt_succ_of_lt ?_)); done) | (refine neN ?_; (try dsimp only); omega)
  k_with "l_idx" => first | assumption | exact idx_a (by assumption) (by assumption) | exact idx_b (by assumption) | exact idx_c (by assumption) (by assumption)
  k_with "JPost" => with_reducible first | refine JPost.next ?_ | refine JPost.ret ?_ | refine JPost.brk ?_ | refine JPost.cont ?_
  k_with "storeName" => (k_here; k_dflt (refine' storeX_M ?F ?N ?_ ?a ?b; (case F => k_asm); (case N => k_asm); (case a => rfl); (case b => rfl); k_whole); (intro h'ω tk'ω m'ω F'ω N'ω); (try k_sweep))
  k_with "ksw skip" => repeat (first | (refine' ite_skip ?hx ?_; (case hx => first | exact ne_stored (by assumption) rfl | exact h2ω _ (List.Mem.head _) | exact h2ω _ (List.Mem.tail _ (List.Mem.head _)) | exact h2ω _ (List.Mem.tail _ (List.Mem.tail _ (List.Mem.head _))))) | refine ite_skip2 (by assumption) ?_)
  k_with "ksw_same" => (
      intro zω h2ω h3ω
      first
        | rfl
        | (k_extra "ksw skip"; first | rfl | (refine Eq.symm ?_; k_extra "ksw skip"; rfl))
        | ((simp only [List.forall_mem_cons, List.not_mem_nil, false_implies, implies_true, and_true, ne_eq] at h2ω); (simp (zetaDelta := true) [h2ω]; done))
        | ((simp only [List.forall_mem_cons, List.not_mem_nil, false_implies, implies_true, and_true, ne_eq] at h2ω); (simp only [List.contains_cons, List.contains_nil, Bool.or_false, Bool.or_eq_false_iff, beq_eq_false_iff_ne, ne_eq] at h3ω); (simp (zetaDelta := true) [h2ω, h3ω]; done)))
  k_with "execs cons" => (k_here; (first | (refine' norm_M (gn := gnω) (dr := drω) (os := osω) ?F9 ?e9 ?_; (case F9 => k_asm); (case e9 => exact rfl); intro tk9ω) | ((try dsimp only); (try k_gentoks))); first | (with_reducible refine' execs_one ?_) | ((with_reducible refine' execs_let ?_); intro kkω))
  k_with "my leaf" => with_reducible first | show Post _ _ _ _ _ _ _ _ | show JOut _ _ _ _ _ _ _ _ _ | show MEnd _ _ _ _ _ _ _ _ _ _ _ _ _ | show MOut _ _ _ _ _ _ _ _ _ _ _
  k_with "k_steps" => repeat' (first | k_unfold | ((fail_if_success k_extra "my leaf"); first | walk1 | (dsimp only; walk1)) | (leave1; walk_say "STEP leave1"; (try dsimp only)) | fail "no step")
  k_with "my cond" => simp only [true_and, and_true, false_and, and_false, true_or, or_true, false_or, or_false, if_true, if_false, Bool.false_eq_true, Bool.true_eq_false, reduceCtorEq, and_self, or_self, not_true_eq_false, not_false_eq_true]
  k_with "eval Constant int" => (k_here; (with_reducible refine int_M ?_); intro t9ω tk9ω)
  k_with "eval Constant str" => (k_here; (with_reducible refine str_M ?_); intro t9ω tk9ω)
  k_with "binaryOp Add int int" => (k_here; (with_reducible refine add_M ?_); intro t9ω tk9ω)
  k_with "binaryOp Sub int int" => (k_here; (with_reducible refine sub_M ?_); intro t9ω tk9ω)
  k_with "call ref" => (
      (with_reducible show wpAny _ _ (call (Value.ref 145) _) _ _ _)
      k_dflt (refine' Does.val1 (place_does ?p1 ?p2 ?p3) ?k1 ?k2 ?k3 ?k4 ?k5 ?k6 ?k7 ?k8 ?k9 ?_; k_extra "my sides"; (case p1 => k_mem); (case p2 => assumption); (case p3 => first | assumption | omega))
      k_extra "my plain1")
  k_with "call ref" => (
      (with_reducible show wpAny _ _ (call (Value.ref 28) _) _ _ _)
      k_dflt (refine' Does.val syllable_does ?k1 ?k2 ?k3 ?k4 ?k5 ?k6 ?k7 ?k8 ?k9 ?_; k_extra "my sides")
      k_extra "my plain")
  k_with "call ref" => (
      (with_reducible show wpAny _ _ (call (Value.ref 52) _) _ _ _)
      k_dflt (refine' Does.val joins_does ?k1 ?k2 ?k3 ?k4 ?k5 ?k6 ?k7 ?k8 ?k9 ?_; k_extra "my sides")
      k_extra "my plain")
  k_with "call ref" => (
      (with_reducible show wpAny _ _ (call (Value.ref 59) _) _ _ _)
      k_dflt (first
        | (refine' Does.val (pairS_does ?p1) ?k1 ?k2 ?k3 ?k4 ?k5 ?k6 ?k7 ?k8 ?k9 ?_; (case p1 => assumption); k_extra "my sides")
        | (refine' Does.val (pairN_does ?p1) ?k1 ?k2 ?k3 ?k4 ?k5 ?k6 ?k7 ?k8 ?k9 ?_; (case p1 => assumption); k_extra "my sides"))
      k_extra "my plain")
  k_with "call ref" => (
      (with_reducible show wpAny _ _ (call (Value.ref 173) _) _ _ _)
      k_dflt (refine' Does.val (rget_does' (by assumption) (by assumption)) ?k1 ?k2 ?k3 ?k4 ?k5 ?k6 ?k7 ?k8 ?k9 ?_; k_extra "my sides")
      k_extra "my plain")
  k_with "my cell" => first | assumption | exact Cells.at' (by assumption) _ (by omega)
  k_with "call ref" => (
      (with_reducible show wpAny _ _ (call (Value.ref 236) _) _ _ _)
      k_dflt (first
       | ((with_reducible show wpAny _ _ (call _ [_, Value.str (Str.ofString "gcb") _, _]) _ _ _); refine' Does.val (dgetG_does ?p1 ?p2) ?k1 ?k2 ?k3 ?k4 ?k5 ?k6 ?k7 ?k8 ?k9 ?_; k_extra "my sides"; (case p1 => assumption); (case p2 => assumption); k_extra "my plain")
       | ((with_reducible show wpAny _ _ (call _ [_, Value.str (Str.ofString "incb") _, _]) _ _ _); refine' Does.val1 (dgetI_does ?p1 ?p2) ?k1 ?k2 ?k3 ?k4 ?k5 ?k6 ?k7 ?k8 ?k9 ?_; k_extra "my sides"; (case p1 => assumption); (case p2 => k_extra "my cell"); k_extra "my plain1")
       | ((with_reducible show wpAny _ _ (call _ [_, Value.str (Str.ofString "ep") _, _]) _ _ _); refine' Does.val (dgetP_does ?p1 ?p2) ?k1 ?k2 ?k3 ?k4 ?k5 ?k6 ?k7 ?k8 ?k9 ?_; k_extra "my sides"; (case p1 => assumption); (case p2 => k_extra "my cell"); k_extra "my plain")))
  k_with "call ref" => (
      (with_reducible show wpAny _ _ (call (Value.ref 35) _) _ _ _)
      k_dflt (first
        | (refine' Does.val1 (kindHs_does ?p1) ?k1 ?k2 ?k3 ?k4 ?k5 ?k6 ?k7 ?k8 ?k9 ?_; (case p1 => assumption); k_extra "my sides"; k_extra "my plain1")
        | (refine' Does.val (kindHn_does ?p1) ?k1 ?k2 ?k3 ?k4 ?k5 ?k6 ?k7 ?k8 ?k9 ?_; (case p1 => assumption); k_extra "my sides"; k_extra "my plain")))
  k_with "call ref" => (
      (with_reducible show wpAny _ _ (call (Value.ref 45) _) _ _ _)
      k_dflt (refine' Does.val1 (kind_does ?p1 ?p2) ?k1 ?k2 ?k3 ?k4 ?k5 ?k6 ?k7 ?k8 ?k9 ?_; k_extra "my sides"; (case p1 => assumption); (case p2 => k_extra "my cell"))
      k_extra "my plain1")
  k_with "call ref" => (
      (with_reducible show wpAny _ _ (call (Value.ref 66) _) _ _ _)
      k_dflt (refine' Does.val (conj_does ?p1 ?p2 ?p3 ?p4 ?p5 ?p6 ?p7) ?k1 ?k2 ?k3 ?k4 ?k5 ?k6 ?k7 ?k8 ?k9 ?_; k_extra "my sides"; (case p1 => assumption); (case p2 => k_mem); (case p3 => assumption); (case p4 => omega); (case p5 => assumption); (case p6 => omega); (case p7 => omega))
      k_extra "my plain")
  k_with "call ref" => (
      (with_reducible show wpAny _ _ (call (Value.ref 73) _) _ _ _)
      k_dflt (refine' Does.val (pict_does ?p1 ?p2 ?p3 ?p4 ?p5 ?p6 ?p7) ?k1 ?k2 ?k3 ?k4 ?k5 ?k6 ?k7 ?k8 ?k9 ?_; k_extra "my sides"; (case p1 => assumption); (case p2 => k_mem); (case p3 => assumption); (case p4 => omega); (case p5 => assumption); (case p6 => omega); (case p7 => omega))
      k_extra "my plain")
  k_with "call ref" => (
      (with_reducible show wpAny _ _ (call (Value.ref 80) _) _ _ _)
      k_dflt (refine' Does.val1 (flags_does ?p1 ?p2 ?p3 ?p4 ?p5 ?p6 ?p7) ?k1 ?k2 ?k3 ?k4 ?k5 ?k6 ?k7 ?k8 ?k9 ?_; k_extra "my sides"; (case p1 => assumption); (case p2 => k_mem); (case p3 => assumption); (case p4 => omega); (case p5 => assumption); (case p6 => omega); (case p7 => omega))
      k_extra "my plain1")
  k_with "call ref" => (
      (with_reducible show wpAny _ _ (call (Value.ref 87) _) _ _ _)
      k_dflt (refine' Does.val (flag_does ?p1 ?p2 ?p3 ?p4 ?p5 ?p6 ?p7) ?k1 ?k2 ?k3 ?k4 ?k5 ?k6 ?k7 ?k8 ?k9 ?_; k_extra "my sides"; (case p1 => assumption); (case p2 => k_mem); (case p3 => assumption); (case p4 => omega); (case p5 => assumption); (case p6 => omega); (case p7 => omega))
      k_extra "my plain")
  k_with "call ref" => (
      (with_reducible show wpAny _ _ (call (Value.ref 95) _) _ _ _)
      k_dflt (refine' Does.val (break_does ?p1 ?p2 ?p3 ?p4 ?p5 ?p6 ?p7) ?k1 ?k2 ?k3 ?k4 ?k5 ?k6 ?k7 ?k8 ?k9 ?_; k_extra "my sides"; (case p1 => assumption); (case p2 => k_mem); (case p3 => assumption); (case p4 => omega); (case p5 => assumption); (case p6 => omega); (case p7 => omega))
      k_extra "my plain")
  k_with "my inc" => first | exact fun _ h => h | exact kst_inSelf | kst_inAny
  k_with "call builtin:len" => (k_here; (with_reducible show wpAny _ _ (call (Value.builtin "len") [Value.ref _]) _ _ _); k_dflt (refine' row_len ?k1 ?k2 ?k3 ?k4 ?_; (case k1 => k_asm); (case k2 => assumption); (case k3 => k_extra "my inc"); (case k4 => omega)); k_whole)
  k_with "subscriptTail Name Name ref int" => k_extra "my row"
  k_with "subscriptTail Name BinOp ref int" => k_extra "my row"
  k_with "my row" => (k_here; (with_reducible show wpAny _ _ (subscriptTail _ _ (Value.ref _) (Value.int _ _)) _ _ _); k_dflt (refine' row_item ?k1 ?k2 ?k3 ?k4 ?k5 ?k6 ?_ ?k8 ?k9; (case k1 => k_asm); (case k2 => assumption); (case k3 => k_extra "my inc"); (case k8 => with_unfolding_all rfl); (case k9 => (intro _; with_unfolding_all rfl)); (case k4 => omega); (case k5 => omega); (case k6 => omega)); k_whole; (intro a9ω t8ω t9ω n9ω hm9ω))
  k_with "call ref" => (
      (with_reducible show wpAny _ _ (call (Value.ref 297) _) _ _ _)
      k_dflt (refine' Does.val1 (past_does ?p1 ?p2 ?p3 ?p4 ?p5) ?k1 ?k2 ?k3 ?k4 ?k5 ?k6 ?k7 ?k8 ?k9 ?_; k_extra "my sides"; (case p1 => first | assumption | exact RowAt.mono (by assumption) (by k_extra "my inc")); (case p2 => omega); (case p4 => k_mem); (case p5 => kde_strs); (case p3 => omega))
      k_extra "my plain1")
  k_with "my rowp" => first | assumption | exact RowAt.mono (by assumption) (by k_extra "my inc")
  k_with "call ref" => (
      (with_reducible show wpAny _ _ (call (Value.ref 304) _) _ _ _)
      k_dflt (refine' Does.val1 (syl_does ?p1 ?p2 ?p3 ?p4) ?k1 ?k2 ?k3 ?k4 ?k5 ?k6 ?k7 ?k8 ?k9 ?_; k_extra "my sides"; (case p1 => k_extra "my rowp"); (case p2 => omega); (case p3 => omega); (case p4 => omega))
      k_extra "my plain1")
  k_with "my plainR" => (
      (intro v9ω news9ω h9ω tk9ω F9ω N9ω r9ω)
      (obtain ⟨e9ω, t9ω, f9ω⟩ := r9ω)
      (subst f9ω)
      (subst e9ω)
      (try dsimp only)
      (try k_fold))
  k_with "call ref" => (
      (with_reducible show wpAny _ _ (call (Value.ref 311) _) _ _ _)
      k_dflt (refine' Does.val1 (pics_does ?p1 ?p2 ?p3 ?p4) ?k1 ?k2 ?k3 ?k4 ?k5 ?k6 ?k7 ?k8 ?k9 ?_; k_extra "my sides"; (case p1 => k_extra "my rowp"); (case p2 => omega); (case p3 => omega); (case p4 => omega))
      k_extra "my plain1")
  k_with "call ref" => (
      (with_reducible show wpAny _ _ (call (Value.ref 318) _) _ _ _)
      k_dflt (refine' Does.val1 (cons_does ?p1 ?p2 ?p3 ?p4) ?k1 ?k2 ?k3 ?k4 ?k5 ?k6 ?k7 ?k8 ?k9 ?_; k_extra "my sides"; (case p1 => k_extra "my rowp"); (case p2 => omega); (case p3 => omega); (case p4 => omega))
      k_extra "my plain1")
  k_with "my len" => ((try simp only [List.length_append, List.length_take, List.length_drop, List.length_cons, List.length_nil]); omega)
  k_with "subscriptTail Name Slice ref ref" => (k_here; (with_reducible show wpAny _ _ (subscriptTail _ (PySem.Expr.Slice _ _ none _) (Value.ref _) (Value.ref _)) _ _ _); k_dflt (first
      | (refine' m_slice_to ?F ?N ?l ?i ?z ?_ ?s ?t; (case F => k_asm); (case N => k_asm); (case l => k_mem); (case i => first | assumption | omega); (case z => k_extra "my len"); (case s => with_unfolding_all rfl); (case t => (intro _; with_unfolding_all rfl)))
      | (refine' m_slice_from ?F ?N ?l ?i ?z ?_ ?s ?t; (case F => k_asm); (case N => k_asm); (case l => k_mem); (case i => first | assumption | decide | omega); (case z => k_extra "my len"); (case s => with_unfolding_all rfl); (case t => (intro _; with_unfolding_all rfl)))); k_whole; intro D'ω h'ω F'ω N'ω l1ω; (try k_lt l1ω); (try k_sweep))
  k_with "binaryOp Add ref ref" => (k_here; k_dflt (refine' m_add ?F ?N ?l ?i ?z ?_; (case F => k_asm); (case N => k_asm); (case l => k_mem); (case i => k_mem); (case z => k_extra "my len")); k_whole; intro D'ω h'ω F'ω N'ω l1ω; (try k_lt l1ω); (try k_sweep))
  k_with "k_all" => first | assumption | exact allLt_ne (by first | assumption | exact And.right (by assumption) | exact And.right (And.right (by assumption)) | exact And.right (And.right (And.right (by assumption))))
  k_with "call ref" => (
      (with_reducible show wpAny _ _ (call (Value.ref 152) _) _ _ _)
      k_dflt (refine' Does.val (like_does ?p1) ?k1 ?k2 ?k3 ?k4 ?k5 ?k6 ?k7 ?k8 ?k9 ?_; (case p1 => assumption); k_extra "my sides")
      k_extra "my plain")
  k_with "subscriptTail Attribute Name Slice ref ref" => (refine kba_turn (value' := PySem.Expr.Name (PySem.Str.ofString "_") ⟨0, 0, 0, 0⟩) (fun _ => rfl) ?_)
  trivial
section

theorem placeF_le (ns : List Int) (x : Int) : ∀ (f lo hi : Nat), lo ≤ hi → placeF ns x lo hi f ≤ hi
  | 0, _, _, h => h
  | f + 1, lo, hi, h => by
    rw [placeF_succ]
    split
    · split
      · exact placeF_le ns x f _ hi (by lia)
      · exact Nat.le_trans (placeF_le ns x f lo _ (by lia)) (by lia)
    · exact h
/-- a map's data: texts and flags without their tokens -/
inductive DV where
  | s (x : Str)
  | b (x : Bool)
  deriving DecidableEq
noncomputable def dvOf : Value → Option DV
  | .str x _ => some (.s x)
  | .bool b => some (.b b)
  | _ => none
noncomputable def likeD : Option DV → Option DV → Bool
  | some (.s a), some (.s b) => a == b
  | some (.b a), some (.b b) => a == b
  | _, _ => false
noncomputable def alikeD : Option DV → Option DV → Bool
  | some (.s _), some (.s _) => true
  | some (.b _), some (.b _) => true
  | _, _ => false
theorem likeV_dv (a b : Value) : likeV a b = likeD (dvOf a) (dvOf b) := by cases a <;> cases b <;> rfl
theorem alikeK_dv (a b : Value) : alikeK a b = alikeD (dvOf a) (dvOf b) := by cases a <;> cases b <;> rfl
noncomputable abbrev Tab := List Int × List (Option DV)
noncomputable def putD (T : Tab) (c : Int) (v : Option DV) : Tab :=
  let low := place T.1 (c - 1)
  let high := place T.1 (c + 1)
  let b := T.2.getD (high - 1) none
  let y := T.2.getD (low - 1) none
  (T.1.take low ++ (if likeD y v = true then (if likeD b v = true then [] else [c + 1]) else if likeD b v = true then [c] else [c, c + 1]) ++ T.1.drop high,
   T.2.take low ++ (if likeD y v = true then (if likeD b v = true then [] else [b]) else if likeD b v = true then [v] else [v, b]) ++ T.2.drop high)
/-- the put may be made -/
noncomputable def okD (T : Tab) (c : Int) (v : Option DV) : Bool :=
  decide (T.2.length = T.1.length) && decide (T.1.length < 1000) && decide (c < 100000) && decide (1 ≤ place T.1 (c - 1)) && decide (1 ≤ place T.1 (c + 1)) &&
    alikeD (T.2.getD (place T.1 (c + 1) - 1) none) v && alikeD (T.2.getD (place T.1 (c - 1) - 1) none) v
/-- a map in the ledger, by its data -/
noncomputable def RD (news : List (Addr × Obj)) (a dx : Addr) (T : Tab) : Prop := ∃ vs, RMapX news a dx T.1 vs ∧ vs.map dvOf = T.2
theorem getD_dv {vs : List Value} {ds : List (Option DV)} (h : vs.map dvOf = ds) (k : Nat) (hk : k < vs.length) : ∃ v, vs[k]? = some v ∧ dvOf v = ds.getD k none := by
  refine ⟨vs[k], List.getElem?_eq_getElem hk, ?_⟩
  subst h
  simp [List.getD, hk]
theorem Does.front {w : World} {f : Addr} {vs : List Value} {NN UU : Nat} {news : List (Addr × Obj)} {Ret : Value → List (Addr × Obj) → Prop} {dx : Addr} {o : Obj} (hm : (dx, o) ∈ news)
    (C : ∀ rest, (∀ p ∈ rest, p.1 ≠ dx) → (∀ p ∈ news, p.2 ≠ o → p ∈ rest) → (∀ p ∈ news, p.1 ≠ dx → p ∈ rest) → Does w f vs NN UU ((dx, o) :: rest) Ret) : Does w f vs NN UU news Ret := by
  intro dp un gd env outer A₀ base h₀ L m s mean mg mb R B F X N T hf hk hd hu q
  refine C (news.filter fun p => p.1 != dx) (fun p hp => by simpa using (List.mem_filter.mp hp).2) (fun p hp hn => List.mem_filter.mpr ⟨hp, ?_⟩) (fun p hp hn => List.mem_filter.mpr ⟨hp, by simpa using hn⟩)
    dp un gd env outer A₀ base h₀ L m s mean mg mb R B F X (fun p hp => ?_) T hf hk hd hu q
  · simp only [bne_iff_ne, ne_eq]
    intro e
    have h1 := (N p hp).1
    have h2 := (N _ hm).1
    rw [e] at h1
    exact hn (Option.some.inj (h1.symm.trans h2))
  · rcases List.mem_cons.mp hp with rfl | hp
    · exact N _ hm
    · exact N _ (List.mem_filter.mp hp).1
/-- all stays but a dict at x -/
noncomputable def Fra (news news' : List (Addr × Obj)) (x : Addr) : Prop := ∀ p ∈ news, (p.1 ≠ x ∨ p.2.cls ≠ .type "dict") → p ∈ news'
theorem Fra.trans {n1 n2 n3 : List (Addr × Obj)} {x : Addr} (h : Fra n1 n2 x) (h' : Fra n2 n3 x) : Fra n1 n3 x := fun p hp hx => h' p (h p hp hx) hx
theorem inst_cls {C dx : Addr} : (instObj C dx).cls ≠ .type "dict" := by intro h; cases h
theorem list_cls {its : Array Value} {n : Nat} : (listOf its n).cls ≠ .type "dict" := by intro h; injection h with h1; exact absurd h1 (by decide)
theorem RMapX.keep {news news' : List (Addr × Obj)} {a dx x : Addr} {ns : List Int} {vs : List Value} (R : RMapX news a dx ns vs) (h : Fra news news' x) (hx : dx ≠ x) : RMapX news' a dx ns vs := by
  obtain ⟨h1, t1, v0, h2, t2, ls, h3, t3, lv, ws, m1, m2, m3, m4, m5⟩ := R
  exact ⟨h1, t1, v0, h2, t2, ls, h3, t3, lv, ws, h _ m1 (.inr inst_cls), h _ m2 (.inl hx), h _ m3 (.inr list_cls), m4, h _ m5 (.inr list_cls)⟩
theorem RD.keep {news news' : List (Addr × Obj)} {a dx x : Addr} {T : Tab} (R : RD news a dx T) (h : Fra news news' x) (hx : dx ≠ x) : RD news' a dx T := let ⟨vs, X, e⟩ := R; ⟨vs, X.keep h hx, e⟩
theorem inst_ne_dict {C dx : Addr} {es : List DictEntry} {n : Nat} : instObj C dx ≠ dictOf es n := by intro h; injection h with h1; cases h1
theorem list_ne_dict {its : Array Value} {k : Nat} {es : List DictEntry} {n : Nat} : listOf its k ≠ dictOf es n := by intro h; injection h with h1; injection h1 with h2; exact absurd h2 (by decide)
theorem rput_does {w : World} {a dx : Addr} {T : Tab} {c : Int} {t t' : Tok} {v : Value} {d : Option DV} {news : List (Addr × Obj)} (R : RD news a dx T) (ok : okD T c d = true) (hv : dvOf v = d) :
    Does w 180 [.ref a, .int c t, .int c t', v] 3 50 news (fun r news' => r = .none ∧ RD news' a dx (putD T c d) ∧ Fra news news' dx) := by
  obtain ⟨vs, ⟨h1, t1, v0, h2, t2, ls, h3, t3, lv, ws, m1, m2, m3, m4, m5⟩, hd⟩ := R
  subst hv
  simp only [okD, Bool.and_eq_true, decide_eq_true_eq] at ok
  obtain ⟨⟨⟨⟨⟨⟨o1, o2⟩, o3⟩, o4⟩, o5⟩, o6⟩, o7⟩ := ok
  have hlen : vs.length = T.2.length := by rw [← hd, List.length_map]
  have q1 := placeF_le T.1 (c - 1) T.1.length 0 T.1.length (Nat.zero_le _)
  have q2 := placeF_le T.1 (c + 1) T.1.length 0 T.1.length (Nat.zero_le _)
  have q3 : place T.1 (c - 1) ≤ T.1.length := q1
  have q4 : place T.1 (c + 1) ≤ T.1.length := q2
  obtain ⟨b, hb, hb'⟩ := getD_dv hd (place T.1 (c + 1) - 1) (by lia)
  obtain ⟨y, hy, hy'⟩ := getD_dv hd (place T.1 (c - 1) - 1) (by lia)
  refine Does.front m2 fun rest hne ho hr => ?_
  refine Does.weak (rput_front (ho _ m1 inst_ne_dict) (ho _ m3 list_ne_dict) m4 (ho _ m5 list_ne_dict) hne o2 (hlen.trans o1) o3 o4 q3 o5 q4 hb hy (by rw [alikeK_dv, hb']; exact o6) (by rw [alikeK_dv, hy']; exact o7)) ?_
  rintro r news' ⟨rfl, RX, hs⟩
  refine ⟨rfl, ⟨(putV (T.1, vs) c v).2, ?_, ?_⟩, fun p hp hn => hs p (hn.elim (hr p hp) fun q => ho p hp fun e => q (by rw [e]))⟩
  · have e : (putV (T.1, vs) c v).1 = (putD T c (dvOf v)).1 := by
      rw [putV_eq hb hy o4]
      simp only [putD, likeV_dv, hb', hy']
    rw [← e]
    exact RX
  · rw [putV_eq hb hy o4]
    simp only [putD, likeV_dv, hb', hy', List.map_append, List.map_take, List.map_drop, hd]
    congr 2
    split <;> split <;> simp [hb']
/-- what two entries of one address say -/
theorem News.one {h₀ h : Heap} {L : Addr} {news : List (Addr × Obj)} (N : News h₀ L h news) {p q : Addr × Obj} (hp : p ∈ news) (hq : q ∈ news) (e : p.1 = q.1) : p.2 = q.2 := by
  have h1 := (N p hp).1
  have h2 := (N q hq).1
  rw [e] at h1
  exact Option.some.inj (h1.symm.trans h2)


end
section
noncomputable abbrev SK (w : World) := PySem.strKind Pg w
/-- the data object, with its two dicts -/
noncomputable def DataM (w : World) (news : List (Addr × Obj)) (dat dd dm df : Addr) (kvs dkvs : List (Str × Value)) : Prop :=
  ∃ h1 t1 h2 t2 h3 t3 v3 h4 t4 v4 om od, (dat, instObj 246 dd) ∈ news ∧
    (dd, dictOf [⟨h1, .str (Str.ofString "defaults") t1, .ref df⟩, ⟨h2, .str (Str.ofString "maps") t2, .ref dm⟩, ⟨h3, .str (Str.ofString "properties") t3, v3⟩, ⟨h4, .str (Str.ofString "words") t4, v4⟩] 4) ∈ news ∧
    (dm, om) ∈ news ∧ (dm == sysModules) = false ∧ om.IsDictOf (SK w) kvs ∧ (df, od) ∈ news ∧ (df == sysModules) = false ∧ od.IsDictOf (SK w) dkvs ∧ dd ≠ dm ∧ df ≠ dm
theorem kda_stored {kvs : List (Str × Value)} {k : Str} {v : Value} : valueAt (stored kvs k v) k = some v := by
  unfold valueAt stored
  split
  · rename_i h
    induction kvs with
    | nil => simp at h
    | cons p r ih =>
      by_cases hp : p.1 = k
      · simp [hp]
      · simp only [List.any_cons, hp, decide_false, Bool.false_or] at h
        have q := ih h
        rw [List.map_cons, if_neg hp, List.find?_cons, decide_eq_false hp]
        exact q
  · rename_i h
    simp only [Bool.not_eq_true, List.any_eq_false, decide_eq_true_eq] at h
    rw [List.find?_append]
    have : List.find? (fun kv : Str × Value => decide (kv.1 = k)) kvs = none := List.find?_eq_none.mpr (by simpa using h)
    rw [this]
    simp
theorem stored_new {kvs : List (Str × Value)} {k : Str} {v : Value} (h : valueAt kvs k = none) : stored kvs k v = kvs ++ [(k, v)] := by
  unfold stored
  rw [if_neg]
  unfold valueAt at h
  simp only [Option.map_eq_none_iff, List.find?_eq_none, decide_eq_true_eq] at h
  simp only [List.any_eq_true, decide_eq_true_eq, not_exists, not_and]
  exact h
theorem DataM.keep {w : World} {news news' : List (Addr × Obj)} {dat dd dm df x : Addr} {kvs dkvs : List (Str × Value)} (D : DataM w news dat dd dm df kvs dkvs) (h : Fra news news' x) (h1 : dd ≠ x) (h2 : dm ≠ x) (h3 : df ≠ x) : DataM w news' dat dd dm df kvs dkvs := by
  obtain ⟨h1', t1, h2', t2, h3', t3, v3, h4, t4, v4, om, od, m1, m2, m3, m4, m5, m6, m7, m8, m9, m10⟩ := D
  exact ⟨h1', t1, h2', t2, h3', t3, v3, h4, t4, v4, om, od, h _ m1 (.inr inst_cls), h _ m2 (.inl h1), h _ m3 (.inl h2), m4, m5, h _ m6 (.inl h3), m7, m8, m9, m10⟩
set_option maxRecDepth 100000 in
set_option maxHeartbeats 4000000 in
theorem mapof_old {w : World} {dat dd dm df a : Addr} {kvs dkvs : List (Str × Value)} {nm : Str} {t : Tok} {news : List (Addr × Obj)} (D : DataM w news dat dd dm df kvs dkvs) (hv : valueAt kvs nm = some (.ref a)) :
    Does w 243 [.ref dat, .str nm t] 1 20 news (fun r news' => news' = news ∧ r = .ref a) := by
  obtain ⟨h1, t1, h2, t2, h3, t3, v3, h4, t4, v4, om, od, m1, m2, m3, m4, m5, m6, m7, m8, m9, m10⟩ := D
  k_with "my notin" =>
    refine' kdg_notin ?N ?hm ?hd ?lo (strKind_is _ _ _ _) true ?hb ?_
    case N => k_asm
    case hm => exact m3
    case hd => exact m5
    case lo => exact m4
    case hb => rw [hv]; rfl
  k_with "my item" =>
    refine' kda_item ?N ?hm ?hd (strKind_is _ _ _ _) hv ?_ ?hs ?hg
    case N => k_asm
    case hm => exact m3
    case hd => exact m5
    case hs => with_unfolding_all rfl
    case hg => intro _; with_unfolding_all rfl
  k_extra "my enter"
  k_steps
  all_goals (k_extra "my ret"; rfl)
set_option maxRecDepth 100000 in
set_option maxHeartbeats 4000000 in
theorem mapof_front {w : World} {dat dm df dd : Addr} {h1 h2 h3 h4 : Int} {t1 t2 t3 t4 : Tok} {v0 v3 v4 : Value} {om od : Obj} {kvs dkvs : List (Str × Value)} {nm : Str} {t : Tok} {rest : List (Addr × Obj)}
    (m1 : (dat, instObj 246 dd) ∈ rest)
    (m2 : (dd, dictOf [⟨h1, .str (Str.ofString "defaults") t1, .ref df⟩, ⟨h2, .str (Str.ofString "maps") t2, .ref dm⟩, ⟨h3, .str (Str.ofString "properties") t3, v3⟩, ⟨h4, .str (Str.ofString "words") t4, v4⟩] 4) ∈ rest)
    (m4 : (dm == sysModules) = false) (m5 : om.IsDictOf (SK w) kvs) (m6 : (df, od) ∈ rest) (m7 : (df == sysModules) = false) (m8 : od.IsDictOf (SK w) dkvs) (hne : ∀ p ∈ rest, p.1 ≠ dm)
    (hv : valueAt kvs nm = none) (hd : valueAt dkvs nm = some v0) (hz : kvs.length ≤ 100) :
    Does w 243 [.ref dat, .str nm t] 3 40 ((dm, om) :: rest) (fun r news' => ∃ a dx om', r = .ref a ∧ RMapX news' a dx [0] [v0] ∧ (dm, om') ∈ news' ∧ om'.IsDictOf (SK w) (kvs ++ [(nm, .ref a)]) ∧ (∀ p ∈ rest, p ∈ news') ∧ (∀ p ∈ rest, p.1 ≠ dx) ∧ dm ≠ dx) := by
  k_with "my notin" =>
    refine' kdg_notin ?N ?hm ?hd ?lo (strKind_is _ _ _ _) false ?hb ?_
    case N => k_asm
    case hm => k_mem
    case hd => exact m5
    case lo => exact m4
    case hb => rw [hv]; rfl
  k_with "my getm" =>
    refine' kdg_method (knd := SK w) ?N ?hm ?hd ?_
    case N => k_asm
    case hm => k_mem
    case hd => exact m8
  k_with "my set" =>
    refine' kda_set (knd := SK w) ?F ?N ?U ?d (strKind_is _ _ _ _) ?z ?_
    case F => k_asm
    case N => k_asm
    case U => k_updF
    case d => exact m5
    case z => (rw [sizeLine_eq]; omega)
    intro h' o' F' N' hd'
    try dsimp only at N'
  k_with "my item" =>
    refine' kda_item (knd := SK w) ?N ?hm ?hd (strKind_is _ _ _ _) kda_stored ?_ ?hs ?hg
    case N => k_asm
    case hd => assumption
    case hm => k_mem
    case hs => with_unfolding_all rfl
    case hg => intro _; with_unfolding_all rfl
  k_with "my get" =>
    refine' kdg_get1 ?N ?hm ?hd ?lo (strKind_is _ _ _ _) (some v0) hd ?_
    case N => k_asm
    case hm => k_mem
    case hd => exact m8
    case lo => exact m7
    try dsimp only [Option.getD]
  k_extra "my enter"
  k_steps
  refine wpAny_getItem_of (k := nm) (knd := SK w) (strKind_is _ _ _ _) (Heap.DictOf.mapOf (kda_dict (by k_asm) (by k_mem) (by assumption))) kda_stored ?_
  k_steps
  refine Post.ret (by k_asm) (by k_asm) ⟨_, _, _, rfl, ⟨_, _, _, _, _, _, _, _, _, _, by k_mem, by k_mem, by k_mem, IntsAre.cons _ _ IntsAre.nil, by k_mem⟩, by k_mem, ?_, by kst_inAny, ?_, ?_⟩
  · rw [← stored_new hv]; assumption
  · exact allLt_ne (by first | assumption | exact And.right (by assumption))
  · k_ne
theorem IsDictOf.clsIs {w : World} {o : Obj} {kvs : List (Str × Value)} (h : o.IsDictOf (SK w) kvs) : o.cls = .type "dict" := let ⟨_, _, e, _⟩ := h; e.1
theorem mapof_new {w : World} {dat dd dm df : Addr} {kvs dkvs : List (Str × Value)} {nm : Str} {v0 : Value} {t : Tok} {news : List (Addr × Obj)} (D : DataM w news dat dd dm df kvs dkvs)
    (hv : valueAt kvs nm = none) (hd : valueAt dkvs nm = some v0) (hz : kvs.length ≤ 100) :
    Does w 243 [.ref dat, .str nm t] 3 40 news (fun r news' => ∃ a dx, r = .ref a ∧ RD news' a dx ([0], [dvOf v0]) ∧ DataM w news' dat dd dm df (kvs ++ [(nm, .ref a)]) dkvs ∧ Fra news news' dm ∧ (∀ p ∈ news, p.1 ≠ dx)) := by
  obtain ⟨h1, t1, h2, t2, h3, t3, v3, h4, t4, v4, om, od, m1, m2, m3, m4, m5, m6, m7, m8, m9, m10⟩ := D
  have hi : instObj 246 dd ≠ om := fun e => by have := IsDictOf.clsIs m5; rw [← e] at this; cases this
  refine Does.front m3 fun rest hne ho hr => ?_
  refine Does.weak (mapof_front (ho _ m1 hi) (hr _ m2 m9) m4 m5 (hr _ m6 m10) m7 m8 hne hv hd hz) ?_
  rintro r news' ⟨a, dx, om', rfl, RX, n1, n2, n3, n4, n5⟩
  refine ⟨a, dx, rfl, ⟨_, RX, rfl⟩, ⟨h1, t1, h2, t2, h3, t3, v3, h4, t4, v4, om', od, n3 _ (ho _ m1 hi), n3 _ (hr _ m2 m9), n1, m4, n2, n3 _ (hr _ m6 m10), m7, m8, m9, m10⟩, fun p hp hn => n3 p (hn.elim (hr p hp) fun q => ho p hp fun e => q (by rw [e]; exact IsDictOf.clsIs m5)), fun p hp => ?_⟩
  by_cases e : p.1 = dm
  · rw [e]; exact n5
  · exact n4 p (hr p hp e)
theorem DataM.inst {w : World} {news : List (Addr × Obj)} {dat dd dm df : Addr} {kvs dkvs : List (Str × Value)} (D : DataM w news dat dd dm df kvs dkvs) : ∃ h1 t1 h2 t2 h3 t3 v3 h4 t4 v4, (dat, instObj 246 dd) ∈ news ∧
    (dd, dictOf [⟨h1, .str (Str.ofString "defaults") t1, .ref df⟩, ⟨h2, .str (Str.ofString "maps") t2, .ref dm⟩, ⟨h3, .str (Str.ofString "properties") t3, v3⟩, ⟨h4, .str (Str.ofString "words") t4, v4⟩] 4) ∈ news := by
  obtain ⟨h1', t1, h2', t2, h3', t3, v3, h4, t4, v4, om, od, m1, m2, _⟩ := D
  exact ⟨_, _, _, _, _, _, _, _, _, _, m1, m2⟩
theorem RD.inst {news : List (Addr × Obj)} {a dx : Addr} {T : Tab} (R : RD news a dx T) : ∃ h1 t1 v0 h2 t2 ls h3 t3 lv, (a, instObj 197 dx) ∈ news ∧
    (dx, dictOf [⟨h1, .str (Str.ofString "default") t1, v0⟩, ⟨h2, .str (Str.ofString "starts") t2, .ref ls⟩, ⟨h3, .str (Str.ofString "values") t3, .ref lv⟩] 3) ∈ news := by
  obtain ⟨vs, ⟨h1, t1, v0, h2, t2, ls, h3, t3, lv, ws, m1, m2, _⟩, _⟩ := R
  exact ⟨_, _, _, _, _, _, _, _, _, m1, m2⟩
theorem DataM.mem {w : World} {news : List (Addr × Obj)} {dat dd dm df : Addr} {kvs dkvs : List (Str × Value)} (D : DataM w news dat dd dm df kvs dkvs) : ∃ om od, (dm, om) ∈ news ∧ (df, od) ∈ news := by
  obtain ⟨h1', t1, h2', t2, h3', t3, v3, h4, t4, v4, om, od, m1, m2, m3, m4, m5, m6, _⟩ := D
  exact ⟨_, _, m3, m6⟩


end
theorem fresh_dput : True := by
  k_with_none
  w_top off
  k_with "is_list" => exact News.isList (by k_asm) (by k_mem)
  k_with "exec While Compare cons nil" => k_extra "my while"
  k_with "exec While BoolOp cons nil" => k_extra "my while"
  k_with "exec While Constant cons nil" => k_extra "my whileT"
  k_with "MPost" => with_reducible first | refine MPost.next ?_ | refine MPost.ret ?_ | refine MPost.brk ?_ | refine MPost.cont ?_
  k_with "seqQ" => with_reducible first | refine seqQ.next ?_ | refine seqQ.ret ?_ | refine seqQ.brk ?_ | refine seqQ.cont ?_
  k_with "my enter" => (
      refine' enter ?k6 ?k7 ?k9 ?kB ?kN ?kU ?c2 ?c3 ?c4 ?c5 ?_
      case k6 => k_is
      case k7 => k_is
      case k9 => first | exact fun _ _ => BindsTo.of_eq rfl | (intro s9ω X9ω; exact binds_K X9ω rfl (by k_is) rfl rfl rfl)
      case kB => exact locs rfl
      case kN => exact rfl
      case kU => exact rfl
      case c2 => exact rfl
      case c3 => exact rfl
      case c4 => exact rfl
      case c5 => decide
      intro dpω unω gdω outerω A₀ω baseω gω h₁ω Lω gnω drω osω tkω meanω mgω mbω Eω Bω Xω Tω hdω huω eω Aω mω hEω Fω Nω)
  k_with "my ret" => (
      first
        | refine Post.ret (by k_asm) ?kN9 ⟨rfl, ?_⟩
        | refine Post.next (by k_asm) ?kN9 ⟨rfl, ?_⟩
      case kN9 => first | k_asm | exact kst_newsOf (by assumption) (by kst_inAny)
      k_extra "my clean")
  k_with "my clean" => ((repeat (rename Fr _ _ _ _ => z9ω; clear z9ω)); (repeat (rename News _ _ _ _ => z9ω; clear z9ω)); (try clear hEω Bω Xω Tω hdω huω))
  k_with "my roomx" => first | exact room_c (by assumption) rfl | exact room_b (by assumption) rfl | exact room_a (by assumption) | exact room_d (by assumption) rfl | exact room_e (by assumption) rfl | exact Nat.le_of_ble_eq_true rfl | omega
  k_with "my room" => ((try dsimp (config := { zetaDelta := true }) only [Around.deeper, Around.mark, Around.in1]); k_extra "my roomx")
  k_with "my sides" => (
      (case k1 => k_asm)
      (case k2 => k_asm)
      (case k3 => k_asm)
      (case k4 => k_asm)
      (case k5 => k_asm)
      (case k6 => exact rfl)
      (case k7 => exact rfl)
      (case k8 => k_extra "my room")
      (case k9 => k_extra "my room"))
  k_with "compareOp In str ref" => (k_here; (with_reducible show wpAny _ _ (compareOp CmpOp.In (Value.str _ _) (Value.ref _)) _ _ _); (with_unfolding_all refine' in_tuple_strs ?k1 ?k2 ?_; (case k1 => first | exact kun_topT (by k_asm) (by k_asm) (by k_is) | exact News.isTup (by k_asm) (by k_mem)); (case k2 => kde_strs); k_whole))
  k_with "compareOp NotIn str ref" => (k_here; (with_reducible show wpAny _ _ (compareOp CmpOp.NotIn (Value.str _ _) (Value.ref _)) _ _ _); (with_unfolding_all refine' notin_tuple_strs ?k1 ?k2 ?_; (case k1 => first | exact kun_topT (by k_asm) (by k_asm) (by k_is) | exact News.isTup (by k_asm) (by k_mem)); (case k2 => kde_strs); k_whole))
  k_with "my plain" => ((intro h9ω tk9ω F9ω N9ω); (try k_sweep))
  k_with "subscriptTail" => k_extra "my item"
  k_with "compareOp In str ref" => k_extra "my in"
  k_with "my plain1" => ((intro u9ω h9ω tk9ω F9ω N9ω); (try k_sweep))
  k_with "compareOp NotEq ref ref" => (k_here; (with_reducible show wpAny _ _ (compareOp CmpOp.NotEq (Value.ref _) (Value.ref _)) _ _ _); (with_unfolding_all refine' ne_intsK ?k1 ?k2 ?k3 ?k4 ?k5 ?_; (case k1 => is_list); (case k2 => l_ints); (case k3 => is_list); (case k4 => l_ints); (case k5 => k_extra "my room"); k_whole))
  k_with "my mem" => first | ktr_member | exact List.Mem.head _ | (refine List.mem_cons_of_mem _ ?_; k_extra "my mem")
  k_with "k_mem" => k_extra "my mem"
  k_with "compareOp NotIn str ref" => k_extra "my notin"
  k_with "call builtin:dict.get" => k_extra "my get"
  k_with "getMethod ref" => k_extra "my getm"
  k_with "setItem ref str" => k_extra "my set"
  k_with "k_room" => ((try dsimp (config := { zetaDelta := true }) only); (try simp only [depth_under_make, depth_under_kw, depth_in1, depth_deeper, depth_caller]); (try dsimp only); k_extra "my roomx")
  k_with "getItem ref str" => k_extra "my gitem"
  k_with "pyIter ref" => k_extra "my for"
  k_with "k_qdec" => decide +kernel
  k_with "my lt" => with_reducible (first | assumption | exact And.left (by assumption) | exact And.left (And.right (by assumption)) | exact And.left (And.right (And.right (by assumption))) | exact And.left (And.right (And.right (And.right (by assumption)))) | exact And.left (And.right (And.right (And.right (And.right (by assumption))))) | exact And.left (And.right (And.right (And.right (And.right (And.right (by assumption)))))) | exact And.left (And.right (And.right (And.right (And.right (And.right (And.right (by assumption))))))) | exact And.left (And.right (And.right (And.right (And.right (And.right (And.right (And.right (by assumption)))))))) | exact And.left (And.right (And.right (And.right (And.right (And.right (And.right (And.right (And.right (by assumption))))))))) | exact And.left (And.right (And.right (And.right (And.right (And.right (And.right (And.right (And.right (And.right (by assumption)))))))))))
  k_with "k_ne" => first | with_reducible assumption | with_reducible exact Ne.symm (by assumption) | (refine Nat.ne_of_lt ?_; k_extra "my lt") | (refine Nat.ne_of_gt ?_; k_extra "my lt") | (refine Nat.ne_of_gt ?_; (repeat (first | exact Nat.lt_succ_self _ | refine Nat.lt_succ_of_lt ?_)); done) | (refine Nat.ne_of_lt ?_; (repeat (first | exact Nat.lt_succ_self _ | refine Nat.lt_succ_of_lt ?_)); done) | (refine neN ?_; (try dsimp only); omega)
  k_with "l_idx" => first | assumption | exact idx_a (by assumption) (by assumption) | exact idx_b (by assumption) | exact idx_c (by assumption) (by assumption)
  k_with "JPost" => with_reducible first | refine JPost.next ?_ | refine JPost.ret ?_ | refine JPost.brk ?_ | refine JPost.cont ?_
  k_with "storeName" => (k_here; k_dflt (refine' storeX_M ?F ?N ?_ ?a ?b; (case F => k_asm); (case N => k_asm); (case a => rfl); (case b => rfl); k_whole); (intro h'ω tk'ω m'ω F'ω N'ω); (try k_sweep))
  k_with "ksw skip" => repeat (first | (refine' ite_skip ?hx ?_; (case hx => first | exact ne_stored (by assumption) rfl | exact h2ω _ (List.Mem.head _) | exact h2ω _ (List.Mem.tail _ (List.Mem.head _)) | exact h2ω _ (List.Mem.tail _ (List.Mem.tail _ (List.Mem.head _))))) | refine ite_skip2 (by assumption) ?_)
  k_with "ksw_same" => (
      intro zω h2ω h3ω
      first
        | rfl
        | (k_extra "ksw skip"; first | rfl | (refine Eq.symm ?_; k_extra "ksw skip"; rfl))
        | ((simp only [List.forall_mem_cons, List.not_mem_nil, false_implies, implies_true, and_true, ne_eq] at h2ω); (simp (zetaDelta := true) [h2ω]; done))
        | ((simp only [List.forall_mem_cons, List.not_mem_nil, false_implies, implies_true, and_true, ne_eq] at h2ω); (simp only [List.contains_cons, List.contains_nil, Bool.or_false, Bool.or_eq_false_iff, beq_eq_false_iff_ne, ne_eq] at h3ω); (simp (zetaDelta := true) [h2ω, h3ω]; done)))
  k_with "execs cons" => (k_here; (first | (refine' norm_M (gn := gnω) (dr := drω) (os := osω) ?F9 ?e9 ?_; (case F9 => k_asm); (case e9 => exact rfl); intro tk9ω) | ((try dsimp only); (try k_gentoks))); first | (with_reducible refine' execs_one ?_) | ((with_reducible refine' execs_let ?_); intro kkω))
  k_with "my leaf" => with_reducible first | show Post _ _ _ _ _ _ _ _ | show JOut _ _ _ _ _ _ _ _ _ | show MEnd _ _ _ _ _ _ _ _ _ _ _ _ _ | show MOut _ _ _ _ _ _ _ _ _ _ _
  k_with "k_steps" => repeat' (first | k_unfold | ((fail_if_success k_extra "my leaf"); first | walk1 | (dsimp only; walk1)) | (leave1; walk_say "STEP leave1"; (try dsimp only)) | fail "no step")
  k_with "my cond" => simp only [true_and, and_true, false_and, and_false, true_or, or_true, false_or, or_false, if_true, if_false, Bool.false_eq_true, Bool.true_eq_false, reduceCtorEq, and_self, or_self, not_true_eq_false, not_false_eq_true]
  k_with "eval Constant int" => (k_here; (with_reducible refine int_M ?_); intro t9ω tk9ω)
  k_with "eval Constant str" => (k_here; (with_reducible refine str_M ?_); intro t9ω tk9ω)
  k_with "binaryOp Add int int" => (k_here; (with_reducible refine add_M ?_); intro t9ω tk9ω)
  k_with "binaryOp Sub int int" => (k_here; (with_reducible refine sub_M ?_); intro t9ω tk9ω)
  k_with "call ref" => (
      (with_reducible show wpAny _ _ (call (Value.ref 145) _) _ _ _)
      k_dflt (refine' Does.val1 (place_does ?p1 ?p2 ?p3) ?k1 ?k2 ?k3 ?k4 ?k5 ?k6 ?k7 ?k8 ?k9 ?_; k_extra "my sides"; (case p1 => k_mem); (case p2 => assumption); (case p3 => first | assumption | omega))
      k_extra "my plain1")
  k_with "call ref" => (
      (with_reducible show wpAny _ _ (call (Value.ref 28) _) _ _ _)
      k_dflt (refine' Does.val syllable_does ?k1 ?k2 ?k3 ?k4 ?k5 ?k6 ?k7 ?k8 ?k9 ?_; k_extra "my sides")
      k_extra "my plain")
  k_with "call ref" => (
      (with_reducible show wpAny _ _ (call (Value.ref 52) _) _ _ _)
      k_dflt (refine' Does.val joins_does ?k1 ?k2 ?k3 ?k4 ?k5 ?k6 ?k7 ?k8 ?k9 ?_; k_extra "my sides")
      k_extra "my plain")
  k_with "call ref" => (
      (with_reducible show wpAny _ _ (call (Value.ref 59) _) _ _ _)
      k_dflt (first
        | (refine' Does.val (pairS_does ?p1) ?k1 ?k2 ?k3 ?k4 ?k5 ?k6 ?k7 ?k8 ?k9 ?_; (case p1 => assumption); k_extra "my sides")
        | (refine' Does.val (pairN_does ?p1) ?k1 ?k2 ?k3 ?k4 ?k5 ?k6 ?k7 ?k8 ?k9 ?_; (case p1 => assumption); k_extra "my sides"))
      k_extra "my plain")
  k_with "call ref" => (
      (with_reducible show wpAny _ _ (call (Value.ref 173) _) _ _ _)
      k_dflt (refine' Does.val (rget_does' (by assumption) (by assumption)) ?k1 ?k2 ?k3 ?k4 ?k5 ?k6 ?k7 ?k8 ?k9 ?_; k_extra "my sides")
      k_extra "my plain")
  k_with "my cell" => first | assumption | exact Cells.at' (by assumption) _ (by omega)
  k_with "call ref" => (
      (with_reducible show wpAny _ _ (call (Value.ref 236) _) _ _ _)
      k_dflt (first
       | ((with_reducible show wpAny _ _ (call _ [_, Value.str (Str.ofString "gcb") _, _]) _ _ _); refine' Does.val (dgetG_does ?p1 ?p2) ?k1 ?k2 ?k3 ?k4 ?k5 ?k6 ?k7 ?k8 ?k9 ?_; k_extra "my sides"; (case p1 => assumption); (case p2 => assumption); k_extra "my plain")
       | ((with_reducible show wpAny _ _ (call _ [_, Value.str (Str.ofString "incb") _, _]) _ _ _); refine' Does.val1 (dgetI_does ?p1 ?p2) ?k1 ?k2 ?k3 ?k4 ?k5 ?k6 ?k7 ?k8 ?k9 ?_; k_extra "my sides"; (case p1 => assumption); (case p2 => k_extra "my cell"); k_extra "my plain1")
       | ((with_reducible show wpAny _ _ (call _ [_, Value.str (Str.ofString "ep") _, _]) _ _ _); refine' Does.val (dgetP_does ?p1 ?p2) ?k1 ?k2 ?k3 ?k4 ?k5 ?k6 ?k7 ?k8 ?k9 ?_; k_extra "my sides"; (case p1 => assumption); (case p2 => k_extra "my cell"); k_extra "my plain")))
  k_with "call ref" => (
      (with_reducible show wpAny _ _ (call (Value.ref 35) _) _ _ _)
      k_dflt (first
        | (refine' Does.val1 (kindHs_does ?p1) ?k1 ?k2 ?k3 ?k4 ?k5 ?k6 ?k7 ?k8 ?k9 ?_; (case p1 => assumption); k_extra "my sides"; k_extra "my plain1")
        | (refine' Does.val (kindHn_does ?p1) ?k1 ?k2 ?k3 ?k4 ?k5 ?k6 ?k7 ?k8 ?k9 ?_; (case p1 => assumption); k_extra "my sides"; k_extra "my plain")))
  k_with "call ref" => (
      (with_reducible show wpAny _ _ (call (Value.ref 45) _) _ _ _)
      k_dflt (refine' Does.val1 (kind_does ?p1 ?p2) ?k1 ?k2 ?k3 ?k4 ?k5 ?k6 ?k7 ?k8 ?k9 ?_; k_extra "my sides"; (case p1 => assumption); (case p2 => k_extra "my cell"))
      k_extra "my plain1")
  k_with "call ref" => (
      (with_reducible show wpAny _ _ (call (Value.ref 66) _) _ _ _)
      k_dflt (refine' Does.val (conj_does ?p1 ?p2 ?p3 ?p4 ?p5 ?p6 ?p7) ?k1 ?k2 ?k3 ?k4 ?k5 ?k6 ?k7 ?k8 ?k9 ?_; k_extra "my sides"; (case p1 => assumption); (case p2 => k_mem); (case p3 => assumption); (case p4 => omega); (case p5 => assumption); (case p6 => omega); (case p7 => omega))
      k_extra "my plain")
  k_with "call ref" => (
      (with_reducible show wpAny _ _ (call (Value.ref 73) _) _ _ _)
      k_dflt (refine' Does.val (pict_does ?p1 ?p2 ?p3 ?p4 ?p5 ?p6 ?p7) ?k1 ?k2 ?k3 ?k4 ?k5 ?k6 ?k7 ?k8 ?k9 ?_; k_extra "my sides"; (case p1 => assumption); (case p2 => k_mem); (case p3 => assumption); (case p4 => omega); (case p5 => assumption); (case p6 => omega); (case p7 => omega))
      k_extra "my plain")
  k_with "call ref" => (
      (with_reducible show wpAny _ _ (call (Value.ref 80) _) _ _ _)
      k_dflt (refine' Does.val1 (flags_does ?p1 ?p2 ?p3 ?p4 ?p5 ?p6 ?p7) ?k1 ?k2 ?k3 ?k4 ?k5 ?k6 ?k7 ?k8 ?k9 ?_; k_extra "my sides"; (case p1 => assumption); (case p2 => k_mem); (case p3 => assumption); (case p4 => omega); (case p5 => assumption); (case p6 => omega); (case p7 => omega))
      k_extra "my plain1")
  k_with "call ref" => (
      (with_reducible show wpAny _ _ (call (Value.ref 87) _) _ _ _)
      k_dflt (refine' Does.val (flag_does ?p1 ?p2 ?p3 ?p4 ?p5 ?p6 ?p7) ?k1 ?k2 ?k3 ?k4 ?k5 ?k6 ?k7 ?k8 ?k9 ?_; k_extra "my sides"; (case p1 => assumption); (case p2 => k_mem); (case p3 => assumption); (case p4 => omega); (case p5 => assumption); (case p6 => omega); (case p7 => omega))
      k_extra "my plain")
  k_with "call ref" => (
      (with_reducible show wpAny _ _ (call (Value.ref 95) _) _ _ _)
      k_dflt (refine' Does.val (break_does ?p1 ?p2 ?p3 ?p4 ?p5 ?p6 ?p7) ?k1 ?k2 ?k3 ?k4 ?k5 ?k6 ?k7 ?k8 ?k9 ?_; k_extra "my sides"; (case p1 => assumption); (case p2 => k_mem); (case p3 => assumption); (case p4 => omega); (case p5 => assumption); (case p6 => omega); (case p7 => omega))
      k_extra "my plain")
  k_with "my inc" => first | exact fun _ h => h | exact kst_inSelf | kst_inAny
  k_with "call builtin:len" => (k_here; (with_reducible show wpAny _ _ (call (Value.builtin "len") [Value.ref _]) _ _ _); k_dflt (refine' row_len ?k1 ?k2 ?k3 ?k4 ?_; (case k1 => k_asm); (case k2 => assumption); (case k3 => k_extra "my inc"); (case k4 => omega)); k_whole)
  k_with "subscriptTail Name Name ref int" => k_extra "my row"
  k_with "subscriptTail Name BinOp ref int" => k_extra "my row"
  k_with "my row" => (k_here; (with_reducible show wpAny _ _ (subscriptTail _ _ (Value.ref _) (Value.int _ _)) _ _ _); k_dflt (refine' row_item ?k1 ?k2 ?k3 ?k4 ?k5 ?k6 ?_ ?k8 ?k9; (case k1 => k_asm); (case k2 => assumption); (case k3 => k_extra "my inc"); (case k8 => with_unfolding_all rfl); (case k9 => (intro _; with_unfolding_all rfl)); (case k4 => omega); (case k5 => omega); (case k6 => omega)); k_whole; (intro a9ω t8ω t9ω n9ω hm9ω))
  k_with "call ref" => (
      (with_reducible show wpAny _ _ (call (Value.ref 297) _) _ _ _)
      k_dflt (refine' Does.val1 (past_does ?p1 ?p2 ?p3 ?p4 ?p5) ?k1 ?k2 ?k3 ?k4 ?k5 ?k6 ?k7 ?k8 ?k9 ?_; k_extra "my sides"; (case p1 => first | assumption | exact RowAt.mono (by assumption) (by k_extra "my inc")); (case p2 => omega); (case p4 => k_mem); (case p5 => kde_strs); (case p3 => omega))
      k_extra "my plain1")
  k_with "my rowp" => first | assumption | exact RowAt.mono (by assumption) (by k_extra "my inc")
  k_with "call ref" => (
      (with_reducible show wpAny _ _ (call (Value.ref 304) _) _ _ _)
      k_dflt (refine' Does.val1 (syl_does ?p1 ?p2 ?p3 ?p4) ?k1 ?k2 ?k3 ?k4 ?k5 ?k6 ?k7 ?k8 ?k9 ?_; k_extra "my sides"; (case p1 => k_extra "my rowp"); (case p2 => omega); (case p3 => omega); (case p4 => omega))
      k_extra "my plain1")
  k_with "my plainR" => (
      (intro v9ω news9ω h9ω tk9ω F9ω N9ω r9ω)
      (obtain ⟨e9ω, t9ω, f9ω⟩ := r9ω)
      (subst f9ω)
      (subst e9ω)
      (try dsimp only)
      (try k_fold))
  k_with "call ref" => (
      (with_reducible show wpAny _ _ (call (Value.ref 311) _) _ _ _)
      k_dflt (refine' Does.val1 (pics_does ?p1 ?p2 ?p3 ?p4) ?k1 ?k2 ?k3 ?k4 ?k5 ?k6 ?k7 ?k8 ?k9 ?_; k_extra "my sides"; (case p1 => k_extra "my rowp"); (case p2 => omega); (case p3 => omega); (case p4 => omega))
      k_extra "my plain1")
  k_with "call ref" => (
      (with_reducible show wpAny _ _ (call (Value.ref 318) _) _ _ _)
      k_dflt (refine' Does.val1 (cons_does ?p1 ?p2 ?p3 ?p4) ?k1 ?k2 ?k3 ?k4 ?k5 ?k6 ?k7 ?k8 ?k9 ?_; k_extra "my sides"; (case p1 => k_extra "my rowp"); (case p2 => omega); (case p3 => omega); (case p4 => omega))
      k_extra "my plain1")
  k_with "my len" => ((try simp only [List.length_append, List.length_take, List.length_drop, List.length_cons, List.length_nil]); omega)
  k_with "subscriptTail Name Slice ref ref" => (k_here; (with_reducible show wpAny _ _ (subscriptTail _ (PySem.Expr.Slice _ _ none _) (Value.ref _) (Value.ref _)) _ _ _); k_dflt (first
      | (refine' m_slice_to ?F ?N ?l ?i ?z ?_ ?s ?t; (case F => k_asm); (case N => k_asm); (case l => k_mem); (case i => first | assumption | omega); (case z => k_extra "my len"); (case s => with_unfolding_all rfl); (case t => (intro _; with_unfolding_all rfl)))
      | (refine' m_slice_from ?F ?N ?l ?i ?z ?_ ?s ?t; (case F => k_asm); (case N => k_asm); (case l => k_mem); (case i => first | assumption | decide | omega); (case z => k_extra "my len"); (case s => with_unfolding_all rfl); (case t => (intro _; with_unfolding_all rfl)))); k_whole; intro D'ω h'ω F'ω N'ω l1ω; (try k_lt l1ω); (try k_sweep))
  k_with "binaryOp Add ref ref" => (k_here; k_dflt (refine' m_add ?F ?N ?l ?i ?z ?_; (case F => k_asm); (case N => k_asm); (case l => k_mem); (case i => k_mem); (case z => k_extra "my len")); k_whole; intro D'ω h'ω F'ω N'ω l1ω; (try k_lt l1ω); (try k_sweep))
  k_with "k_all" => first | assumption | exact allLt_ne (by first | assumption | exact And.right (by assumption) | exact And.right (And.right (by assumption)) | exact And.right (And.right (And.right (by assumption))))
  k_with "call ref" => (
      (with_reducible show wpAny _ _ (call (Value.ref 152) _) _ _ _)
      k_dflt (refine' Does.val (like_does ?p1) ?k1 ?k2 ?k3 ?k4 ?k5 ?k6 ?k7 ?k8 ?k9 ?_; (case p1 => assumption); k_extra "my sides")
      k_extra "my plain")
  k_with "subscriptTail Attribute Name Slice ref ref" => (refine kba_turn (value' := PySem.Expr.Name (PySem.Str.ofString "_") ⟨0, 0, 0, 0⟩) (fun _ => rfl) ?_)
  k_with "call ref" => (
      (with_reducible show wpAny _ _ (call (Value.ref 243) _) _ _ _)
      k_dflt (first
        | (refine' Does.val (mapof_old ?p1 ?p2) ?k1 ?k2 ?k3 ?k4 ?k5 ?k6 ?k7 ?k8 ?k9 ?_; (case p1 => assumption); (case p2 => assumption); k_extra "my sides"; k_extra "my plain")
        | (refine' Does.here (mapof_new ?p1 ?p2 ?p3 ?p4) ?k1 ?k2 ?k3 ?k4 ?k5 ?k6 ?k7 ?k8 ?k9 ?_; (case p1 => assumption); (case p2 => assumption); (case p3 => assumption); (case p4 => omega); k_extra "my sides"
           (intro v9ω news9ω h9ω tk9ω F9ω N9ω r9ω)
           (obtain ⟨a9ω, x9ω, e9ω, R9ω, D9ω, f9ω, s9ω⟩ := r9ω)
           (subst e9ω)
           (obtain ⟨g1ω, u1ω, v0ω, g2ω, u2ω, lsω, g3ω, u3ω, lvω, n1ω, n2ω⟩ := RD.inst R9ω)
           (try dsimp only)
           (try k_fold))))
  k_with "call ref" => (
      (with_reducible show wpAny _ _ (call (Value.ref 180) _) _ _ _)
      k_dflt (refine' Does.here (rput_does ?p1 ?p2 ?p3) ?k1 ?k2 ?k3 ?k4 ?k5 ?k6 ?k7 ?k8 ?k9 ?_; (case p1 => assumption); (case p2 => assumption); (case p3 => assumption); k_extra "my sides")
      (intro v9ω news9ω h9ω tk9ω F9ω N9ω r9ω)
      (obtain ⟨e9ω, R9ω, f9ω⟩ := r9ω)
      (subst e9ω)
      (try dsimp only)
      (try k_fold))
  trivial
section
set_option maxRecDepth 100000 in
set_option maxHeartbeats 4000000 in
theorem dput_old {w : World} {dat dd dm df a dx : Addr} {kvs dkvs : List (Str × Value)} {nm : Str} {T : Tab} {c : Int} {t0 t t' : Tok} {v : Value} {d : Option DV} {news : List (Addr × Obj)}
    (D : DataM w news dat dd dm df kvs dkvs) (hv : valueAt kvs nm = some (.ref a)) (R : RD news a dx T) (ok : okD T c d = true) (hd : dvOf v = d) :
    Does w 229 [.ref dat, .str nm t0, .int c t, .int c t', v] 5 70 news (fun r news' => r = .none ∧ RD news' a dx (putD T c d) ∧ Fra news news' dx) := by
  obtain ⟨h1, t1, h2, t2, h3, t3, v3, h4, t4, v4, m1, m2⟩ := D.inst
  obtain ⟨g1, u1, v0, g2, u2, ls, g3, u3, lv, n1, n2⟩ := R.inst
  k_extra "my enter"
  k_steps
  exact Post.next (by k_asm) (by k_asm) ⟨rfl, by assumption, by assumption⟩
set_option maxRecDepth 100000 in
set_option maxHeartbeats 4000000 in
theorem dput_new {w : World} {dat dd dm df : Addr} {kvs dkvs : List (Str × Value)} {nm : Str} {v0 : Value} {c : Int} {t0 t t' : Tok} {v : Value} {d d0 : Option DV} {news : List (Addr × Obj)}
    (D : DataM w news dat dd dm df kvs dkvs) (hv : valueAt kvs nm = none) (h0 : valueAt dkvs nm = some v0) (hz : kvs.length ≤ 100) (ok : okD ([0], [d0]) c d = true) (hd : dvOf v = d) (hd0 : dvOf v0 = d0) :
    Does w 229 [.ref dat, .str nm t0, .int c t, .int c t', v] 5 70 news (fun r news' => ∃ a dx, r = .none ∧ RD news' a dx (putD ([0], [d0]) c d) ∧ DataM w news' dat dd dm df (kvs ++ [(nm, .ref a)]) dkvs ∧ Fra news news' dm ∧ (∀ p ∈ news, p.1 ≠ dx)) := by
  subst hd0
  obtain ⟨h1, t1, h2, t2, h3, t3, v3, h4, t4, v4, m1, m2⟩ := D.inst
  k_extra "my enter"
  k_steps
  (rename DataM _ _ _ _ _ _ (_ ++ _) _ => D1)
  (rename (∀ p, p ∈ news → _) => s1)
  (rename Fra news _ dm => f1)
  (rename Fra _ _ _ => f2)
  (rename RD _ _ _ (putD _ _ _) => R2)
  obtain ⟨om, od, q1, q2⟩ := D.mem
  exact Post.next (by k_asm) (by k_asm) ⟨_, _, rfl, R2, D1.keep f2 (s1 _ m2) (s1 _ q1) (s1 _ q2), fun p hp hx => f2 p (f1 p hp hx) (.inl (s1 p hp)), s1⟩
/-- an iterator's object -/
noncomputable def isIt (o : Obj) : Bool := match o.data with
  | .cell _ => false
  | _ => match o.cls with
    | .type t => ["list_iterator", "tuple_iterator", "range_iterator", "enumerate"].contains t
    | _ => false
/-- the state of the data while it is filled: for each of three names its map, if there is one yet -/
noncomputable def three : List Str := [Str.ofString "gcb", Str.ofString "incb", Str.ofString "ep"]
noncomputable def defD (nm : Str) : Option DV := if nm = Str.ofString "gcb" then some (.s (Str.ofString "Other")) else if nm = Str.ofString "incb" then some (.s (Str.ofString "None")) else some (.b false)
noncomputable def upS (st : Str → Option Tab) (nm : Str) (T : Tab) : Str → Option Tab := fun x => if x = nm then some T else st x
noncomputable def DSt (w : World) (news : List (Addr × Obj)) (dat : Addr) (n : Nat) (st : Str → Option Tab) (K : List (Addr × Obj)) : Prop :=
  ∃ dd dm df kvs dkvs, ∃ ad dx : Str → Addr, DataM w news dat dd dm df kvs dkvs ∧ kvs.length ≤ n ∧
    (∀ x ∈ three, ∃ v0, valueAt dkvs x = some v0 ∧ dvOf v0 = defD x) ∧
    (∀ x ∈ three, st x = none → valueAt kvs x = none) ∧
    (∀ x ∈ three, ∀ T, st x = some T → valueAt kvs x = some (.ref (ad x)) ∧ RD news (ad x) (dx x) T ∧ dd ≠ dx x ∧ dm ≠ dx x ∧ df ≠ dx x) ∧
    (∀ x ∈ three, ∀ y ∈ three, x ≠ y → ∀ T U, st x = some T → st y = some U → dx x ≠ dx y) ∧
    (∀ p ∈ K, p ∈ news ∧ isIt p.2 = false ∧ (p.1 ≠ dm ∧ p.1 ≠ dd) ∧ ∀ x ∈ three, ∀ T, st x = some T → p.1 ≠ dx x)
theorem valueAt_app {kvs : List (Str × Value)} {k y : Str} {v : Value} (h : y ≠ k) : valueAt (kvs ++ [(k, v)]) y = valueAt kvs y := by
  unfold valueAt
  rw [List.find?_append]
  have : List.find? (fun kv : Str × Value => decide (kv.1 = y)) [(k, v)] = none := by simp [Ne.symm h]
  rw [this, Option.or_none]
theorem valueAt_app_new {kvs : List (Str × Value)} {k : Str} {v : Value} (h : valueAt kvs k = none) : valueAt (kvs ++ [(k, v)]) k = some v := by
  rw [← stored_new h]; exact kda_stored
theorem dput_does {w : World} {dat : Addr} {nm : Str} {n : Nat} {st : Str → Option Tab} {c : Int} {t0 t t' : Tok} {v : Value} {d : Option DV} {news K : List (Addr × Obj)} (S : DSt w news dat n st K) (hn : n ≤ 99) (hm : nm ∈ three)
    (ok : okD ((st nm).getD ([0], [defD nm])) c d = true) (hd : dvOf v = d) :
    Does w 229 [.ref dat, .str nm t0, .int c t, .int c t', v] 5 70 news (fun r news' => r = .none ∧ DSt w news' dat (n + 1) (upS st nm (putD ((st nm).getD ([0], [defD nm])) c d)) K ∧ ∀ p ∈ news, p.2.cls ≠ .type "dict" → p ∈ news') := by
  obtain ⟨dd, dm, df, kvs, dkvs, ad, dx, D, s1, s2, s3, s4, s5, s6⟩ := S
  cases hs : st nm with
  | none =>
    rw [hs] at ok
    obtain ⟨v0, e0, e1⟩ := s2 nm hm
    refine Does.weak (dput_new D (s3 nm hm hs) e0 (by omega) ok hd e1) ?_
    rintro r news' ⟨a, x9, rfl, R, D', f, fr⟩
    obtain ⟨om, od, q1, q2⟩ := D.mem
    obtain ⟨h1, t1, h2, t2, h3, t3, v3, h4, t4, v4, m1, m2⟩ := D.inst
    have old : ∀ x ∈ three, ∀ T, st x = some T → dx x ≠ x9 := fun x hx T hT => by
      obtain ⟨_, R9, _⟩ := s4 x hx T hT
      obtain ⟨g1, u1, w0, g2, u2, ls, g3, u3, lv, n1, n2⟩ := R9.inst
      exact fr _ n2
    refine ⟨rfl, ⟨dd, dm, df, _, dkvs, fun y => if y = nm then a else ad y, fun y => if y = nm then x9 else dx y, D', ?_, s2, ?_, ?_, ?_, ?_⟩, fun p hp hc => f p hp (.inr hc)⟩
    · simp only [List.length_append, List.length_cons, List.length_nil]; omega
    · intro x hx hx'
      by_cases e : x = nm
      · subst e; simp [upS] at hx'
      · simp only [upS, if_neg e] at hx'
        rw [valueAt_app e]; exact s3 x hx hx'
    · intro x hx T hT
      by_cases e : x = nm
      · subst e
        simp only [upS, if_true, Option.some.injEq] at hT
        subst hT
        simp only [if_true]
        exact ⟨valueAt_app_new (s3 x hx hs), R, fr _ m2, fr _ q1, fr _ q2⟩
      · simp only [upS, if_neg e] at hT
        simp only [if_neg e]
        obtain ⟨z1, z2, z3, z4, z5⟩ := s4 x hx T hT
        exact ⟨by rw [valueAt_app e]; exact z1, z2.keep f (Ne.symm z4), z3, z4, z5⟩
    · intro x hx y hy hxy T U hT hU
      by_cases e : x = nm
      · have e' : y ≠ nm := fun q => hxy (e.trans q.symm)
        simp only [upS, if_neg e'] at hU
        simp only [if_pos e, if_neg e']
        exact Ne.symm (old y hy U hU)
      · simp only [upS, if_neg e] at hT
        by_cases e' : y = nm
        · simp only [if_neg e, if_pos e']
          exact old x hx T hT
        · simp only [upS, if_neg e'] at hU
          simp only [if_neg e, if_neg e']
          exact s5 x hx y hy hxy T U hT hU
    · intro p hp
      obtain ⟨k1, k2, k3, k4⟩ := s6 p hp
      refine ⟨f p k1 (.inl k3.1), k2, k3, fun x hx T hT => ?_⟩
      by_cases e : x = nm
      · simp only [if_pos e]; exact fr p k1
      · simp only [upS, if_neg e] at hT
        simp only [if_neg e]
        exact k4 x hx T hT
  | some T0 =>
    rw [hs] at ok
    obtain ⟨y1, y2, y3, y4, y5⟩ := s4 nm hm T0 hs
    refine Does.weak (dput_old D y1 y2 ok hd) ?_
    rintro r news' ⟨rfl, R, f⟩
    refine ⟨rfl, ⟨dd, dm, df, kvs, dkvs, ad, dx, D.keep f y3 y4 y5, by omega, s2, ?_, ?_, ?_, ?_⟩, fun p hp hc => f p hp (.inr hc)⟩
    · intro x hx hx'
      by_cases e : x = nm
      · subst e; simp [upS] at hx'
      · simp only [upS, if_neg e] at hx'
        exact s3 x hx hx'
    · intro x hx T hT
      by_cases e : x = nm
      · subst e
        simp only [upS, if_true, Option.some.injEq] at hT
        subst hT
        exact ⟨y1, R, y3, y4, y5⟩
      · simp only [upS, if_neg e] at hT
        obtain ⟨z1, z2, z3, z4, z5⟩ := s4 x hx T hT
        exact ⟨z1, z2.keep f (s5 x hx nm hm e T T0 hT hs), z3, z4, z5⟩
    · intro x hx y hy hxy T U hT hU
      have ex : ∃ T', st x = some T' := by
        by_cases e : x = nm
        · exact ⟨T0, by rw [e]; exact hs⟩
        · simp only [upS, if_neg e] at hT; exact ⟨T, hT⟩
      have ey : ∃ T', st y = some T' := by
        by_cases e : y = nm
        · exact ⟨T0, by rw [e]; exact hs⟩
        · simp only [upS, if_neg e] at hU; exact ⟨U, hU⟩
      obtain ⟨T', hT'⟩ := ex
      obtain ⟨U', hU'⟩ := ey
      exact s5 x hx y hy hxy T' U' hT' hU'
    · intro p hp
      obtain ⟨k1, k2, k3, k4⟩ := s6 p hp
      refine ⟨f p k1 (.inl (k4 nm hm T0 hs)), k2, k3, fun x hx T hT => ?_⟩
      by_cases e : x = nm
      · rw [e]; exact k4 nm hm T0 hs
      · simp only [upS, if_neg e] at hT
        exact k4 x hx T hT


end
section
/-- the end of a for's turn: what may turn is told by a look at the object -/
noncomputable def MFor (h₀ : Heap) (L : Addr) (Mut : Obj → Bool) (Jn : (Str → Option Value) → List (Addr × Obj) → Prop) (nw : List (Addr × Obj)) (s₁ : Shared) (Q : Flow → Shared → Prop) (f : Flow) (s₂ : Shared) : Prop :=
  match f with
  | .ret v => Q (.ret v) s₂
  | .brk => Q .next s₂
  | _ => ∃ h' tk m' nw', s₂ = { s₁ with heap := h', toks := tk } ∧ Fr h₀ L h' m' ∧ News h₀ L h' nw' ∧ (∀ p ∈ nw, Mut p.2 = false → p ∈ nw') ∧ Jn m' nw'
theorem MFor.intro {h₀ : Heap} {L : Addr} {Mut : Obj → Bool} {Jn : (Str → Option Value) → List (Addr × Obj) → Prop} {nw nw' : List (Addr × Obj)} {s₁ : Shared} {Q : Flow → Shared → Prop} {h' : Heap} {tk : Nat} {m' : Str → Option Value}
    (F : Fr h₀ L h' m') (N : News h₀ L h' nw') (hM : ∀ p ∈ nw, Mut p.2 = false → p ∈ nw') (hj : Jn m' nw') : MFor h₀ L Mut Jn nw s₁ Q .next { s₁ with heap := h', toks := tk } := ⟨h', tk, m', nw', rfl, F, N, hM, hj⟩
noncomputable def Stable (J : Nat → (Str → Option Value) → List (Addr × Obj) → Prop) : Prop := ∀ i m n n', (∀ p ∈ n, isIt p.2 = false → p ∈ n') → J i m n → J i m n'
section
variable {prog : Program} {w : World} {A : Around} {E : Value → Shared → Prop} {s : Shared} {env : Env} {h₀ : Heap} {target : Expr} {body : List Stmt} {Q : Flow → Shared → Prop}
theorem m_turns {I : Addr} {fp wr : List Addr} {n : Nat} {P Md : Nat → Value → Heap → Prop} {St : Nat → Heap → Prop} {m₀ : Str → Option Value} {news : List (Addr × Obj)} (Mut : Obj → Bool) (W : KTurns prog w A target I fp wr n P Md St)
    (J : Nat → (Str → Option Value) → List (Addr × Obj) → Prop) (hJ : Stable J) (hIt : ∀ i h, St i h → ∀ b ∈ wr, ∃ o, h.get? b = some o ∧ isIt o = true) (hOw : ∀ i h, St i h → ∀ b ∈ fp, ∀ o, h.get? b = some o → Mut o = false)
    (hLf : env.locals ∉ fp) (hwr : ∀ b ∈ wr, h₀.get? b = none) (hnw : ∀ p ∈ news, p.1 ∉ wr) (hst : St 0 s.heap) (F : Fr h₀ env.locals s.heap m₀) (N : News h₀ env.locals s.heap news) (h0 : J 0 m₀ news)
    (step : ∀ i v m₁ nw h₁ tk₁, i < n → P i v h₁ → J i m₁ nw → Fr h₀ env.locals h₁ m₁ → News h₀ env.locals h₁ nw →
      wpAny (model prog w) A (assign target env v) (fun _ s₃ => wpAny (model prog w) A (execs body env) (MFor h₀ env.locals Mut (J (i + 1)) nw { s with heap := h₁, toks := tk₁ } Q) E s₃) E { s with heap := h₁, toks := tk₁ })
    (done : ∀ h' tk m' news', Fr h₀ env.locals h' m' → News h₀ env.locals h' news' → J n m' news' → Q .next { s with heap := h', toks := tk }) :
    TurnsAt prog w A h₀ env target body Q E (.ref I) s := by
  refine ⟨I, fp, wr, n, P, Md, St, m₀, news, J, rfl, W, hLf, hwr, hnw, hst, F, N, h0, ?_, fun h' tk m' news' F' N' _ hj => done h' tk m' news' F' N' hj⟩
  intro i v m₁ news₁ h₁ tk₁ own hi hp hj hnw1 hof hog hfo hst1 F₁ N₁
  refine wpAny_mono (step i v m₁ (own ++ news₁) h₁ tk₁ hi hp (hJ i m₁ news₁ _ (fun p hp _ => List.mem_append_right _ hp) hj) F₁ N₁) (fun _ s₃ q => wpAny_mono q (fun f s₄ z => ?_) fun _ _ x => x) fun _ _ x => x
  have fin : (∃ h' tk m' nw', s₄ = { ({ s with heap := h₁, toks := tk₁ } : Shared) with heap := h', toks := tk } ∧ Fr h₀ env.locals h' m' ∧ News h₀ env.locals h' nw' ∧ (∀ p ∈ own ++ news₁, Mut p.2 = false → p ∈ nw') ∧ J (i + 1) m' nw') →
      LoopStepU h₀ env.locals wr own (J (i + 1)) { s with heap := h₁, toks := tk₁ } .next s₄ := by
    rintro ⟨h', tk, m', nw', rfl, F', N', hM, hj'⟩
    have ownIn : ∀ p ∈ own, p ∈ nw' := fun p hp => hM p (List.mem_append_left _ hp) (hOw _ _ hst1 p.1 (hof p hp) p.2 (hog p hp))
    refine ⟨rfl, h', tk, m', nw'.filter fun p => decide (p.1 ∉ wr), rfl, F', fun p hp => ?_, fun p hp => by simpa using (List.mem_filter.mp hp).2, hJ _ _ nw' _ (fun p hp hit => List.mem_filter.mpr ⟨hp, ?_⟩) hj'⟩
    · rcases List.mem_append.mp hp with hp | hp
      · exact N' p (ownIn p hp)
      · exact N' p (List.mem_filter.mp hp).1
    · refine decide_eq_true fun hw => ?_
      obtain ⟨o, ho, hio⟩ := hIt _ _ hst1 p.1 hw
      have hmem := ownIn _ (hfo p.1 (W.sub _ hw) (hwr _ hw) o ho)
      have := News.one N' hp hmem rfl
      rw [this] at hit
      rw [hit] at hio
      cases hio
  cases f with
  | ret v => exact z
  | brk => exact z
  | next => exact fin z
  | cont => exact fin z
theorem m_forTup {ax : Addr} {vs : List Value} {k : Nat} {m₀ : Str → Option Value} {news : List (Addr × Obj)} {x : Str} {px : Pos} (Mut : Obj → Bool) (hh : A.handled = none)
    (J : Nat → (Str → Option Value) → List (Addr × Obj) → Prop) (hJ : Stable J) (hMi : ∀ o : Obj, o.cls = .type "tuple_iterator" → Mut o = false) (hMt : ∀ o : Obj, o.cls = .type "tuple" → Mut o = false)
    (F : Fr h₀ env.locals s.heap m₀) (N : News h₀ env.locals s.heap news) (hm : (ax, ({ cls := .type "tuple", data := .seq (List.toArray vs) k } : Obj)) ∈ news) (h0 : J 0 m₀ news)
    (step : ∀ i v m₁ nw h₁ tk₁, i < vs.length → vs[i]? = some v → J i m₁ nw → Fr h₀ env.locals h₁ m₁ → News h₀ env.locals h₁ nw →
      wpAny (model prog w) A (assign (.Name x px) env v) (fun _ s₃ => wpAny (model prog w) A (execs body env) (MFor h₀ env.locals Mut (J (i + 1)) nw { s with heap := h₁, toks := tk₁ } Q) E s₃) E { s with heap := h₁, toks := tk₁ })
    (done : ∀ h' tk m' news', Fr h₀ env.locals h' m' → News h₀ env.locals h' news' → J vs.length m' news' → Q .next { s with heap := h', toks := tk }) :
    wpAny (model prog w) A (pyIter (.ref ax)) (fun it s₂ => TurnsAt prog w A h₀ env (.Name x px) body Q E it s₂) E s := by
  have hax := N _ hm
  have hl : s.heap.IsTuple ax vs.toArray := ⟨_, hax.1, rfl, k, rfl⟩
  have hlt : ax < s.heap.objs.size := Heap.lt_size hax.1
  have hne : ax ≠ s.heap.objs.size := Nat.ne_of_lt hlt
  have hLs : env.locals < s.heap.objs.size := F.ns.lt
  refine wpAny_pyIter_tuple hl ?_
  refine m_turns (s := { s with heap := s.heap.push { cls := .type "tuple_iterator", data := .fields #[.ref ax, .int 0 0] } }) Mut (KTurns.ofWalks (Walks.tuple hh s.heap.objs.size ax hne vs.toArray) fun i v s Q E st q => letGo_tupleiter st.1 q) J hJ ?_ ?_ ?_ ?_ ?_ ?_ (F.push _) (fun p hp => ⟨Heap.get?_push_of_some _ (N p hp).1, (N p hp).2⟩) h0 ?_ ?_
  · rintro i h ⟨⟨o, ho, hc, hd⟩, _⟩ b hb
    rw [List.mem_singleton.mp hb]
    exact ⟨o, ho, by unfold isIt; rw [hc, hd]; rfl⟩
  · rintro i h ⟨⟨o, ho, hc, _⟩, ⟨o', ho', hc', _⟩⟩ b hb ob hob
    rcases List.mem_cons.mp hb with e | hb
    · rw [e, ho] at hob; cases hob; exact hMi _ hc
    · rw [List.mem_singleton.mp hb, ho'] at hob; cases hob; exact hMt _ hc'
  · intro hI
    rcases List.mem_cons.mp hI with e | hI
    · exact absurd F.ns.lt (e ▸ Nat.lt_irrefl _)
    · exact hax.2.1 (List.mem_singleton.mp hI).symm
  · intro b hb
    rw [List.mem_singleton.mp hb]
    exact next_is_new F
  · intro p hp hI
    exact absurd (Heap.lt_size (N p hp).1) ((List.mem_singleton.mp hI) ▸ Nat.lt_irrefl _)
  · exact ⟨⟨_, Heap.get?_push_size _ rfl, rfl, rfl⟩, hl.at fun o e => Heap.get?_push_of_some _ e⟩
  · intro i v m₁ nw h₁ tk₁ hi hp hj F₁ N₁
    exact step i v m₁ nw h₁ tk₁ (by simpa using hi) (by simpa using hp) hj F₁ N₁
  · intro h' tk m' news' F' N' hj
    exact done h' tk m' news' F' N' (by simpa using hj)
theorem m_forRange {r : Addr} {a₀ b₀ : Int} {t₀ u₀ v₀ : Tok} {n : Nat} {m₀ : Str → Option Value} {news : List (Addr × Obj)} {x : Str} {px : Pos} (Mut : Obj → Bool) (hh : A.handled = none)
    (J : Nat → (Str → Option Value) → List (Addr × Obj) → Prop) (hJ : Stable J) (hMi : ∀ o : Obj, o.cls = .type "range_iterator" → Mut o = false)
    (hr : IsRange s.heap r a₀ b₀ 1 t₀ u₀ v₀) (hsmall : Builtin.Range.small a₀ b₀ 1 = true) (hn : Builtin.Range.rangeSize a₀ b₀ 1 = (n : Int))
    (F : Fr h₀ env.locals s.heap m₀) (N : News h₀ env.locals s.heap news) (h0 : J 0 m₀ news)
    (step : ∀ (i : Nat) t m₁ nw h₁ tk₁, i < n → J i m₁ nw → Fr h₀ env.locals h₁ m₁ → News h₀ env.locals h₁ nw →
      wpAny (model prog w) A (assign (.Name x px) env (.int (a₀ + i) t)) (fun _ s₃ => wpAny (model prog w) A (execs body env) (MFor h₀ env.locals Mut (J (i + 1)) nw { s with heap := h₁, toks := tk₁ } Q) E s₃) E { s with heap := h₁, toks := tk₁ })
    (done : ∀ h' tk m' news', Fr h₀ env.locals h' m' → News h₀ env.locals h' news' → J n m' news' → Q .next { s with heap := h', toks := tk }) :
    wpAny (model prog w) A (pyIter (.ref r)) (fun it s₂ => TurnsAt prog w A h₀ env (.Name x px) body Q E it s₂) E s := by
  refine wpAny_pyIter_range hr hsmall ?_
  refine m_turns (s := { s with heap := s.heap.push { cls := .type "range_iterator", data := .fields #[rawInt a₀, rawInt (Builtin.Range.rangeSize a₀ b₀ 1), rawInt 1] } }) Mut (KTurns.ofWalks (Walks.range hh s.heap.objs.size a₀ 1 n) fun i v s Q E st q => wpAny_pure q) J hJ ?_ ?_ ?_ ?_ ?_ ?_ (F.push _) (fun p hp => ⟨Heap.get?_push_of_some _ (N p hp).1, (N p hp).2⟩) h0 ?_ ?_
  · intro i h st b hb
    rw [List.mem_singleton.mp hb]
    exact ⟨_, st, rfl⟩
  · intro i h st b hb ob hob
    rw [List.mem_singleton.mp hb] at hob
    have st' : h.get? s.heap.objs.size = some _ := st
    rw [st'] at hob
    cases hob
    exact hMi _ rfl
  · intro hI
    exact absurd F.ns.lt ((List.mem_singleton.mp hI) ▸ Nat.lt_irrefl _)
  · intro b hb
    rw [List.mem_singleton.mp hb]
    exact next_is_new F
  · intro p hp hI
    exact absurd (Heap.lt_size (N p hp).1) ((List.mem_singleton.mp hI) ▸ Nat.lt_irrefl _)
  · show IsRangeIter _ _ _ _ _
    rw [hn]
    simpa using Heap.get?_push_size _ rfl
  · rintro i v m₁ nw h₁ tk₁ hi ⟨t, rfl⟩ hj F₁ N₁
    have e1 : a₀ + (i : Int) * 1 = a₀ + (i : Int) := by omega
    rw [e1]
    exact step i t m₁ nw h₁ tk₁ hi hj F₁ N₁
  · intro h' tk m' news' F' N' hj
    exact done h' tk m' news' F' N' hj
theorem m_forEnum {elts : List Expr} {kx : Nat} {pos : Pos} {l : Addr} {vs : List Value} {k : Nat} {m₀ : Str → Option Value} {news : List (Addr × Obj)} (Mut : Obj → Bool) (hh : A.handled = none)
    (J : Nat → (Str → Option Value) → List (Addr × Obj) → Prop) (hJ : Stable J) (hMi : ∀ o : Obj, o.cls = .type "list_iterator" → Mut o = false) (hMe : ∀ o : Obj, o.cls = .type "enumerate" → Mut o = false) (hMt : ∀ o : Obj, o.cls = .type "list" → Mut o = false)
    (F : Fr h₀ env.locals s.heap m₀) (N : News h₀ env.locals s.heap news) (hm : (l, listOf (List.toArray vs) k) ∈ news) (h0 : J 0 m₀ news)
    (step : ∀ (i : Nat) T t v m₁ nw h₁ tk₁, i < vs.length → vs[i]? = some v → h₁.IsTuple T #[.int i t, v] → J i m₁ nw → Fr h₀ env.locals h₁ m₁ → News h₀ env.locals h₁ nw →
      wpAny (model prog w) A (assign (.Tuple elts kx pos) env (.ref T)) (fun _ s₃ => wpAny (model prog w) A (execs body env) (MFor h₀ env.locals Mut (J (i + 1)) nw { s with heap := h₁, toks := tk₁ } Q) E s₃) E { s with heap := h₁, toks := tk₁ })
    (done : ∀ h' tk m' news', Fr h₀ env.locals h' m' → News h₀ env.locals h' news' → J vs.length m' news' → Q .next { s with heap := h', toks := tk }) :
    wpAny (model prog w) A (call (.type "enumerate") [.ref l]) (fun xv s₁ => wpAny (model prog w) A (pyIter xv) (fun it s₂ => TurnsAt prog w A h₀ env (.Tuple elts kx pos) body Q E it s₂) E s₁) E s := by
  have hax := N _ hm
  have hl : s.heap.IsList l vs.toArray := ⟨_, hax.1, rfl, k, rfl⟩
  have hlt : l < s.heap.objs.size := Heap.lt_size hax.1
  have hLs : env.locals < s.heap.objs.size := F.ns.lt
  refine call_enumerate_list hl fun h' hE hI hsz hk => ?_
  refine wpAny_pyIter_enum hE ?_
  refine m_turns (s := { s with heap := h' }) Mut (KTurns.ofWalksU (WalksT.enumerate hh (s.heap.objs.size + 1) s.heap.objs.size l (Nat.succ_ne_self _) (ktu_ne 1 hlt) (Nat.ne_of_lt hlt) vs.toArray).toU) J hJ ?_ ?_ ?_ ?_ ?_ ?_ (F.keeps hk) (N.grown hk) h0 ?_ ?_
  · rintro i h ⟨⟨old, he⟩, ⟨oi, hoi, hic, hid⟩, _⟩ b hb
    have he' : ∃ oe : Obj, h.get? (s.heap.objs.size + 1) = some oe ∧ isIt oe = true := ⟨_, he, rfl⟩
    obtain ⟨oe, g1, g2⟩ := he'
    rcases List.mem_cons.mp hb with e | hb
    · rw [e]; exact ⟨oe, g1, g2⟩
    · rw [List.mem_singleton.mp hb]; exact ⟨oi, hoi, by unfold isIt; rw [hic, hid]; rfl⟩
  · rintro i h ⟨⟨old, he⟩, ⟨oi, hoi, hic, _⟩, ⟨ol, hol, hlc, _⟩⟩ b hb ob hob
    have he' : ∃ oe : Obj, h.get? (s.heap.objs.size + 1) = some oe ∧ oe.cls = .type "enumerate" := ⟨_, he, rfl⟩
    obtain ⟨oe, g1, g2⟩ := he'
    have hb' : b = s.heap.objs.size + 1 ∨ b = s.heap.objs.size ∨ b = l := by simpa using hb
    rcases hb' with rfl | rfl | rfl
    · rw [g1] at hob; cases hob; exact hMe _ g2
    · rw [hoi] at hob; cases hob; exact hMi _ hic
    · rw [hol] at hob; cases hob; exact hMt _ hlc
  · intro hI'
    have hb' : env.locals = s.heap.objs.size + 1 ∨ env.locals = s.heap.objs.size ∨ env.locals = l := by simpa using hI'
    rcases hb' with e | e | e
    · exact ktu_ne 1 hLs e
    · exact Nat.ne_of_lt hLs e
    · exact hax.2.1 e.symm
  · intro b hb
    have hb' : b = s.heap.objs.size + 1 ∨ b = s.heap.objs.size := by simpa using hb
    rcases hb' with rfl | rfl
    · exact ktu_new F (Nat.le_add_right _ _)
    · exact ktu_new F (Nat.le_refl _)
  · intro p hp hI'
    have hb' : p.1 = s.heap.objs.size + 1 ∨ p.1 = s.heap.objs.size := by simpa using hI'
    have hlp := Heap.lt_size (N p hp).1
    rcases hb' with e | e
    · exact ktu_ne 1 hlp e
    · exact Nat.ne_of_lt hlp e
  · exact ⟨⟨.none, hE⟩, hI, hl.at fun o e => hk l o e⟩
  · rintro i v m₁ nw h₁ tk₁ hi ⟨T, vals, rfl, ⟨t, x, hx, rfl⟩, hT⟩ hj F₁ N₁
    exact step i T t x m₁ nw h₁ tk₁ (by simpa using hi) (by simpa using hx) hT hj F₁ N₁
  · intro h' tk m' news' F' N' hj
    exact done h' tk m' news' F' N' (by simpa using hj)
end


end
section
theorem stored_le {kvs : List (Str × Value)} {k : Str} {v : Value} {n : Nat} (h : kvs.length ≤ n) : (stored kvs k v).length ≤ n + 1 := by
  unfold stored
  split
  · rw [List.length_map]; omega
  · rw [List.length_append]; simp; omega
theorem valueAt_stored {kvs : List (Str × Value)} {k y : Str} {v : Value} : valueAt (stored kvs k v) y = if y = k then some v else valueAt kvs y := by
  by_cases e : y = k
  · subst e
    rw [if_pos rfl]
    exact kda_stored
  · rw [if_neg e]
    unfold stored
    split
    · unfold valueAt
      induction kvs with
      | nil => rfl
      | cons p r ih =>
        by_cases hp : p.1 = k
        · have h1 : ¬ p.1 = y := fun q => e (q.symm.trans hp)
          rw [List.map_cons, if_pos hp, List.find?_cons, List.find?_cons, decide_eq_false h1]
          by_cases ha : r.any (fun kv => kv.1 = k) = true
          · exact ih ha
          · have : r.map (fun kv => if kv.1 = k then (kv.1, v) else kv) = r := by
              rw [List.map_congr_left (g := id) (fun q hq => ?_), List.map_id]
              simp only [List.any_eq_true, decide_eq_true_eq, not_exists, not_and] at ha
              rw [if_neg (ha q hq)]; rfl
            rw [this]
        · rename_i hany
          rw [List.map_cons, if_neg hp, List.find?_cons, List.find?_cons]
          simp only [List.any_cons, hp, decide_false, Bool.false_or] at hany
          cases decide (p.1 = y) with
          | true => rfl
          | false => exact ih hany
    · exact valueAt_app e
noncomputable def isDict (o : Obj) : Bool := o.cls == .type "dict"
/-- a dict that is filled: how many entries at most, and for which names the value is the data's default -/
noncomputable def DefI (w : World) (n : List (Addr × Obj)) (d : Addr) (k : Nat) (S : Str → Prop) : Prop :=
  ∃ o kvs, (d, o) ∈ n ∧ o.IsDictOf (SK w) kvs ∧ kvs.length ≤ k ∧ ∀ x ∈ three, S x → ∃ v0, valueAt kvs x = some v0 ∧ dvOf v0 = defD x
theorem dict_notIt {o : Obj} (h : o.cls = .type "dict") : isIt o = false := by unfold isIt; rw [h]; split <;> rfl
theorem DefI.sub {w : World} {n n' : List (Addr × Obj)} {d : Addr} {k : Nat} {S : Str → Prop} (D : DefI w n d k S) (h : ∀ p ∈ n, isIt p.2 = false → p ∈ n') : DefI w n' d k S :=
  let ⟨o, kvs, a, b, c⟩ := D; ⟨o, kvs, h _ a (dict_notIt (IsDictOf.clsIs b)), b, c⟩
theorem DefI.weak {w : World} {n : List (Addr × Obj)} {d : Addr} {k k' : Nat} {S S' : Str → Prop} (D : DefI w n d k S) (hk : k ≤ k') (h : ∀ x, S' x → S x) : DefI w n d k' S' :=
  let ⟨o, kvs, a, b, c, e⟩ := D; ⟨o, kvs, a, b, Nat.le_trans c hk, fun x hx hs => e x hx (h x hs)⟩
section
variable {w : World} {A : Around} {E : Value → Shared → Prop} {s : Shared} {h₀ : Heap} {L d : Addr} {m : Str → Option Value} {news : List (Addr × Obj)}
/-- a store into a dict of an open ledger -/
theorem m_setO {o : Obj} {kvs : List (Str × Value)} {k : Str} {t : Tok} {v : Value} {Q : Unit → Shared → Prop} (F : Fr h₀ L s.heap m) (N : News h₀ L s.heap news) (hm : (d, o) ∈ news) (hd : o.IsDictOf (SK w) kvs) (hz : kvs.length ≤ 1000)
    (h : ∀ h' news' o', Fr h₀ L h' m → News h₀ L h' news' → (d, o') ∈ news' → o'.IsDictOf (SK w) (stored kvs k v) → Fra news news' d → Q () { s with heap := h', toks := s.toks + 1 }) :
    wpAny (model Pg w) A (setItem (.ref d) (.str k t) v) Q E s := by
  have N' : News h₀ L s.heap ((d, o) :: news.filter fun p => p.1 != d) := fun p hp => by
    rcases List.mem_cons.mp hp with rfl | hp
    · exact N _ hm
    · exact N _ (List.mem_filter.mp hp).1
  refine kda_set (knd := SK w) F N' (UpdF.head fun p hp => by simpa using (List.mem_filter.mp hp).2) hd (strKind_is _ _ _ _) (by rw [sizeLine_eq]; omega) fun h' o' F' N'' hd' => ?_
  refine h h' _ o' F' N'' (.head _) hd' fun p hp hx => ?_
  by_cases e : p.1 = d
  · rcases hx with hx | hx
    · exact absurd e hx
    · have := News.one N hp hm e
      rw [this, IsDictOf.clsIs hd] at hx
      exact absurd rfl hx
  · exact List.mem_cons_of_mem _ (List.mem_filter.mpr ⟨hp, by simpa using e⟩)
theorem defs_set {nm : Str} {t : Tok} {v : Value} {k : Nat} {S : Str → Prop} {Q : Unit → Shared → Prop} (F : Fr h₀ L s.heap m) (N : News h₀ L s.heap news) (D : DefI w news d k S) (hz : k ≤ 1000) (hok : nm ∈ three → dvOf v = defD nm)
    (h : ∀ h' news', Fr h₀ L h' m → News h₀ L h' news' → DefI w news' d (k + 1) (fun x => x = nm ∨ S x) → Fra news news' d → Q () { s with heap := h', toks := s.toks + 1 }) :
    wpAny (model Pg w) A (setItem (.ref d) (.str nm t) v) Q E s := by
  obtain ⟨o, kvs, m1, m2, m3, m4⟩ := D
  refine m_setO F N m1 m2 (by omega) fun h' news' o' F' N' hm' hd' f => h h' news' F' N' ⟨o', _, hm', hd', stored_le m3, fun x hx hs => ?_⟩ f
  rw [valueAt_stored]
  by_cases e : x = nm
  · subst e; exact ⟨v, by rw [if_pos rfl], hok hx⟩
  · rw [if_neg e]; exact m4 x hx (hs.resolve_left e)
end
theorem ok_of {nms : List Str} {nm : Str} {D0 : Option DV} (hn : nm ∈ nms) (h : ∀ x ∈ nms, x ∈ three → D0 = defD x) : nm ∈ three → D0 = defD nm := fun hx => h nm hn hx
theorem strs_at {vs : List Value} {ys : List Str} (h : StrsAre vs ys) : ∀ {i : Nat} {v : Value}, vs[i]? = some v → ∃ y t, v = .str y t ∧ ys[i]? = some y := by
  induction h with
  | nil => intro i v e; simp at e
  | cons y t _ ih =>
    intro i v e
    cases i with
    | zero => simp at e; exact ⟨y, t, e.symm, by simp⟩
    | succ i => simp at e; obtain ⟨y', t', a, b⟩ := ih e; exact ⟨y', t', a, by simpa using b⟩
theorem strs_len {vs : List Value} {ys : List Str} (h : StrsAre vs ys) : vs.length = ys.length := by
  induction h with
  | nil => rfl
  | cons y t _ ih => simp [ih]
section
variable {w : World} {A : Around} {E : Value → Shared → Prop} {s : Shared} {env : Env} {h₀ : Heap} {body : List Stmt} {Q : Flow → Shared → Prop}
theorem fr_B {L : Addr} {h : Heap} {m : Str → Option Value} {x : Str} {v : Value} (F : Fr h₀ L h m) (e : m x = some v) : Fr h₀ L h (kstB m [(x, v)]) := by
  have : kstB m [(x, v)] = m := funext fun z => kstB_eq (by intro p hp; rw [List.mem_singleton.mp hp]; exact e) fun _ => rfl
  rw [this]; exact F
/-- a loop over names that fills a dict -/
theorem defs_loop {ax d : Addr} {vs : List Value} {nms : List Str} {k kk : Nat} {S : Str → Prop} {m₀ : Str → Option Value} {news : List (Addr × Obj)} {x : Str} {px : Pos} (hh : A.handled = none)
    (F : Fr h₀ env.locals s.heap m₀) (N : News h₀ env.locals s.heap news) (hm : (ax, ({ cls := .type "tuple", data := .seq (List.toArray vs) k } : Obj)) ∈ news) (hs : StrsAre vs nms) (D : DefI w news d kk S) (hf : m₀ (Str.ofString "found") = some (.ref d)) (hz : kk + nms.length ≤ 900)
    (step : ∀ (i : Nat) nm t m₁ nw h₁ tk₁, nm ∈ nms → kk + i ≤ 900 → DefI w nw d (kk + i) (fun x => x ∈ nms.take i ∨ S x) → Fr h₀ env.locals h₁ (kstB m₁ [(Str.ofString "found", .ref d)]) → News h₀ env.locals h₁ nw →
      wpAny (model Pg w) A (assign (.Name x px) env (.str nm t)) (fun _ s₃ => wpAny (model Pg w) A (execs body env) (MFor h₀ env.locals isDict (fun m' n' => m' (Str.ofString "found") = some (.ref d) ∧ DefI w n' d (kk + i + 1) (fun x => x = nm ∨ x ∈ nms.take i ∨ S x) ∧ Fra nw n' d) nw { s with heap := h₁, toks := tk₁ } Q) E s₃) E { s with heap := h₁, toks := tk₁ })
    (done : ∀ h' tk u news', Fr h₀ env.locals h' (kstB u [(Str.ofString "found", .ref d)]) → News h₀ env.locals h' news' → DefI w news' d (kk + nms.length) (fun x => x ∈ nms ∨ S x) → (∀ p ∈ news, (p.1 ≠ d ∨ p.2.cls ≠ .type "dict") → isIt p.2 = false → p ∈ news') → Q .next { s with heap := h', toks := tk }) :
    wpAny (model Pg w) A (pyIter (.ref ax)) (fun it s₂ => TurnsAt Pg w A h₀ env (.Name x px) body Q E it s₂) E s := by
  have hlen := strs_len hs
  refine m_forTup isDict hh (fun i m n => m (Str.ofString "found") = some (.ref d) ∧ DefI w n d (kk + i) (fun x => x ∈ nms.take i ∨ S x) ∧ ∀ p ∈ news, (p.1 ≠ d ∨ p.2.cls ≠ .type "dict") → isIt p.2 = false → p ∈ n)
    (fun i m n n' hn hj => ⟨hj.1, hj.2.1.sub hn, fun p hp h1 h2 => hn p (hj.2.2 p hp h1 h2) h2⟩) (fun o e => by unfold isDict; rw [e]; rfl) (fun o e => by unfold isDict; rw [e]; rfl) F N hm
    ⟨hf, D.weak (Nat.le_refl _) (fun y hy => hy.resolve_left (by simp)), fun p hp _ _ => hp⟩ ?_ ?_
  · intro i v m₁ nw h₁ tk₁ hi hv hj F₁ N₁
    obtain ⟨nm, t, rfl, hn⟩ := strs_at hs hv
    have hin : nm ∈ nms := List.mem_of_getElem? hn
    obtain ⟨hi', hn'⟩ := List.getElem?_eq_some_iff.mp hn
    refine wpAny_mono (step i nm t m₁ nw h₁ tk₁ hin (by omega) hj.2.1 (fr_B F₁ hj.1) N₁) (fun _ s₃ q => wpAny_mono q (fun f s₄ z => ?_) fun _ _ x => x) fun _ _ x => x
    have fin : (∃ h' tk m' nw', s₄ = { ({ s with heap := h₁, toks := tk₁ } : Shared) with heap := h', toks := tk } ∧ Fr h₀ env.locals h' m' ∧ News h₀ env.locals h' nw' ∧ (∀ p ∈ nw, isDict p.2 = false → p ∈ nw') ∧ (m' (Str.ofString "found") = some (.ref d) ∧ DefI w nw' d (kk + i + 1) (fun x => x = nm ∨ x ∈ nms.take i ∨ S x) ∧ Fra nw nw' d)) →
        (∃ h' tk m' nw', s₄ = { ({ s with heap := h₁, toks := tk₁ } : Shared) with heap := h', toks := tk } ∧ Fr h₀ env.locals h' m' ∧ News h₀ env.locals h' nw' ∧ (∀ p ∈ nw, isDict p.2 = false → p ∈ nw') ∧ (m' (Str.ofString "found") = some (.ref d) ∧ DefI w nw' d (kk + (i + 1)) (fun x => x ∈ nms.take (i + 1) ∨ S x) ∧ ∀ p ∈ news, (p.1 ≠ d ∨ p.2.cls ≠ .type "dict") → isIt p.2 = false → p ∈ nw')) := by
      rintro ⟨h', tk, m', nw', e, F', N', k1, k2, k3, k4⟩
      refine ⟨h', tk, m', nw', e, F', N', k1, k2, k3.weak (by omega) (fun y hy => ?_), fun p hp h1 h2 => k4 p (hj.2.2 p hp h1 h2) h1⟩
      rcases hy with hy | hy
      · rw [List.take_succ, hn] at hy
        rcases List.mem_append.mp hy with hy | hy
        · exact .inr (.inl hy)
        · simp at hy; exact .inl hy
      · exact .inr (.inr hy)
    cases f with
    | ret v => exact z
    | brk => exact z
    | next => exact fin z
    | cont => exact fin z
  · intro h' tk m' news' F' N' hj
    have e2 : nms.take vs.length = nms := List.take_of_length_le (by omega)
    have D' := hj.2.1
    rw [e2, hlen] at D'
    exact done h' tk m' news' (fr_B F' hj.1) N' D' hj.2.2
end


end
section
theorem defI_start {w : World} {n : List (Addr × Obj)} {d : Addr} {o : Obj} {kvs : List (Str × Value)} {k : Nat} (h : o.IsDictOf (SK w) kvs) (m : (d, o) ∈ n) (hk : kvs.length ≤ k) (he : ∃ v0, valueAt kvs (Str.ofString "incb") = some v0 ∧ dvOf v0 = some (.s (Str.ofString "None"))) : DefI w n d k (fun x => x = Str.ofString "incb") :=
  ⟨o, kvs, m, h, hk, fun x _ hs => by subst hs; exact he⟩
local macro_rules | `(tactic| walk_at "my defs") => `(tactic| (
  first
    | (refine' defs_loop rfl ?F ?N ?hm ?hs (DefI.sub ?D0 ?ds) ?hf ?hz ?step ?done
       (case D0 => assumption)
       (case F => k_asm)
       (case N => k_asm)
       (case ds => exact fun p hp _ => List.mem_cons_of_mem _ hp))
    | (refine' defs_loop rfl ?F ?N ?hm ?hs (defI_start (k := 8) ?dh9 ?dm9 ?hk9 ?he9) ?hf ?hz ?step ?done
       (case dh9 => assumption)
       (case F => k_asm)
       (case N => k_asm)
       (case dm9 => k_mem)
       (case hk9 => exact Nat.le_refl _)
       (case he9 => exact ⟨_, rfl, rfl⟩))
  case hm => k_mem
  case hs => kde_strs
  case hf => with_unfolding_all rfl
  case hz => decide
  all_goals (try (rename Obj.IsDictOf _ _ _ => z9; rename PyProof.V.FlatPairs _ _ => z8; clear z8 z9))
  case' step =>
    intro i9 nm9 t9 m9 nw9 h9 tk9 hnm hi9 D9 F9 N9
    dsimp only [kstB] at F9
    try dsimp only
    try k_fold
    k_steps
    (rename Fra _ _ _ => fr9)
    (refine MFor.intro (by assumption) (by assumption) (fun p hp hx => ?_) ⟨rfl, by assumption, ?_⟩)
    (first | exact fr9 p hp (.inr fun q => by rw [isDict, q] at hx; cases hx) | exact fr9 p (List.mem_cons_of_mem _ hp) (.inr fun q => by rw [isDict, q] at hx; cases hx))
    (first | exact fr9 | exact fun p hp hx => fr9 p (List.mem_cons_of_mem _ hp) hx)))
local macro_rules | `(tactic| walk_at "my fort") => `(tactic| (
  refine seqQ.next ?_
  k_unfold
  walk1
  with_reducible refine For_turns (h₀ := ?hh9) (m := ?mm9) ?fa9 ?fb9 ?fc9 ?fd9
  (case fa9 => (rename Fr _ _ _ _ => lF'); exact lF')
  (case fc9 => intro _; rfl)
  (case fd9 => passes_own)
  k_steps
  unfold Stop
  walk_at "my defs"))
set_option maxRecDepth 100000 in
set_option maxHeartbeats 4000000 in
theorem defs_does {w : World} {news : List (Addr × Obj)} :
    Does w 208 [] 2 30 news (fun r news' => ∃ d o kvs, r = .ref d ∧ (d, o) ∈ news' ∧ o.IsDictOf (SK w) kvs ∧ (d == sysModules) = false ∧ (∀ x ∈ three, ∃ v0, valueAt kvs x = some v0 ∧ dvOf v0 = defD x) ∧ (∀ p ∈ news, isIt p.2 = false → p ∈ news') ∧ ∀ p ∈ news, p.1 ≠ d) := by
  k_with "my set" =>
    refine' defs_set (by k_asm) (by k_asm) (by first | assumption | exact DefI.sub (by assumption) (fun p hp _ => List.mem_cons_of_mem _ hp) | exact DefI.sub (by assumption) (fun p hp _ => List.mem_cons_of_mem _ (List.mem_cons_of_mem _ hp))) (by first | omega | decide) ?ok ?_
    case ok => first | (refine ok_of (by assumption) ?_; dsimp only [dvOf]; decide) | (dsimp only [dvOf]; decide)
    intro h9 news9 F9 N9 D9 fr9
    try k_fold
  k_with "my for" =>
    refine Stop.at ?_
  k_extra "my enter"
  k_steps
  (rename (_ == sysModules) = false => lo9)
  (rename (∀ p ∈ news, p.1 ≠ _) => ap9)
  unfold Stop
  walk_at "my defs"
  intro h1 tk1 u1 news1 F1 N1 D1 fr1
  dsimp only [kstB] at F1
  try dsimp only
  try k_fold
  walk_at "my fort"
  intro h2 tk2 u2 news2 F2 N2 D2 fr2
  dsimp only [kstB] at F2
  try dsimp only
  try k_fold
  walk_at "my fort"
  intro h3 tk3 u3 news3 F3 N3 D3 fr3
  dsimp only [kstB] at F3
  try dsimp only
  try k_fold
  walk_at "my fort"
  intro h4 tk4 u4 news4 F4 N4 D4 fr4
  dsimp only [kstB] at F4
  try dsimp only
  try k_fold
  k_steps
  (rename Fra _ _ _ => fr5)
  (rename DefI _ _ _ _ _ => D5)
  obtain ⟨o, kvs, q1, q2, q3, q4⟩ := D5
  refine Post.ret (by k_asm) (by k_asm) ⟨_, o, kvs, rfl, q1, q2, lo9, fun x hx => q4 x hx ?_, fun p hp hit => ?_, ap9⟩
  · simp only [three, List.mem_cons, List.not_mem_nil, or_false] at hx
    rcases hx with rfl | rfl | rfl <;> decide
  · have n := ap9 p hp
    have p1 := fr1 p (List.mem_cons_of_mem _ (List.mem_cons_of_mem _ hp)) (.inl n) hit
    have p2 := fr2 p (List.mem_cons_of_mem _ p1) (.inl n) hit
    have p3 := fr3 p (List.mem_cons_of_mem _ p2) (.inl n) hit
    have p4 := fr4 p (List.mem_cons_of_mem _ p3) (.inl n) hit
    first
      | exact fr5 p p4 (.inl n)
      | exact fr5 p (List.mem_cons_of_mem _ p4) (.inl n)
      | exact fr5 p (List.mem_cons_of_mem _ (List.mem_cons_of_mem _ p4)) (.inl n)


end
theorem fresh_init : True := by
  k_with_none
  w_top off
  k_with "is_list" => exact News.isList (by k_asm) (by k_mem)
  k_with "exec While Compare cons nil" => k_extra "my while"
  k_with "exec While BoolOp cons nil" => k_extra "my while"
  k_with "exec While Constant cons nil" => k_extra "my whileT"
  k_with "MPost" => with_reducible first | refine MPost.next ?_ | refine MPost.ret ?_ | refine MPost.brk ?_ | refine MPost.cont ?_
  k_with "seqQ" => with_reducible first | refine seqQ.next ?_ | refine seqQ.ret ?_ | refine seqQ.brk ?_ | refine seqQ.cont ?_
  k_with "my enter" => (
      refine' enter ?k6 ?k7 ?k9 ?kB ?kN ?kU ?c2 ?c3 ?c4 ?c5 ?_
      case k6 => k_is
      case k7 => k_is
      case k9 => first | exact fun _ _ => BindsTo.of_eq rfl | (intro s9ω X9ω; exact binds_K X9ω rfl (by k_is) rfl rfl rfl)
      case kB => exact locs rfl
      case kN => exact rfl
      case kU => exact rfl
      case c2 => exact rfl
      case c3 => exact rfl
      case c4 => exact rfl
      case c5 => decide
      intro dpω unω gdω outerω A₀ω baseω gω h₁ω Lω gnω drω osω tkω meanω mgω mbω Eω Bω Xω Tω hdω huω eω Aω mω hEω Fω Nω)
  k_with "my ret" => (
      first
        | refine Post.ret (by k_asm) ?kN9 ⟨rfl, ?_⟩
        | refine Post.next (by k_asm) ?kN9 ⟨rfl, ?_⟩
      case kN9 => first | k_asm | exact kst_newsOf (by assumption) (by kst_inAny)
      k_extra "my clean")
  k_with "my clean" => ((repeat (rename Fr _ _ _ _ => z9ω; clear z9ω)); (repeat (rename News _ _ _ _ => z9ω; clear z9ω)); (try clear hEω Bω Xω Tω hdω huω))
  k_with "my roomx" => first | exact room_c (by assumption) rfl | exact room_b (by assumption) rfl | exact room_a (by assumption) | exact room_d (by assumption) rfl | exact room_e (by assumption) rfl | exact Nat.le_of_ble_eq_true rfl | omega
  k_with "my room" => ((try dsimp (config := { zetaDelta := true }) only [Around.deeper, Around.mark, Around.in1]); k_extra "my roomx")
  k_with "my sides" => (
      (case k1 => k_asm)
      (case k2 => k_asm)
      (case k3 => k_asm)
      (case k4 => k_asm)
      (case k5 => k_asm)
      (case k6 => exact rfl)
      (case k7 => exact rfl)
      (case k8 => k_extra "my room")
      (case k9 => k_extra "my room"))
  k_with "compareOp In str ref" => (k_here; (with_reducible show wpAny _ _ (compareOp CmpOp.In (Value.str _ _) (Value.ref _)) _ _ _); (with_unfolding_all refine' in_tuple_strs ?k1 ?k2 ?_; (case k1 => first | exact kun_topT (by k_asm) (by k_asm) (by k_is) | exact News.isTup (by k_asm) (by k_mem)); (case k2 => kde_strs); k_whole))
  k_with "compareOp NotIn str ref" => (k_here; (with_reducible show wpAny _ _ (compareOp CmpOp.NotIn (Value.str _ _) (Value.ref _)) _ _ _); (with_unfolding_all refine' notin_tuple_strs ?k1 ?k2 ?_; (case k1 => first | exact kun_topT (by k_asm) (by k_asm) (by k_is) | exact News.isTup (by k_asm) (by k_mem)); (case k2 => kde_strs); k_whole))
  k_with "my plain" => ((intro h9ω tk9ω F9ω N9ω); (try k_sweep))
  k_with "subscriptTail" => k_extra "my item"
  k_with "compareOp In str ref" => k_extra "my in"
  k_with "my plain1" => ((intro u9ω h9ω tk9ω F9ω N9ω); (try k_sweep))
  k_with "compareOp NotEq ref ref" => (k_here; (with_reducible show wpAny _ _ (compareOp CmpOp.NotEq (Value.ref _) (Value.ref _)) _ _ _); (with_unfolding_all refine' ne_intsK ?k1 ?k2 ?k3 ?k4 ?k5 ?_; (case k1 => is_list); (case k2 => l_ints); (case k3 => is_list); (case k4 => l_ints); (case k5 => k_extra "my room"); k_whole))
  k_with "my mem" => first | ktr_member | exact List.Mem.head _ | (refine List.mem_cons_of_mem _ ?_; k_extra "my mem")
  k_with "k_mem" => k_extra "my mem"
  k_with "compareOp NotIn str ref" => k_extra "my notin"
  k_with "call builtin:dict.get" => k_extra "my get"
  k_with "getMethod ref" => k_extra "my getm"
  k_with "setItem ref str" => k_extra "my set"
  k_with "k_room" => ((try dsimp (config := { zetaDelta := true }) only); (try simp only [depth_under_make, depth_under_kw, depth_in1, depth_deeper, depth_caller]); (try dsimp only); k_extra "my roomx")
  k_with "getItem ref str" => k_extra "my gitem"
  k_with "pyIter ref" => k_extra "my for"
  k_with "k_qdec" => decide +kernel
  k_with "my lt" => with_reducible (first | assumption | exact And.left (by assumption) | exact And.left (And.right (by assumption)) | exact And.left (And.right (And.right (by assumption))) | exact And.left (And.right (And.right (And.right (by assumption)))) | exact And.left (And.right (And.right (And.right (And.right (by assumption))))) | exact And.left (And.right (And.right (And.right (And.right (And.right (by assumption)))))) | exact And.left (And.right (And.right (And.right (And.right (And.right (And.right (by assumption))))))) | exact And.left (And.right (And.right (And.right (And.right (And.right (And.right (And.right (by assumption)))))))) | exact And.left (And.right (And.right (And.right (And.right (And.right (And.right (And.right (And.right (by assumption))))))))) | exact And.left (And.right (And.right (And.right (And.right (And.right (And.right (And.right (And.right (And.right (by assumption)))))))))))
  k_with "k_ne" => first | with_reducible assumption | with_reducible exact Ne.symm (by assumption) | (refine Nat.ne_of_lt ?_; k_extra "my lt") | (refine Nat.ne_of_gt ?_; k_extra "my lt") | (refine Nat.ne_of_gt ?_; (repeat (first | exact Nat.lt_succ_self _ | refine Nat.lt_succ_of_lt ?_)); done) | (refine Nat.ne_of_lt ?_; (repeat (first | exact Nat.lt_succ_self _ | refine Nat.lt_succ_of_lt ?_)); done) | (refine neN ?_; (try dsimp only); omega)
  k_with "l_idx" => first | assumption | exact idx_a (by assumption) (by assumption) | exact idx_b (by assumption) | exact idx_c (by assumption) (by assumption)
  k_with "JPost" => with_reducible first | refine JPost.next ?_ | refine JPost.ret ?_ | refine JPost.brk ?_ | refine JPost.cont ?_
  k_with "storeName" => (k_here; k_dflt (refine' storeX_M ?F ?N ?_ ?a ?b; (case F => k_asm); (case N => k_asm); (case a => rfl); (case b => rfl); k_whole); (intro h'ω tk'ω m'ω F'ω N'ω); (try k_sweep))
  k_with "ksw skip" => repeat (first | (refine' ite_skip ?hx ?_; (case hx => first | exact ne_stored (by assumption) rfl | exact h2ω _ (List.Mem.head _) | exact h2ω _ (List.Mem.tail _ (List.Mem.head _)) | exact h2ω _ (List.Mem.tail _ (List.Mem.tail _ (List.Mem.head _))))) | refine ite_skip2 (by assumption) ?_)
  k_with "ksw_same" => (
      intro zω h2ω h3ω
      first
        | rfl
        | (k_extra "ksw skip"; first | rfl | (refine Eq.symm ?_; k_extra "ksw skip"; rfl))
        | ((simp only [List.forall_mem_cons, List.not_mem_nil, false_implies, implies_true, and_true, ne_eq] at h2ω); (simp (zetaDelta := true) [h2ω]; done))
        | ((simp only [List.forall_mem_cons, List.not_mem_nil, false_implies, implies_true, and_true, ne_eq] at h2ω); (simp only [List.contains_cons, List.contains_nil, Bool.or_false, Bool.or_eq_false_iff, beq_eq_false_iff_ne, ne_eq] at h3ω); (simp (zetaDelta := true) [h2ω, h3ω]; done)))
  k_with "execs cons" => (k_here; (first | (refine' norm_M (gn := gnω) (dr := drω) (os := osω) ?F9 ?e9 ?_; (case F9 => k_asm); (case e9 => exact rfl); intro tk9ω) | ((try dsimp only); (try k_gentoks))); first | (with_reducible refine' execs_one ?_) | ((with_reducible refine' execs_let ?_); intro kkω))
  k_with "my leaf" => with_reducible first | show Post _ _ _ _ _ _ _ _ | show JOut _ _ _ _ _ _ _ _ _ | show MEnd _ _ _ _ _ _ _ _ _ _ _ _ _ | show MOut _ _ _ _ _ _ _ _ _ _ _
  k_with "k_steps" => repeat' (first | k_unfold | ((fail_if_success k_extra "my leaf"); first | walk1 | (dsimp only; walk1)) | (leave1; walk_say "STEP leave1"; (try dsimp only)) | fail "no step")
  k_with "my cond" => simp only [true_and, and_true, false_and, and_false, true_or, or_true, false_or, or_false, if_true, if_false, Bool.false_eq_true, Bool.true_eq_false, reduceCtorEq, and_self, or_self, not_true_eq_false, not_false_eq_true]
  k_with "eval Constant int" => (k_here; (with_reducible refine int_M ?_); intro t9ω tk9ω)
  k_with "eval Constant str" => (k_here; (with_reducible refine str_M ?_); intro t9ω tk9ω)
  k_with "binaryOp Add int int" => (k_here; (with_reducible refine add_M ?_); intro t9ω tk9ω)
  k_with "binaryOp Sub int int" => (k_here; (with_reducible refine sub_M ?_); intro t9ω tk9ω)
  k_with "call ref" => (
      (with_reducible show wpAny _ _ (call (Value.ref 145) _) _ _ _)
      k_dflt (refine' Does.val1 (place_does ?p1 ?p2 ?p3) ?k1 ?k2 ?k3 ?k4 ?k5 ?k6 ?k7 ?k8 ?k9 ?_; k_extra "my sides"; (case p1 => k_mem); (case p2 => assumption); (case p3 => first | assumption | omega))
      k_extra "my plain1")
  k_with "call ref" => (
      (with_reducible show wpAny _ _ (call (Value.ref 28) _) _ _ _)
      k_dflt (refine' Does.val syllable_does ?k1 ?k2 ?k3 ?k4 ?k5 ?k6 ?k7 ?k8 ?k9 ?_; k_extra "my sides")
      k_extra "my plain")
  k_with "call ref" => (
      (with_reducible show wpAny _ _ (call (Value.ref 52) _) _ _ _)
      k_dflt (refine' Does.val joins_does ?k1 ?k2 ?k3 ?k4 ?k5 ?k6 ?k7 ?k8 ?k9 ?_; k_extra "my sides")
      k_extra "my plain")
  k_with "call ref" => (
      (with_reducible show wpAny _ _ (call (Value.ref 59) _) _ _ _)
      k_dflt (first
        | (refine' Does.val (pairS_does ?p1) ?k1 ?k2 ?k3 ?k4 ?k5 ?k6 ?k7 ?k8 ?k9 ?_; (case p1 => assumption); k_extra "my sides")
        | (refine' Does.val (pairN_does ?p1) ?k1 ?k2 ?k3 ?k4 ?k5 ?k6 ?k7 ?k8 ?k9 ?_; (case p1 => assumption); k_extra "my sides"))
      k_extra "my plain")
  k_with "call ref" => (
      (with_reducible show wpAny _ _ (call (Value.ref 173) _) _ _ _)
      k_dflt (refine' Does.val (rget_does' (by assumption) (by assumption)) ?k1 ?k2 ?k3 ?k4 ?k5 ?k6 ?k7 ?k8 ?k9 ?_; k_extra "my sides")
      k_extra "my plain")
  k_with "my cell" => first | assumption | exact Cells.at' (by assumption) _ (by omega)
  k_with "call ref" => (
      (with_reducible show wpAny _ _ (call (Value.ref 236) _) _ _ _)
      k_dflt (first
       | ((with_reducible show wpAny _ _ (call _ [_, Value.str (Str.ofString "gcb") _, _]) _ _ _); refine' Does.val (dgetG_does ?p1 ?p2) ?k1 ?k2 ?k3 ?k4 ?k5 ?k6 ?k7 ?k8 ?k9 ?_; k_extra "my sides"; (case p1 => assumption); (case p2 => assumption); k_extra "my plain")
       | ((with_reducible show wpAny _ _ (call _ [_, Value.str (Str.ofString "incb") _, _]) _ _ _); refine' Does.val1 (dgetI_does ?p1 ?p2) ?k1 ?k2 ?k3 ?k4 ?k5 ?k6 ?k7 ?k8 ?k9 ?_; k_extra "my sides"; (case p1 => assumption); (case p2 => k_extra "my cell"); k_extra "my plain1")
       | ((with_reducible show wpAny _ _ (call _ [_, Value.str (Str.ofString "ep") _, _]) _ _ _); refine' Does.val (dgetP_does ?p1 ?p2) ?k1 ?k2 ?k3 ?k4 ?k5 ?k6 ?k7 ?k8 ?k9 ?_; k_extra "my sides"; (case p1 => assumption); (case p2 => k_extra "my cell"); k_extra "my plain")))
  k_with "call ref" => (
      (with_reducible show wpAny _ _ (call (Value.ref 35) _) _ _ _)
      k_dflt (first
        | (refine' Does.val1 (kindHs_does ?p1) ?k1 ?k2 ?k3 ?k4 ?k5 ?k6 ?k7 ?k8 ?k9 ?_; (case p1 => assumption); k_extra "my sides"; k_extra "my plain1")
        | (refine' Does.val (kindHn_does ?p1) ?k1 ?k2 ?k3 ?k4 ?k5 ?k6 ?k7 ?k8 ?k9 ?_; (case p1 => assumption); k_extra "my sides"; k_extra "my plain")))
  k_with "call ref" => (
      (with_reducible show wpAny _ _ (call (Value.ref 45) _) _ _ _)
      k_dflt (refine' Does.val1 (kind_does ?p1 ?p2) ?k1 ?k2 ?k3 ?k4 ?k5 ?k6 ?k7 ?k8 ?k9 ?_; k_extra "my sides"; (case p1 => assumption); (case p2 => k_extra "my cell"))
      k_extra "my plain1")
  k_with "call ref" => (
      (with_reducible show wpAny _ _ (call (Value.ref 66) _) _ _ _)
      k_dflt (refine' Does.val (conj_does ?p1 ?p2 ?p3 ?p4 ?p5 ?p6 ?p7) ?k1 ?k2 ?k3 ?k4 ?k5 ?k6 ?k7 ?k8 ?k9 ?_; k_extra "my sides"; (case p1 => assumption); (case p2 => k_mem); (case p3 => assumption); (case p4 => omega); (case p5 => assumption); (case p6 => omega); (case p7 => omega))
      k_extra "my plain")
  k_with "call ref" => (
      (with_reducible show wpAny _ _ (call (Value.ref 73) _) _ _ _)
      k_dflt (refine' Does.val (pict_does ?p1 ?p2 ?p3 ?p4 ?p5 ?p6 ?p7) ?k1 ?k2 ?k3 ?k4 ?k5 ?k6 ?k7 ?k8 ?k9 ?_; k_extra "my sides"; (case p1 => assumption); (case p2 => k_mem); (case p3 => assumption); (case p4 => omega); (case p5 => assumption); (case p6 => omega); (case p7 => omega))
      k_extra "my plain")
  k_with "call ref" => (
      (with_reducible show wpAny _ _ (call (Value.ref 80) _) _ _ _)
      k_dflt (refine' Does.val1 (flags_does ?p1 ?p2 ?p3 ?p4 ?p5 ?p6 ?p7) ?k1 ?k2 ?k3 ?k4 ?k5 ?k6 ?k7 ?k8 ?k9 ?_; k_extra "my sides"; (case p1 => assumption); (case p2 => k_mem); (case p3 => assumption); (case p4 => omega); (case p5 => assumption); (case p6 => omega); (case p7 => omega))
      k_extra "my plain1")
  k_with "call ref" => (
      (with_reducible show wpAny _ _ (call (Value.ref 87) _) _ _ _)
      k_dflt (refine' Does.val (flag_does ?p1 ?p2 ?p3 ?p4 ?p5 ?p6 ?p7) ?k1 ?k2 ?k3 ?k4 ?k5 ?k6 ?k7 ?k8 ?k9 ?_; k_extra "my sides"; (case p1 => assumption); (case p2 => k_mem); (case p3 => assumption); (case p4 => omega); (case p5 => assumption); (case p6 => omega); (case p7 => omega))
      k_extra "my plain")
  k_with "call ref" => (
      (with_reducible show wpAny _ _ (call (Value.ref 95) _) _ _ _)
      k_dflt (refine' Does.val (break_does ?p1 ?p2 ?p3 ?p4 ?p5 ?p6 ?p7) ?k1 ?k2 ?k3 ?k4 ?k5 ?k6 ?k7 ?k8 ?k9 ?_; k_extra "my sides"; (case p1 => assumption); (case p2 => k_mem); (case p3 => assumption); (case p4 => omega); (case p5 => assumption); (case p6 => omega); (case p7 => omega))
      k_extra "my plain")
  k_with "my inc" => first | exact fun _ h => h | exact kst_inSelf | kst_inAny
  k_with "call builtin:len" => (k_here; (with_reducible show wpAny _ _ (call (Value.builtin "len") [Value.ref _]) _ _ _); k_dflt (refine' row_len ?k1 ?k2 ?k3 ?k4 ?_; (case k1 => k_asm); (case k2 => assumption); (case k3 => k_extra "my inc"); (case k4 => omega)); k_whole)
  k_with "subscriptTail Name Name ref int" => k_extra "my row"
  k_with "subscriptTail Name BinOp ref int" => k_extra "my row"
  k_with "my row" => (k_here; (with_reducible show wpAny _ _ (subscriptTail _ _ (Value.ref _) (Value.int _ _)) _ _ _); k_dflt (refine' row_item ?k1 ?k2 ?k3 ?k4 ?k5 ?k6 ?_ ?k8 ?k9; (case k1 => k_asm); (case k2 => assumption); (case k3 => k_extra "my inc"); (case k8 => with_unfolding_all rfl); (case k9 => (intro _; with_unfolding_all rfl)); (case k4 => omega); (case k5 => omega); (case k6 => omega)); k_whole; (intro a9ω t8ω t9ω n9ω hm9ω))
  k_with "call ref" => (
      (with_reducible show wpAny _ _ (call (Value.ref 297) _) _ _ _)
      k_dflt (refine' Does.val1 (past_does ?p1 ?p2 ?p3 ?p4 ?p5) ?k1 ?k2 ?k3 ?k4 ?k5 ?k6 ?k7 ?k8 ?k9 ?_; k_extra "my sides"; (case p1 => first | assumption | exact RowAt.mono (by assumption) (by k_extra "my inc")); (case p2 => omega); (case p4 => k_mem); (case p5 => kde_strs); (case p3 => omega))
      k_extra "my plain1")
  k_with "my rowp" => first | assumption | exact RowAt.mono (by assumption) (by k_extra "my inc")
  k_with "call ref" => (
      (with_reducible show wpAny _ _ (call (Value.ref 304) _) _ _ _)
      k_dflt (refine' Does.val1 (syl_does ?p1 ?p2 ?p3 ?p4) ?k1 ?k2 ?k3 ?k4 ?k5 ?k6 ?k7 ?k8 ?k9 ?_; k_extra "my sides"; (case p1 => k_extra "my rowp"); (case p2 => omega); (case p3 => omega); (case p4 => omega))
      k_extra "my plain1")
  k_with "my plainR" => (
      (intro v9ω news9ω h9ω tk9ω F9ω N9ω r9ω)
      (obtain ⟨e9ω, t9ω, f9ω⟩ := r9ω)
      (subst f9ω)
      (subst e9ω)
      (try dsimp only)
      (try k_fold))
  k_with "call ref" => (
      (with_reducible show wpAny _ _ (call (Value.ref 311) _) _ _ _)
      k_dflt (refine' Does.val1 (pics_does ?p1 ?p2 ?p3 ?p4) ?k1 ?k2 ?k3 ?k4 ?k5 ?k6 ?k7 ?k8 ?k9 ?_; k_extra "my sides"; (case p1 => k_extra "my rowp"); (case p2 => omega); (case p3 => omega); (case p4 => omega))
      k_extra "my plain1")
  k_with "call ref" => (
      (with_reducible show wpAny _ _ (call (Value.ref 318) _) _ _ _)
      k_dflt (refine' Does.val1 (cons_does ?p1 ?p2 ?p3 ?p4) ?k1 ?k2 ?k3 ?k4 ?k5 ?k6 ?k7 ?k8 ?k9 ?_; k_extra "my sides"; (case p1 => k_extra "my rowp"); (case p2 => omega); (case p3 => omega); (case p4 => omega))
      k_extra "my plain1")
  k_with "my len" => ((try simp only [List.length_append, List.length_take, List.length_drop, List.length_cons, List.length_nil]); omega)
  k_with "subscriptTail Name Slice ref ref" => (k_here; (with_reducible show wpAny _ _ (subscriptTail _ (PySem.Expr.Slice _ _ none _) (Value.ref _) (Value.ref _)) _ _ _); k_dflt (first
      | (refine' m_slice_to ?F ?N ?l ?i ?z ?_ ?s ?t; (case F => k_asm); (case N => k_asm); (case l => k_mem); (case i => first | assumption | omega); (case z => k_extra "my len"); (case s => with_unfolding_all rfl); (case t => (intro _; with_unfolding_all rfl)))
      | (refine' m_slice_from ?F ?N ?l ?i ?z ?_ ?s ?t; (case F => k_asm); (case N => k_asm); (case l => k_mem); (case i => first | assumption | decide | omega); (case z => k_extra "my len"); (case s => with_unfolding_all rfl); (case t => (intro _; with_unfolding_all rfl)))); k_whole; intro D'ω h'ω F'ω N'ω l1ω; (try k_lt l1ω); (try k_sweep))
  k_with "binaryOp Add ref ref" => (k_here; k_dflt (refine' m_add ?F ?N ?l ?i ?z ?_; (case F => k_asm); (case N => k_asm); (case l => k_mem); (case i => k_mem); (case z => k_extra "my len")); k_whole; intro D'ω h'ω F'ω N'ω l1ω; (try k_lt l1ω); (try k_sweep))
  k_with "k_all" => first | assumption | exact allLt_ne (by first | assumption | exact And.right (by assumption) | exact And.right (And.right (by assumption)) | exact And.right (And.right (And.right (by assumption))))
  k_with "call ref" => (
      (with_reducible show wpAny _ _ (call (Value.ref 152) _) _ _ _)
      k_dflt (refine' Does.val (like_does ?p1) ?k1 ?k2 ?k3 ?k4 ?k5 ?k6 ?k7 ?k8 ?k9 ?_; (case p1 => assumption); k_extra "my sides")
      k_extra "my plain")
  k_with "subscriptTail Attribute Name Slice ref ref" => (refine kba_turn (value' := PySem.Expr.Name (PySem.Str.ofString "_") ⟨0, 0, 0, 0⟩) (fun _ => rfl) ?_)
  k_with "call ref" => (
      (with_reducible show wpAny _ _ (call (Value.ref 243) _) _ _ _)
      k_dflt (first
        | (refine' Does.val (mapof_old ?p1 ?p2) ?k1 ?k2 ?k3 ?k4 ?k5 ?k6 ?k7 ?k8 ?k9 ?_; (case p1 => assumption); (case p2 => assumption); k_extra "my sides"; k_extra "my plain")
        | (refine' Does.here (mapof_new ?p1 ?p2 ?p3 ?p4) ?k1 ?k2 ?k3 ?k4 ?k5 ?k6 ?k7 ?k8 ?k9 ?_; (case p1 => assumption); (case p2 => assumption); (case p3 => assumption); (case p4 => omega); k_extra "my sides"
           (intro v9ω news9ω h9ω tk9ω F9ω N9ω r9ω)
           (obtain ⟨a9ω, x9ω, e9ω, R9ω, D9ω, f9ω, s9ω⟩ := r9ω)
           (subst e9ω)
           (obtain ⟨g1ω, u1ω, v0ω, g2ω, u2ω, lsω, g3ω, u3ω, lvω, n1ω, n2ω⟩ := RD.inst R9ω)
           (try dsimp only)
           (try k_fold))))
  k_with "call ref" => (
      (with_reducible show wpAny _ _ (call (Value.ref 180) _) _ _ _)
      k_dflt (refine' Does.here (rput_does ?p1 ?p2 ?p3) ?k1 ?k2 ?k3 ?k4 ?k5 ?k6 ?k7 ?k8 ?k9 ?_; (case p1 => assumption); (case p2 => assumption); (case p3 => assumption); k_extra "my sides")
      (intro v9ω news9ω h9ω tk9ω F9ω N9ω r9ω)
      (obtain ⟨e9ω, R9ω, f9ω⟩ := r9ω)
      (subst e9ω)
      (try dsimp only)
      (try k_fold))
  k_with "call ref" => (
      (with_reducible show wpAny _ _ (call (Value.ref 208) _) _ _ _)
      k_dflt (refine' Does.here defs_does ?k1 ?k2 ?k3 ?k4 ?k5 ?k6 ?k7 ?k8 ?k9 ?_; k_extra "my sides")
      k_extra "my defd")
  trivial
section
theorem allLt_in {d : Nat} : ∀ {l : List (Addr × Obj)}, AllLt d l → ∀ p ∈ l, @LT.lt Nat _ p.1 d
  | [], _, _, h => absurd h List.not_mem_nil
  | q :: r, H, p, h => by
    rcases List.mem_cons.mp h with rfl | h
    · exact H.1
    · exact allLt_in H.2 p h
theorem DSt.start {w : World} {n : List (Addr × Obj)} {dat dd dm df : Addr} {om od : Obj} {kvs : List (Str × Value)} {h1 h2 h3 h4 : Int} {t1 t2 t3 t4 : Tok} {v3 v4 : Value} (i1 : (dat, instObj 246 dd) ∈ n)
    (i2 : (dd, dictOf [⟨h1, .str (Str.ofString "defaults") t1, .ref df⟩, ⟨h2, .str (Str.ofString "maps") t2, .ref dm⟩, ⟨h3, .str (Str.ofString "properties") t3, v3⟩, ⟨h4, .str (Str.ofString "words") t4, v4⟩] 4) ∈ n)
    (i3 : (dm, om) ∈ n) (i4 : (dm == sysModules) = false) (i5 : om.IsDictOf (SK w) []) (i6 : (df, od) ∈ n) (i7 : (df == sysModules) = false) (i8 : od.IsDictOf (SK w) kvs) (i9 : dd ≠ dm) (i10 : df ≠ dm)
    (z4 : ∀ x ∈ three, ∃ v0, valueAt kvs x = some v0 ∧ dvOf v0 = defD x) {K : List (Addr × Obj)} (z5 : ∀ p ∈ K, p ∈ n ∧ isIt p.2 = false ∧ (p.1 ≠ dm ∧ p.1 ≠ dd)) : DSt w n dat 0 (fun _ => none) K :=
  ⟨dd, dm, df, [], kvs, fun _ => 0, fun _ => 0, ⟨h1, t1, h2, t2, h3, t3, v3, h4, t4, v4, om, od, i1, i2, i3, i4, i5, i6, i7, i8, i9, i10⟩, Nat.le_refl _, z4, fun _ _ _ => rfl, fun x _ T h => (by cases h), fun x _ y _ _ T U h => (by cases h), fun p hp => ⟨(z5 p hp).1, (z5 p hp).2.1, (z5 p hp).2.2, fun x _ T h => (by cases h)⟩⟩


end
section
noncomputable def cellL (k i : String) (p : Bool) : Cell := ⟨Str.ofString k, Str.ofString i, p⟩
noncomputable def kinds13 : List Cell := [cellL "CR" "None" false, cellL "LF" "None" false, cellL "Control" "None" false, cellL "Extend" "Extend" false, cellL "Extend" "None" false, cellL "Extend" "Linker" false, cellL "ZWJ" "Extend" false, cellL "SpacingMark" "None" false, cellL "Regional_Indicator" "None" false, cellL "Prepend" "None" false, cellL "Other" "None" true, cellL "Other" "Consonant" false, cellL "Other" "None" false]
set_option maxRecDepth 100000 in
set_option maxHeartbeats 4000000 in
theorem kindsX_does {w : World} {news : List (Addr × Obj)} : Does w 257 [] 2 30 news (fun r news' => ∃ l rs nn, r = .ref l ∧ (l, listOf (List.toArray rs) nn) ∈ news' ∧ rs.length = 13 ∧
    (∀ k < 13, ∃ a t1 t2 n, rs[k]? = some (.ref a) ∧ (a, tupObj (kinds13.getD k c0) t1 t2 n) ∈ news' ∧ ∀ p ∈ news, p.1 < a) ∧ (∀ p ∈ news, p ∈ news') ∧ ∀ p ∈ news, p.1 < l) := by
  k_extra "my enter"
  k_steps
  refine Post.ret (by k_asm) (by k_asm) ⟨_, _, _, rfl, List.Mem.head _, rfl, fun k hk => ?_, fun p hp => ?_, fun p hp => ?_⟩
  · have hk' : k < 13 := hk
    have : k = 0 ∨ k = 1 ∨ k = 2 ∨ k = 3 ∨ k = 4 ∨ k = 5 ∨ k = 6 ∨ k = 7 ∨ k = 8 ∨ k = 9 ∨ k = 10 ∨ k = 11 ∨ k = 12 := lt13 k (by assumption)
    rcases this with rfl | rfl | rfl | rfl | rfl | rfl | rfl | rfl | rfl | rfl | rfl | rfl | rfl <;> exact ⟨_, _, _, _, rfl, by k_mem, by first | assumption | exact fun p hp => allLt_in (by simp_all) p hp⟩
  · iterate 14 apply List.mem_cons_of_mem
    exact hp
  · apply allLt_in _ p hp
    simp_all
theorem kinds_does {w : World} {news : List (Addr × Obj)} : Does w 257 [] 2 30 news (fun r news' => ∃ l, r = .ref l ∧ RowAt news' l kinds13 ∧ (∀ p ∈ news, p ∈ news') ∧ ∀ p ∈ news, p.1 < l) :=
  Does.weak kindsX_does fun v n' ⟨l, rs, nn, e, m, hl, hk, h1, h2⟩ => ⟨l, e, ⟨rs, nn, m, hl, fun k hk' => let ⟨a, t1, t2, n, q1, q2, _⟩ := hk k hk'; ⟨_, q1, a, t1, t2, n, rfl, q2⟩⟩, h1, h2⟩
theorem kinds_len {prog : Program} {w : World} {A : Around} {E : Value → Shared → Prop} {s : Shared} {h₀ : Heap} {L : Addr} {news₀ news : List (Addr × Obj)} {rl : Addr} {Q : Value → Shared → Prop} (N : News h₀ L s.heap news) (R : RowAt news₀ rl kinds13) (hs : ∀ p ∈ news₀, p ∈ news)
    (h : Q (.int 13 (s.toks + 1)) { s with toks := s.toks + 1 + 1 }) : wpAny (model prog w) A (call (.builtin "len") [.ref rl]) Q E s := row_len N R hs (by decide) h


end
theorem fresh_hang : True := by
  k_with "call ref" => (
      (with_reducible show wpAny _ _ (call (Value.ref 257) _) _ _ _)
      k_dflt (refine' Does.here kinds_does ?k1 ?k2 ?k3 ?k4 ?k5 ?k6 ?k7 ?k8 ?k9 ?_; k_extra "my sides")
      (intro v9ω news9ω h9ω tk9ω F9ω N9ω r9ω)
      (obtain ⟨l9ω, e9ω, R9ω, s9ω, t9ω⟩ := r9ω)
      (subst e9ω)
      (try dsimp only)
      (try k_fold))
  k_with "call builtin:len" => (k_here; (with_reducible show wpAny _ _ (call (Value.builtin "len") [Value.ref _]) _ _ _); k_dflt (refine' kinds_len ?k1 ?k2 ?k3 ?_; (case k1 => k_asm); (case k2 => assumption); (case k3 => k_extra "my inc")); k_whole)
  trivial
section
noncomputable def hang5 : List (Int × Str) := [(4352, Str.ofString "L"), (4449, Str.ofString "V"), (4520, Str.ofString "T"), (44032, Str.ofString "LV"), (44033, Str.ofString "LVT")]
noncomputable abbrev tupH (x : Int × Str) (t1 t2 : Tok) (n : Nat) : Obj := { cls := .type "tuple", data := .seq #[.int x.1 t1, .str x.2 t2] n }
noncomputable def HangAt (news : List (Addr × Obj)) (l : Addr) : Prop := ∃ rs nn, (l, listOf (List.toArray rs) nn) ∈ news ∧ rs.length = 5 ∧ ∀ k, k < 5 → ∃ v a t1 t2 n, rs[k]? = some v ∧ v = .ref a ∧ (a, tupH (hang5.getD k (0, Str.ofString "")) t1 t2 n) ∈ news
set_option maxRecDepth 100000 in
set_option maxHeartbeats 4000000 in
theorem hangX_does {w : World} {news : List (Addr × Obj)} : Does w 264 [] 2 30 news (fun r news' => ∃ l rs nn, r = .ref l ∧ (l, listOf (List.toArray rs) nn) ∈ news' ∧ rs.length = 5 ∧
    (∀ k < 5, ∃ a t1 t2 n, rs[k]? = some (.ref a) ∧ (a, tupH (hang5.getD k (0, Str.ofString "")) t1 t2 n) ∈ news' ∧ ∀ p ∈ news, p.1 < a) ∧ (∀ p ∈ news, p ∈ news') ∧ ∀ p ∈ news, p.1 < l) := by
  k_extra "my enter"
  k_steps
  refine Post.ret (by k_asm) (by k_asm) ⟨_, _, _, rfl, List.Mem.head _, rfl, fun k hk' => ?_, fun p hp => ?_, fun p hp => ?_⟩
  · have : k = 0 ∨ k = 1 ∨ k = 2 ∨ k = 3 ∨ k = 4 := lt5 k (by assumption)
    rcases this with rfl | rfl | rfl | rfl | rfl <;> exact ⟨_, _, _, _, rfl, by k_mem, by first | assumption | exact fun p hp => allLt_in (by simp_all) p hp⟩
  · iterate 6 apply List.mem_cons_of_mem
    exact hp
  · apply allLt_in _ p hp
    simp_all
theorem hang_does {w : World} {news : List (Addr × Obj)} : Does w 264 [] 2 30 news (fun r news' => ∃ l, r = .ref l ∧ HangAt news' l ∧ (∀ p ∈ news, p ∈ news') ∧ ∀ p ∈ news, p.1 < l) :=
  Does.weak hangX_does fun v n' ⟨l, rs, nn, e, m, hl, hk, h1, h2⟩ => ⟨l, e, ⟨rs, nn, m, hl, fun k hk' => let ⟨a, t1, t2, n, q1, q2, _⟩ := hk k hk'; ⟨_, a, t1, t2, n, q1, rfl, q2⟩⟩, h1, h2⟩
set_option maxRecDepth 100000 in
set_option maxHeartbeats 4000000 in
theorem code_does {w : World} {turn number : Int} {t t' : Tok} {news : List (Addr × Obj)} (h0 : 0 ≤ turn) (h1 : turn < 13) (h2 : 0 ≤ number) (h3 : number < 13) :
    Does w 283 [.int turn t, .int number t'] 4 50 news (fun r news' => (∃ u, r = .int (8704 + 3 * ((number + turn) % 13)) u) ∧ ∀ p ∈ news, p ∈ news') := by
  k_extra "my enter"
  k_steps
  have e9 : (number + turn).fmod 13 = (number + turn) % 13 := Int.fmod_eq_emod_of_nonneg _ (by decide)
  rw [e9]
  exact Post.ret (by k_asm) (by k_asm) ⟨⟨_, rfl⟩, by assumption⟩


end
theorem fresh_tabs : True := by
  k_with "call ref" => (
      (with_reducible show wpAny _ _ (call (Value.ref 264) _) _ _ _)
      k_dflt (refine' Does.here hang_does ?k1 ?k2 ?k3 ?k4 ?k5 ?k6 ?k7 ?k8 ?k9 ?_; k_extra "my sides")
      (intro v9ω news9ω h9ω tk9ω F9ω N9ω r9ω)
      (obtain ⟨l9ω, e9ω, R9ω, s9ω, t9ω⟩ := r9ω)
      (subst e9ω)
      (try dsimp only)
      (try k_fold))
  k_with "call ref" => (
      (with_reducible show wpAny _ _ (call (Value.ref 283) _) _ _ _)
      k_dflt (refine' Does.here (code_does ?p1 ?p2 ?p3 ?p4) ?k1 ?k2 ?k3 ?k4 ?k5 ?k6 ?k7 ?k8 ?k9 ?_; k_extra "my sides"; (case p1 => omega); (case p2 => omega); (case p3 => omega); (case p4 => omega))
      (intro v9ω news9ω h9ω tk9ω F9ω N9ω r9ω)
      (obtain ⟨⟨u9ω, e9ω⟩, s9ω⟩ := r9ω)
      (subst e9ω)
      (try dsimp only)
      (try k_fold))
  trivial
section
noncomputable def codeT (turn i : Nat) : Int := 8704 + 3 * (((i : Int) + turn) % 13)
noncomputable def foldT (d0 : Option DV) (f : Cell → Option DV) (turn : Nat) : Nat → Tab
  | 0 => ([0], [d0])
  | i + 1 => putD (foldT d0 f turn i) (codeT turn i) (f (kinds13.getD i c0))
noncomputable def gT : Nat → Nat → Tab := foldT (some (.s (Str.ofString "Other"))) fun x => some (.s x.k)
noncomputable def iT : Nat → Nat → Tab := foldT (some (.s (Str.ofString "None"))) fun x => some (.s x.i)
noncomputable def pT : Nat → Nat → Tab := foldT (some (.b false)) fun x => some (.b x.p)
theorem tabs_ok : ∀ turn < 13, ∀ i < 13, okD (gT turn i) (codeT turn i) (some (.s (kinds13.getD i c0).k)) = true ∧ okD (iT turn i) (codeT turn i) (some (.s (kinds13.getD i c0).i)) = true ∧ okD (pT turn i) (codeT turn i) (some (.b (kinds13.getD i c0).p)) = true := by decide +kernel
noncomputable def lookD (T : Tab) (c : Int) : Option DV := T.2.getD (place T.1 c - 1) none
noncomputable def symCode (turn k : Nat) : Int := if k < 13 then codeT turn k else (hang5.getD (k - 13) (0, Str.ofString "")).1
noncomputable def symG (k : Nat) : Str := if k < 13 then (kinds13.getD k c0).k else Str.ofString "Other"
noncomputable def symCell (k : Nat) : Cell := if k < 13 then kinds13.getD k c0 else ⟨(hang5.getD (k - 13) (0, Str.ofString "")).2, Str.ofString "None", false⟩
noncomputable def tellD (T : Tab) (c : Int) (d : Option DV) : Bool := decide (T.1.length < 100000) && decide (1 ≤ place T.1 c) && decide (place T.1 c ≤ T.1.length) && decide (T.2.length = T.1.length) && decide (lookD T c = d)
theorem tabs_tell : ∀ turn < 13, ∀ k < 18, tellD (gT turn 13) (symCode turn k) (some (.s (symG k))) = true ∧ tellD (iT turn 13) (symCode turn k) (some (.s (symCell k).i)) = true ∧ tellD (pT turn 13) (symCode turn k) (some (.b (symCell k).p)) = true ∧ (symCell k).k = kindOf (symG k) (symCode turn k) := by decide +kernel


end
section
theorem DSt.congr {w : World} {n : List (Addr × Obj)} {dat : Addr} {k k' : Nat} {st st' : Str → Option Tab} {K : List (Addr × Obj)} (D : DSt w n dat k st K) (hk : k ≤ k') (h : ∀ x ∈ three, st x = st' x) : DSt w n dat k' st' K := by
  obtain ⟨dd, dm, df, kvs, dkvs, ad, dx, D, s1, s2, s3, s4, s5, s6⟩ := D
  exact ⟨dd, dm, df, kvs, dkvs, ad, dx, D, Nat.le_trans s1 hk, s2, fun x hx e => s3 x hx (by rw [h x hx]; exact e), fun x hx T e => s4 x hx T (by rw [h x hx]; exact e), fun x hx y hy xy T U e e' => s5 x hx y hy xy T U (by rw [h x hx]; exact e) (by rw [h y hy]; exact e'), fun p hp => let ⟨a, b, c, d⟩ := s6 p hp; ⟨a, b, c, fun x hx T e => d x hx T (by rw [h x hx]; exact e)⟩⟩
theorem DataM.sub {w : World} {n n' : List (Addr × Obj)} {dat dd dm df : Addr} {kvs dkvs : List (Str × Value)} (D : DataM w n dat dd dm df kvs dkvs) (h : ∀ p ∈ n, isIt p.2 = false → p ∈ n') : DataM w n' dat dd dm df kvs dkvs := by
  obtain ⟨h1, t1, h2, t2, h3, t3, v3, h4, t4, v4, om, od, i1, i2, i3, i4, i5, i6, i7, i8, i9, i10⟩ := D
  exact ⟨h1, t1, h2, t2, h3, t3, v3, h4, t4, v4, om, od, h _ i1 rfl, h _ i2 rfl, h _ i3 (dict_notIt (IsDictOf.clsIs i5)), i4, i5, h _ i6 (dict_notIt (IsDictOf.clsIs i8)), i7, i8, i9, i10⟩
theorem RMapX.sub {n n' : List (Addr × Obj)} {a dx : Addr} {ns : List Int} {vs : List Value} (R : RMapX n a dx ns vs) (h : ∀ p ∈ n, isIt p.2 = false → p ∈ n') : RMapX n' a dx ns vs := by
  obtain ⟨h1, t1, v0, h2, t2, ls, h3, t3, lv, ws, m1, m2, m3, m4, m5⟩ := R
  exact ⟨h1, t1, v0, h2, t2, ls, h3, t3, lv, ws, h _ m1 rfl, h _ m2 rfl, h _ m3 rfl, m4, h _ m5 rfl⟩
theorem RD.sub {n n' : List (Addr × Obj)} {a dx : Addr} {T : Tab} (R : RD n a dx T) (h : ∀ p ∈ n, isIt p.2 = false → p ∈ n') : RD n' a dx T := let ⟨vs, X, e⟩ := R; ⟨vs, X.sub h, e⟩
theorem DSt.sub {w : World} {n n' : List (Addr × Obj)} {dat : Addr} {k : Nat} {st : Str → Option Tab} {K : List (Addr × Obj)} (D : DSt w n dat k st K) (h : ∀ p ∈ n, isIt p.2 = false → p ∈ n') : DSt w n' dat k st K := by
  obtain ⟨dd, dm, df, kvs, dkvs, ad, dx, D, s1, s2, s3, s4, s5, s6⟩ := D
  exact ⟨dd, dm, df, kvs, dkvs, ad, dx, D.sub h, s1, s2, s3, fun x hx T e => let ⟨a, b, c⟩ := s4 x hx T e; ⟨a, b.sub h, c⟩, s5, fun p hp => let ⟨a, b, c⟩ := s6 p hp; ⟨h p a b, b, c⟩⟩
noncomputable def stT (turn i : Nat) : Str → Option Tab := fun x => if i = 0 then none else if x = Str.ofString "gcb" then some (gT turn i) else if x = Str.ofString "incb" then some (iT turn i) else some (pT turn i)
theorem stT_gcb {turn i : Nat} : (stT turn i (Str.ofString "gcb")).getD ([0], [defD (Str.ofString "gcb")]) = gT turn i := by
  cases i with
  | zero => rfl
  | succ i => rfl
theorem stT_incb {turn i : Nat} : (stT turn i (Str.ofString "incb")).getD ([0], [defD (Str.ofString "incb")]) = iT turn i := by
  cases i with
  | zero => rfl
  | succ i => rfl
theorem stT_ep {turn i : Nat} : (stT turn i (Str.ofString "ep")).getD ([0], [defD (Str.ofString "ep")]) = pT turn i := by
  cases i with
  | zero => rfl
  | succ i => rfl
theorem stT_step {turn i : Nat} : ∀ x ∈ three, upS (upS (upS (stT turn i) (Str.ofString "gcb") (gT turn (i + 1))) (Str.ofString "incb") (iT turn (i + 1))) (Str.ofString "ep") (pT turn (i + 1)) x = stT turn (i + 1) x := by
  intro x hx
  simp only [three, List.mem_cons, List.not_mem_nil, or_false] at hx
  rcases hx with rfl | rfl | rfl <;> rfl
theorem DSt.inst {w : World} {n : List (Addr × Obj)} {dat : Addr} {k : Nat} {st : Str → Option Tab} {K : List (Addr × Obj)} (D : DSt w n dat k st K) : ∃ dd dm df h1 t1 h2 t2 h3 t3 v3 h4 t4 v4, (dat, instObj 246 dd) ∈ n ∧
    (dd, dictOf [⟨h1, .str (Str.ofString "defaults") t1, .ref df⟩, ⟨h2, .str (Str.ofString "maps") t2, .ref dm⟩, ⟨h3, .str (Str.ofString "properties") t3, v3⟩, ⟨h4, .str (Str.ofString "words") t4, v4⟩] 4) ∈ n := by
  obtain ⟨dd, dm, df, kvs, dkvs, ad, dx, D, _⟩ := D
  obtain ⟨h1, t1, h2, t2, h3, t3, v3, h4, t4, v4, m1, m2⟩ := D.inst
  exact ⟨dd, dm, df, h1, t1, h2, t2, h3, t3, v3, h4, t4, v4, m1, m2⟩
theorem stT_end {w : World} {n : List (Addr × Obj)} {dat : Addr} {k k' turn i : Nat} {t2 t3 : Tok} {c : Int} {X Y : Tab} {K : List (Addr × Obj)} (hk : k ≤ k') (hc : c = codeT turn i)
    (D : DSt w n dat k (upS (upS (upS (stT turn i) (Str.ofString "gcb") (putD ((stT turn i (Str.ofString "gcb")).getD ([0], [defD (Str.ofString "gcb")])) c (dvOf (.str (kinds13.getD i c0).k t2))))
      (Str.ofString "incb") (putD ((upS (stT turn i) (Str.ofString "gcb") X (Str.ofString "incb")).getD ([0], [defD (Str.ofString "incb")])) c (dvOf (.str (kinds13.getD i c0).i t3))))
      (Str.ofString "ep") (putD ((upS (upS (stT turn i) (Str.ofString "gcb") X) (Str.ofString "incb") Y (Str.ofString "ep")).getD ([0], [defD (Str.ofString "ep")])) c (dvOf (.bool (kinds13.getD i c0).p)))) K) : DSt w n dat k' (stT turn (i + 1)) K := by
  refine D.congr hk fun x hx => ?_
  subst hc
  simp only [three, List.mem_cons, List.not_mem_nil, or_false] at hx
  rcases hx with rfl | rfl | rfl
  · show some (putD ((stT turn i (Str.ofString "gcb")).getD ([0], [defD (Str.ofString "gcb")])) _ _) = some (gT turn (i + 1))
    rw [stT_gcb]; rfl
  · show some (putD ((stT turn i (Str.ofString "incb")).getD ([0], [defD (Str.ofString "incb")])) _ _) = some (iT turn (i + 1))
    rw [stT_incb]; rfl
  · show some (putD ((stT turn i (Str.ofString "ep")).getD ([0], [defD (Str.ofString "ep")])) _ _) = some (pT turn (i + 1))
    rw [stT_ep]; rfl
theorem DSt.kept {w : World} {n : List (Addr × Obj)} {dat : Addr} {k : Nat} {st : Str → Option Tab} {K : List (Addr × Obj)} (D : DSt w n dat k st K) : ∀ p ∈ K, p ∈ n := by
  obtain ⟨dd, dm, df, kvs, dkvs, ad, dx, D, s1, s2, s3, s4, s5, s6⟩ := D
  exact fun p hp => (s6 p hp).1


end
theorem fresh_dloop : True := by
  k_with "call ref" => (
      (with_reducible show wpAny _ _ (call (Value.ref 229) _) _ _ _)
      k_dflt (refine' Does.here (dput_does ?p1 ?p2 ?p3 ?p4 ?p5) ?k1 ?k2 ?k3 ?k4 ?k5 ?k6 ?k7 ?k8 ?k9 ?_; k_extra "my sides"; (case p1 => first | assumption | exact DSt.sub (by assumption) (fun p hp _ => (by assumption : ∀ p ∈ _, p ∈ _) p hp)); (case p5 => exact rfl); (case p2 => omega); (case p3 => decide); (case p4 => k_extra "my putok"))
      (intro v9ω news9ω h9ω tk9ω F9ω N9ω r9ω)
      (obtain ⟨e9ω, D9ω, s9ω⟩ := r9ω)
      (subst e9ω)
      (obtain ⟨dd9ω, dm9ω, df9ω, g1ω, u1ω, g2ω, u2ω, g3ω, u3ω, w3ω, g4ω, u4ω, w4ω, i1ω, i2ω⟩ := DSt.inst D9ω)
      (try dsimp only)
      (try k_fold))
  trivial
section
theorem fr_B2 {h₀ : Heap} {L : Addr} {h : Heap} {m : Str → Option Value} {x y : Str} {v v' : Value} (F : Fr h₀ L h m) (e : m x = some v) (e' : m y = some v') : Fr h₀ L h (kstB m [(x, v), (y, v')]) := by
  have : kstB m [(x, v), (y, v')] = m := funext fun z => kstB_eq (by intro p hp; simp at hp; rcases hp with rfl | rfl <;> assumption) fun _ => rfl
  rw [this]; exact F
section
variable {w : World} {A : Around} {E : Value → Shared → Prop} {s : Shared} {env : Env} {h₀ : Heap} {body : List Stmt} {Q : Flow → Shared → Prop}
theorem ldata_loop {elts : List Expr} {kx : Nat} {pos : Pos} {l dat : Addr} {turn : Nat} {t : Tok} {m₀ : Str → Option Value} {news K : List (Addr × Obj)} (hh : A.handled = none)
    (F : Fr h₀ env.locals s.heap m₀) (N : News h₀ env.locals s.heap news) (R : RowAt news l kinds13) (D : DSt w news dat 0 (fun _ => none) K) (m1 : m₀ (Str.ofString "turn") = some (.int turn t)) (m2 : m₀ (Str.ofString "data") = some (.ref dat))
    (step : ∀ (i : Nat) T t1 ax t2 t3 n9 u nw h₁ tk₁, i < 13 → h₁.IsTuple T #[.int i t1, .ref ax] → (ax, tupObj (kinds13.getD i c0) t2 t3 n9) ∈ nw → DSt w nw dat (3 * i) (stT turn i) K →
      Fr h₀ env.locals h₁ (kstB u [(Str.ofString "turn", .int turn t), (Str.ofString "data", .ref dat)]) → News h₀ env.locals h₁ nw →
      wpAny (model Pg w) A (assign (.Tuple elts kx pos) env (.ref T)) (fun _ s₃ => wpAny (model Pg w) A (execs body env) (MFor h₀ env.locals isDict (fun m' n' => m' (Str.ofString "turn") = some (.int turn t) ∧ m' (Str.ofString "data") = some (.ref dat) ∧ DSt w n' dat (3 * i + 3) (stT turn (i + 1)) K) nw { s with heap := h₁, toks := tk₁ } Q) E s₃) E { s with heap := h₁, toks := tk₁ })
    (done : ∀ h' tk u news', Fr h₀ env.locals h' (kstB u [(Str.ofString "turn", .int turn t), (Str.ofString "data", .ref dat)]) → News h₀ env.locals h' news' → DSt w news' dat 39 (stT turn 13) K → (∀ p ∈ news, isIt p.2 = false → isDict p.2 = false → p ∈ news') → Q .next { s with heap := h', toks := tk }) :
    wpAny (model Pg w) A (call (.type "enumerate") [.ref l]) (fun xv s₁ => wpAny (model Pg w) A (pyIter xv) (fun it s₂ => TurnsAt Pg w A h₀ env (.Tuple elts kx pos) body Q E it s₂) E s₁) E s := by
  obtain ⟨rs, nn, rm, rlen, rat⟩ := R
  have rlen' : rs.length = 13 := rlen
  refine m_forEnum isDict hh (fun i m n => m (Str.ofString "turn") = some (.int turn t) ∧ m (Str.ofString "data") = some (.ref dat) ∧ DSt w n dat (3 * i) (stT turn i) K ∧ ∀ p ∈ news, isIt p.2 = false → isDict p.2 = false → p ∈ n)
    (fun i m n n' hn hj => ⟨hj.1, hj.2.1, hj.2.2.1.sub hn, fun p hp h1 h2 => hn p (hj.2.2.2 p hp h1 h2) h1⟩) (fun o e => by unfold isDict; rw [e]; rfl) (fun o e => by unfold isDict; rw [e]; rfl) (fun o e => by unfold isDict; rw [e]; rfl) F N rm
    ⟨m1, m2, D.congr (Nat.zero_le _) (fun x _ => rfl), fun p hp _ _ => hp⟩ ?_ ?_
  · intro i T t1 v m₁ nw h₁ tk₁ hi hv hT hj F₁ N₁
    obtain ⟨v', hv', ax, t2, t3, n9, rfl, ha⟩ := rat i (by rw [rlen'] at hi; exact hi)
    rw [hv] at hv'
    cases hv'
    refine wpAny_mono (step i T t1 ax t2 t3 n9 m₁ nw h₁ tk₁ (by omega) hT (hj.2.2.2 _ ha rfl rfl) hj.2.2.1 (fr_B2 F₁ hj.1 hj.2.1) N₁) (fun _ s₃ q => wpAny_mono q (fun f s₄ z => ?_) fun _ _ x => x) fun _ _ x => x
    have fin : (∃ h' tk m' nw', s₄ = { ({ s with heap := h₁, toks := tk₁ } : Shared) with heap := h', toks := tk } ∧ Fr h₀ env.locals h' m' ∧ News h₀ env.locals h' nw' ∧ (∀ p ∈ nw, isDict p.2 = false → p ∈ nw') ∧ (m' (Str.ofString "turn") = some (.int turn t) ∧ m' (Str.ofString "data") = some (.ref dat) ∧ DSt w nw' dat (3 * i + 3) (stT turn (i + 1)) K)) →
        (∃ h' tk m' nw', s₄ = { ({ s with heap := h₁, toks := tk₁ } : Shared) with heap := h', toks := tk } ∧ Fr h₀ env.locals h' m' ∧ News h₀ env.locals h' nw' ∧ (∀ p ∈ nw, isDict p.2 = false → p ∈ nw') ∧ (m' (Str.ofString "turn") = some (.int turn t) ∧ m' (Str.ofString "data") = some (.ref dat) ∧ DSt w nw' dat (3 * (i + 1)) (stT turn (i + 1)) K ∧ ∀ p ∈ news, isIt p.2 = false → isDict p.2 = false → p ∈ nw')) := by
      rintro ⟨h', tk, m', nw', e, F', N', k1, k2, k3, k4⟩
      exact ⟨h', tk, m', nw', e, F', N', k1, k2, k3, k4.congr (by omega) (fun _ _ => rfl), fun p hp h1 h2 => k1 p (hj.2.2.2 p hp h1 h2) h2⟩
    cases f with
    | ret v => exact z
    | brk => exact z
    | next => exact fin z
    | cont => exact fin z
  · intro h' tk m' news' F' N' hj
    rw [rlen'] at hj
    exact done h' tk m' news' (fr_B2 F' hj.1 hj.2.1) N' hj.2.2.1 hj.2.2.2
end
theorem dv_str {v : Value} {g : Str} (h : dvOf v = some (.s g)) : ∃ t, v = .str g t := by
  cases v with
  | str x t => simp [dvOf] at h; subst h; exact ⟨t, rfl⟩
  | _ => simp [dvOf] at h
theorem dv_bool {v : Value} {b : Bool} (h : dvOf v = some (.b b)) : v = .bool b := by
  cases v with
  | bool x => simp [dvOf] at h; subst h; rfl
  | _ => simp [dvOf] at h
theorem tell_of {T : Tab} {vs : List Value} {c : Int} {d : Option DV} (hv : vs.map dvOf = T.2) (ht : tellD T c d = true) : ∃ v, Tell (T.1, vs) c v ∧ dvOf v = d := by
  simp only [tellD, Bool.and_eq_true, decide_eq_true_eq] at ht
  obtain ⟨⟨⟨⟨t1, t2⟩, t3⟩, t4⟩, t5⟩ := ht
  have hl : vs.length = T.1.length := by rw [← t4, ← hv, List.length_map]
  obtain ⟨v, e1, e2⟩ := getD_dv hv (place T.1 c - 1) (by omega)
  exact ⟨v, ⟨t1, t2, t3, e1⟩, by rw [e2]; exact t5⟩
/-- an object that no part of the data can be -/
noncomputable def NotDB (o : Obj) : Prop := (∀ C dx, o ≠ instObj C dx) ∧ ∀ ws, ws ≠ [] → o ≠ listOf (List.toArray ws) 0
theorem cell_notDB {o : Obj} {v : Option Value} (h : o.data = .cell v) : NotDB o := ⟨fun C dx e => (by rw [e] at h; cases h), fun ws _ e => (by rw [e] at h; cases h)⟩
theorem cell_notIt {o : Obj} {v : Option Value} (h : o.data = .cell v) : isIt o = false := by unfold isIt; rw [h]
theorem dict_notDB {o : Obj} (h : o.cls = .type "dict") : NotDB o := ⟨fun C dx e => (by rw [e] at h; cases h), fun ws _ e => (by rw [e] at h; exact absurd h list_cls)⟩
theorem list_notDB {us : List Value} {n : Nat} (h : us = [] ∨ 0 < n) : NotDB (listOf (List.toArray us) n) :=
  ⟨fun C dx e => (by injection e with e1; cases e1), fun ws hw e => (by
    injection e with e1 e2 e3
    injection e3 with e4 e5
    rcases h with h | h
    · rw [h] at e4
      exact hw (by simpa using e4.symm)
    · omega)⟩
theorem dst_db {g h : Heap} {L : Addr} {w : World} {n : List (Addr × Obj)} {dat : Addr} {m turn : Nat} {K M : List (Addr × Obj)} (N : News g L h n) (ht : turn < 13) (D : DSt w n dat m (stT turn 13) K) (hM : ∀ p ∈ M, p ∈ K ∧ NotDB p.2) :
    ∃ B, (∀ p ∈ B, p ∈ n) ∧ (∀ p ∈ B, ∀ q ∈ M, p.1 ≠ q.1) ∧ ∃ G I P, DB w B dat G I P ∧ ∀ k < 18, CellOf G I P (symCode turn k) (symCell k) := by
  obtain ⟨dd, dm, df, kvs, dkvs, ad, dx, ⟨h1, t1, h2, t2, h3, t3, v3, h4, t4, v4, om, od, i1, i2, i3, i4, i5, i6, i7, i8, i9, i10⟩, s1, s2, s3, s4, s5, s6⟩ := D
  obtain ⟨a1, ⟨vs1, b1, c1⟩, _⟩ := s4 (Str.ofString "gcb") (by decide) (gT turn 13) rfl
  obtain ⟨a2, ⟨vs2, b2, c2⟩, _⟩ := s4 (Str.ofString "incb") (by decide) (iT turn 13) rfl
  obtain ⟨a3, ⟨vs3, b3, c3⟩, _⟩ := s4 (Str.ofString "ep") (by decide) (pT turn 13) rfl
  have inB : ∀ p ∈ n, (∀ q ∈ M, p.1 ≠ q.1) → p ∈ n.filter fun p => !(M.any fun q => q.1 == p.1) := fun p hp hq => List.mem_filter.mpr ⟨hp, by
    simp only [Bool.not_eq_true', List.any_eq_false, beq_iff_eq]
    exact fun q hq' e => hq q hq' e.symm⟩
  have inst : ∀ {C x a : Addr}, (a, instObj C x) ∈ n → (a, instObj C x) ∈ n.filter fun p => !(M.any fun q => q.1 == p.1) := fun {C x a} hp => inB _ hp fun q hq e => by
    have := News.one N hp (s6 q (hM q hq).1).1 e
    exact (hM q hq).2.1 _ _ this.symm
  have list : ∀ {a : Addr} {ws : List Value}, ws ≠ [] → (a, listOf (List.toArray ws) 0) ∈ n → (a, listOf (List.toArray ws) 0) ∈ n.filter fun p => !(M.any fun q => q.1 == p.1) := fun {a ws} hw hp => inB _ hp fun q hq e => by
    have := News.one N hp (s6 q (hM q hq).1).1 e
    exact (hM q hq).2.2 _ hw this.symm
  have map : ∀ x ∈ three, ∀ {T : Tab} {vs : List Value} {a : Addr}, stT turn 13 x = some T → RMapX n a (dx x) T.1 vs → 0 < T.1.length → 0 < vs.length → RMapX (n.filter fun p => !(M.any fun q => q.1 == p.1)) a (dx x) T.1 vs := by
    intro x hx T vs a hT R l1 l2
    obtain ⟨g1, u1, w0, g2, u2, ls, g3, u3, lv, ws, m1, m2, m3, m4, m5⟩ := R
    have hws : ws ≠ [] := by
      rintro rfl
      have := m4.length
      simp at this
      omega
    have hvs : vs ≠ [] := by rintro rfl; simp at l2
    exact ⟨g1, u1, w0, g2, u2, ls, g3, u3, lv, ws, inst m1, inB _ m2 (fun q hq e => (s6 q (hM q hq).1).2.2.2 x hx T hT e.symm), list hws m3, m4, list hvs m5⟩
  have len : ∀ {T : Tab} {vs : List Value} {c : Int} {d : Option DV}, vs.map dvOf = T.2 → tellD T c d = true → 0 < T.1.length ∧ 0 < vs.length := by
    intro T vs c d hv hd
    simp only [tellD, Bool.and_eq_true, decide_eq_true_eq] at hd
    obtain ⟨⟨⟨⟨q1, q2⟩, q3⟩, q4⟩, q5⟩ := hd
    have : vs.length = T.1.length := by rw [← q4, ← hv, List.length_map]
    omega
  have tt := tabs_tell turn ht 0 (by decide)
  refine ⟨n.filter fun p => !(M.any fun q => q.1 == p.1), fun p hp => (List.mem_filter.mp hp).1, fun p hp q hq e => ?_, ((gT turn 13).1, vs1), ((iT turn 13).1, vs2), ((pT turn 13).1, vs3), ⟨kvs, ad (Str.ofString "gcb"), ad (Str.ofString "incb"), ad (Str.ofString "ep"),
    ⟨dd, h1, t1, .ref df, h2, t2, dm, h3, t3, v3, h4, t4, v4, om, inst i1, inB _ i2 (fun q hq e => (s6 q (hM q hq).1).2.2.1.2 e.symm), inB _ i3 (fun q hq e => (s6 q (hM q hq).1).2.2.1.1 e.symm), i4, i5⟩,
    a1, a2, a3, ⟨_, map _ (by decide) rfl b1 (len c1 tt.1).1 (len c1 tt.1).2⟩, ⟨_, map _ (by decide) rfl b2 (len c2 tt.2.1).1 (len c2 tt.2.1).2⟩, ⟨_, map _ (by decide) rfl b3 (len c3 tt.2.2.1).1 (len c3 tt.2.2.1).2⟩⟩, fun k hk => ?_⟩
  · have := (List.mem_filter.mp hp).2
    simp only [Bool.not_eq_true', List.any_eq_false, beq_iff_eq] at this
    exact this q hq e.symm
  · obtain ⟨q1, q2, q3, q4⟩ := tabs_tell turn ht k hk
    obtain ⟨u1, p1, r1⟩ := tell_of c1 q1
    obtain ⟨u2, p2, r2⟩ := tell_of c2 q2
    obtain ⟨u3, p3, r3⟩ := tell_of c3 q3
    obtain ⟨y1, rfl⟩ := dv_str r1
    obtain ⟨y2, rfl⟩ := dv_str r2
    have e3 := dv_bool r3
    subst e3
    exact ⟨symG k, y1, y2, p1, p2, p3, q4⟩


end
section
/-- the stream's state -/
structure St where
  kind : Option Str
  odd : Bool
  pic : Nat
  con : Nat
noncomputable def heldS (leg : Bool) (S : St) (x : Cell) : Bool :=
  (x.i == Str.ofString "Consonant" && S.con == 2 && !leg) || (x.p && S.pic == 2) || (x.k == Str.ofString "Regional_Indicator" && S.odd)
noncomputable def outS (leg : Bool) (S : St) (x : Cell) : Bool := match S.kind with
  | none => true
  | some k => match pairF k x.k leg with
    | some b => b
    | none => !heldS leg S x
noncomputable def oddS (S : St) (x : Cell) : Bool := x.k == Str.ofString "Regional_Indicator" && !S.odd
noncomputable def picS (S : St) (x : Cell) : Nat := if x.p = true then 1 else if (x.k == Str.ofString "ZWJ") = true ∧ S.pic = 1 then 2 else if (x.k == Str.ofString "Extend") = false ∨ S.pic ≠ 1 then 0 else S.pic
noncomputable def conS (S : St) (x : Cell) : Nat := if (x.i == Str.ofString "Consonant") = true then 1 else if (x.i == Str.ofString "Linker") = true ∧ 0 < S.con then 2 else if jointsF x.i = false then 0 else S.con
noncomputable def stepS (S : St) (x : Cell) : St := ⟨some x.k, oddS S x, picS S x, conS S x⟩
noncomputable def st0 : St := ⟨none, false, 0, 0⟩
noncomputable def stS (cells : List Cell) : Nat → St
  | 0 => st0
  | n + 1 => stepS (stS cells n) (cells.getD n c0)
noncomputable def CellsOk (cells : List Cell) : Prop := ∀ k, (cells.getD k c0).p = true → ((cells.getD k c0).k == Str.ofString "Extend") = false ∧ ((cells.getD k c0).k == Str.ofString "ZWJ") = false
theorem inv_odd (cells : List Cell) : ∀ j, (stS cells j).odd = (riBack cells j % 2 == 1)
  | 0 => rfl
  | j + 1 => by
    show oddS (stS cells j) _ = _
    unfold oddS riBack
    rw [inv_odd cells j]
    cases h : (cells.getD j c0).k == Str.ofString "Regional_Indicator" with
    | false => simp
    | true =>
      simp only [if_true, Bool.true_and]
      rcases Nat.mod_two_eq_zero_or_one (riBack cells j) with e | e
      · rw [e, show (riBack cells j + 1) % 2 = 1 by lia]; rfl
      · rw [e, show (riBack cells j + 1) % 2 = 0 by lia]; rfl
theorem inv_con (cells : List Cell) : ∀ j, (stS cells j).con ≤ 2 ∧ ∀ lk, conjBack cells lk j = ((stS cells j).con == 2 || ((stS cells j).con == 1 && lk))
  | 0 => ⟨Nat.zero_le _, fun lk => by cases lk <;> rfl⟩
  | j + 1 => by
    obtain ⟨h1, h2⟩ := inv_con cells j
    have e : (stS cells (j + 1)).con = conS (stS cells j) (cells.getD j c0) := rfl
    rw [e]
    unfold conS
    have hb : ∀ lk, conjBack cells lk (j + 1) = if ((cells.getD j c0).i == Str.ofString "Consonant") = true then lk
      else if jointsF (cells.getD j c0).i = true then conjBack cells (lk || (cells.getD j c0).i == Str.ofString "Linker") j else false := fun _ => rfl
    cases hc : (cells.getD j c0).i == Str.ofString "Consonant" with
    | true =>
      simp only [if_true]
      refine ⟨by decide, fun lk => ?_⟩
      rw [hb, if_pos hc]; rfl
    | false =>
      simp only [Bool.false_eq_true, if_false]
      cases hl : (cells.getD j c0).i == Str.ofString "Linker" with
      | true =>
        have hj : jointsF (cells.getD j c0).i = true := by
          rw [beq_iff_eq] at hl
          rw [hl]; decide
        simp only [true_and]
        by_cases hp : 0 < (stS cells j).con
        · rw [if_pos hp]
          refine ⟨by decide, fun lk => ?_⟩
          rw [hb, if_neg (by rw [hc]; decide), if_pos hj, hl, h2]
          have : (stS cells j).con = 1 ∨ (stS cells j).con = 2 := by lia
          rcases this with q | q <;> rw [q] <;> simp
        · rw [if_neg hp, if_neg (by rw [hj]; decide)]
          refine ⟨h1, fun lk => ?_⟩
          rw [hb, if_neg (by rw [hc]; decide), if_pos hj, hl, h2]
          have q : (stS cells j).con = 0 := by lia
          rw [q]; simp
      | false =>
        simp only [Bool.false_eq_true, false_and, if_false]
        cases hj : jointsF (cells.getD j c0).i with
        | true =>
          simp only [Bool.true_eq_false, if_false]
          refine ⟨h1, fun lk => ?_⟩
          rw [hb, if_neg (by rw [hc]; decide), if_pos hj, hl, h2, Bool.or_false]
        | false =>
          simp only [if_true]
          refine ⟨by decide, fun lk => ?_⟩
          rw [hb, if_neg (by rw [hc]; decide), if_neg (by rw [hj]; decide)]
          simp
noncomputable def pk (cells : List Cell) (j : Nat) : Bool := decide (0 < extBack cells j) && (cells.getD (extBack cells j - 1) c0).p
theorem pk_succ (cells : List Cell) (j : Nat) : pk cells (j + 1) = if ((cells.getD j c0).k == Str.ofString "Extend") = true then pk cells j else (cells.getD j c0).p := by
  have e : extBack cells (j + 1) = if ((cells.getD j c0).k == Str.ofString "Extend") = true then extBack cells j else j + 1 := rfl
  unfold pk
  rw [e]
  split
  · rfl
  · simp
theorem inv_pic {cells : List Cell} (C : CellsOk cells) : ∀ j, ((stS cells j).pic == 1) = pk cells j
  | 0 => rfl
  | j + 1 => by
    have ih := inv_pic C j
    have e : (stS cells (j + 1)).pic = picS (stS cells j) (cells.getD j c0) := rfl
    rw [e, pk_succ]
    unfold picS
    cases hp : (cells.getD j c0).p with
    | true => simp only [if_true]; rw [(C j hp).1]; simp
    | false =>
      simp only [Bool.false_eq_true, if_false]
      cases hz : (cells.getD j c0).k == Str.ofString "Extend" with
      | true =>
        have hz' : ((cells.getD j c0).k == Str.ofString "ZWJ") = false := by
          rw [beq_iff_eq] at hz
          rw [hz]; decide
        rw [hz']
        simp only [Bool.false_eq_true, false_and, if_false, if_true, Bool.true_eq_false, false_or]
        rw [← ih]
        by_cases q : (stS cells j).pic = 1
        · rw [if_neg (by simpa using q)]
        · rw [if_pos q]
          simpa using q
      | false =>
        simp only [Bool.false_eq_true, if_false, true_or, if_true]
        split <;> rfl
theorem pict_st {cells : List Cell} (C : CellsOk cells) (j : Nat) : pictF cells (j + 1) = ((cells.getD (j + 1) c0).p && (stS cells (j + 1)).pic == 2) := by
  have e : (stS cells (j + 1)).pic = picS (stS cells j) (cells.getD j c0) := rfl
  have ih := inv_pic C j
  rw [e]
  unfold pictF
  rw [Nat.add_sub_cancel, Bool.and_assoc, Bool.and_assoc]
  congr 1
  rw [show (decide (0 < extBack cells j) && (cells.getD (extBack cells j - 1) c0).p) = pk cells j from rfl, ← ih]
  unfold picS
  cases hp : (cells.getD j c0).p with
  | true => simp only [if_true]; rw [(C j hp).2]; rfl
  | false =>
    simp only [Bool.false_eq_true, if_false]
    cases hz : (cells.getD j c0).k == Str.ofString "ZWJ" with
    | true =>
      simp only [true_and, Bool.true_and]
      by_cases q : (stS cells j).pic = 1
      · rw [if_pos q, q]; rfl
      · rw [if_neg q]
        have : ((stS cells j).pic == 1) = false := by simpa using q
        rw [this]
        rw [if_pos (.inr q)]; rfl
    | false =>
      simp only [Bool.false_eq_true, false_and, if_false, Bool.false_and]
      split
      · rfl
      · rename_i h
        have : (stS cells j).pic = 1 := by
          apply Classical.byContradiction
          intro q
          exact h (.inr q)
        rw [this]; rfl
/-- a break, told by the state -/
theorem break_out {cells : List Cell} (C : CellsOk cells) {leg : Bool} {j : Nat} (h : j < cells.length) : breakF cells j leg = outS leg (stS cells j) (cells.getD j c0) := by
  cases j with
  | zero =>
    unfold breakF
    rw [if_pos (.inl rfl)]
    have : cells ≠ [] := by rintro rfl; simp at h
    simp [this, outS, stS, st0]
  | succ j =>
    rw [break_in (by lia) (by lia), Nat.add_sub_cancel]
    have hk : (stS cells (j + 1)).kind = some (cells.getD j c0).k := rfl
    unfold outS
    rw [hk]
    dsimp only
    cases hp : pairF (cells.getD j c0).k (cells.getD (j + 1) c0).k leg with
    | some b => rfl
    | none =>
      dsimp only
      unfold heldS
      rw [pict_st C]
      have h1 : flagF cells (j + 1) = ((cells.getD (j + 1) c0).k == Str.ofString "Regional_Indicator" && (stS cells (j + 1)).odd) := by
        unfold flagF
        rw [inv_odd]
      have h2 : conjF cells (j + 1) = ((cells.getD (j + 1) c0).i == Str.ofString "Consonant" && (stS cells (j + 1)).con == 2) := by
        unfold conjF
        have := (inv_con cells (j + 1)).2 false
        rw [this, Bool.and_false, Bool.or_false]
        cases (cells.getD (j + 1) c0).i == Str.ofString "Consonant" <;> rfl
      rw [h1, h2]
      generalize ((cells.getD (j + 1) c0).i == Str.ofString "Consonant") = a
      generalize ((stS cells (j + 1)).con == 2) = b
      generalize ((cells.getD (j + 1) c0).p && (stS cells (j + 1)).pic == 2) = c
      generalize ((cells.getD (j + 1) c0).k == Str.ofString "Regional_Indicator" && (stS cells (j + 1)).odd) = d
      cases a <;> cases b <;> cases c <;> cases d <;> cases leg <;> rfl


end
section
/-- a state, its last sign by number -/
noncomputable abbrev Sq := Nat × Bool × Nat × Nat
noncomputable def toSt (q : Sq) : St := ⟨some (symCell q.1).k, q.2.1, q.2.2.1, q.2.2.2⟩
noncomputable def stepQ (q : Sq) (y : Nat) : Sq :=
  (y, y == 8 && !q.2.1, if y = 10 then 1 else if y = 6 ∧ q.2.2.1 = 1 then 2 else if ¬ (y = 3 ∨ y = 4 ∨ y = 5) ∨ q.2.2.1 ≠ 1 then 0 else q.2.2.1,
    if y = 11 then 1 else if y = 5 ∧ 0 < q.2.2.2 then 2 else if ¬ (y = 3 ∨ y = 5 ∨ y = 6) then 0 else q.2.2.2)
theorem sym_is : ∀ y < 18, ((symCell y).k == Str.ofString "Regional_Indicator") = (y == 8) ∧ (symCell y).p = (y == 10) ∧ ((symCell y).k == Str.ofString "ZWJ") = (y == 6) ∧
    ((symCell y).k == Str.ofString "Extend") = (y == 3 || y == 4 || y == 5) ∧ ((symCell y).i == Str.ofString "Consonant") = (y == 11) ∧ ((symCell y).i == Str.ofString "Linker") = (y == 5) ∧ jointsF (symCell y).i = (y == 3 || y == 5 || y == 6) := by decide +kernel
theorem step_toSt {q : Sq} {y : Nat} (h : y < 18) : stepS (toSt q) (symCell y) = toSt (stepQ q y) := by
  obtain ⟨e1, e2, e3, e4, e5, e6, e7⟩ := sym_is y h
  unfold stepS toSt stepQ oddS picS conS
  rw [e1, e2, e3, e4, e5, e6, e7]
  simp only [St.mk.injEq, true_and]
  refine ⟨?_, ?_⟩
  · simp only [beq_iff_eq, Bool.or_eq_false_iff, beq_eq_false_iff_ne, ne_eq]
    by_cases a : y = 3 ∨ y = 4 ∨ y = 5
    · have a' : ¬ ((¬ y = 3 ∧ ¬ y = 4) ∧ ¬ y = 5) := by lia
      simp only [a, a', not_true]
    · have a' : ((¬ y = 3 ∧ ¬ y = 4) ∧ ¬ y = 5) := by lia
      simp only [a', not_false_eq_true, and_self, or_self]
      try simp only [a, not_false_eq_true]
  · simp only [beq_iff_eq, Bool.or_eq_false_iff, beq_eq_false_iff_ne, ne_eq]
    by_cases a : y = 3 ∨ y = 5 ∨ y = 6
    · have a' : ¬ ((¬ y = 3 ∧ ¬ y = 5) ∧ ¬ y = 6) := by lia
      simp only [a, a', not_true]
    · have a' : ((¬ y = 3 ∧ ¬ y = 5) ∧ ¬ y = 6) := by lia
      simp only [a', not_false_eq_true, and_self, or_self]
      try simp only [a, not_false_eq_true]
theorem step_st0 {y : Nat} (h : y < 18) : stepS st0 (symCell y) = toSt (stepQ (0, false, 0, 0) y) := by
  rw [← step_toSt h]; rfl
/-- the states that are reached -/
noncomputable def reach : List Sq := [(0,false,0,0),(1,false,0,0),(2,false,0,0),(3,false,0,0),(4,false,0,0),(5,false,0,0),(6,false,0,0),(7,false,0,0),(8,false,0,0),(9,false,0,0),(12,false,0,0),(13,false,0,0),(14,false,0,0),(15,false,0,0),(16,false,0,0),(17,false,0,0),
  (8,true,0,0),(10,false,1,0),(3,false,1,0),(4,false,1,0),(5,false,1,0),(6,false,2,0),(11,false,0,1),(3,false,0,1),(6,false,0,1),(3,false,0,2),(5,false,0,2),(6,false,0,2)]
/-- the modes: 0 behind CR, 1 behind a lone sign, 2 behind signs ahead, 3 behind one regional sign, 4 L, 5 V, 6 T, 7 a picture, 8 its joiner, 9 a consonant, 10 a linked one, 11 marks -/
noncomputable def modeOf (leg : Bool) (q : Sq) : Nat :=
  if q.1 = 0 then 0 else if q.1 = 1 ∨ q.1 = 2 then 1 else if q.1 = 9 then (if leg then 11 else 2) else if q.1 = 8 then (if q.2.1 then 3 else 11)
  else if q.1 = 13 then 4 else if q.1 = 14 ∨ q.1 = 16 then 5 else if q.1 = 15 ∨ q.1 = 17 then 6
  else if q.2.2.1 = 1 then 7 else if q.2.2.1 = 2 then 8 else if leg then 11 else if q.2.2.2 = 1 then 9 else if q.2.2.2 = 2 then 10 else 11
noncomputable def fresh (leg : Bool) (y : Nat) : Nat := modeOf leg (stepQ (0, false, 0, 0) y)
/-- a mode's step; 12: a break -/
noncomputable def tailM (leg : Bool) (y : Nat) : Nat := if y = 3 ∨ y = 4 ∨ y = 5 ∨ y = 6 ∨ (y = 7 ∧ leg = false) then 11 else 12
noncomputable def stepM (leg : Bool) (m y : Nat) : Nat :=
  if m = 0 then (if y = 1 then 1 else 12)
  else if m = 1 then 12
  else if m = 2 then (if y = 0 ∨ y = 1 ∨ y = 2 then 12 else fresh leg y)
  else if m = 3 then (if y = 8 then 11 else tailM leg y)
  else if m = 4 then (if y = 13 then 4 else if y = 14 ∨ y = 16 then 5 else if y = 17 then 6 else tailM leg y)
  else if m = 5 then (if y = 14 then 5 else if y = 15 then 6 else tailM leg y)
  else if m = 6 then (if y = 15 then 6 else tailM leg y)
  else if m = 7 then (if y = 3 ∨ y = 4 ∨ y = 5 then 7 else if y = 6 then 8 else tailM leg y)
  else if m = 8 then (if y = 10 then 7 else tailM leg y)
  else if m = 9 then (if y = 3 ∨ y = 6 then 9 else if y = 5 then 10 else tailM leg y)
  else if m = 10 then (if y = 3 ∨ y = 5 ∨ y = 6 then 10 else if y = 11 then 9 else tailM leg y)
  else tailM leg y
noncomputable def reachB (leg : Bool) (q : Sq) (y : Nat) : Bool :=
  decide (stepQ q y ∈ reach) && (!outS leg (toSt q) (symCell y) || modeOf leg (stepQ q y) == fresh leg y) &&
    (if outS leg (toSt q) (symCell y) = true then stepM leg (modeOf leg q) y == 12 else stepM leg (modeOf leg q) y == modeOf leg (stepQ q y) && decide (modeOf leg (stepQ q y) < 12))
theorem reach_all : ∀ leg, ∀ q ∈ reach, ∀ y < 18, reachB leg q y = true := by decide +kernel
theorem reach_step {leg : Bool} {q : Sq} {y : Nat} (hq : q ∈ reach) (hy : y < 18) : stepQ q y ∈ reach ∧ (outS leg (toSt q) (symCell y) = true → modeOf leg (stepQ q y) = fresh leg y ∧ stepM leg (modeOf leg q) y = 12) ∧
    (outS leg (toSt q) (symCell y) = false → stepM leg (modeOf leg q) y = modeOf leg (stepQ q y) ∧ modeOf leg (stepQ q y) < 12) := by
  have h := reach_all leg q hq y hy
  simp only [reachB, Bool.and_eq_true, decide_eq_true_eq] at h
  obtain ⟨⟨h1, h2⟩, h3⟩ := h
  refine ⟨h1, fun e => ?_, fun e => ?_⟩
  · rw [if_pos e, beq_iff_eq] at h3
    rw [e] at h2
    simp only [Bool.not_true, Bool.false_or, beq_iff_eq] at h2
    exact ⟨h2, h3⟩
  · rw [if_neg (by rw [e]; decide)] at h3
    simpa using h3
theorem reach_start : ∀ y < 18, stepQ (0, false, 0, 0) y ∈ reach := by decide +kernel
noncomputable def modeN (leg : Bool) (m : Nat) : List Nat → Nat
  | [] => 0
  | y :: r => if stepM leg m y = 12 then 0 else 1 + modeN leg (stepM leg m y) r
/-- the modes behind a place -/
noncomputable abbrev NM (leg : Bool) (W : List Nat) (m b : Nat) : Nat := modeN leg m (W.drop b)
section
variable {leg : Bool} {W : List Nat} {m m' b : Nat}
theorem wdrop {W : List Nat} {b : Nat} (h : b < W.length) : W.drop b = W.getD b 0 :: W.drop (b + 1) := by
  rw [List.drop_eq_getElem_cons h]
  simp [List.getD, h]
theorem NM_out (h : W.length ≤ b) : NM leg W m b = 0 := by
  unfold NM
  rw [List.drop_of_length_le h]; rfl
theorem NM_at (h : b < W.length) : NM leg W m b = if stepM leg m (W.getD b 0) = 12 then 0 else 1 + NM leg W (stepM leg m (W.getD b 0)) (b + 1) := by
  unfold NM
  rw [wdrop h]; rfl
theorem NM_same (h : b < W.length → stepM leg m (W.getD b 0) = stepM leg m' (W.getD b 0)) : NM leg W m b = NM leg W m' b := by
  by_cases hb : b < W.length
  · rw [NM_at hb, NM_at hb, h hb]
  · rw [NM_out (by lia), NM_out (by lia)]
end
/-- the word's cells -/
noncomputable abbrev cw (W : List Nat) : List Cell := W.map symCell
noncomputable def WOk (W : List Nat) : Prop := ∀ k, k < W.length → W.getD k 0 < 18
theorem cw_at {W : List Nat} {k : Nat} (h : k < W.length) : (cw W).getD k c0 = symCell (W.getD k 0) := by
  unfold cw
  simp [List.getD, h]
theorem cw_len {W : List Nat} : (cw W).length = W.length := List.length_map ..
theorem cw_ok {W : List Nat} (h : WOk W) : CellsOk (cw W) := by
  intro k
  by_cases hk : k < W.length
  · rw [cw_at hk]
    obtain ⟨e1, e2, e3, e4, e5, e6, e7⟩ := sym_is _ (h k hk)
    rw [e2, e4, e3]
    intro q
    rw [beq_iff_eq] at q
    rw [q]; decide
  · have : (cw W).getD k c0 = c0 := by
      unfold cw
      simp [List.getD, hk]
    rw [this]; decide
noncomputable def marksL (leg : Bool) : List Str := if leg = true then [Str.ofString "Extend", Str.ofString "ZWJ"] else [Str.ofString "Extend", Str.ofString "ZWJ", Str.ofString "SpacingMark"]
theorem sym_mark : ∀ leg, ∀ y < 18, ((marksL leg).any fun z => z == (symCell y).k) = (tailM leg y == 11) ∧ (tailM leg y = 11 ∨ tailM leg y = 12) := by decide +kernel
/-- marks: the mode 11 passes over just the marks -/
theorem tail_past {leg : Bool} {W : List Nat} (hW : WOk W) : ∀ (n b : Nat), W.length - b ≤ n → pastF (cw W) (marksL leg) b = b + NM leg W 11 b
  | 0, b, h => by rw [pastF_out (by rw [cw_len]; lia), NM_out (by lia), Nat.add_zero]
  | n + 1, b, h => by
    by_cases hb : b < W.length
    · have hs := sym_mark leg _ (hW b hb)
      have es : stepM leg 11 (W.getD b 0) = tailM leg (W.getD b 0) := rfl
      rw [NM_at hb, es]
      rcases hs.2 with q | q
      · rw [pastF_yes (by rw [cw_len]; exact hb) (by rw [cw_at hb, hs.1, q]; rfl), tail_past hW n (b + 1) (by lia), q, if_neg (by decide)]
        lia
      · rw [pastF_no (by rw [cw_len]; exact hb) (by rw [cw_at hb, hs.1, q]; rfl), q, if_pos rfl]; rfl
    · rw [pastF_out (by rw [cw_len]; lia), NM_out (by lia), Nat.add_zero]
noncomputable def PM (leg : Bool) (W : List Nat) (b : Nat) : Nat := pastF (cw W) (marksL leg) b
theorem PM_eq {leg : Bool} {W : List Nat} (hW : WOk W) (b : Nat) : PM leg W b = b + NM leg W 11 b := tail_past hW _ b (Nat.le_refl _)
/-- a loop over one kind: the mode m goes on as m over the kinds ys -/
theorem loop_past {leg : Bool} {W : List Nat} {m : Nat} {ys : List Str} (hW : WOk W) (hm : m < 12) (hy : ∀ y < 18, (ys.any fun z => z == (symCell y).k) = true → stepM leg m y = m) :
    ∀ (n b : Nat), W.length - b ≤ n → b + NM leg W m b = pastF (cw W) ys b + NM leg W m (pastF (cw W) ys b) ∧ (pastF (cw W) ys b < W.length → (ys.any fun z => z == (symCell (W.getD (pastF (cw W) ys b) 0)).k) = false)
  | 0, b, h => by
    rw [pastF_out (by rw [cw_len]; lia)]
    exact ⟨rfl, fun q => by lia⟩
  | n + 1, b, h => by
    by_cases hb : b < W.length
    · cases hk : ys.any fun z => z == (symCell (W.getD b 0)).k with
      | true =>
        have e := hy _ (hW b hb) hk
        rw [NM_at hb, e, if_neg (by lia), pastF_yes (by rw [cw_len]; exact hb) (by rw [cw_at hb]; exact hk)]
        have := loop_past hW hm hy n (b + 1) (by lia)
        exact ⟨by lia, this.2⟩
      | false =>
        rw [pastF_no (by rw [cw_len]; exact hb) (by rw [cw_at hb]; exact hk)]
        exact ⟨rfl, fun _ => hk⟩
    · rw [pastF_out (by rw [cw_len]; lia)]
      exact ⟨rfl, fun q => by lia⟩
theorem loop_past' {leg : Bool} {W : List Nat} {m b : Nat} {ys : List Str} (hW : WOk W) (hm : m < 12) (hy : ∀ y < 18, (ys.any fun z => z == (symCell y).k) = true → stepM leg m y = m) :
    b + NM leg W m b = pastF (cw W) ys b + NM leg W m (pastF (cw W) ys b) ∧ (pastF (cw W) ys b < W.length → (ys.any fun z => z == (symCell (W.getD (pastF (cw W) ys b) 0)).k) = false) := loop_past hW hm hy _ b (Nat.le_refl _)
theorem sT_step : ∀ leg, ∀ y < 18, (([Str.ofString "T"].any fun z => z == (symCell y).k) = true → stepM leg 6 y = 6) ∧ (([Str.ofString "T"].any fun z => z == (symCell y).k) = false → stepM leg 6 y = stepM leg 11 y) := by decide +kernel
theorem sT_end {leg : Bool} {W : List Nat} (hW : WOk W) (b : Nat) : b + NM leg W 6 b = PM leg W (pastF (cw W) [Str.ofString "T"] b) := by
  obtain ⟨h1, h2⟩ := loop_past' (leg := leg) (m := 6) (b := b) (ys := [Str.ofString "T"]) hW (by decide) (fun y hy => (sT_step leg y hy).1)
  rw [h1, PM_eq hW]
  congr 1
  exact NM_same fun hb => (sT_step leg _ (hW _ hb)).2 (h2 hb)
theorem sV_step : ∀ leg, ∀ y < 18, (([Str.ofString "V"].any fun z => z == (symCell y).k) = true → stepM leg 5 y = 5) ∧ (([Str.ofString "V"].any fun z => z == (symCell y).k) = false → stepM leg 5 y = stepM leg 6 y) := by decide +kernel
theorem sV_end {leg : Bool} {W : List Nat} (hW : WOk W) (b : Nat) : b + NM leg W 5 b = PM leg W (pastF (cw W) [Str.ofString "T"] (pastF (cw W) [Str.ofString "V"] b)) := by
  obtain ⟨h1, h2⟩ := loop_past' (leg := leg) (m := 5) (b := b) (ys := [Str.ofString "V"]) hW (by decide) (fun y hy => (sV_step leg y hy).1)
  rw [h1, ← sT_end hW]
  congr 1
  exact NM_same fun hb => (sV_step leg _ (hW _ hb)).2 (h2 hb)


end
section
theorem NM_one {leg : Bool} {W : List Nat} {m b : Nat} (h : W.length ≤ b ∨ stepM leg m (W.getD b 0) = 12) : NM leg W m b = 0 := by
  by_cases hb : b < W.length
  · rw [NM_at hb, if_pos (h.resolve_left (by lia))]
  · exact NM_out (by lia)
theorem NM_go {leg : Bool} {W : List Nat} {m m' b : Nat} (hb : b < W.length) (h : stepM leg m (W.getD b 0) = m') (h' : m' < 12) : NM leg W m b = 1 + NM leg W m' (b + 1) := by
  rw [NM_at hb, h, if_neg (by lia)]
set_option synthInstance.maxHeartbeats 4000000 in
set_option synthInstance.maxSize 100000 in
theorem sL_step : ∀ leg, ∀ y < 18, (([Str.ofString "L"].any fun z => z == (symCell y).k) = true → stepM leg 4 y = 4) ∧ (([Str.ofString "L"].any fun z => z == (symCell y).k) = false → ([Str.ofString "V", Str.ofString "LV"].any fun z => z == (symCell y).k) = true → stepM leg 4 y = 5) ∧
    (([Str.ofString "L"].any fun z => z == (symCell y).k) = false → ([Str.ofString "V", Str.ofString "LV"].any fun z => z == (symCell y).k) = false → ((symCell y).k == Str.ofString "LVT") = true → stepM leg 4 y = 6) ∧
    (([Str.ofString "L"].any fun z => z == (symCell y).k) = false → ([Str.ofString "V", Str.ofString "LV"].any fun z => z == (symCell y).k) = false → ((symCell y).k == Str.ofString "LVT") = false → stepM leg 4 y = stepM leg 11 y) := by decide +kernel
set_option synthInstance.maxHeartbeats 4000000 in
set_option synthInstance.maxSize 100000 in
theorem syl_start : ∀ leg, ∀ y < 18, 13 ≤ y →
    ((y = 13 ∧ ([Str.ofString "L"].any fun z => z == (symCell y).k) = true ∧ fresh leg y = 4) ∨
     (([Str.ofString "L"].any fun z => z == (symCell y).k) = false ∧ ([Str.ofString "V", Str.ofString "LV"].any fun z => z == (symCell y).k) = true ∧ fresh leg y = 5) ∨
     (([Str.ofString "L"].any fun z => z == (symCell y).k) = false ∧ ([Str.ofString "V", Str.ofString "LV"].any fun z => z == (symCell y).k) = false ∧ ((symCell y).k == Str.ofString "LVT") = true ∧ fresh leg y = 6) ∨
     (([Str.ofString "L"].any fun z => z == (symCell y).k) = false ∧ ([Str.ofString "V", Str.ofString "LV"].any fun z => z == (symCell y).k) = false ∧ ((symCell y).k == Str.ofString "LVT") = false ∧ ([Str.ofString "T"].any fun z => z == (symCell y).k) = true ∧ fresh leg y = 6)) := by decide +kernel
theorem syl_end {leg : Bool} {W : List Nat} (hW : WOk W) {a : Nat} (h : a < W.length) (hy : 13 ≤ W.getD a 0) : PM leg W (sylEnd (cw W) a) = a + 1 + NM leg W (fresh leg (W.getD a 0)) (a + 1) := by
  have hl : a < (cw W).length := by rw [cw_len]; exact h
  have ea := cw_at h
  unfold sylEnd
  rcases syl_start leg _ (hW a h) hy with ⟨_, h1, h2⟩ | ⟨h1, h2, h3⟩ | ⟨h1, h2, h3, h4⟩ | ⟨h1, h2, h3, h4, h5⟩
  · rw [pastF_yes hl (by rw [ea]; exact h1), h2]
    have hge := pastF_ge (cells := cw W) (ys := [Str.ofString "L"]) (a := a + 1)
    obtain ⟨l1, l2⟩ := loop_past' (leg := leg) (m := 4) (b := a + 1) (ys := [Str.ofString "L"]) hW (by decide) (fun y hy => (sL_step leg y hy).1)
    rw [l1]
    revert l2 hge
    generalize pastF (cw W) [Str.ofString "L"] (a + 1) = here
    intro hge l2
    unfold sylOn
    rw [cw_len]
    by_cases hh : here < W.length
    · obtain ⟨_, s2, s3, s4⟩ := sL_step leg _ (hW here hh)
      have l2 := l2 hh
      rw [cw_at hh]
      cases k1 : [Str.ofString "V", Str.ofString "LV"].any fun z => z == (symCell (W.getD here 0)).k with
      | true =>
        rw [if_pos ⟨hh, rfl⟩, ← sV_end hW, NM_go hh (s2 l2 k1) (by decide)]; lia
      | false =>
        rw [if_neg (by simp)]
        cases k2 : (symCell (W.getD here 0)).k == Str.ofString "LVT" with
        | true => rw [if_pos ⟨hh, rfl⟩, ← sT_end hW, NM_go hh (s3 l2 k1 k2) (by decide)]; lia
        | false =>
          rw [if_neg (by simp), if_pos (by lia), PM_eq hW]
          congr 1
          exact (NM_same fun _ => s4 l2 k1 k2).symm
    · rw [if_neg (fun q => hh q.1), if_neg (fun q => hh q.1), if_pos (by lia), PM_eq hW, NM_out (by lia), NM_out (by lia)]
  · rw [pastF_no hl (by rw [ea]; exact h1), h3]
    unfold sylOn
    rw [ea, if_pos ⟨hl, h2⟩, ← sV_end hW]
  · rw [pastF_no hl (by rw [ea]; exact h1), h4]
    unfold sylOn
    rw [ea, if_neg (by rw [h2]; simp), if_pos ⟨hl, h3⟩, ← sT_end hW]
  · rw [pastF_no hl (by rw [ea]; exact h1), h5]
    unfold sylOn
    rw [ea, if_neg (by rw [h2]; simp), if_neg (by rw [h3]; simp), if_neg (by lia), pastF_yes hl (by rw [ea]; exact h4), ← sT_end hW]
theorem pic_step : ∀ leg, ∀ y < 18, (([Str.ofString "Extend"].any fun z => z == (symCell y).k) = true → stepM leg 7 y = 7 ∧ stepM leg 11 y = 11) ∧
    (((symCell y).k == Str.ofString "ZWJ") = true → stepM leg 7 y = 8 ∧ stepM leg 11 y = 11) ∧
    (([Str.ofString "Extend"].any fun z => z == (symCell y).k) = false → ((symCell y).k == Str.ofString "ZWJ") = false → stepM leg 7 y = stepM leg 11 y) ∧
    ((symCell y).p = true → stepM leg 8 y = 7) ∧ ((symCell y).p = false → stepM leg 8 y = stepM leg 11 y) := by decide +kernel
theorem pics_end {leg : Bool} {W : List Nat} (hW : WOk W) : ∀ f here, W.length + 1 ≤ f + here → PM leg W (picsF (cw W) f here) = here + NM leg W 7 here
  | 0, here, h => by
    show PM leg W here = _
    rw [PM_eq hW, NM_out (by lia), NM_out (by lia)]
  | f + 1, here, h => by
    rw [picsF_succ]
    obtain ⟨l1, l2⟩ := loop_past' (leg := leg) (m := 7) (b := here) (ys := [Str.ofString "Extend"]) hW (by decide) (fun y hy q => ((pic_step leg y hy).1 q).1)
    obtain ⟨l3, _⟩ := loop_past' (leg := leg) (m := 11) (b := here) (ys := [Str.ofString "Extend"]) hW (by decide) (fun y hy q => ((pic_step leg y hy).1 q).2)
    have hge := pastF_ge (cells := cw W) (ys := [Str.ofString "Extend"]) (a := here)
    rw [l1]
    have e0 : PM leg W here = pastF (cw W) [Str.ofString "Extend"] here + NM leg W 11 (pastF (cw W) [Str.ofString "Extend"] here) := by rw [PM_eq hW, l3]
    revert e0 l2 hge
    generalize pastF (cw W) [Str.ofString "Extend"] here = t
    intro l2 hge e0
    by_cases ht : t < W.length
    · obtain ⟨_, s2, s3, _⟩ := pic_step leg _ (hW t ht)
      rw [cw_at ht]
      cases k1 : (symCell (W.getD t 0)).k == Str.ofString "ZWJ" with
      | false =>
        rw [if_neg (by simp), e0]
        congr 1
        exact (NM_same fun _ => s3 (l2 ht) k1).symm
      | true =>
        obtain ⟨z1, z2⟩ := s2 k1
        by_cases h1 : t + 1 < W.length
        · obtain ⟨_, _, _, s4, s5⟩ := pic_step leg _ (hW (t + 1) h1)
          rw [cw_at h1]
          cases k2 : (symCell (W.getD (t + 1) 0)).p with
          | true =>
            rw [if_pos ⟨by rw [cw_len]; exact h1, rfl, rfl⟩, pics_end hW f (t + 2) (by lia), NM_go ht z1 (by decide), NM_go h1 (s4 k2) (by decide), show t + 1 + 1 = t + 2 from rfl]
            lia
          | false =>
            rw [if_neg (by simp), e0, NM_go ht z1 (by decide), NM_go ht z2 (by decide)]
            congr 2
            exact (NM_same fun _ => s5 k2).symm
        · rw [if_neg (fun q => h1 (by have := q.1; rw [cw_len] at this; exact this)), e0, NM_go ht z1 (by decide), NM_go ht z2 (by decide), NM_out (by lia), NM_out (by lia)]
    · rw [if_neg (fun q => by have := q.1; rw [cw_len] at this; lia), e0, NM_out (by lia), NM_out (by lia)]
noncomputable def conM (lk : Bool) : Nat := if lk = true then 10 else 9
theorem con_step : ∀ lk, ∀ y < 18, (jointsF (symCell y).i = true → stepM false (conM lk) y = conM (lk || (symCell y).i == Str.ofString "Linker") ∧ stepM false 11 y = 11) ∧
    (jointsF (symCell y).i = false → ((symCell y).i == Str.ofString "Consonant") = false → stepM false (conM lk) y = stepM false 11 y) ∧
    (((symCell y).i == Str.ofString "Consonant") = true → stepM false 10 y = 9 ∧ stepM false 9 y = 12 ∧ stepM false 11 y = 12) := by decide +kernel
theorem con_lt {lk : Bool} : conM lk < 12 := by cases lk <;> decide
theorem con_run {W : List Nat} (hW : WOk W) : ∀ (n b : Nat) (lk : Bool), W.length - b ≤ n → b + NM false W (conM lk) b = runF (cw W) b + NM false W (conM (lk || runLF (cw W) b)) (runF (cw W) b) ∧
    b + NM false W 11 b = runF (cw W) b + NM false W 11 (runF (cw W) b) ∧ (runF (cw W) b < W.length → jointsF (symCell (W.getD (runF (cw W) b) 0)).i = false)
  | 0, b, lk, h => by
    obtain ⟨r1, r2⟩ := run_out (cells := cw W) (a := b) (by rw [cw_len]; lia)
    rw [r1, r2, Bool.or_false]
    exact ⟨rfl, rfl, fun q => by lia⟩
  | n + 1, b, lk, h => by
    by_cases hb : b < W.length
    · have hl : b < (cw W).length := by rw [cw_len]; exact hb
      cases k : jointsF (symCell (W.getD b 0)).i with
      | true =>
        obtain ⟨r1, r2⟩ := run_yes hl (by rw [cw_at hb]; exact k)
        obtain ⟨z1, z2⟩ := (con_step lk _ (hW b hb)).1 k
        rw [r1, r2, cw_at hb, NM_go hb z1 con_lt, NM_go hb z2 (by decide), ← Bool.or_assoc]
        obtain ⟨i1, i2, i3⟩ := con_run hW n (b + 1) (lk || (symCell (W.getD b 0)).i == Str.ofString "Linker") (by lia)
        exact ⟨by lia, by lia, i3⟩
      | false =>
        obtain ⟨r1, r2⟩ := run_no hl (by rw [cw_at hb]; exact k)
        rw [r1, r2, Bool.or_false]
        exact ⟨rfl, rfl, fun _ => k⟩
    · obtain ⟨r1, r2⟩ := run_out (cells := cw W) (a := b) (by rw [cw_len]; lia)
      rw [r1, r2, Bool.or_false]
      exact ⟨rfl, rfl, fun q => by lia⟩
theorem cons_end {W : List Nat} (hW : WOk W) : ∀ f here, W.length ≤ f + here → PM false W (consF (cw W) f here) = here + NM false W 9 here
  | 0, here, h => by
    show PM false W here = _
    rw [PM_eq hW, NM_out (by lia), NM_out (by lia)]
  | f + 1, here, h => by
    rw [consF_succ]
    obtain ⟨l1, l3, l2⟩ := con_run hW _ here false (Nat.le_refl _)
    have hge := runF_ge (cells := cw W) (a := here)
    have e0 : PM false W here = runF (cw W) here + NM false W 11 (runF (cw W) here) := by rw [PM_eq hW, l3]
    rw [show here + NM false W 9 here = runF (cw W) here + NM false W (conM (false || runLF (cw W) here)) (runF (cw W) here) from l1, Bool.false_or]
    revert e0 l2 hge
    generalize runF (cw W) here = t
    generalize runLF (cw W) here = lk
    intro l2 hge e0
    by_cases ht : t < W.length
    · obtain ⟨_, s2, s3⟩ := con_step lk _ (hW t ht)
      rw [cw_at ht]
      cases k1 : (symCell (W.getD t 0)).i == Str.ofString "Consonant" with
      | false =>
        rw [if_neg (by simp), e0]
        congr 1
        exact (NM_same fun _ => s2 (l2 ht) k1).symm
      | true =>
        obtain ⟨z1, z2, z3⟩ := s3 k1
        cases lk with
        | true =>
          rw [if_pos ⟨rfl, by rw [cw_len]; exact ht, rfl⟩, cons_end hW f (t + 1) (by lia), show conM true = 10 from rfl, NM_go ht z1 (by decide)]
          lia
        | false =>
          rw [if_neg (by simp), e0, show conM false = 9 from rfl, NM_one (.inr z2), NM_one (.inr z3)]
    · rw [if_neg (fun q => by have := q.2.1; rw [cw_len] at this; lia), e0, NM_out (by lia), NM_out (by lia)]
set_option synthInstance.maxHeartbeats 4000000 in
set_option synthInstance.maxSize 100000 in
theorem core_sym : ∀ y < 18, ((symCell y).k == Str.ofString "Regional_Indicator") = (y == 8) ∧ hangF (symCell y).k = decide (13 ≤ y) ∧ (symCell y).p = (y == 10) ∧ ((symCell y).i == Str.ofString "Consonant") = (y == 11) ∧
    loneF (symCell y).k = (y == 0 || y == 1 || y == 2) ∧ ((symCell y).k == Str.ofString "Prepend") = (y == 9) ∧ ((symCell y).k == Str.ofString "CR") = (y == 0) ∧ ((symCell y).k == Str.ofString "LF") = (y == 1) := by decide +kernel
set_option synthInstance.maxHeartbeats 4000000 in
set_option synthInstance.maxSize 100000 in
theorem core_fresh : ∀ leg, ∀ y < 18, (y = 8 → fresh leg y = 3) ∧ (y = 10 → fresh leg y = 7) ∧ (y = 11 → fresh leg y = if leg = true then 11 else 9) ∧ (y = 9 → fresh leg y = if leg = true then 11 else 2) ∧ (y = 0 → fresh leg y = 0) ∧ (y = 1 ∨ y = 2 → fresh leg y = 1) ∧
    ((y = 3 ∨ y = 4 ∨ y = 5 ∨ y = 6 ∨ y = 7 ∨ y = 12) → fresh leg y = 11) := by decide +kernel
set_option synthInstance.maxHeartbeats 4000000 in
set_option synthInstance.maxSize 100000 in
theorem core_rest : ∀ leg, ∀ y < 18, ¬ (y = 0 ∨ y = 1 ∨ y = 2) → ¬ y = 8 → ¬ 13 ≤ y → ¬ y = 10 → ¬ y = 11 → ¬ y = 9 → fresh leg y = 11 := by decide +kernel
theorem mode_ri : ∀ leg, ∀ y < 18, (y = 8 → stepM leg 3 y = 11) ∧ (y ≠ 8 → stepM leg 3 y = stepM leg 11 y) := by decide +kernel
theorem mode_pre : ∀ leg, ∀ y < 18, ((y = 0 ∨ y = 1 ∨ y = 2) → stepM leg 2 y = 12 ∧ stepM leg 11 y = 12) ∧ (¬ (y = 0 ∨ y = 1 ∨ y = 2) → stepM leg 2 y = fresh leg y) ∧ fresh leg y < 12 := by decide +kernel
theorem mode_cr : ∀ leg, ∀ y < 18, (y = 1 → stepM leg 0 y = 1) ∧ (y ≠ 1 → stepM leg 0 y = 12) ∧ stepM leg 1 y = 12 := by decide +kernel
theorem core_end {leg : Bool} {W : List Nat} (hW : WOk W) {a : Nat} (h : a < W.length) (hn : ¬ (W.getD a 0 = 0 ∨ W.getD a 0 = 1 ∨ W.getD a 0 = 2)) (hp : W.getD a 0 = 9 → leg = true) :
    PM leg W (coreF (cw W) leg a) = a + 1 + NM leg W (fresh leg (W.getD a 0)) (a + 1) := by
  have hy := hW a h
  obtain ⟨e1, e2, e3, e4, e5, e6, e7, e8⟩ := core_sym _ hy
  obtain ⟨f1, f2, f3, f4, f5, f6, f7⟩ := core_fresh leg _ hy
  unfold coreF
  rw [cw_at h, e1, e2, e3, e4, cw_len]
  by_cases c8 : W.getD a 0 = 8
  · rw [c8] at f1 ⊢
    rw [if_pos (by rfl), f1 rfl]
    by_cases h1 : a + 1 < W.length
    · have g1 := (core_sym _ (hW _ h1)).1
      obtain ⟨g2, g3⟩ := mode_ri leg _ (hW _ h1)
      rw [cw_at h1, show (symCell 8).k = Str.ofString "Regional_Indicator" from rfl, g1]
      by_cases d8 : W.getD (a + 1) 0 = 8
      · rw [if_pos ⟨h1, by rw [d8]; rfl⟩, PM_eq hW, NM_go h1 (g2 d8) (by decide), show a + 1 + 1 = a + 2 from rfl]; lia
      · rw [if_neg (fun q => d8 (by simpa using q.2)), PM_eq hW]
        congr 1
        exact (NM_same fun _ => g3 d8).symm
    · rw [if_neg (fun q => h1 q.1), PM_eq hW, NM_out (Nat.le_of_not_lt h1), NM_out (Nat.le_of_not_lt h1)]
  · rw [if_neg (by simpa using c8)]
    by_cases c13 : 13 ≤ W.getD a 0
    · rw [if_pos (by simpa using c13), syl_end hW h c13]
    · rw [if_neg (by simpa using c13)]
      by_cases c10 : W.getD a 0 = 10
      · rw [if_pos (by simpa using c10), f2 c10]
        unfold picsEnd
        exact pics_end hW _ _ (by rw [cw_len]; lia)
      · rw [if_neg (by simpa using c10)]
        by_cases c11 : W.getD a 0 = 11
        · cases leg with
          | true => rw [if_neg (by simp), f3 c11, PM_eq hW]; rfl
          | false =>
            rw [if_pos ⟨by simpa using c11, rfl⟩, f3 c11]
            unfold consEnd
            exact cons_end hW _ _ (by rw [cw_len]; lia)
        · rw [if_neg (fun q => c11 (by simpa using q.1)), PM_eq hW]
          congr 1
          by_cases c9 : W.getD a 0 = 9
          · rw [f4 c9, hp c9]; rfl
          · rw [core_rest leg _ hy hn c8 c13 c10 c11 c9]
theorem pre_end {W : List Nat} (hW : WOk W) : ∀ (n a : Nat), W.length - a ≤ n → a < W.length → ¬ (W.getD a 0 = 0 ∨ W.getD a 0 = 1 ∨ W.getD a 0 = 2) → PM false W (coreF (cw W) false (a + preN ((cw W).drop a))) = a + 1 + NM false W (fresh false (W.getD a 0)) (a + 1)
  | 0, a, h, h1, _ => by lia
  | n + 1, a, h, h1, hn => by
    have hm : W.length - (a + 1) ≤ n := by lia
    have hx : ∀ p, a + (p + 1) = a + 1 + p := fun p => by rw [Nat.add_comm p 1, Nat.add_assoc]
    have hz : ∀ q, a + 1 + 1 + q = a + 1 + (1 + q) := fun q => Nat.add_assoc (a + 1) 1 q
    obtain ⟨e1, e2, e3, e4, e5, e6, e7, e8⟩ := core_sym _ (hW a h1)
    obtain ⟨f1, f2, f3, f4, f5, f6, f7⟩ := core_fresh false _ (hW a h1)
    rw [preN_at (by rw [cw_len]; exact h1), cw_at h1, e6, cw_len]
    by_cases c9 : W.getD a 0 = 9
    · rw [f4 c9]
      by_cases h2 : a + 1 < W.length
      · obtain ⟨_, _, _, _, g5, _⟩ := core_sym _ (hW _ h2)
        obtain ⟨g1, g2, g3⟩ := mode_pre false _ (hW _ h2)
        rw [cw_at h2, g5]
        by_cases l1 : W.getD (a + 1) 0 = 0 ∨ W.getD (a + 1) 0 = 1 ∨ W.getD (a + 1) 0 = 2
        · have hb : (W.getD (a + 1) 0 == 0 || W.getD (a + 1) 0 == 1 || W.getD (a + 1) 0 == 2) = true := by simpa [or_assoc] using l1
          rw [if_neg (fun q => by have := q.2.2; rw [hb] at this; cases this), Nat.add_zero]
          have ec : coreF (cw W) false a = a + 1 := by
            unfold coreF
            rw [cw_at h1, e1, e2, e3, e4, c9]
            rfl
          rw [ec, PM_eq hW, NM_one (.inr (g1 l1).2), if_neg (by decide), NM_one (.inr (g1 l1).1)]
        · have hb : (W.getD (a + 1) 0 == 0 || W.getD (a + 1) 0 == 1 || W.getD (a + 1) 0 == 2) = false := by
            simp only [Bool.or_eq_false_iff, beq_eq_false_iff_ne, ne_eq]; exact ⟨⟨fun h => l1 (.inl h), fun h => l1 (.inr (.inl h))⟩, fun h => l1 (.inr (.inr h))⟩
          rw [if_pos ⟨by rw [c9]; rfl, h2, hb⟩, if_neg (by decide), NM_go h2 (g2 l1) g3, hx, pre_end hW n (a + 1) hm h2 l1]
          exact hz _
      · rw [if_neg (fun q => h2 q.2.1), Nat.add_zero]
        have ec : coreF (cw W) false a = a + 1 := by
          unfold coreF
          rw [cw_at h1, e1, e2, e3, e4, c9]
          rfl
        rw [ec, PM_eq hW, NM_out (Nat.le_of_not_lt h2), NM_out (Nat.le_of_not_lt h2)]
    · rw [if_neg (fun q => c9 (by simpa using q.1)), Nat.add_zero]
      exact core_end hW h1 hn fun q => absurd q c9
/-- the law's grammar, by the modes -/
theorem end_modes {leg : Bool} {W : List Nat} (hW : WOk W) {a : Nat} (h : a < W.length) : endF (cw W) leg a = a + 1 + NM leg W (fresh leg (W.getD a 0)) (a + 1) := by
  obtain ⟨e1, e2, e3, e4, e5, e6, e7, e8⟩ := core_sym _ (hW a h)
  obtain ⟨f1, f2, f3, f4, f5, f6, f7⟩ := core_fresh leg _ (hW a h)
  unfold endF
  rw [cw_at h, e5, e7, cw_len]
  by_cases l1 : W.getD a 0 = 0 ∨ W.getD a 0 = 1 ∨ W.getD a 0 = 2
  · have hb : (W.getD a 0 == 0 || W.getD a 0 == 1 || W.getD a 0 == 2) = true := by simpa [or_assoc] using l1
    rw [if_pos hb]
    by_cases c0 : W.getD a 0 = 0
    · rw [f5 c0]
      by_cases h1 : a + 1 < W.length
      · obtain ⟨_, _, _, _, _, _, _, g8⟩ := core_sym _ (hW _ h1)
        obtain ⟨g1, g2, _⟩ := mode_cr leg _ (hW _ h1)
        rw [cw_at h1, g8]
        by_cases d1 : W.getD (a + 1) 0 = 1
        · rw [if_pos ⟨by rw [c0]; rfl, h1, by rw [d1]; rfl⟩, NM_go h1 (g1 d1) (by decide)]
          have : NM leg W 1 (a + 1 + 1) = 0 := by
            by_cases h2 : a + 1 + 1 < W.length
            · obtain ⟨_, _, q⟩ := mode_cr leg _ (hW _ h2)
              exact NM_one (.inr q)
            · exact NM_out (by lia)
          rw [this]
        · rw [if_neg (fun q => d1 (by simpa using q.2.2)), NM_one (.inr (g2 d1))]
      · rw [if_neg (fun q => h1 q.2.1), NM_out (by lia)]
    · rw [if_neg (fun q => c0 (by simpa using q.1)), f6 (by lia)]
      have : NM leg W 1 (a + 1) = 0 := by
        by_cases h2 : a + 1 < W.length
        · obtain ⟨_, _, q⟩ := mode_cr leg _ (hW _ h2)
          exact NM_one (.inr q)
        · exact NM_out (by lia)
      rw [this]
  · have hb : (W.getD a 0 == 0 || W.getD a 0 == 1 || W.getD a 0 == 2) = false := by
      simp only [Bool.or_eq_false_iff, beq_eq_false_iff_ne, ne_eq]; lia
    rw [if_neg (by rw [hb]; decide)]
    show PM leg W (coreF (cw W) leg (preF (cw W) leg a)) = _
    unfold preF
    cases leg with
    | true => rw [if_pos rfl]; exact core_end hW h l1 fun _ => rfl
    | false => rw [if_neg (by decide)]; exact pre_end hW _ a (Nat.le_refl _) h l1
/-- the states, by number -/
theorem st_reach {W : List Nat} (hW : WOk W) : ∀ j, j < W.length → ∃ q ∈ reach, stS (cw W) (j + 1) = toSt q ∧ q = (if j = 0 then stepQ (0, false, 0, 0) (W.getD 0 0) else q)
  | 0, h => ⟨_, reach_start _ (hW 0 h), by show stepS st0 _ = _; rw [cw_at h, step_st0 (hW 0 h)], rfl⟩
  | j + 1, h => by
    obtain ⟨q, hq, e, _⟩ := st_reach hW j (by lia)
    refine ⟨stepQ q (W.getD (j + 1) 0), (reach_step (leg := false) hq (hW _ h)).1, ?_, rfl⟩
    show stepS (stS (cw W) (j + 1)) _ = _
    rw [e, cw_at h, step_toSt (hW _ h)]
/-- a run without breaks -/
theorem seg_run {leg : Bool} {W : List Nat} (hW : WOk W) : ∀ (n j : Nat) (q : Sq), W.length - j ≤ n → j ≤ W.length → q ∈ reach → stS (cw W) j = toSt q →
    j + NM leg W (modeOf leg q) j ≤ W.length ∧ (∀ i, j ≤ i → i < j + NM leg W (modeOf leg q) j → outS leg (stS (cw W) i) ((cw W).getD i c0) = false) ∧
      (j + NM leg W (modeOf leg q) j < W.length → outS leg (stS (cw W) (j + NM leg W (modeOf leg q) j)) ((cw W).getD (j + NM leg W (modeOf leg q) j) c0) = true)
  | 0, j, q, h, hj, hq, e => by
    rw [NM_out (by lia)]
    exact ⟨by lia, fun i a b => by lia, fun x => by lia⟩
  | n + 1, j, q, h, hj, hq, e => by
    by_cases hb : j < W.length
    · obtain ⟨r1, r2, r3⟩ := reach_step (leg := leg) hq (hW j hb)
      cases ho : outS leg (toSt q) (symCell (W.getD j 0)) with
      | true =>
        rw [NM_one (.inr (r2 ho).2)]
        exact ⟨by lia, fun i a b => by lia, fun _ => by rw [Nat.add_zero, e, cw_at hb]; exact ho⟩
      | false =>
        obtain ⟨z1, z2⟩ := r3 ho
        rw [NM_go hb z1 z2]
        obtain ⟨i1, i2, i3⟩ := seg_run hW n (j + 1) (stepQ q (W.getD j 0)) (by lia) (by lia) r1 (by show stepS (stS (cw W) j) _ = _; rw [e, cw_at hb, step_toSt (hW j hb)])
        rw [show j + (1 + NM leg W (modeOf leg (stepQ q (W.getD j 0))) (j + 1)) = j + 1 + NM leg W (modeOf leg (stepQ q (W.getD j 0))) (j + 1) by lia]
        refine ⟨i1, fun i a b => ?_, i3⟩
        by_cases ei : i = j
        · rw [ei, e, cw_at hb]; exact ho
        · exact i2 i (by lia) b
    · rw [NM_out (by lia)]
      exact ⟨by lia, fun i a b => by lia, fun x => by lia⟩
/-- the plain law: from a break the grammar tells the next break -/
theorem end_break {leg : Bool} {W : List Nat} (hW : WOk W) {a : Nat} (h : a < W.length) (hbr : breakF (cw W) a leg = true) :
    a < endF (cw W) leg a ∧ endF (cw W) leg a ≤ W.length ∧ (∀ j, a < j → j < endF (cw W) leg a → breakF (cw W) j leg = false) ∧ breakF (cw W) (endF (cw W) leg a) leg = true := by
  have C := cw_ok hW
  rw [break_out C (by rw [cw_len]; exact h)] at hbr
  have hm : ∃ q ∈ reach, stS (cw W) (a + 1) = toSt q ∧ modeOf leg q = fresh leg (W.getD a 0) := by
    cases a with
    | zero => exact ⟨_, reach_start _ (hW 0 h), by show stepS st0 _ = _; rw [cw_at h, step_st0 (hW 0 h)], rfl⟩
    | succ j =>
      obtain ⟨q, hq, e, _⟩ := st_reach hW j (by lia)
      rw [e, cw_at h] at hbr
      obtain ⟨r1, r2, r3⟩ := reach_step (leg := leg) hq (hW _ h)
      exact ⟨stepQ q (W.getD (j + 1) 0), r1, by show stepS (stS (cw W) (j + 1)) _ = _; rw [e, cw_at h, step_toSt (hW _ h)], (r2 hbr).1⟩
  obtain ⟨q, hq, e, em⟩ := hm
  obtain ⟨i1, i2, i3⟩ := seg_run (leg := leg) hW _ (a + 1) q (Nat.le_refl _) (by lia) hq e
  rw [em] at i1 i2 i3
  rw [end_modes hW h]
  refine ⟨by lia, i1, fun j h1 h2 => ?_, ?_⟩
  · rw [break_out C (by rw [cw_len]; lia)]
    exact i2 j (by lia) h2
  · by_cases hl : a + 1 + NM leg W (fresh leg (W.getD a 0)) (a + 1) < W.length
    · rw [break_out C (by rw [cw_len]; exact hl)]
      exact i3 hl
    · unfold breakF
      rw [if_pos (.inr (by rw [cw_len]; lia))]
      have : cw W ≠ [] := by
        intro q
        have := cw_len (W := W)
        rw [q] at this
        simp at this
        lia
      simp [this]


end
section
theorem words_ldata_1 : True := by
  k_with "my room" => ((try simp only [depth_under_make, units_under_make, depth_deeper, units_deeper]); (try dsimp only [Around.deeper, Around.mark, Around.in1]); k_extra "my roomx")
  trivial
theorem defs_split {g h : Heap} {L x d0 d : Addr} {o : Obj} {news news9 : List (Addr × Obj)} (N9 : News g L h news9) (l1 : ∀ p ∈ news, @LT.lt Nat _ p.1 d0) (l2 : @LT.lt Nat _ d0 x) (z1 : (d, o) ∈ news9)
    (z5 : ∀ p ∈ (x, instObj 246 d0) :: (d0, dictOf [] 0) :: news, isIt p.2 = false → p ∈ news9) (z6 : ∀ p ∈ (x, instObj 246 d0) :: (d0, dictOf [] 0) :: news, p.1 ≠ d) :
    ∃ R9 : List (Addr × Obj), (∀ p ∈ R9, p.1 ≠ d0) ∧ (∀ p ∈ news, isIt p.2 = false → p ∈ R9) ∧ (x, instObj 246 d0) ∈ R9 ∧ (d, o) ∈ R9 ∧ News g L h ((d0, dictOf [] 0) :: R9) := by
  have y1 := z5 _ (List.Mem.tail _ (List.Mem.head _)) rfl
  have y2 := z5 _ (List.Mem.head _) rfl
  have y3 := z6 _ (List.Mem.tail _ (List.Mem.head _))
  have w2 : ∀ p ∈ news9, p.1 ≠ d0 → p ∈ news9.filter fun p => p.1 != d0 := fun p hp hn => List.mem_filter.mpr ⟨hp, by simpa using hn⟩
  refine ⟨news9.filter fun p => p.1 != d0, fun p hp => by simpa using (List.mem_filter.mp hp).2, fun p hp hit => w2 p (z5 p (List.Mem.tail _ (List.Mem.tail _ hp)) hit) (Nat.ne_of_lt (l1 p hp)), w2 _ y2 (Nat.ne_of_gt l2), w2 _ z1 (Ne.symm y3), kst_newsOf N9 ?_⟩
  intro p hp
  rcases List.mem_cons.mp hp with rfl | hp
  · exact y1
  · exact (List.mem_filter.mp hp).1
theorem dst_make {w : World} {g h : Heap} {L x d dm dd : Addr} {o om : Obj} {a b : Addr × Obj} {R9 : List (Addr × Obj)} {kvs : List (Str × Value)} {h1 h2 h3 h4 : Int} {t1 t2 t3 t4 : Tok} {v3 v4 : Value}
    (_N : News g L h (a :: b :: (dm, om) :: (dd, dictOf [⟨h1, .str (Str.ofString "defaults") t1, .ref d⟩, ⟨h2, .str (Str.ofString "maps") t2, .ref dm⟩, ⟨h3, .str (Str.ofString "properties") t3, v3⟩, ⟨h4, .str (Str.ofString "words") t4, v4⟩] 4) :: R9))
    (x1 : (x, instObj 246 dd) ∈ R9) (x2 : (d, o) ∈ R9) (lo : (dm == sysModules) = false) (hs : om.IsDictOf (SK w) []) (z2 : o.IsDictOf (SK w) kvs) (z3 : (d == sysModules) = false)
    (z4 : ∀ x ∈ three, ∃ v0, valueAt kvs x = some v0 ∧ dvOf v0 = defD x) (l9 : @LT.lt Nat _ dd dm ∧ AllLt dm R9) {K : List (Addr × Obj)} (z5 : ∀ p ∈ K, p ∈ R9 ∧ isIt p.2 = false ∧ p.1 ≠ dd) :
    DSt w (a :: b :: (dm, om) :: (dd, dictOf [⟨h1, .str (Str.ofString "defaults") t1, .ref d⟩, ⟨h2, .str (Str.ofString "maps") t2, .ref dm⟩, ⟨h3, .str (Str.ofString "properties") t3, v3⟩, ⟨h4, .str (Str.ofString "words") t4, v4⟩] 4) :: R9) x 0 (fun _ => none) K :=
  DSt.start (List.Mem.tail _ (List.Mem.tail _ (List.Mem.tail _ (List.Mem.tail _ x1)))) (List.Mem.tail _ (List.Mem.tail _ (List.Mem.tail _ (List.Mem.head _)))) (List.Mem.tail _ (List.Mem.tail _ (List.Mem.head _))) lo hs
    (List.Mem.tail _ (List.Mem.tail _ (List.Mem.tail _ (List.Mem.tail _ x2)))) z3 z2 (Nat.ne_of_lt l9.1) (Nat.ne_of_lt (allLt_in l9.2 _ x2)) z4 fun p hp => ⟨List.Mem.tail _ (List.Mem.tail _ (List.Mem.tail _ (List.Mem.tail _ (z5 p hp).1))), (z5 p hp).2.1, Nat.ne_of_lt (allLt_in l9.2 _ (z5 p hp).1), (z5 p hp).2.2⟩
theorem words_ldata_2 : True := by
  k_with "call type:enumerate" => (refine Stop.at ?_)
  trivial
theorem words_ldata_3 : True := by
  k_with "call ref" => (
      (with_reducible show wpAny _ _ (call (Value.ref 283) _) _ _ _)
      k_dflt (refine' Does.here (code_does ?p1 ?p2 ?p3 ?p4) ?k1 ?k2 ?k3 ?k4 ?k5 ?k6 ?k7 ?k8 ?k9 ?_; k_extra "my sides"; (case p1 => omega); (case p2 => omega); (case p3 => omega); (case p4 => omega))
      (intro v9ω news9ω h9ω tk9ω F9ω N9ω r9ω)
      (obtain ⟨⟨u9ω, e9ω⟩, s9ω⟩ := r9ω)
      (subst e9ω)
      (have D8ω := DSt.sub (by assumption) (fun p hp _ => s9ω p hp))
      (obtain ⟨dd9ω, dm9ω, df9ω, g1ω, u1ω, g2ω, u2ω, g3ω, u3ω, w3ω, g4ω, u4ω, w4ω, i1ω, i2ω⟩ := DSt.inst D8ω)
      (try dsimp only)
      (try k_fold))
  trivial
set_option maxRecDepth 100000 in
set_option maxHeartbeats 4000000 in
theorem ldata_does {w : World} {turn : Nat} {t : Tok} {news M : List (Addr × Obj)} (ht : turn < 13) (hM : ∀ p ∈ M, p ∈ news ∧ isIt p.2 = false ∧ NotDB p.2) :
    Does w 290 [.int turn t] 8 150 news (fun r news' => ∃ dat B, r = .ref dat ∧ (∀ p ∈ B, p ∈ news') ∧ (∀ p ∈ B, ∀ q ∈ M, p.1 ≠ q.1) ∧ (∃ G I P, DB w B dat G I P ∧ ∀ k < 18, CellOf G I P (symCode turn k) (symCell k)) ∧ ∀ p ∈ news, isIt p.2 = false → p ∈ news') := by
  k_with "my putok" => first
    | (rw [stT_gcb]; exact (tabs_ok turn ht i9 hi9).1)
    | (show okD ((stT turn i9 (Str.ofString "incb")).getD ([0], [defD (Str.ofString "incb")])) _ _ = true; rw [stT_incb]; exact (tabs_ok turn ht i9 hi9).2.1)
    | (show okD ((stT turn i9 (Str.ofString "ep")).getD ([0], [defD (Str.ofString "ep")])) _ _ = true; rw [stT_ep]; exact (tabs_ok turn ht i9 hi9).2.2)
  k_with "my defd" =>
    intro v9 news9 h9 tk9 F9 N9 r9
    obtain ⟨d, o, kvs, e9, z1, z2, z3, z4, z5, z6⟩ := r9
    subst e9
    obtain ⟨R9, w1, w2, x1, x2, N8⟩ := defs_split N9 (by assumption) (by assumption) z1 z5 z6
    clear N9
    try dsimp only
    try k_fold
  k_extra "my enter"
  k_steps
  (rename News _ _ _ _ => N8)
  have D0 := dst_make (K := news.filter fun p => !isIt p.2) N8 x1 x2 (by assumption) (by assumption) z2 z3 z4 (by assumption) (fun p hp => by
    have hp := List.mem_filter.mp hp
    have hx : isIt p.2 = false := by simpa using hp.2
    exact ⟨w2 p hp.1 hx, hx, w1 p (w2 p hp.1 hx)⟩)
  (try dsimp only)
  with_reducible refine For_turns (h₀ := ?hh9) (m := ?mm9) ?fa9 ?fb9 ?fc9 ?fd9
  (case fa9 => (rename Fr _ _ _ _ => lF'); exact lF')
  (case fc9 => intro _; rfl)
  (case fd9 => passes_own)
  k_steps
  unfold Stop
  refine' ldata_loop (turn := turn) rfl ?F ?N ?R ?D ?m1 ?m2 ?step ?done
  case F => k_asm
  case N => k_asm
  case R => assumption
  case D => exact D0.sub (fun p hp _ => (by assumption : ∀ p ∈ _, p ∈ _) p hp)
  case m1 => with_unfolding_all rfl
  case m2 => with_unfolding_all rfl
  case' step =>
    intro i9 T9 t1 ax9 t2 t3 n9 u9 nw9 h9 tk9 hi9 hT9 ha9 D9 F9 N9
    dsimp only [kstB] at F9
    try dsimp only
    try k_fold
    k_steps
    (rename DSt _ _ _ _ _ _ => D8)
    refine MFor.intro (by assumption) (by assumption) (fun p hp hx => ?_) ⟨rfl, rfl, stT_end (by omega) rfl D8⟩
    have hx' : p.2.cls ≠ .type "dict" := fun e => by rw [isDict, e] at hx; cases hx
    have c0 := (by assumption : ∀ p, p ∈ nw9 → p ∈ _) p hp
    have c1 := (by assumption : ∀ p : Addr × Obj, p ∈ _ → p.2.cls ≠ .type "dict" → p ∈ _) p c0 hx'
    have c2 := (by assumption : ∀ p : Addr × Obj, p ∈ _ → p.2.cls ≠ .type "dict" → p ∈ _) p c1 hx'
    exact (by assumption : ∀ p : Addr × Obj, p ∈ _ → p.2.cls ≠ .type "dict" → p ∈ _) p c2 hx'
  intro h1 tk1 u1 news1 F1 N1 D1 fr1
  dsimp only [kstB] at F1
  try dsimp only
  try k_fold
  k_steps
  obtain ⟨B9, y1, y2, y3⟩ := dst_db N1 ht D1 (M := M) (fun p hp => ⟨List.mem_filter.mpr ⟨(hM p hp).1, by simp [(hM p hp).2.1]⟩, (hM p hp).2.2⟩)
  refine Post.ret (by k_asm) (by k_asm) ⟨_, B9, rfl, y1, y2, y3, fun p hp hit => D1.kept p (List.mem_filter.mpr ⟨hp, by simp [hit]⟩)⟩


end
theorem fresh_deck : True := by
  k_with_none
  w_top off
  k_with "is_list" => exact News.isList (by k_asm) (by k_mem)
  k_with "exec While Compare cons nil" => k_extra "my while"
  k_with "exec While BoolOp cons nil" => k_extra "my while"
  k_with "exec While Constant cons nil" => k_extra "my whileT"
  k_with "MPost" => with_reducible first | refine MPost.next ?_ | refine MPost.ret ?_ | refine MPost.brk ?_ | refine MPost.cont ?_
  k_with "seqQ" => with_reducible first | refine seqQ.next ?_ | refine seqQ.ret ?_ | refine seqQ.brk ?_ | refine seqQ.cont ?_
  k_with "my enter" => (
      refine' enter ?k6 ?k7 ?k9 ?kB ?kN ?kU ?c2 ?c3 ?c4 ?c5 ?_
      case k6 => k_is
      case k7 => k_is
      case k9 => first | exact fun _ _ => BindsTo.of_eq rfl | (intro s9ω X9ω; exact binds_K X9ω rfl (by k_is) rfl rfl rfl)
      case kB => exact locs rfl
      case kN => exact rfl
      case kU => exact rfl
      case c2 => exact rfl
      case c3 => exact rfl
      case c4 => exact rfl
      case c5 => decide
      intro dpω unω gdω outerω A₀ω baseω gω h₁ω Lω gnω drω osω tkω meanω mgω mbω Eω Bω Xω Tω hdω huω eω Aω mω hEω Fω Nω)
  k_with "my ret" => (
      first
        | refine Post.ret (by k_asm) ?kN9 ⟨rfl, ?_⟩
        | refine Post.next (by k_asm) ?kN9 ⟨rfl, ?_⟩
      case kN9 => first | k_asm | exact kst_newsOf (by assumption) (by kst_inAny)
      k_extra "my clean")
  k_with "my clean" => ((repeat (rename Fr _ _ _ _ => z9ω; clear z9ω)); (repeat (rename News _ _ _ _ => z9ω; clear z9ω)); (try clear hEω Bω Xω Tω hdω huω))
  k_with "my roomx" => first | exact room_c (by assumption) rfl | exact room_b (by assumption) rfl | exact room_a (by assumption) | exact room_d (by assumption) rfl | exact room_e (by assumption) rfl | exact Nat.le_of_ble_eq_true rfl | omega
  k_with "my room" => ((try dsimp (config := { zetaDelta := true }) only [Around.deeper, Around.mark, Around.in1]); k_extra "my roomx")
  k_with "my sides" => (
      (case k1 => k_asm)
      (case k2 => k_asm)
      (case k3 => k_asm)
      (case k4 => k_asm)
      (case k5 => k_asm)
      (case k6 => exact rfl)
      (case k7 => exact rfl)
      (case k8 => k_extra "my room")
      (case k9 => k_extra "my room"))
  k_with "compareOp In str ref" => (k_here; (with_reducible show wpAny _ _ (compareOp CmpOp.In (Value.str _ _) (Value.ref _)) _ _ _); (with_unfolding_all refine' in_tuple_strs ?k1 ?k2 ?_; (case k1 => first | exact kun_topT (by k_asm) (by k_asm) (by k_is) | exact News.isTup (by k_asm) (by k_mem)); (case k2 => kde_strs); k_whole))
  k_with "compareOp NotIn str ref" => (k_here; (with_reducible show wpAny _ _ (compareOp CmpOp.NotIn (Value.str _ _) (Value.ref _)) _ _ _); (with_unfolding_all refine' notin_tuple_strs ?k1 ?k2 ?_; (case k1 => first | exact kun_topT (by k_asm) (by k_asm) (by k_is) | exact News.isTup (by k_asm) (by k_mem)); (case k2 => kde_strs); k_whole))
  k_with "my plain" => ((intro h9ω tk9ω F9ω N9ω); (try k_sweep))
  k_with "subscriptTail" => k_extra "my item"
  k_with "compareOp In str ref" => k_extra "my in"
  k_with "my plain1" => ((intro u9ω h9ω tk9ω F9ω N9ω); (try k_sweep))
  k_with "compareOp NotEq ref ref" => (k_here; (with_reducible show wpAny _ _ (compareOp CmpOp.NotEq (Value.ref _) (Value.ref _)) _ _ _); (with_unfolding_all refine' ne_intsK ?k1 ?k2 ?k3 ?k4 ?k5 ?_; (case k1 => is_list); (case k2 => l_ints); (case k3 => is_list); (case k4 => l_ints); (case k5 => k_extra "my room"); k_whole))
  k_with "my mem" => first | ktr_member | exact List.Mem.head _ | (refine List.mem_cons_of_mem _ ?_; k_extra "my mem")
  k_with "k_mem" => k_extra "my mem"
  k_with "compareOp NotIn str ref" => k_extra "my notin"
  k_with "call builtin:dict.get" => k_extra "my get"
  k_with "getMethod ref" => k_extra "my getm"
  k_with "setItem ref str" => k_extra "my set"
  k_with "k_room" => ((try dsimp (config := { zetaDelta := true }) only); (try simp only [depth_under_make, depth_under_kw, depth_in1, depth_deeper, depth_caller]); (try dsimp only); k_extra "my roomx")
  k_with "getItem ref str" => k_extra "my gitem"
  k_with "pyIter ref" => k_extra "my for"
  k_with "k_qdec" => decide +kernel
  k_with "my lt" => with_reducible (first | assumption | exact And.left (by assumption) | exact And.left (And.right (by assumption)) | exact And.left (And.right (And.right (by assumption))) | exact And.left (And.right (And.right (And.right (by assumption)))) | exact And.left (And.right (And.right (And.right (And.right (by assumption))))) | exact And.left (And.right (And.right (And.right (And.right (And.right (by assumption)))))) | exact And.left (And.right (And.right (And.right (And.right (And.right (And.right (by assumption))))))) | exact And.left (And.right (And.right (And.right (And.right (And.right (And.right (And.right (by assumption)))))))) | exact And.left (And.right (And.right (And.right (And.right (And.right (And.right (And.right (And.right (by assumption))))))))) | exact And.left (And.right (And.right (And.right (And.right (And.right (And.right (And.right (And.right (And.right (by assumption)))))))))))
  k_with "k_ne" => first | with_reducible assumption | with_reducible exact Ne.symm (by assumption) | (refine Nat.ne_of_lt ?_; k_extra "my lt") | (refine Nat.ne_of_gt ?_; k_extra "my lt") | (refine Nat.ne_of_gt ?_; (repeat (first | exact Nat.lt_succ_self _ | refine Nat.lt_succ_of_lt ?_)); done) | (refine Nat.ne_of_lt ?_; (repeat (first | exact Nat.lt_succ_self _ | refine Nat.lt_succ_of_lt ?_)); done) | (refine neN ?_; (try dsimp only); omega)
  k_with "l_idx" => first | assumption | exact idx_a (by assumption) (by assumption) | exact idx_b (by assumption) | exact idx_c (by assumption) (by assumption)
  k_with "JPost" => with_reducible first | refine JPost.next ?_ | refine JPost.ret ?_ | refine JPost.brk ?_ | refine JPost.cont ?_
  k_with "storeName" => (k_here; k_dflt (refine' storeX_M ?F ?N ?_ ?a ?b; (case F => k_asm); (case N => k_asm); (case a => rfl); (case b => rfl); k_whole); (intro h'ω tk'ω m'ω F'ω N'ω); (try k_sweep))
  k_with "ksw skip" => repeat (first | (refine' ite_skip ?hx ?_; (case hx => first | exact ne_stored (by assumption) rfl | exact h2ω _ (List.Mem.head _) | exact h2ω _ (List.Mem.tail _ (List.Mem.head _)) | exact h2ω _ (List.Mem.tail _ (List.Mem.tail _ (List.Mem.head _))))) | refine ite_skip2 (by assumption) ?_)
  k_with "ksw_same" => (
      intro zω h2ω h3ω
      first
        | rfl
        | (k_extra "ksw skip"; first | rfl | (refine Eq.symm ?_; k_extra "ksw skip"; rfl))
        | ((simp only [List.forall_mem_cons, List.not_mem_nil, false_implies, implies_true, and_true, ne_eq] at h2ω); (simp (zetaDelta := true) [h2ω]; done))
        | ((simp only [List.forall_mem_cons, List.not_mem_nil, false_implies, implies_true, and_true, ne_eq] at h2ω); (simp only [List.contains_cons, List.contains_nil, Bool.or_false, Bool.or_eq_false_iff, beq_eq_false_iff_ne, ne_eq] at h3ω); (simp (zetaDelta := true) [h2ω, h3ω]; done)))
  k_with "execs cons" => (k_here; (first | (refine' norm_M (gn := gnω) (dr := drω) (os := osω) ?F9 ?e9 ?_; (case F9 => k_asm); (case e9 => exact rfl); intro tk9ω) | ((try dsimp only); (try k_gentoks))); first | (with_reducible refine' execs_one ?_) | ((with_reducible refine' execs_let ?_); intro kkω))
  k_with "my leaf" => with_reducible first | show Post _ _ _ _ _ _ _ _ | show JOut _ _ _ _ _ _ _ _ _ | show MEnd _ _ _ _ _ _ _ _ _ _ _ _ _ | show MOut _ _ _ _ _ _ _ _ _ _ _
  k_with "k_steps" => repeat' (first | k_unfold | ((fail_if_success k_extra "my leaf"); first | walk1 | (dsimp only; walk1)) | (leave1; walk_say "STEP leave1"; (try dsimp only)) | fail "no step")
  k_with "my cond" => simp only [true_and, and_true, false_and, and_false, true_or, or_true, false_or, or_false, if_true, if_false, Bool.false_eq_true, Bool.true_eq_false, reduceCtorEq, and_self, or_self, not_true_eq_false, not_false_eq_true]
  k_with "eval Constant int" => (k_here; (with_reducible refine int_M ?_); intro t9ω tk9ω)
  k_with "eval Constant str" => (k_here; (with_reducible refine str_M ?_); intro t9ω tk9ω)
  k_with "binaryOp Add int int" => (k_here; (with_reducible refine add_M ?_); intro t9ω tk9ω)
  k_with "binaryOp Sub int int" => (k_here; (with_reducible refine sub_M ?_); intro t9ω tk9ω)
  k_with "call ref" => (
      (with_reducible show wpAny _ _ (call (Value.ref 145) _) _ _ _)
      k_dflt (refine' Does.val1 (place_does ?p1 ?p2 ?p3) ?k1 ?k2 ?k3 ?k4 ?k5 ?k6 ?k7 ?k8 ?k9 ?_; k_extra "my sides"; (case p1 => k_mem); (case p2 => assumption); (case p3 => first | assumption | omega))
      k_extra "my plain1")
  k_with "call ref" => (
      (with_reducible show wpAny _ _ (call (Value.ref 28) _) _ _ _)
      k_dflt (refine' Does.val syllable_does ?k1 ?k2 ?k3 ?k4 ?k5 ?k6 ?k7 ?k8 ?k9 ?_; k_extra "my sides")
      k_extra "my plain")
  k_with "call ref" => (
      (with_reducible show wpAny _ _ (call (Value.ref 52) _) _ _ _)
      k_dflt (refine' Does.val joins_does ?k1 ?k2 ?k3 ?k4 ?k5 ?k6 ?k7 ?k8 ?k9 ?_; k_extra "my sides")
      k_extra "my plain")
  k_with "call ref" => (
      (with_reducible show wpAny _ _ (call (Value.ref 59) _) _ _ _)
      k_dflt (first
        | (refine' Does.val (pairS_does ?p1) ?k1 ?k2 ?k3 ?k4 ?k5 ?k6 ?k7 ?k8 ?k9 ?_; (case p1 => assumption); k_extra "my sides")
        | (refine' Does.val (pairN_does ?p1) ?k1 ?k2 ?k3 ?k4 ?k5 ?k6 ?k7 ?k8 ?k9 ?_; (case p1 => assumption); k_extra "my sides"))
      k_extra "my plain")
  k_with "call ref" => (
      (with_reducible show wpAny _ _ (call (Value.ref 173) _) _ _ _)
      k_dflt (refine' Does.val (rget_does' (by assumption) (by assumption)) ?k1 ?k2 ?k3 ?k4 ?k5 ?k6 ?k7 ?k8 ?k9 ?_; k_extra "my sides")
      k_extra "my plain")
  k_with "my cell" => first | assumption | exact Cells.at' (by assumption) _ (by omega)
  k_with "call ref" => (
      (with_reducible show wpAny _ _ (call (Value.ref 236) _) _ _ _)
      k_dflt (first
       | ((with_reducible show wpAny _ _ (call _ [_, Value.str (Str.ofString "gcb") _, _]) _ _ _); refine' Does.val (dgetG_does ?p1 ?p2) ?k1 ?k2 ?k3 ?k4 ?k5 ?k6 ?k7 ?k8 ?k9 ?_; k_extra "my sides"; (case p1 => assumption); (case p2 => assumption); k_extra "my plain")
       | ((with_reducible show wpAny _ _ (call _ [_, Value.str (Str.ofString "incb") _, _]) _ _ _); refine' Does.val1 (dgetI_does ?p1 ?p2) ?k1 ?k2 ?k3 ?k4 ?k5 ?k6 ?k7 ?k8 ?k9 ?_; k_extra "my sides"; (case p1 => assumption); (case p2 => k_extra "my cell"); k_extra "my plain1")
       | ((with_reducible show wpAny _ _ (call _ [_, Value.str (Str.ofString "ep") _, _]) _ _ _); refine' Does.val (dgetP_does ?p1 ?p2) ?k1 ?k2 ?k3 ?k4 ?k5 ?k6 ?k7 ?k8 ?k9 ?_; k_extra "my sides"; (case p1 => assumption); (case p2 => k_extra "my cell"); k_extra "my plain")))
  k_with "call ref" => (
      (with_reducible show wpAny _ _ (call (Value.ref 35) _) _ _ _)
      k_dflt (first
        | (refine' Does.val1 (kindHs_does ?p1) ?k1 ?k2 ?k3 ?k4 ?k5 ?k6 ?k7 ?k8 ?k9 ?_; (case p1 => assumption); k_extra "my sides"; k_extra "my plain1")
        | (refine' Does.val (kindHn_does ?p1) ?k1 ?k2 ?k3 ?k4 ?k5 ?k6 ?k7 ?k8 ?k9 ?_; (case p1 => assumption); k_extra "my sides"; k_extra "my plain")))
  k_with "call ref" => (
      (with_reducible show wpAny _ _ (call (Value.ref 45) _) _ _ _)
      k_dflt (refine' Does.val1 (kind_does ?p1 ?p2) ?k1 ?k2 ?k3 ?k4 ?k5 ?k6 ?k7 ?k8 ?k9 ?_; k_extra "my sides"; (case p1 => assumption); (case p2 => k_extra "my cell"))
      k_extra "my plain1")
  k_with "call ref" => (
      (with_reducible show wpAny _ _ (call (Value.ref 66) _) _ _ _)
      k_dflt (refine' Does.val (conj_does ?p1 ?p2 ?p3 ?p4 ?p5 ?p6 ?p7) ?k1 ?k2 ?k3 ?k4 ?k5 ?k6 ?k7 ?k8 ?k9 ?_; k_extra "my sides"; (case p1 => assumption); (case p2 => k_mem); (case p3 => assumption); (case p4 => omega); (case p5 => assumption); (case p6 => omega); (case p7 => omega))
      k_extra "my plain")
  k_with "call ref" => (
      (with_reducible show wpAny _ _ (call (Value.ref 73) _) _ _ _)
      k_dflt (refine' Does.val (pict_does ?p1 ?p2 ?p3 ?p4 ?p5 ?p6 ?p7) ?k1 ?k2 ?k3 ?k4 ?k5 ?k6 ?k7 ?k8 ?k9 ?_; k_extra "my sides"; (case p1 => assumption); (case p2 => k_mem); (case p3 => assumption); (case p4 => omega); (case p5 => assumption); (case p6 => omega); (case p7 => omega))
      k_extra "my plain")
  k_with "call ref" => (
      (with_reducible show wpAny _ _ (call (Value.ref 80) _) _ _ _)
      k_dflt (refine' Does.val1 (flags_does ?p1 ?p2 ?p3 ?p4 ?p5 ?p6 ?p7) ?k1 ?k2 ?k3 ?k4 ?k5 ?k6 ?k7 ?k8 ?k9 ?_; k_extra "my sides"; (case p1 => assumption); (case p2 => k_mem); (case p3 => assumption); (case p4 => omega); (case p5 => assumption); (case p6 => omega); (case p7 => omega))
      k_extra "my plain1")
  k_with "call ref" => (
      (with_reducible show wpAny _ _ (call (Value.ref 87) _) _ _ _)
      k_dflt (refine' Does.val (flag_does ?p1 ?p2 ?p3 ?p4 ?p5 ?p6 ?p7) ?k1 ?k2 ?k3 ?k4 ?k5 ?k6 ?k7 ?k8 ?k9 ?_; k_extra "my sides"; (case p1 => assumption); (case p2 => k_mem); (case p3 => assumption); (case p4 => omega); (case p5 => assumption); (case p6 => omega); (case p7 => omega))
      k_extra "my plain")
  k_with "call ref" => (
      (with_reducible show wpAny _ _ (call (Value.ref 95) _) _ _ _)
      k_dflt (refine' Does.val (break_does ?p1 ?p2 ?p3 ?p4 ?p5 ?p6 ?p7) ?k1 ?k2 ?k3 ?k4 ?k5 ?k6 ?k7 ?k8 ?k9 ?_; k_extra "my sides"; (case p1 => assumption); (case p2 => k_mem); (case p3 => assumption); (case p4 => omega); (case p5 => assumption); (case p6 => omega); (case p7 => omega))
      k_extra "my plain")
  k_with "my inc" => first | exact fun _ h => h | exact kst_inSelf | kst_inAny
  k_with "call builtin:len" => (k_here; (with_reducible show wpAny _ _ (call (Value.builtin "len") [Value.ref _]) _ _ _); k_dflt (refine' row_len ?k1 ?k2 ?k3 ?k4 ?_; (case k1 => k_asm); (case k2 => assumption); (case k3 => k_extra "my inc"); (case k4 => omega)); k_whole)
  k_with "subscriptTail Name Name ref int" => k_extra "my row"
  k_with "subscriptTail Name BinOp ref int" => k_extra "my row"
  k_with "my row" => (k_here; (with_reducible show wpAny _ _ (subscriptTail _ _ (Value.ref _) (Value.int _ _)) _ _ _); k_dflt (refine' row_item ?k1 ?k2 ?k3 ?k4 ?k5 ?k6 ?_ ?k8 ?k9; (case k1 => k_asm); (case k2 => assumption); (case k3 => k_extra "my inc"); (case k8 => with_unfolding_all rfl); (case k9 => (intro _; with_unfolding_all rfl)); (case k4 => omega); (case k5 => omega); (case k6 => omega)); k_whole; (intro a9ω t8ω t9ω n9ω hm9ω))
  k_with "call ref" => (
      (with_reducible show wpAny _ _ (call (Value.ref 297) _) _ _ _)
      k_dflt (refine' Does.val1 (past_does ?p1 ?p2 ?p3 ?p4 ?p5) ?k1 ?k2 ?k3 ?k4 ?k5 ?k6 ?k7 ?k8 ?k9 ?_; k_extra "my sides"; (case p1 => first | assumption | exact RowAt.mono (by assumption) (by k_extra "my inc")); (case p2 => omega); (case p4 => k_mem); (case p5 => kde_strs); (case p3 => omega))
      k_extra "my plain1")
  k_with "my rowp" => first | assumption | exact RowAt.mono (by assumption) (by k_extra "my inc")
  k_with "call ref" => (
      (with_reducible show wpAny _ _ (call (Value.ref 304) _) _ _ _)
      k_dflt (refine' Does.val1 (syl_does ?p1 ?p2 ?p3 ?p4) ?k1 ?k2 ?k3 ?k4 ?k5 ?k6 ?k7 ?k8 ?k9 ?_; k_extra "my sides"; (case p1 => k_extra "my rowp"); (case p2 => omega); (case p3 => omega); (case p4 => omega))
      k_extra "my plain1")
  k_with "my plainR" => (
      (intro v9ω news9ω h9ω tk9ω F9ω N9ω r9ω)
      (obtain ⟨e9ω, t9ω, f9ω⟩ := r9ω)
      (subst f9ω)
      (subst e9ω)
      (try dsimp only)
      (try k_fold))
  k_with "call ref" => (
      (with_reducible show wpAny _ _ (call (Value.ref 311) _) _ _ _)
      k_dflt (refine' Does.val1 (pics_does ?p1 ?p2 ?p3 ?p4) ?k1 ?k2 ?k3 ?k4 ?k5 ?k6 ?k7 ?k8 ?k9 ?_; k_extra "my sides"; (case p1 => k_extra "my rowp"); (case p2 => omega); (case p3 => omega); (case p4 => omega))
      k_extra "my plain1")
  k_with "call ref" => (
      (with_reducible show wpAny _ _ (call (Value.ref 318) _) _ _ _)
      k_dflt (refine' Does.val1 (cons_does ?p1 ?p2 ?p3 ?p4) ?k1 ?k2 ?k3 ?k4 ?k5 ?k6 ?k7 ?k8 ?k9 ?_; k_extra "my sides"; (case p1 => k_extra "my rowp"); (case p2 => omega); (case p3 => omega); (case p4 => omega))
      k_extra "my plain1")
  k_with "my len" => ((try simp only [List.length_append, List.length_take, List.length_drop, List.length_cons, List.length_nil]); omega)
  k_with "subscriptTail Name Slice ref ref" => (k_here; (with_reducible show wpAny _ _ (subscriptTail _ (PySem.Expr.Slice _ _ none _) (Value.ref _) (Value.ref _)) _ _ _); k_dflt (first
      | (refine' m_slice_to ?F ?N ?l ?i ?z ?_ ?s ?t; (case F => k_asm); (case N => k_asm); (case l => k_mem); (case i => first | assumption | omega); (case z => k_extra "my len"); (case s => with_unfolding_all rfl); (case t => (intro _; with_unfolding_all rfl)))
      | (refine' m_slice_from ?F ?N ?l ?i ?z ?_ ?s ?t; (case F => k_asm); (case N => k_asm); (case l => k_mem); (case i => first | assumption | decide | omega); (case z => k_extra "my len"); (case s => with_unfolding_all rfl); (case t => (intro _; with_unfolding_all rfl)))); k_whole; intro D'ω h'ω F'ω N'ω l1ω; (try k_lt l1ω); (try k_sweep))
  k_with "binaryOp Add ref ref" => (k_here; k_dflt (refine' m_add ?F ?N ?l ?i ?z ?_; (case F => k_asm); (case N => k_asm); (case l => k_mem); (case i => k_mem); (case z => k_extra "my len")); k_whole; intro D'ω h'ω F'ω N'ω l1ω; (try k_lt l1ω); (try k_sweep))
  k_with "k_all" => first | assumption | exact allLt_ne (by first | assumption | exact And.right (by assumption) | exact And.right (And.right (by assumption)) | exact And.right (And.right (And.right (by assumption))))
  k_with "call ref" => (
      (with_reducible show wpAny _ _ (call (Value.ref 152) _) _ _ _)
      k_dflt (refine' Does.val (like_does ?p1) ?k1 ?k2 ?k3 ?k4 ?k5 ?k6 ?k7 ?k8 ?k9 ?_; (case p1 => assumption); k_extra "my sides")
      k_extra "my plain")
  k_with "subscriptTail Attribute Name Slice ref ref" => (refine kba_turn (value' := PySem.Expr.Name (PySem.Str.ofString "_") ⟨0, 0, 0, 0⟩) (fun _ => rfl) ?_)
  k_with "call ref" => (
      (with_reducible show wpAny _ _ (call (Value.ref 243) _) _ _ _)
      k_dflt (first
        | (refine' Does.val (mapof_old ?p1 ?p2) ?k1 ?k2 ?k3 ?k4 ?k5 ?k6 ?k7 ?k8 ?k9 ?_; (case p1 => assumption); (case p2 => assumption); k_extra "my sides"; k_extra "my plain")
        | (refine' Does.here (mapof_new ?p1 ?p2 ?p3 ?p4) ?k1 ?k2 ?k3 ?k4 ?k5 ?k6 ?k7 ?k8 ?k9 ?_; (case p1 => assumption); (case p2 => assumption); (case p3 => assumption); (case p4 => omega); k_extra "my sides"
           (intro v9ω news9ω h9ω tk9ω F9ω N9ω r9ω)
           (obtain ⟨a9ω, x9ω, e9ω, R9ω, D9ω, f9ω, s9ω⟩ := r9ω)
           (subst e9ω)
           (obtain ⟨g1ω, u1ω, v0ω, g2ω, u2ω, lsω, g3ω, u3ω, lvω, n1ω, n2ω⟩ := RD.inst R9ω)
           (try dsimp only)
           (try k_fold))))
  k_with "call ref" => (
      (with_reducible show wpAny _ _ (call (Value.ref 180) _) _ _ _)
      k_dflt (refine' Does.here (rput_does ?p1 ?p2 ?p3) ?k1 ?k2 ?k3 ?k4 ?k5 ?k6 ?k7 ?k8 ?k9 ?_; (case p1 => assumption); (case p2 => assumption); (case p3 => assumption); k_extra "my sides")
      (intro v9ω news9ω h9ω tk9ω F9ω N9ω r9ω)
      (obtain ⟨e9ω, R9ω, f9ω⟩ := r9ω)
      (subst e9ω)
      (try dsimp only)
      (try k_fold))
  k_with "call ref" => (
      (with_reducible show wpAny _ _ (call (Value.ref 208) _) _ _ _)
      k_dflt (refine' Does.here defs_does ?k1 ?k2 ?k3 ?k4 ?k5 ?k6 ?k7 ?k8 ?k9 ?_; k_extra "my sides")
      k_extra "my defd")
  k_with "call ref" => (
      (with_reducible show wpAny _ _ (call (Value.ref 257) _) _ _ _)
      k_dflt (refine' Does.here kinds_does ?k1 ?k2 ?k3 ?k4 ?k5 ?k6 ?k7 ?k8 ?k9 ?_; k_extra "my sides")
      (intro v9ω news9ω h9ω tk9ω F9ω N9ω r9ω)
      (obtain ⟨l9ω, e9ω, R9ω, s9ω, t9ω⟩ := r9ω)
      (subst e9ω)
      (try dsimp only)
      (try k_fold))
  k_with "call builtin:len" => (k_here; (with_reducible show wpAny _ _ (call (Value.builtin "len") [Value.ref _]) _ _ _); k_dflt (refine' kinds_len ?k1 ?k2 ?k3 ?_; (case k1 => k_asm); (case k2 => assumption); (case k3 => k_extra "my inc")); k_whole)
  k_with "call ref" => (
      (with_reducible show wpAny _ _ (call (Value.ref 264) _) _ _ _)
      k_dflt (refine' Does.here hang_does ?k1 ?k2 ?k3 ?k4 ?k5 ?k6 ?k7 ?k8 ?k9 ?_; k_extra "my sides")
      (intro v9ω news9ω h9ω tk9ω F9ω N9ω r9ω)
      (obtain ⟨l9ω, e9ω, R9ω, s9ω, t9ω⟩ := r9ω)
      (subst e9ω)
      (try dsimp only)
      (try k_fold))
  k_with "call ref" => (
      (with_reducible show wpAny _ _ (call (Value.ref 283) _) _ _ _)
      k_dflt (refine' Does.here (code_does ?p1 ?p2 ?p3 ?p4) ?k1 ?k2 ?k3 ?k4 ?k5 ?k6 ?k7 ?k8 ?k9 ?_; k_extra "my sides"; (case p1 => omega); (case p2 => omega); (case p3 => omega); (case p4 => omega))
      (intro v9ω news9ω h9ω tk9ω F9ω N9ω r9ω)
      (obtain ⟨⟨u9ω, e9ω⟩, s9ω⟩ := r9ω)
      (subst e9ω)
      (try dsimp only)
      (try k_fold))
  k_with "call ref" => (
      (with_reducible show wpAny _ _ (call (Value.ref 229) _) _ _ _)
      k_dflt (refine' Does.here (dput_does ?p1 ?p2 ?p3 ?p4 ?p5) ?k1 ?k2 ?k3 ?k4 ?k5 ?k6 ?k7 ?k8 ?k9 ?_; k_extra "my sides"; (case p1 => first | assumption | exact DSt.sub (by assumption) (fun p hp _ => (by assumption : ∀ p ∈ _, p ∈ _) p hp)); (case p5 => exact rfl); (case p2 => omega); (case p3 => decide); (case p4 => k_extra "my putok"))
      (intro v9ω news9ω h9ω tk9ω F9ω N9ω r9ω)
      (obtain ⟨e9ω, D9ω, s9ω⟩ := r9ω)
      (subst e9ω)
      (obtain ⟨dd9ω, dm9ω, df9ω, g1ω, u1ω, g2ω, u2ω, g3ω, u3ω, w3ω, g4ω, u4ω, w4ω, i1ω, i2ω⟩ := DSt.inst D9ω)
      (try dsimp only)
      (try k_fold))
  k_with "call ref" => (
      (with_reducible show wpAny _ _ (call (Value.ref 290) _) _ _ _)
      k_dflt (refine' Does.here (ldata_does ?p1) ?k1 ?k2 ?k3 ?k4 ?k5 ?k6 ?k7 ?k8 ?k9 ?_; k_extra "my sides"; (case p1 => first | assumption | omega))
      k_extra "my ldata")
  trivial
section
/-- the deck in the ledger: what is left, and what is mixed -/
noncomputable def DeckO (w : World) (od : Obj) (ll : Addr) (m : Int) : Prop := ∃ t, od.IsDictOf (SK w) [(Str.ofString "left", .ref ll), (Str.ofString "mixed", .int m t)]
theorem pop_first {prog : Program} {w : World} {A : Around} {E : Value → Shared → Prop} {s : Shared} {h₀ : Heap} {L D : Addr} {m : Str → Option Value} {news news' : List (Addr × Obj)} {y : Value} {q : List Value} {n : Nat} {u : Tok} {Q : Value → Shared → Prop}
    (F : Fr h₀ L s.heap m) (N : News h₀ L s.heap news) (U : Upd D (listOf (List.toArray (y :: q)) n) (listOf q.toArray (n + 1)) news news') (hz : q.length < 100000)
    (h : ∀ h', Fr h₀ L h' m → News h₀ L h' news' → Q y { s with heap := h' }) : wpAny (model prog w) A (call (.builtin "list.pop") [.ref D, .int 0 u]) Q E s := by
  refine kl_popAt (k := 0) (p := []) (q := q) (y := y) F N rfl ?_ rfl U ?_ h
  · have : (List.toArray (y :: q)).size = q.length + 1 := by simp
    rw [this]
    simp [seqIndex?]
  · rw [sizeLine_eq]; simp; omega
theorem words_deck_1 : True := by
  k_with "call builtin:list.pop" => k_extra "my pop"
  trivial
set_option maxRecDepth 100000 in
set_option maxHeartbeats 4000000 in
theorem draw_some {w : World} {dk ll : Addr} {od : Obj} {m many k0 : Int} {t tk0 : Tok} {ws : List Value} {ls : List Int} {nn : Nat} {rest : List (Addr × Obj)}
    (D : DeckO w od ll m) (lo : (dk == sysModules) = false) (hi : IntsAre ws ls) (hl : ls.length ≤ 999) (h1 : 1 ≤ many) (h2 : many ≤ 100) (ap : ∀ p ∈ rest, p.1 ≠ ll) (ne : dk ≠ ll) :
    Does w 276 [.ref dk, .int many t] 2 90 ((dk, od) :: (ll, listOf (List.toArray (.int k0 tk0 :: ws)) nn) :: rest)
      (fun r news' => (∃ k u, r = .int k u ∧ 0 ≤ k ∧ k < many) ∧ news' = (dk, od) :: (ll, listOf (List.toArray ws) (nn + 1)) :: rest) := by
  obtain ⟨tm, D⟩ := D
  have hi2 : IntsAre (.int k0 tk0 :: ws) (k0 :: ls) := .cons _ _ hi
  have hlen := hi.length
  k_with "my item" =>
    refine' kda_item (knd := SK w) (k := Str.ofString "left") (v := .ref ll) ?N ?hm D (strKind_is _ _ _ _) rfl ?_ ?hs ?hg
    case N => k_asm
    case hm => k_mem
    case hs => with_unfolding_all rfl
    case hg => intro _; with_unfolding_all rfl
  k_with "my gitem" =>
    refine wpAny_getItem_of (k := Str.ofString "left") (v := .ref ll) (knd := SK w) (strKind_is _ _ _ _) (Heap.DictOf.mapOf (kda_dict (by k_asm) (by k_mem) D)) rfl ?_
  k_with "my pop" =>
    refine' pop_first ?F ?N ?U ?z ?_
    case F => k_asm
    case N => k_asm
    case U => k_upd
    case z => omega
    intro h' F' N'
    try dsimp only [List.nil_append, List.cons_append] at N'
  k_extra "my enter"
  k_steps
  · (rename (decide (_ = []) = true) => hx)
    simp at hx
  · (skip)
    refine Post.ret (by k_asm) (kst_newsOf (by assumption) (fun p hp => List.mem_cons_of_mem _ hp)) ⟨⟨_, _, rfl, Int.fmod_nonneg_of_pos _ (by omega), Int.fmod_lt_of_pos _ (by omega)⟩, rfl⟩
set_option maxRecDepth 100000 in
set_option maxHeartbeats 4000000 in
theorem draw_none {w : World} {dk ll : Addr} {od : Obj} {m many : Int} {t : Tok} {nn : Nat} {rest : List (Addr × Obj)}
    (D : DeckO w od ll m) (lo : (dk == sysModules) = false) (m0 : 0 ≤ m) (m1 : m < 1000003) (h1 : 1 ≤ many) (h2 : many ≤ 100) (ap : ∀ p ∈ rest, p.1 ≠ dk) (ne : ll ≠ dk) :
    Does w 276 [.ref dk, .int many t] 2 90 ((dk, od) :: (ll, listOf (List.toArray []) nn) :: rest)
      (fun r news' => (∃ k u, r = .int k u ∧ 0 ≤ k ∧ k < many) ∧ ∃ od' m', 0 ≤ m' ∧ m' < 1000003 ∧ DeckO w od' ll m' ∧ news' = (dk, od') :: (ll, listOf (List.toArray []) nn) :: rest) := by
  obtain ⟨tm, D⟩ := D
  have hi2 : IntsAre [] [] := .nil
  k_with "my item" => first
    | (refine' kda_item (knd := SK w) (k := Str.ofString "left") (v := .ref ll) ?N ?hm D (strKind_is _ _ _ _) rfl ?_ ?hs ?hg
       case N => k_asm
       case hm => k_mem
       case hs => with_unfolding_all rfl
       case hg => intro _; with_unfolding_all rfl)
    | (refine' kda_item (knd := SK w) (k := Str.ofString "mixed") ?N ?hm (by assumption : Obj.IsDictOf (SK w) _ _) (strKind_is _ _ _ _) rfl ?_ ?hs ?hg
       case N => k_asm
       case hm => k_mem
       case hs => with_unfolding_all rfl
       case hg => intro _; with_unfolding_all rfl)
  k_with "my set" =>
    refine' kda_set (knd := SK w) ?F ?N ?U ?d (strKind_is _ _ _ _) ?z ?_
    case F => k_asm
    case N => k_asm
    case U => k_updF
    case d => exact D
    case z => (rw [sizeLine_eq]; decide)
    intro h' o' F' N' hd'
    try dsimp only at N'
  k_extra "my enter"
  k_steps
  (rename Obj.IsDictOf _ _ _ => hd9)
  refine Post.ret (by k_asm) (kst_newsOf (by assumption) (fun p hp => List.mem_cons_of_mem _ hp)) ⟨⟨_, _, rfl, Int.fmod_nonneg_of_pos _ (by omega), Int.fmod_lt_of_pos _ (by omega)⟩, _, _, Int.fmod_nonneg_of_pos _ (by decide), Int.fmod_lt_of_pos _ (by decide), ⟨_, hd9⟩, rfl⟩
/-- two entries to the front -/
theorem Does.front2 {w : World} {f : Addr} {vs : List Value} {NN UU : Nat} {news : List (Addr × Obj)} {Ret : Value → List (Addr × Obj) → Prop} {a b : Addr} {oa ob : Obj} (ha : (a, oa) ∈ news) (hb : (b, ob) ∈ news)
    (C : ∀ rest, (∀ p ∈ rest, p.1 ≠ a) → (∀ p ∈ rest, p.1 ≠ b) → (∀ p ∈ news, p.1 ≠ a → p.1 ≠ b → p ∈ rest) → Does w f vs NN UU ((a, oa) :: (b, ob) :: rest) Ret) : Does w f vs NN UU news Ret := by
  intro dp un gd env outer A₀ base h₀ L m s mean mg mb R B F X N T hf hk hd hu q
  refine C (news.filter fun p => p.1 != a && p.1 != b) (fun p hp => ?_) (fun p hp => ?_) (fun p hp h1 h2 => List.mem_filter.mpr ⟨hp, by simpa using ⟨h1, h2⟩⟩)
    dp un gd env outer A₀ base h₀ L m s mean mg mb R B F X (fun p hp => ?_) T hf hk hd hu q
  · have := (List.mem_filter.mp hp).2; simp at this; exact this.1
  · have := (List.mem_filter.mp hp).2; simp at this; exact this.2
  · rcases List.mem_cons.mp hp with rfl | hp
    · exact N _ ha
    · rcases List.mem_cons.mp hp with rfl | hp
      · exact N _ hb
      · exact N _ (List.mem_filter.mp hp).1
/-- another ledger within the one left -/
theorem Does.sub {w : World} {f : Addr} {vs : List Value} {NN UU : Nat} {news : List (Addr × Obj)} {Ret Ret' : Value → List (Addr × Obj) → Prop} (C : Does w f vs NN UU news Ret) (h : ∀ v n, Ret v n → ∃ n', (∀ p ∈ n', p ∈ n) ∧ Ret' v n') : Does w f vs NN UU news Ret' :=
  fun dp un gd env outer A₀ base h₀ L m s mean mg mb R B F X N T hf hk hd hu q => C dp un gd env outer A₀ base h₀ L m s mean mg mb R B F X N T hf hk hd hu fun v n h' tk' F' N' r =>
    let ⟨n', hs, r'⟩ := h v n r; q v n' h' tk' F' (kst_newsOf N' hs) r'
structure DeckI (w : World) (od : Obj) (ll : Addr) (m : Int) (ws : List Value) (ls : List Int) (nn : Nat) : Prop where
  fa : DeckO w od ll m
  fb : 0 ≤ m
  fc : m < 1000003
  fd : IntsAre ws ls
  fe : ls.length ≤ 1000
  ff : ws = [] ∨ 0 < nn
theorem draw_upd {w : World} {dk ll : Addr} {od : Obj} {m many : Int} {t : Tok} {ws : List Value} {ls : List Int} {nn : Nat} {news : List (Addr × Obj)} {g1 : Obj → List (Addr × Obj)} {g2 : Obj → Obj → List (Addr × Obj)}
    (D0 : DeckO w od ll m) (D : DeckI w od ll m ws ls nn) (lo : (dk == sysModules) = false) (U1 : UpdF dk od news g1) (U2 : ∀ o, UpdF ll (listOf (List.toArray ws) nn) (g1 o) (g2 o)) (ne : dk ≠ ll) (h1 : 1 ≤ many) (h2 : many ≤ 100) :
    Does w 276 [.ref dk, .int many t] 2 90 news (fun r news' => (∃ k u, r = .int k u ∧ 0 ≤ k ∧ k < many) ∧ ∃ od' m' ws' ls' nn', DeckI w od' ll m' ws' ls' nn' ∧ news' = g2 od' (listOf (List.toArray ws') nn')) := by
  have key : ∀ {n' : List (Addr × Obj)} {o' ol' : Obj}, (dk, o') ∈ n' → (ll, ol') ∈ n' → (∀ p ∈ news, p.1 ≠ dk → p.1 ≠ ll → p ∈ n') → ∀ p ∈ g2 o' ol', p ∈ n' := by
    intro n' o' ol' a1 a2 a3 p hp
    obtain ⟨pre, post, e1, e2, e3, e4⟩ := U1.split
    obtain ⟨pre2, post2, f1, f2, f3, f4⟩ := (U2 o').split
    rw [f2] at hp
    have fin : p ∈ pre2 ++ post2 → p ∈ n' := fun hp => by
      have hl : p.1 ≠ ll := by
        rcases List.mem_append.mp hp with hp | hp
        · exact f3 p hp
        · exact f4 p hp
      have hg : p ∈ g1 o' := by
        rw [f1]
        rcases List.mem_append.mp hp with hp | hp
        · exact List.mem_append_left _ hp
        · exact List.mem_append_right _ (List.Mem.tail _ hp)
      rw [e2] at hg
      rcases List.mem_append.mp hg with hg | hg
      · exact a3 p (by rw [e1]; exact List.mem_append_left _ hg) (e3 p hg) hl
      · rcases List.mem_cons.mp hg with rfl | hg
        · exact a1
        · exact a3 p (by rw [e1]; exact List.mem_append_right _ (List.Mem.tail _ hg)) (e4 p hg) hl
    rcases List.mem_append.mp hp with hp | hp
    · exact fin (List.mem_append_left _ hp)
    · rcases List.mem_cons.mp hp with rfl | hp
      · exact a2
      · exact fin (List.mem_append_right _ hp)
  have i1 : (dk, od) ∈ news := by
    obtain ⟨pre, post, e1, e2, e3, e4⟩ := U1.split
    rw [e1]; exact List.mem_append_right _ (List.Mem.head _)
  have i2 : (ll, listOf (List.toArray ws) nn) ∈ news := by
    obtain ⟨pre, post, e1, e2, e3, e4⟩ := U1.split
    obtain ⟨pre2, post2, f1, f2, f3, f4⟩ := (U2 od).split
    have : news = g1 od := by rw [e1, e2]
    rw [this, f1]; exact List.mem_append_right _ (List.Mem.head _)
  obtain ⟨d2, d3, d4, d6, d7, d8⟩ := D
  refine Does.front2 i1 i2 fun rest a1 a2 a3 => ?_
  cases d6 with
  | nil =>
    refine Does.sub (draw_none d2 lo d3 d4 h1 h2 a1 (Ne.symm ne)) ?_
    rintro r news' ⟨k, od', m', e1, e2, e3, rfl⟩
    exact ⟨g2 od' (listOf (List.toArray []) nn), key (List.Mem.head _) (List.Mem.tail _ (List.Mem.head _)) (fun p hp x1 x2 => List.Mem.tail _ (List.Mem.tail _ (a3 p hp x1 x2))), k, od', m', [], [], nn, ⟨e3, e1, e2, .nil, by simp, .inl rfl⟩, rfl⟩
  | cons k0 t0 hi =>
    rename_i ws' ls'
    have hl : ls'.length ≤ 999 := by simp at d7; omega
    refine Does.sub (draw_some d2 lo hi hl h1 h2 a2 ne) ?_
    rintro r news' ⟨k, rfl⟩
    exact ⟨g2 od (listOf (List.toArray ws') (nn + 1)), key (List.Mem.head _) (List.Mem.tail _ (List.Mem.head _)) (fun p hp x1 x2 => List.Mem.tail _ (List.Mem.tail _ (a3 p hp x1 x2))), k, od, m, ws', ls', nn + 1, ⟨d2, d3, d4, hi, by omega, .inr (by omega)⟩, rfl⟩


end
theorem fresh_stream : True := by
  k_with_none
  w_top off
  k_with "is_list" => exact News.isList (by k_asm) (by k_mem)
  k_with "exec While Compare cons nil" => k_extra "my while"
  k_with "exec While BoolOp cons nil" => k_extra "my while"
  k_with "exec While Constant cons nil" => k_extra "my whileT"
  k_with "MPost" => with_reducible first | refine MPost.next ?_ | refine MPost.ret ?_ | refine MPost.brk ?_ | refine MPost.cont ?_
  k_with "seqQ" => with_reducible first | refine seqQ.next ?_ | refine seqQ.ret ?_ | refine seqQ.brk ?_ | refine seqQ.cont ?_
  k_with "my enter" => (
      refine' enter ?k6 ?k7 ?k9 ?kB ?kN ?kU ?c2 ?c3 ?c4 ?c5 ?_
      case k6 => k_is
      case k7 => k_is
      case k9 => first | exact fun _ _ => BindsTo.of_eq rfl | (intro s9ω X9ω; exact binds_K X9ω rfl (by k_is) rfl rfl rfl)
      case kB => exact locs rfl
      case kN => exact rfl
      case kU => exact rfl
      case c2 => exact rfl
      case c3 => exact rfl
      case c4 => exact rfl
      case c5 => decide
      intro dpω unω gdω outerω A₀ω baseω gω h₁ω Lω gnω drω osω tkω meanω mgω mbω Eω Bω Xω Tω hdω huω eω Aω mω hEω Fω Nω)
  k_with "my ret" => (
      first
        | refine Post.ret (by k_asm) ?kN9 ⟨rfl, ?_⟩
        | refine Post.next (by k_asm) ?kN9 ⟨rfl, ?_⟩
      case kN9 => first | k_asm | exact kst_newsOf (by assumption) (by kst_inAny)
      k_extra "my clean")
  k_with "my clean" => ((repeat (rename Fr _ _ _ _ => z9ω; clear z9ω)); (repeat (rename News _ _ _ _ => z9ω; clear z9ω)); (try clear hEω Bω Xω Tω hdω huω))
  k_with "my roomx" => first | exact room_c (by assumption) rfl | exact room_b (by assumption) rfl | exact room_a (by assumption) | exact room_d (by assumption) rfl | exact room_e (by assumption) rfl | exact Nat.le_of_ble_eq_true rfl | omega
  k_with "my room" => ((try dsimp (config := { zetaDelta := true }) only [Around.deeper, Around.mark, Around.in1]); k_extra "my roomx")
  k_with "my sides" => (
      (case k1 => k_asm)
      (case k2 => k_asm)
      (case k3 => k_asm)
      (case k4 => k_asm)
      (case k5 => k_asm)
      (case k6 => exact rfl)
      (case k7 => exact rfl)
      (case k8 => k_extra "my room")
      (case k9 => k_extra "my room"))
  k_with "compareOp In str ref" => (k_here; (with_reducible show wpAny _ _ (compareOp CmpOp.In (Value.str _ _) (Value.ref _)) _ _ _); (with_unfolding_all refine' in_tuple_strs ?k1 ?k2 ?_; (case k1 => first | exact kun_topT (by k_asm) (by k_asm) (by k_is) | exact News.isTup (by k_asm) (by k_mem)); (case k2 => kde_strs); k_whole))
  k_with "compareOp NotIn str ref" => (k_here; (with_reducible show wpAny _ _ (compareOp CmpOp.NotIn (Value.str _ _) (Value.ref _)) _ _ _); (with_unfolding_all refine' notin_tuple_strs ?k1 ?k2 ?_; (case k1 => first | exact kun_topT (by k_asm) (by k_asm) (by k_is) | exact News.isTup (by k_asm) (by k_mem)); (case k2 => kde_strs); k_whole))
  k_with "my plain" => ((intro h9ω tk9ω F9ω N9ω); (try k_sweep))
  k_with "subscriptTail" => k_extra "my item"
  k_with "compareOp In str ref" => k_extra "my in"
  k_with "my plain1" => ((intro u9ω h9ω tk9ω F9ω N9ω); (try k_sweep))
  k_with "compareOp NotEq ref ref" => (k_here; (with_reducible show wpAny _ _ (compareOp CmpOp.NotEq (Value.ref _) (Value.ref _)) _ _ _); (with_unfolding_all refine' ne_intsK ?k1 ?k2 ?k3 ?k4 ?k5 ?_; (case k1 => is_list); (case k2 => l_ints); (case k3 => is_list); (case k4 => l_ints); (case k5 => k_extra "my room"); k_whole))
  k_with "my mem" => first | ktr_member | exact List.Mem.head _ | (refine List.mem_cons_of_mem _ ?_; k_extra "my mem")
  k_with "k_mem" => k_extra "my mem"
  k_with "compareOp NotIn str ref" => k_extra "my notin"
  k_with "call builtin:dict.get" => k_extra "my get"
  k_with "getMethod ref" => k_extra "my getm"
  k_with "setItem ref str" => k_extra "my set"
  k_with "k_room" => ((try dsimp (config := { zetaDelta := true }) only); (try simp only [depth_under_make, depth_under_kw, depth_in1, depth_deeper, depth_caller]); (try dsimp only); k_extra "my roomx")
  k_with "getItem ref str" => k_extra "my gitem"
  k_with "pyIter ref" => k_extra "my for"
  k_with "k_qdec" => decide +kernel
  k_with "my lt" => with_reducible (first | assumption | exact And.left (by assumption) | exact And.left (And.right (by assumption)) | exact And.left (And.right (And.right (by assumption))) | exact And.left (And.right (And.right (And.right (by assumption)))) | exact And.left (And.right (And.right (And.right (And.right (by assumption))))) | exact And.left (And.right (And.right (And.right (And.right (And.right (by assumption)))))) | exact And.left (And.right (And.right (And.right (And.right (And.right (And.right (by assumption))))))) | exact And.left (And.right (And.right (And.right (And.right (And.right (And.right (And.right (by assumption)))))))) | exact And.left (And.right (And.right (And.right (And.right (And.right (And.right (And.right (And.right (by assumption))))))))) | exact And.left (And.right (And.right (And.right (And.right (And.right (And.right (And.right (And.right (And.right (by assumption)))))))))))
  k_with "k_ne" => first | with_reducible assumption | with_reducible exact Ne.symm (by assumption) | (refine Nat.ne_of_lt ?_; k_extra "my lt") | (refine Nat.ne_of_gt ?_; k_extra "my lt") | (refine Nat.ne_of_gt ?_; (repeat (first | exact Nat.lt_succ_self _ | refine Nat.lt_succ_of_lt ?_)); done) | (refine Nat.ne_of_lt ?_; (repeat (first | exact Nat.lt_succ_self _ | refine Nat.lt_succ_of_lt ?_)); done) | (refine neN ?_; (try dsimp only); omega)
  k_with "l_idx" => first | assumption | exact idx_a (by assumption) (by assumption) | exact idx_b (by assumption) | exact idx_c (by assumption) (by assumption)
  k_with "JPost" => with_reducible first | refine JPost.next ?_ | refine JPost.ret ?_ | refine JPost.brk ?_ | refine JPost.cont ?_
  k_with "storeName" => (k_here; k_dflt (refine' storeX_M ?F ?N ?_ ?a ?b; (case F => k_asm); (case N => k_asm); (case a => rfl); (case b => rfl); k_whole); (intro h'ω tk'ω m'ω F'ω N'ω); (try k_sweep))
  k_with "ksw skip" => repeat (first | (refine' ite_skip ?hx ?_; (case hx => first | exact ne_stored (by assumption) rfl | exact h2ω _ (List.Mem.head _) | exact h2ω _ (List.Mem.tail _ (List.Mem.head _)) | exact h2ω _ (List.Mem.tail _ (List.Mem.tail _ (List.Mem.head _))))) | refine ite_skip2 (by assumption) ?_)
  k_with "ksw_same" => (
      intro zω h2ω h3ω
      first
        | rfl
        | (k_extra "ksw skip"; first | rfl | (refine Eq.symm ?_; k_extra "ksw skip"; rfl))
        | ((simp only [List.forall_mem_cons, List.not_mem_nil, false_implies, implies_true, and_true, ne_eq] at h2ω); (simp (zetaDelta := true) [h2ω]; done))
        | ((simp only [List.forall_mem_cons, List.not_mem_nil, false_implies, implies_true, and_true, ne_eq] at h2ω); (simp only [List.contains_cons, List.contains_nil, Bool.or_false, Bool.or_eq_false_iff, beq_eq_false_iff_ne, ne_eq] at h3ω); (simp (zetaDelta := true) [h2ω, h3ω]; done)))
  k_with "execs cons" => (k_here; (first | (refine' norm_M (gn := gnω) (dr := drω) (os := osω) ?F9 ?e9 ?_; (case F9 => k_asm); (case e9 => exact rfl); intro tk9ω) | ((try dsimp only); (try k_gentoks))); first | (with_reducible refine' execs_one ?_) | ((with_reducible refine' execs_let ?_); intro kkω))
  k_with "my leaf" => with_reducible first | show Post _ _ _ _ _ _ _ _ | show JOut _ _ _ _ _ _ _ _ _ | show MEnd _ _ _ _ _ _ _ _ _ _ _ _ _ | show MOut _ _ _ _ _ _ _ _ _ _ _
  k_with "k_steps" => repeat' (first | k_unfold | ((fail_if_success k_extra "my leaf"); first | walk1 | (dsimp only; walk1)) | (leave1; walk_say "STEP leave1"; (try dsimp only)) | fail "no step")
  k_with "my cond" => simp only [true_and, and_true, false_and, and_false, true_or, or_true, false_or, or_false, if_true, if_false, Bool.false_eq_true, Bool.true_eq_false, reduceCtorEq, and_self, or_self, not_true_eq_false, not_false_eq_true]
  k_with "eval Constant int" => (k_here; (with_reducible refine int_M ?_); intro t9ω tk9ω)
  k_with "eval Constant str" => (k_here; (with_reducible refine str_M ?_); intro t9ω tk9ω)
  k_with "binaryOp Add int int" => (k_here; (with_reducible refine add_M ?_); intro t9ω tk9ω)
  k_with "binaryOp Sub int int" => (k_here; (with_reducible refine sub_M ?_); intro t9ω tk9ω)
  k_with "call ref" => (
      (with_reducible show wpAny _ _ (call (Value.ref 145) _) _ _ _)
      k_dflt (refine' Does.val1 (place_does ?p1 ?p2 ?p3) ?k1 ?k2 ?k3 ?k4 ?k5 ?k6 ?k7 ?k8 ?k9 ?_; k_extra "my sides"; (case p1 => k_mem); (case p2 => assumption); (case p3 => first | assumption | omega))
      k_extra "my plain1")
  k_with "call ref" => (
      (with_reducible show wpAny _ _ (call (Value.ref 28) _) _ _ _)
      k_dflt (refine' Does.val syllable_does ?k1 ?k2 ?k3 ?k4 ?k5 ?k6 ?k7 ?k8 ?k9 ?_; k_extra "my sides")
      k_extra "my plain")
  k_with "call ref" => (
      (with_reducible show wpAny _ _ (call (Value.ref 52) _) _ _ _)
      k_dflt (refine' Does.val joins_does ?k1 ?k2 ?k3 ?k4 ?k5 ?k6 ?k7 ?k8 ?k9 ?_; k_extra "my sides")
      k_extra "my plain")
  k_with "call ref" => (
      (with_reducible show wpAny _ _ (call (Value.ref 59) _) _ _ _)
      k_dflt (first
        | (refine' Does.val (pairS_does ?p1) ?k1 ?k2 ?k3 ?k4 ?k5 ?k6 ?k7 ?k8 ?k9 ?_; (case p1 => assumption); k_extra "my sides")
        | (refine' Does.val (pairN_does ?p1) ?k1 ?k2 ?k3 ?k4 ?k5 ?k6 ?k7 ?k8 ?k9 ?_; (case p1 => assumption); k_extra "my sides"))
      k_extra "my plain")
  k_with "call ref" => (
      (with_reducible show wpAny _ _ (call (Value.ref 173) _) _ _ _)
      k_dflt (refine' Does.val (rget_does' (by assumption) (by assumption)) ?k1 ?k2 ?k3 ?k4 ?k5 ?k6 ?k7 ?k8 ?k9 ?_; k_extra "my sides")
      k_extra "my plain")
  k_with "my cell" => first | assumption | exact Cells.at' (by assumption) _ (by omega)
  k_with "call ref" => (
      (with_reducible show wpAny _ _ (call (Value.ref 236) _) _ _ _)
      k_dflt (first
       | ((with_reducible show wpAny _ _ (call _ [_, Value.str (Str.ofString "gcb") _, _]) _ _ _); refine' Does.val (dgetG_does ?p1 ?p2) ?k1 ?k2 ?k3 ?k4 ?k5 ?k6 ?k7 ?k8 ?k9 ?_; k_extra "my sides"; (case p1 => assumption); (case p2 => assumption); k_extra "my plain")
       | ((with_reducible show wpAny _ _ (call _ [_, Value.str (Str.ofString "incb") _, _]) _ _ _); refine' Does.val1 (dgetI_does ?p1 ?p2) ?k1 ?k2 ?k3 ?k4 ?k5 ?k6 ?k7 ?k8 ?k9 ?_; k_extra "my sides"; (case p1 => assumption); (case p2 => k_extra "my cell"); k_extra "my plain1")
       | ((with_reducible show wpAny _ _ (call _ [_, Value.str (Str.ofString "ep") _, _]) _ _ _); refine' Does.val (dgetP_does ?p1 ?p2) ?k1 ?k2 ?k3 ?k4 ?k5 ?k6 ?k7 ?k8 ?k9 ?_; k_extra "my sides"; (case p1 => assumption); (case p2 => k_extra "my cell"); k_extra "my plain")))
  k_with "call ref" => (
      (with_reducible show wpAny _ _ (call (Value.ref 35) _) _ _ _)
      k_dflt (first
        | (refine' Does.val1 (kindHs_does ?p1) ?k1 ?k2 ?k3 ?k4 ?k5 ?k6 ?k7 ?k8 ?k9 ?_; (case p1 => assumption); k_extra "my sides"; k_extra "my plain1")
        | (refine' Does.val (kindHn_does ?p1) ?k1 ?k2 ?k3 ?k4 ?k5 ?k6 ?k7 ?k8 ?k9 ?_; (case p1 => assumption); k_extra "my sides"; k_extra "my plain")))
  k_with "call ref" => (
      (with_reducible show wpAny _ _ (call (Value.ref 45) _) _ _ _)
      k_dflt (refine' Does.val1 (kind_does ?p1 ?p2) ?k1 ?k2 ?k3 ?k4 ?k5 ?k6 ?k7 ?k8 ?k9 ?_; k_extra "my sides"; (case p1 => assumption); (case p2 => k_extra "my cell"))
      k_extra "my plain1")
  k_with "call ref" => (
      (with_reducible show wpAny _ _ (call (Value.ref 66) _) _ _ _)
      k_dflt (refine' Does.val (conj_does ?p1 ?p2 ?p3 ?p4 ?p5 ?p6 ?p7) ?k1 ?k2 ?k3 ?k4 ?k5 ?k6 ?k7 ?k8 ?k9 ?_; k_extra "my sides"; (case p1 => assumption); (case p2 => k_mem); (case p3 => assumption); (case p4 => omega); (case p5 => assumption); (case p6 => omega); (case p7 => omega))
      k_extra "my plain")
  k_with "call ref" => (
      (with_reducible show wpAny _ _ (call (Value.ref 73) _) _ _ _)
      k_dflt (refine' Does.val (pict_does ?p1 ?p2 ?p3 ?p4 ?p5 ?p6 ?p7) ?k1 ?k2 ?k3 ?k4 ?k5 ?k6 ?k7 ?k8 ?k9 ?_; k_extra "my sides"; (case p1 => assumption); (case p2 => k_mem); (case p3 => assumption); (case p4 => omega); (case p5 => assumption); (case p6 => omega); (case p7 => omega))
      k_extra "my plain")
  k_with "call ref" => (
      (with_reducible show wpAny _ _ (call (Value.ref 80) _) _ _ _)
      k_dflt (refine' Does.val1 (flags_does ?p1 ?p2 ?p3 ?p4 ?p5 ?p6 ?p7) ?k1 ?k2 ?k3 ?k4 ?k5 ?k6 ?k7 ?k8 ?k9 ?_; k_extra "my sides"; (case p1 => assumption); (case p2 => k_mem); (case p3 => assumption); (case p4 => omega); (case p5 => assumption); (case p6 => omega); (case p7 => omega))
      k_extra "my plain1")
  k_with "call ref" => (
      (with_reducible show wpAny _ _ (call (Value.ref 87) _) _ _ _)
      k_dflt (refine' Does.val (flag_does ?p1 ?p2 ?p3 ?p4 ?p5 ?p6 ?p7) ?k1 ?k2 ?k3 ?k4 ?k5 ?k6 ?k7 ?k8 ?k9 ?_; k_extra "my sides"; (case p1 => assumption); (case p2 => k_mem); (case p3 => assumption); (case p4 => omega); (case p5 => assumption); (case p6 => omega); (case p7 => omega))
      k_extra "my plain")
  k_with "call ref" => (
      (with_reducible show wpAny _ _ (call (Value.ref 95) _) _ _ _)
      k_dflt (refine' Does.val (break_does ?p1 ?p2 ?p3 ?p4 ?p5 ?p6 ?p7) ?k1 ?k2 ?k3 ?k4 ?k5 ?k6 ?k7 ?k8 ?k9 ?_; k_extra "my sides"; (case p1 => assumption); (case p2 => k_mem); (case p3 => assumption); (case p4 => omega); (case p5 => assumption); (case p6 => omega); (case p7 => omega))
      k_extra "my plain")
  k_with "my inc" => first | exact fun _ h => h | exact kst_inSelf | kst_inAny
  k_with "call builtin:len" => (k_here; (with_reducible show wpAny _ _ (call (Value.builtin "len") [Value.ref _]) _ _ _); k_dflt (refine' row_len ?k1 ?k2 ?k3 ?k4 ?_; (case k1 => k_asm); (case k2 => assumption); (case k3 => k_extra "my inc"); (case k4 => omega)); k_whole)
  k_with "subscriptTail Name Name ref int" => k_extra "my row"
  k_with "subscriptTail Name BinOp ref int" => k_extra "my row"
  k_with "my row" => (k_here; (with_reducible show wpAny _ _ (subscriptTail _ _ (Value.ref _) (Value.int _ _)) _ _ _); k_dflt (refine' row_item ?k1 ?k2 ?k3 ?k4 ?k5 ?k6 ?_ ?k8 ?k9; (case k1 => k_asm); (case k2 => assumption); (case k3 => k_extra "my inc"); (case k8 => with_unfolding_all rfl); (case k9 => (intro _; with_unfolding_all rfl)); (case k4 => omega); (case k5 => omega); (case k6 => omega)); k_whole; (intro a9ω t8ω t9ω n9ω hm9ω))
  k_with "call ref" => (
      (with_reducible show wpAny _ _ (call (Value.ref 297) _) _ _ _)
      k_dflt (refine' Does.val1 (past_does ?p1 ?p2 ?p3 ?p4 ?p5) ?k1 ?k2 ?k3 ?k4 ?k5 ?k6 ?k7 ?k8 ?k9 ?_; k_extra "my sides"; (case p1 => first | assumption | exact RowAt.mono (by assumption) (by k_extra "my inc")); (case p2 => omega); (case p4 => k_mem); (case p5 => kde_strs); (case p3 => omega))
      k_extra "my plain1")
  k_with "my rowp" => first | assumption | exact RowAt.mono (by assumption) (by k_extra "my inc")
  k_with "call ref" => (
      (with_reducible show wpAny _ _ (call (Value.ref 304) _) _ _ _)
      k_dflt (refine' Does.val1 (syl_does ?p1 ?p2 ?p3 ?p4) ?k1 ?k2 ?k3 ?k4 ?k5 ?k6 ?k7 ?k8 ?k9 ?_; k_extra "my sides"; (case p1 => k_extra "my rowp"); (case p2 => omega); (case p3 => omega); (case p4 => omega))
      k_extra "my plain1")
  k_with "my plainR" => (
      (intro v9ω news9ω h9ω tk9ω F9ω N9ω r9ω)
      (obtain ⟨e9ω, t9ω, f9ω⟩ := r9ω)
      (subst f9ω)
      (subst e9ω)
      (try dsimp only)
      (try k_fold))
  k_with "call ref" => (
      (with_reducible show wpAny _ _ (call (Value.ref 311) _) _ _ _)
      k_dflt (refine' Does.val1 (pics_does ?p1 ?p2 ?p3 ?p4) ?k1 ?k2 ?k3 ?k4 ?k5 ?k6 ?k7 ?k8 ?k9 ?_; k_extra "my sides"; (case p1 => k_extra "my rowp"); (case p2 => omega); (case p3 => omega); (case p4 => omega))
      k_extra "my plain1")
  k_with "call ref" => (
      (with_reducible show wpAny _ _ (call (Value.ref 318) _) _ _ _)
      k_dflt (refine' Does.val1 (cons_does ?p1 ?p2 ?p3 ?p4) ?k1 ?k2 ?k3 ?k4 ?k5 ?k6 ?k7 ?k8 ?k9 ?_; k_extra "my sides"; (case p1 => k_extra "my rowp"); (case p2 => omega); (case p3 => omega); (case p4 => omega))
      k_extra "my plain1")
  k_with "my len" => ((try simp only [List.length_append, List.length_take, List.length_drop, List.length_cons, List.length_nil]); omega)
  k_with "subscriptTail Name Slice ref ref" => (k_here; (with_reducible show wpAny _ _ (subscriptTail _ (PySem.Expr.Slice _ _ none _) (Value.ref _) (Value.ref _)) _ _ _); k_dflt (first
      | (refine' m_slice_to ?F ?N ?l ?i ?z ?_ ?s ?t; (case F => k_asm); (case N => k_asm); (case l => k_mem); (case i => first | assumption | omega); (case z => k_extra "my len"); (case s => with_unfolding_all rfl); (case t => (intro _; with_unfolding_all rfl)))
      | (refine' m_slice_from ?F ?N ?l ?i ?z ?_ ?s ?t; (case F => k_asm); (case N => k_asm); (case l => k_mem); (case i => first | assumption | decide | omega); (case z => k_extra "my len"); (case s => with_unfolding_all rfl); (case t => (intro _; with_unfolding_all rfl)))); k_whole; intro D'ω h'ω F'ω N'ω l1ω; (try k_lt l1ω); (try k_sweep))
  k_with "binaryOp Add ref ref" => (k_here; k_dflt (refine' m_add ?F ?N ?l ?i ?z ?_; (case F => k_asm); (case N => k_asm); (case l => k_mem); (case i => k_mem); (case z => k_extra "my len")); k_whole; intro D'ω h'ω F'ω N'ω l1ω; (try k_lt l1ω); (try k_sweep))
  k_with "k_all" => first | assumption | exact allLt_ne (by first | assumption | exact And.right (by assumption) | exact And.right (And.right (by assumption)) | exact And.right (And.right (And.right (by assumption))))
  k_with "call ref" => (
      (with_reducible show wpAny _ _ (call (Value.ref 152) _) _ _ _)
      k_dflt (refine' Does.val (like_does ?p1) ?k1 ?k2 ?k3 ?k4 ?k5 ?k6 ?k7 ?k8 ?k9 ?_; (case p1 => assumption); k_extra "my sides")
      k_extra "my plain")
  k_with "subscriptTail Attribute Name Slice ref ref" => (refine kba_turn (value' := PySem.Expr.Name (PySem.Str.ofString "_") ⟨0, 0, 0, 0⟩) (fun _ => rfl) ?_)
  k_with "call ref" => (
      (with_reducible show wpAny _ _ (call (Value.ref 243) _) _ _ _)
      k_dflt (first
        | (refine' Does.val (mapof_old ?p1 ?p2) ?k1 ?k2 ?k3 ?k4 ?k5 ?k6 ?k7 ?k8 ?k9 ?_; (case p1 => assumption); (case p2 => assumption); k_extra "my sides"; k_extra "my plain")
        | (refine' Does.here (mapof_new ?p1 ?p2 ?p3 ?p4) ?k1 ?k2 ?k3 ?k4 ?k5 ?k6 ?k7 ?k8 ?k9 ?_; (case p1 => assumption); (case p2 => assumption); (case p3 => assumption); (case p4 => omega); k_extra "my sides"
           (intro v9ω news9ω h9ω tk9ω F9ω N9ω r9ω)
           (obtain ⟨a9ω, x9ω, e9ω, R9ω, D9ω, f9ω, s9ω⟩ := r9ω)
           (subst e9ω)
           (obtain ⟨g1ω, u1ω, v0ω, g2ω, u2ω, lsω, g3ω, u3ω, lvω, n1ω, n2ω⟩ := RD.inst R9ω)
           (try dsimp only)
           (try k_fold))))
  k_with "call ref" => (
      (with_reducible show wpAny _ _ (call (Value.ref 180) _) _ _ _)
      k_dflt (refine' Does.here (rput_does ?p1 ?p2 ?p3) ?k1 ?k2 ?k3 ?k4 ?k5 ?k6 ?k7 ?k8 ?k9 ?_; (case p1 => assumption); (case p2 => assumption); (case p3 => assumption); k_extra "my sides")
      (intro v9ω news9ω h9ω tk9ω F9ω N9ω r9ω)
      (obtain ⟨e9ω, R9ω, f9ω⟩ := r9ω)
      (subst e9ω)
      (try dsimp only)
      (try k_fold))
  k_with "call ref" => (
      (with_reducible show wpAny _ _ (call (Value.ref 208) _) _ _ _)
      k_dflt (refine' Does.here defs_does ?k1 ?k2 ?k3 ?k4 ?k5 ?k6 ?k7 ?k8 ?k9 ?_; k_extra "my sides")
      k_extra "my defd")
  k_with "call ref" => (
      (with_reducible show wpAny _ _ (call (Value.ref 257) _) _ _ _)
      k_dflt (refine' Does.here kinds_does ?k1 ?k2 ?k3 ?k4 ?k5 ?k6 ?k7 ?k8 ?k9 ?_; k_extra "my sides")
      (intro v9ω news9ω h9ω tk9ω F9ω N9ω r9ω)
      (obtain ⟨l9ω, e9ω, R9ω, s9ω, t9ω⟩ := r9ω)
      (subst e9ω)
      (try dsimp only)
      (try k_fold))
  k_with "call builtin:len" => (k_here; (with_reducible show wpAny _ _ (call (Value.builtin "len") [Value.ref _]) _ _ _); k_dflt (refine' kinds_len ?k1 ?k2 ?k3 ?_; (case k1 => k_asm); (case k2 => assumption); (case k3 => k_extra "my inc")); k_whole)
  k_with "call ref" => (
      (with_reducible show wpAny _ _ (call (Value.ref 264) _) _ _ _)
      k_dflt (refine' Does.here hang_does ?k1 ?k2 ?k3 ?k4 ?k5 ?k6 ?k7 ?k8 ?k9 ?_; k_extra "my sides")
      (intro v9ω news9ω h9ω tk9ω F9ω N9ω r9ω)
      (obtain ⟨l9ω, e9ω, R9ω, s9ω, t9ω⟩ := r9ω)
      (subst e9ω)
      (try dsimp only)
      (try k_fold))
  k_with "call ref" => (
      (with_reducible show wpAny _ _ (call (Value.ref 283) _) _ _ _)
      k_dflt (refine' Does.here (code_does ?p1 ?p2 ?p3 ?p4) ?k1 ?k2 ?k3 ?k4 ?k5 ?k6 ?k7 ?k8 ?k9 ?_; k_extra "my sides"; (case p1 => omega); (case p2 => omega); (case p3 => omega); (case p4 => omega))
      (intro v9ω news9ω h9ω tk9ω F9ω N9ω r9ω)
      (obtain ⟨⟨u9ω, e9ω⟩, s9ω⟩ := r9ω)
      (subst e9ω)
      (try dsimp only)
      (try k_fold))
  k_with "call ref" => (
      (with_reducible show wpAny _ _ (call (Value.ref 229) _) _ _ _)
      k_dflt (refine' Does.here (dput_does ?p1 ?p2 ?p3 ?p4 ?p5) ?k1 ?k2 ?k3 ?k4 ?k5 ?k6 ?k7 ?k8 ?k9 ?_; k_extra "my sides"; (case p1 => first | assumption | exact DSt.sub (by assumption) (fun p hp _ => (by assumption : ∀ p ∈ _, p ∈ _) p hp)); (case p5 => exact rfl); (case p2 => omega); (case p3 => decide); (case p4 => k_extra "my putok"))
      (intro v9ω news9ω h9ω tk9ω F9ω N9ω r9ω)
      (obtain ⟨e9ω, D9ω, s9ω⟩ := r9ω)
      (subst e9ω)
      (obtain ⟨dd9ω, dm9ω, df9ω, g1ω, u1ω, g2ω, u2ω, g3ω, u3ω, w3ω, g4ω, u4ω, w4ω, i1ω, i2ω⟩ := DSt.inst D9ω)
      (try dsimp only)
      (try k_fold))
  k_with "call ref" => (
      (with_reducible show wpAny _ _ (call (Value.ref 290) _) _ _ _)
      k_dflt (refine' Does.here (ldata_does ?p1) ?k1 ?k2 ?k3 ?k4 ?k5 ?k6 ?k7 ?k8 ?k9 ?_; k_extra "my sides"; (case p1 => first | assumption | omega))
      k_extra "my ldata")
  trivial
section
/-- the stream's dict -/
noncomputable abbrev stD (h1 h2 h3 h4 h5 h6 : Int) (t1 t2 t3 t4 t5 t6 : Tok) (dat : Addr) (leg : Bool) (kv : Value) (odd : Bool) (pic : Int) (tp : Tok) (con : Int) (tc : Tok) : Obj :=
  dictOf [⟨h1, .str (Str.ofString "data_asked") t1, .ref dat⟩, ⟨h2, .str (Str.ofString "is_legacy") t2, .bool leg⟩, ⟨h3, .str (Str.ofString "kind") t3, kv⟩, ⟨h4, .str (Str.ofString "is_odd") t4, .bool odd⟩,
    ⟨h5, .str (Str.ofString "picture") t5, .int pic tp⟩, ⟨h6, .str (Str.ofString "conjunct") t6, .int con tc⟩] 6
theorem nat_two {n : Nat} {k : Nat} : (n == k) = decide ((n : Int) = (k : Int)) := by
  rw [Bool.eq_iff_iff]; simp; omega
set_option maxRecDepth 100000 in
set_option maxHeartbeats 4000000 in
theorem held_does {w : World} {sx dx dat : Addr} {h1 h2 h3 h4 h5 h6 : Int} {t1 t2 t3 t4 t5 t6 tp tc t t' : Tok} {leg odd : Bool} {kv : Value} {pic con : Nat} {x : Cell} {o : Option Str} {news : List (Addr × Obj)}
    (m1 : (sx, instObj 134 dx) ∈ news) (m2 : (dx, stD h1 h2 h3 h4 h5 h6 t1 t2 t3 t4 t5 t6 dat leg kv odd pic tp con tc) ∈ news) :
    Does w 124 [.ref sx, .str x.k t, .bool x.p, .str x.i t'] 1 30 news (fun r news' => news' = news ∧ r = .bool (heldS leg ⟨o, odd, pic, con⟩ x)) := by
  k_extra "my enter"
  k_steps
  all_goals (
    k_extra "my ret"
    have e1 : (con == 2) = decide ((con : Int) = 2) := nat_two
    have e2 : (pic == 2) = decide ((pic : Int) = 2) := nat_two
    unfold heldS
    dsimp only
    rw [e1, e2]
    simp [*])
/-- what the stream asks of a sign: nothing any more -/
noncomputable def TakeC (_x : Cell) : Prop := True
theorem takeC_sym {y : Nat} (_h : y < 18) : TakeC (symCell y) := trivial
theorem take_end {dx dat : Addr} {h1 h2 h3 h4 h5 h6 : Int} {t1 t2 t3 t4 t5 t6 tp tc : Tok} {leg odd odd' : Bool} {kv : Value} {pic con pic' con' : Int} {rest : List (Addr × Obj)} (e1 : odd' = odd) (e2 : pic' = pic) (e3 : con' = con) :
    (dx, stD h1 h2 h3 h4 h5 h6 t1 t2 t3 t4 t5 t6 dat leg kv odd' pic' tp con' tc) :: rest = (dx, stD h1 h2 h3 h4 h5 h6 t1 t2 t3 t4 t5 t6 dat leg kv odd pic tp con tc) :: rest := by rw [e1, e2, e3]
theorem take_in {dx dat : Addr} {h1 h2 h3 h4 h5 h6 : Int} {t1 t2 t3 t4 t5 t6 tp tc : Tok} {leg odd odd' : Bool} {kv : Value} {pic con pic' con' : Int} {rest : List (Addr × Obj)} (e1 : odd' = odd) (e2 : pic' = pic) (e3 : con' = con) :
    ∀ p ∈ (dx, stD h1 h2 h3 h4 h5 h6 t1 t2 t3 t4 t5 t6 dat leg kv odd pic tp con tc) :: rest, p ∈ (dx, stD h1 h2 h3 h4 h5 h6 t1 t2 t3 t4 t5 t6 dat leg kv odd' pic' tp con' tc) :: rest := by
  subst e1 e2 e3
  exact fun _ h => h
set_option maxRecDepth 100000 in
set_option maxHeartbeats 4000000 in
theorem take_does {w : World} {sx dx dat : Addr} {h1 h2 h3 h4 h5 h6 : Int} {t1 t2 t3 t4 t5 t6 tp tc t t' : Tok} {leg odd : Bool} {kv : Value} {pic con : Nat} {x : Cell} {o : Option Str} {rest : List (Addr × Obj)}
    (m1 : (sx, instObj 134 dx) ∈ rest) (ap : ∀ p ∈ rest, p.1 ≠ dx) :
    Does w 131 [.ref sx, .str x.k t, .bool x.p, .str x.i t'] 1 30 ((dx, stD h1 h2 h3 h4 h5 h6 t1 t2 t3 t4 t5 t6 dat leg kv odd pic tp con tc) :: rest)
      (fun r news' => r = .none ∧ ∃ tp' tc', news' = (dx, stD h1 h2 h3 h4 h5 h6 t1 t2 t3 t4 t5 t6 dat leg (.str x.k t) (oddS ⟨o, odd, pic, con⟩ x) (picS ⟨o, odd, pic, con⟩ x) tp' (conS ⟨o, odd, pic, con⟩ x) tc') :: rest) := by
  k_extra "my enter"
  refine' m_join (σ := Unit) Fω (fun _ => [(Str.ofString "self", .ref sx), (Str.ofString "kind", .str x.k t), (Str.ofString "is_picture", .bool x.p), (Str.ofString "word", .str x.i t')]) (fun _ => (dx, stD h1 h2 h3 h4 h5 h6 t1 t2 t3 t4 t5 t6 dat leg kv (oddS ⟨o, odd, pic, con⟩ x) pic tp con tc) :: rest) (fun _ => True) ?s1 ?r1
  case s1 =>
    k_steps
    all_goals (
      refine' JOut.intro () (by assumption) (by assumption) (take_in ?e1 rfl rfl) ?hk trivial
      case hk => kst_all
      case e1 =>
        k_extra "my clean"
        unfold oddS
        simp [*])
  case r1 =>
    clear Fω Nω
    rintro - u h tk - F5 N5
    dsimp only [kstB] at F5
    try dsimp only at N5
    refine' m_join (σ := Tok) F5 (fun _ => [(Str.ofString "self", .ref sx), (Str.ofString "kind", .str x.k t), (Str.ofString "is_picture", .bool x.p), (Str.ofString "word", .str x.i t')]) (fun tp => (dx, stD h1 h2 h3 h4 h5 h6 t1 t2 t3 t4 t5 t6 dat leg kv (oddS ⟨o, odd, pic, con⟩ x) (picS ⟨o, odd, pic, con⟩ x) tp con tc) :: rest) (fun _ => True) ?s2 ?r2
    case s2 =>
      k_steps
      all_goals (
        refine' JOut.intro _ (by assumption) (by assumption) (take_in rfl ?e1 rfl) ?hk trivial
        case hk => kst_all
        case e1 =>
          k_extra "my clean"
          (try simp only [bne, Bool.not_eq_true', Bool.not_eq_false'] at *)
          unfold picS
          dsimp only
          first
            | (exfalso; omega)
            | (have q : pic = 1 := by omega
               subst q; simp [*]; done)
            | (have q : pic ≠ 1 := by omega
               simp [*]; done)
            | (simp [*]; done))
    case r2 =>
      clear F5 N5
      rintro tp u h tk - F5 N5
      dsimp only [kstB] at F5
      try dsimp only at N5
      refine' m_join (σ := Tok) F5 (fun _ => [(Str.ofString "self", .ref sx), (Str.ofString "kind", .str x.k t), (Str.ofString "is_picture", .bool x.p), (Str.ofString "word", .str x.i t')]) (fun tc => (dx, stD h1 h2 h3 h4 h5 h6 t1 t2 t3 t4 t5 t6 dat leg kv (oddS ⟨o, odd, pic, con⟩ x) (picS ⟨o, odd, pic, con⟩ x) tp (conS ⟨o, odd, pic, con⟩ x) tc) :: rest) (fun _ => True) ?s3 ?r3
      case s3 =>
        k_steps
        all_goals (
          refine' JOut.intro _ (by assumption) (by assumption) (take_in rfl rfl ?e1) ?hk trivial
          case hk => kst_all
          case e1 =>
            k_extra "my clean"
            unfold conS jointsF
            dsimp only
            first
              | (have q : 0 < con := by omega
                 simp [*]; done)
              | (have q : ¬ 0 < con := by omega
                 simp [*]; done)
              | (simp [*]; done))
      case r3 =>
        clear F5 N5
        rintro tc u h tk - F5 N5
        dsimp only [kstB] at F5
        try dsimp only at N5
        k_steps
        exact Post.next (by k_asm) (by k_asm) ⟨rfl, _, _, rfl⟩
theorem stD_ne {C dx : Addr} {h1 h2 h3 h4 h5 h6 : Int} {t1 t2 t3 t4 t5 t6 tp tc : Tok} {dat : Addr} {leg odd : Bool} {kv : Value} {pic con : Int} : instObj C dx ≠ stD h1 h2 h3 h4 h5 h6 t1 t2 t3 t4 t5 t6 dat leg kv odd pic tp con tc := inst_ne_dict
theorem take_any {w : World} {sx dx dat : Addr} {h1 h2 h3 h4 h5 h6 : Int} {t1 t2 t3 t4 t5 t6 tp tc t t' : Tok} {leg odd : Bool} {kv : Value} {pic con : Nat} {x : Cell} {o : Option Str} {news : List (Addr × Obj)}
    (m1 : (sx, instObj 134 dx) ∈ news) (m2 : (dx, stD h1 h2 h3 h4 h5 h6 t1 t2 t3 t4 t5 t6 dat leg kv odd pic tp con tc) ∈ news) (_C : TakeC x) :
    Does w 131 [.ref sx, .str x.k t, .bool x.p, .str x.i t'] 1 30 news
      (fun r news' => r = .none ∧ ∃ tp' tc', (dx, stD h1 h2 h3 h4 h5 h6 t1 t2 t3 t4 t5 t6 dat leg (.str x.k t) (oddS ⟨o, odd, pic, con⟩ x) (picS ⟨o, odd, pic, con⟩ x) tp' (conS ⟨o, odd, pic, con⟩ x) tc') ∈ news' ∧ ∀ p ∈ news, p.1 ≠ dx → p ∈ news') := by
  refine Does.front m2 fun rest hne ho hr => ?_
  refine Does.weak (take_does (o := o) (ho _ m1 stD_ne) hne) ?_
  rintro r news' ⟨rfl, tp', tc', rfl⟩
  exact ⟨rfl, tp', tc', List.Mem.head _, fun p hp hn => List.Mem.tail _ (hr p hp hn)⟩


end
theorem fresh_sput : True := by
  k_with "my db" => first | assumption | exact DB.mono (by assumption) (by k_extra "my inc")
  k_with "call ref" => (
      (with_reducible show wpAny _ _ (call (Value.ref 236) _) _ _ _)
      k_dflt (first
       | ((with_reducible show wpAny _ _ (call _ [_, Value.str (Str.ofString "incb") _, _]) _ _ _); refine' Does.val1 (dgetI_does ?p1 ?p2) ?k1 ?k2 ?k3 ?k4 ?k5 ?k6 ?k7 ?k8 ?k9 ?_; k_extra "my sides"; (case p1 => k_extra "my db"); (case p2 => k_extra "my cell"); k_extra "my plain1")
       | ((with_reducible show wpAny _ _ (call _ [_, Value.str (Str.ofString "ep") _, _]) _ _ _); refine' Does.val (dgetP_does ?p1 ?p2) ?k1 ?k2 ?k3 ?k4 ?k5 ?k6 ?k7 ?k8 ?k9 ?_; k_extra "my sides"; (case p1 => k_extra "my db"); (case p2 => k_extra "my cell"); k_extra "my plain")))
  k_with "call ref" => (
      (with_reducible show wpAny _ _ (call (Value.ref 45) _) _ _ _)
      k_dflt (refine' Does.val1 (kind_does ?p1 ?p2) ?k1 ?k2 ?k3 ?k4 ?k5 ?k6 ?k7 ?k8 ?k9 ?_; k_extra "my sides"; (case p1 => k_extra "my db"); (case p2 => k_extra "my cell"))
      k_extra "my plain1")
  k_with "call ref" => (
      (with_reducible show wpAny _ _ (call (Value.ref 124) _) _ _ _)
      k_dflt (refine' Does.val (held_does (o := ?o) ?p1 ?p2) ?k1 ?k2 ?k3 ?k4 ?k5 ?k6 ?k7 ?k8 ?k9 ?_; k_extra "my sides"; (case p1 => k_mem); (case p2 => k_mem); (case o => exact none))
      k_extra "my plain")
  k_with "call ref" => (
      (with_reducible show wpAny _ _ (call (Value.ref 131) _) _ _ _)
      k_dflt (refine' Does.here (take_any (o := ?o) ?p1 ?p2 ?p3) ?k1 ?k2 ?k3 ?k4 ?k5 ?k6 ?k7 ?k8 ?k9 ?_; k_extra "my sides"; (case p1 => k_mem); (case p2 => k_mem); (case p3 => assumption); (case o => exact none))
      (intro v9ω news9ω h9ω tk9ω F9ω N9ω r9ω)
      (obtain ⟨e9ω, tp9ω, tc9ω, m9ω, s9ω⟩ := r9ω)
      (subst e9ω)
      (try dsimp only)
      (try k_fold))
  trivial
section
/-- what the stream is told of a sign and the one ahead -/
noncomputable def toldV (o : Option Str) (x : Cell) (leg : Bool) : Value := match o with
  | none => .bool true
  | some k => boolV (pairF k x.k leg)
theorem told_or (o : Option Str) (x : Cell) (leg : Bool) : toldV o x leg = .none ∨ ∃ b, toldV o x leg = .bool b := by
  cases o with
  | none => exact .inr ⟨_, rfl⟩
  | some k =>
    show boolV (pairF k x.k leg) = .none ∨ ∃ b, boolV (pairF k x.k leg) = .bool b
    cases pairF k x.k leg with
    | none => exact .inl rfl
    | some b => exact .inr ⟨b, rfl⟩
theorem told_none {o : Option Str} {x : Cell} {leg odd : Bool} {pic con : Nat} (h : toldV o x leg = .none) : outS leg ⟨o, odd, pic, con⟩ x = !heldS leg ⟨none, odd, pic, con⟩ x := by
  cases o with
  | none => cases h
  | some k =>
    have h' : boolV (pairF k x.k leg) = .none := h
    show (match pairF k x.k leg with | some b => b | none => !heldS leg ⟨some k, odd, pic, con⟩ x) = _
    revert h'
    cases pairF k x.k leg with
    | none => exact fun _ => rfl
    | some b => exact fun h => by cases h
theorem told_some {o : Option Str} {x : Cell} {leg odd b : Bool} {pic con : Nat} (h : toldV o x leg = .bool b) : outS leg ⟨o, odd, pic, con⟩ x = b := by
  cases o with
  | none =>
    have h' : Value.bool true = .bool b := h
    cases h'
    rfl
  | some k =>
    have h' : boolV (pairF k x.k leg) = .bool b := h
    show (match pairF k x.k leg with | some b => b | none => !heldS leg ⟨some k, odd, pic, con⟩ x) = _
    revert h'
    cases pairF k x.k leg with
    | none => exact fun h => by cases h
    | some c => exact fun h => by cases h; rfl
set_option maxRecDepth 100000 in
set_option maxHeartbeats 4000000 in
theorem sput_does {w : World} {sx dx dat : Addr} {h1 h2 h3 h4 h5 h6 : Int} {t1 t2 t3 t4 t5 t6 tp tc t : Tok} {leg odd : Bool} {kv : Value} {pic con : Nat} {c : Int} {x : Cell} {o : Option Str} {G I P : List Int × List Value} {news : List (Addr × Obj)}
    (m1 : (sx, instObj 134 dx) ∈ news) (m2 : (dx, stD h1 h2 h3 h4 h5 h6 t1 t2 t3 t4 t5 t6 dat leg kv odd pic tp con tc) ∈ news) (hk : strV o kv) (D : DB w news dat G I P) (H : CellOf G I P c x) (C : TakeC x) :
    Does w 117 [.ref sx, .int c t] 9 100 news
      (fun r news' => r = .bool (outS leg ⟨o, odd, pic, con⟩ x) ∧ (∃ tk' tp' tc', (dx, stD h1 h2 h3 h4 h5 h6 t1 t2 t3 t4 t5 t6 dat leg (.str x.k tk') (oddS ⟨o, odd, pic, con⟩ x) (picS ⟨o, odd, pic, con⟩ x) tp' (conS ⟨o, odd, pic, con⟩ x) tc') ∈ news') ∧ ∀ p ∈ news, p.1 ≠ dx → p ∈ news') := by
  obtain ⟨dd, e1, u1, df, e2, u2, dm, e3, u3, v3, e4, u4, v4, n1, n2⟩ := DB.inst D
  k_with "execs cons" =>
    (with_reducible show wpAny _ _ (execs (PySem.Stmt.If _ _ _ _ :: PySem.Stmt.If _ _ _ _ :: _) _) _ _ _)
    refine Stop.at ?_
  k_extra "my enter"
  k_steps
  unfold Stop
  (rename Fr _ _ _ _ => lF')
  refine' m_join (σ := Tok × Tok × Value) lF' (fun q => [(Str.ofString "self", .ref sx), (Str.ofString "kind", .str x.k q.1), (Str.ofString "is_picture", .bool x.p), (Str.ofString "word", .str x.i q.2.1), (Str.ofString "told", q.2.2)]) (fun _ => news) (fun q => q.2.2 = toldV o x leg) ?step ?go
  case step =>
    cases o with
    | none =>
      have hk' : kv = .none := hk
      subst hk'
      k_steps
      refine' JOut.intro ⟨_, _, _⟩ (by assumption) (by assumption) ?hn ?hk ?hx
      case hk => kst_all
      case hn => k_extra "my inc"
      case hx => exact rfl
    | some k =>
      obtain ⟨tkv, rfl⟩ := hk
      rcases hp : pairF k x.k leg with _ | b
      all_goals (
        k_steps
        refine' JOut.intro ⟨_, _, _⟩ (by assumption) (by assumption) ?hn ?hk ?hx
        case hk => kst_all
        case hn => k_extra "my inc"
        case hx => (show _ = boolV (pairF k x.k leg); rw [hp]; rfl))
  case go =>
    clear lF'
    rintro ⟨tk1, tk2, tv⟩ u h tk hx F5 N5
    dsimp only at hx F5 N5
    dsimp only [kstB] at F5
    rcases told_or o x leg with ho | ⟨b, ho⟩
    all_goals (
      rw [ho] at hx
      subst hx
      k_steps
      (rename ((_, stD _ _ _ _ _ _ _ _ _ _ _ _ _ _ (Value.str x.k _) _ _ _ _ _) ∈ _) => m9)
      (rename (∀ p, p ∈ news → _ → p ∈ _) => s9)
      refine Post.ret (by k_asm) (by k_asm) ⟨?_, ⟨_, _, _, m9⟩, s9⟩
      first | (rw [told_none ho]; done) | (rw [told_none ho]; rfl) | rw [told_some ho])


end
theorem fresh_lawk : True := by
  k_with_none
  w_top off
  k_with "is_list" => exact News.isList (by k_asm) (by k_mem)
  k_with "exec While Compare cons nil" => k_extra "my while"
  k_with "exec While BoolOp cons nil" => k_extra "my while"
  k_with "exec While Constant cons nil" => k_extra "my whileT"
  k_with "MPost" => with_reducible first | refine MPost.next ?_ | refine MPost.ret ?_ | refine MPost.brk ?_ | refine MPost.cont ?_
  k_with "seqQ" => with_reducible first | refine seqQ.next ?_ | refine seqQ.ret ?_ | refine seqQ.brk ?_ | refine seqQ.cont ?_
  k_with "my enter" => (
      refine' enter ?k6 ?k7 ?k9 ?kB ?kN ?kU ?c2 ?c3 ?c4 ?c5 ?_
      case k6 => k_is
      case k7 => k_is
      case k9 => first | exact fun _ _ => BindsTo.of_eq rfl | (intro s9ω X9ω; exact binds_K X9ω rfl (by k_is) rfl rfl rfl)
      case kB => exact locs rfl
      case kN => exact rfl
      case kU => exact rfl
      case c2 => exact rfl
      case c3 => exact rfl
      case c4 => exact rfl
      case c5 => decide
      intro dpω unω gdω outerω A₀ω baseω gω h₁ω Lω gnω drω osω tkω meanω mgω mbω Eω Bω Xω Tω hdω huω eω Aω mω hEω Fω Nω)
  k_with "my ret" => (
      first
        | refine Post.ret (by k_asm) ?kN9 ⟨rfl, ?_⟩
        | refine Post.next (by k_asm) ?kN9 ⟨rfl, ?_⟩
      case kN9 => first | k_asm | exact kst_newsOf (by assumption) (by kst_inAny)
      k_extra "my clean")
  k_with "my clean" => ((repeat (rename Fr _ _ _ _ => z9ω; clear z9ω)); (repeat (rename News _ _ _ _ => z9ω; clear z9ω)); (try clear hEω Bω Xω Tω hdω huω))
  k_with "my roomx" => first | exact room_c (by assumption) rfl | exact room_b (by assumption) rfl | exact room_a (by assumption) | exact room_d (by assumption) rfl | exact room_e (by assumption) rfl | exact Nat.le_of_ble_eq_true rfl | omega
  k_with "my room" => ((try dsimp (config := { zetaDelta := true }) only [Around.deeper, Around.mark, Around.in1]); k_extra "my roomx")
  k_with "my sides" => (
      (case k1 => k_asm)
      (case k2 => k_asm)
      (case k3 => k_asm)
      (case k4 => k_asm)
      (case k5 => k_asm)
      (case k6 => exact rfl)
      (case k7 => exact rfl)
      (case k8 => k_extra "my room")
      (case k9 => k_extra "my room"))
  k_with "compareOp In str ref" => (k_here; (with_reducible show wpAny _ _ (compareOp CmpOp.In (Value.str _ _) (Value.ref _)) _ _ _); (with_unfolding_all refine' in_tuple_strs ?k1 ?k2 ?_; (case k1 => first | exact kun_topT (by k_asm) (by k_asm) (by k_is) | exact News.isTup (by k_asm) (by k_mem)); (case k2 => kde_strs); k_whole))
  k_with "compareOp NotIn str ref" => (k_here; (with_reducible show wpAny _ _ (compareOp CmpOp.NotIn (Value.str _ _) (Value.ref _)) _ _ _); (with_unfolding_all refine' notin_tuple_strs ?k1 ?k2 ?_; (case k1 => first | exact kun_topT (by k_asm) (by k_asm) (by k_is) | exact News.isTup (by k_asm) (by k_mem)); (case k2 => kde_strs); k_whole))
  k_with "my plain" => ((intro h9ω tk9ω F9ω N9ω); (try k_sweep))
  k_with "subscriptTail" => k_extra "my item"
  k_with "compareOp In str ref" => k_extra "my in"
  k_with "my plain1" => ((intro u9ω h9ω tk9ω F9ω N9ω); (try k_sweep))
  k_with "compareOp NotEq ref ref" => (k_here; (with_reducible show wpAny _ _ (compareOp CmpOp.NotEq (Value.ref _) (Value.ref _)) _ _ _); (with_unfolding_all refine' ne_intsK ?k1 ?k2 ?k3 ?k4 ?k5 ?_; (case k1 => is_list); (case k2 => l_ints); (case k3 => is_list); (case k4 => l_ints); (case k5 => k_extra "my room"); k_whole))
  k_with "my mem" => first | ktr_member | exact List.Mem.head _ | (refine List.mem_cons_of_mem _ ?_; k_extra "my mem")
  k_with "k_mem" => k_extra "my mem"
  k_with "compareOp NotIn str ref" => k_extra "my notin"
  k_with "call builtin:dict.get" => k_extra "my get"
  k_with "getMethod ref" => k_extra "my getm"
  k_with "setItem ref str" => k_extra "my set"
  k_with "k_room" => ((try dsimp (config := { zetaDelta := true }) only); (try simp only [depth_under_make, depth_under_kw, depth_in1, depth_deeper, depth_caller]); (try dsimp only); k_extra "my roomx")
  k_with "getItem ref str" => k_extra "my gitem"
  k_with "pyIter ref" => k_extra "my for"
  k_with "k_qdec" => decide +kernel
  k_with "my lt" => with_reducible (first | assumption | exact And.left (by assumption) | exact And.left (And.right (by assumption)) | exact And.left (And.right (And.right (by assumption))) | exact And.left (And.right (And.right (And.right (by assumption)))) | exact And.left (And.right (And.right (And.right (And.right (by assumption))))) | exact And.left (And.right (And.right (And.right (And.right (And.right (by assumption)))))) | exact And.left (And.right (And.right (And.right (And.right (And.right (And.right (by assumption))))))) | exact And.left (And.right (And.right (And.right (And.right (And.right (And.right (And.right (by assumption)))))))) | exact And.left (And.right (And.right (And.right (And.right (And.right (And.right (And.right (And.right (by assumption))))))))) | exact And.left (And.right (And.right (And.right (And.right (And.right (And.right (And.right (And.right (And.right (by assumption)))))))))))
  k_with "k_ne" => first | with_reducible assumption | with_reducible exact Ne.symm (by assumption) | (refine Nat.ne_of_lt ?_; k_extra "my lt") | (refine Nat.ne_of_gt ?_; k_extra "my lt") | (refine Nat.ne_of_gt ?_; (repeat (first | exact Nat.lt_succ_self _ | refine Nat.lt_succ_of_lt ?_)); done) | (refine Nat.ne_of_lt ?_; (repeat (first | exact Nat.lt_succ_self _ | refine Nat.lt_succ_of_lt ?_)); done) | (refine neN ?_; (try dsimp only); omega)
  k_with "l_idx" => first | assumption | exact idx_a (by assumption) (by assumption) | exact idx_b (by assumption) | exact idx_c (by assumption) (by assumption)
  k_with "JPost" => with_reducible first | refine JPost.next ?_ | refine JPost.ret ?_ | refine JPost.brk ?_ | refine JPost.cont ?_
  k_with "storeName" => (k_here; k_dflt (refine' storeX_M ?F ?N ?_ ?a ?b; (case F => k_asm); (case N => k_asm); (case a => rfl); (case b => rfl); k_whole); (intro h'ω tk'ω m'ω F'ω N'ω); (try k_sweep))
  k_with "ksw skip" => repeat (first | (refine' ite_skip ?hx ?_; (case hx => first | exact ne_stored (by assumption) rfl | exact h2ω _ (List.Mem.head _) | exact h2ω _ (List.Mem.tail _ (List.Mem.head _)) | exact h2ω _ (List.Mem.tail _ (List.Mem.tail _ (List.Mem.head _))))) | refine ite_skip2 (by assumption) ?_)
  k_with "ksw_same" => (
      intro zω h2ω h3ω
      first
        | rfl
        | (k_extra "ksw skip"; first | rfl | (refine Eq.symm ?_; k_extra "ksw skip"; rfl))
        | ((simp only [List.forall_mem_cons, List.not_mem_nil, false_implies, implies_true, and_true, ne_eq] at h2ω); (simp (zetaDelta := true) [h2ω]; done))
        | ((simp only [List.forall_mem_cons, List.not_mem_nil, false_implies, implies_true, and_true, ne_eq] at h2ω); (simp only [List.contains_cons, List.contains_nil, Bool.or_false, Bool.or_eq_false_iff, beq_eq_false_iff_ne, ne_eq] at h3ω); (simp (zetaDelta := true) [h2ω, h3ω]; done)))
  k_with "execs cons" => (k_here; (first | (refine' norm_M (gn := gnω) (dr := drω) (os := osω) ?F9 ?e9 ?_; (case F9 => k_asm); (case e9 => exact rfl); intro tk9ω) | ((try dsimp only); (try k_gentoks))); first | (with_reducible refine' execs_one ?_) | ((with_reducible refine' execs_let ?_); intro kkω))
  k_with "my leaf" => with_reducible first | show Post _ _ _ _ _ _ _ _ | show JOut _ _ _ _ _ _ _ _ _ | show MEnd _ _ _ _ _ _ _ _ _ _ _ _ _ | show MOut _ _ _ _ _ _ _ _ _ _ _
  k_with "k_steps" => repeat' (first | k_unfold | ((fail_if_success k_extra "my leaf"); first | walk1 | (dsimp only; walk1)) | (leave1; walk_say "STEP leave1"; (try dsimp only)) | fail "no step")
  k_with "my cond" => simp only [true_and, and_true, false_and, and_false, true_or, or_true, false_or, or_false, if_true, if_false, Bool.false_eq_true, Bool.true_eq_false, reduceCtorEq, and_self, or_self, not_true_eq_false, not_false_eq_true]
  k_with "eval Constant int" => (k_here; (with_reducible refine int_M ?_); intro t9ω tk9ω)
  k_with "eval Constant str" => (k_here; (with_reducible refine str_M ?_); intro t9ω tk9ω)
  k_with "binaryOp Add int int" => (k_here; (with_reducible refine add_M ?_); intro t9ω tk9ω)
  k_with "binaryOp Sub int int" => (k_here; (with_reducible refine sub_M ?_); intro t9ω tk9ω)
  k_with "call ref" => (
      (with_reducible show wpAny _ _ (call (Value.ref 145) _) _ _ _)
      k_dflt (refine' Does.val1 (place_does ?p1 ?p2 ?p3) ?k1 ?k2 ?k3 ?k4 ?k5 ?k6 ?k7 ?k8 ?k9 ?_; k_extra "my sides"; (case p1 => k_mem); (case p2 => assumption); (case p3 => first | assumption | omega))
      k_extra "my plain1")
  k_with "call ref" => (
      (with_reducible show wpAny _ _ (call (Value.ref 28) _) _ _ _)
      k_dflt (refine' Does.val syllable_does ?k1 ?k2 ?k3 ?k4 ?k5 ?k6 ?k7 ?k8 ?k9 ?_; k_extra "my sides")
      k_extra "my plain")
  k_with "call ref" => (
      (with_reducible show wpAny _ _ (call (Value.ref 52) _) _ _ _)
      k_dflt (refine' Does.val joins_does ?k1 ?k2 ?k3 ?k4 ?k5 ?k6 ?k7 ?k8 ?k9 ?_; k_extra "my sides")
      k_extra "my plain")
  k_with "call ref" => (
      (with_reducible show wpAny _ _ (call (Value.ref 59) _) _ _ _)
      k_dflt (first
        | (refine' Does.val (pairS_does ?p1) ?k1 ?k2 ?k3 ?k4 ?k5 ?k6 ?k7 ?k8 ?k9 ?_; (case p1 => assumption); k_extra "my sides")
        | (refine' Does.val (pairN_does ?p1) ?k1 ?k2 ?k3 ?k4 ?k5 ?k6 ?k7 ?k8 ?k9 ?_; (case p1 => assumption); k_extra "my sides"))
      k_extra "my plain")
  k_with "call ref" => (
      (with_reducible show wpAny _ _ (call (Value.ref 173) _) _ _ _)
      k_dflt (refine' Does.val (rget_does' (by assumption) (by assumption)) ?k1 ?k2 ?k3 ?k4 ?k5 ?k6 ?k7 ?k8 ?k9 ?_; k_extra "my sides")
      k_extra "my plain")
  k_with "my cell" => first | assumption | exact Cells.at' (by assumption) _ (by omega)
  k_with "call ref" => (
      (with_reducible show wpAny _ _ (call (Value.ref 236) _) _ _ _)
      k_dflt (first
       | ((with_reducible show wpAny _ _ (call _ [_, Value.str (Str.ofString "gcb") _, _]) _ _ _); refine' Does.val (dgetG_does ?p1 ?p2) ?k1 ?k2 ?k3 ?k4 ?k5 ?k6 ?k7 ?k8 ?k9 ?_; k_extra "my sides"; (case p1 => assumption); (case p2 => assumption); k_extra "my plain")
       | ((with_reducible show wpAny _ _ (call _ [_, Value.str (Str.ofString "incb") _, _]) _ _ _); refine' Does.val1 (dgetI_does ?p1 ?p2) ?k1 ?k2 ?k3 ?k4 ?k5 ?k6 ?k7 ?k8 ?k9 ?_; k_extra "my sides"; (case p1 => assumption); (case p2 => k_extra "my cell"); k_extra "my plain1")
       | ((with_reducible show wpAny _ _ (call _ [_, Value.str (Str.ofString "ep") _, _]) _ _ _); refine' Does.val (dgetP_does ?p1 ?p2) ?k1 ?k2 ?k3 ?k4 ?k5 ?k6 ?k7 ?k8 ?k9 ?_; k_extra "my sides"; (case p1 => assumption); (case p2 => k_extra "my cell"); k_extra "my plain")))
  k_with "call ref" => (
      (with_reducible show wpAny _ _ (call (Value.ref 35) _) _ _ _)
      k_dflt (first
        | (refine' Does.val1 (kindHs_does ?p1) ?k1 ?k2 ?k3 ?k4 ?k5 ?k6 ?k7 ?k8 ?k9 ?_; (case p1 => assumption); k_extra "my sides"; k_extra "my plain1")
        | (refine' Does.val (kindHn_does ?p1) ?k1 ?k2 ?k3 ?k4 ?k5 ?k6 ?k7 ?k8 ?k9 ?_; (case p1 => assumption); k_extra "my sides"; k_extra "my plain")))
  k_with "call ref" => (
      (with_reducible show wpAny _ _ (call (Value.ref 45) _) _ _ _)
      k_dflt (refine' Does.val1 (kind_does ?p1 ?p2) ?k1 ?k2 ?k3 ?k4 ?k5 ?k6 ?k7 ?k8 ?k9 ?_; k_extra "my sides"; (case p1 => assumption); (case p2 => k_extra "my cell"))
      k_extra "my plain1")
  k_with "call ref" => (
      (with_reducible show wpAny _ _ (call (Value.ref 66) _) _ _ _)
      k_dflt (refine' Does.val (conj_does ?p1 ?p2 ?p3 ?p4 ?p5 ?p6 ?p7) ?k1 ?k2 ?k3 ?k4 ?k5 ?k6 ?k7 ?k8 ?k9 ?_; k_extra "my sides"; (case p1 => assumption); (case p2 => k_mem); (case p3 => assumption); (case p4 => omega); (case p5 => assumption); (case p6 => omega); (case p7 => omega))
      k_extra "my plain")
  k_with "call ref" => (
      (with_reducible show wpAny _ _ (call (Value.ref 73) _) _ _ _)
      k_dflt (refine' Does.val (pict_does ?p1 ?p2 ?p3 ?p4 ?p5 ?p6 ?p7) ?k1 ?k2 ?k3 ?k4 ?k5 ?k6 ?k7 ?k8 ?k9 ?_; k_extra "my sides"; (case p1 => assumption); (case p2 => k_mem); (case p3 => assumption); (case p4 => omega); (case p5 => assumption); (case p6 => omega); (case p7 => omega))
      k_extra "my plain")
  k_with "call ref" => (
      (with_reducible show wpAny _ _ (call (Value.ref 80) _) _ _ _)
      k_dflt (refine' Does.val1 (flags_does ?p1 ?p2 ?p3 ?p4 ?p5 ?p6 ?p7) ?k1 ?k2 ?k3 ?k4 ?k5 ?k6 ?k7 ?k8 ?k9 ?_; k_extra "my sides"; (case p1 => assumption); (case p2 => k_mem); (case p3 => assumption); (case p4 => omega); (case p5 => assumption); (case p6 => omega); (case p7 => omega))
      k_extra "my plain1")
  k_with "call ref" => (
      (with_reducible show wpAny _ _ (call (Value.ref 87) _) _ _ _)
      k_dflt (refine' Does.val (flag_does ?p1 ?p2 ?p3 ?p4 ?p5 ?p6 ?p7) ?k1 ?k2 ?k3 ?k4 ?k5 ?k6 ?k7 ?k8 ?k9 ?_; k_extra "my sides"; (case p1 => assumption); (case p2 => k_mem); (case p3 => assumption); (case p4 => omega); (case p5 => assumption); (case p6 => omega); (case p7 => omega))
      k_extra "my plain")
  k_with "call ref" => (
      (with_reducible show wpAny _ _ (call (Value.ref 95) _) _ _ _)
      k_dflt (refine' Does.val (break_does ?p1 ?p2 ?p3 ?p4 ?p5 ?p6 ?p7) ?k1 ?k2 ?k3 ?k4 ?k5 ?k6 ?k7 ?k8 ?k9 ?_; k_extra "my sides"; (case p1 => assumption); (case p2 => k_mem); (case p3 => assumption); (case p4 => omega); (case p5 => assumption); (case p6 => omega); (case p7 => omega))
      k_extra "my plain")
  k_with "my inc" => first | exact fun _ h => h | exact kst_inSelf | kst_inAny
  k_with "call builtin:len" => (k_here; (with_reducible show wpAny _ _ (call (Value.builtin "len") [Value.ref _]) _ _ _); k_dflt (refine' row_len ?k1 ?k2 ?k3 ?k4 ?_; (case k1 => k_asm); (case k2 => assumption); (case k3 => k_extra "my inc"); (case k4 => omega)); k_whole)
  k_with "subscriptTail Name Name ref int" => k_extra "my row"
  k_with "subscriptTail Name BinOp ref int" => k_extra "my row"
  k_with "my row" => (k_here; (with_reducible show wpAny _ _ (subscriptTail _ _ (Value.ref _) (Value.int _ _)) _ _ _); k_dflt (refine' row_item ?k1 ?k2 ?k3 ?k4 ?k5 ?k6 ?_ ?k8 ?k9; (case k1 => k_asm); (case k2 => assumption); (case k3 => k_extra "my inc"); (case k8 => with_unfolding_all rfl); (case k9 => (intro _; with_unfolding_all rfl)); (case k4 => omega); (case k5 => omega); (case k6 => omega)); k_whole; (intro a9ω t8ω t9ω n9ω hm9ω))
  k_with "call ref" => (
      (with_reducible show wpAny _ _ (call (Value.ref 297) _) _ _ _)
      k_dflt (refine' Does.val1 (past_does ?p1 ?p2 ?p3 ?p4 ?p5) ?k1 ?k2 ?k3 ?k4 ?k5 ?k6 ?k7 ?k8 ?k9 ?_; k_extra "my sides"; (case p1 => first | assumption | exact RowAt.mono (by assumption) (by k_extra "my inc")); (case p2 => omega); (case p4 => k_mem); (case p5 => kde_strs); (case p3 => omega))
      k_extra "my plain1")
  k_with "my rowp" => first | assumption | exact RowAt.mono (by assumption) (by k_extra "my inc")
  k_with "call ref" => (
      (with_reducible show wpAny _ _ (call (Value.ref 304) _) _ _ _)
      k_dflt (refine' Does.val1 (syl_does ?p1 ?p2 ?p3 ?p4) ?k1 ?k2 ?k3 ?k4 ?k5 ?k6 ?k7 ?k8 ?k9 ?_; k_extra "my sides"; (case p1 => k_extra "my rowp"); (case p2 => omega); (case p3 => omega); (case p4 => omega))
      k_extra "my plain1")
  k_with "my plainR" => (
      (intro v9ω news9ω h9ω tk9ω F9ω N9ω r9ω)
      (obtain ⟨e9ω, t9ω, f9ω⟩ := r9ω)
      (subst f9ω)
      (subst e9ω)
      (try dsimp only)
      (try k_fold))
  k_with "call ref" => (
      (with_reducible show wpAny _ _ (call (Value.ref 311) _) _ _ _)
      k_dflt (refine' Does.val1 (pics_does ?p1 ?p2 ?p3 ?p4) ?k1 ?k2 ?k3 ?k4 ?k5 ?k6 ?k7 ?k8 ?k9 ?_; k_extra "my sides"; (case p1 => k_extra "my rowp"); (case p2 => omega); (case p3 => omega); (case p4 => omega))
      k_extra "my plain1")
  k_with "call ref" => (
      (with_reducible show wpAny _ _ (call (Value.ref 318) _) _ _ _)
      k_dflt (refine' Does.val1 (cons_does ?p1 ?p2 ?p3 ?p4) ?k1 ?k2 ?k3 ?k4 ?k5 ?k6 ?k7 ?k8 ?k9 ?_; k_extra "my sides"; (case p1 => k_extra "my rowp"); (case p2 => omega); (case p3 => omega); (case p4 => omega))
      k_extra "my plain1")
  k_with "my len" => ((try simp only [List.length_append, List.length_take, List.length_drop, List.length_cons, List.length_nil]); omega)
  k_with "subscriptTail Name Slice ref ref" => (k_here; (with_reducible show wpAny _ _ (subscriptTail _ (PySem.Expr.Slice _ _ none _) (Value.ref _) (Value.ref _)) _ _ _); k_dflt (first
      | (refine' m_slice_to ?F ?N ?l ?i ?z ?_ ?s ?t; (case F => k_asm); (case N => k_asm); (case l => k_mem); (case i => first | assumption | omega); (case z => k_extra "my len"); (case s => with_unfolding_all rfl); (case t => (intro _; with_unfolding_all rfl)))
      | (refine' m_slice_from ?F ?N ?l ?i ?z ?_ ?s ?t; (case F => k_asm); (case N => k_asm); (case l => k_mem); (case i => first | assumption | decide | omega); (case z => k_extra "my len"); (case s => with_unfolding_all rfl); (case t => (intro _; with_unfolding_all rfl)))); k_whole; intro D'ω h'ω F'ω N'ω l1ω; (try k_lt l1ω); (try k_sweep))
  k_with "binaryOp Add ref ref" => (k_here; k_dflt (refine' m_add ?F ?N ?l ?i ?z ?_; (case F => k_asm); (case N => k_asm); (case l => k_mem); (case i => k_mem); (case z => k_extra "my len")); k_whole; intro D'ω h'ω F'ω N'ω l1ω; (try k_lt l1ω); (try k_sweep))
  k_with "k_all" => first | assumption | exact allLt_ne (by first | assumption | exact And.right (by assumption) | exact And.right (And.right (by assumption)) | exact And.right (And.right (And.right (by assumption))))
  k_with "call ref" => (
      (with_reducible show wpAny _ _ (call (Value.ref 152) _) _ _ _)
      k_dflt (refine' Does.val (like_does ?p1) ?k1 ?k2 ?k3 ?k4 ?k5 ?k6 ?k7 ?k8 ?k9 ?_; (case p1 => assumption); k_extra "my sides")
      k_extra "my plain")
  k_with "subscriptTail Attribute Name Slice ref ref" => (refine kba_turn (value' := PySem.Expr.Name (PySem.Str.ofString "_") ⟨0, 0, 0, 0⟩) (fun _ => rfl) ?_)
  k_with "call ref" => (
      (with_reducible show wpAny _ _ (call (Value.ref 243) _) _ _ _)
      k_dflt (first
        | (refine' Does.val (mapof_old ?p1 ?p2) ?k1 ?k2 ?k3 ?k4 ?k5 ?k6 ?k7 ?k8 ?k9 ?_; (case p1 => assumption); (case p2 => assumption); k_extra "my sides"; k_extra "my plain")
        | (refine' Does.here (mapof_new ?p1 ?p2 ?p3 ?p4) ?k1 ?k2 ?k3 ?k4 ?k5 ?k6 ?k7 ?k8 ?k9 ?_; (case p1 => assumption); (case p2 => assumption); (case p3 => assumption); (case p4 => omega); k_extra "my sides"
           (intro v9ω news9ω h9ω tk9ω F9ω N9ω r9ω)
           (obtain ⟨a9ω, x9ω, e9ω, R9ω, D9ω, f9ω, s9ω⟩ := r9ω)
           (subst e9ω)
           (obtain ⟨g1ω, u1ω, v0ω, g2ω, u2ω, lsω, g3ω, u3ω, lvω, n1ω, n2ω⟩ := RD.inst R9ω)
           (try dsimp only)
           (try k_fold))))
  k_with "call ref" => (
      (with_reducible show wpAny _ _ (call (Value.ref 180) _) _ _ _)
      k_dflt (refine' Does.here (rput_does ?p1 ?p2 ?p3) ?k1 ?k2 ?k3 ?k4 ?k5 ?k6 ?k7 ?k8 ?k9 ?_; (case p1 => assumption); (case p2 => assumption); (case p3 => assumption); k_extra "my sides")
      (intro v9ω news9ω h9ω tk9ω F9ω N9ω r9ω)
      (obtain ⟨e9ω, R9ω, f9ω⟩ := r9ω)
      (subst e9ω)
      (try dsimp only)
      (try k_fold))
  k_with "call ref" => (
      (with_reducible show wpAny _ _ (call (Value.ref 208) _) _ _ _)
      k_dflt (refine' Does.here defs_does ?k1 ?k2 ?k3 ?k4 ?k5 ?k6 ?k7 ?k8 ?k9 ?_; k_extra "my sides")
      k_extra "my defd")
  k_with "call ref" => (
      (with_reducible show wpAny _ _ (call (Value.ref 257) _) _ _ _)
      k_dflt (refine' Does.here kinds_does ?k1 ?k2 ?k3 ?k4 ?k5 ?k6 ?k7 ?k8 ?k9 ?_; k_extra "my sides")
      (intro v9ω news9ω h9ω tk9ω F9ω N9ω r9ω)
      (obtain ⟨l9ω, e9ω, R9ω, s9ω, t9ω⟩ := r9ω)
      (subst e9ω)
      (try dsimp only)
      (try k_fold))
  k_with "call builtin:len" => (k_here; (with_reducible show wpAny _ _ (call (Value.builtin "len") [Value.ref _]) _ _ _); k_dflt (refine' kinds_len ?k1 ?k2 ?k3 ?_; (case k1 => k_asm); (case k2 => assumption); (case k3 => k_extra "my inc")); k_whole)
  k_with "call ref" => (
      (with_reducible show wpAny _ _ (call (Value.ref 264) _) _ _ _)
      k_dflt (refine' Does.here hang_does ?k1 ?k2 ?k3 ?k4 ?k5 ?k6 ?k7 ?k8 ?k9 ?_; k_extra "my sides")
      (intro v9ω news9ω h9ω tk9ω F9ω N9ω r9ω)
      (obtain ⟨l9ω, e9ω, R9ω, s9ω, t9ω⟩ := r9ω)
      (subst e9ω)
      (try dsimp only)
      (try k_fold))
  k_with "call ref" => (
      (with_reducible show wpAny _ _ (call (Value.ref 283) _) _ _ _)
      k_dflt (refine' Does.here (code_does ?p1 ?p2 ?p3 ?p4) ?k1 ?k2 ?k3 ?k4 ?k5 ?k6 ?k7 ?k8 ?k9 ?_; k_extra "my sides"; (case p1 => omega); (case p2 => omega); (case p3 => omega); (case p4 => omega))
      (intro v9ω news9ω h9ω tk9ω F9ω N9ω r9ω)
      (obtain ⟨⟨u9ω, e9ω⟩, s9ω⟩ := r9ω)
      (subst e9ω)
      (try dsimp only)
      (try k_fold))
  k_with "call ref" => (
      (with_reducible show wpAny _ _ (call (Value.ref 229) _) _ _ _)
      k_dflt (refine' Does.here (dput_does ?p1 ?p2 ?p3 ?p4 ?p5) ?k1 ?k2 ?k3 ?k4 ?k5 ?k6 ?k7 ?k8 ?k9 ?_; k_extra "my sides"; (case p1 => first | assumption | exact DSt.sub (by assumption) (fun p hp _ => (by assumption : ∀ p ∈ _, p ∈ _) p hp)); (case p5 => exact rfl); (case p2 => omega); (case p3 => decide); (case p4 => k_extra "my putok"))
      (intro v9ω news9ω h9ω tk9ω F9ω N9ω r9ω)
      (obtain ⟨e9ω, D9ω, s9ω⟩ := r9ω)
      (subst e9ω)
      (obtain ⟨dd9ω, dm9ω, df9ω, g1ω, u1ω, g2ω, u2ω, g3ω, u3ω, w3ω, g4ω, u4ω, w4ω, i1ω, i2ω⟩ := DSt.inst D9ω)
      (try dsimp only)
      (try k_fold))
  k_with "call ref" => (
      (with_reducible show wpAny _ _ (call (Value.ref 290) _) _ _ _)
      k_dflt (refine' Does.here (ldata_does ?p1) ?k1 ?k2 ?k3 ?k4 ?k5 ?k6 ?k7 ?k8 ?k9 ?_; k_extra "my sides"; (case p1 => first | assumption | omega))
      k_extra "my ldata")
  k_with "my db" => first | assumption | exact DB.mono (by assumption) (by k_extra "my inc")
  k_with "call ref" => (
      (with_reducible show wpAny _ _ (call (Value.ref 236) _) _ _ _)
      k_dflt (first
       | ((with_reducible show wpAny _ _ (call _ [_, Value.str (Str.ofString "incb") _, _]) _ _ _); refine' Does.val1 (dgetI_does ?p1 ?p2) ?k1 ?k2 ?k3 ?k4 ?k5 ?k6 ?k7 ?k8 ?k9 ?_; k_extra "my sides"; (case p1 => k_extra "my db"); (case p2 => k_extra "my cell"); k_extra "my plain1")
       | ((with_reducible show wpAny _ _ (call _ [_, Value.str (Str.ofString "ep") _, _]) _ _ _); refine' Does.val (dgetP_does ?p1 ?p2) ?k1 ?k2 ?k3 ?k4 ?k5 ?k6 ?k7 ?k8 ?k9 ?_; k_extra "my sides"; (case p1 => k_extra "my db"); (case p2 => k_extra "my cell"); k_extra "my plain")))
  k_with "call ref" => (
      (with_reducible show wpAny _ _ (call (Value.ref 45) _) _ _ _)
      k_dflt (refine' Does.val1 (kind_does ?p1 ?p2) ?k1 ?k2 ?k3 ?k4 ?k5 ?k6 ?k7 ?k8 ?k9 ?_; k_extra "my sides"; (case p1 => k_extra "my db"); (case p2 => k_extra "my cell"))
      k_extra "my plain1")
  k_with "call ref" => (
      (with_reducible show wpAny _ _ (call (Value.ref 124) _) _ _ _)
      k_dflt (refine' Does.val (held_does (o := ?o) ?p1 ?p2) ?k1 ?k2 ?k3 ?k4 ?k5 ?k6 ?k7 ?k8 ?k9 ?_; k_extra "my sides"; (case p1 => k_mem); (case p2 => k_mem); (case o => exact none))
      k_extra "my plain")
  k_with "call ref" => (
      (with_reducible show wpAny _ _ (call (Value.ref 131) _) _ _ _)
      k_dflt (refine' Does.here (take_any (o := ?o) ?p1 ?p2 ?p3) ?k1 ?k2 ?k3 ?k4 ?k5 ?k6 ?k7 ?k8 ?k9 ?_; k_extra "my sides"; (case p1 => k_mem); (case p2 => k_mem); (case p3 => assumption); (case o => exact none))
      (intro v9ω news9ω h9ω tk9ω F9ω N9ω r9ω)
      (obtain ⟨e9ω, tp9ω, tc9ω, m9ω, s9ω⟩ := r9ω)
      (subst e9ω)
      (try dsimp only)
      (try k_fold))
  trivial
section
theorem kindsA {w : World} {news : List (Addr × Obj)} : Does w 257 [] 2 30 news (fun r news' => ∃ l rs nn, r = .ref l ∧ rs.length = 13 ∧ news' = (l, listOf (List.toArray rs) nn) :: news ∧ ∀ p ∈ news, p.1 < l) :=
  Does.sub kindsX_does fun v n' ⟨l, rs, nn, e, m, hl, hk, h1, h2⟩ => ⟨(l, listOf (List.toArray rs) nn) :: news, fun p hp => by
    rcases List.mem_cons.mp hp with rfl | hp
    · exact m
    · exact h1 p hp, l, rs, nn, e, hl, rfl, h2⟩
theorem kindsB {w : World} {k : Nat} (hk : k < 13) {news : List (Addr × Obj)} : Does w 257 [] 2 30 news (fun r news' => ∃ l rs nn a t1 t2 n, r = .ref l ∧ rs.length = 13 ∧ rs[k]? = some (.ref a) ∧ news' = (l, listOf (List.toArray rs) nn) :: (a, tupObj (kinds13.getD k c0) t1 t2 n) :: news ∧ (∀ p ∈ news, p.1 < l) ∧ ∀ p ∈ news, p.1 < a) :=
  Does.sub kindsX_does fun v n' ⟨l, rs, nn, e, m, hl, hx, h1, h2⟩ => by
    obtain ⟨a, t1, t2, n, q1, q2, q3⟩ := hx k hk
    refine ⟨(l, listOf (List.toArray rs) nn) :: (a, tupObj (kinds13.getD k c0) t1 t2 n) :: news, fun p hp => ?_, l, rs, nn, a, t1, t2, n, e, hl, q1, rfl, h2, q3⟩
    rcases List.mem_cons.mp hp with rfl | hp
    · exact m
    · rcases List.mem_cons.mp hp with rfl | hp
      · exact q2
      · exact h1 p hp
theorem hangA {w : World} {news : List (Addr × Obj)} : Does w 264 [] 2 30 news (fun r news' => ∃ l rs nn, r = .ref l ∧ rs.length = 5 ∧ news' = (l, listOf (List.toArray rs) nn) :: news ∧ ∀ p ∈ news, p.1 < l) :=
  Does.sub hangX_does fun v n' ⟨l, rs, nn, e, m, hl, hk, h1, h2⟩ => ⟨(l, listOf (List.toArray rs) nn) :: news, fun p hp => by
    rcases List.mem_cons.mp hp with rfl | hp
    · exact m
    · exact h1 p hp, l, rs, nn, e, hl, rfl, h2⟩
theorem hangB {w : World} {k : Nat} (hk : k < 5) {news : List (Addr × Obj)} : Does w 264 [] 2 30 news (fun r news' => ∃ l rs nn a t1 t2 n, r = .ref l ∧ rs.length = 5 ∧ rs[k]? = some (.ref a) ∧ news' = (l, listOf (List.toArray rs) nn) :: (a, tupH (hang5.getD k (0, Str.ofString "")) t1 t2 n) :: news ∧ (∀ p ∈ news, p.1 < l) ∧ ∀ p ∈ news, p.1 < a) :=
  Does.sub hangX_does fun v n' ⟨l, rs, nn, e, m, hl, hx, h1, h2⟩ => by
    obtain ⟨a, t1, t2, n, q1, q2, q3⟩ := hx k hk
    refine ⟨(l, listOf (List.toArray rs) nn) :: (a, tupH (hang5.getD k (0, Str.ofString "")) t1 t2 n) :: news, fun p hp => ?_, l, rs, nn, a, t1, t2, n, e, hl, q1, rfl, h2, q3⟩
    rcases List.mem_cons.mp hp with rfl | hp
    · exact m
    · rcases List.mem_cons.mp hp with rfl | hp
      · exact q2
      · exact h1 p hp
theorem codeA {w : World} {turn number : Int} {t t' : Tok} {news : List (Addr × Obj)} (h0 : 0 ≤ turn) (h1 : turn < 13) (h2 : 0 ≤ number) (h3 : number < 13) :
    Does w 283 [.int turn t, .int number t'] 4 50 news (fun r news' => news' = news ∧ ∃ u, r = .int (symCode turn.toNat number.toNat) u) :=
  Does.sub (code_does h0 h1 h2 h3) fun v n' ⟨⟨u, e⟩, hs⟩ => ⟨news, hs, rfl, u, by
    rw [e]
    congr 1
    unfold symCode codeT
    rw [if_pos (by omega)]
    omega⟩
/-- a length of a list in the ledger -/
theorem len_fix {prog : Program} {w : World} {A : Around} {E : Value → Shared → Prop} {s : Shared} {h₀ : Heap} {L l : Addr} {news : List (Addr × Obj)} {rs : List Value} {nn k : Nat} {Q : Value → Shared → Prop} (N : News h₀ L s.heap news) (hm : (l, listOf (List.toArray rs) nn) ∈ news) (hl : rs.length = k) (hk : k < 100000)
    (h : Q (.int (k : Nat) (s.toks + 1)) { s with toks := s.toks + 1 + 1 }) : wpAny (model prog w) A (call (.builtin "len") [.ref l]) Q E s := by
  refine len_list (News.isList N hm) (by simp only [List.size_toArray]; omega) ?_
  simp only [List.size_toArray]
  rw [hl]
  exact h
theorem DB.sub {w : World} {n n' : List (Addr × Obj)} {dat : Addr} {G I P : List Int × List Value} (D : DB w n dat G I P) (h : ∀ p ∈ n, isIt p.2 = false → p ∈ n') : DB w n' dat G I P := by
  obtain ⟨kvs, rg, ri, rp, ⟨dd, h1, t1, df, h2, t2, dm, h3, t3, v3, h4, t4, v4, om, b1, b2, b3, b4, b5⟩, a2, a3, a4, ⟨x5, a5⟩, ⟨x6, a6⟩, ⟨x7, a7⟩⟩ := D
  exact ⟨kvs, rg, ri, rp, ⟨dd, h1, t1, df, h2, t2, dm, h3, t3, v3, h4, t4, v4, om, h _ b1 rfl, h _ b2 rfl, h _ b3 (dict_notIt (IsDictOf.clsIs b5)), b4, b5⟩, a2, a3, a4, ⟨x5, a5.sub h⟩, ⟨x6, a6.sub h⟩, ⟨x7, a7.sub h⟩⟩
theorem ldataZ {w : World} {turn : Int} {t : Tok} {news : List (Addr × Obj)} (h0 : 0 ≤ turn) (h1 : turn < 13) (hni : ∀ p ∈ news, isIt p.2 = false) :
    Does w 290 [.int turn t] 8 150 news (fun r news' => ∃ dat B, r = .ref dat ∧ (∀ q ∈ news, NotDB q.2 → ∀ p ∈ B, p.1 ≠ q.1) ∧ (∀ p ∈ B, isIt p.2 = false) ∧ (∃ G I P, DB w B dat G I P ∧ ∀ k < 18, CellOf G I P (symCode turn.toNat k) (symCell k)) ∧ news' = news ++ B) := by
  obtain ⟨n, rfl⟩ := Int.eq_ofNat_of_zero_le h0
  refine Does.sub (ldata_does (turn := n) (M := news.filter fun p => @decide (NotDB p.2) (Classical.propDecidable _)) (by omega) fun p hp => ?_) ?_
  · obtain ⟨h1, h2⟩ := List.mem_filter.mp hp
    exact ⟨h1, hni p h1, @of_decide_eq_true _ (Classical.propDecidable _) h2⟩
  · rintro r n' ⟨dat, B, e, y1, y2, y3, y4⟩
    obtain ⟨G, I, P, d1, d2⟩ := y3
    refine ⟨news ++ B.filter (fun p => !isIt p.2), fun p hp => ?_, dat, B.filter (fun p => !isIt p.2), e, fun q hq hx p hp => y2 p (List.mem_filter.mp hp).1 q (List.mem_filter.mpr ⟨hq, @decide_eq_true _ (Classical.propDecidable _) hx⟩), fun p hp => by simpa using (List.mem_filter.mp hp).2, ⟨G, I, P, d1.sub fun p hp hi => List.mem_filter.mpr ⟨hp, by simp [hi]⟩, d2⟩, rfl⟩
    rcases List.mem_append.mp hp with hp | hp
    · exact y4 p hp (hni p hp)
    · exact y1 p (List.mem_filter.mp hp).1
theorem lst_old (ys : List Value) : ys = [] ∨ 0 < ys.length := by cases ys <;> simp
theorem take_len {f : Int → Int} {ns : List Int} : (List.map f (List.take 16 ns)).length ≤ 1000 := by simp; omega
theorem fold_mix : ∀ (ns : List Int) (a : Int), 0 ≤ a ∧ a < 1000003 → 0 ≤ List.foldl (fun a' n' => (a' * 31 + n' + 19).fmod 1000003) a ns ∧ List.foldl (fun a' n' => (a' * 31 + n' + 19).fmod 1000003) a ns < 1000003
  | [], _, h => h
  | _ :: r, _, _ => fold_mix r _ ⟨Int.fmod_nonneg_of_pos _ (by decide), Int.fmod_lt_of_pos _ (by decide)⟩
theorem DeckI.notIt {w : World} {od : Obj} {ll : Addr} {m : Int} {ws : List Value} {ls : List Int} {nn : Nat} (D : DeckI w od ll m ws ls nn) : isIt od = false := let ⟨_, h⟩ := D.fa; dict_notIt (IsDictOf.clsIs h)
theorem DeckI.notDB {w : World} {od : Obj} {ll : Addr} {m : Int} {ws : List Value} {ls : List Int} {nn : Nat} (D : DeckI w od ll m ws ls nn) : NotDB od := let ⟨_, h⟩ := D.fa; dict_notDB (IsDictOf.clsIs h)
theorem pick4 {g h : Heap} {L : Addr} {a1 a2 a3 a5 a6 a7 a8 a9 a10 a11 a12 a13 : Addr × Obj} {B : List (Addr × Obj)} (N : News g L h (a1 :: a2 :: a3 :: a5 :: a6 :: a7 :: a8 :: a9 :: a10 :: a11 :: a12 :: a13 :: B)) :
    News g L h (a3 :: a2 :: a5 :: a7 :: a9 :: a10 :: a11 :: a12 :: a13 :: B) := kst_newsOf N fun p hp => by
  simp only [List.mem_cons] at hp ⊢
  rcases hp with h | h | h | h | h | h | h | h | h | h <;> simp [h]
theorem len_drop {prog : Program} {w : World} {A : Around} {E : Value → Shared → Prop} {s : Shared} {h₀ : Heap} {L l : Addr} {news : List (Addr × Obj)} {rs : List Value} {nn k : Nat} {Q : Value → Shared → Prop} (N : News h₀ L s.heap ((l, listOf (List.toArray rs) nn) :: news)) (hl : rs.length = k) (hk : k < 100000)
    (h : News h₀ L s.heap news → Q (.int (k : Nat) (s.toks + 1)) { s with toks := s.toks + 1 + 1 }) : wpAny (model prog w) A (call (.builtin "len") [.ref l]) Q E s :=
  len_fix N (List.Mem.head _) hl hk (h fun p hp => N p (List.mem_cons_of_mem _ hp))
theorem item_drop {prog : Program} {w : World} {A : Around} {E : Value → Shared → Prop} {s : Shared} {h₀ : Heap} {L l : Addr} {value slice : Expr} {news : List (Addr × Obj)} {vs : List Value} {nn : Nat} {k : Int} {u : Tok} {v : Value} {Q : Value → Shared → Prop} (N : News h₀ L s.heap ((l, listOf (List.toArray vs) nn) :: news))
    (hx : vs[k.toNat]? = some v) (h0 : 0 ≤ k) (hk : k < 2 ^ 63) (h : News h₀ L s.heap news → Q v s)
    (hs : subscripted slice false (.ref l) (.int k u) = operate [.ref l, .int k u] (getItem (.ref l) (.int k u)) := by with_unfolding_all rfl) (hg : ∀ r, letTemporaryGo value (.ref l) r = pure () := by intro _; with_unfolding_all rfl) :
    wpAny (model prog w) A (subscriptTail value slice (.ref l) (.int k u)) Q E s := m_item N (List.Mem.head _) h0 hk hx (h fun p hp => N p (List.mem_cons_of_mem _ hp)) hs hg


end
theorem fresh_lawloop : True := by
  k_with "my room" => first | ((try dsimp only [Around.deeper, Around.mark, Around.in1]); k_extra "my roomx") | ((try simp only [depth_deeper, units_deeper]); (try dsimp only [callerA, claimMargin, recursionLimit, cLine]); first | omega | decide) | (with_unfolding_all decide)
  k_with "call ref" => (
      (with_reducible show wpAny _ _ (call (Value.ref 257) _) _ _ _)
      k_dflt (refine' Does.here kindsA ?k1 ?k2 ?k3 ?k4 ?k5 ?k6 ?k7 ?k8 ?k9 ?_; k_extra "my sides")
      (intro v9ω news9ω h9ω tk9ω F9ω N9ω r9ω)
      (obtain ⟨l9ω, rs9ω, nn9ω, e9ω, len9ω, f9ω, l1ω⟩ := r9ω)
      (subst e9ω)
      (subst f9ω)
      (try dsimp only)
      (try k_lt l1ω)
      (try k_sweep)
      (try k_fold))
  k_with "call ref" => (
      (with_reducible show wpAny _ _ (call (Value.ref 264) _) _ _ _)
      k_dflt (refine' Does.here hangA ?k1 ?k2 ?k3 ?k4 ?k5 ?k6 ?k7 ?k8 ?k9 ?_; k_extra "my sides")
      (intro v9ω news9ω h9ω tk9ω F9ω N9ω r9ω)
      (obtain ⟨l9ω, rs9ω, nn9ω, e9ω, len9ω, f9ω, l1ω⟩ := r9ω)
      (subst e9ω)
      (subst f9ω)
      (try dsimp only)
      (try k_lt l1ω)
      (try k_sweep)
      (try k_fold))
  k_with "call builtin:len" => (k_here; (with_reducible show wpAny _ _ (call (Value.builtin "len") [Value.ref _]) _ _ _); k_dflt (refine' len_fix ?k1 ?k2 ?k3 ?k4 ?_; (case k1 => k_asm); (case k2 => k_mem); (case k3 => assumption); (case k4 => decide)); k_whole)
  k_with "call builtin:len" => (k_here; (with_reducible show wpAny _ _ (call (Value.builtin "len") [Value.ref _]) _ _ _); (rename News _ _ _ _ => lN'ω); k_dflt (refine' len_drop lN'ω ?k3 ?k4 ?_; (case k3 => assumption); (case k4 => decide)); k_whole; intro N9ω; clear lN'ω)
  k_with "call ref" => (
      (with_reducible show wpAny _ _ (call (Value.ref 276) _) _ _ _)
      k_dflt (refine' Does.here (draw_upd ?p0 ?p1 ?p2 ?U1 ?U2 ?p3 ?p4 ?p5) ?k1 ?k2 ?k3 ?k4 ?k5 ?k6 ?k7 ?k8 ?k9 ?_; k_extra "my sides"; (case U1 => k_updF); (case p0 => first | exact DeckI.fa (by assumption) | exact ⟨_, by assumption⟩); (case U2 => (intro oω; (try dsimp only); k_updF)); (case p1 => k_extra "my deck"); (case p2 => assumption); (case p3 => k_ne); (case p4 => omega); (case p5 => omega))
      (intro v9ω news9ω h9ω tk9ω F9ω N9ω r9ω)
      (obtain ⟨⟨k9ω, u9ω, e9ω, b9ω, c9ω⟩, od9ω, m9ω, ws9ω, ls9ω, nn9ω, D9ω, f9ω⟩ := r9ω)
      (subst e9ω)
      (subst f9ω)
      (try dsimp only at N9ω)
      (try dsimp only)
      (try k_sweep)
      (try k_fold))
  k_with "call ref" => (
      (with_reducible show wpAny _ _ (call (Value.ref 283) _) _ _ _)
      k_dflt (refine' Does.val1 (codeA ?p1 ?p2 ?p3 ?p4) ?k1 ?k2 ?k3 ?k4 ?k5 ?k6 ?k7 ?k8 ?k9 ?_; k_extra "my sides"; (case p1 => omega); (case p2 => omega); (case p3 => omega); (case p4 => omega))
      k_extra "my plain1")
  trivial
section
noncomputable def isMut (o : Obj) : Bool := o.cls == .type "dict" || o.cls == .type "list"
/-- the row's values -/
noncomputable def RowV (n : List (Addr × Obj)) (rws : List Value) (cells : List Cell) : Prop := rws.length = cells.length ∧ ∀ k, k < cells.length → ∃ v, rws[k]? = some v ∧ TupIn n v (cells.getD k c0)
theorem RowV.mono {n n' : List (Addr × Obj)} {rws : List Value} {cells : List Cell} (R : RowV n rws cells) (h : ∀ p ∈ n, isMut p.2 = false → isIt p.2 = false → p ∈ n') : RowV n' rws cells :=
  ⟨R.1, fun k hk => let ⟨v, e, a, t1, t2, n, e', m⟩ := R.2 k hk; ⟨v, e, a, t1, t2, n, e', h _ m rfl rfl⟩⟩
theorem RowV.snoc {n : List (Addr × Obj)} {rws : List Value} {W : List Nat} {y : Nat} {a : Addr} {t1 t2 : Tok} {k : Nat} (R : RowV n rws (cw W)) (m : (a, tupObj (symCell y) t1 t2 k) ∈ n) : RowV n (rws ++ [.ref a]) (cw (W ++ [y])) := by
  refine ⟨by rw [List.length_append, R.1]; simp, fun j hj => ?_⟩
  have hl := R.1
  rw [cw_len] at hj hl
  by_cases e : j < W.length
  · obtain ⟨v, e1, e2⟩ := R.2 j (by rw [cw_len]; exact e)
    refine ⟨v, ?_, ?_⟩
    · rw [List.getElem?_append_left (by omega)]; exact e1
    · rw [cw_at hj]
      rw [cw_at e] at e2
      have : (W ++ [y]).getD j 0 = W.getD j 0 := by
        simp [List.getD, List.getElem?_append_left e]
      rw [this]; exact e2
  · have e' : j = W.length := by simp at hj; omega
    subst e'
    refine ⟨.ref a, ?_, a, t1, t2, k, rfl, ?_⟩
    · rw [← hl]; simp
    · rw [cw_at hj]
      have : (W ++ [y]).getD W.length 0 = y := by simp [List.getD]
      rw [this]; exact m
/-- four entries that turn -/
structure Four (tx rw dk ll : Addr) (R : List (Addr × Obj)) : Prop where
  a1 : ∀ p ∈ R, p.1 ≠ tx
  a2 : ∀ p ∈ R, p.1 ≠ rw
  a3 : ∀ p ∈ R, p.1 ≠ dk
  a4 : ∀ p ∈ R, p.1 ≠ ll
/-- what a turn of the building loop leaves -/
noncomputable def BTurn (w : World) (h₀ : Heap) (L tx rw dk ll : Addr) (turn : Int) (t : Tok) (txs rws : List Value) (R : List (Addr × Obj)) (s₁ : Shared) (Q : Flow → Shared → Prop) (f : Flow) (s₂ : Shared) : Prop :=
  match f with
  | .ret v => Q (.ret v) s₂
  | .brk => Q .next s₂
  | _ => ∃ h' tk m' n' y k1 k2 od m ws ls nn a t1 t2 n u, s₂ = { s₁ with heap := h', toks := tk } ∧ Fr h₀ L h' m' ∧ News h₀ L h' n' ∧ (∀ p ∈ R, p ∈ n') ∧ m' (Str.ofString "turn") = some (.int turn t) ∧ m' (Str.ofString "deck") = some (.ref dk) ∧ m' (Str.ofString "row") = some (.ref rw) ∧
      y < 18 ∧ (tx, listOf (List.toArray (txs ++ [.int (symCode turn.toNat y) u])) k1) ∈ n' ∧ (rw, listOf (List.toArray (rws ++ [.ref a])) k2) ∈ n' ∧ (a, tupObj (symCell y) t1 t2 n) ∈ n' ∧ (dk, od) ∈ n' ∧ (ll, listOf (List.toArray ws) nn) ∈ n' ∧ DeckI w od ll m ws ls nn
theorem BTurn.intro {w : World} {h₀ : Heap} {L tx rw dk ll : Addr} {turn : Int} {t : Tok} {txs rws : List Value} {R : List (Addr × Obj)} {s₁ : Shared} {Q : Flow → Shared → Prop} {h' : Heap} {tk : Nat} {m' : Str → Option Value} {n' : List (Addr × Obj)} {y k1 k2 : Nat} {od : Obj} {m : Int} {ws : List Value} {ls : List Int} {nn : Nat} {a : Addr} {t1 t2 : Tok} {n : Nat} {u : Tok}
    (F : Fr h₀ L h' m') (N : News h₀ L h' n') (hR : ∀ p ∈ R, p ∈ n') (e1 : m' (Str.ofString "turn") = some (.int turn t)) (e2 : m' (Str.ofString "deck") = some (.ref dk)) (e3 : m' (Str.ofString "row") = some (.ref rw))
    (hy : y < 18) (x1 : (tx, listOf (List.toArray (txs ++ [.int (symCode turn.toNat y) u])) k1) ∈ n') (x2 : (rw, listOf (List.toArray (rws ++ [.ref a])) k2) ∈ n') (x3 : (a, tupObj (symCell y) t1 t2 n) ∈ n') (x4 : (dk, od) ∈ n') (x5 : (ll, listOf (List.toArray ws) nn) ∈ n') (D : DeckI w od ll m ws ls nn) :
    BTurn w h₀ L tx rw dk ll turn t txs rws R s₁ Q .next { s₁ with heap := h', toks := tk } := ⟨h', tk, m', n', y, k1, k2, od, m, ws, ls, nn, a, t1, t2, n, u, rfl, F, N, hR, e1, e2, e3, hy, x1, x2, x3, x4, x5, D⟩
theorem fr_B3 {h₀ : Heap} {L : Addr} {h : Heap} {m : Str → Option Value} {x y z : Str} {v v' v'' : Value} (F : Fr h₀ L h m) (e : m x = some v) (e' : m y = some v') (e'' : m z = some v'') : Fr h₀ L h (kstB m [(x, v), (y, v'), (z, v'')]) := by
  have : kstB m [(x, v), (y, v'), (z, v'')] = m := funext fun q => kstB_eq (by intro p hp; simp at hp; rcases hp with rfl | rfl | rfl <;> assumption) fun _ => rfl
  rw [this]; exact F
section
variable {w : World} {A : Around} {E : Value → Shared → Prop} {s : Shared} {env : Env} {h₀ : Heap} {body : List Stmt} {Q : Flow → Shared → Prop}
theorem build_loop {r tx rw dk ll : Addr} {n : Int} {t₀ u₀ v₀ t : Tok} {turn : Int} {k1 k2 : Nat} {od : Obj} {mm : Int} {ws : List Value} {ls : List Int} {nn : Nat} {m₀ : Str → Option Value} {R : List (Addr × Obj)} {x : Str} {px : Pos} (hh : A.handled = none)
    (hr : IsRange s.heap r 0 n 1 t₀ u₀ v₀) (hn : 0 ≤ n) (hn' : n ≤ 100) (F : Fr h₀ env.locals s.heap m₀)
    (N : News h₀ env.locals s.heap ((tx, listOf (List.toArray []) k1) :: (rw, listOf (List.toArray []) k2) :: (dk, od) :: (ll, listOf (List.toArray ws) nn) :: R)) (hR : ∀ p ∈ R, isIt p.2 = false) (D : DeckI w od ll mm ws ls nn)
    (e1 : m₀ (Str.ofString "turn") = some (.int turn t)) (e2 : m₀ (Str.ofString "deck") = some (.ref dk)) (e3 : m₀ (Str.ofString "row") = some (.ref rw)) (P : Four tx rw dk ll R)
    (step : ∀ (W : List Nat) txs rws k1 k2 od mm ws ls nn R' u t9 h₁ tk₁, (W.length : Int) < n → WOk W → txs.length = W.length → IntsAre txs (W.map (symCode turn.toNat)) → rws.length = W.length → RowV R' rws (cw W) → DeckI w od ll mm ws ls nn → (∀ p ∈ R, p ∈ R') → Four tx rw dk ll R' →
      Fr h₀ env.locals h₁ (kstB u [(Str.ofString "turn", .int turn t), (Str.ofString "deck", .ref dk), (Str.ofString "row", .ref rw)]) →
      News h₀ env.locals h₁ ((tx, listOf (List.toArray txs) k1) :: (rw, listOf (List.toArray rws) k2) :: (dk, od) :: (ll, listOf (List.toArray ws) nn) :: R') →
      wpAny (model Pg w) A (assign (.Name x px) env (.int (W.length : Nat) t9)) (fun _ s₃ => wpAny (model Pg w) A (execs body env) (BTurn w h₀ env.locals tx rw dk ll turn t txs rws R' { s with heap := h₁, toks := tk₁ } Q) E s₃) E { s with heap := h₁, toks := tk₁ })
    (done : ∀ (W : List Nat) txs rws k1 k2 od mm ws ls nn R' u h₁ tk₁, (W.length : Int) = n → WOk W → txs.length = W.length → IntsAre txs (W.map (symCode turn.toNat)) → rws.length = W.length → RowV R' rws (cw W) → DeckI w od ll mm ws ls nn → (∀ p ∈ R, p ∈ R') → Four tx rw dk ll R' →
      Fr h₀ env.locals h₁ (kstB u [(Str.ofString "turn", .int turn t), (Str.ofString "deck", .ref dk), (Str.ofString "row", .ref rw)]) →
      News h₀ env.locals h₁ ((tx, listOf (List.toArray txs) k1) :: (rw, listOf (List.toArray rws) k2) :: (dk, od) :: (ll, listOf (List.toArray ws) nn) :: R') → Q .next { s with heap := h₁, toks := tk₁ }) :
    wpAny (model Pg w) A (pyIter (.ref r)) (fun it s₂ => TurnsAt Pg w A h₀ env (.Name x px) body Q E it s₂) E s := by
  let J : Nat → (Str → Option Value) → List (Addr × Obj) → Prop := fun i m n' => m (Str.ofString "turn") = some (.int turn t) ∧ m (Str.ofString "deck") = some (.ref dk) ∧ m (Str.ofString "row") = some (.ref rw) ∧ (∀ p ∈ R, p ∈ n') ∧
    ∃ (W : List Nat) (txs rws : List Value) (k1 k2 : Nat) (od : Obj) (mm : Int) (ws : List Value) (ls : List Int) (nn : Nat), W.length = i ∧ WOk W ∧ IntsAre txs (W.map (symCode turn.toNat)) ∧ RowV n' rws (cw W) ∧ DeckI w od ll mm ws ls nn ∧
      (tx, listOf (List.toArray txs) k1) ∈ n' ∧ (rw, listOf (List.toArray rws) k2) ∈ n' ∧ (dk, od) ∈ n' ∧ (ll, listOf (List.toArray ws) nn) ∈ n'
  have open' : ∀ {i : Nat} {m : Str → Option Value} {n' : List (Addr × Obj)} {h : Heap}, J i m n' → News h₀ env.locals h n' → ∃ (W : List Nat) (txs rws : List Value) (k1 k2 : Nat) (od : Obj) (mm : Int) (ws : List Value) (ls : List Int) (nn : Nat) (R' : List (Addr × Obj)), W.length = i ∧ WOk W ∧ txs.length = W.length ∧ IntsAre txs (W.map (symCode turn.toNat)) ∧ rws.length = W.length ∧ RowV R' rws (cw W) ∧ DeckI w od ll mm ws ls nn ∧
      (∀ p ∈ R, p ∈ R') ∧ Four tx rw dk ll R' ∧ News h₀ env.locals h ((tx, listOf (List.toArray txs) k1) :: (rw, listOf (List.toArray rws) k2) :: (dk, od) :: (ll, listOf (List.toArray ws) nn) :: R') ∧ (∀ p ∈ n', isMut p.2 = false → p ∈ R') := by
    rintro i m n' h ⟨_, _, _, hRn, W, txs, rws, k1, k2, od, mm, ws, ls, nn, w1, w2, w3, w4, w5, x1, x2, x3, x4⟩ N'
    have hmut : ∀ p ∈ n', isMut p.2 = false → p ∈ n'.filter fun p => p.1 != tx && p.1 != rw && p.1 != dk && p.1 != ll := by
      intro p hp hm
      refine List.mem_filter.mpr ⟨hp, ?_⟩
      simp only [Bool.and_eq_true, bne_iff_ne, ne_eq]
      obtain ⟨td, hd⟩ := w5.fa
      have hod : od.cls = .type "dict" := IsDictOf.clsIs hd
      refine ⟨⟨⟨fun e => ?_, fun e => ?_⟩, fun e => ?_⟩, fun e => ?_⟩
      · rw [News.one N' hp x1 e] at hm; cases hm
      · rw [News.one N' hp x2 e] at hm; cases hm
      · rw [News.one N' hp x3 e] at hm
        unfold isMut at hm
        rw [hod] at hm
        cases hm
      · rw [News.one N' hp x4 e] at hm; cases hm
    have hf : ∀ p ∈ n'.filter fun p => p.1 != tx && p.1 != rw && p.1 != dk && p.1 != ll, p.1 ≠ tx ∧ p.1 ≠ rw ∧ p.1 ≠ dk ∧ p.1 ≠ ll := by
      intro p hp
      have := (List.mem_filter.mp hp).2
      simp only [Bool.and_eq_true, bne_iff_ne, ne_eq] at this
      exact ⟨this.1.1.1, this.1.1.2, this.1.2, this.2⟩
    have ln : rws.length = W.length := by rw [w4.1, cw_len]
    refine ⟨W, txs, rws, k1, k2, od, mm, ws, ls, nn, n'.filter fun p => p.1 != tx && p.1 != rw && p.1 != dk && p.1 != ll, w1, w2, by have := w3.length; simpa using this, w3, ln, w4.mono fun p hp hm _ => hmut p hp hm, w5, fun p hp => ?_, ⟨fun p hp => (hf p hp).1, fun p hp => (hf p hp).2.1, fun p hp => (hf p hp).2.2.1, fun p hp => (hf p hp).2.2.2⟩, fun p hp => ?_, hmut⟩
    · exact List.mem_filter.mpr ⟨hRn p hp, by
        simp only [Bool.and_eq_true, bne_iff_ne, ne_eq]
        exact ⟨⟨⟨P.a1 p hp, P.a2 p hp⟩, P.a3 p hp⟩, P.a4 p hp⟩⟩
    · rcases List.mem_cons.mp hp with rfl | hp
      · exact N' _ x1
      · rcases List.mem_cons.mp hp with rfl | hp
        · exact N' _ x2
        · rcases List.mem_cons.mp hp with rfl | hp
          · exact N' _ x3
          · rcases List.mem_cons.mp hp with rfl | hp
            · exact N' _ x4
            · exact N' _ (List.mem_filter.mp hp).1
  have hsz : Builtin.Range.rangeSize 0 n 1 = ((n.toNat : Nat) : Int) := by
    rw [rangeSize_nat]; omega
  have hsm : Builtin.Range.small 0 n 1 = true := small_one (by decide) (by decide) (by omega) (by omega)
  refine m_forRange (n := n.toNat) isMut hh J ?_ (fun o e => by unfold isMut; rw [e]; rfl) hr hsm hsz F N ?_ ?_ ?_
  · rintro i m n1 n2 hn ⟨j1, j2, j3, j4, W, txs, rws, k1, k2, od, mm, ws, ls, nn, w1, w2, w3, w4, w5, x1, x2, x3, x4⟩
    obtain ⟨td, hd⟩ := w5.fa
    exact ⟨j1, j2, j3, fun p hp => hn p (j4 p hp) (hR p hp), W, txs, rws, k1, k2, od, mm, ws, ls, nn, w1, w2, w3, w4.mono (fun p hp _ hi => hn p hp hi), w5, hn _ x1 rfl, hn _ x2 rfl, hn _ x3 (dict_notIt (IsDictOf.clsIs hd)), hn _ x4 rfl⟩
  · exact ⟨e1, e2, e3, fun p hp => List.Mem.tail _ (List.Mem.tail _ (List.Mem.tail _ (List.Mem.tail _ hp))), [], [], [], k1, k2, od, mm, ws, ls, nn, rfl, fun k hk => absurd hk (Nat.not_lt_zero _), .nil, ⟨rfl, fun k hk => absurd hk (Nat.not_lt_zero _)⟩, D, List.Mem.head _, List.Mem.tail _ (List.Mem.head _), List.Mem.tail _ (List.Mem.tail _ (List.Mem.head _)), List.Mem.tail _ (List.Mem.tail _ (List.Mem.tail _ (List.Mem.head _)))⟩
  · intro i t9 m₁ nw h₁ tk₁ hi hj F₁ N₁
    obtain ⟨W, txs, rws, k1, k2, od, mm, ws, ls, nn, R', w1, w2, w2', w3, w3', w4, w5, w6, w7, w8, w9⟩ := open' hj N₁
    subst w1
    rw [Int.zero_add]
    refine wpAny_mono (step W txs rws k1 k2 od mm ws ls nn R' m₁ t9 h₁ tk₁ (lt_toNat hi) w2 w2' w3 w3' w4 w5 w6 w7 (fr_B3 F₁ hj.1 hj.2.1 hj.2.2.1) w8) (fun _ s₃ q => wpAny_mono q (fun f s₄ z => ?_) fun _ _ x => x) fun _ _ x => x
    have fin : (∃ h' tk m' n' y k1 k2 od m ws ls nn a t1 t2 n u, s₄ = { ({ s with heap := h₁, toks := tk₁ } : Shared) with heap := h', toks := tk } ∧ Fr h₀ env.locals h' m' ∧ News h₀ env.locals h' n' ∧ (∀ p ∈ R', p ∈ n') ∧ m' (Str.ofString "turn") = some (.int turn t) ∧ m' (Str.ofString "deck") = some (.ref dk) ∧ m' (Str.ofString "row") = some (.ref rw) ∧
      y < 18 ∧ (tx, listOf (List.toArray (txs ++ [.int (symCode turn.toNat y) u])) k1) ∈ n' ∧ (rw, listOf (List.toArray (rws ++ [.ref a])) k2) ∈ n' ∧ (a, tupObj (symCell y) t1 t2 n) ∈ n' ∧ (dk, od) ∈ n' ∧ (ll, listOf (List.toArray ws) nn) ∈ n' ∧ DeckI w od ll m ws ls nn) →
        (∃ h' tk m' nw', s₄ = { ({ s with heap := h₁, toks := tk₁ } : Shared) with heap := h', toks := tk } ∧ Fr h₀ env.locals h' m' ∧ News h₀ env.locals h' nw' ∧ (∀ p ∈ nw, isMut p.2 = false → p ∈ nw') ∧ J (W.length + 1) m' nw') := by
      rintro ⟨h', tk, m', n', y, k1, k2, od, m, ws, ls, nn, a, t1, t2, n, u, e, F', N', q1, q2, q3, q4, q5, q6, q7, q8, q9, q10, q11⟩
      refine ⟨h', tk, m', n', e, F', N', fun p hp hm => q1 p (w9 p hp hm), q2, q3, q4, fun p hp => q1 p (w6 p hp), W ++ [y], txs ++ [.int (symCode turn.toNat y) u], rws ++ [.ref a], k1, k2, od, m, ws, ls, nn, by simp, ?_, ?_, (w4.mono fun p hp _ _ => q1 p hp).snoc q8, q11, q6, q7, q9, q10⟩
      · intro k hk
        by_cases e : k < W.length
        · have : (W ++ [y]).getD k 0 = W.getD k 0 := by simp [List.getD, List.getElem?_append_left e]
          rw [this]; exact w2 k e
        · have e' : k = W.length := by simp at hk; omega
          subst e'
          have : (W ++ [y]).getD W.length 0 = y := by simp [List.getD]
          rw [this]; exact q5
      · rw [List.map_append]
        exact IntsAre.append w3 (.cons _ _ .nil)
    cases f with
    | ret v => exact z
    | brk => exact z
    | next => exact fin z
    | cont => exact fin z
  · intro h' tk m' n' F' N' hj
    obtain ⟨W, txs, rws, k1, k2, od, mm, ws, ls, nn, R', w1, w2, w2', w3, w3', w4, w5, w6, w7, w8, w9⟩ := open' hj N'
    exact done W txs rws k1 k2 od mm ws ls nn R' m' h' tk (eq_toNat w1 hn) w2 w2' w3 w3' w4 w5 w6 w7 (fr_B3 F' hj.1 hj.2.1 hj.2.2.1) w8
end


end
theorem fresh_comps : True := by
  k_with "exec If" => k_extra "my if"
  k_with "call builtin:list.append" => k_extra "my app"
  k_with "subscriptTail Call Name nil nil BinOp ref int" => k_extra "my item"
  k_with "subscriptTail Call Name nil nil Name ref int" => k_extra "my item"
  trivial
section
theorem readsAll_bools {h : Heap} : ∀ bs : List Bool, ReadsAll h (bs.map Value.bool) (bs.map PyData.bool) []
  | [] => .nil
  | b :: r => by
    have := ReadsAll.cons (Reads.bool (h := h) b) (readsAll_bools (h := h) r)
    simpa using this
theorem reads_bools {h : Heap} {a : Addr} {bs : List Bool} (hl : h.IsList a (bs.map Value.bool).toArray) : Reads h (.ref a) (.list (bs.map PyData.bool)) [a] := by
  obtain ⟨o, ho, hc, n, hd⟩ := hl
  exact Reads.list ho hc hd (by simpa using readsAll_bools bs)
theorem canLay_bools : ∀ bs : List Bool, PyData.canLayAll0 (bs.map PyData.bool) = true
  | [] => by simp [PyData.canLayAll0]
  | b :: r => by simp [PyData.canLayAll0, PyData.canLay0, canLay_bools r]
theorem depth_bools : ∀ bs : List Bool, PyData.depthAll (bs.map PyData.bool) ≤ 1
  | [] => by simp [PyData.depthAll]
  | b :: r => by
    have := depth_bools r
    simp only [List.map_cons, PyData.depthAll, PyData.depth]
    lia
theorem shaped_bools (bs : List Bool) : PySem.SeqAt.shaped (.list (bs.map PyData.bool)) = true := by
  have h1 := depth_bools bs
  have h2 : PyData.depth (.list (bs.map PyData.bool)) ≤ 64 := by simp only [PyData.depth]; lia
  show (PyData.canLay0 (.list (bs.map PyData.bool)) && decide (PyData.depth (.list (bs.map PyData.bool)) ≤ 64)) = true
  rw [Bool.and_eq_true]
  exact ⟨by simp only [PyData.canLay0]; exact canLay_bools bs, decide_eq_true h2⟩
theorem noMix_bools : ∀ bs cs : List Bool, PySem.SeqAt.noMixAll (bs.map PyData.bool) (cs.map PyData.bool) = true
  | [], [] => by simp [PySem.SeqAt.noMixAll]
  | [], _ :: _ => by simp [PySem.SeqAt.noMixAll]
  | _ :: _, [] => by simp [PySem.SeqAt.noMixAll]
  | _ :: r, _ :: q => by simp [PySem.SeqAt.noMixAll, PySem.SeqAt.noMix, noMix_bools r q]
theorem same_bools : ∀ bs : List Bool, PySem.Spec.sameAll (bs.map PyData.bool) (bs.map PyData.bool) = true
  | [] => by simp [PySem.Spec.sameAll]
  | n :: r => by simp [PySem.Spec.sameAll, PySem.Spec.same, same_bools r]
section
variable {prog : Program} {w : World} {A : Around} {E : Value → Shared → Prop} {s : Shared} {h₀ : Heap} {L : Addr} {m : Str → Option Value} {env : Env} {news : List (Addr × Obj)}
/-- two lists of bools, alike, are not unlike -/
theorem ne_bools {a b : Addr} {bs : List Bool} {vs us : List Value} {k k' : Nat} {Q : Value → Shared → Prop} (N : News h₀ L s.heap news) (ha : (a, listOf (List.toArray vs) k) ∈ news) (hb : (b, listOf (List.toArray us) k') ∈ news)
    (ea : vs = bs.map Value.bool) (eb : us = bs.map Value.bool) (hu : A.units + 64 < cLine) (h : Q (.bool false) s) : wpAny (model prog w) A (compareOp .NotEq (.ref a) (.ref b)) Q E s := by
  subst ea; subst eb
  exact ne_dataH_same (reads_bools (News.isList N ha)) (reads_bools (News.isList N hb)) (shaped_bools bs) (shaped_bools bs) hu (by simp only [PySem.SeqAt.noMix]; exact noMix_bools bs bs) (by simp only [PySem.Spec.same]; rw [same_bools]; exact h)
variable {elt : Expr} {x : Str} {scope : Scope} {cl : List (Str × Addr)} {S : List (Addr × Obj) → Prop} {P : Nat → Value → Prop} {Fin : List Value → List (Addr × Obj) → Prop}
/-- a comprehension over n turns, its element a bool told by the turn; the ledger stays -/
theorem bools_rest {n : Nat} (g : Nat → Bool) (hP : ∀ i v, i < n → P i v → ∃ t, v = .int (i : Nat) t)
    (turn : ∀ (i : Nat) t I oI C oC D m₂ ys h tk (E' : Value → Shared → Prop), i < n → LCg.NsObj oC m₂ → m₂ x = some (.int (i : Nat) t) → Fr h₀ L h m → News h₀ L h ((I, oI) :: (C, oC) :: (D, LCg.lst ys) :: news) → LCg.Off3 I C D news → ((@Ne Nat I C) ∧ (@Ne Nat I D) ∧ (@Ne Nat C D)) →
      wpAny (model prog w) A (eval elt (compEnvC scope cl C env)) (LCg.CompEnd h₀ L m { s with heap := h, toks := tk } I oI C oC D (LCg.lst ys) S (fun y news' => news' = news ∧ y = .bool (g i))) E' { s with heap := h, toks := tk })
    (fin : Fin ((List.range n).map fun i => .bool (g i)) news) : LCg.CompRest prog w A h₀ L m env elt x scope cl s S P Fin n 0 [] news := by
  have key : ∀ (j i : Nat), i + j = n → LCg.CompRest prog w A h₀ L m env elt x scope cl s S P Fin j i ((List.range i).map fun i => .bool (g i)) news := by
    intro j
    induction j with
    | zero =>
      intro i hi
      have e : i = n := by omega
      subst e
      exact LCg.CompRest.zero fin
    | succ j ih =>
      intro i hi
      refine LCg.CompRest.succ ?_
      intro v I oI C oC D m₂ h tk E' hv hC hx F N off ne
      obtain ⟨t, hv'⟩ := hP i v (by omega) hv
      rw [hv'] at hx
      refine wpAny_mono (turn i t I oI C oC D m₂ _ h tk E' (by omega) hC hx F N off ne) (fun y s₂ hq => ?_) fun _ _ e => e
      obtain ⟨h', tk', nw, e, F', N', off', hS, hn, hy'⟩ := hq
      rw [hn] at N' off' hS
      refine ⟨h', tk', news, e, F', N', off', hS, ?_⟩
      rw [hy']
      have := ih (i + 1) (by omega)
      rw [List.range_succ, List.map_append] at this
      exact this
  exact key n 0 (by omega)
/-- a comprehension over a list, its ledger turning with a state -/
theorem state_rest {σ : Type} {n : Nat} (g : Nat → Bool) (c : Nat → Int) (St : Nat → σ → Prop) (Led : σ → List (Addr × Obj)) (hP : ∀ i v, i < n → P i v → ∃ t, v = .int (c i) t)
    (turn : ∀ (i : Nat) a t I oI C oC D m₂ ys h tk (E' : Value → Shared → Prop), i < n → St i a → LCg.NsObj oC m₂ → m₂ x = some (.int (c i) t) → Fr h₀ L h m → News h₀ L h ((I, oI) :: (C, oC) :: (D, LCg.lst ys) :: Led a) → LCg.Off3 I C D (Led a) → ((@Ne Nat I C) ∧ (@Ne Nat I D) ∧ (@Ne Nat C D)) →
      wpAny (model prog w) A (eval elt (compEnvC scope cl C env)) (LCg.CompEnd h₀ L m { s with heap := h, toks := tk } I oI C oC D (LCg.lst ys) S (fun y news' => ∃ a', St (i + 1) a' ∧ news' = Led a' ∧ y = .bool (g i))) E' { s with heap := h, toks := tk })
    (fin : ∀ a, St n a → Fin ((List.range n).map fun i => .bool (g i)) (Led a)) {a₀ : σ} (h0 : St 0 a₀) : LCg.CompRest prog w A h₀ L m env elt x scope cl s S P Fin n 0 [] (Led a₀) := by
  have key : ∀ (j i : Nat) (a : σ), i + j = n → St i a → LCg.CompRest prog w A h₀ L m env elt x scope cl s S P Fin j i ((List.range i).map fun i => .bool (g i)) (Led a) := by
    intro j
    induction j with
    | zero =>
      intro i a hi ha
      have e : i = n := by omega
      subst e
      exact LCg.CompRest.zero (fin a ha)
    | succ j ih =>
      intro i a hi ha
      refine LCg.CompRest.succ ?_
      intro v I oI C oC D m₂ h tk E' hv hC hx F N off ne
      obtain ⟨t, hv'⟩ := hP i v (by omega) hv
      rw [hv'] at hx
      refine wpAny_mono (turn i a t I oI C oC D m₂ _ h tk E' (by omega) ha hC hx F N off ne) (fun y s₂ hq => ?_) fun _ _ e => e
      obtain ⟨h', tk', nw, e, F', N', off', hS, a', ha', hn, hy'⟩ := hq
      rw [hn] at N' off' hS
      refine ⟨h', tk', Led a', e, F', N', off', hS, ?_⟩
      rw [hy']
      have := ih (i + 1) a' (by omega) ha'
      rw [List.range_succ, List.map_append] at this
      exact this
  exact key n 0 a₀ (by omega) h0
end


end
section
/-- the law's own body and scope, taken out of the program -/
noncomputable def lawParts : { p : List Stmt × Scope // ∃ n a d r tp ts b pos, PySem.Challenge.pw_nt0026_01.main.body.getLast? = some (.FunctionDef n a p.1 d r tp p.2 ts b pos) } := ⟨(_, _), _, _, _, _, _, _, _, _, rfl⟩
noncomputable def forParts : { b : List Stmt // ∃ t i o p, lawParts.1.1[3]? = some (.For t i b o p) } := ⟨_, _, _, _, _, rfl⟩
noncomputable abbrev lawEnv (L fa : Addr) (cd : Value) : Env := envOfC (Str.ofString "law") lawParts.1.2 L fa cd
/-- the law's body, cut behind the building loop: a statement and what stands behind it -/
noncomputable def cut4 : { p : Stmt × List Stmt // lawParts.1.1.drop 4 = p.1 :: p.2 } := ⟨(_, _), rfl⟩
noncomputable def cut5 : { p : Stmt × List Stmt // cut4.1.2 = p.1 :: p.2 } := ⟨(_, _), rfl⟩
noncomputable def cut6 : { p : Stmt × List Stmt // cut5.1.2 = p.1 :: p.2 } := ⟨(_, _), rfl⟩
noncomputable def cut7 : { p : Stmt × List Stmt // cut6.1.2 = p.1 :: p.2 } := ⟨(_, _), rfl⟩
noncomputable def cut8 : { p : Stmt × List Stmt // cut7.1.2 = p.1 :: p.2 } := ⟨(_, _), rfl⟩
noncomputable def cut9 : { p : Stmt × List Stmt // cut8.1.2 = p.1 :: p.2 } := ⟨(_, _), rfl⟩
noncomputable def cut10 : { p : Stmt × List Stmt // cut9.1.2 = p.1 :: p.2 } := ⟨(_, _), rfl⟩
theorem cut10_end : cut10.1.2 = [] := rfl


end
section
/-- from a break the grammar tells the next -/
noncomputable def Gram (cells : List Cell) (leg : Bool) : Prop := ∀ a, a < cells.length → breakF cells a leg = true → a < endF cells leg a ∧ endF cells leg a ≤ cells.length ∧ (∀ j, a < j → j < endF cells leg a → breakF cells j leg = false) ∧ breakF cells (endF cells leg a) leg = true
theorem gram_cw {W : List Nat} (h : WOk W) (leg : Bool) : Gram (cw W) leg := by
  intro a ha hb
  have e := cw_len (W := W)
  rw [e] at ha ⊢
  exact end_break h ha hb
/-- what stands still behind the building loop -/
structure Base (w : World) (R : List (Addr × Obj)) (L tx rw dat : Addr) (codes : List Int) (cells : List Cell) : Prop where
  lo : 1 ≤ cells.length
  hi : cells.length ≤ 100
  len : codes.length = cells.length
  ctx : ∃ o, (L + 1, o) ∈ R ∧ o.data = .cell (some (.ref tx))
  cda : ∃ o, (L + 1 + 1, o) ∈ R ∧ o.data = .cell (some (.ref dat))
  txt : ∃ txs k, (tx, listOf (List.toArray txs) k) ∈ R ∧ IntsAre txs codes
  row : RowAt R rw cells
  db : ∃ G I P, DB w R dat G I P ∧ Cells G I P codes cells
  gram : ∀ leg, Gram cells leg
  ok : CellsOk cells
  take : ∀ i, i < cells.length → TakeC (cells.getD i c0)
theorem Base.mono {w : World} {R R' : List (Addr × Obj)} {L tx rw dat : Addr} {codes : List Int} {cells : List Cell} (B : Base w R L tx rw dat codes cells) (h : ∀ p ∈ R, p ∈ R') : Base w R' L tx rw dat codes cells := by
  obtain ⟨b1, b2, b3, ⟨o1, m1, d1⟩, ⟨o2, m2, d2⟩, ⟨txs, k, m3, i3⟩, b7, ⟨G, I, P, d8, c8⟩, b9, b10, b11⟩ := B
  exact ⟨b1, b2, b3, ⟨o1, h _ m1, d1⟩, ⟨o2, h _ m2, d2⟩, ⟨txs, k, h _ m3, i3⟩, b7.mono h, ⟨G, I, P, d8.mono h, c8⟩, b9, b10, b11⟩
/-- the ends told so far -/
structure EndsI (cells : List Cell) (leg : Bool) (pre : List Int) (b : Int) : Prop where
  lo : 0 ≤ b
  hi : b ≤ cells.length
  num : pre.length ≤ b.toNat
  brk : breakF cells b.toNat leg = true
  mem : ∀ j : Nat, (j : Int) ≤ b → ((pre ++ [b]).any (· == (j : Int))) = breakF cells j leg
  up : ∀ i ∈ pre, i < b
theorem EndsI.start {cells : List Cell} {leg : Bool} (h : 1 ≤ cells.length) : EndsI cells leg [] 0 := by
  have hb : breakF cells 0 leg = true := by
    unfold breakF
    rw [if_pos (.inl rfl)]
    have : cells ≠ [] := by rintro rfl; simp at h
    simp [this]
  refine ⟨by decide, by lia, by simp, hb, fun j hj => ?_, fun i hi => by cases hi⟩
  have : j = 0 := by lia
  subst this
  rw [hb]; rfl
theorem EndsI.step {cells : List Cell} {leg : Bool} {pre : List Int} {b : Int} (I : EndsI cells leg pre b) (G : Gram cells leg) (h : b < cells.length) :
    EndsI cells leg (pre ++ [b]) (endF cells leg b.toNat : Nat) ∧ b < (endF cells leg b.toNat : Nat) := by
  obtain ⟨i1, i2, i3, i4, i5, i6⟩ := I
  obtain ⟨g1, g2, g3, g4⟩ := G b.toNat (by lia) i4
  have lt : b < (endF cells leg b.toNat : Nat) := by lia
  refine ⟨⟨by lia, by lia, by rw [List.length_append]; simp; lia, by rw [Int.toNat_natCast]; exact g4, fun j hj => ?_, fun i hi => ?_⟩, lt⟩
  · by_cases hjb : (j : Int) ≤ b
    · rw [List.any_append, i5 j hjb]
      have : ([((endF cells leg b.toNat : Nat) : Int)].any (· == (j : Int))) = false := by
        simp only [List.any_cons, List.any_nil, Bool.or_false, beq_eq_false_iff_ne, ne_eq]
        lia
      rw [this, Bool.or_false]
    · rw [List.any_append]
      have e1 : ((pre ++ [b]).any (· == (j : Int))) = false := by
        rw [List.any_eq_false]
        intro x hx
        simp only [beq_iff_eq]
        rcases List.mem_append.mp hx with hx | hx
        · have := i6 x hx; lia
        · rw [List.mem_singleton.mp hx]; lia
      rw [e1, Bool.false_or]
      simp only [List.any_cons, List.any_nil, Bool.or_false]
      by_cases e : j = endF cells leg b.toNat
      · subst e; rw [g4]; simp
      · rw [g3 j (by lia) (by lia)]
        simp only [beq_eq_false_iff_ne, ne_eq]
        lia
  · rcases List.mem_append.mp hi with hi | hi
    · have := i6 i hi; lia
    · rw [List.mem_singleton.mp hi]; exact lt
theorem EndsI.done {cells : List Cell} {leg : Bool} {pre : List Int} {b : Int} (I : EndsI cells leg pre b) (h : ¬ b < cells.length) : ∀ j : Nat, j ≤ cells.length → ((pre ++ [b]).any (· == (j : Int))) = breakF cells j leg :=
  fun j hj => I.mem j (by lia)
section
variable {prog : Program} {w : World} {A : Around} {E : Value → Shared → Prop} {Q : Flow → Shared → Prop} {s : Shared} {env : Env} {h₀ : Heap} {L : Addr}
noncomputable def MPostL {σ : Type} (h₀ : Heap) (L : Addr) (s : Shared) (Led : σ → List (Addr × Obj)) (ps : σ → List (Str × Value)) (stored : List Str) (m₀ : Str → Option Value) (P : σ → Prop) (μ : σ → Nat) (Q : Flow → Shared → Prop) (c : σ) (f : Flow) (s₂ : Shared) : Prop :=
  KswPost h₀ L s Led ps (fun _ => True) stored m₀ P μ Q c f s₂
/-- the way out of a while whose ledger turns -/
noncomputable def MOutL {σ : Type} (h₀ : Heap) (L : Addr) (s : Shared) (Led : σ → List (Addr × Obj)) (ps : σ → List (Str × Value)) (X : σ → Prop) (stored : List Str) (m₀ : Str → Option Value) (s₂ : Shared) : Prop :=
  ∃ (c : σ) (h' : Heap) (tk : Nat) (m' : Str → Option Value) (news' : List (Addr × Obj)), s₂ = { s with heap := h', toks := tk } ∧ Fr h₀ L h' m' ∧ News h₀ L h' news' ∧ (∀ p ∈ Led c, p ∈ news') ∧ (∀ p ∈ ps c, m' p.1 = some p.2) ∧
    (∀ z, (∀ p ∈ ps c, z ≠ p.1) → stored.contains z = false → m' z = m₀ z) ∧ X c
theorem MOutL.intro {σ : Type} {Led : σ → List (Addr × Obj)} {ps : σ → List (Str × Value)} {X : σ → Prop} {stored : List Str} {m₀ : Str → Option Value} (c : σ) {h' : Heap} {tk : Nat} {m' : Str → Option Value} {news' : List (Addr × Obj)}
    (F : Fr h₀ L h' m') (N : News h₀ L h' news') (hn : ∀ p ∈ Led c, p ∈ news') (hk : ∀ p ∈ ps c, m' p.1 = some p.2) (hr : ∀ z, (∀ p ∈ ps c, z ≠ p.1) → stored.contains z = false → m' z = m₀ z) (hx : X c) :
    MOutL h₀ L s Led ps X stored m₀ { s with heap := h', toks := tk } := ⟨c, h', tk, m', news', rfl, F, N, hn, hk, hr, hx⟩
theorem m_whileL {σ : Type} {test : Expr} {body : List Stmt} {pos : Pos} {m₀ : Str → Option Value} (Led : σ → List (Addr × Obj)) (ps : σ → List (Str × Value)) (stored : List Str) (P X : σ → Prop) (μ : σ → Nat) (c₀ : σ)
    (F : Fr h₀ L s.heap m₀) (N : News h₀ L s.heap (Led c₀)) (hk : ∀ p ∈ ps c₀, m₀ p.1 = some p.2) (hp : P c₀)
    (done : ∀ (c : σ) (u : Str → Option Value) h tk, X c → Fr h₀ L h (kstB (fun z => if stored.contains z then u z else m₀ z) (ps c)) → News h₀ L h (Led c) → Q .next { s with heap := h, toks := tk })
    (turn : ∀ (c : σ) (u : Str → Option Value) h tk, P c → Fr h₀ L h (kstB (fun z => if stored.contains z then u z else m₀ z) (ps c)) → News h₀ L h (Led c) →
      wpAny (model prog w) A (isTrue test env (eval test env)) (fun b s₂ =>
        if b = true then wpAny (model prog w) A (execs body env) (MPostL h₀ L s Led ps stored m₀ P μ Q c) E s₂ else MOutL h₀ L s Led ps X stored m₀ s₂) E { s with heap := h, toks := tk })
    (hE : PassesOwn (model prog w) A env E := by passes_own) :
    wpAny (model prog w) A (exec (.While test body [] pos) env) Q E s := by
  refine ksw_while Led ps (fun _ => True) stored P μ c₀ F N trivial hk hp (fun c u h tk _ hP F' N' => ?_) hE
  refine wpAny_mono (turn c u h tk hP F' N') (fun b s₂ p => ?_) fun _ _ x => x
  cases b with
  | true => exact p
  | false =>
    simp only [Bool.false_eq_true, if_false] at p ⊢
    obtain ⟨c', h', tk', m', news', rfl, F', N', hn, hk', hr', hx⟩ := p
    exact done c' m' h' tk' hx (ksw_fr hk' hr' F') (fun q hq => N' q (hn q hq))
theorem m_last {value slice : Expr} {news : List (Addr × Obj)} {l : Addr} {vi : List Value} {v : Value} {nn : Nat} {u : Tok} {Q : Value → Shared → Prop} (N : News h₀ L s.heap news) (hm : (l, listOf (List.toArray (vi ++ [v])) nn) ∈ news) (h : Q v s)
    (hs : subscripted slice false (.ref l) (.int (-1) u) = operate [.ref l, .int (-1) u] (getItem (.ref l) (.int (-1) u)) := by with_unfolding_all rfl) (hg : ∀ r, letTemporaryGo value (.ref l) r = pure () := by intro _; with_unfolding_all rfl) :
    wpAny (model prog w) A (subscriptTail value slice (.ref l) (.int (-1) u)) Q E s := item_last (News.isList N hm) h hs hg
/-- a range made for a comprehension -/
noncomputable def RangeMade (h₀ : Heap) (L : Addr) (u : Str → Option Value) (R : List (Addr × Obj)) (n : Int) (s : Shared) (v : Value) (s₁ : Shared) : Prop :=
  ∃ r h tk t0 u0 v0, v = .ref r ∧ s₁ = { s with heap := h, toks := tk } ∧ Fr h₀ L h u ∧ News h₀ L h R ∧ IsRange h r 0 n 1 t0 u0 v0
theorem RangeMade.intro {u : Str → Option Value} {R R' : List (Addr × Obj)} {n : Int} {h : Heap} {tk : Nat} {r : Addr} {t0 u0 v0 : Tok} (F : Fr h₀ L h u) (N : News h₀ L h R') (hs : ∀ p ∈ R, p ∈ R') (hr : IsRange h r 0 n 1 t0 u0 v0) :
    RangeMade h₀ L u R n s (.ref r) { s with heap := h, toks := tk } := ⟨r, h, tk, t0, u0, v0, rfl, rfl, F, kst_newsOf N hs, hr⟩
theorem RangeMade.src {elt : Expr} {x : Str} {scope : Scope} {cl : List (Str × Addr)} {Fin : Shared → List Value → List (Addr × Obj) → Prop} {u : Str → Option Value} {R : List (Addr × Obj)} {n : Nat} {v : Value} {s₁ : Shared} (H : RangeMade h₀ L u R (n : Nat) s v s₁) (hh : A.handled = none) (hn : n ≤ 1000)
    (h : ∀ g tk, LCg.CompRest prog w A h₀ L u env elt x scope cl { s with heap := g, toks := tk } (fun _ => True) (fun i v => ∃ t, v = .int ((0 : Int) + (i : Int)) t) (Fin { s with heap := g, toks := tk }) n 0 [] R) :
    LCg.CompSrc prog w A h₀ L u env elt x scope cl Fin v s₁ := by
  obtain ⟨r, h', tk, t0, u0, v0, rfl, rfl, F, N, hr⟩ := H
  refine LCg.CompSrc.range hh F N hr (small_one (by decide) (by decide) (by lia) (by lia)) ?_ (by rw [sizeLine_eq]; lia) fun g => h g tk
  rw [rangeSize_nat]; lia
end
theorem off3_ne {I C D : Addr} : ∀ {l : List (Addr × Obj)}, LCg.Off3 I C D l → ∀ p ∈ l, p.1 ≠ I ∧ p.1 ≠ C ∧ p.1 ≠ D := fun h => h.mem


end
theorem fresh_tailw : True := by
  k_with "MPostL" => dsimp only [MPostL, KswPost]
  k_with "subscriptTail Name UnaryOp ref int" => (k_here; (with_reducible show wpAny _ _ (subscriptTail _ _ (Value.ref _) (Value.int _ _)) _ _ _); k_dflt (refine' m_last ?N ?m ?_ ?hs ?hg; (case N => k_asm); (case m => k_mem); (case hs => with_unfolding_all rfl); (case hg => (intro _; with_unfolding_all rfl))))
  k_with "call ref" => (
      (with_reducible show wpAny _ _ (call (Value.ref 325) _) _ _ _)
      k_dflt (refine' Does.val1 (end_does ?p1 ?p2 ?p3 ?p4) ?k1 ?k2 ?k3 ?k4 ?k5 ?k6 ?k7 ?k8 ?k9 ?_; k_extra "my sides"; (case p1 => first | assumption | exact RowAt.mono (by assumption) (by k_extra "my inc")); (case p2 => omega); (case p3 => omega); (case p4 => omega))
      k_extra "my plain1")
  k_with "call ref" => (
      (with_reducible show wpAny _ _ (call (Value.ref 95) _) _ _ _)
      k_dflt (refine' Does.val (break_does ?p1 ?p2 ?p3 ?p4 ?p5 ?p6 ?p7) ?k1 ?k2 ?k3 ?k4 ?k5 ?k6 ?k7 ?k8 ?k9 ?_; k_extra "my sides"; (case p1 => k_extra "my db"); (case p2 => k_mem); (case p3 => assumption); (case p4 => omega); (case p5 => assumption); (case p6 => omega); (case p7 => omega))
      k_extra "my plain")
  trivial
section
theorem words_tailw_1 : True := by
  k_with "my same" => (intro zω h2ω _; have h4ω : zω ≠ Str.ofString "row" := h2ω _ (List.Mem.head _); simp [kstB, h4ω])
  trivial
section
variable {w : World} {h₀ base : Heap} {L fa : Addr} {cd : Value} {mean : ExcName → Option Value} {mg mb : Str → Option Value} {s : Shared} {E : Value → Shared → Prop} {Q : Flow → Shared → Prop} {u : Str → Option Value}
set_option maxRecDepth 100000 in
set_option maxHeartbeats 4000000 in
/-- the ends by the grammar -/
theorem stmt5 {tx rw dat eA : Addr} {codes : List Int} {cells : List Cell} {leg : Bool} {t0 : Tok} {k0 : Nat} {oL oE : Obj} {R : List (Addr × Obj)}
    (B : Below callerA base [] h₀) (X : (Mine.hd.heap_1 w.params).In h₀) (T : Top Mine.seen1 (looseW Mine.seen1 [Str.ofString "SYLLABLES", Str.ofString "cluster_break"]) mean mg mb h₀)
    (hE : PassesOwn (model Pg w) (callerA.deeper (lawEnv L fa cd)) (lawEnv L fa cd) E)
    (F : Fr h₀ L s.heap (kstB u [(Str.ofString "row", .ref rw)])) (N : News h₀ L s.heap ((eA, listOf (List.toArray ([] ++ [Value.int 0 t0])) k0) :: R)) (hb : Base w R L tx rw dat codes cells)
    (cl : (L + 1 + 1 + 1, oL) ∈ R) (dl : oL.data = .cell (some (.bool leg))) (ce : (L + 1 + 1 + 1 + 1, oE) ∈ R) (de : oE.data = .cell (some (.ref eA))) (ap : ∀ p ∈ R, p.1 ≠ eA)
    (next : ∀ es ns k h tk u', IntsAre es ns → (∀ j : Nat, j ≤ cells.length → (ns.any (· == (j : Int))) = breakF cells j leg) → Fr h₀ L h u' → News h₀ L h ((eA, listOf (List.toArray es) k) :: R) → Q .next { s with heap := h, toks := tk }) :
    wpAny (model Pg w) (callerA.deeper (lawEnv L fa cd)) (exec cut5.1.1 (lawEnv L fa cd)) Q E s := by
  show wpAny _ _ (exec (.While _ _ [] _) _) _ _ _
  have hrow := hb.row
  have hlo := hb.lo
  have hhi := hb.hi
  have hg := hb.gram leg
  refine m_whileL (σ := List Value × List Int × Int × Tok × Nat) (fun c => (eA, listOf (List.toArray (c.1 ++ [Value.int c.2.2.1 c.2.2.2.1])) c.2.2.2.2) :: R) (fun _ => [(Str.ofString "row", .ref rw)]) []
    (fun c => IntsAre c.1 c.2.1 ∧ EndsI cells leg c.2.1 c.2.2.1) (fun c => IntsAre c.1 c.2.1 ∧ EndsI cells leg c.2.1 c.2.2.1 ∧ ¬ c.2.2.1 < cells.length) (fun c => (cells.length - c.2.2.1).toNat) ⟨[], [], 0, t0, k0⟩ F N (by kst_all) ⟨.nil, EndsI.start hlo⟩ ?done ?turn hE
  case done =>
    rintro ⟨pre, ns, b, t, k⟩ u' h tk ⟨x1, x2, x3⟩ F1 N1
    exact next _ _ k h tk _ (IntsAre.append x1 (.cons b t .nil)) (x2.done x3) F1 N1
  case turn =>
    clear N F
    rintro ⟨pre, ns, b, t, k⟩ u' h tk ⟨x1, x2⟩ F1 N1
    dsimp only [kstB] at F1
    dsimp only at x1 x2 N1
    have b1 := x2.lo
    have b2 := x2.hi
    have b3 := x2.num
    have b4 := x1.length
    clear next hb hE
    unfold Pg
    revert X
    k_fill
    intro X
    unfold lawEnv lawParts
    dsimp only
    try k_fold
    k_with "my getm" => k_dflt (refine' kl_method ?N ?m PySem.F.slot_list_append PySem.F.type_list_append ?_; (case N => k_asm); (case m => k_mem))
    k_with "my app" =>
      k_dflt (refine' append_K ?k1 ?k2 ?k3 ?_ ?z; (case k1 => k_asm); (case k2 => k_asm); (case k3 => k_upd); (case z => (rw [sizeLine_eq]; simp; omega)); k_whole)
      intro h' F' N'
      try k_sweep
    k_steps
    all_goals first
      | (refine MOutL.intro ⟨pre, ns, b, t, k⟩ F1 N1 (fun _ h => h) (by kst_all) (by k_extra "my same") ⟨x1, x2, by assumption⟩)
      | (try simp only [List.push_toArray] at N'
         obtain ⟨y1, y2⟩ := x2.step hg (by assumption)
         refine ksw_end ⟨pre ++ [.int b t], ns ++ [b], (endF cells leg b.toNat : Nat), _, _⟩ F' N' (fun _ h => h) trivial (by kst_all) (by k_extra "my same") ⟨IntsAre.append x1 (.cons b t .nil), y1⟩ ?hm
         show (cells.length - (endF cells leg b.toNat : Nat) : Int).toNat < (cells.length - b).toNat
         omega)
end


end
theorem fresh_taild : True := by
  k_with_none
  w_top off
  k_with "is_list" => exact News.isList (by k_asm) (by k_mem)
  k_with "exec While Compare cons nil" => k_extra "my while"
  k_with "exec While BoolOp cons nil" => k_extra "my while"
  k_with "exec While Constant cons nil" => k_extra "my whileT"
  k_with "MPost" => with_reducible first | refine MPost.next ?_ | refine MPost.ret ?_ | refine MPost.brk ?_ | refine MPost.cont ?_
  k_with "seqQ" => with_reducible first | refine seqQ.next ?_ | refine seqQ.ret ?_ | refine seqQ.brk ?_ | refine seqQ.cont ?_
  k_with "my enter" => (
      refine' enter ?k6 ?k7 ?k9 ?kB ?kN ?kU ?c2 ?c3 ?c4 ?c5 ?_
      case k6 => k_is
      case k7 => k_is
      case k9 => first | exact fun _ _ => BindsTo.of_eq rfl | (intro s9ω X9ω; exact binds_K X9ω rfl (by k_is) rfl rfl rfl)
      case kB => exact locs rfl
      case kN => exact rfl
      case kU => exact rfl
      case c2 => exact rfl
      case c3 => exact rfl
      case c4 => exact rfl
      case c5 => decide
      intro dpω unω gdω outerω A₀ω baseω gω h₁ω Lω gnω drω osω tkω meanω mgω mbω Eω Bω Xω Tω hdω huω eω Aω mω hEω Fω Nω)
  k_with "my ret" => (
      first
        | refine Post.ret (by k_asm) ?kN9 ⟨rfl, ?_⟩
        | refine Post.next (by k_asm) ?kN9 ⟨rfl, ?_⟩
      case kN9 => first | k_asm | exact kst_newsOf (by assumption) (by kst_inAny)
      k_extra "my clean")
  k_with "my clean" => ((repeat (rename Fr _ _ _ _ => z9ω; clear z9ω)); (repeat (rename News _ _ _ _ => z9ω; clear z9ω)); (try clear hEω Bω Xω Tω hdω huω))
  k_with "my roomx" => first | exact room_c (by assumption) rfl | exact room_b (by assumption) rfl | exact room_a (by assumption) | exact room_d (by assumption) rfl | exact room_e (by assumption) rfl | exact Nat.le_of_ble_eq_true rfl | omega
  k_with "my room" => ((try dsimp (config := { zetaDelta := true }) only [Around.deeper, Around.mark, Around.in1]); k_extra "my roomx")
  k_with "my sides" => (
      (case k1 => k_asm)
      (case k2 => k_asm)
      (case k3 => k_asm)
      (case k4 => k_asm)
      (case k5 => k_asm)
      (case k6 => exact rfl)
      (case k7 => exact rfl)
      (case k8 => k_extra "my room")
      (case k9 => k_extra "my room"))
  k_with "compareOp In str ref" => (k_here; (with_reducible show wpAny _ _ (compareOp CmpOp.In (Value.str _ _) (Value.ref _)) _ _ _); (with_unfolding_all refine' in_tuple_strs ?k1 ?k2 ?_; (case k1 => first | exact kun_topT (by k_asm) (by k_asm) (by k_is) | exact News.isTup (by k_asm) (by k_mem)); (case k2 => kde_strs); k_whole))
  k_with "compareOp NotIn str ref" => (k_here; (with_reducible show wpAny _ _ (compareOp CmpOp.NotIn (Value.str _ _) (Value.ref _)) _ _ _); (with_unfolding_all refine' notin_tuple_strs ?k1 ?k2 ?_; (case k1 => first | exact kun_topT (by k_asm) (by k_asm) (by k_is) | exact News.isTup (by k_asm) (by k_mem)); (case k2 => kde_strs); k_whole))
  k_with "my plain" => ((intro h9ω tk9ω F9ω N9ω); (try k_sweep))
  k_with "subscriptTail" => k_extra "my item"
  k_with "compareOp In str ref" => k_extra "my in"
  k_with "my plain1" => ((intro u9ω h9ω tk9ω F9ω N9ω); (try k_sweep))
  k_with "compareOp NotEq ref ref" => (k_here; (with_reducible show wpAny _ _ (compareOp CmpOp.NotEq (Value.ref _) (Value.ref _)) _ _ _); (with_unfolding_all refine' ne_intsK ?k1 ?k2 ?k3 ?k4 ?k5 ?_; (case k1 => is_list); (case k2 => l_ints); (case k3 => is_list); (case k4 => l_ints); (case k5 => k_extra "my room"); k_whole))
  k_with "my mem" => first | ktr_member | exact List.Mem.head _ | (refine List.mem_cons_of_mem _ ?_; k_extra "my mem")
  k_with "k_mem" => k_extra "my mem"
  k_with "compareOp NotIn str ref" => k_extra "my notin"
  k_with "call builtin:dict.get" => k_extra "my get"
  k_with "getMethod ref" => k_extra "my getm"
  k_with "setItem ref str" => k_extra "my set"
  k_with "k_room" => ((try dsimp (config := { zetaDelta := true }) only); (try simp only [depth_under_make, depth_under_kw, depth_in1, depth_deeper, depth_caller]); (try dsimp only); k_extra "my roomx")
  k_with "getItem ref str" => k_extra "my gitem"
  k_with "pyIter ref" => k_extra "my for"
  k_with "k_qdec" => decide +kernel
  k_with "my lt" => with_reducible (first | assumption | exact And.left (by assumption) | exact And.left (And.right (by assumption)) | exact And.left (And.right (And.right (by assumption))) | exact And.left (And.right (And.right (And.right (by assumption)))) | exact And.left (And.right (And.right (And.right (And.right (by assumption))))) | exact And.left (And.right (And.right (And.right (And.right (And.right (by assumption)))))) | exact And.left (And.right (And.right (And.right (And.right (And.right (And.right (by assumption))))))) | exact And.left (And.right (And.right (And.right (And.right (And.right (And.right (And.right (by assumption)))))))) | exact And.left (And.right (And.right (And.right (And.right (And.right (And.right (And.right (And.right (by assumption))))))))) | exact And.left (And.right (And.right (And.right (And.right (And.right (And.right (And.right (And.right (And.right (by assumption)))))))))))
  k_with "k_ne" => first | with_reducible assumption | with_reducible exact Ne.symm (by assumption) | (refine Nat.ne_of_lt ?_; k_extra "my lt") | (refine Nat.ne_of_gt ?_; k_extra "my lt") | (refine Nat.ne_of_gt ?_; (repeat (first | exact Nat.lt_succ_self _ | refine Nat.lt_succ_of_lt ?_)); done) | (refine Nat.ne_of_lt ?_; (repeat (first | exact Nat.lt_succ_self _ | refine Nat.lt_succ_of_lt ?_)); done) | (refine neN ?_; (try dsimp only); omega)
  k_with "l_idx" => first | assumption | exact idx_a (by assumption) (by assumption) | exact idx_b (by assumption) | exact idx_c (by assumption) (by assumption)
  k_with "JPost" => with_reducible first | refine JPost.next ?_ | refine JPost.ret ?_ | refine JPost.brk ?_ | refine JPost.cont ?_
  k_with "storeName" => (k_here; k_dflt (refine' storeX_M ?F ?N ?_ ?a ?b; (case F => k_asm); (case N => k_asm); (case a => rfl); (case b => rfl); k_whole); (intro h'ω tk'ω m'ω F'ω N'ω); (try k_sweep))
  k_with "ksw skip" => repeat (first | (refine' ite_skip ?hx ?_; (case hx => first | exact ne_stored (by assumption) rfl | exact h2ω _ (List.Mem.head _) | exact h2ω _ (List.Mem.tail _ (List.Mem.head _)) | exact h2ω _ (List.Mem.tail _ (List.Mem.tail _ (List.Mem.head _))))) | refine ite_skip2 (by assumption) ?_)
  k_with "ksw_same" => (
      intro zω h2ω h3ω
      first
        | rfl
        | (k_extra "ksw skip"; first | rfl | (refine Eq.symm ?_; k_extra "ksw skip"; rfl))
        | ((simp only [List.forall_mem_cons, List.not_mem_nil, false_implies, implies_true, and_true, ne_eq] at h2ω); (simp (zetaDelta := true) [h2ω]; done))
        | ((simp only [List.forall_mem_cons, List.not_mem_nil, false_implies, implies_true, and_true, ne_eq] at h2ω); (simp only [List.contains_cons, List.contains_nil, Bool.or_false, Bool.or_eq_false_iff, beq_eq_false_iff_ne, ne_eq] at h3ω); (simp (zetaDelta := true) [h2ω, h3ω]; done)))
  k_with "execs cons" => (k_here; (first | (refine' norm_M (gn := gnω) (dr := drω) (os := osω) ?F9 ?e9 ?_; (case F9 => k_asm); (case e9 => exact rfl); intro tk9ω) | ((try dsimp only); (try k_gentoks))); first | (with_reducible refine' execs_one ?_) | ((with_reducible refine' execs_let ?_); intro kkω))
  k_with "my leaf" => with_reducible first | show Post _ _ _ _ _ _ _ _ | show JOut _ _ _ _ _ _ _ _ _ | show MEnd _ _ _ _ _ _ _ _ _ _ _ _ _ | show MOut _ _ _ _ _ _ _ _ _ _ _
  k_with "k_steps" => repeat' (first | k_unfold | ((fail_if_success k_extra "my leaf"); first | walk1 | (dsimp only; walk1)) | (leave1; walk_say "STEP leave1"; (try dsimp only)) | fail "no step")
  k_with "my cond" => simp only [true_and, and_true, false_and, and_false, true_or, or_true, false_or, or_false, if_true, if_false, Bool.false_eq_true, Bool.true_eq_false, reduceCtorEq, and_self, or_self, not_true_eq_false, not_false_eq_true]
  k_with "eval Constant int" => (k_here; (with_reducible refine int_M ?_); intro t9ω tk9ω)
  k_with "eval Constant str" => (k_here; (with_reducible refine str_M ?_); intro t9ω tk9ω)
  k_with "binaryOp Add int int" => (k_here; (with_reducible refine add_M ?_); intro t9ω tk9ω)
  k_with "binaryOp Sub int int" => (k_here; (with_reducible refine sub_M ?_); intro t9ω tk9ω)
  k_with "call ref" => (
      (with_reducible show wpAny _ _ (call (Value.ref 145) _) _ _ _)
      k_dflt (refine' Does.val1 (place_does ?p1 ?p2 ?p3) ?k1 ?k2 ?k3 ?k4 ?k5 ?k6 ?k7 ?k8 ?k9 ?_; k_extra "my sides"; (case p1 => k_mem); (case p2 => assumption); (case p3 => first | assumption | omega))
      k_extra "my plain1")
  k_with "call ref" => (
      (with_reducible show wpAny _ _ (call (Value.ref 28) _) _ _ _)
      k_dflt (refine' Does.val syllable_does ?k1 ?k2 ?k3 ?k4 ?k5 ?k6 ?k7 ?k8 ?k9 ?_; k_extra "my sides")
      k_extra "my plain")
  k_with "call ref" => (
      (with_reducible show wpAny _ _ (call (Value.ref 52) _) _ _ _)
      k_dflt (refine' Does.val joins_does ?k1 ?k2 ?k3 ?k4 ?k5 ?k6 ?k7 ?k8 ?k9 ?_; k_extra "my sides")
      k_extra "my plain")
  k_with "call ref" => (
      (with_reducible show wpAny _ _ (call (Value.ref 59) _) _ _ _)
      k_dflt (first
        | (refine' Does.val (pairS_does ?p1) ?k1 ?k2 ?k3 ?k4 ?k5 ?k6 ?k7 ?k8 ?k9 ?_; (case p1 => assumption); k_extra "my sides")
        | (refine' Does.val (pairN_does ?p1) ?k1 ?k2 ?k3 ?k4 ?k5 ?k6 ?k7 ?k8 ?k9 ?_; (case p1 => assumption); k_extra "my sides"))
      k_extra "my plain")
  k_with "call ref" => (
      (with_reducible show wpAny _ _ (call (Value.ref 173) _) _ _ _)
      k_dflt (refine' Does.val (rget_does' (by assumption) (by assumption)) ?k1 ?k2 ?k3 ?k4 ?k5 ?k6 ?k7 ?k8 ?k9 ?_; k_extra "my sides")
      k_extra "my plain")
  k_with "my cell" => first | assumption | exact Cells.at' (by assumption) _ (by omega)
  k_with "call ref" => (
      (with_reducible show wpAny _ _ (call (Value.ref 236) _) _ _ _)
      k_dflt (first
       | ((with_reducible show wpAny _ _ (call _ [_, Value.str (Str.ofString "gcb") _, _]) _ _ _); refine' Does.val (dgetG_does ?p1 ?p2) ?k1 ?k2 ?k3 ?k4 ?k5 ?k6 ?k7 ?k8 ?k9 ?_; k_extra "my sides"; (case p1 => assumption); (case p2 => assumption); k_extra "my plain")
       | ((with_reducible show wpAny _ _ (call _ [_, Value.str (Str.ofString "incb") _, _]) _ _ _); refine' Does.val1 (dgetI_does ?p1 ?p2) ?k1 ?k2 ?k3 ?k4 ?k5 ?k6 ?k7 ?k8 ?k9 ?_; k_extra "my sides"; (case p1 => assumption); (case p2 => k_extra "my cell"); k_extra "my plain1")
       | ((with_reducible show wpAny _ _ (call _ [_, Value.str (Str.ofString "ep") _, _]) _ _ _); refine' Does.val (dgetP_does ?p1 ?p2) ?k1 ?k2 ?k3 ?k4 ?k5 ?k6 ?k7 ?k8 ?k9 ?_; k_extra "my sides"; (case p1 => assumption); (case p2 => k_extra "my cell"); k_extra "my plain")))
  k_with "call ref" => (
      (with_reducible show wpAny _ _ (call (Value.ref 35) _) _ _ _)
      k_dflt (first
        | (refine' Does.val1 (kindHs_does ?p1) ?k1 ?k2 ?k3 ?k4 ?k5 ?k6 ?k7 ?k8 ?k9 ?_; (case p1 => assumption); k_extra "my sides"; k_extra "my plain1")
        | (refine' Does.val (kindHn_does ?p1) ?k1 ?k2 ?k3 ?k4 ?k5 ?k6 ?k7 ?k8 ?k9 ?_; (case p1 => assumption); k_extra "my sides"; k_extra "my plain")))
  k_with "call ref" => (
      (with_reducible show wpAny _ _ (call (Value.ref 45) _) _ _ _)
      k_dflt (refine' Does.val1 (kind_does ?p1 ?p2) ?k1 ?k2 ?k3 ?k4 ?k5 ?k6 ?k7 ?k8 ?k9 ?_; k_extra "my sides"; (case p1 => assumption); (case p2 => k_extra "my cell"))
      k_extra "my plain1")
  k_with "call ref" => (
      (with_reducible show wpAny _ _ (call (Value.ref 66) _) _ _ _)
      k_dflt (refine' Does.val (conj_does ?p1 ?p2 ?p3 ?p4 ?p5 ?p6 ?p7) ?k1 ?k2 ?k3 ?k4 ?k5 ?k6 ?k7 ?k8 ?k9 ?_; k_extra "my sides"; (case p1 => assumption); (case p2 => k_mem); (case p3 => assumption); (case p4 => omega); (case p5 => assumption); (case p6 => omega); (case p7 => omega))
      k_extra "my plain")
  k_with "call ref" => (
      (with_reducible show wpAny _ _ (call (Value.ref 73) _) _ _ _)
      k_dflt (refine' Does.val (pict_does ?p1 ?p2 ?p3 ?p4 ?p5 ?p6 ?p7) ?k1 ?k2 ?k3 ?k4 ?k5 ?k6 ?k7 ?k8 ?k9 ?_; k_extra "my sides"; (case p1 => assumption); (case p2 => k_mem); (case p3 => assumption); (case p4 => omega); (case p5 => assumption); (case p6 => omega); (case p7 => omega))
      k_extra "my plain")
  k_with "call ref" => (
      (with_reducible show wpAny _ _ (call (Value.ref 80) _) _ _ _)
      k_dflt (refine' Does.val1 (flags_does ?p1 ?p2 ?p3 ?p4 ?p5 ?p6 ?p7) ?k1 ?k2 ?k3 ?k4 ?k5 ?k6 ?k7 ?k8 ?k9 ?_; k_extra "my sides"; (case p1 => assumption); (case p2 => k_mem); (case p3 => assumption); (case p4 => omega); (case p5 => assumption); (case p6 => omega); (case p7 => omega))
      k_extra "my plain1")
  k_with "call ref" => (
      (with_reducible show wpAny _ _ (call (Value.ref 87) _) _ _ _)
      k_dflt (refine' Does.val (flag_does ?p1 ?p2 ?p3 ?p4 ?p5 ?p6 ?p7) ?k1 ?k2 ?k3 ?k4 ?k5 ?k6 ?k7 ?k8 ?k9 ?_; k_extra "my sides"; (case p1 => assumption); (case p2 => k_mem); (case p3 => assumption); (case p4 => omega); (case p5 => assumption); (case p6 => omega); (case p7 => omega))
      k_extra "my plain")
  k_with "call ref" => (
      (with_reducible show wpAny _ _ (call (Value.ref 95) _) _ _ _)
      k_dflt (refine' Does.val (break_does ?p1 ?p2 ?p3 ?p4 ?p5 ?p6 ?p7) ?k1 ?k2 ?k3 ?k4 ?k5 ?k6 ?k7 ?k8 ?k9 ?_; k_extra "my sides"; (case p1 => assumption); (case p2 => k_mem); (case p3 => assumption); (case p4 => omega); (case p5 => assumption); (case p6 => omega); (case p7 => omega))
      k_extra "my plain")
  k_with "my inc" => first | exact fun _ h => h | exact kst_inSelf | kst_inAny
  k_with "call builtin:len" => (k_here; (with_reducible show wpAny _ _ (call (Value.builtin "len") [Value.ref _]) _ _ _); k_dflt (refine' row_len ?k1 ?k2 ?k3 ?k4 ?_; (case k1 => k_asm); (case k2 => assumption); (case k3 => k_extra "my inc"); (case k4 => omega)); k_whole)
  k_with "subscriptTail Name Name ref int" => k_extra "my row"
  k_with "subscriptTail Name BinOp ref int" => k_extra "my row"
  k_with "my row" => (k_here; (with_reducible show wpAny _ _ (subscriptTail _ _ (Value.ref _) (Value.int _ _)) _ _ _); k_dflt (refine' row_item ?k1 ?k2 ?k3 ?k4 ?k5 ?k6 ?_ ?k8 ?k9; (case k1 => k_asm); (case k2 => assumption); (case k3 => k_extra "my inc"); (case k8 => with_unfolding_all rfl); (case k9 => (intro _; with_unfolding_all rfl)); (case k4 => omega); (case k5 => omega); (case k6 => omega)); k_whole; (intro a9ω t8ω t9ω n9ω hm9ω))
  k_with "call ref" => (
      (with_reducible show wpAny _ _ (call (Value.ref 297) _) _ _ _)
      k_dflt (refine' Does.val1 (past_does ?p1 ?p2 ?p3 ?p4 ?p5) ?k1 ?k2 ?k3 ?k4 ?k5 ?k6 ?k7 ?k8 ?k9 ?_; k_extra "my sides"; (case p1 => first | assumption | exact RowAt.mono (by assumption) (by k_extra "my inc")); (case p2 => omega); (case p4 => k_mem); (case p5 => kde_strs); (case p3 => omega))
      k_extra "my plain1")
  k_with "my rowp" => first | assumption | exact RowAt.mono (by assumption) (by k_extra "my inc")
  k_with "call ref" => (
      (with_reducible show wpAny _ _ (call (Value.ref 304) _) _ _ _)
      k_dflt (refine' Does.val1 (syl_does ?p1 ?p2 ?p3 ?p4) ?k1 ?k2 ?k3 ?k4 ?k5 ?k6 ?k7 ?k8 ?k9 ?_; k_extra "my sides"; (case p1 => k_extra "my rowp"); (case p2 => omega); (case p3 => omega); (case p4 => omega))
      k_extra "my plain1")
  k_with "my plainR" => (
      (intro v9ω news9ω h9ω tk9ω F9ω N9ω r9ω)
      (obtain ⟨e9ω, t9ω, f9ω⟩ := r9ω)
      (subst f9ω)
      (subst e9ω)
      (try dsimp only)
      (try k_fold))
  k_with "call ref" => (
      (with_reducible show wpAny _ _ (call (Value.ref 311) _) _ _ _)
      k_dflt (refine' Does.val1 (pics_does ?p1 ?p2 ?p3 ?p4) ?k1 ?k2 ?k3 ?k4 ?k5 ?k6 ?k7 ?k8 ?k9 ?_; k_extra "my sides"; (case p1 => k_extra "my rowp"); (case p2 => omega); (case p3 => omega); (case p4 => omega))
      k_extra "my plain1")
  k_with "call ref" => (
      (with_reducible show wpAny _ _ (call (Value.ref 318) _) _ _ _)
      k_dflt (refine' Does.val1 (cons_does ?p1 ?p2 ?p3 ?p4) ?k1 ?k2 ?k3 ?k4 ?k5 ?k6 ?k7 ?k8 ?k9 ?_; k_extra "my sides"; (case p1 => k_extra "my rowp"); (case p2 => omega); (case p3 => omega); (case p4 => omega))
      k_extra "my plain1")
  k_with "my len" => ((try simp only [List.length_append, List.length_take, List.length_drop, List.length_cons, List.length_nil]); omega)
  k_with "subscriptTail Name Slice ref ref" => (k_here; (with_reducible show wpAny _ _ (subscriptTail _ (PySem.Expr.Slice _ _ none _) (Value.ref _) (Value.ref _)) _ _ _); k_dflt (first
      | (refine' m_slice_to ?F ?N ?l ?i ?z ?_ ?s ?t; (case F => k_asm); (case N => k_asm); (case l => k_mem); (case i => first | assumption | omega); (case z => k_extra "my len"); (case s => with_unfolding_all rfl); (case t => (intro _; with_unfolding_all rfl)))
      | (refine' m_slice_from ?F ?N ?l ?i ?z ?_ ?s ?t; (case F => k_asm); (case N => k_asm); (case l => k_mem); (case i => first | assumption | decide | omega); (case z => k_extra "my len"); (case s => with_unfolding_all rfl); (case t => (intro _; with_unfolding_all rfl)))); k_whole; intro D'ω h'ω F'ω N'ω l1ω; (try k_lt l1ω); (try k_sweep))
  k_with "binaryOp Add ref ref" => (k_here; k_dflt (refine' m_add ?F ?N ?l ?i ?z ?_; (case F => k_asm); (case N => k_asm); (case l => k_mem); (case i => k_mem); (case z => k_extra "my len")); k_whole; intro D'ω h'ω F'ω N'ω l1ω; (try k_lt l1ω); (try k_sweep))
  k_with "k_all" => first | assumption | exact allLt_ne (by first | assumption | exact And.right (by assumption) | exact And.right (And.right (by assumption)) | exact And.right (And.right (And.right (by assumption))))
  k_with "call ref" => (
      (with_reducible show wpAny _ _ (call (Value.ref 152) _) _ _ _)
      k_dflt (refine' Does.val (like_does ?p1) ?k1 ?k2 ?k3 ?k4 ?k5 ?k6 ?k7 ?k8 ?k9 ?_; (case p1 => assumption); k_extra "my sides")
      k_extra "my plain")
  k_with "subscriptTail Attribute Name Slice ref ref" => (refine kba_turn (value' := PySem.Expr.Name (PySem.Str.ofString "_") ⟨0, 0, 0, 0⟩) (fun _ => rfl) ?_)
  k_with "call ref" => (
      (with_reducible show wpAny _ _ (call (Value.ref 243) _) _ _ _)
      k_dflt (first
        | (refine' Does.val (mapof_old ?p1 ?p2) ?k1 ?k2 ?k3 ?k4 ?k5 ?k6 ?k7 ?k8 ?k9 ?_; (case p1 => assumption); (case p2 => assumption); k_extra "my sides"; k_extra "my plain")
        | (refine' Does.here (mapof_new ?p1 ?p2 ?p3 ?p4) ?k1 ?k2 ?k3 ?k4 ?k5 ?k6 ?k7 ?k8 ?k9 ?_; (case p1 => assumption); (case p2 => assumption); (case p3 => assumption); (case p4 => omega); k_extra "my sides"
           (intro v9ω news9ω h9ω tk9ω F9ω N9ω r9ω)
           (obtain ⟨a9ω, x9ω, e9ω, R9ω, D9ω, f9ω, s9ω⟩ := r9ω)
           (subst e9ω)
           (obtain ⟨g1ω, u1ω, v0ω, g2ω, u2ω, lsω, g3ω, u3ω, lvω, n1ω, n2ω⟩ := RD.inst R9ω)
           (try dsimp only)
           (try k_fold))))
  k_with "call ref" => (
      (with_reducible show wpAny _ _ (call (Value.ref 180) _) _ _ _)
      k_dflt (refine' Does.here (rput_does ?p1 ?p2 ?p3) ?k1 ?k2 ?k3 ?k4 ?k5 ?k6 ?k7 ?k8 ?k9 ?_; (case p1 => assumption); (case p2 => assumption); (case p3 => assumption); k_extra "my sides")
      (intro v9ω news9ω h9ω tk9ω F9ω N9ω r9ω)
      (obtain ⟨e9ω, R9ω, f9ω⟩ := r9ω)
      (subst e9ω)
      (try dsimp only)
      (try k_fold))
  k_with "call ref" => (
      (with_reducible show wpAny _ _ (call (Value.ref 208) _) _ _ _)
      k_dflt (refine' Does.here defs_does ?k1 ?k2 ?k3 ?k4 ?k5 ?k6 ?k7 ?k8 ?k9 ?_; k_extra "my sides")
      k_extra "my defd")
  k_with "call ref" => (
      (with_reducible show wpAny _ _ (call (Value.ref 257) _) _ _ _)
      k_dflt (refine' Does.here kinds_does ?k1 ?k2 ?k3 ?k4 ?k5 ?k6 ?k7 ?k8 ?k9 ?_; k_extra "my sides")
      (intro v9ω news9ω h9ω tk9ω F9ω N9ω r9ω)
      (obtain ⟨l9ω, e9ω, R9ω, s9ω, t9ω⟩ := r9ω)
      (subst e9ω)
      (try dsimp only)
      (try k_fold))
  k_with "call builtin:len" => (k_here; (with_reducible show wpAny _ _ (call (Value.builtin "len") [Value.ref _]) _ _ _); k_dflt (refine' kinds_len ?k1 ?k2 ?k3 ?_; (case k1 => k_asm); (case k2 => assumption); (case k3 => k_extra "my inc")); k_whole)
  k_with "call ref" => (
      (with_reducible show wpAny _ _ (call (Value.ref 264) _) _ _ _)
      k_dflt (refine' Does.here hang_does ?k1 ?k2 ?k3 ?k4 ?k5 ?k6 ?k7 ?k8 ?k9 ?_; k_extra "my sides")
      (intro v9ω news9ω h9ω tk9ω F9ω N9ω r9ω)
      (obtain ⟨l9ω, e9ω, R9ω, s9ω, t9ω⟩ := r9ω)
      (subst e9ω)
      (try dsimp only)
      (try k_fold))
  k_with "call ref" => (
      (with_reducible show wpAny _ _ (call (Value.ref 283) _) _ _ _)
      k_dflt (refine' Does.here (code_does ?p1 ?p2 ?p3 ?p4) ?k1 ?k2 ?k3 ?k4 ?k5 ?k6 ?k7 ?k8 ?k9 ?_; k_extra "my sides"; (case p1 => omega); (case p2 => omega); (case p3 => omega); (case p4 => omega))
      (intro v9ω news9ω h9ω tk9ω F9ω N9ω r9ω)
      (obtain ⟨⟨u9ω, e9ω⟩, s9ω⟩ := r9ω)
      (subst e9ω)
      (try dsimp only)
      (try k_fold))
  k_with "call ref" => (
      (with_reducible show wpAny _ _ (call (Value.ref 229) _) _ _ _)
      k_dflt (refine' Does.here (dput_does ?p1 ?p2 ?p3 ?p4 ?p5) ?k1 ?k2 ?k3 ?k4 ?k5 ?k6 ?k7 ?k8 ?k9 ?_; k_extra "my sides"; (case p1 => first | assumption | exact DSt.sub (by assumption) (fun p hp _ => (by assumption : ∀ p ∈ _, p ∈ _) p hp)); (case p5 => exact rfl); (case p2 => omega); (case p3 => decide); (case p4 => k_extra "my putok"))
      (intro v9ω news9ω h9ω tk9ω F9ω N9ω r9ω)
      (obtain ⟨e9ω, D9ω, s9ω⟩ := r9ω)
      (subst e9ω)
      (obtain ⟨dd9ω, dm9ω, df9ω, g1ω, u1ω, g2ω, u2ω, g3ω, u3ω, w3ω, g4ω, u4ω, w4ω, i1ω, i2ω⟩ := DSt.inst D9ω)
      (try dsimp only)
      (try k_fold))
  k_with "call ref" => (
      (with_reducible show wpAny _ _ (call (Value.ref 290) _) _ _ _)
      k_dflt (refine' Does.here (ldata_does ?p1) ?k1 ?k2 ?k3 ?k4 ?k5 ?k6 ?k7 ?k8 ?k9 ?_; k_extra "my sides"; (case p1 => first | assumption | omega))
      k_extra "my ldata")
  k_with "my db" => first | assumption | exact DB.mono (by assumption) (by k_extra "my inc")
  k_with "call ref" => (
      (with_reducible show wpAny _ _ (call (Value.ref 236) _) _ _ _)
      k_dflt (first
       | ((with_reducible show wpAny _ _ (call _ [_, Value.str (Str.ofString "incb") _, _]) _ _ _); refine' Does.val1 (dgetI_does ?p1 ?p2) ?k1 ?k2 ?k3 ?k4 ?k5 ?k6 ?k7 ?k8 ?k9 ?_; k_extra "my sides"; (case p1 => k_extra "my db"); (case p2 => k_extra "my cell"); k_extra "my plain1")
       | ((with_reducible show wpAny _ _ (call _ [_, Value.str (Str.ofString "ep") _, _]) _ _ _); refine' Does.val (dgetP_does ?p1 ?p2) ?k1 ?k2 ?k3 ?k4 ?k5 ?k6 ?k7 ?k8 ?k9 ?_; k_extra "my sides"; (case p1 => k_extra "my db"); (case p2 => k_extra "my cell"); k_extra "my plain")))
  k_with "call ref" => (
      (with_reducible show wpAny _ _ (call (Value.ref 45) _) _ _ _)
      k_dflt (refine' Does.val1 (kind_does ?p1 ?p2) ?k1 ?k2 ?k3 ?k4 ?k5 ?k6 ?k7 ?k8 ?k9 ?_; k_extra "my sides"; (case p1 => k_extra "my db"); (case p2 => k_extra "my cell"))
      k_extra "my plain1")
  k_with "call ref" => (
      (with_reducible show wpAny _ _ (call (Value.ref 124) _) _ _ _)
      k_dflt (refine' Does.val (held_does (o := ?o) ?p1 ?p2) ?k1 ?k2 ?k3 ?k4 ?k5 ?k6 ?k7 ?k8 ?k9 ?_; k_extra "my sides"; (case p1 => k_mem); (case p2 => k_mem); (case o => exact none))
      k_extra "my plain")
  k_with "call ref" => (
      (with_reducible show wpAny _ _ (call (Value.ref 131) _) _ _ _)
      k_dflt (refine' Does.here (take_any (o := ?o) ?p1 ?p2 ?p3) ?k1 ?k2 ?k3 ?k4 ?k5 ?k6 ?k7 ?k8 ?k9 ?_; k_extra "my sides"; (case p1 => k_mem); (case p2 => k_mem); (case p3 => assumption); (case o => exact none))
      (intro v9ω news9ω h9ω tk9ω F9ω N9ω r9ω)
      (obtain ⟨e9ω, tp9ω, tc9ω, m9ω, s9ω⟩ := r9ω)
      (subst e9ω)
      (try dsimp only)
      (try k_fold))
  k_with "my room" => first | ((try dsimp only [Around.deeper, Around.mark, Around.in1]); k_extra "my roomx") | ((try simp only [depth_deeper, units_deeper]); (try dsimp only [callerA, claimMargin, recursionLimit, cLine]); first | omega | decide) | (with_unfolding_all decide)
  k_with "call ref" => (
      (with_reducible show wpAny _ _ (call (Value.ref 257) _) _ _ _)
      k_dflt (refine' Does.here kindsA ?k1 ?k2 ?k3 ?k4 ?k5 ?k6 ?k7 ?k8 ?k9 ?_; k_extra "my sides")
      (intro v9ω news9ω h9ω tk9ω F9ω N9ω r9ω)
      (obtain ⟨l9ω, rs9ω, nn9ω, e9ω, len9ω, f9ω, l1ω⟩ := r9ω)
      (subst e9ω)
      (subst f9ω)
      (try dsimp only)
      (try k_lt l1ω)
      (try k_sweep)
      (try k_fold))
  k_with "call ref" => (
      (with_reducible show wpAny _ _ (call (Value.ref 264) _) _ _ _)
      k_dflt (refine' Does.here hangA ?k1 ?k2 ?k3 ?k4 ?k5 ?k6 ?k7 ?k8 ?k9 ?_; k_extra "my sides")
      (intro v9ω news9ω h9ω tk9ω F9ω N9ω r9ω)
      (obtain ⟨l9ω, rs9ω, nn9ω, e9ω, len9ω, f9ω, l1ω⟩ := r9ω)
      (subst e9ω)
      (subst f9ω)
      (try dsimp only)
      (try k_lt l1ω)
      (try k_sweep)
      (try k_fold))
  k_with "call builtin:len" => (k_here; (with_reducible show wpAny _ _ (call (Value.builtin "len") [Value.ref _]) _ _ _); k_dflt (refine' len_fix ?k1 ?k2 ?k3 ?k4 ?_; (case k1 => k_asm); (case k2 => k_mem); (case k3 => assumption); (case k4 => decide)); k_whole)
  k_with "call builtin:len" => (k_here; (with_reducible show wpAny _ _ (call (Value.builtin "len") [Value.ref _]) _ _ _); (rename News _ _ _ _ => lN'ω); k_dflt (refine' len_drop lN'ω ?k3 ?k4 ?_; (case k3 => assumption); (case k4 => decide)); k_whole; intro N9ω; clear lN'ω)
  k_with "call ref" => (
      (with_reducible show wpAny _ _ (call (Value.ref 276) _) _ _ _)
      k_dflt (refine' Does.here (draw_upd ?p0 ?p1 ?p2 ?U1 ?U2 ?p3 ?p4 ?p5) ?k1 ?k2 ?k3 ?k4 ?k5 ?k6 ?k7 ?k8 ?k9 ?_; k_extra "my sides"; (case U1 => k_updF); (case p0 => first | exact DeckI.fa (by assumption) | exact ⟨_, by assumption⟩); (case U2 => (intro oω; (try dsimp only); k_updF)); (case p1 => k_extra "my deck"); (case p2 => assumption); (case p3 => k_ne); (case p4 => omega); (case p5 => omega))
      (intro v9ω news9ω h9ω tk9ω F9ω N9ω r9ω)
      (obtain ⟨⟨k9ω, u9ω, e9ω, b9ω, c9ω⟩, od9ω, m9ω, ws9ω, ls9ω, nn9ω, D9ω, f9ω⟩ := r9ω)
      (subst e9ω)
      (subst f9ω)
      (try dsimp only at N9ω)
      (try dsimp only)
      (try k_sweep)
      (try k_fold))
  k_with "call ref" => (
      (with_reducible show wpAny _ _ (call (Value.ref 283) _) _ _ _)
      k_dflt (refine' Does.val1 (codeA ?p1 ?p2 ?p3 ?p4) ?k1 ?k2 ?k3 ?k4 ?k5 ?k6 ?k7 ?k8 ?k9 ?_; k_extra "my sides"; (case p1 => omega); (case p2 => omega); (case p3 => omega); (case p4 => omega))
      k_extra "my plain1")
  k_with "exec If" => k_extra "my if"
  k_with "call builtin:list.append" => k_extra "my app"
  k_with "subscriptTail Call Name nil nil BinOp ref int" => k_extra "my item"
  k_with "subscriptTail Call Name nil nil Name ref int" => k_extra "my item"
  k_with "MPostL" => dsimp only [MPostL, KswPost]
  k_with "subscriptTail Name UnaryOp ref int" => (k_here; (with_reducible show wpAny _ _ (subscriptTail _ _ (Value.ref _) (Value.int _ _)) _ _ _); k_dflt (refine' m_last ?N ?m ?_ ?hs ?hg; (case N => k_asm); (case m => k_mem); (case hs => with_unfolding_all rfl); (case hg => (intro _; with_unfolding_all rfl))))
  k_with "call ref" => (
      (with_reducible show wpAny _ _ (call (Value.ref 325) _) _ _ _)
      k_dflt (refine' Does.val1 (end_does ?p1 ?p2 ?p3 ?p4) ?k1 ?k2 ?k3 ?k4 ?k5 ?k6 ?k7 ?k8 ?k9 ?_; k_extra "my sides"; (case p1 => first | assumption | exact RowAt.mono (by assumption) (by k_extra "my inc")); (case p2 => omega); (case p3 => omega); (case p4 => omega))
      k_extra "my plain1")
  k_with "call ref" => (
      (with_reducible show wpAny _ _ (call (Value.ref 95) _) _ _ _)
      k_dflt (refine' Does.val (break_does ?p1 ?p2 ?p3 ?p4 ?p5 ?p6 ?p7) ?k1 ?k2 ?k3 ?k4 ?k5 ?k6 ?k7 ?k8 ?k9 ?_; k_extra "my sides"; (case p1 => k_extra "my db"); (case p2 => k_mem); (case p3 => assumption); (case p4 => omega); (case p5 => assumption); (case p6 => omega); (case p7 => omega))
      k_extra "my plain")
  trivial
section
theorem words_taild_1 : True := by
  k_with "call builtin:len" => (k_here; (with_reducible show wpAny _ _ (call (Value.builtin "len") [Value.ref _]) _ _ _); k_dflt (refine' len_fix ?k1 ?k2 ?k3 ?k4 ?_; (case k1 => k_asm); (case k2 => k_mem); (case k3 => assumption); (case k4 => omega)); k_whole)
  trivial
theorem words_taild_2 : True := by
  k_with "compareOp In int ref" => (k_here; (with_reducible show wpAny _ _ (compareOp CmpOp.In (Value.int _ _) (Value.ref _)) _ _ _); k_dflt (refine' in_list_ints (News.isList ?N ?m) ?i ?_; (case N => k_asm); (case m => k_mem); (case i => assumption)); k_whole)
  trivial
theorem off1_ne {D : Addr} : ∀ {l : List (Addr × Obj)}, LCg.Off1 D l → ∀ p ∈ l, p.1 ≠ D
  | [], _, _, h => nomatch h
  | _ :: _, x, p, h => by
    rcases List.mem_cons.mp h with rfl | h
    · exact x.1
    · exact off1_ne x.2 p h
section
variable {w : World} {h₀ base : Heap} {L fa : Addr} {cd : Value} {mean : ExcName → Option Value} {mg mb : Str → Option Value} {s : Shared} {E : Value → Shared → Prop} {Q : Flow → Shared → Prop} {u : Str → Option Value}
set_option maxRecDepth 100000 in
set_option maxHeartbeats 4000000 in
/-- what is due -/
theorem stmt6 {tx rw dat eA : Addr} {codes : List Int} {cells : List Cell} {leg : Bool} {k : Nat} {oE : Obj} {es : List Value} {ns : List Int} {R : List (Addr × Obj)}
    (B : Below callerA base [] h₀) (X : (Mine.hd.heap_1 w.params).In h₀) (T : Top Mine.seen1 (looseW Mine.seen1 [Str.ofString "SYLLABLES", Str.ofString "cluster_break"]) mean mg mb h₀)
    (F : Fr h₀ L s.heap u) (N : News h₀ L s.heap R) (hb : Base w R L tx rw dat codes cells)
    (ce : (L + 1 + 1 + 1 + 1, oE) ∈ R) (de : oE.data = .cell (some (.ref eA))) (me : (eA, listOf (List.toArray es) k) ∈ R) (hi : IntsAre es ns) (hm : ∀ j : Nat, j ≤ cells.length → (ns.any (· == (j : Int))) = breakF cells j leg)
    (next : ∀ D h tk, Fr h₀ L h (fun z => if z = Str.ofString "due" then some (.ref D) else u z) → News h₀ L h ((D, listOf (List.toArray ((List.range (cells.length + 1)).map fun i => Value.bool (breakF cells i leg))) (cells.length + 1)) :: R) → (∀ p ∈ R, p.1 ≠ D) → Q .next { s with heap := h, toks := tk }) :
    wpAny (model Pg w) (callerA.deeper (lawEnv L fa cd)) (exec cut6.1.1 (lawEnv L fa cd)) Q E s := by
  obtain ⟨txs, kx, mx, ix⟩ := hb.txt
  obtain ⟨o1, c1, d1⟩ := hb.ctx
  have hlo := hb.lo
  have hhi := hb.hi
  have hl : txs.length = cells.length := by rw [ix.length, hb.len]
  show wpAny _ _ (exec (.Assign [.Name _ _] (.ListComp _ [⟨.Name _ _, _, [], 0⟩] _ _) _) _) _ _ _
  refine LCg.Assign_ListComp_U (F₀ := F) (by rfl) (by with_unfolding_all rfl) (by with_unfolding_all rfl) (by decide) (by rfl) (by decide) (by rfl) (by rfl) (by rfl) ?_
  refine wpAny_mono (Q := RangeMade h₀ L u R ((cells.length + 1 : Nat) : Int) s) ?r (fun v s₁ H => H.src rfl (by omega) fun g tk => ?c) fun _ _ e => e
  case r =>
    rw [show ((cells.length + 1 : Nat) : Int) = (cells.length : Nat) + 1 by omega]
    clear next hb hm
    unfold Pg
    revert X
    k_fill
    intro X
    unfold lawEnv lawParts
    dsimp only
    try k_fold
    k_steps
    exact RangeMade.intro (by k_asm) (by k_asm) (by k_extra "my inc") (by assumption)
  case c =>
    refine bools_rest (fun i => breakF cells i leg) (fun i v _ ⟨t, e⟩ => ⟨t, by rw [e, Int.zero_add]⟩) ?turn ?fin
    case fin =>
      intro D h tk F1 N1 off
      have e : ((List.range (cells.length + 1)).map fun i => Value.bool (breakF cells i leg)).length = cells.length + 1 := by simp
      exact next D h tk F1 (by unfold LCg.lst at N1; rw [e] at N1; exact N1) (off1_ne off)
    case turn =>
      clear next
      intro i t I oI C oC D m₂ ys h tk E' hi' hC hx F1 N1 off ne
      have hin := hm i (by omega)
      clear hm N F hb
      unfold Pg
      revert X
      k_fill
      intro X
      unfold lawEnv lawParts
      dsimp only
      try k_fold
      k_steps
      rw [hin]
      exact LCg.CompEnd.intro F1 N1 R (fun _ h => h) off trivial ⟨rfl, rfl⟩
end


end
theorem fresh_tailb : True := by
  k_with_none
  w_top off
  k_with "is_list" => exact News.isList (by k_asm) (by k_mem)
  k_with "exec While Compare cons nil" => k_extra "my while"
  k_with "exec While BoolOp cons nil" => k_extra "my while"
  k_with "exec While Constant cons nil" => k_extra "my whileT"
  k_with "MPost" => with_reducible first | refine MPost.next ?_ | refine MPost.ret ?_ | refine MPost.brk ?_ | refine MPost.cont ?_
  k_with "seqQ" => with_reducible first | refine seqQ.next ?_ | refine seqQ.ret ?_ | refine seqQ.brk ?_ | refine seqQ.cont ?_
  k_with "my enter" => (
      refine' enter ?k6 ?k7 ?k9 ?kB ?kN ?kU ?c2 ?c3 ?c4 ?c5 ?_
      case k6 => k_is
      case k7 => k_is
      case k9 => first | exact fun _ _ => BindsTo.of_eq rfl | (intro s9ω X9ω; exact binds_K X9ω rfl (by k_is) rfl rfl rfl)
      case kB => exact locs rfl
      case kN => exact rfl
      case kU => exact rfl
      case c2 => exact rfl
      case c3 => exact rfl
      case c4 => exact rfl
      case c5 => decide
      intro dpω unω gdω outerω A₀ω baseω gω h₁ω Lω gnω drω osω tkω meanω mgω mbω Eω Bω Xω Tω hdω huω eω Aω mω hEω Fω Nω)
  k_with "my ret" => (
      first
        | refine Post.ret (by k_asm) ?kN9 ⟨rfl, ?_⟩
        | refine Post.next (by k_asm) ?kN9 ⟨rfl, ?_⟩
      case kN9 => first | k_asm | exact kst_newsOf (by assumption) (by kst_inAny)
      k_extra "my clean")
  k_with "my clean" => ((repeat (rename Fr _ _ _ _ => z9ω; clear z9ω)); (repeat (rename News _ _ _ _ => z9ω; clear z9ω)); (try clear hEω Bω Xω Tω hdω huω))
  k_with "my roomx" => first | exact room_c (by assumption) rfl | exact room_b (by assumption) rfl | exact room_a (by assumption) | exact room_d (by assumption) rfl | exact room_e (by assumption) rfl | exact Nat.le_of_ble_eq_true rfl | omega
  k_with "my room" => ((try dsimp (config := { zetaDelta := true }) only [Around.deeper, Around.mark, Around.in1]); k_extra "my roomx")
  k_with "my sides" => (
      (case k1 => k_asm)
      (case k2 => k_asm)
      (case k3 => k_asm)
      (case k4 => k_asm)
      (case k5 => k_asm)
      (case k6 => exact rfl)
      (case k7 => exact rfl)
      (case k8 => k_extra "my room")
      (case k9 => k_extra "my room"))
  k_with "compareOp In str ref" => (k_here; (with_reducible show wpAny _ _ (compareOp CmpOp.In (Value.str _ _) (Value.ref _)) _ _ _); (with_unfolding_all refine' in_tuple_strs ?k1 ?k2 ?_; (case k1 => first | exact kun_topT (by k_asm) (by k_asm) (by k_is) | exact News.isTup (by k_asm) (by k_mem)); (case k2 => kde_strs); k_whole))
  k_with "compareOp NotIn str ref" => (k_here; (with_reducible show wpAny _ _ (compareOp CmpOp.NotIn (Value.str _ _) (Value.ref _)) _ _ _); (with_unfolding_all refine' notin_tuple_strs ?k1 ?k2 ?_; (case k1 => first | exact kun_topT (by k_asm) (by k_asm) (by k_is) | exact News.isTup (by k_asm) (by k_mem)); (case k2 => kde_strs); k_whole))
  k_with "my plain" => ((intro h9ω tk9ω F9ω N9ω); (try k_sweep))
  k_with "subscriptTail" => k_extra "my item"
  k_with "compareOp In str ref" => k_extra "my in"
  k_with "my plain1" => ((intro u9ω h9ω tk9ω F9ω N9ω); (try k_sweep))
  k_with "compareOp NotEq ref ref" => (k_here; (with_reducible show wpAny _ _ (compareOp CmpOp.NotEq (Value.ref _) (Value.ref _)) _ _ _); (with_unfolding_all refine' ne_intsK ?k1 ?k2 ?k3 ?k4 ?k5 ?_; (case k1 => is_list); (case k2 => l_ints); (case k3 => is_list); (case k4 => l_ints); (case k5 => k_extra "my room"); k_whole))
  k_with "my mem" => first | ktr_member | exact List.Mem.head _ | (refine List.mem_cons_of_mem _ ?_; k_extra "my mem")
  k_with "k_mem" => k_extra "my mem"
  k_with "compareOp NotIn str ref" => k_extra "my notin"
  k_with "call builtin:dict.get" => k_extra "my get"
  k_with "getMethod ref" => k_extra "my getm"
  k_with "setItem ref str" => k_extra "my set"
  k_with "k_room" => ((try dsimp (config := { zetaDelta := true }) only); (try simp only [depth_under_make, depth_under_kw, depth_in1, depth_deeper, depth_caller]); (try dsimp only); k_extra "my roomx")
  k_with "getItem ref str" => k_extra "my gitem"
  k_with "pyIter ref" => k_extra "my for"
  k_with "k_qdec" => decide +kernel
  k_with "my lt" => with_reducible (first | assumption | exact And.left (by assumption) | exact And.left (And.right (by assumption)) | exact And.left (And.right (And.right (by assumption))) | exact And.left (And.right (And.right (And.right (by assumption)))) | exact And.left (And.right (And.right (And.right (And.right (by assumption))))) | exact And.left (And.right (And.right (And.right (And.right (And.right (by assumption)))))) | exact And.left (And.right (And.right (And.right (And.right (And.right (And.right (by assumption))))))) | exact And.left (And.right (And.right (And.right (And.right (And.right (And.right (And.right (by assumption)))))))) | exact And.left (And.right (And.right (And.right (And.right (And.right (And.right (And.right (And.right (by assumption))))))))) | exact And.left (And.right (And.right (And.right (And.right (And.right (And.right (And.right (And.right (And.right (by assumption)))))))))))
  k_with "k_ne" => first | with_reducible assumption | with_reducible exact Ne.symm (by assumption) | (refine Nat.ne_of_lt ?_; k_extra "my lt") | (refine Nat.ne_of_gt ?_; k_extra "my lt") | (refine Nat.ne_of_gt ?_; (repeat (first | exact Nat.lt_succ_self _ | refine Nat.lt_succ_of_lt ?_)); done) | (refine Nat.ne_of_lt ?_; (repeat (first | exact Nat.lt_succ_self _ | refine Nat.lt_succ_of_lt ?_)); done) | (refine neN ?_; (try dsimp only); omega)
  k_with "l_idx" => first | assumption | exact idx_a (by assumption) (by assumption) | exact idx_b (by assumption) | exact idx_c (by assumption) (by assumption)
  k_with "JPost" => with_reducible first | refine JPost.next ?_ | refine JPost.ret ?_ | refine JPost.brk ?_ | refine JPost.cont ?_
  k_with "storeName" => (k_here; k_dflt (refine' storeX_M ?F ?N ?_ ?a ?b; (case F => k_asm); (case N => k_asm); (case a => rfl); (case b => rfl); k_whole); (intro h'ω tk'ω m'ω F'ω N'ω); (try k_sweep))
  k_with "ksw skip" => repeat (first | (refine' ite_skip ?hx ?_; (case hx => first | exact ne_stored (by assumption) rfl | exact h2ω _ (List.Mem.head _) | exact h2ω _ (List.Mem.tail _ (List.Mem.head _)) | exact h2ω _ (List.Mem.tail _ (List.Mem.tail _ (List.Mem.head _))))) | refine ite_skip2 (by assumption) ?_)
  k_with "ksw_same" => (
      intro zω h2ω h3ω
      first
        | rfl
        | (k_extra "ksw skip"; first | rfl | (refine Eq.symm ?_; k_extra "ksw skip"; rfl))
        | ((simp only [List.forall_mem_cons, List.not_mem_nil, false_implies, implies_true, and_true, ne_eq] at h2ω); (simp (zetaDelta := true) [h2ω]; done))
        | ((simp only [List.forall_mem_cons, List.not_mem_nil, false_implies, implies_true, and_true, ne_eq] at h2ω); (simp only [List.contains_cons, List.contains_nil, Bool.or_false, Bool.or_eq_false_iff, beq_eq_false_iff_ne, ne_eq] at h3ω); (simp (zetaDelta := true) [h2ω, h3ω]; done)))
  k_with "execs cons" => (k_here; (first | (refine' norm_M (gn := gnω) (dr := drω) (os := osω) ?F9 ?e9 ?_; (case F9 => k_asm); (case e9 => exact rfl); intro tk9ω) | ((try dsimp only); (try k_gentoks))); first | (with_reducible refine' execs_one ?_) | ((with_reducible refine' execs_let ?_); intro kkω))
  k_with "my leaf" => with_reducible first | show Post _ _ _ _ _ _ _ _ | show JOut _ _ _ _ _ _ _ _ _ | show MEnd _ _ _ _ _ _ _ _ _ _ _ _ _ | show MOut _ _ _ _ _ _ _ _ _ _ _
  k_with "k_steps" => repeat' (first | k_unfold | ((fail_if_success k_extra "my leaf"); first | walk1 | (dsimp only; walk1)) | (leave1; walk_say "STEP leave1"; (try dsimp only)) | fail "no step")
  k_with "my cond" => simp only [true_and, and_true, false_and, and_false, true_or, or_true, false_or, or_false, if_true, if_false, Bool.false_eq_true, Bool.true_eq_false, reduceCtorEq, and_self, or_self, not_true_eq_false, not_false_eq_true]
  k_with "eval Constant int" => (k_here; (with_reducible refine int_M ?_); intro t9ω tk9ω)
  k_with "eval Constant str" => (k_here; (with_reducible refine str_M ?_); intro t9ω tk9ω)
  k_with "binaryOp Add int int" => (k_here; (with_reducible refine add_M ?_); intro t9ω tk9ω)
  k_with "binaryOp Sub int int" => (k_here; (with_reducible refine sub_M ?_); intro t9ω tk9ω)
  k_with "call ref" => (
      (with_reducible show wpAny _ _ (call (Value.ref 145) _) _ _ _)
      k_dflt (refine' Does.val1 (place_does ?p1 ?p2 ?p3) ?k1 ?k2 ?k3 ?k4 ?k5 ?k6 ?k7 ?k8 ?k9 ?_; k_extra "my sides"; (case p1 => k_mem); (case p2 => assumption); (case p3 => first | assumption | omega))
      k_extra "my plain1")
  k_with "call ref" => (
      (with_reducible show wpAny _ _ (call (Value.ref 28) _) _ _ _)
      k_dflt (refine' Does.val syllable_does ?k1 ?k2 ?k3 ?k4 ?k5 ?k6 ?k7 ?k8 ?k9 ?_; k_extra "my sides")
      k_extra "my plain")
  k_with "call ref" => (
      (with_reducible show wpAny _ _ (call (Value.ref 52) _) _ _ _)
      k_dflt (refine' Does.val joins_does ?k1 ?k2 ?k3 ?k4 ?k5 ?k6 ?k7 ?k8 ?k9 ?_; k_extra "my sides")
      k_extra "my plain")
  k_with "call ref" => (
      (with_reducible show wpAny _ _ (call (Value.ref 59) _) _ _ _)
      k_dflt (first
        | (refine' Does.val (pairS_does ?p1) ?k1 ?k2 ?k3 ?k4 ?k5 ?k6 ?k7 ?k8 ?k9 ?_; (case p1 => assumption); k_extra "my sides")
        | (refine' Does.val (pairN_does ?p1) ?k1 ?k2 ?k3 ?k4 ?k5 ?k6 ?k7 ?k8 ?k9 ?_; (case p1 => assumption); k_extra "my sides"))
      k_extra "my plain")
  k_with "call ref" => (
      (with_reducible show wpAny _ _ (call (Value.ref 173) _) _ _ _)
      k_dflt (refine' Does.val (rget_does' (by assumption) (by assumption)) ?k1 ?k2 ?k3 ?k4 ?k5 ?k6 ?k7 ?k8 ?k9 ?_; k_extra "my sides")
      k_extra "my plain")
  k_with "my cell" => first | assumption | exact Cells.at' (by assumption) _ (by omega)
  k_with "call ref" => (
      (with_reducible show wpAny _ _ (call (Value.ref 236) _) _ _ _)
      k_dflt (first
       | ((with_reducible show wpAny _ _ (call _ [_, Value.str (Str.ofString "gcb") _, _]) _ _ _); refine' Does.val (dgetG_does ?p1 ?p2) ?k1 ?k2 ?k3 ?k4 ?k5 ?k6 ?k7 ?k8 ?k9 ?_; k_extra "my sides"; (case p1 => assumption); (case p2 => assumption); k_extra "my plain")
       | ((with_reducible show wpAny _ _ (call _ [_, Value.str (Str.ofString "incb") _, _]) _ _ _); refine' Does.val1 (dgetI_does ?p1 ?p2) ?k1 ?k2 ?k3 ?k4 ?k5 ?k6 ?k7 ?k8 ?k9 ?_; k_extra "my sides"; (case p1 => assumption); (case p2 => k_extra "my cell"); k_extra "my plain1")
       | ((with_reducible show wpAny _ _ (call _ [_, Value.str (Str.ofString "ep") _, _]) _ _ _); refine' Does.val (dgetP_does ?p1 ?p2) ?k1 ?k2 ?k3 ?k4 ?k5 ?k6 ?k7 ?k8 ?k9 ?_; k_extra "my sides"; (case p1 => assumption); (case p2 => k_extra "my cell"); k_extra "my plain")))
  k_with "call ref" => (
      (with_reducible show wpAny _ _ (call (Value.ref 35) _) _ _ _)
      k_dflt (first
        | (refine' Does.val1 (kindHs_does ?p1) ?k1 ?k2 ?k3 ?k4 ?k5 ?k6 ?k7 ?k8 ?k9 ?_; (case p1 => assumption); k_extra "my sides"; k_extra "my plain1")
        | (refine' Does.val (kindHn_does ?p1) ?k1 ?k2 ?k3 ?k4 ?k5 ?k6 ?k7 ?k8 ?k9 ?_; (case p1 => assumption); k_extra "my sides"; k_extra "my plain")))
  k_with "call ref" => (
      (with_reducible show wpAny _ _ (call (Value.ref 45) _) _ _ _)
      k_dflt (refine' Does.val1 (kind_does ?p1 ?p2) ?k1 ?k2 ?k3 ?k4 ?k5 ?k6 ?k7 ?k8 ?k9 ?_; k_extra "my sides"; (case p1 => assumption); (case p2 => k_extra "my cell"))
      k_extra "my plain1")
  k_with "call ref" => (
      (with_reducible show wpAny _ _ (call (Value.ref 66) _) _ _ _)
      k_dflt (refine' Does.val (conj_does ?p1 ?p2 ?p3 ?p4 ?p5 ?p6 ?p7) ?k1 ?k2 ?k3 ?k4 ?k5 ?k6 ?k7 ?k8 ?k9 ?_; k_extra "my sides"; (case p1 => assumption); (case p2 => k_mem); (case p3 => assumption); (case p4 => omega); (case p5 => assumption); (case p6 => omega); (case p7 => omega))
      k_extra "my plain")
  k_with "call ref" => (
      (with_reducible show wpAny _ _ (call (Value.ref 73) _) _ _ _)
      k_dflt (refine' Does.val (pict_does ?p1 ?p2 ?p3 ?p4 ?p5 ?p6 ?p7) ?k1 ?k2 ?k3 ?k4 ?k5 ?k6 ?k7 ?k8 ?k9 ?_; k_extra "my sides"; (case p1 => assumption); (case p2 => k_mem); (case p3 => assumption); (case p4 => omega); (case p5 => assumption); (case p6 => omega); (case p7 => omega))
      k_extra "my plain")
  k_with "call ref" => (
      (with_reducible show wpAny _ _ (call (Value.ref 80) _) _ _ _)
      k_dflt (refine' Does.val1 (flags_does ?p1 ?p2 ?p3 ?p4 ?p5 ?p6 ?p7) ?k1 ?k2 ?k3 ?k4 ?k5 ?k6 ?k7 ?k8 ?k9 ?_; k_extra "my sides"; (case p1 => assumption); (case p2 => k_mem); (case p3 => assumption); (case p4 => omega); (case p5 => assumption); (case p6 => omega); (case p7 => omega))
      k_extra "my plain1")
  k_with "call ref" => (
      (with_reducible show wpAny _ _ (call (Value.ref 87) _) _ _ _)
      k_dflt (refine' Does.val (flag_does ?p1 ?p2 ?p3 ?p4 ?p5 ?p6 ?p7) ?k1 ?k2 ?k3 ?k4 ?k5 ?k6 ?k7 ?k8 ?k9 ?_; k_extra "my sides"; (case p1 => assumption); (case p2 => k_mem); (case p3 => assumption); (case p4 => omega); (case p5 => assumption); (case p6 => omega); (case p7 => omega))
      k_extra "my plain")
  k_with "call ref" => (
      (with_reducible show wpAny _ _ (call (Value.ref 95) _) _ _ _)
      k_dflt (refine' Does.val (break_does ?p1 ?p2 ?p3 ?p4 ?p5 ?p6 ?p7) ?k1 ?k2 ?k3 ?k4 ?k5 ?k6 ?k7 ?k8 ?k9 ?_; k_extra "my sides"; (case p1 => assumption); (case p2 => k_mem); (case p3 => assumption); (case p4 => omega); (case p5 => assumption); (case p6 => omega); (case p7 => omega))
      k_extra "my plain")
  k_with "my inc" => first | exact fun _ h => h | exact kst_inSelf | kst_inAny
  k_with "call builtin:len" => (k_here; (with_reducible show wpAny _ _ (call (Value.builtin "len") [Value.ref _]) _ _ _); k_dflt (refine' row_len ?k1 ?k2 ?k3 ?k4 ?_; (case k1 => k_asm); (case k2 => assumption); (case k3 => k_extra "my inc"); (case k4 => omega)); k_whole)
  k_with "subscriptTail Name Name ref int" => k_extra "my row"
  k_with "subscriptTail Name BinOp ref int" => k_extra "my row"
  k_with "my row" => (k_here; (with_reducible show wpAny _ _ (subscriptTail _ _ (Value.ref _) (Value.int _ _)) _ _ _); k_dflt (refine' row_item ?k1 ?k2 ?k3 ?k4 ?k5 ?k6 ?_ ?k8 ?k9; (case k1 => k_asm); (case k2 => assumption); (case k3 => k_extra "my inc"); (case k8 => with_unfolding_all rfl); (case k9 => (intro _; with_unfolding_all rfl)); (case k4 => omega); (case k5 => omega); (case k6 => omega)); k_whole; (intro a9ω t8ω t9ω n9ω hm9ω))
  k_with "call ref" => (
      (with_reducible show wpAny _ _ (call (Value.ref 297) _) _ _ _)
      k_dflt (refine' Does.val1 (past_does ?p1 ?p2 ?p3 ?p4 ?p5) ?k1 ?k2 ?k3 ?k4 ?k5 ?k6 ?k7 ?k8 ?k9 ?_; k_extra "my sides"; (case p1 => first | assumption | exact RowAt.mono (by assumption) (by k_extra "my inc")); (case p2 => omega); (case p4 => k_mem); (case p5 => kde_strs); (case p3 => omega))
      k_extra "my plain1")
  k_with "my rowp" => first | assumption | exact RowAt.mono (by assumption) (by k_extra "my inc")
  k_with "call ref" => (
      (with_reducible show wpAny _ _ (call (Value.ref 304) _) _ _ _)
      k_dflt (refine' Does.val1 (syl_does ?p1 ?p2 ?p3 ?p4) ?k1 ?k2 ?k3 ?k4 ?k5 ?k6 ?k7 ?k8 ?k9 ?_; k_extra "my sides"; (case p1 => k_extra "my rowp"); (case p2 => omega); (case p3 => omega); (case p4 => omega))
      k_extra "my plain1")
  k_with "my plainR" => (
      (intro v9ω news9ω h9ω tk9ω F9ω N9ω r9ω)
      (obtain ⟨e9ω, t9ω, f9ω⟩ := r9ω)
      (subst f9ω)
      (subst e9ω)
      (try dsimp only)
      (try k_fold))
  k_with "call ref" => (
      (with_reducible show wpAny _ _ (call (Value.ref 311) _) _ _ _)
      k_dflt (refine' Does.val1 (pics_does ?p1 ?p2 ?p3 ?p4) ?k1 ?k2 ?k3 ?k4 ?k5 ?k6 ?k7 ?k8 ?k9 ?_; k_extra "my sides"; (case p1 => k_extra "my rowp"); (case p2 => omega); (case p3 => omega); (case p4 => omega))
      k_extra "my plain1")
  k_with "call ref" => (
      (with_reducible show wpAny _ _ (call (Value.ref 318) _) _ _ _)
      k_dflt (refine' Does.val1 (cons_does ?p1 ?p2 ?p3 ?p4) ?k1 ?k2 ?k3 ?k4 ?k5 ?k6 ?k7 ?k8 ?k9 ?_; k_extra "my sides"; (case p1 => k_extra "my rowp"); (case p2 => omega); (case p3 => omega); (case p4 => omega))
      k_extra "my plain1")
  k_with "my len" => ((try simp only [List.length_append, List.length_take, List.length_drop, List.length_cons, List.length_nil]); omega)
  k_with "subscriptTail Name Slice ref ref" => (k_here; (with_reducible show wpAny _ _ (subscriptTail _ (PySem.Expr.Slice _ _ none _) (Value.ref _) (Value.ref _)) _ _ _); k_dflt (first
      | (refine' m_slice_to ?F ?N ?l ?i ?z ?_ ?s ?t; (case F => k_asm); (case N => k_asm); (case l => k_mem); (case i => first | assumption | omega); (case z => k_extra "my len"); (case s => with_unfolding_all rfl); (case t => (intro _; with_unfolding_all rfl)))
      | (refine' m_slice_from ?F ?N ?l ?i ?z ?_ ?s ?t; (case F => k_asm); (case N => k_asm); (case l => k_mem); (case i => first | assumption | decide | omega); (case z => k_extra "my len"); (case s => with_unfolding_all rfl); (case t => (intro _; with_unfolding_all rfl)))); k_whole; intro D'ω h'ω F'ω N'ω l1ω; (try k_lt l1ω); (try k_sweep))
  k_with "binaryOp Add ref ref" => (k_here; k_dflt (refine' m_add ?F ?N ?l ?i ?z ?_; (case F => k_asm); (case N => k_asm); (case l => k_mem); (case i => k_mem); (case z => k_extra "my len")); k_whole; intro D'ω h'ω F'ω N'ω l1ω; (try k_lt l1ω); (try k_sweep))
  k_with "k_all" => first | assumption | exact allLt_ne (by first | assumption | exact And.right (by assumption) | exact And.right (And.right (by assumption)) | exact And.right (And.right (And.right (by assumption))))
  k_with "call ref" => (
      (with_reducible show wpAny _ _ (call (Value.ref 152) _) _ _ _)
      k_dflt (refine' Does.val (like_does ?p1) ?k1 ?k2 ?k3 ?k4 ?k5 ?k6 ?k7 ?k8 ?k9 ?_; (case p1 => assumption); k_extra "my sides")
      k_extra "my plain")
  k_with "subscriptTail Attribute Name Slice ref ref" => (refine kba_turn (value' := PySem.Expr.Name (PySem.Str.ofString "_") ⟨0, 0, 0, 0⟩) (fun _ => rfl) ?_)
  k_with "call ref" => (
      (with_reducible show wpAny _ _ (call (Value.ref 243) _) _ _ _)
      k_dflt (first
        | (refine' Does.val (mapof_old ?p1 ?p2) ?k1 ?k2 ?k3 ?k4 ?k5 ?k6 ?k7 ?k8 ?k9 ?_; (case p1 => assumption); (case p2 => assumption); k_extra "my sides"; k_extra "my plain")
        | (refine' Does.here (mapof_new ?p1 ?p2 ?p3 ?p4) ?k1 ?k2 ?k3 ?k4 ?k5 ?k6 ?k7 ?k8 ?k9 ?_; (case p1 => assumption); (case p2 => assumption); (case p3 => assumption); (case p4 => omega); k_extra "my sides"
           (intro v9ω news9ω h9ω tk9ω F9ω N9ω r9ω)
           (obtain ⟨a9ω, x9ω, e9ω, R9ω, D9ω, f9ω, s9ω⟩ := r9ω)
           (subst e9ω)
           (obtain ⟨g1ω, u1ω, v0ω, g2ω, u2ω, lsω, g3ω, u3ω, lvω, n1ω, n2ω⟩ := RD.inst R9ω)
           (try dsimp only)
           (try k_fold))))
  k_with "call ref" => (
      (with_reducible show wpAny _ _ (call (Value.ref 180) _) _ _ _)
      k_dflt (refine' Does.here (rput_does ?p1 ?p2 ?p3) ?k1 ?k2 ?k3 ?k4 ?k5 ?k6 ?k7 ?k8 ?k9 ?_; (case p1 => assumption); (case p2 => assumption); (case p3 => assumption); k_extra "my sides")
      (intro v9ω news9ω h9ω tk9ω F9ω N9ω r9ω)
      (obtain ⟨e9ω, R9ω, f9ω⟩ := r9ω)
      (subst e9ω)
      (try dsimp only)
      (try k_fold))
  k_with "call ref" => (
      (with_reducible show wpAny _ _ (call (Value.ref 208) _) _ _ _)
      k_dflt (refine' Does.here defs_does ?k1 ?k2 ?k3 ?k4 ?k5 ?k6 ?k7 ?k8 ?k9 ?_; k_extra "my sides")
      k_extra "my defd")
  k_with "call ref" => (
      (with_reducible show wpAny _ _ (call (Value.ref 257) _) _ _ _)
      k_dflt (refine' Does.here kinds_does ?k1 ?k2 ?k3 ?k4 ?k5 ?k6 ?k7 ?k8 ?k9 ?_; k_extra "my sides")
      (intro v9ω news9ω h9ω tk9ω F9ω N9ω r9ω)
      (obtain ⟨l9ω, e9ω, R9ω, s9ω, t9ω⟩ := r9ω)
      (subst e9ω)
      (try dsimp only)
      (try k_fold))
  k_with "call builtin:len" => (k_here; (with_reducible show wpAny _ _ (call (Value.builtin "len") [Value.ref _]) _ _ _); k_dflt (refine' kinds_len ?k1 ?k2 ?k3 ?_; (case k1 => k_asm); (case k2 => assumption); (case k3 => k_extra "my inc")); k_whole)
  k_with "call ref" => (
      (with_reducible show wpAny _ _ (call (Value.ref 264) _) _ _ _)
      k_dflt (refine' Does.here hang_does ?k1 ?k2 ?k3 ?k4 ?k5 ?k6 ?k7 ?k8 ?k9 ?_; k_extra "my sides")
      (intro v9ω news9ω h9ω tk9ω F9ω N9ω r9ω)
      (obtain ⟨l9ω, e9ω, R9ω, s9ω, t9ω⟩ := r9ω)
      (subst e9ω)
      (try dsimp only)
      (try k_fold))
  k_with "call ref" => (
      (with_reducible show wpAny _ _ (call (Value.ref 283) _) _ _ _)
      k_dflt (refine' Does.here (code_does ?p1 ?p2 ?p3 ?p4) ?k1 ?k2 ?k3 ?k4 ?k5 ?k6 ?k7 ?k8 ?k9 ?_; k_extra "my sides"; (case p1 => omega); (case p2 => omega); (case p3 => omega); (case p4 => omega))
      (intro v9ω news9ω h9ω tk9ω F9ω N9ω r9ω)
      (obtain ⟨⟨u9ω, e9ω⟩, s9ω⟩ := r9ω)
      (subst e9ω)
      (try dsimp only)
      (try k_fold))
  k_with "call ref" => (
      (with_reducible show wpAny _ _ (call (Value.ref 229) _) _ _ _)
      k_dflt (refine' Does.here (dput_does ?p1 ?p2 ?p3 ?p4 ?p5) ?k1 ?k2 ?k3 ?k4 ?k5 ?k6 ?k7 ?k8 ?k9 ?_; k_extra "my sides"; (case p1 => first | assumption | exact DSt.sub (by assumption) (fun p hp _ => (by assumption : ∀ p ∈ _, p ∈ _) p hp)); (case p5 => exact rfl); (case p2 => omega); (case p3 => decide); (case p4 => k_extra "my putok"))
      (intro v9ω news9ω h9ω tk9ω F9ω N9ω r9ω)
      (obtain ⟨e9ω, D9ω, s9ω⟩ := r9ω)
      (subst e9ω)
      (obtain ⟨dd9ω, dm9ω, df9ω, g1ω, u1ω, g2ω, u2ω, g3ω, u3ω, w3ω, g4ω, u4ω, w4ω, i1ω, i2ω⟩ := DSt.inst D9ω)
      (try dsimp only)
      (try k_fold))
  k_with "call ref" => (
      (with_reducible show wpAny _ _ (call (Value.ref 290) _) _ _ _)
      k_dflt (refine' Does.here (ldata_does ?p1) ?k1 ?k2 ?k3 ?k4 ?k5 ?k6 ?k7 ?k8 ?k9 ?_; k_extra "my sides"; (case p1 => first | assumption | omega))
      k_extra "my ldata")
  k_with "my db" => first | assumption | exact DB.mono (by assumption) (by k_extra "my inc")
  k_with "call ref" => (
      (with_reducible show wpAny _ _ (call (Value.ref 236) _) _ _ _)
      k_dflt (first
       | ((with_reducible show wpAny _ _ (call _ [_, Value.str (Str.ofString "incb") _, _]) _ _ _); refine' Does.val1 (dgetI_does ?p1 ?p2) ?k1 ?k2 ?k3 ?k4 ?k5 ?k6 ?k7 ?k8 ?k9 ?_; k_extra "my sides"; (case p1 => k_extra "my db"); (case p2 => k_extra "my cell"); k_extra "my plain1")
       | ((with_reducible show wpAny _ _ (call _ [_, Value.str (Str.ofString "ep") _, _]) _ _ _); refine' Does.val (dgetP_does ?p1 ?p2) ?k1 ?k2 ?k3 ?k4 ?k5 ?k6 ?k7 ?k8 ?k9 ?_; k_extra "my sides"; (case p1 => k_extra "my db"); (case p2 => k_extra "my cell"); k_extra "my plain")))
  k_with "call ref" => (
      (with_reducible show wpAny _ _ (call (Value.ref 45) _) _ _ _)
      k_dflt (refine' Does.val1 (kind_does ?p1 ?p2) ?k1 ?k2 ?k3 ?k4 ?k5 ?k6 ?k7 ?k8 ?k9 ?_; k_extra "my sides"; (case p1 => k_extra "my db"); (case p2 => k_extra "my cell"))
      k_extra "my plain1")
  k_with "call ref" => (
      (with_reducible show wpAny _ _ (call (Value.ref 124) _) _ _ _)
      k_dflt (refine' Does.val (held_does (o := ?o) ?p1 ?p2) ?k1 ?k2 ?k3 ?k4 ?k5 ?k6 ?k7 ?k8 ?k9 ?_; k_extra "my sides"; (case p1 => k_mem); (case p2 => k_mem); (case o => exact none))
      k_extra "my plain")
  k_with "call ref" => (
      (with_reducible show wpAny _ _ (call (Value.ref 131) _) _ _ _)
      k_dflt (refine' Does.here (take_any (o := ?o) ?p1 ?p2 ?p3) ?k1 ?k2 ?k3 ?k4 ?k5 ?k6 ?k7 ?k8 ?k9 ?_; k_extra "my sides"; (case p1 => k_mem); (case p2 => k_mem); (case p3 => assumption); (case o => exact none))
      (intro v9ω news9ω h9ω tk9ω F9ω N9ω r9ω)
      (obtain ⟨e9ω, tp9ω, tc9ω, m9ω, s9ω⟩ := r9ω)
      (subst e9ω)
      (try dsimp only)
      (try k_fold))
  k_with "my room" => first | ((try dsimp only [Around.deeper, Around.mark, Around.in1]); k_extra "my roomx") | ((try simp only [depth_deeper, units_deeper]); (try dsimp only [callerA, claimMargin, recursionLimit, cLine]); first | omega | decide) | (with_unfolding_all decide)
  k_with "call ref" => (
      (with_reducible show wpAny _ _ (call (Value.ref 257) _) _ _ _)
      k_dflt (refine' Does.here kindsA ?k1 ?k2 ?k3 ?k4 ?k5 ?k6 ?k7 ?k8 ?k9 ?_; k_extra "my sides")
      (intro v9ω news9ω h9ω tk9ω F9ω N9ω r9ω)
      (obtain ⟨l9ω, rs9ω, nn9ω, e9ω, len9ω, f9ω, l1ω⟩ := r9ω)
      (subst e9ω)
      (subst f9ω)
      (try dsimp only)
      (try k_lt l1ω)
      (try k_sweep)
      (try k_fold))
  k_with "call ref" => (
      (with_reducible show wpAny _ _ (call (Value.ref 264) _) _ _ _)
      k_dflt (refine' Does.here hangA ?k1 ?k2 ?k3 ?k4 ?k5 ?k6 ?k7 ?k8 ?k9 ?_; k_extra "my sides")
      (intro v9ω news9ω h9ω tk9ω F9ω N9ω r9ω)
      (obtain ⟨l9ω, rs9ω, nn9ω, e9ω, len9ω, f9ω, l1ω⟩ := r9ω)
      (subst e9ω)
      (subst f9ω)
      (try dsimp only)
      (try k_lt l1ω)
      (try k_sweep)
      (try k_fold))
  k_with "call builtin:len" => (k_here; (with_reducible show wpAny _ _ (call (Value.builtin "len") [Value.ref _]) _ _ _); k_dflt (refine' len_fix ?k1 ?k2 ?k3 ?k4 ?_; (case k1 => k_asm); (case k2 => k_mem); (case k3 => assumption); (case k4 => decide)); k_whole)
  k_with "call builtin:len" => (k_here; (with_reducible show wpAny _ _ (call (Value.builtin "len") [Value.ref _]) _ _ _); (rename News _ _ _ _ => lN'ω); k_dflt (refine' len_drop lN'ω ?k3 ?k4 ?_; (case k3 => assumption); (case k4 => decide)); k_whole; intro N9ω; clear lN'ω)
  k_with "call ref" => (
      (with_reducible show wpAny _ _ (call (Value.ref 276) _) _ _ _)
      k_dflt (refine' Does.here (draw_upd ?p0 ?p1 ?p2 ?U1 ?U2 ?p3 ?p4 ?p5) ?k1 ?k2 ?k3 ?k4 ?k5 ?k6 ?k7 ?k8 ?k9 ?_; k_extra "my sides"; (case U1 => k_updF); (case p0 => first | exact DeckI.fa (by assumption) | exact ⟨_, by assumption⟩); (case U2 => (intro oω; (try dsimp only); k_updF)); (case p1 => k_extra "my deck"); (case p2 => assumption); (case p3 => k_ne); (case p4 => omega); (case p5 => omega))
      (intro v9ω news9ω h9ω tk9ω F9ω N9ω r9ω)
      (obtain ⟨⟨k9ω, u9ω, e9ω, b9ω, c9ω⟩, od9ω, m9ω, ws9ω, ls9ω, nn9ω, D9ω, f9ω⟩ := r9ω)
      (subst e9ω)
      (subst f9ω)
      (try dsimp only at N9ω)
      (try dsimp only)
      (try k_sweep)
      (try k_fold))
  k_with "call ref" => (
      (with_reducible show wpAny _ _ (call (Value.ref 283) _) _ _ _)
      k_dflt (refine' Does.val1 (codeA ?p1 ?p2 ?p3 ?p4) ?k1 ?k2 ?k3 ?k4 ?k5 ?k6 ?k7 ?k8 ?k9 ?_; k_extra "my sides"; (case p1 => omega); (case p2 => omega); (case p3 => omega); (case p4 => omega))
      k_extra "my plain1")
  k_with "exec If" => k_extra "my if"
  k_with "call builtin:list.append" => k_extra "my app"
  k_with "subscriptTail Call Name nil nil BinOp ref int" => k_extra "my item"
  k_with "subscriptTail Call Name nil nil Name ref int" => k_extra "my item"
  k_with "MPostL" => dsimp only [MPostL, KswPost]
  k_with "subscriptTail Name UnaryOp ref int" => (k_here; (with_reducible show wpAny _ _ (subscriptTail _ _ (Value.ref _) (Value.int _ _)) _ _ _); k_dflt (refine' m_last ?N ?m ?_ ?hs ?hg; (case N => k_asm); (case m => k_mem); (case hs => with_unfolding_all rfl); (case hg => (intro _; with_unfolding_all rfl))))
  k_with "call ref" => (
      (with_reducible show wpAny _ _ (call (Value.ref 325) _) _ _ _)
      k_dflt (refine' Does.val1 (end_does ?p1 ?p2 ?p3 ?p4) ?k1 ?k2 ?k3 ?k4 ?k5 ?k6 ?k7 ?k8 ?k9 ?_; k_extra "my sides"; (case p1 => first | assumption | exact RowAt.mono (by assumption) (by k_extra "my inc")); (case p2 => omega); (case p3 => omega); (case p4 => omega))
      k_extra "my plain1")
  k_with "call ref" => (
      (with_reducible show wpAny _ _ (call (Value.ref 95) _) _ _ _)
      k_dflt (refine' Does.val (break_does ?p1 ?p2 ?p3 ?p4 ?p5 ?p6 ?p7) ?k1 ?k2 ?k3 ?k4 ?k5 ?k6 ?k7 ?k8 ?k9 ?_; k_extra "my sides"; (case p1 => k_extra "my db"); (case p2 => k_mem); (case p3 => assumption); (case p4 => omega); (case p5 => assumption); (case p6 => omega); (case p7 => omega))
      k_extra "my plain")
  trivial
section
theorem words_tailb_1 : True := by
  k_with "call builtin:len" => (k_here; (with_reducible show wpAny _ _ (call (Value.builtin "len") [Value.ref _]) _ _ _); k_dflt (refine' len_fix ?k1 ?k2 ?k3 ?k4 ?_; (case k1 => k_asm); (case k2 => k_mem); (case k3 => assumption); (case k4 => omega)); k_whole)
  trivial
theorem bools_map {n : Nat} {g : Nat → Bool} : ((List.range n).map fun i => Value.bool (g i)) = ((List.range n).map g).map Value.bool := by simp
section
variable {w : World} {h₀ base : Heap} {L fa : Addr} {cd : Value} {mean : ExcName → Option Value} {mg mb : Str → Option Value} {s : Shared} {E : Value → Shared → Prop} {Q : Flow → Shared → Prop} {u : Str → Option Value}
set_option maxRecDepth 100000 in
set_option maxHeartbeats 4000000 in
/-- the breaks, one by one -/
theorem stmt7 {tx rw dat D : Addr} {dv : List Value} {nd : Nat} {codes : List Int} {cells : List Cell} {leg : Bool} {oL : Obj} {R : List (Addr × Obj)}
    (B : Below callerA base [] h₀) (X : (Mine.hd.heap_1 w.params).In h₀) (T : Top Mine.seen1 (looseW Mine.seen1 [Str.ofString "SYLLABLES", Str.ofString "cluster_break"]) mean mg mb h₀)
    (F : Fr h₀ L s.heap (kstB u [(Str.ofString "due", .ref D)])) (N : News h₀ L s.heap R) (hb : Base w R L tx rw dat codes cells)
    (cl : (L + 1 + 1 + 1, oL) ∈ R) (dl : oL.data = .cell (some (.bool leg))) (md : (D, listOf (List.toArray dv) nd) ∈ R) (ed : dv = ((List.range (cells.length + 1)).map fun i => breakF cells i leg).map Value.bool)
    (next : ∀ h tk, Fr h₀ L h (kstB u [(Str.ofString "due", .ref D)]) → News h₀ L h R → Q .next { s with heap := h, toks := tk }) :
    wpAny (model Pg w) (callerA.deeper (lawEnv L fa cd)) (exec cut7.1.1 (lawEnv L fa cd)) Q E s := by
  obtain ⟨txs, kx, mx, ix⟩ := hb.txt
  obtain ⟨o1, c1, d1⟩ := hb.ctx
  obtain ⟨o2, c2, d2⟩ := hb.cda
  obtain ⟨G, I, P, db, hC⟩ := hb.db
  have hlo := hb.lo
  have hhi := hb.hi
  have hcl := hb.len
  have hl : txs.length = cells.length := by rw [ix.length, hb.len]
  clear hb
  have F0 := F
  dsimp only [kstB] at F
  unfold Pg
  revert X
  k_fill
  intro X
  unfold lawEnv cut7 cut6 cut5 cut4 lawParts
  dsimp only
  try k_fold
  refine wpAny_If (wpAny_isTrue_Compare1 ?_)
  refine LCg.ListComp_U (F₀ := by k_asm) (by with_unfolding_all rfl) (by decide) (by rfl) (by decide) (by rfl) ?_
  refine wpAny_mono (Q := RangeMade h₀ L _ R ((cells.length + 1 : Nat) : Int) s) ?r (fun v s₁ H => H.src rfl (by omega) fun g tk => ?c) fun _ _ e => e
  case r =>
    rw [show ((cells.length + 1 : Nat) : Int) = (cells.length : Nat) + 1 by omega]
    k_steps
    exact RangeMade.intro (by k_asm) (by k_asm) (by k_extra "my inc") (by assumption)
  case c =>
    refine bools_rest (fun i => breakF cells i leg) (fun i v _ ⟨t, e⟩ => ⟨t, by rw [e, Int.zero_add]⟩) ?turn ?fin
    case fin =>
      intro D h tk F1 N1 off
      rw [bools_map, ← ed] at N1
      have F3 := F1
      dsimp only [kstB] at F3
      clear H F0 F N
      walk1
      refine ne_bools N1 (List.Mem.head _) (List.Mem.tail _ md) ed ed (by k_extra "my room") ?_
      k_steps
      exact next _ _ F1 (kst_newsOf N1 (fun p hp => List.Mem.tail _ hp))
    case turn =>
      clear next F0 F N
      intro i t I oI C oC D m₂ ys h tk E' hi' hC' hx F1 N1 off ne
      k_steps
      exact LCg.CompEnd.intro (by k_asm) (by k_asm) R (fun _ h => h) off trivial ⟨rfl, by rw [Int.toNat_natCast]⟩
end


end
theorem fresh_tails : True := by
  k_with_none
  w_top off
  k_with "is_list" => exact News.isList (by k_asm) (by k_mem)
  k_with "exec While Compare cons nil" => k_extra "my while"
  k_with "exec While BoolOp cons nil" => k_extra "my while"
  k_with "exec While Constant cons nil" => k_extra "my whileT"
  k_with "MPost" => with_reducible first | refine MPost.next ?_ | refine MPost.ret ?_ | refine MPost.brk ?_ | refine MPost.cont ?_
  k_with "seqQ" => with_reducible first | refine seqQ.next ?_ | refine seqQ.ret ?_ | refine seqQ.brk ?_ | refine seqQ.cont ?_
  k_with "my enter" => (
      refine' enter ?k6 ?k7 ?k9 ?kB ?kN ?kU ?c2 ?c3 ?c4 ?c5 ?_
      case k6 => k_is
      case k7 => k_is
      case k9 => first | exact fun _ _ => BindsTo.of_eq rfl | (intro s9ω X9ω; exact binds_K X9ω rfl (by k_is) rfl rfl rfl)
      case kB => exact locs rfl
      case kN => exact rfl
      case kU => exact rfl
      case c2 => exact rfl
      case c3 => exact rfl
      case c4 => exact rfl
      case c5 => decide
      intro dpω unω gdω outerω A₀ω baseω gω h₁ω Lω gnω drω osω tkω meanω mgω mbω Eω Bω Xω Tω hdω huω eω Aω mω hEω Fω Nω)
  k_with "my ret" => (
      first
        | refine Post.ret (by k_asm) ?kN9 ⟨rfl, ?_⟩
        | refine Post.next (by k_asm) ?kN9 ⟨rfl, ?_⟩
      case kN9 => first | k_asm | exact kst_newsOf (by assumption) (by kst_inAny)
      k_extra "my clean")
  k_with "my clean" => ((repeat (rename Fr _ _ _ _ => z9ω; clear z9ω)); (repeat (rename News _ _ _ _ => z9ω; clear z9ω)); (try clear hEω Bω Xω Tω hdω huω))
  k_with "my roomx" => first | exact room_c (by assumption) rfl | exact room_b (by assumption) rfl | exact room_a (by assumption) | exact room_d (by assumption) rfl | exact room_e (by assumption) rfl | exact Nat.le_of_ble_eq_true rfl | omega
  k_with "my room" => ((try dsimp (config := { zetaDelta := true }) only [Around.deeper, Around.mark, Around.in1]); k_extra "my roomx")
  k_with "my sides" => (
      (case k1 => k_asm)
      (case k2 => k_asm)
      (case k3 => k_asm)
      (case k4 => k_asm)
      (case k5 => k_asm)
      (case k6 => exact rfl)
      (case k7 => exact rfl)
      (case k8 => k_extra "my room")
      (case k9 => k_extra "my room"))
  k_with "compareOp In str ref" => (k_here; (with_reducible show wpAny _ _ (compareOp CmpOp.In (Value.str _ _) (Value.ref _)) _ _ _); (with_unfolding_all refine' in_tuple_strs ?k1 ?k2 ?_; (case k1 => first | exact kun_topT (by k_asm) (by k_asm) (by k_is) | exact News.isTup (by k_asm) (by k_mem)); (case k2 => kde_strs); k_whole))
  k_with "compareOp NotIn str ref" => (k_here; (with_reducible show wpAny _ _ (compareOp CmpOp.NotIn (Value.str _ _) (Value.ref _)) _ _ _); (with_unfolding_all refine' notin_tuple_strs ?k1 ?k2 ?_; (case k1 => first | exact kun_topT (by k_asm) (by k_asm) (by k_is) | exact News.isTup (by k_asm) (by k_mem)); (case k2 => kde_strs); k_whole))
  k_with "my plain" => ((intro h9ω tk9ω F9ω N9ω); (try k_sweep))
  k_with "subscriptTail" => k_extra "my item"
  k_with "compareOp In str ref" => k_extra "my in"
  k_with "my plain1" => ((intro u9ω h9ω tk9ω F9ω N9ω); (try k_sweep))
  k_with "compareOp NotEq ref ref" => (k_here; (with_reducible show wpAny _ _ (compareOp CmpOp.NotEq (Value.ref _) (Value.ref _)) _ _ _); (with_unfolding_all refine' ne_intsK ?k1 ?k2 ?k3 ?k4 ?k5 ?_; (case k1 => is_list); (case k2 => l_ints); (case k3 => is_list); (case k4 => l_ints); (case k5 => k_extra "my room"); k_whole))
  k_with "my mem" => first | ktr_member | exact List.Mem.head _ | (refine List.mem_cons_of_mem _ ?_; k_extra "my mem")
  k_with "k_mem" => k_extra "my mem"
  k_with "compareOp NotIn str ref" => k_extra "my notin"
  k_with "call builtin:dict.get" => k_extra "my get"
  k_with "getMethod ref" => k_extra "my getm"
  k_with "setItem ref str" => k_extra "my set"
  k_with "k_room" => ((try dsimp (config := { zetaDelta := true }) only); (try simp only [depth_under_make, depth_under_kw, depth_in1, depth_deeper, depth_caller]); (try dsimp only); k_extra "my roomx")
  k_with "getItem ref str" => k_extra "my gitem"
  k_with "pyIter ref" => k_extra "my for"
  k_with "k_qdec" => decide +kernel
  k_with "my lt" => with_reducible (first | assumption | exact And.left (by assumption) | exact And.left (And.right (by assumption)) | exact And.left (And.right (And.right (by assumption))) | exact And.left (And.right (And.right (And.right (by assumption)))) | exact And.left (And.right (And.right (And.right (And.right (by assumption))))) | exact And.left (And.right (And.right (And.right (And.right (And.right (by assumption)))))) | exact And.left (And.right (And.right (And.right (And.right (And.right (And.right (by assumption))))))) | exact And.left (And.right (And.right (And.right (And.right (And.right (And.right (And.right (by assumption)))))))) | exact And.left (And.right (And.right (And.right (And.right (And.right (And.right (And.right (And.right (by assumption))))))))) | exact And.left (And.right (And.right (And.right (And.right (And.right (And.right (And.right (And.right (And.right (by assumption)))))))))))
  k_with "k_ne" => first | with_reducible assumption | with_reducible exact Ne.symm (by assumption) | (refine Nat.ne_of_lt ?_; k_extra "my lt") | (refine Nat.ne_of_gt ?_; k_extra "my lt") | (refine Nat.ne_of_gt ?_; (repeat (first | exact Nat.lt_succ_self _ | refine Nat.lt_succ_of_lt ?_)); done) | (refine Nat.ne_of_lt ?_; (repeat (first | exact Nat.lt_succ_self _ | refine Nat.lt_succ_of_lt ?_)); done) | (refine neN ?_; (try dsimp only); omega)
  k_with "l_idx" => first | assumption | exact idx_a (by assumption) (by assumption) | exact idx_b (by assumption) | exact idx_c (by assumption) (by assumption)
  k_with "JPost" => with_reducible first | refine JPost.next ?_ | refine JPost.ret ?_ | refine JPost.brk ?_ | refine JPost.cont ?_
  k_with "storeName" => (k_here; k_dflt (refine' storeX_M ?F ?N ?_ ?a ?b; (case F => k_asm); (case N => k_asm); (case a => rfl); (case b => rfl); k_whole); (intro h'ω tk'ω m'ω F'ω N'ω); (try k_sweep))
  k_with "ksw skip" => repeat (first | (refine' ite_skip ?hx ?_; (case hx => first | exact ne_stored (by assumption) rfl | exact h2ω _ (List.Mem.head _) | exact h2ω _ (List.Mem.tail _ (List.Mem.head _)) | exact h2ω _ (List.Mem.tail _ (List.Mem.tail _ (List.Mem.head _))))) | refine ite_skip2 (by assumption) ?_)
  k_with "ksw_same" => (
      intro zω h2ω h3ω
      first
        | rfl
        | (k_extra "ksw skip"; first | rfl | (refine Eq.symm ?_; k_extra "ksw skip"; rfl))
        | ((simp only [List.forall_mem_cons, List.not_mem_nil, false_implies, implies_true, and_true, ne_eq] at h2ω); (simp (zetaDelta := true) [h2ω]; done))
        | ((simp only [List.forall_mem_cons, List.not_mem_nil, false_implies, implies_true, and_true, ne_eq] at h2ω); (simp only [List.contains_cons, List.contains_nil, Bool.or_false, Bool.or_eq_false_iff, beq_eq_false_iff_ne, ne_eq] at h3ω); (simp (zetaDelta := true) [h2ω, h3ω]; done)))
  k_with "execs cons" => (k_here; (first | (refine' norm_M (gn := gnω) (dr := drω) (os := osω) ?F9 ?e9 ?_; (case F9 => k_asm); (case e9 => exact rfl); intro tk9ω) | ((try dsimp only); (try k_gentoks))); first | (with_reducible refine' execs_one ?_) | ((with_reducible refine' execs_let ?_); intro kkω))
  k_with "my leaf" => with_reducible first | show Post _ _ _ _ _ _ _ _ | show JOut _ _ _ _ _ _ _ _ _ | show MEnd _ _ _ _ _ _ _ _ _ _ _ _ _ | show MOut _ _ _ _ _ _ _ _ _ _ _
  k_with "k_steps" => repeat' (first | k_unfold | ((fail_if_success k_extra "my leaf"); first | walk1 | (dsimp only; walk1)) | (leave1; walk_say "STEP leave1"; (try dsimp only)) | fail "no step")
  k_with "my cond" => simp only [true_and, and_true, false_and, and_false, true_or, or_true, false_or, or_false, if_true, if_false, Bool.false_eq_true, Bool.true_eq_false, reduceCtorEq, and_self, or_self, not_true_eq_false, not_false_eq_true]
  k_with "eval Constant int" => (k_here; (with_reducible refine int_M ?_); intro t9ω tk9ω)
  k_with "eval Constant str" => (k_here; (with_reducible refine str_M ?_); intro t9ω tk9ω)
  k_with "binaryOp Add int int" => (k_here; (with_reducible refine add_M ?_); intro t9ω tk9ω)
  k_with "binaryOp Sub int int" => (k_here; (with_reducible refine sub_M ?_); intro t9ω tk9ω)
  k_with "call ref" => (
      (with_reducible show wpAny _ _ (call (Value.ref 145) _) _ _ _)
      k_dflt (refine' Does.val1 (place_does ?p1 ?p2 ?p3) ?k1 ?k2 ?k3 ?k4 ?k5 ?k6 ?k7 ?k8 ?k9 ?_; k_extra "my sides"; (case p1 => k_mem); (case p2 => assumption); (case p3 => first | assumption | omega))
      k_extra "my plain1")
  k_with "call ref" => (
      (with_reducible show wpAny _ _ (call (Value.ref 28) _) _ _ _)
      k_dflt (refine' Does.val syllable_does ?k1 ?k2 ?k3 ?k4 ?k5 ?k6 ?k7 ?k8 ?k9 ?_; k_extra "my sides")
      k_extra "my plain")
  k_with "call ref" => (
      (with_reducible show wpAny _ _ (call (Value.ref 52) _) _ _ _)
      k_dflt (refine' Does.val joins_does ?k1 ?k2 ?k3 ?k4 ?k5 ?k6 ?k7 ?k8 ?k9 ?_; k_extra "my sides")
      k_extra "my plain")
  k_with "call ref" => (
      (with_reducible show wpAny _ _ (call (Value.ref 59) _) _ _ _)
      k_dflt (first
        | (refine' Does.val (pairS_does ?p1) ?k1 ?k2 ?k3 ?k4 ?k5 ?k6 ?k7 ?k8 ?k9 ?_; (case p1 => assumption); k_extra "my sides")
        | (refine' Does.val (pairN_does ?p1) ?k1 ?k2 ?k3 ?k4 ?k5 ?k6 ?k7 ?k8 ?k9 ?_; (case p1 => assumption); k_extra "my sides"))
      k_extra "my plain")
  k_with "call ref" => (
      (with_reducible show wpAny _ _ (call (Value.ref 173) _) _ _ _)
      k_dflt (refine' Does.val (rget_does' (by assumption) (by assumption)) ?k1 ?k2 ?k3 ?k4 ?k5 ?k6 ?k7 ?k8 ?k9 ?_; k_extra "my sides")
      k_extra "my plain")
  k_with "my cell" => first | assumption | exact Cells.at' (by assumption) _ (by omega)
  k_with "call ref" => (
      (with_reducible show wpAny _ _ (call (Value.ref 236) _) _ _ _)
      k_dflt (first
       | ((with_reducible show wpAny _ _ (call _ [_, Value.str (Str.ofString "gcb") _, _]) _ _ _); refine' Does.val (dgetG_does ?p1 ?p2) ?k1 ?k2 ?k3 ?k4 ?k5 ?k6 ?k7 ?k8 ?k9 ?_; k_extra "my sides"; (case p1 => assumption); (case p2 => assumption); k_extra "my plain")
       | ((with_reducible show wpAny _ _ (call _ [_, Value.str (Str.ofString "incb") _, _]) _ _ _); refine' Does.val1 (dgetI_does ?p1 ?p2) ?k1 ?k2 ?k3 ?k4 ?k5 ?k6 ?k7 ?k8 ?k9 ?_; k_extra "my sides"; (case p1 => assumption); (case p2 => k_extra "my cell"); k_extra "my plain1")
       | ((with_reducible show wpAny _ _ (call _ [_, Value.str (Str.ofString "ep") _, _]) _ _ _); refine' Does.val (dgetP_does ?p1 ?p2) ?k1 ?k2 ?k3 ?k4 ?k5 ?k6 ?k7 ?k8 ?k9 ?_; k_extra "my sides"; (case p1 => assumption); (case p2 => k_extra "my cell"); k_extra "my plain")))
  k_with "call ref" => (
      (with_reducible show wpAny _ _ (call (Value.ref 35) _) _ _ _)
      k_dflt (first
        | (refine' Does.val1 (kindHs_does ?p1) ?k1 ?k2 ?k3 ?k4 ?k5 ?k6 ?k7 ?k8 ?k9 ?_; (case p1 => assumption); k_extra "my sides"; k_extra "my plain1")
        | (refine' Does.val (kindHn_does ?p1) ?k1 ?k2 ?k3 ?k4 ?k5 ?k6 ?k7 ?k8 ?k9 ?_; (case p1 => assumption); k_extra "my sides"; k_extra "my plain")))
  k_with "call ref" => (
      (with_reducible show wpAny _ _ (call (Value.ref 45) _) _ _ _)
      k_dflt (refine' Does.val1 (kind_does ?p1 ?p2) ?k1 ?k2 ?k3 ?k4 ?k5 ?k6 ?k7 ?k8 ?k9 ?_; k_extra "my sides"; (case p1 => assumption); (case p2 => k_extra "my cell"))
      k_extra "my plain1")
  k_with "call ref" => (
      (with_reducible show wpAny _ _ (call (Value.ref 66) _) _ _ _)
      k_dflt (refine' Does.val (conj_does ?p1 ?p2 ?p3 ?p4 ?p5 ?p6 ?p7) ?k1 ?k2 ?k3 ?k4 ?k5 ?k6 ?k7 ?k8 ?k9 ?_; k_extra "my sides"; (case p1 => assumption); (case p2 => k_mem); (case p3 => assumption); (case p4 => omega); (case p5 => assumption); (case p6 => omega); (case p7 => omega))
      k_extra "my plain")
  k_with "call ref" => (
      (with_reducible show wpAny _ _ (call (Value.ref 73) _) _ _ _)
      k_dflt (refine' Does.val (pict_does ?p1 ?p2 ?p3 ?p4 ?p5 ?p6 ?p7) ?k1 ?k2 ?k3 ?k4 ?k5 ?k6 ?k7 ?k8 ?k9 ?_; k_extra "my sides"; (case p1 => assumption); (case p2 => k_mem); (case p3 => assumption); (case p4 => omega); (case p5 => assumption); (case p6 => omega); (case p7 => omega))
      k_extra "my plain")
  k_with "call ref" => (
      (with_reducible show wpAny _ _ (call (Value.ref 80) _) _ _ _)
      k_dflt (refine' Does.val1 (flags_does ?p1 ?p2 ?p3 ?p4 ?p5 ?p6 ?p7) ?k1 ?k2 ?k3 ?k4 ?k5 ?k6 ?k7 ?k8 ?k9 ?_; k_extra "my sides"; (case p1 => assumption); (case p2 => k_mem); (case p3 => assumption); (case p4 => omega); (case p5 => assumption); (case p6 => omega); (case p7 => omega))
      k_extra "my plain1")
  k_with "call ref" => (
      (with_reducible show wpAny _ _ (call (Value.ref 87) _) _ _ _)
      k_dflt (refine' Does.val (flag_does ?p1 ?p2 ?p3 ?p4 ?p5 ?p6 ?p7) ?k1 ?k2 ?k3 ?k4 ?k5 ?k6 ?k7 ?k8 ?k9 ?_; k_extra "my sides"; (case p1 => assumption); (case p2 => k_mem); (case p3 => assumption); (case p4 => omega); (case p5 => assumption); (case p6 => omega); (case p7 => omega))
      k_extra "my plain")
  k_with "call ref" => (
      (with_reducible show wpAny _ _ (call (Value.ref 95) _) _ _ _)
      k_dflt (refine' Does.val (break_does ?p1 ?p2 ?p3 ?p4 ?p5 ?p6 ?p7) ?k1 ?k2 ?k3 ?k4 ?k5 ?k6 ?k7 ?k8 ?k9 ?_; k_extra "my sides"; (case p1 => assumption); (case p2 => k_mem); (case p3 => assumption); (case p4 => omega); (case p5 => assumption); (case p6 => omega); (case p7 => omega))
      k_extra "my plain")
  k_with "my inc" => first | exact fun _ h => h | exact kst_inSelf | kst_inAny
  k_with "call builtin:len" => (k_here; (with_reducible show wpAny _ _ (call (Value.builtin "len") [Value.ref _]) _ _ _); k_dflt (refine' row_len ?k1 ?k2 ?k3 ?k4 ?_; (case k1 => k_asm); (case k2 => assumption); (case k3 => k_extra "my inc"); (case k4 => omega)); k_whole)
  k_with "subscriptTail Name Name ref int" => k_extra "my row"
  k_with "subscriptTail Name BinOp ref int" => k_extra "my row"
  k_with "my row" => (k_here; (with_reducible show wpAny _ _ (subscriptTail _ _ (Value.ref _) (Value.int _ _)) _ _ _); k_dflt (refine' row_item ?k1 ?k2 ?k3 ?k4 ?k5 ?k6 ?_ ?k8 ?k9; (case k1 => k_asm); (case k2 => assumption); (case k3 => k_extra "my inc"); (case k8 => with_unfolding_all rfl); (case k9 => (intro _; with_unfolding_all rfl)); (case k4 => omega); (case k5 => omega); (case k6 => omega)); k_whole; (intro a9ω t8ω t9ω n9ω hm9ω))
  k_with "call ref" => (
      (with_reducible show wpAny _ _ (call (Value.ref 297) _) _ _ _)
      k_dflt (refine' Does.val1 (past_does ?p1 ?p2 ?p3 ?p4 ?p5) ?k1 ?k2 ?k3 ?k4 ?k5 ?k6 ?k7 ?k8 ?k9 ?_; k_extra "my sides"; (case p1 => first | assumption | exact RowAt.mono (by assumption) (by k_extra "my inc")); (case p2 => omega); (case p4 => k_mem); (case p5 => kde_strs); (case p3 => omega))
      k_extra "my plain1")
  k_with "my rowp" => first | assumption | exact RowAt.mono (by assumption) (by k_extra "my inc")
  k_with "call ref" => (
      (with_reducible show wpAny _ _ (call (Value.ref 304) _) _ _ _)
      k_dflt (refine' Does.val1 (syl_does ?p1 ?p2 ?p3 ?p4) ?k1 ?k2 ?k3 ?k4 ?k5 ?k6 ?k7 ?k8 ?k9 ?_; k_extra "my sides"; (case p1 => k_extra "my rowp"); (case p2 => omega); (case p3 => omega); (case p4 => omega))
      k_extra "my plain1")
  k_with "my plainR" => (
      (intro v9ω news9ω h9ω tk9ω F9ω N9ω r9ω)
      (obtain ⟨e9ω, t9ω, f9ω⟩ := r9ω)
      (subst f9ω)
      (subst e9ω)
      (try dsimp only)
      (try k_fold))
  k_with "call ref" => (
      (with_reducible show wpAny _ _ (call (Value.ref 311) _) _ _ _)
      k_dflt (refine' Does.val1 (pics_does ?p1 ?p2 ?p3 ?p4) ?k1 ?k2 ?k3 ?k4 ?k5 ?k6 ?k7 ?k8 ?k9 ?_; k_extra "my sides"; (case p1 => k_extra "my rowp"); (case p2 => omega); (case p3 => omega); (case p4 => omega))
      k_extra "my plain1")
  k_with "call ref" => (
      (with_reducible show wpAny _ _ (call (Value.ref 318) _) _ _ _)
      k_dflt (refine' Does.val1 (cons_does ?p1 ?p2 ?p3 ?p4) ?k1 ?k2 ?k3 ?k4 ?k5 ?k6 ?k7 ?k8 ?k9 ?_; k_extra "my sides"; (case p1 => k_extra "my rowp"); (case p2 => omega); (case p3 => omega); (case p4 => omega))
      k_extra "my plain1")
  k_with "my len" => ((try simp only [List.length_append, List.length_take, List.length_drop, List.length_cons, List.length_nil]); omega)
  k_with "subscriptTail Name Slice ref ref" => (k_here; (with_reducible show wpAny _ _ (subscriptTail _ (PySem.Expr.Slice _ _ none _) (Value.ref _) (Value.ref _)) _ _ _); k_dflt (first
      | (refine' m_slice_to ?F ?N ?l ?i ?z ?_ ?s ?t; (case F => k_asm); (case N => k_asm); (case l => k_mem); (case i => first | assumption | omega); (case z => k_extra "my len"); (case s => with_unfolding_all rfl); (case t => (intro _; with_unfolding_all rfl)))
      | (refine' m_slice_from ?F ?N ?l ?i ?z ?_ ?s ?t; (case F => k_asm); (case N => k_asm); (case l => k_mem); (case i => first | assumption | decide | omega); (case z => k_extra "my len"); (case s => with_unfolding_all rfl); (case t => (intro _; with_unfolding_all rfl)))); k_whole; intro D'ω h'ω F'ω N'ω l1ω; (try k_lt l1ω); (try k_sweep))
  k_with "binaryOp Add ref ref" => (k_here; k_dflt (refine' m_add ?F ?N ?l ?i ?z ?_; (case F => k_asm); (case N => k_asm); (case l => k_mem); (case i => k_mem); (case z => k_extra "my len")); k_whole; intro D'ω h'ω F'ω N'ω l1ω; (try k_lt l1ω); (try k_sweep))
  k_with "k_all" => first | assumption | exact allLt_ne (by first | assumption | exact And.right (by assumption) | exact And.right (And.right (by assumption)) | exact And.right (And.right (And.right (by assumption))))
  k_with "call ref" => (
      (with_reducible show wpAny _ _ (call (Value.ref 152) _) _ _ _)
      k_dflt (refine' Does.val (like_does ?p1) ?k1 ?k2 ?k3 ?k4 ?k5 ?k6 ?k7 ?k8 ?k9 ?_; (case p1 => assumption); k_extra "my sides")
      k_extra "my plain")
  k_with "subscriptTail Attribute Name Slice ref ref" => (refine kba_turn (value' := PySem.Expr.Name (PySem.Str.ofString "_") ⟨0, 0, 0, 0⟩) (fun _ => rfl) ?_)
  k_with "call ref" => (
      (with_reducible show wpAny _ _ (call (Value.ref 243) _) _ _ _)
      k_dflt (first
        | (refine' Does.val (mapof_old ?p1 ?p2) ?k1 ?k2 ?k3 ?k4 ?k5 ?k6 ?k7 ?k8 ?k9 ?_; (case p1 => assumption); (case p2 => assumption); k_extra "my sides"; k_extra "my plain")
        | (refine' Does.here (mapof_new ?p1 ?p2 ?p3 ?p4) ?k1 ?k2 ?k3 ?k4 ?k5 ?k6 ?k7 ?k8 ?k9 ?_; (case p1 => assumption); (case p2 => assumption); (case p3 => assumption); (case p4 => omega); k_extra "my sides"
           (intro v9ω news9ω h9ω tk9ω F9ω N9ω r9ω)
           (obtain ⟨a9ω, x9ω, e9ω, R9ω, D9ω, f9ω, s9ω⟩ := r9ω)
           (subst e9ω)
           (obtain ⟨g1ω, u1ω, v0ω, g2ω, u2ω, lsω, g3ω, u3ω, lvω, n1ω, n2ω⟩ := RD.inst R9ω)
           (try dsimp only)
           (try k_fold))))
  k_with "call ref" => (
      (with_reducible show wpAny _ _ (call (Value.ref 180) _) _ _ _)
      k_dflt (refine' Does.here (rput_does ?p1 ?p2 ?p3) ?k1 ?k2 ?k3 ?k4 ?k5 ?k6 ?k7 ?k8 ?k9 ?_; (case p1 => assumption); (case p2 => assumption); (case p3 => assumption); k_extra "my sides")
      (intro v9ω news9ω h9ω tk9ω F9ω N9ω r9ω)
      (obtain ⟨e9ω, R9ω, f9ω⟩ := r9ω)
      (subst e9ω)
      (try dsimp only)
      (try k_fold))
  k_with "call ref" => (
      (with_reducible show wpAny _ _ (call (Value.ref 208) _) _ _ _)
      k_dflt (refine' Does.here defs_does ?k1 ?k2 ?k3 ?k4 ?k5 ?k6 ?k7 ?k8 ?k9 ?_; k_extra "my sides")
      k_extra "my defd")
  k_with "call ref" => (
      (with_reducible show wpAny _ _ (call (Value.ref 257) _) _ _ _)
      k_dflt (refine' Does.here kinds_does ?k1 ?k2 ?k3 ?k4 ?k5 ?k6 ?k7 ?k8 ?k9 ?_; k_extra "my sides")
      (intro v9ω news9ω h9ω tk9ω F9ω N9ω r9ω)
      (obtain ⟨l9ω, e9ω, R9ω, s9ω, t9ω⟩ := r9ω)
      (subst e9ω)
      (try dsimp only)
      (try k_fold))
  k_with "call builtin:len" => (k_here; (with_reducible show wpAny _ _ (call (Value.builtin "len") [Value.ref _]) _ _ _); k_dflt (refine' kinds_len ?k1 ?k2 ?k3 ?_; (case k1 => k_asm); (case k2 => assumption); (case k3 => k_extra "my inc")); k_whole)
  k_with "call ref" => (
      (with_reducible show wpAny _ _ (call (Value.ref 264) _) _ _ _)
      k_dflt (refine' Does.here hang_does ?k1 ?k2 ?k3 ?k4 ?k5 ?k6 ?k7 ?k8 ?k9 ?_; k_extra "my sides")
      (intro v9ω news9ω h9ω tk9ω F9ω N9ω r9ω)
      (obtain ⟨l9ω, e9ω, R9ω, s9ω, t9ω⟩ := r9ω)
      (subst e9ω)
      (try dsimp only)
      (try k_fold))
  k_with "call ref" => (
      (with_reducible show wpAny _ _ (call (Value.ref 283) _) _ _ _)
      k_dflt (refine' Does.here (code_does ?p1 ?p2 ?p3 ?p4) ?k1 ?k2 ?k3 ?k4 ?k5 ?k6 ?k7 ?k8 ?k9 ?_; k_extra "my sides"; (case p1 => omega); (case p2 => omega); (case p3 => omega); (case p4 => omega))
      (intro v9ω news9ω h9ω tk9ω F9ω N9ω r9ω)
      (obtain ⟨⟨u9ω, e9ω⟩, s9ω⟩ := r9ω)
      (subst e9ω)
      (try dsimp only)
      (try k_fold))
  k_with "call ref" => (
      (with_reducible show wpAny _ _ (call (Value.ref 229) _) _ _ _)
      k_dflt (refine' Does.here (dput_does ?p1 ?p2 ?p3 ?p4 ?p5) ?k1 ?k2 ?k3 ?k4 ?k5 ?k6 ?k7 ?k8 ?k9 ?_; k_extra "my sides"; (case p1 => first | assumption | exact DSt.sub (by assumption) (fun p hp _ => (by assumption : ∀ p ∈ _, p ∈ _) p hp)); (case p5 => exact rfl); (case p2 => omega); (case p3 => decide); (case p4 => k_extra "my putok"))
      (intro v9ω news9ω h9ω tk9ω F9ω N9ω r9ω)
      (obtain ⟨e9ω, D9ω, s9ω⟩ := r9ω)
      (subst e9ω)
      (obtain ⟨dd9ω, dm9ω, df9ω, g1ω, u1ω, g2ω, u2ω, g3ω, u3ω, w3ω, g4ω, u4ω, w4ω, i1ω, i2ω⟩ := DSt.inst D9ω)
      (try dsimp only)
      (try k_fold))
  k_with "call ref" => (
      (with_reducible show wpAny _ _ (call (Value.ref 290) _) _ _ _)
      k_dflt (refine' Does.here (ldata_does ?p1) ?k1 ?k2 ?k3 ?k4 ?k5 ?k6 ?k7 ?k8 ?k9 ?_; k_extra "my sides"; (case p1 => first | assumption | omega))
      k_extra "my ldata")
  k_with "my db" => first | assumption | exact DB.mono (by assumption) (by k_extra "my inc")
  k_with "call ref" => (
      (with_reducible show wpAny _ _ (call (Value.ref 236) _) _ _ _)
      k_dflt (first
       | ((with_reducible show wpAny _ _ (call _ [_, Value.str (Str.ofString "incb") _, _]) _ _ _); refine' Does.val1 (dgetI_does ?p1 ?p2) ?k1 ?k2 ?k3 ?k4 ?k5 ?k6 ?k7 ?k8 ?k9 ?_; k_extra "my sides"; (case p1 => k_extra "my db"); (case p2 => k_extra "my cell"); k_extra "my plain1")
       | ((with_reducible show wpAny _ _ (call _ [_, Value.str (Str.ofString "ep") _, _]) _ _ _); refine' Does.val (dgetP_does ?p1 ?p2) ?k1 ?k2 ?k3 ?k4 ?k5 ?k6 ?k7 ?k8 ?k9 ?_; k_extra "my sides"; (case p1 => k_extra "my db"); (case p2 => k_extra "my cell"); k_extra "my plain")))
  k_with "call ref" => (
      (with_reducible show wpAny _ _ (call (Value.ref 45) _) _ _ _)
      k_dflt (refine' Does.val1 (kind_does ?p1 ?p2) ?k1 ?k2 ?k3 ?k4 ?k5 ?k6 ?k7 ?k8 ?k9 ?_; k_extra "my sides"; (case p1 => k_extra "my db"); (case p2 => k_extra "my cell"))
      k_extra "my plain1")
  k_with "call ref" => (
      (with_reducible show wpAny _ _ (call (Value.ref 124) _) _ _ _)
      k_dflt (refine' Does.val (held_does (o := ?o) ?p1 ?p2) ?k1 ?k2 ?k3 ?k4 ?k5 ?k6 ?k7 ?k8 ?k9 ?_; k_extra "my sides"; (case p1 => k_mem); (case p2 => k_mem); (case o => exact none))
      k_extra "my plain")
  k_with "call ref" => (
      (with_reducible show wpAny _ _ (call (Value.ref 131) _) _ _ _)
      k_dflt (refine' Does.here (take_any (o := ?o) ?p1 ?p2 ?p3) ?k1 ?k2 ?k3 ?k4 ?k5 ?k6 ?k7 ?k8 ?k9 ?_; k_extra "my sides"; (case p1 => k_mem); (case p2 => k_mem); (case p3 => assumption); (case o => exact none))
      (intro v9ω news9ω h9ω tk9ω F9ω N9ω r9ω)
      (obtain ⟨e9ω, tp9ω, tc9ω, m9ω, s9ω⟩ := r9ω)
      (subst e9ω)
      (try dsimp only)
      (try k_fold))
  k_with "my room" => first | ((try dsimp only [Around.deeper, Around.mark, Around.in1]); k_extra "my roomx") | ((try simp only [depth_deeper, units_deeper]); (try dsimp only [callerA, claimMargin, recursionLimit, cLine]); first | omega | decide) | (with_unfolding_all decide)
  k_with "call ref" => (
      (with_reducible show wpAny _ _ (call (Value.ref 257) _) _ _ _)
      k_dflt (refine' Does.here kindsA ?k1 ?k2 ?k3 ?k4 ?k5 ?k6 ?k7 ?k8 ?k9 ?_; k_extra "my sides")
      (intro v9ω news9ω h9ω tk9ω F9ω N9ω r9ω)
      (obtain ⟨l9ω, rs9ω, nn9ω, e9ω, len9ω, f9ω, l1ω⟩ := r9ω)
      (subst e9ω)
      (subst f9ω)
      (try dsimp only)
      (try k_lt l1ω)
      (try k_sweep)
      (try k_fold))
  k_with "call ref" => (
      (with_reducible show wpAny _ _ (call (Value.ref 264) _) _ _ _)
      k_dflt (refine' Does.here hangA ?k1 ?k2 ?k3 ?k4 ?k5 ?k6 ?k7 ?k8 ?k9 ?_; k_extra "my sides")
      (intro v9ω news9ω h9ω tk9ω F9ω N9ω r9ω)
      (obtain ⟨l9ω, rs9ω, nn9ω, e9ω, len9ω, f9ω, l1ω⟩ := r9ω)
      (subst e9ω)
      (subst f9ω)
      (try dsimp only)
      (try k_lt l1ω)
      (try k_sweep)
      (try k_fold))
  k_with "call builtin:len" => (k_here; (with_reducible show wpAny _ _ (call (Value.builtin "len") [Value.ref _]) _ _ _); k_dflt (refine' len_fix ?k1 ?k2 ?k3 ?k4 ?_; (case k1 => k_asm); (case k2 => k_mem); (case k3 => assumption); (case k4 => decide)); k_whole)
  k_with "call builtin:len" => (k_here; (with_reducible show wpAny _ _ (call (Value.builtin "len") [Value.ref _]) _ _ _); (rename News _ _ _ _ => lN'ω); k_dflt (refine' len_drop lN'ω ?k3 ?k4 ?_; (case k3 => assumption); (case k4 => decide)); k_whole; intro N9ω; clear lN'ω)
  k_with "call ref" => (
      (with_reducible show wpAny _ _ (call (Value.ref 276) _) _ _ _)
      k_dflt (refine' Does.here (draw_upd ?p0 ?p1 ?p2 ?U1 ?U2 ?p3 ?p4 ?p5) ?k1 ?k2 ?k3 ?k4 ?k5 ?k6 ?k7 ?k8 ?k9 ?_; k_extra "my sides"; (case U1 => k_updF); (case p0 => first | exact DeckI.fa (by assumption) | exact ⟨_, by assumption⟩); (case U2 => (intro oω; (try dsimp only); k_updF)); (case p1 => k_extra "my deck"); (case p2 => assumption); (case p3 => k_ne); (case p4 => omega); (case p5 => omega))
      (intro v9ω news9ω h9ω tk9ω F9ω N9ω r9ω)
      (obtain ⟨⟨k9ω, u9ω, e9ω, b9ω, c9ω⟩, od9ω, m9ω, ws9ω, ls9ω, nn9ω, D9ω, f9ω⟩ := r9ω)
      (subst e9ω)
      (subst f9ω)
      (try dsimp only at N9ω)
      (try dsimp only)
      (try k_sweep)
      (try k_fold))
  k_with "call ref" => (
      (with_reducible show wpAny _ _ (call (Value.ref 283) _) _ _ _)
      k_dflt (refine' Does.val1 (codeA ?p1 ?p2 ?p3 ?p4) ?k1 ?k2 ?k3 ?k4 ?k5 ?k6 ?k7 ?k8 ?k9 ?_; k_extra "my sides"; (case p1 => omega); (case p2 => omega); (case p3 => omega); (case p4 => omega))
      k_extra "my plain1")
  k_with "exec If" => k_extra "my if"
  k_with "call builtin:list.append" => k_extra "my app"
  k_with "subscriptTail Call Name nil nil BinOp ref int" => k_extra "my item"
  k_with "subscriptTail Call Name nil nil Name ref int" => k_extra "my item"
  k_with "MPostL" => dsimp only [MPostL, KswPost]
  k_with "subscriptTail Name UnaryOp ref int" => (k_here; (with_reducible show wpAny _ _ (subscriptTail _ _ (Value.ref _) (Value.int _ _)) _ _ _); k_dflt (refine' m_last ?N ?m ?_ ?hs ?hg; (case N => k_asm); (case m => k_mem); (case hs => with_unfolding_all rfl); (case hg => (intro _; with_unfolding_all rfl))))
  k_with "call ref" => (
      (with_reducible show wpAny _ _ (call (Value.ref 325) _) _ _ _)
      k_dflt (refine' Does.val1 (end_does ?p1 ?p2 ?p3 ?p4) ?k1 ?k2 ?k3 ?k4 ?k5 ?k6 ?k7 ?k8 ?k9 ?_; k_extra "my sides"; (case p1 => first | assumption | exact RowAt.mono (by assumption) (by k_extra "my inc")); (case p2 => omega); (case p3 => omega); (case p4 => omega))
      k_extra "my plain1")
  k_with "call ref" => (
      (with_reducible show wpAny _ _ (call (Value.ref 95) _) _ _ _)
      k_dflt (refine' Does.val (break_does ?p1 ?p2 ?p3 ?p4 ?p5 ?p6 ?p7) ?k1 ?k2 ?k3 ?k4 ?k5 ?k6 ?k7 ?k8 ?k9 ?_; k_extra "my sides"; (case p1 => k_extra "my db"); (case p2 => k_mem); (case p3 => assumption); (case p4 => omega); (case p5 => assumption); (case p6 => omega); (case p7 => omega))
      k_extra "my plain")
  trivial
section
section
variable {w : World} {h₀ base : Heap} {L fa : Addr} {cd : Value} {mean : ExcName → Option Value} {mg mb : Str → Option Value} {s : Shared} {E : Value → Shared → Prop} {Q : Flow → Shared → Prop} {u : Str → Option Value}
set_option maxRecDepth 100000 in
set_option maxHeartbeats 4000000 in
/-- the stream is made -/
theorem stmt8 {dat : Addr} {leg : Bool} {o2 oL oS : Obj} {R : List (Addr × Obj)}
    (B : Below callerA base [] h₀) (X : (Mine.hd.heap_1 w.params).In h₀) (T : Top Mine.seen1 (looseW Mine.seen1 [Str.ofString "SYLLABLES", Str.ofString "cluster_break"]) mean mg mb h₀)
    (F : Fr h₀ L s.heap u) (N : News h₀ L s.heap ((L + 1 + 1 + 1 + 1 + 1, oS) :: R)) (ap : ∀ p ∈ R, p.1 ≠ L + 1 + 1 + 1 + 1 + 1)
    (c2 : (L + 1 + 1, o2) ∈ R) (d2 : o2.data = .cell (some (.ref dat))) (cl : (L + 1 + 1 + 1, oL) ∈ R) (dl : oL.data = .cell (some (.bool leg))) (ds : oS.data = .cell none)
    (next : ∀ sx dx h1 h2 h3 h4 h5 h6 t1 t2 t3 t4 t5 t6 tp tc o5 h tk, o5.data = .cell (some (.ref sx)) → Fr h₀ L h u → News h₀ L h ((sx, instObj 134 dx) :: (dx, stD h1 h2 h3 h4 h5 h6 t1 t2 t3 t4 t5 t6 dat leg .none false 0 tp 0 tc) :: (L + 1 + 1 + 1 + 1 + 1, o5) :: R) →
      (∀ p ∈ R, p.1 ≠ dx) → sx ≠ dx → dx ≠ L + 1 + 1 + 1 + 1 + 1 → Q .next { s with heap := h, toks := tk }) :
    wpAny (model Pg w) (callerA.deeper (lawEnv L fa cd)) (exec cut8.1.1 (lawEnv L fa cd)) Q E s := by
  unfold Pg
  revert X
  k_fill
  intro X
  unfold lawEnv cut8 cut7 cut6 cut5 cut4 lawParts
  dsimp only
  try k_fold
  k_steps
  refine' next _ _ _ _ _ _ _ _ _ _ _ _ _ _ _ _ _ _ _ ?d ?F ?N ?a ?b ?c
  case d => assumption
  case N => k_asm
  case F => k_asm
  case a => k_all
  case b => k_ne
  case c => k_ne
end


end
section
section
variable {w : World} {h₀ base : Heap} {L fa : Addr} {cd : Value} {mean : ExcName → Option Value} {mg mb : Str → Option Value} {s : Shared} {E : Value → Shared → Prop} {Q : Flow → Shared → Prop} {u : Str → Option Value}
set_option maxRecDepth 100000 in
set_option maxHeartbeats 4000000 in
/-- the empty text has no break -/
theorem stmt10 {dat : Addr} {o2 : Obj} {R : List (Addr × Obj)}
    (B : Below callerA base [] h₀) (X : (Mine.hd.heap_1 w.params).In h₀) (T : Top Mine.seen1 (looseW Mine.seen1 [Str.ofString "SYLLABLES", Str.ofString "cluster_break"]) mean mg mb h₀)
    (F : Fr h₀ L s.heap u) (N : News h₀ L s.heap R)
    (c2 : (L + 1 + 1, o2) ∈ R) (d2 : o2.data = .cell (some (.ref dat)))
    (next : ∀ R' h tk, Fr h₀ L h u → News h₀ L h R' → Q (.ret (.bool true)) { s with heap := h, toks := tk }) :
    wpAny (model Pg w) (callerA.deeper (lawEnv L fa cd)) (exec cut10.1.1 (lawEnv L fa cd)) Q E s := by
  have hnil : IntsAre [] [] := .nil
  unfold Pg
  revert X
  k_fill
  intro X
  unfold lawEnv cut10 cut9 cut8 cut7 cut6 cut5 cut4 lawParts
  dsimp only
  try k_fold
  k_steps
  exact next _ _ _ (by k_asm) (by k_asm)
end


end
section
section
variable {prog : Program} {w : World} {A : Around} {E : Value → Shared → Prop} {s : Shared} {h₀ : Heap} {L l : Addr} {m : Str → Option Value} {news : List (Addr × Obj)} {value slice : PySem.Expr} {vs : List Value} {Q : Value → Shared → Prop}
/-- all but the last -/
theorem m_slice_neg {u : Tok} {n : Nat} (F : Fr h₀ L s.heap m) (N : News h₀ L s.heap news) (hm : (l, listOf (List.toArray vs) n) ∈ news) (hz : vs.length ≤ 100000)
    (h : ∀ D h', Fr h₀ L h' m → News h₀ L h' ((D, listOf (List.toArray (vs.take (vs.length - 1))) 0) :: news) → (∀ p ∈ news, p.1 < D) → Q (.ref D) { s with heap := h' })
    (hs : subscripted slice false (.ref l) (.ref s.heap.objs.size) = operate [.ref s.heap.objs.size, .ref l] (getItem (.ref l) (.ref s.heap.objs.size))) (ht : ∀ r, letTemporaryGo value (.ref l) r = pure ()) :
    wpAny (model prog w) A (subscriptTail value slice (.ref l) (.ref s.heap.objs.size)) Q E { s with heap := s.heap.push { cls := .type "slice", data := .fields #[.none, .int (-1) u, .none] } } :=
  kms_slice_lit F N (News.isList N hm) IsPart.none (IsPart.int _ _) (by
    unfold kms_pick kms_lo kms_hi
    simp) h hs ht (by simp only [List.size_toArray, sizeLine_eq]; omega)
end
theorem due_take {n : Nat} {g : Nat → Bool} {dv : List Value} (e : dv = ((List.range (n + 1)).map g).map Value.bool) : dv.take (dv.length - 1) = ((List.range n).map g).map Value.bool := by
  subst e
  simp only [List.length_map, List.length_range, Nat.add_sub_cancel]
  rw [List.range_succ, List.map_append, List.map_append, List.take_left' (by simp)]
theorem words_tailp_1 : True := by
  k_with "subscriptTail Name Slice ref ref" => (k_here; (with_reducible show wpAny _ _ (subscriptTail _ (PySem.Expr.Slice _ _ none _) (Value.ref _) (Value.ref _)) _ _ _); k_dflt
      (refine' m_slice_neg ?F ?N ?l ?z ?_ ?s ?t; (case F => k_asm); (case N => k_asm); (case l => k_mem); (case z => omega); (case s => with_unfolding_all rfl); (case t => (intro _; with_unfolding_all rfl))); k_whole; intro D'ω h'ω F'ω N'ω l1ω)
  trivial
theorem words_tailp_2 : True := by
  k_with "compareOp NotEq ref ref" => refine Stop.at ?_
  trivial
theorem words_tailp_3 : True := by
  k_with "call ref" => (
      (with_reducible show wpAny _ _ (call (Value.ref 117) _) _ _ _)
      k_dflt (refine' Does.here (sput_does ?p1 ?p2 ?p3 ?p4 ?p5 ?p6) ?k1 ?k2 ?k3 ?k4 ?k5 ?k6 ?k7 ?k8 ?k9 ?_; k_extra "my sides"; (case p1 => k_mem); (case p2 => k_mem); (case p3 => assumption); (case p4 => k_extra "my db"); (case p5 => assumption); (case p6 => assumption))
      (intro v9ω news9ω h9ω tk9ω F9ω N9ω r9ω)
      (obtain ⟨e9ω, m9ω, s9ω⟩ := r9ω)
      (subst e9ω)
      (try dsimp only)
      (try k_fold))
  trivial
section
variable {w : World} {h₀ base : Heap} {L fa : Addr} {cd : Value} {mean : ExcName → Option Value} {mg mb : Str → Option Value} {s : Shared} {E : Value → Shared → Prop} {Q : Flow → Shared → Prop} {u : Str → Option Value}
set_option maxRecDepth 100000 in
set_option maxHeartbeats 4000000 in
/-- sign by sign through the stream -/
theorem stmt9 {tx rw dat D sx dx : Addr} {h1 h2 h3 h4 h5 h6 : Int} {t1 t2 t3 t4 t5 t6 tp tc : Tok} {dv : List Value} {nd : Nat} {codes : List Int} {cells : List Cell} {leg : Bool} {o5 : Obj} {R : List (Addr × Obj)}
    (B : Below callerA base [] h₀) (X : (Mine.hd.heap_1 w.params).In h₀) (T : Top Mine.seen1 (looseW Mine.seen1 [Str.ofString "SYLLABLES", Str.ofString "cluster_break"]) mean mg mb h₀)
    (F : Fr h₀ L s.heap (kstB u [(Str.ofString "due", .ref D)])) (N : News h₀ L s.heap ((dx, stD h1 h2 h3 h4 h5 h6 t1 t2 t3 t4 t5 t6 dat leg .none false 0 tp 0 tc) :: R)) (hb : Base w R L tx rw dat codes cells) (ap : ∀ p ∈ R, p.1 ≠ dx)
    (c5 : (L + 1 + 1 + 1 + 1 + 1, o5) ∈ R) (d5 : o5.data = .cell (some (.ref sx))) (mi : (sx, instObj 134 dx) ∈ R) (md : (D, listOf (List.toArray dv) nd) ∈ R) (ed : dv = ((List.range (cells.length + 1)).map fun i => breakF cells i leg).map Value.bool)
    (next : ∀ R' h tk, Fr h₀ L h (kstB u [(Str.ofString "due", .ref D)]) → News h₀ L h R' → (∀ p ∈ R, p ∈ R') → Q .next { s with heap := h, toks := tk }) :
    wpAny (model Pg w) (callerA.deeper (lawEnv L fa cd)) (exec cut9.1.1 (lawEnv L fa cd)) Q E s := by
  obtain ⟨txs, kx, mx, ix⟩ := hb.txt
  obtain ⟨o1, c1, d1⟩ := hb.ctx
  obtain ⟨G, I, P, db, hC⟩ := hb.db
  have hok := hb.ok
  have htk := hb.take
  have hlo := hb.lo
  have hhi := hb.hi
  have hcl := hb.len
  have hl : txs.length = cells.length := by rw [ix.length, hb.len]
  have hsz : txs.toArray.size = cells.length := by simpa using hl
  have hdl : dv.length = cells.length + 1 := by subst ed; simp
  clear hb
  have F0 := F
  dsimp only [kstB] at F
  unfold Pg
  revert X
  k_fill
  intro X
  unfold lawEnv cut9 cut8 cut7 cut6 cut5 cut4 lawParts
  dsimp only
  try k_fold
  refine wpAny_If (wpAny_isTrue_Compare1 ?_)
  refine LCg.ListComp_U (F₀ := F0) (by with_unfolding_all rfl) (by decide) (by rfl) (by decide) (by rfl) ?_
  refine wpAny_mono (Q := fun v s₁ => ∃ tk, v = .ref tx ∧ s₁ = { s with toks := tk }) ?r ?c fun _ _ e => e
  case r =>
    k_steps
  case c =>
    rintro v s₁ ⟨tk, rfl, rfl⟩
    refine LCg.CompSrc.ledger rfl F0 N (List.Mem.tail _ mx) (by rw [hsz, sizeLine_eq]; omega) fun g => ?_
    refine state_rest (σ := Nat × Value × Tok × Tok) (fun i => breakF cells i leg) (fun i => codes.getD i 0) (fun i a => a.1 = i ∧ strV (stS cells i).kind a.2.1)
      (fun a => (dx, stD h1 h2 h3 h4 h5 h6 t1 t2 t3 t4 t5 t6 dat leg a.2.1 (stS cells a.1).odd ((stS cells a.1).pic : Nat) a.2.2.1 ((stS cells a.1).con : Nat) a.2.2.2) :: R) ?hP ?turn ?fin (a₀ := ⟨0, .none, tp, tc⟩) ⟨rfl, rfl⟩
    case hP =>
      intro i v hi hv
      obtain ⟨k, t, e, hk⟩ := IntsAre.at ix i v (by simpa using hv)
      exact ⟨t, by rw [e]; simp [List.getD, hk]⟩
    case turn =>
      clear next F0 F N
      rintro i ⟨j, kv, tp, tc⟩ t I' oI C' oC D' m₂ ys h tk E' hi ⟨rfl, hk⟩ hC' hx F1 N1 off ne
      rw [hsz] at hi
      dsimp only at hk hx N1 off hi
      have hcell := hC.at' j (by omega)
      have htake := htk j hi
      have offm := off.mem
      k_steps
      (rename (∃ tk' tp' tc', (_, stD _ _ _ _ _ _ _ _ _ _ _ _ _ _ _ _ _ _ _ _) ∈ _) => m9)
      (rename (∀ p, p ∈ _ :: _ :: _ :: _ → _ → p ∈ _) => s9)
      obtain ⟨tk', tp', tc', m9⟩ := m9
      have oD := offm _ (List.Mem.head _)
      refine LCg.CompEnd.intro (by k_asm) (by k_asm) ((dx, stD h1 h2 h3 h4 h5 h6 t1 t2 t3 t4 t5 t6 dat leg (.str (cells.getD j c0).k tk') (stS cells (j + 1)).odd ((stS cells (j + 1)).pic : Nat) tp' ((stS cells (j + 1)).con : Nat) tc') :: R) ?sub ?off ?src
        ⟨⟨j + 1, _, tp', tc'⟩, ⟨rfl, ⟨_, rfl⟩⟩, rfl, by rw [break_out hok hi]⟩
      case sub =>
        intro p hp
        rcases List.mem_cons.mp hp with rfl | hp
        · exact s9 _ (List.Mem.head _) (Ne.symm oD.1)
        · rcases List.mem_cons.mp hp with rfl | hp
          · exact s9 _ (List.Mem.tail _ (List.Mem.head _)) (Ne.symm oD.2.1)
          · rcases List.mem_cons.mp hp with rfl | hp
            · exact s9 _ (List.Mem.tail _ (List.Mem.tail _ (List.Mem.head _))) (Ne.symm oD.2.2)
            · rcases List.mem_cons.mp hp with rfl | hp
              · exact m9
              · exact s9 _ (List.Mem.tail _ (List.Mem.tail _ (List.Mem.tail _ (List.Mem.tail _ hp)))) (ap _ hp)
      case off =>
        refine LCg.Off3.of fun p hp => ?_
        rcases List.mem_cons.mp hp with rfl | hp
        · exact oD
        · exact offm _ (List.Mem.tail _ hp)
      case src => exact .inr ⟨_, List.Mem.tail _ mx, rfl, _, rfl⟩
    case fin =>
      rintro ⟨j, kv, tp, tc⟩ ⟨e, hk⟩ D' h tk F1 N1 off
      dsimp only at N1 off
      rw [hsz, bools_map] at N1
      have F3 := F1
      dsimp only [kstB] at F3
      k_steps
      unfold Stop
      (rename News _ _ _ _ => N9)
      refine ne_bools N9 (List.Mem.tail _ (List.Mem.head _)) (List.Mem.head _) rfl (due_take ed) (by k_extra "my room") ?_
      k_steps
      exact next _ _ _ (by k_asm) N9 (fun p hp => List.Mem.tail _ (List.Mem.tail _ (List.Mem.tail _ hp)))
end


end
theorem fresh_tail4 : True := by
  k_with_none
  w_top off
  k_with "is_list" => exact News.isList (by k_asm) (by k_mem)
  k_with "exec While Compare cons nil" => k_extra "my while"
  k_with "exec While BoolOp cons nil" => k_extra "my while"
  k_with "exec While Constant cons nil" => k_extra "my whileT"
  k_with "MPost" => with_reducible first | refine MPost.next ?_ | refine MPost.ret ?_ | refine MPost.brk ?_ | refine MPost.cont ?_
  k_with "seqQ" => with_reducible first | refine seqQ.next ?_ | refine seqQ.ret ?_ | refine seqQ.brk ?_ | refine seqQ.cont ?_
  k_with "my enter" => (
      refine' enter ?k6 ?k7 ?k9 ?kB ?kN ?kU ?c2 ?c3 ?c4 ?c5 ?_
      case k6 => k_is
      case k7 => k_is
      case k9 => first | exact fun _ _ => BindsTo.of_eq rfl | (intro s9ω X9ω; exact binds_K X9ω rfl (by k_is) rfl rfl rfl)
      case kB => exact locs rfl
      case kN => exact rfl
      case kU => exact rfl
      case c2 => exact rfl
      case c3 => exact rfl
      case c4 => exact rfl
      case c5 => decide
      intro dpω unω gdω outerω A₀ω baseω gω h₁ω Lω gnω drω osω tkω meanω mgω mbω Eω Bω Xω Tω hdω huω eω Aω mω hEω Fω Nω)
  k_with "my ret" => (
      first
        | refine Post.ret (by k_asm) ?kN9 ⟨rfl, ?_⟩
        | refine Post.next (by k_asm) ?kN9 ⟨rfl, ?_⟩
      case kN9 => first | k_asm | exact kst_newsOf (by assumption) (by kst_inAny)
      k_extra "my clean")
  k_with "my clean" => ((repeat (rename Fr _ _ _ _ => z9ω; clear z9ω)); (repeat (rename News _ _ _ _ => z9ω; clear z9ω)); (try clear hEω Bω Xω Tω hdω huω))
  k_with "my roomx" => first | exact room_c (by assumption) rfl | exact room_b (by assumption) rfl | exact room_a (by assumption) | exact room_d (by assumption) rfl | exact room_e (by assumption) rfl | exact Nat.le_of_ble_eq_true rfl | omega
  k_with "my room" => ((try dsimp (config := { zetaDelta := true }) only [Around.deeper, Around.mark, Around.in1]); k_extra "my roomx")
  k_with "my sides" => (
      (case k1 => k_asm)
      (case k2 => k_asm)
      (case k3 => k_asm)
      (case k4 => k_asm)
      (case k5 => k_asm)
      (case k6 => exact rfl)
      (case k7 => exact rfl)
      (case k8 => k_extra "my room")
      (case k9 => k_extra "my room"))
  k_with "compareOp In str ref" => (k_here; (with_reducible show wpAny _ _ (compareOp CmpOp.In (Value.str _ _) (Value.ref _)) _ _ _); (with_unfolding_all refine' in_tuple_strs ?k1 ?k2 ?_; (case k1 => first | exact kun_topT (by k_asm) (by k_asm) (by k_is) | exact News.isTup (by k_asm) (by k_mem)); (case k2 => kde_strs); k_whole))
  k_with "compareOp NotIn str ref" => (k_here; (with_reducible show wpAny _ _ (compareOp CmpOp.NotIn (Value.str _ _) (Value.ref _)) _ _ _); (with_unfolding_all refine' notin_tuple_strs ?k1 ?k2 ?_; (case k1 => first | exact kun_topT (by k_asm) (by k_asm) (by k_is) | exact News.isTup (by k_asm) (by k_mem)); (case k2 => kde_strs); k_whole))
  k_with "my plain" => ((intro h9ω tk9ω F9ω N9ω); (try k_sweep))
  k_with "subscriptTail" => k_extra "my item"
  k_with "compareOp In str ref" => k_extra "my in"
  k_with "my plain1" => ((intro u9ω h9ω tk9ω F9ω N9ω); (try k_sweep))
  k_with "compareOp NotEq ref ref" => (k_here; (with_reducible show wpAny _ _ (compareOp CmpOp.NotEq (Value.ref _) (Value.ref _)) _ _ _); (with_unfolding_all refine' ne_intsK ?k1 ?k2 ?k3 ?k4 ?k5 ?_; (case k1 => is_list); (case k2 => l_ints); (case k3 => is_list); (case k4 => l_ints); (case k5 => k_extra "my room"); k_whole))
  k_with "my mem" => first | ktr_member | exact List.Mem.head _ | (refine List.mem_cons_of_mem _ ?_; k_extra "my mem")
  k_with "k_mem" => k_extra "my mem"
  k_with "compareOp NotIn str ref" => k_extra "my notin"
  k_with "call builtin:dict.get" => k_extra "my get"
  k_with "getMethod ref" => k_extra "my getm"
  k_with "setItem ref str" => k_extra "my set"
  k_with "k_room" => ((try dsimp (config := { zetaDelta := true }) only); (try simp only [depth_under_make, depth_under_kw, depth_in1, depth_deeper, depth_caller]); (try dsimp only); k_extra "my roomx")
  k_with "getItem ref str" => k_extra "my gitem"
  k_with "pyIter ref" => k_extra "my for"
  k_with "k_qdec" => decide +kernel
  k_with "my lt" => with_reducible (first | assumption | exact And.left (by assumption) | exact And.left (And.right (by assumption)) | exact And.left (And.right (And.right (by assumption))) | exact And.left (And.right (And.right (And.right (by assumption)))) | exact And.left (And.right (And.right (And.right (And.right (by assumption))))) | exact And.left (And.right (And.right (And.right (And.right (And.right (by assumption)))))) | exact And.left (And.right (And.right (And.right (And.right (And.right (And.right (by assumption))))))) | exact And.left (And.right (And.right (And.right (And.right (And.right (And.right (And.right (by assumption)))))))) | exact And.left (And.right (And.right (And.right (And.right (And.right (And.right (And.right (And.right (by assumption))))))))) | exact And.left (And.right (And.right (And.right (And.right (And.right (And.right (And.right (And.right (And.right (by assumption)))))))))))
  k_with "k_ne" => first | with_reducible assumption | with_reducible exact Ne.symm (by assumption) | (refine Nat.ne_of_lt ?_; k_extra "my lt") | (refine Nat.ne_of_gt ?_; k_extra "my lt") | (refine Nat.ne_of_gt ?_; (repeat (first | exact Nat.lt_succ_self _ | refine Nat.lt_succ_of_lt ?_)); done) | (refine Nat.ne_of_lt ?_; (repeat (first | exact Nat.lt_succ_self _ | refine Nat.lt_succ_of_lt ?_)); done) | (refine neN ?_; (try dsimp only); omega)
  k_with "l_idx" => first | assumption | exact idx_a (by assumption) (by assumption) | exact idx_b (by assumption) | exact idx_c (by assumption) (by assumption)
  k_with "JPost" => with_reducible first | refine JPost.next ?_ | refine JPost.ret ?_ | refine JPost.brk ?_ | refine JPost.cont ?_
  k_with "storeName" => (k_here; k_dflt (refine' storeX_M ?F ?N ?_ ?a ?b; (case F => k_asm); (case N => k_asm); (case a => rfl); (case b => rfl); k_whole); (intro h'ω tk'ω m'ω F'ω N'ω); (try k_sweep))
  k_with "ksw skip" => repeat (first | (refine' ite_skip ?hx ?_; (case hx => first | exact ne_stored (by assumption) rfl | exact h2ω _ (List.Mem.head _) | exact h2ω _ (List.Mem.tail _ (List.Mem.head _)) | exact h2ω _ (List.Mem.tail _ (List.Mem.tail _ (List.Mem.head _))))) | refine ite_skip2 (by assumption) ?_)
  k_with "ksw_same" => (
      intro zω h2ω h3ω
      first
        | rfl
        | (k_extra "ksw skip"; first | rfl | (refine Eq.symm ?_; k_extra "ksw skip"; rfl))
        | ((simp only [List.forall_mem_cons, List.not_mem_nil, false_implies, implies_true, and_true, ne_eq] at h2ω); (simp (zetaDelta := true) [h2ω]; done))
        | ((simp only [List.forall_mem_cons, List.not_mem_nil, false_implies, implies_true, and_true, ne_eq] at h2ω); (simp only [List.contains_cons, List.contains_nil, Bool.or_false, Bool.or_eq_false_iff, beq_eq_false_iff_ne, ne_eq] at h3ω); (simp (zetaDelta := true) [h2ω, h3ω]; done)))
  k_with "execs cons" => (k_here; (first | (refine' norm_M (gn := gnω) (dr := drω) (os := osω) ?F9 ?e9 ?_; (case F9 => k_asm); (case e9 => exact rfl); intro tk9ω) | ((try dsimp only); (try k_gentoks))); first | (with_reducible refine' execs_one ?_) | ((with_reducible refine' execs_let ?_); intro kkω))
  k_with "my leaf" => with_reducible first | show Post _ _ _ _ _ _ _ _ | show JOut _ _ _ _ _ _ _ _ _ | show MEnd _ _ _ _ _ _ _ _ _ _ _ _ _ | show MOut _ _ _ _ _ _ _ _ _ _ _
  k_with "k_steps" => repeat' (first | k_unfold | ((fail_if_success k_extra "my leaf"); first | walk1 | (dsimp only; walk1)) | (leave1; walk_say "STEP leave1"; (try dsimp only)) | fail "no step")
  k_with "my cond" => simp only [true_and, and_true, false_and, and_false, true_or, or_true, false_or, or_false, if_true, if_false, Bool.false_eq_true, Bool.true_eq_false, reduceCtorEq, and_self, or_self, not_true_eq_false, not_false_eq_true]
  k_with "eval Constant int" => (k_here; (with_reducible refine int_M ?_); intro t9ω tk9ω)
  k_with "eval Constant str" => (k_here; (with_reducible refine str_M ?_); intro t9ω tk9ω)
  k_with "binaryOp Add int int" => (k_here; (with_reducible refine add_M ?_); intro t9ω tk9ω)
  k_with "binaryOp Sub int int" => (k_here; (with_reducible refine sub_M ?_); intro t9ω tk9ω)
  k_with "call ref" => (
      (with_reducible show wpAny _ _ (call (Value.ref 145) _) _ _ _)
      k_dflt (refine' Does.val1 (place_does ?p1 ?p2 ?p3) ?k1 ?k2 ?k3 ?k4 ?k5 ?k6 ?k7 ?k8 ?k9 ?_; k_extra "my sides"; (case p1 => k_mem); (case p2 => assumption); (case p3 => first | assumption | omega))
      k_extra "my plain1")
  k_with "call ref" => (
      (with_reducible show wpAny _ _ (call (Value.ref 28) _) _ _ _)
      k_dflt (refine' Does.val syllable_does ?k1 ?k2 ?k3 ?k4 ?k5 ?k6 ?k7 ?k8 ?k9 ?_; k_extra "my sides")
      k_extra "my plain")
  k_with "call ref" => (
      (with_reducible show wpAny _ _ (call (Value.ref 52) _) _ _ _)
      k_dflt (refine' Does.val joins_does ?k1 ?k2 ?k3 ?k4 ?k5 ?k6 ?k7 ?k8 ?k9 ?_; k_extra "my sides")
      k_extra "my plain")
  k_with "call ref" => (
      (with_reducible show wpAny _ _ (call (Value.ref 59) _) _ _ _)
      k_dflt (first
        | (refine' Does.val (pairS_does ?p1) ?k1 ?k2 ?k3 ?k4 ?k5 ?k6 ?k7 ?k8 ?k9 ?_; (case p1 => assumption); k_extra "my sides")
        | (refine' Does.val (pairN_does ?p1) ?k1 ?k2 ?k3 ?k4 ?k5 ?k6 ?k7 ?k8 ?k9 ?_; (case p1 => assumption); k_extra "my sides"))
      k_extra "my plain")
  k_with "call ref" => (
      (with_reducible show wpAny _ _ (call (Value.ref 173) _) _ _ _)
      k_dflt (refine' Does.val (rget_does' (by assumption) (by assumption)) ?k1 ?k2 ?k3 ?k4 ?k5 ?k6 ?k7 ?k8 ?k9 ?_; k_extra "my sides")
      k_extra "my plain")
  k_with "my cell" => first | assumption | exact Cells.at' (by assumption) _ (by omega)
  k_with "call ref" => (
      (with_reducible show wpAny _ _ (call (Value.ref 236) _) _ _ _)
      k_dflt (first
       | ((with_reducible show wpAny _ _ (call _ [_, Value.str (Str.ofString "gcb") _, _]) _ _ _); refine' Does.val (dgetG_does ?p1 ?p2) ?k1 ?k2 ?k3 ?k4 ?k5 ?k6 ?k7 ?k8 ?k9 ?_; k_extra "my sides"; (case p1 => assumption); (case p2 => assumption); k_extra "my plain")
       | ((with_reducible show wpAny _ _ (call _ [_, Value.str (Str.ofString "incb") _, _]) _ _ _); refine' Does.val1 (dgetI_does ?p1 ?p2) ?k1 ?k2 ?k3 ?k4 ?k5 ?k6 ?k7 ?k8 ?k9 ?_; k_extra "my sides"; (case p1 => assumption); (case p2 => k_extra "my cell"); k_extra "my plain1")
       | ((with_reducible show wpAny _ _ (call _ [_, Value.str (Str.ofString "ep") _, _]) _ _ _); refine' Does.val (dgetP_does ?p1 ?p2) ?k1 ?k2 ?k3 ?k4 ?k5 ?k6 ?k7 ?k8 ?k9 ?_; k_extra "my sides"; (case p1 => assumption); (case p2 => k_extra "my cell"); k_extra "my plain")))
  k_with "call ref" => (
      (with_reducible show wpAny _ _ (call (Value.ref 35) _) _ _ _)
      k_dflt (first
        | (refine' Does.val1 (kindHs_does ?p1) ?k1 ?k2 ?k3 ?k4 ?k5 ?k6 ?k7 ?k8 ?k9 ?_; (case p1 => assumption); k_extra "my sides"; k_extra "my plain1")
        | (refine' Does.val (kindHn_does ?p1) ?k1 ?k2 ?k3 ?k4 ?k5 ?k6 ?k7 ?k8 ?k9 ?_; (case p1 => assumption); k_extra "my sides"; k_extra "my plain")))
  k_with "call ref" => (
      (with_reducible show wpAny _ _ (call (Value.ref 45) _) _ _ _)
      k_dflt (refine' Does.val1 (kind_does ?p1 ?p2) ?k1 ?k2 ?k3 ?k4 ?k5 ?k6 ?k7 ?k8 ?k9 ?_; k_extra "my sides"; (case p1 => assumption); (case p2 => k_extra "my cell"))
      k_extra "my plain1")
  k_with "call ref" => (
      (with_reducible show wpAny _ _ (call (Value.ref 66) _) _ _ _)
      k_dflt (refine' Does.val (conj_does ?p1 ?p2 ?p3 ?p4 ?p5 ?p6 ?p7) ?k1 ?k2 ?k3 ?k4 ?k5 ?k6 ?k7 ?k8 ?k9 ?_; k_extra "my sides"; (case p1 => assumption); (case p2 => k_mem); (case p3 => assumption); (case p4 => omega); (case p5 => assumption); (case p6 => omega); (case p7 => omega))
      k_extra "my plain")
  k_with "call ref" => (
      (with_reducible show wpAny _ _ (call (Value.ref 73) _) _ _ _)
      k_dflt (refine' Does.val (pict_does ?p1 ?p2 ?p3 ?p4 ?p5 ?p6 ?p7) ?k1 ?k2 ?k3 ?k4 ?k5 ?k6 ?k7 ?k8 ?k9 ?_; k_extra "my sides"; (case p1 => assumption); (case p2 => k_mem); (case p3 => assumption); (case p4 => omega); (case p5 => assumption); (case p6 => omega); (case p7 => omega))
      k_extra "my plain")
  k_with "call ref" => (
      (with_reducible show wpAny _ _ (call (Value.ref 80) _) _ _ _)
      k_dflt (refine' Does.val1 (flags_does ?p1 ?p2 ?p3 ?p4 ?p5 ?p6 ?p7) ?k1 ?k2 ?k3 ?k4 ?k5 ?k6 ?k7 ?k8 ?k9 ?_; k_extra "my sides"; (case p1 => assumption); (case p2 => k_mem); (case p3 => assumption); (case p4 => omega); (case p5 => assumption); (case p6 => omega); (case p7 => omega))
      k_extra "my plain1")
  k_with "call ref" => (
      (with_reducible show wpAny _ _ (call (Value.ref 87) _) _ _ _)
      k_dflt (refine' Does.val (flag_does ?p1 ?p2 ?p3 ?p4 ?p5 ?p6 ?p7) ?k1 ?k2 ?k3 ?k4 ?k5 ?k6 ?k7 ?k8 ?k9 ?_; k_extra "my sides"; (case p1 => assumption); (case p2 => k_mem); (case p3 => assumption); (case p4 => omega); (case p5 => assumption); (case p6 => omega); (case p7 => omega))
      k_extra "my plain")
  k_with "call ref" => (
      (with_reducible show wpAny _ _ (call (Value.ref 95) _) _ _ _)
      k_dflt (refine' Does.val (break_does ?p1 ?p2 ?p3 ?p4 ?p5 ?p6 ?p7) ?k1 ?k2 ?k3 ?k4 ?k5 ?k6 ?k7 ?k8 ?k9 ?_; k_extra "my sides"; (case p1 => assumption); (case p2 => k_mem); (case p3 => assumption); (case p4 => omega); (case p5 => assumption); (case p6 => omega); (case p7 => omega))
      k_extra "my plain")
  k_with "my inc" => first | exact fun _ h => h | exact kst_inSelf | kst_inAny
  k_with "call builtin:len" => (k_here; (with_reducible show wpAny _ _ (call (Value.builtin "len") [Value.ref _]) _ _ _); k_dflt (refine' row_len ?k1 ?k2 ?k3 ?k4 ?_; (case k1 => k_asm); (case k2 => assumption); (case k3 => k_extra "my inc"); (case k4 => omega)); k_whole)
  k_with "subscriptTail Name Name ref int" => k_extra "my row"
  k_with "subscriptTail Name BinOp ref int" => k_extra "my row"
  k_with "my row" => (k_here; (with_reducible show wpAny _ _ (subscriptTail _ _ (Value.ref _) (Value.int _ _)) _ _ _); k_dflt (refine' row_item ?k1 ?k2 ?k3 ?k4 ?k5 ?k6 ?_ ?k8 ?k9; (case k1 => k_asm); (case k2 => assumption); (case k3 => k_extra "my inc"); (case k8 => with_unfolding_all rfl); (case k9 => (intro _; with_unfolding_all rfl)); (case k4 => omega); (case k5 => omega); (case k6 => omega)); k_whole; (intro a9ω t8ω t9ω n9ω hm9ω))
  k_with "call ref" => (
      (with_reducible show wpAny _ _ (call (Value.ref 297) _) _ _ _)
      k_dflt (refine' Does.val1 (past_does ?p1 ?p2 ?p3 ?p4 ?p5) ?k1 ?k2 ?k3 ?k4 ?k5 ?k6 ?k7 ?k8 ?k9 ?_; k_extra "my sides"; (case p1 => first | assumption | exact RowAt.mono (by assumption) (by k_extra "my inc")); (case p2 => omega); (case p4 => k_mem); (case p5 => kde_strs); (case p3 => omega))
      k_extra "my plain1")
  k_with "my rowp" => first | assumption | exact RowAt.mono (by assumption) (by k_extra "my inc")
  k_with "call ref" => (
      (with_reducible show wpAny _ _ (call (Value.ref 304) _) _ _ _)
      k_dflt (refine' Does.val1 (syl_does ?p1 ?p2 ?p3 ?p4) ?k1 ?k2 ?k3 ?k4 ?k5 ?k6 ?k7 ?k8 ?k9 ?_; k_extra "my sides"; (case p1 => k_extra "my rowp"); (case p2 => omega); (case p3 => omega); (case p4 => omega))
      k_extra "my plain1")
  k_with "my plainR" => (
      (intro v9ω news9ω h9ω tk9ω F9ω N9ω r9ω)
      (obtain ⟨e9ω, t9ω, f9ω⟩ := r9ω)
      (subst f9ω)
      (subst e9ω)
      (try dsimp only)
      (try k_fold))
  k_with "call ref" => (
      (with_reducible show wpAny _ _ (call (Value.ref 311) _) _ _ _)
      k_dflt (refine' Does.val1 (pics_does ?p1 ?p2 ?p3 ?p4) ?k1 ?k2 ?k3 ?k4 ?k5 ?k6 ?k7 ?k8 ?k9 ?_; k_extra "my sides"; (case p1 => k_extra "my rowp"); (case p2 => omega); (case p3 => omega); (case p4 => omega))
      k_extra "my plain1")
  k_with "call ref" => (
      (with_reducible show wpAny _ _ (call (Value.ref 318) _) _ _ _)
      k_dflt (refine' Does.val1 (cons_does ?p1 ?p2 ?p3 ?p4) ?k1 ?k2 ?k3 ?k4 ?k5 ?k6 ?k7 ?k8 ?k9 ?_; k_extra "my sides"; (case p1 => k_extra "my rowp"); (case p2 => omega); (case p3 => omega); (case p4 => omega))
      k_extra "my plain1")
  k_with "my len" => ((try simp only [List.length_append, List.length_take, List.length_drop, List.length_cons, List.length_nil]); omega)
  k_with "subscriptTail Name Slice ref ref" => (k_here; (with_reducible show wpAny _ _ (subscriptTail _ (PySem.Expr.Slice _ _ none _) (Value.ref _) (Value.ref _)) _ _ _); k_dflt (first
      | (refine' m_slice_to ?F ?N ?l ?i ?z ?_ ?s ?t; (case F => k_asm); (case N => k_asm); (case l => k_mem); (case i => first | assumption | omega); (case z => k_extra "my len"); (case s => with_unfolding_all rfl); (case t => (intro _; with_unfolding_all rfl)))
      | (refine' m_slice_from ?F ?N ?l ?i ?z ?_ ?s ?t; (case F => k_asm); (case N => k_asm); (case l => k_mem); (case i => first | assumption | decide | omega); (case z => k_extra "my len"); (case s => with_unfolding_all rfl); (case t => (intro _; with_unfolding_all rfl)))); k_whole; intro D'ω h'ω F'ω N'ω l1ω; (try k_lt l1ω); (try k_sweep))
  k_with "binaryOp Add ref ref" => (k_here; k_dflt (refine' m_add ?F ?N ?l ?i ?z ?_; (case F => k_asm); (case N => k_asm); (case l => k_mem); (case i => k_mem); (case z => k_extra "my len")); k_whole; intro D'ω h'ω F'ω N'ω l1ω; (try k_lt l1ω); (try k_sweep))
  k_with "k_all" => first | assumption | exact allLt_ne (by first | assumption | exact And.right (by assumption) | exact And.right (And.right (by assumption)) | exact And.right (And.right (And.right (by assumption))))
  k_with "call ref" => (
      (with_reducible show wpAny _ _ (call (Value.ref 152) _) _ _ _)
      k_dflt (refine' Does.val (like_does ?p1) ?k1 ?k2 ?k3 ?k4 ?k5 ?k6 ?k7 ?k8 ?k9 ?_; (case p1 => assumption); k_extra "my sides")
      k_extra "my plain")
  k_with "subscriptTail Attribute Name Slice ref ref" => (refine kba_turn (value' := PySem.Expr.Name (PySem.Str.ofString "_") ⟨0, 0, 0, 0⟩) (fun _ => rfl) ?_)
  k_with "call ref" => (
      (with_reducible show wpAny _ _ (call (Value.ref 243) _) _ _ _)
      k_dflt (first
        | (refine' Does.val (mapof_old ?p1 ?p2) ?k1 ?k2 ?k3 ?k4 ?k5 ?k6 ?k7 ?k8 ?k9 ?_; (case p1 => assumption); (case p2 => assumption); k_extra "my sides"; k_extra "my plain")
        | (refine' Does.here (mapof_new ?p1 ?p2 ?p3 ?p4) ?k1 ?k2 ?k3 ?k4 ?k5 ?k6 ?k7 ?k8 ?k9 ?_; (case p1 => assumption); (case p2 => assumption); (case p3 => assumption); (case p4 => omega); k_extra "my sides"
           (intro v9ω news9ω h9ω tk9ω F9ω N9ω r9ω)
           (obtain ⟨a9ω, x9ω, e9ω, R9ω, D9ω, f9ω, s9ω⟩ := r9ω)
           (subst e9ω)
           (obtain ⟨g1ω, u1ω, v0ω, g2ω, u2ω, lsω, g3ω, u3ω, lvω, n1ω, n2ω⟩ := RD.inst R9ω)
           (try dsimp only)
           (try k_fold))))
  k_with "call ref" => (
      (with_reducible show wpAny _ _ (call (Value.ref 180) _) _ _ _)
      k_dflt (refine' Does.here (rput_does ?p1 ?p2 ?p3) ?k1 ?k2 ?k3 ?k4 ?k5 ?k6 ?k7 ?k8 ?k9 ?_; (case p1 => assumption); (case p2 => assumption); (case p3 => assumption); k_extra "my sides")
      (intro v9ω news9ω h9ω tk9ω F9ω N9ω r9ω)
      (obtain ⟨e9ω, R9ω, f9ω⟩ := r9ω)
      (subst e9ω)
      (try dsimp only)
      (try k_fold))
  k_with "call ref" => (
      (with_reducible show wpAny _ _ (call (Value.ref 208) _) _ _ _)
      k_dflt (refine' Does.here defs_does ?k1 ?k2 ?k3 ?k4 ?k5 ?k6 ?k7 ?k8 ?k9 ?_; k_extra "my sides")
      k_extra "my defd")
  k_with "call ref" => (
      (with_reducible show wpAny _ _ (call (Value.ref 257) _) _ _ _)
      k_dflt (refine' Does.here kinds_does ?k1 ?k2 ?k3 ?k4 ?k5 ?k6 ?k7 ?k8 ?k9 ?_; k_extra "my sides")
      (intro v9ω news9ω h9ω tk9ω F9ω N9ω r9ω)
      (obtain ⟨l9ω, e9ω, R9ω, s9ω, t9ω⟩ := r9ω)
      (subst e9ω)
      (try dsimp only)
      (try k_fold))
  k_with "call builtin:len" => (k_here; (with_reducible show wpAny _ _ (call (Value.builtin "len") [Value.ref _]) _ _ _); k_dflt (refine' kinds_len ?k1 ?k2 ?k3 ?_; (case k1 => k_asm); (case k2 => assumption); (case k3 => k_extra "my inc")); k_whole)
  k_with "call ref" => (
      (with_reducible show wpAny _ _ (call (Value.ref 264) _) _ _ _)
      k_dflt (refine' Does.here hang_does ?k1 ?k2 ?k3 ?k4 ?k5 ?k6 ?k7 ?k8 ?k9 ?_; k_extra "my sides")
      (intro v9ω news9ω h9ω tk9ω F9ω N9ω r9ω)
      (obtain ⟨l9ω, e9ω, R9ω, s9ω, t9ω⟩ := r9ω)
      (subst e9ω)
      (try dsimp only)
      (try k_fold))
  k_with "call ref" => (
      (with_reducible show wpAny _ _ (call (Value.ref 283) _) _ _ _)
      k_dflt (refine' Does.here (code_does ?p1 ?p2 ?p3 ?p4) ?k1 ?k2 ?k3 ?k4 ?k5 ?k6 ?k7 ?k8 ?k9 ?_; k_extra "my sides"; (case p1 => omega); (case p2 => omega); (case p3 => omega); (case p4 => omega))
      (intro v9ω news9ω h9ω tk9ω F9ω N9ω r9ω)
      (obtain ⟨⟨u9ω, e9ω⟩, s9ω⟩ := r9ω)
      (subst e9ω)
      (try dsimp only)
      (try k_fold))
  k_with "call ref" => (
      (with_reducible show wpAny _ _ (call (Value.ref 229) _) _ _ _)
      k_dflt (refine' Does.here (dput_does ?p1 ?p2 ?p3 ?p4 ?p5) ?k1 ?k2 ?k3 ?k4 ?k5 ?k6 ?k7 ?k8 ?k9 ?_; k_extra "my sides"; (case p1 => first | assumption | exact DSt.sub (by assumption) (fun p hp _ => (by assumption : ∀ p ∈ _, p ∈ _) p hp)); (case p5 => exact rfl); (case p2 => omega); (case p3 => decide); (case p4 => k_extra "my putok"))
      (intro v9ω news9ω h9ω tk9ω F9ω N9ω r9ω)
      (obtain ⟨e9ω, D9ω, s9ω⟩ := r9ω)
      (subst e9ω)
      (obtain ⟨dd9ω, dm9ω, df9ω, g1ω, u1ω, g2ω, u2ω, g3ω, u3ω, w3ω, g4ω, u4ω, w4ω, i1ω, i2ω⟩ := DSt.inst D9ω)
      (try dsimp only)
      (try k_fold))
  k_with "call ref" => (
      (with_reducible show wpAny _ _ (call (Value.ref 290) _) _ _ _)
      k_dflt (refine' Does.here (ldata_does ?p1) ?k1 ?k2 ?k3 ?k4 ?k5 ?k6 ?k7 ?k8 ?k9 ?_; k_extra "my sides"; (case p1 => first | assumption | omega))
      k_extra "my ldata")
  k_with "my db" => first | assumption | exact DB.mono (by assumption) (by k_extra "my inc")
  k_with "call ref" => (
      (with_reducible show wpAny _ _ (call (Value.ref 236) _) _ _ _)
      k_dflt (first
       | ((with_reducible show wpAny _ _ (call _ [_, Value.str (Str.ofString "incb") _, _]) _ _ _); refine' Does.val1 (dgetI_does ?p1 ?p2) ?k1 ?k2 ?k3 ?k4 ?k5 ?k6 ?k7 ?k8 ?k9 ?_; k_extra "my sides"; (case p1 => k_extra "my db"); (case p2 => k_extra "my cell"); k_extra "my plain1")
       | ((with_reducible show wpAny _ _ (call _ [_, Value.str (Str.ofString "ep") _, _]) _ _ _); refine' Does.val (dgetP_does ?p1 ?p2) ?k1 ?k2 ?k3 ?k4 ?k5 ?k6 ?k7 ?k8 ?k9 ?_; k_extra "my sides"; (case p1 => k_extra "my db"); (case p2 => k_extra "my cell"); k_extra "my plain")))
  k_with "call ref" => (
      (with_reducible show wpAny _ _ (call (Value.ref 45) _) _ _ _)
      k_dflt (refine' Does.val1 (kind_does ?p1 ?p2) ?k1 ?k2 ?k3 ?k4 ?k5 ?k6 ?k7 ?k8 ?k9 ?_; k_extra "my sides"; (case p1 => k_extra "my db"); (case p2 => k_extra "my cell"))
      k_extra "my plain1")
  k_with "call ref" => (
      (with_reducible show wpAny _ _ (call (Value.ref 124) _) _ _ _)
      k_dflt (refine' Does.val (held_does (o := ?o) ?p1 ?p2) ?k1 ?k2 ?k3 ?k4 ?k5 ?k6 ?k7 ?k8 ?k9 ?_; k_extra "my sides"; (case p1 => k_mem); (case p2 => k_mem); (case o => exact none))
      k_extra "my plain")
  k_with "call ref" => (
      (with_reducible show wpAny _ _ (call (Value.ref 131) _) _ _ _)
      k_dflt (refine' Does.here (take_any (o := ?o) ?p1 ?p2 ?p3) ?k1 ?k2 ?k3 ?k4 ?k5 ?k6 ?k7 ?k8 ?k9 ?_; k_extra "my sides"; (case p1 => k_mem); (case p2 => k_mem); (case p3 => assumption); (case o => exact none))
      (intro v9ω news9ω h9ω tk9ω F9ω N9ω r9ω)
      (obtain ⟨e9ω, tp9ω, tc9ω, m9ω, s9ω⟩ := r9ω)
      (subst e9ω)
      (try dsimp only)
      (try k_fold))
  k_with "my room" => first | ((try dsimp only [Around.deeper, Around.mark, Around.in1]); k_extra "my roomx") | ((try simp only [depth_deeper, units_deeper]); (try dsimp only [callerA, claimMargin, recursionLimit, cLine]); first | omega | decide) | (with_unfolding_all decide)
  k_with "call ref" => (
      (with_reducible show wpAny _ _ (call (Value.ref 257) _) _ _ _)
      k_dflt (refine' Does.here kindsA ?k1 ?k2 ?k3 ?k4 ?k5 ?k6 ?k7 ?k8 ?k9 ?_; k_extra "my sides")
      (intro v9ω news9ω h9ω tk9ω F9ω N9ω r9ω)
      (obtain ⟨l9ω, rs9ω, nn9ω, e9ω, len9ω, f9ω, l1ω⟩ := r9ω)
      (subst e9ω)
      (subst f9ω)
      (try dsimp only)
      (try k_lt l1ω)
      (try k_sweep)
      (try k_fold))
  k_with "call ref" => (
      (with_reducible show wpAny _ _ (call (Value.ref 264) _) _ _ _)
      k_dflt (refine' Does.here hangA ?k1 ?k2 ?k3 ?k4 ?k5 ?k6 ?k7 ?k8 ?k9 ?_; k_extra "my sides")
      (intro v9ω news9ω h9ω tk9ω F9ω N9ω r9ω)
      (obtain ⟨l9ω, rs9ω, nn9ω, e9ω, len9ω, f9ω, l1ω⟩ := r9ω)
      (subst e9ω)
      (subst f9ω)
      (try dsimp only)
      (try k_lt l1ω)
      (try k_sweep)
      (try k_fold))
  k_with "call builtin:len" => (k_here; (with_reducible show wpAny _ _ (call (Value.builtin "len") [Value.ref _]) _ _ _); k_dflt (refine' len_fix ?k1 ?k2 ?k3 ?k4 ?_; (case k1 => k_asm); (case k2 => k_mem); (case k3 => assumption); (case k4 => decide)); k_whole)
  k_with "call builtin:len" => (k_here; (with_reducible show wpAny _ _ (call (Value.builtin "len") [Value.ref _]) _ _ _); (rename News _ _ _ _ => lN'ω); k_dflt (refine' len_drop lN'ω ?k3 ?k4 ?_; (case k3 => assumption); (case k4 => decide)); k_whole; intro N9ω; clear lN'ω)
  k_with "call ref" => (
      (with_reducible show wpAny _ _ (call (Value.ref 276) _) _ _ _)
      k_dflt (refine' Does.here (draw_upd ?p0 ?p1 ?p2 ?U1 ?U2 ?p3 ?p4 ?p5) ?k1 ?k2 ?k3 ?k4 ?k5 ?k6 ?k7 ?k8 ?k9 ?_; k_extra "my sides"; (case U1 => k_updF); (case p0 => first | exact DeckI.fa (by assumption) | exact ⟨_, by assumption⟩); (case U2 => (intro oω; (try dsimp only); k_updF)); (case p1 => k_extra "my deck"); (case p2 => assumption); (case p3 => k_ne); (case p4 => omega); (case p5 => omega))
      (intro v9ω news9ω h9ω tk9ω F9ω N9ω r9ω)
      (obtain ⟨⟨k9ω, u9ω, e9ω, b9ω, c9ω⟩, od9ω, m9ω, ws9ω, ls9ω, nn9ω, D9ω, f9ω⟩ := r9ω)
      (subst e9ω)
      (subst f9ω)
      (try dsimp only at N9ω)
      (try dsimp only)
      (try k_sweep)
      (try k_fold))
  k_with "call ref" => (
      (with_reducible show wpAny _ _ (call (Value.ref 283) _) _ _ _)
      k_dflt (refine' Does.val1 (codeA ?p1 ?p2 ?p3 ?p4) ?k1 ?k2 ?k3 ?k4 ?k5 ?k6 ?k7 ?k8 ?k9 ?_; k_extra "my sides"; (case p1 => omega); (case p2 => omega); (case p3 => omega); (case p4 => omega))
      k_extra "my plain1")
  k_with "exec If" => k_extra "my if"
  k_with "call builtin:list.append" => k_extra "my app"
  k_with "subscriptTail Call Name nil nil BinOp ref int" => k_extra "my item"
  k_with "subscriptTail Call Name nil nil Name ref int" => k_extra "my item"
  k_with "MPostL" => dsimp only [MPostL, KswPost]
  k_with "subscriptTail Name UnaryOp ref int" => (k_here; (with_reducible show wpAny _ _ (subscriptTail _ _ (Value.ref _) (Value.int _ _)) _ _ _); k_dflt (refine' m_last ?N ?m ?_ ?hs ?hg; (case N => k_asm); (case m => k_mem); (case hs => with_unfolding_all rfl); (case hg => (intro _; with_unfolding_all rfl))))
  k_with "call ref" => (
      (with_reducible show wpAny _ _ (call (Value.ref 325) _) _ _ _)
      k_dflt (refine' Does.val1 (end_does ?p1 ?p2 ?p3 ?p4) ?k1 ?k2 ?k3 ?k4 ?k5 ?k6 ?k7 ?k8 ?k9 ?_; k_extra "my sides"; (case p1 => first | assumption | exact RowAt.mono (by assumption) (by k_extra "my inc")); (case p2 => omega); (case p3 => omega); (case p4 => omega))
      k_extra "my plain1")
  k_with "call ref" => (
      (with_reducible show wpAny _ _ (call (Value.ref 95) _) _ _ _)
      k_dflt (refine' Does.val (break_does ?p1 ?p2 ?p3 ?p4 ?p5 ?p6 ?p7) ?k1 ?k2 ?k3 ?k4 ?k5 ?k6 ?k7 ?k8 ?k9 ?_; k_extra "my sides"; (case p1 => k_extra "my db"); (case p2 => k_mem); (case p3 => assumption); (case p4 => omega); (case p5 => assumption); (case p6 => omega); (case p7 => omega))
      k_extra "my plain")
  trivial
section
section
variable {w : World} {h₀ base : Heap} {L fa : Addr} {cd : Value} {mean : ExcName → Option Value} {mg mb : Str → Option Value} {s : Shared} {E : Value → Shared → Prop} {Q : Flow → Shared → Prop} {u : Str → Option Value}
set_option maxRecDepth 100000 in
set_option maxHeartbeats 4000000 in
/-- is_legacy is drawn, the ends are begun -/
theorem stmt4 {dk ll rw : Addr} {od o3 o4 : Obj} {mm : Int} {ws : List Value} {ls : List Int} {nn : Nat} {R : List (Addr × Obj)}
    (B : Below callerA base [] h₀) (X : (Mine.hd.heap_1 w.params).In h₀) (T : Top Mine.seen1 (looseW Mine.seen1 [Str.ofString "SYLLABLES", Str.ofString "cluster_break"]) mean mg mb h₀)
    (F : Fr h₀ L s.heap (kstB u [(Str.ofString "deck", .ref dk), (Str.ofString "row", .ref rw)])) (N : News h₀ L s.heap ((dk, od) :: (ll, listOf (List.toArray ws) nn) :: (L + 1 + 1 + 1, o3) :: (L + 1 + 1 + 1 + 1, o4) :: R))
    (D : DeckI w od ll mm ws ls nn) (lo : (dk == sysModules) = false) (d3 : o3.data = .cell none) (d4 : o4.data = .cell none)
    (a1 : ∀ p ∈ R, p.1 ≠ dk) (a2 : ∀ p ∈ R, p.1 ≠ ll) (a3 : ∀ p ∈ R, p.1 ≠ L + 1 + 1 + 1) (a4 : ∀ p ∈ R, p.1 ≠ L + 1 + 1 + 1 + 1)
    (n1 : @Ne Nat dk ll) (n2 : @Ne Nat dk (L + 1 + 1 + 1)) (n3 : @Ne Nat dk (L + 1 + 1 + 1 + 1)) (n4 : @Ne Nat ll (L + 1 + 1 + 1)) (n5 : @Ne Nat ll (L + 1 + 1 + 1 + 1)) (n6 : @Ne Nat (L + 1 + 1 + 1) (L + 1 + 1 + 1 + 1))
    (next : ∀ leg eA t0 k0 o3 o4 h tk, o3.data = .cell (some (.bool leg)) → o4.data = .cell (some (.ref eA)) → Fr h₀ L h (kstB u [(Str.ofString "deck", .ref dk), (Str.ofString "row", .ref rw)]) →
      News h₀ L h ((eA, listOf (List.toArray [Value.int 0 t0]) k0) :: (L + 1 + 1 + 1, o3) :: (L + 1 + 1 + 1 + 1, o4) :: R) → (∀ p ∈ R, p.1 ≠ eA) → eA ≠ L + 1 + 1 + 1 → eA ≠ L + 1 + 1 + 1 + 1 → Q .next { s with heap := h, toks := tk }) :
    wpAny (model Pg w) (callerA.deeper (lawEnv L fa cd)) (exec cut4.1.1 (lawEnv L fa cd)) Q E s := by
  have F0 := F
  dsimp only [kstB] at F
  unfold Pg
  revert X
  k_fill
  intro X
  unfold lawEnv cut4 lawParts
  dsimp only
  try k_fold
  k_with "my deck" => assumption
  k_steps
  (rename News _ _ _ _ => N9)
  refine' next _ _ _ _ _ _ _ _ ?d3 ?d4 ?F (kst_newsOf N9 ?sub) ?a ?b ?c
  case d4 => assumption
  case d3 => assumption
  case F => k_asm
  case sub => kst_inAny
  case a => exact allLt_ne (And.right (And.right (And.right (And.right (by assumption)))))
  case b => k_ne
  case c => k_ne
end


end
theorem fresh_chain : True := by
  k_with_none
  w_top off
  k_with "is_list" => exact News.isList (by k_asm) (by k_mem)
  k_with "exec While Compare cons nil" => k_extra "my while"
  k_with "exec While BoolOp cons nil" => k_extra "my while"
  k_with "exec While Constant cons nil" => k_extra "my whileT"
  k_with "MPost" => with_reducible first | refine MPost.next ?_ | refine MPost.ret ?_ | refine MPost.brk ?_ | refine MPost.cont ?_
  k_with "seqQ" => with_reducible first | refine seqQ.next ?_ | refine seqQ.ret ?_ | refine seqQ.brk ?_ | refine seqQ.cont ?_
  k_with "my enter" => (
      refine' enter ?k6 ?k7 ?k9 ?kB ?kN ?kU ?c2 ?c3 ?c4 ?c5 ?_
      case k6 => k_is
      case k7 => k_is
      case k9 => first | exact fun _ _ => BindsTo.of_eq rfl | (intro s9ω X9ω; exact binds_K X9ω rfl (by k_is) rfl rfl rfl)
      case kB => exact locs rfl
      case kN => exact rfl
      case kU => exact rfl
      case c2 => exact rfl
      case c3 => exact rfl
      case c4 => exact rfl
      case c5 => decide
      intro dpω unω gdω outerω A₀ω baseω gω h₁ω Lω gnω drω osω tkω meanω mgω mbω Eω Bω Xω Tω hdω huω eω Aω mω hEω Fω Nω)
  k_with "my ret" => (
      first
        | refine Post.ret (by k_asm) ?kN9 ⟨rfl, ?_⟩
        | refine Post.next (by k_asm) ?kN9 ⟨rfl, ?_⟩
      case kN9 => first | k_asm | exact kst_newsOf (by assumption) (by kst_inAny)
      k_extra "my clean")
  k_with "my clean" => ((repeat (rename Fr _ _ _ _ => z9ω; clear z9ω)); (repeat (rename News _ _ _ _ => z9ω; clear z9ω)); (try clear hEω Bω Xω Tω hdω huω))
  k_with "my roomx" => first | exact room_c (by assumption) rfl | exact room_b (by assumption) rfl | exact room_a (by assumption) | exact room_d (by assumption) rfl | exact room_e (by assumption) rfl | exact Nat.le_of_ble_eq_true rfl | omega
  k_with "my room" => ((try dsimp (config := { zetaDelta := true }) only [Around.deeper, Around.mark, Around.in1]); k_extra "my roomx")
  k_with "my sides" => (
      (case k1 => k_asm)
      (case k2 => k_asm)
      (case k3 => k_asm)
      (case k4 => k_asm)
      (case k5 => k_asm)
      (case k6 => exact rfl)
      (case k7 => exact rfl)
      (case k8 => k_extra "my room")
      (case k9 => k_extra "my room"))
  k_with "compareOp In str ref" => (k_here; (with_reducible show wpAny _ _ (compareOp CmpOp.In (Value.str _ _) (Value.ref _)) _ _ _); (with_unfolding_all refine' in_tuple_strs ?k1 ?k2 ?_; (case k1 => first | exact kun_topT (by k_asm) (by k_asm) (by k_is) | exact News.isTup (by k_asm) (by k_mem)); (case k2 => kde_strs); k_whole))
  k_with "compareOp NotIn str ref" => (k_here; (with_reducible show wpAny _ _ (compareOp CmpOp.NotIn (Value.str _ _) (Value.ref _)) _ _ _); (with_unfolding_all refine' notin_tuple_strs ?k1 ?k2 ?_; (case k1 => first | exact kun_topT (by k_asm) (by k_asm) (by k_is) | exact News.isTup (by k_asm) (by k_mem)); (case k2 => kde_strs); k_whole))
  k_with "my plain" => ((intro h9ω tk9ω F9ω N9ω); (try k_sweep))
  k_with "subscriptTail" => k_extra "my item"
  k_with "compareOp In str ref" => k_extra "my in"
  k_with "my plain1" => ((intro u9ω h9ω tk9ω F9ω N9ω); (try k_sweep))
  k_with "compareOp NotEq ref ref" => (k_here; (with_reducible show wpAny _ _ (compareOp CmpOp.NotEq (Value.ref _) (Value.ref _)) _ _ _); (with_unfolding_all refine' ne_intsK ?k1 ?k2 ?k3 ?k4 ?k5 ?_; (case k1 => is_list); (case k2 => l_ints); (case k3 => is_list); (case k4 => l_ints); (case k5 => k_extra "my room"); k_whole))
  k_with "my mem" => first | ktr_member | exact List.Mem.head _ | (refine List.mem_cons_of_mem _ ?_; k_extra "my mem")
  k_with "k_mem" => k_extra "my mem"
  k_with "compareOp NotIn str ref" => k_extra "my notin"
  k_with "call builtin:dict.get" => k_extra "my get"
  k_with "getMethod ref" => k_extra "my getm"
  k_with "setItem ref str" => k_extra "my set"
  k_with "k_room" => ((try dsimp (config := { zetaDelta := true }) only); (try simp only [depth_under_make, depth_under_kw, depth_in1, depth_deeper, depth_caller]); (try dsimp only); k_extra "my roomx")
  k_with "getItem ref str" => k_extra "my gitem"
  k_with "pyIter ref" => k_extra "my for"
  k_with "k_qdec" => decide +kernel
  k_with "my lt" => with_reducible (first | assumption | exact And.left (by assumption) | exact And.left (And.right (by assumption)) | exact And.left (And.right (And.right (by assumption))) | exact And.left (And.right (And.right (And.right (by assumption)))) | exact And.left (And.right (And.right (And.right (And.right (by assumption))))) | exact And.left (And.right (And.right (And.right (And.right (And.right (by assumption)))))) | exact And.left (And.right (And.right (And.right (And.right (And.right (And.right (by assumption))))))) | exact And.left (And.right (And.right (And.right (And.right (And.right (And.right (And.right (by assumption)))))))) | exact And.left (And.right (And.right (And.right (And.right (And.right (And.right (And.right (And.right (by assumption))))))))) | exact And.left (And.right (And.right (And.right (And.right (And.right (And.right (And.right (And.right (And.right (by assumption)))))))))))
  k_with "k_ne" => first | with_reducible assumption | with_reducible exact Ne.symm (by assumption) | (refine Nat.ne_of_lt ?_; k_extra "my lt") | (refine Nat.ne_of_gt ?_; k_extra "my lt") | (refine Nat.ne_of_gt ?_; (repeat (first | exact Nat.lt_succ_self _ | refine Nat.lt_succ_of_lt ?_)); done) | (refine Nat.ne_of_lt ?_; (repeat (first | exact Nat.lt_succ_self _ | refine Nat.lt_succ_of_lt ?_)); done) | (refine neN ?_; (try dsimp only); omega)
  k_with "l_idx" => first | assumption | exact idx_a (by assumption) (by assumption) | exact idx_b (by assumption) | exact idx_c (by assumption) (by assumption)
  k_with "JPost" => with_reducible first | refine JPost.next ?_ | refine JPost.ret ?_ | refine JPost.brk ?_ | refine JPost.cont ?_
  k_with "storeName" => (k_here; k_dflt (refine' storeX_M ?F ?N ?_ ?a ?b; (case F => k_asm); (case N => k_asm); (case a => rfl); (case b => rfl); k_whole); (intro h'ω tk'ω m'ω F'ω N'ω); (try k_sweep))
  k_with "ksw skip" => repeat (first | (refine' ite_skip ?hx ?_; (case hx => first | exact ne_stored (by assumption) rfl | exact h2ω _ (List.Mem.head _) | exact h2ω _ (List.Mem.tail _ (List.Mem.head _)) | exact h2ω _ (List.Mem.tail _ (List.Mem.tail _ (List.Mem.head _))))) | refine ite_skip2 (by assumption) ?_)
  k_with "ksw_same" => (
      intro zω h2ω h3ω
      first
        | rfl
        | (k_extra "ksw skip"; first | rfl | (refine Eq.symm ?_; k_extra "ksw skip"; rfl))
        | ((simp only [List.forall_mem_cons, List.not_mem_nil, false_implies, implies_true, and_true, ne_eq] at h2ω); (simp (zetaDelta := true) [h2ω]; done))
        | ((simp only [List.forall_mem_cons, List.not_mem_nil, false_implies, implies_true, and_true, ne_eq] at h2ω); (simp only [List.contains_cons, List.contains_nil, Bool.or_false, Bool.or_eq_false_iff, beq_eq_false_iff_ne, ne_eq] at h3ω); (simp (zetaDelta := true) [h2ω, h3ω]; done)))
  k_with "execs cons" => (k_here; (first | (refine' norm_M (gn := gnω) (dr := drω) (os := osω) ?F9 ?e9 ?_; (case F9 => k_asm); (case e9 => exact rfl); intro tk9ω) | ((try dsimp only); (try k_gentoks))); first | (with_reducible refine' execs_one ?_) | ((with_reducible refine' execs_let ?_); intro kkω))
  k_with "my leaf" => with_reducible first | show Post _ _ _ _ _ _ _ _ | show JOut _ _ _ _ _ _ _ _ _ | show MEnd _ _ _ _ _ _ _ _ _ _ _ _ _ | show MOut _ _ _ _ _ _ _ _ _ _ _
  k_with "k_steps" => repeat' (first | k_unfold | ((fail_if_success k_extra "my leaf"); first | walk1 | (dsimp only; walk1)) | (leave1; walk_say "STEP leave1"; (try dsimp only)) | fail "no step")
  k_with "my cond" => simp only [true_and, and_true, false_and, and_false, true_or, or_true, false_or, or_false, if_true, if_false, Bool.false_eq_true, Bool.true_eq_false, reduceCtorEq, and_self, or_self, not_true_eq_false, not_false_eq_true]
  k_with "eval Constant int" => (k_here; (with_reducible refine int_M ?_); intro t9ω tk9ω)
  k_with "eval Constant str" => (k_here; (with_reducible refine str_M ?_); intro t9ω tk9ω)
  k_with "binaryOp Add int int" => (k_here; (with_reducible refine add_M ?_); intro t9ω tk9ω)
  k_with "binaryOp Sub int int" => (k_here; (with_reducible refine sub_M ?_); intro t9ω tk9ω)
  k_with "call ref" => (
      (with_reducible show wpAny _ _ (call (Value.ref 145) _) _ _ _)
      k_dflt (refine' Does.val1 (place_does ?p1 ?p2 ?p3) ?k1 ?k2 ?k3 ?k4 ?k5 ?k6 ?k7 ?k8 ?k9 ?_; k_extra "my sides"; (case p1 => k_mem); (case p2 => assumption); (case p3 => first | assumption | omega))
      k_extra "my plain1")
  k_with "call ref" => (
      (with_reducible show wpAny _ _ (call (Value.ref 28) _) _ _ _)
      k_dflt (refine' Does.val syllable_does ?k1 ?k2 ?k3 ?k4 ?k5 ?k6 ?k7 ?k8 ?k9 ?_; k_extra "my sides")
      k_extra "my plain")
  k_with "call ref" => (
      (with_reducible show wpAny _ _ (call (Value.ref 52) _) _ _ _)
      k_dflt (refine' Does.val joins_does ?k1 ?k2 ?k3 ?k4 ?k5 ?k6 ?k7 ?k8 ?k9 ?_; k_extra "my sides")
      k_extra "my plain")
  k_with "call ref" => (
      (with_reducible show wpAny _ _ (call (Value.ref 59) _) _ _ _)
      k_dflt (first
        | (refine' Does.val (pairS_does ?p1) ?k1 ?k2 ?k3 ?k4 ?k5 ?k6 ?k7 ?k8 ?k9 ?_; (case p1 => assumption); k_extra "my sides")
        | (refine' Does.val (pairN_does ?p1) ?k1 ?k2 ?k3 ?k4 ?k5 ?k6 ?k7 ?k8 ?k9 ?_; (case p1 => assumption); k_extra "my sides"))
      k_extra "my plain")
  k_with "call ref" => (
      (with_reducible show wpAny _ _ (call (Value.ref 173) _) _ _ _)
      k_dflt (refine' Does.val (rget_does' (by assumption) (by assumption)) ?k1 ?k2 ?k3 ?k4 ?k5 ?k6 ?k7 ?k8 ?k9 ?_; k_extra "my sides")
      k_extra "my plain")
  k_with "my cell" => first | assumption | exact Cells.at' (by assumption) _ (by omega)
  k_with "call ref" => (
      (with_reducible show wpAny _ _ (call (Value.ref 236) _) _ _ _)
      k_dflt (first
       | ((with_reducible show wpAny _ _ (call _ [_, Value.str (Str.ofString "gcb") _, _]) _ _ _); refine' Does.val (dgetG_does ?p1 ?p2) ?k1 ?k2 ?k3 ?k4 ?k5 ?k6 ?k7 ?k8 ?k9 ?_; k_extra "my sides"; (case p1 => assumption); (case p2 => assumption); k_extra "my plain")
       | ((with_reducible show wpAny _ _ (call _ [_, Value.str (Str.ofString "incb") _, _]) _ _ _); refine' Does.val1 (dgetI_does ?p1 ?p2) ?k1 ?k2 ?k3 ?k4 ?k5 ?k6 ?k7 ?k8 ?k9 ?_; k_extra "my sides"; (case p1 => assumption); (case p2 => k_extra "my cell"); k_extra "my plain1")
       | ((with_reducible show wpAny _ _ (call _ [_, Value.str (Str.ofString "ep") _, _]) _ _ _); refine' Does.val (dgetP_does ?p1 ?p2) ?k1 ?k2 ?k3 ?k4 ?k5 ?k6 ?k7 ?k8 ?k9 ?_; k_extra "my sides"; (case p1 => assumption); (case p2 => k_extra "my cell"); k_extra "my plain")))
  k_with "call ref" => (
      (with_reducible show wpAny _ _ (call (Value.ref 35) _) _ _ _)
      k_dflt (first
        | (refine' Does.val1 (kindHs_does ?p1) ?k1 ?k2 ?k3 ?k4 ?k5 ?k6 ?k7 ?k8 ?k9 ?_; (case p1 => assumption); k_extra "my sides"; k_extra "my plain1")
        | (refine' Does.val (kindHn_does ?p1) ?k1 ?k2 ?k3 ?k4 ?k5 ?k6 ?k7 ?k8 ?k9 ?_; (case p1 => assumption); k_extra "my sides"; k_extra "my plain")))
  k_with "call ref" => (
      (with_reducible show wpAny _ _ (call (Value.ref 45) _) _ _ _)
      k_dflt (refine' Does.val1 (kind_does ?p1 ?p2) ?k1 ?k2 ?k3 ?k4 ?k5 ?k6 ?k7 ?k8 ?k9 ?_; k_extra "my sides"; (case p1 => assumption); (case p2 => k_extra "my cell"))
      k_extra "my plain1")
  k_with "call ref" => (
      (with_reducible show wpAny _ _ (call (Value.ref 66) _) _ _ _)
      k_dflt (refine' Does.val (conj_does ?p1 ?p2 ?p3 ?p4 ?p5 ?p6 ?p7) ?k1 ?k2 ?k3 ?k4 ?k5 ?k6 ?k7 ?k8 ?k9 ?_; k_extra "my sides"; (case p1 => assumption); (case p2 => k_mem); (case p3 => assumption); (case p4 => omega); (case p5 => assumption); (case p6 => omega); (case p7 => omega))
      k_extra "my plain")
  k_with "call ref" => (
      (with_reducible show wpAny _ _ (call (Value.ref 73) _) _ _ _)
      k_dflt (refine' Does.val (pict_does ?p1 ?p2 ?p3 ?p4 ?p5 ?p6 ?p7) ?k1 ?k2 ?k3 ?k4 ?k5 ?k6 ?k7 ?k8 ?k9 ?_; k_extra "my sides"; (case p1 => assumption); (case p2 => k_mem); (case p3 => assumption); (case p4 => omega); (case p5 => assumption); (case p6 => omega); (case p7 => omega))
      k_extra "my plain")
  k_with "call ref" => (
      (with_reducible show wpAny _ _ (call (Value.ref 80) _) _ _ _)
      k_dflt (refine' Does.val1 (flags_does ?p1 ?p2 ?p3 ?p4 ?p5 ?p6 ?p7) ?k1 ?k2 ?k3 ?k4 ?k5 ?k6 ?k7 ?k8 ?k9 ?_; k_extra "my sides"; (case p1 => assumption); (case p2 => k_mem); (case p3 => assumption); (case p4 => omega); (case p5 => assumption); (case p6 => omega); (case p7 => omega))
      k_extra "my plain1")
  k_with "call ref" => (
      (with_reducible show wpAny _ _ (call (Value.ref 87) _) _ _ _)
      k_dflt (refine' Does.val (flag_does ?p1 ?p2 ?p3 ?p4 ?p5 ?p6 ?p7) ?k1 ?k2 ?k3 ?k4 ?k5 ?k6 ?k7 ?k8 ?k9 ?_; k_extra "my sides"; (case p1 => assumption); (case p2 => k_mem); (case p3 => assumption); (case p4 => omega); (case p5 => assumption); (case p6 => omega); (case p7 => omega))
      k_extra "my plain")
  k_with "call ref" => (
      (with_reducible show wpAny _ _ (call (Value.ref 95) _) _ _ _)
      k_dflt (refine' Does.val (break_does ?p1 ?p2 ?p3 ?p4 ?p5 ?p6 ?p7) ?k1 ?k2 ?k3 ?k4 ?k5 ?k6 ?k7 ?k8 ?k9 ?_; k_extra "my sides"; (case p1 => assumption); (case p2 => k_mem); (case p3 => assumption); (case p4 => omega); (case p5 => assumption); (case p6 => omega); (case p7 => omega))
      k_extra "my plain")
  k_with "my inc" => first | exact fun _ h => h | exact kst_inSelf | kst_inAny
  k_with "call builtin:len" => (k_here; (with_reducible show wpAny _ _ (call (Value.builtin "len") [Value.ref _]) _ _ _); k_dflt (refine' row_len ?k1 ?k2 ?k3 ?k4 ?_; (case k1 => k_asm); (case k2 => assumption); (case k3 => k_extra "my inc"); (case k4 => omega)); k_whole)
  k_with "subscriptTail Name Name ref int" => k_extra "my row"
  k_with "subscriptTail Name BinOp ref int" => k_extra "my row"
  k_with "my row" => (k_here; (with_reducible show wpAny _ _ (subscriptTail _ _ (Value.ref _) (Value.int _ _)) _ _ _); k_dflt (refine' row_item ?k1 ?k2 ?k3 ?k4 ?k5 ?k6 ?_ ?k8 ?k9; (case k1 => k_asm); (case k2 => assumption); (case k3 => k_extra "my inc"); (case k8 => with_unfolding_all rfl); (case k9 => (intro _; with_unfolding_all rfl)); (case k4 => omega); (case k5 => omega); (case k6 => omega)); k_whole; (intro a9ω t8ω t9ω n9ω hm9ω))
  k_with "call ref" => (
      (with_reducible show wpAny _ _ (call (Value.ref 297) _) _ _ _)
      k_dflt (refine' Does.val1 (past_does ?p1 ?p2 ?p3 ?p4 ?p5) ?k1 ?k2 ?k3 ?k4 ?k5 ?k6 ?k7 ?k8 ?k9 ?_; k_extra "my sides"; (case p1 => first | assumption | exact RowAt.mono (by assumption) (by k_extra "my inc")); (case p2 => omega); (case p4 => k_mem); (case p5 => kde_strs); (case p3 => omega))
      k_extra "my plain1")
  k_with "my rowp" => first | assumption | exact RowAt.mono (by assumption) (by k_extra "my inc")
  k_with "call ref" => (
      (with_reducible show wpAny _ _ (call (Value.ref 304) _) _ _ _)
      k_dflt (refine' Does.val1 (syl_does ?p1 ?p2 ?p3 ?p4) ?k1 ?k2 ?k3 ?k4 ?k5 ?k6 ?k7 ?k8 ?k9 ?_; k_extra "my sides"; (case p1 => k_extra "my rowp"); (case p2 => omega); (case p3 => omega); (case p4 => omega))
      k_extra "my plain1")
  k_with "my plainR" => (
      (intro v9ω news9ω h9ω tk9ω F9ω N9ω r9ω)
      (obtain ⟨e9ω, t9ω, f9ω⟩ := r9ω)
      (subst f9ω)
      (subst e9ω)
      (try dsimp only)
      (try k_fold))
  k_with "call ref" => (
      (with_reducible show wpAny _ _ (call (Value.ref 311) _) _ _ _)
      k_dflt (refine' Does.val1 (pics_does ?p1 ?p2 ?p3 ?p4) ?k1 ?k2 ?k3 ?k4 ?k5 ?k6 ?k7 ?k8 ?k9 ?_; k_extra "my sides"; (case p1 => k_extra "my rowp"); (case p2 => omega); (case p3 => omega); (case p4 => omega))
      k_extra "my plain1")
  k_with "call ref" => (
      (with_reducible show wpAny _ _ (call (Value.ref 318) _) _ _ _)
      k_dflt (refine' Does.val1 (cons_does ?p1 ?p2 ?p3 ?p4) ?k1 ?k2 ?k3 ?k4 ?k5 ?k6 ?k7 ?k8 ?k9 ?_; k_extra "my sides"; (case p1 => k_extra "my rowp"); (case p2 => omega); (case p3 => omega); (case p4 => omega))
      k_extra "my plain1")
  k_with "my len" => ((try simp only [List.length_append, List.length_take, List.length_drop, List.length_cons, List.length_nil]); omega)
  k_with "subscriptTail Name Slice ref ref" => (k_here; (with_reducible show wpAny _ _ (subscriptTail _ (PySem.Expr.Slice _ _ none _) (Value.ref _) (Value.ref _)) _ _ _); k_dflt (first
      | (refine' m_slice_to ?F ?N ?l ?i ?z ?_ ?s ?t; (case F => k_asm); (case N => k_asm); (case l => k_mem); (case i => first | assumption | omega); (case z => k_extra "my len"); (case s => with_unfolding_all rfl); (case t => (intro _; with_unfolding_all rfl)))
      | (refine' m_slice_from ?F ?N ?l ?i ?z ?_ ?s ?t; (case F => k_asm); (case N => k_asm); (case l => k_mem); (case i => first | assumption | decide | omega); (case z => k_extra "my len"); (case s => with_unfolding_all rfl); (case t => (intro _; with_unfolding_all rfl)))); k_whole; intro D'ω h'ω F'ω N'ω l1ω; (try k_lt l1ω); (try k_sweep))
  k_with "binaryOp Add ref ref" => (k_here; k_dflt (refine' m_add ?F ?N ?l ?i ?z ?_; (case F => k_asm); (case N => k_asm); (case l => k_mem); (case i => k_mem); (case z => k_extra "my len")); k_whole; intro D'ω h'ω F'ω N'ω l1ω; (try k_lt l1ω); (try k_sweep))
  k_with "k_all" => first | assumption | exact allLt_ne (by first | assumption | exact And.right (by assumption) | exact And.right (And.right (by assumption)) | exact And.right (And.right (And.right (by assumption))))
  k_with "call ref" => (
      (with_reducible show wpAny _ _ (call (Value.ref 152) _) _ _ _)
      k_dflt (refine' Does.val (like_does ?p1) ?k1 ?k2 ?k3 ?k4 ?k5 ?k6 ?k7 ?k8 ?k9 ?_; (case p1 => assumption); k_extra "my sides")
      k_extra "my plain")
  k_with "subscriptTail Attribute Name Slice ref ref" => (refine kba_turn (value' := PySem.Expr.Name (PySem.Str.ofString "_") ⟨0, 0, 0, 0⟩) (fun _ => rfl) ?_)
  k_with "call ref" => (
      (with_reducible show wpAny _ _ (call (Value.ref 243) _) _ _ _)
      k_dflt (first
        | (refine' Does.val (mapof_old ?p1 ?p2) ?k1 ?k2 ?k3 ?k4 ?k5 ?k6 ?k7 ?k8 ?k9 ?_; (case p1 => assumption); (case p2 => assumption); k_extra "my sides"; k_extra "my plain")
        | (refine' Does.here (mapof_new ?p1 ?p2 ?p3 ?p4) ?k1 ?k2 ?k3 ?k4 ?k5 ?k6 ?k7 ?k8 ?k9 ?_; (case p1 => assumption); (case p2 => assumption); (case p3 => assumption); (case p4 => omega); k_extra "my sides"
           (intro v9ω news9ω h9ω tk9ω F9ω N9ω r9ω)
           (obtain ⟨a9ω, x9ω, e9ω, R9ω, D9ω, f9ω, s9ω⟩ := r9ω)
           (subst e9ω)
           (obtain ⟨g1ω, u1ω, v0ω, g2ω, u2ω, lsω, g3ω, u3ω, lvω, n1ω, n2ω⟩ := RD.inst R9ω)
           (try dsimp only)
           (try k_fold))))
  k_with "call ref" => (
      (with_reducible show wpAny _ _ (call (Value.ref 180) _) _ _ _)
      k_dflt (refine' Does.here (rput_does ?p1 ?p2 ?p3) ?k1 ?k2 ?k3 ?k4 ?k5 ?k6 ?k7 ?k8 ?k9 ?_; (case p1 => assumption); (case p2 => assumption); (case p3 => assumption); k_extra "my sides")
      (intro v9ω news9ω h9ω tk9ω F9ω N9ω r9ω)
      (obtain ⟨e9ω, R9ω, f9ω⟩ := r9ω)
      (subst e9ω)
      (try dsimp only)
      (try k_fold))
  k_with "call ref" => (
      (with_reducible show wpAny _ _ (call (Value.ref 208) _) _ _ _)
      k_dflt (refine' Does.here defs_does ?k1 ?k2 ?k3 ?k4 ?k5 ?k6 ?k7 ?k8 ?k9 ?_; k_extra "my sides")
      k_extra "my defd")
  k_with "call ref" => (
      (with_reducible show wpAny _ _ (call (Value.ref 257) _) _ _ _)
      k_dflt (refine' Does.here kinds_does ?k1 ?k2 ?k3 ?k4 ?k5 ?k6 ?k7 ?k8 ?k9 ?_; k_extra "my sides")
      (intro v9ω news9ω h9ω tk9ω F9ω N9ω r9ω)
      (obtain ⟨l9ω, e9ω, R9ω, s9ω, t9ω⟩ := r9ω)
      (subst e9ω)
      (try dsimp only)
      (try k_fold))
  k_with "call builtin:len" => (k_here; (with_reducible show wpAny _ _ (call (Value.builtin "len") [Value.ref _]) _ _ _); k_dflt (refine' kinds_len ?k1 ?k2 ?k3 ?_; (case k1 => k_asm); (case k2 => assumption); (case k3 => k_extra "my inc")); k_whole)
  k_with "call ref" => (
      (with_reducible show wpAny _ _ (call (Value.ref 264) _) _ _ _)
      k_dflt (refine' Does.here hang_does ?k1 ?k2 ?k3 ?k4 ?k5 ?k6 ?k7 ?k8 ?k9 ?_; k_extra "my sides")
      (intro v9ω news9ω h9ω tk9ω F9ω N9ω r9ω)
      (obtain ⟨l9ω, e9ω, R9ω, s9ω, t9ω⟩ := r9ω)
      (subst e9ω)
      (try dsimp only)
      (try k_fold))
  k_with "call ref" => (
      (with_reducible show wpAny _ _ (call (Value.ref 283) _) _ _ _)
      k_dflt (refine' Does.here (code_does ?p1 ?p2 ?p3 ?p4) ?k1 ?k2 ?k3 ?k4 ?k5 ?k6 ?k7 ?k8 ?k9 ?_; k_extra "my sides"; (case p1 => omega); (case p2 => omega); (case p3 => omega); (case p4 => omega))
      (intro v9ω news9ω h9ω tk9ω F9ω N9ω r9ω)
      (obtain ⟨⟨u9ω, e9ω⟩, s9ω⟩ := r9ω)
      (subst e9ω)
      (try dsimp only)
      (try k_fold))
  k_with "call ref" => (
      (with_reducible show wpAny _ _ (call (Value.ref 229) _) _ _ _)
      k_dflt (refine' Does.here (dput_does ?p1 ?p2 ?p3 ?p4 ?p5) ?k1 ?k2 ?k3 ?k4 ?k5 ?k6 ?k7 ?k8 ?k9 ?_; k_extra "my sides"; (case p1 => first | assumption | exact DSt.sub (by assumption) (fun p hp _ => (by assumption : ∀ p ∈ _, p ∈ _) p hp)); (case p5 => exact rfl); (case p2 => omega); (case p3 => decide); (case p4 => k_extra "my putok"))
      (intro v9ω news9ω h9ω tk9ω F9ω N9ω r9ω)
      (obtain ⟨e9ω, D9ω, s9ω⟩ := r9ω)
      (subst e9ω)
      (obtain ⟨dd9ω, dm9ω, df9ω, g1ω, u1ω, g2ω, u2ω, g3ω, u3ω, w3ω, g4ω, u4ω, w4ω, i1ω, i2ω⟩ := DSt.inst D9ω)
      (try dsimp only)
      (try k_fold))
  k_with "call ref" => (
      (with_reducible show wpAny _ _ (call (Value.ref 290) _) _ _ _)
      k_dflt (refine' Does.here (ldata_does ?p1) ?k1 ?k2 ?k3 ?k4 ?k5 ?k6 ?k7 ?k8 ?k9 ?_; k_extra "my sides"; (case p1 => first | assumption | omega))
      k_extra "my ldata")
  k_with "my db" => first | assumption | exact DB.mono (by assumption) (by k_extra "my inc")
  k_with "call ref" => (
      (with_reducible show wpAny _ _ (call (Value.ref 236) _) _ _ _)
      k_dflt (first
       | ((with_reducible show wpAny _ _ (call _ [_, Value.str (Str.ofString "incb") _, _]) _ _ _); refine' Does.val1 (dgetI_does ?p1 ?p2) ?k1 ?k2 ?k3 ?k4 ?k5 ?k6 ?k7 ?k8 ?k9 ?_; k_extra "my sides"; (case p1 => k_extra "my db"); (case p2 => k_extra "my cell"); k_extra "my plain1")
       | ((with_reducible show wpAny _ _ (call _ [_, Value.str (Str.ofString "ep") _, _]) _ _ _); refine' Does.val (dgetP_does ?p1 ?p2) ?k1 ?k2 ?k3 ?k4 ?k5 ?k6 ?k7 ?k8 ?k9 ?_; k_extra "my sides"; (case p1 => k_extra "my db"); (case p2 => k_extra "my cell"); k_extra "my plain")))
  k_with "call ref" => (
      (with_reducible show wpAny _ _ (call (Value.ref 45) _) _ _ _)
      k_dflt (refine' Does.val1 (kind_does ?p1 ?p2) ?k1 ?k2 ?k3 ?k4 ?k5 ?k6 ?k7 ?k8 ?k9 ?_; k_extra "my sides"; (case p1 => k_extra "my db"); (case p2 => k_extra "my cell"))
      k_extra "my plain1")
  k_with "call ref" => (
      (with_reducible show wpAny _ _ (call (Value.ref 124) _) _ _ _)
      k_dflt (refine' Does.val (held_does (o := ?o) ?p1 ?p2) ?k1 ?k2 ?k3 ?k4 ?k5 ?k6 ?k7 ?k8 ?k9 ?_; k_extra "my sides"; (case p1 => k_mem); (case p2 => k_mem); (case o => exact none))
      k_extra "my plain")
  k_with "call ref" => (
      (with_reducible show wpAny _ _ (call (Value.ref 131) _) _ _ _)
      k_dflt (refine' Does.here (take_any (o := ?o) ?p1 ?p2 ?p3) ?k1 ?k2 ?k3 ?k4 ?k5 ?k6 ?k7 ?k8 ?k9 ?_; k_extra "my sides"; (case p1 => k_mem); (case p2 => k_mem); (case p3 => assumption); (case o => exact none))
      (intro v9ω news9ω h9ω tk9ω F9ω N9ω r9ω)
      (obtain ⟨e9ω, tp9ω, tc9ω, m9ω, s9ω⟩ := r9ω)
      (subst e9ω)
      (try dsimp only)
      (try k_fold))
  k_with "my room" => first | ((try dsimp only [Around.deeper, Around.mark, Around.in1]); k_extra "my roomx") | ((try simp only [depth_deeper, units_deeper]); (try dsimp only [callerA, claimMargin, recursionLimit, cLine]); first | omega | decide) | (with_unfolding_all decide)
  k_with "call ref" => (
      (with_reducible show wpAny _ _ (call (Value.ref 257) _) _ _ _)
      k_dflt (refine' Does.here kindsA ?k1 ?k2 ?k3 ?k4 ?k5 ?k6 ?k7 ?k8 ?k9 ?_; k_extra "my sides")
      (intro v9ω news9ω h9ω tk9ω F9ω N9ω r9ω)
      (obtain ⟨l9ω, rs9ω, nn9ω, e9ω, len9ω, f9ω, l1ω⟩ := r9ω)
      (subst e9ω)
      (subst f9ω)
      (try dsimp only)
      (try k_lt l1ω)
      (try k_sweep)
      (try k_fold))
  k_with "call ref" => (
      (with_reducible show wpAny _ _ (call (Value.ref 264) _) _ _ _)
      k_dflt (refine' Does.here hangA ?k1 ?k2 ?k3 ?k4 ?k5 ?k6 ?k7 ?k8 ?k9 ?_; k_extra "my sides")
      (intro v9ω news9ω h9ω tk9ω F9ω N9ω r9ω)
      (obtain ⟨l9ω, rs9ω, nn9ω, e9ω, len9ω, f9ω, l1ω⟩ := r9ω)
      (subst e9ω)
      (subst f9ω)
      (try dsimp only)
      (try k_lt l1ω)
      (try k_sweep)
      (try k_fold))
  k_with "call builtin:len" => (k_here; (with_reducible show wpAny _ _ (call (Value.builtin "len") [Value.ref _]) _ _ _); k_dflt (refine' len_fix ?k1 ?k2 ?k3 ?k4 ?_; (case k1 => k_asm); (case k2 => k_mem); (case k3 => assumption); (case k4 => decide)); k_whole)
  k_with "call builtin:len" => (k_here; (with_reducible show wpAny _ _ (call (Value.builtin "len") [Value.ref _]) _ _ _); (rename News _ _ _ _ => lN'ω); k_dflt (refine' len_drop lN'ω ?k3 ?k4 ?_; (case k3 => assumption); (case k4 => decide)); k_whole; intro N9ω; clear lN'ω)
  k_with "call ref" => (
      (with_reducible show wpAny _ _ (call (Value.ref 276) _) _ _ _)
      k_dflt (refine' Does.here (draw_upd ?p0 ?p1 ?p2 ?U1 ?U2 ?p3 ?p4 ?p5) ?k1 ?k2 ?k3 ?k4 ?k5 ?k6 ?k7 ?k8 ?k9 ?_; k_extra "my sides"; (case U1 => k_updF); (case p0 => first | exact DeckI.fa (by assumption) | exact ⟨_, by assumption⟩); (case U2 => (intro oω; (try dsimp only); k_updF)); (case p1 => k_extra "my deck"); (case p2 => assumption); (case p3 => k_ne); (case p4 => omega); (case p5 => omega))
      (intro v9ω news9ω h9ω tk9ω F9ω N9ω r9ω)
      (obtain ⟨⟨k9ω, u9ω, e9ω, b9ω, c9ω⟩, od9ω, m9ω, ws9ω, ls9ω, nn9ω, D9ω, f9ω⟩ := r9ω)
      (subst e9ω)
      (subst f9ω)
      (try dsimp only at N9ω)
      (try dsimp only)
      (try k_sweep)
      (try k_fold))
  k_with "call ref" => (
      (with_reducible show wpAny _ _ (call (Value.ref 283) _) _ _ _)
      k_dflt (refine' Does.val1 (codeA ?p1 ?p2 ?p3 ?p4) ?k1 ?k2 ?k3 ?k4 ?k5 ?k6 ?k7 ?k8 ?k9 ?_; k_extra "my sides"; (case p1 => omega); (case p2 => omega); (case p3 => omega); (case p4 => omega))
      k_extra "my plain1")
  k_with "exec If" => k_extra "my if"
  k_with "call builtin:list.append" => k_extra "my app"
  k_with "subscriptTail Call Name nil nil BinOp ref int" => k_extra "my item"
  k_with "subscriptTail Call Name nil nil Name ref int" => k_extra "my item"
  k_with "MPostL" => dsimp only [MPostL, KswPost]
  k_with "subscriptTail Name UnaryOp ref int" => (k_here; (with_reducible show wpAny _ _ (subscriptTail _ _ (Value.ref _) (Value.int _ _)) _ _ _); k_dflt (refine' m_last ?N ?m ?_ ?hs ?hg; (case N => k_asm); (case m => k_mem); (case hs => with_unfolding_all rfl); (case hg => (intro _; with_unfolding_all rfl))))
  k_with "call ref" => (
      (with_reducible show wpAny _ _ (call (Value.ref 325) _) _ _ _)
      k_dflt (refine' Does.val1 (end_does ?p1 ?p2 ?p3 ?p4) ?k1 ?k2 ?k3 ?k4 ?k5 ?k6 ?k7 ?k8 ?k9 ?_; k_extra "my sides"; (case p1 => first | assumption | exact RowAt.mono (by assumption) (by k_extra "my inc")); (case p2 => omega); (case p3 => omega); (case p4 => omega))
      k_extra "my plain1")
  k_with "call ref" => (
      (with_reducible show wpAny _ _ (call (Value.ref 95) _) _ _ _)
      k_dflt (refine' Does.val (break_does ?p1 ?p2 ?p3 ?p4 ?p5 ?p6 ?p7) ?k1 ?k2 ?k3 ?k4 ?k5 ?k6 ?k7 ?k8 ?k9 ?_; k_extra "my sides"; (case p1 => k_extra "my db"); (case p2 => k_mem); (case p3 => assumption); (case p4 => omega); (case p5 => assumption); (case p6 => omega); (case p7 => omega))
      k_extra "my plain")
  trivial
section
theorem fr_pin {h₀ : Heap} {L : Addr} {h : Heap} {m : Str → Option Value} (F : Fr h₀ L h m) {ps : List (Str × Value)} (hk : ∀ p ∈ ps, m p.1 = some p.2) : Fr h₀ L h (kstB m ps) := by
  have : kstB m ps = m := funext fun q => kstB_eq hk fun _ => rfl
  rw [this]; exact F
section
variable {w : World} {h₀ base : Heap} {L fa : Addr} {cd : Value} {mean : ExcName → Option Value} {mg mb : Str → Option Value} {s : Shared} {E : Value → Shared → Prop} {Q : Flow → Shared → Prop} {m : Str → Option Value}
/-- all that stands behind the building loop -/
theorem tail_does {dk ll tx rw dat : Addr} {od o3 o4 o5 : Obj} {mm : Int} {ws : List Value} {ls : List Int} {nn : Nat} {codes : List Int} {cells : List Cell} {R : List (Addr × Obj)}
    (B : Below callerA base [] h₀) (X : (Mine.hd.heap_1 w.params).In h₀) (T : Top Mine.seen1 (looseW Mine.seen1 [Str.ofString "SYLLABLES", Str.ofString "cluster_break"]) mean mg mb h₀)
    (hE : PassesOwn (model Pg w) (callerA.deeper (lawEnv L fa cd)) (lawEnv L fa cd) E)
    (F : Fr h₀ L s.heap m) (f1 : m (Str.ofString "deck") = some (.ref dk)) (f2 : m (Str.ofString "row") = some (.ref rw))
    (N : News h₀ L s.heap ((dk, od) :: (ll, listOf (List.toArray ws) nn) :: (L + 1 + 1 + 1, o3) :: (L + 1 + 1 + 1 + 1, o4) :: (L + 1 + 1 + 1 + 1 + 1, o5) :: R))
    (D : DeckI w od ll mm ws ls nn) (lo : (dk == sysModules) = false) (d3 : o3.data = .cell none) (d4 : o4.data = .cell none) (d5 : o5.data = .cell none)
    (a1 : ∀ p ∈ R, p.1 ≠ dk) (a2 : ∀ p ∈ R, p.1 ≠ ll) (a3 : ∀ p ∈ R, p.1 ≠ L + 1 + 1 + 1) (a4 : ∀ p ∈ R, p.1 ≠ L + 1 + 1 + 1 + 1) (a5 : ∀ p ∈ R, p.1 ≠ L + 1 + 1 + 1 + 1 + 1)
    (n1 : @Ne Nat dk ll) (n2 : @Ne Nat dk (L + 1 + 1 + 1)) (n3 : @Ne Nat dk (L + 1 + 1 + 1 + 1)) (n4 : @Ne Nat ll (L + 1 + 1 + 1)) (n5 : @Ne Nat ll (L + 1 + 1 + 1 + 1)) (n6 : @Ne Nat dk (L + 1 + 1 + 1 + 1 + 1)) (n7 : @Ne Nat ll (L + 1 + 1 + 1 + 1 + 1))
    (hb : Base w R L tx rw dat codes cells)
    (hret : ∀ R' h tk u, Fr h₀ L h u → News h₀ L h R' → Q (.ret (.bool true)) { s with heap := h, toks := tk }) :
    wpAny (model Pg w) (callerA.deeper (lawEnv L fa cd)) (execs (cut4.1.1 :: cut4.1.2) (lawEnv L fa cd)) Q E s := by
  have l34 : @Ne Nat (L + 1 + 1 + 1) (L + 1 + 1 + 1 + 1) := Nat.ne_of_lt (Nat.lt_succ_self _)
  have l45 : @Ne Nat (L + 1 + 1 + 1 + 1) (L + 1 + 1 + 1 + 1 + 1) := Nat.ne_of_lt (Nat.lt_succ_self _)
  have l35 : @Ne Nat (L + 1 + 1 + 1) (L + 1 + 1 + 1 + 1 + 1) := Nat.ne_of_lt (Nat.lt_succ_of_lt (Nat.lt_succ_self _))
  have cons {a : Addr} {o : Obj} {b : Addr} (h : ∀ p ∈ R, p.1 ≠ b) (hn : @Ne Nat a b) : ∀ p ∈ (a, o) :: R, p.1 ≠ b := fun p hp => by
    rcases List.mem_cons.mp hp with rfl | hp
    · exact hn
    · exact h p hp
  refine wpAny_execs_cons (stmt4 B X T (fr_pin F (ps := [(Str.ofString "deck", .ref dk), (Str.ofString "row", .ref rw)]) (by
    intro p hp
    rcases List.mem_cons.mp hp with rfl | hp
    · exact f1
    · rw [List.mem_singleton.mp hp]; exact f2)) N D lo d3 d4 (cons a1 (Ne.symm n6)) (cons a2 (Ne.symm n7)) (cons a3 (Ne.symm l35)) (cons a4 (Ne.symm l45)) n1 n2 n3 n4 n5 l34 ?_)
  intro leg eA t0 k0 q3 q4 h tk c3 c4 F4 N4 e1 e2 e3
  show wpAny _ _ (execs cut4.1.2 _) Q E _
  rw [cut5.2]
  have x5 := e1 _ (List.Mem.head _)
  refine wpAny_execs_cons (stmt5 (R := (L + 1 + 1 + 1, q3) :: (L + 1 + 1 + 1 + 1, q4) :: (L + 1 + 1 + 1 + 1 + 1, o5) :: R) B X T hE (fr_pin F4 (ps := [(Str.ofString "row", .ref rw)]) (by
    intro p hp
    rw [List.mem_singleton.mp hp]
    rfl)) N4 (hb.mono fun p hp => List.Mem.tail _ (List.Mem.tail _ (List.Mem.tail _ hp))) (List.Mem.head _) c3 (List.Mem.tail _ (List.Mem.head _)) c4 (fun p hp => ?ap) ?_)
  case ap =>
    rcases List.mem_cons.mp hp with rfl | hp
    · exact Ne.symm e2
    · rcases List.mem_cons.mp hp with rfl | hp
      · exact Ne.symm e3
      · exact e1 p hp
  intro es ns k h tk u' hes hns F5 N5
  show wpAny _ _ (execs cut5.1.2 _) Q E _
  rw [cut6.2]
  refine wpAny_execs_cons (stmt6 (R := (eA, listOf (List.toArray es) k) :: (L + 1 + 1 + 1, q3) :: (L + 1 + 1 + 1 + 1, q4) :: (L + 1 + 1 + 1 + 1 + 1, o5) :: R) B X T F5 N5 (hb.mono fun p hp => List.Mem.tail _ (List.Mem.tail _ (List.Mem.tail _ (List.Mem.tail _ hp))))
    (List.Mem.tail _ (List.Mem.tail _ (List.Mem.head _))) c4 (List.Mem.head _) hes hns ?_)
  intro D h tk F6 N6 ad
  show wpAny _ _ (execs cut6.1.2 _) Q E _
  rw [cut7.2]
  rw [bools_map] at N6
  refine wpAny_execs_cons (stmt7 (R := (D, listOf (List.toArray (((List.range (cells.length + 1)).map fun i => breakF cells i leg).map Value.bool)) (cells.length + 1)) :: (eA, listOf (List.toArray es) k) :: (L + 1 + 1 + 1, q3) :: (L + 1 + 1 + 1 + 1, q4) :: (L + 1 + 1 + 1 + 1 + 1, o5) :: R) B X T
    (fr_pin F6 (ps := [(Str.ofString "due", .ref D)]) (by
      intro p hp
      rw [List.mem_singleton.mp hp]
      rfl)) N6 (hb.mono fun p hp => List.Mem.tail _ (List.Mem.tail _ (List.Mem.tail _ (List.Mem.tail _ (List.Mem.tail _ hp))))) (List.Mem.tail _ (List.Mem.tail _ (List.Mem.head _))) c3 (List.Mem.head _) rfl ?_)
  intro h tk F7 N7
  show wpAny _ _ (execs cut7.1.2 _) Q E _
  rw [cut8.2]
  have xD := ad _ (List.Mem.tail _ (List.Mem.tail _ (List.Mem.tail _ (List.Mem.head _))))
  obtain ⟨o2, c2, d2⟩ := hb.cda
  refine wpAny_execs_cons (stmt8 (R := (D, listOf (List.toArray (((List.range (cells.length + 1)).map fun i => breakF cells i leg).map Value.bool)) (cells.length + 1)) :: (eA, listOf (List.toArray es) k) :: (L + 1 + 1 + 1, q3) :: (L + 1 + 1 + 1 + 1, q4) :: R) B X T
    F7 (kst_newsOf N7 (by kst_inAny)) (fun p hp => ?ap) (List.Mem.tail _ (List.Mem.tail _ (List.Mem.tail _ (List.Mem.tail _ c2)))) d2 (List.Mem.tail _ (List.Mem.tail _ (List.Mem.head _))) c3 d5 ?_)
  case ap =>
    rcases List.mem_cons.mp hp with rfl | hp
    · exact Ne.symm xD
    · rcases List.mem_cons.mp hp with rfl | hp
      · exact Ne.symm x5
      · rcases List.mem_cons.mp hp with rfl | hp
        · exact l35
        · rcases List.mem_cons.mp hp with rfl | hp
          · exact l45
          · exact a5 p hp
  intro sx dx h1 h2 h3 h4 h5 h6 t1 t2 t3 t4 t5 t6 tp tc p5 h tk e5 F8 N8 z1 z2 z3
  show wpAny _ _ (execs cut8.1.2 _) Q E _
  rw [cut9.2]
  refine wpAny_execs_cons (stmt9 (R := (sx, instObj 134 dx) :: (L + 1 + 1 + 1 + 1 + 1, p5) :: (D, listOf (List.toArray (((List.range (cells.length + 1)).map fun i => breakF cells i leg).map Value.bool)) (cells.length + 1)) :: (eA, listOf (List.toArray es) k) :: (L + 1 + 1 + 1, q3) :: (L + 1 + 1 + 1 + 1, q4) :: R) B X T
    F8 (kst_newsOf N8 (by kst_inAny)) (hb.mono fun p hp => List.Mem.tail _ (List.Mem.tail _ (List.Mem.tail _ (List.Mem.tail _ (List.Mem.tail _ (List.Mem.tail _ hp)))))) (fun p hp => ?ap)
    (List.Mem.tail _ (List.Mem.head _)) e5 (List.Mem.head _) (List.Mem.tail _ (List.Mem.tail _ (List.Mem.head _))) rfl ?_)
  case ap =>
    rcases List.mem_cons.mp hp with rfl | hp
    · exact z2
    · rcases List.mem_cons.mp hp with rfl | hp
      · exact Ne.symm z3
      · exact z1 p hp
  intro R' h tk F9 N9 sub
  show wpAny _ _ (execs cut9.1.2 _) Q E _
  rw [cut10.2]
  refine wpAny_execs_cons (stmt10 B X T F9 N9 (sub _ (List.Mem.tail _ (List.Mem.tail _ (List.Mem.tail _ (List.Mem.tail _ (List.Mem.tail _ (List.Mem.tail _ c2))))))) d2 ?_)
  intro R' h tk F10 N10
  exact hret _ _ _ _ F10 N10
end


end
section
/-- an entry that is no cell lies elsewhere than a cell -/
theorem off_cell {g h : Heap} {L a c : Addr} {o oc : Obj} {v : Option Value} {news : List (Addr × Obj)} (N : News g L h news) (ha : (a, o) ∈ news) (hc : (c, oc) ∈ news) (hd : oc.data = .cell v) (hn : ∀ v, o.data ≠ .cell v) : @Ne Nat a c := fun e => by
  have q : o = oc := News.one N ha hc e
  rw [q] at hn
  exact hn v hd
theorem DeckI.noCell {w : World} {od : Obj} {ll : Addr} {m : Int} {ws : List Value} {ls : List Int} {nn : Nat} (D : DeckI w od ll m ws ls nn) : ∀ v, od.data ≠ .cell v := fun v h => by
  obtain ⟨t, es, ep, _, e, _⟩ := D.fa
  rw [h] at e; cases e
theorem list_noCell {vs : List Value} {n : Nat} : ∀ v, (listOf (List.toArray vs) n).data ≠ .cell v := fun v h => by cases h
section
variable {w : World} {h₀ base : Heap} {L fa : Addr} {cd : Value} {mean : ExcName → Option Value} {mg mb : Str → Option Value} {s : Shared} {E : Value → Shared → Prop} {Q : Flow → Shared → Prop} {u : Str → Option Value}
/-- from the building loop's end to the law's end -/
theorem done_does {tx rw dk ll dat : Addr} {turn : Int} {t : Tok} {W : List Nat} {txs rws : List Value} {k1 k2 nn : Nat} {od o1 o2 o3 o4 o5 : Obj} {mm : Int} {ws : List Value} {ls : List Int} {R Bd : List (Addr × Obj)} {G I P : List Int × List Value}
    (B : Below callerA base [] h₀) (X : (Mine.hd.heap_1 w.params).In h₀) (T : Top Mine.seen1 (looseW Mine.seen1 [Str.ofString "SYLLABLES", Str.ofString "cluster_break"]) mean mg mb h₀)
    (hE : PassesOwn (model Pg w) (callerA.deeper (lawEnv L fa cd)) (lawEnv L fa cd) E)
    (lo : 1 ≤ W.length) (hi : W.length ≤ 100) (hW : WOk W) (hI : IntsAre txs (W.map (symCode turn.toNat))) (HR : RowV R rws (cw W)) (D : DeckI w od ll mm ws ls nn) (ld : (dk == sysModules) = false) (P4 : Four tx rw dk ll R)
    (F : Fr h₀ L s.heap (kstB u [(Str.ofString "turn", .int turn t), (Str.ofString "deck", .ref dk), (Str.ofString "row", .ref rw)]))
    (N : News h₀ L s.heap ((tx, listOf (List.toArray txs) k1) :: (rw, listOf (List.toArray rws) k2) :: (dk, od) :: (ll, listOf (List.toArray ws) nn) :: R))
    (c1 : (L + 1, o1) ∈ R) (d1 : o1.data = .cell (some (.ref tx))) (c2 : (L + 1 + 1, o2) ∈ R) (d2 : o2.data = .cell (some (.ref dat))) (c3 : (L + 1 + 1 + 1, o3) ∈ R) (d3 : o3.data = .cell none)
    (c4 : (L + 1 + 1 + 1 + 1, o4) ∈ R) (d4 : o4.data = .cell none) (c5 : (L + 1 + 1 + 1 + 1 + 1, o5) ∈ R) (d5 : o5.data = .cell none)
    (hB : ∀ p ∈ Bd, p ∈ R) (db : DB w Bd dat G I P) (co : ∀ k < 18, CellOf G I P (symCode turn.toNat k) (symCell k))
    (z3 : ∀ p ∈ Bd, p.1 ≠ L + 1 + 1 + 1) (z4 : ∀ p ∈ Bd, p.1 ≠ L + 1 + 1 + 1 + 1) (z5 : ∀ p ∈ Bd, p.1 ≠ L + 1 + 1 + 1 + 1 + 1)
    (n2 : @Ne Nat tx dk) (n3 : @Ne Nat tx ll) (n4 : @Ne Nat rw dk) (n5 : @Ne Nat rw ll) (n6 : @Ne Nat dk ll)
    (hret : ∀ R' h tk u, Fr h₀ L h u → News h₀ L h R' → Q (.ret (.bool true)) { s with heap := h, toks := tk }) :
    wpAny (model Pg w) (callerA.deeper (lawEnv L fa cd)) (execs (cut4.1.1 :: cut4.1.2) (lawEnv L fa cd)) Q E s := by
  have mR : ∀ p ∈ R, p ∈ (tx, listOf (List.toArray txs) k1) :: (rw, listOf (List.toArray rws) k2) :: (dk, od) :: (ll, listOf (List.toArray ws) nn) :: R := fun p hp => List.Mem.tail _ (List.Mem.tail _ (List.Mem.tail _ (List.Mem.tail _ hp)))
  have l13 : @Ne Nat (L + 1) (L + 1 + 1 + 1) := Nat.ne_of_lt (Nat.lt_succ_of_lt (Nat.lt_succ_self _))
  have l14 : @Ne Nat (L + 1) (L + 1 + 1 + 1 + 1) := Nat.ne_of_lt (Nat.lt_succ_of_lt (Nat.lt_succ_of_lt (Nat.lt_succ_self _)))
  have l15 : @Ne Nat (L + 1) (L + 1 + 1 + 1 + 1 + 1) := Nat.ne_of_lt (Nat.lt_succ_of_lt (Nat.lt_succ_of_lt (Nat.lt_succ_of_lt (Nat.lt_succ_self _))))
  have l23 : @Ne Nat (L + 1 + 1) (L + 1 + 1 + 1) := Nat.ne_of_lt (Nat.lt_succ_self _)
  have l24 : @Ne Nat (L + 1 + 1) (L + 1 + 1 + 1 + 1) := Nat.ne_of_lt (Nat.lt_succ_of_lt (Nat.lt_succ_self _))
  have l25 : @Ne Nat (L + 1 + 1) (L + 1 + 1 + 1 + 1 + 1) := Nat.ne_of_lt (Nat.lt_succ_of_lt (Nat.lt_succ_of_lt (Nat.lt_succ_self _)))
  let keep : Addr × Obj → Bool := fun p => p.1 != L + 1 + 1 + 1 && p.1 != L + 1 + 1 + 1 + 1 && p.1 != L + 1 + 1 + 1 + 1 + 1
  have kin : ∀ p ∈ R, p.1 ≠ L + 1 + 1 + 1 → p.1 ≠ L + 1 + 1 + 1 + 1 → p.1 ≠ L + 1 + 1 + 1 + 1 + 1 → p ∈ R.filter keep := fun p hp h1 h2 h3 => List.mem_filter.mpr ⟨hp, by
    show (p.1 != L + 1 + 1 + 1 && p.1 != L + 1 + 1 + 1 + 1 && p.1 != L + 1 + 1 + 1 + 1 + 1) = true
    simp only [Bool.and_eq_true, bne_iff_ne, ne_eq]
    exact ⟨⟨h1, h2⟩, h3⟩⟩
  have kout : ∀ p ∈ R.filter keep, p ∈ R ∧ p.1 ≠ L + 1 + 1 + 1 ∧ p.1 ≠ L + 1 + 1 + 1 + 1 ∧ p.1 ≠ L + 1 + 1 + 1 + 1 + 1 := fun p hp => by
    obtain ⟨h1, h2⟩ := List.mem_filter.mp hp
    have h3 : (p.1 != L + 1 + 1 + 1 && p.1 != L + 1 + 1 + 1 + 1 && p.1 != L + 1 + 1 + 1 + 1 + 1) = true := h2
    simp only [Bool.and_eq_true, bne_iff_ne, ne_eq] at h3
    exact ⟨h1, h3.1.1, h3.1.2, h3.2⟩
  have tin : ∀ {a : Addr} {vs : List Value} {k : Nat}, (a, listOf (List.toArray vs) k) ∈ (tx, listOf (List.toArray txs) k1) :: (rw, listOf (List.toArray rws) k2) :: (dk, od) :: (ll, listOf (List.toArray ws) nn) :: R → @Ne Nat a (L + 1 + 1 + 1) ∧ @Ne Nat a (L + 1 + 1 + 1 + 1) ∧ @Ne Nat a (L + 1 + 1 + 1 + 1 + 1) :=
    fun m => ⟨off_cell N m (mR _ c3) d3 list_noCell, off_cell N m (mR _ c4) d4 list_noCell, off_cell N m (mR _ c5) d5 list_noCell⟩
  obtain ⟨tx3, tx4, tx5⟩ := tin (List.Mem.head _)
  obtain ⟨rw3, rw4, rw5⟩ := tin (List.Mem.tail _ (List.Mem.head _))
  obtain ⟨ll3, ll4, ll5⟩ := tin (List.Mem.tail _ (List.Mem.tail _ (List.Mem.tail _ (List.Mem.head _))))
  have mD : (dk, od) ∈ (tx, listOf (List.toArray txs) k1) :: (rw, listOf (List.toArray rws) k2) :: (dk, od) :: (ll, listOf (List.toArray ws) nn) :: R := List.Mem.tail _ (List.Mem.tail _ (List.Mem.head _))
  have dk3 := off_cell N mD (mR _ c3) d3 D.noCell
  have dk4 := off_cell N mD (mR _ c4) d4 D.noCell
  have dk5 := off_cell N mD (mR _ c5) d5 D.noCell
  let R4 := (tx, listOf (List.toArray txs) k1) :: (rw, listOf (List.toArray rws) k2) :: R.filter keep
  have r4 : ∀ {b : Addr}, @Ne Nat tx b → @Ne Nat rw b → (∀ p ∈ R.filter keep, p.1 ≠ b) → ∀ p ∈ R4, p.1 ≠ b := fun h1 h2 h3 p hp => by
    rcases List.mem_cons.mp hp with rfl | hp
    · exact h1
    · rcases List.mem_cons.mp hp with rfl | hp
      · exact h2
      · exact h3 p hp
  have hb : Base w R4 L tx rw dat (W.map (symCode turn.toNat)) (cw W) := by
    refine ⟨by rw [cw_len]; exact lo, by rw [cw_len]; exact hi, by rw [cw_len, List.length_map], ⟨o1, List.Mem.tail _ (List.Mem.tail _ (kin _ c1 l13 l14 l15)), d1⟩, ⟨o2, List.Mem.tail _ (List.Mem.tail _ (kin _ c2 l23 l24 l25)), d2⟩,
      ⟨txs, k1, List.Mem.head _, hI⟩, ⟨rws, k2, List.Mem.tail _ (List.Mem.head _), HR.1, fun k hk => ?_⟩, ⟨G, I, P, db.mono fun p hp => List.Mem.tail _ (List.Mem.tail _ (kin p (hB p hp) (z3 p hp) (z4 p hp) (z5 p hp))), ⟨by rw [cw_len, List.length_map], fun k hk => ?_⟩⟩, fun leg => gram_cw hW leg, cw_ok hW, fun i hi => ?_⟩
    · obtain ⟨v, hv, a, t1, t2, n, e, m⟩ := HR.2 k hk
      refine ⟨v, hv, a, t1, t2, n, e, List.Mem.tail _ (List.Mem.tail _ (kin _ m ?_ ?_ ?_))⟩
      · exact off_cell N (mR _ m) (mR _ c3) d3 fun v h => by cases h
      · exact off_cell N (mR _ m) (mR _ c4) d4 fun v h => by cases h
      · exact off_cell N (mR _ m) (mR _ c5) d5 fun v h => by cases h
    · rw [List.length_map] at hk
      rw [cw_at hk]
      have : (W.map (symCode turn.toNat)).getD k 0 = symCode turn.toNat (W.getD k 0) := by
        simp [List.getD, hk]
      rw [this]
      exact co _ (hW k hk)
    · rw [cw_len] at hi
      rw [cw_at hi]
      exact takeC_sym (hW i hi)
  refine tail_does (R := R4) B X T hE F rfl rfl (kst_newsOf N fun p hp => ?_) D ld d3 d4 d5 (r4 n2 n4 fun p hp => P4.a3 p (kout p hp).1) (r4 n3 n5 fun p hp => P4.a4 p (kout p hp).1) (r4 tx3 rw3 fun p hp => (kout p hp).2.1) (r4 tx4 rw4 fun p hp => (kout p hp).2.2.1) (r4 tx5 rw5 fun p hp => (kout p hp).2.2.2)
    n6 dk3 dk4 ll3 ll4 dk5 ll5 hb hret
  simp only [R4, List.mem_cons] at hp
  rcases hp with rfl | rfl | rfl | rfl | rfl | rfl | rfl | hp
  · exact mD
  · exact List.Mem.tail _ (List.Mem.tail _ (List.Mem.tail _ (List.Mem.head _)))
  · exact mR _ c3
  · exact mR _ c4
  · exact mR _ c5
  · exact List.Mem.head _
  · exact List.Mem.tail _ (List.Mem.head _)
  · exact mR _ (kout p hp).1
end


end
section
theorem words_turn_1 : True := by
  k_with "my memT" => first | exact List.Mem.head _ | (refine List.mem_cons_of_mem _ ?_; k_extra "my memT")
  trivial
theorem m_itemT {prog : Program} {w : World} {A : Around} {E : Value → Shared → Prop} {s : Shared} {h₀ : Heap} {L l : Addr} {value slice : Expr} {news : List (Addr × Obj)} {vs : List Value} {nn : Nat} {k : Int} {u : Tok} {v : Value} {Q : Value → Shared → Prop} (N : News h₀ L s.heap news) (hm : (l, listOf (List.toArray vs) nn) ∈ news)
    (hx : vs[k.toNat]? = some v) (h0 : 0 ≤ k) (hk : k < 2 ^ 63) (h : Q v s)
    (hs : subscripted slice false (.ref l) (.int k u) = operate [.ref l, .int k u] (getItem (.ref l) (.int k u))) :
    wpAny (model prog w) A (subscriptTail value slice (.ref l) (.int k u)) Q E s := kba_turn (value' := .Name (Str.ofString "_") ⟨0, 0, 0, 0⟩) (fun _ => rfl) (m_item N hm h0 hk hx h hs (fun _ => rfl))
theorem item_dropT {prog : Program} {w : World} {A : Around} {E : Value → Shared → Prop} {s : Shared} {h₀ : Heap} {L l : Addr} {value slice : Expr} {news : List (Addr × Obj)} {vs : List Value} {nn : Nat} {k : Int} {u : Tok} {v : Value} {Q : Value → Shared → Prop} (N : News h₀ L s.heap ((l, listOf (List.toArray vs) nn) :: news))
    (hx : vs[k.toNat]? = some v) (h0 : 0 ≤ k) (hk : k < 2 ^ 63) (h : News h₀ L s.heap news → Q v s)
    (hs : subscripted slice false (.ref l) (.int k u) = operate [.ref l, .int k u] (getItem (.ref l) (.int k u))) :
    wpAny (model prog w) A (subscriptTail value slice (.ref l) (.int k u)) Q E s := m_itemT N (List.Mem.head _) hx h0 hk (h fun p hp => N p (List.mem_cons_of_mem _ hp)) hs
theorem symCell_lo {k : Nat} (h : k < 13) : symCell k = kinds13.getD k c0 := by unfold symCell; rw [if_pos h]
theorem kindsBZ {w : World} {z : Int} (h1 : z < 13) (h0 : 0 ≤ z) {news : List (Addr × Obj)} : Does w 257 [] 2 30 news (fun r news' => ∃ l rs nn a t1 t2 n, r = .ref l ∧ rs.length = 13 ∧ rs[z.toNat]? = some (.ref a) ∧ news' = (l, listOf (List.toArray rs) nn) :: (a, tupObj (symCell z.toNat) t1 t2 n) :: news ∧ (∀ p ∈ news, p.1 < l) ∧ ∀ p ∈ news, p.1 < a) := by
  have hk : z.toNat < 13 := by omega
  rw [symCell_lo hk]
  exact kindsB hk
theorem hangBZ {w : World} {z : Int} (turn : Nat) (h1 : ¬ z < 13) (h2 : z < 18) {news : List (Addr × Obj)} : Does w 264 [] 2 30 news (fun r news' => ∃ l rs nn a t1 t2 n, r = .ref l ∧ rs.length = 5 ∧ rs[(z - 13).toNat]? = some (.ref a) ∧ news' = (l, listOf (List.toArray rs) nn) :: (a, tupH (symCode turn z.toNat, (symCell z.toNat).k) t1 t2 n) :: news ∧ (∀ p ∈ news, p.1 < l) ∧ ∀ p ∈ news, p.1 < a) := by
  have hk : (z - 13).toNat < 5 := by omega
  have e : (z - 13).toNat = z.toNat - 13 := by omega
  have e1 : (symCode turn z.toNat, (symCell z.toNat).k) = hang5.getD (z - 13).toNat (0, Str.ofString "") := by
    unfold symCode symCell
    rw [if_neg (by omega), if_neg (by omega), e]
  rw [e1]
  exact hangB hk
theorem symCell_hi {z : Int} (h : ¬ z < 13) : (symCell z.toNat).i = Str.ofString "None" ∧ (symCell z.toNat).p = false := by
  unfold symCell
  rw [if_neg (by omega)]
  exact ⟨rfl, rfl⟩
theorem tup_hi {z : Int} (h : ¬ z < 13) {a : Addr} {t1 t2 : Tok} {n : Nat} {l : List (Addr × Obj)} (m : (a, ({ cls := .type "tuple", data := .seq #[.str (symCell z.toNat).k t1, .str (Str.ofString "None") t2, .bool false] n } : Obj)) ∈ l) : (a, tupObj (symCell z.toNat) t1 t2 n) ∈ l := by
  obtain ⟨e1, e2⟩ := symCell_hi h
  unfold tupObj
  rw [e1, e2]
  exact m
theorem words_turn_2 : True := by
  k_with "call ref" => (
      (with_reducible show wpAny _ _ (call (Value.ref 257) _) _ _ _)
      k_dflt (refine' Does.here (kindsBZ ?p1 ?p2) ?k1 ?k2 ?k3 ?k4 ?k5 ?k6 ?k7 ?k8 ?k9 ?_; (case p1 => assumption); (case p2 => assumption); k_extra "my sides")
      (intro v9ω news9ω h9ω tk9ω F9ω N9ω r9ω)
      (obtain ⟨l9ω, rs9ω, nn9ω, a9ω, t8ω, t9ω, n9ω, e9ω, len9ω, at9ω, f9ω, l1ω, l2ω⟩ := r9ω)
      (subst e9ω)
      (subst f9ω)
      (try dsimp only)
      (try k_lt l1ω)
      (try k_lt l2ω)
      (try k_sweep)
      (try k_fold))
  trivial
theorem words_turn_3 : True := by
  k_with "call ref" => (
      (with_reducible show wpAny _ _ (call (Value.ref 264) _) _ _ _)
      k_dflt (refine' Does.here (hangBZ ?p0 ?p1 ?p2) ?k1 ?k2 ?k3 ?k4 ?k5 ?k6 ?k7 ?k8 ?k9 ?_; (case p1 => assumption); (case p2 => omega); (case p0 => k_extra "my turn"); k_extra "my sides")
      (intro v9ω news9ω h9ω tk9ω F9ω N9ω r9ω)
      (obtain ⟨l9ω, rs9ω, nn9ω, a9ω, t8ω, t9ω, n9ω, e9ω, len9ω, at9ω, f9ω, l1ω, l2ω⟩ := r9ω)
      (subst e9ω)
      (subst f9ω)
      (try dsimp only)
      (try k_lt l1ω)
      (try k_lt l2ω)
      (try k_sweep)
      (try k_fold))
  trivial
set_option maxRecDepth 100000 in
set_option maxHeartbeats 4000000 in
theorem build_turn {w : World} {h₀ base : Heap} {L fa tx rw dk ll : Addr} {cd : Value} {mean : ExcName → Option Value} {mg mb : Str → Option Value} {s : Shared} {E : Value → Shared → Prop} {Q : Flow → Shared → Prop} {u : Str → Option Value} {turn k : Int} {t t9 : Tok} {px : Pos}
    {txs rws : List Value} {k1 k2 nn : Nat} {od o1 : Obj} {mm : Int} {ws : List Value} {ls : List Int} {R : List (Addr × Obj)}
    (B : Below callerA base [] h₀) (X : (Mine.hd.heap_1 w.params).In h₀) (T : Top Mine.seen1 (looseW Mine.seen1 [Str.ofString "SYLLABLES", Str.ofString "cluster_break"]) mean mg mb h₀)
    (F : Fr h₀ L s.heap (kstB u [(Str.ofString "turn", .int turn t), (Str.ofString "deck", .ref dk), (Str.ofString "row", .ref rw)]))
    (N : News h₀ L s.heap ((tx, listOf (List.toArray txs) k1) :: (rw, listOf (List.toArray rws) k2) :: (dk, od) :: (ll, listOf (List.toArray ws) nn) :: R))
    (hc : (L + 1, o1) ∈ R) (hd : o1.data = .cell (some (.ref tx))) (D : DeckI w od ll mm ws ls nn) (lo : (dk == sysModules) = false) (P : Four tx rw dk ll R)
    (n1 : @Ne Nat tx rw) (n2 : @Ne Nat tx dk) (n3 : @Ne Nat tx ll) (n4 : @Ne Nat rw dk) (n5 : @Ne Nat rw ll) (n6 : @Ne Nat dk ll) (g0 : 0 ≤ turn) (g1 : turn ≤ 12) (z1 : txs.length < 1000) (z2 : rws.length < 1000) :
    wpAny (model Pg w) (callerA.deeper (lawEnv L fa cd)) (assign (.Name (Str.ofString "go") px) (lawEnv L fa cd) (.int k t9)) (fun _ s₃ => wpAny (model Pg w) (callerA.deeper (lawEnv L fa cd)) (execs forParts.1 (lawEnv L fa cd)) (BTurn w h₀ L tx rw dk ll turn t txs rws R s Q) E s₃) E s := by
  unfold Pg
  revert X
  k_fill
  intro X
  obtain ⟨p1, p2, p3, p4⟩ := P
  dsimp only [kstB] at F
  unfold lawEnv forParts lawParts
  dsimp only
  try k_fold
  k_with "my deck" => assumption
  k_with "my turn" => exact turn.toNat
  k_with "my item" => first
    | (k_dflt (refine' item_tupleT ?t ?a ?b ?c ?d ?_; (case t => exact News.isTup (by k_asm) (by k_extra "my memT")); (case a => decide); (case b => decide); (case c => rfl); (case d => rfl); k_whole))
    | ((rename News _ _ _ _ => lN'); k_dflt (refine' item_dropT lN' ?hx ?h0 ?hk ?_ ?hs; (case hx => assumption); (case hs => with_unfolding_all rfl); (case h0 => omega); (case hk => omega)); intro N9; clear lN')
    | (k_dflt (refine' m_itemT ?N ?hm ?hx ?h0 ?hk ?_ ?hs; (case N => k_asm); (case hx => assumption); (case hm => k_mem); (case hs => with_unfolding_all rfl); (case h0 => omega); (case hk => omega)))
  k_with "my getm" => k_dflt (refine' kl_method ?N ?m PySem.F.slot_list_append PySem.F.type_list_append ?_; (case N => k_asm); (case m => k_mem))
  k_with "my if" => refine Stop.at ?_
  k_steps
  k_with "my app" =>
    k_dflt (refine' append_K ?k1 ?k2 ?k3 ?_ ?z; (case k1 => k_asm); (case k2 => k_asm); (case k3 => k_upd); (case z => (rw [sizeLine_eq]; simp; omega)); k_whole)
    intro h' F' N'
    try k_sweep
  unfold Stop
  refine wpAny_If ?_
  k_steps
  all_goals try simp only [List.push_toArray] at N'
  all_goals (
    refine' BTurn.intro F' N' ?hR ?e1 ?e2 ?e3 ?hy ?x1 ?x2 ?x3 ?x4 ?x5 ?D
    case hR => k_extra "my inc"
    case e1 => with_unfolding_all rfl
    case e2 => with_unfolding_all rfl
    case e3 => with_unfolding_all rfl
    case x1 => k_mem
    case x2 => k_mem
    case x3 => first | (exact tup_hi (by assumption) (by k_mem)) | k_mem
    case x4 => k_mem
    case x5 => k_mem
    case D => assumption
    case hy => omega)


end
theorem fresh_law : True := by
  k_with_none
  w_top off
  k_with "is_list" => exact News.isList (by k_asm) (by k_mem)
  k_with "exec While Compare cons nil" => k_extra "my while"
  k_with "exec While BoolOp cons nil" => k_extra "my while"
  k_with "exec While Constant cons nil" => k_extra "my whileT"
  k_with "MPost" => with_reducible first | refine MPost.next ?_ | refine MPost.ret ?_ | refine MPost.brk ?_ | refine MPost.cont ?_
  k_with "seqQ" => with_reducible first | refine seqQ.next ?_ | refine seqQ.ret ?_ | refine seqQ.brk ?_ | refine seqQ.cont ?_
  k_with "my enter" => (
      refine' enter ?k6 ?k7 ?k9 ?kB ?kN ?kU ?c2 ?c3 ?c4 ?c5 ?_
      case k6 => k_is
      case k7 => k_is
      case k9 => first | exact fun _ _ => BindsTo.of_eq rfl | (intro s9ω X9ω; exact binds_K X9ω rfl (by k_is) rfl rfl rfl)
      case kB => exact locs rfl
      case kN => exact rfl
      case kU => exact rfl
      case c2 => exact rfl
      case c3 => exact rfl
      case c4 => exact rfl
      case c5 => decide
      intro dpω unω gdω outerω A₀ω baseω gω h₁ω Lω gnω drω osω tkω meanω mgω mbω Eω Bω Xω Tω hdω huω eω Aω mω hEω Fω Nω)
  k_with "my ret" => (
      first
        | refine Post.ret (by k_asm) ?kN9 ⟨rfl, ?_⟩
        | refine Post.next (by k_asm) ?kN9 ⟨rfl, ?_⟩
      case kN9 => first | k_asm | exact kst_newsOf (by assumption) (by kst_inAny)
      k_extra "my clean")
  k_with "my clean" => ((repeat (rename Fr _ _ _ _ => z9ω; clear z9ω)); (repeat (rename News _ _ _ _ => z9ω; clear z9ω)); (try clear hEω Bω Xω Tω hdω huω))
  k_with "my roomx" => first | exact room_c (by assumption) rfl | exact room_b (by assumption) rfl | exact room_a (by assumption) | exact room_d (by assumption) rfl | exact room_e (by assumption) rfl | exact Nat.le_of_ble_eq_true rfl | omega
  k_with "my room" => ((try dsimp (config := { zetaDelta := true }) only [Around.deeper, Around.mark, Around.in1]); k_extra "my roomx")
  k_with "my sides" => (
      (case k1 => k_asm)
      (case k2 => k_asm)
      (case k3 => k_asm)
      (case k4 => k_asm)
      (case k5 => k_asm)
      (case k6 => exact rfl)
      (case k7 => exact rfl)
      (case k8 => k_extra "my room")
      (case k9 => k_extra "my room"))
  k_with "compareOp In str ref" => (k_here; (with_reducible show wpAny _ _ (compareOp CmpOp.In (Value.str _ _) (Value.ref _)) _ _ _); (with_unfolding_all refine' in_tuple_strs ?k1 ?k2 ?_; (case k1 => first | exact kun_topT (by k_asm) (by k_asm) (by k_is) | exact News.isTup (by k_asm) (by k_mem)); (case k2 => kde_strs); k_whole))
  k_with "compareOp NotIn str ref" => (k_here; (with_reducible show wpAny _ _ (compareOp CmpOp.NotIn (Value.str _ _) (Value.ref _)) _ _ _); (with_unfolding_all refine' notin_tuple_strs ?k1 ?k2 ?_; (case k1 => first | exact kun_topT (by k_asm) (by k_asm) (by k_is) | exact News.isTup (by k_asm) (by k_mem)); (case k2 => kde_strs); k_whole))
  k_with "my plain" => ((intro h9ω tk9ω F9ω N9ω); (try k_sweep))
  k_with "subscriptTail" => k_extra "my item"
  k_with "compareOp In str ref" => k_extra "my in"
  k_with "my plain1" => ((intro u9ω h9ω tk9ω F9ω N9ω); (try k_sweep))
  k_with "compareOp NotEq ref ref" => (k_here; (with_reducible show wpAny _ _ (compareOp CmpOp.NotEq (Value.ref _) (Value.ref _)) _ _ _); (with_unfolding_all refine' ne_intsK ?k1 ?k2 ?k3 ?k4 ?k5 ?_; (case k1 => is_list); (case k2 => l_ints); (case k3 => is_list); (case k4 => l_ints); (case k5 => k_extra "my room"); k_whole))
  k_with "my mem" => first | ktr_member | exact List.Mem.head _ | (refine List.mem_cons_of_mem _ ?_; k_extra "my mem")
  k_with "k_mem" => k_extra "my mem"
  k_with "compareOp NotIn str ref" => k_extra "my notin"
  k_with "call builtin:dict.get" => k_extra "my get"
  k_with "getMethod ref" => k_extra "my getm"
  k_with "setItem ref str" => k_extra "my set"
  k_with "k_room" => ((try dsimp (config := { zetaDelta := true }) only); (try simp only [depth_under_make, depth_under_kw, depth_in1, depth_deeper, depth_caller]); (try dsimp only); k_extra "my roomx")
  k_with "getItem ref str" => k_extra "my gitem"
  k_with "pyIter ref" => k_extra "my for"
  k_with "k_qdec" => decide +kernel
  k_with "my lt" => with_reducible (first | assumption | exact And.left (by assumption) | exact And.left (And.right (by assumption)) | exact And.left (And.right (And.right (by assumption))) | exact And.left (And.right (And.right (And.right (by assumption)))) | exact And.left (And.right (And.right (And.right (And.right (by assumption))))) | exact And.left (And.right (And.right (And.right (And.right (And.right (by assumption)))))) | exact And.left (And.right (And.right (And.right (And.right (And.right (And.right (by assumption))))))) | exact And.left (And.right (And.right (And.right (And.right (And.right (And.right (And.right (by assumption)))))))) | exact And.left (And.right (And.right (And.right (And.right (And.right (And.right (And.right (And.right (by assumption))))))))) | exact And.left (And.right (And.right (And.right (And.right (And.right (And.right (And.right (And.right (And.right (by assumption)))))))))))
  k_with "k_ne" => first | with_reducible assumption | with_reducible exact Ne.symm (by assumption) | (refine Nat.ne_of_lt ?_; k_extra "my lt") | (refine Nat.ne_of_gt ?_; k_extra "my lt") | (refine Nat.ne_of_gt ?_; (repeat (first | exact Nat.lt_succ_self _ | refine Nat.lt_succ_of_lt ?_)); done) | (refine Nat.ne_of_lt ?_; (repeat (first | exact Nat.lt_succ_self _ | refine Nat.lt_succ_of_lt ?_)); done) | (refine neN ?_; (try dsimp only); omega)
  k_with "l_idx" => first | assumption | exact idx_a (by assumption) (by assumption) | exact idx_b (by assumption) | exact idx_c (by assumption) (by assumption)
  k_with "JPost" => with_reducible first | refine JPost.next ?_ | refine JPost.ret ?_ | refine JPost.brk ?_ | refine JPost.cont ?_
  k_with "storeName" => (k_here; k_dflt (refine' storeX_M ?F ?N ?_ ?a ?b; (case F => k_asm); (case N => k_asm); (case a => rfl); (case b => rfl); k_whole); (intro h'ω tk'ω m'ω F'ω N'ω); (try k_sweep))
  k_with "ksw skip" => repeat (first | (refine' ite_skip ?hx ?_; (case hx => first | exact ne_stored (by assumption) rfl | exact h2ω _ (List.Mem.head _) | exact h2ω _ (List.Mem.tail _ (List.Mem.head _)) | exact h2ω _ (List.Mem.tail _ (List.Mem.tail _ (List.Mem.head _))))) | refine ite_skip2 (by assumption) ?_)
  k_with "ksw_same" => (
      intro zω h2ω h3ω
      first
        | rfl
        | (k_extra "ksw skip"; first | rfl | (refine Eq.symm ?_; k_extra "ksw skip"; rfl))
        | ((simp only [List.forall_mem_cons, List.not_mem_nil, false_implies, implies_true, and_true, ne_eq] at h2ω); (simp (zetaDelta := true) [h2ω]; done))
        | ((simp only [List.forall_mem_cons, List.not_mem_nil, false_implies, implies_true, and_true, ne_eq] at h2ω); (simp only [List.contains_cons, List.contains_nil, Bool.or_false, Bool.or_eq_false_iff, beq_eq_false_iff_ne, ne_eq] at h3ω); (simp (zetaDelta := true) [h2ω, h3ω]; done)))
  k_with "execs cons" => (k_here; (first | (refine' norm_M (gn := gnω) (dr := drω) (os := osω) ?F9 ?e9 ?_; (case F9 => k_asm); (case e9 => exact rfl); intro tk9ω) | ((try dsimp only); (try k_gentoks))); first | (with_reducible refine' execs_one ?_) | ((with_reducible refine' execs_let ?_); intro kkω))
  k_with "my leaf" => with_reducible first | show Post _ _ _ _ _ _ _ _ | show JOut _ _ _ _ _ _ _ _ _ | show MEnd _ _ _ _ _ _ _ _ _ _ _ _ _ | show MOut _ _ _ _ _ _ _ _ _ _ _
  k_with "k_steps" => repeat' (first | k_unfold | ((fail_if_success k_extra "my leaf"); first | walk1 | (dsimp only; walk1)) | (leave1; walk_say "STEP leave1"; (try dsimp only)) | fail "no step")
  k_with "my cond" => simp only [true_and, and_true, false_and, and_false, true_or, or_true, false_or, or_false, if_true, if_false, Bool.false_eq_true, Bool.true_eq_false, reduceCtorEq, and_self, or_self, not_true_eq_false, not_false_eq_true]
  k_with "eval Constant int" => (k_here; (with_reducible refine int_M ?_); intro t9ω tk9ω)
  k_with "eval Constant str" => (k_here; (with_reducible refine str_M ?_); intro t9ω tk9ω)
  k_with "binaryOp Add int int" => (k_here; (with_reducible refine add_M ?_); intro t9ω tk9ω)
  k_with "binaryOp Sub int int" => (k_here; (with_reducible refine sub_M ?_); intro t9ω tk9ω)
  k_with "call ref" => (
      (with_reducible show wpAny _ _ (call (Value.ref 145) _) _ _ _)
      k_dflt (refine' Does.val1 (place_does ?p1 ?p2 ?p3) ?k1 ?k2 ?k3 ?k4 ?k5 ?k6 ?k7 ?k8 ?k9 ?_; k_extra "my sides"; (case p1 => k_mem); (case p2 => assumption); (case p3 => first | assumption | omega))
      k_extra "my plain1")
  k_with "call ref" => (
      (with_reducible show wpAny _ _ (call (Value.ref 28) _) _ _ _)
      k_dflt (refine' Does.val syllable_does ?k1 ?k2 ?k3 ?k4 ?k5 ?k6 ?k7 ?k8 ?k9 ?_; k_extra "my sides")
      k_extra "my plain")
  k_with "call ref" => (
      (with_reducible show wpAny _ _ (call (Value.ref 52) _) _ _ _)
      k_dflt (refine' Does.val joins_does ?k1 ?k2 ?k3 ?k4 ?k5 ?k6 ?k7 ?k8 ?k9 ?_; k_extra "my sides")
      k_extra "my plain")
  k_with "call ref" => (
      (with_reducible show wpAny _ _ (call (Value.ref 59) _) _ _ _)
      k_dflt (first
        | (refine' Does.val (pairS_does ?p1) ?k1 ?k2 ?k3 ?k4 ?k5 ?k6 ?k7 ?k8 ?k9 ?_; (case p1 => assumption); k_extra "my sides")
        | (refine' Does.val (pairN_does ?p1) ?k1 ?k2 ?k3 ?k4 ?k5 ?k6 ?k7 ?k8 ?k9 ?_; (case p1 => assumption); k_extra "my sides"))
      k_extra "my plain")
  k_with "call ref" => (
      (with_reducible show wpAny _ _ (call (Value.ref 173) _) _ _ _)
      k_dflt (refine' Does.val (rget_does' (by assumption) (by assumption)) ?k1 ?k2 ?k3 ?k4 ?k5 ?k6 ?k7 ?k8 ?k9 ?_; k_extra "my sides")
      k_extra "my plain")
  k_with "my cell" => first | assumption | exact Cells.at' (by assumption) _ (by omega)
  k_with "call ref" => (
      (with_reducible show wpAny _ _ (call (Value.ref 236) _) _ _ _)
      k_dflt (first
       | ((with_reducible show wpAny _ _ (call _ [_, Value.str (Str.ofString "gcb") _, _]) _ _ _); refine' Does.val (dgetG_does ?p1 ?p2) ?k1 ?k2 ?k3 ?k4 ?k5 ?k6 ?k7 ?k8 ?k9 ?_; k_extra "my sides"; (case p1 => assumption); (case p2 => assumption); k_extra "my plain")
       | ((with_reducible show wpAny _ _ (call _ [_, Value.str (Str.ofString "incb") _, _]) _ _ _); refine' Does.val1 (dgetI_does ?p1 ?p2) ?k1 ?k2 ?k3 ?k4 ?k5 ?k6 ?k7 ?k8 ?k9 ?_; k_extra "my sides"; (case p1 => assumption); (case p2 => k_extra "my cell"); k_extra "my plain1")
       | ((with_reducible show wpAny _ _ (call _ [_, Value.str (Str.ofString "ep") _, _]) _ _ _); refine' Does.val (dgetP_does ?p1 ?p2) ?k1 ?k2 ?k3 ?k4 ?k5 ?k6 ?k7 ?k8 ?k9 ?_; k_extra "my sides"; (case p1 => assumption); (case p2 => k_extra "my cell"); k_extra "my plain")))
  k_with "call ref" => (
      (with_reducible show wpAny _ _ (call (Value.ref 35) _) _ _ _)
      k_dflt (first
        | (refine' Does.val1 (kindHs_does ?p1) ?k1 ?k2 ?k3 ?k4 ?k5 ?k6 ?k7 ?k8 ?k9 ?_; (case p1 => assumption); k_extra "my sides"; k_extra "my plain1")
        | (refine' Does.val (kindHn_does ?p1) ?k1 ?k2 ?k3 ?k4 ?k5 ?k6 ?k7 ?k8 ?k9 ?_; (case p1 => assumption); k_extra "my sides"; k_extra "my plain")))
  k_with "call ref" => (
      (with_reducible show wpAny _ _ (call (Value.ref 45) _) _ _ _)
      k_dflt (refine' Does.val1 (kind_does ?p1 ?p2) ?k1 ?k2 ?k3 ?k4 ?k5 ?k6 ?k7 ?k8 ?k9 ?_; k_extra "my sides"; (case p1 => assumption); (case p2 => k_extra "my cell"))
      k_extra "my plain1")
  k_with "call ref" => (
      (with_reducible show wpAny _ _ (call (Value.ref 66) _) _ _ _)
      k_dflt (refine' Does.val (conj_does ?p1 ?p2 ?p3 ?p4 ?p5 ?p6 ?p7) ?k1 ?k2 ?k3 ?k4 ?k5 ?k6 ?k7 ?k8 ?k9 ?_; k_extra "my sides"; (case p1 => assumption); (case p2 => k_mem); (case p3 => assumption); (case p4 => omega); (case p5 => assumption); (case p6 => omega); (case p7 => omega))
      k_extra "my plain")
  k_with "call ref" => (
      (with_reducible show wpAny _ _ (call (Value.ref 73) _) _ _ _)
      k_dflt (refine' Does.val (pict_does ?p1 ?p2 ?p3 ?p4 ?p5 ?p6 ?p7) ?k1 ?k2 ?k3 ?k4 ?k5 ?k6 ?k7 ?k8 ?k9 ?_; k_extra "my sides"; (case p1 => assumption); (case p2 => k_mem); (case p3 => assumption); (case p4 => omega); (case p5 => assumption); (case p6 => omega); (case p7 => omega))
      k_extra "my plain")
  k_with "call ref" => (
      (with_reducible show wpAny _ _ (call (Value.ref 80) _) _ _ _)
      k_dflt (refine' Does.val1 (flags_does ?p1 ?p2 ?p3 ?p4 ?p5 ?p6 ?p7) ?k1 ?k2 ?k3 ?k4 ?k5 ?k6 ?k7 ?k8 ?k9 ?_; k_extra "my sides"; (case p1 => assumption); (case p2 => k_mem); (case p3 => assumption); (case p4 => omega); (case p5 => assumption); (case p6 => omega); (case p7 => omega))
      k_extra "my plain1")
  k_with "call ref" => (
      (with_reducible show wpAny _ _ (call (Value.ref 87) _) _ _ _)
      k_dflt (refine' Does.val (flag_does ?p1 ?p2 ?p3 ?p4 ?p5 ?p6 ?p7) ?k1 ?k2 ?k3 ?k4 ?k5 ?k6 ?k7 ?k8 ?k9 ?_; k_extra "my sides"; (case p1 => assumption); (case p2 => k_mem); (case p3 => assumption); (case p4 => omega); (case p5 => assumption); (case p6 => omega); (case p7 => omega))
      k_extra "my plain")
  k_with "call ref" => (
      (with_reducible show wpAny _ _ (call (Value.ref 95) _) _ _ _)
      k_dflt (refine' Does.val (break_does ?p1 ?p2 ?p3 ?p4 ?p5 ?p6 ?p7) ?k1 ?k2 ?k3 ?k4 ?k5 ?k6 ?k7 ?k8 ?k9 ?_; k_extra "my sides"; (case p1 => assumption); (case p2 => k_mem); (case p3 => assumption); (case p4 => omega); (case p5 => assumption); (case p6 => omega); (case p7 => omega))
      k_extra "my plain")
  k_with "my inc" => first | exact fun _ h => h | exact kst_inSelf | kst_inAny
  k_with "call builtin:len" => (k_here; (with_reducible show wpAny _ _ (call (Value.builtin "len") [Value.ref _]) _ _ _); k_dflt (refine' row_len ?k1 ?k2 ?k3 ?k4 ?_; (case k1 => k_asm); (case k2 => assumption); (case k3 => k_extra "my inc"); (case k4 => omega)); k_whole)
  k_with "subscriptTail Name Name ref int" => k_extra "my row"
  k_with "subscriptTail Name BinOp ref int" => k_extra "my row"
  k_with "my row" => (k_here; (with_reducible show wpAny _ _ (subscriptTail _ _ (Value.ref _) (Value.int _ _)) _ _ _); k_dflt (refine' row_item ?k1 ?k2 ?k3 ?k4 ?k5 ?k6 ?_ ?k8 ?k9; (case k1 => k_asm); (case k2 => assumption); (case k3 => k_extra "my inc"); (case k8 => with_unfolding_all rfl); (case k9 => (intro _; with_unfolding_all rfl)); (case k4 => omega); (case k5 => omega); (case k6 => omega)); k_whole; (intro a9ω t8ω t9ω n9ω hm9ω))
  k_with "call ref" => (
      (with_reducible show wpAny _ _ (call (Value.ref 297) _) _ _ _)
      k_dflt (refine' Does.val1 (past_does ?p1 ?p2 ?p3 ?p4 ?p5) ?k1 ?k2 ?k3 ?k4 ?k5 ?k6 ?k7 ?k8 ?k9 ?_; k_extra "my sides"; (case p1 => first | assumption | exact RowAt.mono (by assumption) (by k_extra "my inc")); (case p2 => omega); (case p4 => k_mem); (case p5 => kde_strs); (case p3 => omega))
      k_extra "my plain1")
  k_with "my rowp" => first | assumption | exact RowAt.mono (by assumption) (by k_extra "my inc")
  k_with "call ref" => (
      (with_reducible show wpAny _ _ (call (Value.ref 304) _) _ _ _)
      k_dflt (refine' Does.val1 (syl_does ?p1 ?p2 ?p3 ?p4) ?k1 ?k2 ?k3 ?k4 ?k5 ?k6 ?k7 ?k8 ?k9 ?_; k_extra "my sides"; (case p1 => k_extra "my rowp"); (case p2 => omega); (case p3 => omega); (case p4 => omega))
      k_extra "my plain1")
  k_with "my plainR" => (
      (intro v9ω news9ω h9ω tk9ω F9ω N9ω r9ω)
      (obtain ⟨e9ω, t9ω, f9ω⟩ := r9ω)
      (subst f9ω)
      (subst e9ω)
      (try dsimp only)
      (try k_fold))
  k_with "call ref" => (
      (with_reducible show wpAny _ _ (call (Value.ref 311) _) _ _ _)
      k_dflt (refine' Does.val1 (pics_does ?p1 ?p2 ?p3 ?p4) ?k1 ?k2 ?k3 ?k4 ?k5 ?k6 ?k7 ?k8 ?k9 ?_; k_extra "my sides"; (case p1 => k_extra "my rowp"); (case p2 => omega); (case p3 => omega); (case p4 => omega))
      k_extra "my plain1")
  k_with "call ref" => (
      (with_reducible show wpAny _ _ (call (Value.ref 318) _) _ _ _)
      k_dflt (refine' Does.val1 (cons_does ?p1 ?p2 ?p3 ?p4) ?k1 ?k2 ?k3 ?k4 ?k5 ?k6 ?k7 ?k8 ?k9 ?_; k_extra "my sides"; (case p1 => k_extra "my rowp"); (case p2 => omega); (case p3 => omega); (case p4 => omega))
      k_extra "my plain1")
  k_with "my len" => ((try simp only [List.length_append, List.length_take, List.length_drop, List.length_cons, List.length_nil]); omega)
  k_with "subscriptTail Name Slice ref ref" => (k_here; (with_reducible show wpAny _ _ (subscriptTail _ (PySem.Expr.Slice _ _ none _) (Value.ref _) (Value.ref _)) _ _ _); k_dflt (first
      | (refine' m_slice_to ?F ?N ?l ?i ?z ?_ ?s ?t; (case F => k_asm); (case N => k_asm); (case l => k_mem); (case i => first | assumption | omega); (case z => k_extra "my len"); (case s => with_unfolding_all rfl); (case t => (intro _; with_unfolding_all rfl)))
      | (refine' m_slice_from ?F ?N ?l ?i ?z ?_ ?s ?t; (case F => k_asm); (case N => k_asm); (case l => k_mem); (case i => first | assumption | decide | omega); (case z => k_extra "my len"); (case s => with_unfolding_all rfl); (case t => (intro _; with_unfolding_all rfl)))); k_whole; intro D'ω h'ω F'ω N'ω l1ω; (try k_lt l1ω); (try k_sweep))
  k_with "binaryOp Add ref ref" => (k_here; k_dflt (refine' m_add ?F ?N ?l ?i ?z ?_; (case F => k_asm); (case N => k_asm); (case l => k_mem); (case i => k_mem); (case z => k_extra "my len")); k_whole; intro D'ω h'ω F'ω N'ω l1ω; (try k_lt l1ω); (try k_sweep))
  k_with "k_all" => first | assumption | exact allLt_ne (by first | assumption | exact And.right (by assumption) | exact And.right (And.right (by assumption)) | exact And.right (And.right (And.right (by assumption))))
  k_with "call ref" => (
      (with_reducible show wpAny _ _ (call (Value.ref 152) _) _ _ _)
      k_dflt (refine' Does.val (like_does ?p1) ?k1 ?k2 ?k3 ?k4 ?k5 ?k6 ?k7 ?k8 ?k9 ?_; (case p1 => assumption); k_extra "my sides")
      k_extra "my plain")
  k_with "subscriptTail Attribute Name Slice ref ref" => (refine kba_turn (value' := PySem.Expr.Name (PySem.Str.ofString "_") ⟨0, 0, 0, 0⟩) (fun _ => rfl) ?_)
  k_with "call ref" => (
      (with_reducible show wpAny _ _ (call (Value.ref 243) _) _ _ _)
      k_dflt (first
        | (refine' Does.val (mapof_old ?p1 ?p2) ?k1 ?k2 ?k3 ?k4 ?k5 ?k6 ?k7 ?k8 ?k9 ?_; (case p1 => assumption); (case p2 => assumption); k_extra "my sides"; k_extra "my plain")
        | (refine' Does.here (mapof_new ?p1 ?p2 ?p3 ?p4) ?k1 ?k2 ?k3 ?k4 ?k5 ?k6 ?k7 ?k8 ?k9 ?_; (case p1 => assumption); (case p2 => assumption); (case p3 => assumption); (case p4 => omega); k_extra "my sides"
           (intro v9ω news9ω h9ω tk9ω F9ω N9ω r9ω)
           (obtain ⟨a9ω, x9ω, e9ω, R9ω, D9ω, f9ω, s9ω⟩ := r9ω)
           (subst e9ω)
           (obtain ⟨g1ω, u1ω, v0ω, g2ω, u2ω, lsω, g3ω, u3ω, lvω, n1ω, n2ω⟩ := RD.inst R9ω)
           (try dsimp only)
           (try k_fold))))
  k_with "call ref" => (
      (with_reducible show wpAny _ _ (call (Value.ref 180) _) _ _ _)
      k_dflt (refine' Does.here (rput_does ?p1 ?p2 ?p3) ?k1 ?k2 ?k3 ?k4 ?k5 ?k6 ?k7 ?k8 ?k9 ?_; (case p1 => assumption); (case p2 => assumption); (case p3 => assumption); k_extra "my sides")
      (intro v9ω news9ω h9ω tk9ω F9ω N9ω r9ω)
      (obtain ⟨e9ω, R9ω, f9ω⟩ := r9ω)
      (subst e9ω)
      (try dsimp only)
      (try k_fold))
  k_with "call ref" => (
      (with_reducible show wpAny _ _ (call (Value.ref 208) _) _ _ _)
      k_dflt (refine' Does.here defs_does ?k1 ?k2 ?k3 ?k4 ?k5 ?k6 ?k7 ?k8 ?k9 ?_; k_extra "my sides")
      k_extra "my defd")
  k_with "call ref" => (
      (with_reducible show wpAny _ _ (call (Value.ref 257) _) _ _ _)
      k_dflt (refine' Does.here kinds_does ?k1 ?k2 ?k3 ?k4 ?k5 ?k6 ?k7 ?k8 ?k9 ?_; k_extra "my sides")
      (intro v9ω news9ω h9ω tk9ω F9ω N9ω r9ω)
      (obtain ⟨l9ω, e9ω, R9ω, s9ω, t9ω⟩ := r9ω)
      (subst e9ω)
      (try dsimp only)
      (try k_fold))
  k_with "call builtin:len" => (k_here; (with_reducible show wpAny _ _ (call (Value.builtin "len") [Value.ref _]) _ _ _); k_dflt (refine' kinds_len ?k1 ?k2 ?k3 ?_; (case k1 => k_asm); (case k2 => assumption); (case k3 => k_extra "my inc")); k_whole)
  k_with "call ref" => (
      (with_reducible show wpAny _ _ (call (Value.ref 264) _) _ _ _)
      k_dflt (refine' Does.here hang_does ?k1 ?k2 ?k3 ?k4 ?k5 ?k6 ?k7 ?k8 ?k9 ?_; k_extra "my sides")
      (intro v9ω news9ω h9ω tk9ω F9ω N9ω r9ω)
      (obtain ⟨l9ω, e9ω, R9ω, s9ω, t9ω⟩ := r9ω)
      (subst e9ω)
      (try dsimp only)
      (try k_fold))
  k_with "call ref" => (
      (with_reducible show wpAny _ _ (call (Value.ref 283) _) _ _ _)
      k_dflt (refine' Does.here (code_does ?p1 ?p2 ?p3 ?p4) ?k1 ?k2 ?k3 ?k4 ?k5 ?k6 ?k7 ?k8 ?k9 ?_; k_extra "my sides"; (case p1 => omega); (case p2 => omega); (case p3 => omega); (case p4 => omega))
      (intro v9ω news9ω h9ω tk9ω F9ω N9ω r9ω)
      (obtain ⟨⟨u9ω, e9ω⟩, s9ω⟩ := r9ω)
      (subst e9ω)
      (try dsimp only)
      (try k_fold))
  k_with "call ref" => (
      (with_reducible show wpAny _ _ (call (Value.ref 229) _) _ _ _)
      k_dflt (refine' Does.here (dput_does ?p1 ?p2 ?p3 ?p4 ?p5) ?k1 ?k2 ?k3 ?k4 ?k5 ?k6 ?k7 ?k8 ?k9 ?_; k_extra "my sides"; (case p1 => first | assumption | exact DSt.sub (by assumption) (fun p hp _ => (by assumption : ∀ p ∈ _, p ∈ _) p hp)); (case p5 => exact rfl); (case p2 => omega); (case p3 => decide); (case p4 => k_extra "my putok"))
      (intro v9ω news9ω h9ω tk9ω F9ω N9ω r9ω)
      (obtain ⟨e9ω, D9ω, s9ω⟩ := r9ω)
      (subst e9ω)
      (obtain ⟨dd9ω, dm9ω, df9ω, g1ω, u1ω, g2ω, u2ω, g3ω, u3ω, w3ω, g4ω, u4ω, w4ω, i1ω, i2ω⟩ := DSt.inst D9ω)
      (try dsimp only)
      (try k_fold))
  k_with "call ref" => (
      (with_reducible show wpAny _ _ (call (Value.ref 290) _) _ _ _)
      k_dflt (refine' Does.here (ldata_does ?p1) ?k1 ?k2 ?k3 ?k4 ?k5 ?k6 ?k7 ?k8 ?k9 ?_; k_extra "my sides"; (case p1 => first | assumption | omega))
      k_extra "my ldata")
  k_with "my db" => first | assumption | exact DB.mono (by assumption) (by k_extra "my inc")
  k_with "call ref" => (
      (with_reducible show wpAny _ _ (call (Value.ref 236) _) _ _ _)
      k_dflt (first
       | ((with_reducible show wpAny _ _ (call _ [_, Value.str (Str.ofString "incb") _, _]) _ _ _); refine' Does.val1 (dgetI_does ?p1 ?p2) ?k1 ?k2 ?k3 ?k4 ?k5 ?k6 ?k7 ?k8 ?k9 ?_; k_extra "my sides"; (case p1 => k_extra "my db"); (case p2 => k_extra "my cell"); k_extra "my plain1")
       | ((with_reducible show wpAny _ _ (call _ [_, Value.str (Str.ofString "ep") _, _]) _ _ _); refine' Does.val (dgetP_does ?p1 ?p2) ?k1 ?k2 ?k3 ?k4 ?k5 ?k6 ?k7 ?k8 ?k9 ?_; k_extra "my sides"; (case p1 => k_extra "my db"); (case p2 => k_extra "my cell"); k_extra "my plain")))
  k_with "call ref" => (
      (with_reducible show wpAny _ _ (call (Value.ref 45) _) _ _ _)
      k_dflt (refine' Does.val1 (kind_does ?p1 ?p2) ?k1 ?k2 ?k3 ?k4 ?k5 ?k6 ?k7 ?k8 ?k9 ?_; k_extra "my sides"; (case p1 => k_extra "my db"); (case p2 => k_extra "my cell"))
      k_extra "my plain1")
  k_with "call ref" => (
      (with_reducible show wpAny _ _ (call (Value.ref 124) _) _ _ _)
      k_dflt (refine' Does.val (held_does (o := ?o) ?p1 ?p2) ?k1 ?k2 ?k3 ?k4 ?k5 ?k6 ?k7 ?k8 ?k9 ?_; k_extra "my sides"; (case p1 => k_mem); (case p2 => k_mem); (case o => exact none))
      k_extra "my plain")
  k_with "call ref" => (
      (with_reducible show wpAny _ _ (call (Value.ref 131) _) _ _ _)
      k_dflt (refine' Does.here (take_any (o := ?o) ?p1 ?p2 ?p3) ?k1 ?k2 ?k3 ?k4 ?k5 ?k6 ?k7 ?k8 ?k9 ?_; k_extra "my sides"; (case p1 => k_mem); (case p2 => k_mem); (case p3 => assumption); (case o => exact none))
      (intro v9ω news9ω h9ω tk9ω F9ω N9ω r9ω)
      (obtain ⟨e9ω, tp9ω, tc9ω, m9ω, s9ω⟩ := r9ω)
      (subst e9ω)
      (try dsimp only)
      (try k_fold))
  k_with "my room" => first | ((try dsimp only [Around.deeper, Around.mark, Around.in1]); k_extra "my roomx") | ((try simp only [depth_deeper, units_deeper]); (try dsimp only [callerA, claimMargin, recursionLimit, cLine]); first | omega | decide) | (with_unfolding_all decide)
  k_with "call ref" => (
      (with_reducible show wpAny _ _ (call (Value.ref 257) _) _ _ _)
      k_dflt (refine' Does.here kindsA ?k1 ?k2 ?k3 ?k4 ?k5 ?k6 ?k7 ?k8 ?k9 ?_; k_extra "my sides")
      (intro v9ω news9ω h9ω tk9ω F9ω N9ω r9ω)
      (obtain ⟨l9ω, rs9ω, nn9ω, e9ω, len9ω, f9ω, l1ω⟩ := r9ω)
      (subst e9ω)
      (subst f9ω)
      (try dsimp only)
      (try k_lt l1ω)
      (try k_sweep)
      (try k_fold))
  k_with "call ref" => (
      (with_reducible show wpAny _ _ (call (Value.ref 264) _) _ _ _)
      k_dflt (refine' Does.here hangA ?k1 ?k2 ?k3 ?k4 ?k5 ?k6 ?k7 ?k8 ?k9 ?_; k_extra "my sides")
      (intro v9ω news9ω h9ω tk9ω F9ω N9ω r9ω)
      (obtain ⟨l9ω, rs9ω, nn9ω, e9ω, len9ω, f9ω, l1ω⟩ := r9ω)
      (subst e9ω)
      (subst f9ω)
      (try dsimp only)
      (try k_lt l1ω)
      (try k_sweep)
      (try k_fold))
  k_with "call builtin:len" => (k_here; (with_reducible show wpAny _ _ (call (Value.builtin "len") [Value.ref _]) _ _ _); k_dflt (refine' len_fix ?k1 ?k2 ?k3 ?k4 ?_; (case k1 => k_asm); (case k2 => k_mem); (case k3 => assumption); (case k4 => decide)); k_whole)
  k_with "call builtin:len" => (k_here; (with_reducible show wpAny _ _ (call (Value.builtin "len") [Value.ref _]) _ _ _); (rename News _ _ _ _ => lN'ω); k_dflt (refine' len_drop lN'ω ?k3 ?k4 ?_; (case k3 => assumption); (case k4 => decide)); k_whole; intro N9ω; clear lN'ω)
  k_with "call ref" => (
      (with_reducible show wpAny _ _ (call (Value.ref 276) _) _ _ _)
      k_dflt (refine' Does.here (draw_upd ?p0 ?p1 ?p2 ?U1 ?U2 ?p3 ?p4 ?p5) ?k1 ?k2 ?k3 ?k4 ?k5 ?k6 ?k7 ?k8 ?k9 ?_; k_extra "my sides"; (case U1 => k_updF); (case p0 => first | exact DeckI.fa (by assumption) | exact ⟨_, by assumption⟩); (case U2 => (intro oω; (try dsimp only); k_updF)); (case p1 => k_extra "my deck"); (case p2 => assumption); (case p3 => k_ne); (case p4 => omega); (case p5 => omega))
      (intro v9ω news9ω h9ω tk9ω F9ω N9ω r9ω)
      (obtain ⟨⟨k9ω, u9ω, e9ω, b9ω, c9ω⟩, od9ω, m9ω, ws9ω, ls9ω, nn9ω, D9ω, f9ω⟩ := r9ω)
      (subst e9ω)
      (subst f9ω)
      (try dsimp only at N9ω)
      (try dsimp only)
      (try k_sweep)
      (try k_fold))
  k_with "call ref" => (
      (with_reducible show wpAny _ _ (call (Value.ref 283) _) _ _ _)
      k_dflt (refine' Does.val1 (codeA ?p1 ?p2 ?p3 ?p4) ?k1 ?k2 ?k3 ?k4 ?k5 ?k6 ?k7 ?k8 ?k9 ?_; k_extra "my sides"; (case p1 => omega); (case p2 => omega); (case p3 => omega); (case p4 => omega))
      k_extra "my plain1")
  k_with "exec If" => k_extra "my if"
  k_with "call builtin:list.append" => k_extra "my app"
  k_with "subscriptTail Call Name nil nil BinOp ref int" => k_extra "my item"
  k_with "subscriptTail Call Name nil nil Name ref int" => k_extra "my item"
  k_with "MPostL" => dsimp only [MPostL, KswPost]
  k_with "subscriptTail Name UnaryOp ref int" => (k_here; (with_reducible show wpAny _ _ (subscriptTail _ _ (Value.ref _) (Value.int _ _)) _ _ _); k_dflt (refine' m_last ?N ?m ?_ ?hs ?hg; (case N => k_asm); (case m => k_mem); (case hs => with_unfolding_all rfl); (case hg => (intro _; with_unfolding_all rfl))))
  k_with "call ref" => (
      (with_reducible show wpAny _ _ (call (Value.ref 325) _) _ _ _)
      k_dflt (refine' Does.val1 (end_does ?p1 ?p2 ?p3 ?p4) ?k1 ?k2 ?k3 ?k4 ?k5 ?k6 ?k7 ?k8 ?k9 ?_; k_extra "my sides"; (case p1 => first | assumption | exact RowAt.mono (by assumption) (by k_extra "my inc")); (case p2 => omega); (case p3 => omega); (case p4 => omega))
      k_extra "my plain1")
  k_with "call ref" => (
      (with_reducible show wpAny _ _ (call (Value.ref 95) _) _ _ _)
      k_dflt (refine' Does.val (break_does ?p1 ?p2 ?p3 ?p4 ?p5 ?p6 ?p7) ?k1 ?k2 ?k3 ?k4 ?k5 ?k6 ?k7 ?k8 ?k9 ?_; k_extra "my sides"; (case p1 => k_extra "my db"); (case p2 => k_mem); (case p3 => assumption); (case p4 => omega); (case p5 => assumption); (case p6 => omega); (case p7 => omega))
      k_extra "my plain")
  trivial
section
theorem words_law_1 : True := by
  k_with "call ref" => (
      (with_reducible show wpAny _ _ (call (Value.ref 290) _) _ _ _); refine Stop.at ?_)
  trivial
theorem words_law_2 : True := by
  k_with "exec For Name Call cons nil" => (refine Stop.at ?_)
  trivial
set_option maxRecDepth 100000 in
set_option maxHeartbeats 4000000 in
theorem law_holds : PySem.Challenge.rw_nt0026_01.Holds := Mine.hd (by
  k_with "my deck" => first
    | assumption
    | exact ⟨⟨_, by assumption⟩, (fold_mix _ _ ⟨by decide, by decide⟩).1, (fold_mix _ _ ⟨by decide, by decide⟩).2, by assumption, take_len, lst_old _⟩
  k_go0
  all_goals try k_fold
  k_steps
  unfold Stop
  refine' Does.here (ldataZ ?p1 ?p2 ?p3) ?k1 ?k2 ?k3 ?k4 ?k5 ?k6 ?k7 ?k8 ?k9 ?_
  k_extra "my sides"
  case p1 => assumption
  case p2 => assumption
  case p3 =>
    simp only [List.forall_mem_cons]
    repeat' (first | exact List.forall_mem_nil _ | refine And.intro ?_ ?_)
    all_goals first | rfl | exact cell_notIt (by assumption) | exact DeckI.notIt (by assumption)
  intro v9 news9 h9 tk9 F9 N9 r9
  obtain ⟨dat, B, e9, z, itB, ⟨G, I, P, DB9, CO⟩, e8⟩ := r9
  subst e9
  subst e8
  simp only [List.forall_mem_cons] at z
  obtain ⟨-, z2, z3, z5, -, z7, -, z9, z10, z11, z12, z13, -⟩ := z
  replace z2 := z2 (list_notDB (us := []) (.inl rfl))
  replace z3 := z3 (list_notDB (us := []) (.inl rfl))
  replace z5 := z5 (DeckI.notDB (by assumption))
  replace z7 := z7 (list_notDB (DeckI.ff (by assumption)))
  replace z9 := z9 (cell_notDB (by assumption))
  replace z10 := z10 (cell_notDB (by assumption))
  replace z11 := z11 (cell_notDB (by assumption))
  replace z12 := z12 (cell_notDB (by assumption))
  replace z13 := z13 (cell_notDB (by assumption))
  dsimp only [List.cons_append, List.nil_append] at N9
  try dsimp only at z2 z3 z5 z7 z9 z10 z11 z12 z13
  try dsimp only
  try k_fold
  k_steps
  unfold Stop
  (rename News _ _ _ _ => N8)
  replace N8 := pick4 N8
  k_with "my for" =>
    refine Stop.at ?_
  with_reducible refine For_turns (h₀ := ?hh9) (m := ?mm9) ?fa9 ?fb9 ?fc9 ?fd9
  (case fa9 => (rename Fr _ _ _ _ => lF'); exact lF')
  (case fc9 => intro _; rfl)
  (case fd9 => passes_own)
  k_steps
  unfold Stop
  refine' build_loop rfl (by assumption) ?hn ?hn' ?F ?N ?hR ?D ?e1 ?e2 ?e3 ?P ?step ?done
  case hn => omega
  case hn' => omega
  case F => k_asm
  case N => k_asm
  case hR =>
    simp only [List.forall_mem_cons]
    repeat' (first | exact itB | refine And.intro ?_ ?_)
    all_goals first | rfl | exact cell_notIt (by assumption)
  case D => assumption
  case e1 => with_unfolding_all rfl
  case e2 => with_unfolding_all rfl
  case e3 => with_unfolding_all rfl
  case P =>
    constructor
    all_goals simp only [List.forall_mem_cons]
    all_goals refine ⟨?_, ?_, ?_, ?_, ?_, ?_⟩
    all_goals first | assumption | k_ne
  case step =>
    intro W txs rws k1 k2 od mm ws ls nn R1 u9 t9 h9 tk9 hi hW ht1 hI1 hr1 HR D1 hRR P1 F1 N1
    have hc := hRR _ (List.Mem.tail _ (List.Mem.tail _ (List.Mem.tail _ (List.Mem.tail _ (List.Mem.head _)))))
    exact build_turn (by assumption) (by assumption) (by assumption) F1 N1 hc (by assumption) D1 (by assumption) P1 (by k_ne) (by k_ne) (by k_ne) (by k_ne) (by k_ne) (by k_ne) (by assumption) (by omega) (by omega) (by omega)
  case done =>
    intro W txs rws k1 k2 od mm ws ls nn R1 u9 h9 tk9 hi hW ht1 hI1 hr1 HR D1 hRR P1 F1 N1
    refine' done_does (by assumption) (by assumption) (by assumption) ?hE ?lo ?hi hW hI1 HR D1 (by assumption) P1 F1 N1 (hRR _ (List.Mem.tail _ (List.Mem.tail _ (List.Mem.tail _ (List.Mem.tail _ (List.Mem.head _)))))) ?d1 (hRR _ (List.Mem.tail _ (List.Mem.tail _ (List.Mem.tail _ (List.Mem.head _))))) ?d2
      (hRR _ (List.Mem.tail _ (List.Mem.tail _ (List.Mem.head _)))) ?d3 (hRR _ (List.Mem.tail _ (List.Mem.head _))) ?d4 (hRR _ (List.Mem.head _)) ?d5 (fun p hp => hRR p (List.Mem.tail _ (List.Mem.tail _ (List.Mem.tail _ (List.Mem.tail _ (List.Mem.tail _ hp)))))) DB9 CO z11 z10 z9 ?n2 ?n3 ?n4 ?n5 ?n6 ?hret
    case hE => passes_own
    case lo => omega
    case hi => omega
    case d1 => assumption
    case d2 => assumption
    case d3 => assumption
    case d4 => assumption
    case d5 => assumption
    case n2 => k_ne
    case n3 => k_ne
    case n4 => k_ne
    case n5 => k_ne
    case n6 => k_ne
    case hret =>
      clear N1 F1 HR D1 P1
      intro R' h tk u F N
      try dsimp only
      k_steps
      all_goals try dsimp only
      all_goals (k_end; wrow_close))


end
end Mine
set_option maxRecDepth 100000 in
set_option maxHeartbeats 4000000 in
theorem PySem.Challenge.cw_nt0026_01_holds : PySem.Challenge.rw_nt0026_01.Holds :=
  Mine.law_holds
