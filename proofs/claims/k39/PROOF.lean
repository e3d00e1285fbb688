import PyProof.Rows.All
import PyProof.Rows.All
import Wide.All
import OpenK.AllK
import Wide.FinOn
import HandS.ForExc
import HandS.ForMost
import KE.SortData
import HandS.Head0
import HandS.Head1
import HandS.Head2
import HandS.HeadEnd
import HandS.HeadHook1
import HandS.Exc
import HandS.TupAny
import HandS.Deep
import HandS.IsInst
import HandS.Wide
import HandS.Codes
import HandS.TupLe
import HandS.Flow
import HandS.More
import HandS.Conv
import HandS.Text
import HandS.TryElse
import HandS.Strs
import HandS.SetTxt0
import HandS.SetFor
import HandS.ExcInit
import HandS.ExcField
import HandS.DictTup
import HandS.Small
import HandS.Zip
import HandS.Rev
import HandS.Dict
import KE.KDictZip
import HandS.List
import HandS.MapSum
import HandS.Style
import HandS.SetKeys
import PyProof.DictMoreH
import HandS.FStr
import HandS.RaiseMore
import PyProof.DictKinds
import PyProof.AutoSeq1
import KE.KTryMore
import HandS.Replace
import PyProof.StrOps2
import PySem.Challenge.RW_roomtally_k39_lines_read_or_refused
set_option Elab.async false
set_option linter.all false
set_option maxRecDepth 100000
set_option maxHeartbeats 1000000 -- each

namespace L2.DL
open L2 PyProof.Rows PySem.Spec PySem PySem.Calls
/-! ### the head: facts of the program's top, read off by one run -/
theorem walk_ofX {l : PySem.W.OpenLaw} {n k : Nat} {q : Program} {loose : List Str} {XP : (Str → Option Value) → Heap → Prop} {YP : World → Heap → Prop} {d : DefRec} {CX : World → CXT} {x : Str}
    (hn : l.most = some n) (hn2 : n ≤ sizeLine) (hdf : d.params.defaults = []) (hr : Room k callerA)
    (F : ∀ (w : World) (mg : Str → Option Value) (fa : Addr) (h : Heap), YP w h → h.Ns mainGlobals mg → mg d.name = some (.ref fa) →
      ∃ (K : PySem.W.Frag) (fd : FuncData) (sp : Sp), K.In h ∧ (∀ (s : Shared) (u : Value), BindsTo s fd ⟨[u], []⟩ [(x, u)]) ∧
        (∀ (H : Hp) (a : Addr) (ns : List Int), ns.length ≤ n → Only H → SqL K H a (ns.map V.int) → sp [.ref a] H (fun v _ => v = .bl true) fun _ _ _ => False) ∧
        ∀ base : Heap, K.In base → base.Ns mainGlobals mg → FnOk l.prog w K mg base (CX w) k fa fd [x] sp)
    (hCX : ∀ (w : World) (H : Hp) (s : Shared) (e : Value) (s' : Shared), CX w [] H s (fun _ _ _ => False) e s' → False) :
    PySem.W.WalkO q loose XP YP l.row.toRowW d [] (fun f vs => PySem.call f vs) := by
  refine Att.attach_call hn hdf fun w s₀ s₁ mg mb fa o pm cd doc a vs ns G Y ho hd hcd hmg hobj hints hlen hg => ?_
  obtain ⟨K, fd, sp, KX, hb, hsp, hF⟩ := F w mg fa _ Y G.T.g hmg
  exact law_call KX G.T.g G.T.b G.T.builtins G.T.nolimit hg hobj hints (Nat.le_trans hlen hn2) hr hF hb (fun H hO hS => hsp H a ns hlen hO hS) fun H e s' => hCX w H s₁ e s'
abbrev FB : Type := PySem.W.Frag → Bool
def obsX (fb : List FB) (fn : List He.FnD) (K : PySem.W.Frag) : He.Al := ((fb.all fun f => f K) && fn.all fun d => (He.Fa.code d.at_ d.qual).ok K, fn.map fun d => He.fnObs K d.at_)
def SaysX (fb : List FB) (fn : List He.FnD) (K : PySem.W.Frag) : Prop := obsX fb fn K = He.valE fn
def obsXG (n : Nat) (fb : List FB) (fn : List He.FnD) (g : Addr → Option Obj) : He.Al := obsX fb fn (He.frG g (He.asG g n))
def hookX (n : Nat) (fb : List FB) (fn : List He.FnD) : PySem.W.Hook where
  α := He.Al
  obs := fun s => obsXG n fb fn s.heap.get?
  val := fun _ => He.valE fn
  says := fun _ h => ∃ K : PySem.W.Frag, K.In h ∧ SaysX fb fn K
  of := fun _ _ e => ⟨_, He.frG_in, e⟩
  keeps := fun _ _ _ ⟨K, hK, c⟩ k => ⟨K, PySem.W.Frag.In.keeps hK k, c⟩
theorem obsXG_eq {n : Nat} {fb : List FB} {fn : List He.FnD} {g : Addr → Option Obj} {s : Shared} (h : ∀ a, g a = s.heap.get? a) : obsXG n fb fn g = (hookX n fb fn).obs s := by
  have e : g = s.heap.get? := funext h
  rw [e] <;> rfl
section
variable {fb : List FB} {fn : List He.FnD} {K : PySem.W.Frag}
theorem SaysX.fact (c : SaysX fb fn K) (i : Nat) {f : FB} (h : fb[i]? = some f) : f K = true := by
  have c1 := (He.ba (show ((fb.all fun f => f K) && fn.all fun d => (He.Fa.code d.at_ d.qual).ok K) = true from congrArg (fun z : He.Al => z.1) c)).1
  exact List.all_eq_true.mp c1 f (List.mem_of_getElem? h)
theorem SaysX.def_ (c : SaysX fb fn K) (i : Nat) {d : He.FnD} (h : fn[i]? = some d) :
    ∃ oc od osl kV doc pm an cdv ct, K.lookup (He.fAd K d.at_) = some ⟨oc, od, .func (PySem.W.fnOf d.name d.qual d.params d.body d.scope .none kV doc pm an cdv ct), osl⟩ ∧ PySem.W.codeIn K cdv d.qual = true := by
  have c2 := (He.ba (show ((fb.all fun f => f K) && fn.all fun d => (He.Fa.code d.at_ d.qual).ok K) = true from congrArg (fun z : He.Al => z.1) c)).2
  have e : fn.map (fun d => He.fnObs K d.at_) = fn.map He.FnD.val := congrArg (fun z : He.Al => z.2) c
  have e2 : (fn.map fun d => He.fnObs K d.at_)[i]? = (fn.map He.FnD.val)[i]? := by rw [e]
  rw [List.getElem?_map, List.getElem?_map, h] at e2
  exact He.fn_ok (Option.some.inj e2) (List.all_eq_true.mp c2 d (List.mem_of_getElem? h))
end
theorem ns_int {K : PySem.W.Frag} {x : Str} {i : Int} (c : (He.Fa.int x i).ok K = true) : ∃ t, PySem.W.nsIn K mainGlobals x = some (some (.int i t)) := by
  have c2 : (match PySem.W.nsIn K mainGlobals x with
    | some (some (.int j _)) => decide (j = i)
    | _ => false) = true := c
  cases e : PySem.W.nsIn K mainGlobals x with
  | none => rw [e] at c2; cases c2
  | some o =>
    rw [e] at c2
    cases o with
    | none => cases c2
    | some v =>
      cases v with
      | int j t =>
        have ej : j = i := of_decide_eq_true c2
        rw [ej]; exact ⟨t, rfl⟩
      | _ => cases c2
theorem ns_str {K : PySem.W.Frag} {x z : Str} (c : (He.Fa.str x z).ok K = true) : ∃ t, PySem.W.nsIn K mainGlobals x = some (some (.str z t)) := by
  have c2 : (match PySem.W.nsIn K mainGlobals x with
    | some (some (.str y _)) => decide (y = z)
    | _ => false) = true := c
  cases e : PySem.W.nsIn K mainGlobals x with
  | none => rw [e] at c2; cases c2
  | some o =>
    rw [e] at c2
    cases o with
    | none => cases c2
    | some v =>
      cases v with
      | str y t =>
        have ej : y = z := of_decide_eq_true c2
        rw [ej]; exact ⟨t, rfl⟩
      | _ => cases c2
def excObjB (K : PySem.W.Frag) (C : Addr) : Bool := match K.lookup C with
  | some ⟨.type "type", _, .cls cd, sl⟩ => (match cd.mro, sl.toList with
    | .ref C' :: bm, [_, _, _, _, some (.builtin n), _] => C' == C && n == "ValueError.__new__" && !cd.hasDel && cd.hasDict && PySem.HandSPX.refsVE bm
    | _, _ => false)
  | _ => false
theorem excObj_of {K : PySem.W.Frag} {C : Addr} (q : excObjB K C = true) : ∃ nm qq NN bs bm sn sb ab co dd k0 k1 k2 k3 k5, K.lookup C = some (excClassObj nm qq C NN bs bm true sn sb ab co dd k0 k1 k2 k3 k5 "ValueError.__new__") ∧ PySem.HandSPX.refsVE bm = true := by
  unfold excObjB at q
  split at q
  · rename_i dd cd sl ho
    split at q
    · rename_i C' bm k0 k1 k2 k3 n k5 hm hs
      simp only [Bool.and_eq_true, beq_iff_eq, Bool.not_eq_true'] at q
      obtain ⟨⟨⟨⟨rfl, rfl⟩, hdel⟩, hd⟩, hr⟩ := q
      obtain ⟨nm, bs, mro, ns, qn, hd', sn, sub, ab, col, del⟩ := cd
      dsimp only at hm hdel hd
      subst hm hdel hd
      have hsl : sl = #[k0, k1, k2, k3, some (.builtin "ValueError.__new__"), k5] := by
        obtain ⟨l⟩ := sl
        simp only at hs
        rw [hs]
      subst hsl
      exact ⟨nm, qn, ns, bs, bm, sn, sub, ab, col, dd, k0, k1, k2, k3, k5, ho, hr⟩
    · cases q
  · cases q
end L2.DL

namespace L2.DL
open PySem PySem.W PySem.Calls PyProof.Rows HandSHeadRun
/-! ### the top's run, cut at statements: the states between are written out -/
section
variable (st : SharedT → Thread → Option (SharedT × Thread)) (n0 : Nat) (ann : Option Value)
def segF (b : Nat) : Nat → SharedT → Thread → Option (Flow × SharedT × Code × Pos)
  | 0, _, _ => none
  | m + 1, s, t => match endAt b t with
    | some f => some (f, s, t.code, t.pos)
    | none => match stepOk n0 ann t with
      | false => none
      | true => match st s t with
        | some (s', t') => frS s' fun s' => segF b m s' t'
        | none => none
def goG : Nat → SharedT → Thread → Option (SharedT × Thread)
  | 0, s, t => some (s, t)
  | m + 1, s, t => match through t with
    | true => none
    | false => match stepOk n0 ann t with
      | false => none
      | true => match st s t with
        | some (s', t') => frS s' fun s' => goG m s' t'
        | none => none
end
section
variable {tb : String → Option Builtin} {p : Program} {w : World} {n0 : Nat} {ann : Option Value}
theorem segF_ok {b : Nat} : ∀ {n : Nat} {s : SharedT} {t : Thread} {r : Flow × SharedT × Code × Pos}, segF (stepT (denote tb) p w) n0 ann b n s t = some r → segRunT tb p w n0 ann b n s t = some r
  | 0, _, _, _, h => by cases h
  | m + 1, s, t, r, h => by
    unfold segF at h
    unfold segRunT
    cases he : endAt b t with
    | some f => rw [he] at h; exact h
    | none =>
      rw [he] at h
      cases hk : stepOk n0 ann t with
      | false => rw [hk] at h; cases h
      | true =>
        rw [hk] at h
        cases hs : stepT (denote tb) p w s t with
        | none => rw [hs] at h; cases h
        | some z =>
          obtain ⟨s', t'⟩ := z
          rw [hs] at h
          dsimp only at h
          rw [frS_eq] at h
          exact segF_ok h
theorem seg_cut {b n : Nat} {s s' : SharedT} {t : Thread} {f : Flow} {c : Code} {q : Pos} (h : segF (stepQ (denQ tabQ) p w) n0 ann b n s t = some (f, s', c, q)) : segRun treeTable p w n0 ann b n s.abs t = some (f, s'.abs, c, q) := by
  rw [← stepQ_eq, ← denQ_eq, ← tabQ_eq] at h
  exact segRun_of (segF_ok h)
theorem goG_ok : ∀ {n : Nat} {s s' : SharedT} {t t' : Thread}, goG (stepT (denote tb) p w) n0 ann n s t = some (s', t') → topGo tb p w n0 ann n s.abs t = some (s'.abs, t')
  | 0, s, s', t, t', h => by
    obtain ⟨rfl, rfl⟩ : s = s' ∧ t = t' := by simpa [goG] using h
    rfl
  | m + 1, s, s', t, t', h => by
    unfold goG at h
    unfold topGo
    cases ht : through t with
    | true => rw [ht] at h; cases h
    | false =>
      rw [ht] at h
      cases hk : stepOk n0 ann t with
      | false => rw [hk] at h; cases h
      | true =>
        rw [hk] at h
        cases hs : stepT (denote tb) p w s t with
        | none => rw [hs] at h; cases h
        | some z =>
          obtain ⟨s2, t2⟩ := z
          rw [hs] at h
          dsimp only at h
          rw [frS_eq] at h
          rw [stepT_spec hs]
          exact goG_ok h
theorem pre_cut {n : Nat} {s s' : SharedT} {t : Thread} {b : List Stmt} {env : Env} {c : Code} {pos q : Pos} (h : goG (stepQ (denQ tabQ) p w) n0 ann n s t = some (s', ⟨denQ tabQ (.body b env), c, pos, [topFrame q]⟩)) : topGo treeTable p w n0 ann n s.abs t = some (s'.abs, ⟨denote treeTable (.body b env), c, pos, [topFrame q]⟩) := by
  rw [← stepQ_eq, ← denQ_eq, ← tabQ_eq] at h
  exact goG_ok h
noncomputable def execsQ : List Stmt → Env → Sem Flow := PySem.W.Fast.tw12563942051412417395
theorem execsQ_eq : @PySem.execs = execsQ := PySem.W.Fast.te12563942051412417395
noncomputable def blockStartQ : List Stmt → Env → Sem Unit := PySem.W.Fast.tw1066825118222455980
theorem blockStartQ_eq : @PySem.blockStart = blockStartQ := PySem.W.Fast.te1066825118222455980
noncomputable def piecesQ (l : List Stmt) (env : Env) (c : Code) (p : Pos) (B : List Frame) : Thread := ⟨(execsQ l env).wrap doneF deadEnd id id, c, p, B⟩
noncomputable def blockQ (b : List Stmt) (env : Env) (c : Code) (p : Pos) (B : List Frame) : Thread := ⟨(blockStartQ b env).wrap (fun _ => doneF .next) deadEnd id id, c, p, B⟩
theorem piece_cut {b n : Nat} {s s' : SharedT} {l : List Stmt} {env : Env} {c c' : Code} {pos pos' : Pos} {B : List Frame} {f : Flow} (h : segF (stepQ (denQ tabQ) p w) n0 ann b n s (piecesQ l env c pos B) = some (f, s', c', pos')) : segRun treeTable p w n0 ann b n s.abs (piecesOf l env c pos B) = some (f, s'.abs, c', pos') := by
  have e : piecesQ l env c pos B = piecesOf l env c pos B := by unfold piecesQ; rw [← execsQ_eq]
  rw [e] at h
  exact seg_cut h
theorem block_cut {b n : Nat} {s s' : SharedT} {l : List Stmt} {env : Env} {c c' : Code} {pos pos' : Pos} {B : List Frame} {f : Flow} (h : segF (stepQ (denQ tabQ) p w) n0 ann b n s (blockQ l env c pos B) = some (f, s', c', pos')) : segRun treeTable p w n0 ann b n s.abs (blockOf l env c pos B) = some (f, s'.abs, c', pos') := by
  have e : blockQ l env c pos B = blockOf l env c pos B := by unfold blockQ; rw [← blockStartQ_eq]
  rw [e] at h
  exact seg_cut h
theorem fin_cut {n : Nat} {s s' : SharedT} {t : Thread} (h : goF (stepQ (denQ tabQ) p w) n0 ann n s t = some s') : topRun treeTable p w n0 ann n s.abs t = some s'.abs := by
  rw [← stepQ_eq, ← denQ_eq, ← tabQ_eq] at h
  exact goF_ok h
theorem rest_cut {env : Env} {q : Pos} {N k : Nat} {s r : Shared} {l : List Stmt} {c : Code} {pos : Pos} (h : topRun tb p w n0 ann N s (restOf (l.take k ++ l.drop k) env c pos [topFrame q]) = some r) : topRun tb p w n0 ann N s (restOf l env c pos [topFrame q]) = some r := by
  rw [List.take_append_drop] at h
  exact h
end
theorem left_cut {p q : Program} {loose : List Str} {Xt : Shared → Bool} {α : Type} {Yf : Shared → α} {Ya : World → α} {N M : Nat}
    (e : opening p = plainProg p.main.scope.names) (hN : Nat.ble 600 N = true) (f : ∀ s, fenceModules? p s = some s) (le : Nat.ble M N = true)
    (run : ∀ (w : World) (os : OsState), ∃ s : SharedT, topRun treeTable p w (boot_heap w.params).objs.size (bootAnn w) M ⟨boot_heap w.params, #[], boot_drawn, boot_toks, os⟩ (topStub p) = some s.abs ∧ looksF p (boot_heap w.params) s.abs = true ∧ openSeen q loose (importedModules p.main.body) Xt true s.abs = openGood q loose ∧ Yf s.abs = Ya w) :
    LeftO p q loose Xt Yf Ya N true := fun w => by
  obtain ⟨⟨h, gs, d, k, os⟩, a, a'⟩ := Option.map_eq_some_iff.mp (boot_open e hN f w)
  obtain ⟨rfl, rfl, rfl, rfl⟩ : h = boot_heap w.params ∧ gs = Array.mk [] ∧ d = boot_drawn ∧ k = boot_toks := by simpa using a'
  obtain ⟨s, hs, l1, l2, l3⟩ := run w os
  have r := topRun_mono (N - M) _ _ _ _ hs
  rw [show M + (N - M) = N by have := Nat.le_of_ble_eq_true le; omega] at r
  have l1' : (staticsOk (importedModules p.main.body) (boot_heap w.params) s.abs.heap && namesBound p s.abs.heap && gensDone s.abs && laidKept (boot_heap w.params) s.abs.heap) = true := l1
  have t : topFrom treeTable p w N ⟨boot_heap w.params, Array.mk [], boot_drawn, boot_toks, os⟩ = some s.abs := by
    unfold topFrom
    dsimp only
    rw [boot_ns]
    show (topRun treeTable p w (boot_heap w.params).objs.size (bootAnn w) N ⟨boot_heap w.params, #[], boot_drawn, boot_toks, os⟩ (topStub p)).bind _ = _
    rw [r]
    show (match staticsOk (importedModules p.main.body) (boot_heap w.params) s.abs.heap && namesBound p s.abs.heap && gensDone s.abs && laidKept (boot_heap w.params) s.abs.heap with | true => some s.abs | false => none) = _
    rw [l1']
  unfold openEnds
  rw [a]
  show (topFrom treeTable p w N _).map _ = _
  rw [t]
  exact congrArg some (Prod.ext l2 l3)
def RunCut (r : OpenRow) (q : Program) (H : Hook) (M : Nat) (loose : List PySem.Str) (w : World) : Prop :=
  ∀ os : OsState, ∃ s : SharedT, topRun treeTable r.prog w (boot_heap w.params).objs.size (bootAnn w) M ⟨boot_heap w.params, #[], boot_drawn, boot_toks, os⟩ (topStub r.prog) = some s.abs ∧ looksF r.prog (boot_heap w.params) s.abs = true ∧ seenQ q loose (importedModules r.prog.main.body) (fun s => xlAt q [] s && recOk r.toRowW.records s) s.abs = openGood q loose ∧ H.obs s.abs = H.val w
theorem head_cut {r : OpenRow} {q : Program} {H : Hook} {M : Nat} {loose : List PySem.Str} {d : DefRec} {kwd : List (PySem.Str × PySem.Expr)}
    (e : opening r.prog = plainProg r.prog.main.scope.names) (f : ∀ s, fenceModules? r.prog s = some s) (run : ∀ w, RunCut r q H M loose w)
    (hdef : defOf q r.name = some (d, kwd)) (hp : r.prog.theDef r.name = some (d.params, d.body, d.scope)) (hk : kwWritten? d.params.kwonlyargs d.params.kw_defaults = some kwd)
    (hwr : (!r.writes || r.records.isEmpty) = true) (k1 : r.wellSaid = true) (ok : (chainsOk q && opensWell r.prog && (frees r.toRowW && r.within.isEmpty)) = true) (hb : r.prog.bare) (hw : r.toRowW.promised)
    (call : WalkO q loose (XL q []) H.says r.toRowW d kwd fun f vs => PySem.call f vs) : r.Holds := by
  have left : LeftO r.prog q loose (fun s => xlAt q [] s && recOk r.toRowW.records s) H.obs H.val (M + 600) true :=
    left_cut (M := M) e (Nat.ble_eq_true_of_le (by omega)) f (Nat.ble_eq_true_of_le (by omega)) fun w os => by
      obtain ⟨s, h1, h2, h3, h4⟩ := run w os
      refine ⟨s, h1, h2, ?_, h4⟩
      rw [seenQ_eq]
      exact h3
  exact holds_open (r := r) (q := q) (loose := loose) (XP := XL q []) (YP := H.says) (d := d) (kwd := kwd) left H.of H.keeps (fun s z => xl_of s (Bool.and_eq_true_iff.mp z).1) XL.keeps hdef hp hk (fun s z => recFacts_of (Bool.and_eq_true_iff.mp z).2) hwr k1 ok hb hw call
/-- the boot's heap as a tree -/
theorem boot_abs {w : World} {os : OsState} {t : BT} {n : Nat} (e : putAll (boot_heap w.params).objs.toList .nil 0 = some (t, n)) : (⟨t, n, (boot_heap w.params).life, #[], boot_drawn, boot_toks, os⟩ : SharedT).abs = ⟨boot_heap w.params, #[], boot_drawn, boot_toks, os⟩ := by
  show (⟨absHeap t n (boot_heap w.params).life, #[], boot_drawn, boot_toks, os⟩ : Shared) = _
  rw [putAll_heap e]
end L2.DL

namespace RT
open L2 PyProof.Rows PySem.Spec PySem L2.DL PySem.Calls
open PySem.W (BT SharedT)
def topS (i : Nat) : Stmt := PySem.Challenge.pw_roomtally_k39_lines_read_or_refused.main.body.getD i (.Pass ⟨0, 0, 0, 0⟩)
abbrev s_is_name : Stmt := topS 8
abbrev s_is_row : Stmt := topS 10
abbrev s__law_bag : Stmt := topS 24
abbrev s__law_room_text : Stmt := topS 25
abbrev s__law_row_text : Stmt := topS 26
abbrev s__law_pull : Stmt := topS 29
abbrev s__law_settled : Stmt := topS 34
abbrev s__law_figures : Stmt := topS 40
abbrev s__law_whole : Stmt := topS 44
abbrev s_is_room : Stmt := topS 9
abbrev s_is_tally : Stmt := topS 12
abbrev s__law_tally_text : Stmt := topS 27
abbrev s__law_word : Stmt := topS 30
abbrev s__law_answers : Stmt := topS 32
abbrev s__law_many : Stmt := topS 33
abbrev s__law_signed : Stmt := topS 37
abbrev s__law_row_in : Stmt := topS 41
abbrev s_number_of : Stmt := topS 16
abbrev s_name_of : Stmt := topS 17
abbrev s_room_of : Stmt := topS 18
abbrev s__law_deed_text : Stmt := topS 28
abbrev s__law_names : Stmt := topS 31
abbrev s__law_drawn : Stmt := topS 35
abbrev s__law_spoilt_line : Stmt := topS 38
abbrev s__law_room_in : Stmt := topS 39
abbrev s__law_tally_in : Stmt := topS 42
abbrev s_row_of : Stmt := topS 19
abbrev s__law_any_deed : Stmt := topS 36
abbrev s__law_read : Stmt := topS 43
abbrev s_pair_of : Stmt := topS 20
abbrev s_tally_of : Stmt := topS 21
abbrev s_read_deed : Stmt := topS 22
abbrev s__law_told : Stmt := topS 45
abbrev s_law : Stmt := topS 46
def clsS_BadText : Stmt := match topS 2 with
  | .ClassDef _ _ _ b _ _ _ _ _ _ _ => b.getD 0 (.Pass ⟨0, 0, 0, 0⟩)
  | st => st
abbrev si_BadText : Stmt := clsS_BadText
/-! the head: facts of the top -/
def fbL0 : FB := fun K => decide (PySem.W.nsIn K mainGlobals "is_name" = some (some (.ref (He.fAd K ("is_name", none)))))
def fbL1 : FB := fun K => PySem.W.keepIn K (.ref (He.fAd K ("is_name", none)))
def fbL2 : FB := fun K => decide (PySem.W.nsIn K mainGlobals "is_row" = some (some (.ref (He.fAd K ("is_row", none)))))
def fbL3 : FB := fun K => PySem.W.keepIn K (.ref (He.fAd K ("is_row", none)))
def fbL4 : FB := fun K => decide (PySem.W.nsIn K mainGlobals "_law_bag" = some (some (.ref (He.fAd K ("_law_bag", none)))))
def fbL5 : FB := fun K => PySem.W.keepIn K (.ref (He.fAd K ("_law_bag", none)))
def fbL6 : FB := fun K => decide (PySem.W.nsIn K mainGlobals "_law_room_text" = some (some (.ref (He.fAd K ("_law_room_text", none)))))
def fbL7 : FB := fun K => PySem.W.keepIn K (.ref (He.fAd K ("_law_room_text", none)))
def fbL8 : FB := fun K => decide (PySem.W.nsIn K mainGlobals "_law_row_text" = some (some (.ref (He.fAd K ("_law_row_text", none)))))
def fbL9 : FB := fun K => PySem.W.keepIn K (.ref (He.fAd K ("_law_row_text", none)))
def fbL10 : FB := fun K => decide (PySem.W.nsIn K mainGlobals "_law_pull" = some (some (.ref (He.fAd K ("_law_pull", none)))))
def fbL11 : FB := fun K => PySem.W.keepIn K (.ref (He.fAd K ("_law_pull", none)))
def fbL12 : FB := fun K => decide (PySem.W.nsIn K mainGlobals "_law_settled" = some (some (.ref (He.fAd K ("_law_settled", none)))))
def fbL13 : FB := fun K => PySem.W.keepIn K (.ref (He.fAd K ("_law_settled", none)))
def fbL14 : FB := fun K => decide (PySem.W.nsIn K mainGlobals "_law_figures" = some (some (.ref (He.fAd K ("_law_figures", none)))))
def fbL15 : FB := fun K => PySem.W.keepIn K (.ref (He.fAd K ("_law_figures", none)))
def fbL16 : FB := fun K => decide (PySem.W.nsIn K mainGlobals "_law_whole" = some (some (.ref (He.fAd K ("_law_whole", none)))))
def fbL17 : FB := fun K => PySem.W.keepIn K (.ref (He.fAd K ("_law_whole", none)))
def fbL18 : FB := fun K => decide (PySem.W.nsIn K mainGlobals "is_room" = some (some (.ref (He.fAd K ("is_room", none)))))
def fbL19 : FB := fun K => PySem.W.keepIn K (.ref (He.fAd K ("is_room", none)))
def fbL20 : FB := fun K => decide (PySem.W.nsIn K mainGlobals "is_tally" = some (some (.ref (He.fAd K ("is_tally", none)))))
def fbL21 : FB := fun K => PySem.W.keepIn K (.ref (He.fAd K ("is_tally", none)))
def fbL22 : FB := fun K => decide (PySem.W.nsIn K mainGlobals "_law_tally_text" = some (some (.ref (He.fAd K ("_law_tally_text", none)))))
def fbL23 : FB := fun K => PySem.W.keepIn K (.ref (He.fAd K ("_law_tally_text", none)))
def fbL24 : FB := fun K => decide (PySem.W.nsIn K mainGlobals "_law_word" = some (some (.ref (He.fAd K ("_law_word", none)))))
def fbL25 : FB := fun K => PySem.W.keepIn K (.ref (He.fAd K ("_law_word", none)))
def fbL26 : FB := fun K => decide (PySem.W.nsIn K mainGlobals "_law_answers" = some (some (.ref (He.fAd K ("_law_answers", none)))))
def fbL27 : FB := fun K => PySem.W.keepIn K (.ref (He.fAd K ("_law_answers", none)))
def fbL28 : FB := fun K => decide (PySem.W.nsIn K mainGlobals "_law_many" = some (some (.ref (He.fAd K ("_law_many", none)))))
def fbL29 : FB := fun K => PySem.W.keepIn K (.ref (He.fAd K ("_law_many", none)))
def fbL30 : FB := fun K => decide (PySem.W.nsIn K mainGlobals "_law_signed" = some (some (.ref (He.fAd K ("_law_signed", none)))))
def fbL31 : FB := fun K => PySem.W.keepIn K (.ref (He.fAd K ("_law_signed", none)))
def fbL32 : FB := fun K => decide (PySem.W.nsIn K mainGlobals "_law_row_in" = some (some (.ref (He.fAd K ("_law_row_in", none)))))
def fbL33 : FB := fun K => PySem.W.keepIn K (.ref (He.fAd K ("_law_row_in", none)))
def fbL34 : FB := fun K => decide (PySem.W.nsIn K mainGlobals "number_of" = some (some (.ref (He.fAd K ("number_of", none)))))
def fbL35 : FB := fun K => PySem.W.keepIn K (.ref (He.fAd K ("number_of", none)))
def fbL36 : FB := fun K => decide (PySem.W.nsIn K mainGlobals "name_of" = some (some (.ref (He.fAd K ("name_of", none)))))
def fbL37 : FB := fun K => PySem.W.keepIn K (.ref (He.fAd K ("name_of", none)))
def fbL38 : FB := fun K => decide (PySem.W.nsIn K mainGlobals "room_of" = some (some (.ref (He.fAd K ("room_of", none)))))
def fbL39 : FB := fun K => PySem.W.keepIn K (.ref (He.fAd K ("room_of", none)))
def fbL40 : FB := fun K => decide (PySem.W.nsIn K mainGlobals "_law_deed_text" = some (some (.ref (He.fAd K ("_law_deed_text", none)))))
def fbL41 : FB := fun K => PySem.W.keepIn K (.ref (He.fAd K ("_law_deed_text", none)))
def fbL42 : FB := fun K => decide (PySem.W.nsIn K mainGlobals "_law_names" = some (some (.ref (He.fAd K ("_law_names", none)))))
def fbL43 : FB := fun K => PySem.W.keepIn K (.ref (He.fAd K ("_law_names", none)))
def fbL44 : FB := fun K => decide (PySem.W.nsIn K mainGlobals "_law_drawn" = some (some (.ref (He.fAd K ("_law_drawn", none)))))
def fbL45 : FB := fun K => PySem.W.keepIn K (.ref (He.fAd K ("_law_drawn", none)))
def fbL46 : FB := fun K => decide (PySem.W.nsIn K mainGlobals "_law_spoilt_line" = some (some (.ref (He.fAd K ("_law_spoilt_line", none)))))
def fbL47 : FB := fun K => PySem.W.keepIn K (.ref (He.fAd K ("_law_spoilt_line", none)))
def fbL48 : FB := fun K => decide (PySem.W.nsIn K mainGlobals "_law_room_in" = some (some (.ref (He.fAd K ("_law_room_in", none)))))
def fbL49 : FB := fun K => PySem.W.keepIn K (.ref (He.fAd K ("_law_room_in", none)))
def fbL50 : FB := fun K => decide (PySem.W.nsIn K mainGlobals "_law_tally_in" = some (some (.ref (He.fAd K ("_law_tally_in", none)))))
def fbL51 : FB := fun K => PySem.W.keepIn K (.ref (He.fAd K ("_law_tally_in", none)))
def fbL52 : FB := fun K => decide (PySem.W.nsIn K mainGlobals "row_of" = some (some (.ref (He.fAd K ("row_of", none)))))
def fbL53 : FB := fun K => PySem.W.keepIn K (.ref (He.fAd K ("row_of", none)))
def fbL54 : FB := fun K => decide (PySem.W.nsIn K mainGlobals "_law_any_deed" = some (some (.ref (He.fAd K ("_law_any_deed", none)))))
def fbL55 : FB := fun K => PySem.W.keepIn K (.ref (He.fAd K ("_law_any_deed", none)))
def fbL56 : FB := fun K => decide (PySem.W.nsIn K mainGlobals "_law_read" = some (some (.ref (He.fAd K ("_law_read", none)))))
def fbL57 : FB := fun K => PySem.W.keepIn K (.ref (He.fAd K ("_law_read", none)))
def fbL58 : FB := fun K => decide (PySem.W.nsIn K mainGlobals "pair_of" = some (some (.ref (He.fAd K ("pair_of", none)))))
def fbL59 : FB := fun K => PySem.W.keepIn K (.ref (He.fAd K ("pair_of", none)))
def fbL60 : FB := fun K => decide (PySem.W.nsIn K mainGlobals "tally_of" = some (some (.ref (He.fAd K ("tally_of", none)))))
def fbL61 : FB := fun K => PySem.W.keepIn K (.ref (He.fAd K ("tally_of", none)))
def fbL62 : FB := fun K => decide (PySem.W.nsIn K mainGlobals "read_deed" = some (some (.ref (He.fAd K ("read_deed", none)))))
def fbL63 : FB := fun K => PySem.W.keepIn K (.ref (He.fAd K ("read_deed", none)))
def fbL64 : FB := fun K => decide (PySem.W.nsIn K mainGlobals "_law_told" = some (some (.ref (He.fAd K ("_law_told", none)))))
def fbL65 : FB := fun K => PySem.W.keepIn K (.ref (He.fAd K ("_law_told", none)))
def fbL66 : FB := fun K => decide (PySem.W.nsIn K mainGlobals "law" = some (some (.ref (He.fAd K ("law", none)))))
def fbL67 : FB := fun K => PySem.W.keepIn K (.ref (He.fAd K ("law", none)))
def fbL68 : FB := fun K => (He.Fa.str "FIGURES" "0123456789").ok K
def fbL69 : FB := fun K => (He.Fa.str "LETTERS" "abcdefghijklmnopqrstuvwxyz").ok K
def fbL70 : FB := fun K => (He.Fa.int "MOST_ANSWER" 9).ok K
def fbL71 : FB := fun K => (He.Fa.int "MOST_FIGURES" 13).ok K
def fbL72 : FB := fun K => (He.Fa.int "MOST_QUESTIONS" 6).ok K
def fbL73 : FB := fun K => (He.Fa.int "MOST_SIGNS" 8).ok K
def fbL74 : FB := fun K => decide (PySem.W.nsIn K mainGlobals "all" = some none)
def fbL75 : FB := fun K => decide (PySem.W.nsIn K mainGlobals "bool" = some none)
def fbL76 : FB := fun K => decide (PySem.W.nsIn K mainGlobals "int" = some none)
def fbL77 : FB := fun K => decide (PySem.W.nsIn K mainGlobals "isinstance" = some none)
def fbL78 : FB := fun K => decide (PySem.W.nsIn K mainGlobals "len" = some none)
def fbL79 : FB := fun K => decide (PySem.W.nsIn K mainGlobals "list" = some none)
def fbL80 : FB := fun K => decide (PySem.W.nsIn K mainGlobals "max" = some none)
def fbL81 : FB := fun K => decide (PySem.W.nsIn K mainGlobals "min" = some none)
def fbL82 : FB := fun K => decide (PySem.W.nsIn K mainGlobals "range" = some none)
def fbL83 : FB := fun K => decide (PySem.W.nsIn K mainGlobals "sorted" = some none)
def fbL84 : FB := fun K => decide (PySem.W.nsIn K mainGlobals "str" = some none)
def fbL85 : FB := fun K => decide (PySem.W.nsIn K mainGlobals "tuple" = some none)
def fbL86 : FB := fun K => decide (PySem.W.nsIn K mainGlobals "zip" = some none)
def fbL87 : FB := fun K => decide (PySem.W.nsIn K mainGlobals "BadText" = some (some (.ref (He.ga K "BadText"))))
def fbL88 : FB := fun K => PySem.W.keepIn K (.ref (He.ga K "BadText"))
def fbL89 : FB := fun K => decide (PySem.W.subIn K (.ref (He.ga K "BadText")) (.type "BaseException") = some true)
def fbL90 : FB := fun K => decide (PySem.W.typeIn K (.ref (He.ga K "BadText")) = some (.type "type"))
def fbL91 : FB := fun K => PySem.W.isClsIn K (He.ga K "BadText")
def fbL92 : FB := fun K => excObjB K (He.ga K "BadText")
def fbL93 : FB := fun K => decide (PySem.W.findIn K (.ref (He.ga K "BadText")) "__setattr__" = some (some (.builtin "object.__setattr__")))
def fbL94 : FB := fun K => decide (PySem.W.findIn K (.ref (He.ga K "BadText")) "__init__" = some (some (.ref (He.fAd K ("BadText", some "__init__")))))
def fbL95 : FB := fun K => decide (PySem.W.typeIn K (.ref (He.fAd K ("BadText", some "__init__"))) = some (.type "function"))
def fbL96 : FB := fun K => decide (PySem.W.findIn K (.ref (He.ga K "BadText")) "at" = some none)
def fbL97 : FB := fun K => decide (PySem.W.findIn K (.ref (He.ga K "BadText")) "__getattribute__" = some (some (.builtin "BaseException.__getattribute__")))
def fbL98 : FB := fun K => decide (PySem.W.findIn K (.ref (He.ga K "BadText")) "__getattr__" = some none)
def fbL99 : FB := fun K => PySem.W.hasDictIn K (He.ga K "BadText")
def fbL100 : FB := fun K => PySem.W.keepIn K (.ref (He.fAd K ("BadText", some "__init__")))
def fbL101 : FB := fun K => decide (PySem.W.subIn K (.ref (He.ga K "BadText")) (.ref (He.ga K "BadText")) = some true)
def fnL0 : He.FnD := ⟨("is_name", none), "is_name", "is_name", defArgs s_is_name, defBody s_is_name, defScope s_is_name⟩
def fnL1 : He.FnD := ⟨("is_row", none), "is_row", "is_row", defArgs s_is_row, defBody s_is_row, defScope s_is_row⟩
def fnL2 : He.FnD := ⟨("_law_bag", none), "_law_bag", "_law_bag", defArgs s__law_bag, defBody s__law_bag, defScope s__law_bag⟩
def fnL3 : He.FnD := ⟨("_law_room_text", none), "_law_room_text", "_law_room_text", defArgs s__law_room_text, defBody s__law_room_text, defScope s__law_room_text⟩
def fnL4 : He.FnD := ⟨("_law_row_text", none), "_law_row_text", "_law_row_text", defArgs s__law_row_text, defBody s__law_row_text, defScope s__law_row_text⟩
def fnL5 : He.FnD := ⟨("_law_pull", none), "_law_pull", "_law_pull", defArgs s__law_pull, defBody s__law_pull, defScope s__law_pull⟩
def fnL6 : He.FnD := ⟨("_law_settled", none), "_law_settled", "_law_settled", defArgs s__law_settled, defBody s__law_settled, defScope s__law_settled⟩
def fnL7 : He.FnD := ⟨("_law_figures", none), "_law_figures", "_law_figures", defArgs s__law_figures, defBody s__law_figures, defScope s__law_figures⟩
def fnL8 : He.FnD := ⟨("_law_whole", none), "_law_whole", "_law_whole", defArgs s__law_whole, defBody s__law_whole, defScope s__law_whole⟩
def fnL9 : He.FnD := ⟨("is_room", none), "is_room", "is_room", defArgs s_is_room, defBody s_is_room, defScope s_is_room⟩
def fnL10 : He.FnD := ⟨("is_tally", none), "is_tally", "is_tally", defArgs s_is_tally, defBody s_is_tally, defScope s_is_tally⟩
def fnL11 : He.FnD := ⟨("_law_tally_text", none), "_law_tally_text", "_law_tally_text", defArgs s__law_tally_text, defBody s__law_tally_text, defScope s__law_tally_text⟩
def fnL12 : He.FnD := ⟨("_law_word", none), "_law_word", "_law_word", defArgs s__law_word, defBody s__law_word, defScope s__law_word⟩
def fnL13 : He.FnD := ⟨("_law_answers", none), "_law_answers", "_law_answers", defArgs s__law_answers, defBody s__law_answers, defScope s__law_answers⟩
def fnL14 : He.FnD := ⟨("_law_many", none), "_law_many", "_law_many", defArgs s__law_many, defBody s__law_many, defScope s__law_many⟩
def fnL15 : He.FnD := ⟨("_law_signed", none), "_law_signed", "_law_signed", defArgs s__law_signed, defBody s__law_signed, defScope s__law_signed⟩
def fnL16 : He.FnD := ⟨("_law_row_in", none), "_law_row_in", "_law_row_in", defArgs s__law_row_in, defBody s__law_row_in, defScope s__law_row_in⟩
def fnL17 : He.FnD := ⟨("number_of", none), "number_of", "number_of", defArgs s_number_of, defBody s_number_of, defScope s_number_of⟩
def fnL18 : He.FnD := ⟨("name_of", none), "name_of", "name_of", defArgs s_name_of, defBody s_name_of, defScope s_name_of⟩
def fnL19 : He.FnD := ⟨("room_of", none), "room_of", "room_of", defArgs s_room_of, defBody s_room_of, defScope s_room_of⟩
def fnL20 : He.FnD := ⟨("_law_deed_text", none), "_law_deed_text", "_law_deed_text", defArgs s__law_deed_text, defBody s__law_deed_text, defScope s__law_deed_text⟩
def fnL21 : He.FnD := ⟨("_law_names", none), "_law_names", "_law_names", defArgs s__law_names, defBody s__law_names, defScope s__law_names⟩
def fnL22 : He.FnD := ⟨("_law_drawn", none), "_law_drawn", "_law_drawn", defArgs s__law_drawn, defBody s__law_drawn, defScope s__law_drawn⟩
def fnL23 : He.FnD := ⟨("_law_spoilt_line", none), "_law_spoilt_line", "_law_spoilt_line", defArgs s__law_spoilt_line, defBody s__law_spoilt_line, defScope s__law_spoilt_line⟩
def fnL24 : He.FnD := ⟨("_law_room_in", none), "_law_room_in", "_law_room_in", defArgs s__law_room_in, defBody s__law_room_in, defScope s__law_room_in⟩
def fnL25 : He.FnD := ⟨("_law_tally_in", none), "_law_tally_in", "_law_tally_in", defArgs s__law_tally_in, defBody s__law_tally_in, defScope s__law_tally_in⟩
def fnL26 : He.FnD := ⟨("row_of", none), "row_of", "row_of", defArgs s_row_of, defBody s_row_of, defScope s_row_of⟩
def fnL27 : He.FnD := ⟨("_law_any_deed", none), "_law_any_deed", "_law_any_deed", defArgs s__law_any_deed, defBody s__law_any_deed, defScope s__law_any_deed⟩
def fnL28 : He.FnD := ⟨("_law_read", none), "_law_read", "_law_read", defArgs s__law_read, defBody s__law_read, defScope s__law_read⟩
def fnL29 : He.FnD := ⟨("pair_of", none), "pair_of", "pair_of", defArgs s_pair_of, defBody s_pair_of, defScope s_pair_of⟩
def fnL30 : He.FnD := ⟨("tally_of", none), "tally_of", "tally_of", defArgs s_tally_of, defBody s_tally_of, defScope s_tally_of⟩
def fnL31 : He.FnD := ⟨("read_deed", none), "read_deed", "read_deed", defArgs s_read_deed, defBody s_read_deed, defScope s_read_deed⟩
def fnL32 : He.FnD := ⟨("_law_told", none), "_law_told", "_law_told", defArgs s__law_told, defBody s__law_told, defScope s__law_told⟩
def fnL33 : He.FnD := ⟨("law", none), "law", "law", defArgs s_law, defBody s_law, defScope s_law⟩
def fnL34 : He.FnD := ⟨("BadText", some "__init__"), "__init__", "BadText.__init__", defArgs si_BadText, defBody si_BadText, defScope si_BadText⟩
def fbA_0 : List FB := [fbL0, fbL1, fbL2, fbL3, fbL4, fbL5, fbL6, fbL7, fbL8, fbL9, fbL10, fbL11, fbL12, fbL13, fbL14, fbL15, fbL16, fbL17, fbL18, fbL19]
def fbA_1 : List FB := [fbL20, fbL21, fbL22, fbL23, fbL24, fbL25, fbL26, fbL27, fbL28, fbL29, fbL30, fbL31, fbL32, fbL33, fbL34, fbL35, fbL36, fbL37, fbL38, fbL39]
def fbA_2 : List FB := [fbL40, fbL41, fbL42, fbL43, fbL44, fbL45, fbL46, fbL47, fbL48, fbL49, fbL50, fbL51, fbL52, fbL53, fbL54, fbL55, fbL56, fbL57, fbL58, fbL59]
def fbA_3 : List FB := [fbL60, fbL61, fbL62, fbL63, fbL64, fbL65, fbL66, fbL67, fbL68, fbL69, fbL70, fbL71, fbL72, fbL73, fbL74, fbL75, fbL76, fbL77, fbL78, fbL79]
def fbA_4 : List FB := [fbL80, fbL81, fbL82, fbL83, fbL84, fbL85, fbL86, fbL87, fbL88, fbL89, fbL90, fbL91, fbL92, fbL93, fbL94, fbL95, fbL96, fbL97, fbL98, fbL99]
def fbA_5 : List FB := [fbL100, fbL101]
def fbA : List FB := fbA_0 ++ fbA_1 ++ fbA_2 ++ fbA_3 ++ fbA_4 ++ fbA_5
def fnA_0 : List He.FnD := [fnL0, fnL1, fnL2, fnL3, fnL4, fnL5, fnL6, fnL7, fnL8, fnL9, fnL10, fnL11, fnL12, fnL13, fnL14, fnL15, fnL16, fnL17, fnL18, fnL19]
def fnA_1 : List He.FnD := [fnL20, fnL21, fnL22, fnL23, fnL24, fnL25, fnL26, fnL27, fnL28, fnL29, fnL30, fnL31, fnL32, fnL33, fnL34]
def fnA : List He.FnD := fnA_0 ++ fnA_1
def loose_0 : List Str := ["__name__", "RoomError", "BadText", "LETTERS", "MOST_SIGNS", "MOST_QUESTIONS", "MOST_ANSWER", "is_name", "is_room", "is_row", "is_tally", "FIGURES", "MOST_FIGURES", "number_of", "name_of", "room_of", "row_of", "pair_of", "tally_of", "read_deed"]
def loose_1 : List Str := ["_law_bag", "_law_room_text", "_law_row_text", "_law_tally_text", "_law_deed_text", "_law_pull", "_law_word", "_law_names", "_law_answers", "_law_many", "_law_settled", "_law_drawn", "_law_any_deed", "_law_signed", "_law_spoilt_line", "_law_room_in", "_law_figures", "_law_row_in", "_law_tally_in", "_law_read"]
def loose_2 : List Str := ["_law_whole", "_law_told"]
def loose : List Str := loose_0 ++ loose_1 ++ loose_2
abbrev RowN : PySem.W.OpenRow := PySem.W.OpenLaw.row PySem.Challenge.rw_roomtally_k39_lines_read_or_refused
abbrev hP : Program := RowN.prog
abbrev Ys := @PySem.Value.str
abbrev Yr := @PySem.Value.ref
abbrev Yi := @PySem.Value.int
abbrev Yt := @PySem.Value.type
abbrev Yn := @PySem.Value.none
abbrev Yb := @PySem.Value.bool
abbrev Yu := @PySem.Value.builtin
abbrev Yo := @PySem.Obj.mk
abbrev Yq := @PySem.Data.seq
abbrev Yf := @PySem.Data.fields
abbrev Yc := @PySem.Data.func
abbrev Yd := @PySem.Data.dict
abbrev Yz := @PySem.Str.ofString
abbrev Yw := @PySem.DictEntry.mk
abbrev Yk := @PySem.PyData.keyHash
abbrev Yg := @PySem.FuncData.mk
abbrev YN := @PySem.W.BT.node
abbrev YE := @PySem.W.BT.nil
abbrev Ym := @PySem.FuncBody.stmts
noncomputable section
abbrev Yp0 := @PySem.W.boot_o_0
abbrev Yp1 := @PySem.W.boot_o_1
abbrev Yp2 := @PySem.W.boot_o_2
abbrev Yp3 := @PySem.W.boot_o_3
abbrev Yp4 := @PySem.W.boot_o_4
abbrev Yp5 := @PySem.W.boot_o_5
abbrev Yp6 := @PySem.W.boot_o_6
abbrev Yp7 := @PySem.W.boot_o_7
abbrev Yp8 := @PySem.W.boot_o_8
abbrev Yp9 := @PySem.W.boot_o_9
abbrev Yp10 := @PySem.W.boot_o_10
def hcB (i : Nat) : List Stmt := match topS i with
  | .ClassDef _ _ _ b _ _ _ _ _ _ _ => b
  | _ => []
def hcS (i : Nat) : Scope := match topS i with
  | .ClassDef _ _ _ _ _ _ sc _ _ _ _ => sc
  | _ => { kind := .function, names := [], isGenerator := false, isCoroutine := false }
def hcM (i j : Nat) : Stmt := (hcB i).getD j (.Pass ⟨0, 0, 0, 0⟩)
def hT0 (P : Params) : BT := (YN (Yp0 P) (YN (Yp1 P) (YN (Yp3 P) (YN (Yp7 P) YE YE) YE) (YN (Yp5 P) (YN (Yp9 P) YE YE) YE)) (YN (Yp2 P) (YN (Yp4 P) (YN (Yp8 P) YE YE) YE) (YN (Yp6 P) (YN (Yp10 P) YE YE) YE)))
def hN0 : Nat := 11
def hAnn : Option Value := (some (Yr 6))
def hEnv : Env := { scope := hP.main.scope, locals := mainNs, globals := mainNs, cells := [], code := (Yr 13), frame := some 14 }
def hQ : Pos := (PySem.Pos.mk 0 0 0 0)
def q13_1 (P : Params) : Obj := (Yo (Yt "code") none (Yf #[(Ys (Yz "<module>") 182), (Ys (Yz "<module>") 183), (Ys (Yz "/claim/cut.py") 184), (Yi 1 0), (Yi 0 0), (Yi 0 0), (Yi 0 0), (Yi 0 0), (Yr 11), (Yb Bool.false), (Yi 181 0), (Yr 12), Yn, Yn, Yn, Yn, (Yi 185 0), (Yi 1 0), (Ys (Yz "/claim/cut.py") 186)]) #[])
def q14_1 (P : Params) : Obj := (Yo (Yt "frame") none PySem.Data.plain #[(some (Yr 13)), (some (Yr 3)), (some (Yr 3)), none, (some (Ys (Yz "__main__") 164)), none, (some (Yr 0))])
def hTa (P : Params) : BT := (YN (Yp0 P) (YN (Yp1 P) (YN (Yp3 P) (YN (Yp7 P) YE YE) (YN (Yp7 P) YE YE)) (YN (Yp5 P) (YN (Yp9 P) YE YE) (YN (q13_1 P) YE YE))) (YN (Yp2 P) (YN (Yp4 P) (YN (Yp8 P) YE YE) (YN (Yp8 P) YE YE)) (YN (Yp6 P) (YN (Yp10 P) YE YE) (YN (q14_1 P) YE YE))))
def hSa (w : World) (os : OsState) : SharedT := ⟨hTa w.params, 15, (PySem.Life.mk [] [] [] 0 [] [] Bool.false #[] [] 0 Bool.false Bool.false Bool.false 0 [2000, 10, 10] Bool.false 0 Bool.true [] [] 0 Bool.false), #[], (PySem.Drawn.mk 0 0 0 0), 187, os⟩
def hPosa : Pos := (PySem.Pos.mk 0 0 0 0)
def hTb (P : Params) : BT := (YN (Yp0 P) (YN (Yp1 P) (YN (Yp3 P) (YN (Yp7 P) YE YE) (YN (Yp7 P) YE YE)) (YN (Yp5 P) (YN (Yp9 P) YE YE) (YN (q13_1 P) YE YE))) (YN (Yp2 P) (YN (Yp4 P) (YN (Yp8 P) YE YE) (YN (Yp8 P) YE YE)) (YN (Yp6 P) (YN (Yp10 P) YE YE) (YN (q14_1 P) YE YE))))
def hSb (w : World) (os : OsState) : SharedT := ⟨hTb w.params, 15, (PySem.Life.mk [] [] [] 0 [] [] Bool.false #[] [] 0 Bool.false Bool.false Bool.false 0 [2000, 10, 10] Bool.false 0 Bool.true [] [] 0 Bool.false), #[], (PySem.Drawn.mk 0 0 0 0), 187, os⟩
def hPosb : Pos := (PySem.Pos.mk 0 0 0 0)
def q3_3 (P : Params) : Obj := (Yo (Yt "dict") none (Yd #[(Yw (Yk P (Yz "__name__")) (Ys (Yz "__name__") 165) (Ys (Yz "law_roomtally_k39_lines_read_or_refused") 340)), (Yw (Yk P (Yz "__doc__")) (Ys (Yz "__doc__") 166) Yn), (Yw (Yk P (Yz "__package__")) (Ys (Yz "__package__") 167) Yn), (Yw (Yk P (Yz "__loader__")) (Ys (Yz "__loader__") 168) (Yu "__main__.__loader__#opaque")), (Yw (Yk P (Yz "__spec__")) (Ys (Yz "__spec__") 169) Yn), (Yw (Yk P (Yz "__annotations__")) (Ys (Yz "__annotations__") 170) (Yr 6)), (Yw (Yk P (Yz "__builtins__")) (Ys (Yz "__builtins__") 171) (Yr 4)), (Yw (Yk P (Yz "__file__")) (Ys (Yz "__file__") 173) (Ys (Yz "/claim/cut.py") 172)), (Yw (Yk P (Yz "__cached__")) (Ys (Yz "__cached__") 174) Yn), (Yw (Yk P (Yz "RoomError")) (Ys (Yz "RoomError") 206) (Yr 24)), (Yw (Yk P (Yz "BadText")) (Ys (Yz "BadText") 231) (Yr 44)), (Yw (Yk P (Yz "LETTERS")) (Ys (Yz "LETTERS") 235) (Ys (Yz "abcdefghijklmnopqrstuvwxyz") 234)), (Yw (Yk P (Yz "MOST_SIGNS")) (Ys (Yz "MOST_SIGNS") 237) (Yi 8 236)), (Yw (Yk P (Yz "MOST_QUESTIONS")) (Ys (Yz "MOST_QUESTIONS") 239) (Yi 6 238)), (Yw (Yk P (Yz "MOST_ANSWER")) (Ys (Yz "MOST_ANSWER") 241) (Yi 9 240)), (Yw (Yk P (Yz "is_name")) (Ys (Yz "is_name") 249) (Yr 53)), (Yw (Yk P (Yz "is_room")) (Ys (Yz "is_room") 257) (Yr 60)), (Yw (Yk P (Yz "is_row")) (Ys (Yz "is_row") 266) (Yr 67)), (Yw (Yk P (Yz "is_tally")) (Ys (Yz "is_tally") 279) (Yr 74)), (Yw (Yk P (Yz "FIGURES")) (Ys (Yz "FIGURES") 283) (Ys (Yz "0123456789") 282)), (Yw (Yk P (Yz "MOST_FIGURES")) (Ys (Yz "MOST_FIGURES") 285) (Yi 13 284)), (Yw (Yk P (Yz "number_of")) (Ys (Yz "number_of") 293) (Yr 81)), (Yw (Yk P (Yz "name_of")) (Ys (Yz "name_of") 300) (Yr 88)), (Yw (Yk P (Yz "room_of")) (Ys (Yz "room_of") 308) (Yr 95)), (Yw (Yk P (Yz "row_of")) (Ys (Yz "row_of") 314) (Yr 100)), (Yw (Yk P (Yz "pair_of")) (Ys (Yz "pair_of") 322) (Yr 107)), (Yw (Yk P (Yz "tally_of")) (Ys (Yz "tally_of") 328) (Yr 112)), (Yw (Yk P (Yz "read_deed")) (Ys (Yz "read_deed") 339) (Yr 119)), (Yw (Yk P (Yz "_law_bag")) (Ys (Yz "_law_bag") 350) (Yr 126)), (Yw (Yk P (Yz "_law_room_text")) (Ys (Yz "_law_room_text") 357) (Yr 133)), (Yw (Yk P (Yz "_law_row_text")) (Ys (Yz "_law_row_text") 363) (Yr 138)), (Yw (Yk P (Yz "_law_tally_text")) (Ys (Yz "_law_tally_text") 369) (Yr 143)), (Yw (Yk P (Yz "_law_deed_text")) (Ys (Yz "_law_deed_text") 378) (Yr 150)), (Yw (Yk P (Yz "_law_pull")) (Ys (Yz "_law_pull") 389) (Yr 157)), (Yw (Yk P (Yz "_law_word")) (Ys (Yz "_law_word") 395) (Yr 162)), (Yw (Yk P (Yz "_law_names")) (Ys (Yz "_law_names") 409) (Yr 169)), (Yw (Yk P (Yz "_law_answers")) (Ys (Yz "_law_answers") 415) (Yr 174)), (Yw (Yk P (Yz "_law_many")) (Ys (Yz "_law_many") 422) (Yr 181)), (Yw (Yk P (Yz "_law_settled")) (Ys (Yz "_law_settled") 428) (Yr 186)), (Yw (Yk P (Yz "_law_drawn")) (Ys (Yz "_law_drawn") 439) (Yr 193)), (Yw (Yk P (Yz "_law_any_deed")) (Ys (Yz "_law_any_deed") 445) (Yr 198)), (Yw (Yk P (Yz "_law_signed")) (Ys (Yz "_law_signed") 457) (Yr 205)), (Yw (Yk P (Yz "_law_spoilt_line")) (Ys (Yz "_law_spoilt_line") 469) (Yr 212)), (Yw (Yk P (Yz "_law_room_in")) (Ys (Yz "_law_room_in") 477) (Yr 219)), (Yw (Yk P (Yz "_law_figures")) (Ys (Yz "_law_figures") 483) (Yr 224)), (Yw (Yk P (Yz "_law_row_in")) (Ys (Yz "_law_row_in") 489) (Yr 229)), (Yw (Yk P (Yz "_law_tally_in")) (Ys (Yz "_law_tally_in") 501) (Yr 236)), (Yw (Yk P (Yz "_law_read")) (Ys (Yz "_law_read") 515) (Yr 243)), (Yw (Yk P (Yz "_law_whole")) (Ys (Yz "_law_whole") 522) (Yr 250)), (Yw (Yk P (Yz "_law_told")) (Ys (Yz "_law_told") 531) (Yr 257)), (Yw (Yk P (Yz "law")) (Ys (Yz "law") 543) (Yr 264))] 51) #[])
def q12_3 (P : Params) : Obj := (Yo Yn none (Yf #[(Yi 2 0), (Yi 0 0), (Yr 20), (Yi 4 0), (Yi 0 0), (Yr 33), (Yi 13 0), (Yi 0 0), (Yr 52), (Yi 20 0), (Yi 0 0), (Yr 59), (Yi 29 0), (Yi 0 0), (Yr 66), (Yi 37 0), (Yi 0 0), (Yr 73), (Yi 48 0), (Yi 0 0), (Yr 80), (Yi 57 0), (Yi 0 0), (Yr 87), (Yi 61 0), (Yi 0 0), (Yr 94), (Yi 68 0), (Yi 0 0), (Yr 99), (Yi 78 0), (Yi 0 0), (Yr 106), (Yi 83 0), (Yi 0 0), (Yr 111), (Yi 90 0), (Yi 0 0), (Yr 118), (Yi 105 0), (Yi 0 0), (Yr 125), (Yi 110 0), (Yi 0 0), (Yr 132), (Yi 114 0), (Yi 0 0), (Yr 137), (Yi 118 0), (Yi 0 0), (Yr 142), (Yi 122 0), (Yi 0 0), (Yr 149), (Yi 132 0), (Yi 0 0), (Yr 156), (Yi 146 0), (Yi 0 0), (Yr 161), (Yi 149 0), (Yi 0 0), (Yr 168), (Yi 160 0), (Yi 0 0), (Yr 173), (Yi 162 0), (Yi 0 0), (Yr 180), (Yi 164 0), (Yi 0 0), (Yr 185), (Yi 166 0), (Yi 0 0), (Yr 192), (Yi 172 0), (Yi 0 0), (Yr 197), (Yi 186 0), (Yi 0 0), (Yr 204), (Yi 196 0), (Yi 0 0), (Yr 211), (Yi 214 0), (Yi 0 0), (Yr 218), (Yi 221 0), (Yi 0 0), (Yr 223), (Yi 227 0), (Yi 0 0), (Yr 228), (Yi 234 0), (Yi 0 0), (Yr 235), (Yi 247 0), (Yi 0 0), (Yr 242), (Yi 264 0), (Yi 0 0), (Yr 249), (Yi 266 0), (Yi 0 0), (Yr 256), (Yi 272 0), (Yi 0 0), (Yr 263)]) #[])
def q15_3 (P : Params) : Obj := (Yo (Yt "tuple") none (Yq #[(Yt "ValueError")] 0) #[])
def q16_3 (P : Params) : Obj := (Yo (Yt "builtin_function_or_method") none (Yf #[(Yu "type.__prepare__"), (Yt "type")]) #[])
def q17_3 (P : Params) : Obj := (Yo (Yt "dict") none (Yd #[(Yw (Yk P (Yz "__module__")) (Ys (Yz "__module__") 196) (Ys (Yz "roomtally.errors") 187)), (Yw (Yk P (Yz "__qualname__")) (Ys (Yz "__qualname__") 198) (Ys (Yz "RoomError") 197)), (Yw (Yk P (Yz "__firstlineno__")) (Ys (Yz "__firstlineno__") 200) (Yi 2 199)), (Yw (Yk P (Yz "__static_attributes__")) (Ys (Yz "__static_attributes__") 201) (Yr 22))] 4) #[])
def q20_3 (P : Params) : Obj := (Yo (Yt "code") none (Yf #[(Ys (Yz "RoomError") 191), (Ys (Yz "RoomError") 192), (Ys (Yz "/claim/cut.py") 193), (Yi 2 0), (Yi 0 0), (Yi 0 0), (Yi 0 0), (Yi 0 0), (Yr 18), (Yb Bool.false), (Yi 181 0), (Yr 19), Yn, Yn, Yn, Yn, (Yi 194 0), (Yi 2 0), (Ys (Yz "/claim/cut.py") 195)]) #[])
def q21_3 (P : Params) : Obj := (Yo (Yt "frame") none PySem.Data.plain #[(some (Yr 20)), (some (Yr 3)), (some (Yr 17)), none, (some (Ys (Yz "roomtally.errors") 187)), none, (some (Yr 0))])
def q23_3 (P : Params) : Obj := (Yo (Yt "dict") none (Yd #[(Yw (Yk P (Yz "__module__")) (Ys (Yz "__module__") 196) (Ys (Yz "roomtally.errors") 187)), (Yw (Yk P (Yz "__firstlineno__")) (Ys (Yz "__firstlineno__") 200) (Yi 2 199)), (Yw (Yk P (Yz "__static_attributes__")) (Ys (Yz "__static_attributes__") 201) (Yr 22)), (Yw (Yk P (Yz "__weakref__")) (Ys (Yz "__weakref__") 203) (Yr 25)), (Yw (Yk P (Yz "__doc__")) (Ys (Yz "__doc__") 204) Yn)] 3) #[])
def q24_3 (P : Params) : Obj := (Yo (Yt "type") none (PySem.Data.cls (PySem.ClassData.mk (Yz "RoomError") [(Yt "ValueError")] [(Yr 24), (Yt "ValueError"), (Yt "Exception"), (Yt "BaseException"), (Yt "object")] 23 (Yz "RoomError") Bool.true [] [(Yr 44)] Bool.false none Bool.false)) #[(some (Yr 15)), none, (some (Ys (Yz "RoomError") 189)), (some (Ys (Yz "RoomError") 197)), (some (Yu "ValueError.__new__")), (some (Yb Bool.true))])
def q25_3 (P : Params) : Obj := (Yo (Yt "getset_descriptor") none (Yf #[(Ys (Yz "__weakref__") 202), (Yr 24), (Yu "ExceptionGroup.__weakref__"), Yn]) #[])
def q26_3 (P : Params) : Obj := (Yo (Yt "super") none (Yf #[(Yr 24), (Yr 24), (Yr 24)]) #[])
def q27_3 (P : Params) : Obj := (Yo (Yt "builtin_function_or_method") none (Yf #[(Yu "object.__init_subclass__"), (Yr 24)]) #[])
def q28_3 (P : Params) : Obj := (Yo (Yt "tuple") none (Yq #[(Yr 24)] 0) #[])
def q30_3 (P : Params) : Obj := (Yo (Yt "dict") none (Yd #[(Yw (Yk P (Yz "__module__")) (Ys (Yz "__module__") 214) (Ys (Yz "roomtally.errors") 187)), (Yw (Yk P (Yz "__qualname__")) (Ys (Yz "__qualname__") 216) (Ys (Yz "BadText") 215)), (Yw (Yk P (Yz "__firstlineno__")) (Ys (Yz "__firstlineno__") 218) (Yi 4 217)), (Yw (Yk P (Yz "__init__")) (Ys (Yz "__init__") 226) (Yr 41)), (Yw (Yk P (Yz "__static_attributes__")) (Ys (Yz "__static_attributes__") 228) (Yr 42))] 5) #[])
def q32_3 (P : Params) : Obj := (Yo Yn none (Yf #[(Yi 6 0), (Yi 4 0), (Yr 40)]) #[])
def q33_3 (P : Params) : Obj := (Yo (Yt "code") none (Yf #[(Ys (Yz "BadText") 209), (Ys (Yz "BadText") 210), (Ys (Yz "/claim/cut.py") 211), (Yi 4 0), (Yi 0 0), (Yi 0 0), (Yi 0 0), (Yi 0 0), (Yr 31), (Yb Bool.false), (Yi 181 0), (Yr 32), Yn, Yn, Yn, Yn, (Yi 212 0), (Yi 4 0), (Ys (Yz "/claim/cut.py") 213)]) #[])
def q34_3 (P : Params) : Obj := (Yo (Yt "frame") none PySem.Data.plain #[(some (Yr 33)), (some (Yr 3)), (some (Yr 30)), none, (some (Ys (Yz "roomtally.errors") 187)), none, (some (Yr 0))])
def q37_3 (P : Params) : Obj := (Yo (Yt "tuple") none (Yq #[(Ys (Yz "self") 222), (Ys (Yz "at") 223)] 0) #[])
def q39_3 (P : Params) : Obj := (Yo Yn none (Yc (Yg (Yz "__init__") (Yz "BadText.__init__") (defArgs (hcM 2 0)) (Ym (defBody (hcM 2 0))) (defScope (hcM 2 0)) 0 [] Yn Yn Yn Yn none Yn Yn 0)) #[])
def q40_3 (P : Params) : Obj := (Yo (Yt "code") none (Yf #[(Ys (Yz "__init__") 219), (Ys (Yz "BadText.__init__") 220), (Ys (Yz "/claim/cut.py") 221), (Yi 6 0), (Yi 2 0), (Yi 0 0), (Yi 0 0), (Yi 3 0), (Yr 35), (Yb Bool.true), (Yi 181 0), (Yr 36), Yn, (Yr 37), (Yr 38), (Yr 39), (Yi 224 0), (Yi 6 0), (Ys (Yz "/claim/cut.py") 225)]) #[])
def q41_3 (P : Params) : Obj := (Yo (Yt "function") none (Yc (Yg (Yz "__init__") (Yz "BadText.__init__") (defArgs (hcM 2 0)) (Ym (defBody (hcM 2 0))) (defScope (hcM 2 0)) 3 [] Yn Yn Yn (Ys (Yz "roomtally.errors") 187) none (Yr 40) Yn 0)) #[])
def q42_3 (P : Params) : Obj := (Yo (Yt "tuple") none (Yq #[(Ys (Yz "at") 227)] 0) #[])
def q43_3 (P : Params) : Obj := (Yo (Yt "dict") none (Yd #[(Yw (Yk P (Yz "__module__")) (Ys (Yz "__module__") 214) (Ys (Yz "roomtally.errors") 187)), (Yw (Yk P (Yz "__firstlineno__")) (Ys (Yz "__firstlineno__") 218) (Yi 4 217)), (Yw (Yk P (Yz "__init__")) (Ys (Yz "__init__") 226) (Yr 41)), (Yw (Yk P (Yz "__static_attributes__")) (Ys (Yz "__static_attributes__") 228) (Yr 42)), (Yw (Yk P (Yz "__doc__")) (Ys (Yz "__doc__") 229) Yn)] 2) #[])
def q44_3 (P : Params) : Obj := (Yo (Yt "type") none (PySem.Data.cls (PySem.ClassData.mk (Yz "BadText") [(Yr 24)] [(Yr 44), (Yr 24), (Yt "ValueError"), (Yt "Exception"), (Yt "BaseException"), (Yt "object")] 43 (Yz "BadText") Bool.true [] [] Bool.false none Bool.false)) #[(some (Yr 28)), none, (some (Ys (Yz "BadText") 207)), (some (Ys (Yz "BadText") 215)), (some (Yu "ValueError.__new__")), (some (Yb Bool.true))])
def q45_3 (P : Params) : Obj := (Yo (Yt "super") none (Yf #[(Yr 44), (Yr 44), (Yr 44)]) #[])
def q46_3 (P : Params) : Obj := (Yo (Yt "builtin_function_or_method") none (Yf #[(Yu "object.__init_subclass__"), (Yr 44)]) #[])
def q49_3 (P : Params) : Obj := (Yo (Yt "tuple") none (Yq #[(Ys (Yz "text") 245), (Ys (Yz "sign") 246)] 0) #[])
def q51_3 (P : Params) : Obj := (Yo Yn none (Yc (Yg (Yz "is_name") (Yz "is_name") (defArgs (topS 8)) (Ym (defBody (topS 8))) (defScope (topS 8)) 0 [] Yn Yn Yn Yn none Yn Yn 0)) #[])
def q52_3 (P : Params) : Obj := (Yo (Yt "code") none (Yf #[(Ys (Yz "is_name") 242), (Ys (Yz "is_name") 243), (Ys (Yz "/claim/cut.py") 244), (Yi 13 0), (Yi 1 0), (Yi 0 0), (Yi 0 0), (Yi 3 0), (Yr 47), (Yb Bool.true), (Yi 181 0), (Yr 48), Yn, (Yr 49), (Yr 50), (Yr 51), (Yi 247 0), (Yi 13 0), (Ys (Yz "/claim/cut.py") 248)]) #[])
def q53_3 (P : Params) : Obj := (Yo (Yt "function") none (Yc (Yg (Yz "is_name") (Yz "is_name") (defArgs (topS 8)) (Ym (defBody (topS 8))) (defScope (topS 8)) 3 [] Yn Yn Yn (Ys (Yz "roomtally.rows") 232) none (Yr 52) Yn 0)) #[])
def q56_3 (P : Params) : Obj := (Yo (Yt "tuple") none (Yq #[(Ys (Yz "names") 253), (Ys (Yz "at") 254)] 0) #[])
def q58_3 (P : Params) : Obj := (Yo Yn none (Yc (Yg (Yz "is_room") (Yz "is_room") (defArgs (topS 9)) (Ym (defBody (topS 9))) (defScope (topS 9)) 0 [] Yn Yn Yn Yn none Yn Yn 0)) #[])
def q59_3 (P : Params) : Obj := (Yo (Yt "code") none (Yf #[(Ys (Yz "is_room") 250), (Ys (Yz "is_room") 251), (Ys (Yz "/claim/cut.py") 252), (Yi 20 0), (Yi 1 0), (Yi 0 0), (Yi 0 0), (Yi 3 0), (Yr 54), (Yb Bool.true), (Yi 181 0), (Yr 55), Yn, (Yr 56), (Yr 57), (Yr 58), (Yi 255 0), (Yi 20 0), (Ys (Yz "/claim/cut.py") 256)]) #[])
def q60_3 (P : Params) : Obj := (Yo (Yt "function") none (Yc (Yg (Yz "is_room") (Yz "is_room") (defArgs (topS 9)) (Ym (defBody (topS 9))) (defScope (topS 9)) 3 [] Yn Yn Yn (Ys (Yz "roomtally.rows") 232) none (Yr 59) Yn 0)) #[])
def q63_3 (P : Params) : Obj := (Yo (Yt "tuple") none (Yq #[(Ys (Yz "room") 261), (Ys (Yz "row") 262), (Ys (Yz "answer") 263)] 0) #[])
def q65_3 (P : Params) : Obj := (Yo Yn none (Yc (Yg (Yz "is_row") (Yz "is_row") (defArgs (topS 10)) (Ym (defBody (topS 10))) (defScope (topS 10)) 0 [] Yn Yn Yn Yn none Yn Yn 0)) #[])
def q66_3 (P : Params) : Obj := (Yo (Yt "code") none (Yf #[(Ys (Yz "is_row") 258), (Ys (Yz "is_row") 259), (Ys (Yz "/claim/cut.py") 260), (Yi 29 0), (Yi 2 0), (Yi 0 0), (Yi 0 0), (Yi 3 0), (Yr 61), (Yb Bool.true), (Yi 181 0), (Yr 62), Yn, (Yr 63), (Yr 64), (Yr 65), (Yi 264 0), (Yi 29 0), (Ys (Yz "/claim/cut.py") 265)]) #[])
def q67_3 (P : Params) : Obj := (Yo (Yt "function") none (Yc (Yg (Yz "is_row") (Yz "is_row") (defArgs (topS 10)) (Ym (defBody (topS 10))) (defScope (topS 10)) 3 [] Yn Yn Yn (Ys (Yz "roomtally.rows") 232) none (Yr 66) Yn 0)) #[])
def q70_3 (P : Params) : Obj := (Yo (Yt "tuple") none (Yq #[(Ys (Yz "room") 272), (Ys (Yz "rows") 273), (Ys (Yz "at") 274), (Ys (Yz "row") 275), (Ys (Yz "count") 276)] 0) #[])
def q72_3 (P : Params) : Obj := (Yo Yn none (Yc (Yg (Yz "is_tally") (Yz "is_tally") (defArgs (topS 12)) (Ym (defBody (topS 12))) (defScope (topS 12)) 0 [] Yn Yn Yn Yn none Yn Yn 0)) #[])
def q73_3 (P : Params) : Obj := (Yo (Yt "code") none (Yf #[(Ys (Yz "is_tally") 269), (Ys (Yz "is_tally") 270), (Ys (Yz "/claim/cut.py") 271), (Yi 37 0), (Yi 2 0), (Yi 0 0), (Yi 0 0), (Yi 3 0), (Yr 68), (Yb Bool.true), (Yi 181 0), (Yr 69), Yn, (Yr 70), (Yr 71), (Yr 72), (Yi 277 0), (Yi 37 0), (Ys (Yz "/claim/cut.py") 278)]) #[])
def q74_3 (P : Params) : Obj := (Yo (Yt "function") none (Yc (Yg (Yz "is_tally") (Yz "is_tally") (defArgs (topS 12)) (Ym (defBody (topS 12))) (defScope (topS 12)) 3 [] Yn Yn Yn (Ys (Yz "roomtally.tally") 267) none (Yr 73) Yn 0)) #[])
def q77_3 (P : Params) : Obj := (Yo (Yt "tuple") none (Yq #[(Ys (Yz "word") 289), (Ys (Yz "sign") 290)] 0) #[])
def q79_3 (P : Params) : Obj := (Yo Yn none (Yc (Yg (Yz "number_of") (Yz "number_of") (defArgs (topS 16)) (Ym (defBody (topS 16))) (defScope (topS 16)) 0 [] Yn Yn Yn Yn none Yn Yn 0)) #[])
def q80_3 (P : Params) : Obj := (Yo (Yt "code") none (Yf #[(Ys (Yz "number_of") 286), (Ys (Yz "number_of") 287), (Ys (Yz "/claim/cut.py") 288), (Yi 48 0), (Yi 1 0), (Yi 0 0), (Yi 0 0), (Yi 3 0), (Yr 75), (Yb Bool.true), (Yi 181 0), (Yr 76), Yn, (Yr 77), (Yr 78), (Yr 79), (Yi 291 0), (Yi 48 0), (Ys (Yz "/claim/cut.py") 292)]) #[])
def q81_3 (P : Params) : Obj := (Yo (Yt "function") none (Yc (Yg (Yz "number_of") (Yz "number_of") (defArgs (topS 16)) (Ym (defBody (topS 16))) (defScope (topS 16)) 3 [] Yn Yn Yn (Ys (Yz "roomtally.notes") 280) none (Yr 80) Yn 0)) #[])
def q84_3 (P : Params) : Obj := (Yo (Yt "tuple") none (Yq #[(Ys (Yz "word") 297)] 0) #[])
def q86_3 (P : Params) : Obj := (Yo Yn none (Yc (Yg (Yz "name_of") (Yz "name_of") (defArgs (topS 17)) (Ym (defBody (topS 17))) (defScope (topS 17)) 0 [] Yn Yn Yn Yn none Yn Yn 0)) #[])
def q87_3 (P : Params) : Obj := (Yo (Yt "code") none (Yf #[(Ys (Yz "name_of") 294), (Ys (Yz "name_of") 295), (Ys (Yz "/claim/cut.py") 296), (Yi 57 0), (Yi 1 0), (Yi 0 0), (Yi 0 0), (Yi 3 0), (Yr 82), (Yb Bool.true), (Yi 181 0), (Yr 83), Yn, (Yr 84), (Yr 85), (Yr 86), (Yi 298 0), (Yi 57 0), (Ys (Yz "/claim/cut.py") 299)]) #[])
def q88_3 (P : Params) : Obj := (Yo (Yt "function") none (Yc (Yg (Yz "name_of") (Yz "name_of") (defArgs (topS 17)) (Ym (defBody (topS 17))) (defScope (topS 17)) 3 [] Yn Yn Yn (Ys (Yz "roomtally.notes") 280) none (Yr 87) Yn 0)) #[])
def q91_3 (P : Params) : Obj := (Yo (Yt "tuple") none (Yq #[(Ys (Yz "word") 304), (Ys (Yz "room") 305)] 0) #[])
def q93_3 (P : Params) : Obj := (Yo Yn none (Yc (Yg (Yz "room_of") (Yz "room_of") (defArgs (topS 18)) (Ym (defBody (topS 18))) (defScope (topS 18)) 0 [] Yn Yn Yn Yn none Yn Yn 0)) #[])
def q94_3 (P : Params) : Obj := (Yo (Yt "code") none (Yf #[(Ys (Yz "room_of") 301), (Ys (Yz "room_of") 302), (Ys (Yz "/claim/cut.py") 303), (Yi 61 0), (Yi 1 0), (Yi 0 0), (Yi 0 0), (Yi 3 0), (Yr 89), (Yb Bool.true), (Yi 181 0), (Yr 90), Yn, (Yr 91), (Yr 92), (Yr 93), (Yi 306 0), (Yi 61 0), (Ys (Yz "/claim/cut.py") 307)]) #[])
def q95_3 (P : Params) : Obj := (Yo (Yt "function") none (Yc (Yg (Yz "room_of") (Yz "room_of") (defArgs (topS 18)) (Ym (defBody (topS 18))) (defScope (topS 18)) 3 [] Yn Yn Yn (Ys (Yz "roomtally.notes") 280) none (Yr 94) Yn 0)) #[])
def q98_3 (P : Params) : Obj := (Yo Yn none (Yc (Yg (Yz "row_of") (Yz "row_of") (defArgs (topS 19)) (Ym (defBody (topS 19))) (defScope (topS 19)) 0 [] Yn Yn Yn Yn none Yn Yn 0)) #[])
def q99_3 (P : Params) : Obj := (Yo (Yt "code") none (Yf #[(Ys (Yz "row_of") 309), (Ys (Yz "row_of") 310), (Ys (Yz "/claim/cut.py") 311), (Yi 68 0), (Yi 1 0), (Yi 0 0), (Yi 0 0), (Yi 3 0), (Yr 96), (Yb Bool.true), (Yi 181 0), (Yr 97), Yn, Yn, Yn, (Yr 98), (Yi 312 0), (Yi 68 0), (Ys (Yz "/claim/cut.py") 313)]) #[])
def q100_3 (P : Params) : Obj := (Yo (Yt "function") none (Yc (Yg (Yz "row_of") (Yz "row_of") (defArgs (topS 19)) (Ym (defBody (topS 19))) (defScope (topS 19)) 3 [] Yn Yn Yn (Ys (Yz "roomtally.notes") 280) none (Yr 99) Yn 0)) #[])
def q103_3 (P : Params) : Obj := (Yo (Yt "tuple") none (Yq #[(Ys (Yz "word") 318), (Ys (Yz "parts") 319)] 0) #[])
def q105_3 (P : Params) : Obj := (Yo Yn none (Yc (Yg (Yz "pair_of") (Yz "pair_of") (defArgs (topS 20)) (Ym (defBody (topS 20))) (defScope (topS 20)) 0 [] Yn Yn Yn Yn none Yn Yn 0)) #[])
def q106_3 (P : Params) : Obj := (Yo (Yt "code") none (Yf #[(Ys (Yz "pair_of") 315), (Ys (Yz "pair_of") 316), (Ys (Yz "/claim/cut.py") 317), (Yi 78 0), (Yi 1 0), (Yi 0 0), (Yi 0 0), (Yi 3 0), (Yr 101), (Yb Bool.true), (Yi 181 0), (Yr 102), Yn, (Yr 103), (Yr 104), (Yr 105), (Yi 320 0), (Yi 78 0), (Ys (Yz "/claim/cut.py") 321)]) #[])
def q107_3 (P : Params) : Obj := (Yo (Yt "function") none (Yc (Yg (Yz "pair_of") (Yz "pair_of") (defArgs (topS 20)) (Ym (defBody (topS 20))) (defScope (topS 20)) 3 [] Yn Yn Yn (Ys (Yz "roomtally.notes") 280) none (Yr 106) Yn 0)) #[])
def q110_3 (P : Params) : Obj := (Yo Yn none (Yc (Yg (Yz "tally_of") (Yz "tally_of") (defArgs (topS 21)) (Ym (defBody (topS 21))) (defScope (topS 21)) 0 [] Yn Yn Yn Yn none Yn Yn 0)) #[])
def q111_3 (P : Params) : Obj := (Yo (Yt "code") none (Yf #[(Ys (Yz "tally_of") 323), (Ys (Yz "tally_of") 324), (Ys (Yz "/claim/cut.py") 325), (Yi 83 0), (Yi 2 0), (Yi 0 0), (Yi 0 0), (Yi 3 0), (Yr 108), (Yb Bool.true), (Yi 181 0), (Yr 109), Yn, Yn, Yn, (Yr 110), (Yi 326 0), (Yi 83 0), (Ys (Yz "/claim/cut.py") 327)]) #[])
def q112_3 (P : Params) : Obj := (Yo (Yt "function") none (Yc (Yg (Yz "tally_of") (Yz "tally_of") (defArgs (topS 21)) (Ym (defBody (topS 21))) (defScope (topS 21)) 3 [] Yn Yn Yn (Ys (Yz "roomtally.notes") 280) none (Yr 111) Yn 0)) #[])
def q115_3 (P : Params) : Obj := (Yo (Yt "tuple") none (Yq #[(Ys (Yz "line") 332), (Ys (Yz "words") 333), (Ys (Yz "word") 334), (Ys (Yz "many") 335), (Ys (Yz "room") 336)] 0) #[])
def q117_3 (P : Params) : Obj := (Yo Yn none (Yc (Yg (Yz "read_deed") (Yz "read_deed") (defArgs (topS 22)) (Ym (defBody (topS 22))) (defScope (topS 22)) 0 [] Yn Yn Yn Yn none Yn Yn 0)) #[])
def q118_3 (P : Params) : Obj := (Yo (Yt "code") none (Yf #[(Ys (Yz "read_deed") 329), (Ys (Yz "read_deed") 330), (Ys (Yz "/claim/cut.py") 331), (Yi 90 0), (Yi 1 0), (Yi 0 0), (Yi 0 0), (Yi 3 0), (Yr 113), (Yb Bool.true), (Yi 181 0), (Yr 114), Yn, (Yr 115), (Yr 116), (Yr 117), (Yi 337 0), (Yi 90 0), (Ys (Yz "/claim/cut.py") 338)]) #[])
def q119_3 (P : Params) : Obj := (Yo (Yt "function") none (Yc (Yg (Yz "read_deed") (Yz "read_deed") (defArgs (topS 22)) (Ym (defBody (topS 22))) (defScope (topS 22)) 3 [] Yn Yn Yn (Ys (Yz "roomtally.notes") 280) none (Yr 118) Yn 0)) #[])
def q122_3 (P : Params) : Obj := (Yo (Yt "tuple") none (Yq #[(Ys (Yz "_law_script") 345), (Ys (Yz "_law_salt") 346), (Ys (Yz "_law_one") 347)] 0) #[])
def q124_3 (P : Params) : Obj := (Yo Yn none (Yc (Yg (Yz "_law_bag") (Yz "_law_bag") (defArgs (topS 24)) (Ym (defBody (topS 24))) (defScope (topS 24)) 0 [] Yn Yn Yn Yn none Yn Yn 0)) #[])
def q125_3 (P : Params) : Obj := (Yo (Yt "code") none (Yf #[(Ys (Yz "_law_bag") 342), (Ys (Yz "_law_bag") 343), (Ys (Yz "/claim/cut.py") 344), (Yi 105 0), (Yi 1 0), (Yi 0 0), (Yi 0 0), (Yi 3 0), (Yr 120), (Yb Bool.true), (Yi 181 0), (Yr 121), Yn, (Yr 122), (Yr 123), (Yr 124), (Yi 348 0), (Yi 105 0), (Ys (Yz "/claim/cut.py") 349)]) #[])
def q126_3 (P : Params) : Obj := (Yo (Yt "function") none (Yc (Yg (Yz "_law_bag") (Yz "_law_bag") (defArgs (topS 24)) (Ym (defBody (topS 24))) (defScope (topS 24)) 3 [] Yn Yn Yn (Ys (Yz "law_roomtally_k39_lines_read_or_refused") 340) none (Yr 125) Yn 0)) #[])
def q129_3 (P : Params) : Obj := (Yo (Yt "tuple") none (Yq #[(Ys (Yz "_law_room") 354)] 0) #[])
def q131_3 (P : Params) : Obj := (Yo Yn none (Yc (Yg (Yz "_law_room_text") (Yz "_law_room_text") (defArgs (topS 25)) (Ym (defBody (topS 25))) (defScope (topS 25)) 0 [] Yn Yn Yn Yn none Yn Yn 0)) #[])
def q132_3 (P : Params) : Obj := (Yo (Yt "code") none (Yf #[(Ys (Yz "_law_room_text") 351), (Ys (Yz "_law_room_text") 352), (Ys (Yz "/claim/cut.py") 353), (Yi 110 0), (Yi 1 0), (Yi 0 0), (Yi 0 0), (Yi 3 0), (Yr 127), (Yb Bool.true), (Yi 181 0), (Yr 128), Yn, (Yr 129), (Yr 130), (Yr 131), (Yi 355 0), (Yi 110 0), (Ys (Yz "/claim/cut.py") 356)]) #[])
def q133_3 (P : Params) : Obj := (Yo (Yt "function") none (Yc (Yg (Yz "_law_room_text") (Yz "_law_room_text") (defArgs (topS 25)) (Ym (defBody (topS 25))) (defScope (topS 25)) 3 [] Yn Yn Yn (Ys (Yz "law_roomtally_k39_lines_read_or_refused") 340) none (Yr 132) Yn 0)) #[])
def q136_3 (P : Params) : Obj := (Yo Yn none (Yc (Yg (Yz "_law_row_text") (Yz "_law_row_text") (defArgs (topS 26)) (Ym (defBody (topS 26))) (defScope (topS 26)) 0 [] Yn Yn Yn Yn none Yn Yn 0)) #[])
def q137_3 (P : Params) : Obj := (Yo (Yt "code") none (Yf #[(Ys (Yz "_law_row_text") 358), (Ys (Yz "_law_row_text") 359), (Ys (Yz "/claim/cut.py") 360), (Yi 114 0), (Yi 1 0), (Yi 0 0), (Yi 0 0), (Yi 3 0), (Yr 134), (Yb Bool.true), (Yi 181 0), (Yr 135), Yn, Yn, Yn, (Yr 136), (Yi 361 0), (Yi 114 0), (Ys (Yz "/claim/cut.py") 362)]) #[])
def q138_3 (P : Params) : Obj := (Yo (Yt "function") none (Yc (Yg (Yz "_law_row_text") (Yz "_law_row_text") (defArgs (topS 26)) (Ym (defBody (topS 26))) (defScope (topS 26)) 3 [] Yn Yn Yn (Ys (Yz "law_roomtally_k39_lines_read_or_refused") 340) none (Yr 137) Yn 0)) #[])
def q141_3 (P : Params) : Obj := (Yo Yn none (Yc (Yg (Yz "_law_tally_text") (Yz "_law_tally_text") (defArgs (topS 27)) (Ym (defBody (topS 27))) (defScope (topS 27)) 0 [] Yn Yn Yn Yn none Yn Yn 0)) #[])
def q142_3 (P : Params) : Obj := (Yo (Yt "code") none (Yf #[(Ys (Yz "_law_tally_text") 364), (Ys (Yz "_law_tally_text") 365), (Ys (Yz "/claim/cut.py") 366), (Yi 118 0), (Yi 1 0), (Yi 0 0), (Yi 0 0), (Yi 3 0), (Yr 139), (Yb Bool.true), (Yi 181 0), (Yr 140), Yn, Yn, Yn, (Yr 141), (Yi 367 0), (Yi 118 0), (Ys (Yz "/claim/cut.py") 368)]) #[])
def q143_3 (P : Params) : Obj := (Yo (Yt "function") none (Yc (Yg (Yz "_law_tally_text") (Yz "_law_tally_text") (defArgs (topS 27)) (Ym (defBody (topS 27))) (defScope (topS 27)) 3 [] Yn Yn Yn (Ys (Yz "law_roomtally_k39_lines_read_or_refused") 340) none (Yr 142) Yn 0)) #[])
def q146_3 (P : Params) : Obj := (Yo (Yt "tuple") none (Yq #[(Ys (Yz "_law_deed") 373), (Ys (Yz "_law_words") 374), (Ys (Yz "_law_part") 375)] 0) #[])
def q148_3 (P : Params) : Obj := (Yo Yn none (Yc (Yg (Yz "_law_deed_text") (Yz "_law_deed_text") (defArgs (topS 28)) (Ym (defBody (topS 28))) (defScope (topS 28)) 0 [] Yn Yn Yn Yn none Yn Yn 0)) #[])
def q149_3 (P : Params) : Obj := (Yo (Yt "code") none (Yf #[(Ys (Yz "_law_deed_text") 370), (Ys (Yz "_law_deed_text") 371), (Ys (Yz "/claim/cut.py") 372), (Yi 122 0), (Yi 1 0), (Yi 0 0), (Yi 0 0), (Yi 3 0), (Yr 144), (Yb Bool.true), (Yi 181 0), (Yr 145), Yn, (Yr 146), (Yr 147), (Yr 148), (Yi 376 0), (Yi 122 0), (Ys (Yz "/claim/cut.py") 377)]) #[])
def q150_3 (P : Params) : Obj := (Yo (Yt "function") none (Yc (Yg (Yz "_law_deed_text") (Yz "_law_deed_text") (defArgs (topS 28)) (Ym (defBody (topS 28))) (defScope (topS 28)) 3 [] Yn Yn Yn (Ys (Yz "law_roomtally_k39_lines_read_or_refused") 340) none (Yr 149) Yn 0)) #[])
def q153_3 (P : Params) : Obj := (Yo (Yt "tuple") none (Yq #[(Ys (Yz "_law_bag_here") 382), (Ys (Yz "_law_many_here") 383), (Ys (Yz "_law_seed") 384), (Ys (Yz "_law_mixed") 385), (Ys (Yz "_law_drawn_here") 386)] 0) #[])
def q155_3 (P : Params) : Obj := (Yo Yn none (Yc (Yg (Yz "_law_pull") (Yz "_law_pull") (defArgs (topS 29)) (Ym (defBody (topS 29))) (defScope (topS 29)) 0 [] Yn Yn Yn Yn none Yn Yn 0)) #[])
def q156_3 (P : Params) : Obj := (Yo (Yt "code") none (Yf #[(Ys (Yz "_law_pull") 379), (Ys (Yz "_law_pull") 380), (Ys (Yz "/claim/cut.py") 381), (Yi 132 0), (Yi 2 0), (Yi 0 0), (Yi 0 0), (Yi 3 0), (Yr 151), (Yb Bool.true), (Yi 181 0), (Yr 152), Yn, (Yr 153), (Yr 154), (Yr 155), (Yi 387 0), (Yi 132 0), (Ys (Yz "/claim/cut.py") 388)]) #[])
def q157_3 (P : Params) : Obj := (Yo (Yt "function") none (Yc (Yg (Yz "_law_pull") (Yz "_law_pull") (defArgs (topS 29)) (Ym (defBody (topS 29))) (defScope (topS 29)) 3 [] Yn Yn Yn (Ys (Yz "law_roomtally_k39_lines_read_or_refused") 340) none (Yr 156) Yn 0)) #[])
def q160_3 (P : Params) : Obj := (Yo Yn none (Yc (Yg (Yz "_law_word") (Yz "_law_word") (defArgs (topS 30)) (Ym (defBody (topS 30))) (defScope (topS 30)) 0 [] Yn Yn Yn Yn none Yn Yn 0)) #[])
def q161_3 (P : Params) : Obj := (Yo (Yt "code") none (Yf #[(Ys (Yz "_law_word") 390), (Ys (Yz "_law_word") 391), (Ys (Yz "/claim/cut.py") 392), (Yi 146 0), (Yi 2 0), (Yi 0 0), (Yi 0 0), (Yi 3 0), (Yr 158), (Yb Bool.true), (Yi 181 0), (Yr 159), Yn, Yn, Yn, (Yr 160), (Yi 393 0), (Yi 146 0), (Ys (Yz "/claim/cut.py") 394)]) #[])
def q162_3 (P : Params) : Obj := (Yo (Yt "function") none (Yc (Yg (Yz "_law_word") (Yz "_law_word") (defArgs (topS 30)) (Ym (defBody (topS 30))) (defScope (topS 30)) 3 [] Yn Yn Yn (Ys (Yz "law_roomtally_k39_lines_read_or_refused") 340) none (Yr 161) Yn 0)) #[])
def q165_3 (P : Params) : Obj := (Yo (Yt "tuple") none (Yq #[(Ys (Yz "_law_bag_here") 399), (Ys (Yz "_law_many_here") 400), (Ys (Yz "_law_letters") 401), (Ys (Yz "_law_found") 402), (Ys (Yz "_law_start") 403), (Ys (Yz "_law_k") 404), (Ys (Yz "_law_word_here") 405), (Ys (Yz "_law_step") 406)] 0) #[])
def q167_3 (P : Params) : Obj := (Yo Yn none (Yc (Yg (Yz "_law_names") (Yz "_law_names") (defArgs (topS 31)) (Ym (defBody (topS 31))) (defScope (topS 31)) 0 [] Yn Yn Yn Yn none Yn Yn 0)) #[])
def q168_3 (P : Params) : Obj := (Yo (Yt "code") none (Yf #[(Ys (Yz "_law_names") 396), (Ys (Yz "_law_names") 397), (Ys (Yz "/claim/cut.py") 398), (Yi 149 0), (Yi 2 0), (Yi 0 0), (Yi 0 0), (Yi 3 0), (Yr 163), (Yb Bool.true), (Yi 181 0), (Yr 164), Yn, (Yr 165), (Yr 166), (Yr 167), (Yi 407 0), (Yi 149 0), (Ys (Yz "/claim/cut.py") 408)]) #[])
def q169_3 (P : Params) : Obj := (Yo (Yt "function") none (Yc (Yg (Yz "_law_names") (Yz "_law_names") (defArgs (topS 31)) (Ym (defBody (topS 31))) (defScope (topS 31)) 3 [] Yn Yn Yn (Ys (Yz "law_roomtally_k39_lines_read_or_refused") 340) none (Yr 168) Yn 0)) #[])
def q172_3 (P : Params) : Obj := (Yo Yn none (Yc (Yg (Yz "_law_answers") (Yz "_law_answers") (defArgs (topS 32)) (Ym (defBody (topS 32))) (defScope (topS 32)) 0 [] Yn Yn Yn Yn none Yn Yn 0)) #[])
def q173_3 (P : Params) : Obj := (Yo (Yt "code") none (Yf #[(Ys (Yz "_law_answers") 410), (Ys (Yz "_law_answers") 411), (Ys (Yz "/claim/cut.py") 412), (Yi 160 0), (Yi 3 0), (Yi 0 0), (Yi 0 0), (Yi 3 0), (Yr 170), (Yb Bool.true), (Yi 181 0), (Yr 171), Yn, Yn, Yn, (Yr 172), (Yi 413 0), (Yi 160 0), (Ys (Yz "/claim/cut.py") 414)]) #[])
def q174_3 (P : Params) : Obj := (Yo (Yt "function") none (Yc (Yg (Yz "_law_answers") (Yz "_law_answers") (defArgs (topS 32)) (Ym (defBody (topS 32))) (defScope (topS 32)) 3 [] Yn Yn Yn (Ys (Yz "law_roomtally_k39_lines_read_or_refused") 340) none (Yr 173) Yn 0)) #[])
def q177_3 (P : Params) : Obj := (Yo (Yt "tuple") none (Yq #[(Ys (Yz "_law_bag_here") 419)] 0) #[])
def q179_3 (P : Params) : Obj := (Yo Yn none (Yc (Yg (Yz "_law_many") (Yz "_law_many") (defArgs (topS 33)) (Ym (defBody (topS 33))) (defScope (topS 33)) 0 [] Yn Yn Yn Yn none Yn Yn 0)) #[])
def q180_3 (P : Params) : Obj := (Yo (Yt "code") none (Yf #[(Ys (Yz "_law_many") 416), (Ys (Yz "_law_many") 417), (Ys (Yz "/claim/cut.py") 418), (Yi 162 0), (Yi 1 0), (Yi 0 0), (Yi 0 0), (Yi 3 0), (Yr 175), (Yb Bool.true), (Yi 181 0), (Yr 176), Yn, (Yr 177), (Yr 178), (Yr 179), (Yi 420 0), (Yi 162 0), (Ys (Yz "/claim/cut.py") 421)]) #[])
def q181_3 (P : Params) : Obj := (Yo (Yt "function") none (Yc (Yg (Yz "_law_many") (Yz "_law_many") (defArgs (topS 33)) (Ym (defBody (topS 33))) (defScope (topS 33)) 3 [] Yn Yn Yn (Ys (Yz "law_roomtally_k39_lines_read_or_refused") 340) none (Yr 180) Yn 0)) #[])
def q184_3 (P : Params) : Obj := (Yo Yn none (Yc (Yg (Yz "_law_settled") (Yz "_law_settled") (defArgs (topS 34)) (Ym (defBody (topS 34))) (defScope (topS 34)) 0 [] Yn Yn Yn Yn none Yn Yn 0)) #[])
def q185_3 (P : Params) : Obj := (Yo (Yt "code") none (Yf #[(Ys (Yz "_law_settled") 423), (Ys (Yz "_law_settled") 424), (Ys (Yz "/claim/cut.py") 425), (Yi 164 0), (Yi 1 0), (Yi 0 0), (Yi 0 0), (Yi 3 0), (Yr 182), (Yb Bool.true), (Yi 181 0), (Yr 183), Yn, Yn, Yn, (Yr 184), (Yi 426 0), (Yi 164 0), (Ys (Yz "/claim/cut.py") 427)]) #[])
def q186_3 (P : Params) : Obj := (Yo (Yt "function") none (Yc (Yg (Yz "_law_settled") (Yz "_law_settled") (defArgs (topS 34)) (Ym (defBody (topS 34))) (defScope (topS 34)) 3 [] Yn Yn Yn (Ys (Yz "law_roomtally_k39_lines_read_or_refused") 340) none (Yr 185) Yn 0)) #[])
def q189_3 (P : Params) : Obj := (Yo (Yt "tuple") none (Yq #[(Ys (Yz "_law_bag_here") 432), (Ys (Yz "_law_room") 433), (Ys (Yz "_law_counts") 434), (Ys (Yz "_law_base") 435), (Ys (Yz "_law_k") 436)] 0) #[])
def q191_3 (P : Params) : Obj := (Yo Yn none (Yc (Yg (Yz "_law_drawn") (Yz "_law_drawn") (defArgs (topS 35)) (Ym (defBody (topS 35))) (defScope (topS 35)) 0 [] Yn Yn Yn Yn none Yn Yn 0)) #[])
def q192_3 (P : Params) : Obj := (Yo (Yt "code") none (Yf #[(Ys (Yz "_law_drawn") 429), (Ys (Yz "_law_drawn") 430), (Ys (Yz "/claim/cut.py") 431), (Yi 166 0), (Yi 2 0), (Yi 0 0), (Yi 0 0), (Yi 3 0), (Yr 187), (Yb Bool.true), (Yi 181 0), (Yr 188), Yn, (Yr 189), (Yr 190), (Yr 191), (Yi 437 0), (Yi 166 0), (Ys (Yz "/claim/cut.py") 438)]) #[])
def q193_3 (P : Params) : Obj := (Yo (Yt "function") none (Yc (Yg (Yz "_law_drawn") (Yz "_law_drawn") (defArgs (topS 35)) (Ym (defBody (topS 35))) (defScope (topS 35)) 3 [] Yn Yn Yn (Ys (Yz "law_roomtally_k39_lines_read_or_refused") 340) none (Yr 192) Yn 0)) #[])
def q196_3 (P : Params) : Obj := (Yo Yn none (Yc (Yg (Yz "_law_any_deed") (Yz "_law_any_deed") (defArgs (topS 36)) (Ym (defBody (topS 36))) (defScope (topS 36)) 0 [] Yn Yn Yn Yn none Yn Yn 0)) #[])
def q197_3 (P : Params) : Obj := (Yo (Yt "code") none (Yf #[(Ys (Yz "_law_any_deed") 440), (Ys (Yz "_law_any_deed") 441), (Ys (Yz "/claim/cut.py") 442), (Yi 172 0), (Yi 1 0), (Yi 0 0), (Yi 0 0), (Yi 3 0), (Yr 194), (Yb Bool.true), (Yi 181 0), (Yr 195), Yn, Yn, Yn, (Yr 196), (Yi 443 0), (Yi 172 0), (Ys (Yz "/claim/cut.py") 444)]) #[])
def q198_3 (P : Params) : Obj := (Yo (Yt "function") none (Yc (Yg (Yz "_law_any_deed") (Yz "_law_any_deed") (defArgs (topS 36)) (Ym (defBody (topS 36))) (defScope (topS 36)) 3 [] Yn Yn Yn (Ys (Yz "law_roomtally_k39_lines_read_or_refused") 340) none (Yr 197) Yn 0)) #[])
def q201_3 (P : Params) : Obj := (Yo (Yt "tuple") none (Yq #[(Ys (Yz "_law_bag_here") 449), (Ys (Yz "_law_line") 450), (Ys (Yz "_law_signs") 451), (Ys (Yz "_law_at") 452), (Ys (Yz "_law_sign") 453), (Ys (Yz "_law_way") 454)] 0) #[])
def q203_3 (P : Params) : Obj := (Yo Yn none (Yc (Yg (Yz "_law_signed") (Yz "_law_signed") (defArgs (topS 37)) (Ym (defBody (topS 37))) (defScope (topS 37)) 0 [] Yn Yn Yn Yn none Yn Yn 0)) #[])
def q204_3 (P : Params) : Obj := (Yo (Yt "code") none (Yf #[(Ys (Yz "_law_signed") 446), (Ys (Yz "_law_signed") 447), (Ys (Yz "/claim/cut.py") 448), (Yi 186 0), (Yi 2 0), (Yi 0 0), (Yi 0 0), (Yi 3 0), (Yr 199), (Yb Bool.true), (Yi 181 0), (Yr 200), Yn, (Yr 201), (Yr 202), (Yr 203), (Yi 455 0), (Yi 186 0), (Ys (Yz "/claim/cut.py") 456)]) #[])
def q205_3 (P : Params) : Obj := (Yo (Yt "function") none (Yc (Yg (Yz "_law_signed") (Yz "_law_signed") (defArgs (topS 37)) (Ym (defBody (topS 37))) (defScope (topS 37)) 3 [] Yn Yn Yn (Ys (Yz "law_roomtally_k39_lines_read_or_refused") 340) none (Yr 204) Yn 0)) #[])
def q208_3 (P : Params) : Obj := (Yo (Yt "tuple") none (Yq #[(Ys (Yz "_law_bag_here") 461), (Ys (Yz "_law_line") 462), (Ys (Yz "_law_words") 463), (Ys (Yz "_law_at") 464), (Ys (Yz "_law_way") 465), (Ys (Yz "_law_some") 466)] 0) #[])
def q210_3 (P : Params) : Obj := (Yo Yn none (Yc (Yg (Yz "_law_spoilt_line") (Yz "_law_spoilt_line") (defArgs (topS 38)) (Ym (defBody (topS 38))) (defScope (topS 38)) 0 [] Yn Yn Yn Yn none Yn Yn 0)) #[])
def q211_3 (P : Params) : Obj := (Yo (Yt "code") none (Yf #[(Ys (Yz "_law_spoilt_line") 458), (Ys (Yz "_law_spoilt_line") 459), (Ys (Yz "/claim/cut.py") 460), (Yi 196 0), (Yi 2 0), (Yi 0 0), (Yi 0 0), (Yi 3 0), (Yr 206), (Yb Bool.true), (Yi 181 0), (Yr 207), Yn, (Yr 208), (Yr 209), (Yr 210), (Yi 467 0), (Yi 196 0), (Ys (Yz "/claim/cut.py") 468)]) #[])
def q212_3 (P : Params) : Obj := (Yo (Yt "function") none (Yc (Yg (Yz "_law_spoilt_line") (Yz "_law_spoilt_line") (defArgs (topS 38)) (Ym (defBody (topS 38))) (defScope (topS 38)) 3 [] Yn Yn Yn (Ys (Yz "law_roomtally_k39_lines_read_or_refused") 340) none (Yr 211) Yn 0)) #[])
def q215_3 (P : Params) : Obj := (Yo (Yt "tuple") none (Yq #[(Ys (Yz "_law_word_here") 473), (Ys (Yz "_law_room") 474)] 0) #[])
def q217_3 (P : Params) : Obj := (Yo Yn none (Yc (Yg (Yz "_law_room_in") (Yz "_law_room_in") (defArgs (topS 39)) (Ym (defBody (topS 39))) (defScope (topS 39)) 0 [] Yn Yn Yn Yn none Yn Yn 0)) #[])
def q218_3 (P : Params) : Obj := (Yo (Yt "code") none (Yf #[(Ys (Yz "_law_room_in") 470), (Ys (Yz "_law_room_in") 471), (Ys (Yz "/claim/cut.py") 472), (Yi 214 0), (Yi 1 0), (Yi 0 0), (Yi 0 0), (Yi 3 0), (Yr 213), (Yb Bool.true), (Yi 181 0), (Yr 214), Yn, (Yr 215), (Yr 216), (Yr 217), (Yi 475 0), (Yi 214 0), (Ys (Yz "/claim/cut.py") 476)]) #[])
def q219_3 (P : Params) : Obj := (Yo (Yt "function") none (Yc (Yg (Yz "_law_room_in") (Yz "_law_room_in") (defArgs (topS 39)) (Ym (defBody (topS 39))) (defScope (topS 39)) 3 [] Yn Yn Yn (Ys (Yz "law_roomtally_k39_lines_read_or_refused") 340) none (Yr 218) Yn 0)) #[])
def q222_3 (P : Params) : Obj := (Yo Yn none (Yc (Yg (Yz "_law_figures") (Yz "_law_figures") (defArgs (topS 40)) (Ym (defBody (topS 40))) (defScope (topS 40)) 0 [] Yn Yn Yn Yn none Yn Yn 0)) #[])
def q223_3 (P : Params) : Obj := (Yo (Yt "code") none (Yf #[(Ys (Yz "_law_figures") 478), (Ys (Yz "_law_figures") 479), (Ys (Yz "/claim/cut.py") 480), (Yi 221 0), (Yi 1 0), (Yi 0 0), (Yi 0 0), (Yi 3 0), (Yr 220), (Yb Bool.true), (Yi 181 0), (Yr 221), Yn, Yn, Yn, (Yr 222), (Yi 481 0), (Yi 221 0), (Ys (Yz "/claim/cut.py") 482)]) #[])
def q224_3 (P : Params) : Obj := (Yo (Yt "function") none (Yc (Yg (Yz "_law_figures") (Yz "_law_figures") (defArgs (topS 40)) (Ym (defBody (topS 40))) (defScope (topS 40)) 3 [] Yn Yn Yn (Ys (Yz "law_roomtally_k39_lines_read_or_refused") 340) none (Yr 223) Yn 0)) #[])
def q227_3 (P : Params) : Obj := (Yo Yn none (Yc (Yg (Yz "_law_row_in") (Yz "_law_row_in") (defArgs (topS 41)) (Ym (defBody (topS 41))) (defScope (topS 41)) 0 [] Yn Yn Yn Yn none Yn Yn 0)) #[])
def q228_3 (P : Params) : Obj := (Yo (Yt "code") none (Yf #[(Ys (Yz "_law_row_in") 484), (Ys (Yz "_law_row_in") 485), (Ys (Yz "/claim/cut.py") 486), (Yi 227 0), (Yi 1 0), (Yi 0 0), (Yi 0 0), (Yi 3 0), (Yr 225), (Yb Bool.true), (Yi 181 0), (Yr 226), Yn, Yn, Yn, (Yr 227), (Yi 487 0), (Yi 227 0), (Ys (Yz "/claim/cut.py") 488)]) #[])
def q229_3 (P : Params) : Obj := (Yo (Yt "function") none (Yc (Yg (Yz "_law_row_in") (Yz "_law_row_in") (defArgs (topS 41)) (Ym (defBody (topS 41))) (defScope (topS 41)) 3 [] Yn Yn Yn (Ys (Yz "law_roomtally_k39_lines_read_or_refused") 340) none (Yr 228) Yn 0)) #[])
def q232_3 (P : Params) : Obj := (Yo (Yt "tuple") none (Yq #[(Ys (Yz "_law_room") 493), (Ys (Yz "_law_words") 494), (Ys (Yz "_law_rows") 495), (Ys (Yz "_law_word_here") 496), (Ys (Yz "_law_parts") 497), (Ys (Yz "_law_row") 498)] 0) #[])
def q234_3 (P : Params) : Obj := (Yo Yn none (Yc (Yg (Yz "_law_tally_in") (Yz "_law_tally_in") (defArgs (topS 42)) (Ym (defBody (topS 42))) (defScope (topS 42)) 0 [] Yn Yn Yn Yn none Yn Yn 0)) #[])
def q235_3 (P : Params) : Obj := (Yo (Yt "code") none (Yf #[(Ys (Yz "_law_tally_in") 490), (Ys (Yz "_law_tally_in") 491), (Ys (Yz "/claim/cut.py") 492), (Yi 234 0), (Yi 2 0), (Yi 0 0), (Yi 0 0), (Yi 3 0), (Yr 230), (Yb Bool.true), (Yi 181 0), (Yr 231), Yn, (Yr 232), (Yr 233), (Yr 234), (Yi 499 0), (Yi 234 0), (Ys (Yz "/claim/cut.py") 500)]) #[])
def q236_3 (P : Params) : Obj := (Yo (Yt "function") none (Yc (Yg (Yz "_law_tally_in") (Yz "_law_tally_in") (defArgs (topS 42)) (Ym (defBody (topS 42))) (defScope (topS 42)) 3 [] Yn Yn Yn (Ys (Yz "law_roomtally_k39_lines_read_or_refused") 340) none (Yr 235) Yn 0)) #[])
def q239_3 (P : Params) : Obj := (Yo (Yt "tuple") none (Yq #[(Ys (Yz "_law_line") 505), (Ys (Yz "_law_words") 506), (Ys (Yz "_law_room") 507), (Ys (Yz "_law_kinds") 508), (Ys (Yz "_law_parts") 509), (Ys (Yz "_law_kind") 510), (Ys (Yz "_law_word_here") 511), (Ys (Yz "_law_part") 512)] 0) #[])
def q241_3 (P : Params) : Obj := (Yo Yn none (Yc (Yg (Yz "_law_read") (Yz "_law_read") (defArgs (topS 43)) (Ym (defBody (topS 43))) (defScope (topS 43)) 0 [] Yn Yn Yn Yn none Yn Yn 0)) #[])
def q242_3 (P : Params) : Obj := (Yo (Yt "code") none (Yf #[(Ys (Yz "_law_read") 502), (Ys (Yz "_law_read") 503), (Ys (Yz "/claim/cut.py") 504), (Yi 247 0), (Yi 1 0), (Yi 0 0), (Yi 0 0), (Yi 3 0), (Yr 237), (Yb Bool.true), (Yi 181 0), (Yr 238), Yn, (Yr 239), (Yr 240), (Yr 241), (Yi 513 0), (Yi 247 0), (Ys (Yz "/claim/cut.py") 514)]) #[])
def q243_3 (P : Params) : Obj := (Yo (Yt "function") none (Yc (Yg (Yz "_law_read") (Yz "_law_read") (defArgs (topS 43)) (Ym (defBody (topS 43))) (defScope (topS 43)) 3 [] Yn Yn Yn (Ys (Yz "law_roomtally_k39_lines_read_or_refused") 340) none (Yr 242) Yn 0)) #[])
def q246_3 (P : Params) : Obj := (Yo (Yt "tuple") none (Yq #[(Ys (Yz "_law_found") 519)] 0) #[])
def q248_3 (P : Params) : Obj := (Yo Yn none (Yc (Yg (Yz "_law_whole") (Yz "_law_whole") (defArgs (topS 44)) (Ym (defBody (topS 44))) (defScope (topS 44)) 0 [] Yn Yn Yn Yn none Yn Yn 0)) #[])
def q249_3 (P : Params) : Obj := (Yo (Yt "code") none (Yf #[(Ys (Yz "_law_whole") 516), (Ys (Yz "_law_whole") 517), (Ys (Yz "/claim/cut.py") 518), (Yi 264 0), (Yi 1 0), (Yi 0 0), (Yi 0 0), (Yi 3 0), (Yr 244), (Yb Bool.true), (Yi 181 0), (Yr 245), Yn, (Yr 246), (Yr 247), (Yr 248), (Yi 520 0), (Yi 264 0), (Ys (Yz "/claim/cut.py") 521)]) #[])
def q250_3 (P : Params) : Obj := (Yo (Yt "function") none (Yc (Yg (Yz "_law_whole") (Yz "_law_whole") (defArgs (topS 44)) (Ym (defBody (topS 44))) (defScope (topS 44)) 3 [] Yn Yn Yn (Ys (Yz "law_roomtally_k39_lines_read_or_refused") 340) none (Yr 249) Yn 0)) #[])
def q253_3 (P : Params) : Obj := (Yo (Yt "tuple") none (Yq #[(Ys (Yz "_law_line") 526), (Ys (Yz "_law_found") 527), (Ys (Yz "e") 528)] 0) #[])
def q255_3 (P : Params) : Obj := (Yo Yn none (Yc (Yg (Yz "_law_told") (Yz "_law_told") (defArgs (topS 45)) (Ym (defBody (topS 45))) (defScope (topS 45)) 0 [] Yn Yn Yn Yn none Yn Yn 0)) #[])
def q256_3 (P : Params) : Obj := (Yo (Yt "code") none (Yf #[(Ys (Yz "_law_told") 523), (Ys (Yz "_law_told") 524), (Ys (Yz "/claim/cut.py") 525), (Yi 266 0), (Yi 1 0), (Yi 0 0), (Yi 0 0), (Yi 3 0), (Yr 251), (Yb Bool.true), (Yi 181 0), (Yr 252), Yn, (Yr 253), (Yr 254), (Yr 255), (Yi 529 0), (Yi 266 0), (Ys (Yz "/claim/cut.py") 530)]) #[])
def q257_3 (P : Params) : Obj := (Yo (Yt "function") none (Yc (Yg (Yz "_law_told") (Yz "_law_told") (defArgs (topS 45)) (Ym (defBody (topS 45))) (defScope (topS 45)) 3 [] Yn Yn Yn (Ys (Yz "law_roomtally_k39_lines_read_or_refused") 340) none (Yr 256) Yn 0)) #[])
def q260_3 (P : Params) : Obj := (Yo (Yt "tuple") none (Yq #[(Ys (Yz "_law_script") 535), (Ys (Yz "_law_bag_here") 536), (Ys (Yz "_law_line") 537), (Ys (Yz "_law_turn") 538), (Ys (Yz "_law_due") 539), (Ys (Yz "_law_found") 540)] 0) #[])
def q262_3 (P : Params) : Obj := (Yo Yn none (Yc (Yg (Yz "law") (Yz "law") (defArgs (topS 46)) (Ym (defBody (topS 46))) (defScope (topS 46)) 0 [] Yn Yn Yn Yn none Yn Yn 0)) #[])
def q263_3 (P : Params) : Obj := (Yo (Yt "code") none (Yf #[(Ys (Yz "law") 532), (Ys (Yz "law") 533), (Ys (Yz "/claim/cut.py") 534), (Yi 272 0), (Yi 1 0), (Yi 0 0), (Yi 0 0), (Yi 3 0), (Yr 258), (Yb Bool.true), (Yi 181 0), (Yr 259), Yn, (Yr 260), (Yr 261), (Yr 262), (Yi 541 0), (Yi 272 0), (Ys (Yz "/claim/cut.py") 542)]) #[])
def q264_3 (P : Params) : Obj := (Yo (Yt "function") none (Yc (Yg (Yz "law") (Yz "law") (defArgs (topS 46)) (Ym (defBody (topS 46))) (defScope (topS 46)) 3 [] Yn Yn Yn (Ys (Yz "law_roomtally_k39_lines_read_or_refused") 340) none (Yr 263) Yn 0)) #[])
def u0 (P : Params) : BT := (YN (q63_3 P) (YN (Yp7 P) (YN (q255_3 P) YE YE) YE) (YN (q191_3 P) YE YE))
def u1 (P : Params) : BT := (YN (q95_3 P) (YN (Yp8 P) YE YE) (YN (q223_3 P) YE YE))
def u2 (P : Params) : BT := (YN (q79_3 P) (YN (q143_3 P) YE YE) (YN (Yp8 P) YE YE))
def u3 (P : Params) : BT := (YN (q111_3 P) (YN (Yp7 P) YE YE) (YN (q239_3 P) YE YE))
def u4 (P : Params) : BT := (YN (Yp7 P) (YN (Yp8 P) (YN (q263_3 P) YE YE) YE) (YN (Yp7 P) YE YE))
def u5 (P : Params) : BT := (YN (q103_3 P) (YN (q167_3 P) YE YE) (YN (Yp8 P) YE YE))
def u6 (P : Params) : BT := (YN (q87_3 P) (YN (Yp7 P) YE YE) (YN (q215_3 P) YE YE))
def u7 (P : Params) : BT := (YN (q119_3 P) (YN (Yp8 P) YE YE) (YN (Yp7 P) YE YE))
def u8 (P : Params) : BT := (YN (q67_3 P) (YN (q131_3 P) (YN (Yp8 P) YE YE) YE) (YN (Yp8 P) YE YE))
def u9 (P : Params) : BT := (YN (q99_3 P) (YN (Yp7 P) YE YE) (YN (q227_3 P) YE YE))
def u10 (P : Params) : BT := (YN (Yp8 P) (YN (Yp7 P) YE YE) (YN (q211_3 P) YE YE))
def u11 (P : Params) : BT := (YN (q115_3 P) (YN (q179_3 P) YE YE) (YN (q243_3 P) YE YE))
def u12 (P : Params) : BT := (YN (Yp7 P) (YN (Yp7 P) YE YE) (YN (q203_3 P) YE YE))
def u13 (P : Params) : BT := (YN (q107_3 P) (YN (Yp8 P) YE YE) (YN (q235_3 P) YE YE))
def u14 (P : Params) : BT := (YN (q91_3 P) (YN (q155_3 P) YE YE) (YN (q219_3 P) YE YE))
def u15 (P : Params) : BT := (YN (Yp7 P) (YN (Yp7 P) YE YE) (YN (Yp7 P) YE YE))
def u16 (P : Params) : BT := (YN (q65_3 P) (YN (q129_3 P) (YN (q257_3 P) YE YE) YE) (YN (q193_3 P) YE YE))
def u17 (P : Params) : BT := (YN (Yp8 P) (YN (q161_3 P) YE YE) (YN (Yp7 P) YE YE))
def u18 (P : Params) : BT := (YN (q81_3 P) (YN (Yp8 P) YE YE) (YN (Yp7 P) YE YE))
def u19 (P : Params) : BT := (YN (Yp7 P) (YN (q177_3 P) YE YE) (YN (q241_3 P) YE YE))
def u20 (P : Params) : BT := (YN (q73_3 P) (YN (q137_3 P) YE YE) (YN (q201_3 P) YE YE))
def u21 (P : Params) : BT := (YN (q105_3 P) (YN (q169_3 P) YE YE) (YN (Yp7 P) YE YE))
def u22 (P : Params) : BT := (YN (Yp7 P) (YN (q153_3 P) YE YE) (YN (q217_3 P) YE YE))
def u23 (P : Params) : BT := (YN (Yp8 P) (YN (q185_3 P) YE YE) (YN (q249_3 P) YE YE))
def u24 (P : Params) : BT := (YN (Yp8 P) (YN (q133_3 P) (YN (Yp7 P) YE YE) YE) (YN (q197_3 P) YE YE))
def u25 (P : Params) : BT := (YN (Yp7 P) (YN (q165_3 P) YE YE) (YN (q229_3 P) YE YE))
def u26 (P : Params) : BT := (YN (Yp7 P) (YN (q149_3 P) YE YE) (YN (Yp7 P) YE YE))
def u27 (P : Params) : BT := (YN (q117_3 P) (YN (q181_3 P) YE YE) (YN (Yp8 P) YE YE))
def u28 (P : Params) : BT := (YN (q77_3 P) (YN (q141_3 P) YE YE) (YN (q205_3 P) YE YE))
def u29 (P : Params) : BT := (YN (Yp8 P) (YN (q173_3 P) YE YE) (YN (Yp7 P) YE YE))
def u30 (P : Params) : BT := (YN (q93_3 P) (YN (q157_3 P) YE YE) (YN (Yp8 P) YE YE))
def u31 (P : Params) : BT := (YN (q125_3 P) (YN (q189_3 P) YE YE) (YN (q253_3 P) YE YE))
def u32 (P : Params) : BT := (YN (Yp7 P) (YN (Yp8 P) (YN (q256_3 P) YE YE) YE) (YN (q192_3 P) YE YE))
def u33 (P : Params) : BT := (YN (Yp7 P) (YN (q160_3 P) YE YE) (YN (q224_3 P) YE YE))
def u34 (P : Params) : BT := (YN (q80_3 P) (YN (Yp7 P) YE YE) (YN (q208_3 P) YE YE))
def u35 (P : Params) : BT := (YN (q112_3 P) (YN (Yp8 P) YE YE) (YN (Yp7 P) YE YE))
def u36 (P : Params) : BT := (YN (q72_3 P) (YN (q136_3 P) (YN (q264_3 P) YE YE) YE) (YN (Yp8 P) YE YE))
def u37 (P : Params) : BT := (YN (Yp7 P) (YN (q168_3 P) YE YE) (YN (q232_3 P) YE YE))
def u38 (P : Params) : BT := (YN (q88_3 P) (YN (Yp8 P) YE YE) (YN (Yp7 P) YE YE))
def u39 (P : Params) : BT := (YN (Yp7 P) (YN (q184_3 P) YE YE) (YN (q248_3 P) YE YE))
def u40 (P : Params) : BT := (YN (Yp7 P) (YN (q132_3 P) (YN (q260_3 P) YE YE) YE) (YN (q196_3 P) YE YE))
def u41 (P : Params) : BT := (YN (q100_3 P) (YN (Yp8 P) YE YE) (YN (q228_3 P) YE YE))
def u42 (P : Params) : BT := (YN (q84_3 P) (YN (q148_3 P) YE YE) (YN (q212_3 P) YE YE))
def u43 (P : Params) : BT := (YN (Yp7 P) (YN (q180_3 P) YE YE) (YN (Yp7 P) YE YE))
def u44 (P : Params) : BT := (YN (Yp8 P) (YN (Yp8 P) YE YE) (YN (q204_3 P) YE YE))
def u45 (P : Params) : BT := (YN (Yp7 P) (YN (q172_3 P) YE YE) (YN (q236_3 P) YE YE))
def u46 (P : Params) : BT := (YN (Yp7 P) (YN (q156_3 P) YE YE) (YN (Yp7 P) YE YE))
def u47 (P : Params) : BT := (YN (q124_3 P) (YN (Yp8 P) YE YE) (YN (Yp8 P) YE YE))
def u48 (P : Params) : BT := (YN (q66_3 P) (YN (Yp7 P) (YN (Yp7 P) YE YE) YE) (YN (Yp7 P) YE YE))
def u49 (P : Params) : BT := (YN (q98_3 P) (YN (q162_3 P) YE YE) (YN (Yp8 P) YE YE))
def u50 (P : Params) : BT := (YN (Yp7 P) (YN (q146_3 P) YE YE) (YN (q210_3 P) YE YE))
def u51 (P : Params) : BT := (YN (Yp8 P) (YN (Yp7 P) YE YE) (YN (q242_3 P) YE YE))
def u52 (P : Params) : BT := (YN (q74_3 P) (YN (q138_3 P) YE YE) (YN (Yp7 P) YE YE))
def u53 (P : Params) : BT := (YN (q106_3 P) (YN (Yp7 P) YE YE) (YN (q234_3 P) YE YE))
def u54 (P : Params) : BT := (YN (Yp8 P) (YN (Yp7 P) YE YE) (YN (q218_3 P) YE YE))
def u55 (P : Params) : BT := (YN (q122_3 P) (YN (q186_3 P) YE YE) (YN (q250_3 P) YE YE))
def u56 (P : Params) : BT := (YN (q70_3 P) (YN (Yp7 P) (YN (q262_3 P) YE YE) YE) (YN (q198_3 P) YE YE))
def u57 (P : Params) : BT := (YN (Yp8 P) (YN (Yp7 P) YE YE) (YN (Yp7 P) YE YE))
def u58 (P : Params) : BT := (YN (q86_3 P) (YN (q150_3 P) YE YE) (YN (Yp8 P) YE YE))
def u59 (P : Params) : BT := (YN (q118_3 P) (YN (Yp7 P) YE YE) (YN (q246_3 P) YE YE))
def u60 (P : Params) : BT := (YN (Yp7 P) (YN (q142_3 P) YE YE) (YN (Yp7 P) YE YE))
def u61 (P : Params) : BT := (YN (q110_3 P) (YN (q174_3 P) YE YE) (YN (Yp8 P) YE YE))
def u62 (P : Params) : BT := (YN (q94_3 P) (YN (Yp7 P) YE YE) (YN (q222_3 P) YE YE))
def u63 (P : Params) : BT := (YN (q126_3 P) (YN (Yp7 P) YE YE) (YN (Yp7 P) YE YE))
def hT1 (P : Params) : BT := (YN (Yp0 P) (YN (Yp1 P) (YN (q3_3 P) (YN (Yp7 P) (YN (q15_3 P) (YN (Yp7 P) (u0 P) (u1 P)) (YN (Yp7 P) (u2 P) (u3 P))) (YN (q23_3 P) (YN (q39_3 P) (u4 P) (u5 P)) (YN (Yp8 P) (u6 P) (u7 P)))) (YN (Yp7 P) (YN (Yp8 P) (YN (Yp7 P) (u8 P) (u9 P)) (YN (q51_3 P) (u10 P) (u11 P))) (YN (q27_3 P) (YN (q43_3 P) (u12 P) (u13 P)) (YN (q59_3 P) (u14 P) (u15 P))))) (YN (Yp5 P) (YN (Yp9 P) (YN (q17_3 P) (YN (q33_3 P) (u16 P) (u17 P)) (YN (q49_3 P) (u18 P) (u19 P))) (YN (q25_3 P) (YN (q41_3 P) (u20 P) (u21 P)) (YN (Yp7 P) (u22 P) (u23 P)))) (YN (q13_1 P) (YN (q21_3 P) (YN (q37_3 P) (u24 P) (u25 P)) (YN (q53_3 P) (u26 P) (u27 P))) (YN (q16_3 P) (YN (q45_3 P) (u28 P) (u29 P)) (YN (Yp7 P) (u30 P) (u31 P)))))) (YN (Yp2 P) (YN (Yp4 P) (YN (Yp8 P) (YN (q16_3 P) (YN (q32_3 P) (u32 P) (u33 P)) (YN (Yp8 P) (u34 P) (u35 P))) (YN (q24_3 P) (YN (q40_3 P) (u36 P) (u37 P)) (YN (q56_3 P) (u38 P) (u39 P)))) (YN (q12_3 P) (YN (q20_3 P) (YN (Yp8 P) (u40 P) (u41 P)) (YN (q52_3 P) (u42 P) (u43 P))) (YN (q28_3 P) (YN (q44_3 P) (u44 P) (u45 P)) (YN (q60_3 P) (u46 P) (u47 P))))) (YN (Yp6 P) (YN (Yp10 P) (YN (Yp7 P) (YN (q34_3 P) (u48 P) (u49 P)) (YN (Yp7 P) (u50 P) (u51 P))) (YN (q26_3 P) (YN (q42_3 P) (u52 P) (u53 P)) (YN (q58_3 P) (u54 P) (u55 P)))) (YN (q14_1 P) (YN (Yp7 P) (YN (Yp7 P) (u56 P) (u57 P)) (YN (Yp7 P) (u58 P) (u59 P))) (YN (q30_3 P) (YN (q46_3 P) (u60 P) (u61 P)) (YN (Yp8 P) (u62 P) (u63 P)))))))
def hS1 (w : World) (os : OsState) : SharedT := ⟨hT1 w.params, 265, (PySem.Life.mk [] [] [] 0 [] [] Bool.false #[] [] 0 Bool.false Bool.false Bool.false 0 [2000, 10, 10] Bool.false 0 Bool.true [] [] 0 Bool.false), #[], (PySem.Drawn.mk 0 0 0 0), 544, os⟩
def hPos1 : Pos := (PySem.Pos.mk 272 0 281 67)
def hTf (P : Params) : BT := (YN (Yp0 P) (YN (Yp1 P) (YN (q3_3 P) (YN (Yp7 P) (YN (q15_3 P) (YN (Yp7 P) (u0 P) (u1 P)) (YN (Yp7 P) (u2 P) (u3 P))) (YN (q23_3 P) (YN (q39_3 P) (u4 P) (u5 P)) (YN (Yp8 P) (u6 P) (u7 P)))) (YN (Yp7 P) (YN (Yp8 P) (YN (Yp7 P) (u8 P) (u9 P)) (YN (q51_3 P) (u10 P) (u11 P))) (YN (q27_3 P) (YN (q43_3 P) (u12 P) (u13 P)) (YN (q59_3 P) (u14 P) (u15 P))))) (YN (Yp5 P) (YN (Yp9 P) (YN (q17_3 P) (YN (q33_3 P) (u16 P) (u17 P)) (YN (q49_3 P) (u18 P) (u19 P))) (YN (q25_3 P) (YN (q41_3 P) (u20 P) (u21 P)) (YN (Yp7 P) (u22 P) (u23 P)))) (YN (q13_1 P) (YN (q21_3 P) (YN (q37_3 P) (u24 P) (u25 P)) (YN (q53_3 P) (u26 P) (u27 P))) (YN (q16_3 P) (YN (q45_3 P) (u28 P) (u29 P)) (YN (Yp7 P) (u30 P) (u31 P)))))) (YN (Yp2 P) (YN (Yp4 P) (YN (Yp8 P) (YN (q16_3 P) (YN (q32_3 P) (u32 P) (u33 P)) (YN (Yp8 P) (u34 P) (u35 P))) (YN (q24_3 P) (YN (q40_3 P) (u36 P) (u37 P)) (YN (q56_3 P) (u38 P) (u39 P)))) (YN (q12_3 P) (YN (q20_3 P) (YN (Yp8 P) (u40 P) (u41 P)) (YN (q52_3 P) (u42 P) (u43 P))) (YN (q28_3 P) (YN (q44_3 P) (u44 P) (u45 P)) (YN (q60_3 P) (u46 P) (u47 P))))) (YN (Yp6 P) (YN (Yp10 P) (YN (Yp7 P) (YN (q34_3 P) (u48 P) (u49 P)) (YN (Yp7 P) (u50 P) (u51 P))) (YN (q26_3 P) (YN (q42_3 P) (u52 P) (u53 P)) (YN (q58_3 P) (u54 P) (u55 P)))) (YN (q14_1 P) (YN (Yp7 P) (YN (Yp7 P) (u56 P) (u57 P)) (YN (Yp7 P) (u58 P) (u59 P))) (YN (q30_3 P) (YN (q46_3 P) (u60 P) (u61 P)) (YN (Yp8 P) (u62 P) (u63 P)))))))
def hSf (w : World) (os : OsState) : SharedT := ⟨hTf w.params, 265, (PySem.Life.mk [] [] [] 0 [] [] Bool.false #[] [] 0 Bool.false Bool.false Bool.false 0 [2000, 10, 10] Bool.false 0 Bool.true [] [] 0 Bool.false), #[], (PySem.Drawn.mk 0 0 0 0), 544, os⟩
def hB : List Stmt := PySem.W.behindTheImports hP
abbrev hC : Code := .body hB hEnv
def hS0 (w : World) (os : OsState) : PySem.W.SharedT := ⟨hT0 w.params, hN0, (PySem.W.boot_heap w.params).life, #[], PySem.W.boot_drawn, PySem.W.boot_toks, os⟩
theorem hcBoot (P : Params) : HandSHeadRun.putAll (PySem.W.boot_heap P).objs.toList .nil 0 = some (hT0 P, hN0) := by
  kernel_rfl
theorem hcSize (P : Params) : (PySem.W.boot_heap P).objs.size = hN0 := by
  kernel_rfl
theorem hcAnn (w : World) : HandSHeadRun.bootAnn w = hAnn := by
  kernel_rfl
set_option maxHeartbeats 0 in -- all of it
theorem hcPre (w : World) (os : OsState) : goG (HandSHeadRun.stepQ (HandSHeadRun.denQ HandSHeadRun.tabQ) hP w) hN0 hAnn 12 (hS0 w os) (PySem.W.topStub hP) = some (hSa w os, ⟨HandSHeadRun.denQ HandSHeadRun.tabQ hC, hC, hPosa, [PySem.W.topFrame hQ]⟩) := by
  kernel_rfl
set_option maxHeartbeats 0 in -- all of it
theorem hcBlock (w : World) (os : OsState) : segF (HandSHeadRun.stepQ (HandSHeadRun.denQ HandSHeadRun.tabQ) hP w) hN0 hAnn 1 1 (hSa w os) (blockQ hB hEnv hC hPosa [PySem.W.topFrame hQ]) = some (.next, hSb w os, hC, hPosb) := by
  kernel_rfl
set_option maxHeartbeats 0 in -- all of it
theorem hcSeg1 (w : World) (os : OsState) : segF (HandSHeadRun.stepQ (HandSHeadRun.denQ HandSHeadRun.tabQ) hP w) hN0 hAnn 1 1551 (hSb w os) (piecesQ (List.take 47 hB) hEnv hC hPosb [PySem.W.topFrame hQ]) = some (.next, hS1 w os, hC, hPos1) := by
  kernel_rfl
theorem hcEnd : List.drop 47 hB = [] := by
  kernel_rfl
set_option maxHeartbeats 0 in -- all of it
theorem hcFin (w : World) (os : OsState) : HandSHeadRun.goF (HandSHeadRun.stepQ (HandSHeadRun.denQ HandSHeadRun.tabQ) hP w) hN0 hAnn 2 (hS1 w os) ⟨PySem.W.doneF .next, hC, hPos1, [PySem.W.topFrame hQ]⟩ = some (hSf w os) := by
  kernel_rfl
theorem hcRun (w : World) (os : OsState) : PySem.W.topRun PySem.treeTable hP w (PySem.W.boot_heap w.params).objs.size (HandSHeadRun.bootAnn w) (12 + (1 + (1551 + (2)))) ⟨PySem.W.boot_heap w.params, #[], PySem.W.boot_drawn, PySem.W.boot_toks, os⟩ (PySem.W.topStub hP) = some (hSf w os).abs := by
  rw [hcSize, hcAnn, ← boot_abs (hcBoot w.params)]
  refine PySem.W.go_top (n := 12) (pre_cut (hcPre w os)) ?_
  refine PySem.W.piece_block (n := 1) (block_cut (hcBlock w os)) ?_
  refine rest_cut (k := 47) ?_
  refine PySem.W.piece_app (n := 1551) (piece_cut (hcSeg1 w os)) ?_
  rw [hcEnd]
  exact PySem.W.piece_nil (fin_cut (hcFin w os))
set_option maxHeartbeats 0 in -- all of it
theorem hcLooks (w : World) (os : OsState) : HandSHeadRun.looksF hP (PySem.W.boot_heap w.params) (hSf w os).abs = true := by
  kernel_rfl
set_option maxHeartbeats 0 in -- all of it
theorem hcSeen (w : World) (os : OsState) : HandSHeadRun.seenQ (PySem.W.view RowN.prog [46]) loose (importedModules hP.main.body) (fun s => PySem.W.xlAt (PySem.W.view RowN.prog [46]) [] s && PySem.W.recOk RowN.toRowW.records s) (hSf w os).abs = PySem.W.openGood (PySem.W.view RowN.prog [46]) loose := by
  kernel_rfl
set_option maxHeartbeats 0 in -- all of it
theorem hcObs (w : World) (os : OsState) : obsXG 5 fbA fnA (HandSHeadRun.getT (hSf w os)) = He.valE fnA := by
  kernel_rfl
end
end RT

namespace L2.DL
open L2 PyProof.Rows PySem.Spec PySem
/-! ### data as values: lists and dicts are owned (o = true: nobody else holds them, may be changed) or shared (never changed) -/
inductive Val where
  | non | bl (b : Bool) | int (i : Int) | str (s : Str)
  | tup (xs : List Val)
  | lst (o : Bool) (xs : List Val)
  | dT (o : Bool) (ks : List (List Key)) (vs : List Val)
  | dK (o : Bool) (ks : List Key) (vs : List Val)
  | obj (o : Bool) (C : Addr) (fs : List Str) (vs : List Val)
  | scr (K : PySem.W.Frag) (ns : List Int)
  /-- a tuple whose own object is known (a room): its methods may be called -/
  | tpz (xs : List Val)
  /-- just this value of the machine, nothing told of what it points to -/
  | raw (v : V)
/- F: the heap of what is never changed; H: the heap as it is -/
mutual
inductive Rep (F H : Hp) : V → Val → List Addr → Prop
  | non : Rep F H .non .non []
  | bl (b : Bool) : Rep F H (.bl b) (.bl b) []
  | int (i : Int) : Rep F H (.int i) (.int i) []
  | str (s : Str) : Rep F H (.str s) (.str s) []
  | tup {a : Addr} {xs : List V} {ws : List Val} {fp : List Addr} : F a = some (.tup xs) → Reps F H xs ws fp → Rep F H (.ref a) (.tup ws) fp
  | lsh {a : Addr} {xs : List V} {ws : List Val} {fp : List Addr} : F a = some (.lst xs) → Reps F H xs ws fp → Rep F H (.ref a) (.lst false ws) fp
  | low {a : Addr} {xs : List V} {ws : List Val} {fp : List Addr} : H a = some (.lst xs) → Reps F H xs ws fp → Rep F H (.ref a) (.lst true ws) (a :: fp)
  | tsh {a : Addr} {ks : List (List Key)} {xs : List V} {ws : List Val} {fp : List Addr} : F a = some (.dT (ks.zip xs)) → ks.length = xs.length → Reps F H xs ws fp → Rep F H (.ref a) (.dT false ks ws) fp
  | tow {a : Addr} {ks : List (List Key)} {xs : List V} {ws : List Val} {fp : List Addr} : H a = some (.dT (ks.zip xs)) → ks.length = xs.length → Reps F H xs ws fp → Rep F H (.ref a) (.dT true ks ws) (a :: fp)
  | ksh {a : Addr} {ks : List Key} {xs : List V} {ws : List Val} {fp : List Addr} : F a = some (.dK (ks.zip xs)) → ks.length = xs.length → Reps F H xs ws fp → Rep F H (.ref a) (.dK false ks ws) fp
  | kow {a : Addr} {ks : List Key} {xs : List V} {ws : List Val} {fp : List Addr} : H a = some (.dK (ks.zip xs)) → ks.length = xs.length → Reps F H xs ws fp → Rep F H (.ref a) (.dK true ks ws) (a :: fp)
  | osh {a dx C : Addr} {fs : List Str} {xs : List V} {ws : List Val} {fp : List Addr} : F a = some (.ins C dx (fs.zip xs)) → F dx = some (.own a) → fs.length = xs.length → Reps F H xs ws fp → Rep F H (.ref a) (.obj false C fs ws) fp
  | oow {a dx C : Addr} {fs : List Str} {xs : List V} {ws : List Val} {fp : List Addr} : H a = some (.ins C dx (fs.zip xs)) → H dx = some (.own a) → fs.length = xs.length → Reps F H xs ws fp → Rep F H (.ref a) (.obj true C fs ws) (a :: dx :: fp)
  | raw (v : V) : Rep F H v (.raw v) []
  | scr {a : Addr} {K : PySem.W.Frag} {ns : List Int} : SqL K F a (ns.map V.int) → Rep F H (.ref a) (.scr K ns) []
  | tpz {a : Addr} {ob : Obj} {xs : List V} {ws : List Val} {fp : List Addr} : F a = some (.frz ob (.tup xs)) → (ob.cls = .type "tuple" ∧ ob.dict = none) → Reps F H xs ws fp → Rep F H (.ref a) (.tpz ws) fp
inductive Reps (F H : Hp) : List V → List Val → List Addr → Prop
  | nil : Reps F H [] [] []
  | cons {v : V} {vs : List V} {w : Val} {ws : List Val} {f1 f2 : List Addr} : Rep F H v w f1 → Reps F H vs ws f2 → Reps F H (v :: vs) (w :: ws) (f1 ++ f2)
end
def Le (F H : Hp) : Prop := ∀ a o, F a = some o → H a = some o
theorem Le.refl (F : Hp) : Le F F := fun _ _ h => h
theorem Le.trans {F G H : Hp} (a : Le F G) (b : Le G H) : Le F H := fun x o h => b x o (a x o h)
mutual
theorem Rep.mono {F H F' H' : Hp} (hF : Le F F') : ∀ {w : Val} {v : V} {fp : List Addr}, (∀ a ∈ fp, H' a = H a) → Rep F H v w fp → Rep F' H' v w fp
  | .non, _, _, _, h => by cases h; exact .non
  | .bl _, _, _, _, h => by cases h; exact .bl _
  | .int _, _, _, _, h => by cases h; exact .int _
  | .str _, _, _, _, h => by cases h; exact .str _
  | .tup ws, _, _, k, h => by
    cases h with
    | tup h1 h2 => exact .tup (hF _ _ h1) (Reps.mono hF k h2)
  | .tpz ws, _, _, k, h => by
    cases h with
    | tpz h1 h0 h2 => exact .tpz (hF _ _ h1) h0 (Reps.mono hF k h2)
  | .lst false ws, _, _, k, h => by
    cases h with
    | lsh h1 h2 => exact .lsh (hF _ _ h1) (Reps.mono hF k h2)
  | .lst true ws, _, _, k, h => by
    cases h with
    | low h1 h2 => exact .low ((k _ List.mem_cons_self).trans h1) (Reps.mono hF (fun a ha => k a (List.mem_cons_of_mem _ ha)) h2)
  | .dT false ks ws, _, _, k, h => by
    cases h with
    | tsh h1 hl h2 => exact .tsh (hF _ _ h1) hl (Reps.mono hF k h2)
  | .dT true ks ws, _, _, k, h => by
    cases h with
    | tow h1 hl h2 => exact .tow ((k _ List.mem_cons_self).trans h1) hl (Reps.mono hF (fun a ha => k a (List.mem_cons_of_mem _ ha)) h2)
  | .dK false ks ws, _, _, k, h => by
    cases h with
    | ksh h1 hl h2 => exact .ksh (hF _ _ h1) hl (Reps.mono hF k h2)
  | .dK true ks ws, _, _, k, h => by
    cases h with
    | kow h1 hl h2 => exact .kow ((k _ List.mem_cons_self).trans h1) hl (Reps.mono hF (fun a ha => k a (List.mem_cons_of_mem _ ha)) h2)
  | .obj false C fs ws, _, _, k, h => by
    cases h with
    | osh h1 hd hl h2 => exact .osh (hF _ _ h1) (hF _ _ hd) hl (Reps.mono hF k h2)
  | .obj true C fs ws, _, _, k, h => by
    cases h with
    | oow h1 hd hl h2 => exact .oow ((k _ List.mem_cons_self).trans h1) ((k _ (List.mem_cons_of_mem _ List.mem_cons_self)).trans hd) hl (Reps.mono hF (fun a ha => k a (List.mem_cons_of_mem _ (List.mem_cons_of_mem _ ha))) h2)
  | .raw v, _, _, _, h => by cases h; exact .raw _
  | .scr K ns, _, _, _, h => by
    cases h with
    | scr h1 => exact .scr (Same.seq hF h1)
theorem Reps.mono {F H F' H' : Hp} (hF : Le F F') : ∀ {ws : List Val} {vs : List V} {fp : List Addr}, (∀ a ∈ fp, H' a = H a) → Reps F H vs ws fp → Reps F' H' vs ws fp
  | [], _, _, _, h => by cases h; exact .nil
  | w :: ws, _, _, k, h => by
    cases h with
    | cons h1 h2 => exact .cons (Rep.mono hF (fun a ha => k a (List.mem_append_left _ ha)) h1) (Reps.mono hF (fun a ha => k a (List.mem_append_right _ ha)) h2)
end
mutual
theorem Rep.dom {F H : Hp} : ∀ {w : Val} {v : V} {fp : List Addr}, Rep F H v w fp → ∀ a ∈ fp, H a ≠ none
  | .non, _, _, h => by cases h; intro a ha; cases ha
  | .bl _, _, _, h => by cases h; intro a ha; cases ha
  | .int _, _, _, h => by cases h; intro a ha; cases ha
  | .str _, _, _, h => by cases h; intro a ha; cases ha
  | .tup ws, _, _, h => by
    cases h with
    | tup h1 h2 => exact Reps.dom h2
  | .tpz ws, _, _, h => by
    cases h with
    | tpz h1 h0 h2 => exact Reps.dom h2
  | .lst false ws, _, _, h => by
    cases h with
    | lsh h1 h2 => exact Reps.dom h2
  | .lst true ws, _, _, h => by
    cases h with
    | low h1 h2 =>
      intro a ha
      rcases List.mem_cons.mp ha with rfl | ha
      · rw [h1]; simp
      · exact Reps.dom h2 a ha
  | .dT false ks ws, _, _, h => by
    cases h with
    | tsh h1 hl h2 => exact Reps.dom h2
  | .dT true ks ws, _, _, h => by
    cases h with
    | tow h1 hl h2 =>
      intro a ha
      rcases List.mem_cons.mp ha with rfl | ha
      · rw [h1]; simp
      · exact Reps.dom h2 a ha
  | .dK false ks ws, _, _, h => by
    cases h with
    | ksh h1 hl h2 => exact Reps.dom h2
  | .dK true ks ws, _, _, h => by
    cases h with
    | kow h1 hl h2 =>
      intro a ha
      rcases List.mem_cons.mp ha with rfl | ha
      · rw [h1]; simp
      · exact Reps.dom h2 a ha
  | .obj false C fs ws, _, _, h => by
    cases h with
    | osh h1 hd hl h2 => exact Reps.dom h2
  | .obj true C fs ws, _, _, h => by
    cases h with
    | oow h1 hd hl h2 =>
      intro a ha
      rcases List.mem_cons.mp ha with rfl | ha
      · rw [h1]; simp
      · rcases List.mem_cons.mp ha with rfl | ha
        · rw [hd]; simp
        · exact Reps.dom h2 a ha
  | .scr K ns, _, _, h => by cases h; intro a ha; cases ha
  | .raw v, _, _, h => by cases h; intro a ha; cases ha
theorem Reps.dom {F H : Hp} : ∀ {ws : List Val} {vs : List V} {fp : List Addr}, Reps F H vs ws fp → ∀ a ∈ fp, H a ≠ none
  | [], _, _, h => by cases h; intro a ha; cases ha
  | w :: ws, _, _, h => by
    cases h with
    | cons h1 h2 =>
      intro a ha
      rcases List.mem_append.mp ha with ha | ha
      · exact Rep.dom h1 a ha
      · exact Reps.dom h2 a ha
end
mutual
theorem Rep.notup {F H : Hp} : ∀ {w : Val} {v : V} {fp : List Addr}, Rep F H v w fp → ∀ a ∈ fp, ∀ xs, H a ≠ some (.tup xs)
  | .non, _, _, h => by cases h; intro a ha; cases ha
  | .bl _, _, _, h => by cases h; intro a ha; cases ha
  | .int _, _, _, h => by cases h; intro a ha; cases ha
  | .str _, _, _, h => by cases h; intro a ha; cases ha
  | .tup ws, _, _, h => by
    cases h with
    | tup h1 h2 => exact Reps.notup h2
  | .tpz ws, _, _, h => by
    cases h with
    | tpz h1 h0 h2 => exact Reps.notup h2
  | .lst false ws, _, _, h => by
    cases h with
    | lsh h1 h2 => exact Reps.notup h2
  | .lst true ws, _, _, h => by
    cases h with
    | low h1 h2 =>
      intro a ha xs
      rcases List.mem_cons.mp ha with rfl | ha
      · rw [h1]; simp
      · exact Reps.notup h2 a ha xs
  | .dT false ks ws, _, _, h => by
    cases h with
    | tsh h1 hl h2 => exact Reps.notup h2
  | .dT true ks ws, _, _, h => by
    cases h with
    | tow h1 hl h2 =>
      intro a ha xs
      rcases List.mem_cons.mp ha with rfl | ha
      · rw [h1]; simp
      · exact Reps.notup h2 a ha xs
  | .dK false ks ws, _, _, h => by
    cases h with
    | ksh h1 hl h2 => exact Reps.notup h2
  | .dK true ks ws, _, _, h => by
    cases h with
    | kow h1 hl h2 =>
      intro a ha xs
      rcases List.mem_cons.mp ha with rfl | ha
      · rw [h1]; simp
      · exact Reps.notup h2 a ha xs
  | .obj false C fs ws, _, _, h => by
    cases h with
    | osh h1 hd hl h2 => exact Reps.notup h2
  | .obj true C fs ws, _, _, h => by
    cases h with
    | oow h1 hd hl h2 =>
      intro a ha xs
      rcases List.mem_cons.mp ha with rfl | ha
      · rw [h1]; simp
      · rcases List.mem_cons.mp ha with rfl | ha
        · rw [hd]; simp
        · exact Reps.notup h2 a ha xs
  | .scr _ _, _, _, h => by cases h; intro a ha; cases ha
  | .raw _, _, _, h => by cases h; intro a ha; cases ha
theorem Reps.notup {F H : Hp} : ∀ {ws : List Val} {vs : List V} {fp : List Addr}, Reps F H vs ws fp → ∀ a ∈ fp, ∀ xs, H a ≠ some (.tup xs)
  | [], _, _, h => by cases h; intro a ha; cases ha
  | w :: ws, _, _, h => by
    cases h with
    | cons h1 h2 =>
      intro a ha xs
      rcases List.mem_append.mp ha with ha | ha
      · exact Rep.notup h1 a ha xs
      · exact Reps.notup h2 a ha xs
end
/-- what an own thing may be -/
def ownK : Option HO → Bool
  | some (.lst _) => true
  | some (.dT _) => true
  | some (.dK _) => true
  | some (.ins _ _ _) => true
  | some (.own _) => true
  | _ => false
mutual
theorem Rep.kind {F H : Hp} : ∀ {w : Val} {v : V} {fp : List Addr}, Rep F H v w fp → ∀ a ∈ fp, ownK (H a) = true
  | .non, _, _, h => by cases h; intro a ha; cases ha
  | .bl _, _, _, h => by cases h; intro a ha; cases ha
  | .int _, _, _, h => by cases h; intro a ha; cases ha
  | .str _, _, _, h => by cases h; intro a ha; cases ha
  | .tup ws, _, _, h => by
    cases h with
    | tup h1 h2 => exact Reps.kind h2
  | .tpz ws, _, _, h => by
    cases h with
    | tpz h1 h0 h2 => exact Reps.kind h2
  | .lst false ws, _, _, h => by
    cases h with
    | lsh h1 h2 => exact Reps.kind h2
  | .lst true ws, _, _, h => by
    cases h with
    | low h1 h2 =>
      intro a ha
      rcases List.mem_cons.mp ha with rfl | ha
      · rw [h1]; rfl
      · exact Reps.kind h2 a ha
  | .dT false ks ws, _, _, h => by
    cases h with
    | tsh h1 hl h2 => exact Reps.kind h2
  | .dT true ks ws, _, _, h => by
    cases h with
    | tow h1 hl h2 =>
      intro a ha
      rcases List.mem_cons.mp ha with rfl | ha
      · rw [h1]; rfl
      · exact Reps.kind h2 a ha
  | .dK false ks ws, _, _, h => by
    cases h with
    | ksh h1 hl h2 => exact Reps.kind h2
  | .dK true ks ws, _, _, h => by
    cases h with
    | kow h1 hl h2 =>
      intro a ha
      rcases List.mem_cons.mp ha with rfl | ha
      · rw [h1]; rfl
      · exact Reps.kind h2 a ha
  | .obj false C fs ws, _, _, h => by
    cases h with
    | osh h1 hd hl h2 => exact Reps.kind h2
  | .obj true C fs ws, _, _, h => by
    cases h with
    | oow h1 hd hl h2 =>
      intro a ha
      rcases List.mem_cons.mp ha with rfl | ha
      · rw [h1]; rfl
      · rcases List.mem_cons.mp ha with rfl | ha
        · rw [hd]; rfl
        · exact Reps.kind h2 a ha
  | .scr K ns, _, _, h => by cases h; intro a ha; cases ha
  | .raw v, _, _, h => by cases h; intro a ha; cases ha
theorem Reps.kind {F H : Hp} : ∀ {ws : List Val} {vs : List V} {fp : List Addr}, Reps F H vs ws fp → ∀ a ∈ fp, ownK (H a) = true
  | [], _, _, h => by cases h; intro a ha; cases ha
  | w :: ws, _, _, h => by
    cases h with
    | cons h1 h2 =>
      intro a ha
      rcases List.mem_append.mp ha with ha | ha
      · exact Rep.kind h1 a ha
      · exact Reps.kind h2 a ha
end
theorem Reps.length {F H : Hp} : ∀ {vs : List V} {ws : List Val} {fp : List Addr}, Reps F H vs ws fp → vs.length = ws.length
  | _, [], _, h => by cases h; rfl
  | _, w :: ws, _, h => by
    cases h with
    | cons h1 h2 => simp [Reps.length h2]
/-! ### flags -/
mutual
/-- nothing owned within -/
def noOwn : Val → Bool
  | .non => true | .bl _ => true | .int _ => true | .str _ => true
  | .tup ws => noOwns ws
  | .tpz ws => noOwns ws
  | .lst o ws => !o && noOwns ws
  | .dT o _ ws => !o && noOwns ws
  | .dK o _ ws => !o && noOwns ws
  | .obj o _ _ ws => !o && noOwns ws
  | .scr _ _ => true
  | .raw _ => true
def noOwns : List Val → Bool
  | [] => true
  | w :: ws => noOwn w && noOwns ws
end
mutual
/-- no shared list or dict within -/
def noSh : Val → Bool
  | .non => true | .bl _ => true | .int _ => true | .str _ => true
  | .tup ws => noShs ws
  | .tpz ws => noShs ws
  | .lst o ws => o && noShs ws
  | .dT o _ ws => o && noShs ws
  | .dK o _ ws => o && noShs ws
  | .obj o _ _ ws => o && noShs ws
  | .scr _ _ => false
  | .raw _ => true
def noShs : List Val → Bool
  | [] => true
  | w :: ws => noSh w && noShs ws
end
mutual
/-- everything shared from now on -/
def frz : Val → Val
  | .non => .non | .bl b => .bl b | .int i => .int i | .str s => .str s
  | .tup ws => .tup (frzs ws)
  | .tpz ws => .tpz (frzs ws)
  | .lst _ ws => .lst false (frzs ws)
  | .dT _ ks ws => .dT false ks (frzs ws)
  | .dK _ ks ws => .dK false ks (frzs ws)
  | .obj _ C fs ws => .obj false C fs (frzs ws)
  | .scr K ns => .scr K ns
  | .raw v => .raw v
def frzs : List Val → List Val
  | [] => []
  | w :: ws => frz w :: frzs ws
end
mutual
/-- nothing that can't be shared (all can) -/
def noObj : Val → Bool
  | .non => true | .bl _ => true | .int _ => true | .str _ => true
  | .tup ws => noObjs ws
  | .tpz ws => noObjs ws
  | .lst _ ws => noObjs ws
  | .dT _ _ ws => noObjs ws
  | .dK _ _ ws => noObjs ws
  | .obj _ _ _ ws => noObjs ws
  | .scr _ _ => true
  | .raw _ => true
def noObjs : List Val → Bool
  | [] => true
  | w :: ws => noObj w && noObjs ws
end
mutual
theorem Rep.nofp {F H : Hp} : ∀ {w : Val} {v : V} {fp : List Addr}, noOwn w = true → Rep F H v w fp → fp = []
  | .non, _, _, _, h => by cases h; rfl
  | .bl _, _, _, _, h => by cases h; rfl
  | .int _, _, _, _, h => by cases h; rfl
  | .str _, _, _, _, h => by cases h; rfl
  | .tup ws, _, _, n, h => by
    cases h with
    | tup h1 h2 => exact Reps.nofp (by simpa [noOwn] using n) h2
  | .tpz ws, _, _, n, h => by
    cases h with
    | tpz h1 h0 h2 => exact Reps.nofp (by simpa [noOwn] using n) h2
  | .lst false ws, _, _, n, h => by
    cases h with
    | lsh h1 h2 => exact Reps.nofp (by simpa [noOwn] using n) h2
  | .lst true ws, _, _, n, h => by simp [noOwn] at n
  | .dT false ks ws, _, _, n, h => by
    cases h with
    | tsh h1 hl h2 => exact Reps.nofp (by simpa [noOwn] using n) h2
  | .dT true ks ws, _, _, n, h => by simp [noOwn] at n
  | .dK false ks ws, _, _, n, h => by
    cases h with
    | ksh h1 hl h2 => exact Reps.nofp (by simpa [noOwn] using n) h2
  | .dK true ks ws, _, _, n, h => by simp [noOwn] at n
  | .obj false C fs ws, _, _, n, h => by
    cases h with
    | osh h1 hd hl h2 => exact Reps.nofp (by simpa [noOwn] using n) h2
  | .obj true C fs ws, _, _, n, h => by simp [noOwn] at n
  | .scr K ns, _, _, _, h => by cases h; rfl
  | .raw v, _, _, _, h => by cases h; rfl
theorem Reps.nofp {F H : Hp} : ∀ {ws : List Val} {vs : List V} {fp : List Addr}, noOwns ws = true → Reps F H vs ws fp → fp = []
  | [], _, _, _, h => by cases h; rfl
  | w :: ws, _, _, n, h => by
    cases h with
    | cons h1 h2 =>
      simp only [noOwns, Bool.and_eq_true] at n
      rw [Rep.nofp n.1 h1, Reps.nofp n.2 h2]; rfl
end
mutual
/-- all of it goes over to what is never changed -/
theorem Rep.frz {F H F' H' : Hp} (hF : Le F F') : ∀ {w : Val} {v : V} {fp : List Addr}, noObj w = true → (∀ a ∈ fp, F' a = H a) → Rep F H v w fp → Rep F' H' v (frz w) []
  | .non, _, _, _, _, h => by cases h; exact .non
  | .bl _, _, _, _, _, h => by cases h; exact .bl _
  | .int _, _, _, _, _, h => by cases h; exact .int _
  | .str _, _, _, _, _, h => by cases h; exact .str _
  | .tup ws, _, _, n, k, h => by
    cases h with
    | tup h1 h2 => exact .tup (hF _ _ h1) (Reps.frz hF (by simpa [noObj] using n) k h2)
  | .tpz ws, _, _, n, k, h => by
    cases h with
    | tpz h1 h0 h2 => exact .tpz (hF _ _ h1) h0 (Reps.frz hF (by simpa [noObj] using n) k h2)
  | .lst false ws, _, _, n, k, h => by
    cases h with
    | lsh h1 h2 => exact .lsh (hF _ _ h1) (Reps.frz hF (by simpa [noObj] using n) k h2)
  | .lst true ws, _, _, n, k, h => by
    cases h with
    | low h1 h2 => exact .lsh ((k _ List.mem_cons_self).trans h1) (Reps.frz hF (by simpa [noObj] using n) (fun a ha => k a (List.mem_cons_of_mem _ ha)) h2)
  | .dT false ks ws, _, _, n, k, h => by
    cases h with
    | tsh h1 hl h2 => exact .tsh (hF _ _ h1) hl (Reps.frz hF (by simpa [noObj] using n) k h2)
  | .dT true ks ws, _, _, n, k, h => by
    cases h with
    | tow h1 hl h2 => exact .tsh ((k _ List.mem_cons_self).trans h1) hl (Reps.frz hF (by simpa [noObj] using n) (fun a ha => k a (List.mem_cons_of_mem _ ha)) h2)
  | .dK false ks ws, _, _, n, k, h => by
    cases h with
    | ksh h1 hl h2 => exact .ksh (hF _ _ h1) hl (Reps.frz hF (by simpa [noObj] using n) k h2)
  | .dK true ks ws, _, _, n, k, h => by
    cases h with
    | kow h1 hl h2 => exact .ksh ((k _ List.mem_cons_self).trans h1) hl (Reps.frz hF (by simpa [noObj] using n) (fun a ha => k a (List.mem_cons_of_mem _ ha)) h2)
  | .obj false C fs ws, _, _, n, k, h => by
    cases h with
    | osh h1 hd hl h2 => exact .osh (hF _ _ h1) (hF _ _ hd) hl (Reps.frz hF (by simpa [noObj] using n) k h2)
  | .obj true C fs ws, _, _, n, k, h => by
    cases h with
    | oow h1 hd hl h2 => exact .osh ((k _ List.mem_cons_self).trans h1) ((k _ (List.mem_cons_of_mem _ List.mem_cons_self)).trans hd) hl (Reps.frz hF (by simpa [noObj] using n) (fun a ha => k a (List.mem_cons_of_mem _ (List.mem_cons_of_mem _ ha))) h2)
  | .scr K ns, _, _, _, _, h => by
    cases h with
    | scr h1 => exact .scr (Same.seq hF h1)
  | .raw v, _, _, _, _, h => by cases h; exact .raw _
theorem Reps.frz {F H F' H' : Hp} (hF : Le F F') : ∀ {ws : List Val} {vs : List V} {fp : List Addr}, noObjs ws = true → (∀ a ∈ fp, F' a = H a) → Reps F H vs ws fp → Reps F' H' vs (frzs ws) []
  | [], _, _, _, _, h => by cases h; exact .nil
  | w :: ws, _, _, n, k, h => by
    cases h with
    | cons h1 h2 =>
      simp only [noObjs, Bool.and_eq_true] at n
      exact .cons (f1 := []) (f2 := []) (Rep.frz hF n.1 (fun a ha => k a (List.mem_append_left _ ha)) h1) (Reps.frz hF n.2 (fun a ha => k a (List.mem_append_right _ ha)) h2)
end
mutual
/-- where nothing is shared, the tuples are enough -/
theorem Rep.unsh {F H F' : Hp} (hF : ∀ a xs, F a = some (.tup xs) → F' a = some (.tup xs)) (hZ : ∀ a ob xs, F a = some (.frz ob (.tup xs)) → F' a = some (.frz ob (.tup xs))) : ∀ {w : Val} {v : V} {fp : List Addr}, noSh w = true → Rep F H v w fp → Rep F' H v w fp
  | .non, _, _, _, h => by cases h; exact .non
  | .bl _, _, _, _, h => by cases h; exact .bl _
  | .int _, _, _, _, h => by cases h; exact .int _
  | .str _, _, _, _, h => by cases h; exact .str _
  | .tup ws, _, _, n, h => by
    cases h with
    | tup h1 h2 => exact .tup (hF _ _ h1) (Reps.unsh hF hZ (by simpa [noSh] using n) h2)
  | .tpz ws, _, _, n, h => by
    cases h with
    | tpz h1 h0 h2 => exact .tpz (hZ _ _ _ h1) h0 (Reps.unsh hF hZ (by simpa [noSh] using n) h2)
  | .lst false ws, _, _, n, h => by simp [noSh] at n
  | .lst true ws, _, _, n, h => by
    cases h with
    | low h1 h2 => exact .low h1 (Reps.unsh hF hZ (by simpa [noSh] using n) h2)
  | .dT false ks ws, _, _, n, h => by simp [noSh] at n
  | .dT true ks ws, _, _, n, h => by
    cases h with
    | tow h1 hl h2 => exact .tow h1 hl (Reps.unsh hF hZ (by simpa [noSh] using n) h2)
  | .dK false ks ws, _, _, n, h => by simp [noSh] at n
  | .dK true ks ws, _, _, n, h => by
    cases h with
    | kow h1 hl h2 => exact .kow h1 hl (Reps.unsh hF hZ (by simpa [noSh] using n) h2)
  | .obj false C fs ws, _, _, n, h => by simp [noSh] at n
  | .obj true C fs ws, _, _, n, h => by
    cases h with
    | oow h1 hd hl h2 => exact .oow h1 hd hl (Reps.unsh hF hZ (by simpa [noSh] using n) h2)
  | .scr K ns, _, _, n, h => by simp [noSh] at n
  | .raw v, _, _, _, h => by cases h; exact .raw _
theorem Reps.unsh {F H F' : Hp} (hF : ∀ a xs, F a = some (.tup xs) → F' a = some (.tup xs)) (hZ : ∀ a ob xs, F a = some (.frz ob (.tup xs)) → F' a = some (.frz ob (.tup xs))) : ∀ {ws : List Val} {vs : List V} {fp : List Addr}, noShs ws = true → Reps F H vs ws fp → Reps F' H vs ws fp
  | [], _, _, _, h => by cases h; exact .nil
  | w :: ws, _, _, n, h => by
    cases h with
    | cons h1 h2 =>
      simp only [noShs, Bool.and_eq_true] at n
      exact .cons (Rep.unsh hF hZ n.1 h1) (Reps.unsh hF hZ n.2 h2)
end
/-! ### as plain data -/
mutual
def toPy : Val → Option PyData
  | .non => some .none | .bl b => some (.bool b) | .int i => some (.int i) | .str s => some (.str s)
  | .tup ws => (toPys ws).map .tuple
  | .tpz ws => (toPys ws).map .tuple
  | .lst _ ws => (toPys ws).map .list
  | .dT _ _ _ => none
  | .dK _ _ _ => none
  | .obj _ _ _ _ => none
  | .scr _ _ => none
  | .raw _ => none
def toPys : List Val → Option (List PyData)
  | [] => some []
  | w :: ws => (toPy w).bind fun d => (toPys ws).map fun ds => d :: ds
end
mutual
theorem Rep.dp {K : PySem.W.Frag} {F H : Hp} (hF : Le F H) : ∀ {w : Val} {v : V} {fp : List Addr} {d : PyData}, toPy w = some d → Rep F H v w fp → Dp K H v d
  | .non, _, _, _, e, h => by cases h; cases e; exact .non
  | .bl _, _, _, _, e, h => by cases h; cases e; exact .bl _
  | .int _, _, _, _, e, h => by cases h; cases e; exact .int _
  | .str _, _, _, _, e, h => by cases h; cases e; exact .str _
  | .tup ws, _, _, _, e, h => by
    cases h with
    | tup h1 h2 =>
      simp only [toPy, Option.map_eq_some_iff] at e
      obtain ⟨ds, e1, rfl⟩ := e
      exact .tup (.of (hF _ _ h1)) (Reps.dp hF e1 h2)
  | .tpz ws, _, _, _, e, h => by
    cases h with
    | tpz h1 h0 h2 =>
      simp only [toPy, Option.map_eq_some_iff] at e
      obtain ⟨ds, e1, rfl⟩ := e
      exact .tup (.inl (.inr ⟨_, hF _ _ h1⟩)) (Reps.dp hF e1 h2)
  | .lst false ws, _, _, _, e, h => by
    cases h with
    | lsh h1 h2 =>
      simp only [toPy, Option.map_eq_some_iff] at e
      obtain ⟨ds, e1, rfl⟩ := e
      exact .lst (.of (hF _ _ h1)) (Reps.dp hF e1 h2)
  | .lst true ws, _, _, _, e, h => by
    cases h with
    | low h1 h2 =>
      simp only [toPy, Option.map_eq_some_iff] at e
      obtain ⟨ds, e1, rfl⟩ := e
      exact .lst (.of h1) (Reps.dp hF e1 h2)
  | .dT _ _ _, _, _, _, e, _ => by simp [toPy] at e
  | .dK _ _ _, _, _, _, e, _ => by simp [toPy] at e
  | .obj _ _ _ _, _, _, _, e, _ => by simp [toPy] at e
  | .scr _ _, _, _, _, e, _ => by simp [toPy] at e
  | .raw _, _, _, _, e, _ => by simp [toPy] at e
theorem Reps.dp {K : PySem.W.Frag} {F H : Hp} (hF : Le F H) : ∀ {ws : List Val} {vs : List V} {fp : List Addr} {ds : List PyData}, toPys ws = some ds → Reps F H vs ws fp → DpAll K H vs ds
  | [], _, _, _, e, h => by cases h; cases e; exact .nil
  | w :: ws, _, _, _, e, h => by
    cases h with
    | cons h1 h2 =>
      simp only [toPys, Option.bind_eq_some_iff, Option.map_eq_some_iff] at e
      obtain ⟨d, e1, ds, e2, rfl⟩ := e
      exact .cons (Rep.dp hF e1 h1) (Reps.dp hF e2 h2)
end
theorem Reps.get {F H : Hp} : ∀ {vs : List V} {ws : List Val} {fp : List Addr} {i : Nat} {w : Val}, Reps F H vs ws fp → ws[i]? = some w → ∃ v g, vs[i]? = some v ∧ Rep F H v w g ∧ ∀ a, g.count a ≤ fp.count a
  | _, [], _, _, _, _, e => by simp at e
  | _, w :: ws, _, 0, _, h, e => by
    cases h with
    | cons h1 h2 =>
      simp at e; subst e
      exact ⟨_, _, rfl, h1, fun a => by simp⟩
  | _, w :: ws, _, i + 1, _, h, e => by
    cases h with
    | cons h1 h2 =>
      obtain ⟨v, g, e1, r, c⟩ := Reps.get (i := i) h2 (by simpa using e)
      exact ⟨v, g, by simpa using e1, r, fun a => by have := c a; simp; omega⟩
theorem Reps.append {F H : Hp} : ∀ {vs vs' : List V} {ws ws' : List Val} {f g : List Addr}, Reps F H vs ws f → Reps F H vs' ws' g → Reps F H (vs ++ vs') (ws ++ ws') (f ++ g)
  | _, _, [], _, _, _, h, h' => by cases h; exact h'
  | _, _, w :: ws, _, _, _, h, h' => by
    cases h with
    | cons h1 h2 =>
      rw [List.append_assoc]
      exact .cons h1 (Reps.append h2 h')
end L2.DL

namespace L2.DL
open L2 PyProof.Rows PySem.Spec PySem
/-! ### the slots -/
abbrev Slots := List (Option Val)
inductive RepL (F H : Hp) : List (Option V) → Slots → List Addr → Prop
  | nil : RepL F H [] [] []
  | dead {v : Option V} {vs : List (Option V)} {ws : Slots} {fp : List Addr} : RepL F H vs ws fp → RepL F H (v :: vs) (none :: ws) fp
  | live {v : V} {vs : List (Option V)} {w : Val} {ws : Slots} {f1 f2 : List Addr} : Rep F H v w f1 → RepL F H vs ws f2 → RepL F H (some v :: vs) (some w :: ws) (f1 ++ f2)
section
variable {F H F' H' : Hp}
theorem RepL.length {vs : List (Option V)} {ws : Slots} {fp : List Addr} (h : RepL F H vs ws fp) : vs.length = ws.length := by
  induction h with
  | nil => rfl
  | dead _ ih => simp [ih]
  | live _ _ ih => simp [ih]
theorem RepL.mono {vs : List (Option V)} {ws : Slots} {fp : List Addr} (hF : Le F F') (h : RepL F H vs ws fp) (k : ∀ a ∈ fp, H' a = H a) : RepL F' H' vs ws fp := by
  induction h with
  | nil => exact .nil
  | dead _ ih => exact .dead (ih k)
  | live h1 _ ih => exact .live (h1.mono hF fun a ha => k a (List.mem_append_left _ ha)) (ih fun a ha => k a (List.mem_append_right _ ha))
theorem RepL.dom {vs : List (Option V)} {ws : Slots} {fp : List Addr} (h : RepL F H vs ws fp) : ∀ a ∈ fp, H a ≠ none := by
  induction h with
  | nil => intro a ha; cases ha
  | dead _ ih => exact ih
  | live h1 _ ih =>
    intro a ha
    rcases List.mem_append.mp ha with ha | ha
    · exact h1.dom a ha
    · exact ih a ha
theorem RepL.notup {vs : List (Option V)} {ws : Slots} {fp : List Addr} (h : RepL F H vs ws fp) : ∀ a ∈ fp, ∀ xs, H a ≠ some (.tup xs) := by
  induction h with
  | nil => intro a ha; cases ha
  | dead _ ih => exact ih
  | live h1 _ ih =>
    intro a ha
    rcases List.mem_append.mp ha with ha | ha
    · exact h1.notup a ha
    · exact ih a ha
theorem RepL.append {vs : List (Option V)} {ws : Slots} {f : List Addr} (h : RepL F H vs ws f) : ∀ {vs' : List (Option V)} {ws' : Slots} {g : List Addr}, RepL F H vs' ws' g → RepL F H (vs ++ vs') (ws ++ ws') (f ++ g) := by
  induction h with
  | nil => intro _ _ _ h'; exact h'
  | dead _ ih => intro _ _ _ h'; exact .dead (ih h')
  | live h1 _ ih => intro _ _ _ h'; rw [List.append_assoc]; exact .live h1 (ih h')
theorem RepL.split : ∀ {vs vs' : List (Option V)} {ws ws' : Slots} {f : List Addr}, vs.length = ws.length → RepL F H (vs ++ vs') (ws ++ ws') f → ∃ f1 f2, RepL F H vs ws f1 ∧ RepL F H vs' ws' f2 ∧ f = f1 ++ f2
  | [], _, [], _, _, _, h => ⟨[], _, .nil, h, rfl⟩
  | [], _, _ :: _, _, _, e, _ => by simp at e
  | _ :: _, _, [], _, _, e, _ => by simp at e
  | v :: vs, vs', none :: ws, ws', f, e, h => by
    cases h with
    | dead h =>
      obtain ⟨f1, f2, h1, h2, rfl⟩ := RepL.split (by simpa using e) h
      exact ⟨f1, f2, .dead h1, h2, rfl⟩
  | v :: vs, vs', some w :: ws, ws', f, e, h => by
    cases h with
    | live h0 h =>
      obtain ⟨f1, f2, h1, h2, rfl⟩ := RepL.split (by simpa using e) h
      exact ⟨_ ++ f1, f2, .live h0 h1, h2, by simp⟩
theorem RepL.get : ∀ {vs : List (Option V)} {ws : Slots} {fp : List Addr} {i : Nat} {w : Val}, RepL F H vs ws fp → ws[i]? = some (some w) → ∃ v g, vs[i]? = some (some v) ∧ Rep F H v w g ∧ ∀ a, g.count a ≤ fp.count a
  | _, _, _, _, _, .nil, e => by simp at e
  | _, _, _, 0, _, .dead _, e => by simp at e
  | _, _, _, i + 1, _, .dead h, e => by
    obtain ⟨v, g, e1, r, c⟩ := RepL.get (i := i) h (by simpa using e)
    exact ⟨v, g, by simpa using e1, r, c⟩
  | _, _, _, 0, _, .live h1 _, e => by
    simp at e; subst e
    exact ⟨_, _, rfl, h1, fun a => by simp⟩
  | _, _, _, i + 1, _, .live h1 h, e => by
    obtain ⟨v, g, e1, r, c⟩ := RepL.get (i := i) h (by simpa using e)
    exact ⟨v, g, by simpa using e1, r, fun a => by have := c a; simp; omega⟩
/-- a slot is stored -/
theorem RepL.set {v : V} {w : Val} {g : List Addr} (r : Rep F H v w g) : ∀ {vs : List (Option V)} {ws : Slots} {fp : List Addr} (i : Nat), RepL F H vs ws fp → ∃ f', RepL F H (vs.set i (some v)) (ws.set i (some w)) f' ∧ ∀ a, f'.count a ≤ fp.count a + g.count a
  | _, _, _, _, .nil => ⟨[], .nil, fun a => by simp⟩
  | _, _, _, 0, .dead h => ⟨_, .live r h, fun a => by simp; omega⟩
  | _, _, _, i + 1, .dead h => by
    obtain ⟨f', h', c⟩ := RepL.set r i h
    exact ⟨f', .dead h', c⟩
  | _, _, _, 0, .live h1 h => ⟨_, .live r h, fun a => by simp; omega⟩
  | _, _, _, i + 1, .live h1 h => by
    obtain ⟨f', h', c⟩ := RepL.set r i h
    exact ⟨_, .live h1 h', fun a => by have := c a; simp; omega⟩
/-- a slot is forgotten -/
theorem RepL.kill {v : Option V} : ∀ {vs : List (Option V)} {ws : Slots} {fp : List Addr} (i : Nat), RepL F H vs ws fp → ∃ f', RepL F H (vs.set i v) (ws.set i none) f' ∧ ∀ a, f'.count a ≤ fp.count a
  | _, _, _, _, .nil => ⟨[], .nil, fun a => by simp⟩
  | _, _, _, 0, .dead h => ⟨_, .dead h, fun a => by simp⟩
  | _, _, _, i + 1, .dead h => by
    obtain ⟨f', h', c⟩ := RepL.kill (v := v) i h
    exact ⟨f', .dead h', c⟩
  | _, _, _, 0, .live h1 h => ⟨_, .dead h, fun a => by simp⟩
  | _, _, _, i + 1, .live h1 h => by
    obtain ⟨f', h', c⟩ := RepL.kill (v := v) i h
    exact ⟨_, .live h1 h', fun a => by have := c a; simp; omega⟩
/-- what stands in a slot is changed where it stands, the rest of the heap is kept -/
theorem RepL.upd : ∀ {vs : List (Option V)} {ws : Slots} {fp : List Addr} {i : Nat} {w : Val}, RepL F H vs ws fp → (∀ a, fp.count a ≤ 1) → ws[i]? = some (some w) → ∃ (v : V) (g r : List Addr), vs[i]? = some (some v) ∧ Rep F H v w g ∧ (∀ a, g.count a + r.count a = fp.count a) ∧
    ∀ {F' H' : Hp} {w' : Option Val} {g' : List Addr}, Le F F' → (∀ a ∈ r, H' a = H a) → (∀ u, w' = some u → Rep F' H' v u g') → ∃ f', RepL F' H' vs (ws.set i w') f' ∧ ∀ a, f'.count a ≤ g'.count a + r.count a
  | _, _, _, _, _, .nil, _, e => by simp at e
  | _, _, _, 0, _, .dead _, _, e => by simp at e
  | _, _, _, i + 1, _, .dead h, n, e => by
    obtain ⟨v, g, r, e1, rw, c, k⟩ := RepL.upd (i := i) h n (by simpa using e)
    refine ⟨v, g, r, by simpa using e1, rw, c, fun hF hH hw => ?_⟩
    obtain ⟨f', h', c'⟩ := k hF hH hw
    exact ⟨f', .dead h', c'⟩
  | _, _, _, 0, _, @RepL.live _ _ v0 _ w0 _ f1 f2 h1 h, n, e => by
    simp at e; subst e
    refine ⟨_, f1, f2, rfl, h1, fun a => by rw [List.count_append], fun {F' H' w' g'} hF hH hw => ?_⟩
    cases w' with
    | none => exact ⟨_, .dead (h.mono hF hH), fun a => by omega⟩
    | some u => exact ⟨_, .live (hw u rfl) (h.mono hF hH), fun a => by rw [List.count_append]; omega⟩
  | _, _, _, i + 1, _, @RepL.live _ _ v0 _ w0 _ f1 f2 h1 h, n, e => by
    obtain ⟨v, g, r, e1, rw, c, k⟩ := RepL.upd (i := i) h (fun a => by have := n a; rw [List.count_append] at this; omega) (by simpa using e)
    refine ⟨v, g, f1 ++ r, by simpa using e1, rw, fun a => by have := c a; rw [List.count_append, List.count_append]; omega, fun hF hH hw => ?_⟩
    obtain ⟨f', h', c'⟩ := k hF (fun a ha => hH a (List.mem_append_right _ ha)) hw
    exact ⟨_, .live (h1.mono hF fun a ha => hH a (List.mem_append_left _ ha)) h', fun a => by have := c' a; rw [List.count_append, List.count_append]; omega⟩
theorem RepL.of_reps : ∀ {vs : List V} {ws : List Val} {fp : List Addr}, Reps F H vs ws fp → RepL F H (vs.map some) (ws.map some) fp
  | _, [], _, h => by cases h; exact .nil
  | _, w :: ws, _, h => by
    cases h with
    | cons h1 h2 => exact .live h1 (RepL.of_reps h2)
theorem RepL.reps : ∀ {vs : List V} {ws : List Val} {fp : List Addr}, RepL F H (vs.map some) (ws.map some) fp → Reps F H vs ws fp
  | [], [], _, h => by cases h; exact .nil
  | [], _ :: _, _, h => by cases h
  | _ :: _, [], _, h => by cases h
  | v :: vs, w :: ws, _, h => by
    cases h with
    | live h1 h2 => exact .cons h1 (RepL.reps h2)
theorem RepL.nones : ∀ {vs : List (Option V)}, RepL F H vs (List.replicate vs.length none) []
  | [] => .nil
  | v :: vs => .dead RepL.nones
end
theorem mem_of_count {a : Addr} {l : List Addr} (h : 0 < l.count a) : a ∈ l := List.count_pos_iff.mp h
theorem count_of_mem {a : Addr} {l : List Addr} (h : a ∈ l) : 0 < l.count a := List.count_pos_iff.mpr h
/-! ### the state of a body: at the entry the heap H0, what is never changed F0, what may be changed P0, the arguments S0 -/
structure Base where
  H0 : Hp
  F0 : Hp
  P0 : List Addr
  S0 : List V
structure SRf (B : Base) (F H : Hp) (σ : St) (ρ : Slots) (τ : List (Option V)) (θ : Slots) (f1 f2 : List Addr) : Prop where
  s : RepL F H σ ρ f1
  t : RepL F H τ θ f2
  le1 : ∀ a, f1.count a + f2.count a ≤ 1
  own : ∀ a, 0 < f1.count a + f2.count a → F a = none ∧ (a ∈ B.P0 ∨ B.H0 a = none)
  FH : Le F H
  F0 : Le B.F0 F
  keep : ∀ a o, B.H0 a = some o → a ∉ B.P0 → H a = some o
  dom : ∀ a, H a = none → B.H0 a = none
  new : ∀ a, F a ≠ none → B.F0 a ≠ none ∨ B.H0 a = none ∨ a ∈ B.P0 ∨ ∃ xs, F a = some (.tup xs)
  pin : ∀ (i : Nat) (v : V), B.S0[i]? = some v → σ[i]? = some (some v)
def SR (B : Base) (F H : Hp) (σ : St) (ρ : Slots) (τ : List (Option V)) (θ : Slots) : Prop := ∃ f1 f2, SRf B F H σ ρ τ θ f1 f2
/-- the heap grew -/
structure Ext (F H F' H' : Hp) : Prop where
  leH : Le H H'
  leF : Le F F'
  FH : Le F' H'
  new : ∀ a, F' a ≠ none → F a ≠ none ∨ H a = none ∨ ∃ xs, F' a = some (.tup xs)
theorem Ext.refl {F H : Hp} (h : Le F H) : Ext F H F H := ⟨Le.refl _, Le.refl _, h, fun _ => .inl⟩
theorem Ext.trans {F H F1 H1 F2 H2 : Hp} (a : Ext F H F1 H1) (b : Ext F1 H1 F2 H2) : Ext F H F2 H2 := by
  refine ⟨a.leH.trans b.leH, a.leF.trans b.leF, b.FH, fun x hx => ?_⟩
  rcases b.new x hx with h | h | h
  · rcases a.new x h with z | z | ⟨xs, z⟩
    · exact .inl z
    · exact .inr (.inl z)
    · exact .inr (.inr ⟨xs, b.leF x _ z⟩)
  rotate_left
  · exact .inr (.inr h)
  · refine .inr (.inl ?_)
    cases q : H x with
    | none => rfl
    | some o => rw [a.leH x o q] at h; cases h
theorem Ext.keepH {F H F' H' : Hp} (e : Ext F H F' H') {a : Addr} (h : H a ≠ none) : H' a = H a := by
  cases q : H a with
  | none => exact absurd q h
  | some o => exact e.leH a o q
theorem Ext.none {F H F' H' : Hp} (e : Ext F H F' H') {a : Addr} (h : H' a = none) : H a = none := by
  cases q : H a with
  | none => rfl
  | some o => rw [e.leH a o q] at h; cases h
theorem Rep.ext {F H F' H' : Hp} {w : Val} {v : V} {fp : List Addr} (e : Ext F H F' H') (h : Rep F H v w fp) : Rep F' H' v w fp := h.mono e.leF fun a ha => e.keepH (h.dom a ha)
theorem Reps.ext {F H F' H' : Hp} {w : List Val} {v : List V} {fp : List Addr} (e : Ext F H F' H') (h : Reps F H v w fp) : Reps F' H' v w fp := h.mono e.leF fun a ha => e.keepH (h.dom a ha)
theorem RepL.ext {F H F' H' : Hp} {w : Slots} {v : List (Option V)} {fp : List Addr} (e : Ext F H F' H') (h : RepL F H v w fp) : RepL F' H' v w fp := h.mono e.leF fun a ha => e.keepH (h.dom a ha)
section
variable {B : Base} {F H F' H' : Hp} {σ : St} {ρ : Slots} {τ : List (Option V)} {θ : Slots} {f1 f2 : List Addr}
theorem SRf.domOwn (s : SRf B F H σ ρ τ θ f1 f2) {a : Addr} (h : 0 < f1.count a + f2.count a) : H a ≠ none := by
  by_cases h1 : 0 < f1.count a
  · exact s.s.dom a (mem_of_count h1)
  · exact s.t.dom a (mem_of_count (by omega))
theorem SRf.notup (s : SRf B F H σ ρ τ θ f1 f2) {a : Addr} (h : 0 < f1.count a + f2.count a) : ∀ xs, H a ≠ some (.tup xs) := by
  by_cases h1 : 0 < f1.count a
  · exact s.s.notup a (mem_of_count h1)
  · exact s.t.notup a (mem_of_count (by omega))
theorem SRf.ext (s : SRf B F H σ ρ τ θ f1 f2) (e : Ext F H F' H') : SRf B F' H' σ ρ τ θ f1 f2 where
  s := s.s.ext e
  t := s.t.ext e
  le1 := s.le1
  own := fun a ha => by
    obtain ⟨h1, h2⟩ := s.own a ha
    refine ⟨?_, h2⟩
    cases q : F' a with
    | none => rfl
    | some o =>
      rcases e.new a (by rw [q]; simp) with z | z | ⟨xs, z⟩
      · exact absurd h1 z
      · exact absurd z (s.domOwn ha)
      · have h3 := e.FH a _ z
        rw [e.keepH (s.domOwn ha)] at h3
        exact absurd h3 (s.notup ha xs)
  FH := e.FH
  F0 := s.F0.trans e.leF
  keep := fun a o h1 h2 => e.leH a o (s.keep a o h1 h2)
  dom := fun a h => s.dom a (e.none h)
  new := fun a h => by
    rcases e.new a h with z | z | z
    · rcases s.new a z with y | y | y | ⟨xs, y⟩
      · exact .inl y
      · exact .inr (.inl y)
      · exact .inr (.inr (.inl y))
      · exact .inr (.inr (.inr ⟨xs, e.leF a _ y⟩))
    · exact .inr (.inl (s.dom a z))
    · exact .inr (.inr (.inr z))
  pin := s.pin
theorem SR.ext (s : SR B F H σ ρ τ θ) (e : Ext F H F' H') : SR B F' H' σ ρ τ θ := let ⟨f1, f2, h⟩ := s; ⟨f1, f2, h.ext e⟩
theorem SR.FH (s : SR B F H σ ρ τ θ) : Le F H := let ⟨_, _, h⟩ := s; h.FH
theorem SR.len (s : SR B F H σ ρ τ θ) : σ.length = ρ.length := let ⟨_, _, h⟩ := s; h.s.length
/-- a new value -/
def Nw (F' H H' : Hp) (u : V) (w : Val) : Prop := ∃ g, Rep F' H' u w g ∧ (∀ a, g.count a ≤ 1) ∧ ∀ a ∈ g, H a = none ∧ F' a = none
/-- a value that is looked at -/
def Pk (F H : Hp) (u : V) (w : Val) : Prop := ∃ g, Rep F H u w g
theorem Nw.pk {u : V} {w : Val} (h : Nw F' H H' u w) : Pk F' H' u w := let ⟨g, r, _⟩ := h; ⟨g, r⟩
theorem Nw.of {u : V} {w : Val} (h : Rep F' H' u w []) : Nw F' H H' u w := ⟨[], h, fun a => by simp, fun a ha => by cases ha⟩
theorem Nw.of_pk {u : V} {w : Val} (n : noOwn w = true) (h : Pk F' H' u w) : Nw F' H H' u w := by
  obtain ⟨g, r⟩ := h
  have := r.nofp n
  subst this
  exact .of r
/-- .. as one more root -/
theorem SR.push {u : V} {w : Val} (s : SR B F H σ ρ τ θ) (e : Ext F H F' H') (n : Nw F' H H' u w) : SR B F' H' σ ρ (some u :: τ) (some w :: θ) := by
  obtain ⟨f1, f2, s⟩ := s
  obtain ⟨g, r, c, k⟩ := n
  have s' := s.ext e
  have dis : ∀ a, 0 < g.count a → f1.count a + f2.count a = 0 := fun a ha => by
    by_cases z : 0 < f1.count a + f2.count a
    · exact absurd (k a (mem_of_count ha)).1 (s.domOwn z)
    · omega
  refine ⟨f1, g ++ f2, s'.s, .live r s'.t, fun a => ?_, fun a ha => ?_, s'.FH, s'.F0, s'.keep, s'.dom, s'.new, s'.pin⟩
  · have h1 := s.le1 a
    have h2 := c a
    rw [List.count_append]
    by_cases z : 0 < g.count a
    · have := dis a z; omega
    · omega
  · rw [List.count_append] at ha
    by_cases z : 0 < g.count a
    · obtain ⟨k1, k2⟩ := k a (mem_of_count z)
      exact ⟨k2, .inr (s.dom a k1)⟩
    · exact s'.own a (by omega)
theorem SR.pop {x : Option V} {y : Option Val} (s : SR B F H σ ρ (x :: τ) (y :: θ)) : SR B F H σ ρ τ θ := by
  obtain ⟨f1, f2, s⟩ := s
  obtain ⟨s1, t, c, o, FH, F0, keep, dom, new, pin⟩ := s
  cases t with
  | dead t => exact ⟨_, _, s1, t, c, o, FH, F0, keep, dom, new, pin⟩
  | @live _ _ _ _ g f h1 t =>
    exact ⟨_, _, s1, t, fun a => by have := c a; rw [List.count_append] at this; omega, fun a ha => o a (by rw [List.count_append]; omega), FH, F0, keep, dom, new, pin⟩
theorem SR.top {u : V} {w : Val} (s : SR B F H σ ρ (some u :: τ) (some w :: θ)) : Pk F H u w := by
  obtain ⟨f1, f2, s⟩ := s
  cases s.t with
  | live h1 t => exact ⟨_, h1⟩
/-- the top root goes into a slot -/
theorem SR.store {u : V} {w : Val} {i : Nat} (s : SR B F H σ ρ (some u :: τ) (some w :: θ)) (hi : B.S0.length ≤ i) : SR B F H (σ.set i (some u)) (ρ.set i (some w)) τ θ := by
  obtain ⟨f1, f2, s1, t, c, o, FH, F0, keep, dom, new, pin⟩ := s
  cases t with
  | @live _ _ _ _ g f h1 t =>
    obtain ⟨f', r', c'⟩ := RepL.set h1 i s1
    refine ⟨f', f, r', t, fun a => ?_, fun a ha => ?_, FH, F0, keep, dom, new, fun j v hj => ?_⟩
    · have := c a; have := c' a; rw [List.count_append] at *; omega
    · have := c' a; exact o a (by rw [List.count_append]; omega)
    · have hlt : j < B.S0.length := (List.getElem?_eq_some_iff.mp hj).1
      rw [List.getElem?_set_ne (by omega)]
      exact pin j v hj
/-- a slot is forgotten -/
theorem SR.kill {i : Nat} {x : Option V} (s : SR B F H σ ρ τ θ) (hi : B.S0.length ≤ i) : SR B F H (σ.set i x) (ρ.set i none) τ θ := by
  obtain ⟨f1, f2, s1, t, c, o, FH, F0, keep, dom, new, pin⟩ := s
  obtain ⟨f', r', c'⟩ := RepL.kill (v := x) i s1
  refine ⟨f', f2, r', t, fun a => ?_, fun a ha => ?_, FH, F0, keep, dom, new, fun j v hj => ?_⟩
  · have := c a; have := c' a; omega
  · have := c' a; exact o a (by omega)
  · have hlt : j < B.S0.length := (List.getElem?_eq_some_iff.mp hj).1
    rw [List.getElem?_set_ne (by omega)]
    exact pin j v hj
theorem SR.get {i : Nat} {w : Val} (s : SR B F H σ ρ τ θ) (h : ρ[i]? = some (some w)) : ∃ v, σ[i]? = some (some v) ∧ Pk F H v w := by
  obtain ⟨f1, f2, s⟩ := s
  obtain ⟨v, g, e, r, _⟩ := s.s.get h
  exact ⟨v, e, g, r⟩
/-- a slot's value goes over to the roots (moved) -/
theorem SR.move {i : Nat} {w : Val} (s : SR B F H σ ρ τ θ) (h : ρ[i]? = some (some w)) : ∃ v, σ[i]? = some (some v) ∧ SR B F H σ (ρ.set i none) (some v :: τ) (some w :: θ) := by
  obtain ⟨f1, f2, s⟩ := s
  obtain ⟨v, g, r, e, rw, c, k⟩ := s.s.upd (fun a => by have := s.le1 a; omega) h
  obtain ⟨f', r', c'⟩ := k (w' := none) (g' := []) (Le.refl _) (fun _ _ => rfl) (fun u z => by cases z)
  refine ⟨v, e, f', g ++ f2, r', .live rw s.t, fun a => ?_, fun a ha => ?_, s.FH, s.F0, s.keep, s.dom, s.new, s.pin⟩
  · have := s.le1 a; have := c a; have := c' a; simp only [List.count_nil] at *; rw [List.count_append]; omega
  · have := c a; have := c' a; simp only [List.count_nil] at *; rw [List.count_append] at ha; exact s.own a (by omega)
/-- a slot that may be copied -/
theorem SR.copy {i : Nat} {w : Val} (s : SR B F H σ ρ τ θ) (h : ρ[i]? = some (some w)) (n : noOwn w = true) : ∃ v, σ[i]? = some (some v) ∧ SR B F H σ ρ (some v :: τ) (some w :: θ) := by
  obtain ⟨v, e, p⟩ := s.get h
  exact ⟨v, e, s.push (.refl s.FH) (.of_pk n p)⟩
end
/-- all of these go over to what is never changed -/
def join (F H : Hp) (fp : List Addr) : Hp := fun a => if a ∈ fp then H a else F a
theorem join_mem {F H : Hp} {fp : List Addr} {a : Addr} (h : a ∈ fp) : join F H fp a = H a := if_pos h
theorem join_not {F H : Hp} {fp : List Addr} {a : Addr} (h : a ∉ fp) : join F H fp a = F a := if_neg h
theorem join_le {F H : Hp} {fp : List Addr} (h : Le F H) : Le F (join F H fp) := fun a o e => by
  by_cases z : a ∈ fp
  · rw [join_mem z]; exact h a o e
  · rw [join_not z]; exact e
theorem join_H {F H : Hp} {fp : List Addr} (h : Le F H) : Le (join F H fp) H := fun a o e => by
  by_cases z : a ∈ fp
  · rw [join_mem z] at e; exact e
  · rw [join_not z] at e; exact h a o e
section
variable {B : Base} {F H F' H' : Hp} {σ : St} {ρ : Slots} {τ : List (Option V)} {θ : Slots} {f1 f2 : List Addr}
/-- the slot i is shared from now on -/
theorem SR.freeze {i : Nat} {w : Val} (s : SR B F H σ ρ τ θ) (h : ρ[i]? = some (some w)) (n : noObj w = true) : ∃ F', Le F F' ∧ SR B F' H σ (ρ.set i (some (frz w))) τ θ := by
  obtain ⟨f1, f2, s⟩ := s
  obtain ⟨v, g, r, e, rw, c, k⟩ := s.s.upd (fun a => by have := s.le1 a; omega) h
  obtain ⟨f', r', c'⟩ := k (F' := join F H g) (H' := H) (w' := some (frz w)) (g' := []) (join_le s.FH) (fun _ _ => rfl) (fun u z => by cases z; exact rw.frz (join_le s.FH) n fun a ha => join_mem ha)
  refine ⟨join F H g, join_le s.FH, f', f2, r', s.t.mono (join_le s.FH) fun _ _ => rfl, fun a => ?_, fun a ha => ?_, join_H s.FH, s.F0.trans (join_le s.FH), s.keep, s.dom, fun a ha => ?_, s.pin⟩
  · have := s.le1 a; have := c a; have := c' a; simp only [List.count_nil] at *; omega
  · have h1 := s.le1 a; have h2 := c a; have h3 := c' a; simp only [List.count_nil] at *
    have z : a ∉ g := fun z => by have := count_of_mem z; omega
    rw [join_not z]
    exact s.own a (by omega)
  · by_cases z : a ∈ g
    · have h2 := c a; have := count_of_mem z
      obtain ⟨_, h⟩ := s.own a (by omega)
      rcases h with h | h
      · exact .inr (.inr (.inl h))
      · exact .inr (.inl h)
    · rw [join_not z] at ha ⊢; exact s.new a ha
/-- the top root is shared from now on -/
theorem SR.freezeTop {u : V} {w : Val} (s : SR B F H σ ρ (some u :: τ) (some w :: θ)) (n : noObj w = true) : ∃ F', Le F F' ∧ SR B F' H σ ρ (some u :: τ) (some (frz w) :: θ) := by
  obtain ⟨f1, f2, s⟩ := s
  obtain ⟨s1, t, c, o, FH, F0, keep, dom, new, pin⟩ := s
  cases t with
  | @live _ _ _ _ g f h1 t =>
    refine ⟨join F H g, join_le FH, f1, [] ++ f, s1.mono (join_le FH) fun _ _ => rfl, .live (h1.frz (join_le FH) n fun a ha => join_mem ha) (t.mono (join_le FH) fun _ _ => rfl), fun a => ?_, fun a ha => ?_, join_H FH, F0.trans (join_le FH), keep, dom, fun a ha => ?_, pin⟩
    · have := c a; rw [List.count_append] at this; simp; omega
    · have h1 := c a; rw [List.count_append] at h1; simp at ha
      have z : a ∉ g := fun z => by have := count_of_mem z; omega
      rw [join_not z]
      exact o a (by rw [List.count_append]; omega)
    · by_cases z : a ∈ g
      · have := count_of_mem z
        obtain ⟨_, h⟩ := o a (by rw [List.count_append]; omega)
        rcases h with h | h
        · exact .inr (.inr (.inl h))
        · exact .inr (.inl h)
      · rw [join_not z] at ha ⊢; exact new a ha
end
end L2.DL

namespace L2.DL
open L2 PyProof.Rows PySem.Spec PySem
/-! ### denotations -/
/-- of what only looks -/
abbrev P (α : Type) := Slots → Option α
/-- of what may change slots' things and may raise -/
inductive R (α : Type) where
  | ok (a : α) (ρ : Slots)
  | err (c : Str) (pl : Option (Str × Val)) (ρ : Slots)
  | bad
abbrev M (α : Type) := Slots → R α
def R.bind {α β : Type} (x : R α) (g : α → Slots → R β) : R β := match x with
  | .ok a ρ => g a ρ
  | .err c p ρ => .err c p ρ
  | .bad => .bad
@[simp] theorem R.bind_ok {α β : Type} (a : α) (ρ : Slots) (g : α → Slots → R β) : (R.ok a ρ).bind g = g a ρ := rfl
@[simp] theorem R.bind_err {α β : Type} (c : Str) (p : Option (Str × Val)) (ρ : Slots) (g : α → Slots → R β) : (R.err c p ρ).bind g = .err c p ρ := rfl
@[simp] theorem R.bind_bad {α β : Type} (g : α → Slots → R β) : (R.bad : R α).bind g = .bad := rfl
theorem peImp {X : Cx} {e : Expr} {t t' : TE} (h : PE X e t) (k : ∀ σ H Q, t' σ H Q → t σ H Q) : PE X e t' := ⟨fun pins s σ H Q I q => h.run pins s σ H Q I (k σ H Q q)⟩
theorem ptImp {X : Cx} {e : Expr} {t t' : TT} (h : PT X e t) (k : ∀ σ H Q, t' σ H Q → t σ H Q) : PT X e t' := ⟨fun pins s σ H Q I q => h.run pins s σ H Q I (k σ H Q q)⟩
theorem pwImp {X : Cx} {e : Expr} {t t' : TT} (h : PW X e t) (k : ∀ σ H Q, t' σ H Q → t σ H Q) : PW X e t' := ⟨fun wh pins s σ H Q I q => h.run wh pins s σ H Q I (k σ H Q q)⟩
theorem paImp {X : Cx} {e : List Expr} {t t' : TA} (h : PA X e t) (k : ∀ σ H Q, t' σ H Q → t σ H Q) : PA X e t' := ⟨fun pos pins s σ H Q I q => h.run pos pins s σ H Q I (k σ H Q q)⟩
theorem psImp {X : Cx} {e : Stmt} {t t' : TS} (h : PS X e t) (k : ∀ D σ H, t' D σ H → t D σ H) : PS X e t' := ⟨fun pins s σ H D I q => h.run pins s σ H D I (k D σ H q)⟩
theorem pssImp {X : Cx} {e : List Stmt} {t t' : TS} (h : PSs X e t) (k : ∀ D σ H, t' D σ H → t D σ H) : PSs X e t' := ⟨fun pins s σ H D I q => h.run pins s σ H D I (k D σ H q)⟩
/-! ### looking: the readings -/
def tP (f : P Val) : TE := fun σ H Q => ∃ F ρ fp, Le F H ∧ RepL F H σ ρ fp ∧ ∃ w, f ρ = some w ∧ ∀ u F' H', Ext F H F' H' → Pk F' H' u w → Q u H'
def tF (f : P Val) : TE := fun σ H Q => ∃ F ρ fp, Le F H ∧ RepL F H σ ρ fp ∧ ∃ w, f ρ = some w ∧ ∀ u F' H', Ext F H F' H' → Nw F' H H' u w → Q u H'
def PkS (F H : Hp) (us : List V) (ws : List Val) : Prop := ∃ g, Reps F H us ws g
def tPs (f : P (List Val)) : TA := fun σ H Q => ∃ F ρ fp, Le F H ∧ RepL F H σ ρ fp ∧ ∃ w, f ρ = some w ∧ ∀ u F' H', Ext F H F' H' → PkS F' H' u w → Q u H'
def tPT (f : P Bool) : TT := fun σ H Q => ∃ F ρ fp, Le F H ∧ RepL F H σ ρ fp ∧ ∃ b, f ρ = some b ∧ ∀ F' H', Ext F H F' H' → Q b H'
abbrev DP (X : Cx) (e : Expr) (f : P Val) : Prop := PE X e (tP f)
abbrev DF (X : Cx) (e : Expr) (f : P Val) : Prop := PE X e (tF f)
abbrev DPs (X : Cx) (es : List Expr) (f : P (List Val)) : Prop := PA X es (tPs f)
abbrev DT (X : Cx) (e : Expr) (f : P Bool) : Prop := PT X e (tPT f)
theorem Pk.ext {F H F' H' : Hp} {u : V} {w : Val} (e : Ext F H F' H') (h : Pk F H u w) : Pk F' H' u w := let ⟨g, r⟩ := h; ⟨g, r.ext e⟩
theorem PkS.ext {F H F' H' : Hp} {u : List V} {w : List Val} (e : Ext F H F' H') (h : PkS F H u w) : PkS F' H' u w := let ⟨g, r⟩ := h; ⟨g, r.ext e⟩
theorem Nw.ext {F0 H0 F H F' H' : Hp} {u : V} {w : Val} (e0 : Ext F0 H0 F H) (e : Ext F H F' H') (h : Nw F' H H' u w) : Nw F' H0 H' u w := by
  obtain ⟨g, r, c, k⟩ := h
  exact ⟨g, r, c, fun a ha => ⟨e0.none (k a ha).1, (k a ha).2⟩⟩
section
variable {X : Cx} {e a b : Expr} {es : List Expr} {f fa fb : P Val} {fs : P (List Val)} {pos : Pos}
theorem DF.dp (h : DF X e f) : DP X e f := peImp h fun σ H Q ⟨F, ρ, fp, hF, r, w, ew, k⟩ => ⟨F, ρ, fp, hF, r, w, ew, fun u F' H' x n => k u F' H' x n.pk⟩
def pVar (i : Nat) : P Val := fun ρ => (ρ[i]?).join
theorem dp_var (i : Nat) {x : Str} (hN : X.N[i]? = some x := by rfl) (hv : Vis X.env.scope x := by first | exact Or.inl rfl | exact Or.inr (Or.inl rfl) | exact Or.inr (Or.inr rfl)) (hd : (x == ("__debug__" : Str)) = false := by decide)
    (hcd : (x == ("__classdict__" : Str)) = false := by decide) : DP X (.Name x pos) (pVar i) := peImp (pe_var hN hv hd hcd) fun σ H Q ⟨F, ρ, fp, hF, r, w, ew, k⟩ => by
  have e1 : ρ[i]? = some (some w) := by
    unfold pVar at ew
    cases q : ρ[i]? with
    | none => rw [q] at ew; cases ew
    | some o => rw [q] at ew; cases ew; rfl
  obtain ⟨v, g, ev, rv, _⟩ := r.get e1
  exact ⟨v, ev, k v F H (.refl hF) ⟨g, rv⟩⟩
def pC (w : Val) : P Val := fun _ => some w
theorem df_c {w : Val} {v : V} (h : PE X e (tC v)) (r : ∀ F H, Rep F H v w []) : DF X e (pC w) := peImp h fun σ H Q ⟨F, ρ, fp, hF, rr, w', ew, k⟩ => by
  cases ew
  exact k v F H (.refl hF) (.of (r F H))
theorem df_int {i j} : DF X (.Constant (.int i) j pos) (pC (.int i)) := df_c pe_int fun _ _ => .int _
theorem df_bl {i j} : DF X (.Constant (.bool i) j pos) (pC (.bl i)) := df_c pe_bl fun _ _ => .bl _
theorem df_non {j} : DF X (.Constant .none j pos) (pC .non) := df_c pe_non fun _ _ => .non
theorem df_str {x j} : DF X (.Constant (.str x) j pos) (pC (.str x)) := df_c pe_str fun _ _ => .str _
theorem df_gInt {x : Str} {i : Int} (hg : Gl X x) (hm : ∃ t, X.mg x = some (.int i t)) (hd : (x == ("__debug__" : Str)) = false := by decide) : DF X (.Name x pos) (pC (.int i)) := by
  obtain ⟨t, hm⟩ := hm
  exact df_c (pe_glob (v := .int i) hg hm ⟨t, rfl⟩ hd) fun _ _ => .int _
theorem df_gStr {x : Str} {i : Str} (hg : Gl X x) (hm : ∃ t, X.mg x = some (.str i t)) (hd : (x == ("__debug__" : Str)) = false := by decide) : DF X (.Name x pos) (pC (.str i)) := by
  obtain ⟨t, hm⟩ := hm
  exact df_c (pe_glob (v := .str i) hg hm ⟨t, rfl⟩ hd) fun _ _ => .str _
/-! ### lists of arguments -/
def psNil : P (List Val) := fun _ => some []
def psCons (f : P Val) (fs : P (List Val)) : P (List Val) := fun ρ => (f ρ).bind fun w => (fs ρ).bind fun ws => some (w :: ws)
theorem ds_nil : DPs X [] psNil := paImp pa_nil fun σ H Q ⟨F, ρ, fp, hF, r, w, ew, k⟩ => by
  cases ew
  exact k [] F H (.refl hF) ⟨_, .nil⟩
theorem psCons_some {f : P Val} {fs : P (List Val)} {ρ : Slots} {w : List Val} (h : psCons f fs ρ = some w) : ∃ x xs, f ρ = some x ∧ fs ρ = some xs ∧ w = x :: xs := by
  unfold psCons at h
  simp only [Option.bind_eq_some_iff] at h
  obtain ⟨x, h1, xs, h2, h3⟩ := h
  cases h3
  exact ⟨x, xs, h1, h2, rfl⟩
theorem ds_cons (h1 : DP X e f) (h2 : DPs X es fs) (hs : starEach (e :: es) X.env = (false, eval e X.env) :: starEach es X.env := by rfl) : DPs X (e :: es) (psCons f fs) := paImp (pa_cons h1 h2 hs) fun σ H Q ⟨F, ρ, fp, hF, r, w, ew, k⟩ => by
  obtain ⟨x, xs, e1, e2, rfl⟩ := psCons_some ew
  refine ⟨F, ρ, fp, hF, r, x, e1, fun u F1 H1 x1 p1 => ?_⟩
  refine ⟨F1, ρ, fp, x1.FH, r.ext x1, xs, e2, fun us F2 H2 x2 p2 => ?_⟩
  obtain ⟨g1, r1⟩ := p1
  obtain ⟨g2, r2⟩ := p2
  exact k (u :: us) F2 H2 (x1.trans x2) ⟨_, .cons (r1.ext x2) r2⟩
/-! ### operators of values -/
def VOp1 (r : V → Hp → VK → Prop) (g : Val → Option Val) : Prop := ∀ (F H : Hp) (x : V) (wx w : Val) (Q : VK), Le F H → Pk F H x wx → g wx = some w → (∀ u F' H', Ext F H F' H' → Nw F' H H' u w → Q u H') → r x H Q
def VOp2 (r : R2) (g : Val → Val → Option Val) : Prop := ∀ (F H : Hp) (x y : V) (wx wy w : Val) (Q : VK), Le F H → Pk F H x wx → Pk F H y wy → g wx wy = some w → (∀ u F' H', Ext F H F' H' → Nw F' H H' u w → Q u H') → r x y H Q
def VOpS (r : List V → Hp → VK → Prop) (g : List Val → Option Val) : Prop := ∀ (F H : Hp) (xs : List V) (ws : List Val) (w : Val) (Q : VK), Le F H → PkS F H xs ws → g ws = some w → (∀ u F' H', Ext F H F' H' → Nw F' H H' u w → Q u H') → r xs H Q
def pOp1 (g : Val → Option Val) (fa : P Val) : P Val := fun ρ => (fa ρ).bind g
def pOp2 (g : Val → Val → Option Val) (fa fb : P Val) : P Val := fun ρ => (fa ρ).bind fun x => (fb ρ).bind fun y => g x y
def pOpS (g : List Val → Option Val) (fs : P (List Val)) : P Val := fun ρ => (fs ρ).bind g
theorem tOp_of {r : R2} {g : Val → Val → Option Val} (hv : VOp2 r g) {σ : St} {H : Hp} {Q : VK} (h : tF (pOp2 g fa fb) σ H Q) : tOp r (tP fa) (tP fb) σ H Q := by
  obtain ⟨F, ρ, fp, hF, rr, w, ew, k⟩ := h
  unfold pOp2 at ew
  simp only [Option.bind_eq_some_iff] at ew
  obtain ⟨x, e1, y, e2, e3⟩ := ew
  refine ⟨F, ρ, fp, hF, rr, x, e1, fun u F1 H1 x1 p1 => ?_⟩
  refine ⟨F1, ρ, fp, x1.FH, rr.ext x1, y, e2, fun v F2 H2 x2 p2 => ?_⟩
  exact hv F2 H2 u v x y w Q x2.FH (p1.ext x2) p2 e3 fun z F3 H3 x3 n => k z F3 H3 ((x1.trans x2).trans x3) (n.ext (x1.trans x2) x3)
theorem df_op2 {op : Operator} {r : R2} {g : Val → Val → Option Val} (ho : OpR X (binaryOp op) r) (hv : VOp2 r g) (ha : DP X a fa) (hb : DP X b fb) : DF X (.BinOp a op b pos) (pOp2 g fa fb) := peImp (pe_op ho ha hb) fun _ _ _ h => tOp_of hv h
theorem df_cmp {op : CmpOp} {r : R2} {g : Val → Val → Option Val} (ho : OpR X (compareOp op) r) (hv : VOp2 r g) (ha : DP X a fa) (hb : DP X b fb) (hm : behindInMarks op b = false) : DF X (.Compare a [op] [b] pos) (pOp2 g fa fb) := peImp (pe_cmpR ho ha hb hm) fun _ _ _ h => tOp_of hv h
theorem df_op1 {op : UnaryOp} {r : V → Hp → VK → Prop} {g : Val → Option Val} (ho : UnR X (unaryOp op) r) (hv : VOp1 r g) (ha : DP X a fa) : DF X (.UnaryOp op a pos) (pOp1 g fa) := peImp (pe_un ho ha) fun σ H Q h => by
  obtain ⟨F, ρ, fp, hF, rr, w, ew, k⟩ := h
  unfold pOp1 at ew
  simp only [Option.bind_eq_some_iff] at ew
  obtain ⟨x, e1, e3⟩ := ew
  refine ⟨F, ρ, fp, hF, rr, x, e1, fun u F1 H1 x1 p1 => ?_⟩
  exact hv F1 H1 u x w Q x1.FH p1 e3 fun z F3 H3 x3 n => k z F3 H3 (x1.trans x3) (n.ext x1 x3)
theorem tCB_of {r : List V → Hp → VK → Prop} {g : List Val → Option Val} (hv : VOpS r g) {σ : St} {H : Hp} {Q : VK} (h : tF (pOpS g fs) σ H Q) : tCB r (tPs fs) σ H Q := by
  obtain ⟨F, ρ, fp, hF, rr, w, ew, k⟩ := h
  unfold pOpS at ew
  simp only [Option.bind_eq_some_iff] at ew
  obtain ⟨xs, e1, e3⟩ := ew
  refine ⟨F, ρ, fp, hF, rr, xs, e1, fun u F1 H1 x1 p1 => ?_⟩
  exact hv F1 H1 u xs w Q x1.FH p1 e3 fun z F3 H3 x3 n => k z F3 H3 (x1.trans x3) (n.ext x1 x3)
/-- a built-in function, a built-in class -/
theorem df_callB {x : Str} {p : Pos} {id : String} {r : List V → Hp → VK → Prop} {g : List Val → Option Val} (hc : CallR X (.builtin id) r) (hv : VOpS r g) (hg : Gl X x) (hm : X.mg x = none) (hb : bootBuiltins x = some (.builtin id)) (ha : DPs X (e :: es) fs)
    (hn : x ≠ "__name__" := by decide) (hdb : (x == ("__debug__" : Str)) = false := by decide) (he : starEach (e :: es) X.env = (false, eval e X.env) :: starEach es X.env := by rfl) (hpl : (backTo pos (starEach es X.env)).any (·.1) = false := by rfl) :
    DF X (.Call (.Name x p) (e :: es) [] pos) (pOpS g fs) := peImp (pe_callB hc hg hm hb ha hn hdb he hpl) fun _ _ _ h => tCB_of hv h
theorem df_callTy {x : Str} {p : Pos} {T : String} {r : List V → Hp → VK → Prop} {g : List Val → Option Val} (hc : CallR X (.type T) r) (hv : VOpS r g) (hg : Gl X x) (hm : X.mg x = none) (hb : bootBuiltins x = some (.type T)) (ha : DPs X (e :: es) fs)
    (hn : x ≠ "__name__" := by decide) (hdb : (x == ("__debug__" : Str)) = false := by decide) (he : starEach (e :: es) X.env = (false, eval e X.env) :: starEach es X.env := by rfl) (hpl : (backTo pos (starEach es X.env)).any (·.1) = false := by rfl) :
    DF X (.Call (.Name x p) (e :: es) [] pos) (pOpS g fs) := peImp (pe_callTy hc hg hm hb ha hn hdb he hpl) fun _ _ _ h => tCB_of hv h
/-- an item: what is there is looked at -/
def VIx (r : R2) (g : Val → Val → Option Val) : Prop := ∀ (F H : Hp) (x y : V) (wx wy w : Val) (Q : VK), Le F H → Pk F H x wx → Pk F H y wy → g wx wy = some w → (∀ u, Pk F H u w → Q u H) → r x y H Q
/-! ### tests -/
def pTest (f : P Val) : P Bool := fun ρ => (f ρ).bind fun w => match w with | .bl b => some b | _ => none
theorem pTest_some {f : P Val} {ρ : Slots} {b : Bool} (h : pTest f ρ = some b) : f ρ = some (.bl b) := by
  unfold pTest at h
  simp only [Option.bind_eq_some_iff] at h
  obtain ⟨w, h1, h2⟩ := h
  cases w <;> simp at h2
  subst h2; exact h1
theorem tB_of {t : TE} {f : P Val} (ht : ∀ σ H Q, tP f σ H Q → t σ H Q) {σ : St} {H : Hp} {Q : Bool → Hp → Prop} (h : tPT (pTest f) σ H Q) : t σ H fun x H1 => ∃ c, x = .bl c ∧ Q c H1 := by
  obtain ⟨F, ρ, fp, hF, rr, b, eb, k⟩ := h
  refine ht _ _ _ ⟨F, ρ, fp, hF, rr, .bl b, pTest_some eb, fun u F' H' x p => ?_⟩
  obtain ⟨g, r⟩ := p
  cases r
  exact ⟨b, rfl, k F' H' x⟩
theorem dt_val (h : DP X e f) (he : ∀ whole, isTrue e X.env whole = (do let v ← whole; standAt e.pos; holding [v] (truthy v)) := by intro _; rfl) : DT X e (pTest f) := ptImp (pt_val h he) fun _ _ _ q => tB_of (fun _ _ _ z => z) q
theorem dt_cmp {op : CmpOp} {r : R2} {g : Val → Val → Option Val} (ho : OpR X (compareOp op) r) (hv : VOp2 r g) (ha : DP X a fa) (hb : DP X b fb) (hm : behindInMarks op b = false) : DT X (.Compare a [op] [b] pos) (pTest (pOp2 g fa fb)) :=
  ptImp (pt_cmpR ho ha hb hm) fun _ _ _ q => tB_of (t := tOp r (tP fa) (tP fb)) (fun σ H Q z => tOp_of hv (by
    obtain ⟨F, ρ, fp, hF, rr, w, ew, k⟩ := z
    exact ⟨F, ρ, fp, hF, rr, w, ew, fun u F' H' x n => k u F' H' x n.pk⟩)) q
variable {ca cb : P Bool} {rest : List Expr}
def pNot (c : P Bool) : P Bool := fun ρ => (c ρ).map (!·)
def pAnd (a b : P Bool) : P Bool := fun ρ => (a ρ).bind fun x => if x = true then b ρ else some false
def pOr (a b : P Bool) : P Bool := fun ρ => (a ρ).bind fun x => if x = true then some true else b ρ
abbrev DW (X : Cx) (e : Expr) (f : P Bool) : Prop := PW X e (tPT f)
theorem DW.dt (h : DW X e ca) : DT X e ca := h.pt
theorem dt_not (h : DT X a ca) : DT X (.UnaryOp .Not a pos) (pNot ca) := ptImp (pt_not h) fun σ H Q ⟨F, ρ, fp, hF, rr, b, eb, k⟩ => by
  unfold pNot at eb
  simp only [Option.map_eq_some_iff] at eb
  obtain ⟨c, e1, rfl⟩ := eb
  exact ⟨F, ρ, fp, hF, rr, c, e1, fun F' H' x => k F' H' x⟩
theorem dw_and1 (h : DT X a ca) : DW X (.BoolOp .And [a] pos) ca := pw_and1 h
theorem dw_or1 (h : DT X a ca) : DW X (.BoolOp .Or [a] pos) ca := pw_or1 h
theorem dw_and (h : DT X a ca) (h2 : DW X (.BoolOp .And (b :: rest) pos) cb) : DW X (.BoolOp .And (a :: b :: rest) pos) (pAnd ca cb) := pwImp (pw_and h h2) fun σ H Q ⟨F, ρ, fp, hF, rr, c, ec, k⟩ => by
  unfold pAnd at ec
  simp only [Option.bind_eq_some_iff] at ec
  obtain ⟨x, e1, e2⟩ := ec
  refine ⟨F, ρ, fp, hF, rr, x, e1, fun F1 H1 x1 => ?_⟩
  cases x with
  | true => exact iteT ⟨F1, ρ, fp, x1.FH, rr.ext x1, c, by simpa using e2, fun F2 H2 x2 => k F2 H2 (x1.trans x2)⟩
  | false => simp at e2; subst e2; exact iteF (k F1 H1 x1)
theorem dw_or (h : DT X a ca) (h2 : DW X (.BoolOp .Or (b :: rest) pos) cb) : DW X (.BoolOp .Or (a :: b :: rest) pos) (pOr ca cb) := pwImp (pw_or h h2) fun σ H Q ⟨F, ρ, fp, hF, rr, c, ec, k⟩ => by
  unfold pOr at ec
  simp only [Option.bind_eq_some_iff] at ec
  obtain ⟨x, e1, e2⟩ := ec
  refine ⟨F, ρ, fp, hF, rr, x, e1, fun F1 H1 x1 => ?_⟩
  cases x with
  | true => simp at e2; subst e2; exact iteT (k F1 H1 x1)
  | false => exact iteF ⟨F1, ρ, fp, x1.FH, rr.ext x1, c, by simpa using e2, fun F2 H2 x2 => k F2 H2 (x1.trans x2)⟩
/-- a chain a op b op' c -/
def pChain (g g' : Val → Val → Option Val) (fa fb fc : P Val) : P Val := fun ρ => (fa ρ).bind fun x => (fb ρ).bind fun y => (g x y).bind fun z => match z with
  | .bl true => (fc ρ).bind fun w => g' y w
  | .bl false => some (.bl false)
  | _ => none
theorem tChain_of {r r' : R2} {g g' : Val → Val → Option Val} {fc : P Val} (hv : VOp2 r g) (hv' : VOp2 r' g') {σ : St} {H : Hp} {Q : VK} (h : tF (pChain g g' fa fb fc) σ H Q) : tChain r r' (tP fa) (tP fb) (tP fc) σ H Q := by
  obtain ⟨F, ρ, fp, hF, rr, w, ew, k⟩ := h
  unfold pChain at ew
  simp only [Option.bind_eq_some_iff] at ew
  obtain ⟨x, e1, y, e2, z, e3, e4⟩ := ew
  refine ⟨F, ρ, fp, hF, rr, x, e1, fun u F1 H1 x1 p1 => ?_⟩
  refine ⟨F1, ρ, fp, x1.FH, rr.ext x1, y, e2, fun v F2 H2 x2 p2 => ?_⟩
  refine hv F2 H2 u v x y z _ x2.FH (p1.ext x2) p2 e3 fun zz F3 H3 x3 n => ?_
  have x13 := (x1.trans x2).trans x3
  cases z with
  | bl c =>
    obtain ⟨g0, rz, _⟩ := n
    cases rz
    refine ⟨c, rfl, ?_⟩
    cases c with
    | true =>
      simp only [Option.bind_eq_some_iff] at e4
      obtain ⟨wc, e5, e6⟩ := e4
      refine iteT ⟨F3, ρ, fp, x3.FH, rr.ext x13, wc, e5, fun t F4 H4 x4 p4 => ?_⟩
      exact hv' F4 H4 v t y wc w Q x4.FH (p2.ext (x3.trans x4)) p4 e6 fun q F5 H5 x5 n5 => k q F5 H5 ((x13.trans x4).trans x5) (n5.ext (x13.trans x4) x5)
    | false =>
      simp at e4; subst e4
      exact iteF (k _ F3 H3 x13 (.of (.bl _)))
  | _ => simp at e4
theorem df_chain {op op' : CmpOp} {r r' : R2} {g g' : Val → Val → Option Val} {c : Expr} {fc : P Val} (ho : OpR X (compareOp op) r) (hv : VOp2 r g) (ho' : OpR X (compareOp op') r') (hv' : VOp2 r' g') (ha : DP X a fa) (hb : DP X b fb) (hc : DP X c fc) (hm : lastMarks [op, op'] [b, c] = false := by rfl) :
    DF X (.Compare a [op, op'] [b, c] pos) (pChain g g' fa fb fc) := peImp (pe_chain ho ho' ha hb hc hm) fun _ _ _ h => tChain_of hv hv' h
theorem dt_chain {op op' : CmpOp} {r r' : R2} {g g' : Val → Val → Option Val} {c : Expr} {fc : P Val} (ho : OpR X (compareOp op) r) (hv : VOp2 r g) (ho' : OpR X (compareOp op') r') (hv' : VOp2 r' g') (ha : DP X a fa) (hb : DP X b fb) (hc : DP X c fc) (hm : lastMarks [op, op'] [b, c] = false := by rfl) :
    DT X (.Compare a [op, op'] [b, c] pos) (pTest (pChain g g' fa fb fc)) := ptImp (pt_chain ho ho' ha hb hc hm) fun _ _ _ q => tB_of (t := tChain r r' (tP fa) (tP fb) (tP fc)) (fun σ H Q z => tChain_of hv hv' (by
    obtain ⟨F, ρ, fp, hF, rr, w, ew, k⟩ := z
    exact ⟨F, ρ, fp, hF, rr, w, ew, fun u F' H' x n => k u F' H' x n.pk⟩)) q
/-- tests as values -/
def pVal (c : P Bool) : P Val := fun ρ => (c ρ).map .bl
theorem df_notV (h : DP X a fa) : DF X (.UnaryOp .Not a pos) (pVal (pNot (pTest fa))) := peImp (pe_not h) fun σ H Q ⟨F, ρ, fp, hF, rr, w, ew, k⟩ => by
  unfold pVal pNot at ew
  simp only [Option.map_eq_some_iff] at ew
  obtain ⟨c, ⟨d, e1, rfl⟩, rfl⟩ := ew
  refine ⟨F, ρ, fp, hF, rr, .bl d, pTest_some e1, fun u F' H' x p => ?_⟩
  obtain ⟨g, r⟩ := p
  cases r
  exact ⟨d, rfl, k _ F' H' x (.of (.bl _))⟩
theorem df_one {op : PySem.BoolOp} (h : DP X a fa) : DP X (.BoolOp op [a] pos) fa := pe_one h
def pAndV (fa fb : P Val) : P Val := fun ρ => (pTest fa ρ).bind fun c => if c = true then fb ρ else some (.bl false)
def pOrV (fa fb : P Val) : P Val := fun ρ => (pTest fa ρ).bind fun c => if c = true then some (.bl true) else fb ρ
theorem dp_andV (h : DP X a fa) (h2 : DP X (.BoolOp .And (b :: rest) pos) fb) : DP X (.BoolOp .And (a :: b :: rest) pos) (pAndV fa fb) := peImp (pe_and h h2) fun σ H Q ⟨F, ρ, fp, hF, rr, w, ew, k⟩ => by
  unfold pAndV at ew
  simp only [Option.bind_eq_some_iff] at ew
  obtain ⟨c, e1, e2⟩ := ew
  refine ⟨F, ρ, fp, hF, rr, .bl c, pTest_some e1, fun u F1 H1 x1 p => ?_⟩
  obtain ⟨g, r⟩ := p
  cases r
  refine ⟨c, rfl, ?_⟩
  cases c with
  | true => exact iteT ⟨F1, ρ, fp, x1.FH, rr.ext x1, w, by simpa using e2, fun u F2 H2 x2 p2 => k u F2 H2 (x1.trans x2) p2⟩
  | false => simp at e2; subst e2; exact iteF (k _ F1 H1 x1 ⟨_, .bl _⟩)
/-- a if t else b -/
def pIte (c : P Bool) (fa fb : P Val) : P Val := fun ρ => (c ρ).bind fun x => if x = true then fa ρ else fb ρ
/-! ### displays -/
theorem Ext.laid {F H : Hp} {p : Addr} {o : HO} (hF : Le F H) (np : H p = Option.none) : Ext F H F (L2.upd H p o) ∧ Ext F H (L2.upd F p o) (L2.upd H p o) := by
  have nF : F p = Option.none := by
    cases q : F p with
    | none => rfl
    | some z => rw [hF p z q] at np; cases np
  have leH : Le H (L2.upd H p o) := fun a z e => by rw [upd_ne (ne_of_none e np)]; exact e
  refine ⟨⟨leH, .refl _, hF.trans leH, fun _ => .inl⟩, ⟨leH, fun a z e => by rw [upd_ne (ne_of_none e nF)]; exact e, fun a z e => ?_, fun a ha => ?_⟩⟩
  · by_cases h : a = p
    · subst h; rw [upd_same] at e ⊢; exact e
    · rw [upd_ne h] at e ⊢; exact hF a z e
  · by_cases h : a = p
    · subst h; exact .inr (.inl np)
    · rw [upd_ne h] at ha; exact .inl ha
/-- a new tuple of things that nobody owns; a new list -/
def gTupN (ws : List Val) : Option Val := if noOwns ws && decide (ws.length ≤ sizeLine) then some (.tup ws) else none
def gLstN (ws : List Val) : Option Val := if noOwns ws && decide (ws.length ≤ sizeLine) then some (.lst true ws) else none
theorem df_tup {x1} (h : DPs X es fs) : DF X (.Tuple es x1 pos) (pOpS gTupN fs) := peImp (pe_tup h) fun σ H Q ⟨F, ρ, fp, hF, rr, w, ew, k⟩ => by
  unfold pOpS at ew
  simp only [Option.bind_eq_some_iff] at ew
  obtain ⟨ws, e1, e2⟩ := ew
  refine ⟨F, ρ, fp, hF, rr, ws, e1, fun us F1 H1 x1 p1 => ?_⟩
  obtain ⟨g, r⟩ := p1
  unfold gTupN at e2
  split at e2
  · rename_i hc
    simp only [Bool.and_eq_true, decide_eq_true_eq] at hc
    cases e2
    have := r.nofp hc.1
    subst this
    refine ⟨by rw [r.length]; exact hc.2, fun p np => ?_⟩
    have x2 := (Ext.laid (o := .tup us) x1.FH np).2
    exact k _ _ _ (x1.trans x2) (.of (.tup upd_same (r.ext x2)))
  · cases e2
theorem df_lst (h : DPs X es fs) : DF X (.List es pos) (pOpS gLstN fs) := peImp (pe_lst h) fun σ H Q ⟨F, ρ, fp, hF, rr, w, ew, k⟩ => by
  unfold pOpS at ew
  simp only [Option.bind_eq_some_iff] at ew
  obtain ⟨ws, e1, e2⟩ := ew
  refine ⟨F, ρ, fp, hF, rr, ws, e1, fun us F1 H1 x1 p1 => ?_⟩
  obtain ⟨g, r⟩ := p1
  unfold gLstN at e2
  split at e2
  · rename_i hc
    simp only [Bool.and_eq_true, decide_eq_true_eq] at hc
    cases e2
    have := r.nofp hc.1
    subst this
    refine ⟨by rw [r.length]; exact hc.2, fun p np => ?_⟩
    have x2 := (Ext.laid (o := .lst us) x1.FH np).1
    refine k _ _ _ (x1.trans x2) ⟨[p], .low upd_same (r.ext x2), fun a => ?_, fun a ha => ?_⟩
    · rw [List.count_cons, List.count_nil]; split <;> omega
    · have : a = p := by simpa using ha
      subst this
      refine ⟨x1.none np, ?_⟩
      cases q : F1 a with
      | none => rfl
      | some z => rw [x1.FH a z q] at np; cases np
  · cases e2
def pDNewT : P Val := fun _ => some (.dT true [] [])
theorem df_dnewT : DF X (.Dict [] [] pos) pDNewT := peImp pe_dnewT fun σ H Q ⟨F, ρ, fp, hF, rr, w, ew, k⟩ => by
  cases ew
  intro p np
  have x2 := (Ext.laid (o := .dT []) hF np).1
  refine k _ _ _ x2 ⟨[p], .tow (ks := []) (xs := []) upd_same rfl .nil, fun a => ?_, fun a ha => ?_⟩
  · rw [List.count_cons, List.count_nil]; split <;> omega
  · have : a = p := by simpa using ha
    subst this
    refine ⟨np, ?_⟩
    cases q : F a with
    | none => rfl
    | some z => rw [hF a z q] at np; cases np
end
end L2.DL

namespace L2.DL
open L2 PyProof.Rows PySem.Spec PySem
/-! ### doing: the readings -/
abbrev MG := Str → Option Value
abbrev W0 : WX := fun _ _ _ _ => False
/-- what an exception carries -/
def XR (F H : Hp) (pl : Option (Str × Val)) (d : Option Addr) : Prop := match pl with
  | none => True
  | some (f, w) => ∃ dd v, d = some dd ∧ H dd = some (.xd [(f, v)]) ∧ Rep F H v w []
def Post {α : Type} (mg : MG) (W : WX) (B : Base) (σ : St) (τ : List (Option V)) (θ : Slots) (x : R α) (K : α → Slots → Prop) : Prop := match x with
  | .ok a ρ' => K a ρ'
  | .err c pl ρ' => ∀ C d F' H', mg c = some (.ref C) → SR B F' H' σ ρ' τ θ → XR F' H' pl d → W (.ref C) d σ H'
  | .bad => False
theorem Post.bind {α β : Type} {mg : MG} {W : WX} {B : Base} {σ : St} {τ : List (Option V)} {θ : Slots} {x : R α} {g : α → Slots → R β} {K : β → Slots → Prop} (h : Post mg W B σ τ θ (x.bind g) K) : Post mg W B σ τ θ x fun a ρ => Post mg W B σ τ θ (g a ρ) K := by
  cases x <;> exact h
theorem Post.imp {α : Type} {mg : MG} {W : WX} {B : Base} {σ : St} {τ : List (Option V)} {θ : Slots} {x : R α} {K K' : α → Slots → Prop} (h : Post mg W B σ τ θ x K) (k : ∀ a ρ, K a ρ → K' a ρ) : Post mg W B σ τ θ x K' := by
  cases x with
  | ok a ρ => exact k a ρ h
  | err c pl ρ => exact h
  | bad => exact h
/-- more roots beneath -/
theorem Post.deep {α : Type} {mg : MG} {W : WX} {B : Base} {σ : St} {τ : List (Option V)} {θ : Slots} {x : R α} {K : α → Slots → Prop} {y : Option V} {z : Option Val} (h : Post mg W B σ τ θ x K) : Post mg W B σ (y :: τ) (z :: θ) x K := by
  cases x with
  | ok a ρ => exact h
  | err c pl ρ => exact fun C d F' H' e s r => h C d F' H' e s.pop r
  | bad => exact h
theorem SR.popN {B : Base} {F H : Hp} {σ : St} {ρ : Slots} : ∀ {ts : List (Option V)} {vs : Slots} {τ : List (Option V)} {θ : Slots}, ts.length = vs.length → SR B F H σ ρ (ts ++ τ) (vs ++ θ) → SR B F H σ ρ τ θ
  | [], [], _, _, _, s => s
  | [], _ :: _, _, _, e, _ => by simp at e
  | _ :: _, [], _, _, e, _ => by simp at e
  | t :: ts, v :: vs, _, _, e, s => SR.popN (ts := ts) (vs := vs) (by simpa using e) (SR.pop s)
def tV (mg : MG) (k : Nat) (W : WX) (f : M Val) : TE := fun σ H Q => ∃ B F ρ τ θ, SR B F H σ ρ τ θ ∧ B.S0.length = k ∧
  Post mg W B σ τ θ (f ρ) fun w ρ' => ∀ u F' H', SR B F' H' σ ρ' (some u :: τ) (some w :: θ) → Q u H'
abbrev DV (X : Cx) (k : Nat) (W : WX) (e : Expr) (f : M Val) : Prop := PE X e (tV X.mg k W f)
def tVs (mg : MG) (k : Nat) (W : WX) (f : M (List Val)) : TA := fun σ H Q => ∃ B F ρ τ θ, SR B F H σ ρ τ θ ∧ B.S0.length = k ∧
  Post mg W B σ τ θ (f ρ) fun ws ρ' => ∀ us F' H', us.length = ws.length → SR B F' H' σ ρ' (us.map some ++ τ) (ws.map some ++ θ) → Q us H'
abbrev DVs (X : Cx) (k : Nat) (W : WX) (es : List Expr) (f : M (List Val)) : Prop := PA X es (tVs X.mg k W f)
def tVT (mg : MG) (k : Nat) (W : WX) (f : M Bool) : TT := fun σ H Q => ∃ B F ρ τ θ, SR B F H σ ρ τ θ ∧ B.S0.length = k ∧
  Post mg W B σ τ θ (f ρ) fun b ρ' => ∀ F' H', SR B F' H' σ ρ' τ θ → Q b H'
abbrev DVT (X : Cx) (k : Nat) (W : WX) (e : Expr) (f : M Bool) : Prop := PT X e (tVT X.mg k W f)
/-! ### moving the roots about -/
section
variable {B : Base} {F H F' H' : Hp} {σ : St} {ρ : Slots} {τ : List (Option V)} {θ : Slots}
theorem RepL.swapHead {x : Option V} {y : Option Val} : ∀ {ts : List (Option V)} {vs : Slots} {τ : List (Option V)} {θ : Slots} {f : List Addr}, ts.length = vs.length → RepL F H (x :: (ts ++ τ)) (y :: (vs ++ θ)) f → ∃ f', RepL F H (ts ++ x :: τ) (vs ++ y :: θ) f' ∧ ∀ a, f'.count a = f.count a := by
  intro ts vs τ θ f e h
  cases h with
  | dead h =>
    obtain ⟨f1, f2, h1, h2, rfl⟩ := RepL.split e h
    exact ⟨_, h1.append (.dead h2), fun a => rfl⟩
  | @live _ _ _ _ g _ h0 h =>
    obtain ⟨f1, f2, h1, h2, rfl⟩ := RepL.split e h
    exact ⟨_, h1.append (.live h0 h2), fun a => by simp only [List.count_append]; omega⟩
theorem RepL.swapBack {x : Option V} {y : Option Val} : ∀ {ts : List (Option V)} {vs : Slots} {τ : List (Option V)} {θ : Slots} {f : List Addr}, ts.length = vs.length → RepL F H (ts ++ x :: τ) (vs ++ y :: θ) f → ∃ f', RepL F H (x :: (ts ++ τ)) (y :: (vs ++ θ)) f' ∧ ∀ a, f'.count a = f.count a := by
  intro ts vs τ θ f e h
  obtain ⟨f1, f2, h1, h2, rfl⟩ := RepL.split e h
  cases h2 with
  | dead h3 => exact ⟨_, .dead (h1.append h3), fun a => rfl⟩
  | live h0 h3 => exact ⟨_, .live h0 (h1.append h3), fun a => by simp only [List.count_append]; omega⟩
theorem SR.retemp {τ' : List (Option V)} {θ' : Slots} (s : SR B F H σ ρ τ θ) (k : ∀ f, RepL F H τ θ f → ∃ f', RepL F H τ' θ' f' ∧ ∀ a, f'.count a ≤ f.count a) : SR B F H σ ρ τ' θ' := by
  obtain ⟨f1, f2, s1, t, c, o, FH, F0, keep, dom, new, pin⟩ := s
  obtain ⟨f', r, c'⟩ := k f2 t
  exact ⟨f1, f', s1, r, fun a => by have := c a; have := c' a; omega, fun a ha => o a (by have := c' a; omega), FH, F0, keep, dom, new, pin⟩
theorem SR.rot {x : Option V} {y : Option Val} {ts : List (Option V)} {vs : Slots} (e : ts.length = vs.length) (s : SR B F H σ ρ (x :: (ts ++ τ)) (y :: (vs ++ θ))) : SR B F H σ ρ (ts ++ x :: τ) (vs ++ y :: θ) :=
  s.retemp fun f h => let ⟨f', r, c⟩ := RepL.swapHead e h; ⟨f', r, fun a => by rw [c a]; omega⟩
theorem SR.torot {x : Option V} {y : Option Val} {ts : List (Option V)} {vs : Slots} (e : ts.length = vs.length) (s : SR B F H σ ρ (ts ++ x :: τ) (vs ++ y :: θ)) : SR B F H σ ρ (x :: (ts ++ τ)) (y :: (vs ++ θ)) :=
  s.retemp fun f h => let ⟨f', r, c⟩ := RepL.swapBack e h; ⟨f', r, fun a => by rw [c a]; omega⟩
/-- the roots beneath the top are dropped -/
theorem SR.under {x : Option V} {y : Option Val} {ts : List (Option V)} {vs : Slots} (e : ts.length = vs.length) (s : SR B F H σ ρ (x :: (ts ++ τ)) (y :: (vs ++ θ))) : SR B F H σ ρ (x :: τ) (y :: θ) := (s.rot e).popN e
theorem SR.under1 {x x1 : Option V} {y y1 : Option Val} (s : SR B F H σ ρ (x :: x1 :: τ) (y :: y1 :: θ)) : SR B F H σ ρ (x :: τ) (y :: θ) := s.under (ts := [x1]) (vs := [y1]) rfl
theorem SR.under2 {x x1 x2 : Option V} {y y1 y2 : Option Val} (s : SR B F H σ ρ (x :: x1 :: x2 :: τ) (y :: y1 :: y2 :: θ)) : SR B F H σ ρ (x :: τ) (y :: θ) := s.under (ts := [x1, x2]) (vs := [y1, y2]) rfl
theorem SR.tops {us : List V} {ws : List Val} (e : us.length = ws.length) (s : SR B F H σ ρ (us.map some ++ τ) (ws.map some ++ θ)) : PkS F H us ws := by
  obtain ⟨f1, f2, s⟩ := s
  obtain ⟨g1, g2, h1, h2, _⟩ := RepL.split (by simpa using e) s.t
  exact ⟨g1, h1.reps⟩
theorem SR.second {u v : V} {w z : Val} (s : SR B F H σ ρ (some v :: some u :: τ) (some z :: some w :: θ)) : Pk F H u w := s.pop.top
end
/-! ### expressions -/
section
variable {X : Cx} {k : Nat} {W : WX} {e a b : Expr} {es : List Expr} {f fa fb : M Val} {fs : M (List Val)} {pos : Pos}
def mF (f : P Val) : M Val := fun ρ => match f ρ with
  | some w => .ok w ρ
  | none => .bad
def mP (f : P Val) : M Val := fun ρ => match f ρ with
  | some w => if noOwn w = true then .ok w ρ else .bad
  | none => .bad
/-- new things as they are -/
theorem dv_f {f : P Val} (h : DF X e f) : DV X k W e (mF f) := peImp h fun σ H Q ⟨B, F, ρ, τ, θ, s, hk, p⟩ => by
  obtain ⟨f1, f2, s'⟩ := id s
  unfold mF at p
  cases q : f ρ with
  | none => rw [q] at p; exact p.elim
  | some w =>
    rw [q] at p
    exact ⟨F, ρ, f1, s.FH, s'.s, w, q, fun u F' H' x n => p u F' H' (s.push x n)⟩
/-- what may be copied -/
theorem dv_p {f : P Val} (h : DP X e f) : DV X k W e (mP f) := peImp h fun σ H Q ⟨B, F, ρ, τ, θ, s, hk, p⟩ => by
  obtain ⟨f1, f2, s'⟩ := id s
  unfold mP at p
  cases q : f ρ with
  | none => rw [q] at p; exact p.elim
  | some w =>
    rw [q] at p
    by_cases n : noOwn w = true
    · simp only [n, if_true] at p
      exact ⟨F, ρ, f1, s.FH, s'.s, w, q, fun u F' H' x pk => p u F' H' (s.push x (.of_pk n pk))⟩
    · simp only [n] at p
      exact p.elim
def pNo (f : P Val) : P Val := fun ρ => (f ρ).bind fun w => if noOwn w = true then some w else none
def mMove (i : Nat) : M Val := fun ρ => match (ρ[i]?).join with
  | some w => .ok w (ρ.set i none)
  | none => .bad
theorem join_some {ρ : Slots} {i : Nat} {w : Val} (h : (ρ[i]?).join = some w) : ρ[i]? = some (some w) := by
  cases q : ρ[i]? with
  | none => rw [q] at h; cases h
  | some o => rw [q] at h; cases h; rfl
/-- the name gives its thing away -/
theorem dv_move (i : Nat) {x : Str} (hN : X.N[i]? = some x := by rfl) (hv : Vis X.env.scope x := by first | exact Or.inl rfl | exact Or.inr (Or.inl rfl) | exact Or.inr (Or.inr rfl)) (hd : (x == ("__debug__" : Str)) = false := by decide)
    (hcd : (x == ("__classdict__" : Str)) = false := by decide) : DV X k W (.Name x pos) (mMove i) := peImp (pe_var hN hv hd hcd) fun σ H Q ⟨B, F, ρ, τ, θ, s, hk, p⟩ => by
  unfold mMove at p
  cases q : (ρ[i]?).join with
  | none => rw [q] at p; exact p.elim
  | some w =>
    rw [q] at p
    obtain ⟨v, ev, s'⟩ := s.move (join_some q)
    exact ⟨v, ev, p v F H s'⟩
def mFrz (i : Nat) : M Val := fun ρ => match (ρ[i]?).join with
  | some w => if noObj w = true then .ok (frz w) (ρ.set i (some (frz w))) else .bad
  | none => .bad
mutual
theorem noOwn_frz : ∀ {w : Val}, noObj w = true → noOwn (frz w) = true
  | .non, _ => rfl
  | .bl _, _ => rfl
  | .int _, _ => rfl
  | .str _, _ => rfl
  | .tup ws, h => by simp only [frz, noOwn]; exact noOwns_frz (by simpa [noObj] using h)
  | .tpz ws, h => by simp only [frz, noOwn]; exact noOwns_frz (by simpa [noObj] using h)
  | .lst o ws, h => by simp only [frz, noOwn]; simpa using noOwns_frz (by simpa [noObj] using h)
  | .dT o ks ws, h => by simp only [frz, noOwn]; simpa using noOwns_frz (by simpa [noObj] using h)
  | .dK o ks ws, h => by simp only [frz, noOwn]; simpa using noOwns_frz (by simpa [noObj] using h)
  | .obj o _ _ ws, h => by simp only [frz, noOwn]; simpa using noOwns_frz (by simpa [noObj] using h)
  | .scr _ _, _ => rfl
  | .raw _, _ => rfl
theorem noOwns_frz : ∀ {ws : List Val}, noObjs ws = true → noOwns (frzs ws) = true
  | [], _ => rfl
  | w :: ws, h => by
    simp only [noObjs, Bool.and_eq_true] at h
    simp only [frzs, noOwns, Bool.and_eq_true]
    exact ⟨noOwn_frz h.1, noOwns_frz h.2⟩
end
/-- the name's thing is shared from now on -/
theorem dv_frz (i : Nat) {x : Str} (hN : X.N[i]? = some x := by rfl) (hv : Vis X.env.scope x := by first | exact Or.inl rfl | exact Or.inr (Or.inl rfl) | exact Or.inr (Or.inr rfl)) (hd : (x == ("__debug__" : Str)) = false := by decide)
    (hcd : (x == ("__classdict__" : Str)) = false := by decide) : DV X k W (.Name x pos) (mFrz i) := peImp (pe_var hN hv hd hcd) fun σ H Q ⟨B, F, ρ, τ, θ, s, hk, p⟩ => by
  unfold mFrz at p
  cases q : (ρ[i]?).join with
  | none => rw [q] at p; exact p.elim
  | some w =>
    rw [q] at p
    by_cases n : noObj w = true
    · simp only [n, if_true] at p
      obtain ⟨F', hF, s'⟩ := s.freeze (join_some q) n
      have hi : i < ρ.length := (List.getElem?_eq_some_iff.mp (join_some q)).1
      obtain ⟨v, ev, s2⟩ := s'.copy (i := i) (w := frz w) (by rw [List.getElem?_set_self hi]) (noOwn_frz n)
      exact ⟨v, ev, p v F' H s2⟩
    · simp only [n] at p
      exact p.elim
def mOp2 (g : Val → Val → Option Val) (fa fb : M Val) : M Val := fun ρ => (fa ρ).bind fun x ρ1 => (fb ρ1).bind fun y ρ2 => match g x y with
  | some w => .ok w ρ2
  | none => .bad
theorem tOpV_of {mg : MG} {r : R2} {g : Val → Val → Option Val} (hv : VOp2 r g) {σ : St} {H : Hp} {Q : VK} (h : tV mg k W (mOp2 g fa fb) σ H Q) : tOp r (tV mg k W fa) (tV mg k W fb) σ H Q := by
  obtain ⟨B, F, ρ, τ, θ, s, hk, p⟩ := h
  refine ⟨B, F, ρ, τ, θ, s, hk, (Post.bind p).imp fun x ρ1 p1 u F1 H1 s1 => ?_⟩
  refine ⟨B, F1, ρ1, _, _, s1, hk, (Post.bind p1).deep.imp fun y ρ2 p2 v F2 H2 s2 => ?_⟩
  cases q : g x y with
  | none => rw [q] at p2; exact p2.elim
  | some w =>
    rw [q] at p2
    exact hv F2 H2 u v x y w Q s2.FH s2.second s2.top q fun z F3 H3 x3 n => p2 z F3 H3 (s2.push x3 n).under2
theorem dv_op2 {op : Operator} {r : R2} {g : Val → Val → Option Val} (ho : OpR X (binaryOp op) r) (hv : VOp2 r g) (ha : DV X k W a fa) (hb : DV X k W b fb) : DV X k W (.BinOp a op b pos) (mOp2 g fa fb) := peImp (pe_op ho ha hb) fun _ _ _ h => tOpV_of hv h
def mOp1 (g : Val → Option Val) (fa : M Val) : M Val := fun ρ => (fa ρ).bind fun x ρ1 => match g x with
  | some w => .ok w ρ1
  | none => .bad
/-- an item that may be copied -/
def mIx (g : Val → Val → Option Val) (fa fb : M Val) : M Val := fun ρ => (fa ρ).bind fun x ρ1 => (fb ρ1).bind fun y ρ2 => match g x y with
  | some w => if noOwn w = true then .ok w ρ2 else .bad
  | none => .bad
theorem dv_ix {r : R2} {g : Val → Val → Option Val} (ho : IxR X r) (hv : VIx r g) (ha : DV X k W a fa) (hb : DV X k W b fb) (hs : PlainIx b) : DV X k W (.Subscript a b pos) (mIx g fa fb) := peImp (pe_ix ho ha hb hs) fun σ H Q h => by
  obtain ⟨B, F, ρ, τ, θ, s, hk, p⟩ := h
  refine ⟨B, F, ρ, τ, θ, s, hk, (Post.bind p).imp fun x ρ1 p1 u F1 H1 s1 => ?_⟩
  refine ⟨B, F1, ρ1, _, _, s1, hk, (Post.bind p1).deep.imp fun y ρ2 p2 v F2 H2 s2 => ?_⟩
  cases q : g x y with
  | none => rw [q] at p2; exact p2.elim
  | some w =>
    rw [q] at p2
    by_cases n : noOwn w = true
    · simp only [n, if_true] at p2
      exact hv F2 H2 u v x y w Q s2.FH s2.second s2.top q fun z pk => p2 z F2 H2 (s2.push (.refl s2.FH) (.of_pk n pk)).under2
    · simp only [n] at p2; exact p2.elim
/-- a name's item, the name read when the place is known -/
def mIxL (g : Val → Val → Option Val) (i : Nat) (fb : M Val) : M Val := fun ρ => match (ρ[i]?).join with
  | none => .bad
  | some _ => (fb ρ).bind fun y ρ2 => match (ρ2[i]?).join with
    | some x => (match g x y with
      | some w => if noOwn w = true then .ok w ρ2 else .bad
      | none => .bad)
    | none => .bad
theorem dv_ixL (i : Nat) {x : Str} {p0 : Pos} {r : R2} {g : Val → Val → Option Val} (ho : IxR X r) (hv : VIx r g) (hb : DV X k W b fb) (hs : PlainIx b)
    (hN : X.N[i]? = some x := by rfl) (hvi : Vis X.env.scope x := by first | exact Or.inl rfl | exact Or.inr (Or.inl rfl) | exact Or.inr (Or.inr rfl)) (hd : (x == ("__debug__" : Str)) = false := by decide)
    (hcd : (x == ("__classdict__" : Str)) = false := by decide) : DV X k W (.Subscript (.Name x p0) b pos) (mIxL g i fb) := peImp (pe_ix ho (pe_var hN hvi hd hcd) hb hs) fun σ H Q h => by
  obtain ⟨B, F, ρ, τ, θ, s, hk, p⟩ := h
  unfold mIxL at p
  cases q0 : (ρ[i]?).join with
  | none => rw [q0] at p; exact p.elim
  | some w0 =>
    rw [q0] at p
    obtain ⟨v, ev, _⟩ := s.get (join_some q0)
    refine ⟨v, ev, B, F, ρ, τ, θ, s, hk, (Post.bind p).imp fun y ρ2 p2 u F2 H2 s2 => ?_⟩
    cases q1 : (ρ2[i]?).join with
    | none => rw [q1] at p2; exact p2.elim
    | some x =>
      rw [q1] at p2
      dsimp only at p2
      obtain ⟨v', ev', pv'⟩ := s2.get (join_some q1)
      have evv : v' = v := by rw [ev] at ev'; cases ev'; rfl
      subst evv
      cases q : g x y with
      | none => rw [q] at p2; exact p2.elim
      | some w =>
        rw [q] at p2
        by_cases n : noOwn w = true
        · simp only [n, if_true] at p2
          exact hv F2 H2 _ u x y w Q s2.FH pv' s2.top q fun z pk => p2 z F2 H2 (s2.push (.refl s2.FH) (.of_pk n pk)).under1
        · simp only [n] at p2; exact p2.elim
end
end L2.DL

namespace L2.DL
open L2 PyProof.Rows PySem.Spec PySem
section
variable {X : Cx} {k : Nat} {W : WX} {e a b : Expr} {es : List Expr} {f fa fb : M Val} {fs : M (List Val)} {pos : Pos}
def msNil : M (List Val) := fun ρ => .ok [] ρ
def msCons (f : M Val) (fs : M (List Val)) : M (List Val) := fun ρ => (f ρ).bind fun w ρ1 => (fs ρ1).bind fun ws ρ2 => .ok (w :: ws) ρ2
theorem dvs_nil : DVs X k W [] msNil := paImp pa_nil fun σ H Q ⟨B, F, ρ, τ, θ, s, hk, p⟩ => p [] F H rfl s
theorem dvs_cons (h1 : DV X k W e f) (h2 : DVs X k W es fs) (hs : starEach (e :: es) X.env = (false, eval e X.env) :: starEach es X.env := by rfl) : DVs X k W (e :: es) (msCons f fs) := paImp (pa_cons h1 h2 hs) fun σ H Q ⟨B, F, ρ, τ, θ, s, hk, p⟩ => by
  refine ⟨B, F, ρ, τ, θ, s, hk, (Post.bind p).imp fun w ρ1 p1 u F1 H1 s1 => ?_⟩
  refine ⟨B, F1, ρ1, _, _, s1, hk, (Post.bind p1).deep.imp fun ws ρ2 p2 us F2 H2 el s2 => ?_⟩
  exact p2 (u :: us) F2 H2 (by simp [el]) (s2.torot (by simpa using el))
def mOpS (g : List Val → Option Val) (fs : M (List Val)) : M Val := fun ρ => (fs ρ).bind fun ws ρ1 => match g ws with
  | some w => .ok w ρ1
  | none => .bad
theorem tCBV_of {mg : MG} {r : List V → Hp → VK → Prop} {g : List Val → Option Val} (hv : VOpS r g) {σ : St} {H : Hp} {Q : VK} (h : tV mg k W (mOpS g fs) σ H Q) : tCB r (tVs mg k W fs) σ H Q := by
  obtain ⟨B, F, ρ, τ, θ, s, hk, p⟩ := h
  refine ⟨B, F, ρ, τ, θ, s, hk, (Post.bind p).imp fun ws ρ1 p1 us F1 H1 el s1 => ?_⟩
  cases q : g ws with
  | none => rw [q] at p1; exact p1.elim
  | some w =>
    rw [q] at p1
    exact hv F1 H1 us ws w Q s1.FH (s1.tops el) q fun z F2 H2 x n => p1 z F2 H2 ((s1.push x n).under (by simpa using el))
theorem dv_callB {x : Str} {p : Pos} {id : String} {r : List V → Hp → VK → Prop} {g : List Val → Option Val} (hc : CallR X (.builtin id) r) (hv : VOpS r g) (hg : Gl X x) (hm : X.mg x = none) (hb : bootBuiltins x = some (.builtin id)) (ha : DVs X k W (e :: es) fs)
    (hn : x ≠ "__name__" := by decide) (hdb : (x == ("__debug__" : Str)) = false := by decide) (he : starEach (e :: es) X.env = (false, eval e X.env) :: starEach es X.env := by rfl) (hpl : (backTo pos (starEach es X.env)).any (·.1) = false := by rfl) :
    DV X k W (.Call (.Name x p) (e :: es) [] pos) (mOpS g fs) := peImp (pe_callB hc hg hm hb ha hn hdb he hpl) fun _ _ _ h => tCBV_of hv h
theorem dv_callTy {x : Str} {p : Pos} {T : String} {r : List V → Hp → VK → Prop} {g : List Val → Option Val} (hc : CallR X (.type T) r) (hv : VOpS r g) (hg : Gl X x) (hm : X.mg x = none) (hb : bootBuiltins x = some (.type T)) (ha : DVs X k W (e :: es) fs)
    (hn : x ≠ "__name__" := by decide) (hdb : (x == ("__debug__" : Str)) = false := by decide) (he : starEach (e :: es) X.env = (false, eval e X.env) :: starEach es X.env := by rfl) (hpl : (backTo pos (starEach es X.env)).any (·.1) = false := by rfl) :
    DV X k W (.Call (.Name x p) (e :: es) [] pos) (mOpS g fs) := peImp (pe_callTy hc hg hm hb ha hn hdb he hpl) fun _ _ _ h => tCBV_of hv h
/-- displays: what the roots own goes within -/
def gTupM (ws : List Val) : Option Val := if ws.length ≤ sizeLine then some (.tup ws) else none
def gLstM (ws : List Val) : Option Val := if ws.length ≤ sizeLine then some (.lst true ws) else none
theorem SR.gather {B : Base} {F H : Hp} {σ : St} {ρ : Slots} {τ : List (Option V)} {θ : Slots} {us : List V} {ws : List Val} {p : Addr} (el : us.length = ws.length) (s : SR B F H σ ρ (us.map some ++ τ) (ws.map some ++ θ)) (np : H p = none) :
    SR B (L2.upd F p (.tup us)) (L2.upd H p (.tup us)) σ ρ (some (.ref p) :: τ) (some (.tup ws) :: θ) ∧ SR B F (L2.upd H p (.lst us)) σ ρ (some (.ref p) :: τ) (some (.lst true ws) :: θ) := by
  obtain ⟨f1, f2, s⟩ := s
  have nF : F p = none := by
    cases q : F p with
    | none => rfl
    | some z => rw [s.FH p z q] at np; cases np
  have xs := Ext.laid (o := .tup us) s.FH np
  have xl := Ext.laid (o := .lst us) s.FH np
  constructor
  · have s' := s.ext xs.2
    obtain ⟨g1, g2, h1, h2, e⟩ := RepL.split (by simpa using el) s'.t
    exact ⟨f1, g1 ++ g2, s'.s, .live (.tup upd_same h1.reps) h2, fun a => by rw [← e]; exact s'.le1 a, fun a ha => s'.own a (by rw [← e] at ha; exact ha), s'.FH, s'.F0, s'.keep, s'.dom, s'.new, s'.pin⟩
  · have s' := s.ext xl.1
    obtain ⟨g1, g2, h1, h2, e⟩ := RepL.split (by simpa using el) s'.t
    have npa : ∀ a, 0 < f1.count a + f2.count a → a ≠ p := fun a ha z => by subst z; exact s.domOwn ha np
    refine ⟨f1, (p :: g1) ++ g2, s'.s, .live (.low upd_same h1.reps) h2, fun a => ?_, fun a ha => ?_, s'.FH, s'.F0, s'.keep, s'.dom, s'.new, s'.pin⟩
    · have c := s'.le1 a
      rw [e] at c
      rw [List.cons_append, List.count_cons]
      by_cases z : a = p
      · have : f1.count a + f2.count a = 0 := by
          by_cases z2 : 0 < f1.count a + f2.count a
          · exact absurd z (npa a z2)
          · omega
        rw [e] at this
        split <;> omega
      · rw [if_neg (by simpa using Ne.symm z)]
        omega
    · by_cases z : a = p
      · subst z
        exact ⟨nF, .inr (s.dom _ np)⟩
      · refine s'.own a ?_
        rw [List.cons_append, List.count_cons, if_neg (by simpa using Ne.symm z)] at ha
        rw [e]; omega
theorem dv_tup {x1} (h : DVs X k W es fs) : DV X k W (.Tuple es x1 pos) (mOpS gTupM fs) := peImp (pe_tup h) fun σ H Q ⟨B, F, ρ, τ, θ, s, hk, p⟩ => by
  refine ⟨B, F, ρ, τ, θ, s, hk, (Post.bind p).imp fun ws ρ1 p1 us F1 H1 el s1 => ?_⟩
  unfold gTupM at p1
  by_cases c : ws.length ≤ sizeLine
  · simp only [c, if_true] at p1
    exact ⟨by rw [el]; exact c, fun q nq => p1 _ _ _ (s1.gather el nq).1⟩
  · simp only [c, if_false] at p1; exact p1.elim
theorem dv_lst (h : DVs X k W es fs) : DV X k W (.List es pos) (mOpS gLstM fs) := peImp (pe_lst h) fun σ H Q ⟨B, F, ρ, τ, θ, s, hk, p⟩ => by
  refine ⟨B, F, ρ, τ, θ, s, hk, (Post.bind p).imp fun ws ρ1 p1 us F1 H1 el s1 => ?_⟩
  unfold gLstM at p1
  by_cases c : ws.length ≤ sizeLine
  · simp only [c, if_true] at p1
    exact ⟨by rw [el]; exact c, fun q nq => p1 _ _ _ (s1.gather el nq).2⟩
  · simp only [c, if_false] at p1; exact p1.elim
/-! ### tests -/
def mT (c : P Bool) : M Bool := fun ρ => match c ρ with
  | some b => .ok b ρ
  | none => .bad
theorem dvt_p {c : Expr} {fc : P Bool} (h : DT X c fc) : DVT X k W c (mT fc) := ptImp h fun σ H Q ⟨B, F, ρ, τ, θ, s, hk, p⟩ => by
  obtain ⟨f1, f2, s'⟩ := id s
  unfold mT at p
  cases q : fc ρ with
  | none => rw [q] at p; exact p.elim
  | some b =>
    rw [q] at p
    exact ⟨F, ρ, f1, s.FH, s'.s, b, q, fun F' H' x => p F' H' (s.ext x)⟩
def mTest (f : M Val) : M Bool := fun ρ => (f ρ).bind fun w ρ1 => match w with
  | .bl b => .ok b ρ1
  | _ => .bad
variable {ca cb : M Bool} {rest : List Expr}
def mNot (c : M Bool) : M Bool := fun ρ => (c ρ).bind fun b ρ1 => .ok (!b) ρ1
def mAnd (a b : M Bool) : M Bool := fun ρ => (a ρ).bind fun x ρ1 => if x = true then b ρ1 else .ok false ρ1
def mOr (a b : M Bool) : M Bool := fun ρ => (a ρ).bind fun x ρ1 => if x = true then .ok true ρ1 else b ρ1
def mIte (c : M Bool) (fa fb : M Val) : M Val := fun ρ => (c ρ).bind fun x ρ1 => if x = true then fa ρ1 else fb ρ1
end
/-! ### statements -/
inductive RS where
  | nx (ρ : Slots) | brk (ρ : Slots) | ct (ρ : Slots)
  | ret (w : Val) (ρ : Slots)
  | err (c : Str) (pl : Option (Str × Val)) (ρ : Slots)
  | bad
abbrev G := Slots → RS
def PostS (mg : MG) (W : WX) (B : Base) (τ : List (Option V)) (θ : Slots) (x : RS) (D : Ends) : Prop := match x with
  | .nx ρ' => ∀ σ' F' H', SR B F' H' σ' ρ' τ θ → D.nx σ' H'
  | .brk ρ' => ∀ σ' F' H', SR B F' H' σ' ρ' τ θ → D.bk σ' H'
  | .ct ρ' => ∀ σ' F' H', SR B F' H' σ' ρ' τ θ → D.ct σ' H'
  | .ret w ρ' => ∀ u σ' F' H', SR B F' H' σ' ρ' (some u :: τ) (some w :: θ) → D.rt u H'
  | .err c pl ρ' => ∀ C d σ' F' H', mg c = some (.ref C) → SR B F' H' σ' ρ' τ θ → XR F' H' pl d → W (.ref C) d σ' H'
  | .bad => False
def tS (mg : MG) (k : Nat) (W : WX) (g : G) : TS := fun D σ H => ∃ B F ρ τ θ, SR B F H σ ρ τ θ ∧ B.S0.length = k ∧ PostS mg W B τ θ (g ρ) D
abbrev DS (X : Cx) (k : Nat) (W : WX) (st : Stmt) (g : G) : Prop := PS X st (tS X.mg k W g)
abbrev DSs (X : Cx) (k : Nat) (W : WX) (st : List Stmt) (g : G) : Prop := PSs X st (tS X.mg k W g)
def RS.seq (x : RS) (g : G) : RS := match x with
  | .nx ρ => g ρ
  | .brk ρ => .brk ρ
  | .ct ρ => .ct ρ
  | .ret w ρ => .ret w ρ
  | .err c p ρ => .err c p ρ
  | .bad => .bad
@[simp] theorem RS.seq_nx (ρ : Slots) (g : G) : (RS.nx ρ).seq g = g ρ := rfl
@[simp] theorem RS.seq_brk (ρ : Slots) (g : G) : (RS.brk ρ).seq g = .brk ρ := rfl
@[simp] theorem RS.seq_ct (ρ : Slots) (g : G) : (RS.ct ρ).seq g = .ct ρ := rfl
@[simp] theorem RS.seq_ret (w : Val) (ρ : Slots) (g : G) : (RS.ret w ρ).seq g = .ret w ρ := rfl
@[simp] theorem RS.seq_err (c : Str) (p : Option (Str × Val)) (ρ : Slots) (g : G) : (RS.err c p ρ).seq g = .err c p ρ := rfl
@[simp] theorem RS.seq_bad (g : G) : RS.bad.seq g = .bad := rfl
theorem PostS.seq {mg : MG} {W : WX} {B : Base} {τ : List (Option V)} {θ : Slots} {x : RS} {g : G} {D : Ends} {k : Nat} (hk : B.S0.length = k) (h : PostS mg W B τ θ (x.seq g) D) : PostS mg W B τ θ x { D with nx := tS mg k W g D } := by
  cases x with
  | nx ρ => exact fun σ' F' H' s => ⟨B, F', ρ, τ, θ, s, hk, h⟩
  | brk ρ => exact h
  | ct ρ => exact h
  | ret w ρ => exact h
  | err c pl ρ => exact h
  | bad => exact h
section
variable {X : Cx} {k : Nat} {W : WX} {e : Expr} {st : Stmt} {rest : List Stmt} {f : M Val} {g h : G} {pos : Pos}
def sNil : G := fun ρ => .nx ρ
def sSeq (g h : G) : G := fun ρ => (g ρ).seq h
theorem dss_nil : DSs X k W [] sNil := pssImp pss_nil fun D σ H ⟨B, F, ρ, τ, θ, s, hk, p⟩ => p σ F H s
theorem dss_cons (h1 : DS X k W st g) (h2 : DSs X k W rest h) : DSs X k W (st :: rest) (sSeq g h) := pssImp (pss_cons h1 h2) fun D σ H ⟨B, F, ρ, τ, θ, s, hk, p⟩ => ⟨B, F, ρ, τ, θ, s, hk, PostS.seq hk p⟩
theorem dss_one (h1 : DS X k W st g) : DSs X k W [st] g := pss_one h1
/-- from an expression's end to a statement's -/
def rS {α : Type} (x : R α) (g : α → G) : RS := match x with
  | .ok a ρ => g a ρ
  | .err c p ρ => .err c p ρ
  | .bad => .bad
@[simp] theorem rS_ok {α : Type} (a : α) (ρ : Slots) (g : α → G) : rS (.ok a ρ) g = g a ρ := rfl
@[simp] theorem rS_err {α : Type} (c : Str) (p : Option (Str × Val)) (ρ : Slots) (g : α → G) : rS (.err c p ρ) g = .err c p ρ := rfl
@[simp] theorem rS_bad {α : Type} (g : α → G) : rS (.bad : R α) g = .bad := rfl
theorem PostS.ofR {α : Type} {mg : MG} {W : WX} {B : Base} {τ : List (Option V)} {θ : Slots} {x : R α} {g : α → G} {D : Ends} {σ : St} (h : PostS mg W B τ θ (rS x g) D) : Post mg W B σ τ θ x fun a ρ => PostS mg W B τ θ (g a ρ) D := by
  cases x with
  | ok a ρ => exact h
  | err c pl ρ => exact fun C d F' H' e s r => h C d σ F' H' e s r
  | bad => exact h
def sRet (f : M Val) : G := fun ρ => rS (f ρ) fun w ρ1 => .ret w ρ1
theorem ds_ret (he : DV X k W e f) : DS X k W (.Return (some e) pos) (sRet f) := psImp (ps_ret he) fun D σ H ⟨B, F, ρ, τ, θ, s, hk, p⟩ =>
  ⟨B, F, ρ, τ, θ, s, hk, (PostS.ofR p).imp fun w ρ1 p1 u F1 H1 s1 => p1 u σ F1 H1 s1⟩
def sRetN : G := fun ρ => .ret .non ρ
def sDrop (f : M Val) : G := fun ρ => rS (f ρ) fun _ ρ1 => .nx ρ1
theorem ds_expr (he : DV X k W e f) (hs : swapsWith e none pos.line X.env = pure false := by rfl) : DS X k W (.Expr e pos) (sDrop f) := psImp (ps_expr he hs) fun D σ H ⟨B, F, ρ, τ, θ, s, hk, p⟩ =>
  ⟨B, F, ρ, τ, θ, s, hk, (PostS.ofR p).imp fun w ρ1 p1 u F1 H1 s1 => p1 σ F1 H1 s1.pop⟩
def sIf (c : M Bool) (g h : G) : G := fun ρ => rS (c ρ) fun b => if b = true then g else h
theorem ds_if {c : Expr} {a b : List Stmt} {fc : M Bool} (hc : DVT X k W c fc) (ha : DSs X k W a g) (hb : DSs X k W b h) : DS X k W (.If c a b pos) (sIf fc g h) := psImp (ps_if hc ha hb) fun D σ H ⟨B, F, ρ, τ, θ, s, hk, p⟩ => by
  refine ⟨B, F, ρ, τ, θ, s, hk, (PostS.ofR p).imp fun x ρ1 p1 F1 H1 s1 => ?_⟩
  cases x with
  | true => exact iteT ⟨B, F1, ρ1, τ, θ, s1, hk, by simpa using p1⟩
  | false => exact iteF ⟨B, F1, ρ1, τ, θ, s1, hk, by simpa using p1⟩
/-- x = e -/
def sSet (i : Nat) (f : M Val) : G := fun ρ => rS (f ρ) fun w ρ1 => .nx (ρ1.set i (some w))
theorem ds_set (i : Nat) {x : Str} {px : Pos} (he : DV X k W e f) (hN : X.N.Nodup) (hi : X.N[i]? = some x := by rfl) (hx : Loc X.env.scope x := by first | exact .inl rfl | exact .inr rfl) (hki : k ≤ i := by decide)
    (hf : X.fn x = true ∨ X.env.scope.names.lookup x = some .local := by first | exact .inl rfl | exact .inr rfl)
    (hs : swapsWithSole [.Name x px] e pos.line X.env = pure false := by rfl) (hw : swappedStores [.Name x px] e X.env = pure none := by rfl) (h1 : (assignEach [.Name x px] X.env).map (·.2) = [assign (.Name x px) X.env] := by rfl) :
    DS X k W (.Assign [.Name x px] e pos) (sSet i f) := psImp (ps_asg he (pg_name hN hi hx hf) hs hw h1) fun D σ H ⟨B, F, ρ, τ, θ, s, hk, p⟩ =>
  ⟨B, F, ρ, τ, θ, s, hk, (PostS.ofR p).imp fun w ρ1 p1 u F1 H1 s1 => p1 _ F1 H1 (s1.store (by omega))⟩
/-! ### targets: the slots `is`, and what goes there -/
def setV : St → List Nat → List V → St
  | σ, [], _ => σ
  | σ, _ :: _, [] => σ
  | σ, i :: is, u :: us => setV (σ.set i (some u)) is us
def setS : Slots → List Nat → List Val → Slots
  | ρ, [], _ => ρ
  | ρ, _ :: _, [] => ρ
  | ρ, i :: is, w :: ws => setS (ρ.set i (some w)) is ws
@[simp] theorem setV_nil {σ : St} {us : List V} : setV σ [] us = σ := by cases us <;> rfl
@[simp] theorem setS_nil {ρ : Slots} {us : List Val} : setS ρ [] us = ρ := by cases us <;> rfl
@[simp] theorem setS_cons {ρ : Slots} {i : Nat} {is : List Nat} {w : Val} {ws : List Val} : setS ρ (i :: is) (w :: ws) = setS (ρ.set i (some w)) is ws := rfl
theorem setV_append : ∀ {is js : List Nat} {us vs : List V} {σ : St}, is.length = us.length → setV σ (is ++ js) (us ++ vs) = setV (setV σ is us) js vs
  | [], _, [], _, _, _ => by simp
  | [], _, _ :: _, _, _, e => by simp at e
  | _ :: _, _, [], _, _, e => by simp at e
  | i :: is, js, u :: us, vs, σ, e => by
    show setV (σ.set i (some u)) (is ++ js) (us ++ vs) = _
    rw [setV_append (by simpa using e)]; rfl
abbrev T := Val → Option (List Val)
def tG (is : List Nat) (h : T) : TG := fun v σ H Q => ∃ F w, Le F H ∧ Pk F H v w ∧ ∃ ws, h w = some ws ∧ ∀ us, PkS F H us ws → ws.length = is.length → Q (setV σ is us) H
abbrev DG (X : Cx) (tg : Expr) (is : List Nat) (h : T) : Prop := PG X tg (tG is h)
theorem pgImp {X : Cx} {e : Expr} {t t' : TG} (h : PG X e t) (k : ∀ v σ H Q, t' v σ H Q → t v σ H Q) : PG X e t' := ⟨fun pins s σ H v u Q I r q => h.run pins s σ H v u Q I r (k v σ H Q q)⟩
def gN : T := fun w => some [w]
theorem dg_name (i : Nat) {x : Str} (hN : X.N.Nodup) (hi : X.N[i]? = some x := by rfl) (hx : Loc X.env.scope x := by first | exact .inl rfl | exact .inr rfl)
    (hf : X.fn x = true ∨ X.env.scope.names.lookup x = some .local := by first | exact .inl rfl | exact .inr rfl) : DG X (.Name x pos) [i] gN := pgImp (pg_name hN hi hx hf) fun v σ H Q ⟨F, w, hF, pk, ws, e, q⟩ => by
  cases e
  obtain ⟨g, r⟩ := pk
  exact q [v] ⟨_, .cons r .nil⟩ rfl
abbrev Ts := List Val → Option (List Val)
def tGs (is : List Nat) (h : Ts) : TGs := fun vs σ H Q => ∃ F ws, Le F H ∧ PkS F H vs ws ∧ ∃ rs, h ws = some rs ∧ ∀ us, PkS F H us rs → rs.length = is.length → Q (setV σ is us) H
abbrev DGs (X : Cx) (ts : List Expr) (is : List Nat) (h : Ts) : Prop := PGs X ts (tGs is h)
theorem pgsImp {X : Cx} {e : List Expr} {t t' : TGs} (h : PGs X e t) (k : ∀ v σ H Q, t' v σ H Q → t v σ H Q) : PGs X e t' := ⟨fun pins s σ H v u Q I r q => h.run pins s σ H v u Q I r (k v σ H Q q)⟩
def gsNil : Ts := fun ws => match ws with
  | [] => some []
  | _ :: _ => none
def gsCons (h : T) (hs : Ts) : Ts := fun ws => match ws with
  | [] => none
  | w :: ws => (h w).bind fun a => (hs ws).bind fun b => some (a ++ b)
theorem dgs_nil : DGs X [] [] gsNil := pgsImp pgs_nil fun v σ H Q ⟨F, ws, hF, pk, rs, e, q⟩ => by
  obtain ⟨g, r⟩ := pk
  cases ws with
  | nil => cases r; cases e; exact ⟨rfl, q [] ⟨_, .nil⟩ rfl⟩
  | cons _ _ => cases e
theorem dgs_cons {t : Expr} {ts : List Expr} {is js : List Nat} {h : T} {hs : Ts} (h1 : DG X t is h) (h2 : DGs X ts js hs) (he : (assignEach (t :: ts) X.env).map (·.2) = assign t X.env :: (assignEach ts X.env).map (·.2) := by rfl) : DGs X (t :: ts) (is ++ js) (gsCons h hs) := pgsImp (pgs_cons h1 h2 he) fun v σ H Q ⟨F, ws, hF, pk, rs, e, q⟩ => by
  obtain ⟨g, r⟩ := pk
  cases ws with
  | nil => cases e
  | cons w ws =>
    cases r with
    | cons r1 r2 =>
      simp only [gsCons, Option.bind_eq_some_iff] at e
      obtain ⟨a, e1, b, e2, e3⟩ := e
      cases e3
      refine ⟨_, _, rfl, F, w, hF, ⟨_, r1⟩, a, e1, fun us p1 l1 => ⟨F, ws, hF, ⟨_, r2⟩, b, e2, fun vs p2 l2 => ?_⟩⟩
      obtain ⟨g1, q1⟩ := p1
      obtain ⟨g2, q2⟩ := p2
      rw [← setV_append (by rw [q1.length, l1])]
      exact q (us ++ vs) ⟨_, q1.append q2⟩ (by simp [l1, l2])
def gTn (n : Nat) (hs : Ts) : T := fun w => match w with
  | .tup ws => if ws.length = n then hs ws else none
  | _ => none
theorem dg_tup {ts : List Expr} {j : Nat} {is : List Nat} {hs : Ts} (n : Nat) (hc : X.calm = true) (h : DGs X ts is hs) (hn : (assignEach ts X.env).length = n := by rfl) (hst : (assignEach ts X.env).findIdx? (·.1) = none := by rfl) : DG X (.Tuple ts j pos) is (gTn n hs) := pgImp (pg_tup (n := n) hc h hn hst) fun v σ H Q ⟨F, w, hF, pk, ws, e, q⟩ => by
  obtain ⟨g, r⟩ := pk
  cases w with
  | tup rs =>
    cases r with
    | tup h1 h2 =>
      simp only [gTn] at e
      split at e
      · rename_i hl
        exact ⟨_, _, rfl, .of (hF _ _ h1), by rw [h2.length]; exact hl, F, rs, hF, ⟨_, h2⟩, ws, e, q⟩
      · cases e
  | _ => cases e
theorem RepL.setAll {F H : Hp} : ∀ {is : List Nat} {us : List V} {ws : List Val} {σ : St} {ρ : Slots} {fp g : List Addr}, RepL F H σ ρ fp → Reps F H us ws g → ∃ f', RepL F H (setV σ is us) (setS ρ is ws) f'
  | [], us, ws, σ, ρ, fp, g, h, r => by
    rw [setV_nil, setS_nil]; exact ⟨_, h⟩
  | i :: is, us, ws, σ, ρ, fp, g, h, r => by
    cases ws with
    | nil => cases r; exact ⟨_, h⟩
    | cons w ws =>
      cases r with
      | cons r1 r2 =>
        obtain ⟨f', h', _⟩ := RepL.set r1 i h
        show ∃ f', RepL F H (setV (σ.set i (some _)) is _) (setS (ρ.set i (some w)) is ws) f'
        exact RepL.setAll h' r2
theorem SR.setAll {B : Base} {F H : Hp} {τ : List (Option V)} {θ : Slots} : ∀ {is : List Nat} {us : List V} {ws : List Val} {σ : St} {ρ : Slots}, SR B F H σ ρ τ θ → PkS F H us ws → noOwns ws = true → (∀ i ∈ is, B.S0.length ≤ i) → SR B F H (setV σ is us) (setS ρ is ws) τ θ
  | [], us, ws, σ, ρ, s, _, _, _ => by
    rw [setV_nil, setS_nil]; exact s
  | i :: is, us, ws, σ, ρ, s, pk, n, hk => by
    obtain ⟨g, r⟩ := pk
    cases ws with
    | nil => cases r; exact s
    | cons w ws =>
      cases r with
      | cons r1 r2 =>
        simp only [noOwns, Bool.and_eq_true] at n
        show SR B F H (setV (σ.set i (some _)) is _) (setS (ρ.set i (some w)) is ws) τ θ
        exact SR.setAll ((s.push (.refl s.FH) (.of_pk n.1 ⟨_, r1⟩)).store (hk i List.mem_cons_self)) ⟨_, r2⟩ n.2 fun j hj => hk j (List.mem_cons_of_mem _ hj)
/-- a, b = e -/
def sAsg (is : List Nat) (h : T) (f : M Val) : G := fun ρ => rS (f ρ) fun w ρ1 => match h w with
  | some ws => if noOwns ws = true then .nx (setS ρ1 is ws) else .bad
  | none => .bad
theorem ds_asg {tg : Expr} {is : List Nat} {h : T} (he : DV X k W e f) (hg : DG X tg is h) (hki : ∀ i ∈ is, k ≤ i := by decide) (hs : swapsWithSole [tg] e pos.line X.env = pure false := by rfl) (hw : swappedStores [tg] e X.env = pure none := by rfl)
    (h1 : (assignEach [tg] X.env).map (·.2) = [assign tg X.env] := by rfl) : DS X k W (.Assign [tg] e pos) (sAsg is h f) := psImp (ps_asg he hg hs hw h1) fun D σ H ⟨B, F, ρ, τ, θ, s, hk, p⟩ => by
  refine ⟨B, F, ρ, τ, θ, s, hk, (PostS.ofR p).imp fun w ρ1 p1 u F1 H1 s1 => ?_⟩
  cases q : h w with
  | none => rw [q] at p1; exact p1.elim
  | some ws =>
    rw [q] at p1
    dsimp only at p1
    by_cases n : noOwns ws = true
    · simp only [n, if_true] at p1
      exact ⟨F1, w, s1.FH, s1.top, ws, q, fun us pk _ => p1 _ F1 H1 (s1.pop.setAll pk n fun i hi => by rw [hk]; exact hki i hi)⟩
    · simp only [n] at p1; exact p1.elim
/-- x op= e, x a thing that nobody owns -/
def sAug (i : Nat) (op : Val → Val → Option Val) (f : M Val) : G := fun ρ => match (ρ[i]?).join with
  | none => .bad
  | some _ => rS (f ρ) fun y ρ1 => match (ρ1[i]?).join with
    | none => .bad
    | some x => match op x y with
      | some w => .nx (ρ1.set i (some w))
      | none => .bad
def VIp (r : TIp) (g : Val → Val → Option Val) : Prop := ∀ (F H : Hp) (x y : V) (wx wy w : Val) (Q : VK), Le F H → Pk F H x wx → Pk F H y wy → g wx wy = some w → (∀ u F' H', Ext F H F' H' → Nw F' H H' u w → Q u H') → r x y H Q
end
end L2.DL

namespace L2.DL
open L2 PyProof.Rows PySem.Spec PySem
/-- from here on what is shared now counts as shared from the start -/
@[reducible] def Base.at (B : Base) (F : Hp) : Base := ⟨B.H0, F, B.P0, B.S0⟩
section
variable {B : Base} {F1 H1 F H : Hp} {σ1 σ : St} {ρ1 ρ : Slots} {τ1 τ : List (Option V)} {θ1 θ : Slots}
theorem SR.F0le (s : SR B F H σ ρ τ θ) : Le B.F0 F := by
  obtain ⟨f1, f2, s⟩ := s
  exact s.F0
theorem SR.rebase (s : SR B F H σ ρ τ θ) : SR (B.at F) F H σ ρ τ θ := by
  obtain ⟨f1, f2, s⟩ := s
  exact ⟨f1, f2, s.s, s.t, s.le1, s.own, s.FH, .refl _, s.keep, s.dom, fun a h => .inl h, s.pin⟩
theorem SR.unbase (s1 : SR B F1 H1 σ1 ρ1 τ1 θ1) (s : SR (B.at F1) F H σ ρ τ θ) : SR B F H σ ρ τ θ := by
  obtain ⟨g1, g2, s1⟩ := s1
  obtain ⟨f1, f2, s⟩ := s
  refine ⟨f1, f2, s.s, s.t, s.le1, s.own, s.FH, s1.F0.trans s.F0, s.keep, s.dom, fun a h => ?_, s.pin⟩
  rcases s.new a h with h1 | h1 | h1 | h1
  · rcases s1.new a h1 with h2 | h2 | h2 | ⟨xs, h2⟩
    · exact .inl h2
    · exact .inr (.inl h2)
    · exact .inr (.inr (.inl h2))
    · exact .inr (.inr (.inr ⟨xs, s.F0 _ _ h2⟩))
  · exact .inr (.inl h1)
  · exact .inr (.inr (.inl h1))
  · exact .inr (.inr (.inr h1))
end
/-! ### what is walked -/
def Src (F0 : Hp) (J : It) (u : V) (w : Val) (ws : List Val) : Prop := ∀ F H, Le F0 F → Le F H → Pk F H u w → (∀ i, ws.length ≤ i → J.stop i H) ∧ ∀ (i : Nat) (wi : Val), ws[i]? = some wi → J.go i H ∧ ∀ x H', J.yld i H x H' → ∃ F', Ext F H F' H' ∧ Pk F' H' x wi
abbrev WW := Val × List Val
def tI (mg : MG) (k : Nat) (W : WX) (f : M WW) : TI := fun σ H Q => ∃ B F ρ τ θ, SR B F H σ ρ τ θ ∧ B.S0.length = k ∧
  Post mg W B σ τ θ (f ρ) fun ww ρ' => ∀ u F' H' J, SR B F' H' σ ρ' (some u :: τ) (some ww.1 :: θ) → Src F' J u ww.1 ww.2 → Q J H'
abbrev DI (X : Cx) (k : Nat) (W : WX) (tg e : Expr) (f : M WW) : Prop := PI X tg e (tI X.mg k W f)
def tIP (f : P WW) : TI := fun σ H Q => ∃ F ρ fp, Le F H ∧ RepL F H σ ρ fp ∧ ∃ ww, f ρ = some ww ∧ ∀ u F' H' J, Ext F H F' H' → Pk F' H' u ww.1 → Src F' J u ww.1 ww.2 → Q J H'
abbrev DIP (X : Cx) (tg e : Expr) (f : P WW) : Prop := PI X tg e (tIP f)
theorem piImp {X : Cx} {tg e : Expr} {t t' : TI} (h : PI X tg e t) (k : ∀ σ H Q, t' σ H Q → t σ H Q) : PI X tg e t' := ⟨fun pins s σ H Q I q => h.run pins s σ H Q I (k σ H Q q)⟩
theorem piCase {X : Cx} {tg e : Expr} {t' : TI} (k : ∀ σ H Q, t' σ H Q → ∃ t, PI X tg e t ∧ t σ H Q) : PI X tg e t' := ⟨fun pins s σ H Q I q => let ⟨_, h, q'⟩ := k σ H Q q; h.run pins s σ H Q I q'⟩
theorem peCase {X : Cx} {e : Expr} {t' : TE} (k : ∀ σ H Q, t' σ H Q → ∃ t, PE X e t ∧ t σ H Q) : PE X e t' := ⟨fun pins s σ H Q I q => let ⟨_, h, q'⟩ := k σ H Q q; h.run pins s σ H Q I q'⟩
theorem src_list {F0 : Hp} {K : PySem.W.Frag} {a : Addr} {o : Bool} {ws : List Val} : Src F0 (Itl K a) (.ref a) (.lst o ws) ws := fun F H _ hF ⟨g, r⟩ => by
  obtain ⟨xs, hx, g', r'⟩ : ∃ xs, SqL K H a xs ∧ ∃ g', Reps F H xs ws g' := by
    cases r with
    | lsh h1 h2 => exact ⟨_, .of (hF _ _ h1), _, h2⟩
    | low h1 h2 => exact ⟨_, .of h1, _, h2⟩
  refine ⟨fun i hi => ⟨xs, hx, by rw [r'.length]; exact hi⟩, fun i wi e => ?_⟩
  obtain ⟨v, g2, e1, rv, _⟩ := r'.get e
  exact ⟨⟨xs, v, hx, e1⟩, fun x H' ⟨eH, k⟩ => by subst eH; have := (k xs hx).symm.trans e1; cases this; exact ⟨F, .refl hF, g2, rv⟩⟩
theorem src_tup {F0 : Hp} {K : PySem.W.Frag} {a : Addr} {ws : List Val} : Src F0 (Itt K a) (.ref a) (.tup ws) ws := fun F H _ hF ⟨g, r⟩ => by
  cases r with
  | @tup _ xs _ _ h1 r' =>
    have hx : SqT K H a xs := .of (hF _ _ h1)
    refine ⟨fun i hi => ⟨xs, hx, by rw [r'.length]; exact hi⟩, fun i wi e => ?_⟩
    obtain ⟨v, g2, e1, rv, _⟩ := r'.get e
    exact ⟨⟨xs, v, hx, e1⟩, fun x H' ⟨eH, k⟩ => by subst eH; have := (k xs hx).symm.trans e1; cases this; exact ⟨F, .refl hF, g2, rv⟩⟩
theorem src_tpz {F0 : Hp} {K : PySem.W.Frag} {a : Addr} {ws : List Val} : Src F0 (Itt K a) (.ref a) (.tpz ws) ws := fun F H _ hF ⟨g, r⟩ => by
  cases r with
  | @tpz _ ob xs _ _ h1 h0 r' =>
    have hx : SqT K H a xs := .inl (.inr ⟨ob, hF _ _ h1⟩)
    refine ⟨fun i hi => ⟨xs, hx, by rw [r'.length]; exact hi⟩, fun i wi e => ?_⟩
    obtain ⟨v, g2, e1, rv, _⟩ := r'.get e
    exact ⟨⟨xs, v, hx, e1⟩, fun x H' ⟨eH, k⟩ => by subst eH; have := (k xs hx).symm.trans e1; cases this; exact ⟨F, .refl hF, g2, rv⟩⟩
/-- a text's signs -/
def signs (s : Str) : List Val := s.cps.toList.map fun c => .str ⟨#[c]⟩
theorem src_str {F0 : Hp} {s : Str} {u : V} {w : Val} : Src F0 (Its s) u w (signs s) := fun F H _ hF _ => by
  refine ⟨fun i hi => by show s.cps.size ≤ i; simpa [signs] using hi, fun i wi e => ?_⟩
  simp only [signs, List.getElem?_map, Option.map_eq_some_iff] at e
  obtain ⟨c, e1, rfl⟩ := e
  have e2 : s.cps[i]? = some c := by simpa using e1
  refine ⟨(Array.getElem?_eq_some_iff.mp e2).1, fun x H' ⟨eH, d, e3, ex⟩ => ?_⟩
  subst eH
  rw [e2] at e3; cases e3
  subst ex
  exact ⟨F, .refl hF, _, .str _⟩
def rng (lo hi : Int) : List Val := (List.range (hi - lo).toNat).map fun i => .int (lo + (i : Nat))
theorem src_rng {F0 : Hp} {lo hi : Int} {u : V} {w : Val} : Src F0 (Itr lo (hi - lo).toNat) u w (rng lo hi) := fun F H _ hF _ => by
  refine ⟨fun i h => by show (hi - lo).toNat ≤ i; simpa [rng] using h, fun i wi e => ?_⟩
  simp only [rng, List.getElem?_map, Option.map_eq_some_iff] at e
  obtain ⟨j, e1, rfl⟩ := e
  obtain ⟨hlt, e2⟩ := List.getElem?_eq_some_iff.mp e1
  simp at hlt e2
  subst e2
  exact ⟨by show i < (hi - lo).toNat; omega, fun x H' ⟨eH, ex⟩ => by subst eH; subst ex; exact ⟨F, .refl hF, _, .int _⟩⟩
section
variable {X : Cx} {k : Nat} {W : WX} {tg e a b : Expr} {pos p : Pos}
/-- lists, tuples, texts by their kind -/
def seqOf (w : Val) : Option WW := match w with
  | .lst _ ws => some (w, ws)
  | .tup ws => some (w, ws)
  | .tpz ws => some (w, ws)
  | .str s => some (w, signs s)
  | _ => none
def pSeq (f : P Val) : P WW := fun ρ => (f ρ).bind seqOf
def mSeq (f : M Val) : M WW := fun ρ => (f ρ).bind fun w ρ1 => match seqOf w with
  | some ww => .ok ww ρ1
  | none => .bad
theorem dip_seq {f : P Val} (h : DP X e f) : DIP X tg e (pSeq f) := piCase fun σ H Q ⟨F, ρ, fp, hF, r, ww, ew, k⟩ => by
  simp only [pSeq, Option.bind_eq_some_iff] at ew
  obtain ⟨w, e1, e2⟩ := ew
  cases w with
  | lst o ws =>
    cases e2
    refine ⟨_, pi_list h, F, ρ, fp, hF, r, _, e1, fun u F' H' x pk => ?_⟩
    obtain ⟨g, rr⟩ := id pk
    have : ∃ a, u = .ref a ∧ ∃ xs, SqL X.K H' a xs := by
      cases rr with
      | lsh h1 h2 => exact ⟨_, rfl, _, .of (x.FH _ _ h1)⟩
      | low h1 h2 => exact ⟨_, rfl, _, .of h1⟩
    obtain ⟨a, rfl, xs, hx⟩ := this
    exact ⟨a, rfl, ⟨xs, hx⟩, k _ F' H' _ x pk src_list⟩
  | tup ws =>
    cases e2
    refine ⟨_, pi_tup h, F, ρ, fp, hF, r, _, e1, fun u F' H' x pk => ?_⟩
    obtain ⟨g, rr⟩ := id pk
    cases rr with
    | tup h1 h2 => exact ⟨_, rfl, ⟨_, .of (x.FH _ _ h1)⟩, k _ F' H' _ x pk src_tup⟩
  | tpz ws =>
    cases e2
    refine ⟨_, pi_tup h, F, ρ, fp, hF, r, _, e1, fun u F' H' x pk => ?_⟩
    obtain ⟨g, rr⟩ := id pk
    cases rr with
    | tpz h1 h0 h2 => exact ⟨_, rfl, ⟨_, .inl (.inr ⟨_, x.FH _ _ h1⟩)⟩, k _ F' H' _ x pk src_tpz⟩
  | str s =>
    cases e2
    refine ⟨_, pi_str h, F, ρ, fp, hF, r, _, e1, fun u F' H' x pk => ?_⟩
    obtain ⟨g, rr⟩ := id pk
    cases rr
    exact ⟨s, rfl, k _ F' H' _ x pk src_str⟩
  | _ => cases e2
theorem di_seq {f : M Val} (h : DV X k W e f) : DI X k W tg e (mSeq f) := piCase fun σ H Q ⟨B, F, ρ, τ, θ, s, hk, p⟩ => by
  unfold mSeq at p
  cases q : f ρ with
  | bad => rw [q] at p; exact p.elim
  | err c pl ρ1 => rw [q] at p; exact ⟨_, pi_list h, B, F, ρ, τ, θ, s, hk, by rw [q]; exact p⟩
  | ok w ρ1 =>
    rw [q] at p
    dsimp only [R.bind] at p
    cases w with
    | lst o ws =>
      refine ⟨_, pi_list h, B, F, ρ, τ, θ, s, hk, ?_⟩
      rw [q]
      intro u F' H' s'
      obtain ⟨g, rr⟩ := s'.top
      have : ∃ a, u = .ref a ∧ ∃ xs, SqL X.K H' a xs := by
        cases rr with
        | lsh h1 h2 => exact ⟨_, rfl, _, .of (s'.FH _ _ h1)⟩
        | low h1 h2 => exact ⟨_, rfl, _, .of h1⟩
      obtain ⟨a, rfl, xs, hx⟩ := this
      exact ⟨a, rfl, ⟨xs, hx⟩, p _ F' H' _ s' src_list⟩
    | tup ws =>
      refine ⟨_, pi_tup h, B, F, ρ, τ, θ, s, hk, ?_⟩
      rw [q]
      intro u F' H' s'
      obtain ⟨g, rr⟩ := s'.top
      cases rr with
      | tup h1 h2 => exact ⟨_, rfl, ⟨_, .of (s'.FH _ _ h1)⟩, p _ F' H' _ s' src_tup⟩
    | tpz ws =>
      refine ⟨_, pi_tup h, B, F, ρ, τ, θ, s, hk, ?_⟩
      rw [q]
      intro u F' H' s'
      obtain ⟨g, rr⟩ := s'.top
      cases rr with
      | tpz h1 h0 h2 => exact ⟨_, rfl, ⟨_, .inl (.inr ⟨_, s'.FH _ _ h1⟩)⟩, p _ F' H' _ s' src_tpz⟩
    | str t =>
      refine ⟨_, pi_str h, B, F, ρ, τ, θ, s, hk, ?_⟩
      rw [q]
      intro u F' H' s'
      obtain ⟨g, rr⟩ := s'.top
      cases rr
      exact ⟨t, rfl, p _ F' H' _ s' src_str⟩
    | _ => exact p.elim
/-- |i| < n, told so that nothing counts down from n -/
def ltA (i : Int) (n : Nat) : Bool := Nat.ble (i.natAbs + 1) n
theorem ltA_iff {i : Int} {n : Nat} : ltA i n = true ↔ i.natAbs < n := by unfold ltA; rw [Nat.ble_eq]; exact Iff.rfl
theorem ltA_of {i : Int} {n : Nat} (h : i.natAbs < n) : ltA i n = true := ltA_iff.mpr h
def lim62 (i : Int) : Bool := ltA i (2 ^ 62)
theorem lim62_ok {i : Int} (h : lim62 i = true) : -(2 ^ 62) ≤ i ∧ i < 2 ^ 62 := by have := ltA_iff.mp h; omega
def rngOf (ws : List Val) : Option WW := match ws with
  | [.int j] => if lim62 j = true then some (.non, rng 0 j) else none
  | [.int i, .int j] => if lim62 i = true && lim62 j = true then some (.non, rng i j) else none
  | _ => none
def pRng (fs : P (List Val)) : P WW := fun ρ => (fs ρ).bind rngOf
def mRng (fs : M (List Val)) : M WW := fun ρ => (fs ρ).bind fun w ρ1 => match rngOf w with
  | some ww => .ok ww ρ1
  | none => .bad
theorem rngOf1 {x : Val} {ww : WW} (h : rngOf [x] = some ww) : ∃ j, x = .int j ∧ lim62 j = true ∧ ww = (.non, rng 0 j) := by
  cases x <;> simp [rngOf] at h
  exact ⟨_, rfl, h.1, h.2.symm⟩
theorem PkS.one {F H : Hp} {us : List V} {w : Val} (h : PkS F H us [w]) : ∃ u, us = [u] ∧ Pk F H u w := by
  obtain ⟨g, r⟩ := h
  cases r with
  | cons r1 r2 => cases r2; exact ⟨_, rfl, _, r1⟩
theorem PkS.two {F H : Hp} {us : List V} {w z : Val} (h : PkS F H us [w, z]) : ∃ u v, us = [u, v] ∧ Pk F H u w ∧ Pk F H v z := by
  obtain ⟨g, r⟩ := h
  cases r with
  | cons r1 r2 =>
    obtain ⟨v, e, pk⟩ := PkS.one ⟨_, r2⟩
    subst e
    exact ⟨_, _, rfl, ⟨_, r1⟩, pk⟩
theorem Pk.int {F H : Hp} {u : V} {i : Int} (h : Pk F H u (.int i)) : u = .int i := by
  obtain ⟨g, r⟩ := h
  cases r; rfl
theorem Pk.bl {F H : Hp} {u : V} {i : Bool} (h : Pk F H u (.bl i)) : u = .bl i := by
  obtain ⟨g, r⟩ := h
  cases r; rfl
theorem Pk.str {F H : Hp} {u : V} {i : Str} (h : Pk F H u (.str i)) : u = .str i := by
  obtain ⟨g, r⟩ := h
  cases r; rfl
theorem di_rng1 {fs : M (List Val)} (hg : Gl X "range") (hm : X.mg "range" = none) (ha : DVs X k W [a] fs) (h1 : ∀ ρ ws ρ', fs ρ = .ok ws ρ' → ws.length = 1) (hs : starEach [a] X.env = [(false, eval a X.env)] := by rfl) : DI X k W tg (.Call (.Name "range" p) [a] [] pos) (mRng fs) :=
  piImp (pi_range1 hg hm ha hs) fun σ H Q ⟨B, F, ρ, τ, θ, s, hk, p⟩ => by
  unfold mRng at p
  refine ⟨B, F, ρ, τ, θ, s, hk, ?_⟩
  cases q : fs ρ with
  | bad => rw [q] at p; exact p.elim
  | err c pl ρ1 => rw [q] at p; exact p
  | ok ws ρ1 =>
    rw [q] at p
    dsimp only [R.bind] at p
    intro us F' H' el s'
    have hl := h1 _ _ _ q
    match ws, hl with
    | [w], _ =>
      cases q2 : rngOf [w] with
      | none => rw [q2] at p; exact p.elim
      | some ww =>
        rw [q2] at p
        obtain ⟨j, rfl, hj, rfl⟩ := rngOf1 q2
        obtain ⟨u, rfl, pu⟩ := (s'.tops el).one
        have := pu.int; subst this
        refine ⟨j, rfl, (lim62_ok hj).1, (lim62_ok hj).2, ?_⟩
        have s2 := @src_rng F' 0 j .non .non
        simp only [Int.sub_zero] at s2
        have s3 : SR B F' H' σ ρ1 τ θ := s'.pop
        exact p .non F' H' _ (s3.push (.refl s3.FH) (.of .non)) s2
theorem msCons_ok {f : M Val} {fs : M (List Val)} {ρ ρ' : Slots} {w : List Val} (h : msCons f fs ρ = .ok w ρ') : ∃ x xs ρ1, f ρ = .ok x ρ1 ∧ fs ρ1 = .ok xs ρ' ∧ w = x :: xs := by
  unfold msCons at h
  cases q : f ρ with
  | bad => rw [q] at h; cases h
  | err _ _ _ => rw [q] at h; cases h
  | ok x ρ1 =>
    rw [q] at h
    dsimp only [R.bind] at h
    cases q2 : fs ρ1 with
    | bad => rw [q2] at h; cases h
    | err _ _ _ => rw [q2] at h; cases h
    | ok xs ρ2 => rw [q2] at h; cases h; exact ⟨_, _, _, rfl, q2, rfl⟩
theorem msOne {f : M Val} {ρ ρ' : Slots} {ws : List Val} (h : msCons f msNil ρ = .ok ws ρ') : ws.length = 1 := by
  obtain ⟨x, xs, _, _, h2, rfl⟩ := msCons_ok h
  cases h2; rfl
theorem msTwo {f g : M Val} {ρ ρ' : Slots} {ws : List Val} (h : msCons f (msCons g msNil) ρ = .ok ws ρ') : ws.length = 2 := by
  obtain ⟨x, xs, _, _, h2, rfl⟩ := msCons_ok h
  simp [msOne h2]
/-! ### for -/
def forL (is : List Nat) (h : T) (g : G) : List Val → G
  | [], ρ => .nx ρ
  | w :: ws, ρ => match h w with
    | none => .bad
    | some rs => if noOwns rs = true then (match g (setS ρ is rs) with
      | .nx ρ2 => forL is h g ws ρ2
      | .ct ρ2 => forL is h g ws ρ2
      | .brk ρ2 => .nx ρ2
      | .ret w ρ2 => .ret w ρ2
      | .err x p ρ2 => .err x p ρ2
      | .bad => .bad) else .bad
def sFor (is : List Nat) (h : T) (f : M WW) (g : G) : G := fun ρ => rS (f ρ) fun ww => forL is h g ww.2
theorem ds_for {iter : Expr} {body : List Stmt} {f : M WW} {is : List Nat} {h : T} {g : G} (hp : PassesOwn (model X.prog X.w) X.A X.env X.xe) (hc : X.calm = true) (hi : DI X k W tg iter f) (hg : DG X tg is h) (hb : DSs X k W body g) (hki : ∀ i ∈ is, k ≤ i := by decide)
    (hs : ∀ x, foldedSetIterable iter X.env x = pure x := by intro _; rfl) : DS X k W (.For tg iter body [] pos) (sFor is h f g) := psImp (ps_for hp hc hi hg hb hs) fun D σ H ⟨B, F, ρ, τ, θ, s, hk, p⟩ => by
  refine ⟨B, F, ρ, τ, θ, s, hk, (PostS.ofR p).imp fun ww ρ1 p1 u F1 H1 J s1 src => ?_⟩
  have stp : ∀ {i : Nat} {σ : St} {F H : Hp} {ρ : Slots}, SR (B.at F1) F H σ ρ (some u :: τ) (some ww.1 :: θ) → ww.2.length ≤ i → J.stop i H := fun s hi => (src _ _ s.F0le s.FH s.top).1 _ hi
  refine ⟨fun i m σ H => i + m = ww.2.length ∧ ∃ F ρ, SR (B.at F1) F H σ ρ (some u :: τ) (some ww.1 :: θ) ∧ PostS X.mg W B τ θ (forL is h g (ww.2.drop i) ρ) D, ⟨ww.2.length, by omega, F1, ρ1, s1.rebase, by simpa using p1⟩, ?_⟩
  rintro i m σ2 H2 ⟨him, F2, ρ2, s2, p2⟩
  by_cases hlt : i < ww.2.length
  · right
    have e : ww.2.drop i = ww.2[i] :: ww.2.drop (i + 1) := List.drop_eq_getElem_cons hlt
    rw [e] at p2
    obtain ⟨hgo, hy⟩ := (src _ _ s2.F0le s2.FH s2.top).2 i ww.2[i] (by simp [hlt])
    refine ⟨hgo, fun σ' H' => ∃ F ρ, SR (B.at F1) F H' σ' ρ (some u :: τ) (some ww.1 :: θ) ∧ PostS X.mg W B τ θ (forL is h g (ww.2.drop (i + 1)) ρ) D, fun σ' H' ⟨F', ρ', s', p'⟩ => ⟨m - 1, by omega, by omega, F', ρ', s', p'⟩, fun x H3 yl => ?_⟩
    obtain ⟨F3, x3, pk⟩ := hy x H3 yl
    unfold forL at p2
    cases q : h ww.2[i] with
    | none => rw [q] at p2; exact p2.elim
    | some rs =>
      rw [q] at p2
      dsimp only at p2
      by_cases n : noOwns rs = true
      · simp only [n, if_true] at p2
        refine ⟨F3, _, x3.FH, pk, rs, q, fun us pus _ => ?_⟩
        have s4 := ((s2.ext x3).setAll pus n fun i hi => by rw [hk]; exact hki i hi)
        refine ⟨B.at F1, F3, _, _, _, s4, hk, ?_⟩
        cases q2 : g (setS ρ2 is rs) with
        | nx ρ3 => rw [q2] at p2; exact fun σ' F' H' s' => ⟨F', ρ3, s', p2⟩
        | ct ρ3 => rw [q2] at p2; exact fun σ' F' H' s' => ⟨F', ρ3, s', p2⟩
        | brk ρ3 => rw [q2] at p2; exact fun σ' F' H' s' => p2 σ' F' H' (s1.unbase s'.pop)
        | ret w ρ3 => rw [q2] at p2; exact fun v σ' F' H' s' => p2 v σ' F' H' (s1.unbase s'.under1)
        | err x pl ρ3 => rw [q2] at p2; exact fun C d σ' F' H' e s' r => p2 C d σ' F' H' e (s1.unbase s'.pop) r
        | bad => rw [q2] at p2; exact p2.elim
      · simp only [n] at p2; exact p2.elim
  · left
    have e : ww.2.drop i = [] := List.drop_eq_nil_of_le (by omega)
    rw [e] at p2
    exact ⟨stp s2 (by omega), p2 σ2 F2 H2 (s1.unbase s2.pop)⟩
end
end L2.DL

namespace L2.DL
open L2 PyProof.Rows PySem.Spec PySem
/-! ### comprehensions -/
def wipeS : Slots → List Nat → Slots
  | ρ, [] => ρ
  | ρ, v :: vs => (wipeS ρ vs).set v none
theorem wipe_get (σ : St) : ∀ (vs : List Nat) (j : Nat), (wipe σ vs)[j]? = if j ∈ vs then (σ[j]?).map (fun _ => none) else σ[j]?
  | [], j => by simp [wipe]
  | v :: vs, j => by
    unfold wipe
    rw [List.getElem?_set]
    have ih := wipe_get σ vs j
    by_cases h : v = j
    · subst h
      simp only [if_true, wipe_length, List.mem_cons, true_or]
      split
      · rename_i h2
        rw [List.getElem?_eq_getElem h2]; rfl
      · rename_i h2
        rw [List.getElem?_eq_none (by omega)]; rfl
    · simp only [h, if_false, ih, List.mem_cons, Ne.symm h, false_or]
theorem wipe_set {σ : St} {i : Nat} {x : Option V} {vs : List Nat} (h : i ∈ vs) : wipe (σ.set i x) vs = wipe σ vs := by
  apply List.ext_getElem?
  intro j
  rw [wipe_get, wipe_get]
  by_cases hj : j ∈ vs
  · simp only [hj, if_true]
    rw [List.getElem?_set]
    split
    · rename_i e; subst e
      split
      · rename_i h2; rw [List.getElem?_eq_getElem h2]; rfl
      · rename_i h2; rw [List.getElem?_eq_none (by omega)]
    · rfl
  · simp only [hj, if_false]
    rw [List.getElem?_set_ne]
    intro e; subst e; exact hj h
theorem wipe_setV {vs : List Nat} : ∀ {is : List Nat} {us : List V} {σ : St}, (∀ i ∈ is, i ∈ vs) → wipe (setV σ is us) vs = wipe σ vs
  | [], us, σ, _ => by simp
  | i :: is, [], σ, _ => rfl
  | i :: is, u :: us, σ, h => by
    show wipe (setV (σ.set i (some u)) is us) vs = _
    rw [wipe_setV fun j hj => h j (List.mem_cons_of_mem _ hj), wipe_set (h i List.mem_cons_self)]
theorem wipe_wipe {σ : St} {vs : List Nat} : wipe (wipe σ vs) vs = wipe σ vs := by
  apply List.ext_getElem?
  intro j
  rw [wipe_get, wipe_get]
  by_cases hj : j ∈ vs
  · simp only [hj, if_true, Option.map_map]; rfl
  · simp only [hj, if_false]
theorem RepL.wipe {F H : Hp} {σ : St} {ρ : Slots} {fp : List Addr} (h : RepL F H σ ρ fp) : ∀ vs : List Nat, ∃ f', RepL F H (L2.wipe σ vs) (wipeS ρ vs) f' ∧ ∀ a, f'.count a ≤ fp.count a
  | [] => ⟨fp, h, fun _ => Nat.le_refl _⟩
  | v :: vs => by
    obtain ⟨f1, h1, c1⟩ := RepL.wipe h vs
    obtain ⟨f2, h2, c2⟩ := RepL.kill (v := none) v h1
    exact ⟨f2, h2, fun a => Nat.le_trans (c2 a) (c1 a)⟩
theorem SR.wipe {B : Base} {F H : Hp} {σ : St} {ρ : Slots} {τ : List (Option V)} {θ : Slots} (s : SR B F H σ ρ τ θ) : ∀ {vs : List Nat}, (∀ i ∈ vs, B.S0.length ≤ i) → SR B F H (L2.wipe σ vs) (wipeS ρ vs) τ θ
  | [], _ => s
  | v :: vs, h => (SR.wipe s fun i hi => h i (List.mem_cons_of_mem _ hi)).kill (h v List.mem_cons_self)
theorem SR.unwipe {B : Base} {F H : Hp} {σ : St} {τ : List (Option V)} {θ : Slots} : ∀ {vs : List Nat} {ρ : Slots}, SR B F H (L2.wipe σ vs) ρ τ θ → (∀ i ∈ vs, B.S0.length ≤ i) → SR B F H σ (wipeS ρ vs) τ θ := by
  intro vs ρ s hk
  -- each slot of vs is dead in wipeS ρ vs: its place in σ may hold anything
  have key : ∀ (ws : List Nat) (σ2 : St), (∀ i ∈ ws, B.S0.length ≤ i) → SR B F H σ2 ρ τ θ → SR B F H (ws.foldr (fun v s => s.set v ((σ[v]?).join)) σ2) (wipeS ρ ws) τ θ := by
    intro ws
    induction ws with
    | nil => intro σ2 _ s2; exact s2
    | cons w ws ih =>
      intro σ2 h s2
      exact (ih σ2 (fun i hi => h i (List.mem_cons_of_mem _ hi)) s2).kill (h w List.mem_cons_self)
  have e : vs.foldr (fun v s => s.set v ((σ[v]?).join)) (L2.wipe σ vs) = σ := by
    have g : ∀ (ws : List Nat) (σ2 : St) (j : Nat), σ2.length = σ.length → (ws.foldr (fun v s => s.set v ((σ[v]?).join)) σ2)[j]? = if j ∈ ws then σ[j]? else σ2[j]? := by
      intro ws
      induction ws with
      | nil => intro σ2 j _; simp
      | cons w ws ih =>
        intro σ2 j hl
        have ih' := ih σ2 j hl
        have hlen : ∀ (ws : List Nat), (ws.foldr (fun v s => s.set v ((σ[v]?).join)) σ2).length = σ2.length := by
          intro ws
          induction ws with
          | nil => rfl
          | cons a r ih => simp [ih]
        rw [List.foldr_cons, List.getElem?_set, hlen, ih']
        by_cases h : w = j
        · subst h
          simp only [if_true, List.mem_cons, true_or, hl]
          split
          · rename_i h2; rw [List.getElem?_eq_getElem h2]; rfl
          · rename_i h2; rw [List.getElem?_eq_none (by omega)]
        · simp only [h, if_false, List.mem_cons, Ne.symm h, false_or]
    apply List.ext_getElem?
    intro j
    rw [g vs _ j (wipe_length _ _), wipe_get]
    by_cases hj : j ∈ vs
    · simp [hj]
    · simp [hj]
  have := key vs _ hk s
  rw [e] at this
  exact this
/-- what only looks -/
def compP (is : List Nat) (h : T) (c : P Bool) (f : P Val) (ρ0 : Slots) : List Val → Option (List Val)
  | [] => some []
  | w :: ws => (h w).bind fun rs => (c (setS ρ0 is rs)).bind fun b => if b = true then (f (setS ρ0 is rs)).bind fun y => (compP is h c f ρ0 ws).map (y :: ·) else compP is h c f ρ0 ws
def pComp (vs is : List Nat) (src : P WW) (h : T) (c : P Bool) (f : P Val) : P Val := fun ρ => (src ρ).bind fun ww => (compP is h c f (wipeS ρ vs) ww.2).bind fun rs => if rs.length ≤ sizeLine then some (.lst true rs) else none
def pYes : P Bool := fun _ => some true
section
variable {X : Cx} {k : Nat} {W : WX} {tg elt iter : Expr} {ifs : List Expr} {scope : Scope} {own : List (Str × Nat)} {pos : Pos}
theorem dts_nil : PTs X [] (tPT pYes) := ⟨fun pins s σ H Q I ⟨F, ρ, fp, hF, r, b, e, k⟩ => by
  cases e
  exact pts_nil.run pins s σ H Q I (k F H (.refl hF))⟩
theorem dts_one {c : Expr} {fc : P Bool} (h : DT X c fc) : PTs X [c] (tPT fc) := pts_one h
theorem pLc_of {src : P WW} {is : List Nat} {h : T} {c : P Bool} {f : P Val} (his : ∀ i ∈ is, i ∈ own.map (·.2)) {σ : St} {H : Hp} {Q : VK} : tF (pComp (own.map (·.2)) is src h c f) σ H Q → tLc (tIP src) (tG is h) (tPT c) (tF f) (own.map (·.2)) σ H Q := fun ⟨F, ρ, fp, hF, r, w, ew, kk⟩ => by
  simp only [pComp, Option.bind_eq_some_iff] at ew
  obtain ⟨ww, e1, tot, e2, e3⟩ := ew
  split at e3
  case isFalse => cases e3
  case isTrue hsz =>
  cases e3
  refine ⟨F, ρ, fp, hF, r, ww, e1, fun u F1 H1 J x1 pk src => ?_⟩
  intro D nD
  have nFD : F1 D = none := by
    cases q : F1 D with
    | none => rfl
    | some z => rw [x1.FH D z q] at nD; cases nD
  obtain ⟨f0, r0, _⟩ := RepL.wipe (r.ext x1) (own.map (·.2))
  refine ⟨fun i m H => i + m = ww.2.length ∧ ∃ F accV accW g rest, Ext F1 H1 F H ∧ H D = some (.lst accV) ∧ F D = none ∧ Reps F H accV accW g ∧ (∀ a, g.count a ≤ 1) ∧ (∀ a ∈ g, H1 a = none ∧ F a = none ∧ a ≠ D) ∧
      compP is h c f (wipeS ρ (own.map (·.2))) (ww.2.drop i) = some rest ∧ accW ++ rest = tot, ⟨ww.2.length, by omega, F1, [], [], [], tot, (Ext.laid x1.FH nD).1, upd_same, nFD, .nil, fun a => by simp, fun a ha => (by cases ha), by simpa using e2, rfl⟩, ?_⟩
  rintro i m H2 ⟨him, F2, accV, accW, g, rest, x2, hD, nD2, ra, cg, kg, ec, et⟩
  have nD1 : ∀ a, H1 a ≠ none → a ≠ D := fun a ha z => by subst z; exact ha nD
  by_cases hlt : i < ww.2.length
  · right
    have e : ww.2.drop i = ww.2[i] :: ww.2.drop (i + 1) := List.drop_eq_getElem_cons hlt
    rw [e] at ec
    simp only [compP, Option.bind_eq_some_iff] at ec
    obtain ⟨rs, q1, b, q2, q3⟩ := ec
    obtain ⟨hgo, hy⟩ := (src _ _ x2.leF x2.FH (pk.ext x2)).2 i ww.2[i] (by simp [hlt])
    refine ⟨hgo, fun H => ∃ F accV accW g rest, Ext F1 H1 F H ∧ H D = some (.lst accV) ∧ F D = none ∧ Reps F H accV accW g ∧ (∀ a, g.count a ≤ 1) ∧ (∀ a ∈ g, H1 a = none ∧ F a = none ∧ a ≠ D) ∧
      compP is h c f (wipeS ρ (own.map (·.2))) (ww.2.drop (i + 1)) = some rest ∧ accW ++ rest = tot, fun H' hW => ⟨m - 1, by omega, by omega, hW⟩, fun x H3 yl => ?_⟩
    obtain ⟨F3, x3, pk3⟩ := hy x H3 yl
    refine ⟨F3, _, x3.FH, pk3, rs, q1, fun us pus _ => ?_⟩
    refine ⟨(wipe_setV his).trans wipe_wipe, ?_⟩
    have x13 := x2.trans x3
    obtain ⟨gu, ru⟩ := pus
    obtain ⟨f1, r1⟩ := RepL.setAll (is := is) (r0.ext x13) ru
    -- how what stands is kept while the heap grows
    have nDk : ∀ {F' H' : Hp}, Ext F2 H2 F' H' → F' D = none := fun {F' H'} x => by
      cases q : F' D with
      | none => rfl
      | some z =>
        rcases x.new D (by rw [q]; simp) with y | y | ⟨ys, y⟩
        · exact absurd nD2 y
        · rw [hD] at y; cases y
        · have := x.FH D _ y
          rw [x.leH _ _ hD] at this; cases this
    have gk : ∀ {F' H' : Hp}, Ext F2 H2 F' H' → ∀ a ∈ g, H1 a = none ∧ F' a = none ∧ a ≠ D := fun {F' H'} x a ha => by
      obtain ⟨k1, k2, k3⟩ := kg a ha
      refine ⟨k1, ?_, k3⟩
      cases q : F' a with
      | none => rfl
      | some z =>
        rcases x.new a (by rw [q]; simp) with y | y | ⟨ys, y⟩
        · exact absurd k2 y
        · exact absurd y (ra.dom a ha)
        · have := x.FH a _ y
          rw [x.keepH (ra.dom a ha)] at this
          exact absurd this (ra.notup a ha ys)
    refine ⟨F3, _, f1, x3.FH, r1, b, q2, fun F4 H4 x4 => ?_⟩
    have x24 := x3.trans x4
    cases b with
    | false =>
      simp only [Bool.false_eq_true, if_false] at q3
      refine iteF ⟨F4, accV, accW, g, rest, x2.trans x24, x24.leH _ _ hD, nDk x24, ra.ext x24, cg, gk x24, q3, et⟩
    | true =>
      simp only [if_true, Option.bind_eq_some_iff, Option.map_eq_some_iff] at q3
      obtain ⟨y, q4, rest', q5, q6⟩ := q3
      refine iteT ⟨F4, _, f1, x4.FH, r1.ext x4, y, q4, fun v F5 H5 x5 nw => ?_⟩
      have x25 := x24.trans x5
      obtain ⟨gy, ry, cy, ky⟩ := nw
      subst q6
      have hlen : accW.length + (rest'.length + 1) = tot.length := by rw [← et]; simp
      have nD5 := nDk x25
      have hD5 : H5 D = some (.lst accV) := x25.leH _ _ hD
      refine ⟨accV, hD5, by rw [ra.length]; omega, ?_⟩
      have gky : ∀ a ∈ gy, a ≠ D := fun a ha z => by subst z; have := (ky _ ha).1; rw [x24.leH _ _ hD] at this; cases this
      have keep : ∀ a, a ≠ D → (L2.upd H5 D (.lst (accV ++ [v]))) a = H5 a := fun a ha => upd_ne ha
      refine ⟨F5, accV ++ [v], accW ++ [y], g ++ gy, rest', ?_, upd_same, nD5, ?_, fun a => ?_, fun a ha => ?_, q5, by rw [← et]; simp⟩
      · have x15 := x2.trans x25
        refine ⟨fun a o ho => by rw [keep a (nD1 a (by rw [ho]; simp))]; exact x15.leH a o ho, x15.leF, fun a o ho => ?_, x15.new⟩
        have : a ≠ D := fun z => by subst z; rw [nD5] at ho; cases ho
        rw [keep a this]; exact x15.FH a o ho
      · have ra5 : Reps F5 (L2.upd H5 D (.lst (accV ++ [v]))) accV accW g := (ra.ext x25).mono (.refl _) fun a ha => keep a (kg a ha).2.2
        have ry5 : Rep F5 (L2.upd H5 D (.lst (accV ++ [v]))) v y gy := ry.mono (.refl _) fun a ha => keep a (gky a ha)
        have := ra5.append (Reps.cons ry5 .nil)
        simpa using this
      · rw [List.count_append]
        have h1 := cg a
        have h2 := cy a
        by_cases z : 0 < g.count a
        · have hd := ra.dom a (mem_of_count z)
          by_cases z2 : 0 < gy.count a
          · have := (ky a (mem_of_count z2)).1
            exact absurd (x24.none this) hd
          · omega
        · omega
      · rcases List.mem_append.mp ha with ha | ha
        · exact gk x25 a ha
        · refine ⟨(x2.trans x24).none (ky a ha).1, (ky a ha).2, gky a ha⟩
  · left
    have e : ww.2.drop i = [] := List.drop_eq_nil_of_le (by omega)
    rw [e] at ec
    cases ec
    simp only [List.append_nil] at et
    subst et
    refine ⟨(src _ _ x2.leF x2.FH (pk.ext x2)).1 i (by omega), ?_⟩
    refine kk _ F2 H2 (x1.trans x2) ⟨D :: g, .low hD ra, fun a => ?_, fun a ha => ?_⟩
    · rw [List.count_cons]
      have := cg a
      by_cases z : D = a
      · subst z
        have : ¬ 0 < g.count D := fun z => (kg D (mem_of_count z)).2.2 rfl
        simp; omega
      · rw [if_neg (by simpa using z)]; omega
    · rcases List.mem_cons.mp ha with rfl | ha
      · exact ⟨x1.none nD, nD2⟩
      · exact ⟨x1.none (kg a ha).1, (kg a ha).2.1⟩
theorem df_comp {src : P WW} {is : List Nat} {h : T} {c : P Bool} {f : P Val} (hc : X.calm = true) (hN : X.N.Nodup) (hi : DIP X tg iter src) (ok : BlkOk X.N X.env.scope scope own)
    (hg : ∀ (s : Shared) (H : Hp) (C : Addr) (cl : List (Str × Addr)) (fp : List Addr), DG (X.blk s H scope (compEnvC scope cl C X.env) fp) tg is h)
    (ht : ∀ (s : Shared) (H : Hp) (C : Addr) (cl : List (Str × Addr)) (fp : List Addr), PTs (X.blk s H scope (compEnvC scope cl C X.env) fp) ifs (tPT c))
    (he : ∀ (s : Shared) (H : Hp) (C : Addr) (cl : List (Str × Addr)) (fp : List Addr), DF (X.blk s H scope (compEnvC scope cl C X.env) fp) elt f)
    (his : ∀ i ∈ is, i ∈ own.map (·.2) := by decide) (hs : ∀ x, foldedSetIterable iter X.env x = pure x := by intro _; rfl) :
    DF X (.ListComp elt [⟨tg, iter, ifs, 0⟩] scope pos) (pComp (own.map (·.2)) is src h c f) := peImp (pe_lc hc hN hi ok hg ht he hs) fun _ _ _ q => pLc_of his q
/-- what does -/
def nE {α : Type} (x : R α) : R α := match x with
  | .ok a ρ => .ok a ρ
  | .err _ _ _ => .bad
  | .bad => .bad
@[simp] theorem nE_ok {α : Type} (a : α) (ρ : Slots) : nE (.ok a ρ) = .ok a ρ := rfl
def compM (vs is : List Nat) (h : T) (c : M Bool) (f : M Val) : List Val → List Val → M (List Val)
  | [], acc, ρ => .ok acc ρ
  | w :: ws, acc, ρ => match h w with
    | none => .bad
    | some rs => if noOwns rs = true then (nE (c (setS ρ is rs))).bind fun b ρ2 => if b = true then (nE (f ρ2)).bind fun y ρ3 => if acc.length < sizeLine then compM vs is h c f ws (acc ++ [y]) (wipeS ρ3 vs) else .bad
      else compM vs is h c f ws acc (wipeS ρ2 vs) else .bad
def mComp (vs is : List Nat) (src : M WW) (h : T) (c : M Bool) (f : M Val) : M Val := fun ρ => (src ρ).bind fun ww ρ1 => (compM vs is h c f ww.2 [] (wipeS ρ1 vs)).bind fun rs ρ2 => .ok (.lst true rs) (wipeS ρ2 vs)
theorem dvts_nil : PTs X [] (tVT X.mg k W (mT pYes)) := ⟨fun pins s σ H Q I ⟨B, F, ρ, τ, θ, sr, hk, p⟩ => pts_nil.run pins s σ H Q I (p F H sr)⟩
theorem mLc_of {src : M WW} {is : List Nat} {h : T} {c : M Bool} {f : M Val} (his : ∀ i ∈ is, i ∈ own.map (·.2)) (hki : ∀ i ∈ own.map (·.2), k ≤ i) {σ : St} {H : Hp} {Q : VK} : tV X.mg k W (mComp (own.map (·.2)) is src h c f) σ H Q → tLc (tI X.mg k W src) (tG is h) (tVT X.mg k W0 c) (tV X.mg k W0 f) (own.map (·.2)) σ H Q := fun ⟨B, F, ρ, τ, θ, s, hk, p⟩ => by
  refine ⟨B, F, ρ, τ, θ, s, hk, (Post.bind p).imp fun ww ρ1 p1 u F1 H1 J s1 src => ?_⟩
  intro D nD
  have hkv : ∀ i ∈ own.map (·.2), B.S0.length ≤ i := fun i hi => by rw [hk]; exact hki i hi
  have hki' : ∀ i ∈ is, B.S0.length ≤ i := fun i hi => hkv i (his i hi)
  -- what the rest of the walk gives
  let fin : R (List Val) → Prop := fun x => Post X.mg W B σ τ θ (x.bind fun rs ρ2 => .ok (.lst true rs) (wipeS ρ2 (own.map (·.2)))) fun w ρ' => ∀ u F' H', SR B F' H' σ ρ' (some u :: τ) (some w :: θ) → Q u H'
  have s0 : SR (B.at F1) F1 (L2.upd H1 D (.lst [])) (wipe σ (own.map (·.2))) (wipeS ρ1 (own.map (·.2))) (some (.ref D) :: some u :: τ) (some (.lst true []) :: some ww.1 :: θ) := by
    have := (SR.gather (us := []) (ws := []) rfl (s1.rebase.wipe hkv) nD).2
    exact this
  refine ⟨fun i m H => i + m = ww.2.length ∧ ∃ F ρ acc, SR (B.at F1) F H (wipe σ (own.map (·.2))) ρ (some (.ref D) :: some u :: τ) (some (.lst true acc) :: some ww.1 :: θ) ∧ fin (compM (own.map (·.2)) is h c f (ww.2.drop i) acc ρ), ⟨ww.2.length, by omega, F1, _, [], s0, by simpa using p1⟩, ?_⟩
  rintro i m H2 ⟨him, F2, ρ2, acc, s2, p2⟩
  by_cases hlt : i < ww.2.length
  · right
    have e : ww.2.drop i = ww.2[i] :: ww.2.drop (i + 1) := List.drop_eq_getElem_cons hlt
    rw [e] at p2
    obtain ⟨hgo, hy⟩ := (src _ _ s2.F0le s2.FH s2.pop.top).2 i ww.2[i] (by simp [hlt])
    refine ⟨hgo, fun H => ∃ F ρ acc, SR (B.at F1) F H (wipe σ (own.map (·.2))) ρ (some (.ref D) :: some u :: τ) (some (.lst true acc) :: some ww.1 :: θ) ∧ fin (compM (own.map (·.2)) is h c f (ww.2.drop (i + 1)) acc ρ), fun H' hW => ⟨m - 1, by omega, by omega, hW⟩, fun x H3 yl => ?_⟩
    obtain ⟨F3, x3, pk3⟩ := hy x H3 yl
    unfold compM at p2
    cases q : h ww.2[i] with
    | none => rw [q] at p2; exact p2.elim
    | some rs =>
      rw [q] at p2
      dsimp only at p2
      by_cases n : noOwns rs = true
      case neg => simp only [n] at p2; exact p2.elim
      case pos =>
      simp only [n, if_true] at p2
      refine ⟨F3, _, x3.FH, pk3, rs, q, fun us pus _ => ?_⟩
      refine ⟨(wipe_setV his).trans wipe_wipe, ?_⟩
      have s3 := (s2.ext x3).setAll pus n hki'
      have ewipe : wipe (setV (wipe σ (own.map (·.2))) is us) (own.map (·.2)) = wipe σ (own.map (·.2)) := (wipe_setV his).trans wipe_wipe
      refine ⟨B.at F1, F3, _, _, _, s3, hk, ?_⟩
      cases qc : c (setS ρ2 is rs) with
      | bad => rw [qc] at p2; exact p2.elim
      | err _ _ _ => rw [qc] at p2; exact p2.elim
      | ok b ρ3 =>
        rw [qc] at p2
        simp only [nE_ok, R.bind_ok] at p2
        intro F4 H4 s4
        cases b with
        | false =>
          simp only [Bool.false_eq_true, if_false] at p2
          have s5 := s4.wipe hkv
          rw [ewipe] at s5
          exact iteF ⟨F4, _, acc, s5, p2⟩
        | true =>
          simp only [if_true] at p2
          refine iteT ⟨B.at F1, F4, ρ3, _, _, s4, hk, ?_⟩
          cases qf : f ρ3 with
          | bad => rw [qf] at p2; exact p2.elim
          | err _ _ _ => rw [qf] at p2; exact p2.elim
          | ok y ρ4 =>
            rw [qf] at p2
            simp only [nE_ok, R.bind_ok] at p2
            intro v F5 H5 s5
            by_cases hsz : acc.length < sizeLine
            case neg => simp only [hsz, if_false] at p2; exact p2.elim
            case pos =>
            simp only [hsz, if_true] at p2
            -- v goes into the list at D
            obtain ⟨f1, f2, s6⟩ := id s5
            obtain ⟨s7, t7, c7, o7, FH7, F07, keep7, dom7, new7, pin7⟩ := s6
            cases t7 with
            | @live _ _ _ _ gy _ ry t7 =>
            cases t7 with
            | @live _ _ _ _ gd g2 rd t7 =>
            cases rd with
            | @low _ accV _ ga hD ra =>
            refine ⟨accV, hD, by rw [ra.length]; exact hsz, ?_⟩
            have keep : ∀ a, a ≠ D → (L2.upd H5 D (.lst (accV ++ [v]))) a = H5 a := fun a ha => upd_ne ha
            have cD := c7 D
            simp only [List.count_append, List.count_cons_self] at cD
            have nin : ∀ {l : List Addr}, l.count D = 0 → ∀ a ∈ l, a ≠ D := fun {l} z a ha e => by subst e; have := count_of_mem ha; omega
            have oD := o7 D (by simp only [List.count_append, List.count_cons_self]; omega)
            have s8 : SR (B.at F1) F5 (L2.upd H5 D (.lst (accV ++ [v]))) (setV (wipe σ (own.map (·.2))) is us) ρ4 (some (.ref D) :: some u :: τ) (some (.lst true (acc ++ [y])) :: some ww.1 :: θ) := by
              refine ⟨f1, (D :: (ga ++ gy)) ++ g2, s7.mono (.refl _) fun a ha => keep a (nin (by omega) a ha), .live (.low upd_same ?_) (t7.mono (.refl _) fun a ha => keep a (nin (by omega) a ha)), fun a => ?_, fun a ha => ?_, fun a o ho => ?_, F07, fun a o h1 h2 => ?_, fun a ha => ?_, new7, pin7⟩
              · have r1 : Reps F5 (L2.upd H5 D (.lst (accV ++ [v]))) accV acc ga := ra.mono (.refl _) fun a ha => keep a (nin (by omega) a ha)
                have r2 : Rep F5 (L2.upd H5 D (.lst (accV ++ [v]))) v y gy := ry.mono (.refl _) fun a ha => keep a (nin (by omega) a ha)
                have := r1.append (Reps.cons r2 .nil)
                simpa using this
              · have := c7 a
                simp only [List.count_append, List.count_cons] at this ⊢
                omega
              · have := o7 a
                simp only [List.count_append, List.count_cons] at this ha
                exact this (by omega)
              · have : a ≠ D := fun z => by subst z; rw [oD.1] at ho; cases ho
                rw [keep a this]; exact FH7 a o ho
              · have : a ≠ D := fun z => by
                  subst z
                  rcases oD.2 with z | z
                  · exact h2 z
                  · rw [h1] at z; cases z
                rw [keep a this]; exact keep7 a o h1 h2
              · have : a ≠ D := fun z => by subst z; rw [upd_same] at ha; cases ha
                rw [keep a this] at ha; exact dom7 a ha
            have s9 := s8.wipe hkv
            rw [ewipe] at s9
            exact ⟨F5, _, acc ++ [y], s9, p2⟩
  · left
    have e : ww.2.drop i = [] := List.drop_eq_nil_of_le (by omega)
    rw [e] at p2
    exact ⟨(src _ _ s2.F0le s2.FH s2.pop.top).1 i (by omega), p2 _ F2 H2 (s1.unbase ((s2.under1).unwipe hkv))⟩
theorem dv_comp {src : M WW} {is : List Nat} {h : T} {c : M Bool} {f : M Val} (hc : X.calm = true) (hN : X.N.Nodup) (hi : DI X k W tg iter src) (ok : BlkOk X.N X.env.scope scope own)
    (hg : ∀ (s : Shared) (H : Hp) (C : Addr) (cl : List (Str × Addr)) (fp : List Addr), DG (X.blk s H scope (compEnvC scope cl C X.env) fp) tg is h)
    (ht : ∀ (s : Shared) (H : Hp) (C : Addr) (cl : List (Str × Addr)) (fp : List Addr), PTs (X.blk s H scope (compEnvC scope cl C X.env) fp) ifs (tVT X.mg k W0 c))
    (he : ∀ (s : Shared) (H : Hp) (C : Addr) (cl : List (Str × Addr)) (fp : List Addr), DV (X.blk s H scope (compEnvC scope cl C X.env) fp) k W0 elt f)
    (his : ∀ i ∈ is, i ∈ own.map (·.2) := by decide) (hki : ∀ i ∈ own.map (·.2), k ≤ i := by decide) (hs : ∀ x, foldedSetIterable iter X.env x = pure x := by intro _; rfl) :
    DV X k W (.ListComp elt [⟨tg, iter, ifs, 0⟩] scope pos) (mComp (own.map (·.2)) is src h c f) := peImp (pe_lc (te := tV X.mg k W0 f) hc hN hi ok hg ht he hs) fun _ _ _ q => mLc_of his hki q
end
end L2.DL

namespace L2.DL
open L2 PyProof.Rows PySem.Spec PySem
/-! ### what a def promises -/
inductive R0 where
  | ok (w : Val)
  | err (c : Str) (pl : Option (Str × Val))
  | bad
inductive R1 where
  | ok (w : Val) (outs : Slots)
  | err (c : Str) (pl : Option (Str × Val)) (outs : Slots)
  | bad
/-- a def that changes nothing of what it is handed -/
def spP (mg : MG) (n : Nat) (m : List Val → R0) : Sp := fun vs H Q E => ∃ F ws, ws.length = n ∧ Le F H ∧ Reps F H vs ws [] ∧ match m ws with
  | .ok w => ∀ u F' H', Ext F H F' H' → Nw F' H H' u w → Q u H'
  | .err c pl => ∀ C d F' H', mg c = some (.ref C) → Ext F H F' H' → XR F' H' pl d → E (.ref C) d H'
  | .bad => False
/-- a def that may change what it is handed and the caller owns -/
def spIO (mg : MG) (n : Nat) (m : List Val → R1) : Sp := fun vs H Q E => ∃ F ws g, ws.length = n ∧ Reps F H vs ws g ∧ (∀ a, g.count a ≤ 1) ∧ (∀ a ∈ g, F a = none) ∧ Le F H ∧ match m ws with
  | .ok w outs => ∀ u F' H', SR ⟨H, F, g, vs⟩ F' H' (vs.map some) outs [some u] [some w] → Q u H'
  | .err c pl outs => ∀ C d F' H', mg c = some (.ref C) → SR ⟨H, F, g, vs⟩ F' H' (vs.map some) outs [] [] → XR F' H' pl d → E (.ref C) d H'
  | .bad => False
def startS (n : Nat) (ws : List Val) : Slots := ws.map some ++ List.replicate (n - ws.length) none
def fnP (n : Nat) (g : G) (ws : List Val) : R0 := match g (startS n ws) with
  | .nx _ => .ok .non
  | .ret w _ => .ok w
  | .err c pl _ => .err c pl
  | _ => .bad
def fnIO (n np : Nat) (g : G) (ws : List Val) : R1 := match g (startS n ws) with
  | .nx ρ => .ok .non (ρ.take np)
  | .ret w ρ => .ok w (ρ.take np)
  | .err c pl ρ => .err c pl (ρ.take np)
  | _ => .bad
section
variable {P : Program} {w : World} {K : PySem.W.Frag} {mg : MG} {base : Heap}
/-- the body of a def has the denotation g -/
def BodyOk (P : Program) (w : World) (K : PySem.W.Frag) (mg : MG) (base : Heap) (N : List Str) (qual : Str) (sc : Scope) (f : Addr) (k : Nat) (body : List Stmt) (np : Nat) (g : G) : Prop :=
  ∀ (cdv : Value) (A : Around) (outer : List Env) (s : Shared) (H : Hp) (E : XK), Room k (A.deeper (envOfC qual sc s.heap.objs.size f cdv)) →
    Takes (cxOf (L2.CX P w) P w K mg base N qual sc f cdv A outer s H E) (fun c d _ H => E c d H) →
    PassesOwn (model P w) (A.deeper (envOfC qual sc s.heap.objs.size f cdv)) (envOfC qual sc s.heap.objs.size f cdv) (cxOf (L2.CX P w) P w K mg base N qual sc f cdv A outer s H E).xe →
    DSs (cxOf (L2.CX P w) P w K mg base N qual sc f cdv A outer s H E) np (fun c d _ H => E c d H) body g
theorem sr_start {F H : Hp} {vs : List V} {ws : List Val} {g : List Addr} {N : List Str} (hl : ws.length ≤ N.length) (r : Reps F H vs ws g) (c : ∀ a, g.count a ≤ 1) (nF : ∀ a ∈ g, F a = none) (hF : Le F H) :
    SR ⟨H, F, g, vs⟩ F H (start N vs) (startS N.length ws) [] [] := by
  have el := r.length
  refine ⟨g, [], ?_, .nil, fun a => by have := c a; simpa using this, fun a ha => ?_, hF, .refl _, fun a o h _ => h, fun a h => h, fun a h => .inl h, fun i v e => ?_⟩
  · have h1 := RepL.of_reps r
    have h2 : RepL F H (List.replicate (N.length - vs.length) (none : Option V)) (List.replicate (N.length - ws.length) none) [] := by
      have := @RepL.nones F H (List.replicate (N.length - vs.length) (none : Option V))
      rw [List.length_replicate] at this
      rw [← el]; exact this
    have := h1.append h2
    simpa [start, startS] using this
  · rw [List.count_nil] at ha
    exact ⟨nF a (mem_of_count (by omega)), .inl (mem_of_count (by omega))⟩
  · have hi : i < vs.length := (List.getElem?_eq_some_iff.mp e).1
    show (start N vs)[i]? = _
    unfold start
    rw [List.getElem?_append_left (by simpa using hi), List.getElem?_map]
    have e' : vs[i]? = some v := e
    rw [e']; rfl
theorem xe_takes {N : List Str} {qual : Str} {sc : Scope} {f : Addr} {cdv : Value} {A : Around} {outer : List Env} {s : Shared} {H : Hp} {E : XK} : Takes (cxOf (L2.CX P w) P w K mg base N qual sc f cdv A outer s H E) (fun c d _ H => E c d H) :=
  takes_of rfl rfl rfl rfl
theorem fn_pure {x qual : Str} {st : Stmt} {f : Addr} {fd : FuncData} {N ps : List Str} {k : Nat} {g : G} (F : Fun K x qual st f fd) (S : FnScope N ps (defScope st)) (hb : BodyOk P w K mg base N qual (defScope st) f k (defBody st) ps.length g) :
    FnOk P w K mg base (L2.CX P w) (k + 1) f fd ps (spP mg ps.length (fnP N.length g)) := by
  refine F.okX S (fun vs H Q E ⟨F, ws, hl, _, r, _⟩ => by rw [r.length]; exact hl) (fun cdv A outer s H vs Q E hr ⟨F, ws, hl, hF, r, p⟩ => ?_)
  refine ⟨_, hb cdv A outer s H E hr xe_takes (passes_of rfl), ⟨H, F, [], vs⟩, F, startS N.length ws, [], [], ?_, by show vs.length = _; rw [r.length]; exact hl, ?_⟩
  · refine sr_start ?_ r (fun a => by simp) (fun a ha => by cases ha) hF
    have := congrArg List.length S.pre
    rw [List.length_take] at this
    omega
  · have key : ∀ {F' H' : Hp} {σ' : St} {ρ' : Slots} {τ θ}, SR ⟨H, F, [], vs⟩ F' H' σ' ρ' τ θ → Ext F H F' H' := fun s => by
      obtain ⟨f1, f2, s⟩ := s
      refine ⟨fun a o h => s.keep a o h (by simp), s.F0, s.FH, fun a h => ?_⟩
      rcases s.new a h with z | z | z | z
      · exact .inl z
      · exact .inr (.inl z)
      · cases z
      · exact .inr (.inr z)
    unfold fnP at p
    cases q : g (startS N.length ws) with
    | nx ρ => rw [q] at p; exact fun σ' F' H' s => p .non F' H' (key s) (.of .non)
    | ret v ρ =>
      rw [q] at p
      intro u σ' F' H' s
      refine p u F' H' (key s) ?_
      obtain ⟨f1, f2, s⟩ := s
      cases s.t with
      | @live _ _ _ _ gg _ h1 t =>
        refine ⟨gg, h1, fun a => by have := s.le1 a; rw [List.count_append] at this; omega, fun a ha => ?_⟩
        obtain ⟨k1, k2⟩ := s.own a (by rw [List.count_append]; have := count_of_mem ha; omega)
        rcases k2 with k2 | k2
        · cases k2
        · exact ⟨k2, k1⟩
    | err c pl ρ => rw [q] at p; exact fun C d σ' F' H' e s r => p C d F' H' e (key s) r
    | brk ρ => rw [q] at p; exact p.elim
    | ct ρ => rw [q] at p; exact p.elim
    | bad => rw [q] at p; exact p.elim
theorem SR.takeP {B : Base} {F H : Hp} {σ : St} {ρ : Slots} {τ : List (Option V)} {θ : Slots} {vs : List V} (s : SR B F H σ ρ τ θ) (e : B.S0 = vs) : SR B F H (vs.map some) (ρ.take vs.length) τ θ := by
  obtain ⟨f1, f2, s⟩ := s
  have hl := s.s.length
  have e1 : σ.take vs.length = vs.map some := by
    apply List.ext_getElem?
    intro i
    by_cases hi : i < vs.length
    · rw [List.getElem?_take_of_lt hi, List.getElem?_map]
      have := s.pin i vs[i] (by rw [e]; simp [hi])
      rw [this]; simp [hi]
    · rw [List.getElem?_eq_none (by rw [List.length_take]; omega), List.getElem?_eq_none (by simp; omega)]
  have hs : RepL F H (σ.take vs.length ++ σ.drop vs.length) (ρ.take vs.length ++ ρ.drop vs.length) f1 := by rw [List.take_append_drop, List.take_append_drop]; exact s.s
  obtain ⟨g1, g2, h1, h2, eg⟩ := RepL.split (by rw [List.length_take, List.length_take, hl]) hs
  rw [e1] at h1
  refine ⟨g1, f2, h1, s.t, fun a => ?_, fun a ha => ?_, s.FH, s.F0, s.keep, s.dom, s.new, fun i v h => ?_⟩
  · have := s.le1 a; rw [eg, List.count_append] at this; omega
  · exact s.own a (by rw [eg, List.count_append]; omega)
  · rw [e] at h
    rw [List.getElem?_map, h]; rfl
theorem fn_io {x qual : Str} {st : Stmt} {f : Addr} {fd : FuncData} {N ps : List Str} {k : Nat} {g : G} (F : Fun K x qual st f fd) (S : FnScope N ps (defScope st)) (hb : BodyOk P w K mg base N qual (defScope st) f k (defBody st) ps.length g) :
    FnOk P w K mg base (L2.CX P w) (k + 1) f fd ps (spIO mg ps.length (fnIO N.length ps.length g)) := by
  refine F.okX S (fun vs H Q E ⟨F, ws, _, hl, r, _⟩ => by rw [r.length]; exact hl) (fun cdv A outer s H vs Q E hr ⟨F, ws, gg, hl, r, c, nF, hF, p⟩ => ?_)
  have hv : vs.length = ps.length := by rw [r.length]; exact hl
  refine ⟨_, hb cdv A outer s H E hr xe_takes (passes_of rfl), ⟨H, F, gg, vs⟩, F, startS N.length ws, [], [], ?_, hv, ?_⟩
  · refine sr_start ?_ r c nF hF
    have := congrArg List.length S.pre
    rw [List.length_take] at this
    omega
  · unfold fnIO at p
    cases q : g (startS N.length ws) with
    | nx ρ => rw [q] at p; exact fun σ' F' H' s => p .non F' H' (by rw [← hv]; exact (s.push (.refl s.FH) (.of .non)).takeP rfl)
    | ret v ρ => rw [q] at p; exact fun u σ' F' H' s => p u F' H' (by rw [← hv]; exact s.takeP rfl)
    | err cc pl ρ => rw [q] at p; exact fun C d σ' F' H' e s r => p C d F' H' e (by rw [← hv]; exact s.takeP rfl) r
    | brk ρ => rw [q] at p; exact p.elim
    | ct ρ => rw [q] at p; exact p.elim
    | bad => rw [q] at p; exact p.elim
end
/-! ### calls of defs that change nothing -/
theorem frzs_length : ∀ ws : List Val, (frzs ws).length = ws.length
  | [] => rfl
  | w :: ws => by simp [frzs, frzs_length ws]
/-- behind a call that only looked: what was shared for it alone is the owner's again -/
theorem lend {F H F' H' : Hp} {us : List V} {ws : List Val} {g : List Addr} (hF : Le F H) (r : Reps F H us ws g) (x : Ext (join F H g) H F' H') (ow : noOwns ws = true ∨ True) :
    ∃ F'', Ext F H F'' H' ∧ (∀ {u : V} {w : Val}, noOwns ws = true ∨ noSh w = true → Nw F' H H' u w → Nw F'' H H' u w) ∧ (∀ {v : V} {w : Val}, noOwns ws = true ∨ noSh w = true → Rep F' H' v w [] → Rep F'' H' v w []) := by
  by_cases n : noOwns ws = true
  · have := r.nofp n
    subst this
    have e : join F H [] = F := by funext a; simp [join]
    rw [e] at x
    exact ⟨F', x, fun _ h => h, fun _ h => h⟩
  · have own : ∀ a, F' a ≠ none → a ∈ g → ownK (F' a) = true := fun a q m => by
      have z := r.kind a m
      cases q2 : H a with
      | none => rw [q2] at z; cases z
      | some o => rw [x.leF a o (by rw [join_mem m, q2]), ← q2]; exact z
    refine ⟨fun a => match F' a with
      | some (.tup xs) => some (.tup xs)
      | some (.frz ob (.tup xs)) => some (.frz ob (.tup xs))
      | _ => F a, ⟨x.leH, fun a o e => ?_, fun a o e => ?_, fun a h => ?_⟩, fun h ⟨gg, ru, c, k⟩ => ?_, fun h ru => ?_⟩
    · have e' := x.leF a o (join_le hF a o e)
      try dsimp only
      rw [e']
      split
      · rename_i q; exact q.symm ▸ rfl
      · rename_i q; exact q.symm ▸ rfl
      · exact e
    ·
      try dsimp only at e
      split at e
      · rename_i xs q; cases e; exact x.FH a _ q
      · rename_i ob xs q; cases e; exact x.FH a _ q
      · exact x.leH a o (hF a o e)
    ·
      try dsimp only at h
      split at h
      · rename_i xs q
        rcases x.new a (by rw [q]; simp) with z | z | ⟨ys, z⟩
        · by_cases m : a ∈ g
          · exact absurd (own a (by rw [q]; simp) m) (by rw [q]; exact Bool.false_ne_true)
          · rw [join_not m] at z; exact .inl z
        · exact .inr (.inl z)
        · refine .inr (.inr ⟨ys, ?_⟩)
          first | (dsimp only; rw [z]) | exact q.symm.trans z
      · rename_i ob xs q
        rcases x.new a (by rw [q]; simp) with z | z | ⟨ys, z⟩
        · by_cases m : a ∈ g
          · exact absurd (own a (by rw [q]; simp) m) (by rw [q]; exact Bool.false_ne_true)
          · rw [join_not m] at z; exact .inl z
        · exact .inr (.inl z)
        · rw [q] at z; cases z
      · exact .inl h
    · rcases h with h | h
      · exact absurd h n
      · refine ⟨gg, ru.unsh (fun a xs e => by first | (dsimp only; rw [e]) | rw [e]) (fun a ob xs e => by first | (dsimp only; rw [e]) | rw [e]) h, c, fun a ha => ⟨(k a ha).1, ?_⟩⟩
        try dsimp only
        rw [(k a ha).2]
        show F a = none
        cases q : F a with
        | none => rfl
        | some o => have := hF a o q; rw [(k a ha).1] at this; cases this
    · rcases h with h | h
      · exact absurd h n
      · exact ru.unsh (fun a xs e => by first | (dsimp only; rw [e]) | rw [e]) (fun a ob xs e => by first | (dsimp only; rw [e]) | rw [e]) h
def callP (m : List Val → R0) (ws : List Val) : Option Val := if noObjs ws = true then (match m (frzs ws) with
  | .ok w => if noOwns ws || noSh w then some w else none
  | _ => none) else none
def plSh (ws : List Val) (pl : Option (Str × Val)) : Bool := noOwns ws || (match pl with
  | none => true
  | some (_, w) => noSh w)
def mCall (m : List Val → R0) (fs : M (List Val)) : M Val := fun ρ => (fs ρ).bind fun ws ρ1 => if noObjs ws = true then (match m (frzs ws) with
  | .ok w => if (noOwns ws || noSh w) = true then .ok w ρ1 else .bad
  | .err c pl => if plSh ws pl = true then .err c pl ρ1 else .bad
  | .bad => .bad) else .bad
section
variable {X : Cx} {k j : Nat} {W : WX} {e : Expr} {es : List Expr} {f : Addr} {fd : FuncData} {ps : List Str} {m : List Val → R0} {x : Str} {p pos : Pos}
theorem df_call {fs : P (List Val)} (G : FnOk X.prog X.w X.K X.mg X.base (L2.CX X.prog X.w) j f fd ps (spP X.mg ps.length m)) (hr : Room j X.A) (hg : Gl X x) (hm : X.mg x = some (.ref f)) (hk : PySem.W.keepIn X.K (.ref f) = true) (hb : Binds X.K fd ps [])
    (hl : ∀ ρ ws, fs ρ = some ws → ws.length = ps.length) (ha : DPs X (e :: es) fs) (hdb : (x == ("__debug__" : Str)) = false := by decide) (he : starEach (e :: es) X.env = (false, eval e X.env) :: starEach es X.env := by rfl) (hpl : (backTo pos (starEach es X.env)).any (·.1) = false := by rfl) :
    DF X (.Call (.Name x p) (e :: es) [] pos) (pOpS (callP m) fs) := peImp (pe_callS (E := fun _ => E0) G hr hg hm hk hb (fun σ pins H s e s' I c => passL pins σ H s e s' I c) ha hdb he hpl) fun σ H Q ⟨F, ρ, fp, hF, r, w, ew, k⟩ => by
  simp only [pOpS, Option.bind_eq_some_iff] at ew
  obtain ⟨ws, e1, e2⟩ := ew
  refine ⟨F, ρ, fp, hF, r, ws, e1, fun us F1 H1 x1 ⟨g, ra⟩ => ?_⟩
  unfold callP at e2
  split at e2
  case isFalse => cases e2
  case isTrue no =>
  refine ⟨join F1 H1 g, frzs ws, by rw [frzs_length]; exact hl _ _ e1, join_H x1.FH, ra.frz (join_le x1.FH) no fun a ha => join_mem ha, ?_⟩
  cases q : m (frzs ws) with
  | ok w' =>
    rw [q] at e2
    (try dsimp only at e2); (try dsimp only)
    split at e2
    case isFalse => cases e2
    case isTrue hc =>
    cases e2
    intro u F' H' x2 n
    obtain ⟨F'', x3, k1, _⟩ := lend x1.FH ra x2 (.inr trivial)
    exact k u F'' H' (x1.trans x3) ((k1 (by simpa using hc) n).ext x1 x3)
  | err c pl => rw [q] at e2; cases e2
  | bad => rw [q] at e2; cases e2
theorem dv_call {fs : M (List Val)} (G : FnOk X.prog X.w X.K X.mg X.base (L2.CX X.prog X.w) j f fd ps (spP X.mg ps.length m)) (hr : Room j X.A) (tk : Takes X W) (hg : Gl X x) (hm : X.mg x = some (.ref f)) (hk : PySem.W.keepIn X.K (.ref f) = true) (hb : Binds X.K fd ps [])
    (hl : ∀ ρ ws ρ', fs ρ = .ok ws ρ' → ws.length = ps.length) (ha : DVs X k W (e :: es) fs) (hdb : (x == ("__debug__" : Str)) = false := by decide) (he : starEach (e :: es) X.env = (false, eval e X.env) :: starEach es X.env := by rfl) (hpl : (backTo pos (starEach es X.env)).any (·.1) = false := by rfl) :
    DV X k W (.Call (.Name x p) (e :: es) [] pos) (mCall m fs) := peImp (pe_callS (E := WE W) G hr hg hm hk hb (fun σ => passAt tk σ) ha hdb he hpl) fun σ H Q ⟨B, F, ρ, τ, θ, s, hk, p⟩ => by
  refine ⟨B, F, ρ, τ, θ, s, hk, ?_⟩
  unfold mCall at p
  cases qf : fs ρ with
  | bad => rw [qf] at p; exact p.elim
  | err c pl ρ1 => rw [qf] at p; exact p
  | ok ws ρ1 =>
    rw [qf] at p
    simp only [R.bind_ok] at p
    intro us F1 H1 el s1
    obtain ⟨g, ra⟩ := s1.tops el
    split at p
    case isFalse => exact p.elim
    case isTrue no =>
    refine ⟨join F1 H1 g, frzs ws, by rw [frzs_length]; exact hl _ _ _ qf, join_H s1.FH, ra.frz (join_le s1.FH) no fun a ha => join_mem ha, ?_⟩
    cases q : m (frzs ws) with
    | ok w' =>
      rw [q] at p
      (try dsimp only at p); (try dsimp only)
      split at p
      case isFalse => exact p.elim
      case isTrue hc =>
      intro u F' H' x2 n
      obtain ⟨F'', x3, k1, _⟩ := lend s1.FH ra x2 (.inr trivial)
      exact p u F'' H' ((s1.push x3 (k1 (by simpa using hc) n)).under (by simpa using el))
    | err c pl =>
      rw [q] at p
      (try dsimp only at p); (try dsimp only)
      split at p
      case isFalse => exact p.elim
      case isTrue hc =>
      intro C d F' H' eC x2 xr
      obtain ⟨F'', x3, _, k2⟩ := lend s1.FH ra x2 (.inr trivial)
      refine p C d F'' H' eC ((s1.ext x3).popN (by simpa using el)) ?_
      cases pl with
      | none => trivial
      | some z =>
        obtain ⟨dd, v, e1, e2, e3⟩ := xr
        exact ⟨dd, v, e1, e2, k2 (by simpa [plSh] using hc) e3⟩
    | bad => rw [q] at p; exact p.elim
end
/-! ### calls of defs that change what the caller owns -/
inductive Link (σ : St) : List V → List (Nat ⊕ Val) → List V → Prop
  | nil : Link σ [] [] []
  | slot {i : Nat} {v : V} {us ts : List V} {as : List (Nat ⊕ Val)} : σ[i]? = some (some v) → Link σ us as ts → Link σ (v :: us) (.inl i :: as) ts
  | val {u : V} {w : Val} {us ts : List V} {as : List (Nat ⊕ Val)} : Link σ us as ts → Link σ (u :: us) (.inr w :: as) (u :: ts)
def vals : List (Nat ⊕ Val) → List Val
  | [] => []
  | .inl _ :: as => vals as
  | .inr w :: as => w :: vals as
def tA (mg : MG) (k : Nat) (W : WX) (f : M (List (Nat ⊕ Val))) : TA := fun σ H Q => ∃ B F ρ τ θ, SR B F H σ ρ τ θ ∧ B.S0.length = k ∧
  Post mg W B σ τ θ (f ρ) fun as ρ' => ∀ us ts F' H', Link σ us as ts → ts.length = (vals as).length → SR B F' H' σ ρ' (ts.map some ++ τ) ((vals as).map some ++ θ) → Q us H'
abbrev DA (X : Cx) (k : Nat) (W : WX) (es : List Expr) (f : M (List (Nat ⊕ Val))) : Prop := PA X es (tA X.mg k W f)
def aNil : M (List (Nat ⊕ Val)) := fun ρ => .ok [] ρ
def aSlot (i : Nat) (fs : M (List (Nat ⊕ Val))) : M (List (Nat ⊕ Val)) := fun ρ => match (ρ[i]?).join with
  | none => .bad
  | some _ => (fs ρ).bind fun as ρ1 => .ok (.inl i :: as) ρ1
def aVal (f : M Val) (fs : M (List (Nat ⊕ Val))) : M (List (Nat ⊕ Val)) := fun ρ => (f ρ).bind fun w ρ1 => (fs ρ1).bind fun as ρ2 => .ok (.inr w :: as) ρ2
section
variable {X : Cx} {k j : Nat} {W : WX} {e : Expr} {es : List Expr} {fs : M (List (Nat ⊕ Val))} {pos : Pos}
theorem da_nil : DA X k W [] aNil := paImp pa_nil fun σ H Q ⟨B, F, ρ, τ, θ, s, hk, p⟩ => p [] [] F H .nil rfl s
theorem da_val {f : M Val} (h1 : DV X k W e f) (h2 : DA X k W es fs) (hs : starEach (e :: es) X.env = (false, eval e X.env) :: starEach es X.env := by rfl) : DA X k W (e :: es) (aVal f fs) := paImp (pa_cons h1 h2 hs) fun σ H Q ⟨B, F, ρ, τ, θ, s, hk, p⟩ => by
  refine ⟨B, F, ρ, τ, θ, s, hk, (Post.bind p).imp fun w ρ1 p1 u F1 H1 s1 => ?_⟩
  refine ⟨B, F1, ρ1, _, _, s1, hk, (Post.bind p1).deep.imp fun as ρ2 p2 us ts F2 H2 lk el s2 => ?_⟩
  exact p2 (u :: us) (u :: ts) F2 H2 (.val lk) (by simp [vals, el]) (s2.torot (by simpa using el))
theorem da_slot (i : Nat) {x : Str} {px : Pos} (h2 : DA X k W es fs) (hN : X.N[i]? = some x := by rfl) (hv : Vis X.env.scope x := by first | exact Or.inl rfl | exact Or.inr (Or.inl rfl) | exact Or.inr (Or.inr rfl)) (hd : (x == ("__debug__" : Str)) = false := by decide)
    (hcd : (x == ("__classdict__" : Str)) = false := by decide) (hs : starEach (.Name x px :: es) X.env = (false, eval (.Name x px) X.env) :: starEach es X.env := by rfl) : DA X k W (.Name x px :: es) (aSlot i fs) := paImp (pa_cons (pe_var hN hv hd hcd) h2 hs) fun σ H Q ⟨B, F, ρ, τ, θ, s, hk, p⟩ => by
  unfold aSlot at p
  cases q : (ρ[i]?).join with
  | none => rw [q] at p; exact p.elim
  | some w =>
    rw [q] at p
    obtain ⟨v, ev, _⟩ := s.get (join_some q)
    exact ⟨v, ev, B, F, ρ, τ, θ, s, hk, (Post.bind p).imp fun as ρ1 p1 us ts F1 H1 lk el s1 => p1 (v :: us) ts F1 H1 (.slot ev lk) el s1⟩
def gatherA : List (Nat ⊕ Val) → Slots → Option (List Val × Slots)
  | [], ρ => some ([], ρ)
  | .inl i :: as, ρ => match (ρ[i]?).join with
    | some w => (gatherA as (ρ.set i none)).map fun q => (w :: q.1, q.2)
    | none => none
  | .inr w :: as, ρ => (gatherA as ρ).map fun q => (w :: q.1, q.2)
def backA : List (Nat ⊕ Val) → Slots → Slots → Slots
  | .inl i :: as, o :: os, ρ => backA as os (ρ.set i o)
  | .inr _ :: as, _ :: os, ρ => backA as os ρ
  | _, _, ρ => ρ
theorem SR.gatherA {B : Base} {F H : Hp} {σ : St} : ∀ {as : List (Nat ⊕ Val)} {us ts : List V} {ρ ρ' : Slots} {ws : List Val} {τ : List (Option V)} {θ : Slots}, Link σ us as ts → ts.length = (vals as).length → SR B F H σ ρ (ts.map some ++ τ) ((vals as).map some ++ θ) → DL.gatherA as ρ = some (ws, ρ') →
    us.length = ws.length ∧ SR B F H σ ρ' (us.map some ++ τ) (ws.map some ++ θ)
  | [], _, _, ρ, ρ', ws, τ, θ, lk, el, s, e => by cases lk; cases e; exact ⟨rfl, s⟩
  | .inl i :: as, _, _, ρ, ρ', ws, τ, θ, lk, el, s, e => by
    cases lk with
    | @slot _ v us ts _ ev lk =>
      unfold DL.gatherA at e
      cases q : (ρ[i]?).join with
      | none => rw [q] at e; cases e
      | some w =>
        rw [q] at e
        simp only [Option.map_eq_some_iff] at e
        obtain ⟨⟨ws', ρ1⟩, e1, e2⟩ := e
        cases e2
        obtain ⟨v', ev', s1⟩ := s.move (join_some q)
        have : v' = v := by rw [ev] at ev'; cases ev'; rfl
        subst this
        have s2 := s1.rot (by simpa [vals] using el)
        obtain ⟨l, s3⟩ := SR.gatherA lk el s2 e1
        exact ⟨by simp [l], s3.torot (by simpa using l)⟩
  | .inr w :: as, _, _, ρ, ρ', ws, τ, θ, lk, el, s, e => by
    cases lk with
    | @val u _ us ts _ lk =>
      unfold DL.gatherA at e
      simp only [Option.map_eq_some_iff] at e
      obtain ⟨⟨ws', ρ1⟩, e1, e2⟩ := e
      cases e2
      have el' : ts.length = (vals as).length := by simpa [vals] using el
      have s2 := SR.rot (ts := ts.map some) (vs := (vals as).map some) (by simpa using el') s
      obtain ⟨l, s3⟩ := SR.gatherA lk el' s2 e1
      exact ⟨by simp [l], s3.torot (by simpa using l)⟩
/-- a root goes back into the slot that it stands in -/
theorem SR.unmove {B : Base} {F H : Hp} {σ : St} {ρ : Slots} {τ : List (Option V)} {θ : Slots} {v : V} {o : Option Val} {i : Nat} (s : SR B F H σ ρ (some v :: τ) (o :: θ)) (ev : σ[i]? = some (some v)) : SR B F H σ (ρ.set i o) τ θ := by
  have es : σ.set i (some v) = σ := by
    apply List.ext_getElem?
    intro j
    rw [List.getElem?_set]
    split
    · rename_i e; subst e
      split
      · exact ev.symm
      · rename_i h2; rw [List.getElem?_eq_none (by omega)]
    · rfl
  obtain ⟨f1, f2, s1, t, c, ow, FH, F0, keep, dom, new, pin⟩ := s
  cases t with
  | dead t =>
    obtain ⟨f', r', c'⟩ := RepL.kill (v := some v) i s1
    rw [es] at r'
    exact ⟨f', f2, r', t, fun a => by have := c a; have := c' a; omega, fun a ha => ow a (by have := c' a; omega), FH, F0, keep, dom, new, pin⟩
  | @live _ _ _ _ g f h1 t =>
    obtain ⟨f', r', c'⟩ := RepL.set h1 i s1
    rw [es] at r'
    exact ⟨f', f, r', t, fun a => by have := c a; have := c' a; rw [List.count_append] at *; omega, fun a ha => ow a (by have := c' a; rw [List.count_append]; omega), FH, F0, keep, dom, new, pin⟩
theorem SR.backA {B : Base} {F H : Hp} {σ : St} : ∀ {as : List (Nat ⊕ Val)} {us ts : List V} {outs ρ : Slots} {τ : List (Option V)} {θ : Slots}, Link σ us as ts → outs.length = us.length → SR B F H σ ρ (us.map some ++ τ) (outs ++ θ) → SR B F H σ (DL.backA as outs ρ) τ θ
  | [], _, _, outs, ρ, τ, θ, lk, el, s => by
    cases lk
    cases outs with
    | nil => exact s
    | cons _ _ => simp at el
  | .inl i :: as, _, _, outs, ρ, τ, θ, lk, el, s => by
    cases lk with
    | @slot _ v us ts _ ev lk =>
      cases outs with
      | nil => simp at el
      | cons o os =>
        show SR B F H σ (DL.backA as os (ρ.set i o)) τ θ
        exact SR.backA lk (by simpa using el) (SR.unmove s ev)
  | .inr w :: as, _, _, outs, ρ, τ, θ, lk, el, s => by
    cases lk with
    | @val u _ us ts _ lk =>
      cases outs with
      | nil => simp at el
      | cons o os =>
        show SR B F H σ (DL.backA as os ρ) τ θ
        exact SR.backA lk (by simpa using el) (SR.pop s)
/-- behind a call: the caller's state again -/
theorem SR.called {B : Base} {F H F' H' : Hp} {σ : St} {ρ : Slots} {us : List V} {ws : List Val} {τ τ2 : List (Option V)} {θ θ2 outs : Slots} {f1 g f : List Addr} (sf : SRf B F H σ ρ (us.map some ++ τ) (ws.map some ++ θ) f1 (g ++ f)) (rf : RepL F H τ θ f)
    (s : SR ⟨H, F, g, us⟩ F' H' (us.map some) outs τ2 θ2) : SR B F' H' σ ρ (τ2 ++ (us.map some ++ τ)) (θ2 ++ (outs ++ θ)) := by
  obtain ⟨f1', f2', s'⟩ := s
  have old : ∀ a, 0 < f1.count a + f.count a → a ∉ g ∧ H' a = H a ∧ F' a = none ∧ f1'.count a + f2'.count a = 0 := fun a ha => by
    have hc := sf.le1 a
    rw [List.count_append] at hc
    have ng : a ∉ g := fun z => by have := count_of_mem z; omega
    have hd : H a ≠ none := sf.domOwn (by rw [List.count_append]; omega)
    have hF := (sf.own a (by rw [List.count_append]; omega)).1
    have e1 : H' a = H a := by
      cases q : H a with
      | none => exact absurd q hd
      | some o => exact s'.keep a o q ng
    have e2 : F' a = none := by
      cases q : F' a with
      | none => rfl
      | some o =>
        rcases s'.new a (by rw [q]; simp) with z | z | z | ⟨ys, z⟩
        · exact absurd hF z
        · exact absurd z hd
        · exact absurd z ng
        · have h3 := s'.FH a _ z
          rw [e1] at h3
          exact absurd h3 (sf.notup (by rw [List.count_append]; omega) ys)
    refine ⟨ng, e1, e2, ?_⟩
    by_cases z : 0 < f1'.count a + f2'.count a
    · rcases (s'.own a z).2 with y | y
      · exact absurd y ng
      · exact absurd y hd
    · omega
  refine ⟨f1, f2' ++ (f1' ++ f), sf.s.mono s'.F0 fun a ha => (old a (by have := count_of_mem ha; omega)).2.1, s'.t.append (s'.s.append (rf.mono s'.F0 fun a ha => (old a (by have := count_of_mem ha; omega)).2.1)), fun a => ?_, fun a ha => ?_, s'.FH, sf.F0.trans s'.F0, fun a o h1 h2 => ?_, fun a h => sf.dom a (s'.dom a h), fun a h => ?_, sf.pin⟩
  · simp only [List.count_append]
    have hc := sf.le1 a
    have hc' := s'.le1 a
    rw [List.count_append] at hc
    by_cases z : 0 < f1.count a + f.count a
    · have := (old a z).2.2.2; omega
    · omega
  · simp only [List.count_append] at ha
    by_cases z : 0 < f1.count a + f.count a
    · exact ⟨(old a z).2.2.1, (sf.own a (by rw [List.count_append]; omega)).2⟩
    · obtain ⟨y1, y2⟩ := s'.own a (by omega)
      refine ⟨y1, ?_⟩
      rcases y2 with y | y
      · have y' : a ∈ g := y
        exact (sf.own a (by rw [List.count_append]; have := count_of_mem y'; omega)).2
      · exact .inr (sf.dom a y)
  · have ng : a ∉ g := fun z => by
      rcases (sf.own a (by rw [List.count_append]; have := count_of_mem z; omega)).2 with y | y
      · exact h2 y
      · rw [h1] at y; cases y
    exact s'.keep a o (sf.keep a o h1 h2) ng
  · rcases s'.new a h with z | z | z | z
    · rcases sf.new a z with y | y | y | ⟨ys, y⟩
      · exact .inl y
      · exact .inr (.inl y)
      · exact .inr (.inr (.inl y))
      · exact .inr (.inr (.inr ⟨ys, s'.F0 a _ y⟩))
    · exact .inr (.inl (sf.dom a z))
    · have z' : a ∈ g := z
      rcases (sf.own a (by rw [List.count_append]; have := count_of_mem z'; omega)).2 with y | y
      · exact .inr (.inr (.inl y))
      · exact .inr (.inl y)
    · exact .inr (.inr (.inr z))
def callIO (m : List Val → R1) (as : List (Nat ⊕ Val)) (ρ1 : Slots) : R Val := match gatherA as ρ1 with
  | none => .bad
  | some (ws, ρ2) => match m ws with
    | .ok w outs => if outs.length = ws.length then .ok w (backA as outs ρ2) else .bad
    | .err c pl outs => if outs.length = ws.length then .err c pl (backA as outs ρ2) else .bad
    | .bad => .bad
def mCallIO (m : List Val → R1) (fs : M (List (Nat ⊕ Val))) : M Val := fun ρ => (fs ρ).bind (callIO m)
theorem link_len {σ : St} : ∀ {us ts : List V} {as : List (Nat ⊕ Val)}, Link σ us as ts → us.length = as.length
  | _, _, _, .nil => rfl
  | _, _, _, .slot _ l => by simp [link_len l]
  | _, _, _, .val l => by simp [link_len l]
theorem dv_callIO {f : Addr} {fd : FuncData} {ps : List Str} {m : List Val → R1} {x : Str} {p : Pos} (G : FnOk X.prog X.w X.K X.mg X.base (L2.CX X.prog X.w) j f fd ps (spIO X.mg ps.length m)) (hr : Room j X.A) (tk : Takes X W) (hg : Gl X x) (hm : X.mg x = some (.ref f)) (hk : PySem.W.keepIn X.K (.ref f) = true) (hb : Binds X.K fd ps [])
    (hl : (e :: es).length = ps.length) (hla : ∀ ρ as ρ', fs ρ = .ok as ρ' → as.length = (e :: es).length) (ha : DA X k W (e :: es) fs) (hdb : (x == ("__debug__" : Str)) = false := by decide) (he : starEach (e :: es) X.env = (false, eval e X.env) :: starEach es X.env := by rfl) (hpl : (backTo pos (starEach es X.env)).any (·.1) = false := by rfl) :
    DV X k W (.Call (.Name x p) (e :: es) [] pos) (mCallIO m fs) := peImp (pe_callS (E := WE W) G hr hg hm hk hb (fun σ => passAt tk σ) ha hdb he hpl) fun σ H Q ⟨B, F, ρ, τ, θ, s, hk, p⟩ => by
  refine ⟨B, F, ρ, τ, θ, s, hk, ?_⟩
  unfold mCallIO at p
  cases qf : fs ρ with
  | bad => rw [qf] at p; exact p.elim
  | err c pl ρ1 => rw [qf] at p; exact p
  | ok as ρ1 =>
    rw [qf] at p
    simp only [R.bind_ok] at p
    intro us ts F1 H1 lk el s1
    unfold callIO at p
    cases qg : gatherA as ρ1 with
    | none => rw [qg] at p; exact p.elim
    | some z =>
      obtain ⟨ws, ρ2⟩ := z
      rw [qg] at p
      dsimp only at p
      obtain ⟨lw, s2⟩ := SR.gatherA lk el s1 qg
      obtain ⟨f1, f2, sf⟩ := s2
      obtain ⟨g, f, hg1, hg2, eg⟩ := RepL.split (by simpa using lw) sf.t
      subst eg
      have cle : ∀ a, g.count a ≤ 1 := fun a => by have := sf.le1 a; rw [List.count_append] at this; omega
      have nF : ∀ a ∈ g, F1 a = none := fun a ha => (sf.own a (by rw [List.count_append]; have := count_of_mem ha; omega)).1
      refine ⟨F1, ws, g, by rw [← lw, link_len lk, hla _ _ _ qf]; exact hl, hg1.reps, cle, nF, sf.FH, ?_⟩
      cases q : m ws with
      | ok w outs =>
        rw [q] at p
        (try dsimp only at p); (try dsimp only)
        split at p
        case isFalse => exact p.elim
        case isTrue ho =>
        intro u F' H' s3
        have s4 := SR.called sf hg2 s3
        have s5 := s4.rot (ts := us.map some) (vs := outs) (by simp [lw, ho])
        exact p u F' H' (SR.backA lk (by rw [ho, lw]) s5)
      | err c pl outs =>
        rw [q] at p
        (try dsimp only at p); (try dsimp only)
        split at p
        case isFalse => exact p.elim
        case isTrue ho =>
        intro C d F' H' eC s3 xr
        have s4 := SR.called sf hg2 s3
        exact p C d F' H' eC (SR.backA lk (by rw [ho, lw]) s4) xr
      | bad => rw [q] at p; exact p.elim
end
end L2.DL

namespace L2.DL
open L2 PyProof.Rows PySem.Spec PySem
/-! ### operators by the kinds of their operands -/
theorem opOr {X : Cx} {f : Value → Value → Sem Value} {r r' : R2} (h : OpR X f r) (h' : OpR X f r') : OpR X f (fun x y H Q => r x y H Q ∨ r' x y H Q) := fun pins s σ H x y v u Q I rx ry q =>
  q.elim (h pins s σ H x y v u Q I rx ry) (h' pins s σ H x y v u Q I rx ry)
theorem Pk.lst {F H : Hp} {u : V} {o : Bool} {ws : List Val} (hF : Le F H) (h : Pk F H u (.lst o ws)) : ∃ a xs, u = .ref a ∧ H a = some (.lst xs) ∧ PkS F H xs ws := by
  obtain ⟨g, r⟩ := h
  cases r with
  | lsh h1 h2 => exact ⟨_, _, rfl, hF _ _ h1, _, h2⟩
  | low h1 h2 => exact ⟨_, _, rfl, h1, _, h2⟩
theorem Pk.tup {F H : Hp} {u : V} {ws : List Val} (h : Pk F H u (.tup ws)) : ∃ a xs, u = .ref a ∧ F a = some (.tup xs) ∧ PkS F H xs ws := by
  obtain ⟨g, r⟩ := h
  cases r with
  | tup h1 h2 => exact ⟨_, _, rfl, h1, _, h2⟩
theorem Pk.tpz {F H : Hp} {u : V} {ws : List Val} (h : Pk F H u (.tpz ws)) : ∃ a ob xs, u = .ref a ∧ F a = some (.frz ob (.tup xs)) ∧ (ob.cls = .type "tuple" ∧ ob.dict = none) ∧ PkS F H xs ws := by
  obtain ⟨g, r⟩ := h
  cases r with
  | tpz h1 h0 h2 => exact ⟨_, _, _, rfl, h1, h0, _, h2⟩
theorem PkS.len {F H : Hp} {us : List V} {ws : List Val} (h : PkS F H us ws) : us.length = ws.length := let ⟨_, r⟩ := h; r.length
theorem PkS.no {F H : Hp} {us : List V} {ws : List Val} (h : PkS F H us ws) (n : noOwns ws = true) : Reps F H us ws [] := by
  obtain ⟨g, r⟩ := h
  have := r.nofp n
  subst this; exact r
theorem fresh_F {F H : Hp} {p : Addr} (hF : Le F H) (np : H p = none) : F p = none := by
  cases q : F p with
  | none => rfl
  | some z => rw [hF p z q] at np; cases np
/-- a new list, a new tuple of things that nobody owns -/
theorem Nw.lst {F H : Hp} {us : List V} {ws : List Val} {p : Addr} (hF : Le F H) (np : H p = none) (r : Reps F H us ws []) : Ext F H F (L2.upd H p (.lst us)) ∧ Nw F H (L2.upd H p (.lst us)) (.ref p) (.lst true ws) := by
  have x := (Ext.laid (o := .lst us) hF np).1
  refine ⟨x, [p], .low upd_same (r.ext x), fun a => ?_, fun a ha => ?_⟩
  · rw [List.count_cons, List.count_nil]; split <;> omega
  · have : a = p := by simpa using ha
    subst this
    exact ⟨np, fresh_F hF np⟩
theorem Nw.tup {F H : Hp} {us : List V} {ws : List Val} {p : Addr} (hF : Le F H) (np : H p = none) (r : Reps F H us ws []) : Ext F H (L2.upd F p (.tup us)) (L2.upd H p (.tup us)) ∧ Nw (L2.upd F p (.tup us)) H (L2.upd H p (.tup us)) (.ref p) (.tup ws) := by
  have x := (Ext.laid (o := .tup us) hF np).2
  exact ⟨x, .of (.tup upd_same (r.ext x))⟩
/-- ints -/
def oInt (h : Int → Int → Val) : Val → Val → Option Val
  | .int i, .int j => some (h i j)
  | _, _ => none
def oIntC (c : Int → Int → Bool) (h : Int → Int → Val) : Val → Val → Option Val
  | .int i, .int j => if c i j = true then some (h i j) else none
  | _, _ => none
theorem vop_int0 {g : Int → Int → V} {h : Int → Int → Val} (r : ∀ i j F H, Rep F H (g i j) (h i j) []) : VOp2 (rI0 g) (oInt h) := fun F H x y wx wy w Q hF px py e k => by
  cases wx <;> cases wy <;> simp [oInt] at e
  subst e
  have := px.int; subst this
  have := py.int; subst this
  exact ⟨_, _, rfl, rfl, k _ F H (.refl hF) (.of (r _ _ F H))⟩
theorem vop_intC {C : Int → Int → Prop} {c : Int → Int → Bool} {g : Int → Int → V} {h : Int → Int → Val} (hc : ∀ i j, c i j = true → C i j) (r : ∀ i j F H, Rep F H (g i j) (h i j) []) : VOp2 (rI C g) (oIntC c h) := fun F H x y wx wy w Q hF px py e k => by
  cases wx <;> cases wy <;> simp [oIntC] at e
  obtain ⟨e1, e2⟩ := e
  subst e2
  have := px.int; subst this
  have := py.int; subst this
  exact ⟨_, _, rfl, rfl, hc _ _ e1, k _ F H (.refl hF) (.of (r _ _ F H))⟩
def oAdd : Val → Val → Option Val
  | .int i, .int j => some (.int (i + j))
  | .str a, .str b => if a.length + b.length ≤ sizeLine then some (.str (a ++ b)) else none
  | .lst _ xs, .lst _ ys => if (noOwns xs && noOwns ys) = true ∧ xs.length + ys.length ≤ sizeLine then some (.lst true (xs ++ ys)) else none
  | .tup xs, .tup ys => if (noOwns xs && noOwns ys) = true ∧ xs.length + ys.length ≤ sizeLine then some (.tup (xs ++ ys)) else none
  | _, _ => none
def rAddAll (K : PySem.W.Frag) : R2 := fun x y H Q => (rI0 fun i j => .int (i + j)) x y H Q ∨ (∃ i j, x = .str i ∧ y = .str j ∧ i.length + j.length ≤ sizeLine ∧ Q (.str (i ++ j)) H) ∨ rCat x y H Q ∨ rCatA K x y H Q
theorem op_addAll {X : Cx} : OpR X (binaryOp .Add) (rAddAll X.K) := opOr op_add (opOr op_add_str (opOr op_cat op_catA))
theorem vop_add {K : PySem.W.Frag} : VOp2 (rAddAll K) oAdd := fun F H x y wx wy w Q hF px py e k => by
  cases wx <;> cases wy <;> simp only [oAdd] at e <;> try (cases e; done)
  · cases e
    have := px.int; subst this
    have := py.int; subst this
    exact .inl ⟨_, _, rfl, rfl, k _ F H (.refl hF) (.of (.int _))⟩
  · split at e
    case isFalse => cases e
    case isTrue h =>
    cases e
    have := px.str; subst this
    have := py.str; subst this
    exact .inr (.inl ⟨_, _, rfl, rfl, h, k _ F H (.refl hF) (.of (.str _))⟩)
  · rename_i xs ys
    split at e
    case isFalse => cases e
    case isTrue h =>
    cases e
    obtain ⟨h1, h2⟩ := h
    simp only [Bool.and_eq_true] at h1
    obtain ⟨a, us, rfl, ha, pu⟩ := px.tup
    obtain ⟨b, vs, rfl, hb, pv⟩ := py.tup
    have ru := pu.no h1.1
    have rv := pv.no h1.2
    refine .inr (.inr (.inr ⟨a, b, us, vs, rfl, rfl, .of (hF _ _ ha), .of (hF _ _ hb), by rw [pu.len, pv.len]; exact h2, fun eu => ?_, fun eu ev => ?_, fun eu ev p np => ?_⟩))
    · subst eu
      have : xs = [] := List.length_eq_zero_iff.mp (by have := pu.len; simpa using this.symm)
      subst this
      exact k _ F H (.refl hF) (.of (.tup hb rv))
    · subst ev
      have : ys = [] := List.length_eq_zero_iff.mp (by have := pv.len; simpa using this.symm)
      subst this
      rw [List.append_nil] at k
      exact k _ F H (.refl hF) (.of (.tup ha ru))
    · obtain ⟨x1, n⟩ := Nw.tup hF np (ru.append rv)
      exact k _ _ _ x1 n
  · split at e
    case isFalse => cases e
    case isTrue h =>
    cases e
    obtain ⟨h1, h2⟩ := h
    simp only [Bool.and_eq_true] at h1
    obtain ⟨a, us, rfl, ha, pu⟩ := px.lst hF
    obtain ⟨b, vs, rfl, hb, pv⟩ := py.lst hF
    have ru := pu.no h1.1
    have rv := pv.no h1.2
    refine .inr (.inr (.inl ⟨a, b, us, vs, rfl, rfl, ha, hb, by rw [pu.len, pv.len]; exact h2, fun p np => ?_⟩))
    obtain ⟨x1, n⟩ := Nw.lst hF np (ru.append rv)
    exact k _ _ _ x1 n
def oSub := oInt fun i j => .int (i - j)
theorem vop_sub : VOp2 (rI0 fun i j => .int (i - j)) oSub := vop_int0 fun _ _ _ _ => .int _
def cMul (i j : Int) : Bool := ltA i (2 ^ 64) || ltA j (2 ^ 64)
def oMul := oIntC cMul fun i j => .int (i * j)
theorem vop_mul : VOp2 (rI CMul fun i j => .int (i * j)) oMul := vop_intC (fun i j h => by
  simp only [cMul, Bool.or_eq_true, ltA_iff] at h
  unfold CMul
  omega) fun _ _ _ _ => .int _
def cDiv (_ j : Int) : Bool := decide (0 < j) && ltA j 18446744073709551616
def oDiv := oIntC cDiv fun i j => .int (i / j)
theorem vop_div : VOp2 (rI CDivW fun i j => .int (i / j)) oDiv := vop_intC (fun i j h => by
  simp only [cDiv, Bool.and_eq_true, ltA_iff, decide_eq_true_eq] at h
  exact wide_div (b := 64) h.1 (by omega) (by decide) (by decide)) fun _ _ _ _ => .int _
def oMod := oIntC (fun _ j => decide (0 < j)) fun i j => .int (i % j)
theorem vop_mod : VOp2 (rI (fun _ j => 0 < j) fun i j => .int (i % j)) oMod := vop_intC (fun i j h => by simpa using h) fun _ _ _ _ => .int _
def cPow (i j : Int) : Bool := decide (0 ≤ j) && ltA j 1000001 && ltA i (2 ^ 64)
def oPow := oIntC cPow fun i j => .int (i ^ j.toNat)
theorem vop_pow : VOp2 (rI CPow fun i j => .int (i ^ j.toNat)) oPow := vop_intC (fun i j h => by
  simp only [cPow, Bool.and_eq_true, ltA_iff, decide_eq_true_eq] at h
  unfold CPow
  omega) fun _ _ _ _ => .int _
def oNeg : Val → Option Val
  | .int i => some (.int (-i))
  | _ => none
theorem vop_neg : VOp1 (rU fun i => .int (-i)) oNeg := fun F H x wx w Q hF px e k => by
  cases wx <;> simp [oNeg] at e
  subst e
  have := px.int; subst this
  exact ⟨_, rfl, k _ F H (.refl hF) (.of (.int _))⟩
/-! ### order -/
def oCmp (h : Int → Int → Bool) (g : List Nat → List Nat → Bool) : Val → Val → Option Val
  | .int i, .int j => some (.bl (h i j))
  | .str a, .str b => some (.bl (g a.cps.toList b.cps.toList))
  | _, _ => none
def rCmp (h : Int → Int → Bool) (g : List Nat → List Nat → Bool) : R2 := fun x y H Q => (rI0 fun i j => .bl (h i j)) x y H Q ∨ ∃ i j, x = .str i ∧ y = .str j ∧ Q (.bl (g i.cps.toList j.cps.toList)) H
theorem vop_cmp {h : Int → Int → Bool} {g : List Nat → List Nat → Bool} : VOp2 (rCmp h g) (oCmp h g) := fun F H x y wx wy w Q hF px py e k => by
  cases wx <;> cases wy <;> simp [oCmp] at e
  · subst e
    have := px.int; subst this
    have := py.int; subst this
    exact .inl ⟨_, _, rfl, rfl, k _ F H (.refl hF) (.of (.bl _))⟩
  · subst e
    have := px.str; subst this
    have := py.str; subst this
    exact .inr ⟨_, _, rfl, rfl, k _ F H (.refl hF) (.of (.bl _))⟩
def oLt := oCmp (fun i j => decide (i < j)) fun a b => decide (a < b)
def oLe := oCmp (fun i j => decide (i ≤ j)) fun a b => !decide (b < a)
def oGt := oCmp (fun i j => decide (j < i)) fun a b => decide (b < a)
def oGe := oCmp (fun i j => decide (j ≤ i)) fun a b => !decide (a < b)
section
variable {X : Cx}
theorem op_ltA : OpR X (compareOp .Lt) (rCmp (fun i j => decide (i < j)) fun a b => decide (a < b)) := opOr op_lt op_lt_str
theorem op_leA : OpR X (compareOp .LtE) (rCmp (fun i j => decide (i ≤ j)) fun a b => !decide (b < a)) := opOr op_le op_le_str
theorem op_gtA : OpR X (compareOp .Gt) (rCmp (fun i j => decide (j < i)) fun a b => decide (b < a)) := opOr op_gt op_gt_str
theorem op_geA : OpR X (compareOp .GtE) (rCmp (fun i j => decide (j ≤ i)) fun a b => !decide (a < b)) := opOr op_ge op_ge_str
end
/-! ### equality -/
def eqB (a b : Val) : Option Bool := (toPy a).bind fun x => (toPy b).bind fun y => if (SeqAt.shaped x && SeqAt.shaped y) = true then some (PyData.eqv x y) else none
def oEq (a b : Val) : Option Val := (eqB a b).map fun c => .bl c
def oNe (a b : Val) : Option Val := (eqB a b).map fun c => .bl (!c)
theorem vop_eq {K : PySem.W.Frag} : VOp2 (rEqD K) oEq := fun F H x y wx wy w Q hF ⟨g, rx⟩ ⟨g', ry⟩ e k => by
  simp only [oEq, eqB, Option.map_eq_some_iff, Option.bind_eq_some_iff] at e
  obtain ⟨c, ⟨a, e1, b, e2, e3⟩, e4⟩ := e
  split at e3
  case isFalse => cases e3
  case isTrue h =>
  cases e3; subst e4
  simp only [Bool.and_eq_true] at h
  exact ⟨a, b, rx.dp hF e1, ry.dp hF e2, h.1, h.2, k _ F H (.refl hF) (.of (.bl _))⟩
theorem vop_ne {K : PySem.W.Frag} : VOp2 (rNeD K) oNe := fun F H x y wx wy w Q hF ⟨g, rx⟩ ⟨g', ry⟩ e k => by
  simp only [oNe, eqB, Option.map_eq_some_iff, Option.bind_eq_some_iff] at e
  obtain ⟨c, ⟨a, e1, b, e2, e3⟩, e4⟩ := e
  split at e3
  case isFalse => cases e3
  case isTrue h =>
  cases e3; subst e4
  simp only [Bool.and_eq_true] at h
  exact ⟨a, b, rx.dp hF e1, ry.dp hF e2, h.1, h.2, k _ F H (.refl hF) (.of (.bl _))⟩
/-- is None -/
def oIsN (a b : Val) : Option Val := match b with
  | .non => some (.bl (match a with
    | .non => true
    | .raw v => decide (v = .non)
    | _ => false))
  | _ => none
def oNotN (a b : Val) : Option Val := match b with
  | .non => some (.bl (match a with
    | .non => false
    | .raw v => !decide (v = .non)
    | _ => true))
  | _ => none
theorem vop_isN : VOp2 (fun x y H Q => y = .non ∧ Q (.bl (decide (x = .non))) H) oIsN := fun F H x y wx wy w Q hF ⟨g, rx⟩ ⟨g', ry⟩ e k => by
  cases wy <;> simp [oIsN] at e
  subst e
  cases ry
  refine ⟨rfl, ?_⟩
  cases rx <;> exact k _ F H (.refl hF) (.of (.bl _))
/-! ### in -/
def atom : Val → Option V
  | .non => some .non
  | .bl b => some (.bl b)
  | .int i => some (.int i)
  | .str s => some (.str s)
  | _ => none
def atoms : List Val → Option (List V)
  | [] => some []
  | w :: ws => (atom w).bind fun v => (atoms ws).map fun vs => v :: vs
theorem atom_rep {F H : Hp} {w : Val} {v u : V} {g : List Addr} (e : atom w = some v) (r : Rep F H u w g) : u = v ∧ flatV v = true := by
  cases w <;> simp [atom] at e <;> subst e <;> cases r <;> exact ⟨rfl, rfl⟩
theorem atoms_rep {F H : Hp} : ∀ {ws : List Val} {vs us : List V} {g : List Addr}, atoms ws = some vs → Reps F H us ws g → us = vs ∧ vs.all flatV = true
  | [], _, _, _, e, r => by cases e; cases r; exact ⟨rfl, rfl⟩
  | w :: ws, _, _, _, e, r => by
    simp only [atoms, Option.bind_eq_some_iff, Option.map_eq_some_iff] at e
    obtain ⟨v, e1, vs, e2, rfl⟩ := e
    cases r with
    | cons r1 r2 =>
      obtain ⟨rfl, f1⟩ := atom_rep e1 r1
      obtain ⟨rfl, f2⟩ := atoms_rep e2 r2
      exact ⟨rfl, by simp [f1, f2]⟩
def strIn (a b : Str) : Bool := match a.cps.toList with
  | [c] => decide (c ∈ b.cps.toList)
  | _ => !(Builtin.Str.occurrences b a 0 b.length 1).isEmpty
theorem strIn_cases (a b : Str) : (∃ c, a = ⟨#[c]⟩ ∧ strIn a b = decide (c ∈ b.cps.toList)) ∨ strIn a b = !(Builtin.Str.occurrences b a 0 b.length 1).isEmpty := by
  unfold strIn
  split
  · rename_i c h
    refine .inl ⟨c, ?_, rfl⟩
    cases a with
    | mk cps =>
      have : cps = #[c] := Array.toList_inj.mp (by simpa using h)
      rw [this]
  · exact .inr rfl
def inB : Val → Val → Option Bool
  | .str a, .str b => some (strIn a b)
  | x, .tup ys => (atom x).bind fun v => (atoms ys).map fun vs => inV v vs
  | x, .tpz ys => (atom x).bind fun v => (atoms ys).map fun vs => inV v vs
  | x, .lst _ ys => match (atom x), (atoms ys) with
    | some v, some vs => some (inV v vs)
    | _, _ => (toPy x).bind fun d => (toPys ys).bind fun ds => if (SeqAt.shaped d && SeqAt.shaped (.list ds)) = true then some (ds.any fun z => PyData.eqv z d) else none
  | _, _ => none
def oIn (x y : Val) : Option Val := (inB x y).map fun c => .bl c
def oNotIn (x y : Val) : Option Val := (inB x y).map fun c => .bl (!c)
def rInAll (K : PySem.W.Frag) : R2 := fun x y H Q => (∃ (c : Nat) (z : Str), x = .str ⟨#[c]⟩ ∧ y = .str z ∧ Q (.bl (decide (c ∈ z.cps.toList))) H) ∨ (∃ i j, x = .str i ∧ y = .str j ∧ Q (.bl (!(Builtin.Str.occurrences j i 0 j.length 1).isEmpty)) H) ∨ rIn K false x y H Q ∨ rInD K x y H Q
def rNotInAll (K : PySem.W.Frag) : R2 := fun x y H Q => (∃ (c : Nat) (z : Str), x = .str ⟨#[c]⟩ ∧ y = .str z ∧ Q (.bl (!decide (c ∈ z.cps.toList))) H) ∨ (∃ i j, x = .str i ∧ y = .str j ∧ Q (.bl (!(!(Builtin.Str.occurrences j i 0 j.length 1).isEmpty))) H) ∨ rIn K true x y H Q ∨ rNotInD K x y H Q
theorem op_inAll {X : Cx} (hu : X.A.units + 65 < cLine) : OpR X (compareOp .In) (rInAll X.K) := opOr op_in_sign (opOr op_in_str (opOr op_in_seq (op_inD hu)))
theorem op_notInAll {X : Cx} (hu : X.A.units + 65 < cLine) : OpR X (compareOp .NotIn) (rNotInAll X.K) := opOr op_notIn_sign (opOr op_notin_str (opOr op_notIn_seq (op_notInD hu)))
theorem vop_inG {K : PySem.W.Frag} {neg : Bool} {r : R2} (hr : ∀ x y H Q, ((∃ (c : Nat) (z : Str), x = .str ⟨#[c]⟩ ∧ y = .str z ∧ Q (.bl (if neg then !decide (c ∈ z.cps.toList) else decide (c ∈ z.cps.toList))) H) ∨ (∃ i j, x = .str i ∧ y = .str j ∧ Q (.bl (if neg then !(!(Builtin.Str.occurrences j i 0 j.length 1).isEmpty) else !(Builtin.Str.occurrences j i 0 j.length 1).isEmpty)) H) ∨ rIn K neg x y H Q ∨
    ∃ d ds, Dp K H x d ∧ Dp K H y (.list ds) ∧ SeqAt.shaped d = true ∧ SeqAt.shaped (.list ds) = true ∧ Q (.bl (if neg then !ds.any fun z => PyData.eqv z d else ds.any fun z => PyData.eqv z d)) H) → r x y H Q) :
    VOp2 r (fun x y => (inB x y).map fun c => .bl (if neg then !c else c)) := fun F H x y wx wy w Q hF px py e k => by
  simp only [Option.map_eq_some_iff] at e
  obtain ⟨c, e1, e2⟩ := e
  subst e2
  apply hr
  cases wy with
  | str b =>
    cases wx <;> simp [inB] at e1
    rename_i a
    have := px.str; subst this
    have := py.str; subst this
    have kk := k _ F H (.refl hF) (.of (.bl (if neg then !c else c)))
    rcases strIn_cases a b with ⟨d, ha, hd⟩ | hd
    · rw [e1] at hd
      subst hd
      exact .inl ⟨d, b, by rw [ha], rfl, kk⟩
    · rw [e1] at hd
      subst hd
      exact .inr (.inl ⟨_, _, rfl, rfl, kk⟩)
  | tup ys =>
    replace e1 : ((atom wx).bind fun v => (atoms ys).map fun vs => inV v vs) = some c := by cases wx <;> exact e1
    simp only [Option.bind_eq_some_iff, Option.map_eq_some_iff] at e1
    obtain ⟨v, e3, vs, e2, rfl⟩ := e1
    obtain ⟨b, us, rfl, hb, g, ru⟩ := py.tup
    obtain ⟨g', rx⟩ := px
    obtain ⟨rfl, f1⟩ := atom_rep e3 rx
    obtain ⟨rfl, f2⟩ := atoms_rep e2 ru
    exact .inr (.inr (.inl ⟨b, us, rfl, .inr (.of (hF _ _ hb)), f1, f2, k _ F H (.refl hF) (.of (.bl _))⟩))
  | tpz ys =>
    replace e1 : ((atom wx).bind fun v => (atoms ys).map fun vs => inV v vs) = some c := by cases wx <;> exact e1
    simp only [Option.bind_eq_some_iff, Option.map_eq_some_iff] at e1
    obtain ⟨v, e3, vs, e2, rfl⟩ := e1
    obtain ⟨b, ob, us, rfl, hb, h0, g, ru⟩ := py.tpz
    obtain ⟨g', rx⟩ := px
    obtain ⟨rfl, f1⟩ := atom_rep e3 rx
    obtain ⟨rfl, f2⟩ := atoms_rep e2 ru
    exact .inr (.inr (.inl ⟨b, us, rfl, .inr (.inl (.inr ⟨_, hF _ _ hb⟩)), f1, f2, k _ F H (.refl hF) (.of (.bl _))⟩))
  | lst o ys =>
    obtain ⟨b, us, rfl, hb, g, ru⟩ := py.lst hF
    replace e1 : (match (atom wx), (atoms ys) with
      | some v, some vs => some (inV v vs)
      | _, _ => (toPy wx).bind fun d => (toPys ys).bind fun ds => if (SeqAt.shaped d && SeqAt.shaped (.list ds)) = true then some (ds.any fun z => PyData.eqv z d) else none) = some c := by cases wx <;> exact e1
    split at e1
    · rename_i v vs q1 q2
      cases e1
      obtain ⟨g', rx⟩ := px
      obtain ⟨rfl, f1⟩ := atom_rep q1 rx
      obtain ⟨rfl, f2⟩ := atoms_rep q2 ru
      exact .inr (.inr (.inl ⟨b, us, rfl, .inl (.of hb), f1, f2, k _ F H (.refl hF) (.of (.bl _))⟩))
    · simp only [Option.bind_eq_some_iff] at e1
      obtain ⟨d, e1, ds, e2, e3⟩ := e1
      split at e3
      case isFalse => cases e3
      case isTrue h =>
      cases e3
      simp only [Bool.and_eq_true] at h
      obtain ⟨g', rx⟩ := px
      exact .inr (.inr (.inr ⟨d, ds, rx.dp hF e1, .lst (.of hb) (ru.dp hF e2), h.1, h.2, k _ F H (.refl hF) (.of (.bl _))⟩))
  | _ => cases wx <;> simp [inB] at e1
theorem vop_in {K : PySem.W.Frag} : VOp2 (rInAll K) oIn := vop_inG (neg := false) fun x y H Q h => h
theorem vop_notIn {K : PySem.W.Frag} : VOp2 (rNotInAll K) oNotIn := vop_inG (neg := true) fun x y H Q h => h
/-! ### items, slices, len -/
def oIx : Val → Val → Option Val
  | .lst _ ws, .int i => atI ws i
  | .tup ws, .int i => atI ws i
  | .tpz ws, .int i => atI ws i
  | .str s, .int i => if s.length ≤ sizeLine then (atI s.cps.toList i).map fun c => .str ⟨#[c]⟩ else none
  | _, _ => none
theorem atI_rep {F H : Hp} {us : List V} {ws : List Val} {i : Int} {w : Val} (p : PkS F H us ws) (e : atI ws i = some w) : ∃ u, atI us i = some u ∧ Pk F H u w := by
  obtain ⟨g, r⟩ := p
  unfold atI at e ⊢
  rw [r.length]
  simp only [Option.bind_eq_some_iff] at e ⊢
  obtain ⟨j, e1, e2⟩ := e
  obtain ⟨v, g', e3, rv, _⟩ := r.get e2
  exact ⟨v, ⟨j, e1, e3⟩, g', rv⟩
theorem vix {K : PySem.W.Frag} : VIx (rIx K) oIx := fun F H x y wx wy w Q hF px py e k => by
  cases wx <;> cases wy <;> simp only [oIx] at e <;> try (cases e; done)
  · have := px.str; subst this
    have := py.int; subst this
    split at e
    case isFalse => cases e
    case isTrue h =>
    simp only [Option.map_eq_some_iff] at e
    obtain ⟨c, e1, rfl⟩ := e
    exact .inr (.inr ⟨_, _, c, rfl, rfl, h, e1, k _ ⟨_, .str _⟩⟩)
  · obtain ⟨a, us, rfl, ha, pu⟩ := px.tup
    have := py.int; subst this
    obtain ⟨u, e1, pu'⟩ := atI_rep pu e
    exact .inr (.inl ⟨a, us, _, u, rfl, rfl, .of (hF _ _ ha), e1, k u pu'⟩)
  · obtain ⟨a, us, rfl, ha, pu⟩ := px.lst hF
    have := py.int; subst this
    obtain ⟨u, e1, pu'⟩ := atI_rep pu e
    exact .inl ⟨a, us, _, u, rfl, rfl, .of ha, e1, k u pu'⟩
  · obtain ⟨a, ob, us, rfl, ha, h0, pu⟩ := px.tpz
    have := py.int; subst this
    obtain ⟨u, e1, pu'⟩ := atI_rep pu e
    exact .inr (.inl ⟨a, us, _, u, rfl, rfl, .inl (.inr ⟨_, hF _ _ ha⟩), e1, k u pu'⟩)
/-- the keys of dicts -/
def keyV : Val → Option Key
  | .int i => some (.inl i)
  | .str s => some (.inr s)
  | _ => none
def keysV : List Val → Option (List Key)
  | [] => some []
  | w :: ws => (keyV w).bind fun k => (keysV ws).map fun ks => k :: ks
theorem keyV_rep {F H : Hp} {w : Val} {k : Key} {u : V} {g : List Addr} (e : keyV w = some k) (r : Rep F H u w g) : u = kV k := by
  cases w <;> simp [keyV] at e <;> subst e <;> cases r <;> rfl
theorem keysV_rep {F H : Hp} : ∀ {ws : List Val} {ks : List Key} {us : List V} {g : List Addr}, keysV ws = some ks → Reps F H us ws g → us = ks.map kV
  | [], _, _, _, e, r => by cases e; cases r; rfl
  | w :: ws, _, _, _, e, r => by
    simp only [keysV, Option.bind_eq_some_iff, Option.map_eq_some_iff] at e
    obtain ⟨k, e1, ks, e2, rfl⟩ := e
    cases r with
    | cons r1 r2 => rw [keyV_rep e1 r1, keysV_rep e2 r2]; rfl
def lookL {κ : Type} [DecidableEq κ] : List κ → List Val → κ → Option Val
  | k' :: ks, w :: ws, k => if k' = k then some w else lookL ks ws k
  | _, _, _ => none
theorem lookL_rep {κ : Type} [DecidableEq κ] {F H : Hp} {k : κ} : ∀ {ks : List κ} {us : List V} {ws : List Val} {g : List Addr}, ks.length = us.length → Reps F H us ws g → (∀ w, lookL ks ws k = some w → ∃ u, valV (ks.zip us) k = some u ∧ Pk F H u w) ∧ (lookL ks ws k = none → valV (ks.zip us) k = none)
  | [], us, ws, g, el, r => by
    cases us with
    | nil => exact ⟨fun w e => (by unfold lookL at e; cases e), fun _ => rfl⟩
    | cons _ _ => simp at el
  | k' :: ks, us, ws, g, el, r => by
    cases r with
    | nil => simp at el
    | @cons u us w ws _ _ r1 r2 =>
      have ih := lookL_rep (k := k) (by simpa using el) r2
      show (∀ w', (if k' = k then some w else lookL ks ws k) = some w' → ∃ u', valV ((k', u) :: ks.zip us) k = some u' ∧ Pk F H u' w') ∧ ((if k' = k then some w else lookL ks ws k) = none → valV ((k', u) :: ks.zip us) k = none)
      by_cases h : k' = k
      · rw [if_pos h, valV_pos (p := (k', u)) h]
        exact ⟨fun w' e => (by cases e; exact ⟨u, rfl, _, r1⟩), fun e => (by cases e)⟩
      · rw [if_neg h, valV_neg (p := (k', u)) h]
        exact ih
/-- what a dict gives for a key -/
def dGet : Val → Val → Option (Option Val)
  | .dT _ ks ws, .tup kw => (keysV kw).map fun k => lookL ks ws k
  | .dK _ ks ws, kw => (keyV kw).map fun k => lookL ks ws k
  | _, _ => none
theorem dGet_rep {F H : Hp} {x y : V} {wx wy : Val} {o : Option Val} (hF : Le F H) (px : Pk F H x wx) (py : Pk F H y wy) (e : dGet wx wy = some o) : ∃ a r, x = .ref a ∧ IsD H a ∧ DGet H a y r ∧ (∀ w, o = some w → ∃ u, r = some u ∧ Pk F H u w) ∧ (o = none → r = none) := by
  cases wx with
  | dT ow ks ws =>
    cases wy <;> simp [dGet] at e
    obtain ⟨k, e1, rfl⟩ := e
    obtain ⟨b, us, rfl, hb, g, ru⟩ := py.tup
    have ek := keysV_rep e1 ru
    subst ek
    obtain ⟨g', rx⟩ := px
    obtain ⟨a, xs, h1, hl, g2, r2, rfl⟩ : ∃ a xs, H a = some (.dT (ks.zip xs)) ∧ ks.length = xs.length ∧ ∃ g2, Reps F H xs ws g2 ∧ x = .ref a := by
      cases rx with
      | tsh h1 hl h2 => exact ⟨_, _, hF _ _ h1, hl, _, h2, rfl⟩
      | tow h1 hl h2 => exact ⟨_, _, h1, hl, _, h2, rfl⟩
    obtain ⟨k1, k2⟩ := lookL_rep (k := k) hl r2
    exact ⟨a, _, rfl, .inr ⟨_, .inl h1⟩, .t h1 (hF _ _ hb), k1, k2⟩
  | dK ow ks ws =>
    replace e : ((keyV wy).map fun k => lookL ks ws k) = some o := by cases wy <;> exact e
    simp only [Option.map_eq_some_iff] at e
    obtain ⟨k, e1, rfl⟩ := e
    obtain ⟨gy, ry⟩ := py
    have ek := keyV_rep e1 ry
    subst ek
    obtain ⟨g', rx⟩ := px
    obtain ⟨a, xs, h1, hl, g2, r2, rfl⟩ : ∃ a xs, H a = some (.dK (ks.zip xs)) ∧ ks.length = xs.length ∧ ∃ g2, Reps F H xs ws g2 ∧ x = .ref a := by
      cases rx with
      | ksh h1 hl h2 => exact ⟨_, _, hF _ _ h1, hl, _, h2, rfl⟩
      | kow h1 hl h2 => exact ⟨_, _, h1, hl, _, h2, rfl⟩
    obtain ⟨k1, k2⟩ := lookL_rep (k := k) hl r2
    exact ⟨a, _, rfl, .inl ⟨_, .inl h1⟩, .k h1, k1, k2⟩
  | _ => cases wy <;> simp [dGet] at e
def isDict : Val → Bool
  | .dT _ _ _ => true
  | .dK _ _ _ => true
  | _ => false
def oSubs (x y : Val) : Option Val := if isDict x = true then (dGet x y).bind id else oIx x y
section
variable {X : Cx} {a b c : Expr} {fa fb fc : P Val} {pos p2 apos cpos : Pos}
theorem dp_sub (hu : X.A.units + 1 < cLine) (ha : DP X a fa) (hb : DP X b fb) (hs : PlainIx b) (hs2 : NoSl b) : DP X (.Subscript a b pos) (pOp2 oSubs fa fb) := peCase fun σ H Q h => by
  obtain ⟨F, ρ, fp, hF, rr, w, ew, k⟩ := h
  unfold pOp2 at ew
  simp only [Option.bind_eq_some_iff] at ew
  obtain ⟨x, e1, y, e2, e3⟩ := ew
  unfold oSubs at e3
  by_cases hd : isDict x = true
  · rw [if_pos hd] at e3
    simp only [Option.bind_eq_some_iff, id] at e3
    obtain ⟨o, e3, e4⟩ := e3
    refine ⟨_, pe_dget hu ha hb hs2, F, ρ, fp, hF, rr, x, e1, fun u F1 H1 x1 p1 => ?_⟩
    refine ⟨F1, ρ, fp, x1.FH, rr.ext x1, y, e2, fun v F2 H2 x2 p2 => ?_⟩
    obtain ⟨ad, r, rfl, _, dg, k1, _⟩ := dGet_rep x2.FH (p1.ext x2) p2 e3
    obtain ⟨u', rfl, pu⟩ := k1 w e4
    exact ⟨ad, u', rfl, dg, k u' F2 H2 (x1.trans x2) pu⟩
  · rw [if_neg hd] at e3
    refine ⟨_, pe_ix ix_seq ha hb hs, F, ρ, fp, hF, rr, x, e1, fun u F1 H1 x1 p1 => ?_⟩
    refine ⟨F1, ρ, fp, x1.FH, rr.ext x1, y, e2, fun v F2 H2 x2 p2 => ?_⟩
    exact vix F2 H2 u v x y w Q x2.FH (p1.ext x2) p2 e3 fun z n => k z F2 H2 (x1.trans x2) n
/-- d.get(k, x) -/
def pGet2 (fa fb fc : P Val) : P Val := fun ρ => (fa ρ).bind fun x => (fb ρ).bind fun y => (fc ρ).bind fun z => (dGet x y).map fun o => o.getD z
theorem dp_get2 (hu : X.A.units + 1 < cLine) (ha : DP X a fa) (hb : DP X b fb) (hc : DP X c fc) (m : M2 X a "get" apos b c cpos) : DP X (.Call (.Attribute a "get" apos) [b, c] [] cpos) (pGet2 fa fb fc) := peImp (pe_dget2 hu ha hb hc m) fun σ H Q h => by
  obtain ⟨F, ρ, fp, hF, rr, w, ew, k⟩ := h
  unfold pGet2 at ew
  simp only [Option.bind_eq_some_iff, Option.map_eq_some_iff] at ew
  obtain ⟨x, e1, y, e2, z, e3, o, e4, e5⟩ := ew
  refine ⟨F, ρ, fp, hF, rr, x, e1, fun u F1 H1 x1 p1 => ?_⟩
  have isd : ∃ ad, u = .ref ad ∧ IsD H1 ad := by
    obtain ⟨g, rx⟩ := p1
    cases x with
    | dT ow ks ws =>
      cases rx with
      | tsh h1 hl h2 => exact ⟨_, rfl, .inr ⟨_, .inl (x1.FH _ _ h1)⟩⟩
      | tow h1 hl h2 => exact ⟨_, rfl, .inr ⟨_, .inl h1⟩⟩
    | dK ow ks ws =>
      cases rx with
      | ksh h1 hl h2 => exact ⟨_, rfl, .inl ⟨_, .inl (x1.FH _ _ h1)⟩⟩
      | kow h1 hl h2 => exact ⟨_, rfl, .inl ⟨_, .inl h1⟩⟩
    | _ => cases y <;> simp [dGet] at e4
  obtain ⟨ad, rfl, hd⟩ := isd
  refine ⟨ad, rfl, hd, F1, ρ, fp, x1.FH, rr.ext x1, y, e2, fun v F2 H2 x2 p2 => ?_⟩
  refine ⟨F2, ρ, fp, x2.FH, rr.ext (x1.trans x2), z, e3, fun t F3 H3 x3 p3 => ?_⟩
  obtain ⟨ad', r, e6, _, dg, k1, k2⟩ := dGet_rep x3.FH (p1.ext (x2.trans x3)) (p2.ext x3) e4
  cases e6
  refine ⟨r, dg, ?_⟩
  have x13 := (x1.trans x2).trans x3
  cases o with
  | none => rw [k2 rfl]; subst e5; exact k t F3 H3 x13 p3
  | some w' =>
    obtain ⟨u', rfl, pu⟩ := k1 w' rfl
    subst e5
    exact k u' F3 H3 x13 pu
end
def oLen : List Val → Option Val
  | [.lst _ ws] => some (.int ws.length)
  | [.tup ws] => some (.int ws.length)
  | [.tpz ws] => some (.int ws.length)
  | [.str s] => if s.length ≤ sizeLine then some (.int s.length) else none
  | _ => none
theorem vlen {K : PySem.W.Frag} : VOpS (fun xs H Q => ∃ x n, xs = [x] ∧ LenV K x H n ∧ Q (.int n) H) oLen := fun F H xs ws w Q hF p e k => by
  match ws, e with
  | [.lst o vs], e =>
    cases e
    obtain ⟨u, rfl, pu⟩ := p.one
    obtain ⟨a, us, rfl, ha, pus⟩ := pu.lst hF
    refine ⟨_, _, rfl, .inl ⟨us, .of ha, rfl⟩, ?_⟩
    rw [pus.len]
    exact k _ F H (.refl hF) (.of (.int _))
  | [.tup vs], e =>
    cases e
    obtain ⟨u, rfl, pu⟩ := p.one
    obtain ⟨a, us, rfl, ha, pus⟩ := pu.tup
    refine ⟨_, _, rfl, .inr ⟨us, .of (hF _ _ ha), rfl⟩, ?_⟩
    rw [pus.len]
    exact k _ F H (.refl hF) (.of (.int _))
  | [.tpz vs], e =>
    cases e
    obtain ⟨u, rfl, pu⟩ := p.one
    obtain ⟨a, ob, us, rfl, ha, h0, pus⟩ := pu.tpz
    refine ⟨_, _, rfl, .inr ⟨us, .inl (.inr ⟨_, hF _ _ ha⟩), rfl⟩, ?_⟩
    rw [pus.len]
    exact k _ F H (.refl hF) (.of (.int _))
  | [.str s], e =>
    simp only [oLen] at e
    split at e
    case isFalse => cases e
    case isTrue h =>
    cases e
    obtain ⟨u, rfl, pu⟩ := p.one
    have := pu.str; subst this
    exact ⟨_, _, rfl, ⟨h, rfl⟩, k _ F H (.refl hF) (.of (.int _))⟩
def cutW (xs : List Val) (lo hi : Option Int) : List Val := (xs.drop (HT.sIx xs.length 0 lo)).take (HT.sIx xs.length xs.length hi - HT.sIx xs.length 0 lo)
theorem Reps.dropE {F H : Hp} : ∀ {us : List V} {ws : List Val} {g : List Addr} (n : Nat), Reps F H us ws g → ∃ g', Reps F H (us.drop n) (ws.drop n) g' ∧ ∀ a ∈ g', a ∈ g
  | _, _, g, 0, r => ⟨g, r, fun _ h => h⟩
  | _, [], _, n + 1, r => by cases r; exact ⟨[], .nil, fun _ h => h⟩
  | _, w :: ws, _, n + 1, r => by
    cases r with
    | cons r1 r2 =>
      obtain ⟨g', r', h⟩ := Reps.dropE n r2
      exact ⟨g', r', fun a ha => List.mem_append_right _ (h a ha)⟩
theorem Reps.takeE {F H : Hp} : ∀ {us : List V} {ws : List Val} {g : List Addr} (n : Nat), Reps F H us ws g → ∃ g', Reps F H (us.take n) (ws.take n) g' ∧ ∀ a ∈ g', a ∈ g
  | _, _, g, 0, r => ⟨[], .nil, fun _ h => by cases h⟩
  | _, [], _, n + 1, r => by cases r; exact ⟨[], .nil, fun _ h => h⟩
  | _, w :: ws, _, n + 1, r => by
    cases r with
    | cons r1 r2 =>
      obtain ⟨g', r', h⟩ := Reps.takeE n r2
      refine ⟨_, .cons r1 r', fun a ha => ?_⟩
      rcases List.mem_append.mp ha with ha | ha
      · exact List.mem_append_left _ ha
      · exact List.mem_append_right _ (h a ha)
theorem nil_of_sub {g g' : List Addr} (e : g = []) (h : ∀ a ∈ g', a ∈ g) : g' = [] := by
  subst e
  exact List.eq_nil_iff_forall_not_mem.mpr fun a ha => by cases h a ha
theorem Reps.drop {F H : Hp} {us : List V} {ws : List Val} (n : Nat) (r : Reps F H us ws []) : Reps F H (us.drop n) (ws.drop n) [] := by
  obtain ⟨g', r', h⟩ := r.dropE n
  rw [nil_of_sub rfl h] at r'; exact r'
theorem Reps.take {F H : Hp} {us : List V} {ws : List Val} (n : Nat) (r : Reps F H us ws []) : Reps F H (us.take n) (ws.take n) [] := by
  obtain ⟨g', r', h⟩ := r.takeE n
  rw [nil_of_sub rfl h] at r'; exact r'
open Classical in
noncomputable def oSlice (K : PySem.W.Frag) (x : Val) (lo hi : Option Int) : Option Val := match x with
  | .scr K' ns => if K' = K then some (.lst true (cutW (ns.map .int) lo hi)) else none
  | .lst _ ws => if noOwns ws = true then some (.lst true (cutW ws lo hi)) else none
  | .tup ws => if noOwns ws = true then some (.tup (cutW ws lo hi)) else none
  | .tpz ws => if noOwns ws = true then (if HT.sIx ws.length 0 lo = 0 ∧ HT.sIx ws.length ws.length hi = ws.length then some (.tpz ws) else some (.tup (cutW ws lo hi))) else none
  | .str s => if s.length ≤ sizeLine then some (.str (Txt.slice s lo hi)) else none
  | _ => none
def tPO (f : P (Option Int)) : TO := fun σ H Q => ∃ F ρ fp, Le F H ∧ RepL F H σ ρ fp ∧ ∃ w, f ρ = some w ∧ ∀ F' H', Ext F H F' H' → Q w H'
abbrev DPO (X : Cx) (e : Option Expr) (f : P (Option Int)) : Prop := PO X e (tPO f)
def poNone : P (Option Int) := fun _ => some none
def poSome (f : P Val) : P (Option Int) := fun ρ => (f ρ).bind fun w => match w with
  | .int i => some (some i)
  | _ => none
theorem dpo_none {X : Cx} : DPO X none poNone := ⟨fun pins s σ H Q I ⟨F, ρ, fp, hF, r, w, e, k⟩ => by cases e; exact po_none.run pins s σ H Q I (k F H (.refl hF))⟩
theorem dpo_some {X : Cx} {e : Expr} {f : P Val} (h : DP X e f) : DPO X (some e) (poSome f) := ⟨fun pins s σ H Q I ⟨F, ρ, fp, hF, r, w, ew, k⟩ => (po_some h).run pins s σ H Q I (by
  simp only [poSome, Option.bind_eq_some_iff] at ew
  obtain ⟨x, e1, e2⟩ := ew
  refine ⟨F, ρ, fp, hF, r, x, e1, fun u F' H' x1 p1 => ?_⟩
  cases x <;> simp at e2
  subst e2
  have := p1.int; subst this
  exact ⟨_, rfl, k F' H' x1⟩)⟩
noncomputable def pSlice (K : PySem.W.Frag) (fa : P Val) (fl fh : P (Option Int)) : P Val := fun ρ => (fa ρ).bind fun x => (fl ρ).bind fun l => (fh ρ).bind fun h => oSlice K x l h
theorem cutV_rep {F H : Hp} {us : List V} {ws : List Val} {lo hi : Option Int} (r : Reps F H us ws []) : Reps F H (cutV us lo hi) (cutW ws lo hi) [] := by
  unfold cutV cutW
  rw [r.length]
  exact (r.drop _).take _
theorem df_slice {X : Cx} {a : Expr} {lo hi : Option Expr} {fa : P Val} {fl fh : P (Option Int)} {pos p2 : Pos} (ha : DP X a fa) (hl : DPO X lo fl) (hh : DPO X hi fh) : DF X (.Subscript a (.Slice lo hi none p2) pos) (pSlice X.K fa fl fh) := peCase fun σ H Q h => by
  obtain ⟨F, ρ, fp, hF, rr, w, ew, k⟩ := h
  simp only [pSlice, Option.bind_eq_some_iff] at ew
  obtain ⟨x, e1, l, e2, u, e3, e4⟩ := ew
  have go : ∀ {r : V → Option Int → Option Int → Hp → VK → Prop}, (∀ (v : V) (F3 H3 : Hp), Ext F H F3 H3 → Pk F3 H3 v x → r v l u H3 Q) → tSl r (tP fa) (tPO fl) (tPO fh) σ H Q := fun {r} hr => by
    refine ⟨F, ρ, fp, hF, rr, x, e1, fun v F1 H1 x1 p1 => ?_⟩
    refine ⟨F1, ρ, fp, x1.FH, rr.ext x1, l, e2, fun F2 H2 x2 => ?_⟩
    refine ⟨F2, ρ, fp, x2.FH, rr.ext (x1.trans x2), u, e3, fun F3 H3 x3 => ?_⟩
    exact hr v F3 H3 ((x1.trans x2).trans x3) (p1.ext (x2.trans x3))
  cases x with
  | lst o ws =>
    simp only [oSlice] at e4
    split at e4
    case isFalse => cases e4
    case isTrue n =>
    cases e4
    refine ⟨_, pe_slice sl_list ha hl hh, go fun v F3 H3 x3 p3 => ?_⟩
    obtain ⟨ad, us, rfl, hd, pu⟩ := p3.lst x3.FH
    refine ⟨ad, us, rfl, .of hd, fun p np => ?_⟩
    obtain ⟨x4, n4⟩ := Nw.lst x3.FH np (cutV_rep (lo := l) (hi := u) (pu.no n))
    exact k _ _ _ (x3.trans x4) (n4.ext x3 x4)
  | tup ws =>
    simp only [oSlice] at e4
    split at e4
    case isFalse => cases e4
    case isTrue n =>
    cases e4
    refine ⟨_, pe_slice sl_tupA ha hl hh, go fun v F3 H3 x3 p3 => ?_⟩
    obtain ⟨ad, us, rfl, hd, pu⟩ := p3.tup
    have ru := pu.no n
    refine ⟨ad, us, rfl, .of (x3.FH _ _ hd), fun hw => ?_, fun hw p np => ?_⟩
    · have e5 : cutW ws l u = ws := by
        unfold cutW
        rw [pu.len] at hw
        rw [hw.1, hw.2]; simp
      rw [e5] at k
      exact k _ F3 H3 x3 (.of (.tup hd ru))
    · obtain ⟨x4, n4⟩ := Nw.tup x3.FH np (cutV_rep (lo := l) (hi := u) ru)
      exact k _ _ _ (x3.trans x4) (n4.ext x3 x4)
  | tpz ws =>
    simp only [oSlice] at e4
    split at e4
    case isFalse => cases e4
    case isTrue n =>
    refine ⟨_, pe_slice sl_tupA ha hl hh, go fun v F3 H3 x3 p3 => ?_⟩
    obtain ⟨ad, ob, us, rfl, hd, h0, pu⟩ := p3.tpz
    have ru := pu.no n
    refine ⟨ad, us, rfl, .inl (.inr ⟨_, x3.FH _ _ hd⟩), fun hw => ?_, fun hw p np => ?_⟩
    · rw [pu.len] at hw
      rw [if_pos hw] at e4
      cases e4
      exact k _ F3 H3 x3 (.of (.tpz hd h0 ru))
    · rw [pu.len] at hw
      rw [if_neg hw] at e4
      cases e4
      obtain ⟨x4, n4⟩ := Nw.tup x3.FH np (cutV_rep (lo := l) (hi := u) ru)
      exact k _ _ _ (x3.trans x4) (n4.ext x3 x4)
  | str s =>
    simp only [oSlice] at e4
    split at e4
    case isFalse => cases e4
    case isTrue n =>
    cases e4
    refine ⟨_, pe_slice C8.sl_txt ha hl hh, go fun v F3 H3 x3 p3 => ?_⟩
    have := p3.str; subst this
    exact ⟨s, rfl, n, k _ F3 H3 x3 (.of (.str _))⟩
  | scr K' ns =>
    simp only [oSlice] at e4
    split at e4
    case isFalse => cases e4
    case isTrue hK =>
    subst hK
    cases e4
    refine ⟨_, pe_slice sl_list ha hl hh, go fun v F3 H3 x3 p3 => ?_⟩
    obtain ⟨g, r⟩ := p3
    cases r with
    | scr hs =>
    refine ⟨_, _, rfl, Same.seq x3.FH hs, fun p np => ?_⟩
    have ri : ∀ ns : List Int, Reps F3 H3 (ns.map V.int) (ns.map Val.int) [] := fun ns => by
      induction ns with
      | nil => exact .nil
      | cons n ns ih => exact .cons (f1 := []) (f2 := []) (.int n) ih
    obtain ⟨x4, n4⟩ := Nw.lst x3.FH np (cutV_rep (lo := l) (hi := u) (ri ns))
    exact k _ _ _ (x3.trans x4) (n4.ext x3 x4)
  | _ => simp [oSlice] at e4
end L2.DL

namespace L2.DL
open L2 PyProof.Rows PySem.Spec PySem
/-! ### what a slot owns is changed where it stands -/
theorem psCase {X : Cx} {e : Stmt} {t' : TS} (k : ∀ D σ H, t' D σ H → ∃ t, PS X e t ∧ t D σ H) : PS X e t' := ⟨fun pins s σ H D I q => let ⟨_, h, q'⟩ := k D σ H q; h.run pins s σ H D I q'⟩
section
variable {B : Base} {F H : Hp} {σ : St} {ρ : Slots} {τ : List (Option V)} {θ : Slots} {us : List V} {ws : List Val} {i : Nat}
/-- an own object at the top of slot i, and the roots us: what may be put there -/
theorem SR.open {w : Val} {a : Addr} {gi : List Addr} (el : us.length = ws.length) (s : SR B F H σ ρ (us.map some ++ τ) (ws.map some ++ θ)) (h : ρ[i]? = some (some w)) :
    ∃ v g gus, σ[i]? = some (some v) ∧ Rep F H v w g ∧ Reps F H us ws gus ∧ (∀ a, g.count a + gus.count a ≤ 1) ∧
      ∀ {a : Addr} {o : HO} {w' : Val} {g' : List Addr} {v2 : V} {w2 : Val} {gv : List Addr}, a ∈ g → (∀ xs, H a ≠ some (.tup xs)) → Rep F (L2.upd H a o) v w' g' → Rep F (L2.upd H a o) v2 w2 gv → (∀ b, g'.count b + gv.count b ≤ g.count b + gus.count b) →
        SR B F (L2.upd H a o) σ (ρ.set i (some w')) (some v2 :: τ) (some w2 :: θ) := by
  obtain ⟨f1, f2, sf⟩ := s
  obtain ⟨gus, f, h1, h2, e⟩ := RepL.split (by simpa using el) sf.t
  subst e
  obtain ⟨v, g, r, ev, rw, c, k⟩ := sf.s.upd (fun a => by have := sf.le1 a; omega) h
  refine ⟨v, g, gus, ev, rw, h1.reps, fun a => by have := sf.le1 a; have := c a; rw [List.count_append] at *; omega, fun {a o w' g' v2 w2 gv} ha nt r' r2 cc => ?_⟩
  have hca := count_of_mem ha
  have oa := sf.own a (by have := c a; omega)
  have keep : ∀ b, b ≠ a → (L2.upd H a o) b = H b := fun b hb => upd_ne hb
  have nin : ∀ {l : List Addr}, l.count a = 0 → ∀ b ∈ l, b ≠ a := fun {l} z b hb e => by subst e; have := count_of_mem hb; omega
  obtain ⟨f', rf', c'⟩ := k (F' := F) (H' := L2.upd H a o) (w' := some w') (g' := g') (.refl _) (fun b hb => keep b (nin (by have := sf.le1 a; have := c a; rw [List.count_append] at *; omega) b hb)) (fun u e => by cases e; exact r')
  refine ⟨f', gv ++ f, rf', .live r2 (h2.mono (.refl _) fun b hb => keep b (nin (by have := sf.le1 a; have := c a; rw [List.count_append] at *; omega) b hb)), fun b => ?_, fun b hb => ?_, fun b x hx => ?_, sf.F0, fun b x e1 e2 => ?_, fun b hb => ?_, sf.new, sf.pin⟩
  · have := sf.le1 b; have := c b; have := c' b; have := cc b; rw [List.count_append] at *; omega
  · have := c b; have := c' b; have := cc b; rw [List.count_append] at *; exact sf.own b (by rw [List.count_append]; omega)
  · have : b ≠ a := fun z => by subst z; rw [oa.1] at hx; cases hx
    rw [keep b this]; exact sf.FH b x hx
  · have : b ≠ a := fun z => by
      subst z
      rcases oa.2 with z | z
      · exact e2 z
      · rw [e1] at z; cases z
    rw [keep b this]; exact sf.keep b x e1 e2
  · have : b ≠ a := fun z => by subst z; rw [upd_same] at hb; cases hb
    rw [keep b this] at hb; exact sf.dom b hb
end
/-- a list in slot i -/
theorem SR.openL {B : Base} {F H : Hp} {σ : St} {ρ : Slots} {τ : List (Option V)} {θ : Slots} {us : List V} {ws xs : List Val} {i : Nat} (el : us.length = ws.length) (s : SR B F H σ ρ (us.map some ++ τ) (ws.map some ++ θ)) (h : ρ[i]? = some (some (.lst true xs))) :
    ∃ a vs ga gus, σ[i]? = some (some (.ref a)) ∧ H a = some (.lst vs) ∧ Reps F H vs xs ga ∧ Reps F H us ws gus ∧ ∀ (vs' : List V) (xs' : List Val) (g' : List Addr) (v2 : V) (w2 : Val) (gv : List Addr), Reps F H vs' xs' g' → Rep F H v2 w2 gv → (∀ b, g'.count b + gv.count b ≤ ga.count b + gus.count b) →
      SR B F (L2.upd H a (.lst vs')) σ (ρ.set i (some (.lst true xs'))) (some v2 :: τ) (some w2 :: θ) := by
  obtain ⟨v, g, gus, ev, r, rus, c1, k⟩ := SR.open (a := 0) (gi := []) el s h
  cases r with
  | @low a vs _ ga ha rv =>
    refine ⟨a, vs, ga, gus, ev, ha, rv, rus, fun vs' xs' g' v2 w2 gv r1 r2 cc => ?_⟩
    have ca := c1 a
    rw [List.count_cons_self] at ca
    have cca := cc a
    have keep : ∀ {l : List Addr}, l.count a = 0 → ∀ b ∈ l, (L2.upd H a (.lst vs')) b = H b := fun {l} z b hb => upd_ne fun e => by subst e; have := count_of_mem hb; omega
    refine k List.mem_cons_self (fun z e => by rw [ha] at e; cases e) (.low (fp := g') upd_same (r1.mono (.refl _) (keep (by omega)))) (r2.mono (.refl _) (keep (by omega))) fun b => ?_
    have := cc b
    simp only [List.count_cons]
    omega
theorem Reps.eraseE {F H : Hp} : ∀ {us : List V} {ws : List Val} {g : List Addr} {k : Nat} {w : Val}, Reps F H us ws g → ws[k]? = some w → ∃ u gu g', us[k]? = some u ∧ Rep F H u w gu ∧ Reps F H (us.eraseIdx k) (ws.eraseIdx k) g' ∧ ∀ b, gu.count b + g'.count b = g.count b
  | _, [], _, _, _, r, e => by simp at e
  | _, w :: ws, _, 0, _, r, e => by
    cases r with
    | cons r1 r2 =>
      simp at e; subst e
      exact ⟨_, _, _, rfl, r1, r2, fun b => by rw [List.count_append]⟩
  | _, w :: ws, _, k + 1, _, r, e => by
    cases r with
    | @cons _ _ _ _ f1 f2 r1 r2 =>
      obtain ⟨u, gu, g', e1, ru, r', c⟩ := Reps.eraseE (k := k) r2 (by simpa using e)
      exact ⟨u, gu, f1 ++ g', by simpa using e1, ru, .cons r1 r', fun b => by have := c b; rw [List.count_append, List.count_append]; omega⟩
theorem Reps.setE {F H : Hp} {u : V} {w : Val} {gu : List Addr} (ru : Rep F H u w gu) : ∀ {us : List V} {ws : List Val} {g : List Addr} (k : Nat), Reps F H us ws g → ∃ g', Reps F H (us.set k u) (ws.set k w) g' ∧ ∀ b, g'.count b ≤ g.count b + gu.count b
  | _, [], _, _, r => by cases r; exact ⟨[], .nil, fun b => by simp⟩
  | _, x :: ws, _, 0, r => by
    cases r with
    | cons r1 r2 => exact ⟨_, .cons ru r2, fun b => by simp only [List.count_append]; omega⟩
  | _, x :: ws, _, k + 1, r => by
    cases r with
    | @cons _ _ _ _ f1 f2 r1 r2 =>
      obtain ⟨g', r', c⟩ := Reps.setE ru k r2
      exact ⟨f1 ++ g', .cons r1 r', fun b => by have := c b; simp only [List.count_append]; omega⟩
/-! ### methods that change a list -/
/-- what a method gives, and what the list is behind it -/
abbrev Mu := List Val → List Val → Option (Val × List Val)
def VMut (r : V → List V → Hp → VK → Prop) (g : Mu) : Prop := ∀ (B : Base) (F H : Hp) (σ : St) (ρ : Slots) (τ : List (Option V)) (θ : Slots) (i : Nat) (us : List V) (ws xs xs' : List Val) (res : Val) (v : V) (Q : VK),
  us.length = ws.length → SR B F H σ ρ (us.map some ++ τ) (ws.map some ++ θ) → ρ[i]? = some (some (.lst true xs)) → σ[i]? = some (some v) → g xs ws = some (res, xs') →
  (∀ u F' H', SR B F' H' σ (ρ.set i (some (.lst true xs'))) (some u :: τ) (some res :: θ) → Q u H') → r v us H Q
def gAppend : Mu := fun xs ws => match ws with
  | [w] => if xs.length < sizeLine then some (.non, xs ++ [w]) else none
  | _ => none
theorem vm_append : VMut rAppend gAppend := fun B F H σ ρ τ θ i us ws xs xs' res v Q el s h ev e k => by
  match ws, e with
  | [w], e =>
    simp only [gAppend] at e
    split at e
    case isFalse => cases e
    case isTrue hz =>
    cases e
    obtain ⟨a, vs, ga, gus, ev', ha, rv, rus, kk⟩ := SR.openL el s h
    rw [ev] at ev'; cases ev'
    match us, el with
    | [u], _ =>
      refine ⟨a, vs, u, rfl, rfl, ha, by rw [rv.length]; exact hz, ?_⟩
      exact k .non F _ (kk (vs ++ [u]) (xs ++ [w]) (ga ++ gus) .non .non [] (rv.append rus) .non fun b => by simp only [List.count_append, List.count_nil]; omega)
def gPop : Mu := fun xs ws => match ws with
  | [] => match xs[xs.length - 1]? with
    | some w => some (w, xs.dropLast)
    | none => none
  | [.int i] => if ltA i (2 ^ 63) = true then (match seqIndex? i xs.length with
    | some k => (xs[k]?).map fun w => (w, xs.eraseIdx k)
    | none => none) else none
  | _ => none
def rPops : V → List V → Hp → VK → Prop := fun x vs H Q => rPop x vs H Q ∨ rPopAt x vs H Q
theorem mt_pops {X : Cx} : MtR X "list.pop" rPops := MtR.or mt_pop mt_popAt
theorem dropLast_erase {α : Type} : ∀ (xs : List α), xs.dropLast = xs.eraseIdx (xs.length - 1)
  | [] => rfl
  | [x] => rfl
  | x :: y :: r => by
    have := dropLast_erase (y :: r)
    simp only [List.dropLast, List.length_cons] at this ⊢
    rw [this]
    rfl
theorem vm_pop : VMut rPops gPop := fun B F H σ ρ τ θ i us ws xs xs' res v Q el s h ev e k => by
  obtain ⟨a, vs, ga, gus, ev', ha, rv, rus, kk⟩ := SR.openL el s h
  rw [ev] at ev'; cases ev'
  match ws, e with
  | [], e =>
    simp only [gPop] at e
    split at e
    case h_2 => cases e
    case h_1 w hw =>
    cases e
    match us, el with
    | [], _ =>
      obtain ⟨u, gu, g', e1, ru, r', c⟩ := Reps.eraseE rv hw
      refine .inl ⟨a, vs, u, rfl, rfl, ha, by rw [rv.length]; exact e1, ?_⟩
      rw [dropLast_erase xs] at k
      rw [dropLast_erase vs, rv.length]
      exact k u F _ (kk _ _ g' u _ gu r' ru fun b => by have := c b; omega)
  | [.int j], e =>
    simp only [gPop] at e
    split at e
    case isFalse => cases e
    case isTrue hj0 =>
    have hj : -(2 ^ 63) ≤ j ∧ j < 2 ^ 63 := by have := ltA_iff.mp hj0; omega
    split at e
    case h_2 => cases e
    case h_1 kx hk =>
    simp only [Option.map_eq_some_iff] at e
    obtain ⟨w1, hw, e⟩ := e
    cases e
    match us, el with
    | [u0], _ =>
      have eu : u0 = .int j := by cases rus with | cons r1 r2 => cases r1; rfl
      subst eu
      obtain ⟨u, gu, g', e1, ru, r', c⟩ := Reps.eraseE rv hw
      refine .inr ⟨a, vs, j, kx, u, rfl, rfl, ha, hj.1, hj.2, by rw [rv.length]; exact hk, e1, ?_⟩
      exact k u F _ (kk _ _ g' u _ gu r' ru fun b => by have := c b; omega)
def gInsert : Mu := fun xs ws => match ws with
  | [.int i, w] => if xs.length < sizeLine ∧ 0 ≤ i ∧ ltA i (2 ^ 63) = true then some (.non, xs.take i.toNat ++ [w] ++ xs.drop i.toNat) else none
  | _ => none
def rInsert : V → List V → Hp → VK → Prop := fun x vs H Q => ∃ (l : Addr) (xs : List V) (i : Int) (y : V), x = .ref l ∧ vs = [.int i, y] ∧ H l = some (.lst xs) ∧ xs.length < sizeLine ∧ 0 ≤ i ∧ i < 2 ^ 63 ∧
    Q .non (upd H l (.lst (xs.take i.toNat ++ [y] ++ xs.drop i.toNat)))
theorem Reps.cut {F H : Hp} : ∀ {us : List V} {ws : List Val} {g : List Addr} (n : Nat), Reps F H us ws g → ∃ g1 g2, Reps F H (us.take n) (ws.take n) g1 ∧ Reps F H (us.drop n) (ws.drop n) g2 ∧ ∀ b, g1.count b + g2.count b = g.count b
  | _, _, g, 0, r => ⟨[], g, .nil, r, fun b => by simp⟩
  | _, [], _, n + 1, r => by cases r; exact ⟨[], [], .nil, .nil, fun b => by simp⟩
  | _, w :: ws, _, n + 1, r => by
    cases r with
    | @cons _ _ _ _ f1 f2 r1 r2 =>
      obtain ⟨g1, g2, a, b, c⟩ := Reps.cut n r2
      exact ⟨f1 ++ g1, g2, .cons r1 a, b, fun x => by have := c x; simp only [List.count_append]; omega⟩
theorem vm_insert : VMut rInsert gInsert := fun B F H σ ρ τ θ i us ws xs xs' res v Q el s h ev e k => by
  obtain ⟨a, vs, ga, gus, ev', ha, rv, rus, kk⟩ := SR.openL el s h
  rw [ev] at ev'; cases ev'
  match ws, e with
  | [.int j, w], e =>
    simp only [gInsert] at e
    split at e
    case isFalse => cases e
    case isTrue hj =>
    cases e
    match us, el with
    | [u0, u], _ =>
      cases rus with
      | @cons _ _ _ _ f1 f2 r1 r2 =>
        cases r1
        obtain ⟨g1, g2, q1, q2, c⟩ := Reps.cut j.toNat rv
        refine ⟨a, vs, j, u, rfl, rfl, ha, by rw [rv.length]; exact hj.1, hj.2.1, (by have := ltA_iff.mp hj.2.2; omega), ?_⟩
        exact k .non F _ (kk _ _ ((g1 ++ f2) ++ g2) .non .non [] ((q1.append r2).append q2) .non fun b => by have := c b; simp only [List.count_append, List.count_nil]; omega)
def mMeth (g : Mu) (i : Nat) (fs : M (List Val)) : M Val := fun ρ => match (ρ[i]?).join with
  | some (.lst _ _) => (fs ρ).bind fun ws ρ1 => (match (ρ1[i]?).join with
    | some (.lst true xs) => (match g xs ws with
      | some (res, xs') => .ok res (ρ1.set i (some (.lst true xs')))
      | none => .bad)
    | _ => .bad)
  | _ => .bad
section
variable {X : Cx} {k : Nat} {W : WX} {e : Expr} {es : List Expr} {fs : M (List Val)} {apos cpos pos px : Pos} {x name : Str} {id : String} {r : V → List V → Hp → VK → Prop} {g : Mu}
theorem tyL {K : PySem.W.Frag} {F H : Hp} {v : V} {o : Bool} {xs : List Val} (hF : Le F H) (p : Pk F H v (.lst o xs)) : tyV K "list" v H := by
  obtain ⟨a, us, rfl, ha, _⟩ := p.lst hF
  exact .inl ⟨rfl, us, .of ha⟩
theorem mMeth_go {mg : MG} {r : V → List V → Hp → VK → Prop} {g : Mu} (hv : VMut r g) {K : PySem.W.Frag} {i : Nat} {σ : St} {H : Hp} {Q : VK} (h : tV mg k W (mMeth g i fs) σ H Q) : ∃ v, σ[i]? = some (some v) ∧ tyV K "list" v H ∧ tVs mg k W fs σ H fun us H2 => r v us H2 Q := by
  obtain ⟨B, F, ρ, τ, θ, s, hk, p⟩ := h
  unfold mMeth at p
  split at p
  case h_2 => exact p.elim
  case h_1 o xs0 q0 =>
  obtain ⟨v, ev, pk⟩ := s.get (join_some q0)
  refine ⟨v, ev, tyL s.FH pk, B, F, ρ, τ, θ, s, hk, (Post.bind p).imp fun ws ρ1 p1 us F1 H1 el s1 => ?_⟩
  split at p1
  case h_2 => exact p1.elim
  case h_1 xs q1 =>
  split at p1
  case h_2 => exact p1.elim
  case h_1 res xs' q2 =>
  exact hv B F1 H1 σ ρ1 τ θ i us ws xs xs' res v Q el s1 (join_some q1) ev q2 p1
theorem dv_meth (i : Nat) (slot : Slot "list" name id) (hty : typeOf (.builtin id) = pure (.type "method_descriptor")) (hm : MtR X id r) (hv : VMut r g) (ha : DVs X k W (e :: es) fs)
    (hN : X.N[i]? = some x := by rfl) (hvi : Vis X.env.scope x := by first | exact Or.inl rfl | exact Or.inr (Or.inl rfl) | exact Or.inr (Or.inr rfl)) (hd : (x == ("__debug__" : Str)) = false := by decide)
    (hcd : (x == ("__classdict__" : Str)) = false := by decide)
    (hbase : attributeBase (.Name x px) name X.env (eval (.Name x px) X.env) = eval (.Name x px) X.env := by rfl)
    (hfew : ((backTo cpos (starEach (e :: es) X.env)).all (fun x => !x.1) && (backToKw cpos (keywordEach [] X.env)).all (fun x => x.1.isSome)
      && decide ((e :: es).length + ([] : List Keyword).length + (if ([] : List Keyword).isEmpty then 0 else 1) < 30)) = true := by rfl)
    (hline : (apos.endLine == cpos.line) = true := by rfl) (hs : starEach (e :: es) X.env = (false, eval e X.env) :: starEach es X.env := by rfl) (hplain : (backTo cpos (starEach es X.env)).any (·.1) = false := by rfl) :
    DV X k W (.Call (.Attribute (.Name x px) name apos) (e :: es) [] cpos) (mMeth g i fs) := peImp (pe_bm F.plainAttrs_list slot hty hm (pe_var hN hvi hd hcd) ha hbase hfew hline hs hplain) fun σ H Q h => by
  obtain ⟨v, ev, ty, q⟩ := mMeth_go (K := X.K) hv h
  exact ⟨v, ev, ty, q⟩
end
/-! ### x[i] = e -/
def putL {κ : Type} [DecidableEq κ] (ks : List κ) (ws : List Val) (k : κ) (w : Val) : List κ × List Val :=
  if k ∈ ks then (ks, (ks.zip ws).map fun p => if p.1 = k then w else p.2) else (ks ++ [k], ws ++ [w])
def putW (x i w : Val) : Option Val := match x with
  | .lst true xs => (match i with
    | .int j => (ixN xs.length j).map fun k => .lst true (xs.set k w)
    | _ => none)
  | .dT true ks ws => (match i with
    | .tup kw => (keysV kw).bind fun k => if (noOwn w && noOwns ws) = true ∧ ks.length < sizeLine then some (.dT true (putL ks ws k w).1 (putL ks ws k w).2) else none
    | _ => none)
  | .dK true ks ws => (keyV i).bind fun k => if (noOwn w && noOwns ws) = true ∧ ks.length < sizeLine then some (.dK true (putL ks ws k w).1 (putL ks ws k w).2) else none
  | _ => none
theorem zip_map_snd {κ : Type} {α β : Type} (f : κ → α → β) : ∀ (ks : List κ) (us : List α), ks.length = us.length → ks.zip ((ks.zip us).map fun p => f p.1 p.2) = (ks.zip us).map fun p => (p.1, f p.1 p.2)
  | [], [], _ => rfl
  | [], _ :: _, e => by simp at e
  | _ :: _, [], e => by simp at e
  | k :: ks, u :: us, e => by
    simp only [List.zip_cons_cons, List.map_cons]
    rw [zip_map_snd f ks us (by simpa using e)]
theorem any_zip {κ : Type} [DecidableEq κ] {k : κ} : ∀ {ks : List κ} {us : List V}, ks.length = us.length → ((ks.zip us).any fun kv => decide (kv.1 = k)) = decide (k ∈ ks)
  | [], [], _ => by simp
  | [], _ :: _, e => by simp at e
  | _ :: _, [], e => by simp at e
  | a :: ks, u :: us, e => by
    simp only [List.zip_cons_cons, List.any_cons, List.mem_cons]
    rw [any_zip (by simpa using e)]
    by_cases h : a = k
    · subst h; simp
    · have : ¬ k = a := fun z => h z.symm
      simp [h, this]
theorem putL_rep {κ : Type} [DecidableEq κ] {F H : Hp} {k : κ} {u : V} {w : Val} {ks : List κ} {us : List V} {ws : List Val} (el : ks.length = us.length) (r : Reps F H us ws []) (ru : Rep F H u w []) :
    ∃ us', putK (ks.zip us) k u = (putL ks ws k w).1.zip us' ∧ (putL ks ws k w).1.length = us'.length ∧ Reps F H us' (putL ks ws k w).2 [] := by
  unfold putK putL
  rw [any_zip el]
  by_cases h : k ∈ ks
  · simp only [h, decide_true, if_true]
    refine ⟨(ks.zip us).map fun p => if p.1 = k then u else p.2, ?_, ?_, ?_⟩
    · rw [zip_map_snd (fun a b => if a = k then u else b) ks us el]
      apply List.map_congr_left
      intro p _
      split <;> simp_all
    · simp [el]
    · clear h
      have : ∀ (ks : List κ) (us : List V) (ws : List Val) (g : List Addr), g = [] → ks.length = us.length → Reps F H us ws g → Reps F H ((ks.zip us).map fun p => if p.1 = k then u else p.2) ((ks.zip ws).map fun p => if p.1 = k then w else p.2) [] := by
        intro ks
        induction ks with
        | nil => intro us ws g _ _ _; exact .nil
        | cons a ks ih =>
          intro us ws g eg e r
          cases r with
          | nil => simp at e
          | cons r1 r2 =>
            have e2 := List.append_eq_nil_iff.mp eg
            simp only [List.zip_cons_cons, List.map_cons]
            have t := ih _ _ _ e2.2 (by simpa using e) r2
            rw [e2.1] at r1
            by_cases ha : a = k
            · simp only [ha, if_true]; exact .cons (f1 := []) (f2 := []) ru t
            · simp only [ha, if_false]; exact .cons (f1 := []) (f2 := []) r1 t
      exact this ks us ws [] rfl el r
  · simp only [h, decide_false, if_false, Bool.false_eq_true]
    refine ⟨us ++ [u], ?_, by simp [el], r.append (.cons (f1 := []) (f2 := []) ru .nil)⟩
    rw [List.zip_append el]; rfl
def sPut (i : Nat) (fi fv : M Val) : G := fun ρ => rS (fv ρ) fun w ρ1 => match (ρ1[i]?).join with
  | none => .bad
  | some _ => rS (fi ρ1) fun iw ρ2 => match (ρ2[i]?).join with
    | none => .bad
    | some x => match putW x iw w with
      | some x' => .nx (ρ2.set i (some x'))
      | none => .bad
section
variable {X : Cx} {k : Nat} {W : WX} {e ie : Expr} {fi fv : M Val} {px spos pos : Pos} {x : Str}
/-- where the store is into a list, and where into a dict, is told ahead by the denotation -/
theorem ds_put (i : Nat) (hu : X.A.units + 1 < cLine) (hv : DV X k W e fv) (hi : DV X k W ie fi)
    (hN : X.N[i]? = some x := by rfl) (hvi : Vis X.env.scope x := by first | exact Or.inl rfl | exact Or.inr (Or.inl rfl) | exact Or.inr (Or.inr rfl)) (hd : (x == ("__debug__" : Str)) = false := by decide)
    (hcd : (x == ("__classdict__" : Str)) = false := by decide) (hs : swapsWith e (some (.Subscript (.Name x px) ie spos)) pos.line X.env = pure false := by rfl)
    (hs1 : swapsWithSole [.Subscript (.Name x px) ie spos] e pos.line X.env = pure false := by rfl) (hw : swappedStores [.Subscript (.Name x px) ie spos] e X.env = pure none := by rfl)
    (h1 : (assignEach [.Subscript (.Name x px) ie spos] X.env).map (·.2) = [assign (.Subscript (.Name x px) ie spos) X.env] := by rfl)
    (ha : ∀ v, assign (.Subscript (.Name x px) ie spos) X.env v = (do
      let ov ← holding [v] (eval (.Name x px) X.env)
      let iv ← holding [v, ov] (eval ie X.env)
      standAt spos
      holding [v, ov, iv] (setItem ov iv v)
      release [v, ov, iv] []) := by intro _; rfl) :
    DS X k W (.Assign [.Subscript (.Name x px) ie spos] e pos) (sPut i fi fv) := psCase fun D σ H ⟨B, F, ρ, τ, θ, s, hk, p⟩ => by
  have pv := pe_var (X := X) (pos := px) hN hvi hd hcd
  -- what stands in the slot when the store comes
  have kind : (∃ w ρ1 iw ρ2 o xs, fv ρ = .ok w ρ1 ∧ fi ρ1 = .ok iw ρ2 ∧ (ρ2[i]?).join = some (.lst o xs)) ∨ ¬ ∃ w ρ1 iw ρ2 o xs, fv ρ = .ok w ρ1 ∧ fi ρ1 = .ok iw ρ2 ∧ (ρ2[i]?).join = some (.lst o xs) := Classical.em _
  have common : ∀ {t : V → V → V → Hp → (Hp → Prop) → Prop}, (∀ w ρ1 iw ρ2 xw x', fv ρ = .ok w ρ1 → fi ρ1 = .ok iw ρ2 → (ρ2[i]?).join = some xw → putW xw iw w = some x' → ∀ (v u iu : V) F2 H2, σ[i]? = some (some v) → SR B F2 H2 σ ρ2 (some iu :: some u :: τ) (some iw :: some w :: θ) →
      (∀ H', SR B F2 H' σ (ρ2.set i (some x')) τ θ → D.nx σ H') → t v iu u H2 fun H3 => D.nx σ H3) → tV X.mg k W fv σ H fun u H1 => tVar i σ H1 fun v H2 => tV X.mg k W fi σ H2 fun iu H3 => t v iu u H3 fun H4 => D.nx σ H4 := fun {t} kt => by
    refine ⟨B, F, ρ, τ, θ, s, hk, ?_⟩
    unfold sPut at p
    cases qv : fv ρ with
    | bad => rw [qv] at p; exact p.elim
    | err c pl ρ1 => rw [qv] at p; exact fun C d F' H' e1 s1 r1 => p C d σ F' H' e1 s1 r1
    | ok w ρ1 =>
      rw [qv] at p
      simp only [rS_ok] at p
      intro u F1 H1 s1
      cases q1 : (ρ1[i]?).join with
      | none => rw [q1] at p; exact p.elim
      | some x0 =>
        rw [q1] at p
        obtain ⟨v, ev, _⟩ := s1.get (join_some q1)
        refine ⟨v, ev, B, F1, ρ1, some u :: τ, some w :: θ, s1, hk, ?_⟩
        cases qi : fi ρ1 with
        | bad => rw [qi] at p; exact p.elim
        | err c pl ρ2 => rw [qi] at p; exact fun C d F' H' e1 s2 r1 => p C d σ F' H' e1 s2.pop r1
        | ok iw ρ2 =>
          rw [qi] at p
          simp only [rS_ok] at p
          intro iu F2 H2 s2
          cases q2 : (ρ2[i]?).join with
          | none => rw [q2] at p; exact p.elim
          | some xw =>
            rw [q2] at p
            dsimp only at p
            cases q3 : putW xw iw w with
            | none => rw [q3] at p; exact p.elim
            | some x' =>
              rw [q3] at p
              exact kt w ρ1 iw ρ2 xw x' qv qi q2 q3 v u iu F2 H2 ev s2 fun H' s' => p σ F2 H' s'
  rcases kind with ⟨w, ρ1, iw, ρ2, o, xs, qv, qi, q2⟩ | nk
  · -- a list
    refine ⟨_, ps_asg hv (pg_sub pv hi set_list ha) hs1 hw h1, common fun w' ρ1' iw' ρ2' xw x' qv' qi' q2' q3 v u iu F2 H2 ev s2 kk => ?_⟩
    rw [qv] at qv'; cases qv'
    rw [qi] at qi'; cases qi'
    rw [q2] at q2'; cases q2'
    cases o with
    | false => simp [putW] at q3
    | true =>
      cases iw with
      | int j =>
        simp only [putW, Option.map_eq_some_iff] at q3
        obtain ⟨kx, e1, e2⟩ := q3
        subst e2
        obtain ⟨a, vs, ga, gus, ev', hA, rv, rus, km⟩ := SR.openL (us := [iu, u]) (ws := [.int j, w]) rfl s2 (join_some q2)
        rw [ev] at ev'; cases ev'
        cases rus with
        | @cons _ _ _ _ g1 g2 r1 r2 =>
          cases r1
          cases r2 with
          | @cons _ _ _ _ g3 g4 r3 r4 =>
            cases r4
            obtain ⟨g', r', c'⟩ := Reps.setE r3 kx rv
            refine ⟨a, vs, j, kx, rfl, rfl, hA, by rw [rv.length]; exact e1, ?_⟩
            exact kk _ (km _ _ g' .non .non [] r' .non fun b => by have := c' b; simp only [List.count_append, List.count_nil] at *; omega).pop
      | _ => simp [putW] at q3
  · -- a dict, or nothing that is met
    refine ⟨_, ps_dput hu pv hi hv hs, common (t := fun x y v H3 Q => ∃ a H4, x = .ref a ∧ DPut H3 a y v H4 ∧ Q H4) fun w' ρ1' iw' ρ2' xw x' qv' qi' q2' q3 v u iu F2 H2 ev s2 kk => ?_⟩
    have key : ∀ (a : Addr) (HH : Hp), v = .ref a → DPut H2 a iu u HH → D.nx σ HH → ∃ a H4, v = .ref a ∧ DPut H2 a iu u H4 ∧ D.nx σ H4 := fun a HH e1 e2 e3 => ⟨a, HH, e1, e2, e3⟩
    obtain ⟨v', g, gus, ev', rx, rus, c1, km⟩ := SR.open (us := [iu, u]) (ws := [iw', w']) (a := 0) (gi := []) rfl s2 (join_some q2')
    rw [ev] at ev'; cases ev'
    cases rus with
    | @cons _ _ _ _ g1 g2 r1 r2 =>
    cases r2 with
    | @cons _ _ _ _ g3 g4 r3 r4 =>
    cases r4
    cases xw with
    | lst o xs => exact absurd ⟨w', ρ1', iw', ρ2', o, xs, qv', qi', q2'⟩ nk
    | dT o ks ws =>
      cases o with
      | false => simp [putW] at q3
      | true =>
        cases iw' with
        | tup kw =>
          simp only [putW, Option.bind_eq_some_iff] at q3
          obtain ⟨kk', e1, e2⟩ := q3
          split at e2
          case isFalse => cases e2
          case isTrue hc =>
          cases e2
          simp only [Bool.and_eq_true] at hc
          cases rx with
          | @tow a _ xs _ gx hA hl rxs =>
          have := rxs.nofp hc.1.2
          subst this
          have := r3.nofp hc.1.1
          subst this
          cases r1 with
          | @tup b ts _ _ hb rts =>
          have ek := keysV_rep e1 rts
          subst ek
          obtain ⟨us', e3, e4, e5⟩ := putL_rep (k := kk') hl rxs r3
          refine key a _ rfl (DPut.t hA (s2.FH _ _ hb) (by rw [List.length_zip, hl]; rw [hl] at hc; simpa using hc.2)) (kk _ ?_)
          have na : ∀ {g : List Addr}, g = [] → ∀ c ∈ g, (L2.upd H2 a (.dT (putK (ks.zip xs) kk' u))) c = H2 c := fun e c hcm => by subst e; cases hcm
          exact (km (g' := [a]) (v2 := .non) (w2 := .non) (gv := []) List.mem_cons_self (fun z e => by rw [hA] at e; cases e) (.tow (xs := us') (by rw [upd_same, e3]) e4 (e5.mono (.refl _) (na rfl))) .non (fun c => by simp only [List.count_nil]; omega)).pop
        | _ => simp [putW] at q3
    | dK o ks ws =>
      cases o with
      | false => simp [putW] at q3
      | true =>
        have q3' : ((keyV iw').bind fun k => if (noOwn w' && noOwns ws) = true ∧ ks.length < sizeLine then some (.dK true (putL ks ws k w').1 (putL ks ws k w').2) else none) = some x' := by cases iw' <;> exact q3
        simp only [Option.bind_eq_some_iff] at q3'
        obtain ⟨kk', e1, e2⟩ := q3'
        split at e2
        case isFalse => cases e2
        case isTrue hc =>
        cases e2
        simp only [Bool.and_eq_true] at hc
        cases rx with
        | @kow a _ xs _ gx hA hl rxs =>
        have := rxs.nofp hc.1.2
        subst this
        have := r3.nofp hc.1.1
        subst this
        have ek := keyV_rep e1 r1
        subst ek
        obtain ⟨us', e3, e4, e5⟩ := putL_rep (k := kk') hl rxs r3
        refine key a _ rfl (DPut.k hA (by rw [List.length_zip, hl]; rw [hl] at hc; simpa using hc.2)) (kk _ ?_)
        have na : ∀ {g : List Addr}, g = [] → ∀ c ∈ g, (L2.upd H2 a (.dK (putK (ks.zip xs) kk' u))) c = H2 c := fun e c hcm => by subst e; cases hcm
        exact (km (g' := [a]) (v2 := .non) (w2 := .non) (gv := []) List.mem_cons_self (fun z e => by rw [hA] at e; cases e) (.kow (xs := us') (by rw [upd_same, e3]) e4 (e5.mono (.refl _) (na rfl))) .non (fun c => by simp only [List.count_nil]; omega)).pop
    | _ => simp [putW] at q3
end
end L2.DL

namespace L2.DL
open L2 PyProof.Rows PySem.Spec PySem
/-! ### list(), tuple() -/
def keyW : Key → Val
  | .inl i => .int i
  | .inr s => .str s
theorem keyW_rep {F H : Hp} : ∀ k : Key, Rep F H (kV k) (keyW k) []
  | .inl i => .int i
  | .inr s => .str s
theorem keysW_rep {F H : Hp} : ∀ ks : List Key, Reps F H (ks.map kV) (ks.map keyW) []
  | [] => .nil
  | k :: ks => .cons (f1 := []) (f2 := []) (keyW_rep k) (keysW_rep ks)
def oList (ws : List Val) : Option Val := match ws with
  | [.lst _ ws] => if noOwns ws = true then some (.lst true ws) else none
  | [.tup ws] => if noOwns ws = true then some (.lst true ws) else none
  | [.tpz ws] => if noOwns ws = true then some (.lst true ws) else none
  | [.dK _ ks _] => some (.lst true (ks.map keyW))
  | [.dT _ ks _] => some (.lst true (ks.map fun k => .tup (k.map keyW)))
  | _ => none
def rListAll (K : PySem.W.Frag) : List V → Hp → VK → Prop := fun xs H Q => (∃ p ys, xs = [.ref p] ∧ (SqL K H p ys ∨ SqT K H p ys) ∧ ∀ l, H l = none → Q (.ref l) (upd H l (.lst ys))) ∨ rListD xs H Q ∨
  (∃ d kvs, xs = [V.ref d] ∧ Rd H d (.dT kvs) ∧ ∀ p bs, H p = none → IsKeys H kvs bs → Q (.ref p) (upd H p (.lst (bs.map V.ref))))
theorem call_listAll {X : Cx} (hc : X.calm = true) : CallR X (.type "list") (rListAll X.K) := CallR.or call_list_of (CallR.or (call_list_dK hc) (call_list_dT hc))
theorem zip_keys {κ : Type} : ∀ {ks : List κ} {us : List V}, ks.length = us.length → (ks.zip us).map (·.1) = ks
  | [], _, _ => by simp
  | _ :: _, [], e => by simp at e
  | k :: ks, u :: us, e => by simp [zip_keys (ks := ks) (us := us) (by simpa using e)]
/-- the keys' own tuples are never changed -/
theorem keys_ext {F H : Hp} (hF : Le F H) : ∀ {ks : List (List Key)} {bs : List Addr}, Paired (fun (p : List Key) b => H b = some (.tup (p.map kV))) ks bs → ∃ F', Ext F H F' H ∧ Reps F' H (bs.map V.ref) (ks.map fun k => .tup (k.map keyW)) []
  | _, _, .nil => ⟨F, .refl hF, .nil⟩
  | k :: ks, b :: bs, .cons h t => by
    obtain ⟨F1, x1, r1⟩ := keys_ext hF t
    refine ⟨L2.upd F1 b (.tup (k.map kV)), ⟨.refl _, fun a o e => ?_, fun a o e => ?_, fun a e => ?_⟩, .cons (f1 := []) (f2 := []) (.tup upd_same (keysW_rep k)) (r1.mono (fun a o e => ?_) fun a ha => by cases ha)⟩
    · by_cases z : a = b
      · subst z; have := hF a o e; rw [h] at this; cases this; exact upd_same
      · rw [upd_ne z]; exact x1.leF a o e
    · by_cases z : a = b
      · subst z; rw [upd_same] at e; cases e; exact h
      · rw [upd_ne z] at e; exact x1.FH a o e
    · by_cases z : a = b
      · subst z; exact .inr (.inr ⟨_, upd_same⟩)
      · rw [upd_ne z] at e
        rcases x1.new a e with y | y | ⟨xs, y⟩
        · exact .inl y
        · exact .inr (.inl y)
        · exact .inr (.inr ⟨xs, by rw [upd_ne z]; exact y⟩)
    · by_cases z : a = b
      · subst z; have := x1.FH a o e; rw [h] at this; cases this; exact upd_same
      · rw [upd_ne z]; exact e
theorem isKeys_zip {H : Hp} {ks : List (List Key)} {us : List V} {bs : List Addr} (el : ks.length = us.length) (h : IsKeys H (ks.zip us) bs) : Paired (fun (p : List Key) b => H b = some (.tup (p.map kV))) ks bs := by
  induction ks generalizing us bs with
  | nil => cases h; exact .nil
  | cons k ks ih =>
    cases us with
    | nil => simp at el
    | cons u us =>
      cases h with
      | cons h1 h2 => exact .cons h1 (ih (by simpa using el) h2)
theorem vlist {K : PySem.W.Frag} : VOpS (rListAll K) oList := fun F H xs ws w Q hF p e k => by
  match ws, e with
  | [.lst o vs], e =>
    simp only [oList] at e
    split at e
    case isFalse => cases e
    case isTrue n =>
    cases e
    obtain ⟨u, rfl, pu⟩ := p.one
    obtain ⟨a, us, rfl, ha, pus⟩ := pu.lst hF
    refine .inl ⟨a, us, rfl, .inl (.of ha), fun l nl => ?_⟩
    obtain ⟨x1, n1⟩ := Nw.lst hF nl (pus.no n)
    exact k _ _ _ x1 n1
  | [.tup vs], e =>
    simp only [oList] at e
    split at e
    case isFalse => cases e
    case isTrue n =>
    cases e
    obtain ⟨u, rfl, pu⟩ := p.one
    obtain ⟨a, us, rfl, ha, pus⟩ := pu.tup
    refine .inl ⟨a, us, rfl, .inr (.of (hF _ _ ha)), fun l nl => ?_⟩
    obtain ⟨x1, n1⟩ := Nw.lst hF nl (pus.no n)
    exact k _ _ _ x1 n1
  | [.tpz vs], e =>
    simp only [oList] at e
    split at e
    case isFalse => cases e
    case isTrue n =>
    cases e
    obtain ⟨u, rfl, pu⟩ := p.one
    obtain ⟨a, ob, us, rfl, ha, h0, pus⟩ := pu.tpz
    refine .inl ⟨a, us, rfl, .inr (.inl (.inr ⟨_, hF _ _ ha⟩)), fun l nl => ?_⟩
    obtain ⟨x1, n1⟩ := Nw.lst hF nl (pus.no n)
    exact k _ _ _ x1 n1
  | [.dK o ks vs], e =>
    cases e
    obtain ⟨u, rfl, g, pu⟩ := p.one
    obtain ⟨a, us, rfl, ha, el⟩ : ∃ a us, u = .ref a ∧ H a = some (.dK (ks.zip us)) ∧ ks.length = us.length := by
      cases pu with
      | ksh h1 hl h2 => exact ⟨_, _, rfl, hF _ _ h1, hl⟩
      | kow h1 hl h2 => exact ⟨_, _, rfl, h1, hl⟩
    refine .inr (.inl ⟨a, _, rfl, ha, fun l nl => ?_⟩)
    have e1 : ((ks.zip us).map fun kv => kV kv.1) = ks.map kV := by
      rw [show ((ks.zip us).map fun kv => kV kv.1) = ((ks.zip us).map (·.1)).map kV by rw [List.map_map]; rfl, zip_keys el]
    rw [e1]
    obtain ⟨x1, n1⟩ := Nw.lst hF nl (keysW_rep ks)
    exact k _ _ _ x1 n1
  | [.dT o ks vs], e =>
    cases e
    obtain ⟨u, rfl, g, pu⟩ := p.one
    obtain ⟨a, us, rfl, ha, el⟩ : ∃ a us, u = .ref a ∧ H a = some (.dT (ks.zip us)) ∧ ks.length = us.length := by
      cases pu with
      | tsh h1 hl h2 => exact ⟨_, _, rfl, hF _ _ h1, hl⟩
      | tow h1 hl h2 => exact ⟨_, _, rfl, h1, hl⟩
    refine .inr (.inr ⟨a, _, rfl, .inl ha, fun l bs nl ik => ?_⟩)
    obtain ⟨F1, x1, r1⟩ := keys_ext hF (isKeys_zip el ik)
    obtain ⟨x2, n2⟩ := Nw.lst x1.FH nl r1
    exact k _ _ _ (x1.trans x2) (n2.ext x1 x2)
def oTuple (ws : List Val) : Option Val := match ws with
  | [.lst _ ws] => if noOwns ws = true then some (.tup ws) else none
  | [.tup ws] => if noOwns ws = true then some (.tup ws) else none
  | _ => none
theorem vtuple {K : PySem.W.Frag} : VOpS (fun xs H Q => ∃ p ys, xs = [.ref p] ∧ ((SqL K H p ys ∧ ∀ l, H l = none → Q (.ref l) (upd H l (.tup ys))) ∨ (SqT K H p ys ∧ Q (.ref p) H))) oTuple := fun F H xs ws w Q hF p e k => by
  match ws, e with
  | [.lst o vs], e =>
    simp only [oTuple] at e
    split at e
    case isFalse => cases e
    case isTrue n =>
    cases e
    obtain ⟨u, rfl, pu⟩ := p.one
    obtain ⟨a, us, rfl, ha, pus⟩ := pu.lst hF
    refine ⟨a, us, rfl, .inl ⟨.of ha, fun l nl => ?_⟩⟩
    obtain ⟨x1, n1⟩ := Nw.tup hF nl (pus.no n)
    exact k _ _ _ x1 n1
  | [.tup vs], e =>
    simp only [oTuple] at e
    split at e
    case isFalse => cases e
    case isTrue n =>
    cases e
    obtain ⟨u, rfl, pu⟩ := p.one
    obtain ⟨a, us, rfl, ha, pus⟩ := pu.tup
    exact ⟨a, us, rfl, .inr ⟨.of (hF _ _ ha), k _ F H (.refl hF) (.of (.tup ha (pus.no n)))⟩⟩
/-! ### sorted(), of data -/
/-- the call of tuple's own __lt__, as sorting makes it -/
theorem call_tuple_lt {A : Around} {s : Shared} {prog : Program} {w : World} {E : Value → Shared → Prop} {Q : Value → Shared → Prop} {l b : Addr} {items items2 : Array Value} {e r : Nat → Bool} (hl : s.heap.IsTuple l items) (hb : s.heap.IsTuple b items2)
    (he : ∀ j (h1 : j < items.size) (h2 : j < items2.size), PySem.SeqAt.EqAt A.in1 s items[j] items2[j] (e j)) (hr : ∀ j (h1 : j < items.size) (h2 : j < items2.size), e j = false → PySem.SeqAt.RcLt A.in1 s items[j] items2[j] (r j))
    (h : Q (.bool (PySem.SeqAt.firstLt e r (decide (items.size < items2.size)) (List.range (min items.size items2.size)))) s) : wpAny (model prog w) A (call (.builtin "tuple.__lt__") [.ref l, .ref b]) Q E s := by
  obtain ⟨⟨cls, dd, data, sl⟩, ho, hc, n, hd⟩ := id hl
  obtain ⟨⟨cls2, dd2, data2, sl2⟩, ho2, hc2, n2, hd2⟩ := id hb
  simp only at hc hd hc2 hd2
  subst hc hd hc2 hd2
  exact PySem.call_meets PySem.F.slot_tuple_lt ⟨_, ho, rfl⟩ PySem.F.entry_tuple_lt (PySem.F.args_tuple_lt_2 _ _) (PySem.SeqAt.tuple_ltAt l b items items2 n n2 dd dd2 sl sl2 e r) ⟨ho, ho2, he, hr, h⟩
theorem lt_nils {prog : Program} {w : World} {A : Around} {s : Shared} {a b : Value} {as bs : List Addr} {Q : Bool → Shared → Prop} {E : Value → Shared → Prop} (ra : Reads s.heap a (.tuple []) as) (rb : Reads s.heap b (.tuple []) bs) (hu : A.units < cLine) (hq : Q false s) : wpAny (model prog w) A (oneLt' true a b) Q E s := by
  cases ra with
  | @tuple l o vs n _ as₁ h1 h2 h3 h4 =>
    cases rb with
    | @tuple l' o' vs' n' _ bs₁ k1 k2 k3 k4 =>
      have n1 : vs.size = 0 := by simpa using PySem.SeqAt.ReadsAll.length _ _ _ h4
      have n2 : vs'.size = 0 := by simpa using PySem.SeqAt.ReadsAll.length _ _ _ k4
      rw [oneLt'_eq]
      simp only [if_true]
      refine wpAny_bind (PySem.wpAny_cRoomFor hu ?_)
      refine wpAny_bind (PySem.wpAny_callSpecialIfBound?_slot (T := "tuple") ⟨_, h1, h2⟩ PySem.F.slot_tuple_lt (call_tuple_lt (e := fun _ => true) (r := fun _ => false) ⟨_, h1, h2, _, h3⟩ ⟨_, k1, k2, _, k3⟩ (fun j j1 j2 => absurd j1 (by omega)) (fun j j1 j2 hj => absurd j1 (by omega)) ?_))
      refine wpAny_truthy_bool ?_
      rw [n1, n2]
      exact hq
theorem kind_nils {M : Model} {A : Around} {E : Value → Shared → Prop} {s : Shared} {vs : List Value} {Q : SortKind → Shared → Prop} (h2 : 2 ≤ vs.length) (hT : ∀ v ∈ vs, ∃ as, Reads s.heap v (.tuple []) as) (h : Q oneType' s) :
    wpAny M A (keyKind' vs.toArray) Q E s := by
  obtain ⟨v₁, v₂, rest, rfl⟩ : ∃ v₁ v₂ rest, vs = v₁ :: v₂ :: rest := by
    match vs, h2 with
    | [], h2 => simp at h2
    | [_], h2 => simp at h2
    | v₁ :: v₂ :: rest, _ => exact ⟨v₁, v₂, rest, rfl⟩
  have hL : ∀ v ∈ v₁ :: v₂ :: rest, PySem.W.Looks M s.heap (typeOf v) (.type "tuple") := fun v hv => by
    obtain ⟨as, r⟩ := hT v hv
    exact PySem.W.looks_reads r
  rw [keyKind'_eq, List.mapM_toArray, map_eq_pure_bind]
  refine wpAny_bind (wpAny_bind (PySem.W.kas_mapM (r := none) _ (fun v hv Q' hq => ?_) (wpAny_pure ?_)))
  · rw [PySem.W.kas_first_eq]
    obtain ⟨as, r⟩ := hT v hv
    cases r with
    | @tuple l o xs n _ as₁ h1 h2 h3 h4 =>
      have n1 : xs.size = 0 := by simpa using PySem.SeqAt.ReadsAll.length _ _ _ h4
      refine wpAny_bind ((hL _ hv).here ?_)
      rw [if_neg (by first | decide | simp)]
      refine wpAny_bind (listItems_at h1 h3 (wpAny_pure ?_))
      have : xs[0]? = none := by rw [Array.getElem?_eq_none]; omega
      rw [this]
      exact hq
  · rw [if_neg (by simp), if_neg (by simp)]
    rw [oneTypeOnly'_eq, List.mapM_toArray, map_eq_pure_bind]
    refine wpAny_bind (wpAny_bind (wpAny_bind (PySem.W.kas_mapM (r := Value.type "tuple") _ (fun v hv Q' hq => (hL v hv).here hq) (wpAny_pure ?_))))
    have hall : ((List.map (fun _ => Value.type "tuple") (v₁ :: v₂ :: rest)).toArray.all fun x => x == Value.type "tuple") = true := by
      simp only [List.all_toArray, List.all_map, List.all_eq_true]
      intro _ _
      exact beq_self_eq_true _
    have h0 : (List.map (fun _ => Value.type "tuple") (v₁ :: v₂ :: rest)).toArray[0]? = some (.type "tuple") := by simp
    rw [h0]
    simp only [hall, if_true]
    exact wpAny_pure (wpAny_pure h)
theorem sortsAt_nils {prog : Program} {w : World} {A : Around} {s : Shared} {vs : List Value} {ds : List PyData} (e : PySem.W.EachIs (fun v d => ∃ as, Reads s.heap v d as) vs ds) (hal : PySem.W.AllAlike ds) (hk : ∀ d ∈ ds, d = .tuple []) (hu : ∀ d, d ∈ ds → A.units + d.depth < cLine) : PySem.W.SortsAt prog w A s (PySem.W.dataKind s.heap ds) vs := by
  refine ⟨fun v hv => ?_, oneType', fun E x y a b Q ha hb hq => ?_, fun h2 E Q hq => ?_⟩
  · obtain ⟨d, hd, as, r⟩ := e.left v hv
    exact ⟨_, PySem.W.dataKind_some hal hd r⟩
  · obtain ⟨d, as, hd, ra, rfl⟩ := PySem.W.dataKind_inv ha
    obtain ⟨d', as', hd', rb, rfl⟩ := PySem.W.dataKind_inv hb
    have hd0 := hu _ hd
    obtain rfl := hk _ hd
    obtain rfl := hk _ hd'
    rw [keyLt'_oneType]
    refine lt_nils ra rb (by omega) ?_
    have : PySem.W.dataLt (.tuple []) (.tuple []) = false := by rfl
    exact this ▸ hq
  · refine kind_nils h2 (fun v hv => ?_) hq
    obtain ⟨d, hd, as, r⟩ := e.left v hv
    obtain rfl := hk _ hd
    exact ⟨as, r⟩
theorem sortsAt_short {prog : Program} {w : World} {A : Around} {s : Shared} {vs : List Value} {ds : List PyData} (e : PySem.W.EachIs (fun v d => ∃ as, Reads s.heap v d as) vs ds) (hal : PySem.W.AllAlike ds) (hk : PySem.W.Sortable ds ∨ ds.length ≤ 1 ∨ ∀ d ∈ ds, d = .tuple []) (hn : ∀ d ∈ ds, d ≠ .none) (hu : ∀ d, d ∈ ds → A.units + d.depth < cLine) : PySem.W.SortsAt prog w A s (PySem.W.dataKind s.heap ds) vs := by
  rcases hk with hk | h1 | hk
  · exact PySem.W.SortsAt.data e hal hk hu
  · refine ⟨fun v hv => ?_, general', fun E x y a b Q ha hb hq => ?_, fun h2 => ?_⟩
    · obtain ⟨d, hd, as, r⟩ := e.left v hv
      exact ⟨_, PySem.W.dataKind_some hal hd r⟩
    · obtain ⟨d, as, hd, ra, rfl⟩ := PySem.W.dataKind_inv ha
      obtain ⟨d', as', hd', rb, rfl⟩ := PySem.W.dataKind_inv hb
      show wpAny _ _ (oneLt' false x y) _ _ _
      exact PySem.W.oneLt_alike (f := false) (fun z => by cases z) ra rb (hal d hd d' hd') (hn d hd) (Nat.lt_of_le_of_lt (Nat.add_le_add_left (Nat.min_le_left _ _) _) (hu d hd)) hq
    · have := e.length
      omega
  · exact sortsAt_nils e hal hk hu
def rSortedD (K : PySem.W.Frag) : List V → Hp → VK → Prop := fun vs H Q => ∃ a xs ds, vs = [.ref a] ∧ SqL K H a xs ∧ DpAll K H xs ds ∧ PySem.W.AllAlike ds ∧ (PySem.W.Sortable ds ∨ ds.length ≤ 1 ∨ ∀ d ∈ ds, d = .tuple []) ∧ (∀ d ∈ ds, d ≠ .none) ∧ (∀ d ∈ ds, d.depth ≤ 60) ∧
  ∀ p, H p = none → Q (.ref p) (upd H p (.lst (((xs.zip ds).mergeSort (PySem.W.dataLe false Prod.snd)).map Prod.fst)))
theorem dpAll_len {K : PySem.W.Frag} {H : Hp} : ∀ {xs : List V} {ds : List PyData}, DpAll K H xs ds → xs.length = ds.length
  | [], [], _ => rfl
  | [], _ :: _, h => by cases h
  | _ :: _, [], h => by cases h
  | x :: xs, d :: ds, h => by
    cases h with
    | cons h1 h2 => simp [dpAll_len h2]
theorem sorted_each {X : Cx} {pins : List (Addr × Obj)} {σ : St} {H : Hp} {s : Shared} (I : Inv X pins σ H s) : ∀ {xs : List V} {ds : List PyData} {its : List Value}, DpAll X.K H xs ds → Vals xs its →
    PySem.W.EachIs (fun (u : Value) (b : V × PyData) => RelV b.1 u) its (xs.zip ds) ∧ PySem.W.EachIs (fun (u : Value) (b : V × PyData) => ∃ as, Reads s.heap u b.2 as) its (xs.zip ds)
  | [], [], _, _, r => by cases r; exact ⟨.nil, .nil⟩
  | [], _ :: _, _, h, _ => by cases h
  | _ :: _, [], _, h, _ => by cases h
  | x :: xs, d :: ds, _, h, r => by
    cases h with
    | cons h1 h2 =>
      cases r with
      | cons r1 r2 =>
        obtain ⟨e1, e2⟩ := sorted_each I h2 r2
        exact ⟨.cons r1 e1, .cons (Dp.reads I d _ _ h1 r1) e2⟩
theorem each_vals {α : Type} {f : α → V} : ∀ {out : List Value} {bs : List α}, PySem.W.EachIs (fun (u : Value) (b : α) => RelV (f b) u) out bs → Vals (bs.map f) out
  | _, _, .nil => .nil
  | _, _, .cons h t => .cons h (each_vals t)
theorem cr_sortedD {X : Cx} (hu : X.A.units + 64 < cLine) : CallR X (.builtin "sorted") (rSortedD X.K) := by
  intro pins s σ H vs us Q I rv h
  obtain ⟨a, xs, ds, rfl, hS, hD, hal, hk, hn, hdp, q⟩ := h
  cases rv with
  | cons r1 r2 =>
  cases r2
  cases r1
  obtain ⟨its, rx, pl, hz⟩ := I.list hS
  obtain ⟨e1, e2⟩ := sorted_each I hD rx
  have hl := dpAll_len hD
  have em : (xs.zip ds).map Prod.snd = ds := by
    rw [List.map_snd_zip]; omega
  have e2' : PySem.W.EachIs (fun v b => ∃ as, Reads (PySem.W.sortingHeap (PySem.W.copyHeap s.heap its) (s.heap.objs.size + 1) its) v b.2 as) its (xs.zip ds) := e2.mono fun _ _ ⟨as, r⟩ => ⟨as, PyProof.Rows.Reads.keeps (fun _ _ => PySem.W.sorting_copy_old) r⟩
  have hlen : its.length = (xs.zip ds).length := e1.length
  have hal' : PySem.W.AllAlike ((xs.zip ds).map Prod.snd) := by rw [em]; exact hal
  refine PySem.W.sorted_vals pl.isList (sortsAt_short (s := { s with heap := PySem.W.sortingHeap (PySem.W.copyHeap s.heap its) (s.heap.objs.size + 1) its }) (PySem.W.each_map (R := fun v d => ∃ as, Reads (PySem.W.sortingHeap (PySem.W.copyHeap s.heap its) (s.heap.objs.size + 1) its) v d as) Prod.snd e2') hal' (by rw [em]; exact hk) (by rw [em]; exact hn) (fun d hd => ?_)) (by rw [← rx.length]; exact hz) ?_
  · rw [em] at hd
    have := hdp d hd
    show X.A.units + 1 + 1 + d.depth < cLine
    omega
  · obtain ⟨m, Fr0⟩ := I.fr
    have N0 : News X.base X.env.locals s.heap [] := fun p hp => by cases hp
    obtain ⟨c, _, N1, _, keep⟩ := PySem.W.sorted_news Fr0 N0 its (PySem.W.sortVals (PySem.W.dataKind (PySem.W.sortingHeap (PySem.W.copyHeap s.heap its) (s.heap.objs.size + 1) its) ((xs.zip ds).map Prod.snd)) false its its)
    have hD1 := (N1 _ List.mem_cons_self).1
    have se := PySem.W.sortVals_data (R := fun (u : Value) (b : V × PyData) => RelV b.1 u) false e1 e2' hal'
    have hp : s.heap.objs.size ≤ s.heap.objs.size + 1 := Nat.le_succ _
    refine ⟨.ref (s.heap.objs.size + 1), _, I.laid (a := s.heap.objs.size + 1) (t' := s.toks) keep hp ?_, rfl, q _ (I.hok.fresh hp)⟩
    refine ⟨?_, _, c, each_vals (f := Prod.fst) se, hD1⟩
    rw [List.length_map, List.length_mergeSort, ← hlen, ← rx.length]
    exact hz
def alikesB (ds : List PyData) : Bool := ds.all fun x => ds.all fun y => PySem.W.alike x y
def isTupC : PyData → Bool
  | .tuple (_ :: _) => true
  | _ => false
def notTN : PyData → Bool
  | .tuple _ => false
  | .none => false
  | _ => true
def notN : PyData → Bool
  | .none => false
  | _ => true
def isNilT : PyData → Bool
  | .tuple [] => true
  | _ => false
def shortB (ds : List PyData) : Bool := decide (ds.length ≤ 1) || ds.all isNilT
def sortOk (ds : List PyData) : Bool := alikesB ds && (ds.all isTupC || ds.all notTN || shortB ds) && ds.all notN && ds.all fun d => decide (d.depth ≤ 60)
def sortW (ws : List Val) (ds : List PyData) : List Val := ((ws.zip ds).mergeSort (PySem.W.dataLe false Prod.snd)).map Prod.fst
def oSorted (ws : List Val) : Option Val := match ws with
  | [.lst _ ws] => if noOwns ws = true then (toPys ws).bind fun ds => if sortOk ds = true then some (.lst true (sortW ws ds)) else none else none
  | _ => none
theorem toPys_len : ∀ {ws : List Val} {ds : List PyData}, toPys ws = some ds → ws.length = ds.length
  | [], _, e => by cases e; rfl
  | w :: ws, _, e => by
    simp only [toPys, Option.bind_eq_some_iff, Option.map_eq_some_iff] at e
    obtain ⟨d, _, ds, e2, rfl⟩ := e
    simp [toPys_len e2]
theorem Reps.mems {F H : Hp} {α : Type} (f : α → V) (g : α → Val) : ∀ {l : List α}, (∀ x ∈ l, Rep F H (f x) (g x) []) → Reps F H (l.map f) (l.map g) []
  | [], _ => .nil
  | x :: l, h => .cons (f1 := []) (f2 := []) (h x List.mem_cons_self) (Reps.mems f g fun y hy => h y (List.mem_cons_of_mem _ hy))
theorem Reps.zipMem {F H : Hp} : ∀ {us : List V} {ws : List Val} {g : List Addr}, g = [] → Reps F H us ws g → ∀ p ∈ us.zip ws, Rep F H p.1 p.2 []
  | [], _, _, _, _, p, hp => by simp at hp
  | _ :: _, [], _, _, r, p, hp => by simp at hp
  | u :: us, w :: ws, _, eg, r, p, hp => by
    cases r with
    | cons r1 r2 =>
      have e := List.append_eq_nil_iff.mp eg
      simp only [List.zip_cons_cons, List.mem_cons] at hp
      rcases hp with rfl | hp
      · rw [e.1] at r1; exact r1
      · exact Reps.zipMem e.2 r2 p hp
theorem zip3 {α β γ : Type} : ∀ (xs : List α) (ws : List β) (ds : List γ), xs.length = ws.length → ws.length = ds.length → ((xs.zip ws).zip ds).map (fun p => (p.1.1, p.2)) = xs.zip ds ∧ ((xs.zip ws).zip ds).map (fun p => (p.1.2, p.2)) = ws.zip ds
  | [], [], [], _, _ => ⟨rfl, rfl⟩
  | x :: xs, w :: ws, d :: ds, h1, h2 => by
    obtain ⟨e1, e2⟩ := zip3 xs ws ds (by simpa using h1) (by simpa using h2)
    simp [e1, e2]
  | [], _ :: _, _, h, _ => by simp at h
  | _ :: _, [], _, h, _ => by simp at h
  | _, [], _ :: _, _, h => by simp at h
  | _, _ :: _, [], _, h => by simp at h
theorem sortW_rep {F H : Hp} {us : List V} {ws : List Val} {ds : List PyData} (r : Reps F H us ws []) (el : ws.length = ds.length) : Reps F H (((us.zip ds).mergeSort (PySem.W.dataLe false Prod.snd)).map Prod.fst) (sortW ws ds) [] := by
  obtain ⟨e1, e2⟩ := zip3 us ws ds r.length el
  have m1 := PySem.W.sort_maps (r := PySem.W.dataLe false fun p : (V × Val) × PyData => p.2) (s := PySem.W.dataLe false (Prod.snd : V × PyData → PyData)) (fun p : (V × Val) × PyData => (p.1.1, p.2)) (l := (us.zip ws).zip ds) fun _ _ _ _ => rfl
  have m2 := PySem.W.sort_maps (r := PySem.W.dataLe false fun p : (V × Val) × PyData => p.2) (s := PySem.W.dataLe false (Prod.snd : Val × PyData → PyData)) (fun p : (V × Val) × PyData => (p.1.2, p.2)) (l := (us.zip ws).zip ds) fun _ _ _ _ => rfl
  rw [e1] at m1
  rw [e2] at m2
  unfold sortW
  rw [← m1, ← m2, List.map_map, List.map_map]
  refine Reps.mems _ _ fun p hp => ?_
  have hp2 : p ∈ (us.zip ws).zip ds := List.mem_mergeSort.mp hp
  exact Reps.zipMem rfl r p.1 (List.of_mem_zip hp2).1
theorem vsorted {K : PySem.W.Frag} : VOpS (rSortedD K) oSorted := fun F H xs ws w Q hF p e k => by
  match ws, e with
  | [.lst o vs], e =>
    simp only [oSorted] at e
    split at e
    case isFalse => cases e
    case isTrue n =>
    simp only [Option.bind_eq_some_iff] at e
    obtain ⟨ds, e1, e2⟩ := e
    split at e2
    case isFalse => cases e2
    case isTrue hs =>
    cases e2
    simp only [sortOk, Bool.and_eq_true, Bool.or_eq_true, List.all_eq_true, decide_eq_true_eq, alikesB] at hs
    obtain ⟨⟨⟨h1, h2⟩, h3⟩, h4⟩ := hs
    obtain ⟨u, rfl, pu⟩ := p.one
    obtain ⟨a, us, rfl, ha, pus⟩ := pu.lst hF
    have ru := pus.no n
    refine ⟨a, us, ds, rfl, .of ha, ru.dp hF e1, fun d hd d' hd' => h1 d hd d' hd', ?_, fun d hd z => ?_, h4, fun l nl => ?_⟩
    · rcases h2 with (h2 | h2) | h2
      · refine .inl (.inl fun d hd => ?_)
        have := h2 d hd
        cases d with
        | tuple xs =>
          cases xs with
          | nil => simp [isTupC] at this
          | cons x r => exact ⟨x, r, rfl⟩
        | _ => simp [isTupC] at this
      · refine .inl (.inr fun d hd => ?_)
        have := h2 d hd
        cases d <;> simp [notTN] at this ⊢
      · simp only [shortB, Bool.or_eq_true, decide_eq_true_eq, List.all_eq_true] at h2
        rcases h2 with h2 | h2
        · exact .inr (.inl h2)
        · refine .inr (.inr fun d hd => ?_)
          have := h2 d hd
          cases d with
          | tuple xs =>
            cases xs with
            | nil => rfl
            | cons x r => simp [isNilT] at this
          | _ => simp [isNilT] at this
    · have := h3 d hd
      subst z
      simp [notN] at this
    · obtain ⟨x1, n1⟩ := Nw.lst hF nl (sortW_rep ru (toPys_len e1))
      exact k _ _ _ x1 n1
/-! ### sum, all, any, min, max, str, int -/
def intsOf : List Val → Option (List Int)
  | [] => some []
  | .int i :: ws => (intsOf ws).map fun is => i :: is
  | _ :: _ => none
def blsOf : List Val → Option (List Bool)
  | [] => some []
  | .bl i :: ws => (blsOf ws).map fun is => i :: is
  | _ :: _ => none
def strsOf : List Val → Option (List Str)
  | [] => some []
  | .str i :: ws => (strsOf ws).map fun is => i :: is
  | _ :: _ => none
theorem intsOf_rep {F H : Hp} : ∀ {ws : List Val} {is : List Int} {us : List V} {g : List Addr}, intsOf ws = some is → Reps F H us ws g → us = is.map V.int
  | [], _, _, _, e, r => by cases e; cases r; rfl
  | w :: ws, _, _, _, e, r => by
    cases w <;> simp [intsOf] at e
    obtain ⟨is, e1, rfl⟩ := e
    cases r with
    | cons r1 r2 => cases r1; rw [intsOf_rep e1 r2]; rfl
theorem blsOf_rep {F H : Hp} : ∀ {ws : List Val} {is : List Bool} {us : List V} {g : List Addr}, blsOf ws = some is → Reps F H us ws g → us = is.map V.bl
  | [], _, _, _, e, r => by cases e; cases r; rfl
  | w :: ws, _, _, _, e, r => by
    cases w <;> simp [blsOf] at e
    obtain ⟨is, e1, rfl⟩ := e
    cases r with
    | cons r1 r2 => cases r1; rw [blsOf_rep e1 r2]; rfl
theorem strsOf_rep {F H : Hp} : ∀ {ws : List Val} {is : List Str} {us : List V} {g : List Addr}, strsOf ws = some is → Reps F H us ws g → us = is.map V.str
  | [], _, _, _, e, r => by cases e; cases r; rfl
  | w :: ws, _, _, _, e, r => by
    cases w <;> simp [strsOf] at e
    obtain ⟨is, e1, rfl⟩ := e
    cases r with
    | cons r1 r2 => cases r1; rw [strsOf_rep e1 r2]; rfl
def oAll : List Val → Option Val
  | [.lst _ ws] => (blsOf ws).map fun is => .bl (is.all id)
  | _ => none
theorem vall {K : PySem.W.Frag} : VOpS (rAll K) oAll := fun F H xs ws w Q hF p e k => by
  match ws, e with
  | [.lst o vs], e =>
    simp only [oAll, Option.map_eq_some_iff] at e
    obtain ⟨is, e1, rfl⟩ := e
    obtain ⟨u, rfl, pu⟩ := p.one
    obtain ⟨a, us, rfl, ha, g, r⟩ := pu.lst hF
    have := blsOf_rep e1 r
    subst this
    exact ⟨a, is, rfl, .of ha, k _ F H (.refl hF) (.of (.bl _))⟩
def oMin : List Val → Option Val
  | [.int i, .int j] => some (.int (if j < i then j else i))
  | _ => none
def oMax : List Val → Option Val
  | [.int i, .int j] => some (.int (if j > i then j else i))
  | _ => none
theorem vmin : VOpS (fun xs H Q => ∃ i j, xs = [.int i, .int j] ∧ Q (.int (if j < i then j else i)) H) oMin := fun F H xs ws w Q hF p e k => by
  match ws, e with
  | [.int i, .int j], e =>
    cases e
    obtain ⟨u, v, rfl, pu, pv⟩ := p.two
    have := pu.int; subst this
    have := pv.int; subst this
    exact ⟨i, j, rfl, k _ F H (.refl hF) (.of (.int _))⟩
theorem vmax : VOpS (fun xs H Q => ∃ i j, xs = [.int i, .int j] ∧ Q (.int (if j > i then j else i)) H) oMax := fun F H xs ws w Q hF p e k => by
  match ws, e with
  | [.int i, .int j], e =>
    cases e
    obtain ⟨u, v, rfl, pu, pv⟩ := p.two
    have := pu.int; subst this
    have := pv.int; subst this
    exact ⟨i, j, rfl, k _ F H (.refl hF) (.of (.int _))⟩
def oStr : List Val → Option Val
  | [.int i] => if i.natAbs.log2 < 1920 then some (.str (Str.ofString (toString i))) else none
  | _ => none
theorem vstr : VOpS (fun xs H Q => ∃ i : Int, xs = [.int i] ∧ i.natAbs.log2 < 1920 ∧ Q (.str (toString i)) H) oStr := fun F H xs ws w Q hF p e k => by
  match ws, e with
  | [.int i], e =>
    simp only [oStr] at e
    split at e
    case isFalse => cases e
    case isTrue h =>
    cases e
    obtain ⟨u, rfl, pu⟩ := p.one
    have := pu.int; subst this
    exact ⟨i, rfl, h, k _ F H (.refl hF) (.of (.str _))⟩
def oInt1 : List Val → Option Val
  | [.int i] => some (.int i)
  | [.bl b] => some (.int (if b then 1 else 0))
  | [.str s] => if s.length ≤ 640 then (PySem.intText? s).map fun n => .int n else none
  | _ => none
def rInt1 : List V → Hp → VK → Prop := fun xs H Q => ((∃ i, xs = [.int i] ∧ Q (.int i) H) ∨ ∃ k, xs = [.bl k] ∧ Q (.int (if k then 1 else 0)) H) ∨ ∃ a n, xs = [.str a] ∧ PySem.intText? a = some n ∧ a.length ≤ 640 ∧ Q (.int n) H
theorem call_intAll {X : Cx} : CallR X (.type "int") rInt1 := CallR.or call_int1 call_int_str
theorem vint1 : VOpS rInt1 oInt1 := fun F H xs ws w Q hF p e k => by
  match ws, e with
  | [.int i], e =>
    cases e
    obtain ⟨u, rfl, pu⟩ := p.one
    have := pu.int; subst this
    exact .inl (.inl ⟨i, rfl, k _ F H (.refl hF) (.of (.int _))⟩)
  | [.bl b], e =>
    cases e
    obtain ⟨u, rfl, pu⟩ := p.one
    have := pu.bl; subst this
    exact .inl (.inr ⟨b, rfl, k _ F H (.refl hF) (.of (.int _))⟩)
  | [.str s], e =>
    simp only [oInt1] at e
    split at e
    case isFalse => cases e
    case isTrue h =>
    simp only [Option.map_eq_some_iff] at e
    obtain ⟨n, e1, rfl⟩ := e
    obtain ⟨u, rfl, pu⟩ := p.one
    have := pu.str; subst this
    exact .inr ⟨s, n, rfl, e1, h, k _ F H (.refl hF) (.of (.int _))⟩
/-! ### isinstance(x, T) -/
def tyName : Val → Option String
  | .non => some "NoneType" | .bl _ => some "bool" | .int _ => some "int" | .str _ => some "str"
  | .tup _ => some "tuple" | .tpz _ => some "tuple" | .lst _ _ => some "list" | .dT _ _ _ => some "dict" | .dK _ _ _ => some "dict"
  | _ => none
def pIsi (T : String) (f : P Val) : P Val := fun ρ => (f ρ).bind fun w => (tyName w).bind fun n => (kitB n T).map fun b => .bl b
theorem tyName_rep {K : PySem.W.Frag} {F H : Hp} {u : V} {w : Val} {n : String} (hF : Le F H) (p : Pk F H u w) (e : tyName w = some n) : TyX K H u (.type n) := by
  obtain ⟨g, r⟩ := p
  cases r <;> simp [tyName] at e <;> subst e
  · exact .base .non
  · exact .base (.bl _)
  · exact .base (.int _)
  · exact .base (.str _)
  · rename_i h _; exact .base (.tup (hF _ _ h))
  · rename_i h _; exact .base (.lst (hF _ _ h))
  · rename_i h _; exact .base (.lst h)
  · rename_i h _ _; exact .base (.dT (hF _ _ h))
  · rename_i h _ _; exact .base (.dT h)
  · rename_i h _ _; exact .base (.dK (hF _ _ h))
  · rename_i h _ _; exact .base (.dK h)
  · rename_i h _ _; exact .fTuple (hF _ _ h)
section
variable {X : Cx} {a : Expr} {f : P Val} {p q pos : Pos}
theorem df_isi {x : Str} (T : String) (hg : Gl X "isinstance") (hm : X.mg "isinstance" = none) (hg2 : Gl X x) (hm2 : X.mg x = none) (hb : bootBuiltins x = some (.type T)) (ha : DP X a f) (hn : x ≠ "__name__" := by decide) (hd : (x == ("__debug__" : Str)) = false := by decide)
    (hbi : bootBuiltins "isinstance" = some (.builtin "isinstance") := by decide +kernel)
    (he : starEach [a, .Name x q] X.env = (false, eval a X.env) :: starEach [.Name x q] X.env := by rfl) (he2 : starEach [.Name x q] X.env = (false, eval (.Name x q) X.env) :: starEach [] X.env := by rfl) (hpl : (backTo pos (starEach [.Name x q] X.env)).any (·.1) = false := by rfl) :
    DF X (.Call (.Name "isinstance" p) [a, .Name x q] [] pos) (pIsi T f) := peImp (pe_callB call_isi hg hm hbi (pa_cons ha (pa_cons (pe_bltn (v := .ty T) hg2 hm2 hb rfl hn hd) pa_nil he2) he) (by decide) (by decide) he hpl) fun σ H Q ⟨F, ρ, fp, hF, r, w, ew, k⟩ => by
  simp only [pIsi, Option.bind_eq_some_iff, Option.map_eq_some_iff] at ew
  obtain ⟨x, e1, n, e2, b, e3, e4⟩ := ew
  subst e4
  refine ⟨F, ρ, fp, hF, r, x, e1, fun u F1 H1 x1 p1 => ?_⟩
  exact ⟨u, .ty T, .type n, .type T, b, rfl, .ty T, tyName_rep x1.FH p1 e2, kit_ty e3, k _ F1 H1 x1 (.of (.bl _))⟩
end
/-! ### methods that only look -/
def VMet (r : V → List V → Hp → VK → Prop) (g : Val → List Val → Option Val) : Prop := ∀ (F H : Hp) (x : V) (us : List V) (wx : Val) (ws : List Val) (w : Val) (Q : VK), Le F H → Pk F H x wx → PkS F H us ws → g wx ws = some w → (∀ u F' H', Ext F H F' H' → Nw F' H H' u w → Q u H') → r x us H Q
def pMet (T : Val → Bool) (g : Val → List Val → Option Val) (fo : P Val) (fs : P (List Val)) : P Val := fun ρ => (fo ρ).bind fun x => if T x = true then (fs ρ).bind fun ws => g x ws else none
def mMet (T : Val → Bool) (g : Val → List Val → Option Val) (fo : M Val) (fs : M (List Val)) : M Val := fun ρ => (fo ρ).bind fun x ρ1 => if T x = true then (fs ρ1).bind fun ws ρ2 => match g x ws with
  | some w => .ok w ρ2
  | none => .bad else .bad
def isStr : Val → Bool
  | .str _ => true
  | _ => false
section
variable {X : Cx} {k : Nat} {W : WX} {o e : Expr} {es : List Expr} {fo : P Val} {fs : P (List Val)} {apos cpos : Pos} {name : Str} {T id : String} {r : V → List V → Hp → VK → Prop} {g : Val → List Val → Option Val} {TB : Val → Bool}
def TyOk (K : PySem.W.Frag) (T : String) (TB : Val → Bool) : Prop := ∀ (F H : Hp) (u : V) (w : Val), Le F H → Pk F H u w → TB w = true → tyV K T u H
theorem ty_str {K : PySem.W.Frag} : TyOk K "str" isStr := fun F H u w hF p h => by
  cases w <;> simp [isStr] at h
  have := p.str; subst this; rfl
theorem df_met (hT : TyOk X.K T TB) (pa : PlainAttrs T) (slot : Slot T name id) (hty : typeOf (.builtin id) = pure (.type "method_descriptor")) (hm : MtR X id r) (hv : VMet r g) (ho : DP X o fo) (ha : DPs X (e :: es) fs)
    (hbase : attributeBase o name X.env (eval o X.env) = eval o X.env := by rfl)
    (hfew : ((backTo cpos (starEach (e :: es) X.env)).all (fun x => !x.1) && (backToKw cpos (keywordEach [] X.env)).all (fun x => x.1.isSome)
      && decide ((e :: es).length + ([] : List Keyword).length + (if ([] : List Keyword).isEmpty then 0 else 1) < 30)) = true := by rfl)
    (hline : (apos.endLine == cpos.line) = true := by rfl) (hs : starEach (e :: es) X.env = (false, eval e X.env) :: starEach es X.env := by rfl) (hplain : (backTo cpos (starEach es X.env)).any (·.1) = false := by rfl) :
    DF X (.Call (.Attribute o name apos) (e :: es) [] cpos) (pMet TB g fo fs) := peImp (pe_bm pa slot hty hm ho ha hbase hfew hline hs hplain) fun σ H Q ⟨F, ρ, fp, hF, rr, w, ew, kk⟩ => by
  simp only [pMet, Option.bind_eq_some_iff] at ew
  obtain ⟨x, e1, e2⟩ := ew
  split at e2
  case isFalse => cases e2
  case isTrue ht =>
  simp only [Option.bind_eq_some_iff] at e2
  obtain ⟨ws, e2, e3⟩ := e2
  refine ⟨F, ρ, fp, hF, rr, x, e1, fun u F1 H1 x1 p1 => ?_⟩
  refine ⟨hT F1 H1 u x x1.FH p1 ht, F1, ρ, fp, x1.FH, rr.ext x1, ws, e2, fun us F2 H2 x2 p2 => ?_⟩
  exact hv F2 H2 u us x ws w Q x2.FH (p1.ext x2) p2 e3 fun z F3 H3 x3 n => kk z F3 H3 ((x1.trans x2).trans x3) (n.ext (x1.trans x2) x3)
theorem dv_met {mo : M Val} {ms : M (List Val)} (hT : TyOk X.K T TB) (pa : PlainAttrs T) (slot : Slot T name id) (hty : typeOf (.builtin id) = pure (.type "method_descriptor")) (hm : MtR X id r) (hv : VMet r g) (ho : DV X k W o mo) (ha : DVs X k W (e :: es) ms)
    (hbase : attributeBase o name X.env (eval o X.env) = eval o X.env := by rfl)
    (hfew : ((backTo cpos (starEach (e :: es) X.env)).all (fun x => !x.1) && (backToKw cpos (keywordEach [] X.env)).all (fun x => x.1.isSome)
      && decide ((e :: es).length + ([] : List Keyword).length + (if ([] : List Keyword).isEmpty then 0 else 1) < 30)) = true := by rfl)
    (hline : (apos.endLine == cpos.line) = true := by rfl) (hs : starEach (e :: es) X.env = (false, eval e X.env) :: starEach es X.env := by rfl) (hplain : (backTo cpos (starEach es X.env)).any (·.1) = false := by rfl) :
    DV X k W (.Call (.Attribute o name apos) (e :: es) [] cpos) (mMet TB g mo ms) := peImp (pe_bm pa slot hty hm ho ha hbase hfew hline hs hplain) fun σ H Q ⟨B, F, ρ, τ, θ, s, hk, p⟩ => by
  refine ⟨B, F, ρ, τ, θ, s, hk, (Post.bind p).imp fun x ρ1 p1 u F1 H1 s1 => ?_⟩
  by_cases ht : TB x = true
  · simp only [ht, if_true] at p1
    refine ⟨hT F1 H1 u x s1.FH s1.top ht, B, F1, ρ1, _, _, s1, hk, (Post.bind p1).deep.imp fun ws ρ2 p2 us F2 H2 el s2 => ?_⟩
    cases q : g x ws with
    | none => rw [q] at p2; exact p2.elim
    | some w =>
      rw [q] at p2
      have s3 : SR B F2 H2 σ ρ2 (some u :: (us.map some ++ τ)) (some x :: (ws.map some ++ θ)) := s2.torot (by simpa using el)
      exact hv F2 H2 u us x ws w Q s2.FH s3.top (s2.tops el) q fun z F3 H3 x3 n => p2 z F3 H3 (((s3.push x3 n).under1).under (by simpa using el))
  · simp only [ht] at p1; exact p1.elim
end
def gJoin : Val → List Val → Option Val := fun x ws => match x, ws with
  | .str a, [.lst _ ys] => (strsOf ys).bind fun ss => if (ss.map (·.length)).sum + ss.length * a.length ≤ 16777216 then some (.str (Txt.join a ss)) else none
  | .str a, [.tup ys] => (strsOf ys).bind fun ss => if (ss.map (·.length)).sum + ss.length * a.length ≤ 16777216 then some (.str (Txt.join a ss)) else none
  | _, _ => none
theorem vjoin {K : PySem.W.Frag} : VMet (fun x xs H Q => ∃ a p, ∃ ys : List Str, x = .str a ∧ xs = [.ref p] ∧ (SqL K H p (ys.map V.str) ∨ SqT K H p (ys.map V.str)) ∧ (ys.map (·.length)).sum + ys.length * a.length ≤ 16777216 ∧ Q (.str (Txt.join a ys)) H) gJoin := fun F H x us wx ws w Q hF px pus e k => by
  cases wx <;> try (simp [gJoin] at e; done)
  rename_i a
  have := px.str; subst this
  match ws, e with
  | [.lst o ys], e =>
    simp only [gJoin, Option.bind_eq_some_iff] at e
    obtain ⟨ss, e1, e2⟩ := e
    split at e2
    case isFalse => cases e2
    case isTrue h =>
    cases e2
    obtain ⟨u, rfl, pu⟩ := pus.one
    obtain ⟨b, vs, rfl, hb, g, r⟩ := pu.lst hF
    have := strsOf_rep e1 r
    subst this
    exact ⟨a, b, ss, rfl, rfl, .inl (.of hb), h, k _ F H (.refl hF) (.of (.str _))⟩
  | [.tup ys], e =>
    simp only [gJoin, Option.bind_eq_some_iff] at e
    obtain ⟨ss, e1, e2⟩ := e
    split at e2
    case isFalse => cases e2
    case isTrue h =>
    cases e2
    obtain ⟨u, rfl, pu⟩ := pus.one
    obtain ⟨b, vs, rfl, hb, g, r⟩ := pu.tup
    have := strsOf_rep e1 r
    subst this
    exact ⟨a, b, ss, rfl, rfl, .inr (.of (hF _ _ hb)), h, k _ F H (.refl hF) (.of (.str _))⟩
theorem strs_rep {F H : Hp} : ∀ ss : List Str, Reps F H (ss.map V.str) (ss.map Val.str) []
  | [] => .nil
  | s :: ss => .cons (f1 := []) (f2 := []) (.str s) (strs_rep ss)
def gSplit : Val → List Val → Option Val := fun x ws => match x, ws with
  | .str a, [.str b] => if (b.length == 0) = false ∧ a.length + 2 ≤ sizeLine then some (.lst true ((Txt.split a b).map .str)) else none
  | _, _ => none
theorem vsplit : VMet (fun x xs H Q => ∃ a b, x = .str a ∧ xs = [.str b] ∧ (b.length == 0) = false ∧ a.length + 2 ≤ sizeLine ∧ rNewStrs (Txt.split a b) H Q) gSplit := fun F H x us wx ws w Q hF px pus e k => by
  cases wx <;> try (simp [gSplit] at e; done)
  rename_i a
  have := px.str; subst this
  match ws, e with
  | [.str b], e =>
    simp only [gSplit] at e
    split at e
    case isFalse => cases e
    case isTrue h =>
    cases e
    obtain ⟨u, rfl, pu⟩ := pus.one
    have := pu.str; subst this
    refine ⟨a, b, rfl, rfl, h.1, h.2, fun p np => ?_⟩
    obtain ⟨x1, n1⟩ := Nw.lst hF np (strs_rep (Txt.split a b))
    exact k _ _ _ x1 n1
end L2.DL

namespace L2.DL
open L2 PyProof.Rows PySem.Spec PySem
/-! ### x[i] op= e, x a list in a slot -/
theorem get_listR {X : Cx} : PGet X (rIxL X.K) := by
  intro pins s σ H o i ov iv Q I ro ri h
  obtain ⟨p, xs, j, z, rfl, rfl, hq, he, q⟩ := h
  cases ro
  obtain ⟨t, rfl⟩ := ri
  obtain ⟨its, r, pl, hz⟩ := I.list hq
  obtain ⟨n, h1, h2, h3, h4, h5⟩ := atI_get he
  obtain ⟨w, ew, rw'⟩ := r.get h2
  have hl := r.length
  have hn := line63
  have fin : EP X pins σ Q w s := ⟨z, H, I, rw', q⟩
  by_cases h0 : 0 ≤ j
  · have hj : j.toNat = n := by
      rw [seqIndex_of h0 h5] at h1
      exact Option.some.inj h1
    exact wpAny_getItem_list pl.isList h0 (by omega) (by rw [hj]; simpa using ew) fin
  · have hj : (j + (its.toArray.size : Int)).toNat = n := by
      rw [seqIndex_neg (by omega) h4] at h1
      rw [List.size_toArray, ← hl]
      exact Option.some.inj h1
    exact wpAny_getItem_list_neg pl.isList (by omega) (by rw [List.size_toArray] <;> omega) (by omega) (by rw [hj]; simpa using ew) fin
def sAugL (i : Nat) (fi : P Val) (op : Val → Val → Option Val) (fe : P Val) : G := fun ρ => match (ρ[i]?).join with
  | some (.lst true xs) => (match fi ρ with
    | some (.int j) => (match atI xs j, fe ρ with
      | some x, some y => (match op x y, ixN xs.length j with
        | some z, some n => .nx (ρ.set i (some (.lst true (xs.set n z))))
        | _, _ => .bad)
      | _, _ => .bad)
    | _ => .bad)
  | _ => .bad
theorem SR.view {B : Base} {F H : Hp} {σ : St} {ρ : Slots} {τ : List (Option V)} {θ : Slots} (s : SR B F H σ ρ τ θ) : ∃ fp, Le F H ∧ RepL F H σ ρ fp := let ⟨f1, _, h⟩ := s; ⟨f1, h.FH, h.s⟩
theorem ds_augL (i : Nat) {X : Cx} {k : Nat} {W : WX} {x : Str} {px tpos pos : Pos} {ie e : Expr} {op : Operator} {ti : TIp} {o : Val → Val → Option Val} {fi fe : P Val} (ho : PIp X op ti) (hv : VIp ti o) (hi : DP X ie fi) (he : DP X e fe)
    (hN : X.N[i]? = some x := by rfl) (hvi : Vis X.env.scope x := by first | exact Or.inl rfl | exact Or.inr (Or.inl rfl) | exact Or.inr (Or.inr rfl)) (hd : (x == ("__debug__" : Str)) = false := by decide)
    (hcd : (x == ("__classdict__" : Str)) = false := by decide)
    (ha : ∀ ov iv new, augStore ie ov iv new = (do holding [new, ov, iv] (setItem ov iv new); release [new, ov, iv] []; pure .next) := by intros; rfl) :
    DS X k W (.AugAssign (.Subscript (.Name x px) ie tpos) op e pos) (sAugL i fi o fe) := psImp (ps_augS (pe_var hN hvi hd hcd) hi get_listR he ho set_list ha) fun D σ H ⟨B, F, ρ, τ, θ, s, hk, p⟩ => by
  unfold sAugL at p
  cases q0 : (ρ[i]?).join with
  | none => rw [q0] at p; exact p.elim
  | some w0 =>
    rw [q0] at p
    cases w0 with
    | lst ow xs =>
      cases ow with
      | false => exact p.elim
      | true =>
        dsimp only at p
        cases q1 : fi ρ with
        | none => rw [q1] at p; exact p.elim
        | some iw =>
          rw [q1] at p
          cases iw with
          | int j =>
            dsimp only at p
            cases q2 : atI xs j with
            | none => rw [q2] at p; exact p.elim
            | some xw =>
              rw [q2] at p
              cases q3 : fe ρ with
              | none => rw [q3] at p; exact p.elim
              | some y =>
                rw [q3] at p
                dsimp only at p
                cases q4 : o xw y with
                | none => rw [q4] at p; exact p.elim
                | some z =>
                  rw [q4] at p
                  cases q5 : ixN xs.length j with
                  | none => rw [q5] at p; exact p.elim
                  | some n =>
                    rw [q5] at p
                    dsimp only at p
                    obtain ⟨v, ev, pv⟩ := s.get (join_some q0)
                    obtain ⟨fp, hF, rl⟩ := s.view
                    refine ⟨v, ev, F, ρ, fp, hF, rl, _, q1, fun iu F1 H1 x1 pk1 => ?_⟩
                    obtain rfl := pk1.int
                    have s1 := s.ext x1
                    obtain ⟨a, us, rfl, hA, pks⟩ := Pk.lst s1.FH (pv.ext x1)
                    obtain ⟨u, e1, pu⟩ := atI_rep pks q2
                    refine ⟨a, us, j, u, rfl, rfl, .inl (.inl hA), e1, ?_⟩
                    obtain ⟨fp1, hF1, rl1⟩ := s1.view
                    refine ⟨F1, ρ, fp1, hF1, rl1, y, q3, fun yv F2 H2 x2 pk2 => ?_⟩
                    have s2 := s1.ext x2
                    refine hv F2 H2 u yv xw y z _ s2.FH (pu.ext x2) pk2 q4 fun zv F3 H3 x3 nz => ?_
                    have s3 := s2.push x3 nz
                    obtain ⟨a', vs, ga, gus, ev', hA3, rv, rus, km⟩ := SR.openL (us := [zv]) (ws := [z]) rfl s3 (join_some q0)
                    rw [ev] at ev'; cases ev'
                    cases rus with
                    | @cons _ _ _ _ g1 g2 r1 r2 =>
                      cases r2
                      obtain ⟨g', r', c'⟩ := Reps.setE r1 n rv
                      refine ⟨a, vs, j, n, rfl, rfl, hA3, by rw [rv.length]; exact q5, ?_⟩
                      exact p σ F3 _ (km _ _ g' .non .non [] r' .non fun b => by have := c' b; simp only [List.count_append, List.count_nil] at *; omega).pop
          | _ => exact p.elim
    | _ => exact p.elim
def ipAdd := oInt fun i j => .int (i + j)
def ipSub := oInt fun i j => .int (i - j)
theorem vip_int {f : Int → Int → Int} : VIp (ipI f) (oInt fun i j => .int (f i j)) := fun F H x y wx wy w Q hF px py e k => by
  unfold oInt at e
  split at e
  · cases e
    refine ⟨_, _, px.int, py.int, k _ F H (.refl hF) (.of (.int _))⟩
  · cases e
theorem vip_add : VIp (ipI fun i j => i + j) ipAdd := vip_int
end L2.DL

namespace L2.DL
open L2 PyProof.Rows PySem.Spec PySem
theorem rm1 {k : Nat} {A : Around} (r : Room k A) : A.units + 1 < cLine := by have := r.un; omega
theorem rm64 {k : Nat} {A : Around} (r : Room k A) : A.units + 64 < cLine := by have := r.un; omega
theorem rm65 {k : Nat} {A : Around} (r : Room k A) : A.units + 65 < cLine := by have := r.un; omega
/-! ### how many arguments -/
theorem pl0 (ρ : Slots) (ws : List Val) (h : psNil ρ = some ws) : ws.length = 0 := by cases h; rfl
theorem plc {f : P Val} {fs : P (List Val)} {n : Nat} (h : ∀ ρ ws, fs ρ = some ws → ws.length = n) (ρ : Slots) (ws : List Val) (e : psCons f fs ρ = some ws) : ws.length = n + 1 := by
  obtain ⟨x, xs, _, e2, rfl⟩ := psCons_some e
  rw [List.length_cons, h _ _ e2]
theorem vl0 (ρ : Slots) (ws : List Val) (ρ' : Slots) (h : msNil ρ = .ok ws ρ') : ws.length = 0 := by cases h; rfl
theorem vlc {f : M Val} {fs : M (List Val)} {n : Nat} (h : ∀ ρ ws ρ', fs ρ = .ok ws ρ' → ws.length = n) (ρ : Slots) (ws : List Val) (ρ' : Slots) (e : msCons f fs ρ = .ok ws ρ') : ws.length = n + 1 := by
  obtain ⟨x, xs, ρ1, _, e2, rfl⟩ := msCons_ok e
  rw [List.length_cons, h _ _ _ e2]
theorem al0 (ρ : Slots) (as : List (Nat ⊕ Val)) (ρ' : Slots) (h : aNil ρ = .ok as ρ') : as.length = 0 := by cases h; rfl
theorem als {i : Nat} {fs : M (List (Nat ⊕ Val))} {n : Nat} (h : ∀ ρ as ρ', fs ρ = .ok as ρ' → as.length = n) (ρ : Slots) (as : List (Nat ⊕ Val)) (ρ' : Slots) (e : aSlot i fs ρ = .ok as ρ') : as.length = n + 1 := by
  unfold aSlot at e
  split at e
  · cases e
  · cases q : fs ρ with
    | ok a ρ1 => rw [q] at e; cases e; rw [List.length_cons, h _ _ _ q]
    | err c p ρ1 => rw [q] at e; cases e
    | bad => rw [q] at e; cases e
theorem alv {f : M Val} {fs : M (List (Nat ⊕ Val))} {n : Nat} (h : ∀ ρ as ρ', fs ρ = .ok as ρ' → as.length = n) (ρ : Slots) (as : List (Nat ⊕ Val)) (ρ' : Slots) (e : aVal f fs ρ = .ok as ρ') : as.length = n + 1 := by
  unfold aVal at e
  cases q0 : f ρ with
  | err c p ρ1 => rw [q0] at e; cases e
  | bad => rw [q0] at e; cases e
  | ok w ρ1 =>
    rw [q0] at e
    simp only [R.bind_ok] at e
    cases q : fs ρ1 with
    | ok a ρ1 => rw [q] at e; cases e; rw [List.length_cons, h _ _ _ q]
    | err c p ρ1 => rw [q] at e; cases e
    | bad => rw [q] at e; cases e
/-! ### a call of a def that changes nothing, the arguments looked at, what it raises let out -/
def mCallP (m : List Val → R0) (fs : P (List Val)) : M Val := fun ρ => match fs ρ with
  | none => .bad
  | some ws => if noObjs ws = true then (match m (frzs ws) with
    | .ok w => if (noOwns ws || noSh w) = true then .ok w ρ else .bad
    | .err c pl => if plSh ws pl = true then .err c pl ρ else .bad
    | .bad => .bad) else .bad
section
variable {X : Cx} {k j : Nat} {W : WX} {e a b : Expr} {es rest : List Expr} {f : Addr} {fd : FuncData} {ps : List Str} {m : List Val → R0} {x : Str} {p pos : Pos}
theorem dv_callP {fs : P (List Val)} (G : FnOk X.prog X.w X.K X.mg X.base (L2.CX X.prog X.w) j f fd ps (spP X.mg ps.length m)) (hr : Room j X.A) (tk : Takes X W) (hg : Gl X x) (hm : X.mg x = some (.ref f)) (hk : PySem.W.keepIn X.K (.ref f) = true) (hb : Binds X.K fd ps [])
    (hl : ∀ ρ ws, fs ρ = some ws → ws.length = ps.length) (ha : DPs X (e :: es) fs) (hdb : (x == ("__debug__" : Str)) = false := by decide) (he : starEach (e :: es) X.env = (false, eval e X.env) :: starEach es X.env := by rfl) (hpl : (backTo pos (starEach es X.env)).any (·.1) = false := by rfl) :
    DV X k W (.Call (.Name x p) (e :: es) [] pos) (mCallP m fs) := peImp (pe_callS (E := WE W) G hr hg hm hk hb (fun σ => passAt tk σ) ha hdb he hpl) fun σ H Q ⟨B, F, ρ, τ, θ, s, hk, p⟩ => by
  unfold mCallP at p
  cases qf : fs ρ with
  | none => rw [qf] at p; exact p.elim
  | some ws =>
    rw [qf] at p
    dsimp only at p
    obtain ⟨fp, hF, rl⟩ := s.view
    refine ⟨F, ρ, fp, hF, rl, ws, qf, fun us F1 H1 x1 ⟨g, ra⟩ => ?_⟩
    have s1 := s.ext x1
    split at p
    case isFalse => exact p.elim
    case isTrue no =>
    refine ⟨join F1 H1 g, frzs ws, by rw [frzs_length]; exact hl _ _ qf, join_H s1.FH, ra.frz (join_le s1.FH) no fun a ha => join_mem ha, ?_⟩
    cases q : m (frzs ws) with
    | ok w' =>
      rw [q] at p
      (try dsimp only at p); (try dsimp only)
      split at p
      case isFalse => exact p.elim
      case isTrue hc =>
      intro u F' H' x2 n
      obtain ⟨F'', x3, k1, _⟩ := lend s1.FH ra x2 (.inr trivial)
      exact p u F'' H' (s1.push x3 (k1 (by simpa using hc) n))
    | err c pl =>
      rw [q] at p
      (try dsimp only at p); (try dsimp only)
      split at p
      case isFalse => exact p.elim
      case isTrue hc =>
      intro C d F' H' eC x2 xr
      obtain ⟨F'', x3, _, k2⟩ := lend s1.FH ra x2 (.inr trivial)
      refine p C d F'' H' eC (s1.ext x3) ?_
      cases pl with
      | none => trivial
      | some z =>
        obtain ⟨dd, v, e1, e2, e3⟩ := xr
        exact ⟨dd, v, e1, e2, k2 (by simpa [plSh] using hc) e3⟩
    | bad => rw [q] at p; exact p.elim
/-! ### and, or of values, with effects -/
def mAndV (fa fb : M Val) : M Val := fun ρ => (fa ρ).bind fun x ρ1 => match x with
  | .bl true => fb ρ1
  | .bl false => .ok (.bl false) ρ1
  | _ => .bad
def mOrV (fa fb : M Val) : M Val := fun ρ => (fa ρ).bind fun x ρ1 => match x with
  | .bl true => .ok (.bl true) ρ1
  | .bl false => fb ρ1
  | _ => .bad
end
/-! ### comprehensions, the slots told apart -/
section
variable {X : Cx} {k : Nat} {W : WX} {tg elt iter : Expr} {ifs : List Expr} {scope : Scope} {own : List (Str × Nat)} {vs : List Nat} {pos : Pos}
theorem df_compV {src : P WW} {is : List Nat} {h : T} {c : P Bool} {f : P Val} (hc : X.calm = true) (hN : X.N.Nodup) (hi : DIP X tg iter src) (ok : BlkOk X.N X.env.scope scope own)
    (hg : ∀ (s : Shared) (H : Hp) (C : Addr) (cl : List (Str × Addr)) (fp : List Addr), DG (X.blk s H scope (compEnvC scope cl C X.env) fp) tg is h)
    (ht : ∀ (s : Shared) (H : Hp) (C : Addr) (cl : List (Str × Addr)) (fp : List Addr), PTs (X.blk s H scope (compEnvC scope cl C X.env) fp) ifs (tPT c))
    (he : ∀ (s : Shared) (H : Hp) (C : Addr) (cl : List (Str × Addr)) (fp : List Addr), DF (X.blk s H scope (compEnvC scope cl C X.env) fp) elt f)
    (hv : own.map (·.2) = vs := by rfl) (his : ∀ i ∈ is, i ∈ vs := by decide) (hs : ∀ x, foldedSetIterable iter X.env x = pure x := by intro _; rfl) :
    DF X (.ListComp elt [⟨tg, iter, ifs, 0⟩] scope pos) (pComp vs is src h c f) := by subst hv; exact df_comp hc hN hi ok hg ht he his hs
theorem dv_compV {src : M WW} {is : List Nat} {h : T} {c : M Bool} {f : M Val} (hc : X.calm = true) (hN : X.N.Nodup) (hi : DI X k W tg iter src) (ok : BlkOk X.N X.env.scope scope own)
    (hg : ∀ (s : Shared) (H : Hp) (C : Addr) (cl : List (Str × Addr)) (fp : List Addr), DG (X.blk s H scope (compEnvC scope cl C X.env) fp) tg is h)
    (ht : ∀ (s : Shared) (H : Hp) (C : Addr) (cl : List (Str × Addr)) (fp : List Addr), PTs (X.blk s H scope (compEnvC scope cl C X.env) fp) ifs (tVT X.mg k W0 c))
    (he : ∀ (s : Shared) (H : Hp) (C : Addr) (cl : List (Str × Addr)) (fp : List Addr), DV (X.blk s H scope (compEnvC scope cl C X.env) fp) k W0 elt f)
    (hv : own.map (·.2) = vs := by rfl) (his : ∀ i ∈ is, i ∈ vs := by decide) (hki : ∀ i ∈ vs, k ≤ i := by decide) (hs : ∀ x, foldedSetIterable iter X.env x = pure x := by intro _; rfl) :
    DV X k W (.ListComp elt [⟨tg, iter, ifs, 0⟩] scope pos) (mComp vs is src h c f) := by subst hv; exact dv_comp hc hN hi ok hg ht he his hki hs
end
/-! ### slices of what is no script -/
def oSl (x : Val) (lo hi : Option Int) : Option Val := match x with
  | .lst _ ws => if noOwns ws = true then some (.lst true (cutW ws lo hi)) else none
  | .tup ws => if noOwns ws = true then some (.tup (cutW ws lo hi)) else none
  | .tpz ws => if noOwns ws = true then (if HT.sIx ws.length 0 lo = 0 ∧ HT.sIx ws.length ws.length hi = ws.length then some (.tpz ws) else some (.tup (cutW ws lo hi))) else none
  | .str s => if s.length ≤ sizeLine then some (.str (Txt.slice s lo hi)) else none
  | _ => none
theorem oSl_slice {K : PySem.W.Frag} {x w : Val} {lo hi : Option Int} (h : oSl x lo hi = some w) : oSlice K x lo hi = some w := by
  cases x <;> first | exact h | cases h
def pSl (fa : P Val) (fl fh : P (Option Int)) : P Val := fun ρ => (fa ρ).bind fun x => (fl ρ).bind fun l => (fh ρ).bind fun h => oSl x l h
theorem df_sl {X : Cx} {a : Expr} {lo hi : Option Expr} {fa : P Val} {fl fh : P (Option Int)} {pos p2 : Pos} (ha : DP X a fa) (hl : DPO X lo fl) (hh : DPO X hi fh) : DF X (.Subscript a (.Slice lo hi none p2) pos) (pSl fa fl fh) := peImp (df_slice ha hl hh) fun σ H Q ⟨F, ρ, fp, hF, r, w, ew, k⟩ => ⟨F, ρ, fp, hF, r, w, by
  simp only [pSl, pSlice, Option.bind_eq_some_iff] at ew ⊢
  obtain ⟨x, e1, l, e2, h, e3, e4⟩ := ew
  exact ⟨x, e1, l, e2, h, e3, oSl_slice e4⟩, k⟩
/-! ### the law's end -/
/-- what the script's list is, and nothing else -/
def only (H : Hp) : Hp := H
theorem law_start {mg : MG} {K : PySem.W.Frag} {m : List Val → R0} {H : Hp} {a : Addr} {ns : List Int} {Q : VK} {E : XK} (hS : SqL K H a (ns.map V.int)) (hm : m [.scr K ns] = .ok (.bl true)) (q : ∀ H', Q (.bl true) H') : spP mg 1 m [.ref a] H Q E := by
  refine ⟨H, [.scr K ns], rfl, .refl H, .cons (f1 := []) (f2 := []) (.scr hS) .nil, ?_⟩
  rw [hm]
  intro u F' H' _ ⟨g, r, _⟩
  cases r
  exact q H'
end L2.DL

namespace L2.DL
open L2 PyProof.Rows PySem.Spec PySem
/-! ### the denotations, applied: equations to reckon with -/
section
variable {ρ : Slots} {f fa fb fc : P Val} {m ma mb : M Val} {ps : P (List Val)} {ms : M (List Val)} {c d : P Bool} {mc md : M Bool} {g h : G} {i : Nat}
theorem sSeq_ap : sSeq g h ρ = (g ρ).seq h := rfl
theorem sNil_ap : sNil ρ = .nx ρ := rfl
theorem sIf_ap : sIf mc g h ρ = rS (mc ρ) fun b ρ1 => if b = true then g ρ1 else h ρ1 := by
  unfold sIf
  cases mc ρ with
  | ok b ρ1 => cases b <;> rfl
  | err _ _ _ => rfl
  | bad => rfl
theorem sSet_ap : sSet i m ρ = rS (m ρ) fun w ρ1 => .nx (ρ1.set i (some w)) := rfl
theorem sRet_ap : sRet m ρ = rS (m ρ) fun w ρ1 => .ret w ρ1 := rfl
theorem sRetN_ap : sRetN ρ = .ret .non ρ := rfl
theorem sDrop_ap : sDrop m ρ = rS (m ρ) fun _ ρ1 => .nx ρ1 := rfl
theorem sAsg_ap {is : List Nat} {t : T} : sAsg is t m ρ = rS (m ρ) fun w ρ1 => match t w with
  | some ws => if noOwns ws = true then .nx (setS ρ1 is ws) else .bad
  | none => .bad := rfl
theorem sFor_ap {is : List Nat} {t : T} {f : M WW} : sFor is t f g ρ = rS (f ρ) fun ww ρ1 => forL is t g ww.2 ρ1 := rfl
theorem sAug_ap {op : Val → Val → Option Val} : sAug i op m ρ = (match (ρ[i]?).join with
  | none => .bad
  | some _ => rS (m ρ) fun y ρ1 => match (ρ1[i]?).join with
    | none => .bad
    | some x => match op x y with
      | some w => .nx (ρ1.set i (some w))
      | none => .bad) := rfl
theorem sAugL_ap {op : Val → Val → Option Val} : sAugL i fa op fb ρ = (match (ρ[i]?).join with
  | some (.lst true xs) => (match fa ρ with
    | some (.int j) => (match atI xs j, fb ρ with
      | some x, some y => (match op x y, ixN xs.length j with
        | some z, some n => .nx (ρ.set i (some (.lst true (xs.set n z))))
        | _, _ => .bad)
      | _, _ => .bad)
    | _ => .bad)
  | _ => .bad) := rfl
theorem sPut_ap : sPut i ma mb ρ = rS (mb ρ) fun w ρ1 => match (ρ1[i]?).join with
  | none => .bad
  | some _ => rS (ma ρ1) fun iw ρ2 => match (ρ2[i]?).join with
    | none => .bad
    | some x => match putW x iw w with
      | some x' => .nx (ρ2.set i (some x'))
      | none => .bad := rfl
theorem mT_ap : mT c ρ = (match c ρ with
  | some b => .ok b ρ
  | none => .bad) := rfl
theorem mTest_ap : mTest m ρ = (m ρ).bind fun w ρ1 => match w with
  | .bl b => .ok b ρ1
  | _ => .bad := rfl
theorem mF_ap : mF f ρ = (match f ρ with
  | some w => .ok w ρ
  | none => .bad) := rfl
theorem mP_ap : mP f ρ = (match f ρ with
  | some w => if noOwn w = true then .ok w ρ else .bad
  | none => .bad) := rfl
theorem mMove_ap : mMove i ρ = (match (ρ[i]?).join with
  | some w => .ok w (ρ.set i none)
  | none => .bad) := rfl
theorem mFrz_ap : mFrz i ρ = (match (ρ[i]?).join with
  | some w => if noObj w = true then .ok (frz w) (ρ.set i (some (frz w))) else .bad
  | none => .bad) := rfl
theorem mOp2_ap {o : Val → Val → Option Val} : mOp2 o ma mb ρ = (ma ρ).bind fun x ρ1 => (mb ρ1).bind fun y ρ2 => match o x y with
  | some w => .ok w ρ2
  | none => .bad := rfl
theorem mOp1_ap {o : Val → Option Val} : mOp1 o ma ρ = (ma ρ).bind fun x ρ1 => match o x with
  | some w => .ok w ρ1
  | none => .bad := rfl
theorem mOpS_ap {o : List Val → Option Val} : mOpS o ms ρ = (ms ρ).bind fun ws ρ1 => match o ws with
  | some w => .ok w ρ1
  | none => .bad := rfl
theorem mIx_ap {o : Val → Val → Option Val} : mIx o ma mb ρ = (ma ρ).bind fun x ρ1 => (mb ρ1).bind fun y ρ2 => match o x y with
  | some w => if noOwn w = true then .ok w ρ2 else .bad
  | none => .bad := rfl
theorem mIxL_ap {o : Val → Val → Option Val} : mIxL o i mb ρ = (match (ρ[i]?).join with
  | none => .bad
  | some _ => (mb ρ).bind fun y ρ2 => match (ρ2[i]?).join with
    | some x => (match o x y with
      | some w => if noOwn w = true then .ok w ρ2 else .bad
      | none => .bad)
    | none => .bad) := rfl
theorem mIte_ap : mIte mc ma mb ρ = (mc ρ).bind fun x ρ1 => if x = true then ma ρ1 else mb ρ1 := rfl
theorem mNot_ap : mNot mc ρ = (mc ρ).bind fun b ρ1 => .ok (!b) ρ1 := rfl
theorem mAnd_ap : mAnd mc md ρ = (mc ρ).bind fun x ρ1 => if x = true then md ρ1 else .ok false ρ1 := rfl
theorem mOr_ap : mOr mc md ρ = (mc ρ).bind fun x ρ1 => if x = true then .ok true ρ1 else md ρ1 := rfl
theorem mAndV_ap : mAndV ma mb ρ = (ma ρ).bind fun x ρ1 => match x with
  | .bl true => mb ρ1
  | .bl false => .ok (.bl false) ρ1
  | _ => .bad := rfl
theorem mOrV_ap : mOrV ma mb ρ = (ma ρ).bind fun x ρ1 => match x with
  | .bl true => .ok (.bl true) ρ1
  | .bl false => mb ρ1
  | _ => .bad := rfl
theorem msNil_ap : msNil ρ = .ok [] ρ := rfl
theorem msCons_ap : msCons m ms ρ = (m ρ).bind fun w ρ1 => (ms ρ1).bind fun ws ρ2 => .ok (w :: ws) ρ2 := rfl
theorem psNil_ap : psNil ρ = some [] := rfl
theorem psCons_ap : psCons f ps ρ = (f ρ).bind fun w => (ps ρ).bind fun ws => some (w :: ws) := rfl
theorem pVar_ap : pVar i ρ = (ρ[i]?).join := rfl
theorem pC_ap {w : Val} : pC w ρ = some w := rfl
theorem pOp1_ap {o : Val → Option Val} : pOp1 o f ρ = (f ρ).bind o := rfl
theorem pOp2_ap {o : Val → Val → Option Val} : pOp2 o fa fb ρ = (fa ρ).bind fun x => (fb ρ).bind fun y => o x y := rfl
theorem pOpS_ap {o : List Val → Option Val} : pOpS o ps ρ = (ps ρ).bind o := rfl
theorem pTest_ap : pTest f ρ = (f ρ).bind fun w => match w with
  | .bl b => some b
  | _ => none := rfl
theorem pNot_ap : pNot c ρ = (c ρ).map (!·) := rfl
theorem pAnd_ap : pAnd c d ρ = (c ρ).bind fun x => if x = true then d ρ else some false := rfl
theorem pOr_ap : pOr c d ρ = (c ρ).bind fun x => if x = true then some true else d ρ := rfl
theorem pVal_ap : pVal c ρ = (c ρ).map .bl := rfl
theorem pAndV_ap : pAndV fa fb ρ = (pTest fa ρ).bind fun x => if x = true then fb ρ else some (.bl false) := rfl
theorem pOrV_ap : pOrV fa fb ρ = (pTest fa ρ).bind fun x => if x = true then some (.bl true) else fb ρ := rfl
theorem pIte_ap : pIte c fa fb ρ = (c ρ).bind fun x => if x = true then fa ρ else fb ρ := rfl
theorem pChain_ap {o o' : Val → Val → Option Val} : pChain o o' fa fb fc ρ = (fa ρ).bind fun x => (fb ρ).bind fun y => (o x y).bind fun z => match z with
  | .bl true => (fc ρ).bind fun w => o' y w
  | .bl false => some (.bl false)
  | _ => none := rfl
theorem pNo_ap : pNo f ρ = (f ρ).bind fun w => if noOwn w = true then some w else none := rfl
theorem poNone_ap : poNone ρ = some none := rfl
theorem poSome_ap : poSome f ρ = (f ρ).bind fun w => match w with
  | .int i => some (some i)
  | _ => none := rfl
theorem pSl_ap {fl fh : P (Option Int)} : pSl fa fl fh ρ = (fa ρ).bind fun x => (fl ρ).bind fun l => (fh ρ).bind fun h => oSl x l h := rfl
theorem pSeq_ap : pSeq f ρ = (f ρ).bind seqOf := rfl
theorem mSeq_ap : mSeq m ρ = (m ρ).bind fun w ρ1 => match seqOf w with
  | some ww => .ok ww ρ1
  | none => .bad := rfl
theorem pRng_ap : pRng ps ρ = (ps ρ).bind rngOf := rfl
theorem mRng_ap : mRng ms ρ = (ms ρ).bind fun w ρ1 => match rngOf w with
  | some ww => .ok ww ρ1
  | none => .bad := rfl
theorem pComp_ap {vs is : List Nat} {src : P WW} {t : T} : pComp vs is src t c f ρ = (src ρ).bind fun ww => (compP is t c f (wipeS ρ vs) ww.2).bind fun rs => if rs.length ≤ sizeLine then some (.lst true rs) else none := rfl
theorem mComp_ap {vs is : List Nat} {src : M WW} {t : T} : mComp vs is src t mc m ρ = (src ρ).bind fun ww ρ1 => (compM vs is t mc m ww.2 [] (wipeS ρ1 vs)).bind fun rs ρ2 => .ok (.lst true rs) (wipeS ρ2 vs) := rfl
theorem pYes_ap : pYes ρ = some true := rfl
theorem pMet_ap {TB : Val → Bool} {o : Val → List Val → Option Val} : pMet TB o f ps ρ = (f ρ).bind fun x => if TB x = true then (ps ρ).bind fun ws => o x ws else none := rfl
theorem mMet_ap {TB : Val → Bool} {o : Val → List Val → Option Val} : mMet TB o m ms ρ = (m ρ).bind fun x ρ1 => if TB x = true then (ms ρ1).bind fun ws ρ2 => match o x ws with
  | some w => .ok w ρ2
  | none => .bad else .bad := rfl
theorem mMeth_ap {o : Mu} : mMeth o i ms ρ = (match (ρ[i]?).join with
  | some (.lst _ _) => (ms ρ).bind fun ws ρ1 => (match (ρ1[i]?).join with
    | some (.lst true xs) => (match o xs ws with
      | some (res, xs') => .ok res (ρ1.set i (some (.lst true xs')))
      | none => .bad)
    | _ => .bad)
  | _ => .bad) := rfl
theorem pIsi_ap {T : String} : pIsi T f ρ = (f ρ).bind fun w => (tyName w).bind fun n => (kitB n T).map fun b => .bl b := rfl
theorem pGet2_ap : pGet2 fa fb fc ρ = (fa ρ).bind fun x => (fb ρ).bind fun y => (fc ρ).bind fun z => (dGet x y).map fun o => o.getD z := rfl
theorem aNil_ap : aNil ρ = .ok [] ρ := rfl
theorem aSlot_ap {fs : M (List (Nat ⊕ Val))} : aSlot i fs ρ = (match (ρ[i]?).join with
  | none => .bad
  | some _ => (fs ρ).bind fun as ρ1 => .ok (.inl i :: as) ρ1) := rfl
theorem aVal_ap {fs : M (List (Nat ⊕ Val))} : aVal m fs ρ = (m ρ).bind fun w ρ1 => (fs ρ1).bind fun as ρ2 => .ok (.inr w :: as) ρ2 := rfl
theorem mCallIO_ap {k : List Val → R1} {fs : M (List (Nat ⊕ Val))} : mCallIO k fs ρ = (fs ρ).bind (callIO k) := rfl
theorem mCall_ap {k : List Val → R0} : mCall k ms ρ = (ms ρ).bind fun ws ρ1 => if noObjs ws = true then (match k (frzs ws) with
  | .ok w => if (noOwns ws || noSh w) = true then .ok w ρ1 else .bad
  | .err c pl => if plSh ws pl = true then .err c pl ρ1 else .bad
  | .bad => .bad) else .bad := rfl
theorem mCallP_ap {k : List Val → R0} : mCallP k ps ρ = (match ps ρ with
  | none => .bad
  | some ws => if noObjs ws = true then (match k (frzs ws) with
    | .ok w => if (noOwns ws || noSh w) = true then .ok w ρ else .bad
    | .err c pl => if plSh ws pl = true then .err c pl ρ else .bad
    | .bad => .bad) else .bad) := rfl
end
/-! ### operators on what they meet -/
theorem oAdd_int (i j : Int) : oAdd (.int i) (.int j) = some (.int (i + j)) := rfl
theorem oSub_int (i j : Int) : oSub (.int i) (.int j) = some (.int (i - j)) := rfl
theorem ipAdd_int (i j : Int) : ipAdd (.int i) (.int j) = some (.int (i + j)) := rfl
theorem ipSub_int (i j : Int) : ipSub (.int i) (.int j) = some (.int (i - j)) := rfl
theorem oMul_int {i j : Int} (h : cMul i j = true) : oMul (.int i) (.int j) = some (.int (i * j)) := by simp [oMul, oIntC, h]
theorem oMod_int {i j : Int} (h : 0 < j) : oMod (.int i) (.int j) = some (.int (i % j)) := by simp [oMod, oIntC, h]
theorem oDiv_int {i j : Int} (h : 0 < j) (h2 : j < 18446744073709551616) : oDiv (.int i) (.int j) = some (.int (i / j)) := by
  have := ltA_of (i := j) (n := 18446744073709551616) (by omega)
  simp only [oDiv, oIntC, cDiv, decide_eq_true h, this, Bool.and_self, if_true]
theorem oLt_int (i j : Int) : oLt (.int i) (.int j) = some (.bl (decide (i < j))) := rfl
theorem oLe_int (i j : Int) : oLe (.int i) (.int j) = some (.bl (decide (i ≤ j))) := rfl
theorem oGt_int (i j : Int) : oGt (.int i) (.int j) = some (.bl (decide (j < i))) := rfl
theorem oGe_int (i j : Int) : oGe (.int i) (.int j) = some (.bl (decide (j ≤ i))) := rfl
theorem oLt_str (a b : Str) : oLt (.str a) (.str b) = some (.bl (decide (a.cps.toList < b.cps.toList))) := rfl
theorem oLe_str (a b : Str) : oLe (.str a) (.str b) = some (.bl (!decide (b.cps.toList < a.cps.toList))) := rfl
theorem oGt_str (a b : Str) : oGt (.str a) (.str b) = some (.bl (decide (b.cps.toList < a.cps.toList))) := rfl
theorem oGe_str (a b : Str) : oGe (.str a) (.str b) = some (.bl (!decide (a.cps.toList < b.cps.toList))) := rfl
theorem oEq_int (i j : Int) : oEq (.int i) (.int j) = some (.bl (i == j)) := rfl
theorem oNe_int (i j : Int) : oNe (.int i) (.int j) = some (.bl (!(i == j))) := rfl
theorem oEq_str {i j : Str} (h : PyData.strOk i = true) (h2 : PyData.strOk j = true) : oEq (.str i) (.str j) = some (.bl (i == j)) := by simp [oEq, eqB, toPy, SeqAt.shaped, PyData.canLay0, PyData.depth, h, h2, PyData.eqv]
theorem oEq_bl (i j : Bool) : oEq (.bl i) (.bl j) = some (.bl (i == j)) := by cases i <;> cases j <;> rfl
theorem oNeg_int (i : Int) : oNeg (.int i) = some (.int (-i)) := rfl
theorem oSubs_lst (o : Bool) (ws : List Val) (i : Int) : oSubs (.lst o ws) (.int i) = atI ws i := rfl
theorem oSubs_tup (ws : List Val) (i : Int) : oSubs (.tup ws) (.int i) = atI ws i := rfl
theorem oIx_lst (o : Bool) (ws : List Val) (i : Int) : oIx (.lst o ws) (.int i) = atI ws i := rfl
theorem oIx_tup (ws : List Val) (i : Int) : oIx (.tup ws) (.int i) = atI ws i := rfl
theorem oLen_lst (o : Bool) (ws : List Val) : oLen [.lst o ws] = some (.int ws.length) := rfl
theorem oLen_tup (ws : List Val) : oLen [.tup ws] = some (.int ws.length) := rfl
theorem oLen_str {s : Str} (h : s.length ≤ sizeLine) : oLen [.str s] = some (.int s.length) := by simp [oLen, h]
theorem oIn_str (a b : Str) : oIn (.str a) (.str b) = some (.bl (strIn a b)) := rfl
theorem oNotIn_str (a b : Str) : oNotIn (.str a) (.str b) = some (.bl (!strIn a b)) := rfl
theorem oIsN_ap (a : Val) : oIsN a .non = some (.bl (match a with
    | .non => true
    | .raw v => decide (v = .non)
    | _ => false)) := rfl
theorem oNotN_ap (a : Val) : oNotN a .non = some (.bl (match a with
    | .non => false
    | .raw v => !decide (v = .non)
    | _ => true)) := rfl
theorem seqOf_str (s : Str) : seqOf (.str s) = some (.str s, signs s) := rfl
theorem seqOf_tup (ws : List Val) : seqOf (.tup ws) = some (.tup ws, ws) := rfl
theorem seqOf_lst (o : Bool) (ws : List Val) : seqOf (.lst o ws) = some (.lst o ws, ws) := rfl
theorem rngOf_one {j : Int} (h : -(2 ^ 62) < j) (h2 : j < 2 ^ 62) : rngOf [.int j] = some (.non, rng 0 j) := by simp only [rngOf, lim62, ltA_of (i := j) (n := 2 ^ 62) (by omega), if_true]
/-! ### plain facts of what values own -/
theorem noOwns_of {ws : List Val} (h : ∀ w ∈ ws, noOwn w = true) : noOwns ws = true := by
  induction ws with
  | nil => rfl
  | cons w ws ih => simp only [noOwns, h w List.mem_cons_self, ih fun x hx => h x (List.mem_cons_of_mem _ hx), Bool.and_self]
theorem noShs_of {ws : List Val} (h : ∀ w ∈ ws, noSh w = true) : noShs ws = true := by
  induction ws with
  | nil => rfl
  | cons w ws ih => simp only [noShs, h w List.mem_cons_self, ih fun x hx => h x (List.mem_cons_of_mem _ hx), Bool.and_self]
theorem noObjs_of {ws : List Val} (h : ∀ w ∈ ws, noObj w = true) : noObjs ws = true := by
  induction ws with
  | nil => rfl
  | cons w ws ih => simp only [noObjs, h w List.mem_cons_self, ih fun x hx => h x (List.mem_cons_of_mem _ hx), Bool.and_self]
end L2.DL

namespace L2.DL
open L2 PyProof.Rows PySem.Spec PySem
/-! ### what a run of statements comes to: nx, and what is told -/
def To (x : RS) (nx : Slots → Prop) (rt : Val → Slots → Prop) : Prop := match x with
  | .nx ρ => nx ρ
  | .ret w ρ => rt w ρ
  | _ => False
theorem To.imp {x : RS} {nx nx' : Slots → Prop} {rt rt' : Val → Slots → Prop} (h : To x nx rt) (h1 : ∀ ρ, nx ρ → nx' ρ) (h2 : ∀ w ρ, rt w ρ → rt' w ρ) : To x nx' rt' := by
  cases x <;> first | exact h1 _ h | exact h2 _ _ h | exact h
theorem To.seq {g h : G} {ρ : Slots} {m nx : Slots → Prop} {rt : Val → Slots → Prop} (a : To (g ρ) m rt) (b : ∀ ρ', m ρ' → To (h ρ') nx rt) : To (sSeq g h ρ) nx rt := by
  rw [sSeq_ap]
  cases q : g ρ with
  | nx ρ1 => rw [q] at a; exact b _ a
  | ret w ρ1 => rw [q] at a; exact a
  | brk ρ1 => rw [q] at a; exact a.elim
  | ct ρ1 => rw [q] at a; exact a.elim
  | err _ _ _ => rw [q] at a; exact a.elim
  | bad => rw [q] at a; exact a.elim
theorem To.nxt {g : G} {ρ ρ' : Slots} {nx : Slots → Prop} {rt : Val → Slots → Prop} (e : g ρ = .nx ρ') (h : nx ρ') : To (g ρ) nx rt := by rw [e]; exact h
theorem To.ret {g : G} {ρ ρ' : Slots} {w : Val} {nx : Slots → Prop} {rt : Val → Slots → Prop} (e : g ρ = .ret w ρ') (h : rt w ρ') : To (g ρ) nx rt := by rw [e]; exact h
theorem To.nil {ρ : Slots} {nx : Slots → Prop} {rt : Val → Slots → Prop} (h : nx ρ) : To (sNil ρ) nx rt := h
theorem To.fnP {n : Nat} {g : G} {ws : List Val} {w : Val} (h : To (g (startS n ws)) (fun _ => w = .non) fun v _ => v = w) : fnP n g ws = .ok w := by
  unfold DL.fnP
  cases q : g (startS n ws) with
  | nx ρ1 => rw [q] at h; rw [show w = .non from h]
  | ret v ρ1 => rw [q] at h; rw [show v = w from h]
  | brk ρ1 => rw [q] at h; exact h.elim
  | ct ρ1 => rw [q] at h; exact h.elim
  | err _ _ _ => rw [q] at h; exact h.elim
  | bad => rw [q] at h; exact h.elim
theorem To.fnIO {n np : Nat} {g : G} {ws : List Val} {R : Val → Slots → Prop} (h : To (g (startS n ws)) (fun ρ => R .non (ρ.take np)) fun v ρ => R v (ρ.take np)) : ∃ w outs, R w outs ∧ fnIO n np g ws = .ok w outs := by
  unfold DL.fnIO
  cases q : g (startS n ws) with
  | nx ρ1 => rw [q] at h; exact ⟨_, _, h, rfl⟩
  | ret v ρ1 => rw [q] at h; exact ⟨_, _, h, rfl⟩
  | brk ρ1 => rw [q] at h; exact h.elim
  | ct ρ1 => rw [q] at h; exact h.elim
  | err _ _ _ => rw [q] at h; exact h.elim
  | bad => rw [q] at h; exact h.elim
/-- a walk, by an invariant of what is done and what is left -/
theorem To.forL {is : List Nat} {t : T} {g : G} {nx : Slots → Prop} {rt : Val → Slots → Prop} (I : List Val → List Val → Slots → Prop) (hend : ∀ done ρ, I done [] ρ → nx ρ) (step : ∀ done w rest ρ, I done (w :: rest) ρ → ∃ rs, t w = some rs ∧ noOwns rs = true ∧
      match g (setS ρ is rs) with
      | .nx ρ' => I (done ++ [w]) rest ρ'
      | .ct ρ' => I (done ++ [w]) rest ρ'
      | .brk ρ' => nx ρ'
      | .ret v ρ' => rt v ρ'
      | _ => False) : ∀ (ws done : List Val) (ρ : Slots), I done ws ρ → To (DL.forL is t g ws ρ) nx rt
  | [], done, ρ, h => hend _ _ h
  | w :: ws, done, ρ, h => by
    obtain ⟨rs, e1, e2, e3⟩ := step done w ws ρ h
    rw [DL.forL]
    simp only [e1, e2, if_true]
    cases q : g (setS ρ is rs) with
    | nx ρ1 => rw [q] at e3; exact To.forL I hend step ws _ _ e3
    | ct ρ1 => rw [q] at e3; exact To.forL I hend step ws _ _ e3
    | brk ρ1 => rw [q] at e3; exact e3
    | ret v ρ1 => rw [q] at e3; exact e3
    | err _ _ _ => rw [q] at e3; exact e3.elim
    | bad => rw [q] at e3; exact e3.elim
/-- the same where nothing but the slots counts -/
theorem To.each {is : List Nat} {t : T} {g : G} {rt : Val → Slots → Prop} (I : Slots → Prop) {ws : List Val} {ρ : Slots} (h : I ρ) (step : ∀ w ∈ ws, ∀ ρ, I ρ → ∃ rs, t w = some rs ∧ noOwns rs = true ∧ To (g (setS ρ is rs)) I rt) : To (DL.forL is t g ws ρ) I rt := by
  induction ws generalizing ρ with
  | nil => exact h
  | cons w ws ih =>
    obtain ⟨rs, e1, e2, e3⟩ := step w List.mem_cons_self ρ h
    rw [DL.forL]
    simp only [e1, e2, if_true]
    cases q : g (setS ρ is rs) with
    | nx ρ1 => rw [q] at e3; exact ih e3 fun w hw => step w (List.mem_cons_of_mem _ hw)
    | ct ρ1 => rw [q] at e3; exact e3.elim
    | brk ρ1 => rw [q] at e3; exact e3.elim
    | ret v ρ1 => rw [q] at e3; exact e3
    | err _ _ _ => rw [q] at e3; exact e3.elim
    | bad => rw [q] at e3; exact e3.elim
end L2.DL

namespace L2.DL
open L2 PyProof.Rows PySem.Spec PySem
/-! ### rooms: tuples whose object is known -/
def rTupZ (K : PySem.W.Frag) : List V → Hp → VK → Prop := fun xs H Q => ∃ p ys, xs = [.ref p] ∧ ((SqL K H p ys ∧ ∀ l ob, H l = none → ob.cls = .type "tuple" ∧ ob.dict = none → Q (.ref l) (upd H l (.frz ob (.tup ys)))) ∨ (SqT K H p ys ∧ Q (.ref p) H))
theorem call_tupleZ {X : Cx} : CallR X (.type "tuple") (rTupZ X.K) := by
  intro pins s σ H xs us Q I r h
  obtain ⟨p, ys, rfl, h⟩ := h
  obtain ⟨u, rfl, rx⟩ := vals1 r
  cases rx
  rcases h with ⟨hq, q⟩ | ⟨hq, q⟩
  · obtain ⟨its, r', pl, hz⟩ := I.list hq
    have hlen := r'.length
    refine call_tuple_list pl.isList (fun h' kp => ?_) (by simp only [List.size_toArray] <;> omega)
    have I1 : Inv X pins σ H { s with heap := h' } := I.kept (t' := s.toks) kp
    have I2 : Inv X pins σ (upd H h'.objs.size (.frz { cls := .type "tuple", data := .seq its.toArray } (.tup ys))) { s with heap := h'.push { cls := .type "tuple", data := .seq its.toArray } } :=
      I1.laid (t' := s.toks) (fun b o e => Heap.get?_push_of_some _ e) (Nat.le_refl _) ⟨Heap.get?_push_size _ rfl, hz, its, r', IsTup.new _ _⟩
    exact ⟨.ref h'.objs.size, _, I2, rfl, q _ _ (I1.hok.fresh (Nat.le_refl _)) ⟨rfl, rfl⟩⟩
  · obtain ⟨its, r', pl, hz⟩ := I.tuple hq
    exact call_tuple_same pl ⟨.ref p, H, I, rfl, q⟩
def oTupleZ (ws : List Val) : Option Val := match ws with
  | [.lst _ ws] => if noOwns ws = true then some (.tpz ws) else none
  | [.tpz ws] => if noOwns ws = true then some (.tpz ws) else none
  | _ => none
theorem vtupleZ {K : PySem.W.Frag} : VOpS (rTupZ K) oTupleZ := fun F H xs ws w Q hF p e k => by
  match ws, e with
  | [.lst o vs], e =>
    simp only [oTupleZ] at e
    split at e
    case isFalse => cases e
    case isTrue n =>
    cases e
    obtain ⟨u, rfl, pu⟩ := p.one
    obtain ⟨a, us, rfl, ha, pus⟩ := pu.lst hF
    refine ⟨a, us, rfl, .inl ⟨.of ha, fun l ob nl h0 => ?_⟩⟩
    have x := (Ext.laid (o := .frz ob (.tup us)) hF nl).2
    exact k _ _ _ x (.of (.tpz upd_same h0 ((pus.no n).ext x)))
  | [.tpz vs], e =>
    simp only [oTupleZ] at e
    split at e
    case isFalse => cases e
    case isTrue n =>
    cases e
    obtain ⟨u, rfl, pu⟩ := p.one
    obtain ⟨a, ob, us, rfl, ha, h0, pus⟩ := pu.tpz
    exact ⟨a, us, rfl, .inr ⟨.inl (.inr ⟨_, hF _ _ ha⟩), k _ F H (.refl hF) (.of (.tpz ha h0 (pus.no n)))⟩⟩
/-! ### x.index(e) -/
section
variable {X : Cx} {o e : Expr} {apos cpos : Pos} {fo fe : P Val}
end
end L2.DL

namespace L2.DL
open L2 PyProof.Rows PySem.Spec PySem
/-! ### raise of an own class without __init__ -/
section
variable {X : Cx} {k : Nat} {W : WX}
/-! ### try .. except .. else -/
def nES (x : RS) : RS := match x with
  | .err _ _ _ => .bad
  | x => x
/-- a table of classes: caught or not -/
def excT (l : List (Str × Bool)) (c : Str) : Option Bool := l.lookup c
end
/-- the table is right -/
def TabOk (K : PySem.W.Frag) (mg : MG) (cv : Value) (l : List (Str × Bool)) : Prop := ∀ p ∈ l, ∀ C, mg p.1 = some (.ref C) → PySem.W.exmOne K (.ref C) cv = some p.2
theorem TabOk.get {K : PySem.W.Frag} {mg : MG} {cv : Value} {l : List (Str × Bool)} (h : TabOk K mg cv l) (c : Str) (C : Addr) (b : Bool) (e : mg c = some (.ref C)) (t : excT l c = some b) : PySem.W.exmOne K (.ref C) cv = some b := by
  have : (c, b) ∈ l := by
    induction l with
    | nil => cases t
    | cons p l ih =>
      obtain ⟨c', b'⟩ := p
      unfold excT at t
      rw [List.lookup_cons] at t
      split at t
      · rename_i h1
        cases t
        rw [eq_of_beq h1]
        exact List.mem_cons_self
      · exact List.mem_cons_of_mem _ (ih (fun q hq => h q (List.mem_cons_of_mem _ hq)) t)
  exact h _ this C e
theorem tab_nil {K : PySem.W.Frag} {mg : MG} {cv : Value} : TabOk K mg cv [] := fun p h => by cases h
theorem tab_cons {K : PySem.W.Frag} {mg : MG} {cv : Value} {c : Str} {C : Addr} {b : Bool} {l : List (Str × Bool)} (e : mg c = some (.ref C)) (h : PySem.W.exmOne K (.ref C) cv = some b) (r : TabOk K mg cv l) : TabOk K mg cv ((c, b) :: l) := fun p hp D eD => by
  rcases List.mem_cons.mp hp with rfl | hp
  · rw [e] at eD; cases eD; exact h
  · exact r p hp D eD
/-- an exception of class E, asked for class S -/
theorem exm_of {K : PySem.W.Frag} {E S : Addr} {b : Bool} (h1 : PySem.W.subIn K (.ref S) (.type "BaseException") = some true) (h2 : PySem.W.isClsIn K S = true) (h3 : PySem.W.typeIn K (.ref S) = some (.type "type")) (h4 : PySem.W.subIn K (.ref E) (.ref S) = some b) :
    PySem.W.exmOne K (.ref E) (.ref S) = some b := by
  have e1 : (PySem.W.subIn K (.ref S) (.type "BaseException") == some true) = true := by rw [h1]; rfl
  have h2' : (PySem.W.clsIn K S).isSome = true := h2
  have e2 : ((PySem.W.clsIn K S).isSome && PySem.W.typeIn K (.ref S) == some (.type "type")) = true := by rw [h2', h3]; rfl
  show (if (PySem.W.subIn K (.ref S) (.type "BaseException") == some true) = true then (if ((PySem.W.clsIn K S).isSome && PySem.W.typeIn K (.ref S) == some (.type "type")) = true then PySem.W.subIn K (.ref E) (.ref S) else none) else none) = some b
  rw [if_pos e1, if_pos e2, h4]
end L2.DL

namespace L2.DL
open L2 PyProof.Rows PySem.Spec PySem
/-! ### rows told by >= -/
def geRow (ns ms : List Int) : Bool := Ob.lexAt (fun j => decide (ns.getD j 0 = ms.getD j 0)) (fun j => decide (ms.getD j 0 ≤ ns.getD j 0)) (decide (ns.length ≥ ms.length)) 0 (min ns.length ms.length)
def rGeT (K : PySem.W.Frag) : R2 := fun x y H Q => ∃ (a b : Addr) (ns ms : List Int), x = .ref a ∧ y = .ref b ∧ SqT K H a (ns.map V.int) ∧ SqT K H b (ms.map V.int) ∧ Q (.bl (geRow ns ms)) H
theorem op_geT {X : Cx} (hu : X.A.units < cLine) : OpR X (compareOp .GtE) (rGeT X.K) := by
  intro pins s σ H x y v u Q I rx ry h
  obtain ⟨a, b, ns, ms, rfl, rfl, ha, hb, q⟩ := h
  cases rx
  cases ry
  obtain ⟨its, r1, p1, _⟩ := I.tuple ha
  obtain ⟨its2, r2, p2, _⟩ := I.tuple hb
  have i1 : IntsAre its ns := Vals.ints r1
  have i2 : IntsAre its2 ms := Vals.ints r2
  have e1 : its.toArray.size = ns.length := by rw [List.size_toArray]; exact i1.length
  have e2 : its2.toArray.size = ms.length := by rw [List.size_toArray]; exact i2.length
  have at1 : ∀ j (h1 : j < its.toArray.size), ∃ t, its.toArray[j] = .int (ns.getD j 0) t := fun j h1 => i1.int_at _ _ (by simp at h1; simp [h1])
  have at2 : ∀ j (h1 : j < its2.toArray.size), ∃ t, its2.toArray[j] = .int (ms.getD j 0) t := fun j h1 => i2.int_at _ _ (by simp at h1; simp [h1])
  have R := Ob.RcOp.tuples_ge (A := X.A) (s := s) (e := fun j => decide (ns.getD j 0 = ms.getD j 0)) (r := fun j => decide (ms.getD j 0 ≤ ns.getD j 0)) p1 p2 hu (fun j h1 h2 => by
    obtain ⟨t, et⟩ := at1 j h1
    obtain ⟨t', et'⟩ := at2 j h2
    rw [et, et', ← show (ns.getD j 0 == ms.getD j 0) = decide (ns.getD j 0 = ms.getD j 0) from by
      by_cases q : ns.getD j 0 = ms.getD j 0
      · rw [decide_eq_true q]; exact beq_iff_eq.mpr q
      · rw [decide_eq_false q]; exact beq_eq_false_iff_ne.mpr q]
    exact SeqAt.EqAt.int_int _ _ _ _) (fun j h1 h2 _ => by
    obtain ⟨t, et⟩ := at1 j h1
    obtain ⟨t', et'⟩ := at2 j h2
    rw [et, et']
    exact Ob.RcOp.ge_int _ _ _ _)
  rw [e1, e2] at R
  exact R X.prog X.w X.xe (EP X pins σ Q) ⟨.bl _, H, I, rfl, q⟩
def oGeR (a b : Val) : Option Val := match a, b with
  | .tup xs, .tup ys => (intsOf xs).bind fun ns => (intsOf ys).map fun ms => .bl (geRow ns ms)
  | _, _ => none
theorem vop_geR {K : PySem.W.Frag} : VOp2 (rGeT K) oGeR := fun F H x y wx wy w Q hF px py e k => by
  unfold oGeR at e
  split at e
  case h_2 => cases e
  case h_1 xs ys =>
  simp only [Option.bind_eq_some_iff, Option.map_eq_some_iff] at e
  obtain ⟨ns, e1, ms, e2, rfl⟩ := e
  obtain ⟨a, us, rfl, ha, g, ru⟩ := px.tup
  obtain ⟨b, vs, rfl, hb, g', rv⟩ := py.tup
  have := intsOf_rep e1 ru
  subst this
  have := intsOf_rep e2 rv
  subst this
  exact ⟨a, b, ns, ms, rfl, rfl, .of (hF _ _ ha), .of (hF _ _ hb), k _ F H (.refl hF) (.of (.bl _))⟩
theorem rm0 {k : Nat} {A : Around} (r : Room k A) : A.units < cLine := by have := r.un; omega
/-! ### name = [..], the name a plain local: the comprehension stands in the statement -/
section
variable {X : Cx} {k : Nat} {W : WX} {tg elt iter : Expr} {ifs : List Expr} {scope : Scope} {own : List (Str × Nat)} {vs : List Nat} {y : Str} {py pos spos : Pos}
theorem ds_setLcP (i : Nat) {src : P WW} {is : List Nat} {h : T} {c : P Bool} {f : P Val} (hc : X.calm = true) (hN : X.N.Nodup) (hi : DIP X tg iter src) (ok : BlkOk X.N X.env.scope scope own)
    (hg : ∀ (s : Shared) (H : Hp) (C : Addr) (cl : List (Str × Addr)) (fp : List Addr), DG (X.blk s H scope (compEnvC scope cl C X.env) fp) tg is h)
    (ht : ∀ (s : Shared) (H : Hp) (C : Addr) (cl : List (Str × Addr)) (fp : List Addr), PTs (X.blk s H scope (compEnvC scope cl C X.env) fp) ifs (tPT c))
    (he : ∀ (s : Shared) (H : Hp) (C : Addr) (cl : List (Str × Addr)) (fp : List Addr), DF (X.blk s H scope (compEnvC scope cl C X.env) fp) elt f)
    (hv : own.map (·.2) = vs := by rfl) (his : ∀ i ∈ is, i ∈ vs := by decide) (hs : ∀ x, foldedSetIterable iter X.env x = pure x := by intro _; rfl)
    (hy : X.N[i]? = some y := by rfl) (hyl : X.env.scope.names.lookup y = some .local := by rfl) (hki : k ≤ i := by decide)
    (hsw : swapsWith (.ListComp elt [⟨tg, iter, ifs, 0⟩] scope pos) (some (.Name y py)) spos.line X.env = pure true := by rfl) :
    DS X k W (.Assign [.Name y py] (.ListComp elt [⟨tg, iter, ifs, 0⟩] scope pos) spos) (sSet i (mF (pComp vs is src h c f))) := by
  subst hv
  refine psImp (ps_setLc hc hN hy hyl hsw hi ok hg ht he hs) fun D σ H ⟨B, F, ρ, τ, θ, s, hk, p⟩ => ?_
  obtain ⟨fp, hF, rl⟩ := s.view
  unfold sSet mF at p
  cases q : pComp (own.map (·.2)) is src h c f ρ with
  | none => rw [q] at p; exact p.elim
  | some w =>
    rw [q] at p
    refine pLc_of his ⟨F, ρ, fp, hF, rl, w, q, fun u F1 H1 x1 n => ?_⟩
    exact p _ F1 H1 ((s.push x1 n).store (by omega))
end
end L2.DL

namespace L2.DL
open L2 PyProof.Rows PySem.Spec PySem
/-! ### a call of a def that changes nothing, slots lent, the other arguments reckoned -/
def callPB (m : List Val → R0) (as : List (Nat ⊕ Val)) (ρ1 : Slots) : R Val := match gatherA as ρ1 with
  | none => .bad
  | some (ws, ρ2) => if noObjs ws = true then (match m (frzs ws) with
    | .ok w => if (noOwns ws || noSh w) = true then .ok w (backA as (ws.map some) ρ2) else .bad
    | .err c pl => if plSh ws pl = true then .err c pl (backA as (ws.map some) ρ2) else .bad
    | .bad => .bad) else .bad
def mCallPB (m : List Val → R0) (fs : M (List (Nat ⊕ Val))) : M Val := fun ρ => (fs ρ).bind (callPB m)
theorem mCallPB_ap {m : List Val → R0} {fs : M (List (Nat ⊕ Val))} {ρ : Slots} : mCallPB m fs ρ = (fs ρ).bind (callPB m) := rfl
section
variable {X : Cx} {k j : Nat} {W : WX} {e : Expr} {es : List Expr} {fs : M (List (Nat ⊕ Val))} {pos : Pos}
end
end L2.DL

namespace L2.DL
open L2 PyProof.Rows PySem.Spec PySem
/-! ### sets of texts, walked only by sorted() and len() -/
section
variable {P : Program} {w : World} {A : Around} {E : Value → Shared → Prop} {s : Shared}
/-- the set at a: the texts l, each once -/
structure SetS (P : Program) (w : World) (h : Heap) (a : Addr) (l : List Str) : Prop where
  ex : ∃ D : Froz.SD, h.get? a = some (Froz.sObj "set" D) ∧ Froz.TxOk P w D l ∧ Ris D.2.2.place.toList ∧ (w.params.followText "set-order" = true ∨ D.2.2.led = true)
  nd : l.Nodup
theorem SetS.at {h h' : Heap} {a : Addr} {l : List Str} (R : SetS P w h a l) (k : ∀ o, h.get? a = some o → h'.get? a = some o) : SetS P w h' a l := by
  obtain ⟨⟨D, ho, r⟩, nd⟩ := R
  exact ⟨⟨D, k _ ho, r⟩, nd⟩
/-! the texts of a list, added one by one -/
end
end L2.DL
namespace L2.DL
open L2 PyProof.Rows PySem.Spec PySem
/-! ### sorted(set(xs)), len(set(xs)) -/
theorem perm_of_sub {α : Type} [DecidableEq α] : ∀ (l k : List α), l.Nodup → (∀ x ∈ l, x ∈ k) → k.length ≤ l.length → l.Perm k
  | [], k, _, _, h => by
    have : k = [] := List.eq_nil_of_length_eq_zero (by simpa using h)
    subst this; exact .nil
  | a :: l, k, nd, hm, h => by
    rw [List.nodup_cons] at nd
    have ha := hm a List.mem_cons_self
    have h2 := perm_of_sub l (k.erase a) nd.2 (fun x hx => (List.mem_erase_of_ne fun e => nd.1 (by rw [← e]; exact hx)).mpr (hm x (List.mem_cons_of_mem _ hx))) (by
      rw [List.length_erase_of_mem ha]; simp only [List.length_cons] at h; omega)
    exact (h2.cons a).trans (List.perm_cons_erase ha).symm
def keyS (v : Value) : Str := match v with
  | .str k _ => k
  | _ => Str.empty
section
variable {P : Program} {w : World} {A : Around} {E : Value → Shared → Prop} {s : Shared}
theorem SetS.keys {h : Heap} {a : Addr} {l : List Str} (R : SetS P w h a l) : ∃ D : Froz.SD, h.get? a = some (Froz.sObj "set" D) ∧ Froz.TxOk P w D l ∧ Ris D.2.2.place.toList ∧ (w.params.followText "set-order" = true ∨ D.2.2.led = true) ∧
    (∀ e ∈ D.1.toList, ∃ k t, e.2 = Value.str k t) ∧ (D.1.toList.map fun e => keyS e.2).Perm l := by
  obtain ⟨⟨D, ho, F, r, hl⟩, nd⟩ := R
  have hs : ∀ e ∈ D.1.toList, ∃ k t, e.2 = Value.str k t := fun e he => by
    obtain ⟨⟨k, hk, _⟩, _⟩ := F.el e he
    obtain ⟨t, ht⟩ := Value.isStrOf_shape hk
    exact ⟨k, t, ht⟩
  refine ⟨D, ho, F, r, hl, hs, (perm_of_sub l _ nd (fun k hk => ?_) ?_).symm⟩
  · obtain ⟨e, he, q⟩ := (F.mem k).mp hk
    obtain ⟨t, ht⟩ := Value.isStrOf_shape q
    exact List.mem_map.mpr ⟨e, he, by rw [ht]; rfl⟩
  · rw [List.length_map, Array.length_toList, F.sz]
    exact Nat.le_refl _
end
/-! expressions -/
section
variable {X : Cx} {a : Expr} {ta : TE} {fa : P Val} {p p2 q pos : Pos}
end
end L2.DL

namespace L2.DL
open L2 PyProof.Rows PySem.Spec PySem
/-! ### is True -/
end L2.DL

namespace L2.DL
open L2 PyProof.Rows PySem.Spec PySem
/-! ### raise of an own class whose __init__ keeps one field -/
def spInit (K : PySem.W.Frag) (f : Str) : Sp := fun vs H Q _ => ∃ (a C : Addr) (y : V), vs = [.ref a, y] ∧ OexC K C ∧ PySem.W.findIn K (.ref C) f = some none ∧ H a = some (exo a C none) ∧
  ∀ dx, H dx = none → dx ≠ a → Q .non (L2.upd (L2.upd H dx (exd dx [(f, y)])) a (exo a C (some dx)))
theorem fn_init {P : Program} {w : World} {K : PySem.W.Frag} {mg : Str → Option Value} {base : Heap} {qual f : Str} {st : Stmt} {fI : Addr} {fd : FuncData} {k : Nat} (F : Fun K "__init__" qual st fI fd) (S : FnScope ["self", f] ["self", f] (defScope st))
    (hps : ∀ (cdv : Value) (A : Around) (outer : List Env) (s : Shared) (H : Hp) (E : XK), PSs (cxOf CX0 P w K mg base ["self", f] qual (defScope st) fI cdv A outer s H E).nox (defBody st) (tOst K f (tVar 0) (tVar 1))) :
    FnOk P w K mg base CX0 (k + 1) fI fd ["self", f] (spInit K f) :=
  F.ok S (fun vs H Q E ⟨a, C, y, e, _⟩ => by rw [e]; rfl) fun cdv A outer s H vs Q E hr h => by
    obtain ⟨a, C, y, rfl, T, hno, ea, q⟩ := h
    exact ⟨_, hps cdv A outer s H E, y, rfl, .ref a, rfl, a, C, rfl, T, hno, .inl ⟨ea, fun dx n ne => q dx n ne⟩⟩
def sRaiseI (x f : Str) (fe : P Val) : G := fun ρ => match fe ρ with
  | some w => if noOwn w = true then .err x (some (f, w)) ρ else .bad
  | none => .bad
theorem sRaiseI_ap {x f : Str} {fe : P Val} {ρ : Slots} : sRaiseI x f fe ρ = (match fe ρ with
  | some w => if noOwn w = true then .err x (some (f, w)) ρ else .bad
  | none => .bad) := rfl
section
variable {X : Cx} {k : Nat} {W : WX}
theorem ds_raiseI {x f : Str} {C fI : Addr} {fd : FuncData} {fe : P Val} {e : Expr} {p pos pos' : Pos} (hc : X.calm = true) (tk : Takes X W) (gC : X.mg x = some (.ref C)) (T : OexC X.K C) (iC : PySem.W.findIn X.K (.ref C) "__init__" = some (some (.ref fI))) (tI : PySem.W.typeIn X.K (.ref fI) = some (.type "function"))
    (F1 : FnOk X.prog X.w X.K X.mg X.base CX0 1 fI fd ["self", f] (spInit X.K f)) (hr : Room 2 X.A) (hb : Binds X.K fd ["self", f] []) (hno : PySem.W.findIn X.K (.ref C) f = some none) (hg : Gl X x) (he : DP X e fe)
    (hdb : (x == ("__debug__" : Str)) = false := by decide) (hs : starEach [e] X.env = (false, eval e X.env) :: starEach [] X.env := by rfl) (hpl : (backTo pos (starEach [] X.env)).any (·.1) = false := by rfl) :
    DS X k W (.Raise (some (.Call (.Name x p) [e] [] pos)) none pos') (sRaiseI x f fe) :=
  psImp (ps_raise hc tk (pmk_oex (CX := CX0) (dvs := []) (ds := []) T iC tI F1 hr hb .nil pass0 hg gC (pa_cons he pa_nil hs) hdb hs hpl)) fun D σ H ⟨B, F, ρ, τ, θ, s, hk, p⟩ => by
    unfold sRaiseI at p
    cases q : fe ρ with
    | none => rw [q] at p; exact p.elim
    | some w =>
      rw [q] at p
      dsimp only at p
      split at p
      case isFalse => exact p.elim
      case isTrue n =>
      obtain ⟨fp, hF, rl⟩ := s.view
      refine ⟨F, ρ, fp, hF, rl, w, q, fun u F1 H1 x1 p1 => ⟨by simp, fun a na => ?_⟩⟩
      obtain ⟨g, r⟩ := p1
      have eg := r.nofp n
      subst eg
      refine ⟨a, C, u, rfl, T, hno, upd_same, fun dx nd ne => ⟨rfl, dx, [(f, u)], upd_same, ?_, ?_, ?_⟩⟩
      · rw [upd_ne ne, upd_same]
      · rw [upd_ne ne] at nd; exact nd
      · rw [upd_ne ne] at nd
        have eh : L2.upd (del (L2.upd (L2.upd (L2.upd H1 a (exo a C none)) dx (exd dx [(f, u)])) a (exo a C (some dx))) a) dx (.xd [(f, u)]) = L2.upd H1 dx (.xd [(f, u)]) := by
          funext b
          by_cases hb : b = dx
          · subst hb; rw [upd_same, upd_same]
          · rw [upd_ne hb, upd_ne hb]
            by_cases ha : b = a
            · subst ha; rw [del_same, na]
            · rw [del_ne ha, upd_ne ha, upd_ne hb, upd_ne ha]
        rw [eh]
        have xl := (Ext.laid (o := .xd [(f, u)]) x1.FH nd).1
        exact p C (some dx) σ F1 _ gC (s.ext (x1.trans xl)) ⟨dx, u, rfl, upd_same, r.mono (Le.refl _) fun b hb => by cases hb⟩
/-! ### try: .. except C as n: y = ('..', n.f) -/
end
end L2.DL

namespace L2.DL
open L2 PyProof.Rows PySem.Spec PySem
/-! ### dict(xs), xs a list of pairs whose keys are tuples -/
section
variable {prog : Program} {w : World} {A : Around} {E : Value → Shared → Prop}
abbrev tk (prog : Program) (w : World) : HeapKind prog w (List Key) := tupleKind (mixKind prog w)
end
end L2.DL
namespace L2.DL
open L2 PyProof.Rows PySem.Spec PySem
section
variable {X : Cx}
/-! the same by values -/
/-! ### d[k] op= e, d a dict from tuples in a slot -/
end
end L2.DL

namespace L2.DL
open L2 PyProof.Rows PySem.Spec PySem
/-! ### a value shared from its birth on -/
def mFz (m : M Val) : M Val := fun ρ => (m ρ).bind fun w ρ1 => if noObj w = true then .ok (frz w) ρ1 else .bad
theorem mFz_ap {m : M Val} {ρ : Slots} : mFz m ρ = (m ρ).bind fun w ρ1 => if noObj w = true then .ok (frz w) ρ1 else .bad := rfl
theorem dv_fz {X : Cx} {k : Nat} {W : WX} {e : Expr} {m : M Val} (h : DV X k W e m) : DV X k W e (mFz m) := peImp h fun σ H Q ⟨B, F, ρ, τ, θ, s, hk, p⟩ => ⟨B, F, ρ, τ, θ, s, hk, by
  unfold mFz at p
  exact (Post.bind p).imp fun w ρ1 p1 u F1 H1 s1 => by
    by_cases n : noObj w = true
    · rw [if_pos n] at p1
      obtain ⟨F2, _, s2⟩ := s1.freezeTop n
      exact p1 u F2 H1 s2
    · rw [if_neg n] at p1
      exact p1.elim⟩
end L2.DL

namespace L2.DL
open L2 PyProof.Rows PySem.Spec PySem
/-! ### a list in a slot: its things are shared from now on, the list itself may be changed -/
section
variable {B : Base} {F H F' H' : Hp} {σ : St} {ρ : Slots} {τ : List (Option V)} {θ : Slots} {f1 f2 : List Addr}
end
def fzE : Val → Option Val
  | .lst true ws => if noObjs ws = true then some (.lst true (frzs ws)) else none
  | _ => none
theorem fzE_ap (ws : List Val) : fzE (.lst true ws) = if noObjs ws = true then some (.lst true (frzs ws)) else none := rfl
def sFzE (i : Nat) (g : G) : G := fun ρ => match g ρ with
  | .nx ρ1 => (match (ρ1[i]?).join with
    | some w => (match fzE w with
      | some w' => .nx (ρ1.set i (some w'))
      | none => .bad)
    | none => .bad)
  | .brk ρ => .brk ρ
  | .ct ρ => .ct ρ
  | .ret w ρ => .ret w ρ
  | .err c p ρ => .err c p ρ
  | .bad => .bad
theorem sFzE_ap {i : Nat} {g : G} {ρ : Slots} : sFzE i g ρ = match g ρ with
  | .nx ρ1 => (match (ρ1[i]?).join with
    | some w => (match fzE w with
      | some w' => .nx (ρ1.set i (some w'))
      | none => .bad)
    | none => .bad)
  | .brk ρ => .brk ρ
  | .ct ρ => .ct ρ
  | .ret w ρ => .ret w ρ
  | .err c p ρ => .err c p ρ
  | .bad => .bad := rfl
end L2.DL

namespace L2.DL
open L2 PyProof.Rows PySem.Spec PySem
/-! ### list(range(n)) -/
section
variable {X : Cx} {a : Expr} {fa : P Val} {p p2 pos pos2 : Pos}
end
end L2.DL

namespace L2.DL
open L2 PyProof.Rows PySem.Spec PySem
/-! ### zip of two shared lists, of two tuples -/
def zipL (xs ys : List Val) : List Val := (xs.zip ys).map fun p => .tup [p.1, p.2]
def tupOf : Val → Option (List Val)
  | .tup ws => some ws
  | .tpz ws => some ws
  | _ => none
def zipOf (ws : List Val) : Option WW := match ws with
  | [.lst false xs, .lst false ys] => if (noOwns xs && noOwns ys) = true then some (.non, zipL xs ys) else none
  | [x, y] => (tupOf x).bind fun xs => (tupOf y).bind fun ys => if (noOwns xs && noOwns ys) = true then some (.non, zipL xs ys) else none
  | _ => none
def pZip (fs : P (List Val)) : P WW := fun ρ => (fs ρ).bind zipOf
def mZip (fs : M (List Val)) : M WW := fun ρ => (fs ρ).bind fun w ρ1 => match zipOf w with
  | some ww => .ok ww ρ1
  | none => .bad
theorem pZip_ap {fs : P (List Val)} {ρ : Slots} : pZip fs ρ = (fs ρ).bind zipOf := rfl
theorem mZip_ap {fs : M (List Val)} {ρ : Slots} : mZip fs ρ = (fs ρ).bind fun w ρ1 => match zipOf w with
  | some ww => .ok ww ρ1
  | none => .bad := rfl
theorem zipL_get {xs ys : List Val} {i : Nat} {w : Val} (h : (zipL xs ys)[i]? = some w) : ∃ x y, xs[i]? = some x ∧ ys[i]? = some y ∧ w = .tup [x, y] := by
  simp only [zipL, List.getElem?_map, Option.map_eq_some_iff] at h
  obtain ⟨p, e1, rfl⟩ := h
  have := List.getElem?_zip_eq_some.mp e1
  exact ⟨p.1, p.2, this.1, this.2, rfl⟩
theorem zipL_len (xs ys : List Val) : (zipL xs ys).length = min xs.length ys.length := by simp [zipL]
theorem pair_new {F H : Hp} {x y : V} {w z : Val} {T : Addr} (hF : Le F H) (nT : H T = none) (rx : Rep F H x w []) (ry : Rep F H y z []) : ∃ F', Ext F H F' (L2.upd H T (.tup [x, y])) ∧ Pk F' (L2.upd H T (.tup [x, y])) (.ref T) (.tup [w, z]) := by
  obtain ⟨x1, n1⟩ := Nw.tup hF nT (us := [x, y]) (ws := [w, z]) (.cons (f1 := []) (f2 := []) rx (.cons (f1 := []) (f2 := []) ry .nil))
  exact ⟨_, x1, n1.pk⟩
theorem src_zipL {F0 H0 : Hp} {K : PySem.W.Frag} {a b : Addr} {xs ys : List V} {ws zs : List Val} {u : V} {w : Val} (ha : F0 a = some (.lst xs)) (hb : F0 b = some (.lst ys)) (rx : Reps F0 H0 xs ws []) (ry : Reps F0 H0 ys zs []) : Src F0 (Itz K a b) u w (zipL ws zs) := fun F H h0 hF _ => by
  have hx : SqL K H a xs := .of (hF _ _ (h0 _ _ ha))
  have hy : SqL K H b ys := .of (hF _ _ (h0 _ _ hb))
  have rx' : Reps F H xs ws [] := rx.mono h0 fun _ h => by cases h
  have ry' : Reps F H ys zs [] := ry.mono h0 fun _ h => by cases h
  refine ⟨fun i hi => ⟨xs, ys, hx, hy, ?_⟩, fun i wi e => ?_⟩
  · rw [zipL_len] at hi
    have l1 := rx'.length
    have l2 := ry'.length
    omega
  · obtain ⟨p, q, e1, e2, rfl⟩ := zipL_get e
    obtain ⟨v1, g1, f1, r1, c1⟩ := rx'.get e1
    obtain ⟨v2, g2, f2, r2, c2⟩ := ry'.get e2
    have z1 : g1 = [] := List.eq_nil_iff_forall_not_mem.mpr fun x hx => by
      have h1 := c1 x; have h2 := count_of_mem hx; rw [List.count_nil] at h1; omega
    have z2 : g2 = [] := List.eq_nil_iff_forall_not_mem.mpr fun x hx => by
      have h1 := c2 x; have h2 := count_of_mem hx; rw [List.count_nil] at h1; omega
    subst z1 z2
    refine ⟨⟨xs, ys, v1, v2, hx, hy, f1, f2⟩, fun x H' ⟨T, x1, y1, ex, nT, eH, k1, k2⟩ => ?_⟩
    subst ex eH
    have q1 := (k1 xs hx).symm.trans f1
    have q2 := (k2 ys hy).symm.trans f2
    cases q1; cases q2
    exact pair_new hF nT r1 r2
theorem src_zipT {F0 H0 : Hp} {K : PySem.W.Frag} {a b : Addr} {xs ys : List V} {ws zs : List Val} {u : V} {w : Val} (ha : F0 a = some (.tup xs) ∨ ∃ ob, F0 a = some (.frz ob (.tup xs))) (hb : F0 b = some (.tup ys) ∨ ∃ ob, F0 b = some (.frz ob (.tup ys))) (rx : Reps F0 H0 xs ws []) (ry : Reps F0 H0 ys zs []) : Src F0 (RZ.ItzT K a b) u w (zipL ws zs) := fun F H h0 hF _ => by
  have hx : SqT K H a xs := by
    rcases ha with ha | ⟨ob, ha⟩
    · exact .of (hF _ _ (h0 _ _ ha))
    · exact .inl (.inr ⟨ob, hF _ _ (h0 _ _ ha)⟩)
  have hy : SqT K H b ys := by
    rcases hb with hb | ⟨ob, hb⟩
    · exact .of (hF _ _ (h0 _ _ hb))
    · exact .inl (.inr ⟨ob, hF _ _ (h0 _ _ hb)⟩)
  have rx' : Reps F H xs ws [] := rx.mono h0 fun _ h => by cases h
  have ry' : Reps F H ys zs [] := ry.mono h0 fun _ h => by cases h
  refine ⟨fun i hi => ⟨xs, ys, hx, hy, ?_⟩, fun i wi e => ?_⟩
  · rw [zipL_len] at hi
    have l1 := rx'.length
    have l2 := ry'.length
    omega
  · obtain ⟨p, q, e1, e2, rfl⟩ := zipL_get e
    obtain ⟨v1, g1, f1, r1, c1⟩ := rx'.get e1
    obtain ⟨v2, g2, f2, r2, c2⟩ := ry'.get e2
    have z1 : g1 = [] := List.eq_nil_iff_forall_not_mem.mpr fun x hx => by
      have h1 := c1 x; have h2 := count_of_mem hx; rw [List.count_nil] at h1; omega
    have z2 : g2 = [] := List.eq_nil_iff_forall_not_mem.mpr fun x hx => by
      have h1 := c2 x; have h2 := count_of_mem hx; rw [List.count_nil] at h1; omega
    subst z1 z2
    refine ⟨⟨xs, ys, v1, v2, hx, hy, f1, f2⟩, fun x H' ⟨T, x1, y1, ex, nT, eH, k1, k2⟩ => ?_⟩
    subst ex eH
    have q1 := (k1 xs hx).symm.trans f1
    have q2 := (k2 ys hy).symm.trans f2
    cases q1; cases q2
    exact pair_new hF nT r1 r2
theorem Pk.lsh {F H : Hp} {u : V} {ws : List Val} (h : Pk F H u (.lst false ws)) (n : noOwns ws = true) : ∃ a xs, u = .ref a ∧ F a = some (.lst xs) ∧ Reps F H xs ws [] := by
  obtain ⟨g, r⟩ := h
  cases r with
  | lsh h1 h2 => exact ⟨_, _, rfl, h1, by have := Reps.nofp n h2; subst this; exact h2⟩
theorem Pk.tupz {F H : Hp} {u : V} {w : Val} {ws : List Val} (h : Pk F H u w) (e : tupOf w = some ws) (n : noOwns ws = true) : ∃ a xs, u = .ref a ∧ (F a = some (.tup xs) ∨ ∃ ob, F a = some (.frz ob (.tup xs))) ∧ Reps F H xs ws [] := by
  obtain ⟨g, r⟩ := h
  cases w with
  | tup zs =>
    cases e
    cases r with
    | tup h1 h2 => exact ⟨_, _, rfl, .inl h1, by have := Reps.nofp n h2; subst this; exact h2⟩
  | tpz zs =>
    cases e
    cases r with
    | tpz h1 h0 h2 => exact ⟨_, _, rfl, .inr ⟨_, h1⟩, by have := Reps.nofp n h2; subst this; exact h2⟩
  | _ => cases e
/-- what a zip's two are -/
theorem zip_two {K : PySem.W.Frag} {F H : Hp} {u v : V} {x y : Val} {ww : WW} {R : It → Hp → Prop} (hF : Le F H) (pu : Pk F H u x) (pv : Pk F H v y) (e : zipOf [x, y] = some ww) (k : ∀ J, Src F J .non ww.1 ww.2 → R J H) (k1 : ww.1 = .non → True) :
    ww.1 = .non ∧ ∃ a b xs ys, [u, v] = [.ref a, .ref b] ∧ ((SqL K H a xs ∧ SqL K H b ys ∧ R (Itz K a b) H) ∨ (SqT K H a xs ∧ SqT K H b ys ∧ R (RZ.ItzT K a b) H)) := by
  have tt : ∀ {xs ys : List Val}, tupOf x = some xs → tupOf y = some ys → (noOwns xs && noOwns ys) = true → ww = (.non, zipL xs ys) → ww.1 = .non ∧ ∃ a b xs ys, [u, v] = [.ref a, .ref b] ∧ ((SqL K H a xs ∧ SqL K H b ys ∧ R (Itz K a b) H) ∨ (SqT K H a xs ∧ SqT K H b ys ∧ R (RZ.ItzT K a b) H)) := fun {xs ys} e1 e2 n ew => by
    subst ew
    rw [Bool.and_eq_true] at n
    obtain ⟨a, us, rfl, ha, ra⟩ := pu.tupz e1 n.1
    obtain ⟨b, vs, rfl, hb, rb⟩ := pv.tupz e2 n.2
    refine ⟨rfl, a, b, us, vs, rfl, .inr ⟨?_, ?_, k _ (src_zipT ha hb ra rb)⟩⟩
    · rcases ha with ha | ⟨ob, ha⟩
      · exact .of (hF _ _ ha)
      · exact .inl (.inr ⟨ob, hF _ _ ha⟩)
    · rcases hb with hb | ⟨ob, hb⟩
      · exact .of (hF _ _ hb)
      · exact .inl (.inr ⟨ob, hF _ _ hb⟩)
  have gen : ∀ {r : Option WW}, r = some ww → r = ((tupOf x).bind fun xs => (tupOf y).bind fun ys => if (noOwns xs && noOwns ys) = true then some (.non, zipL xs ys) else none) → ww.1 = .non ∧ ∃ a b xs ys, [u, v] = [.ref a, .ref b] ∧ ((SqL K H a xs ∧ SqL K H b ys ∧ R (Itz K a b) H) ∨ (SqT K H a xs ∧ SqT K H b ys ∧ R (RZ.ItzT K a b) H)) := fun {r} e1 e2 => by
    rw [e2] at e1
    simp only [Option.bind_eq_some_iff] at e1
    obtain ⟨xs, q1, ys, q2, q3⟩ := e1
    split at q3
    case isTrue n => cases q3; exact tt q1 q2 n rfl
    case isFalse => cases q3
  cases x with
  | lst o xs =>
    cases y with
    | lst o' ys =>
      cases o with
      | false =>
        cases o' with
        | false =>
          simp only [zipOf] at e
          split at e
          case isFalse => cases e
          case isTrue n =>
          cases e
          rw [Bool.and_eq_true] at n
          obtain ⟨a, us, rfl, ha, ra⟩ := pu.lsh n.1
          obtain ⟨b, vs, rfl, hb, rb⟩ := pv.lsh n.2
          exact ⟨rfl, a, b, us, vs, rfl, .inl ⟨.of (hF _ _ ha), .of (hF _ _ hb), k _ (src_zipL ha hb ra rb)⟩⟩
        | true => exact gen e rfl
      | true => exact gen e rfl
    | _ => exact gen e (by cases o <;> rfl)
  | _ => exact gen e rfl
section
variable {X : Cx} {k : Nat} {W : WX} {e e2 : Expr} {elts : List Expr} {kk : Nat} {pos p tpos : Pos}
end
end L2.DL

namespace L2.DL
open L2 PyProof.Rows PySem.Spec PySem
/-! ### x[j][m] op= e, x a list of own lists in a slot -/
def augZ (zs : List Val) (m : Int) (op : Val → Val → Option Val) (y : Val) : Option (List Val) := (atI zs m).bind fun x => (ixN zs.length m).bind fun mm => (op x y).map fun z => zs.set mm z
def augW (ws : List Val) (j m : Int) (op : Val → Val → Option Val) (y : Val) : Option (List Val) := (ixN ws.length j).bind fun n => match ws[n]? with
  | some (.lst true zs) => (augZ zs m op y).map fun zs' => ws.set n (.lst true zs')
  | _ => none
def sAugP (i : Nat) (fj fi : P Val) (op : Val → Val → Option Val) (fe : P Val) : G := fun ρ => match (ρ[i]?).join with
  | some (.lst true ws) => (match fj ρ with
    | some (.int j) => (match fi ρ with
      | some (.int m) => (match fe ρ with
        | some y => (match augW ws j m op y with
          | some ws' => .nx (ρ.set i (some (.lst true ws')))
          | none => .bad)
        | none => .bad)
      | _ => .bad)
    | _ => .bad)
  | _ => .bad
theorem sAugP_ap {i : Nat} {fj fi : P Val} {op : Val → Val → Option Val} {fe : P Val} {ρ : Slots} : sAugP i fj fi op fe ρ = match (ρ[i]?).join with
  | some (.lst true ws) => (match fj ρ with
    | some (.int j) => (match fi ρ with
      | some (.int m) => (match fe ρ with
        | some y => (match augW ws j m op y with
          | some ws' => .nx (ρ.set i (some (.lst true ws')))
          | none => .bad)
        | none => .bad)
      | _ => .bad)
    | _ => .bad)
  | _ => .bad := rfl
end L2.DL

namespace L2.DL
open L2 PyProof.Rows PySem.Spec PySem
/-! ### a dict from rows told against an empty one -/
theorem Pk.dT {F H : Hp} {x : V} {o : Bool} {ks : List (List Key)} {ws : List Val} (hF : Le F H) (h : Pk F H x (.dT o ks ws)) : ∃ a xs, x = .ref a ∧ H a = some (.dT (ks.zip xs)) ∧ ks.length = xs.length := by
  obtain ⟨g, rx⟩ := h
  cases rx with
  | tsh h1 hl h2 => exact ⟨_, _, rfl, hF _ _ h1, hl⟩
  | tow h1 hl h2 => exact ⟨_, _, rfl, h1, hl⟩
/-! ### a comprehension within a comprehension -/
end L2.DL

namespace L2.DL
open L2 PyProof.Rows PySem.Spec PySem
/-! ### list.remove -/
/-! ### x[j].append(w), x a tuple with an own list -/
/-! ### an empty list shared from its birth on -/
end L2.DL

namespace L2.DL
open L2 PyProof.Rows PySem.Spec PySem
/-! ### a fresh look's value shared from its birth on -/
end L2.DL

namespace L2.DL
open L2 PyProof.Rows PySem.Spec PySem
/-! ### for x in reversed(a list) -/
end L2.DL

namespace L2.DL
open L2 PyProof.Rows PySem.Spec PySem
/-! ### a slot's thing shared from its birth on -/
/-! ### is not True -/
end L2.DL

namespace L2.DL
open L2 PyProof.Rows PySem.Spec PySem
/-! ### a slice of a known tuple whose object is known again -/
def oSlZ (x : Val) (lo hi : Option Int) : Option Val := match x with
  | .tpz ws => if noOwns ws = true then some (.tpz (cutW ws lo hi)) else none
  | _ => none
def pSlZ (fa : P Val) (fl fh : P (Option Int)) : P Val := fun ρ => (fa ρ).bind fun x => (fl ρ).bind fun l => (fh ρ).bind fun h => oSlZ x l h
theorem pSlZ_ap {fa : P Val} {fl fh : P (Option Int)} {ρ : List (Option Val)} : pSlZ fa fl fh ρ = (fa ρ).bind fun x => (fl ρ).bind fun l => (fh ρ).bind fun h => oSlZ x l h := rfl
end L2.DL

namespace L2.DL
open L2 PyProof.Rows PySem.Spec PySem
/-! ### dict(zip(t, u)), t and u tuples, t's things texts -/
section
variable {prog : Program} {w : World} {A : Around} {E : Value → Shared → Prop} {s : Shared}
end
/-! the dict that comes of it -/
section
variable {X : Cx} {e e2 : Expr} {p p2 pos pos2 : Pos}
end
end L2.DL

namespace L2.DL
open L2 PyProof.Rows PySem.Spec PySem
/-! ### a def whose parameters are bound anew in its body -/
section
variable {P : Program} {w : World} {K : PySem.W.Frag} {mg : MG} {base : Heap}
end
end L2.DL

namespace L2.DL
open L2 PyProof.Rows PySem.Spec PySem
/-! ### x.index(e), x a list of texts -/
/-! ### sum(t), t a tuple of whole numbers -/
section
variable {prog : Program} {w : World} {A : Around} {E : Value → Shared → Prop} {s : Shared}
end
end L2.DL

namespace L2.DL
open L2 PyProof.Rows PySem.Spec PySem
/-! ### xs[::-1] -/
/-! ### d.setdefault(k, []).append(x), d's keys tuples, its things own lists -/
section
variable {X : Cx} {pins : List (Addr × Obj)} {σ : St} {H : Hp} {s : Shared} {a b : Addr} {r : Value} {d : V} {k : List Key} {A : Around} {E : Value → Shared → Prop}
end
section
variable {X : Cx} {o e f : Expr} {td ty tx : TE} {apos cpos : Pos}
end
end L2.DL

namespace L2.DL
open L2 PyProof.Rows PySem.Spec PySem
/-! ### a slice of a list that is made on the spot -/
/-! ### xs[j].append(w), xs an own list of own lists -/
end L2.DL

namespace L2.DL
open L2 PyProof.Rows PySem.Spec PySem
/-! ### x op e, x a name whose thing is looked at when e is known -/
section
variable {X : Cx} {k : Nat} {W : WX} {b : Expr} {fb : M Val} {pos : Pos}
end
end L2.DL

namespace L2.DL
open L2 PyProof.Rows PySem.Spec PySem
/-! ### f-texts -/
section
variable {X : Cx} {e v1 v2 : Expr} {es rest : List Expr} {f : P Val} {fs : P (List Val)} {pos : Pos}
end
/-! ### str(text or number), max(list) -/
def rStrX (xs : List V) (H : Hp) (Q : VK) : Prop := (∃ i : Int, xs = [.int i] ∧ i.natAbs.log2 < 1920 ∧ Q (.str (toString i)) H) ∨ ∃ a, xs = [.str a] ∧ Q (.str a) H
theorem call_strX {X : Cx} : CallR X (.type "str") rStrX := by
  intro pins s σ H xs us Q I r h
  rcases h with h | h
  · exact call_str_int pins s σ H xs us Q I r h
  · exact SkE.call_str_str pins s σ H xs us Q I r h
def oStrX : List Val → Option Val
  | [.int i] => if i.natAbs.log2 < 1920 then some (.str (Str.ofString (toString i))) else none
  | [.str a] => some (.str a)
  | _ => none
theorem vstrX : VOpS rStrX oStrX := fun F H xs ws w Q hF p e k => by
  match ws, e with
  | [.int i], e =>
    simp only [oStrX] at e
    split at e
    case isFalse => cases e
    case isTrue h =>
    cases e
    obtain ⟨u, rfl, pu⟩ := p.one
    have := pu.int; subst this
    exact .inl ⟨i, rfl, h, k _ F H (.refl hF) (.of (.str _))⟩
  | [.str a], e =>
    cases e
    obtain ⟨u, rfl, pu⟩ := p.one
    have := pu.str; subst this
    exact .inr ⟨a, rfl, k _ F H (.refl hF) (.of (.str _))⟩
def mxI : List Int → Option Int
  | [] => none
  | i :: is => some (is.foldl (fun a b => if b > a then b else a) i)
theorem mxI_fold : ∀ (is : List Int) (i : Int), (is.foldl (fun a b => if b > a then b else a) i ∈ i :: is) ∧ (∀ y ∈ i :: is, y ≤ is.foldl (fun a b => if b > a then b else a) i)
  | [], i => ⟨List.mem_cons_self, fun y h => by rcases List.mem_cons.mp h with rfl | h; exact Int.le_refl _; cases h⟩
  | j :: is, i => by
    rw [List.foldl_cons]
    by_cases q : j > i
    · rw [if_pos q]
      obtain ⟨h1, h2⟩ := mxI_fold is j
      refine ⟨List.mem_cons_of_mem _ h1, fun y hy => ?_⟩
      rcases List.mem_cons.mp hy with rfl | hy
      · have := h2 j List.mem_cons_self; omega
      · exact h2 y hy
    · rw [if_neg q]
      obtain ⟨h1, h2⟩ := mxI_fold is i
      refine ⟨?_, fun y hy => ?_⟩
      · rcases List.mem_cons.mp h1 with h | h
        · rw [h]; exact List.mem_cons_self
        · exact List.mem_cons_of_mem _ (List.mem_cons_of_mem _ h)
      · rcases List.mem_cons.mp hy with rfl | hy
        · exact h2 _ List.mem_cons_self
        · rcases List.mem_cons.mp hy with rfl | hy
          · have := h2 i List.mem_cons_self; omega
          · exact h2 y (List.mem_cons_of_mem _ hy)
def oMaxL : List Val → Option Val
  | [.lst _ ws] => (intsOf ws).bind fun is => (mxI is).map .int
  | _ => none
theorem vmaxL {K : PySem.W.Frag} : VOpS (rMax K) oMaxL := fun F H xs ws w Q hF p e k => by
  match ws, e with
  | [.lst o vs], e =>
    simp only [oMaxL, Option.bind_eq_some_iff, Option.map_eq_some_iff] at e
    obtain ⟨is, e1, m, e2, rfl⟩ := e
    obtain ⟨u, rfl, pu⟩ := p.one
    obtain ⟨a, us, rfl, ha, g, r⟩ := pu.lst hF
    have := intsOf_rep e1 r
    subst this
    cases is with
    | nil => cases e2
    | cons i is =>
      cases e2
      obtain ⟨h1, h2⟩ := mxI_fold is i
      refine ⟨a, i :: is, rfl, .of ha, Nat.succ_pos _, fun m hm hy => ?_⟩
      have a1 := hy _ h1
      have a2 := h2 m hm
      have : m = is.foldl (fun a b => if b > a then b else a) i := by omega
      rw [this]
      exact k _ F H (.refl hF) (.of (.int _))
end L2.DL

namespace L2.DL
open L2 PyProof.Rows PySem.Spec PySem
/-! ### methods of own classes, with the caller's own way out of raises -/
section
variable {X : Cx} {CX : CXT} {k : Nat} {f C : Addr} {fd : FuncData} {ps : List Str} {sp : Sp} {E : St → XK} {x m : Str} {p pos apos : Pos} {e o : Expr} {es : List Expr} {ta : TE} {t : TA}
end
/-! ### fields -/
/-- an object that is looked at -/
theorem Pk.obj {F H : Hp} {v : V} {o : Bool} {C : Addr} {fs : List Str} {vs : List Val} (hF : Le F H) (p : Pk F H v (.obj o C fs vs)) : ∃ a dx xs g, v = .ref a ∧ H a = some (.ins C dx (fs.zip xs)) ∧ fs.length = xs.length ∧ Reps F H xs vs g := by
  obtain ⟨g, r⟩ := p
  cases o with
  | true => cases r with
    | oow h1 _ hl h2 => exact ⟨_, _, _, _, rfl, h1, hl, h2⟩
  | false => cases r with
    | osh h1 _ hl h2 => exact ⟨_, _, _, _, rfl, hF _ _ h1, hl, h2⟩
section
variable {X : Cx} {e : Expr} {fa : P Val} {f : Str} {pos : Pos} {C : Addr}
end
/-! ### a field of an object in a slot is taken out, and put back -/
end L2.DL

namespace L2.DL
open L2 PyProof.Rows PySem.Spec PySem
/-! ### what stands in a field of a slot's object -/
section
variable {B : Base} {F H F' H' : Hp} {σ : St} {ρ : Slots} {τ : List (Option V)} {θ : Slots}
theorem SR.base (s : SR B F H σ ρ τ θ) : B.S0.length ≤ σ.length := by
  obtain ⟨f1, f2, s⟩ := s
  cases q : B.S0.length with
  | zero => exact Nat.zero_le _
  | succ n =>
    have hn : n < B.S0.length := by omega
    have := s.pin n B.S0[n] (List.getElem?_eq_getElem hn)
    exact (List.getElem?_eq_some_iff.mp this).1
end
/-! ### o.f.m(..) of a list in a field -/
section
variable {X : Cx} {k : Nat} {W : WX} {e : Expr} {es : List Expr} {fs : P (List Val)} {apos cpos pos px fpos : Pos} {x name f : Str} {id : String} {r : V → List V → Hp → VK → Prop} {g : Mu} {C : Addr}
end
/-! ### o.f = e -/
theorem Reps.len {F H : Hp} {us : List V} {ws : List Val} {g : List Addr} (r : Reps F H us ws g) : us.length = ws.length := r.length
section
variable {X : Cx} {k : Nat} {W : WX} {e : Expr} {fv : M Val} {pos px fpos : Pos} {x f : Str} {C : Addr}
end
end L2.DL

namespace L2.DL
open L2 PyProof.Rows PySem.Spec PySem
/-! ### list.remove of a text -/
/-! ### o.f[k] = e, o.f.pop(k) -/
section
variable {X : Cx} {k : Nat} {W : WX} {e ie : Expr} {fi : P Val} {fv : M Val} {pos px fpos spos apos cpos : Pos} {x f : Str} {C : Addr}
end
end L2.DL

namespace L2.DL
open L2 PyProof.Rows PySem.Spec PySem
/-! ### methods that change nothing -/
section
variable {X : Cx} {k j : Nat} {W : WX} {o e : Expr} {es : List Expr} {f C : Addr} {fd : FuncData} {ps : List Str} {m : List Val → R0} {name : Str} {pos apos : Pos} {fo : P Val} {fs : P (List Val)}
end
/-! ### methods that change their object (in a slot) -/
section
variable {X : Cx} {k j : Nat} {W : WX} {e : Expr} {es : List Expr} {f C : Addr} {fd : FuncData} {ps : List Str} {m : List Val → R1} {name x : Str} {pos apos px : Pos} {fs : M (List (Nat ⊕ Val))}
end
/-! ### an object is made -/
section
variable {X : Cx} {k j : Nat} {W : WX} {e : Expr} {es : List Expr} {f C : Addr} {fd : FuncData} {ps : List Str} {m : List Val → R1} {x : Str} {p pos : Pos} {fs : M (List (Nat ⊕ Val))}
end
end L2.DL

namespace L2.DL
open L2 PyProof.Rows PySem.Spec PySem
/-! ### what is done while a field's list stands aside -/
section
variable {X : Cx} {k : Nat} {W : WX} {e : Expr} {fa : M Val} {apos cpos pos px fpos : Pos} {x f : Str} {C : Addr}
end
section
variable {X : Cx} {k : Nat} {W : WX} {tg : Expr} {body : List Stmt} {is : List Nat} {h : T} {g : G} {pos px fpos : Pos} {x f : Str} {C : Addr}
end
end L2.DL

namespace L2.DL
open L2 PyProof.Rows PySem.Spec PySem
/-! ### several except clauses, with names or without -/
abbrev ASuite := Addr → Value → Option Addr → TS
def wMix (K : PySem.W.Frag) (Wout : WX) (D : Ends) : List (Value × Option Nat × ASuite) → WX
  | [] => Wout
  | (c, none, ts) :: r => fun cls d σ H => ∃ b, PySem.W.exmOne K cls c = some b ∧ (b = true → ∀ a, H a = none → ts a cls d D σ H) ∧ (b = false → wMix K Wout D r cls d σ H)
  | (c, some i, ts) :: r => fun cls d σ H => ∃ b, PySem.W.exmOne K cls c = some b ∧ (b = true → ∀ a, H a = none → ts a cls d { nx := fun σ' H' => D.nx (σ'.set i none) H', rt := D.rt, bk := fun σ' H' => D.bk (σ'.set i none) H', ct := fun σ' H' => D.ct (σ'.set i none) H' } (σ.set i (some (.ref a))) H) ∧
      (b = false → wMix K Wout D r cls d σ H)
inductive HdsMix (X : Cx) : List ExceptHandler → List (Value × Option Nat × ASuite) → Prop
  | nil : HdsMix X [] []
  | plain {x : Str} {c : Value} {ts : ASuite} {b₀ : Stmt} {suite : List Stmt} {np pos' : Pos} {hds : List ExceptHandler} {l : List (Value × Option Nat × ASuite)} (hc : Names X x c)
      (hsu : ∀ (a : Addr) (oe : Obj) (cls : Value) (d : Option Addr) (pn : List (Addr × Obj)), Zc cls d oe → (∃ vs, oe.data = .fields vs) → PSs (X.suite a ((a, oe) :: pn)) (b₀ :: suite) (ts a cls d)) (r : HdsMix X hds l) :
      HdsMix X (.ExceptHandler (some (.Name x np)) none (b₀ :: suite) pos' :: hds) ((c, none, ts) :: l)
  | named {x n : Str} {i : Nat} {c : Value} {ts : ASuite} {b₀ : Stmt} {suite : List Stmt} {np pos' : Pos} {hds : List ExceptHandler} {l : List (Value × Option Nat × ASuite)} (hN : X.N.Nodup) (hi : X.N[i]? = some n) (hln : X.env.kindOf n = some .local) (hc : Names X x c)
      (hsu : ∀ (a : Addr) (oe : Obj) (cls : Value) (d : Option Addr) (pn : List (Addr × Obj)), Zc cls d oe → (∃ vs, oe.data = .fields vs) → PSs (X.suite a ((a, oe) :: pn)) (b₀ :: suite) (ts a cls d)) (r : HdsMix X hds l) :
      HdsMix X (.ExceptHandler (some (.Name x np)) (some n) (b₀ :: suite) pos' :: hds) ((c, some i, ts) :: l)
section
variable {X : Cx} {body : List Stmt} {h₀ : ExceptHandler} {hds : List ExceptHandler} {l : List (Value × Option Nat × ASuite)} {pos : Pos} {tb : WX → TS} {Wout : WX}
theorem ps_try_mix (hs : X.stack = X.env :: X.outer) (hf : X.env.frame = some X.env.locals) (tk : Takes X Wout)
    (hb : ∀ (W : WX) (pn : List (Addr × Obj)) (xe : Value → Shared → Prop), Takes (X.tr pn xe) W → PassesOwn (model X.prog X.w) X.A X.env xe → PSs (X.tr pn xe) body (tb W))
    (hh : HdsMix X (h₀ :: hds) l) : PS X (.Try body (h₀ :: hds) [] [] pos) (fun D σ H => tb (wMix X.K Wout D l) D σ H) := by
  refine ⟨fun pins s σ H D I h => ?_⟩
  have ok := I.ok
  have hfr : X.A.frames = some (X.env :: X.outer) := by rw [ok.frames, hs]
  refine wpAny_Try_except ?_
  refine wpAny_mono ((hb (wMix X.K Wout D l) (X.pn ++ pins) (fun e s₁ => wpAny (model X.prog X.w) X.A (noteFrame e X.env) (fun _ s₂ => wpAny (model X.prog X.w) X.A (setFlight e none) (fun _ s₃ =>
    wpAny (model X.prog X.w) X.A (handleBy e X.env (h₀ :: hds)) (SP X pins D) X.xe s₃) X.xe s₂) X.xe s₁) (fun u s' xx => ?_) PassesOwn.looking).run [] s σ H D (I.toTry _) h) (fun f s1 hsp => ?_) (fun e s1 he => he)
  · obtain ⟨a, B, sI, pins', σ', H', cls, d, rfl, J', nb, up, sky, na, os, ag, w⟩ := xx
    have J : Inv X pins σ' H' sI := J'.ofTry ok
    have sky' : Sky B (X.env :: X.outer) a (Zc cls d) X.env.locals s'.heap := by rw [← hs]; exact sky
    show wpAny (model X.prog X.w) X.A (noteFrame (.ref a) X.env) _ _ _
    refine Sky.land Zc.steady hfr hf sky' fun h3 fl3 up3 => ?_
    have J3 : Inv X pins σ' H' { s' with heap := h3 } := J.landed nb fl3.1 (up.trans up3) os ag
    obtain ⟨oe3, vs3, he3, hz3, hd3⟩ := fl3.there
    have notFr : ∀ {h : Heap} {o : Obj} {vs : Array Value}, h.FunFrames B (X.env :: X.outer) → h.get? a = some o → o.data = .fields vs → a ∉ frs (X.env :: X.outer) := fun {h o vs} ff e dd hm => by
      obtain ⟨_, o', e', hnf⟩ := ff.mem hm
      rw [e] at e'; cases e'
      exact hnf _ dd
    have nfr := notFr fl3.2.2.1 he3 hd3
    have nL : a ≠ X.env.locals := fun z => nfr (List.mem_filterMap.mpr ⟨X.env, List.mem_cons_self, by rw [hf, z]⟩)
    have nF : a ∉ X.fs := fun hm => by
      obtain ⟨e, he, q⟩ := List.mem_filterMap.mp hm
      exact nfr (List.mem_filterMap.mpr ⟨e, List.mem_cons_of_mem _ he, q⟩)
    have S3 := J3.suite he3 hd3 na nL nF
    have LT : PySem.W.Looks (model X.prog X.w) h3 (typeOf (.ref a)) cls := fun A Q E s k q => wpAny_typeOf_ref (k _ _ he3) (by rw [hz3.1]; exact q)
    have test : ∀ {x : Str} {c : Value} {np : Pos}, Names X x c → ∀ {Q : Value → Shared → Prop} {E : Value → Shared → Prop}, Q c { s' with heap := h3 } → wpAny (model X.prog X.w) (X.A.mark (some (.ref a))) (eval (.Name x np) X.env) Q E { s' with heap := h3 } := by
      intro x c np hc Q E q
      obtain ⟨hg, hdbg, hm | ⟨hm, hv, hnn⟩⟩ := hc
      · exact ld_glob (X := X.suite a ((a, oe3) :: (X.pn ++ pins))) S3 hg hm q hdbg
      · exact ld_blt (X := X.suite a ((a, oe3) :: (X.pn ++ pins))) S3 hg hm hv q hnn hdbg
    have go : ∀ {hds' : List ExceptHandler} {l' : List (Value × Option Nat × ASuite)}, HdsMix X hds' l' → wMix X.K Wout D l' cls d σ' H' →
        wpAny (model X.prog X.w) X.A (handleBy (.ref a) X.env hds') (SP X pins D) X.xe { s' with heap := h3 } := by
      intro hds' l' hk
      induction hk with
      | nil =>
        intro w
        refine wpAny_handleBy_nil ?_
        obtain ⟨k1, k2, k3, oe, vs, T, oT, ts', he, hz, hd, h1, hr⟩ := id fl3
        unfold PySem.passOn
        refine wpAny_bind (wpAny_field he hd h1 ?_)
        rw [if_neg (show ¬ ((Value.ref T == Value.none) = true) from by simp)]
        have fin : wpAny (model X.prog X.w) X.A (setFlight (.ref a) X.env.frame) (fun _ s4 => wpAny (model X.prog X.w) X.A (throw (.ref a) : Sem Flow) (SP X pins D) X.xe s4) X.xe { s' with heap := h3 } := by
          rw [hf]
          refine HandSPX.setFlight_upZ fl3 fun h4 hh4 up4 => wpAny_throw (tk _ _ ?_)
          exact ⟨a, B, sI, pins, σ', H', cls, d, rfl, J, nb, (up.trans up3).trans up4, .inr (.inr (by rw [hs]; exact hh4)), na, os, ag, w⟩
        first
          | exact wpAny_bind (wpAny_pure (wpAny_bind fin))
          | exact wpAny_bind fin
      | @plain x c ts b₀ suite np pos' hds2 l2 hc hsu r ih =>
        intro w
        obtain ⟨b, hb1, hyes, hno⟩ := w
        refine wpAny_handleBy_cons (codeAny_handlers_test ?_) (by intro q; cases q)
        have LM := PySem.W.exm_one (M := model X.prog X.w) (J3.kIn) LT hb1
        refine test hc (LM.here ?_)
        cases b with
        | true =>
          refine codeAny_handlers_suite ?_
          refine HandSPX.lands_againZ fl3 fun h4 fl4 up4 => ?_
          have J4 : Inv X pins σ' H' { s' with heap := h4 } := J.landed nb fl4.1 ((up.trans up3).trans up4) os ag
          obtain ⟨oe4, vs4, he4, hz4, hd4⟩ := fl4.there
          have S4 := J4.suite he4 hd4 na nL nF
          refine wpAny_mono ((hsu a oe4 cls d (X.pn ++ pins) hz4 ⟨_, hd4⟩).run [] _ _ H' _ S4 (hyes rfl a na)) (fun f s6 hsp => ?_) (fun _ _ z => False.elim z)
          cases f with
          | next =>
            obtain ⟨σ6, H6, S6, q6⟩ := hsp
            exact ⟨_, _, S6.unsuite ok, q6⟩
          | brk =>
            obtain ⟨σ6, H6, S6, q6⟩ := hsp
            exact ⟨_, _, S6.unsuite ok, q6⟩
          | cont =>
            obtain ⟨σ6, H6, S6, q6⟩ := hsp
            exact ⟨_, _, S6.unsuite ok, q6⟩
          | ret u =>
            obtain ⟨v6, σ6, H6, S6, r6, q6⟩ := hsp
            exact ⟨_, _, _, S6.unsuite ok, r6, q6⟩
        | false =>
          show wpAny _ X.A (handleBy (.ref a) X.env hds2) _ _ _
          exact ih (hno rfl)
      | @named x n i c ts b₀ suite np pos' hds2 l2 hN hi hln hc hsu r ih =>
        intro w
        obtain ⟨b, hb1, hyes, hno⟩ := w
        refine wpAny_handleBy_cons (codeAny_handlers_test ?_) (by intro q; cases q)
        have LM := PySem.W.exm_one (M := model X.prog X.w) (J3.kIn) LT hb1
        refine test hc (LM.here ?_)
        cases b with
        | true =>
          have hloc : Loc X.env.scope n := .inl hln
          refine codeAny_handlers_suite_as ?_
          refine HandSPX.lands_againZ fl3 fun h4 fl4 up4 => ?_
          have J4 : Inv X pins σ' H' { s' with heap := h4 } := J.landed nb fl4.1 ((up.trans up3).trans up4) os ag
          obtain ⟨oe4, vs4, he4, hz4, hd4⟩ := fl4.there
          have S4 := J4.suite he4 hd4 na nL nF
          refine store_ok (X := X.suite a ((a, oe4) :: (X.pn ++ pins))) (v := .ref a) S4 hN hi hloc rfl (fun s5 S5 => ?_) (.inr hln)
          refine wpAny_mono ((hsu a oe4 cls d (X.pn ++ pins) hz4 ⟨_, hd4⟩).run [] s5 _ H' _ S5 (hyes rfl a na)) (fun f s6 hsp => ?_) (fun _ _ z => False.elim z)
          have end_ : ∀ {σ6 : St} {H6 : Hp} {Q : Shared → Prop}, Inv (X.suite a ((a, oe4) :: (X.pn ++ pins))) [] σ6 H6 s6 → (∀ s7, Inv X pins (σ6.set i none) H6 s7 → Q s7) →
              wpAny (model X.prog X.w) X.A (do bindName X.env n .none; unbindBehindTheSuite X.env n pos') (fun _ s7 => Q s7) X.xe s6 := fun {σ6 H6 Q} S6 hq => gone_ok (S6.unsuite ok) hN hi hln hq
          cases f with
          | next =>
            obtain ⟨σ6, H6, S6, q6⟩ := hsp
            exact end_ S6 fun s7 J7 => ⟨_, _, J7, q6⟩
          | brk =>
            obtain ⟨σ6, H6, S6, q6⟩ := hsp
            exact end_ S6 fun s7 J7 => ⟨_, _, J7, q6⟩
          | cont =>
            obtain ⟨σ6, H6, S6, q6⟩ := hsp
            exact end_ S6 fun s7 J7 => ⟨_, _, J7, q6⟩
          | ret u =>
            obtain ⟨v6, σ6, H6, S6, r6, q6⟩ := hsp
            exact end_ S6 fun s7 J7 => ⟨_, _, _, J7, r6, q6⟩
        | false =>
          show wpAny _ X.A (handleBy (.ref a) X.env hds2) _ _ _
          exact ih (hno rfl)
    exact go hh w
  · cases f with
    | next =>
      obtain ⟨σ', H', J', q⟩ := hsp
      exact wpAny_execs_nil ⟨σ', H', J'.ofTry ok, q⟩
    | brk =>
      obtain ⟨σ', H', J', q⟩ := hsp
      exact ⟨σ', H', J'.ofTry ok, q⟩
    | cont =>
      obtain ⟨σ', H', J', q⟩ := hsp
      exact ⟨σ', H', J'.ofTry ok, q⟩
    | ret u =>
      obtain ⟨v, σ', H', J', r, q⟩ := hsp
      exact ⟨v, σ', H', J'.ofTry ok, r, q⟩
end
end L2.DL

namespace L2.DL
open L2 PyProof.Rows PySem.Spec PySem
/-! ### try with several clauses, some with a name -/
inductive HD where
  | pl (t : Str → Option Bool) (h : G)
  | as1 (x : Str) (t : Str → Option Bool) (i j : Nat) (f : Str)
  | as2 (x : Str) (t : Str → Option Bool) (i jw : Nat) (word : Str) (j : Nat) (f : Str)
def hdMix : List HD → Str → Option (Str × Val) → G
  | [], c, p, ρ => .err c p ρ
  | .pl t h :: r, c, p, ρ => match t c with
    | some true => nES (h ρ)
    | some false => hdMix r c p ρ
    | none => .bad
  | .as1 x t i j f :: r, c, p, ρ => match t c with
    | some true => (match p with
      | some (f', w) => if c = x ∧ f' = f ∧ i < ρ.length then .nx (((ρ.set i none).set j (some w)).set i none) else .bad
      | none => .bad)
    | some false => hdMix r c p ρ
    | none => .bad
  | .as2 x t i jw word j f :: r, c, p, ρ => match t c with
    | some true => (match p with
      | some (f', w) => if c = x ∧ f' = f ∧ i < ρ.length then .nx ((((ρ.set i none).set jw (some (.str word))).set j (some w)).set i none) else .bad
      | none => .bad)
    | some false => hdMix r c p ρ
    | none => .bad
def sTryMix (g : G) (l : List HD) : G := fun ρ => match g ρ with
  | .err c p ρ1 => hdMix l c p ρ1
  | r => r
def DHm (X : Cx) (k : Nat) (hds : List ExceptHandler) (l : List HD) : Prop := ∃ L, HdsMix X hds L ∧ ∀ (W : WX) (D : Ends) (c : Str) (pl : Option (Str × Val)) (B : Base) (τ : List (Option V)) (θ ρ : Slots), B.S0.length = k → PostS X.mg W B τ θ (hdMix l c pl ρ) D →
  ∀ C d σ F H, X.mg c = some (.ref C) → SR B F H σ ρ τ θ → XR F H pl d → wMix X.K W D L (.ref C) d σ H
section
variable {X : Cx} {k : Nat}
theorem dhm_nil : DHm X k [] [] := ⟨[], .nil, fun W D c pl B τ θ ρ hk p C d σ F H e s x => p C d σ F H e s x⟩
theorem dhm_as1 {x n f : Str} {C : Addr} {i j : Nat} {st : Stmt} {np pos' : Pos} {hds : List ExceptHandler} {l : List HD} {t : Str → Option Bool} (hN : X.N.Nodup) (hi : X.N[i]? = some n) (hln : X.env.kindOf n = some .local) (gC : X.mg x = some (.ref C)) (hc : Names X x (.ref C))
    (ht : ∀ c D b, X.mg c = some (.ref D) → t c = some b → PySem.W.exmOne X.K (.ref D) (.ref C) = some b)
    (hsu : ∀ (a : Addr) (oe : Obj) (cls : Value) (d : Option Addr) (pn : List (Addr × Obj)), Zc cls d oe → (∃ vs, oe.data = .fields vs) → PSs (X.suite a ((a, oe) :: pn)) [st] (tAsg (tXf a cls d C f (tVar i)) (gName j))) (r : DHm X k hds l)
    (hki : k ≤ i := by decide) (hkj : k ≤ j := by decide) :
    DHm X k (.ExceptHandler (some (.Name x np)) (some n) [st] pos' :: hds) (.as1 x t i j f :: l) := by
  obtain ⟨L, hL, run⟩ := r
  refine ⟨(.ref C, some i, fun a cls d => tAsg (tXf a cls d C f (tVar i)) (gName j)) :: L, .named hN hi hln hc hsu hL, fun W D c pl B τ θ ρ hk p C' d σ F H eC s xr => ?_⟩
  unfold hdMix at p
  cases q : t c with
  | none => rw [q] at p; exact p.elim
  | some b =>
    rw [q] at p
    refine ⟨b, ht c C' b eC q, fun hb a na => ?_, fun hb => ?_⟩
    · subst hb
      dsimp only at p
      cases pl with
      | none => exact p.elim
      | some z =>
        obtain ⟨f', w⟩ := z
        dsimp only at p
        split at p
        case isFalse => exact p.elim
        case isTrue hh =>
        obtain ⟨rfl, rfl, hil⟩ := hh
        have e2 : C' = C := by rw [eC] at gC; cases gC; rfl
        subst e2
        obtain ⟨dd, v, rfl, hx, rv⟩ := xr
        have hil' : i < σ.length := by rw [s.len]; exact hil
        refine ⟨.ref a, by rw [List.getElem?_set_self hil'], rfl, rfl, dd, _, v, rfl, hx, by simp [List.lookup], ?_⟩
        have s2 := (((s.kill (i := i) (x := some (.ref a)) (by omega)).push (.refl s.FH) (.of rv)).store (i := j) (by omega)).kill (i := i) (x := none) (by omega)
        exact p _ _ _ s2
    · subst hb
      exact run W D c pl B τ θ ρ hk p C' d σ F H eC s xr
theorem ds_tryMix {W : WX} {body : List Stmt} {h₀ : ExceptHandler} {hds : List ExceptHandler} {l : List HD} {g : G} {pos : Pos} (hs : X.stack = X.env :: X.outer) (hf : X.env.frame = some X.env.locals) (tk : Takes X W)
    (hb : ∀ (W : WX) (pn : List (Addr × Obj)) (xe : Value → Shared → Prop), Takes (X.tr pn xe) W → PassesOwn (model X.prog X.w) X.A X.env xe → DSs (X.tr pn xe) k W body g)
    (hh : DHm X k (h₀ :: hds) l) : DS X k W (.Try body (h₀ :: hds) [] [] pos) (sTryMix g l) := by
  obtain ⟨L, hL, run⟩ := hh
  refine psImp (ps_try_mix (tb := fun W' => tS X.mg k W' g) hs hf tk (fun W' pn xe tk' hp => hb W' pn xe tk' hp) hL) fun D σ H ⟨B, F, ρ, τ, θ, s, hk, p⟩ => ⟨B, F, ρ, τ, θ, s, hk, ?_⟩
  unfold sTryMix at p
  cases q : g ρ with
  | nx ρ1 => rw [q] at p; exact p
  | brk ρ1 => rw [q] at p; exact p
  | ct ρ1 => rw [q] at p; exact p
  | ret w ρ1 => rw [q] at p; exact p
  | err c pl ρ1 => rw [q] at p; exact fun C d σ' F' H' e1 s' x' => run W D c pl B τ θ ρ1 hk p C d σ' F' H' e1 s' x'
  | bad => rw [q] at p; exact p.elim
end
end L2.DL

namespace L2.DL
open L2 PyProof.Rows PySem.Spec PySem
/-! ### o.m(e1, e2, t[j]): the thing in the tuple is lent for the call -/
section
variable {X : Cx} {k jr : Nat} {W : WX} {e1 e2 : Expr} {f C : Addr} {fd : FuncData} {ps : List Str} {m : List Val → R1} {name x y : Str} {pos apos px py tpos ipos : Pos} {f1 f2 : P Val} {jc : Nat}
end
end L2.DL

namespace L2.DL
open L2 PyProof.Rows PySem.Spec PySem
/-! ### dict(d), d with keys that are texts or whole numbers -/
/-! ### e.append(v), e a new list -/
section
variable {X : Cx} {k : Nat} {W : WX} {o e : Expr} {es : List Expr} {fe : M Val} {fs : P (List Val)} {apos cpos pos : Pos} {name : Str} {id : String} {r : V → List V → Hp → VK → Prop} {g : Mu}
end
end L2.DL

namespace L2.DL
open L2 PyProof.Rows PySem.Spec PySem
/-! ### t[::-1] of a tuple -/
section
variable {prog : Program} {w : World} {A : Around} {E : Value → Shared → Prop} {s : Shared}
end
section
variable {X : Cx} {e : Expr} {te : TE} {f : P Val} {k : Nat} {p1 p2 p3 pos : Pos}
def oRevZ : Val → Option Val
  | .tpz ws => if noOwns ws = true then some (.tpz ws.reverse) else none
  | _ => none
theorem oRevZ_tpz (ws : List Val) : oRevZ (.tpz ws) = if noOwns ws = true then some (.tpz ws.reverse) else none := rfl
/-! ### (e, ..) whose object is known -/
def gTupZ (ws : List Val) : Option Val := if noOwns ws = true ∧ ws.length ≤ sizeLine then some (.tpz ws) else none
theorem gTupZ_ap (ws : List Val) : gTupZ ws = if noOwns ws = true ∧ ws.length ≤ sizeLine then some (.tpz ws) else none := rfl
/-! ### t + u of two tuples whose objects are known -/
def oAddZ : Val → Val → Option Val
  | .tpz xs, .tpz ys => if (noOwns xs && noOwns ys) = true ∧ xs.length + ys.length ≤ sizeLine then some (.tpz (xs ++ ys)) else none
  | _, _ => none
theorem oAddZ_tpz (xs ys : List Val) : oAddZ (.tpz xs) (.tpz ys) = if (noOwns xs && noOwns ys) = true ∧ xs.length + ys.length ≤ sizeLine then some (.tpz (xs ++ ys)) else none := rfl
end
end L2.DL

namespace L2.DL
open L2 PyProof.Rows PySem.Spec PySem
/-! ### t + u, u's things may be owned: they go over to the sum -/
def mCatM (fa fb : M Val) : M Val := fun ρ => (fa ρ).bind fun x ρ1 => (fb ρ1).bind fun y ρ2 => match x, y with
  | .tup xs, .tup ys => if noOwns xs = true ∧ xs ≠ [] ∧ ys ≠ [] ∧ xs.length + ys.length ≤ sizeLine then .ok (.tup (xs ++ ys)) ρ2 else .bad
  | _, _ => .bad
theorem mCatM_ap {fa fb : M Val} {ρ : Slots} : mCatM fa fb ρ = (fa ρ).bind fun x ρ1 => (fb ρ1).bind fun y ρ2 => match x, y with
  | .tup xs, .tup ys => if noOwns xs = true ∧ xs ≠ [] ∧ ys ≠ [] ∧ xs.length + ys.length ≤ sizeLine then .ok (.tup (xs ++ ys)) ρ2 else .bad
  | _, _ => .bad := rfl
section
variable {X : Cx} {k : Nat} {W : WX} {a b : Expr} {fa fb : M Val} {pos : Pos}
end
end L2.DL

namespace L2.DL
open L2 PyProof.Rows PySem.Spec PySem
/-! ### for x in a parameter that is an own list; the list is put aside while it is walked -/
def RS.back (i : Nat) (w : Val) : RS → RS
  | .nx ρ => .nx (ρ.set i (some w))
  | .ret v ρ => .ret v (ρ.set i (some w))
  | .err c p ρ => .err c p (ρ.set i (some w))
  | _ => .bad
theorem SR.pinned {B : Base} {F H F' H' : Hp} {σ σ' : St} {ρ ρ' : Slots} {τ τ' : List (Option V)} {θ θ' : Slots} {v : V} {i : Nat} (s : SR B F H σ ρ τ θ) (ev : σ[i]? = some (some v)) (hi : i < B.S0.length) (s' : SR B F' H' σ' ρ' τ' θ') : σ'[i]? = some (some v) := by
  obtain ⟨f1, f2, s⟩ := s
  obtain ⟨g1, g2, s'⟩ := s'
  have a := s.pin i B.S0[i] (List.getElem?_eq_getElem hi)
  have b := s'.pin i B.S0[i] (List.getElem?_eq_getElem hi)
  rw [ev] at a
  cases a
  exact b
section
variable {X : Cx} {k : Nat} {W : WX} {tg : Expr} {body : List Stmt} {is : List Nat} {h : T} {g : G} {pos px : Pos} {x : Str}
end
end L2.DL

namespace L2.DL
open L2 PyProof.Rows PySem.Spec PySem
/-! ### a list of anything told against an empty one -/
def oEqLE : Val → Val → Option Val
  | .lst _ ws, .lst _ [] => some (.bl ws.isEmpty)
  | _, _ => none
theorem oEqLE_nil (o p : Bool) (ws : List Val) : oEqLE (.lst o ws) (.lst p []) = some (.bl ws.isEmpty) := rfl
end L2.DL

namespace L2.DL
open L2 PyProof.Rows PySem.Spec PySem
/-! ### for x in xs, xs an own list in a slot: each thing stands in x's slot while the body runs, and may be changed there -/
section
variable {B : Base} {F H : Hp} {σ : St} {ρ : Slots} {τ : List (Option V)} {θ : Slots}
end
section
variable {X : Cx} {k : Nat} {W : WX} {body : List Stmt} {g : G} {pos px py : Pos} {x y : Str}
end
end L2.DL

namespace L2.DL
open L2 PyProof.Rows PySem.Spec PySem C8
/-! ### a try whose body raises nothing, whatever its suite says -/
section
variable {X : Cx} {k : Nat} {W : WX}
end
/-! ### x.extend(y) -/
/-! ### isinstance(x, C), C an own class -/
section
variable {X : Cx} {a : Expr} {f : P Val} {C : Addr} {p pos np : Pos}
end
end L2.DL

namespace L2.DL
open L2 PyProof.Rows PySem.Spec PySem
/-! ### except (A, B): suite -/
section
variable {X : Cx} {body suite : List Stmt} {b₀ : Stmt} {x1 x2 : Str} {c1 c2 : Value} {pos pos' p1 p2 tpos : Pos} {kk : Nat} {tb : WX → TS} {ts : TS} {Wout : WX}
end
section
variable {X : Cx} {k : Nat} {W : WX}
end
end L2.DL

namespace L2.DL
open L2 PyProof.Rows PySem.Spec PySem
/-! ### x or y, x a tuple -/
section
variable {X : Cx} {k : Nat} {W : WX} {a b : Expr} {rest : List Expr} {pos : Pos}
end
end L2.DL

namespace L2
open PySem PySem.Spec PyProof.Rows
/-! ### list(zip(x, y)) -/
def ZS (z TI TO i1 i2 a b : Addr) (i : Nat) (h : Heap) : Prop := IsPair h TI (.ref i1) (.ref i2) ∧ h.IsListIter i1 a i ∧ h.IsListIter i2 b i ∧ (∃ o, h.get? TO = some o) ∧
  ((IsZip h z TI TO .none ∧ ∃ x y, IsPair h TO x y) ∨ ∃ T f oT, IsZipHeld h z TI TO T f ∧ h.get? T = some oT)
theorem ZS.keep {z TI TO i1 i2 a b q : Addr} {i : Nat} {h h' : Heap} (nq : q ∉ [z, TI, TO, i1, i2]) (st : ZS z TI TO i1 i2 a b i h) (k : ∀ c o, c ≠ q → h.get? c = some o → h'.get? c = some o) (kq : ∃ o, h'.get? q = some o) : ZS z TI TO i1 i2 a b i h' := by
  simp only [List.mem_cons, List.not_mem_nil, or_false, not_or] at nq
  obtain ⟨n0, n1, n2, n3, n4⟩ := nq
  obtain ⟨hTI, h1, h2, ⟨oO, hO⟩, hz⟩ := st
  refine ⟨k _ _ (Ne.symm n1) hTI, h1.at fun o e => k _ o (Ne.symm n3) e, h2.at fun o e => k _ o (Ne.symm n4) e, ⟨oO, k _ _ (Ne.symm n2) hO⟩, ?_⟩
  rcases hz with ⟨hz, x, y, hTO⟩ | ⟨T, f, oT, hz, hT⟩
  · exact .inl ⟨k _ _ (Ne.symm n0) hz, x, y, k _ _ (Ne.symm n2) hTO⟩
  · by_cases e : T = q
    · obtain ⟨o, ho⟩ := kq
      exact .inr ⟨T, f, o, k _ _ (Ne.symm n0) hz, by rw [e]; exact ho⟩
    · exact .inr ⟨T, f, oT, k _ _ (Ne.symm n0) hz, k _ _ e hT⟩
section
variable {X : Cx} {pins : List (Addr × Obj)} {σ : St} {z TI TO i1 i2 a b q : Addr} {xs ys : List V}
end
section
variable {X : Cx} {e1 e2 : Expr} {ta : TA} {p pos p2 pos2 : Pos}
end
end L2
namespace L2.DL
open L2 PyProof.Rows PySem.Spec PySem
section
variable {X : Cx} {k : Nat} {W : WX} {e1 e2 : Expr} {fs : M (List Val)} {p pos p2 pos2 : Pos}
end
end L2.DL

namespace L2.DL
open L2 PyProof.Rows PySem.Spec PySem
/-! ### a call that looks and tells one of the things it looked at: what is told is looked at, too -/
section
variable {X : Cx} {j : Nat} {e : Expr} {es : List Expr} {f : Addr} {fd : FuncData} {ps : List Str} {m : List Val → R0} {x : Str} {p pos : Pos}
end
end L2.DL

namespace L2.DL
open L2 PyProof.Rows PySem.Spec PySem
/-! ### a slot's thing counts as shared while one expression is looked at -/
end L2.DL

namespace L2
open PySem PySem.Spec PyProof.Rows
/-! ### a comprehension whose step may raise -/
/-- a block's context whose exceptions go where xe says -/
abbrev Cx.blkE (X : Cx) (s : Shared) (H : Hp) (scope : Scope) (cenv : Env) (fp : List Addr) (xe : Value → Shared → Prop) : Cx := { X.blk s H scope cenv fp with xe := xe }
theorem Cx.Ok.reX {X : Cx} {xe : Value → Shared → Prop} (ok : X.Ok) : ({ X with xe := xe } : Cx).Ok := by
  cases ok; constructor <;> assumption
theorem Inv.reX {X : Cx} {xe : Value → Shared → Prop} {pins : List (Addr × Obj)} {σ : St} {H : Hp} {s : Shared} (I : Inv X pins σ H s) : Inv { X with xe := xe } pins σ H s :=
  ⟨I.ok.reX, I.os, I.bare, I.base, I.loc, I.cell, I.free, I.freeC, I.pin, I.hok, I.len⟩
theorem noteFrame_same {env env' : Env} (h : env'.frame = env.frame) (e : Value) : noteFrame e env' = noteFrame e env := by
  unfold noteFrame PySem.frameOf
  rw [h]
/-- what a call's exception leaves: the ground, and a state of ours without it -/
theorem call_fly {X : Cx} {pins : List (Addr × Obj)} {σ : St} {H : Hp} {s s' : Shared} {E : XK} {u : Value} (I : Inv X pins σ H s) (c : CX X.prog X.w X.stack H s E u s') :
    ∃ (a : Addr) (B : Heap) (sI : Shared) (H' : Hp) (cls : Value) (d : Option Addr), u = .ref a ∧ Inv X pins σ H' sI ∧ (∀ b o, sI.heap.get? b = some o → b ∉ frs X.stack → B.get? b = some o) ∧ sI.heap.UpToSlots s'.heap ∧
      HandSPX.FlyingZ B X.stack a (Zc cls d) s'.heap ∧ H' a = none ∧ s'.os = sI.os ∧ AllBare s'.gens ∧ E cls d H' ∧ (∀ b o, s.heap.get? b = some o → H b = none → H' b = none) ∧ ∀ b o, s.heap.get? b = some o → H b = none → b ∉ frs X.stack → B.get? b = some o := by
  obtain ⟨a, B, H', cls, d, rfl, fl, hok, ub, na, os, ag, hE⟩ := c
  obtain ⟨V, v1, v2⟩ := restrict s'.heap fun b => (B.get? b).isSome || decide (b ∈ frs X.stack)
  have st := fl.1
  have onB : ∀ {b o}, B.get? b = some o → V.get? b = some o := fun {b o} e => (v1 b (by rw [e]; rfl)).trans (st b o e)
  have onF : ∀ {b}, b ∈ frs X.stack → V.get? b = s'.heap.get? b := fun {b} hb => v1 b (by simp [hb])
  have back : ∀ {b o}, V.get? b = some o → s'.heap.get? b = some o ∧ ((B.get? b).isSome = true ∨ b ∈ frs X.stack) := fun {b o} e => by
    by_cases q : ((B.get? b).isSome || decide (b ∈ frs X.stack)) = true
    · exact ⟨(v1 b q).symm.trans e, by simpa [Bool.or_eq_true] using q⟩
    · rw [v2 b (by simpa using q)] at e; cases e
  have J : Inv X pins σ H' { s with heap := V, gens := s'.gens, drawn := s'.drawn, toks := s'.toks } :=
    I.call (ch := []) ⟨fun b o e n hb _ => onB (ub.keep b o e n hb), fun b o e n hb _ => (ub.slot b o e hb).imp fun sl q => (onF hb).trans q, fun b o e n _ => ub.free b o e n, fun b o e _ => by
      by_cases hb : b ∈ frs X.stack
      · obtain ⟨sl, q⟩ := ub.slot b o e hb
        exact ⟨_, (onF hb).trans q⟩
      · exact (ub.there b o e hb).imp fun o' q => onB q, ub.tups, ub.frzs, ub.tbls⟩ (hok.kept fun b o e => onB e) ag (fun _ z => nomatch z)
  refine ⟨a, B, _, H', cls, d, rfl, J, fun b o e hb => ?_, Heap.UpToSlots.of_keeps fun b o e => (back e).1, fl, na, os, ag, hE, ub.free, ub.keep⟩
  obtain ⟨e', h⟩ := back e
  rcases h with h | h
  · obtain ⟨o', q⟩ := Option.isSome_iff_exists.mp h
    have := (st b o' q).symm.trans e'
    cases this
    exact q
  · exact absurd h hb
/-- a call's exception leaves a comprehension's block -/
theorem blk_err {X : Cx} {W : WX} {pins : List (Addr × Obj)} {σ : St} {H : Hp} {s s' : Shared} {E : XK} {u : Value} {ce : Env} {mc : Str → Option Value} {E0 : Value → Shared → Prop} (tk : Takes X W) (hs : X.stack = X.env :: X.outer) (hf : X.env.frame = some X.env.locals) (I : Inv X pins σ H s)
    (hfr : ce.frame = X.env.frame) (fo : ∀ H', H' ce.locals = none → FpOk X pins H' ce.locals) (hC : H ce.locals = none) (hn : s.heap.Ns ce.locals mc) (hCf : ce.locals ∉ frs X.stack) (c : CX X.prog X.w X.stack H s E u s') (hW : ∀ cls d H', E cls d H' → W cls d σ H') :
    wpAny (model X.prog X.w) X.A (noteFrame u ce) (fun _ s2 => ∃ m, s2.heap.Ns ce.locals m ∧ ∀ h', Heap.SameBut ce.locals s2.heap h' → wpAny (model X.prog X.w) X.A (PySem.passOn "comprehension.variables-let-go" u ce : Sem Value) (fun _ _ => False) X.xe { s2 with heap := h' }) E0 s' := by
  obtain ⟨a, B, sI, H', cls, d, rfl, J, nb, up, fl, na, os, ag, hE, fk, kp⟩ := call_fly I c
  have hA : X.A.frames = some (X.env :: X.outer) := by rw [I.ok.frames, hs]
  rw [hs] at fl
  obtain ⟨oC, es, ep, eC, dC⟩ := hn
  have bC : B.get? ce.locals = some oC := kp _ _ eC hC hCf
  have HC : H' ce.locals = none := fk _ _ eC hC
  rw [noteFrame_same hfr]
  refine HandSPX.looks_onZ Zc.steady hA hf fl fun h1 hh up1 => ?_
  refine ⟨mc, ⟨oC, es, ep, hh.1 _ _ bC, dC⟩, fun h2 sb => ?_⟩
  obtain ⟨g1, g2, g3, oe, vs, T, oT, ts, he, hz, hd, h1e, hnT, hTe, hT, hdT, h3⟩ := hh
  have aC : a ≠ ce.locals := fun z => by rw [z, bC] at g2; cases g2
  have tC : T ≠ ce.locals := fun z => by rw [z, bC] at hnT; cases hnT
  have hid : ∀ {b o}, (PySem.W.hideAll B [ce.locals]).get? b = some o → B.get? b = some o ∧ b ≠ ce.locals := fun {b o} e => ⟨PySem.W.of_hideAll _ e, fun z => by
    rw [PySem.W.hideAll_none [ce.locals] (by simp [z])] at e; cases e⟩
  have hnone : ∀ {b}, B.get? b = none → (PySem.W.hideAll B [ce.locals]).get? b = none := fun {b} e => by
    cases q : (PySem.W.hideAll B [ce.locals]).get? b with
    | none => rfl
    | some o => rw [(hid q).1] at e; cases e
  have ff : h2.FunFrames (PySem.W.hideAll B [ce.locals]) (X.env :: X.outer) := by
    have k1 : ∀ {l : List Env}, (∀ L ∈ frs l, L ≠ ce.locals) → h1.FunFrames B l → h2.FunFrames (PySem.W.hideAll B [ce.locals]) l := by
      intro l
      induction l with
      | nil => exact fun _ _ => trivial
      | cons env l ih =>
        rintro hl ⟨q1, ⟨L, o, q2, q3, q4, q5⟩, q6⟩
        exact ⟨q1, ⟨L, o, q2, hnone q3, (sb.2 L (hl L (List.mem_filterMap.mpr ⟨env, List.mem_cons_self, q2⟩))).trans q4, q5⟩, ih (fun L' hL' => hl L' (by
          obtain ⟨e, he, q⟩ := List.mem_filterMap.mp hL'
          exact List.mem_filterMap.mpr ⟨e, List.mem_cons_of_mem _ he, q⟩)) q6⟩
    exact k1 (fun L hL z => hCf (by rw [hs, ← z]; exact hL)) g3
  have hh2 : HandSPX.HeldZ (PySem.W.hideAll B [ce.locals]) (X.env :: X.outer) a (Zc cls d) X.env.locals h2 :=
    ⟨fun b o e => (sb.2 b (hid e).2).trans (g1 b o (hid e).1), hnone g2, ff, oe, vs, T, oT, ts, (sb.2 a aC).trans he, hz, hd, h1e, hnone hnT, hTe, (sb.2 T tC).trans hT, hdT, h3⟩
  unfold PySem.passOn
  refine wpAny_bind (wpAny_field ((sb.2 a aC).trans he) hd h1e ?_)
  rw [if_neg (show ¬ ((Value.ref T == Value.none) = true) from by simp)]
  rw [hfr, hf]
  refine wpAny_bind (HandSPX.setFlight_onZ hh2 fun h3 hh3 up3 => wpAny_throw (tk _ _ ?_))
  obtain ⟨f0, f1, f2, f3, f4, f5⟩ := fo H' HC
  have J2 := J.turned (h' := PySem.W.hideAll sI.heap [ce.locals]) (t' := sI.toks) (it := ce.locals) (fun b o hb e => PySem.W.hideAll_get _ e (by simp [hb])) f0 f1 f3 f4 f5
  refine ⟨a, PySem.W.hideAll B [ce.locals], _, pins, σ, H', cls, d, rfl, J2, fun b o e hb => ?_, fun b o e nf => ?_, .inr (.inr ?_), na, os, ag, hW _ _ _ hE⟩
  · have e1 : sI.heap.get? b = some o := PySem.W.of_hideAll _ e
    refine PySem.W.hideAll_get _ (nb b o e1 hb) fun z => ?_
    have z : b = ce.locals := by simpa using z
    rw [z] at e
    have q : (PySem.W.hideAll sI.heap [ce.locals]).get? ce.locals = some o := e
    rw [PySem.W.hideAll_none _ (by simp)] at q; cases q
  · have e1 : sI.heap.get? b = some o := PySem.W.of_hideAll _ e
    have bC' : b ≠ ce.locals := fun z => by
      rw [z] at e
      have q : (PySem.W.hideAll sI.heap [ce.locals]).get? ce.locals = some o := e
      rw [PySem.W.hideAll_none _ (by simp)] at q; cases q
    obtain ⟨sl, e2⟩ := up b o e1 nf
    obtain ⟨sl2, e3⟩ := up1 b _ e2 nf
    obtain ⟨sl3, e4⟩ := up3 b _ ((sb.2 b bC').trans e3) nf
    exact ⟨sl3, e4⟩
  · rw [hs]; exact hh3
section
variable {M : Model} {A : Around} {E : Value → Shared → Prop} {s : Shared} {env : Env}
/-- how a block ends, its own frame known -/
def compEnd (M : Model) (A : Around) (E : Value → Shared → Prop) (use : Option (Value → Sem Unit)) (Q : Value → Shared → Prop) (acc : Value) (ce : Env) (r : Result) (s' : Shared) : Prop :=
  match r with
  | .ok _ => compPost M A E use Q acc ce.locals (.ok .next) s'
  | .error x => ∃ m, s'.heap.Ns ce.locals m ∧ ∀ h', Heap.SameBut ce.locals s'.heap h' → wpAny M A (PySem.passOn "comprehension.variables-let-go" x ce : Sem Value) (fun _ _ => False) E { s' with heap := h' }
theorem comp_free {e : Expr} {scope : Scope} {pos : Pos} {newAcc first : Sem Value} {g : Comprehension} {gs : List Comprehension} {cl : List (Str × Addr)} {use : Option (Value → Sem Unit)} {Q : Value → Shared → Prop}
    (hcl : clausesOf e = g :: gs) (hs : ∀ x, foldedSetIterable g.iter env x = pure x) (hclos : closureFor scope env = pure cl) (hkind : scope.kind = .function) (hnames : ∀ x ∈ scope.names, x.2 = .local → scope.names.lookup x.1 = some .local)
    (h : wpAny M A first (fun x s₁ => wpAny M A (pyIter x) (fun it s₂ => wpAny M A newAcc (fun acc s₃ => wpAny M A (newFunctionEnv scope env.globals cl [] env.qual none .none (some env)) (fun cenv s₄ =>
        codeAny M A (.compStart e 0 it acc { cenv with scope := relabel scope env }) (compEnd M A E use Q acc { cenv with scope := relabel scope env }) s₄) E s₃) E s₂) E s₁) E s) :
    wpAny M A (comprehension e scope env pos newAcc false first use) Q E s := by
  unfold comprehension
  rw [hclos, hcl]
  refine wpAny_bind (wpAny_mono h (fun x t1 k1 => wpAny_bind (wpAny_standAt (wpAny_bind (wpAny_of_eq (hs x) (wpAny_bind (wpAny_holding (wpAny_mono k1 (fun it t2 k2 =>
    wpAny_standIf (wpAny_bind (wpAny_mono k2 (fun acc t3 k3 => wpAny_bind (wpAny_pure (wpAny_bind (wpAny_mono k3 (fun cenv t4 k4 => ?_) fun _ _ z => z)))) fun _ _ z => z))) fun _ _ z => z))))))) fun _ _ z => z)
  dsimp only
  have lv : ∀ x ∈ (scope.names.filter fun x => (x.2 == .local || x.2 == .cell) && x.1 != (".0" : Str)).reverse, x.2 = .local → Env.kindOf { cenv with scope := relabel scope env } x.1 = some .local :=
    fun x hx hl => lookup_relabel_local (hnames x (List.mem_filter.mp (List.mem_reverse.mp hx)).1 hl)
  have lv' : ∀ x ∈ (scope.names.filter fun x => (x.2 == .local || x.2 == .cell) && x.1 != (".0" : Str)).reverse.drop 1 ++ (scope.names.filter fun x => (x.2 == .local || x.2 == .cell) && x.1 != (".0" : Str)).reverse.take 1,
      x.2 = .local → Env.kindOf { cenv with scope := relabel scope env } x.1 = some .local := fun x hx hl => (List.mem_append.mp hx).elim (fun z => lv x (List.mem_of_mem_drop z) hl) fun z => lv x (List.mem_of_mem_take z) hl
  refine wpAny_holding (wpAny_bind (wpAny_attempt (wpAny_holding (wpAny_run (codeAny_mono k4 fun r s' hr => ?_)))))
  cases r with
  | ok f =>
    cases use with
    | none =>
      obtain ⟨m, hn, hr⟩ := hr
      exact wpAny_bind (wpAny_holding (wpAny_comp_letGo (cenv := { cenv with scope := relabel scope env }) hkind _ s' m lv hn fun h' m' _ hs' => wpAny_pure (hr h' hs')))
    | some u =>
      refine wpAny_bind (wpAny_rule (wpAny_bind (wpAny_holding (wpAny_mono hr (fun _ t hr' => ?_) fun _ _ z => z))))
      obtain ⟨m, hn, hr'⟩ := hr'
      exact wpAny_bind (wpAny_comp_letGo (cenv := { cenv with scope := relabel scope env }) hkind _ t m lv' hn fun h' m' _ hs' => wpAny_pure (hr' h' hs'))
  | error x =>
    obtain ⟨m, hn, hr⟩ := hr
    exact wpAny_bind (wpAny_holding (wpAny_comp_letGo (cenv := { cenv with scope := relabel scope env }) hkind _ s' m lv hn fun h' m' _ hs' => wpAny_mono (hr h' hs') (fun _ _ z => z.elim) fun _ _ z => z))
end
section
variable {X : Cx} {W : WX}
/-- calls' exceptions of a block go where W says, whatever the block's slots are -/
def BlkPass (X : Cx) (W : WX) : Prop := ∀ σ, PassesAt (L2.CX X.prog X.w) X σ fun c d H => W c d σ H
theorem lcX_core {pins : List (Addr × Obj)} {s : Shared} {σ : St} {H : Hp} {Q : VK} {elt tg iter : Expr} {ifs : List Expr} {scope : Scope} {own : List (Str × Nat)} {pos pos' : Pos} {wi : TI} {g : TG} {tt : TT} {te : WX → TE} {use : Option (Value → Sem Unit)} {Qf : Value → Shared → Prop}
    (tk : Takes X W) (hst : X.stack = X.env :: X.outer) (hfr : X.env.frame = some X.env.locals) (hc : X.calm = true) (hN : X.N.Nodup) (I : Inv X pins σ H s) (hi : PI X tg iter wi) (ok : BlkOk X.N X.env.scope scope own)
    (hg : ∀ (s : Shared) (H : Hp) (C : Addr) (cl : List (Str × Addr)) (fp : List Addr), PG (X.blk s H scope (compEnvC scope cl C X.env) fp) tg g) (ht : ∀ (s : Shared) (H : Hp) (C : Addr) (cl : List (Str × Addr)) (fp : List Addr), PTs (X.blk s H scope (compEnvC scope cl C X.env) fp) ifs tt)
    (he : ∀ (s : Shared) (H : Hp) (C : Addr) (cl : List (Str × Addr)) (fp : List Addr) (xe : Value → Shared → Prop) (Wb : WX), BlkPass (X.blkE s H scope (compEnvC scope cl C X.env) fp xe) Wb → PE (X.blkE s H scope (compEnvC scope cl C X.env) fp xe) elt (te Wb)) (hs : ∀ x, foldedSetIterable iter X.env x = pure x)
    (h : tLc wi g tt (te fun c d _ H => W c d σ H) (own.map (·.2)) σ H Q)
    (hRR : ∀ D C s' m H', Inv X pins σ H' s' → Q (.ref D) H' → s'.heap.Ns C m → FpOk X pins H' C → compPost (model X.prog X.w) X.A X.xe use Qf (.ref D) C (.ok .next) s') :
    wpAny (model X.prog X.w) X.A (comprehension (.ListComp elt [⟨tg, iter, ifs, 0⟩] scope pos) scope X.env pos' (newList []) false (eval iter X.env) use) Qf X.xe s := by
  have hfree : ∀ y ∈ scope.names, y.2 = .free → ∃ c, X.env.cells.lookup y.1 = some c := fun y hy e => (ok.free y hy e).elim (fun k => I.ok.has _ (.inl k)) fun k => I.ok.has _ (.inr k)
  refine comp_free (use := use) rfl hs (closure_ok hfree) ok.kind (fun y hy e => by rw [ok.uniq y hy, e]) (thn (hi.run pins s σ H _ I h) fun xv s1 hx => thn hx fun itv s2 h2 => ?_)
  obtain ⟨it, fp, tn, J, H2, e, I2, T, st2, f2, q⟩ := h2
  subst e
  refine wpAny_newObj_type (newEnv_comp ?_) (by show 0 ≤ sizeLine; decide)
  generalize hD : s2.heap.objs.size = D
  have hDn : H2 D = none := I2.hok.fresh (Nat.le_of_eq hD)
  obtain ⟨Wm, ⟨m0, w0⟩, turn⟩ := q D hDn
  generalize hs3 : ({ s2 with heap := s2.heap.push { cls := .type "list", data := .seq ([] : List Value).toArray } } : Shared) = s3
  have I3 : Inv X pins σ (upd H2 D (.lst [])) s3 := by
    subst hs3
    exact I2.laid (t' := s2.toks) (fun b o e => Heap.get?_push_of_some _ e) (Nat.le_of_eq hD) ⟨Nat.zero_le _, [], 0, .nil, by rw [← hD]; exact Heap.get?_push_size _ rfl⟩
  have h3 : s3.heap = s2.heap.push { cls := .type "list", data := .seq ([] : List Value).toArray } := by rw [← hs3]
  have f3 : ∀ b ∈ fp, FpOk X pins (upd H2 D (.lst [])) b ∧ b < s3.heap.objs.size := fun b hb => by
    obtain ⟨o, e, _⟩ := T.obj _ _ st2 b hb
    have hlt := Heap.lt_size e
    refine ⟨⟨(upd_ne (by rw [← hD]; exact Nat.ne_of_lt hlt)).trans (f2 b hb).1, (f2 b hb).2⟩, by rw [h3, Heap.size_push]; exact Nat.lt_succ_of_lt hlt⟩
  have st3 : tn 0 s3.heap := T.keep _ _ _ st2 fun b _ o e => by rw [h3]; exact Heap.get?_push_of_some _ e
  have I4 := block_start I3 ok hN f3
  have pg := hg s3 (upd H2 D (.lst [])) s3.heap.objs.size (cellsFrom (s3.heap.objs.size + 1) scope.names (cloFrom X.env.cells scope.names [])) fp
  have pt := ht s3 (upd H2 D (.lst [])) s3.heap.objs.size (cellsFrom (s3.heap.objs.size + 1) scope.names (cloFrom X.env.cells scope.names [])) fp
  have pe := he s3 (upd H2 D (.lst [])) s3.heap.objs.size (cellsFrom (s3.heap.objs.size + 1) scope.names (cloFrom X.env.cells scope.names [])) fp
  show codeAny _ _ (.compStart (.ListComp elt [⟨tg, iter, ifs, 0⟩] scope pos) 0 (.ref it) (.ref D) (compEnvC scope (cellsFrom (s3.heap.objs.size + 1) scope.names (cloFrom X.env.cells scope.names [])) s3.heap.objs.size X.env)) (compEnd (model X.prog X.w) X.A X.xe use Qf (.ref D) (compEnvC scope (cellsFrom (s3.heap.objs.size + 1) scope.names (cloFrom X.env.cells scope.names [])) s3.heap.objs.size X.env)) { s3 with heap := pushCells (s3.heap.push { cls := .type "dict", data := .dict #[] }) scope.names }
  have nfp : ∀ b ∈ fp, (upd H2 D (.lst [])) b = none := fun b hb => (f3 b hb).1.1
  generalize hce : compEnvC scope (cellsFrom (s3.heap.objs.size + 1) scope.names (cloFrom X.env.cells scope.names [])) s3.heap.objs.size X.env = ce at I4 pg pt pe ⊢
  have cL : ce.locals = s3.heap.objs.size := by subst hce; rfl
  have cF : ce.frame = X.env.frame := by subst hce; rfl
  generalize hH3 : upd H2 D (.lst []) = H3 at I3 I4 pg pt pe w0 nfp f3
  generalize hs4 : ({ s3 with heap := pushCells (s3.heap.push { cls := .type "dict", data := .dict #[] }) scope.names } : Shared) = s4 at I4 ⊢
  have st4 : tn 0 s4.heap := T.keep _ _ _ st3 fun b _ o e => by rw [← hs4]; exact pushCells_keeps _ _ _ _ (Heap.get?_push_of_some _ e)
  have stat : ∀ {σ' : St} {H' : Hp} {s' : Shared}, Inv (X.blk s3 H3 scope ce fp) [] σ' H' s' → (∀ b ∈ fp, H' b = none) → ∀ b ∈ fp, FpOk (X.blk s3 H3 scope ce fp) [] H' b := fun {σ' H' s'} I' hn b hb =>
    ⟨hn b hb, (I'.ok.exf b hb).1, I'.ok.exfs b hb, .inl hb, fun x c e => (I'.ok.exf b hb).2 x c e, fun p hp => absurd (show p ∈ ([] : List (Addr × Obj)) ++ [] from hp) (by simp)⟩
  -- back in the def's context
  have home : ∀ {pb : List (Addr × Obj)} {σ' : St} {H' : Hp} {s' : Shared}, Inv (X.blk s3 H3 scope ce fp) pb σ' H' s' → Inv X pins σ H' s' := fun {pb σ' H' s'} I' =>
    I3.call' (ch := fp) I'.os I'.base I'.hok I'.bare fun b hb => ⟨(f3 b hb).1.2.2.2.1, (f3 b hb).1.2.1, (f3 b hb).1.2.2.2.2.1, (f3 b hb).1.2.2.2.2.2⟩
  have own1 : ∀ H' : Hp, H' ce.locals = none → FpOk X pins H' ce.locals := fun H' z => by rw [cL] at z ⊢; exact I3.fpOk (Nat.le_refl _) z
  have noF : ce.locals ∉ frs X.stack := fun z => by
    rcases List.mem_cons.mp (I3.stkSub _ z) with z | z
    · exact (own1 (fun _ => none) rfl).2.1 z
    · exact (own1 (fun _ => none) rfl).2.2.1 z
  have loop : codeAny (model X.prog X.w) X.A (.compLoop (.ListComp elt [⟨tg, iter, ifs, 0⟩] scope pos) 0 (.ref it) (.ref D) ce) (compEnd (model X.prog X.w) X.A X.xe use Qf (.ref D) ce) s4 := by
    refine compLoop_any (fun n s' => ∃ i H', Inv (X.blk s3 H3 scope ce fp) [] (wipe σ (own.map (·.2))) H' s' ∧ tn i s'.heap ∧ (∀ b ∈ fp, H' b = none) ∧ Wm i n H') ?_ m0 ⟨0, H3, I4, st4, nfp, w0⟩
    rintro n s5 ⟨i, H5, I5, st5, n5, w5⟩
    rcases turn i n H5 w5 with ⟨stop, qq⟩ | ⟨go, Nx, hNx, step⟩
    · refine thnF (T.done (X.blk s3 H3 scope ce fp) rfl rfl rfl hc i [] s5 _ H5 (fun _ _ => False) I5 (stat I5 n5) st5 stop) fun r s6 ⟨hr, I6⟩ => ?_
      subst hr
      obtain ⟨m, hn, _⟩ := I6.loc
      exact hRR D ce.locals s6 m H5 (home I6) qq hn (own1 H5 I6.free)
    · refine thnF (T.item (X.blk s3 H3 scope ce fp) rfl rfl rfl hc i [] s5 _ H5 (fun _ _ => False) I5 (stat I5 n5) st5 go) fun r s6 ⟨u, hr, h6⟩ => ?_
      subst hr
      refine thnF h6 fun _ s7 ⟨x, H7, I7, r7, y7, st7, n7⟩ => ?_
      have I7' := I7.pinned (stat I7 n7) (T.obj _ _ st7)
      refine thnF (pg.run _ s7 _ H7 x u _ I7' r7 (step x H7 y7)) fun _ s8 ⟨σ8, H8, I8, hw8, q8⟩ => ?_
      refine thnF (pt.run _ s8 σ8 H8 _ I8 q8) fun b s9 ⟨H9, I9, q9⟩ => ?_
      have fin : ∀ {s' : Shared} {H' : Hp}, Inv (X.blk s3 H3 scope ce fp) ([] ++ pinsAt fp s7.heap) σ8 H' s' → Nx H' → ∃ m, m < n ∧ ∃ i H', Inv (X.blk s3 H3 scope ce fp) [] (wipe σ (own.map (·.2))) H' s' ∧ tn i s'.heap ∧ (∀ b ∈ fp, H' b = none) ∧ Wm i m H' := fun {s' H'} I' nx => by
        obtain ⟨m', hm, w'⟩ := hNx H' nx
        have keepP : ∀ b ∈ fp, ∀ o, s7.heap.get? b = some o → s'.heap.get? b = some o ∧ H' b = none := fun b hb o e =>
          let z := I'.pin (b, o) (List.mem_append_right _ (List.mem_append_right _ (mem_pinsAt hb e)))
          ⟨z.1, z.2.1⟩
        refine ⟨m', hm, i + 1, H', (I'.unpinned (pins := [])).weak (by rw [← hw8, wipe_length]) (fun j v e => by rw [← hw8] at e; exact (wipe_some e).1), T.keep _ _ _ st7 fun b hb o e => (keepP b hb o e).1, fun b hb => ?_, w'⟩
        obtain ⟨o, e, _⟩ := T.obj _ _ st7 b hb
        exact (keepP b hb o e).2
      cases b with
      | false =>
        simp only [Bool.false_eq_true, if_false] at q9 ⊢
        exact fin I9 q9
      | true =>
        simp only [if_true] at q9 ⊢
        have run := (pe (notedBy (model X.prog X.w) X.A ce fun e s' => compEnd (model X.prog X.w) X.A X.xe use Qf (.ref D) ce (.error e) s') (fun c d _ H => W c d σ H) fun σb pb Hb sb eb s' Ib cb => by
          have Ib0 : Inv (X.blk s3 H3 scope ce fp) pb σb Hb sb := Ib.reX (xe := fun _ _ => False)
          obtain ⟨mb, hnb, _⟩ := Ib0.loc
          exact blk_err tk hst hfr (home Ib0) cF own1 Ib0.free hnb noF cb fun _ _ _ z => z).run _ s9 σ8 H9 _ I9.reX q9
        refine thn run fun z s10 ⟨yv, H10, I10, r10, acc, hD10, hz10, nx⟩ => ?_
        have I10' : Inv (X.blk s3 H3 scope ce fp) ([] ++ pinsAt fp s7.heap) σ8 H10 s10 := I10.reX (xe := fun _ _ => False)
        exact app_ok (X := X.blk s3 H3 scope ce fp) I10' hD10 hz10 r10 fun s11 I11 => fin I11 nx
  exact codeAny_compStart_list loop (T.self X.A 0 _ _ _ st4 loop)
/-- name = [..] on one line, the name a local, the step may raise -/
theorem ps_setLcX {i : Nat} {y : Str} {py : Pos} {elt tg iter : Expr} {ifs : List Expr} {scope : Scope} {own : List (Str × Nat)} {pos spos : Pos} {wi : TI} {g : TG} {tt : TT} {te : WX → TE} (tk : Takes X W) (hst : X.stack = X.env :: X.outer) (hfr : X.env.frame = some X.env.locals) (hc : X.calm = true) (hN : X.N.Nodup) (hy : X.N[i]? = some y) (hyl : X.env.scope.names.lookup y = some .local)
    (hsw : swapsWith (.ListComp elt [⟨tg, iter, ifs, 0⟩] scope pos) (some (.Name y py)) spos.line X.env = pure true) (hi : PI X tg iter wi) (ok : BlkOk X.N X.env.scope scope own)
    (hg : ∀ (s : Shared) (H : Hp) (C : Addr) (cl : List (Str × Addr)) (fp : List Addr), PG (X.blk s H scope (compEnvC scope cl C X.env) fp) tg g) (ht : ∀ (s : Shared) (H : Hp) (C : Addr) (cl : List (Str × Addr)) (fp : List Addr), PTs (X.blk s H scope (compEnvC scope cl C X.env) fp) ifs tt)
    (he : ∀ (s : Shared) (H : Hp) (C : Addr) (cl : List (Str × Addr)) (fp : List Addr) (xe : Value → Shared → Prop) (Wb : WX), BlkPass (X.blkE s H scope (compEnvC scope cl C X.env) fp xe) Wb → PE (X.blkE s H scope (compEnvC scope cl C X.env) fp xe) elt (te Wb)) (hs : ∀ x, foldedSetIterable iter X.env x = pure x := by intro _; rfl) :
    PS X (.Assign [.Name y py] (.ListComp elt [⟨tg, iter, ifs, 0⟩] scope pos) spos) fun D σ H => tAsg (tLc wi g tt (te fun c d _ H => W c d σ H) (own.map (·.2))) (gName i) D σ H := by
  refine ⟨fun pins s σ H D I h => ?_⟩
  rw [exec_Assign_Name_used _ _ _ _ hsw]
  refine wpAny_bind (wpAny_standAt (wpAny_bind ?_))
  show wpAny _ X.A (do let _ ← comprehension (.ListComp elt [⟨tg, iter, ifs, 0⟩] scope pos) scope X.env (firstIterPos [⟨tg, iter, ifs, 0⟩] pos) (newList []) false (eval iter X.env) (some (assign (.Name y py) X.env))) _ _ s
  have h : tLc wi g tt (te fun c d _ H => W c d σ H) (own.map (·.2)) σ H (fun x H1 => gName i x σ H1 D.nx) := h
  refine wpAny_bind (thn (lcX_core (Qf := fun _ s' => SP X pins D .next s') tk hst hfr hc hN I hi ok hg ht he hs h fun L C s' m H' J q hn f => ?_) fun _ s' hq => wpAny_pure (wpAny_pure hq))
  show wpAny _ _ (assign (.Name y py) X.env (.ref L)) _ _ _
  refine wpAny_assign_Name (store_ok2 (v := V.ref L) J hN hy (.inl hyl) rfl (fun s2 J2 ⟨a, sb, ha⟩ => ?_) (.inr hyl))
  obtain ⟨f0, f1, f2, f3, f4, f5⟩ := f
  have haC : C ≠ a := ha.elim (fun z => by rw [z]; exact f1) fun z e => f4 y a z e.symm
  exact ⟨m, hn.sameBut sb haC, fun h3 sb3 => ⟨_, H', J2.turned (t' := s2.toks) (fun b o hb e => (sb3.2 b hb).trans e) f0 f1 f3 f4 f5, q⟩⟩
end
end L2

namespace L2.DL
open L2 PyProof.Rows PySem.Spec PySem
/-! ### name = [..] whose step may raise -/
def compX (vs is : List Nat) (h : T) (c : M Bool) (f : M Val) : List Val → List Val → M (List Val)
  | [], acc, ρ => .ok acc ρ
  | w :: ws, acc, ρ => match h w with
    | none => .bad
    | some rs => if noOwns rs = true then (nE (c (setS ρ is rs))).bind fun b ρ2 => if b = true then (match f ρ2 with
        | .ok y ρ3 => if acc.length < sizeLine then compX vs is h c f ws (acc ++ [y]) (wipeS ρ3 vs) else .bad
        | .err x p ρ3 => .err x p (wipeS (wipeS ρ3 vs) vs)
        | .bad => .bad)
      else compX vs is h c f ws acc (wipeS ρ2 vs) else .bad
def mCompX (vs is : List Nat) (src : M WW) (h : T) (c : M Bool) (f : M Val) : M Val := fun ρ => (src ρ).bind fun ww ρ1 => (compX vs is h c f ww.2 [] (wipeS ρ1 vs)).bind fun rs ρ2 => .ok (.lst true rs) (wipeS ρ2 vs)
theorem mCompX_ap {vs is : List Nat} {src : M WW} {h : T} {c : M Bool} {f : M Val} {ρ : Slots} : mCompX vs is src h c f ρ = (src ρ).bind fun ww ρ1 => (compX vs is h c f ww.2 [] (wipeS ρ1 vs)).bind fun rs ρ2 => .ok (.lst true rs) (wipeS ρ2 vs) := rfl
section
variable {X : Cx} {k : Nat} {W : WX} {tg elt iter : Expr} {ifs : List Expr} {scope : Scope} {own : List (Str × Nat)} {pos : Pos}
theorem mLcX_of {src : M WW} {is : List Nat} {h : T} {c : M Bool} {f : M Val} (his : ∀ i ∈ is, i ∈ own.map (·.2)) (hki : ∀ i ∈ own.map (·.2), k ≤ i) {σ : St} {H : Hp} {Q : VK} : tV X.mg k W (mCompX (own.map (·.2)) is src h c f) σ H Q → tLc (tI X.mg k W src) (tG is h) (tVT X.mg k W0 c) (tV X.mg k (fun cl d _ H => W cl d σ H) f) (own.map (·.2)) σ H Q := fun ⟨B, F, ρ, τ, θ, s, hk, p⟩ => by
  refine ⟨B, F, ρ, τ, θ, s, hk, (Post.bind p).imp fun ww ρ1 p1 u F1 H1 J s1 src => ?_⟩
  intro D nD
  have hkv : ∀ i ∈ own.map (·.2), B.S0.length ≤ i := fun i hi => by rw [hk]; exact hki i hi
  have hki' : ∀ i ∈ is, B.S0.length ≤ i := fun i hi => hkv i (his i hi)
  let fin : R (List Val) → Prop := fun x => Post X.mg W B σ τ θ (x.bind fun rs ρ2 => .ok (.lst true rs) (wipeS ρ2 (own.map (·.2)))) fun w ρ' => ∀ u F' H', SR B F' H' σ ρ' (some u :: τ) (some w :: θ) → Q u H'
  have s0 : SR (B.at F1) F1 (L2.upd H1 D (.lst [])) (wipe σ (own.map (·.2))) (wipeS ρ1 (own.map (·.2))) (some (.ref D) :: some u :: τ) (some (.lst true []) :: some ww.1 :: θ) := by
    have := (SR.gather (us := []) (ws := []) rfl (s1.rebase.wipe hkv) nD).2
    exact this
  refine ⟨fun i m H => i + m = ww.2.length ∧ ∃ F ρ acc, SR (B.at F1) F H (wipe σ (own.map (·.2))) ρ (some (.ref D) :: some u :: τ) (some (.lst true acc) :: some ww.1 :: θ) ∧ fin (compX (own.map (·.2)) is h c f (ww.2.drop i) acc ρ), ⟨ww.2.length, by omega, F1, _, [], s0, by simpa using p1⟩, ?_⟩
  rintro i m H2 ⟨him, F2, ρ2, acc, s2, p2⟩
  by_cases hlt : i < ww.2.length
  · right
    have e : ww.2.drop i = ww.2[i] :: ww.2.drop (i + 1) := List.drop_eq_getElem_cons hlt
    rw [e] at p2
    obtain ⟨hgo, hy⟩ := (src _ _ s2.F0le s2.FH s2.pop.top).2 i ww.2[i] (by simp [hlt])
    refine ⟨hgo, fun H => ∃ F ρ acc, SR (B.at F1) F H (wipe σ (own.map (·.2))) ρ (some (.ref D) :: some u :: τ) (some (.lst true acc) :: some ww.1 :: θ) ∧ fin (compX (own.map (·.2)) is h c f (ww.2.drop (i + 1)) acc ρ), fun H' hW => ⟨m - 1, by omega, by omega, hW⟩, fun x H3 yl => ?_⟩
    obtain ⟨F3, x3, pk3⟩ := hy x H3 yl
    unfold compX at p2
    cases q : h ww.2[i] with
    | none => rw [q] at p2; exact p2.elim
    | some rs =>
      rw [q] at p2
      dsimp only at p2
      by_cases n : noOwns rs = true
      case neg => simp only [n] at p2; exact p2.elim
      case pos =>
      simp only [n, if_true] at p2
      refine ⟨F3, _, x3.FH, pk3, rs, q, fun us pus _ => ?_⟩
      refine ⟨(wipe_setV his).trans wipe_wipe, ?_⟩
      have s3 := (s2.ext x3).setAll pus n hki'
      have ewipe : wipe (setV (wipe σ (own.map (·.2))) is us) (own.map (·.2)) = wipe σ (own.map (·.2)) := (wipe_setV his).trans wipe_wipe
      refine ⟨B.at F1, F3, _, _, _, s3, hk, ?_⟩
      cases qc : c (setS ρ2 is rs) with
      | bad => rw [qc] at p2; exact p2.elim
      | err _ _ _ => rw [qc] at p2; exact p2.elim
      | ok b ρ3 =>
        rw [qc] at p2
        simp only [nE_ok, R.bind_ok] at p2
        intro F4 H4 s4
        cases b with
        | false =>
          simp only [Bool.false_eq_true, if_false] at p2
          have s5 := s4.wipe hkv
          rw [ewipe] at s5
          exact iteF ⟨F4, _, acc, s5, p2⟩
        | true =>
          simp only [if_true] at p2
          refine iteT ⟨B.at F1, F4, ρ3, _, _, s4, hk, ?_⟩
          cases qf : f ρ3 with
          | bad => rw [qf] at p2; exact p2.elim
          | err x pl ρ4 =>
            rw [qf] at p2
            intro C d F5 H5 eC s5 xr
            have s6 := s5.pop.pop.wipe hkv
            rw [ewipe] at s6
            exact p2 C d F5 H5 eC (s1.unbase (s6.unwipe hkv)) xr
          | ok y ρ4 =>
            rw [qf] at p2
            dsimp only at p2
            intro v F5 H5 s5
            by_cases hsz : acc.length < sizeLine
            case neg => simp only [hsz, if_false] at p2; exact p2.elim
            case pos =>
            simp only [hsz, if_true] at p2
            obtain ⟨f1, f2, s6⟩ := id s5
            obtain ⟨s7, t7, c7, o7, FH7, F07, keep7, dom7, new7, pin7⟩ := s6
            cases t7 with
            | @live _ _ _ _ gy _ ry t7 =>
            cases t7 with
            | @live _ _ _ _ gd g2 rd t7 =>
            cases rd with
            | @low _ accV _ ga hD ra =>
            refine ⟨accV, hD, by rw [ra.length]; exact hsz, ?_⟩
            have keep : ∀ a, a ≠ D → (L2.upd H5 D (.lst (accV ++ [v]))) a = H5 a := fun a ha => upd_ne ha
            have cD := c7 D
            simp only [List.count_append, List.count_cons_self] at cD
            have nin : ∀ {l : List Addr}, l.count D = 0 → ∀ a ∈ l, a ≠ D := fun {l} z a ha e => by subst e; have := count_of_mem ha; omega
            have oD := o7 D (by simp only [List.count_append, List.count_cons_self]; omega)
            have s8 : SR (B.at F1) F5 (L2.upd H5 D (.lst (accV ++ [v]))) (setV (wipe σ (own.map (·.2))) is us) ρ4 (some (.ref D) :: some u :: τ) (some (.lst true (acc ++ [y])) :: some ww.1 :: θ) := by
              refine ⟨f1, (D :: (ga ++ gy)) ++ g2, s7.mono (.refl _) fun a ha => keep a (nin (by omega) a ha), .live (.low upd_same ?_) (t7.mono (.refl _) fun a ha => keep a (nin (by omega) a ha)), fun a => ?_, fun a ha => ?_, fun a o ho => ?_, F07, fun a o h1 h2 => ?_, fun a ha => ?_, new7, pin7⟩
              · have r1 : Reps F5 (L2.upd H5 D (.lst (accV ++ [v]))) accV acc ga := ra.mono (.refl _) fun a ha => keep a (nin (by omega) a ha)
                have r2 : Rep F5 (L2.upd H5 D (.lst (accV ++ [v]))) v y gy := ry.mono (.refl _) fun a ha => keep a (nin (by omega) a ha)
                have := r1.append (Reps.cons r2 .nil)
                simpa using this
              · have := c7 a
                simp only [List.count_append, List.count_cons] at this ⊢
                omega
              · have := o7 a
                simp only [List.count_append, List.count_cons] at this ha
                exact this (by omega)
              · have : a ≠ D := fun z => by subst z; rw [oD.1] at ho; cases ho
                rw [keep a this]; exact FH7 a o ho
              · have : a ≠ D := fun z => by
                  subst z
                  rcases oD.2 with z | z
                  · exact h2 z
                  · rw [h1] at z; cases z
                rw [keep a this]; exact keep7 a o h1 h2
              · have : a ≠ D := fun z => by subst z; rw [upd_same] at ha; cases ha
                rw [keep a this] at ha; exact dom7 a ha
            have s9 := s8.wipe hkv
            rw [ewipe] at s9
            exact ⟨F5, _, acc ++ [y], s9, p2⟩
  · left
    have e : ww.2.drop i = [] := List.drop_eq_nil_of_le (by omega)
    rw [e] at p2
    exact ⟨(src _ _ s2.F0le s2.FH s2.pop.top).1 i (by omega), p2 _ F2 H2 (s1.unbase ((s2.under1).unwipe hkv))⟩
theorem ds_setLcX (i : Nat) {vs : List Nat} {y : Str} {py spos : Pos} {src : M WW} {is : List Nat} {h : T} {c : M Bool} {f : M Val} (hst : X.stack = X.env :: X.outer) (hfr : X.env.frame = some X.env.locals) (tk : Takes X W) (hc : X.calm = true) (hN : X.N.Nodup) (hi : DI X k W tg iter src) (ok : BlkOk X.N X.env.scope scope own)
    (hg : ∀ (s : Shared) (H : Hp) (C : Addr) (cl : List (Str × Addr)) (fp : List Addr), DG (X.blk s H scope (compEnvC scope cl C X.env) fp) tg is h)
    (ht : ∀ (s : Shared) (H : Hp) (C : Addr) (cl : List (Str × Addr)) (fp : List Addr), PTs (X.blk s H scope (compEnvC scope cl C X.env) fp) ifs (tVT X.mg k W0 c))
    (he : ∀ (s : Shared) (H : Hp) (C : Addr) (cl : List (Str × Addr)) (fp : List Addr) (xe : Value → Shared → Prop) (Wb : WX), BlkPass (X.blkE s H scope (compEnvC scope cl C X.env) fp xe) Wb → DV (X.blkE s H scope (compEnvC scope cl C X.env) fp xe) k Wb elt f)
    (hv : own.map (·.2) = vs := by rfl) (his : ∀ i ∈ is, i ∈ vs := by decide) (hkv : ∀ i ∈ vs, k ≤ i := by decide) (hs : ∀ x, foldedSetIterable iter X.env x = pure x := by intro _; rfl)
    (hy : X.N[i]? = some y := by rfl) (hyl : X.env.scope.names.lookup y = some .local := by rfl) (hki : k ≤ i := by decide)
    (hsw : swapsWith (.ListComp elt [⟨tg, iter, ifs, 0⟩] scope pos) (some (.Name y py)) spos.line X.env = pure true := by rfl) :
    DS X k W (.Assign [.Name y py] (.ListComp elt [⟨tg, iter, ifs, 0⟩] scope pos) spos) (sSet i (mCompX vs is src h c f)) := by
  subst hv
  refine psImp (ps_setLcX (te := fun Wb => tV X.mg k Wb f) tk hst hfr hc hN hy hyl hsw hi ok hg ht he hs) fun D σ H ⟨B, F, ρ, τ, θ, s, hk, p⟩ => ?_
  exact mLcX_of his hkv ⟨B, F, ρ, τ, θ, s, hk, (PostS.ofR p).imp fun w ρ1 p1 u F1 H1 s1 => p1 _ F1 H1 (s1.store (by omega))⟩
end
section
variable {X : Cx} {k j : Nat} {W : WX} {e : Expr} {es : List Expr} {f : Addr} {fd : FuncData} {ps : List Str} {m : List Val → R0} {x : Str} {p pos : Pos}
/-- a call in such a step -/
theorem dv_callPb {fs : P (List Val)} (G : FnOk X.prog X.w X.K X.mg X.base (L2.CX X.prog X.w) j f fd ps (spP X.mg ps.length m)) (hr : Room j X.A) (bp : BlkPass X W) (hg : Gl X x) (hm : X.mg x = some (.ref f)) (hk : PySem.W.keepIn X.K (.ref f) = true) (hb : Binds X.K fd ps [])
    (hl : ∀ ρ ws, fs ρ = some ws → ws.length = ps.length) (ha : DPs X (e :: es) fs) (hdb : (x == ("__debug__" : Str)) = false := by decide) (he : starEach (e :: es) X.env = (false, eval e X.env) :: starEach es X.env := by rfl) (hpl : (backTo pos (starEach es X.env)).any (·.1) = false := by rfl) :
    DV X k W (.Call (.Name x p) (e :: es) [] pos) (mCallP m fs) := peImp (pe_callS (E := WE W) G hr hg hm hk hb bp ha hdb he hpl) fun σ H Q ⟨B, F, ρ, τ, θ, s, hk, p⟩ => by
  unfold mCallP at p
  cases qf : fs ρ with
  | none => rw [qf] at p; exact p.elim
  | some ws =>
    rw [qf] at p
    dsimp only at p
    obtain ⟨fp, hF, rl⟩ := s.view
    refine ⟨F, ρ, fp, hF, rl, ws, qf, fun us F1 H1 x1 ⟨g, ra⟩ => ?_⟩
    have s1 := s.ext x1
    split at p
    case isFalse => exact p.elim
    case isTrue no =>
    refine ⟨join F1 H1 g, frzs ws, by rw [frzs_length]; exact hl _ _ qf, join_H s1.FH, ra.frz (join_le s1.FH) no fun a ha => join_mem ha, ?_⟩
    cases q : m (frzs ws) with
    | ok w' =>
      rw [q] at p
      (try dsimp only at p); (try dsimp only)
      split at p
      case isFalse => exact p.elim
      case isTrue hc =>
      intro u F' H' x2 n
      obtain ⟨F'', x3, k1, _⟩ := lend s1.FH ra x2 (.inr trivial)
      exact p u F'' H' (s1.push x3 (k1 (by simpa using hc) n))
    | err c pl =>
      rw [q] at p
      (try dsimp only at p); (try dsimp only)
      split at p
      case isFalse => exact p.elim
      case isTrue hc =>
      intro C d F' H' eC x2 xr
      obtain ⟨F'', x3, _, k2⟩ := lend s1.FH ra x2 (.inr trivial)
      refine p C d F'' H' eC (s1.ext x3) ?_
      cases pl with
      | none => trivial
      | some z =>
        obtain ⟨dd, v, e1, e2, e3⟩ := xr
        exact ⟨dd, v, e1, e2, k2 (by simpa [plSh] using hc) e3⟩
    | bad => rw [q] at p; exact p.elim
end
end L2.DL

namespace L2
open PySem PySem.Spec PyProof.Rows Builtin Builtin.Str
/-! ### text.replace(old, new, 1), a token given out before -/
def rep1 (x y z : Str) : Str := if ((occurrences x y 0 x.length 1).isEmpty || (y.length == 0 && z.length == 0)) = true then x else glued z (partsBetween x (occurrences x y 0 x.length 1) y.length)
theorem gives_rep1 (x y z : Str) (t u v q : Tok) (h0 : (u == 0 || v == 0) = false) (huv : (u == v) = false) (hyz : (y == z) = false) (hl : tooLong (x.length + (occurrences x y 0 x.length 1).length * z.length) = false) :
    Gives («str.replace» ⟨[.str x t, .str y u, .str z v, .int 1 q], []⟩) (if ((occurrences x y 0 x.length 1).isEmpty || (y.length == 0 && z.length == 0)) = true then .val (.str x t) else .str (glued z (partsBetween x (occurrences x y 0 x.length 1) y.length))) := by
  show Gives (if ((occurrences x y 0 x.length 1).isEmpty || (y.length == 0 && z.length == 0)) = true then (do rule "str.replace.nothing"; ret (.str x t)) else
          (do let same ← isSame (.str y u) (.str z v)
              if same = true then (do rule "str.replace.old-is-new"; ret (.str x t)) else
              if tooLong (x.length + (occurrences x y 0 x.length 1).length * z.length) = true then unsupported "str.replace:memory" else
              retStr (glued z (partsBetween x (occurrences x y 0 x.length 1) y.length)))) _
  cases hc : ((occurrences x y 0 x.length 1).isEmpty || (y.length == 0 && z.length == 0))
  · rw [isSame_str_other y z u v h0 huv hyz, hl]
    exact .of_eq rfl
  · exact .rule (.of_eq rfl)
theorem call_rep1 {prog : Program} {w : World} {A : Around} {E : Value → Shared → Prop} {s : Shared} {x y z : Str} {t u v q : Tok} {Q : Value → Shared → Prop} (hu : u ≠ 0) (hv : v ≠ 0) (huv : u ≠ v) (hyz : (y == z) = false) (hb : x.length + (x.length + 1) * z.length ≤ 16777216) (hr : (rep1 x y z).length ≤ 16777216)
    (hq : ∀ t' k, Q (.str (rep1 x y z) t') { s with toks := k }) : wpAny (model prog w) A (call (.builtin "str.replace") [.str x t, .str y u, .str z v, .int 1 q]) Q E s := by
  have hl : tooLong (x.length + (occurrences x y 0 x.length 1).length * z.length) = false := by
    have h1 := StrLaws.occ_length_le x y 0 x.length 1
    have h2 : (occurrences x y 0 x.length 1).length * z.length ≤ (x.length + 1) * z.length := Nat.mul_le_mul_right _ (by omega)
    unfold tooLong sizeLine
    exact decide_eq_false (by omega)
  refine call_gives F.slot_str_replace (typeIs_str _ _ _) F.entry_str_replace (F.args_str_replace_4 _ _ _ _) (gives_rep1 x y z t u v q (by simp [hu, hv]) (by simp [huv]) hyz hl) ?_
  have hq' := hq
  unfold rep1 at hq' hr
  cases hc : ((occurrences x y 0 x.length 1).isEmpty || (y.length == 0 && z.length == 0))
  · rw [hc] at hq' hr
    simp only [Bool.false_eq_true, if_false] at hq' hr ⊢
    exact ⟨by rw [sizeLine_eq]; exact hr, hq' _ _⟩
  · rw [hc] at hq'
    simp only [if_true] at hq' ⊢
    exact hq' t s.toks
section
variable {X : Cx}
def tRep1 (to : TE) (y z : Str) : TE := fun σ H Q => to σ H fun x H1 => ∃ a, x = .str a ∧ a.length + (a.length + 1) * z.length ≤ 16777216 ∧ (rep1 a y z).length ≤ 16777216 ∧ Q (.str (rep1 a y z)) H1
theorem pet_rep1 {o : Expr} {to : TE} {y z : Str} {j0 j1 j2 : Nat} {apos pos c0 c1 c2 : Pos} (ho : PE X o to) (hyz : (y == z) = false)
    (hst : starEach [.Constant (.str y) j0 c0, .Constant (.str z) j1 c1, .Constant (.int 1) j2 c2] X.env = [(false, eval (.Constant (.str y) j0 c0) X.env), (false, eval (.Constant (.str z) j1 c1) X.env), (false, eval (.Constant (.int 1) j2 c2) X.env)] := by rfl)
    (hbase : attributeBase o "replace" X.env (eval o X.env) = eval o X.env := by rfl) (hline : (apos.endLine == pos.line) = true := by rfl) :
    PET X (.Call (.Attribute o "replace" apos) [.Constant (.str y) j0 c0, .Constant (.str z) j1 c1, .Constant (.int 1) j2 c2] [] pos) (tRep1 to y z) := by
  intro pins s σ H Q h0 I h
  refine PySem.wpAny_Call_method_lateS hbase (by rw [hst]; rfl) hline ?_
  rw [hst]
  refine (wpAny_mono (PySem.wpAny_toks (ho.run pins s σ H _ I h)) (fun v s1 q => ?_) fun _ _ z => z.2)
  obtain ⟨hk, x, H1, I1, r1, a, e, hb, hr, q⟩ := q
  subst e
  obtain ⟨tx, e⟩ := r1
  subst e
  refine ⟨"str", _, F.plainAttrs_str, F.slot_str_replace, F.type_str_replace, typeIs_str _ _ _, (fun _ e => nomatch e), Calls.callWith_builtin rfl (Calls.evalArgs_plain ?_)⟩
  refine Calls.spliced_cons (Calls.Constant_str (k := j0) (pos := c0) ?_)
  refine Calls.spliced_cons (Calls.Constant_str (k := j1) (pos := c1) ?_)
  refine Calls.spliced_cons (wpAny_Constant_int (k := j2) (pos := c2) (Calls.spliced_nil ?_))
  have n1 : s1.toks ≠ 0 := by omega
  have n2 : s1.toks + 1 ≠ 0 := by omega
  have n3 : s1.toks ≠ s1.toks + 1 := by omega
  exact call_rep1 n1 n2 n3 hyz hb hr fun t' k => ⟨.str (rep1 a y z), H1, I1.tok k, ⟨t', rfl⟩, q⟩
theorem pst_asg {tg e : Expr} {te : TE} {g : TG} {pos : Pos} (he : PET X e te) (hg : PG X tg g) (hs : swapsWithSole [tg] e pos.line X.env = pure false) (hw : swappedStores [tg] e X.env = pure none)
    (h1 : (assignEach [tg] X.env).map (·.2) = [assign tg X.env]) : PST X (.Assign [tg] e pos) (tAsg te g) := by
  intro pins s σ H D h0 I h
  refine wpAny_Assign_stores (thn (he pins s σ H _ h0 I h) fun v s1 ⟨x, H1, I1, r1, q1⟩ => ?_) hs hw
  rw [h1]
  exact thn (hg.run pins s1 σ H1 x v _ I1 r1 q1) fun _ s2 q => q
/-- if a op i: .. with a written whole number: behind the test a token is out -/
theorem ps_ifTok {op : CmpOp} {r : R2} {a : Expr} {ta : TE} {i : Int} {j : Nat} {st : Stmt} {t : TS} {pos cpos p0 : Pos} (ho : OpR X (compareOp op) r) (ha : PE X a ta) (hb : PST X st t) (hm : behindInMarks op (.Constant (.int i) j p0) = false) :
    PS X (.If (.Compare a [op] [.Constant (.int i) j p0] cpos) [st] [] pos) (tIfS (tTest (tOp r ta (tC (.int i)))) (tSeq t tNext) tNext) := by
  refine ⟨fun pins s σ H D I h => ?_⟩
  refine wpAny_If (wpAny_mono (Q := fun b s1 => 1 ≤ s1.toks ∧ TP X pins σ (fun c H1 => if c = true then tSeq t tNext D σ H1 else tNext D σ H1) b s1) ?_ (fun d s1 ⟨hk, H1, I1, q1⟩ => ?_) fun _ _ z => z)
  · refine wpAny_isTrue_Compare1 (thn (ha.run pins s σ H _ I h) fun v s1 ⟨x, H1, I1, r1, q1⟩ => wpAny_Constant_int ?_) hm
    refine wpAny_mono (PySem.wpAny_toks (ho pins _ σ H1 x (.int i) v _ _ (I1.tok _) r1 ⟨_, rfl⟩ q1)) (fun c s3 z => ?_) fun _ _ z => z.2
    obtain ⟨hk, w, H3, I3, r3, b, e, q3⟩ := z
    subst e
    cases r3
    refine wpAny_truthy_bool ⟨?_, H3, I3, q3⟩
    have hk : s1.toks + 1 ≤ s3.toks := hk
    omega
  · cases d with
    | true => exact psst_cons hb (.of pss_nil) pins s1 σ H1 D hk I1 q1
    | false => exact pss_nil.run pins s1 σ H1 D I1 q1
end
end L2

namespace L2.DL
open L2 PyProof.Rows PySem.Spec PySem
/-! ### if w == n: words[at] = words[at].replace(y, z, 1) -/
def repL (y z : Str) (il ia : Nat) : G := fun ρ => match (ρ[il]?).join, (ρ[ia]?).join with
  | some (.lst true xs), some (.int j) => (match ixN xs.length j, atI xs j with
    | some k, some (.str a) => if a.length + (a.length + 1) * z.length ≤ 16777216 ∧ (rep1 a y z).length ≤ 16777216 then .nx (ρ.set il (some (.lst true (xs.set k (.str (rep1 a y z)))))) else .bad
    | _, _ => .bad)
  | _, _ => .bad
def sIfRep (iw : Nat) (n : Int) (y z : Str) (il ia : Nat) : G := fun ρ => match (ρ[iw]?).join with
  | some (.int i) => if i = n then repL y z il ia ρ else .nx ρ
  | _ => .bad
theorem sIfRep_ap {iw : Nat} {n : Int} {y z : Str} {il ia : Nat} {ρ : Slots} : sIfRep iw n y z il ia ρ = (match (ρ[iw]?).join with
  | some (.int i) => if i = n then repL y z il ia ρ else .nx ρ
  | _ => .bad) := rfl
section
variable {X : Cx} {k : Nat} {W : WX} {xw xl xa : Str}
theorem ds_ifRep (iw il ia : Nat) {n : Int} {y z : Str} {j j0 j1 j2 : Nat} {pw p0 cpos px pa spos px2 pa2 spos2 apos c0 c1 c2 rpos asg pos : Pos} (hu : X.A.units + 1 < cLine) (hu2 : X.A.units + 64 < cLine) (hyz : (y == z) = false)
    (hNw : X.N[iw]? = some xw := by rfl) (hvw : Vis X.env.scope xw := by first | exact Or.inl rfl | exact Or.inr (Or.inl rfl) | exact Or.inr (Or.inr rfl)) (hdw : (xw == ("__debug__" : Str)) = false := by decide) (hcw : (xw == ("__classdict__" : Str)) = false := by decide)
    (hNl : X.N[il]? = some xl := by rfl) (hvl : Vis X.env.scope xl := by first | exact Or.inl rfl | exact Or.inr (Or.inl rfl) | exact Or.inr (Or.inr rfl)) (hdl : (xl == ("__debug__" : Str)) = false := by decide) (hcl : (xl == ("__classdict__" : Str)) = false := by decide)
    (hNa : X.N[ia]? = some xa := by rfl) (hva : Vis X.env.scope xa := by first | exact Or.inl rfl | exact Or.inr (Or.inl rfl) | exact Or.inr (Or.inr rfl)) (hda : (xa == ("__debug__" : Str)) = false := by decide) (hca : (xa == ("__classdict__" : Str)) = false := by decide)
    (hm : behindInMarks .Eq (.Constant (.int n) j p0) = false := by rfl)
    (hst : starEach [.Constant (.str y) j0 c0, .Constant (.str z) j1 c1, .Constant (.int 1) j2 c2] X.env = [(false, eval (.Constant (.str y) j0 c0) X.env), (false, eval (.Constant (.str z) j1 c1) X.env), (false, eval (.Constant (.int 1) j2 c2) X.env)] := by rfl)
    (hbase : attributeBase (.Subscript (.Name xl px2) (.Name xa pa2) spos2) "replace" X.env (eval (.Subscript (.Name xl px2) (.Name xa pa2) spos2) X.env) = eval (.Subscript (.Name xl px2) (.Name xa pa2) spos2) X.env := by rfl) (hline : (apos.endLine == rpos.line) = true := by rfl)
    (hs1 : swapsWithSole [.Subscript (.Name xl px) (.Name xa pa) spos] (.Call (.Attribute (.Subscript (.Name xl px2) (.Name xa pa2) spos2) "replace" apos) [.Constant (.str y) j0 c0, .Constant (.str z) j1 c1, .Constant (.int 1) j2 c2] [] rpos) asg.line X.env = pure false := by rfl)
    (hw : swappedStores [.Subscript (.Name xl px) (.Name xa pa) spos] (.Call (.Attribute (.Subscript (.Name xl px2) (.Name xa pa2) spos2) "replace" apos) [.Constant (.str y) j0 c0, .Constant (.str z) j1 c1, .Constant (.int 1) j2 c2] [] rpos) X.env = pure none := by rfl)
    (h1 : (assignEach [.Subscript (.Name xl px) (.Name xa pa) spos] X.env).map (·.2) = [assign (.Subscript (.Name xl px) (.Name xa pa) spos) X.env] := by rfl)
    (ha : ∀ v, assign (.Subscript (.Name xl px) (.Name xa pa) spos) X.env v = (do
      let ov ← holding [v] (eval (.Name xl px) X.env)
      let iv ← holding [v, ov] (eval (.Name xa pa) X.env)
      standAt spos
      holding [v, ov, iv] (setItem ov iv v)
      release [v, ov, iv] []) := by intro _; rfl)
    (hp1 : PlainIx (.Name xa pa2) := by exact fun _ _ => rfl) (hp2 : NoSl (.Name xa pa2) := by exact fun _ _ => rfl) :
    DS X k W (.If (.Compare (.Name xw pw) [.Eq] [.Constant (.int n) j p0] cpos) [.Assign [.Subscript (.Name xl px) (.Name xa pa) spos] (.Call (.Attribute (.Subscript (.Name xl px2) (.Name xa pa2) spos2) "replace" apos) [.Constant (.str y) j0 c0, .Constant (.str z) j1 c1, .Constant (.int 1) j2 c2] [] rpos) asg] [] pos) (sIfRep iw n y z il ia) := by
  have pvl := pe_var (X := X) (pos := px) hNl hvl hdl hcl
  have pva := pe_var (X := X) (pos := pa) hNa hva hda hca
  have dpx := dp_sub (X := X) (pos := spos2) hu (dp_var (pos := px2) il hNl hvl hdl hcl) (dp_var (pos := pa2) ia hNa hva hda hca) hp1 hp2
  refine psImp (ps_ifTok (op_eqD hu2) (pe_var (X := X) (pos := pw) hNw hvw hdw hcw) (pst_asg (pet_rep1 dpx hyz hst hbase hline) (pg_sub pvl pva set_list ha) hs1 hw h1) hm) fun D σ H ⟨B, F, ρ, τ, θ, s, hk, p⟩ => ?_
  unfold sIfRep at p
  cases qw : (ρ[iw]?).join with
  | none => rw [qw] at p; exact p.elim
  | some w =>
  rw [qw] at p
  cases w with
  | int i =>
    dsimp only at p
    obtain ⟨vw, evw, pkw⟩ := s.get (join_some qw)
    have := pkw.int
    subst this
    obtain ⟨f1, f2, s'⟩ := _root_.id s
    refine ⟨_, evw, ?_⟩
    show rEqD X.K (V.int i) (V.int n) H fun x H' => ∃ b, x = V.bl b ∧ (if b = true then tSeq (tAsg (tRep1 (tP (pOp2 oSubs (pVar il) (pVar ia))) y z) (gSub (tVar il) (tVar ia) rSetL)) tNext D σ H' else tNext D σ H')
    refine vop_eq (K := X.K) F H (.int i) (.int n) (.int i) (.int n) (.bl (i == n)) _ s.FH ⟨[], .int i⟩ ⟨[], .int n⟩ (oEq_int i n) fun u F1 H1 x1 nw => ?_
    obtain ⟨gz, rz, _⟩ := nw
    cases rz
    refine ⟨_, rfl, ?_⟩
    have s1 := s.ext x1
    by_cases e : i = n
    case neg =>
      rw [if_neg e] at p
      rw [beq_eq_false_iff_ne.mpr e]
      exact iteF (p σ F1 H1 s1)
    case pos =>
    rw [if_pos e] at p
    rw [beq_iff_eq.mpr e]
    refine iteT ?_
    show tAsg (tRep1 (tP (pOp2 oSubs (pVar il) (pVar ia))) y z) (gSub (tVar il) (tVar ia) rSetL) { D with nx := tNext D } σ H1
    unfold repL at p
    cases ql : (ρ[il]?).join with
    | none => rw [ql] at p; exact p.elim
    | some wl =>
    rw [ql] at p
    cases qa : (ρ[ia]?).join with
    | none => rw [qa] at p; revert p; cases wl <;> (try rename_i o _; try cases o) <;> exact fun p => p.elim
    | some wa =>
    rw [qa] at p
    cases wl with
    | lst o xs =>
      cases o with
      | false => exact p.elim
      | true =>
      cases wa with
      | int jj =>
        dsimp only at p
        cases qi : ixN xs.length jj with
        | none => rw [qi] at p; exact p.elim
        | some kx =>
        rw [qi] at p
        cases qt : atI xs jj with
        | none => rw [qt] at p; exact p.elim
        | some wt =>
        rw [qt] at p
        cases wt with
        | str a =>
          dsimp only at p
          split at p
          case isFalse => exact p.elim
          case isTrue hsz =>
          obtain ⟨fv, hF, rl⟩ := s1.view
          have ev : pOp2 oSubs (pVar il) (pVar ia) ρ = some (.str a) := by
            unfold pOp2 pVar
            rw [ql, qa]
            exact qt
          refine ⟨F1, ρ, fv, hF, rl, .str a, ev, fun u F2 H2 x2 pk => ?_⟩
          have := pk.str
          subst this
          refine ⟨a, rfl, hsz.1, hsz.2, ?_⟩
          have s2 := (s1.ext x2).push (.refl (s1.ext x2).FH) (Nw.of (Rep.str (rep1 a y z)))
          obtain ⟨vl, evl, _⟩ := s2.get (join_some ql)
          obtain ⟨va, eva, pka⟩ := s2.get (join_some qa)
          have := pka.int
          subst this
          refine ⟨vl, evl, _, eva, ?_⟩
          have s3 := s2.push (.refl s2.FH) (Nw.of (Rep.int jj))
          obtain ⟨ad, vs, ga, gus, ev', hA, rv, rus, km⟩ := SR.openL (us := [.int jj, .str (rep1 a y z)]) (ws := [.int jj, .str (rep1 a y z)]) rfl s3 (join_some ql)
          rw [evl] at ev'; cases ev'
          obtain ⟨g', r', c'⟩ := Reps.setE (Rep.str (rep1 a y z)) kx rv
          refine ⟨ad, vs, jj, kx, rfl, rfl, hA, by rw [rv.length]; exact qi, ?_⟩
          have c0 : gus = [] := rus.nofp rfl
          exact p σ F2 _ (km _ _ g' .non .non [] r' .non fun b => by have := c' b; simp only [List.count_append, List.count_nil] at *; omega).pop
        | _ => exact p.elim
      | _ => exact p.elim
    | _ => revert p; cases wa <;> exact fun p => p.elim
  | _ => exact p.elim
end
end L2.DL

namespace L2.DL
open L2 PyProof.Rows PySem.Spec PySem
/-! ### {"k": v, ..}: a displayed dict of written texts -/
theorem mergeK_nd : ∀ (more kvs : List (Key × V)), (more.map Prod.fst).Nodup → (∀ k ∈ more.map Prod.fst, k ∉ kvs.map Prod.fst) → mergeK kvs more = kvs ++ more
  | [], kvs, _, _ => by simp [mergeK]
  | p :: more, kvs, nd, h => by
    rw [List.map_cons, List.nodup_cons] at nd
    have e : putK kvs p.1 p.2 = kvs ++ [p] := by
      unfold putK
      rw [if_neg]
      intro hc
      obtain ⟨q, hq, e⟩ := List.any_eq_true.mp hc
      exact h p.1 (by simp) (by rw [← of_decide_eq_true e]; exact List.mem_map.mpr ⟨q, hq, rfl⟩)
    show mergeK (putK kvs p.1 p.2) more = _
    rw [e, mergeK_nd more _ nd.2 fun k hk hm => ?_]
    · simp
    · rw [List.map_append, List.mem_append] at hm
      rcases hm with hm | hm
      · exact h k (by simp only [List.map_cons]; exact List.mem_cons_of_mem _ hk) hm
      · have : k = p.1 := by simpa using hm
        rw [this] at hk; exact nd.1 hk
def strK (ks : List Str) : List Key := ks.map .inr
def tDs (ks : List Str) (f : P (List Val)) (σ : St) (H : Hp) (Q : List (V × V) → Hp → Prop) : Prop := ∃ F ρ fp, Le F H ∧ RepL F H σ ρ fp ∧ ∃ w, f ρ = some w ∧ ∀ u F' H', Ext F H F' H' → PkS F' H' u w → Q ((ks.zip u).map fun p => (.str p.1, p.2)) H'
def DPP (X : Cx) (pos : Pos) (keys : List (Option Expr)) (values : List Expr) (ks : List Str) (f : P (List Val)) : Prop := ∃ trs, PPs X pos keys values trs ∧ ∀ σ H Q, tDs ks f σ H Q → tPairs trs σ H Q
section
variable {X : Cx} {pos : Pos} {keys : List (Option Expr)} {values : List Expr} {ks : List Str} {fs : P (List Val)} {v : Expr} {f : P Val} {k : Str}
theorem dpp_nil : DPP X pos [] [] [] psNil := ⟨[], pps_nil, fun σ H Q ⟨F, ρ, fp, hF, r, w, e, q⟩ => by
  cases e
  exact q [] F H (.refl hF) ⟨[], .nil⟩⟩
theorem dpp_cons {j : Nat} {p : Pos} (hv : DP X v f) (h : DPP X pos keys values ks fs) : DPP X pos (some (.Constant (.str k) j p) :: keys) (v :: values) (k :: ks) (psCons f fs) := by
  obtain ⟨trs, hp, hk⟩ := h
  refine ⟨_, pps_cons pe_str hv hp, fun σ H Q ⟨F, ρ, fp, hF, r, w, e, q⟩ => ?_⟩
  obtain ⟨x, xs, e1, e2, rfl⟩ := psCons_some e
  show tP f σ H _
  refine ⟨F, ρ, fp, hF, r, x, e1, fun u F1 H1 x1 p1 => hk σ H1 _ ⟨F1, ρ, fp, x1.FH, r.ext x1, xs, e2, fun us F2 H2 x2 p2 => ?_⟩⟩
  obtain ⟨g1, r1⟩ := p1.ext x2
  obtain ⟨g2, r2⟩ := p2
  exact q (u :: us) F2 H2 (x1.trans x2) ⟨_, .cons r1 r2⟩
def pDsp (ks : List Str) (fs : P (List Val)) : P Val := fun ρ => (fs ρ).bind fun ws => if noOwns ws = true ∧ ws.length = ks.length then some (.dK true (strK ks) ws) else none
theorem pDsp_ap {ρ : Slots} : pDsp ks fs ρ = (fs ρ).bind fun ws => if noOwns ws = true ∧ ws.length = ks.length then some (.dK true (strK ks) ws) else none := rfl
theorem df_disp (h : DPP X pos keys values ks fs) (hall : keys.all (·.isSome) = true := by rfl) (hl : keys.length = values.length := by rfl) (h0 : keys ≠ [] := by exact fun z => by cases z) (h15 : keys.length ≤ 15 := by decide) (nd : ks.Nodup := by decide +kernel) (h16 : ks.length ≤ 15 := by decide) :
    DF X (.Dict keys values pos) (pDsp ks fs) := by
  obtain ⟨trs, hp, hk⟩ := h
  refine peImp (pe_disp hp hall hl h0 h15) fun σ H Q ⟨F, ρ, fp, hF, rr, w, ew, kk⟩ => ?_
  unfold pDsp at ew
  simp only [Option.bind_eq_some_iff] at ew
  obtain ⟨ws, e1, e2⟩ := ew
  split at e2
  case isFalse => cases e2
  case isTrue hn =>
  cases e2
  obtain ⟨no, lw⟩ := hn
  intro p np
  have x1 := (Ext.laid (o := .dK []) hF np).1
  have nF : F p = none := by
    cases q : F p with
    | none => rfl
    | some z => rw [hF p z q] at np; cases np
  refine hk σ _ _ ⟨F, ρ, fp, x1.FH, rr.ext x1, ws, e1, fun us F2 H2 x2 pk => ?_⟩
  have hp2 : H2 p = some (.dK []) := x2.leH _ _ upd_same
  obtain ⟨g, ru⟩ := pk
  have := ru.nofp no
  subst this
  have lu : us.length = ws.length := ru.length
  have nF2 : F2 p = none := by
    cases q : F2 p with
    | none => rfl
    | some z =>
      rcases x2.new p (by rw [q]; simp) with y | y | ⟨ys, y⟩
      · exact absurd nF y
      · rw [upd_same] at y; cases y
      · have := x2.FH p _ y
        rw [hp2] at this; cases this
  refine ⟨hp2, (strK ks).zip us, ?_, by rw [List.length_zip]; unfold strK; rw [List.length_map]; omega, ?_⟩
  · unfold strK
    rw [List.zip_map_left, List.map_map]
    exact List.map_congr_left fun q _ => rfl
  have nds : (((strK ks).zip us).map Prod.fst).Nodup := by
    rw [List.map_fst_zip (by unfold strK; rw [List.length_map]; omega)]
    unfold strK
    exact List.Pairwise.map _ (fun a b hab e => hab (by injection e)) nd
  rw [mergeK_nd _ [] nds fun k _ hm => (by cases hm), List.nil_append]
  have keep : ∀ a, a ≠ p → (L2.upd H2 p (.dK ((strK ks).zip us))) a = H2 a := fun a ha => upd_ne ha
  have x3 := x1.trans x2
  refine kk _ F2 _ ⟨fun a o ho => ?_, x3.leF, fun a o ho => ?_, x3.new⟩ ⟨[p], .kow (ks := strK ks) (xs := us) upd_same (by unfold strK; rw [List.length_map]; omega) (ru.mono (.refl _) fun a ha => by cases ha), fun a => ?_, fun a ha => ?_⟩
  · have : a ≠ p := fun z => by subst z; rw [np] at ho; cases ho
    rw [keep a this]; exact x3.leH a o ho
  · have : a ≠ p := fun z => by subst z; rw [nF2] at ho; cases ho
    rw [keep a this]; exact x3.FH a o ho
  · rw [List.count_cons, List.count_nil]; split <;> omega
  · have : a = p := by simpa using ha
    subst this
    exact ⟨np, nF2⟩
end
end L2.DL

namespace L2.ZS
open PySem
open PySem.Sem (wp)
/-! ### zip(text, list): the text's signs and the list's things -/
abbrev AscIt (h : Heap) (it : Addr) (x : Str) (t : Tok) (i : Nat) : Prop := h.IsStrIter it "str_ascii_iterator" x t i
theorem AscIt.mv {h h' : Heap} {it : Addr} {x : Str} {t : Tok} {i : Nat} (a : AscIt h it x t i) (k : ∀ o, h.get? it = some o → h'.get? it = some o) : AscIt h' it x t i := let ⟨o, e, r⟩ := a; ⟨o, k o e, r⟩
section
variable {prog : Program} {w : World} {A : Around} {E : Value → Shared → Prop} {s : Shared} {z TI TO i1 i2 l : Addr} {x : Str} {t : Tok} {k1 k2 c : Nat} {ys : Array Value} {y a b : Value}
theorem next_item {Q : Value → Shared → Prop} (D : ZipApart z TI TO i1 i2 l l)
    (hz : IsZip s.heap z TI TO .none) (hTI : IsPair s.heap TI (.ref i1) (.ref i2)) (hTO : IsPair s.heap TO a b) (h1 : AscIt s.heap i1 x t k1) (h2 : s.heap.IsListIter i2 l k2) (hl : s.heap.IsList l ys) (hx : x.cps[k1]? = some c) (hy : ys[k2]? = some y)
    (hQ : ∀ h', IsZip h' z TI TO (rawInt s.heap.objs.size) → IsPair h' TO (.str ⟨#[c]⟩ s.toks) y → AscIt h' i1 x t (k1 + 1) → h'.IsListIter i2 l (k2 + 1) → IsPair h' s.heap.objs.size (.str ⟨#[c]⟩ s.toks) y → h'.objs.size = s.heap.objs.size + 1 →
      (∀ c o, c ≠ z → c ≠ TO → c ≠ i1 → c ≠ i2 → s.heap.get? c = some o → h'.get? c = some o) → Q (.ref s.heap.objs.size) { s with heap := h', toks := s.toks + 1 }) :
    wpAny (model prog w) A (Builtin.«zip.__next__» ⟨[.ref z], []⟩) (fun fin s' => ∃ v, fin = .done (.ret v) ∧ Q v s') E s := by
  show wpAny _ _ (field (.ref z) 2 >>= _) _ _ _
  refine wpAny_bind (wpAny_field hz rfl (x := .bool false) rfl ?_)
  show wpAny _ _ (field (.ref z) 3 >>= _) _ _ _
  refine wpAny_bind (wpAny_field hz rfl (x := .ref TI) rfl ?_)
  refine wpAny_bind (wpAny_seqItems hTI rfl ?_)
  show wpAny _ _ (Builtin.SmallTypes.ownedTupleIsFree (.ref z) >>= _) _ _ _
  refine wpAny_bind ?_
  unfold Builtin.SmallTypes.ownedTupleIsFree
  refine wpAny_bind (wpAny_field hz rfl (x := .none) rfl (wpAny_pure ?_))
  simp only [if_true]
  refine wpAny_bind (wpAny_rule ?_)
  refine wpAny_bind (wpAny_field hz rfl (x := .ref TO) rfl ?_)
  refine wpAny_bind (wpAny_setField_rec hz (by simp) fun g1 hz₁ hs₁ => ?_)
  replace hz₁ : IsZip g1 z TI TO .ellipsis := hz₁
  refine wpAny_bind ?_
  simp only [List.zipIdx_cons, List.zipIdx_nil, List.forIn_cons, List.forIn_nil]
  refine wpAny_bind (wpAny_bind (wpAny_onRaise ?_))
  show wpAny _ _ (Builtin.SmallTypes.nextOf (.ref i1) >>= _) _ _ _
  refine wpAny_bind (wpAny_nextOf_ascii_item (h1.mv fun o e => hs₁.extBut _ _ D.i1z e) hx fun g2 h1₂ hs₂ => wpAny_pure ?_)
  have hTO₂ : IsPair g2 TO a b := hs₂.extBut _ _ D.TOi1 (hs₁.extBut _ _ D.TOz hTO)
  refine wpAny_bind (wpAny_seqItems hTO₂ rfl ?_)
  refine wpAny_bind (wpAny_updateSeq_pair hTO₂ fun g3 hTO₃ hs₃ => ?_)
  replace hTO₃ : IsPair g3 TO (.str ⟨#[c]⟩ s.toks) b := hTO₃
  refine wpAny_bind (wpAny_letGo (wpAny_pure ?_))
  refine wpAny_bind (wpAny_bind (wpAny_onRaise ?_))
  show wpAny _ _ (Builtin.SmallTypes.nextOf (.ref i2) >>= _) _ _ _
  refine wpAny_bind (wpAny_nextOf_list_item (((h2.extBut hs₁.extBut D.i2z).extBut hs₂.extBut D.i12.symm).extBut hs₃.extBut D.TOi2.symm)
    (((hl.extBut hs₁.extBut D.l2z).extBut hs₂.extBut D.l2i1).extBut hs₃.extBut D.l2TO) hy fun g4 h2₄ hs₄ => wpAny_pure ?_)
  have hTO₄ : IsPair g4 TO (.str ⟨#[c]⟩ s.toks) b := hs₄.extBut _ _ D.TOi2 hTO₃
  refine wpAny_bind (wpAny_seqItems hTO₄ rfl ?_)
  refine wpAny_bind (wpAny_updateSeq_pair hTO₄ fun g5 hTO₅ hs₅ => ?_)
  replace hTO₅ : IsPair g5 TO (.str ⟨#[c]⟩ s.toks) y := hTO₅
  refine wpAny_bind (wpAny_letGo (wpAny_pure (wpAny_pure ?_)))
  refine wpAny_bind (wpAny_seqItems hTO₅ rfl ?_)
  refine wpAny_bind (wpAny_newTuple ?_)
  have hsz : g5.objs.size = s.heap.objs.size := by rw [hs₅.1, hs₄.1, hs₃.1, hs₂.1, hs₁.1]
  have hz₅ : IsZip g5 z TI TO .ellipsis := hs₅.extBut _ _ D.TOz.symm (hs₄.extBut _ _ D.i2z.symm (hs₃.extBut _ _ D.TOz.symm (hs₂.extBut _ _ D.i1z.symm hz₁)))
  have hk₅ : ∀ c o, c ≠ z → c ≠ TO → c ≠ i1 → c ≠ i2 → s.heap.get? c = some o → g5.get? c = some o := fun c o c1 c2 c3 c4 e =>
    hs₅.extBut _ _ c2 (hs₄.extBut _ _ c4 (hs₃.extBut _ _ c2 (hs₂.extBut _ _ c3 (hs₁.extBut _ _ c1 e))))
  have h1₅ : AscIt g5 i1 x t (k1 + 1) := AscIt.mv h1₂ fun o e => hs₅.extBut _ _ D.TOi1.symm (hs₄.extBut _ _ D.i12 (hs₃.extBut _ _ D.TOi1.symm e))
  have h2₅ : g5.IsListIter i2 l (k2 + 1) := h2₄.extBut hs₅.extBut D.TOi2.symm
  have hzlt : z < g5.objs.size := Heap.lt_size hz₅
  show wpAny _ _ (Builtin.SmallTypes.ownedTupleHandOut (.ref z) (.ref g5.objs.size) >>= _) _ _ _
  refine wpAny_bind ?_
  unfold Builtin.SmallTypes.ownedTupleHandOut
  have hz₆ : IsZip (g5.push { cls := .type "tuple", data := .seq #[.str ⟨#[c]⟩ s.toks, y] }) z TI TO .ellipsis := Heap.get?_push_of_some _ hz₅
  refine wpAny_bind (wpAny_setField_rec hz₆ (by simp) fun g7 hz₇ hs₇ => ?_)
  replace hz₇ : IsZip g7 z TI TO (rawInt g5.objs.size) := hz₇
  refine wpAny_setField_rec hz₇ (by simp) fun g8 hz₈ hs₈ => ?_
  replace hz₈ : IsZip g8 z TI TO (rawInt g5.objs.size) := hz₈
  have up : ∀ c o, c ≠ z → g5.get? c = some o → g8.get? c = some o := fun c o c1 e => hs₈.extBut _ _ c1 (hs₇.extBut _ _ c1 (Heap.get?_push_of_some _ e))
  have hT₈ : IsPair g8 g5.objs.size (.str ⟨#[c]⟩ s.toks) y := hs₈.extBut _ _ (Nat.ne_of_gt hzlt) (hs₇.extBut _ _ (Nat.ne_of_gt hzlt) (Heap.get?_push_size _ rfl))
  have hz8 : g8.objs.size = g5.objs.size + 1 := by rw [hs₈.1, hs₇.1, Heap.size_push]
  rw [hsz] at hz₈ hT₈ hz8
  refine wpAny_pure ⟨_, rfl, ?_⟩
  show Q (.ref g5.objs.size) _
  rw [hsz]
  exact hQ g8 hz₈ (up _ _ D.TOz hTO₅) (h1₅.mv fun o e => up _ o D.i1z e) (h2₅.at fun o e => up _ o D.i2z e) hT₈ hz8 fun c o c1 c2 c3 c4 e => up c o c1 (hk₅ c o c1 c2 c3 c4 e)
theorem next_end {Q : Fin → Shared → Prop} (hh : A.handled = none) (D : ZipApart z TI TO i1 i2 l l)
    (hz : IsZip s.heap z TI TO .none) (hTI : IsPair s.heap TI (.ref i1) (.ref i2)) (hTO : IsPair s.heap TO a b) (h1 : AscIt s.heap i1 x t k1) (h2 : s.heap.IsListIter i2 l k2) (hl : s.heap.IsList l ys) (hend : x.cps[k1]? = none ∨ ys[k2]? = none)
    (hE : ∀ h' e tk, (∀ c o, c ≠ z → c ≠ TO → c ≠ i1 → c ≠ i2 → s.heap.get? c = some o → h'.get? c = some o) → (∃ o, h'.get? e = some o ∧ o.cls = .type "StopIteration") → E (.ref e) { s with heap := h', toks := tk }) :
    wpAny (model prog w) A (Builtin.«zip.__next__» ⟨[.ref z], []⟩) Q E s := by
  show wpAny _ _ (field (.ref z) 2 >>= _) _ _ _
  refine wpAny_bind (wpAny_field hz rfl (x := .bool false) rfl ?_)
  show wpAny _ _ (field (.ref z) 3 >>= _) _ _ _
  refine wpAny_bind (wpAny_field hz rfl (x := .ref TI) rfl ?_)
  refine wpAny_bind (wpAny_seqItems hTI rfl ?_)
  show wpAny _ _ (Builtin.SmallTypes.ownedTupleIsFree (.ref z) >>= _) _ _ _
  refine wpAny_bind ?_
  unfold Builtin.SmallTypes.ownedTupleIsFree
  refine wpAny_bind (wpAny_field hz rfl (x := .none) rfl (wpAny_pure ?_))
  simp only [if_true]
  refine wpAny_bind (wpAny_rule ?_)
  refine wpAny_bind (wpAny_field hz rfl (x := .ref TO) rfl ?_)
  refine wpAny_bind (wpAny_setField_rec hz (by simp) fun g1 hz₁ hs₁ => ?_)
  replace hz₁ : IsZip g1 z TI TO .ellipsis := hz₁
  refine wpAny_bind ?_
  simp only [List.zipIdx_cons, List.zipIdx_nil, List.forIn_cons, List.forIn_nil]
  refine wpAny_bind (wpAny_bind (wpAny_onRaise ?_))
  show wpAny _ _ (Builtin.SmallTypes.nextOf (.ref i1) >>= _) _ _ _
  cases hx : x.cps[k1]? with
  | none =>
    refine wpAny_bind (wpAny_nextOf_ascii_end hh (h1.mv fun o e => hs₁.extBut _ _ D.i1z e) hx fun g2 e hs₂ he => ?_)
    obtain ⟨oe, hoe, hce⟩ := he
    have hz₂ : IsZip g2 z TI TO .ellipsis := hs₂ _ _ D.i1z.symm hz₁
    have hez : e ≠ z := fun q => by subst q; rw [hz₂] at hoe; cases hoe; simp at hce
    refine wpAny_setField_rec hz₂ (by simp) fun g3 _ hs₃ => hE g3 e _ (fun c o c1 _ c3 _ q => hs₃.extBut _ _ c1 (hs₂ _ _ c3 (hs₁.extBut _ _ c1 q))) ⟨oe, hs₃.extBut _ _ hez hoe, hce⟩
  | some cc =>
    have hy : ys[k2]? = none := by rcases hend with h | h; rw [hx] at h; cases h; exact h
    refine wpAny_bind (wpAny_nextOf_ascii_item (h1.mv fun o e => hs₁.extBut _ _ D.i1z e) hx fun g2 h1₂ hs₂ => wpAny_pure ?_)
    have hTO₂ : IsPair g2 TO a b := hs₂.extBut _ _ D.TOi1 (hs₁.extBut _ _ D.TOz hTO)
    refine wpAny_bind (wpAny_seqItems hTO₂ rfl ?_)
    refine wpAny_bind (wpAny_updateSeq_pair hTO₂ fun g3 hTO₃ hs₃ => ?_)
    refine wpAny_bind (wpAny_letGo (wpAny_pure ?_))
    refine wpAny_bind (wpAny_bind (wpAny_onRaise ?_))
    show wpAny _ _ (Builtin.SmallTypes.nextOf (.ref i2) >>= _) _ _ _
    refine wpAny_bind (wpAny_nextOf_list_end hh (((h2.extBut hs₁.extBut D.i2z).extBut hs₂.extBut D.i12.symm).extBut hs₃.extBut D.TOi2.symm)
      (((hl.extBut hs₁.extBut D.l2z).extBut hs₂.extBut D.l2i1).extBut hs₃.extBut D.l2TO) hy fun g4 e hs₄ he => ?_)
    obtain ⟨oe, hoe, hce⟩ := he
    have hz₄ : IsZip g4 z TI TO .ellipsis := hs₄ _ _ D.i2z.symm (hs₃.extBut _ _ D.TOz.symm (hs₂.extBut _ _ D.i1z.symm hz₁))
    have hez : e ≠ z := fun q => by subst q; rw [hz₄] at hoe; cases hoe; simp at hce
    refine wpAny_setField_rec hz₄ (by simp) fun g5 _ hs₅ => hE g5 e _ (fun c o c1 c2 c3 c4 q => hs₅.extBut _ _ c1 (hs₄ _ _ c4 (hs₃.extBut _ _ c2 (hs₂.extBut _ _ c3 (hs₁.extBut _ _ c1 q))))) ⟨oe, hs₅.extBut _ _ hez hoe, hce⟩
theorem pyNext_item {Q : Option Value → Shared → Prop} (D : ZipApart z TI TO i1 i2 l l)
    (hz : IsZip s.heap z TI TO .none) (hTI : IsPair s.heap TI (.ref i1) (.ref i2)) (hTO : IsPair s.heap TO a b) (h1 : AscIt s.heap i1 x t k1) (h2 : s.heap.IsListIter i2 l k2) (hl : s.heap.IsList l ys) (hx : x.cps[k1]? = some c) (hy : ys[k2]? = some y)
    (hQ : ∀ h', IsZip h' z TI TO (rawInt s.heap.objs.size) → IsPair h' TO (.str ⟨#[c]⟩ s.toks) y → AscIt h' i1 x t (k1 + 1) → h'.IsListIter i2 l (k2 + 1) → IsPair h' s.heap.objs.size (.str ⟨#[c]⟩ s.toks) y → h'.objs.size = s.heap.objs.size + 1 →
      (∀ c o, c ≠ z → c ≠ TO → c ≠ i1 → c ≠ i2 → s.heap.get? c = some o → h'.get? c = some o) → Q (some (.ref s.heap.objs.size)) { s with heap := h', toks := s.toks + 1 }) :
    wpAny (model prog w) A (pyNext (.ref z)) Q E s := by
  have hT : s.TypeIs (.ref z) "zip" := ⟨_, hz, rfl⟩
  unfold pyNext
  exact wpAny_bind (wpAny_attempt (wpAny_callSpecial?_slot (name := Str.ofString "__next__") hT F.slot_zip_next
    (wpAny_call_entry F.slot_zip_next hT F.entry_zip_next
      (next_item D hz hTI hTO h1 h2 hl hx hy fun h' a1 a2 a3 a4 a5 a6 a7 => wpAny_pure (hQ h' a1 a2 a3 a4 a5 a6 a7)) (F.args_zip_next_1 _))))
theorem pyNext_end {Q : Option Value → Shared → Prop} (hh : A.handled = none) (D : ZipApart z TI TO i1 i2 l l)
    (hz : IsZip s.heap z TI TO .none) (hTI : IsPair s.heap TI (.ref i1) (.ref i2)) (hTO : IsPair s.heap TO a b) (h1 : AscIt s.heap i1 x t k1) (h2 : s.heap.IsListIter i2 l k2) (hl : s.heap.IsList l ys) (hend : x.cps[k1]? = none ∨ ys[k2]? = none)
    (hQ : ∀ h' tk, (∀ c o, c ≠ z → c ≠ TO → c ≠ i1 → c ≠ i2 → s.heap.get? c = some o → h'.get? c = some o) → Q none { s with heap := h', toks := tk }) : wpAny (model prog w) A (pyNext (.ref z)) Q E s := by
  have hT : s.TypeIs (.ref z) "zip" := ⟨_, hz, rfl⟩
  unfold pyNext
  refine wpAny_bind (wpAny_attempt (wpAny_callSpecial?_slot (name := Str.ofString "__next__") hT F.slot_zip_next
    (wpAny_call_entry F.slot_zip_next hT F.entry_zip_next (next_end hh D hz hTI hTO h1 h2 hl hend fun h' e tk hk he => ?_) (F.args_zip_next_1 _))))
  obtain ⟨o, ho, hc⟩ := he
  refine wpAny_bind (wpAny_isInstance (T := "StopIteration") (b := true) ⟨o, ho, hc⟩ isSubtype_stop ?_)
  exact wpAny_pure (hQ _ _ hk)
end
abbrev nH1 (h : Heap) (x : Str) (t : Tok) : Heap := h.push { cls := .type "str_ascii_iterator", data := .fields #[.str x t, .int 0 0] }
abbrev nH2 (h : Heap) (x : Str) (t : Tok) (l : Addr) : Heap := (nH1 h x t).push { cls := .type "list_iterator", data := .fields #[.ref l, .int 0 0] }
abbrev nH3 (h : Heap) (x : Str) (t : Tok) (l : Addr) : Heap := (nH2 h x t l).push { cls := .type "tuple", data := .seq #[.ref h.objs.size, .ref (nH1 h x t).objs.size] }
abbrev nH4 (h : Heap) (x : Str) (t : Tok) (l : Addr) : Heap := (nH3 h x t l).push { cls := .type "tuple", data := .seq #[.none, .none] }
abbrev nH5 (h : Heap) (x : Str) (t : Tok) (l : Addr) : Heap := (nH4 h x t l).push { cls := .type "zip", data := .fields #[.none, .bool false, .bool false, .ref (nH2 h x t l).objs.size, .ref (nH3 h x t l).objs.size] }
theorem meets_new (x : Str) (t : Tok) (l : Addr) (ys : Array Value) (ha : x.cps.all (· < 128) = true) :
    Meets (Builtin.«zip.__new__» ⟨[.type "zip", .str x t, .ref l], []⟩) (fun _ R s => s.heap.IsList l ys ∧ R (.ok (.ret (.ref (nH4 s.heap x t l).objs.size))) { s with heap := nH5 s.heap x t l }) :=
  .of_wp fun prog w A R s h => by
    obtain ⟨hp, g, d, tk, os⟩ := s; obtain ⟨hl, h⟩ := h
    have hsub := sub_zip
    have hL : Heap.IsList (Shared.heap ⟨hp.push { cls := .type "str_ascii_iterator", data := .fields #[.str x t, .int 0 0] }, g, d, tk, os⟩) l ys := Heap.IsList.push hl _
    wp_walk using wpAny_pyIter_ascii ha, wpAny_pyIter_list hL
    exact ⟨_, rfl, h⟩
section
variable {prog : Program} {w : World} {A : Around} {E : Value → Shared → Prop} {s : Shared}
theorem call_zipS {x : Str} {t : Tok} {l : Addr} {ys : Array Value} {Q : Value → Shared → Prop} (ha : x.cps.all (· < 128) = true) (hl : s.heap.IsList l ys)
    (h : ∀ h', IsZip h' (s.heap.objs.size + 4) (s.heap.objs.size + 2) (s.heap.objs.size + 3) .none → IsPair h' (s.heap.objs.size + 2) (.ref s.heap.objs.size) (.ref (s.heap.objs.size + 1)) →
      IsPair h' (s.heap.objs.size + 3) .none .none → AscIt h' s.heap.objs.size x t 0 → h'.IsListIter (s.heap.objs.size + 1) l 0 → h'.objs.size = s.heap.objs.size + 5 →
      (∀ c o, s.heap.get? c = some o → h'.get? c = some o) → Q (.ref (s.heap.objs.size + 4)) { s with heap := h' }) :
    wpAny (model prog w) A (call (.type "zip") [.str x t, .ref l]) Q E s := by
  refine callType_new F.called_zip (by decide) (F.typeCall_zip_2 _ _) (F.newCall_zip_2 _ _) (fun obj => F.args_object_init_3 obj _ _) F.entry_zip_new (meets_new x t l ys ha) ⟨hl, ?_⟩
  have z1 : (nH1 s.heap x t).objs.size = s.heap.objs.size + 1 := Heap.size_push ..
  have z2 : (nH2 s.heap x t l).objs.size = s.heap.objs.size + 2 := by rw [Heap.size_push, z1]
  have z3 : (nH3 s.heap x t l).objs.size = s.heap.objs.size + 3 := by rw [Heap.size_push, z2]
  have z4 : (nH4 s.heap x t l).objs.size = s.heap.objs.size + 4 := by rw [Heap.size_push, z3]
  have z5 : (nH5 s.heap x t l).objs.size = s.heap.objs.size + 5 := by rw [Heap.size_push, z4]
  have g5 : (nH5 s.heap x t l).get? (nH4 s.heap x t l).objs.size = some _ := Heap.get?_push_size _ rfl
  have g4 : (nH5 s.heap x t l).get? (nH3 s.heap x t l).objs.size = some _ := Heap.get?_push_of_some _ (Heap.get?_push_size _ rfl)
  have g3 : (nH5 s.heap x t l).get? (nH2 s.heap x t l).objs.size = some _ := Heap.get?_push_of_some _ (Heap.get?_push_of_some _ (Heap.get?_push_size _ rfl))
  have g2 : (nH5 s.heap x t l).get? (nH1 s.heap x t).objs.size = some _ := Heap.get?_push_of_some _ (Heap.get?_push_of_some _ (Heap.get?_push_of_some _ (Heap.get?_push_size _ rfl)))
  have g1 : (nH5 s.heap x t l).get? s.heap.objs.size = some _ := Heap.get?_push_of_some _ (Heap.get?_push_of_some _ (Heap.get?_push_of_some _ (Heap.get?_push_of_some _ (Heap.get?_push_size _ rfl))))
  show _ ∧ _
  rw [z2, z3, z4] at g5
  rw [z1, z2] at g3
  rw [z3] at g4
  rw [z1] at g2
  rw [z4]
  exact ⟨⟨_, g5, rfl⟩, h _ g5 g3 g4 ⟨_, g1, rfl, rfl⟩ ⟨_, g2, rfl, rfl⟩ z5 fun c o q =>
    Heap.get?_push_of_some _ (Heap.get?_push_of_some _ (Heap.get?_push_of_some _ (Heap.get?_push_of_some _ (Heap.get?_push_of_some _ q))))⟩
end
end L2.ZS

namespace L2.ZS
open L2 PyProof.Rows PySem.Spec PySem
/-! ### for a, b in zip(text, list): the walk -/
def ItzS (K : PySem.W.Frag) (x : Str) (b : Addr) : It :=
  ⟨fun i H => i < x.cps.size ∧ ∃ (ys : List V) (y : V), SqL K H b ys ∧ ys[i]? = some y,
    fun i H v H' => ∃ T c y, v = .ref T ∧ H T = none ∧ H' = upd H T (.tup [.str ⟨#[c]⟩, y]) ∧ x.cps[i]? = some c ∧ ∀ ys, SqL K H b ys → ys[i]? = some y,
    fun i H => ∃ ys : List V, SqL K H b ys ∧ (x.cps.size ≤ i ∨ ys.length ≤ i)⟩
theorem turn_zipS {P : Program} {w : World} {K : PySem.W.Frag} {elts : List Expr} {kk : Nat} {tpos : Pos} {x : Str} {t : Tok} {b z TI TO i1 i2 : Addr} (D : ZipApart z TI TO i1 i2 b b) :
    Turn P w K (.Tuple elts kk tpos) (ItzS K x b) [z, TI, TO, i1, i2] z (fun i h => IsZip h z TI TO .none ∧ IsPair h TI (.ref i1) (.ref i2) ∧ (∃ x y, IsPair h TO x y) ∧ AscIt h i1 x t i ∧ h.IsListIter i2 b i) where
  mem := by simp
  obj := fun i h st c hc => by
    obtain ⟨hz, hTI, ⟨x, y, hTO⟩, ⟨o1, e1, _, d1⟩, ⟨o2, e2, _, d2⟩⟩ := st
    have e' : c = z ∨ c = TI ∨ c = TO ∨ c = i1 ∨ c = i2 := by simpa using hc
    rcases e' with q | q | q | q | q
    · rw [q]; exact ⟨_, hz, fun v q => nomatch q⟩
    · rw [q]; exact ⟨_, hTI, fun v q => nomatch q⟩
    · rw [q]; exact ⟨_, hTO, fun v q => nomatch q⟩
    · rw [q]; exact ⟨o1, e1, fun v q => by rw [d1] at q; cases q⟩
    · rw [q]; exact ⟨o2, e2, fun v q => by rw [d2] at q; cases q⟩
  keep := fun i h h' st k => by
    obtain ⟨hz, hTI, ⟨x, y, hTO⟩, h1, h2⟩ := st
    exact ⟨k z (by simp) _ hz, k TI (by simp) _ hTI, ⟨x, y, k TO (by simp) _ hTO⟩, AscIt.mv h1 fun o q => k i1 (by simp) o q, h2.at fun o q => k i2 (by simp) o q⟩
  item := by
    intro X hP hw hK hc i pins s σ H E I hf st hg
    subst hP hw hK
    obtain ⟨hz, hTI, ⟨x0, y0, hTO⟩, h1, h2⟩ := st
    obtain ⟨hlt, ys, y, hqy, hy⟩ := hg
    obtain ⟨its2, rv2, p2, _⟩ := I.list hqy
    obtain ⟨u2, hu2, ru2⟩ := rv2.get hy
    have hx : x.cps[i]? = some x.cps[i] := Array.getElem?_eq_getElem hlt
    have hzl : z < s.heap.objs.size := Heap.lt_size hz
    refine pyNext_item D hz hTI hTO h1 h2 p2.isList hx (y := u2) (by simpa using hu2) fun h' z' TO' h1' h2' hT hsz hk => ?_
    refine ⟨_, rfl, wpAny_letOwnedTupleGo_zip (s := { s with heap := h', toks := s.toks + 1 }) z' fun h'' z'' sb => ?_⟩
    have hT2 : h''.get? s.heap.objs.size = some { cls := .type "tuple", data := .seq #[.str ⟨#[x.cps[i]]⟩ s.toks, u2] } := (sb.2 _ (Nat.ne_of_gt hzl)).trans hT
    have new : ObjOk X.prog X.w (upd H s.heap.objs.size (.tup [.str ⟨#[x.cps[i]]⟩, y])) h'' s.heap.objs.size (.tup [.str ⟨#[x.cps[i]]⟩, y]) :=
      ⟨by show 2 ≤ sizeLine; decide, [.str ⟨#[x.cps[i]]⟩ s.toks, u2], .cons ⟨_, rfl⟩ (.cons ru2 .nil), ⟨_, hT2, rfl, _, rfl⟩⟩
    have I1 : Inv X pins σ (upd H s.heap.objs.size (.tup [.str ⟨#[x.cps[i]]⟩, y])) { s with heap := h'', toks := s.toks + 1 } :=
      I.turnedNew (t' := s.toks + 1) (ch := [z, TI, TO, i1, i2]) (fun c o hb q => (sb.2 c (fun q' => hb (by simp [q']))).trans (hk c o (fun q' => hb (by simp [q'])) (fun q' => hb (by simp [q'])) (fun q' => hb (by simp [q'])) (fun q' => hb (by simp [q'])) q)) hf (Nat.le_refl _) new
    refine ⟨.ref s.heap.objs.size, _, I1, rfl, ⟨_, x.cps[i], y, rfl, I.hok.fresh (Nat.le_refl _), rfl, hx, fun l hl => by rw [I.list_inj hl hqy]; exact hy⟩, ⟨z'', ?_, ⟨.str ⟨#[x.cps[i]]⟩ s.toks, u2, ?_⟩, ?_, ?_⟩, fun c hcm => ?_⟩
    · exact (sb.2 _ D.TIz).trans (hk _ _ D.TIz D.TITO D.TIi1 D.TIi2 hTI)
    · exact (sb.2 _ D.TOz).trans TO'
    · exact AscIt.mv h1' fun o q => (sb.2 _ D.i1z).trans q
    · exact h2'.at fun o q => (sb.2 _ D.i2z).trans q
    · have hlt : c < s.heap.objs.size := by
        have e' : c = z ∨ c = TI ∨ c = TO ∨ c = i1 ∨ c = i2 := by simpa using hcm
        rcases e' with q | q | q | q | q
        · rw [q]; exact hzl
        · rw [q]; exact Heap.lt_size hTI
        · rw [q]; exact Heap.lt_size hTO
        · rw [q]; obtain ⟨_, e1, _⟩ := h1; exact Heap.lt_size e1
        · rw [q]; obtain ⟨_, e2, _⟩ := h2; exact Heap.lt_size e2
      rw [upd_ne (Nat.ne_of_lt hlt)]
      exact (hf c hcm).1
  done := by
    intro X hP hw hK hc i pins s σ H E I hf st hg
    subst hP hw hK
    obtain ⟨hz, hTI, ⟨x0, y0, hTO⟩, h1, h2⟩ := st
    obtain ⟨ys, hqy, hend⟩ := hg
    obtain ⟨its2, rv2, p2, _⟩ := I.list hqy
    have l2 := rv2.length
    have he : x.cps[i]? = none ∨ its2.toArray[i]? = none := by
      rcases hend with q | q
      · exact .inl (Array.getElem?_eq_none q)
      · exact .inr (by simp; omega)
    exact pyNext_end (I.ok.hd hc) D hz hTI hTO h1 h2 p2.isList he fun h' tk hk => ⟨rfl, I.turnedL (t' := tk) (ch := [z, TI, TO, i1, i2]) (fun c o hb q =>
      hk c o (fun q' => hb (by simp [q'])) (fun q' => hb (by simp [q'])) (fun q' => hb (by simp [q'])) (fun q' => hb (by simp [q'])) q) hf⟩
  self := fun A i s Q E st h => wpAny_pyIter_zip st.1 h
def iZipS (K : PySem.W.Frag) (ta : TA) : TI := fun σ H R => ta σ H fun vs H1 => ∃ x b ys, vs = [.str x, .ref b] ∧ x.cps.all (· < 128) = true ∧ SqL K H1 b ys ∧ R (ItzS K x b) H1
theorem pi_zipS {X : Cx} {e e2 : Expr} {ta : TA} {p pos tpos : Pos} {elts : List Expr} {kk : Nat} (hg : Gl X "zip") (hm : X.mg "zip" = none) (ha : PA X [e, e2] ta)
    (hs : starEach [e, e2] X.env = (false, eval e X.env) :: starEach [e2] X.env := by rfl) (hpl : (backTo pos (starEach [e2] X.env)).any (·.1) = false := by rfl) :
    PI X (.Tuple elts kk tpos) (.Call (.Name "zip" p) [e, e2] [] pos) (iZipS X.K ta) := by
  refine ⟨fun pins s σ H R I h => ?_⟩
  refine Call_ (ld_blt I hg hm PyProof.Rows.boot_zip (PyProof.Rows.callWith_type1 (thn (ha.run pos pins s σ H _ I h) fun us s1 ⟨vs, H1, I1, r1, q1⟩ => ?_) hs hpl))
  obtain ⟨x, b, ys, ex, hasc, hqy, q⟩ := q1
  subst ex
  cases r1 with
  | cons r rr =>
    cases rr with
    | cons r' rr =>
      cases rr
      obtain ⟨t, rfl⟩ := r
      cases r'
      obtain ⟨its2, rv2, p2, _⟩ := I1.list hqy
      have lb : b < s1.heap.objs.size := p2.lt
      refine call_zipS hasc p2.isList fun h' hz hTI hTO h1 h2 hsz hk => wpAny_pyIter_zip hz ?_
      have I2 : Inv X pins σ H1 { s1 with heap := h' } := I1.kept (t' := s1.toks) hk
      refine ⟨s1.heap.objs.size + 4, [s1.heap.objs.size + 4, s1.heap.objs.size + 2, s1.heap.objs.size + 3, s1.heap.objs.size, s1.heap.objs.size + 1], _, _, H1, rfl, I2, turn_zipS (x := x) (t := t) (PySem.W.ktu_apart s1.heap.objs.size b b lb lb), ⟨hz, hTI, ⟨_, _, hTO⟩, h1, h2⟩, fun c hcm => ?_, q⟩
      have e' : c = s1.heap.objs.size + 4 ∨ c = s1.heap.objs.size + 2 ∨ c = s1.heap.objs.size + 3 ∨ c = s1.heap.objs.size ∨ c = s1.heap.objs.size + 1 := by simpa using hcm
      have hle : s1.heap.objs.size ≤ c := by
        rcases e' with z | z | z | z | z
        · rw [z]; exact Nat.le_add_right _ _
        · rw [z]; exact Nat.le_add_right _ _
        · rw [z]; exact Nat.le_add_right _ _
        · rw [z]; exact Nat.le_refl _
        · rw [z]; exact Nat.le_add_right _ _
      exact I1.fpOk hle (I1.hok.fresh hle)
end L2.ZS
namespace L2.DL
open L2 PyProof.Rows PySem.Spec PySem
def ascB (x : Str) : Bool := x.cps.all (· < 128)
def zipOfS (ws : List Val) : Option WW := match ws with
  | [.str x, .lst false ys] => if (ascB x && noOwns ys) = true then some (.non, zipL (signs x) ys) else none
  | _ => none
def mZipS (fs : M (List Val)) : M WW := fun ρ => (fs ρ).bind fun w ρ1 => match zipOfS w with
  | some ww => .ok ww ρ1
  | none => .bad
theorem mZipS_ap {fs : M (List Val)} {ρ : Slots} : mZipS fs ρ = (fs ρ).bind fun w ρ1 => match zipOfS w with
  | some ww => .ok ww ρ1
  | none => .bad := rfl
theorem src_zipS {F0 H0 : Hp} {K : PySem.W.Frag} {x : Str} {b : Addr} {ys : List V} {zs : List Val} {u : V} {w : Val} (hb : F0 b = some (.lst ys)) (ry : Reps F0 H0 ys zs []) : Src F0 (ZS.ItzS K x b) u w (zipL (signs x) zs) := fun F H h0 hF _ => by
  have hy : SqL K H b ys := .of (hF _ _ (h0 _ _ hb))
  have ry' : Reps F H ys zs [] := ry.mono h0 fun _ h => by cases h
  refine ⟨fun i hi => ⟨ys, hy, ?_⟩, fun i wi e => ?_⟩
  · rw [zipL_len] at hi
    have l1 : (signs x).length = x.cps.size := by simp [signs]
    have l2 := ry'.length
    omega
  · obtain ⟨p, q, e1, e2, rfl⟩ := zipL_get e
    simp only [signs, List.getElem?_map, Option.map_eq_some_iff] at e1
    obtain ⟨c, e1, rfl⟩ := e1
    have e3 : x.cps[i]? = some c := by simpa using e1
    obtain ⟨v2, g2, f2, r2, c2⟩ := ry'.get e2
    have z2 : g2 = [] := List.eq_nil_iff_forall_not_mem.mpr fun x hx => by
      have h1 := c2 x; have h2 := count_of_mem hx; rw [List.count_nil] at h1; omega
    subst z2
    refine ⟨⟨(Array.getElem?_eq_some_iff.mp e3).1, ys, v2, hy, f2⟩, fun x' H' ⟨T, c1, y1, ex, nT, eH, k1, k2⟩ => ?_⟩
    subst ex eH
    have q2 := (k2 ys hy).symm.trans f2
    rw [e3] at k1
    cases k1; cases q2
    exact pair_new hF nT (.str _) r2
section
variable {X : Cx} {k : Nat} {W : WX} {e e2 : Expr} {elts : List Expr} {kk : Nat} {pos p tpos : Pos}
theorem di_zipS {fs : M (List Val)} (hg : Gl X "zip") (hm : X.mg "zip" = none) (ha : DVs X k W [e, e2] fs) (h1 : ∀ ρ ws ρ', fs ρ = .ok ws ρ' → ws.length = 2)
    (hs : starEach [e, e2] X.env = (false, eval e X.env) :: starEach [e2] X.env := by rfl) (hpl : (backTo pos (starEach [e2] X.env)).any (·.1) = false := by rfl) : DI X k W (.Tuple elts kk tpos) (.Call (.Name "zip" p) [e, e2] [] pos) (mZipS fs) :=
  piImp (ZS.pi_zipS hg hm ha hs hpl) fun σ H Q ⟨B, F, ρ, τ, θ, s, hk, p⟩ => by
  unfold mZipS at p
  refine ⟨B, F, ρ, τ, θ, s, hk, ?_⟩
  cases q : fs ρ with
  | bad => rw [q] at p; exact p.elim
  | err c pl ρ1 => rw [q] at p; exact p
  | ok ws ρ1 =>
    rw [q] at p
    dsimp only [R.bind] at p
    intro us F' H' el s'
    have hl := h1 _ _ _ q
    match ws, hl with
    | [w, z], _ =>
      cases q2 : zipOfS [w, z] with
      | none => rw [q2] at p; exact p.elim
      | some ww =>
        rw [q2] at p
        obtain ⟨u, v, rfl, pu, pv⟩ := (s'.tops el).two
        have s3 : SR B F' H' σ ρ1 τ θ := s'.pop.pop
        cases w with
        | str x =>
          cases z with
          | lst o ys =>
            cases o with
            | true => simp [zipOfS] at q2
            | false =>
              simp only [zipOfS] at q2
              split at q2
              case isFalse => cases q2
              case isTrue n =>
              cases q2
              rw [Bool.and_eq_true] at n
              obtain ⟨b, us, rfl, hb, rb⟩ := pv.lsh n.2
              obtain ⟨g, ru⟩ := pu
              cases ru
              exact ⟨x, b, us, rfl, n.1, .of (s'.FH _ _ hb), p .non F' H' _ (s3.push (.refl s3.FH) (.of .non)) (src_zipS hb rb)⟩
          | _ => simp [zipOfS] at q2
        | _ => simp [zipOfS] at q2
end
end L2.DL

namespace L2.DL
open L2 PyProof.Rows PySem.Spec PySem
/-! ### text * int -/
def repS (a : Str) (n : Nat) : Str := ⟨(List.replicate n a.cps).foldl (· ++ ·) #[]⟩
def rRepS : R2 := fun x y H Q => ∃ a n, x = .str a ∧ y = .int n ∧ a.length ≠ 0 ∧ 2 ≤ n ∧ n ≤ 1000 ∧ a.length ≤ 1000 ∧ (repS a n.toNat).length ≤ 16777216 ∧ Q (.str (repS a n.toNat)) H
theorem op_repS {X : Cx} : OpR X (binaryOp .Mult) rRepS := by
  intro pins s σ H x y v u Q I rx ry h
  obtain ⟨a, n, rfl, rfl, h0, h1, h2, h3, hz, q⟩ := h
  obtain ⟨t, rfl⟩ := rx
  obtain ⟨t', rfl⟩ := ry
  have n1 : ¬ n < 1 := by omega
  have n2 : (n == 1 || a.length == 0) = false := by
    rw [beq_eq_false_iff_ne.mpr (show n ≠ 1 by omega), beq_eq_false_iff_ne.mpr h0]; rfl
  refine PySem.P.mul_str ?_ (fun _ _ hc => ?_) (fun _ _ => ?_) ?_
  · rw [decide_eq_false (by omega), decide_eq_false (by omega)]; rfl
  · have hd : (1000 : Int) ≤ (2 ^ 63 - 1) / n := by
      rw [Int.le_ediv_iff_mul_le (by omega)]
      omega
    omega
  · unfold Builtin.Str.tooLong sizeLine
    refine decide_eq_false ?_
    have : a.length * n.toNat ≤ 1000 * 1000 := Nat.mul_le_mul h3 (by omega)
    omega
  · rw [if_neg n1, n2]
    simp only [Bool.false_eq_true, if_false]
    exact ⟨by rw [sizeLine_eq]; exact hz, .str (repS a n.toNat), H, I.tok _, ⟨s.toks, rfl⟩, q⟩
def oMulS : Val → Val → Option Val
  | .str a, .int n => if a.length ≠ 0 ∧ 2 ≤ n ∧ n ≤ 1000 ∧ a.length ≤ 1000 ∧ (repS a n.toNat).length ≤ 16777216 then some (.str (repS a n.toNat)) else none
  | _, _ => none
theorem vop_mulS : VOp2 rRepS oMulS := fun F H x y wx wy w Q hF px py e k => by
  cases wx <;> cases wy <;> simp only [oMulS] at e <;> try (cases e; done)
  split at e
  case isFalse => cases e
  case isTrue c =>
  cases e
  have := px.str; subst this
  have := py.int; subst this
  obtain ⟨c1, c2, c3, c4, c5⟩ := c
  exact ⟨_, _, rfl, rfl, c1, c2, c3, c4, c5, k _ F H (.refl hF) (.of (.str _))⟩
end L2.DL

namespace RT
open L2 PyProof.Rows PySem.Spec PySem L2.DL
-- is_name, k01
def l1_is_name : G :=
    (sIf (mT (pTest (pOp2 oNotIn (pVar 1) (pC (.str "abcdefghijklmnopqrstuvwxyz"))))) (sRet (mF (pC (.bl false)))) sNil)
def g_is_name : G :=
    (sSeq (sIf (mT (pNot (pTest (pChain oLe oLe (pC (.int 1)) (pOpS oLen (psCons (pVar 0) psNil)) (pC (.int 8)))))) (sRet (mF (pC (.bl false)))) sNil)
    (sSeq (sFor [1] gN (mSeq (mP (pVar 0))) l1_is_name)
    (sRet (mF (pC (.bl true))))))
def m_is_name : List Val → R0 := fnP 2 (g_is_name)
-- law_bag, k01
noncomputable def l1_law_bag (K : PySem.W.Frag) : G :=
    (sSet 1 (mF (pOp2 oMod (pOp2 oAdd (pOp2 oMul (pVar 1) (pC (.int 1009))) (pVar 2)) (pC (.int 1000003)))))
noncomputable def g_law_bag (K : PySem.W.Frag) : G :=
    (sSeq (sSet 1 (mF (pOpS oLen (psCons (pSlice K (pVar 0) poNone (poSome (pC (.int 63)))) psNil))))
    (sSeq (sFor [2] gN (mSeq (mF (pSlice K (pVar 0) poNone (poSome (pC (.int 63)))))) (l1_law_bag K))
    (sRet (mOpS gLstM (msCons (mF (pOpS oList (psCons (pSlice K (pVar 0) poNone (poSome (pC (.int 63)))) psNil))) (msCons (mF (pC (.int 0))) (msCons (mF (pC (.int 0))) (msCons (mP (pVar 1)) msNil))))))))
noncomputable def m_law_bag (K : PySem.W.Frag) : List Val → R0 := fnP 3 (g_law_bag K)
-- law_pull, k01
def g_law_pull : G :=
    (sSeq (sIf (mT (pTest (pOp2 oLe (pOp2 oSubs (pVar 0) (pC (.int 2))) (pC (.int 1))))) (sSeq (sAugL 0 (pC (.int 1)) ipAdd (pC (.int 1)))
    (sSeq (sSet 2 (mP (pOp2 oSubs (pVar 0) (pC (.int 3)))))
    (sSeq (sIf (mT (pTest (pOp2 oLe (pOp2 oSubs (pVar 0) (pC (.int 1))) (pOpS oLen (psCons (pOp2 oSubs (pVar 0) (pC (.int 0))) psNil))))) (sSet 2 (mP (pOp2 oSubs (pOp2 oSubs (pVar 0) (pC (.int 0))) (pOp2 oSub (pOp2 oSubs (pVar 0) (pC (.int 1))) (pC (.int 1)))))) sNil)
    (sSeq (sIf (mT (pOr (pTest (pOp2 oGt (pOp2 oSubs (pVar 0) (pC (.int 1))) (pOpS oLen (psCons (pOp2 oSubs (pVar 0) (pC (.int 0))) psNil)))) (pTest (pOp2 oLt (pVar 2) (pOp2 oPow (pC (.int 10)) (pC (.int 18))))))) (sSeq (sSet 3 (mF (pOp2 oMod (pOp2 oAdd (pOp2 oAdd (pOp2 oMul (pVar 2) (pC (.int 48271))) (pOp2 oMul (pOp2 oSubs (pVar 0) (pC (.int 1))) (pC (.int 16807)))) (pC (.int 11))) (pC (.int 2147483647)))))
    (sSeq (sSet 3 (mF (pOp2 oMod (pOp2 oMul (pVar 3) (pVar 3)) (pC (.int 2147483629)))))
    (sRet (mF (pOp2 oMod (pOp2 oDiv (pOp2 oMod (pOp2 oMul (pOp2 oAdd (pVar 3) (pOp2 oSubs (pVar 0) (pC (.int 1)))) (pC (.int 69621))) (pC (.int 998244353))) (pC (.int 13))) (pVar 1)))))) sNil)
    (sPut 0 (mF (pC (.int 2))) (mP (pVar 2))))))) sNil)
    (sSeq (sSet 4 (mF (pOp2 oMod (pOp2 oSubs (pVar 0) (pC (.int 2))) (pVar 1))))
    (sSeq (sPut 0 (mF (pC (.int 2))) (mF (pOp2 oDiv (pOp2 oSubs (pVar 0) (pC (.int 2))) (pVar 1))))
    (sRet (mMove 4)))))
def m_law_pull : List Val → R1 := fnIO 5 2 (g_law_pull)
-- law_word, k01
def g_law_word : G :=
    (sSeq (sSet 2 (mF (pC (.str "abcdefghijklmnopqrstuvwxyz"))))
    (sRet (mMet isStr gJoin (mF (pC (.str ""))) (msCons (mComp [3] [3] (mRng (msCons (mP (pVar 1)) msNil)) gN (mT pYes) (mIxL oIx 2 (mCallIO (m_law_pull) (aSlot 0 (aVal (mF (pC (.int 26))) aNil))))) msNil))))
def m_law_word : List Val → R1 := fnIO 4 2 (g_law_word)
-- law_truth, k01
def g_law_truth : G :=
    (sRet (mP (pAndV (pIsi "bool" (pVar 0)) (pOp2 oEq (pVar 0) (pVar 1)))))
def m_law_truth : List Val → R0 := fnP 2 (g_law_truth)
-- law, k01
noncomputable def l1_law (K : PySem.W.Frag) : G :=
    (sIf (mT (pTest (pOp2 oNotIn (pVar 6) (pC (.str "abcdefghijklmnopqrstuvwxyz"))))) (sSet 5 (mF (pC (.bl false)))) sNil)
noncomputable def g_law (K : PySem.W.Frag) : G :=
    (sSeq (sSet 1 (mF (pOpS (callP (m_law_bag K)) (psCons (pVar 0) psNil))))
    (sSeq (sSet 2 (mCallIO (m_law_word) (aSlot 1 (aVal (mCallIO (m_law_pull) (aSlot 1 (aVal (mF (pC (.int 12))) aNil))) aNil))))
    (sSeq (sSet 3 (mF (pC (.str " ABZaz0129_-+.=*#!/~{|}()[]<>,;:?@^&'\\\n"))))
    (sSeq (sIf (mAnd (mT (pTest (pOp2 oNe (pVar 2) (pC (.str ""))))) (mTest (mOp2 oEq (mCallIO (m_law_pull) (aSlot 1 (aVal (mF (pC (.int 2))) aNil))) (mF (pC (.int 1)))))) (sSeq (sSet 4 (mCallIO (m_law_pull) (aSlot 1 (aVal (mF (pOpS oLen (psCons (pVar 2) psNil))) aNil))))
    (sSet 2 (mOp2 oAdd (mOp2 oAdd (mF (pSl (pVar 2) poNone (poSome (pVar 4)))) (mIxL oIx 3 (mCallIO (m_law_pull) (aSlot 1 (aVal (mF (pOpS oLen (psCons (pVar 3) psNil))) aNil))))) (mF (pSl (pVar 2) (poSome (pOp2 oAdd (pVar 4) (pC (.int 1)))) poNone))))) sNil)
    (sSeq (sSet 5 (mF (pChain oLe oLe (pC (.int 1)) (pOpS oLen (psCons (pVar 2) psNil)) (pC (.int 8)))))
    (sSeq (sFor [6] gN (mSeq (mP (pVar 2))) (l1_law K))
    (sRet (mF (pOpS (callP (m_law_truth)) (psCons (pOpS (callP (m_is_name)) (psCons (pVar 2) psNil)) (psCons (pVar 5) psNil)))))))))))
-- is_room, k02
def l1_is_room : G :=
    (sSeq (sIf (mT (pNot (pTest (pOpS (callP (m_is_name)) (psCons (pOp2 oSubs (pVar 0) (pVar 1)) psNil))))) (sRet (mF (pC (.bl false)))) sNil)
    (sIf (mT (pAnd (pTest (pOp2 oGt (pVar 1) (pC (.int 0)))) (pTest (pOp2 oGe (pOp2 oSubs (pVar 0) (pOp2 oSub (pVar 1) (pC (.int 1)))) (pOp2 oSubs (pVar 0) (pVar 1)))))) (sRet (mF (pC (.bl false)))) sNil))
def g_is_room : G :=
    (sSeq (sIf (mT (pTest (pOp2 oGt (pOpS oLen (psCons (pVar 0) psNil)) (pC (.int 6))))) (sRet (mF (pC (.bl false)))) sNil)
    (sSeq (sFor [1] gN (mRng (msCons (mF (pOpS oLen (psCons (pVar 0) psNil))) msNil)) l1_is_room)
    (sRet (mF (pC (.bl true))))))
def m_is_room : List Val → R0 := fnP 2 (g_is_room)
-- law_names, k02
def l1_law_names : G :=
    (sIf (mT (pTest (pOp2 oIn (pVar 6) (pVar 3)))) (sSet 6 (mF (pOp2 oAdd (pSl (pVar 6) poNone (poSome (pOp1 oNeg (pC (.int 1))))) (pOp2 oSubs (pVar 2) (pVar 7))))) sNil)
def l2_law_names : G :=
    (sSeq (sSet 6 (mOp2 oAdd (mP (pVar 4)) (mCallIO (m_law_word) (aSlot 0 (aVal (mOp2 oAdd (mF (pC (.int 1))) (mCallIO (m_law_pull) (aSlot 0 (aVal (mF (pOp2 oSub (pC (.int 8)) (pOpS oLen (psCons (pVar 4) psNil)))) aNil)))) aNil)))))
    (sSeq (sFor [7] gN (mRng (msCons (mF (pC (.int 26))) msNil)) l1_law_names)
    (sDrop (mMeth gAppend 3 (msCons (mP (pVar 6)) msNil)))))
def g_law_names : G :=
    (sSeq (sSet 2 (mF (pC (.str "abcdefghijklmnopqrstuvwxyz"))))
    (sSeq (sSet 3 (mF (pOpS gLstN psNil)))
    (sSeq (sSet 4 (mCallIO (m_law_word) (aSlot 0 (aVal (mIx oIx (mF (pOpS gLstN (psCons (pC (.int 0)) (psCons (pC (.int 0)) (psCons (pC (.int 3)) (psCons (pC (.int 7)) psNil)))))) (mCallIO (m_law_pull) (aSlot 0 (aVal (mF (pC (.int 4))) aNil)))) aNil))))
    (sSeq (sFor [5] gN (mRng (msCons (mP (pVar 1)) msNil)) l2_law_names)
    (sRet (mMove 3))))))
def m_law_names : List Val → R1 := fnIO 8 2 (g_law_names)
-- is_row, k03
def l1_is_row : G :=
    (sIf (mT (pNot (pTest (pChain oLe oLe (pC (.int 0)) (pVar 2) (pC (.int 9)))))) (sRet (mF (pC (.bl false)))) sNil)
def g_is_row : G :=
    (sSeq (sIf (mT (pTest (pOp2 oNe (pOpS oLen (psCons (pVar 1) psNil)) (pOpS oLen (psCons (pVar 0) psNil))))) (sRet (mF (pC (.bl false)))) sNil)
    (sSeq (sFor [2] gN (mSeq (mP (pVar 1))) l1_is_row)
    (sRet (mF (pC (.bl true))))))
def m_is_row : List Val → R0 := fnP 3 (g_is_row)
-- law_answers, k03
def g_law_answers : G :=
    (sRet (mOpS oTuple (msCons (mComp [3] [3] (mRng (msCons (mP (pVar 1)) msNil)) gN (mT pYes) (mCallIO (m_law_pull) (aSlot 0 (aSlot 2 aNil)))) msNil)))
def m_law_answers : List Val → R1 := fnIO 4 3 (g_law_answers)
-- within, k04
-- united, k04
-- common, k04
-- law_questions, k04
-- law_part, k04
-- law_all, k04
-- law_in, k04
-- places, k05
-- picked, k05
-- share, k05
-- law_whole, k05
def g_law_whole : G :=
    (sRet (mP (pAndV (pIsi "int" (pVar 0)) (pVal (pNot (pTest (pIsi "bool" (pVar 0))))))))
def m_law_whole : List Val → R0 := fnP 1 (g_law_whole)
-- law_tuple, k05
-- law_row_of, k05
-- law_told, k05
-- is_tally, k06
def l1_is_tally : G :=
    (sSeq (sAsg ([3] ++ ([4] ++ [])) (gTn 2 (gsCons gN (gsCons gN gsNil))) (mP (pOp2 oSubs (pVar 1) (pVar 2))))
    (sSeq (sIf (mT (pOr (pNot (pTest (pOpS (callP (m_is_row)) (psCons (pVar 0) (psCons (pVar 3) psNil))))) (pTest (pOp2 oLt (pVar 4) (pC (.int 1)))))) (sRet (mF (pC (.bl false)))) sNil)
    (sIf (mT (pAnd (pTest (pOp2 oGt (pVar 2) (pC (.int 0)))) (pTest (pOp2 oGeR (pOp2 oSubs (pOp2 oSubs (pVar 1) (pOp2 oSub (pVar 2) (pC (.int 1)))) (pC (.int 0))) (pVar 3))))) (sRet (mF (pC (.bl false)))) sNil)))
def g_is_tally : G :=
    (sSeq (sFor [2] gN (mRng (msCons (mF (pOpS oLen (psCons (pVar 1) psNil))) msNil)) l1_is_tally)
    (sRet (mF (pC (.bl true)))))
def m_is_tally : List Val → R0 := fnP 5 (g_is_tally)
-- law_many, k06
def g_law_many : G :=
    (sRet (mOp2 oAdd (mF (pC (.int 1))) (mCallIO (m_law_pull) (aSlot 0 (aVal (mIx oIx (mF (pOpS gLstN (psCons (pC (.int 1)) (psCons (pC (.int 3)) (psCons (pC (.int 9)) (psCons (pOp2 oPow (pC (.int 10)) (pC (.int 12))) psNil)))))) (mCallIO (m_law_pull) (aSlot 0 (aVal (mF (pC (.int 4))) aNil)))) aNil)))))
def m_law_many : List Val → R1 := fnIO 1 1 (g_law_many)
-- law_settled, k06
def g_law_settled : G :=
    (sRet (mF (pComp [1] [1] (pSeq (pOpS oSorted (psCons (pOpS oList (psCons (pVar 0) psNil)) psNil))) gN (pTest (pOp2 oNe (pOp2 oSubs (pVar 0) (pVar 1)) (pC (.int 0)))) (pOpS gTupN (psCons (pVar 1) (psCons (pOp2 oSubs (pVar 0) (pVar 1)) psNil))))))
def m_law_settled : List Val → R0 := fnP 2 (g_law_settled)
-- law_drawn, k06
def l1_law_drawn : G :=
    (sPut 2 (mCallIO (m_law_answers) (aSlot 0 (aVal (mF (pOpS oLen (psCons (pVar 1) psNil))) (aSlot 3 aNil)))) (mCallIO (m_law_many) (aSlot 0 aNil)))
def g_law_drawn : G :=
    (sSeq (sSet 2 (mF pDNewT))
    (sSeq (sSet 3 (mIx oIx (mF (pOpS gLstN (psCons (pC (.int 2)) (psCons (pC (.int 2)) (psCons (pC (.int 3)) (psCons (pC (.int 10)) psNil)))))) (mCallIO (m_law_pull) (aSlot 0 (aVal (mF (pC (.int 4))) aNil)))))
    (sSeq (sFor [4] gN (mRng (msCons (mIx oIx (mF (pOpS gLstN (psCons (pC (.int 3)) (psCons (pC (.int 2)) (psCons (pC (.int 1)) (psCons (pC (.int 0)) (psCons (pC (.int 5)) (psCons (pC (.int 8)) (psCons (pC (.int 12)) (psCons (pC (.int 4)) (psCons (pC (.int 2)) (psCons (pC (.int 40)) psNil)))))))))))) (mCallIO (m_law_pull) (aSlot 0 (aVal (mF (pC (.int 10))) aNil)))) msNil)) l1_law_drawn)
    (sRet (mF (pOpS (callP (m_law_settled)) (psCons (pVar 2) psNil)))))))
def m_law_drawn : List Val → R1 := fnIO 5 2 (g_law_drawn)
-- made, k07
-- law_same, k07
-- counted, k08
-- plus, k08
-- less, k08
-- total, k08
-- shared, k09
-- law_portion, k09
-- law_told_3, k09
-- bar, k10
-- law_moved, k10
-- law_pair_2, k10
-- law_bar, k10
-- bars, k11
-- law_ears, k11
-- law_knotted_2, k11
-- law_rooms_2, k11
-- law_house_3, k11
-- law_bars, k11
-- law_bars_same, k11
-- woven, k12
-- with_share, k12
-- corners, k12
-- joined, k12
-- all_questions, k14
-- host_among, k14
-- host, k14
-- law_every, k14
-- law_is_host, k14
-- next_ear_2, k15
-- together, k15
-- is_allbut, k15
-- neighbours, k15
-- ring_of, k15
-- chosen, k15
-- knot_3, k15
-- paper, k15
-- law_form, k15
-- law_is_order, k15
-- law_stand, k15
-- law_is_ring, k15
-- law_is_allbut, k15
-- law_is_paper, k15
-- is_whole, k21
-- room_text, k36
-- row_text, k36
-- tally_text, k36
-- deed_text, k36
-- number_of, k36
def l1_number_of : G :=
    (sIf (mT (pTest (pOp2 oNotIn (pVar 1) (pC (.str "0123456789"))))) (sRaiseI "BadText" "at" (pC (.int 0))) sNil)
def g_number_of : G :=
    (sSeq (sIf (mT (pNot (pTest (pChain oLe oLe (pC (.int 1)) (pOpS oLen (psCons (pVar 0) psNil)) (pC (.int 13)))))) (sRaiseI "BadText" "at" (pC (.int 0))) sNil)
    (sSeq (sFor [1] gN (mSeq (mP (pVar 0))) l1_number_of)
    (sSeq (sIf (mT (pAnd (pTest (pOp2 oEq (pOp2 oSubs (pVar 0) (pC (.int 0))) (pC (.str "0")))) (pTest (pOp2 oGt (pOpS oLen (psCons (pVar 0) psNil)) (pC (.int 1)))))) (sRaiseI "BadText" "at" (pC (.int 0))) sNil)
    (sRet (mF (pOpS oInt1 (psCons (pVar 0) psNil)))))))
def m_number_of : List Val → R0 := fnP 2 (g_number_of)
-- name_of, k36
def g_name_of : G :=
    (sSeq (sIf (mT (pNot (pTest (pOpS (callP (m_is_name)) (psCons (pVar 0) psNil))))) (sRaiseI "BadText" "at" (pC (.int 0))) sNil)
    (sRet (mMove 0)))
def m_name_of : List Val → R0 := fnP 1 (g_name_of)
-- room_of, k36
def g_room_of : G :=
    (sSeq (sIf (mT (pTest (pOp2 oEq (pVar 0) (pC (.str "-"))))) (sRet (mF (pOpS gTupN psNil))) sNil)
    (sSeq (sSet 1 (mF (pOpS oTupleZ (psCons (pMet isStr gSplit (pVar 0) (psCons (pC (.str "+")) psNil)) psNil))))
    (sSeq (sIf (mT (pNot (pTest (pOpS (callP (m_is_room)) (psCons (pVar 1) psNil))))) (sRaiseI "BadText" "at" (pC (.int 0))) sNil)
    (sRet (mMove 1)))))
def m_room_of : List Val → R0 := fnP 2 (g_room_of)
-- row_of_3, k36
-- pair_of_3, k36
-- tally_of_3, k36
-- read_deed_4, k36
-- law_room_text, k37
def g_law_room_text : G :=
    (sSeq (sIf (mT (pTest (pOp2 oEq (pVar 0) (pOpS gTupN psNil)))) (sRet (mF (pC (.str "-")))) sNil)
    (sRet (mF (pMet isStr gJoin (pC (.str "+")) (psCons (pOpS oList (psCons (pVar 0) psNil)) psNil)))))
def m_law_room_text : List Val → R0 := fnP 1 (g_law_room_text)
-- law_row_text, k37
def g_law_row_text : G :=
    (sSeq (sIf (mT (pTest (pOp2 oEq (pVar 0) (pOpS gTupN psNil)))) (sRet (mF (pC (.str "-")))) sNil)
    (sRet (mF (pMet isStr gJoin (pC (.str ".")) (psCons (pComp [1] [1] (pSeq (pVar 0)) gN pYes (pOpS oStr (psCons (pVar 1) psNil))) psNil)))))
def m_law_row_text : List Val → R0 := fnP 2 (g_law_row_text)
-- law_tally_text, k37
def g_law_tally_text : G :=
    (sSeq (sIf (mT (pTest (pOp2 oEq (pVar 0) (pOpS gLstN psNil)))) (sRet (mF (pC (.str "none")))) sNil)
    (sRet (mF (pMet isStr gJoin (pC (.str " ")) (psCons (pComp [1, 2] ([1] ++ ([2] ++ [])) (pSeq (pVar 0)) (gTn 2 (gsCons gN (gsCons gN gsNil))) pYes (pOp2 oAdd (pOp2 oAdd (pOpS (callP (m_law_row_text)) (psCons (pVar 1) psNil)) (pC (.str "="))) (pOpS oStr (psCons (pVar 2) psNil)))) psNil)))))
def m_law_tally_text : List Val → R0 := fnP 3 (g_law_tally_text)
-- law_any_deed_2, k38
def g_law_any_deed_2 : G :=
    (sSeq (sSet 1 (mOpS oTupleZ (msCons (mOpS oSorted (msCons (mCallIO (m_law_names) (aSlot 0 (aVal (mCallIO (m_law_pull) (aSlot 0 (aVal (mF (pC (.int 7))) aNil))) aNil))) msNil)) msNil)))
    (sSeq (sSet 2 (mIx oIx (mCallIO (m_law_names) (aSlot 0 (aVal (mF (pC (.int 1))) aNil))) (mF (pC (.int 0)))))
    (sSeq (sSet 3 (mCallIO (m_law_answers) (aSlot 0 (aVal (mF (pOpS oLen (psCons (pVar 1) psNil))) (aVal (mF (pC (.int 10))) aNil)))))
    (sSeq (sSet 4 (mIx oIx (mOpS gLstM (msCons (mF (pC (.int 0))) (msCons (mF (pC (.int 1))) (msCons (mF (pOp2 oPow (pC (.int 10)) (pC (.int 12)))) (msCons (mF (pOp2 oSub (pOp2 oPow (pC (.int 10)) (pC (.int 13))) (pC (.int 1)))) (msCons (mCallIO (m_law_pull) (aSlot 0 (aVal (mF (pOp2 oPow (pC (.int 10)) (pC (.int 12)))) aNil))) msNil)))))) (mCallIO (m_law_pull) (aSlot 0 (aVal (mF (pC (.int 5))) aNil)))))
    (sSeq (sSet 5 (mCallIO (m_law_pull) (aSlot 0 (aVal (mF (pC (.int 8))) aNil))))
    (sSeq (sIf (mT (pTest (pOp2 oLt (pVar 5) (pC (.int 3))))) (sSeq (sSet 6 (mCallIO (m_law_drawn) (aSlot 0 (aSlot 1 aNil))))
    (sRet (mOpS gTupM (msCons (mF (pC (.str "start"))) (msCons (mMove 2) (msCons (mMove 1) (msCons (mF (pComp [7, 8] ([7] ++ ([8] ++ [])) (pSeq (pVar 6)) (gTn 2 (gsCons gN (gsCons gN gsNil))) pYes (pOpS gTupN (psCons (pVar 7) (psCons (pOpS oMax (psCons (pC (.int 1)) (psCons (pOpS oMin (psCons (pVar 8) (psCons (pOp2 oSub (pOp2 oPow (pC (.int 10)) (pC (.int 13))) (pC (.int 1))) psNil))) psNil))) psNil))))) msNil))))))) sNil)
    (sSeq (sIf (mT (pTest (pOp2 oEq (pVar 5) (pC (.int 3))))) (sRet (mOpS gTupM (msCons (mF (pC (.str "shut"))) (msCons (mMove 2) msNil)))) sNil)
    (sSeq (sIf (mT (pTest (pOp2 oLt (pVar 5) (pC (.int 6))))) (sRet (mOpS gTupM (msCons (mP (pOp2 oSubs (pOpS gLstN (psCons (pC (.str "enter")) (psCons (pC (.str "withdraw")) psNil))) (pOp2 oSub (pVar 5) (pC (.int 4))))) (msCons (mMove 3) (msCons (mMove 4) msNil))))) sNil)
    (sRet (mOpS gTupM (msCons (mP (pOp2 oSubs (pOpS gLstN (psCons (pC (.str "mark")) (psCons (pC (.str "strike")) psNil))) (pOp2 oSub (pVar 5) (pC (.int 6))))) (msCons (mMove 2) (msCons (mMove 3) (msCons (mMove 4) msNil))))))))))))))
def m_law_any_deed_2 : List Val → R1 := fnIO 9 1 (g_law_any_deed_2)
-- law_deed_text_2, k38
def l1_law_deed_text_2 : G :=
    (sIf (mT (pTest (pIsi "tuple" (pVar 2)))) (sDrop (mMeth gAppend 1 (msCons (mF (pOpS (callP (m_law_row_text)) (psCons (pVar 2) psNil))) msNil))) (sDrop (mMeth gAppend 1 (msCons (mF (pOpS oStrX (psCons (pVar 2) psNil))) msNil))))
def g_law_deed_text_2 : G :=
    (sSeq (sIf (mT (pTest (pOp2 oEq (pOp2 oSubs (pVar 0) (pC (.int 0))) (pC (.str "start"))))) (sRet (mMet isStr gJoin (mF (pC (.str " "))) (msCons (mOpS gLstM (msCons (mF (pC (.str "start"))) (msCons (mP (pOp2 oSubs (pVar 0) (pC (.int 1)))) (msCons (mF (pOpS (callP (m_law_room_text)) (psCons (pOp2 oSubs (pVar 0) (pC (.int 2))) psNil))) (msCons (mF (pOpS (callP (m_law_tally_text)) (psCons (pOp2 oSubs (pVar 0) (pC (.int 3))) psNil))) msNil))))) msNil))) sNil)
    (sSeq (sSet 1 (mF (pOpS gLstN (psCons (pOp2 oSubs (pVar 0) (pC (.int 0))) psNil))))
    (sSeq (sFor [2] gN (mSeq (mF (pSl (pVar 0) (poSome (pC (.int 1))) poNone))) l1_law_deed_text_2)
    (sRet (mF (pMet isStr gJoin (pC (.str " ")) (psCons (pVar 1) psNil)))))))
def m_law_deed_text_2 : List Val → R0 := fnP 3 (g_law_deed_text_2)
-- law_kinds, k38
-- row_of_4, k39
def g_row_of_4 : G :=
    (sSeq (sIf (mT (pTest (pOp2 oEq (pVar 0) (pC (.str "-"))))) (sRet (mF (pOpS gTupN psNil))) sNil)
    (sSeq (sSet 1 (mF (pMet isStr gSplit (pVar 0) (psCons (pC (.str ".")) psNil))))
    (sSeq (sIf (mT (pTest (pOp2 oGt (pOpS oLen (psCons (pVar 1) psNil)) (pC (.int 6))))) (sRaiseI "BadText" "at" (pC (.int 0))) sNil)
    (sSeq (sSet 2 (mCompX [3] [3] (mSeq (mFrz 1)) gN (mT pYes) (mCallP (m_number_of) (psCons (pVar 3) psNil))))
    (sSeq (sIf (mT (pTest (pOp2 oGt (pOpS oMaxL (psCons (pVar 2) psNil)) (pC (.int 9))))) (sRaiseI "BadText" "at" (pC (.int 0))) sNil)
    (sRet (mF (pOpS oTuple (psCons (pVar 2) psNil)))))))))
def m_row_of_4 : List Val → R0 := fnP 4 (g_row_of_4)
-- pair_of_4, k39
def g_pair_of_4 : G :=
    (sSeq (sSet 1 (mF (pMet isStr gSplit (pVar 0) (psCons (pC (.str "=")) psNil))))
    (sSeq (sIf (mT (pTest (pOp2 oNe (pOpS oLen (psCons (pVar 1) psNil)) (pC (.int 2))))) (sRaiseI "BadText" "at" (pC (.int 0))) sNil)
    (sRet (mOpS gTupM (msCons (mCallP (m_row_of_4) (psCons (pOp2 oSubs (pVar 1) (pC (.int 0))) psNil)) (msCons (mCallP (m_number_of) (psCons (pOp2 oSubs (pVar 1) (pC (.int 1))) psNil)) msNil))))))
def m_pair_of_4 : List Val → R0 := fnP 2 (g_pair_of_4)
-- tally_of_4, k39
def g_tally_of_4 : G :=
    (sSeq (sIf (mT (pTest (pOp2 oEq (pVar 1) (pOpS gLstN (psCons (pC (.str "none")) psNil))))) (sRet (mF (pOpS gLstN psNil))) sNil)
    (sSeq (sSet 2 (mCompX [3] [3] (mSeq (mP (pVar 1))) gN (mT pYes) (mCallP (m_pair_of_4) (psCons (pVar 3) psNil))))
    (sSeq (sIf (mT (pNot (pTest (pOpS (callP (m_is_tally)) (psCons (pVar 0) (psCons (pVar 2) psNil)))))) (sRaiseI "BadText" "at" (pC (.int 0))) sNil)
    (sRet (mMove 2)))))
def m_tally_of_4 : List Val → R0 := fnP 4 (g_tally_of_4)
-- read_deed_5, k39
def g_read_deed_5 : G :=
    (sSeq (sSet 1 (mF (pMet isStr gSplit (pVar 0) (psCons (pC (.str " ")) psNil))))
    (sSeq (sSet 2 (mP (pOp2 oSubs (pVar 1) (pC (.int 0)))))
    (sSeq (sSet 3 (mF (pOpS oLen (psCons (pVar 1) psNil))))
    (sSeq (sIf (mT (pAnd (pTest (pOp2 oEq (pVar 2) (pC (.str "start")))) (pTest (pOp2 oGe (pVar 3) (pC (.int 4)))))) (sSeq (sSet 4 (mCallP (m_room_of) (psCons (pOp2 oSubs (pVar 1) (pC (.int 2))) psNil)))
    (sRet (mOpS gTupM (msCons (mF (pC (.str "start"))) (msCons (mCallP (m_name_of) (psCons (pOp2 oSubs (pVar 1) (pC (.int 1))) psNil)) (msCons (mP (pVar 4)) (msCons (mCallP (m_tally_of_4) (psCons (pVar 4) (psCons (pSl (pVar 1) (poSome (pC (.int 3))) poNone) psNil))) msNil))))))) sNil)
    (sSeq (sIf (mT (pAnd (pTest (pOp2 oEq (pVar 2) (pC (.str "shut")))) (pTest (pOp2 oEq (pVar 3) (pC (.int 2)))))) (sRet (mOpS gTupM (msCons (mF (pC (.str "shut"))) (msCons (mCallP (m_name_of) (psCons (pOp2 oSubs (pVar 1) (pC (.int 1))) psNil)) msNil)))) sNil)
    (sSeq (sIf (mT (pAnd (pOr (pTest (pOp2 oEq (pVar 2) (pC (.str "enter")))) (pTest (pOp2 oEq (pVar 2) (pC (.str "withdraw"))))) (pTest (pOp2 oEq (pVar 3) (pC (.int 3)))))) (sRet (mOpS gTupM (msCons (mMove 2) (msCons (mCallP (m_row_of_4) (psCons (pOp2 oSubs (pVar 1) (pC (.int 1))) psNil)) (msCons (mCallP (m_number_of) (psCons (pOp2 oSubs (pVar 1) (pC (.int 2))) psNil)) msNil))))) sNil)
    (sSeq (sIf (mT (pAnd (pOr (pTest (pOp2 oEq (pVar 2) (pC (.str "mark")))) (pTest (pOp2 oEq (pVar 2) (pC (.str "strike"))))) (pTest (pOp2 oEq (pVar 3) (pC (.int 4)))))) (sRet (mOpS gTupM (msCons (mMove 2) (msCons (mCallP (m_name_of) (psCons (pOp2 oSubs (pVar 1) (pC (.int 1))) psNil)) (msCons (mCallP (m_row_of_4) (psCons (pOp2 oSubs (pVar 1) (pC (.int 2))) psNil)) (msCons (mCallP (m_number_of) (psCons (pOp2 oSubs (pVar 1) (pC (.int 3))) psNil)) msNil)))))) sNil)
    (sRaiseI "BadText" "at" (pC (.int 0))))))))))
def m_read_deed_5 : List Val → R0 := fnP 5 (g_read_deed_5)
-- law_signed_2, k39
def sgC : Str := match defBody (PySem.Challenge.pw_roomtally_k39_lines_read_or_refused.main.body.getD 37 (.Pass ⟨0, 0, 0, 0⟩)) with
  | .Assign _ (.Constant (.str s) _ _) _ :: _ => s
  | _ => ⟨#[]⟩
def g_law_signed_2 : G :=
    (sSeq (sSet 2 (mF (pC (.str sgC))))
    (sSeq (sSet 3 (mCallIO (m_law_pull) (aSlot 0 (aVal (mF (pOp2 oAdd (pOpS oLen (psCons (pVar 1) psNil)) (pC (.int 1)))) aNil))))
    (sSeq (sSet 4 (mIxL oIx 2 (mCallIO (m_law_pull) (aSlot 0 (aVal (mF (pOpS oLen (psCons (pVar 2) psNil))) aNil)))))
    (sSeq (sSet 5 (mCallIO (m_law_pull) (aSlot 0 (aVal (mF (pC (.int 3))) aNil))))
    (sSeq (sIf (mT (pTest (pOp2 oEq (pVar 5) (pC (.int 0))))) (sRet (mF (pOp2 oAdd (pOp2 oAdd (pSl (pVar 1) poNone (poSome (pVar 3))) (pVar 4)) (pSl (pVar 1) (poSome (pVar 3)) poNone)))) sNil)
    (sSeq (sIf (mT (pTest (pOp2 oEq (pVar 5) (pC (.int 1))))) (sRet (mF (pOp2 oAdd (pOp2 oAdd (pSl (pVar 1) poNone (poSome (pVar 3))) (pVar 4)) (pSl (pVar 1) (poSome (pOp2 oAdd (pVar 3) (pC (.int 1)))) poNone)))) sNil)
    (sRet (mF (pOp2 oAdd (pSl (pVar 1) poNone (poSome (pVar 3))) (pSl (pVar 1) (poSome (pOp2 oAdd (pVar 3) (pC (.int 1)))) poNone))))))))))
def m_law_signed_2 : List Val → R1 := fnIO 6 2 (g_law_signed_2)
-- law_spoilt_line, k39
def g_law_spoilt_line : G :=
    (sSeq (sSet 2 (mF (pMet isStr gSplit (pVar 1) (psCons (pC (.str " ")) psNil))))
    (sSeq (sSet 3 (mCallIO (m_law_pull) (aSlot 0 (aVal (mF (pOpS oLen (psCons (pVar 2) psNil))) aNil))))
    (sSeq (sSet 4 (mCallIO (m_law_pull) (aSlot 0 (aVal (mF (pC (.int 8))) aNil))))
    (sSeq (sIf (mT (pTest (pOp2 oLt (pVar 4) (pC (.int 3))))) (sRet (mCallIO (m_law_signed_2) (aSlot 0 (aSlot 1 aNil)))) sNil)
    (sSeq (sIf (mT (pTest (pOp2 oEq (pVar 4) (pC (.int 3))))) (sDrop (mMeth gPop 2 (msCons (mP (pVar 3)) msNil))) sNil)
    (sSeq (sIf (mT (pTest (pOp2 oEq (pVar 4) (pC (.int 4))))) (sDrop (mMeth gInsert 2 (msCons (mP (pVar 3)) (msCons (mP (pOp2 oSubs (pVar 2) (pVar 3))) msNil)))) sNil)
    (sSeq (sIf (mT (pTest (pOp2 oEq (pVar 4) (pC (.int 5))))) (sDrop (mMeth gAppend 2 (msCons (mMeth gPop 2 (msCons (mP (pVar 3)) msNil)) msNil))) sNil)
    (sSeq (sIf (mT (pTest (pOp2 oEq (pVar 4) (pC (.int 6))))) (sSeq (sSet 5 (mF (pOpS gLstN (psCons (pC (.str "none")) (psCons (pC (.str "-")) (psCons (pC (.str "0")) (psCons (pC (.str "00")) (psCons (pOp2 oMulS (pC (.str "1")) (pC (.int 14))) (psCons (pC (.str "0.0=1")) (psCons (pC (.str "a")) (psCons (pC (.str "a+b")) (psCons (pC (.str "b+a")) (psCons (pC (.str "start")) (psCons (pC (.str "1.1.1.1.1.1.1")) (psCons (pC (.str "")) (psCons (pC (.str "=")) psNil))))))))))))))))
    (sPut 2 (mP (pVar 3)) (mIxL oIx 5 (mCallIO (m_law_pull) (aSlot 0 (aVal (mF (pC (.int 13))) aNil)))))) sNil)
    (sSeq (sIfRep 4 7 "=" "=0" 2 3)
    (sRet (mF (pMet isStr gJoin (pC (.str " ")) (psCons (pVar 2) psNil)))))))))))))
def m_law_spoilt_line : List Val → R1 := fnIO 6 2 (g_law_spoilt_line)
-- law_room_in, k39
def g_law_room_in : G :=
    (sSeq (sIf (mT (pTest (pOp2 oEq (pVar 0) (pC (.str "-"))))) (sRet (mF (pOpS gTupN psNil))) sNil)
    (sSeq (sSet 1 (mF (pOpS oTupleZ (psCons (pMet isStr gSplit (pVar 0) (psCons (pC (.str "+")) psNil)) psNil))))
    (sSeq (sIf (mT (pNot (pTest (pOpS (callP (m_is_room)) (psCons (pVar 1) psNil))))) (sRet (mF (pC .non))) sNil)
    (sRet (mMove 1)))))
def m_law_room_in : List Val → R0 := fnP 2 (g_law_room_in)
-- law_figures, k39
def g_law_figures : G :=
    (sSeq (sIf (mT (pOr (pNot (pTest (pChain oLe oLe (pC (.int 1)) (pOpS oLen (psCons (pVar 0) psNil)) (pC (.int 13))))) (pNot (pTest (pOpS oAll (psCons (pComp [1] [1] (pSeq (pVar 0)) gN pYes (pOp2 oIn (pVar 1) (pC (.str "0123456789")))) psNil)))))) (sRet (mF (pOp1 oNeg (pC (.int 1))))) sNil)
    (sSeq (sIf (mT (pAnd (pTest (pOp2 oGt (pOpS oLen (psCons (pVar 0) psNil)) (pC (.int 1)))) (pTest (pOp2 oEq (pOp2 oSubs (pVar 0) (pC (.int 0))) (pC (.str "0")))))) (sRet (mF (pOp1 oNeg (pC (.int 1))))) sNil)
    (sRet (mF (pOpS oInt1 (psCons (pVar 0) psNil))))))
def m_law_figures : List Val → R0 := fnP 2 (g_law_figures)
-- law_row_in, k39
def g_law_row_in : G :=
    (sSeq (sIf (mT (pTest (pOp2 oEq (pVar 0) (pC (.str "-"))))) (sRet (mF (pOpS gTupN psNil))) sNil)
    (sSeq (sSet 1 (mF (pComp [2] [2] (pSeq (pMet isStr gSplit (pVar 0) (psCons (pC (.str ".")) psNil))) gN pYes (pOpS (callP (m_law_figures)) (psCons (pVar 2) psNil)))))
    (sSeq (sIf (mT (pOr (pTest (pOp2 oGt (pOpS oLen (psCons (pVar 1) psNil)) (pC (.int 6)))) (pNot (pTest (pOpS oAll (psCons (pComp [3] [3] (pSeq (pVar 1)) gN pYes (pChain oLe oLe (pC (.int 0)) (pVar 3) (pC (.int 9)))) psNil)))))) (sRet (mF (pC .non))) sNil)
    (sRet (mF (pOpS oTuple (psCons (pVar 1) psNil)))))))
def m_law_row_in : List Val → R0 := fnP 4 (g_law_row_in)
-- law_tally_in, k39
def l1_law_tally_in : G :=
    (sSeq (sSet 4 (mF (pMet isStr gSplit (pVar 3) (psCons (pC (.str "=")) psNil))))
    (sSeq (sIf (mT (pOr (pTest (pOp2 oNe (pOpS oLen (psCons (pVar 4) psNil)) (pC (.int 2)))) (pOr (pTest (pOp2 oIsN (pOpS (callP (m_law_row_in)) (psCons (pOp2 oSubs (pVar 4) (pC (.int 0))) psNil)) (pC .non))) (pTest (pOp2 oLt (pOpS (callP (m_law_figures)) (psCons (pOp2 oSubs (pVar 4) (pC (.int 1))) psNil)) (pC (.int 1))))))) (sRet (mF (pC .non))) sNil)
    (sSeq (sSet 5 (mF (pOpS (callP (m_law_row_in)) (psCons (pOp2 oSubs (pVar 4) (pC (.int 0))) psNil))))
    (sSeq (sIf (mT (pOr (pTest (pOp2 oNe (pOpS oLen (psCons (pVar 5) psNil)) (pOpS oLen (psCons (pVar 0) psNil)))) (pAnd (pTest (pOp2 oNe (pVar 2) (pOpS gLstN psNil))) (pTest (pOp2 oGeR (pOp2 oSubs (pOp2 oSubs (pVar 2) (pOp1 oNeg (pC (.int 1)))) (pC (.int 0))) (pVar 5)))))) (sRet (mF (pC .non))) sNil)
    (sDrop (mMeth gAppend 2 (msCons (mOpS gTupM (msCons (mP (pVar 5)) (msCons (mF (pOpS (callP (m_law_figures)) (psCons (pOp2 oSubs (pVar 4) (pC (.int 1))) psNil))) msNil))) msNil)))))))
def g_law_tally_in : G :=
    (sSeq (sIf (mT (pTest (pOp2 oEq (pVar 1) (pOpS gLstN (psCons (pC (.str "none")) psNil))))) (sRet (mF (pOpS gLstN psNil))) sNil)
    (sSeq (sSet 2 (mF (pOpS gLstN psNil)))
    (sSeq (sFor [3] gN (mSeq (mP (pVar 1))) l1_law_tally_in)
    (sRet (mMove 2)))))
def m_law_tally_in : List Val → R0 := fnP 6 (g_law_tally_in)
-- law_read, k39
def l1_law_read : G :=
    (sSeq (sSet 7 (mP (pOp2 oSubs (pDsp ["n", "r", "c"] (psCons (pVar 6) (psCons (pOpS (callP (m_law_row_in)) (psCons (pVar 6) psNil)) (psCons (pOpS (callP (m_law_figures)) (psCons (pVar 6) psNil)) psNil)))) (pVar 5))))
    (sSeq (sIf (mT (pOr (pTest (pOp2 oIsN (pVar 7) (pC .non))) (pOr (pTest (pOp2 oEq (pVar 7) (pOp1 oNeg (pC (.int 1))))) (pAnd (pTest (pOp2 oEq (pVar 5) (pC (.str "n")))) (pNot (pTest (pOpS (callP (m_is_name)) (psCons (pVar 6) psNil)))))))) (sRet (mF (pC .non))) sNil)
    (sDrop (mMeth gAppend 4 (msCons (mP (pVar 7)) msNil)))))
def g_law_read : G :=
    (sSeq (sSet 1 (mF (pMet isStr gSplit (pVar 0) (psCons (pC (.str " ")) psNil))))
    (sSeq (sIf (mT (pAnd (pTest (pOp2 oEq (pOp2 oSubs (pVar 1) (pC (.int 0))) (pC (.str "start")))) (pTest (pOp2 oGt (pOpS oLen (psCons (pVar 1) psNil)) (pC (.int 3)))))) (sSeq (sSet 2 (mF (pOpS (callP (m_law_room_in)) (psCons (pOp2 oSubs (pVar 1) (pC (.int 2))) psNil))))
    (sSeq (sIf (mT (pOr (pTest (pOp2 oIsN (pVar 2) (pC .non))) (pOr (pNot (pTest (pOpS (callP (m_is_name)) (psCons (pOp2 oSubs (pVar 1) (pC (.int 1))) psNil)))) (pTest (pOp2 oIsN (pOpS (callP (m_law_tally_in)) (psCons (pVar 2) (psCons (pSl (pVar 1) (poSome (pC (.int 3))) poNone) psNil))) (pC .non)))))) (sRet (mF (pC .non))) sNil)
    (sRet (mOpS gTupM (msCons (mF (pC (.str "start"))) (msCons (mP (pOp2 oSubs (pVar 1) (pC (.int 1)))) (msCons (mP (pVar 2)) (msCons (mF (pOpS (callP (m_law_tally_in)) (psCons (pVar 2) (psCons (pSl (pVar 1) (poSome (pC (.int 3))) poNone) psNil)))) msNil)))))))) sNil)
    (sSeq (sSet 3 (mP (pGet2 (pDsp ["shut", "enter", "withdraw", "mark", "strike"] (psCons (pC (.str "n")) (psCons (pC (.str "rc")) (psCons (pC (.str "rc")) (psCons (pC (.str "nrc")) (psCons (pC (.str "nrc")) psNil)))))) (pOp2 oSubs (pVar 1) (pC (.int 0))) (pC (.str "")))))
    (sSeq (sIf (mT (pOr (pTest (pOp2 oEq (pVar 3) (pC (.str "")))) (pTest (pOp2 oNe (pOpS oLen (psCons (pVar 1) psNil)) (pOp2 oAdd (pOpS oLen (psCons (pVar 3) psNil)) (pC (.int 1))))))) (sRet (mF (pC .non))) sNil)
    (sSeq (sSet 4 (mF (pOpS gLstN (psCons (pOp2 oSubs (pVar 1) (pC (.int 0))) psNil))))
    (sSeq (sFor ([5] ++ ([6] ++ [])) (gTn 2 (gsCons gN (gsCons gN gsNil))) (mZipS (msCons (mP (pVar 3)) (msCons (mFz (mF (pSl (pVar 1) (poSome (pC (.int 1))) poNone))) msNil))) l1_law_read)
    (sRet (mF (pOpS oTuple (psCons (pVar 4) psNil))))))))))
def m_law_read : List Val → R0 := fnP 8 (g_law_read)
-- law_told_5, k39
def g_law_told_5 : G :=
    (sSeq (sTryMix (sSet 1 (mCallP (m_read_deed_5) (psCons (pVar 0) psNil))) [.as1 "BadText" (excT [("BadText", true)]) 2 1 "at"])
    (sRet (mMove 1)))
def m_law_told_5 : List Val → R0 := fnP 3 (g_law_told_5)
-- law_80, k39
noncomputable def l1_law_80 (K : PySem.W.Frag) : G :=
    (sSet 2 (mFz (mCallIO (m_law_spoilt_line) (aSlot 1 (aSlot 2 aNil)))))
noncomputable def g_law_80 (K : PySem.W.Frag) : G :=
    (sSeq (sSet 1 (mF (pOpS (callP (m_law_bag K)) (psCons (pVar 0) psNil))))
    (sSeq (sSet 2 (mFz (mCall (m_law_deed_text_2) (msCons (mCallIO (m_law_any_deed_2) (aSlot 1 aNil)) msNil))))
    (sSeq (sFor [3] gN (mRng (msCons (mIx oIx (mF (pOpS gLstN (psCons (pC (.int 1)) (psCons (pC (.int 0)) (psCons (pC (.int 2)) (psCons (pC (.int 1)) psNil)))))) (mCallIO (m_law_pull) (aSlot 1 (aVal (mF (pC (.int 4))) aNil)))) msNil)) (l1_law_80 K))
    (sSeq (sSet 4 (mFz (mF (pOpS (callP (m_law_read)) (psCons (pVar 2) psNil)))))
    (sSeq (sSet 5 (mFz (mCallP (m_law_told_5) (psCons (pVar 2) psNil))))
    (sSeq (sIf (mT (pTest (pOp2 oIsN (pVar 4) (pC .non)))) (sRet (mP (pAndV (pOpS (callP (m_law_whole)) (psCons (pVar 5) psNil)) (pOp2 oEq (pVar 5) (pC (.int 0)))))) sNil)
    (sRet (mP (pAndV (pIsi "tuple" (pVar 5)) (pOp2 oEq (pVar 5) (pVar 4)))))))))))
noncomputable def m_law_80 (K : PySem.W.Frag) : List Val → R0 := fnP 6 (g_law_80 K)
end RT

namespace RT
open L2 PyProof.Rows PySem.Spec PySem L2.DL
/-! ### drawing -/
def bagV (nums : List Int) (at_ left salt : Int) : Val := .lst true [.lst true (nums.map .int), .int at_, .int left, .int salt]
theorem atI_lt {α : Type} {xs : List α} {i : Int} (h0 : 0 ≤ i) (h : i < xs.length) : ∃ x, x ∈ xs ∧ atI xs i = some x := by
  obtain ⟨j, rfl⟩ := Int.eq_ofNat_of_zero_le h0
  have hj : j < xs.length := by omega
  exact ⟨xs[j], List.getElem_mem _, atI_nat (List.getElem?_eq_getElem hj)⟩
theorem atI0 {α : Type} {a : α} {xs : List α} : atI (a :: xs) 0 = some a := atI_nat (j := 0) rfl
theorem atI1 {α : Type} {a b : α} {xs : List α} : atI (a :: b :: xs) 1 = some b := atI_nat (j := 1) rfl
theorem atI2 {α : Type} {a b c : α} {xs : List α} : atI (a :: b :: c :: xs) 2 = some c := atI_nat (j := 2) rfl
theorem atI3 {α : Type} {a b c d : α} {xs : List α} : atI (a :: b :: c :: d :: xs) 3 = some d := atI_nat (j := 3) rfl
theorem noOwns_ints (nums : List Int) : noOwns (nums.map Val.int) = true := noOwns_of fun w h => by
  obtain ⟨x, _, rfl⟩ := List.mem_map.mp h; rfl
theorem cMul_r {i j : Int} (h1 : -(2 ^ 64) < j) (h2 : j < 2 ^ 64) : cMul i j = true := by simp only [cMul, ltA_of (i := j) (n := 2 ^ 64) (by omega), Bool.or_true]
theorem oMul_lit {i j : Int} (h1 : -18446744073709551616 < j) (h2 : j < 18446744073709551616) : oMul (.int i) (.int j) = some (.int (i * j)) := oMul_int (cMul_r (by omega) (by omega))
theorem oMul_emod {i j m : Int} (h1 : 0 < m) (h2 : m < 18446744073709551616) : oMul (.int i) (.int (j % m)) = some (.int (i * (j % m))) := by
  have := Int.emod_nonneg j (Int.ne_of_gt h1)
  have := Int.emod_lt_of_pos j h1
  exact oMul_lit (by omega) (by omega)
theorem oPow18 : oPow (.int 10) (.int 18) = some (.int 1000000000000000000) := rfl
theorem pull_big {nums : List Int} {at_ left salt many : Int} (h0 : 0 ≤ at_) (hm : 0 < many) (hm2 : many < 18446744073709551616) :
    ∃ at' left' r, 0 ≤ at' ∧ 0 ≤ r ∧ r < many ∧ m_law_pull [bagV nums at_ left salt, .int many] = .ok (.int r) [some (bagV nums at' left' salt), some (.int many)] := by
  unfold m_law_pull fnIO g_law_pull bagV
  have p4 : ∀ a x w : Val, putW (.lst true [.lst true (nums.map Val.int), a, x, .int salt]) (.int 2) w = some (.lst true [.lst true (nums.map Val.int), a, w, .int salt]) := fun _ _ _ => rfl
  have m0 : ∀ x : Int, 0 ≤ x % many ∧ x % many < many := fun x => ⟨Int.emod_nonneg _ (Int.ne_of_gt hm), Int.emod_lt_of_pos _ hm⟩
  have ix1 : ixN 4 1 = some 1 := rfl
  have om := fun x => oMod_int (i := x) hm
  have od := fun x => oDiv_int (i := x) hm hm2
  have e2 : at_ + 1 - 1 = at_ := by omega
  by_cases hl : left ≤ 1
  · by_cases hb : at_ + 1 ≤ nums.length
    · obtain ⟨x, hx, ex⟩ := atI_lt (xs := nums.map Val.int) (i := at_) h0 (by rw [List.length_map]; omega)
      obtain ⟨y, _, rfl⟩ := List.mem_map.mp hx
      have hb2 : ¬ (nums.length : Int) < at_ + 1 := by omega
      by_cases hs : y < 1000000000000000000
      · simp only [oEqLE_nil, mCatM_ap, oRevZ_tpz, oAddZ_tpz, gTupZ_ap, sSeq_ap, sNil_ap, sIf_ap, sSet_ap, sRet_ap, sRetN_ap, sDrop_ap, sAsg_ap, sFor_ap, sAug_ap, sAugL_ap, sPut_ap, mT_ap, mTest_ap, mF_ap, mP_ap, mMove_ap, mFrz_ap, mFz_ap, sRaiseI_ap, mOp2_ap, mOp1_ap, mOpS_ap, mIx_ap, mIxL_ap, mIte_ap, mNot_ap, mAnd_ap, mOr_ap, mAndV_ap, mOrV_ap, msNil_ap, msCons_ap, psNil_ap, psCons_ap, pVar_ap, pC_ap, pOp1_ap, pOp2_ap, pOpS_ap, pTest_ap, pNot_ap, pAnd_ap, pOr_ap, pVal_ap, pAndV_ap, pOrV_ap, pIte_ap, pChain_ap, pNo_ap, poNone_ap, poSome_ap, pSl_ap, pSlZ_ap, pSeq_ap, mSeq_ap, pRng_ap, mRng_ap, pComp_ap, mComp_ap, pYes_ap, pMet_ap, mMet_ap, mMeth_ap, pIsi_ap, pGet2_ap, aNil_ap, aSlot_ap, aVal_ap, mCallIO_ap, mCall_ap, mCallP_ap, mCallPB_ap, oIsN_ap, sFzE_ap, sAugP_ap, mZip_ap, pZip_ap, fzE_ap, oNotN_ap, oAdd_int, oSub_int, ipAdd_int, ipSub_int, oLt_int, oLe_int, oGt_int, oGe_int, oLt_str, oLe_str, oGt_str, oGe_str, oEq_int, oNe_int, oEq_bl, oNeg_int, oSubs_lst, oSubs_tup, oIx_lst, oIx_tup, oLen_lst, oLen_tup, oIn_str, oNotIn_str, seqOf_str, seqOf_tup, seqOf_lst, startS, RS.seq_nx, RS.seq_ret, RS.seq_brk, RS.seq_ct, RS.seq_err, RS.seq_bad, L2.DL.R.bind_ok, L2.DL.R.bind_err, L2.DL.R.bind_bad, rS_ok, rS_err, rS_bad, Option.bind_some, Option.bind_none, Option.map_some, Option.map_none, Option.join_some, gN, noOwn, noOwns, noObj, noObjs, noSh, noShs, frz, frzs, List.map_cons, List.map_nil, List.getElem?_cons_zero, List.getElem?_cons_succ, List.set_cons_zero, List.set_cons_succ, List.length_cons, List.length_nil, List.cons_append, List.nil_append, List.replicate, setS_nil, setS_cons, gsNil, gsCons, gTn, Bool.and_true, Bool.true_and, Bool.and_false, Bool.false_and, Bool.or_true, Bool.true_or, Bool.or_false, Bool.false_or, Bool.not_true, Bool.not_false, Bool.and_self, if_true, if_false, Bool.false_eq_true, reduceIte, decide_true, decide_false, callIO, callPB, gatherA, backA, List.take_succ_cons, List.take_zero, atI0, atI1, atI2, atI3, Nat.reduceAdd, Nat.reduceSub, Int.reduceLT, Int.reduceLE, Int.reduceNeg, Int.reduceAdd, Int.reduceSub, Int.reduceMul, Nat.reduceLT, Nat.reduceLeDiff, Int.reduceEq, Int.reduceBEq, hl, hb, ix1, List.length_map, e2, ex, hb2, oPow18, hs, oMul_lit, oMul_emod, oMod_int, oDiv_int, om, od]
        exact ⟨_, _, _, by omega, (m0 _).1, (m0 _).2, rfl⟩
      · simp only [oEqLE_nil, mCatM_ap, oRevZ_tpz, oAddZ_tpz, gTupZ_ap, sSeq_ap, sNil_ap, sIf_ap, sSet_ap, sRet_ap, sRetN_ap, sDrop_ap, sAsg_ap, sFor_ap, sAug_ap, sAugL_ap, sPut_ap, mT_ap, mTest_ap, mF_ap, mP_ap, mMove_ap, mFrz_ap, mFz_ap, sRaiseI_ap, mOp2_ap, mOp1_ap, mOpS_ap, mIx_ap, mIxL_ap, mIte_ap, mNot_ap, mAnd_ap, mOr_ap, mAndV_ap, mOrV_ap, msNil_ap, msCons_ap, psNil_ap, psCons_ap, pVar_ap, pC_ap, pOp1_ap, pOp2_ap, pOpS_ap, pTest_ap, pNot_ap, pAnd_ap, pOr_ap, pVal_ap, pAndV_ap, pOrV_ap, pIte_ap, pChain_ap, pNo_ap, poNone_ap, poSome_ap, pSl_ap, pSlZ_ap, pSeq_ap, mSeq_ap, pRng_ap, mRng_ap, pComp_ap, mComp_ap, pYes_ap, pMet_ap, mMet_ap, mMeth_ap, pIsi_ap, pGet2_ap, aNil_ap, aSlot_ap, aVal_ap, mCallIO_ap, mCall_ap, mCallP_ap, mCallPB_ap, oIsN_ap, sFzE_ap, sAugP_ap, mZip_ap, pZip_ap, fzE_ap, oNotN_ap, oAdd_int, oSub_int, ipAdd_int, ipSub_int, oLt_int, oLe_int, oGt_int, oGe_int, oLt_str, oLe_str, oGt_str, oGe_str, oEq_int, oNe_int, oEq_bl, oNeg_int, oSubs_lst, oSubs_tup, oIx_lst, oIx_tup, oLen_lst, oLen_tup, oIn_str, oNotIn_str, seqOf_str, seqOf_tup, seqOf_lst, startS, RS.seq_nx, RS.seq_ret, RS.seq_brk, RS.seq_ct, RS.seq_err, RS.seq_bad, L2.DL.R.bind_ok, L2.DL.R.bind_err, L2.DL.R.bind_bad, rS_ok, rS_err, rS_bad, Option.bind_some, Option.bind_none, Option.map_some, Option.map_none, Option.join_some, gN, noOwn, noOwns, noObj, noObjs, noSh, noShs, frz, frzs, List.map_cons, List.map_nil, List.getElem?_cons_zero, List.getElem?_cons_succ, List.set_cons_zero, List.set_cons_succ, List.length_cons, List.length_nil, List.cons_append, List.nil_append, List.replicate, setS_nil, setS_cons, gsNil, gsCons, gTn, Bool.and_true, Bool.true_and, Bool.and_false, Bool.false_and, Bool.or_true, Bool.true_or, Bool.or_false, Bool.false_or, Bool.not_true, Bool.not_false, Bool.and_self, if_true, if_false, Bool.false_eq_true, reduceIte, decide_true, decide_false, callIO, callPB, gatherA, backA, List.take_succ_cons, List.take_zero, atI0, atI1, atI2, atI3, Nat.reduceAdd, Nat.reduceSub, Int.reduceLT, Int.reduceLE, Int.reduceNeg, Int.reduceAdd, Int.reduceSub, Int.reduceMul, Nat.reduceLT, Nat.reduceLeDiff, Int.reduceEq, Int.reduceBEq, hl, hb, ix1, List.length_map, e2, ex, hb2, oPow18, hs, oMul_lit, oMul_emod, oMod_int, oDiv_int, om, od, p4]
        exact ⟨_, _, _, by omega, (m0 _).1, (m0 _).2, rfl⟩
    · have hb2 : (nums.length : Int) < at_ + 1 := by omega
      simp only [oEqLE_nil, mCatM_ap, oRevZ_tpz, oAddZ_tpz, gTupZ_ap, sSeq_ap, sNil_ap, sIf_ap, sSet_ap, sRet_ap, sRetN_ap, sDrop_ap, sAsg_ap, sFor_ap, sAug_ap, sAugL_ap, sPut_ap, mT_ap, mTest_ap, mF_ap, mP_ap, mMove_ap, mFrz_ap, mFz_ap, sRaiseI_ap, mOp2_ap, mOp1_ap, mOpS_ap, mIx_ap, mIxL_ap, mIte_ap, mNot_ap, mAnd_ap, mOr_ap, mAndV_ap, mOrV_ap, msNil_ap, msCons_ap, psNil_ap, psCons_ap, pVar_ap, pC_ap, pOp1_ap, pOp2_ap, pOpS_ap, pTest_ap, pNot_ap, pAnd_ap, pOr_ap, pVal_ap, pAndV_ap, pOrV_ap, pIte_ap, pChain_ap, pNo_ap, poNone_ap, poSome_ap, pSl_ap, pSlZ_ap, pSeq_ap, mSeq_ap, pRng_ap, mRng_ap, pComp_ap, mComp_ap, pYes_ap, pMet_ap, mMet_ap, mMeth_ap, pIsi_ap, pGet2_ap, aNil_ap, aSlot_ap, aVal_ap, mCallIO_ap, mCall_ap, mCallP_ap, mCallPB_ap, oIsN_ap, sFzE_ap, sAugP_ap, mZip_ap, pZip_ap, fzE_ap, oNotN_ap, oAdd_int, oSub_int, ipAdd_int, ipSub_int, oLt_int, oLe_int, oGt_int, oGe_int, oLt_str, oLe_str, oGt_str, oGe_str, oEq_int, oNe_int, oEq_bl, oNeg_int, oSubs_lst, oSubs_tup, oIx_lst, oIx_tup, oLen_lst, oLen_tup, oIn_str, oNotIn_str, seqOf_str, seqOf_tup, seqOf_lst, startS, RS.seq_nx, RS.seq_ret, RS.seq_brk, RS.seq_ct, RS.seq_err, RS.seq_bad, L2.DL.R.bind_ok, L2.DL.R.bind_err, L2.DL.R.bind_bad, rS_ok, rS_err, rS_bad, Option.bind_some, Option.bind_none, Option.map_some, Option.map_none, Option.join_some, gN, noOwn, noOwns, noObj, noObjs, noSh, noShs, frz, frzs, List.map_cons, List.map_nil, List.getElem?_cons_zero, List.getElem?_cons_succ, List.set_cons_zero, List.set_cons_succ, List.length_cons, List.length_nil, List.cons_append, List.nil_append, List.replicate, setS_nil, setS_cons, gsNil, gsCons, gTn, Bool.and_true, Bool.true_and, Bool.and_false, Bool.false_and, Bool.or_true, Bool.true_or, Bool.or_false, Bool.false_or, Bool.not_true, Bool.not_false, Bool.and_self, if_true, if_false, Bool.false_eq_true, reduceIte, decide_true, decide_false, callIO, callPB, gatherA, backA, List.take_succ_cons, List.take_zero, atI0, atI1, atI2, atI3, Nat.reduceAdd, Nat.reduceSub, Int.reduceLT, Int.reduceLE, Int.reduceNeg, Int.reduceAdd, Int.reduceSub, Int.reduceMul, Nat.reduceLT, Nat.reduceLeDiff, Int.reduceEq, Int.reduceBEq, hl, hb, ix1, List.length_map, e2, hb2, oPow18, oMul_lit, oMul_emod, oMod_int, oDiv_int, om, od]
      exact ⟨_, _, _, by omega, (m0 _).1, (m0 _).2, rfl⟩
  · simp only [oEqLE_nil, mCatM_ap, oRevZ_tpz, oAddZ_tpz, gTupZ_ap, sSeq_ap, sNil_ap, sIf_ap, sSet_ap, sRet_ap, sRetN_ap, sDrop_ap, sAsg_ap, sFor_ap, sAug_ap, sAugL_ap, sPut_ap, mT_ap, mTest_ap, mF_ap, mP_ap, mMove_ap, mFrz_ap, mFz_ap, sRaiseI_ap, mOp2_ap, mOp1_ap, mOpS_ap, mIx_ap, mIxL_ap, mIte_ap, mNot_ap, mAnd_ap, mOr_ap, mAndV_ap, mOrV_ap, msNil_ap, msCons_ap, psNil_ap, psCons_ap, pVar_ap, pC_ap, pOp1_ap, pOp2_ap, pOpS_ap, pTest_ap, pNot_ap, pAnd_ap, pOr_ap, pVal_ap, pAndV_ap, pOrV_ap, pIte_ap, pChain_ap, pNo_ap, poNone_ap, poSome_ap, pSl_ap, pSlZ_ap, pSeq_ap, mSeq_ap, pRng_ap, mRng_ap, pComp_ap, mComp_ap, pYes_ap, pMet_ap, mMet_ap, mMeth_ap, pIsi_ap, pGet2_ap, aNil_ap, aSlot_ap, aVal_ap, mCallIO_ap, mCall_ap, mCallP_ap, mCallPB_ap, oIsN_ap, sFzE_ap, sAugP_ap, mZip_ap, pZip_ap, fzE_ap, oNotN_ap, oAdd_int, oSub_int, ipAdd_int, ipSub_int, oLt_int, oLe_int, oGt_int, oGe_int, oLt_str, oLe_str, oGt_str, oGe_str, oEq_int, oNe_int, oEq_bl, oNeg_int, oSubs_lst, oSubs_tup, oIx_lst, oIx_tup, oLen_lst, oLen_tup, oIn_str, oNotIn_str, seqOf_str, seqOf_tup, seqOf_lst, startS, RS.seq_nx, RS.seq_ret, RS.seq_brk, RS.seq_ct, RS.seq_err, RS.seq_bad, L2.DL.R.bind_ok, L2.DL.R.bind_err, L2.DL.R.bind_bad, rS_ok, rS_err, rS_bad, Option.bind_some, Option.bind_none, Option.map_some, Option.map_none, Option.join_some, gN, noOwn, noOwns, noObj, noObjs, noSh, noShs, frz, frzs, List.map_cons, List.map_nil, List.getElem?_cons_zero, List.getElem?_cons_succ, List.set_cons_zero, List.set_cons_succ, List.length_cons, List.length_nil, List.cons_append, List.nil_append, List.replicate, setS_nil, setS_cons, gsNil, gsCons, gTn, Bool.and_true, Bool.true_and, Bool.and_false, Bool.false_and, Bool.or_true, Bool.true_or, Bool.or_false, Bool.false_or, Bool.not_true, Bool.not_false, Bool.and_self, if_true, if_false, Bool.false_eq_true, reduceIte, decide_true, decide_false, callIO, callPB, gatherA, backA, List.take_succ_cons, List.take_zero, atI0, atI1, atI2, atI3, Nat.reduceAdd, Nat.reduceSub, Int.reduceLT, Int.reduceLE, Int.reduceNeg, Int.reduceAdd, Int.reduceSub, Int.reduceMul, Nat.reduceLT, Nat.reduceLeDiff, Int.reduceEq, Int.reduceBEq, hl, om, od, p4]
    exact ⟨_, _, _, h0, (m0 _).1, (m0 _).2, rfl⟩
theorem pull_spec {nums : List Int} {at_ left salt many : Int} (h0 : 0 ≤ at_) (hm : 0 < many) (hm2 : many < 1073741824) :
    ∃ at' left' r, 0 ≤ at' ∧ 0 ≤ r ∧ r < many ∧ m_law_pull [bagV nums at_ left salt, .int many] = .ok (.int r) [some (bagV nums at' left' salt), some (.int many)] := pull_big h0 hm (by omega)
end RT

local macro_rules
  | `(tactic| simp! [$ts,*] $[$loc]?) => `(tactic| simp only [L2.DL.oEqLE_nil, L2.DL.mCatM_ap, L2.DL.oRevZ_tpz, L2.DL.oAddZ_tpz, L2.DL.gTupZ_ap, L2.DL.sSeq_ap, L2.DL.sNil_ap, L2.DL.sIf_ap, L2.DL.sSet_ap, L2.DL.sRet_ap, L2.DL.sRetN_ap, L2.DL.sDrop_ap, L2.DL.sAsg_ap, L2.DL.sFor_ap, L2.DL.sAug_ap, L2.DL.sAugL_ap, L2.DL.sPut_ap, L2.DL.mT_ap, L2.DL.mTest_ap, L2.DL.mF_ap, L2.DL.mP_ap, L2.DL.mMove_ap, L2.DL.mFrz_ap, L2.DL.mFz_ap, L2.DL.sRaiseI_ap, L2.DL.mOp2_ap, L2.DL.mOp1_ap, L2.DL.mOpS_ap, L2.DL.mIx_ap, L2.DL.mIxL_ap, L2.DL.mIte_ap, L2.DL.mNot_ap, L2.DL.mAnd_ap, L2.DL.mOr_ap, L2.DL.mAndV_ap, L2.DL.mOrV_ap, L2.DL.msNil_ap, L2.DL.msCons_ap, L2.DL.psNil_ap, L2.DL.psCons_ap, L2.DL.pVar_ap, L2.DL.pC_ap, L2.DL.pOp1_ap, L2.DL.pOp2_ap, L2.DL.pOpS_ap, L2.DL.pTest_ap, L2.DL.pNot_ap, L2.DL.pAnd_ap, L2.DL.pOr_ap, L2.DL.pVal_ap, L2.DL.pAndV_ap, L2.DL.pOrV_ap, L2.DL.pIte_ap, L2.DL.pChain_ap, L2.DL.pNo_ap, L2.DL.poNone_ap, L2.DL.poSome_ap, L2.DL.pSl_ap, L2.DL.pSlZ_ap, L2.DL.pSeq_ap, L2.DL.mSeq_ap, L2.DL.pRng_ap, L2.DL.mRng_ap, L2.DL.pComp_ap, L2.DL.mComp_ap, L2.DL.pYes_ap, L2.DL.pMet_ap, L2.DL.mMet_ap, L2.DL.mMeth_ap, L2.DL.pIsi_ap, L2.DL.pGet2_ap, L2.DL.aNil_ap, L2.DL.aSlot_ap, L2.DL.aVal_ap, L2.DL.mCallIO_ap, L2.DL.mCall_ap, L2.DL.mCallP_ap, L2.DL.mCallPB_ap, L2.DL.oIsN_ap, L2.DL.sFzE_ap, L2.DL.sAugP_ap, L2.DL.mZip_ap, L2.DL.pZip_ap, L2.DL.fzE_ap, L2.DL.oNotN_ap, L2.DL.oAdd_int, L2.DL.oSub_int, L2.DL.ipAdd_int, L2.DL.ipSub_int, L2.DL.oLt_int, L2.DL.oLe_int, L2.DL.oGt_int, L2.DL.oGe_int, L2.DL.oLt_str, L2.DL.oLe_str, L2.DL.oGt_str, L2.DL.oGe_str, L2.DL.oEq_int, L2.DL.oNe_int, L2.DL.oEq_bl, L2.DL.oNeg_int, L2.DL.oSubs_lst, L2.DL.oSubs_tup, L2.DL.oIx_lst, L2.DL.oIx_tup, L2.DL.oLen_lst, L2.DL.oLen_tup, L2.DL.oIn_str, L2.DL.oNotIn_str, L2.DL.seqOf_str, L2.DL.seqOf_tup, L2.DL.seqOf_lst, L2.DL.startS, L2.DL.RS.seq_nx, L2.DL.RS.seq_ret, L2.DL.RS.seq_brk, L2.DL.RS.seq_ct, L2.DL.RS.seq_err, L2.DL.RS.seq_bad, L2.DL.R.bind_ok, L2.DL.R.bind_err, L2.DL.R.bind_bad, L2.DL.rS_ok, L2.DL.rS_err, L2.DL.rS_bad, Option.bind_some, Option.bind_none, Option.map_some, Option.map_none, Option.join_some, L2.DL.gN, L2.DL.noOwn, L2.DL.noOwns, L2.DL.noObj, L2.DL.noObjs, L2.DL.noSh, L2.DL.noShs, L2.DL.frz, L2.DL.frzs, List.map_cons, List.map_nil, List.getElem?_cons_zero, List.getElem?_cons_succ, List.set_cons_zero, List.set_cons_succ, List.length_cons, List.length_nil, List.cons_append, List.nil_append, List.replicate, L2.DL.setS_nil, L2.DL.setS_cons, L2.DL.gsNil, L2.DL.gsCons, L2.DL.gTn, Bool.and_true, Bool.true_and, Bool.and_false, Bool.false_and, Bool.or_true, Bool.true_or, Bool.or_false, Bool.false_or, Bool.not_true, Bool.not_false, Bool.and_self, if_true, if_false, Bool.false_eq_true, reduceIte, decide_true, decide_false, L2.DL.callIO, L2.DL.callPB, L2.DL.gatherA, L2.DL.backA, List.take_succ_cons, List.take_zero, RT.atI0, RT.atI1, RT.atI2, RT.atI3, Nat.reduceAdd, Nat.reduceSub, Int.reduceLT, Int.reduceLE, Int.reduceNeg, Int.reduceAdd, Int.reduceSub, Int.reduceMul, Nat.reduceLT, Nat.reduceLeDiff, Int.reduceEq, Int.reduceBEq, $ts,*] $[$loc]?)

namespace RT
open L2 PyProof.Rows PySem.Spec PySem L2.DL
theorem bag_loop (K : PySem.W.Frag) (s : Val) : ∀ (ns : List Int) (salt : Int) (x : Option Val), ∃ salt' x', forL [2] gN (l1_law_bag K) (ns.map .int) [some s, some (.int salt), x] = .nx [some s, some (.int salt'), x']
  | [], salt, x => ⟨salt, x, rfl⟩
  | n :: ns, salt, x => by
    obtain ⟨a, b, e⟩ := bag_loop K s ns ((salt * 1009 + n) % 1000003) (some (.int n))
    refine ⟨a, b, ?_⟩
    rw [List.map_cons, forL]
    simp! [l1_law_bag, oMul_lit, oMod_int]
    exact e
theorem bag_spec (K : PySem.W.Frag) (ns : List Int) : ∃ nums salt, m_law_bag K [.scr K ns] = .ok (bagV nums 0 0 salt) := by
  have e1 : ∀ ρ, pSlice K (pVar 0) poNone (poSome (pC (.int 63))) (some (.scr K ns) :: ρ) = some (.lst true (cutW (ns.map .int) none (some 63))) := fun ρ => by
    simp! [pSlice, oSlice]
  obtain ⟨nums, en⟩ : ∃ nums : List Int, cutW (ns.map Val.int) none (some 63) = nums.map .int := by
    refine ⟨(ns.drop (HT.sIx ns.length 0 none)).take (HT.sIx ns.length ns.length (some 63) - HT.sIx ns.length 0 none), ?_⟩
    simp only [cutW, List.length_map, List.map_take, List.map_drop]
  unfold m_law_bag fnP g_law_bag
  simp! [e1, en]
  obtain ⟨a, b, e⟩ := bag_loop K (.scr K ns) nums (nums.map Val.int).length none
  rw [e]
  have oL : oList [.lst true (nums.map .int)] = some (.lst true (nums.map .int)) := by simp only [oList, noOwns_ints, if_true]
  simp! [e1, en, oL]
  exact ⟨nums, a, rfl⟩
end RT

namespace RT
open L2 PyProof.Rows PySem.Spec PySem L2.DL SX
def abcL : List Nat := (List.range 26).map (· + 97)
def abcS : Str := "abcdefghijklmnopqrstuvwxyz"
theorem abc_eq : abcS.cps.toList = abcL := by decide +kernel
theorem abc_len : abcS.length = 26 := by decide +kernel
theorem sizeLine_eq : sizeLine = 16777216 := rfl
theorem wipe3 {a b c d : Option Val} : wipeS [a, b, c, d] [3] = [a, b, c, none] := rfl
theorem word_loop {nums : List Int} {salt : Int} {size : Val} : ∀ (ws : List Val) (acc : List Nat) (at_ left : Int), 0 ≤ at_ → noOwns ws = true → (∀ c ∈ acc, c ∈ abcL) → acc.length + ws.length ≤ 100000 →
    ∃ (acc' : List Nat) (at' left' : Int), 0 ≤ at' ∧ acc'.length = acc.length + ws.length ∧ (∀ c ∈ acc', c ∈ abcL) ∧
      compM [3] [3] gN (mT pYes) (mIxL oIx 2 (mCallIO (m_law_pull) (aSlot 0 (aVal (mF (pC (.int 26))) aNil)))) ws (acc.map fun c => .str (S [c])) [some (bagV nums at_ left salt), some size, some (.str abcS), none]
        = .ok (acc'.map fun c => .str (S [c])) [some (bagV nums at' left' salt), some size, some (.str abcS), none]
  | [], acc, at_, left, h0, _, ha, _ => ⟨acc, at_, left, h0, by simp, ha, rfl⟩
  | w :: ws, acc, at_, left, h0, hw, ha, hl => by
    simp only [noOwns, Bool.and_eq_true] at hw
    obtain ⟨at1, left1, r, h1, hr0, hr1, e1⟩ := pull_spec (nums := nums) (left := left) (salt := salt) (many := 26) h0 (by decide) (by decide)
    obtain ⟨c, hc, ec⟩ := atI_lt (xs := abcS.cps.toList) (i := r) hr0 (by rw [abc_eq]; exact hr1)
    rw [abc_eq] at hc
    simp only [List.length_cons] at hl
    obtain ⟨acc', at2, left2, h2, l2, m2, e2⟩ := word_loop ws (acc ++ [c]) at1 left1 h1 hw.2 (fun x hx => by
      rcases List.mem_append.mp hx with hx | hx
      · exact ha x hx
      · rw [List.mem_singleton.mp hx]; exact hc) (by simp; omega)
    refine ⟨acc', at2, left2, h2, by simp at l2; simp; omega, m2, ?_⟩
    have ix : oIx (.str abcS) (.int r) = some (.str (S [c])) := by
      simp only [oIx, abc_len, sizeLine_eq, ec]; rfl
    have la : acc.length < sizeLine := by rw [sizeLine_eq]; omega
    rw [compM]
    simp! [hw.1, nE_ok, e1, ix, wipe3, List.length_map, la]
    rw [List.map_append] at e2
    exact e2
theorem joinL_single : ∀ l : List Nat, TL.joinL [] (l.map fun c => [c]) = l
  | [] => rfl
  | [_] => rfl
  | a :: b :: r => by
    have := joinL_single (b :: r)
    simp only [List.map_cons] at this ⊢
    show [a] ++ ([] ++ TL.joinL [] ([b] :: r.map fun c => [c])) = a :: b :: r
    rw [this]; rfl
theorem strs_map (l : List (List Nat)) : strsOf (l.map fun c => .str (S c)) = some (l.map S) := by
  induction l with
  | nil => rfl
  | cons a l ih => simp only [List.map_cons, strsOf, ih, Option.map_some]
theorem sum_ones (l : List Nat) : ((l.map fun c => S [c]).map (·.length)).sum = l.length := by
  induction l with
  | nil => rfl
  | cons a l ih => simp only [List.map_cons, List.sum_cons, ih, S_len, List.length_cons, List.length_nil]; omega
theorem join_letters {l : List Nat} (h : l.length ≤ 100000) : gJoin (.str ("" : Str)) [.lst true (l.map fun c => .str (S [c]))] = some (.str (S l)) := by
  have e1 : strsOf (l.map fun c => .str (S [c])) = some (l.map fun c => S [c]) := by
    have := strs_map (l.map fun c => [c])
    simpa only [List.map_map, Function.comp_def] using this
  have e2 : Txt.join ("" : Str) (l.map fun c => S [c]) = S l := by
    have := join_S [] (l.map fun c => [c])
    rw [joinL_single, List.map_map] at this
    exact this
  have e3 : ((l.map fun c => S [c]).map (·.length)).sum + (l.map fun c => S [c]).length * ("" : Str).length ≤ 16777216 := by
    rw [sum_ones]; simp [show ("" : Str).length = 0 from rfl]; omega
  simp only [gJoin, e1, Option.bind_some, e2, e3, if_true]
theorem rng_no (a b : Int) : noOwns (rng a b) = true := noOwns_of fun w h => by
  obtain ⟨x, _, rfl⟩ := List.mem_map.mp h; rfl
theorem rng_len (a b : Int) : (rng a b).length = (b - a).toNat := by simp [rng]
theorem word_spec {nums : List Int} {at_ left salt : Int} {size : Int} (h0 : 0 ≤ at_) (hs : 0 ≤ size) (hs2 : size ≤ 100000) :
    ∃ (at' left' : Int) (l : List Nat), 0 ≤ at' ∧ (l.length : Int) = size ∧ (∀ c ∈ l, c ∈ abcL) ∧ m_law_word [bagV nums at_ left salt, .int size] = .ok (.str (S l)) [some (bagV nums at' left' salt), some (.int size)] := by
  obtain ⟨l, at', left', h1, h2, h3, e⟩ := word_loop (nums := nums) (salt := salt) (size := .int size) (rng 0 size) [] at_ left h0 (rng_no _ _) (by simp) (by rw [rng_len]; simp; omega)
  rw [rng_len] at h2
  simp only [List.length_nil, Int.sub_zero] at h2
  refine ⟨at', left', l, h1, by omega, h3, ?_⟩
  unfold m_law_word fnIO g_law_word
  have r1 := rngOf_one (j := size) (by omega) (by omega)
  have e' : compM [3] [3] gN (mT pYes) (mIxL oIx 2 (mCallIO (m_law_pull) (aSlot 0 (aVal (mF (pC (.int 26))) aNil)))) (rng 0 size) [] [some (bagV nums at_ left salt), some (.int size), some (.str ("abcdefghijklmnopqrstuvwxyz" : Str)), none] = .ok (l.map fun c => .str (S [c])) [some (bagV nums at' left' salt), some (.int size), some (.str ("abcdefghijklmnopqrstuvwxyz" : Str)), none] := e
  simp! [isStr, r1, wipe3, e', join_letters (l := l) (by omega)]
end RT

namespace RT
open L2 PyProof.Rows PySem.Spec PySem L2.DL SX
/-! ### what is told: True or False -/
/-! ### names -/
def isNm (l : List Nat) : Bool := decide (1 ≤ l.length ∧ l.length ≤ 8) && l.all fun c => decide (c ∈ abcL)
theorem strIn_one (c : Nat) (b : Str) : strIn ⟨#[c]⟩ b = decide (c ∈ b.cps.toList) := rfl
theorem signs_S (l : List Nat) : DL.signs (S l) = l.map fun c => Val.str ⟨#[c]⟩ := by simp [DL.signs, S]
theorem name_loop (s : Val) : ∀ (l : List Nat) (x : Option Val), ∃ x', forL [1] gN l1_is_name (l.map fun c => Val.str ⟨#[c]⟩) [some s, x] = if l.all (fun c => decide (c ∈ abcL)) = true then .nx [some s, x'] else .ret (.bl false) [some s, x']
  | [], x => ⟨x, rfl⟩
  | c :: l, x => by
    obtain ⟨x', e⟩ := name_loop s l (some (.str ⟨#[c]⟩))
    by_cases hc : c ∈ abcL
    · refine ⟨x', ?_⟩
      rw [List.map_cons, forL]
      have : c ∈ abcS.cps.toList := by rw [abc_eq]; exact hc
      have e1 : strIn ⟨#[c]⟩ ("abcdefghijklmnopqrstuvwxyz" : Str) = true := by rw [strIn_one]; exact decide_eq_true this
      simp! [l1_is_name, e1, List.all_cons, hc]
      exact e
    · refine ⟨some (.str ⟨#[c]⟩), ?_⟩
      rw [List.map_cons, forL]
      have : c ∉ abcS.cps.toList := by rw [abc_eq]; exact hc
      have e1 : strIn ⟨#[c]⟩ ("abcdefghijklmnopqrstuvwxyz" : Str) = false := by rw [strIn_one]; exact decide_eq_false this
      simp! [l1_is_name, e1, List.all_cons, hc]
theorem name_spec {l : List Nat} (h : l.length ≤ 16777216) : m_is_name [.str (S l)] = .ok (.bl (isNm l)) := by
  have hl : oLen [.str (S l)] = some (.int l.length) := by rw [oLen_str (by rw [S_len]; exact h), S_len]
  unfold m_is_name fnP g_is_name
  by_cases h1 : 1 ≤ l.length
  · by_cases h2 : l.length ≤ 8
    · have a1 : (1 : Int) ≤ l.length := by omega
      have a2 : (l.length : Int) ≤ 8 := by omega
      obtain ⟨x', e⟩ := name_loop (.str (S l)) l none
      simp! [hl, a1, a2, signs_S, e, isNm, h1, h2, and_self]
      cases l.all fun c => decide (c ∈ abcL) <;> rfl
    · have a1 : (1 : Int) ≤ l.length := by omega
      have a2 : ¬ (l.length : Int) ≤ 8 := by omega
      simp! [hl, a1, a2, isNm, h2, and_false]
  · have a1 : ¬ (1 : Int) ≤ l.length := by omega
    simp! [hl, a1, isNm, h1, false_and]
end RT

namespace RT
open L2 PyProof.Rows PySem.Spec PySem L2.DL SX
/-! ### lists of names -/
def encN (ss : List (List Nat)) : List Val := ss.map fun s => .str (S s)
theorem encN_cons (s : List Nat) (ss : List (List Nat)) : encN (s :: ss) = .str (S s) :: encN ss := rfl
theorem encN_app (ss tt : List (List Nat)) : encN (ss ++ tt) = encN ss ++ encN tt := List.map_append
theorem encN_len (ss : List (List Nat)) : (encN ss).length = ss.length := List.length_map _
theorem noOwns_N (ss : List (List Nat)) : noOwns (encN ss) = true := noOwns_of fun w h => by
  obtain ⟨x, _, rfl⟩ := List.mem_map.mp h; rfl
theorem noShs_N (ss : List (List Nat)) : noShs (encN ss) = true := noShs_of fun w h => by
  obtain ⟨x, _, rfl⟩ := List.mem_map.mp h; rfl
theorem noObjs_N (ss : List (List Nat)) : noObjs (encN ss) = true := noObjs_of fun w h => by
  obtain ⟨x, _, rfl⟩ := List.mem_map.mp h; rfl
theorem frzs_N : ∀ ss : List (List Nat), frzs (encN ss) = encN ss
  | [] => rfl
  | s :: ss => by rw [encN_cons, frzs, frz, frzs_N ss]
theorem atI_N {ss : List (List Nat)} {i : Nat} (h : i < ss.length) : atI (encN ss) (i : Int) = some (.str (S ss[i])) := by
  refine atI_nat ?_
  rw [encN, List.getElem?_map, List.getElem?_eq_getElem h]; rfl
theorem atoms_N : ∀ ss : List (List Nat), atoms (encN ss) = some (ss.map fun s => .str (S s))
  | [] => rfl
  | s :: ss => by rw [encN_cons]; simp only [atoms, atom, atoms_N ss, Option.bind_some, Option.map_some, List.map_cons]
theorem inV_N (s : List Nat) (ss : List (List Nat)) : inV (.str (S s)) (ss.map fun s => V.str (S s)) = decide (s ∈ ss) := by
  induction ss with
  | nil => rfl
  | cons t ss ih =>
    unfold inV at ih ⊢
    rw [List.map_cons, List.any_cons, ih]
    have : eqV (V.str (S t)) (V.str (S s)) = decide (t = s) := S_beq_eq
    rw [this]
    by_cases e : t = s
    · subst e; simp
    · have e2 : ¬ s = t := fun z => e z.symm
      simp [e, e2]
theorem oIn_N (s : List Nat) (o : Bool) (ss : List (List Nat)) : oIn (.str (S s)) (.lst o (encN ss)) = some (.bl (decide (s ∈ ss))) := by
  simp only [oIn, inB, atom, atoms_N, inV_N, Option.map_some]
/-! ### texts of letters -/
theorem str_add {a b : List Nat} (h : a.length + b.length ≤ 16777216) : oAdd (.str (S a)) (.str (S b)) = some (.str (S (a ++ b))) := by
  simp only [oAdd, S_len, S_cat, sizeLine_eq, h, if_true]
theorem str_to {a : List Nat} {i : Int} (h : a.length ≤ 16777216) (h0 : 0 ≤ i) : oSl (.str (S a)) none (some i) = some (.str (S (a.take i.toNat))) := by
  simp only [oSl, S_len, sizeLine_eq, h, if_true, slice_to h0]
theorem str_from {a : List Nat} {i : Int} (h : a.length ≤ 16777216) (h0 : 0 ≤ i) : oSl (.str (S a)) (some i) none = some (.str (S (a.drop i.toNat))) := by
  simp only [oSl, S_len, sizeLine_eq, h, if_true, slice_from h0]
theorem str_butlast {a : List Nat} (h : a.length ≤ 16777216) (h0 : a ≠ []) : oSl (.str (S a)) none (some (-1)) = some (.str (S (a.take (a.length - 1)))) := by
  simp only [oSl, S_len, sizeLine_eq, h, if_true, slice_butlast h0]
theorem str_len {a : List Nat} (h : a.length ≤ 16777216) : oLen [.str (S a)] = some (.int a.length) := by
  rw [oLen_str (by rw [S_len]; exact h), S_len]
theorem oSubs_str {a : List Nat} {i : Nat} (h : i < a.length) (h2 : a.length ≤ 16777216) : oSubs (.str (S a)) (.int i) = some (.str (S [a[i]])) := by
  have : atI (S a).cps.toList (i : Int) = some a[i] := atI_nat (List.getElem?_eq_getElem h)
  simp only [oSubs, isDict, oIx, S_len, sizeLine_eq, h2, if_true, this, Bool.false_eq_true, if_false, Option.map_some]
/-! ### drawn names -/
def nm8 (s : List Nat) : Prop := 1 ≤ s.length ∧ s.length ≤ 8 ∧ ∀ c ∈ s, c ∈ abcL
def stepN (ss : List (List Nat)) (s : List Nat) (k : Nat) : List Nat := if s ∈ ss then s.take (s.length - 1) ++ [abcL.getD k 0] else s
theorem stepN_neg {ss : List (List Nat)} {s : List Nat} {k : Nat} (h : s ∉ ss) : stepN ss s k = s := if_neg h
theorem stepN_pos {ss : List (List Nat)} {s : List Nat} {k : Nat} (h : s ∈ ss) : stepN ss s k = s.take (s.length - 1) ++ [abcL.getD k 0] := if_pos h
theorem names_step {a b w4 : Option Val} {ss : List (List Nat)} {x5 : Option Val} : ∀ (ks : List Nat) (s : List Nat) (x : Option Val), nm8 s → (∀ k ∈ ks, k < 26) →
    ∃ x', nm8 (ks.foldl (stepN ss) s) ∧ forL [7] gN l1_law_names (ks.map fun k : Nat => Val.int (k : Int)) [a, b, some (.str abcS), some (.lst true (encN ss)), w4, x5, some (.str (S s)), x] = .nx [a, b, some (.str abcS), some (.lst true (encN ss)), w4, x5, some (.str (S (ks.foldl (stepN ss) s))), x']
  | [], s, x, hs, _ => ⟨x, hs, rfl⟩
  | k :: ws, s, x, hs, hw => by
    have hk := hw _ List.mem_cons_self
    rw [List.map_cons, List.foldl_cons]
    by_cases hi : s ∈ ss
    · have hne : s ≠ [] := fun e => by subst e; exact absurd hs.1 (by decide)
      have eD : abcL.getD k 0 = abcL[k] := by rw [List.getD_eq_getElem?_getD, List.getElem?_eq_getElem hk]; rfl
      have hc : abcL.getD k 0 ∈ abcL := by rw [eD]; exact List.getElem_mem _
      have ec : oSubs (.str abcS) (.int k) = some (.str (S [abcL.getD k 0])) := by
        rw [eD]
        have := oSubs_str (a := abcL) (i := k) hk (by decide)
        rwa [show S abcL = abcS from by rw [← abc_eq]] at this
      have es : stepN ss s k = s.take (s.length - 1) ++ [abcL.getD k 0] := if_pos hi
      rw [es]
      generalize abcL.getD k 0 = c at *
      have h2 : nm8 (s.take (s.length - 1) ++ [c]) := by
        obtain ⟨h1, h2, h3⟩ := hs
        refine ⟨by simp only [List.length_append, List.length_take, List.length_cons, List.length_nil]; omega, by simp only [List.length_append, List.length_take, List.length_cons, List.length_nil]; omega, fun d hd => ?_⟩
        rcases List.mem_append.mp hd with hd | hd
        · exact h3 d (List.mem_of_mem_take hd)
        · rw [List.mem_singleton.mp hd]; exact hc
      obtain ⟨x', hs', e⟩ := names_step ws (s.take (s.length - 1) ++ [c]) (some (.int k)) h2 fun w h => hw w (List.mem_cons_of_mem _ h)
      refine ⟨x', hs', ?_⟩
      rw [forL]
      have l1 : s.length ≤ 16777216 := Nat.le_trans hs.2.1 (by decide)
      have a1 := str_add (a := s.take (s.length - 1)) (b := [c]) (by simp only [List.length_take, List.length_cons, List.length_nil]; omega)
      simp! [l1_law_names, oIn_N, hi, str_butlast l1 hne, ec, a1, Int.reduceNeg]
      exact e
    · have es : stepN ss s k = s := if_neg hi
      rw [es]
      obtain ⟨x', hs', e⟩ := names_step ws s (some (.int k)) hs fun w h => hw w (List.mem_cons_of_mem _ h)
      refine ⟨x', hs', ?_⟩
      rw [forL]
      simp! [l1_law_names, oIn_N, hi]
      exact e
/-! the name drawn is a new one -/
theorem nodup_len {α : Type} [DecidableEq α] : ∀ (l k : List α), l.Nodup → (∀ x ∈ l, x ∈ k) → l.length ≤ k.length
  | [], k, _, _ => Nat.zero_le _
  | a :: l, k, h, hm => by
    rw [List.nodup_cons] at h
    have ha := hm a List.mem_cons_self
    have := nodup_len l (k.erase a) h.2 fun x hx => (List.mem_erase_of_ne fun e => h.1 (by rw [← e]; exact hx)).mpr (hm x (List.mem_cons_of_mem _ hx))
    rw [List.length_erase_of_mem ha] at this
    have hp : 0 < k.length := List.length_pos_of_mem ha
    rw [List.length_cons]; omega
def nthN (pre : List Nat) (j : Nat) : List Nat := pre ++ [abcL.getD j 0]
theorem steps_inv (ss : List (List Nat)) (s : List Nat) (hne : s ≠ []) : ∀ k : Nat, (List.range k).foldl (stepN ss) s ∉ ss ∨ ((∀ j, j + 1 < k → nthN (s.take (s.length - 1)) j ∈ ss) ∧ (k = 0 → (List.range k).foldl (stepN ss) s = s) ∧ (0 < k → (List.range k).foldl (stepN ss) s = nthN (s.take (s.length - 1)) (k - 1)))
  | 0 => .inr ⟨fun j h => absurd h (by omega), fun _ => rfl, fun h => absurd h (by omega)⟩
  | k + 1 => by
    rw [List.range_succ, List.foldl_append]
    show stepN ss ((List.range k).foldl (stepN ss) s) k ∉ ss ∨ _
    rcases steps_inv ss s hne k with h | ⟨h1, h2, h3⟩
    · left
      rw [stepN_neg h]; exact h
    · by_cases hm : (List.range k).foldl (stepN ss) s ∈ ss
      · right
        have e : stepN ss ((List.range k).foldl (stepN ss) s) k = nthN (s.take (s.length - 1)) k := by
          rw [stepN_pos hm]
          by_cases hk : k = 0
          · rw [h2 hk]; rfl
          · rw [h3 (by omega)]
            unfold nthN
            rw [List.length_append, List.length_cons, List.length_nil, Nat.add_sub_cancel, List.take_left]
        refine ⟨fun j hj => ?_, fun h => absurd h (by omega), fun _ => by rw [Nat.add_sub_cancel]; exact e⟩
        by_cases hj2 : j + 1 < k
        · exact h1 j hj2
        · have ej : j = k - 1 := by omega
          rw [ej, ← h3 (by omega)]; exact hm
      · left
        rw [stepN_neg hm]; exact hm
theorem abc_nodup : abcL.Nodup := by decide
theorem steps_new {ss : List (List Nat)} {s : List Nat} (hne : s ≠ []) (hl : ss.length < 26) : (List.range 26).foldl (stepN ss) s ∉ ss := by
  intro hm
  rcases steps_inv ss s hne 26 with h | ⟨h1, _, h3⟩
  · exact h hm
  · rw [h3 (by decide)] at hm
    have : (abcL.map fun c => s.take (s.length - 1) ++ [c]).length ≤ ss.length := nodup_len _ _ ?_ ?_
    · rw [List.length_map] at this
      exact absurd this (by rw [show abcL.length = 26 from rfl]; omega)
    · refine List.Pairwise.map _ (fun a b hab => ?_) abc_nodup
      intro e
      exact hab (by simpa using e)
    · intro x hx
      obtain ⟨c, hc, rfl⟩ := List.mem_map.mp hx
      obtain ⟨j, hj, rfl⟩ := List.getElem_of_mem hc
      have hj26 : j < 26 := hj
      have e : s.take (s.length - 1) ++ [abcL[j]] = nthN (s.take (s.length - 1)) j := by
        unfold nthN
        rw [List.getD_eq_getElem?_getD, List.getElem?_eq_getElem hj]; rfl
      refine Eq.mpr (congrArg (· ∈ ss) e) ?_
      by_cases h : j + 1 < 26
      · exact h1 j h
      · have h25 : j = 25 := by omega
        show nthN (s.take (s.length - 1)) j ∈ ss
        rw [h25]; exact hm
theorem rng26 : rng 0 26 = (List.range 26).map fun k : Nat => Val.int (k : Int) := rfl
theorem names_loop {nums : List Int} {salt : Int} {b : Option Val} {st : List Nat} (hst : st.length ≤ 7 ∧ ∀ c ∈ st, c ∈ abcL) : ∀ (ws : List Val) (ss : List (List Nat)) (at_ left : Int) (x5 x6 x7 : Option Val), 0 ≤ at_ → ((∀ s ∈ ss, nm8 s) ∧ ss.Nodup) → ss.length + ws.length ≤ 26 → noOwns ws = true →
    ∃ (ss' : List (List Nat)) (at' left' : Int) (y5 y6 y7 : Option Val), 0 ≤ at' ∧ ((∀ s ∈ ss', nm8 s) ∧ ss'.Nodup) ∧ ss'.length = ss.length + ws.length ∧
      forL [5] gN l2_law_names ws [some (bagV nums at_ left salt), b, some (.str abcS), some (.lst true (encN ss)), some (.str (S st)), x5, x6, x7] = .nx [some (bagV nums at' left' salt), b, some (.str abcS), some (.lst true (encN ss')), some (.str (S st)), y5, y6, y7]
  | [], ss, at_, left, x5, x6, x7, h0, hs, _, _ => ⟨ss, at_, left, x5, x6, x7, h0, hs, rfl, rfl⟩
  | w :: ws, ss, at_, left, x5, x6, x7, h0, hs, hl, hw => by
    simp only [noOwns, Bool.and_eq_true] at hw
    simp only [List.length_cons] at hl
    have ll := str_len (a := st) (by omega)
    obtain ⟨at1, left1, r1, h1, hr0, hr1, e1⟩ := pull_spec (nums := nums) (left := left) (salt := salt) (many := 8 - st.length) h0 (by omega) (by omega)
    obtain ⟨at2, left2, l, h2, hl2, hm, e2⟩ := word_spec (nums := nums) (left := left1) (salt := salt) (size := 1 + r1) h1 (by omega) (by omega)
    have n1 : nm8 (st ++ l) := by
      refine ⟨by simp only [List.length_append]; omega, by simp only [List.length_append]; omega, fun c hc => ?_⟩
      rcases List.mem_append.mp hc with hc | hc
      · exact hst.2 c hc
      · exact hm c hc
    have a1 := str_add (a := st) (b := l) (by omega)
    obtain ⟨x', hs', e3⟩ := names_step (a := some (bagV nums at2 left2 salt)) (b := b) (w4 := some (.str (S st))) (ss := ss) (x5 := some w) (List.range 26) (st ++ l) x7 n1 fun w h => List.mem_range.mp h
    have hnew := steps_new (ss := ss) (s := st ++ l) (fun e => by rw [e] at n1; exact absurd n1.1 (by decide)) (by omega)
    generalize (List.range 26).foldl (stepN ss) (st ++ l) = s' at *
    obtain ⟨ss', at3, left3, y5, y6, y7, h3, hs3, l3, e4⟩ := names_loop (b := b) hst ws (ss ++ [s']) at2 left2 (some w) (some (.str (S s'))) x' h2 ⟨fun s hm => by
      rcases List.mem_append.mp hm with hm | hm
      · exact hs.1 s hm
      · rw [List.mem_singleton.mp hm]; exact hs', by
      rw [List.nodup_append]
      refine ⟨hs.2, by simp, fun a ha b hb => ?_⟩
      rw [List.mem_singleton] at hb
      rintro rfl
      subst hb; exact hnew ha⟩ (by simp only [List.length_append, List.length_cons, List.length_nil]; omega) hw.2
    refine ⟨ss', at3, left3, y5, y6, y7, h3, hs3, by simp only [List.length_append, List.length_cons, List.length_nil] at l3 ⊢; omega, ?_⟩
    have r26 := rngOf_one (j := 26) (by decide) (by decide)
    have ga : gAppend (encN ss) [.str (S s')] = some (.non, encN (ss ++ [s'])) := by
      simp only [gAppend, encN_len, sizeLine_eq, encN_app]
      rw [if_pos (by omega)]; rfl
    rw [forL]
    simp! [l2_law_names, hw.1, ll, e1, e2, a1, r26, rng26, e3, ga]
    exact e4
theorem names_specN {nums : List Int} {at_ left salt : Int} {many : Int} (h0 : 0 ≤ at_) (hs : 0 ≤ many) (hs2 : many ≤ 26) :
    ∃ (at' left' : Int) (ss : List (List Nat)), 0 ≤ at' ∧ (ss.length : Int) = many ∧ ((∀ s ∈ ss, nm8 s) ∧ ss.Nodup) ∧ m_law_names [bagV nums at_ left salt, .int many] = .ok (.lst true (encN ss)) [some (bagV nums at' left' salt), some (.int many)] := by
  obtain ⟨at1, left1, r1, h1, hr0, hr1, e1⟩ := pull_spec (nums := nums) (left := left) (salt := salt) (many := 4) h0 (by decide) (by decide)
  have ix : ∃ k : Int, 0 ≤ k ∧ k ≤ 7 ∧ oIx (.lst true [.int 0, .int 0, .int 3, .int 7]) (.int r1) = some (.int k) := by
    obtain ⟨w, hw, ew⟩ := atI_lt (xs := [Val.int 0, .int 0, .int 3, .int 7]) hr0 hr1
    simp only [List.mem_cons, List.not_mem_nil, or_false] at hw
    rcases hw with rfl | rfl | rfl | rfl <;> exact ⟨_, by decide, by decide, ew⟩
  obtain ⟨k, hk0, hk7, ek⟩ := ix
  obtain ⟨at2, left2, st, h2, hl2, hm, e2⟩ := word_spec (nums := nums) (left := left1) (salt := salt) (size := k) h1 hk0 (by omega)
  obtain ⟨ss, at3, left3, y5, y6, y7, h3, hs3, l3, e4⟩ := names_loop (nums := nums) (salt := salt) (b := some (.int many)) (st := st) ⟨by omega, hm⟩ (rng 0 many) [] at2 left2 none none none h2 ⟨by simp, List.nodup_nil⟩ (by rw [rng_len]; simp only [List.length_nil]; omega) (rng_no _ _)
  rw [rng_len] at l3
  simp only [List.length_nil] at l3
  refine ⟨at3, left3, ss, h3, by omega, hs3, ?_⟩
  have r1' := rngOf_one (j := many) (by omega) (by omega)
  have g4 : ∀ ws : List Val, gLstN ws = if noOwns ws && decide (ws.length ≤ sizeLine) then some (.lst true ws) else none := fun _ => rfl
  have e5 : forL [5] gN l2_law_names (rng 0 many) [some (bagV nums at2 left2 salt), some (.int many), some (.str ("abcdefghijklmnopqrstuvwxyz" : Str)), some (.lst true []), some (.str (S st)), none, none, none] = _ := e4
  unfold m_law_names fnIO g_law_names
  simp! [g4, show (4 : Nat) ≤ sizeLine by decide, show (0 : Nat) ≤ sizeLine by decide, e1, ek, e2, r1', e5]
end RT

namespace RT
open L2 PyProof.Rows PySem.Spec PySem L2.DL SX
/-! ### sorted names -/
def leN (a b : List Nat) : Bool := decide (a ≤ b)
def sortN (ss : List (List Nat)) : List (List Nat) := ss.mergeSort leN
theorem sortN_perm (ss : List (List Nat)) : (sortN ss).Perm ss := List.mergeSort_perm ss leN
theorem toPys_N : ∀ ss : List (List Nat), toPys (encN ss) = some (ss.map fun s => .str (S s))
  | [] => rfl
  | s :: ss => by rw [encN_cons]; simp only [toPys, toPy, toPys_N ss, Option.bind_some, Option.map_some, List.map_cons]
theorem merge_map {α β : Type} (f : α → β) (r : β → β → Bool) (l : List α) : (l.map f).mergeSort r = (l.mergeSort fun a b => r (f a) (f b)).map f :=
  (List.map_mergeSort (f := f) (r := fun a b => r (f a) (f b)) (s := r) (l := l) (fun _ _ _ _ => rfl)).symm
theorem erase_map {α β : Type} (f : α → β) : ∀ (l : List α) (i : Nat), (l.map f).eraseIdx i = (l.eraseIdx i).map f
  | [], _ => rfl
  | _ :: _, 0 => rfl
  | a :: l, i + 1 => by simp only [List.map_cons, List.eraseIdx_cons_succ, erase_map f l i]
theorem sortOk_N (ss : List (List Nat)) : sortOk (ss.map fun s => PyData.str (S s)) = true := by
  have h1 : alikesB (ss.map fun s => PyData.str (S s)) = true := by
    unfold alikesB
    rw [List.all_eq_true]
    intro x hx
    obtain ⟨a, _, rfl⟩ := List.mem_map.mp hx
    rw [List.all_eq_true]
    intro y hy
    obtain ⟨b, _, rfl⟩ := List.mem_map.mp hy
    rfl
  have h2 : (ss.map fun s => PyData.str (S s)).all notTN = true := List.all_eq_true.mpr fun x hx => by
    obtain ⟨a, _, rfl⟩ := List.mem_map.mp hx; rfl
  have h3 : (ss.map fun s => PyData.str (S s)).all notN = true := List.all_eq_true.mpr fun x hx => by
    obtain ⟨a, _, rfl⟩ := List.mem_map.mp hx; rfl
  have h4 : ((ss.map fun s => PyData.str (S s)).all fun d => decide (d.depth ≤ 60)) = true := List.all_eq_true.mpr fun x hx => by
    obtain ⟨a, _, rfl⟩ := List.mem_map.mp hx; rfl
  simp only [sortOk, h1, h2, h3, h4, Bool.or_true, Bool.true_or, Bool.and_self]
theorem zip_two {α β γ : Type} (f : α → β) (g : α → γ) (l : List α) : (l.map f).zip (l.map g) = l.map fun a => (f a, g a) := by
  induction l with
  | nil => rfl
  | cons a l ih => simp only [List.map_cons, List.zip_cons_cons, ih]
theorem sortW_N (ss : List (List Nat)) : sortW (encN ss) (ss.map fun s => .str (S s)) = encN (sortN ss) := by
  unfold sortW encN sortN
  rw [zip_two, merge_map, List.map_map]
  have : (fun a b : List Nat => PySem.W.dataLe false Prod.snd ((Val.str (S a), PyData.str (S a)) : Val × PyData) (Val.str (S b), PyData.str (S b))) = leN := by
    have := PySem.W.dataLe_str (fun s : List Nat => S s)
    exact this
  rw [this]
  rfl
theorem oSorted_N (o : Bool) (ss : List (List Nat)) : oSorted [.lst o (encN ss)] = some (.lst true (encN (sortN ss))) := by
  simp only [oSorted, noOwns_N, if_true, toPys_N, Option.bind_some, sortOk_N, sortW_N]
/-! ### equality of lists of names -/
def okC (ss : List (List Nat)) : Prop := ∀ s ∈ ss, ∀ c ∈ s, c < 1114112
theorem strOk_of {l : List Nat} (h : ∀ c ∈ l, c < 1114112) : PyData.strOk (S l) = true := by
  unfold PyData.strOk
  rw [← Array.all_toList, List.all_eq_true]
  intro c hc
  exact decide_eq_true (h c hc)
theorem abc_lt {c : Nat} (h : c ∈ abcL) : c < 1114112 := by
  obtain ⟨x, hx, rfl⟩ := List.mem_map.mp h
  have := List.mem_range.mp hx
  omega
theorem canLay_N : ∀ {ss : List (List Nat)}, okC ss → PyData.canLayAll0 (ss.map fun s => .str (S s)) = true
  | [], _ => rfl
  | s :: ss, h => by
    simp only [List.map_cons, PyData.canLayAll0, PyData.canLay0, strOk_of (h s List.mem_cons_self), canLay_N fun t ht => h t (List.mem_cons_of_mem _ ht), Bool.and_self]
theorem depth_N : ∀ ss : List (List Nat), PyData.depthAll (ss.map fun s => .str (S s)) = 0
  | [] => rfl
  | s :: ss => by simp only [List.map_cons, PyData.depthAll, PyData.depth, depth_N ss, Nat.max_self]
theorem eqvAll_N : ∀ ss tt : List (List Nat), PyData.eqvAll (ss.map fun s => .str (S s)) (tt.map fun s => .str (S s)) = decide (ss = tt)
  | [], [] => rfl
  | [], _ :: _ => rfl
  | _ :: _, [] => rfl
  | s :: ss, t :: tt => by
    simp only [List.map_cons, PyData.eqvAll, PyData.eqv, S_beq_eq, eqvAll_N ss tt, List.cons.injEq]
    by_cases h1 : s = t <;> by_cases h2 : ss = tt <;> simp [h1, h2]
theorem shaped_Nt {ss : List (List Nat)} (h : okC ss) : SeqAt.shaped (.tuple (ss.map fun s => .str (S s))) = true := by
  simp only [SeqAt.shaped, PyData.canLay0, canLay_N h, PyData.depth, depth_N, Bool.true_and]
  decide
theorem eqB_Nt {ss tt : List (List Nat)} (h : okC ss) (h2 : okC tt) : eqB (.tup (encN ss)) (.tup (encN tt)) = some (decide (ss = tt)) := by
  simp only [eqB, toPy, toPys_N, Option.map_some, Option.bind_some, shaped_Nt h, shaped_Nt h2, Bool.and_self, if_true, PyData.eqv, eqvAll_N]
theorem okC_nil : okC [] := fun _ h => by cases h
theorem nm8_okC {ss : List (List Nat)} (h : ∀ s ∈ ss, nm8 s) : okC ss := fun s hs c hc => abc_lt ((h s hs).2.2 c hc)
/-! ### lists of names are changed -/
theorem gInsert_N {ss : List (List Nat)} {i : Int} {s : List Nat} (h0 : 0 ≤ i) (h1 : i ≤ ss.length) (h2 : ss.length < 16777216) : gInsert (encN ss) [.int i, .str (S s)] = some (.non, encN (ss.take i.toNat ++ [s] ++ ss.drop i.toNat)) := by
  simp only [gInsert, encN_len, sizeLine_eq]
  rw [if_pos ⟨h2, h0, ltA_of (by omega)⟩]
  simp only [encN, List.map_append, List.map_take, List.map_drop, List.map_cons, List.map_nil]
theorem gPop_N {ss : List (List Nat)} {i : Nat} (h1 : i < ss.length) (h2 : ss.length < 16777216) : gPop (encN ss) [.int i] = some (.str (S ss[i]), encN (ss.eraseIdx i)) := by
  have e1 : seqIndex? (i : Int) (encN ss).length = some i := (ixN_seq (by rw [encN_len]; unfold ixN; rw [if_pos (by omega), if_pos (by omega)]; simp)).1
  have e2 : (encN ss)[i]? = some (.str (S ss[i])) := by rw [encN, List.getElem?_map, List.getElem?_eq_getElem h1]; rfl
  simp only [gPop]
  rw [if_pos (ltA_of (by omega)), e1]
  simp only [e2, Option.map_some]
  simp only [encN, erase_map]
theorem putW_N {ss : List (List Nat)} {i : Nat} {s : List Nat} (h1 : i < ss.length) : putW (.lst true (encN ss)) (.int i) (.str (S s)) = some (.lst true (encN (ss.set i s))) := by
  have e1 : ixN (encN ss).length (i : Int) = some i := by rw [encN_len]; unfold ixN; rw [if_pos (by omega), if_pos (by omega)]; simp
  simp only [putW, e1, Option.map_some]
  simp only [encN, List.map_set]
/-! ### rooms -/
def okAt (ss : List (List Nat)) (i : Nat) : Bool := isNm (ss.getD i []) && (decide (i = 0) || decide (ss.getD (i - 1) [] < ss.getD i []))
def isRm (ss : List (List Nat)) : Bool := decide (ss.length ≤ 6) && (List.range ss.length).all (okAt ss)
theorem callP_name {s : List Nat} (h : s.length ≤ 16777216) : callP m_is_name [.str (S s)] = some (.bl (isNm s)) := by
  simp! [callP, name_spec h]
theorem getD_at {ss : List (List Nat)} {i : Nat} (h : i < ss.length) : atI (encN ss) (i : Int) = some (.str (S (ss.getD i []))) := by
  rw [atI_N h, List.getD_eq_getElem?_getD, List.getElem?_eq_getElem h]; rfl
theorem getD_mem {ss : List (List Nat)} {i : Nat} (h : i < ss.length) : ss.getD i [] ∈ ss := by
  rw [List.getD_eq_getElem?_getD, List.getElem?_eq_getElem h]; exact List.getElem_mem _
theorem rng_nat (n : Nat) : rng 0 (n : Int) = (List.range n).map fun k : Nat => Val.int (k : Int) := by
  simp only [rng, Int.sub_zero, Int.toNat_natCast, Int.zero_add]
end RT

namespace RT
open L2 PyProof.Rows PySem.Spec PySem L2.DL SX
/-! ### lists of whole numbers -/
def encI (l : List Int) : List Val := l.map .int
theorem encI_cons (s : Int) (ss : List Int) : encI (s :: ss) = .int s :: encI ss := rfl
theorem encI_app (ss tt : List Int) : encI (ss ++ tt) = encI ss ++ encI tt := List.map_append
theorem encI_len (ss : List Int) : (encI ss).length = ss.length := List.length_map _
theorem noOwns_I (ss : List Int) : noOwns (encI ss) = true := noOwns_ints ss
theorem noShs_I (ss : List Int) : noShs (encI ss) = true := noShs_of fun w h => by
  obtain ⟨x, _, rfl⟩ := List.mem_map.mp h; rfl
theorem noObjs_I (ss : List Int) : noObjs (encI ss) = true := noObjs_of fun w h => by
  obtain ⟨x, _, rfl⟩ := List.mem_map.mp h; rfl
theorem frzs_I : ∀ ss : List Int, frzs (encI ss) = encI ss
  | [] => rfl
  | s :: ss => by rw [encI_cons, frzs, frz, frzs_I ss]
theorem toPys_I : ∀ ss : List Int, toPys (encI ss) = some (ss.map .int)
  | [] => rfl
  | s :: ss => by rw [encI_cons]; simp only [toPys, toPy, toPys_I ss, Option.bind_some, Option.map_some, List.map_cons]
theorem canLay_I : ∀ ss : List Int, PyData.canLayAll0 (ss.map .int) = true
  | [] => rfl
  | s :: ss => by simp only [List.map_cons, PyData.canLayAll0, PyData.canLay0, canLay_I ss, Bool.and_self]
theorem depth_I : ∀ ss : List Int, PyData.depthAll (ss.map .int) = 0
  | [] => rfl
  | s :: ss => by simp only [List.map_cons, PyData.depthAll, PyData.depth, depth_I ss, Nat.max_self]
theorem eqvAll_I : ∀ ss tt : List Int, PyData.eqvAll (ss.map .int) (tt.map .int) = decide (ss = tt)
  | [], [] => rfl
  | [], _ :: _ => rfl
  | _ :: _, [] => rfl
  | s :: ss, t :: tt => by
    simp only [List.map_cons, PyData.eqvAll, PyData.eqv, eqvAll_I ss tt, List.cons.injEq]
    by_cases h1 : s = t <;> by_cases h2 : ss = tt <;> simp [h1, h2]
theorem shaped_It (ss : List Int) : SeqAt.shaped (.tuple (ss.map .int)) = true := by
  simp only [SeqAt.shaped, PyData.canLay0, canLay_I, PyData.depth, depth_I, Bool.true_and]
  decide
theorem eqB_It (ss tt : List Int) : eqB (.tup (encI ss)) (.tup (encI tt)) = some (decide (ss = tt)) := by
  simp only [eqB, toPy, toPys_I, Option.map_some, Option.bind_some, shaped_It, Bool.and_self, if_true, PyData.eqv, eqvAll_I]
/-! ### walks that only look -/
theorem compP_filter {α : Type} {is : List Nat} {t : T} {c : P Bool} {f : P Val} {ρ : Slots} (enc φ : α → Val) (p : α → Bool) : ∀ (l : List α), (∀ a ∈ l, ∃ rs, t (enc a) = some rs ∧ c (setS ρ is rs) = some (p a) ∧ (p a = true → f (setS ρ is rs) = some (φ a))) → compP is t c f ρ (l.map enc) = some ((l.filter p).map φ)
  | [], _ => rfl
  | a :: l, h => by
    obtain ⟨rs, e1, e2, e3⟩ := h a List.mem_cons_self
    have ih := compP_filter enc φ p l fun b hb => h b (List.mem_cons_of_mem _ hb)
    rw [List.map_cons, compP]
    simp only [e1, Option.bind_some, e2]
    cases q : p a with
    | true => simp only [if_true, e3 q, Option.bind_some, ih, Option.map_some, List.filter_cons, q, List.map_cons]
    | false => simp only [Bool.false_eq_true, if_false, ih, List.filter_cons, q]
theorem compP_map {α : Type} {is : List Nat} {t : T} {f : P Val} {ρ : Slots} (enc φ : α → Val) (l : List α) (h : ∀ a ∈ l, ∃ rs, t (enc a) = some rs ∧ f (setS ρ is rs) = some (φ a)) : compP is t pYes f ρ (l.map enc) = some (l.map φ) := by
  have := compP_filter (c := pYes) enc φ (fun _ => true) l fun a ha => by
    obtain ⟨rs, e1, e2⟩ := h a ha
    exact ⟨rs, e1, rfl, fun _ => e2⟩
  rw [this, List.filter_eq_self.mpr fun _ _ => rfl]
theorem blsOf_map {α : Type} (p : α → Bool) : ∀ l : List α, blsOf (l.map fun a => .bl (p a)) = some (l.map p)
  | [] => rfl
  | a :: l => by simp only [List.map_cons, blsOf, blsOf_map p l, Option.map_some]
theorem oAll_map {α : Type} (o : Bool) (p : α → Bool) (l : List α) : oAll [.lst o (l.map fun a => .bl (p a))] = some (.bl (l.all p)) := by
  simp only [oAll, blsOf_map, Option.map_some, List.all_map, Function.comp_def, id]
/-! ### rows -/
theorem beq_nat (a b : Nat) : ((a : Int) == (b : Int)) = decide (a = b) := by
  by_cases h : a = b
  · rw [h, decide_eq_true rfl]; exact beq_self_eq_true _
  · rw [decide_eq_false h]; exact beq_eq_false_iff_ne.mpr (by omega)
def in09 (x : Int) : Bool := decide (0 ≤ x ∧ x ≤ 9)
def isRw (n : Nat) (l : List Int) : Bool := decide (l.length = n) && l.all in09
theorem chain09 {ρ : Slots} {f : P Val} {x : Int} (h : f ρ = some (.int x)) : pChain oLe oLe (pC (.int 0)) f (pC (.int 9)) ρ = some (.bl (in09 x)) := by
  by_cases h1 : 0 ≤ x <;> by_cases h2 : x ≤ 9 <;> simp! [h, h1, h2, in09, and_self, and_true, true_and, and_false, false_and]
theorem row_loop {a b : Option Val} : ∀ (l : List Int) (x : Option Val), ∃ x', forL [2] gN l1_is_row (encI l) [a, b, x] = if l.all in09 = true then .nx [a, b, x'] else .ret (.bl false) [a, b, x']
  | [], x => ⟨x, rfl⟩
  | k :: l, x => by
    obtain ⟨x', ih⟩ := row_loop (a := a) (b := b) l (some (.int k))
    have ch : pChain oLe oLe (pC (.int 0)) (pVar 2) (pC (.int 9)) [a, b, some (.int k)] = some (.bl (in09 k)) := chain09 rfl
    rw [encI_cons, forL]
    cases q : in09 k with
    | true =>
      rw [q] at ch
      refine ⟨x', ?_⟩
      simp only [gN, noOwns, noOwn, Bool.and_self, if_true, setS_cons, setS_nil, List.set_cons_succ, List.set_cons_zero, l1_is_row, sIf_ap, mT_ap, pNot_ap, pTest_ap, ch, Option.bind_some, Option.map_some, rS_ok, Bool.not_true, Bool.false_eq_true, if_false, sNil_ap, List.all_cons, q, Bool.true_and]
      exact ih
    | false =>
      rw [q] at ch
      refine ⟨some (.int k), ?_⟩
      simp only [gN, noOwns, noOwn, Bool.and_self, if_true, setS_cons, setS_nil, List.set_cons_succ, List.set_cons_zero, l1_is_row, sIf_ap, mT_ap, pNot_ap, pTest_ap, ch, Option.bind_some, Option.map_some, rS_ok, Bool.not_false, sRet_ap, mF_ap, pC_ap, List.all_cons, q, Bool.false_and, Bool.false_eq_true, if_false]
/-! ### drawn answers -/
theorem answers_loop {nums : List Int} {salt base : Int} {size : Val} (hb : 0 < base) (hb2 : base < 1073741824) : ∀ (ws : List Val) (acc : List Int) (at_ left : Int), 0 ≤ at_ → noOwns ws = true → (∀ c ∈ acc, 0 ≤ c ∧ c < base) → acc.length + ws.length ≤ 100000 →
    ∃ (acc' : List Int) (at' left' : Int), 0 ≤ at' ∧ acc'.length = acc.length + ws.length ∧ (∀ c ∈ acc', 0 ≤ c ∧ c < base) ∧
      compM [3] [3] gN (mT pYes) (mCallIO (m_law_pull) (aSlot 0 (aSlot 2 aNil))) ws (encI acc) [some (bagV nums at_ left salt), some size, some (.int base), none]
        = .ok (encI acc') [some (bagV nums at' left' salt), some size, some (.int base), none]
  | [], acc, at_, left, h0, _, ha, _ => ⟨acc, at_, left, h0, rfl, ha, rfl⟩
  | w :: ws, acc, at_, left, h0, hw, ha, hl => by
    simp only [noOwns, Bool.and_eq_true] at hw
    obtain ⟨at1, left1, r, h1, hr0, hr1, e1⟩ := pull_spec (nums := nums) (left := left) (salt := salt) (many := base) h0 hb hb2
    simp only [List.length_cons] at hl
    obtain ⟨acc', at2, left2, h2, l2, m2, e2⟩ := answers_loop hb hb2 ws (acc ++ [r]) at1 left1 h1 hw.2 (fun x hx => by
      rcases List.mem_append.mp hx with hx | hx
      · exact ha x hx
      · rw [List.mem_singleton.mp hx]; exact ⟨hr0, hr1⟩) (by simp only [List.length_append, List.length_cons, List.length_nil]; omega)
    refine ⟨acc', at2, left2, h2, by simp only [List.length_append, List.length_cons, List.length_nil] at l2 ⊢; omega, m2, ?_⟩
    have la : acc.length < sizeLine := by rw [sizeLine_eq]; omega
    rw [compM]
    simp! [hw.1, nE_ok, e1, wipe3, encI_len, la]
    rw [encI_app] at e2
    exact e2
theorem answers_spec {nums : List Int} {at_ left salt : Int} {size base : Int} (h0 : 0 ≤ at_) (hs : 0 ≤ size) (hs2 : size ≤ 100000) (hb : 0 < base) (hb2 : base < 1073741824) :
    ∃ (at' left' : Int) (l : List Int), 0 ≤ at' ∧ (l.length : Int) = size ∧ (∀ c ∈ l, 0 ≤ c ∧ c < base) ∧ m_law_answers [bagV nums at_ left salt, .int size, .int base] = .ok (.tup (encI l)) [some (bagV nums at' left' salt), some (.int size), some (.int base)] := by
  obtain ⟨l, at', left', h1, h2, h3, e⟩ := answers_loop (nums := nums) (salt := salt) (size := .int size) hb hb2 (rng 0 size) [] at_ left h0 (rng_no _ _) (by simp) (by rw [rng_len]; simp only [List.length_nil]; omega)
  rw [rng_len] at h2
  simp only [List.length_nil, Int.sub_zero] at h2
  refine ⟨at', left', l, h1, by omega, h3, ?_⟩
  unfold m_law_answers fnIO g_law_answers
  have r1 := rngOf_one (j := size) (by omega) (by omega)
  have e' : compM [3] [3] gN (mT pYes) (mCallIO (m_law_pull) (aSlot 0 (aSlot 2 aNil))) (rng 0 size) [] [some (bagV nums at_ left salt), some (.int size), some (.int base), none] = _ := e
  have ot : oTuple [.lst true (encI l)] = some (.tup (encI l)) := by simp only [oTuple, noOwns_I, if_true]
  simp! [r1, wipe3, e', ot]
/-! ### every law's first and last step -/
theorem bag_call (K : PySem.W.Frag) (ns : List Int) : ∃ nums salt, callP (m_law_bag K) [.scr K ns] = some (bagV nums 0 0 salt) := by
  obtain ⟨nums, salt, e⟩ := bag_spec K ns
  exact ⟨nums, salt, by simp! [callP, e]⟩
end RT

namespace RT
open L2 PyProof.Rows PySem.Spec PySem L2.DL SX
/-! ### rooms as tuples that are known -/
theorem oLen_tpz (ws : List Val) : oLen [.tpz ws] = some (.int ws.length) := rfl
theorem oSubs_tpz (ws : List Val) (i : Int) : oSubs (.tpz ws) (.int i) = atI ws i := rfl
theorem compP_int {is : List Nat} {f : P Val} {ρ : Slots} (φ : Int → Val) (l : List Int) (h : ∀ s ∈ l, f (setS ρ is [.int s]) = some (φ s)) : compP is gN pYes f ρ (encI l) = some (l.map φ) :=
  compP_map .int φ l fun a ha => ⟨_, rfl, h a ha⟩
/-! ### within, places, picked, share -/
def shareR (room : List (List Nat)) (row : List Int) (part : List (List Nat)) : List Int := part.map fun n => row.getD (room.idxOf n) 0
end RT

namespace RT
open L2 PyProof.Rows PySem.Spec PySem L2.DL SX
/-! ### drawn questions, drawn parts -/
theorem oTupleZ_N (o : Bool) (ss : List (List Nat)) : oTupleZ [.lst o (encN ss)] = some (.tpz (encN ss)) := by simp only [oTupleZ, noOwns_N, if_true]
end RT

namespace RT
open L2 PyProof.Rows PySem.Spec PySem L2.DL SX
/-! ### what a law asks of the form -/
theorem whole_call (i : Int) : callP m_law_whole [.int i] = some (.bl true) := by
  have k1 : kitB "int" "int" = some true := rfl
  have k2 : kitB "int" "bool" = some false := by decide +kernel
  have e : m_law_whole [.int i] = .ok (.bl true) := by
    unfold m_law_whole fnP g_law_whole
    simp! [tyName, k1, k2]
  simp! [callP, e]
end RT

namespace RT
open L2 PyProof.Rows PySem.Spec PySem L2.DL SX
/-! ### rows, and dicts from rows to counts -/
abbrev Row := List Int
abbrev Dic := List (Row × Int)
def keyI (r : Row) : List Key := r.map .inl
def encR (l : List Row) : List Val := l.map fun r => .tup (encI r)
def pairV (p : Row × Int) : Val := .tup [.tup (encI p.1), .int p.2]
def encT (l : Dic) : List Val := l.map pairV
def dV (o : Bool) (D : Dic) : Val := .dT o (D.map fun p => keyI p.1) (encI (D.map Prod.snd))
def look (r : Row) : Dic → Option Int
  | [] => none
  | p :: D => if p.1 = r then some p.2 else look r D
def get0 (D : Dic) (r : Row) : Int := (look r D).getD 0
def put (D : Dic) (r : Row) (c : Int) : Dic := if r ∈ D.map Prod.fst then D.map (fun p => if p.1 = r then (p.1, c) else p) else D ++ [(r, c)]
def leR (a b : Row) : Bool := decide (a ≤ b)
def sortR (l : List Row) : List Row := l.mergeSort leR
def settle (D : Dic) : Dic := ((sortR (D.map Prod.fst)).filter fun r => get0 D r != 0).map fun r => (r, get0 D r)
theorem dataLe_tups {β : Type} (x : β → List Int) : PySem.W.dataLe false (fun b => PyData.tuple ((x b).map .int)) = fun p q => decide (x p ≤ x q) := by
  funext p q
  show (!PySem.W.dataLt (.tuple ((x q).map .int)) (.tuple ((x p).map .int))) = _
  rw [PySem.W.dataLt_tuple]
  show (!PySem.W.rowLt ((x q).map .int) ((x p).map .int)) = _
  rw [PySem.W.dataLt_ints]
  by_cases h : x q < x p
  · have h' : ¬ x p ≤ x q := fun r => List.not_lt.mpr r h
    simp [h, h']
  · have h' : x p ≤ x q := List.not_lt.mp h
    simp [h, h']
theorem keyI_inj : ∀ {a b : Row}, keyI a = keyI b → a = b
  | [], [], _ => rfl
  | [], _ :: _, h => by cases h
  | _ :: _, [], h => by cases h
  | x :: a, y :: b, h => by
    simp only [keyI, List.map_cons, List.cons.injEq, Sum.inl.injEq] at h
    rw [h.1, keyI_inj (a := a) (b := b) h.2]
theorem keysV_I : ∀ r : Row, keysV (encI r) = some (keyI r)
  | [] => rfl
  | x :: r => by rw [encI_cons]; simp only [keysV, keyV, keysV_I r, Option.bind_some, Option.map_some]; rfl
theorem keyW_I (r : Row) : (keyI r).map keyW = encI r := by
  simp only [keyI, encI, List.map_map]; rfl
theorem lookL_D (r : Row) : ∀ D : Dic, lookL (D.map fun p => keyI p.1) (encI (D.map Prod.snd)) (keyI r) = (look r D).map .int
  | [] => rfl
  | p :: D => by
    rw [List.map_cons, List.map_cons, encI_cons]
    show (if keyI p.1 = keyI r then some (Val.int p.2) else lookL (D.map fun p => keyI p.1) (encI (D.map Prod.snd)) (keyI r)) = _
    rw [lookL_D r D, look]
    by_cases h : p.1 = r
    · rw [if_pos h, if_pos (congrArg keyI h)]; rfl
    · rw [if_neg h, if_neg fun z => h (keyI_inj z)]
theorem dGet_D (o : Bool) (D : Dic) (r : Row) : dGet (dV o D) (.tup (encI r)) = some ((look r D).map .int) := by
  simp only [dGet, dV, keysV_I, Option.map_some, lookL_D]
theorem look_mem {r : Row} : ∀ {D : Dic}, r ∈ D.map Prod.fst → look r D = some (get0 D r)
  | [], h => by cases h
  | p :: D, h => by
    unfold get0
    rw [look]
    by_cases e : p.1 = r
    · rw [if_pos e]; rfl
    · rw [if_neg e]
      rcases List.mem_cons.mp h with h | h
      · exact absurd h.symm e
      · exact look_mem h
theorem look_none {r : Row} : ∀ {D : Dic}, r ∉ D.map Prod.fst → look r D = none
  | [], _ => rfl
  | p :: D, h => by
    rw [look, if_neg fun e => h (by rw [List.map_cons, e]; exact List.mem_cons_self), look_none fun z => h (List.mem_cons_of_mem _ z)]
theorem oSubs_D {o : Bool} {D : Dic} {r : Row} (h : r ∈ D.map Prod.fst) : oSubs (dV o D) (.tup (encI r)) = some (.int (get0 D r)) := by
  have e := dGet_D o D r
  simp only [oSubs, show isDict (dV o D) = true from rfl, if_true, e, look_mem h, Option.map_some, Option.bind_some, id]
theorem memK {D : Dic} {r : Row} : keyI r ∈ (D.map fun p => keyI p.1) ↔ r ∈ D.map Prod.fst := by
  constructor
  · intro h
    obtain ⟨p, hp, e⟩ := List.mem_map.mp h
    rw [← keyI_inj e]; exact List.mem_map.mpr ⟨p, hp, rfl⟩
  · intro h
    obtain ⟨p, hp, e⟩ := List.mem_map.mp h
    exact List.mem_map.mpr ⟨p, hp, by rw [e]⟩
theorem putL_D (D : Dic) (r : Row) (c : Int) : putL (D.map fun p => keyI p.1) (encI (D.map Prod.snd)) (keyI r) (.int c) = ((put D r c).map (fun p => keyI p.1), encI ((put D r c).map Prod.snd)) := by
  unfold putL put
  by_cases h : r ∈ D.map Prod.fst
  · rw [if_pos h, if_pos (memK.mpr h)]
    congr 1
    · rw [List.map_map]
      apply List.map_congr_left
      intro p _
      show _ = keyI (if p.1 = r then (p.1, c) else p).1
      split <;> rfl
    · rw [encI, List.map_map, zip_two, List.map_map, encI, List.map_map, List.map_map]
      apply List.map_congr_left
      intro p _
      show (if keyI p.1 = keyI r then Val.int c else .int p.2) = .int (if p.1 = r then (p.1, c) else p).2
      by_cases e : p.1 = r
      · rw [if_pos e, if_pos (congrArg keyI e)]
      · rw [if_neg e, if_neg fun z => e (keyI_inj z)]
  · rw [if_neg h, if_neg fun z => h (memK.mp z)]
    simp only [List.map_append, List.map_cons, List.map_nil, encI_app]
    rfl
theorem putW_D {D : Dic} {r : Row} {c : Int} (h : D.length < 16777216) : putW (dV true D) (.tup (encI r)) (.int c) = some (dV true (put D r c)) := by
  simp only [putW, dV, keysV_I, Option.bind_some, noOwn, noOwns_I, Bool.and_self, List.length_map, sizeLine_eq, true_and]
  rw [if_pos h, putL_D]
theorem put_len (D : Dic) (r : Row) (c : Int) : (put D r c).length ≤ D.length + 1 := by
  unfold put
  split <;> simp
theorem put_keys (D : Dic) (r : Row) (c : Int) : (put D r c).map Prod.fst = if r ∈ D.map Prod.fst then D.map Prod.fst else D.map Prod.fst ++ [r] := by
  unfold put
  split
  · rw [List.map_map]
    apply List.map_congr_left
    intro p _
    show (if p.1 = r then (p.1, c) else p).1 = p.1
    split <;> rfl
  · rw [List.map_append]; rfl
theorem put_nodup {D : Dic} (r : Row) (c : Int) (h : (D.map Prod.fst).Nodup) : ((put D r c).map Prod.fst).Nodup := by
  rw [put_keys]
  split
  · exact h
  · rename_i hn
    rw [List.nodup_append]
    refine ⟨h, by simp, fun a ha b hb => ?_⟩
    rw [List.mem_singleton] at hb
    rintro rfl; subst hb; exact hn ha
theorem look_put (r : Row) (c : Int) (s : Row) : ∀ D : Dic, look s (put D r c) = if r = s then some c else look s D := by
  intro D
  unfold put
  by_cases h : r ∈ D.map Prod.fst
  · rw [if_pos h]
    induction D with
    | nil => cases h
    | cons p D ih =>
      rw [List.map_cons, look, look]
      by_cases e : p.1 = r
      · rw [if_pos e]
        by_cases e2 : r = s
        · rw [if_pos e2, if_pos (show (p.1, c).1 = s from e.trans e2)]
        · rw [if_neg e2, if_neg (show ¬ (p.1, c).1 = s from fun z => e2 (e.symm.trans z)), if_neg fun z => e2 (e.symm.trans z)]
          by_cases hm : r ∈ D.map Prod.fst
          · rw [ih hm, if_neg e2]
          · have : (D.map fun p => if p.1 = r then (p.1, c) else p) = D := by
              refine (List.map_congr_left (g := id) fun q hq => ?_).trans (List.map_id D)
              exact if_neg fun z => hm (List.mem_map.mpr ⟨q, hq, z⟩)
            rw [this]
      · rw [if_neg e]
        have hm : r ∈ D.map Prod.fst := by
          rcases List.mem_cons.mp h with h | h
          · exact absurd h.symm e
          · exact h
        by_cases e2 : p.1 = s
        · rw [if_pos e2, if_pos e2, if_neg fun z => e (e2.trans z.symm)]
        · rw [if_neg e2, if_neg e2]
          exact ih hm
  · rw [if_neg h]
    induction D with
    | nil => rfl
    | cons p D ih =>
      rw [List.cons_append, look, look]
      by_cases e2 : p.1 = s
      · rw [if_pos e2, if_pos e2, if_neg fun z => h (by rw [z, ← e2]; exact List.mem_cons_self)]
      · rw [if_neg e2, if_neg e2]
        exact ih fun z => h (List.mem_cons_of_mem _ z)
theorem get0_put (D : Dic) (r : Row) (c : Int) (s : Row) : get0 (put D r c) s = if r = s then c else get0 D s := by
  unfold get0
  rw [look_put]
  split <;> rfl
/-! ### lists of rows and of pairs -/
theorem encT_len (l : Dic) : (encT l).length = l.length := List.length_map _
theorem noOwn_row (r : Row) : noOwn (.tup (encI r)) = true := by simp only [noOwn, noOwns_I]
theorem noOwns_R (l : List Row) : noOwns (encR l) = true := noOwns_of fun w h => by
  obtain ⟨r, _, rfl⟩ := List.mem_map.mp h; exact noOwn_row r
theorem noOwn_pair (p : Row × Int) : noOwn (pairV p) = true := by simp only [pairV, noOwn, noOwns, noOwns_I, Bool.and_self]
theorem noSh_pair (p : Row × Int) : noSh (pairV p) = true := by simp only [pairV, noSh, noShs, noShs_I, Bool.and_self]
theorem noObj_pair (p : Row × Int) : noObj (pairV p) = true := by simp only [pairV, noObj, noObjs, noObjs_I, Bool.and_self]
theorem frz_pair (p : Row × Int) : frz (pairV p) = pairV p := by simp only [pairV, frz, frzs, frzs_I]
theorem noOwns_T (l : Dic) : noOwns (encT l) = true := noOwns_of fun w h => by
  obtain ⟨r, _, rfl⟩ := List.mem_map.mp h; exact noOwn_pair r
theorem noShs_T (l : Dic) : noShs (encT l) = true := noShs_of fun w h => by
  obtain ⟨r, _, rfl⟩ := List.mem_map.mp h; exact noSh_pair r
theorem noObjs_T (l : Dic) : noObjs (encT l) = true := noObjs_of fun w h => by
  obtain ⟨r, _, rfl⟩ := List.mem_map.mp h; exact noObj_pair r
theorem frzs_T : ∀ l : Dic, frzs (encT l) = encT l
  | [] => rfl
  | p :: l => by
    show frzs (pairV p :: encT l) = _
    rw [frzs, frz_pair, frzs_T l]; rfl
def rowD (r : Row) : PyData := .tuple (r.map .int)
def pairD (p : Row × Int) : PyData := .tuple [rowD p.1, .int p.2]
theorem toPys_R : ∀ l : List Row, toPys (encR l) = some (l.map rowD)
  | [] => rfl
  | r :: l => by
    show toPys (.tup (encI r) :: encR l) = _
    simp only [toPys, toPy, toPys_I, toPys_R l, Option.bind_some, Option.map_some, List.map_cons]; rfl
theorem toPys_T : ∀ l : Dic, toPys (encT l) = some (l.map pairD)
  | [] => rfl
  | p :: l => by
    show toPys (pairV p :: encT l) = _
    simp only [pairV, toPys, toPy, toPys_I, toPys_T l, Option.bind_some, Option.map_some, List.map_cons]; rfl
theorem sortOk_R {l : List Row} (h : (∀ r ∈ l, r ≠ []) ∨ l.length ≤ 1 ∨ ∀ r ∈ l, r = []) : sortOk (l.map rowD) = true := by
  have h1 : alikesB (l.map rowD) = true := by
    unfold alikesB
    rw [List.all_eq_true]
    intro x hx
    obtain ⟨a, _, rfl⟩ := List.mem_map.mp hx
    rw [List.all_eq_true]
    intro y hy
    obtain ⟨b, _, rfl⟩ := List.mem_map.mp hy
    show PySem.W.alike (.tuple (a.map .int)) (.tuple (b.map .int)) = true
    rw [PySem.W.alike]
    exact PySem.W.alike_ints a b
  have h2 : (((l.map rowD).all isTupC) || shortB (l.map rowD)) = true := by
    rcases h with h | h | h
    · have : (l.map rowD).all isTupC = true := List.all_eq_true.mpr fun x hx => by
        obtain ⟨a, ha, rfl⟩ := List.mem_map.mp hx
        cases a with
        | nil => exact absurd rfl (h _ ha)
        | cons _ _ => rfl
      rw [this, Bool.true_or]
    · rw [shortB, List.length_map, decide_eq_true h, Bool.true_or, Bool.or_true]
    · have : (l.map rowD).all isNilT = true := List.all_eq_true.mpr fun x hx => by
        obtain ⟨a, ha, rfl⟩ := List.mem_map.mp hx
        rw [h _ ha]; rfl
      rw [shortB, this, Bool.or_true, Bool.or_true]
  have h3 : (l.map rowD).all notN = true := List.all_eq_true.mpr fun x hx => by
    obtain ⟨a, _, rfl⟩ := List.mem_map.mp hx; rfl
  have h4 : ((l.map rowD).all fun d => decide (d.depth ≤ 60)) = true := List.all_eq_true.mpr fun x hx => by
    obtain ⟨a, _, rfl⟩ := List.mem_map.mp hx
    show decide ((PyData.tuple (a.map .int)).depth ≤ 60) = true
    simp only [PyData.depth, depth_I]; decide
  have h5 : ((l.map rowD).all isTupC || (l.map rowD).all notTN || shortB (l.map rowD)) = true := by
    rw [Bool.or_eq_true] at h2
    rcases h2 with h2 | h2
    · rw [h2, Bool.true_or, Bool.true_or]
    · rw [h2, Bool.or_true]
  simp only [sortOk, h1, h3, h4, h5, Bool.and_self]
theorem sortW_R (l : List Row) : sortW (encR l) (l.map rowD) = encR (sortR l) := by
  unfold sortW encR sortR
  rw [zip_two, merge_map, List.map_map]
  have : (fun a b : Row => PySem.W.dataLe false Prod.snd ((Val.tup (encI a), rowD a) : Val × PyData) (Val.tup (encI b), rowD b)) = leR := by
    have := dataLe_tups (fun s : Row => s)
    exact this
  rw [this]
  rfl
theorem oSorted_R {o : Bool} {l : List Row} (h : (∀ r ∈ l, r ≠ []) ∨ l.length ≤ 1 ∨ ∀ r ∈ l, r = []) : oSorted [.lst o (encR l)] = some (.lst true (encR (sortR l))) := by
  simp only [oSorted, noOwns_R, if_true, toPys_R, Option.bind_some, sortOk_R h, sortW_R]
theorem oList_D (o : Bool) (D : Dic) : oList [dV o D] = some (.lst true (encR (D.map Prod.fst))) := by
  simp only [oList, dV, encR, List.map_map]
  congr 2
  apply List.map_congr_left
  intro p _
  show Val.tup ((keyI p.1).map keyW) = _
  rw [keyW_I]; rfl
theorem sortR_perm (l : List Row) : (sortR l).Perm l := List.mergeSort_perm l leR
theorem atI_T {l : Dic} {i : Nat} (h : i < l.length) : atI (encT l) (i : Int) = some (pairV l[i]) := by
  refine atI_nat ?_
  rw [encT, List.getElem?_map, List.getElem?_eq_getElem h]; rfl
/-! ### equality -/
theorem canLay_row (r : Row) : PyData.canLay0 (rowD r) = true := by
  simp only [rowD, PyData.canLay0, canLay_I]
theorem canLay_T : ∀ l : Dic, PyData.canLayAll0 (l.map pairD) = true
  | [] => rfl
  | p :: l => by simp only [List.map_cons, pairD, PyData.canLayAll0, PyData.canLay0, canLay_row, canLay_T l, Bool.and_self]
theorem depth_T : ∀ l : Dic, PyData.depthAll (l.map pairD) ≤ 2
  | [] => by simp [PyData.depthAll]
  | p :: l => by
    have := depth_T l
    simp only [List.map_cons, pairD, rowD, PyData.depthAll, PyData.depth, depth_I]
    omega
theorem eqv_row (r s : Row) : PyData.eqv (rowD r) (rowD s) = decide (r = s) := by
  simp only [rowD, PyData.eqv, eqvAll_I]
theorem eqv_pair (p q : Row × Int) : PyData.eqv (pairD p) (pairD q) = decide (p = q) := by
  obtain ⟨r, c⟩ := p; obtain ⟨s, d⟩ := q
  simp only [pairD, PyData.eqv, PyData.eqvAll, eqv_row, Prod.mk.injEq]
  by_cases h1 : r = s <;> by_cases h2 : c = d <;> simp [h1, h2]
theorem eqvAll_T : ∀ ss tt : Dic, PyData.eqvAll (ss.map pairD) (tt.map pairD) = decide (ss = tt)
  | [], [] => rfl
  | [], _ :: _ => rfl
  | _ :: _, [] => rfl
  | s :: ss, t :: tt => by
    rw [List.map_cons, List.map_cons, PyData.eqvAll, eqv_pair, eqvAll_T ss tt]
    by_cases h1 : s = t <;> by_cases h2 : ss = tt <;> simp [h1, h2]
theorem shaped_T (l : Dic) : SeqAt.shaped (.list (l.map pairD)) = true := by
  have := depth_T l
  simp only [SeqAt.shaped, PyData.canLay0, canLay_T, PyData.depth, Bool.true_and]
  exact decide_eq_true (by omega)
theorem eqB_T (o p : Bool) (ss tt : Dic) : eqB (.lst o (encT ss)) (.lst p (encT tt)) = some (decide (ss = tt)) := by
  simp only [eqB, toPy, toPys_T, Option.map_some, Option.bind_some, shaped_T, Bool.and_self, if_true, PyData.eqv, eqvAll_T]
theorem oEq_T (o p : Bool) (ss tt : Dic) : oEq (.lst o (encT ss)) (.lst p (encT tt)) = some (.bl (decide (ss = tt))) := by
  simp only [oEq, eqB_T, Option.map_some]
theorem oNe_T (o p : Bool) (ss tt : Dic) : oNe (.lst o (encT ss)) (.lst p (encT tt)) = some (.bl (!decide (ss = tt))) := by
  simp only [oNe, eqB_T, Option.map_some]
theorem ne_nil_T (o p : Bool) (ss : Dic) : oNe (.lst o (encT ss)) (.lst p []) = some (.bl (!decide (ss = []))) := oNe_T o p ss []
theorem eq_nil_T (o p : Bool) (ss : Dic) : oEq (.lst o (encT ss)) (.lst p []) = some (.bl (decide (ss = []))) := oEq_T o p ss []
/-! ### lists of pairs are changed -/
end RT

namespace RT
open L2 PyProof.Rows PySem.Spec PySem L2.DL SX
theorem gTupN_ap (ws : List Val) : gTupN ws = if (noOwns ws && decide (ws.length ≤ sizeLine)) = true then some (.tup ws) else none := rfl
theorem gLstN_ap (ws : List Val) : gLstN ws = if (noOwns ws && decide (ws.length ≤ sizeLine)) = true then some (.lst true ws) else none := rfl
theorem gTupM_ap (ws : List Val) : gTupM ws = if ws.length ≤ sizeLine then some (.tup ws) else none := rfl
theorem gLstM_ap (ws : List Val) : gLstM ws = if ws.length ≤ sizeLine then some (.lst true ws) else none := rfl
theorem sz0 : (0 ≤ sizeLine) = True := eq_true (by decide)
theorem sz1 : (1 ≤ sizeLine) = True := eq_true (by decide)
theorem sz2 : (2 ≤ sizeLine) = True := eq_true (by decide)
theorem sz3 : (3 ≤ sizeLine) = True := eq_true (by decide)
theorem sz4 : (4 ≤ sizeLine) = True := eq_true (by decide)
theorem sz10 : (10 ≤ sizeLine) = True := eq_true (by decide)
/-! ### a dict as a tally -/
def okKeys (D : Dic) : Prop := (∀ r ∈ D.map Prod.fst, r ≠ []) ∨ D.length ≤ 1
theorem settled_spec {o : Bool} {D : Dic} (h : okKeys D) (hl : D.length ≤ 16777216) : m_law_settled [dV o D] = .ok (.lst true (encT (settle D))) := by
  unfold m_law_settled fnP g_law_settled
  have os := oSorted_R (o := true) (l := D.map Prod.fst) (by
    rcases h with h | h
    · exact .inl h
    · exact .inr (.inl (by rw [List.length_map]; exact h)))
  have cp : compP [1] gN (pTest (pOp2 oNe (pOp2 oSubs (pVar 0) (pVar 1)) (pC (.int 0)))) (pOpS gTupN (psCons (pVar 1) (psCons (pOp2 oSubs (pVar 0) (pVar 1)) psNil))) [some (dV o D), none] (encR (sortR (D.map Prod.fst))) = some (encT (settle D)) := by
    unfold encR
    rw [compP_filter (fun r : Row => Val.tup (encI r)) (fun r => pairV (r, get0 D r)) (fun r => get0 D r != 0) _ fun r hr => ?_]
    · simp only [settle, encT, List.map_map, Function.comp_def]
    · have hm : r ∈ D.map Prod.fst := (sortR_perm _).mem_iff.mp hr
      have e := oSubs_D (o := o) hm
      refine ⟨[.tup (encI r)], rfl, ?_, fun _ => ?_⟩
      · simp! [e]
        rfl
      · simp! [e, gTupN_ap, noOwns_I, sz2, pairV]
  have w1 : ∀ a b, wipeS [a, b] [1] = [a, none] := fun _ _ => rfl
  have lz : (encT (settle D)).length ≤ sizeLine := by
    rw [encT_len, sizeLine_eq, settle, List.length_map]
    refine Nat.le_trans (List.length_filter_le _ _) ?_
    rw [(sortR_perm _).length_eq, List.length_map]; exact hl
  simp! [oList_D, os, w1, cp, lz]
theorem noObj_D (o : Bool) (D : Dic) : noObj (dV o D) = true := by simp only [dV, noObj, noObjs_I]
theorem frz_D (o : Bool) (D : Dic) : frz (dV o D) = dV false D := by simp only [dV, frz, frzs_I]
theorem settled_call {o : Bool} {D : Dic} (h : okKeys D) (hl : D.length ≤ 16777216) : callP m_law_settled [dV o D] = some (.lst true (encT (settle D))) := by
  simp! [callP, noObjs, noObj_D, frzs, frz_D, settled_spec h hl, noSh, noShs_T]
/-! ### drawn counts -/
theorem many_spec {nums : List Int} {at_ left salt : Int} (h0 : 0 ≤ at_) :
    ∃ at' left' c, 0 ≤ at' ∧ 1 ≤ c ∧ c ≤ 1000000000000 ∧ m_law_many [bagV nums at_ left salt] = .ok (.int c) [some (bagV nums at' left' salt)] := by
  obtain ⟨at1, left1, r1, h1, hr0, hr1, e1⟩ := pull_spec (nums := nums) (left := left) (salt := salt) (many := 4) h0 (by decide) (by decide)
  have ix : ∃ v : Int, 1 ≤ v ∧ v ≤ 1000000000000 ∧ oIx (.lst true [.int 1, .int 3, .int 9, .int 1000000000000]) (.int r1) = some (.int v) := by
    obtain ⟨w, hw, ew⟩ := atI_lt (xs := [Val.int 1, .int 3, .int 9, .int 1000000000000]) hr0 hr1
    simp only [List.mem_cons, List.not_mem_nil, or_false] at hw
    rcases hw with rfl | rfl | rfl | rfl <;> exact ⟨_, by decide, by decide, ew⟩
  obtain ⟨v, v0, v1, ev⟩ := ix
  obtain ⟨at2, left2, r2, h2, hr20, hr21, e2⟩ := pull_big (nums := nums) (left := left1) (salt := salt) (many := v) h1 (by omega) (by omega)
  have op : oPow (.int 10) (.int 12) = some (.int 1000000000000) := rfl
  refine ⟨at2, left2, 1 + r2, h2, by omega, by omega, ?_⟩
  unfold m_law_many fnIO g_law_many
  simp! [gLstN_ap, sz4, op, e1, ev, e2]
/-! ### drawn tallies -/
structure DicOk (n : Nat) (base : Int) (D : Dic) : Prop where
  nd : (D.map Prod.fst).Nodup
  row : ∀ p ∈ D, p.1.length = n ∧ ∀ c ∈ p.1, 0 ≤ c ∧ c < base
  cnt : ∀ p ∈ D, 1 ≤ p.2 ∧ p.2 ≤ 1000000000000
theorem put_mem {D : Dic} {r : Row} {c : Int} {p : Row × Int} (h : p ∈ put D r c) : p ∈ D ∨ p = (r, c) := by
  unfold put at h
  split at h
  · obtain ⟨q, hq, e⟩ := List.mem_map.mp h
    by_cases e2 : q.1 = r
    · rw [if_pos e2] at e; right; rw [← e, e2]
    · rw [if_neg e2] at e; left; rw [← e]; exact hq
  · rcases List.mem_append.mp h with h | h
    · exact .inl h
    · exact .inr (List.mem_singleton.mp h)
theorem DicOk.put {n : Nat} {base : Int} {D : Dic} (k : DicOk n base D) {r : Row} {c : Int} (h1 : r.length = n) (h2 : ∀ c ∈ r, 0 ≤ c ∧ c < base) (h3 : 1 ≤ c ∧ c ≤ 1000000000000) : DicOk n base (put D r c) := by
  refine ⟨put_nodup r c k.nd, fun p hp => ?_, fun p hp => ?_⟩
  · rcases put_mem hp with hp | rfl
    · exact k.row p hp
    · exact ⟨h1, h2⟩
  · rcases put_mem hp with hp | rfl
    · exact k.cnt p hp
    · exact h3
theorem okKeys_of {n : Nat} {D : Dic} (nd : (D.map Prod.fst).Nodup) (h : ∀ p ∈ D, p.1.length = n) : okKeys D := by
  by_cases hn : n = 0
  · right
    subst hn
    match D, nd, h with
    | [], _, _ => decide
    | [_], _, _ => exact Nat.le_refl _
    | p :: q :: D, nd, h =>
      exfalso
      have h1 := List.eq_nil_of_length_eq_zero (h p List.mem_cons_self)
      have h2 := List.eq_nil_of_length_eq_zero (h q (List.mem_cons_of_mem _ List.mem_cons_self))
      rw [List.map_cons, List.map_cons, List.nodup_cons] at nd
      exact nd.1 (by rw [h1, h2]; exact List.mem_cons_self)
  · left
    intro r hr e
    obtain ⟨p, hp, e2⟩ := List.mem_map.mp hr
    have := h p hp
    rw [e2, e] at this
    exact hn this.symm
theorem drawn_loop {nums : List Int} {salt base : Int} {n : Nat} {rm : Val} (hrm : oLen [rm] = some (.int n)) (hn : n ≤ 100000) (hb : 0 < base) (hb2 : base < 1073741824) : ∀ (ws : List Val) (D : Dic) (at_ left : Int) (x : Option Val), 0 ≤ at_ → noOwns ws = true → DicOk n base D → D.length + ws.length ≤ 100000 →
    ∃ (D' : Dic) (at' left' : Int) (x' : Option Val), 0 ≤ at' ∧ DicOk n base D' ∧ D'.length ≤ D.length + ws.length ∧
      forL [4] gN l1_law_drawn ws [some (bagV nums at_ left salt), some rm, some (dV true D), some (.int base), x] = .nx [some (bagV nums at' left' salt), some rm, some (dV true D'), some (.int base), x']
  | [], D, at_, left, x, h0, _, hk, _ => ⟨D, at_, left, x, h0, hk, Nat.le_refl _, rfl⟩
  | w :: ws, D, at_, left, x, h0, hw, hk, hl => by
    simp only [noOwns, Bool.and_eq_true] at hw
    simp only [List.length_cons] at hl
    obtain ⟨at1, left1, c, h1, c0, c1, e1⟩ := many_spec (nums := nums) (left := left) (salt := salt) h0
    obtain ⟨at2, left2, r, h2, l2, m2, e2⟩ := answers_spec (nums := nums) (left := left1) (salt := salt) (size := n) (base := base) h1 (by omega) (by omega) hb hb2
    have pl := put_len D r c
    obtain ⟨D', at3, left3, x', h3, k3, l3, e3⟩ := drawn_loop hrm hn hb hb2 ws (put D r c) at2 left2 (some w) h2 hw.2 (hk.put (by omega) m2 ⟨c0, c1⟩) (by omega)
    refine ⟨D', at3, left3, x', h3, k3, by simp only [List.length_cons]; omega, ?_⟩
    have pw := putW_D (D := D) (r := r) (c := c) (by omega)
    rw [forL]
    simp! [hw.1, l1_law_drawn, e1, hrm, e2, pw]
    exact e3
/-- a tally's rows and counts -/
structure TalOk (n : Nat) (l : Dic) : Prop where
  nd : (l.map Prod.fst).Nodup
  row : ∀ p ∈ l, p.1.length = n ∧ ∀ c ∈ p.1, 0 ≤ c ∧ c < 10
  cnt : ∀ p ∈ l, 1 ≤ p.2 ∧ p.2 ≤ 1000000000000
theorem settle_keys (D : Dic) : (settle D).map Prod.fst = (sortR (D.map Prod.fst)).filter fun r => get0 D r != 0 := by
  rw [settle, List.map_map]
  exact List.map_id _
theorem mem_settle {D : Dic} {p : Row × Int} (h : p ∈ settle D) : p.1 ∈ D.map Prod.fst ∧ p.2 = get0 D p.1 ∧ p.2 ≠ 0 := by
  obtain ⟨r, hr, rfl⟩ := List.mem_map.mp h
  obtain ⟨h1, h2⟩ := List.mem_filter.mp hr
  exact ⟨(sortR_perm _).mem_iff.mp h1, rfl, by simpa using h2⟩
theorem settle_nodup {D : Dic} (h : (D.map Prod.fst).Nodup) : ((settle D).map Prod.fst).Nodup := by
  rw [settle_keys]
  exact List.Pairwise.filter _ ((sortR_perm _).nodup_iff.mpr h)
theorem get0_mem {D : Dic} {r : Row} (h : r ∈ D.map Prod.fst) : (r, get0 D r) ∈ D := by
  have e := look_mem h
  generalize get0 D r = c at e
  clear h
  induction D with
  | nil => cases e
  | cons p D ih =>
    rw [look] at e
    by_cases q : p.1 = r
    · rw [if_pos q] at e
      cases e
      rw [← q]; exact List.mem_cons_self
    · rw [if_neg q] at e
      exact List.mem_cons_of_mem _ (ih e)
theorem settle_len {D : Dic} : (settle D).length ≤ D.length := by
  rw [settle, List.length_map]
  refine Nat.le_trans (List.length_filter_le _ _) ?_
  rw [(sortR_perm _).length_eq, List.length_map]; exact Nat.le_refl _
theorem DicOk.tal {n : Nat} {base : Int} {D : Dic} (k : DicOk n base D) (hb : base ≤ 10) : TalOk n (settle D) := by
  refine ⟨settle_nodup k.nd, fun p hp => ?_, fun p hp => ?_⟩
  · obtain ⟨h1, h2, h3⟩ := mem_settle hp
    have := k.row _ (get0_mem h1)
    exact ⟨this.1, fun c hc => ⟨(this.2 c hc).1, by have := (this.2 c hc).2; omega⟩⟩
  · obtain ⟨h1, h2, h3⟩ := mem_settle hp
    rw [h2]
    exact k.cnt _ (get0_mem h1)
theorem drawn_spec {nums : List Int} {at_ left salt : Int} {n : Nat} {rm : Val} (hrm : oLen [rm] = some (.int n)) (hn : n ≤ 100000) (h0 : 0 ≤ at_) :
    ∃ (at' left' : Int) (D : Dic), 0 ≤ at' ∧ DicOk n 10 D ∧ D.length ≤ 40 ∧ m_law_drawn [bagV nums at_ left salt, rm] = .ok (.lst true (encT (settle D))) [some (bagV nums at' left' salt), some rm] := by
  obtain ⟨at1, left1, r1, h1, hr0, hr1, e1⟩ := pull_spec (nums := nums) (left := left) (salt := salt) (many := 4) h0 (by decide) (by decide)
  have ix : ∃ v : Int, 1 ≤ v ∧ v ≤ 10 ∧ oIx (.lst true [.int 2, .int 2, .int 3, .int 10]) (.int r1) = some (.int v) := by
    obtain ⟨w, hw, ew⟩ := atI_lt (xs := [Val.int 2, .int 2, .int 3, .int 10]) hr0 hr1
    simp only [List.mem_cons, List.not_mem_nil, or_false] at hw
    rcases hw with rfl | rfl | rfl | rfl <;> exact ⟨_, by decide, by decide, ew⟩
  obtain ⟨base, b0, b1, eb⟩ := ix
  obtain ⟨at2, left2, r2, h2, hr20, hr21, e2⟩ := pull_spec (nums := nums) (left := left1) (salt := salt) (many := 10) h1 (by decide) (by decide)
  have ix : ∃ v : Int, 0 ≤ v ∧ v ≤ 40 ∧ oIx (.lst true [.int 3, .int 2, .int 1, .int 0, .int 5, .int 8, .int 12, .int 4, .int 2, .int 40]) (.int r2) = some (.int v) := by
    obtain ⟨w, hw, ew⟩ := atI_lt (xs := [Val.int 3, .int 2, .int 1, .int 0, .int 5, .int 8, .int 12, .int 4, .int 2, .int 40]) hr20 hr21
    simp only [List.mem_cons, List.not_mem_nil, or_false] at hw
    rcases hw with rfl | rfl | rfl | rfl | rfl | rfl | rfl | rfl | rfl | rfl <;> exact ⟨_, by decide, by decide, ew⟩
  obtain ⟨v, v0, v1, ev⟩ := ix
  have rl := rng_len 0 v
  obtain ⟨D, at3, left3, x', h3, k3, l3, e3⟩ := drawn_loop (nums := nums) (salt := salt) hrm hn (by omega : 0 < base) (by omega) (rng 0 v) [] at2 left2 none h2 (rng_no _ _) ⟨List.nodup_nil, fun _ h => by (cases h), fun _ h => by (cases h)⟩ (by rw [rl]; simp only [List.length_nil]; omega)
  have k10 : DicOk n 10 D := ⟨k3.nd, fun p hp => ⟨(k3.row p hp).1, fun c hc => ⟨((k3.row p hp).2 c hc).1, by have := ((k3.row p hp).2 c hc).2; omega⟩⟩, k3.cnt⟩
  have hl : D.length ≤ 40 := by rw [rl] at l3; simp only [List.length_nil] at l3; omega
  refine ⟨at3, left3, D, h3, k10, hl, ?_⟩
  have sc := settled_call (o := true) (okKeys_of k3.nd fun p hp => (k3.row p hp).1) (by omega)
  have r1 := rngOf_one (j := v) (by omega) (by omega)
  have d0 : pDNewT = fun _ => some (dV true []) := rfl
  unfold m_law_drawn fnIO g_law_drawn
  simp! [d0, gLstN_ap, sz4, sz10, e1, eb, e2, ev, r1, e3, sc]
end RT

namespace RT
open L2 PyProof.Rows PySem.Spec PySem L2.DL SX
/-! ### is_tally -/
/-- a room, known or not: only its size counts -/
structure RoomV (rm : Val) (n : Nat) : Prop where
  len : oLen [rm] = some (.int n)
  own : noOwn rm = true
  obj : noObj rm = true
  fr : frz rm = rm
theorem roomV_tpz (ss : List (List Nat)) : RoomV (.tpz (encN ss)) ss.length := ⟨by rw [oLen_tpz, encN_len], by simp only [noOwn, noOwns_N], by simp only [noObj, noObjs_N], by simp only [frz, frzs_N]⟩
theorem row_specV {rm : Val} {n : Nat} (R : RoomV rm n) (l : List Int) : m_is_row [rm, .tup (encI l)] = .ok (.bl (isRw n l)) := by
  unfold m_is_row fnP g_is_row
  have ne : oNe (.int (encI l).length) (.int n) = some (.bl (!decide (l.length = n))) := by
    rw [oNe_int, encI_len, beq_nat]
  obtain ⟨x', e⟩ := row_loop (a := some rm) (b := some (.tup (encI l))) l none
  by_cases h : l.length = n
  · simp only [h, decide_true] at ne
    simp! [R.len, ne, noOwns_I, e, isRw, h]
    cases l.all in09 <;> simp! []
  · simp only [h, decide_false] at ne
    simp! [R.len, ne, isRw, h]
theorem row_callV {rm : Val} {n : Nat} (R : RoomV rm n) (l : List Int) : callP m_is_row [rm, .tup (encI l)] = some (.bl (isRw n l)) := by
  simp! [callP, noObjs, R.obj, noObj, noObjs_I, frzs, R.fr, frz, frzs_I, noOwns, R.own, noOwn, noOwns_I, row_specV R]
theorem intsOf_I : ∀ r : Row, intsOf (encI r) = some r
  | [] => rfl
  | x :: r => by rw [encI_cons]; simp only [intsOf, intsOf_I r, Option.map_some]
theorem oGeR_I (a b : Row) : oGeR (.tup (encI a)) (.tup (encI b)) = some (.bl (geRow a b)) := by
  simp only [oGeR, intsOf_I, Option.bind_some, Option.map_some]
def at' (l : Dic) (k : Nat) : Row × Int := l.getD k ([], 0)
def badAt (n : Nat) (l : Dic) (k : Nat) : Bool := !isRw n (at' l k).1 || (decide ((at' l k).2 < 1) || (decide (0 < k) && geRow (at' l (k - 1)).1 (at' l k).1))
theorem atT {l : Dic} {k : Nat} (h : k < l.length) : atI (encT l) (k : Int) = some (.tup [.tup (encI (at' l k).1), .int (at' l k).2]) := by
  rw [atI_T h]
  show _ = some (pairV (at' l k))
  rw [at', List.getD_eq_getElem?_getD, List.getElem?_eq_getElem h]; rfl
theorem atT1 {l : Dic} {k : Nat} (h : k < l.length) (h0 : 0 < k) : atI (encT l) ((k : Int) - 1) = some (.tup [.tup (encI (at' l (k - 1)).1), .int (at' l (k - 1)).2]) := by
  have := atT (l := l) (k := k - 1) (by omega)
  rwa [show ((k - 1 : Nat) : Int) = (k : Int) - 1 by omega] at this
theorem tally_loop {rm : Val} {n : Nat} (R : RoomV rm n) {l : Dic} : ∀ (ks : List Nat) (x y z : Option Val), (∀ k ∈ ks, k < l.length) →
    ∃ x' y' z', forL [2] gN l1_is_tally (ks.map fun k : Nat => Val.int (k : Int)) [some rm, some (.lst false (encT l)), x, y, z] = if ks.all (fun k => !badAt n l k) = true then .nx [some rm, some (.lst false (encT l)), x', y', z'] else .ret (.bl false) [some rm, some (.lst false (encT l)), x', y', z']
  | [], x, y, z, _ => ⟨x, y, z, rfl⟩
  | k :: ks, x, y, z, hk => by
    have h1 := hk k List.mem_cons_self
    have e1 := atT h1
    have e2 := row_callV R (at' l k).1
    obtain ⟨x', y', z', ih⟩ := tally_loop R ks (some (.int k)) (some (.tup (encI (at' l k).1))) (some (.int (at' l k).2)) fun k h => hk k (List.mem_cons_of_mem _ h)
    rw [List.map_cons, forL]
    by_cases q1 : isRw n (at' l k).1 = true
    · by_cases q2 : (at' l k).2 < 1
      · have q : badAt n l k = true := by simp only [badAt, q2, decide_true, Bool.true_or, Bool.or_true]
        simp only [q1] at e2
        simp! [l1_is_tally, e1, noOwns_I, e2, q2, List.all_cons, q]
        exact ⟨_, _, _, rfl⟩
      · by_cases hk0 : 0 < k
        · have e3 := atT1 h1 hk0
          have e4 := oGeR_I (at' l (k - 1)).1 (at' l k).1
          have hp : (0 : Int) < k := by omega
          simp only [q1] at e2
          cases q3 : geRow (at' l (k - 1)).1 (at' l k).1 with
          | true =>
            have q : badAt n l k = true := by simp only [badAt, q3, hk0, decide_true, Bool.and_self, Bool.or_true]
            simp only [q3] at e4
            simp! [l1_is_tally, e1, noOwns_I, e2, q2, hp, e3, e4, List.all_cons, q]
            exact ⟨_, _, _, rfl⟩
          | false =>
            have q : badAt n l k = false := by simp only [badAt, q1, q2, q3, decide_false, Bool.not_true, Bool.and_false, Bool.or_self]
            simp only [q3] at e4
            refine ⟨x', y', z', ?_⟩
            simp! [l1_is_tally, e1, noOwns_I, e2, q2, hp, e3, e4, List.all_cons, q]
            exact ih
        · have hp : ¬ (0 : Int) < k := by omega
          have q : badAt n l k = false := by simp only [badAt, q1, q2, hk0, decide_false, Bool.not_true, Bool.false_and, Bool.or_self]
          simp only [q1] at e2
          refine ⟨x', y', z', ?_⟩
          simp! [l1_is_tally, e1, noOwns_I, e2, q2, hp, List.all_cons, q]
          exact ih
    · have q1' : isRw n (at' l k).1 = false := by simpa using q1
      have q : badAt n l k = true := by simp only [badAt, q1', Bool.not_false, Bool.true_or]
      simp only [q1'] at e2
      simp! [l1_is_tally, e1, noOwns_I, e2, List.all_cons, q]
      exact ⟨_, _, _, rfl⟩
def isTal (n : Nat) (l : Dic) : Bool := (List.range l.length).all fun k => !badAt n l k
theorem tally_spec {rm : Val} {n : Nat} (R : RoomV rm n) {l : Dic} (hl : l.length ≤ 16777216) : m_is_tally [rm, .lst false (encT l)] = .ok (.bl (isTal n l)) := by
  unfold m_is_tally fnP g_is_tally
  have r1 := rngOf_one (j := l.length) (by omega) (by omega)
  obtain ⟨x', y', z', e⟩ := tally_loop R (l := l) (List.range l.length) none none none fun k h => List.mem_range.mp h
  simp! [encT_len, r1, rng_nat, e, isTal]
  cases (List.range l.length).all fun k => !badAt n l k <;> simp! []
theorem tally_call {rm : Val} {n : Nat} (R : RoomV rm n) {o : Bool} {l : Dic} (hl : l.length ≤ 16777216) : callP m_is_tally [rm, .lst o (encT l)] = some (.bl (isTal n l)) := by
  simp! [callP, noObjs, R.obj, noObj, noObjs_T, frzs, R.fr, frz, frzs_T, tally_spec R hl]
/-! ### cuts -/
end RT

namespace RT
open L2 PyProof.Rows PySem.Spec PySem L2.DL SX
/-! ### the form of a tally -/
/-! ### counts added up -/
def accD (f : Row → Row) : Dic → Dic → Dic
  | [], D => D
  | p :: ps, D => accD f ps (put D (f p.1) (get0 D (f p.1) + p.2))
theorem accD_nodup (f : Row → Row) : ∀ (ps D : Dic), (D.map Prod.fst).Nodup → ((accD f ps D).map Prod.fst).Nodup
  | [], D, h => h
  | p :: ps, D, h => by
    rw [accD]
    exact accD_nodup f ps _ (put_nodup _ _ h)
/-! ### made -/
end RT

namespace RT
open L2 PyProof.Rows PySem.Spec PySem L2.DL SX
/-! ### texts: how long, and of signs -/
structure TxOk (s : Str) (n : Nat) : Prop where
  len : s.length ≤ n
  ok : ∀ c ∈ s.cps.toList, c < 1114112
theorem TxOk.so {s : Str} {n : Nat} (h : TxOk s n) : PyData.strOk s = true := by
  unfold PyData.strOk
  rw [← Array.all_toList, List.all_eq_true]
  intro c hc
  exact decide_eq_true (h.ok c hc)
theorem cps_app (a b : Str) : (a ++ b).cps.toList = a.cps.toList ++ b.cps.toList := by
  show (a.cps ++ b.cps).toList = _
  rw [Array.toList_append]
theorem len_app (a b : Str) : (a ++ b).length = a.length + b.length := by
  show (a.cps ++ b.cps).size = a.cps.size + b.cps.size
  rw [Array.size_append]
theorem TxOk.app {a b : Str} {n m : Nat} (h : TxOk a n) (k : TxOk b m) : TxOk (a ++ b) (n + m) := by
  refine ⟨by rw [len_app]; have := h.len; have := k.len; omega, fun c hc => ?_⟩
  rw [cps_app] at hc
  rcases List.mem_append.mp hc with hc | hc
  · exact h.ok c hc
  · exact k.ok c hc
theorem TxOk.mono {a : Str} {n m : Nat} (h : TxOk a n) (k : n ≤ m) : TxOk a m := ⟨Nat.le_trans h.len k, h.ok⟩
theorem txOk_S {l : List Nat} {n : Nat} (h : l.length ≤ n) (k : ∀ c ∈ l, c < 1114112) : TxOk (S l) n := ⟨by rw [S_len]; exact h, k⟩
theorem txOk_of (s : String) (n : Nat) (h : (Str.ofString s).length ≤ n) : TxOk (Str.ofString s) n := ⟨h, fun c hc => by
  rw [Str.ofString_eq_toList] at hc
  obtain ⟨x, _, rfl⟩ := List.mem_map.mp hc
  have := x.valid
  rcases this with h | h
  · show x.toNat < 1114112
    have : x.toNat < 0xd800 := h
    omega
  · exact h.2⟩
theorem join_two (sep x y : Str) (r : List Str) : Str.join sep (x :: y :: r) = x ++ sep ++ Str.join sep (y :: r) := rfl
theorem txOk_join {sep : Str} {k n : Nat} (hk : TxOk sep k) : ∀ {ss : List Str}, (∀ s ∈ ss, TxOk s n) → TxOk (Str.join sep ss) (ss.length * (n + k))
  | [], _ => ⟨Nat.zero_le _, fun _ h => by cases h⟩
  | [x], h => by
    have := h x List.mem_cons_self
    exact this.mono (by simp only [List.length_cons, List.length_nil]; omega)
  | x :: y :: r, h => by
    rw [join_two]
    have h1 := h x List.mem_cons_self
    have h2 := txOk_join hk (ss := y :: r) fun s hs => h s (List.mem_cons_of_mem _ hs)
    have := (h1.app hk).app h2
    refine this.mono ?_
    simp only [List.length_cons, Nat.add_mul]
    omega
theorem txt_join (a : Str) (ss : List Str) : Txt.join a ss = Str.join a ss := TL.join_eq a ss
end RT

namespace RT
open L2 PyProof.Rows PySem.Spec PySem L2.DL SX
/-! ### rooms, rows and tallies as texts -/
def intS (i : Int) : Str := Str.ofString (toString i)
def rowS (r : Row) : Str := if r = [] then "-" else Txt.join "." (r.map intS)
def pairS (p : Row × Int) : Str := rowS p.1 ++ ("=" : Str) ++ intS p.2
def talS (l : Dic) : Str := if l = [] then "none" else Txt.join " " (l.map pairS)
def roomS (ss : List (List Nat)) : Str := if ss = [] then "-" else Txt.join "+" (ss.map S)
theorem txOk_int {i : Int} (h0 : 0 ≤ i) (h1 : i < 10000000000000) : TxOk (intS i) 13 := txOk_of _ _ (toString_length_le h0 (by decide) (by omega))
theorem oStr_int {i : Int} (h0 : 0 ≤ i) (h1 : i < 10000000000000) : oStr [.int i] = some (.str (intS i)) := by
  have : i.natAbs.log2 < 64 := PySem.Flt.log2_lt_of (by decide) (by omega)
  simp only [oStr]
  rw [if_pos (by omega)]; rfl
theorem sum_le {α : Type} (f : α → Nat) (k : Nat) : ∀ l : List α, (∀ x ∈ l, f x ≤ k) → (l.map f).sum ≤ l.length * k
  | [], _ => by simp
  | x :: l, h => by
    have h1 := h x List.mem_cons_self
    have h2 := sum_le f k l fun y hy => h y (List.mem_cons_of_mem _ hy)
    simp only [List.map_cons, List.sum_cons, List.length_cons, Nat.add_mul]
    omega
theorem strsOf_strs : ∀ l : List Str, strsOf (l.map .str) = some l
  | [] => rfl
  | s :: l => by simp only [List.map_cons, strsOf, strsOf_strs l, Option.map_some]
theorem gJoin_ok {o : Bool} {a : Str} {l : List Str} {n k : Nat} (h : ∀ s ∈ l, TxOk s n) (ha : a.length ≤ k) (hl : l.length * (n + k) ≤ 16777216) : gJoin (.str a) [.lst o (l.map .str)] = some (.str (Txt.join a l)) := by
  have h1 := sum_le Str.length n l fun s hs => (h s hs).len
  have h2 : l.length * a.length ≤ l.length * k := Nat.mul_le_mul_left _ ha
  rw [Nat.mul_add] at hl
  simp only [gJoin, strsOf_strs, Option.bind_some]
  rw [if_pos]
  have : (l.map (·.length)).sum = (l.map Str.length).sum := rfl
  omega
theorem txOk_lit1 : TxOk ("-" : Str) 1 := txOk_of _ _ (by decide +kernel)
theorem txOk_lit2 : TxOk ("." : Str) 1 := txOk_of _ _ (by decide +kernel)
theorem txOk_lit3 : TxOk ("=" : Str) 1 := txOk_of _ _ (by decide +kernel)
theorem txOk_lit4 : TxOk (" " : Str) 1 := txOk_of _ _ (by decide +kernel)
theorem txOk_lit5 : TxOk ("+" : Str) 1 := txOk_of _ _ (by decide +kernel)
def okRow (r : Row) : Prop := r.length ≤ 1000 ∧ ∀ c ∈ r, 0 ≤ c ∧ c < 10000000000000
theorem txOk_row {r : Row} (h : okRow r) : TxOk (rowS r) (r.length * 14 + 1) := by
  unfold rowS
  split
  · exact txOk_lit1.mono (by omega)
  · rw [txt_join]
    have := txOk_join txOk_lit2 (n := 13) (ss := r.map intS) fun s hs => by
      obtain ⟨c, hc, rfl⟩ := List.mem_map.mp hs
      exact txOk_int (h.2 c hc).1 (h.2 c hc).2
    rw [List.length_map] at this
    exact this.mono (by omega)
theorem compP_strs {r : Row} {is : List Nat} {f : P Val} {ρ : Slots} (h : ∀ c ∈ r, f (setS ρ is [.int c]) = some (.str (intS c))) : compP is gN pYes f ρ (encI r) = some ((r.map intS).map .str) := by
  have := compP_int (is := is) (f := f) (ρ := ρ) (fun c => .str (intS c)) r h
  rw [this, List.map_map]; rfl
theorem isStr_lit (s : Str) : isStr (.str s) = true := rfl
theorem law_row_text_spec {r : Row} (h : okRow r) : m_law_row_text [.tup (encI r)] = .ok (.str (rowS r)) := by
  unfold m_law_row_text fnP g_law_row_text
  have cp : compP [1] gN pYes (pOpS oStr (psCons (pVar 1) psNil)) [some (.tup (encI r)), none] (encI r) = some ((r.map intS).map .str) := compP_strs fun c hc => by
    simp! [oStr_int (h.2 c hc).1 (h.2 c hc).2]
  have w1 : ∀ a b, wipeS [a, b] [1] = [a, none] := fun _ _ => rfl
  have lz : ((r.map intS).map Val.str).length ≤ sizeLine := by rw [List.length_map, List.length_map, sizeLine_eq]; have := h.1; omega
  have gj := gJoin_ok (o := true) (a := ".") (l := r.map intS) (n := 13) (k := 1) (fun s hs => by
    obtain ⟨c, hc, rfl⟩ := List.mem_map.mp hs
    exact txOk_int (h.2 c hc).1 (h.2 c hc).2) txOk_lit2.len (by rw [List.length_map]; have := h.1; omega)
  have l0 : oEq (.tup (encI r)) (.tup []) = some (.bl (decide (r = []))) := by
    simp only [oEq, show ([] : List Val) = encI [] from rfl, eqB_It, Option.map_some]
  have t0 : gTupN [] = some (.tup []) := rfl
  by_cases hr : r = []
  · subst hr
    simp only [decide_true] at l0
    have e0 : encI [] = [] := rfl
    simp! [t0, e0, rowS]
    rw [e0] at l0
    simp! [l0]
  · simp only [hr, decide_false] at l0
    simp! [t0, l0, isStr_lit, w1, cp, lz, gj, rowS, hr]
theorem law_row_text_call {r : Row} (h : okRow r) : callP m_law_row_text [.tup (encI r)] = some (.str (rowS r)) := by
  simp! [callP, noObjs, noObj, noObjs_I, frzs, frz, frzs_I, noOwns, noOwn, noOwns_I, law_row_text_spec h]
/-! rooms -/
theorem encN_strs (ss : List (List Nat)) : encN ss = (ss.map S).map .str := by rw [List.map_map]; rfl
theorem room_join {o : Bool} {ss : List (List Nat)} (h : ∀ s ∈ ss, nm8 s) (hl : ss.length ≤ 100000) : gJoin (.str "+") [.lst o (encN ss)] = some (.str (Txt.join "+" (ss.map S))) := by
  rw [encN_strs]
  exact gJoin_ok (n := 8) (k := 1) (fun s hs => by
    obtain ⟨t, ht, rfl⟩ := List.mem_map.mp hs
    exact txOk_S (h t ht).2.1 fun c hc => abc_lt ((h t ht).2.2 c hc)) txOk_lit5.len (by rw [List.length_map]; omega)
theorem oList_tpz (ss : List (List Nat)) : oList [.tpz (encN ss)] = some (.lst true (encN ss)) := by simp only [oList, noOwns_N, if_true]
theorem eq_nil_tpz {ss : List (List Nat)} (h : okC ss) : oEq (.tpz (encN ss)) (.tup []) = some (.bl (decide (ss = []))) := by
  have := eqB_Nt h okC_nil
  have e : eqB (.tpz (encN ss)) (.tup []) = eqB (.tup (encN ss)) (.tup (encN [])) := rfl
  simp only [oEq, e, this, Option.map_some]
theorem law_room_text_spec {ss : List (List Nat)} (h : ∀ s ∈ ss, nm8 s) (hl : ss.length ≤ 100000) : m_law_room_text [.tpz (encN ss)] = .ok (.str (roomS ss)) := by
  unfold m_law_room_text fnP g_law_room_text
  have gj := room_join (o := true) h hl
  have l0 := eq_nil_tpz (nm8_okC h)
  have t0 : gTupN [] = some (.tup []) := rfl
  by_cases hr : ss = []
  · subst hr
    simp only [decide_true] at l0
    simp! [t0, l0, roomS]
  · simp only [hr, decide_false] at l0
    simp! [t0, l0, isStr_lit, oList_tpz, gj, roomS, hr]
theorem law_room_text_call {ss : List (List Nat)} (h : ∀ s ∈ ss, nm8 s) (hl : ss.length ≤ 100000) : callP m_law_room_text [.tpz (encN ss)] = some (.str (roomS ss)) := by
  simp! [callP, noObjs, noObj, noObjs_N, frzs, frz, frzs_N, noOwns, noOwn, noOwns_N, law_room_text_spec h hl]
/-! tallies -/
def okTal (l : Dic) : Prop := l.length ≤ 1000 ∧ ∀ p ∈ l, okRow p.1 ∧ 0 ≤ p.2 ∧ p.2 < 10000000000000
theorem txOk_pair {p : Row × Int} (h : okRow p.1 ∧ 0 ≤ p.2 ∧ p.2 < 10000000000000) : TxOk (pairS p) 14015 :=
  (((txOk_row h.1).app txOk_lit3).app (txOk_int h.2.1 h.2.2)).mono (by have := h.1.1; omega)
theorem oAdd_str {a b : Str} {n m : Nat} (h : TxOk a n) (k : TxOk b m) (l : n + m ≤ 16777216) : oAdd (.str a) (.str b) = some (.str (a ++ b)) := by
  have h1 := h.len
  have h2 := k.len
  have : a.length + b.length ≤ sizeLine := by rw [sizeLine_eq]; omega
  show (if a.length + b.length ≤ sizeLine then some (Val.str (a ++ b)) else none) = _
  rw [if_pos this]
theorem tal_join {l : Dic} (h : okTal l) : gJoin (.str " ") [.lst true ((l.map pairS).map .str)] = some (.str (Txt.join " " (l.map pairS))) :=
  gJoin_ok (n := 14015) (k := 1) (fun s hs => by
    obtain ⟨t, ht, rfl⟩ := List.mem_map.mp hs
    exact txOk_pair (h.2 t ht)) txOk_lit4.len (by rw [List.length_map]; have := h.1; omega)
theorem tal_comp {l : Dic} (h : okTal l) {mr : List Val → R0} (hm : ∀ r, okRow r → callP mr [.tup (encI r)] = some (.str (rowS r))) (a : Val) :
    compP [1, 2] (gTn 2 (gsCons gN (gsCons gN gsNil))) pYes (pOp2 oAdd (pOp2 oAdd (pOpS (callP mr) (psCons (pVar 1) psNil)) (pC (.str "="))) (pOpS oStr (psCons (pVar 2) psNil))) [some a, none, none] (encT l) = some ((l.map pairS).map .str) := by
  have := compP_map (is := [1, 2]) (t := gTn 2 (gsCons gN (gsCons gN gsNil))) (f := pOp2 oAdd (pOp2 oAdd (pOpS (callP mr) (psCons (pVar 1) psNil)) (pC (.str "="))) (pOpS oStr (psCons (pVar 2) psNil))) (ρ := [some a, none, none]) pairV (fun p => .str (pairS p)) l fun p hp => by
    have hq := h.2 p hp
    have o1 := oAdd_str (txOk_row hq.1) txOk_lit3 (by have := hq.1.1; omega)
    have o2 := oAdd_str ((txOk_row hq.1).app txOk_lit3) (txOk_int hq.2.1 hq.2.2) (by have := hq.1.1; omega)
    refine ⟨[.tup (encI p.1), .int p.2], rfl, ?_⟩
    simp! [hm _ hq.1, o1, oStr_int hq.2.1 hq.2.2, o2, pairS]
  rw [encT, this, List.map_map]; rfl
theorem w12 : ∀ a b c, wipeS [a, b, c] [1, 2] = [a, none, none] := fun _ _ _ => rfl
theorem law_tally_text_spec {l : Dic} (h : okTal l) : m_law_tally_text [.lst false (encT l)] = .ok (.str (talS l)) := by
  unfold m_law_tally_text fnP g_law_tally_text
  have cp := tal_comp h (fun r hr => law_row_text_call hr) (.lst false (encT l))
  have lz : ((l.map pairS).map Val.str).length ≤ sizeLine := by rw [List.length_map, List.length_map, sizeLine_eq]; have := h.1; omega
  have gj := tal_join h
  have l0 := eq_nil_T false true l
  have t0 : gLstN [] = some (.lst true []) := rfl
  by_cases hr : l = []
  · subst hr
    simp only [decide_true] at l0
    simp! [t0, l0, talS]
  · simp only [hr, decide_false] at l0
    simp! [t0, l0, isStr_lit, w12, cp, lz, gj, talS, hr]
theorem law_tally_text_call {o : Bool} {l : Dic} (h : okTal l) : callP m_law_tally_text [.lst o (encT l)] = some (.str (talS l)) := by
  simp! [callP, noObjs, noObj, noObjs_T, frzs, frz, frzs_T, law_tally_text_spec h]
end RT

namespace RT
open L2 PyProof.Rows PySem.Spec PySem L2.DL SX
/-! ### plain sums over a dict -/
def cnt (f : Row → Row) : Dic → Row → Int
  | [], _ => 0
  | p :: ps, s => (if f p.1 = s then p.2 else 0) + cnt f ps s
def tot : Dic → Int
  | [] => 0
  | p :: ps => p.2 + tot ps
theorem get0_acc (f : Row → Row) (s : Row) : ∀ (ps D : Dic), get0 (accD f ps D) s = get0 D s + cnt f ps s
  | [], D => by simp only [accD, cnt, Int.add_zero]
  | p :: ps, D => by
    rw [accD, get0_acc f s ps, get0_put, cnt]
    by_cases h : f p.1 = s
    · rw [if_pos h, if_pos h, h]; omega
    · rw [if_neg h, if_neg h]; omega
theorem cnt_perm {g : Row → Row} {s : Row} {a b : Dic} (h : a.Perm b) : cnt g a s = cnt g b s := by
  induction h with
  | nil => rfl
  | cons x _ ih => rw [cnt, cnt, ih]
  | swap x y l => rw [cnt, cnt, cnt, cnt]; omega
  | trans _ _ h1 h2 => exact h1.trans h2
theorem cnt_filter (g : Row → Row) (s : Row) : ∀ D : Dic, cnt g (D.filter fun p => p.2 != 0) s = cnt g D s
  | [] => rfl
  | p :: D => by
    by_cases h : p.2 = 0
    · rw [List.filter_cons, if_neg (by simp [h]), cnt_filter g s D, cnt, h]; split <;> omega
    · rw [List.filter_cons, if_pos (by simp [h]), cnt, cnt, cnt_filter g s D]
theorem get0_cons {p : Row × Int} {D : Dic} {r : Row} (h : p.1 ≠ r) : get0 (p :: D) r = get0 D r := by unfold get0; rw [look, if_neg h]
theorem get0_head (p : Row × Int) (D : Dic) : get0 (p :: D) p.1 = p.2 := by unfold get0; rw [look, if_pos rfl]; rfl
theorem map_get0 : ∀ {D : Dic}, (D.map Prod.fst).Nodup → (D.map Prod.fst).map (fun r => (r, get0 D r)) = D
  | [], _ => rfl
  | p :: D, h => by
    rw [List.map_cons, List.nodup_cons] at h
    rw [List.map_cons, List.map_cons, get0_head]
    congr 1
    rw [List.map_congr_left fun r hr => by rw [get0_cons fun e => h.1 (by rw [e]; exact hr)]]
    exact map_get0 h.2
theorem settle_perm {D : Dic} (h : (D.map Prod.fst).Nodup) : (settle D).Perm (D.filter fun p => p.2 != 0) := by
  have h1 : (settle D).Perm (((D.map Prod.fst).filter fun r => get0 D r != 0).map fun r => (r, get0 D r)) := ((sortR_perm _).filter _).map _
  have h2 : (((D.map Prod.fst).filter fun r => get0 D r != 0).map fun r => (r, get0 D r)) = D.filter fun p => p.2 != 0 := by
    have e := map_get0 h
    generalize hk : D.map Prod.fst = ks at *
    have : (D.filter fun p => p.2 != 0) = ((ks.map fun r => (r, get0 D r)).filter fun p => p.2 != 0) := by rw [e]
    rw [this, List.filter_map]
    rfl
  rw [h2] at h1
  exact h1
theorem cnt_settle {D : Dic} (g : Row → Row) (s : Row) (h : (D.map Prod.fst).Nodup) : cnt g (settle D) s = cnt g D s := (cnt_perm (settle_perm h)).trans (cnt_filter g s D)
theorem cnt_id {D : Dic} (h : (D.map Prod.fst).Nodup) (s : Row) : cnt id D s = get0 D s := by
  induction D with
  | nil => rfl
  | cons p D ih =>
    rw [List.map_cons, List.nodup_cons] at h
    rw [cnt, ih h.2]
    show (if p.1 = s then p.2 else 0) + get0 D s = get0 (p :: D) s
    by_cases e : p.1 = s
    · have : get0 D s = 0 := by
        unfold get0
        rw [look_none (by rw [← e]; exact h.1)]; rfl
      rw [if_pos e, this, ← e, get0_head]; omega
    · rw [if_neg e, get0_cons e]; omega
theorem get0_settle {D : Dic} (h : (D.map Prod.fst).Nodup) (s : Row) : get0 (settle D) s = get0 D s := by
  rw [← cnt_id (settle_nodup h), cnt_settle _ _ h, cnt_id h]
/-! ### sorted: one list of the same rows -/
theorem sortR_sorted (l : List Row) : (sortR l).Pairwise (· ≤ ·) := by
  have := List.pairwise_mergeSort (le := leR) (fun a b c h1 h2 => by
    simp only [leR, decide_eq_true_eq] at *
    exact List.le_trans h1 h2) (fun a b => by
    simp only [leR, Bool.or_eq_true, decide_eq_true_eq]
    exact List.le_total a b) l
  exact this.imp fun h => by simpa [leR] using h
theorem sorted_ext : ∀ {l k : List Row}, l.Pairwise (· ≤ ·) → k.Pairwise (· ≤ ·) → l.Perm k → l = k
  | [], k, _, _, h => h.nil_eq
  | a :: l, [], _, _, h => by have := h.length_eq; simp at this
  | a :: l, b :: k, hl, hk, h => by
    rw [List.pairwise_cons] at hl hk
    have e : a = b := by
      have h1 : a ∈ b :: k := h.mem_iff.mp List.mem_cons_self
      have h2 : b ∈ a :: l := h.mem_iff.mpr List.mem_cons_self
      rcases List.mem_cons.mp h1 with h1 | h1
      · exact h1
      · rcases List.mem_cons.mp h2 with h2 | h2
        · exact h2.symm
        · exact List.le_antisymm (hl.1 b h2) (hk.1 a h1)
    subst e
    rw [sorted_ext hl.2 hk.2 ((List.perm_cons a).mp h)]
theorem perm_of_mem {l k : List Row} (hl : l.Nodup) (hk : k.Nodup) (h : ∀ x, x ∈ l ↔ x ∈ k) : l.Perm k := (List.perm_ext_iff_of_nodup hl hk).mpr h
theorem settle_sorted (D : Dic) : ((settle D).map Prod.fst).Pairwise (· ≤ ·) := by
  rw [settle_keys]
  exact List.Pairwise.filter _ (sortR_sorted _)
/-- a tally: settled already -/
structure Tal (l : Dic) : Prop where
  nd : (l.map Prod.fst).Nodup
  st : (l.map Prod.fst).Pairwise (· ≤ ·)
  nz : ∀ p ∈ l, p.2 ≠ 0
theorem tal_settle {D : Dic} (h : (D.map Prod.fst).Nodup) : Tal (settle D) := ⟨settle_nodup h, settle_sorted D, fun p hp => (mem_settle hp).2.2⟩
theorem Tal.mem {l : Dic} (t : Tal l) (r : Row) : r ∈ l.map Prod.fst ↔ get0 l r ≠ 0 := by
  constructor
  · intro h
    exact t.nz _ (get0_mem h)
  · intro h
    by_cases hm : r ∈ l.map Prod.fst
    · exact hm
    · exact absurd (by unfold get0; rw [look_none hm]; rfl) h
theorem Tal.ext {l k : Dic} (hl : Tal l) (hk : Tal k) (h : ∀ r, get0 l r = get0 k r) : l = k := by
  have e : l.map Prod.fst = k.map Prod.fst := sorted_ext hl.st hk.st (perm_of_mem hl.nd hk.nd fun r => by rw [hl.mem, hk.mem, h r])
  rw [← map_get0 hl.nd, ← map_get0 hk.nd, e]
  exact List.map_congr_left fun r _ => by rw [h r]
theorem Tal.settled {l : Dic} (t : Tal l) : settle l = l := (tal_settle t.nd).ext t fun r => get0_settle t.nd r
theorem acc_nodup (f : Row → Row) (ps : Dic) : ((accD f ps []).map Prod.fst).Nodup := accD_nodup f ps [] List.nodup_nil
/-- the share of a tally -/
def shr (f : Row → Row) (l : Dic) : Dic := settle (accD f l [])
theorem get0_nil (r : Row) : get0 [] r = 0 := rfl
theorem get0_shr (f : Row → Row) (l : Dic) (r : Row) : get0 (shr f l) r = cnt f l r := by
  rw [shr, get0_settle (acc_nodup f l), get0_acc, get0_nil, Int.zero_add]
theorem tal_shr (f : Row → Row) (l : Dic) : Tal (shr f l) := tal_settle (acc_nodup f l)
theorem foldl_put_get : ∀ (l D : Dic), (l.map Prod.fst).Nodup → (∀ r ∈ l.map Prod.fst, r ∉ D.map Prod.fst) → l.foldl (fun D p => put D p.1 p.2) D = D ++ l
  | [], D, _, _ => by simp
  | p :: l, D, h, h2 => by
    rw [List.map_cons, List.nodup_cons] at h
    have h3 := h2 p.1 (by rw [List.map_cons]; exact List.mem_cons_self)
    have e : put D p.1 p.2 = D ++ [p] := by unfold put; rw [if_neg h3]
    rw [List.foldl_cons, e, foldl_put_get l _ h.2 fun r hr hm => ?_]
    · simp
    · rw [List.map_append] at hm
      rcases List.mem_append.mp hm with hm | hm
      · exact h2 r (by rw [List.map_cons]; exact List.mem_cons_of_mem _ hr) hm
      · simp only [List.map_cons, List.map_nil, List.mem_singleton] at hm
        subst hm; exact h.1 hr
end RT

namespace RT
open L2 PyProof.Rows PySem.Spec PySem L2.DL SX
/-! ### rooms and parts of any kind -/
def shF (room part : List (List Nat)) : Row → Row := fun r => shareR room r part
theorem shF_len (room part : List (List Nat)) (r : Row) : (shF room part r).length = part.length := by simp only [shF, shareR, List.length_map]
/-! ### the law's own share -/
/-! ### tallies added, counted -/
end RT

namespace RT
open L2 PyProof.Rows PySem.Spec PySem L2.DL SX
/-! ### rooms united, rooms' common part -/
theorem sortN_sorted (l : List (List Nat)) : (sortN l).Pairwise (· ≤ ·) := by
  have := List.pairwise_mergeSort (le := leN) (fun a b c h1 h2 => by
    simp only [leN, decide_eq_true_eq] at *
    exact List.le_trans h1 h2) (fun a b => by
    simp only [leN, Bool.or_eq_true, decide_eq_true_eq]
    exact List.le_total a b) l
  exact this.imp fun h => by simpa [leN] using h
theorem sorted_extN : ∀ {l k : List (List Nat)}, l.Pairwise (· ≤ ·) → k.Pairwise (· ≤ ·) → l.Perm k → l = k
  | [], k, _, _, h => h.nil_eq
  | a :: l, [], _, _, h => by have := h.length_eq; simp at this
  | a :: l, b :: k, hl, hk, h => by
    rw [List.pairwise_cons] at hl hk
    have e : a = b := by
      have h1 : a ∈ b :: k := h.mem_iff.mp List.mem_cons_self
      have h2 : b ∈ a :: l := h.mem_iff.mpr List.mem_cons_self
      rcases List.mem_cons.mp h1 with h1 | h1
      · exact h1
      · rcases List.mem_cons.mp h2 with h2 | h2
        · exact h2.symm
        · exact List.le_antisymm (hl.1 b h2) (hk.1 a h1)
    subst e
    rw [sorted_extN hl.2 hk.2 ((List.perm_cons a).mp h)]
/-- a room: its questions rise -/
structure Rm (ss : List (List Nat)) : Prop where
  nd : ss.Nodup
  st : ss.Pairwise (· ≤ ·)
  nm : ∀ s ∈ ss, nm8 s
theorem Rm.ok {ss : List (List Nat)} (h : Rm ss) : okC ss := nm8_okC h.nm
theorem Rm.ext {a b : List (List Nat)} (ha : Rm a) (hb : Rm b) (h : ∀ s, s ∈ a ↔ s ∈ b) : a = b := sorted_extN ha.st hb.st ((List.perm_ext_iff_of_nodup ha.nd hb.nd).mpr h)
theorem Rm.nil : Rm [] := ⟨List.nodup_nil, .nil, fun _ h => by cases h⟩
theorem rm_sort {ss : List (List Nat)} (h : ∀ s ∈ ss, nm8 s) (nd : ss.Nodup) : Rm (sortN ss) := ⟨(sortN_perm ss).nodup_iff.mpr nd, sortN_sorted ss, fun s hs => h s ((sortN_perm ss).mem_iff.mp hs)⟩
def unit (a b : List (List Nat)) : List (List Nat) := sortN (a ++ b.filter fun s => !decide (s ∈ a))
def comm (a b : List (List Nat)) : List (List Nat) := a.filter fun s => decide (s ∈ b)
theorem unit_mem {a b : List (List Nat)} {s : List Nat} : s ∈ unit a b ↔ s ∈ a ∨ s ∈ b := by
  unfold unit
  rw [(sortN_perm _).mem_iff, List.mem_append, List.mem_filter]
  by_cases h : s ∈ a <;> simp [h]
theorem comm_mem {a b : List (List Nat)} {s : List Nat} : s ∈ comm a b ↔ s ∈ a ∧ s ∈ b := by simp [comm]
/-! the law's own union: a set, sorted -/
theorem S_inj {a b : List Nat} (h : S a = S b) : a = b := by
  have := congrArg (fun s : Str => s.cps.toList) h
  simpa [S] using this
end RT

namespace RT
open L2 PyProof.Rows PySem.Spec PySem L2.DL SX
/-! ### words cut at a sign -/
def cutB (c : Nat) : List Nat → List (List Nat)
  | [] => [[]]
  | x :: w => if x = c then [] :: cutB c w else match cutB c w with
    | p :: ps => (x :: p) :: ps
    | [] => [[x]]
theorem cutB_ne (c : Nat) : ∀ w, cutB c w ≠ []
  | [] => by simp [cutB]
  | x :: w => by
    rw [cutB]
    split
    · simp
    · split <;> simp
theorem joinL_cons {s p : List Nat} : ∀ {ps : List (List Nat)}, ps ≠ [] → TL.joinL s (p :: ps) = p ++ (s ++ TL.joinL s ps)
  | [], h => absurd rfl h
  | q :: r, _ => rfl
theorem joinL_push {c x : Nat} {p : List Nat} : ∀ {ps : List (List Nat)}, TL.joinL [c] ((x :: p) :: ps) = x :: TL.joinL [c] (p :: ps)
  | [] => rfl
  | q :: r => rfl
theorem join_cut (c : Nat) : ∀ w, TL.joinL [c] (cutB c w) = w
  | [] => rfl
  | x :: w => by
    have ih := join_cut c w
    rw [cutB]
    split
    · rename_i h
      subst h
      rw [joinL_cons (cutB_ne _ _), ih]; rfl
    · cases q : cutB c w with
      | nil => exact absurd q (cutB_ne _ _)
      | cons p ps =>
        rw [q] at ih
        show TL.joinL [c] ((x :: p) :: ps) = _
        rw [joinL_push, ih]
theorem cut_free (c : Nat) : ∀ w, ∀ p ∈ cutB c w, c ∉ p
  | [], p, h => by
    rw [cutB] at h
    rw [List.mem_singleton.mp h]; exact List.not_mem_nil
  | x :: w, p, h => by
    have ih := cut_free c w
    rw [cutB] at h
    split at h
    · rcases List.mem_cons.mp h with rfl | h
      · exact List.not_mem_nil
      · exact ih p h
    · rename_i hx
      cases q : cutB c w with
      | nil => exact absurd q (cutB_ne _ _)
      | cons r ps =>
        rw [q] at h ih
        rcases List.mem_cons.mp h with rfl | h
        · intro hc
          rcases List.mem_cons.mp hc with e | hc
          · exact hx e.symm
          · exact ih r List.mem_cons_self hc
        · exact ih p (List.mem_cons_of_mem _ h)
theorem cut_sub (c : Nat) : ∀ w, ∀ p ∈ cutB c w, p.length ≤ w.length ∧ ∀ x ∈ p, x ∈ w
  | [], p, h => by
    rw [cutB] at h
    rw [List.mem_singleton.mp h]; exact ⟨Nat.le_refl _, fun _ h => h⟩
  | x :: w, p, h => by
    have ih := cut_sub c w
    rw [cutB] at h
    split at h
    · rcases List.mem_cons.mp h with rfl | h
      · exact ⟨Nat.zero_le _, fun _ h => by cases h⟩
      · have := ih p h
        exact ⟨by rw [List.length_cons]; omega, fun y hy => List.mem_cons_of_mem _ (this.2 y hy)⟩
    · cases q : cutB c w with
      | nil => exact absurd q (cutB_ne _ _)
      | cons r ps =>
        rw [q] at h ih
        rcases List.mem_cons.mp h with rfl | h
        · have := ih r List.mem_cons_self
          refine ⟨by rw [List.length_cons, List.length_cons]; omega, fun y hy => ?_⟩
          rcases List.mem_cons.mp hy with rfl | hy
          · exact List.mem_cons_self
          · exact List.mem_cons_of_mem _ (this.2 y hy)
        · have := ih p (List.mem_cons_of_mem _ h)
          exact ⟨by rw [List.length_cons]; omega, fun y hy => List.mem_cons_of_mem _ (this.2 y hy)⟩
theorem cut_len (c : Nat) : ∀ w, (cutB c w).length ≤ w.length + 1
  | [] => Nat.le_refl _
  | x :: w => by
    have ih := cut_len c w
    rw [cutB]
    split
    · rw [List.length_cons, List.length_cons]; omega
    · cases q : cutB c w with
      | nil => exact absurd q (cutB_ne _ _)
      | cons r ps =>
        rw [q] at ih
        rw [List.length_cons] at ih ⊢
        rw [List.length_cons]; omega
theorem spl_cut (c : Nat) (w : List Nat) : TL.spl [c] 0 [] w = cutB c w := by
  have := TL.spl_join (s := c) (S := []) (cutB_ne c w) (cut_free c w)
  rwa [join_cut] at this
theorem split_one {c : Nat} (hc : c < 256) (w : List Nat) : Txt.split (S w) (S [c]) = (cutB c w).map S := by
  rw [split_S (by simp) (by simp [hc]), spl_cut]
theorem gSplit_S {c : Nat} (hc : c < 256) {w : List Nat} (hw : w.length ≤ 1000000) : gSplit (.str (S w)) [.str (S [c])] = some (.lst true (encN (cutB c w))) := by
  simp only [gSplit]
  rw [if_pos ⟨rfl, by rw [S_len, sizeLine_eq]; omega⟩, split_one hc, encN_strs]
theorem lit_sp : (" " : Str) = S [32] := by decide +kernel
theorem lit_plus : ("+" : Str) = S [43] := by decide +kernel
theorem lit_dot : ("." : Str) = S [46] := by decide +kernel
theorem lit_eq : ("=" : Str) = S [61] := by decide +kernel
theorem lit_minus : ("-" : Str) = S [45] := by decide +kernel
theorem lit_nought : ("0" : Str) = S [48] := by decide +kernel
theorem S_eqD (a b : List Nat) : (S a == S b) = decide (a = b) := by
  by_cases h : a = b
  · subst h; simp
  · rw [decide_eq_false h]
    exact beq_eq_false_iff_ne.mpr fun e => h (S_inj e)
def okTx (w : List Nat) : Prop := w.length ≤ 1000000 ∧ ∀ c ∈ w, c < 1114112
theorem okTx.so {w : List Nat} (h : okTx w) : PyData.strOk (S w) = true := strOk_of h.2
theorem oEq_Tx {a b : List Nat} (ha : okTx a) (hb : okTx b) : oEq (.str (S a)) (.str (S b)) = some (.bl (decide (a = b))) := by rw [oEq_str ha.so hb.so, S_eqD]
theorem okTx.cut {w : List Nat} (h : okTx w) (c : Nat) : ∀ p ∈ cutB c w, okTx p := fun p hp => by
  have := cut_sub c w p hp
  exact ⟨Nat.le_trans this.1 h.1, fun x hx => h.2 x (this.2 x hx)⟩
/-! ### numbers read -/
def digB (c : Nat) : Bool := decide (48 ≤ c) && decide (c ≤ 57)
def numF (w : List Nat) : Option Int := if (decide (1 ≤ w.length ∧ w.length ≤ 13) && w.all digB && !(decide (w.take 1 = [48]) && decide (1 < w.length))) = true then some ((NumText.digitsVal w : Nat) : Int) else none
abbrev bt : R0 := .err "BadText" (some ("at", .int 0))
theorem fig_mem (c : Nat) : c ∈ ("0123456789" : Str).cps.toList ↔ digB c = true := by
  have e : ("0123456789" : Str).cps.toList = [48, 49, 50, 51, 52, 53, 54, 55, 56, 57] := by decide +kernel
  rw [e]
  simp only [List.mem_cons, List.not_mem_nil, or_false, digB, Bool.and_eq_true, decide_eq_true_eq]
  omega
theorem num_loop (s : Val) : ∀ (l : List Nat) (x : Option Val), ∃ x', forL [1] gN l1_number_of (l.map fun c => Val.str ⟨#[c]⟩) [some s, x] = if l.all digB = true then .nx [some s, x'] else .err "BadText" (some ("at", .int 0)) [some s, x']
  | [], x => ⟨x, rfl⟩
  | c :: l, x => by
    obtain ⟨x', e⟩ := num_loop s l (some (.str ⟨#[c]⟩))
    cases hc : digB c with
    | true =>
      refine ⟨x', ?_⟩
      rw [List.map_cons, forL]
      have e1 : strIn ⟨#[c]⟩ ("0123456789" : Str) = true := by rw [strIn_one]; exact decide_eq_true ((fig_mem c).mpr hc)
      simp! [l1_number_of, e1, List.all_cons, hc]
      exact e
    | false =>
      refine ⟨some (.str ⟨#[c]⟩), ?_⟩
      rw [List.map_cons, forL]
      have e1 : strIn ⟨#[c]⟩ ("0123456789" : Str) = false := by
        rw [strIn_one]
        exact decide_eq_false fun h => by rw [(fig_mem c).mp h] at hc; cases hc
      simp! [l1_number_of, e1, List.all_cons, hc]
theorem str_at0 {w : List Nat} (h : okTx w) (h1 : 1 ≤ w.length) : oSubs (.str (S w)) (.int 0) = some (.str (S (w.take 1))) := by
  have hl : (S w).length ≤ sizeLine := by rw [S_len, sizeLine_eq]; have := h.1; omega
  show (if (S w).length ≤ sizeLine then (atI (S w).cps.toList 0).map fun c => Val.str ⟨#[c]⟩ else none) = _
  rw [if_pos hl]
  cases w with
  | nil => exact absurd h1 (by simp)
  | cons c v =>
    have e : (S (c :: v)).cps.toList = c :: v := rfl
    rw [e, atI0]
    rfl
theorem okTx_lit (w : List Nat) (h : (decide (w.length ≤ 1000000) && w.all fun c => decide (c < 1114112)) = true) : okTx w := by
  simp only [Bool.and_eq_true, decide_eq_true_eq, List.all_eq_true] at h
  exact ⟨h.1, h.2⟩
theorem number_spec {w : List Nat} (h : okTx w) : m_number_of [.str (S w)] = match numF w with
    | some n => .ok (.int n)
    | none => bt := by
  have hl : oLen [.str (S w)] = some (.int w.length) := by rw [oLen_str (by rw [S_len, sizeLine_eq]; have := h.1; omega), S_len]
  unfold m_number_of fnP g_number_of numF
  by_cases h1 : 1 ≤ w.length
  · by_cases h2 : w.length ≤ 13
    · have a1 : (1 : Int) ≤ w.length := by omega
      have a2 : (w.length : Int) ≤ 13 := by omega
      obtain ⟨x', e⟩ := num_loop (.str (S w)) w none
      cases q : w.all digB with
      | false =>
        simp only [q] at e
        simp! [hl, a1, a2, signs_S, e, h1, h2, q, and_self]
      | true =>
        simp only [q, if_true] at e
        have s0 := str_at0 h h1
        have oc : okTx (w.take 1) := ⟨by rw [List.length_take]; omega, fun x hx => h.2 x (List.mem_of_mem_take hx)⟩
        have eq : oEq (.str (S (w.take 1))) (.str ("0" : Str)) = some (.bl (decide (w.take 1 = [48]))) := by rw [lit_nought]; exact oEq_Tx oc (okTx_lit [48] (by decide))
        have ii : oInt1 [.str (S w)] = some (.int ((NumText.digitsVal w : Nat) : Int)) := by
          have := int_S (a := w) (List.all_eq_true.mpr fun x hx => List.all_eq_true.mp q x hx) (fun e => by rw [e] at h1; simp at h1) (by omega)
          simp only [oInt1]
          rw [if_pos (by rw [S_len]; omega), this]; rfl
        cases q1 : decide (w.take 1 = [48]) with
        | true =>
          rw [q1] at eq
          by_cases q2 : 1 < w.length
          · have a3 : (1 : Int) < (w.length : Nat) := by omega
            simp! [hl, a1, a2, signs_S, e, h1, h2, and_self, s0, eq, a3, q2]
          · have a3 : ¬ (1 : Int) < (w.length : Nat) := by omega
            simp! [hl, a1, a2, signs_S, e, h1, h2, and_self, s0, eq, a3, q2, ii]
        | false =>
          rw [q1] at eq
          simp! [hl, a1, a2, signs_S, e, h1, h2, and_self, s0, eq, ii]
    · have a1 : (1 : Int) ≤ w.length := by omega
      have a2 : ¬ (w.length : Int) ≤ 13 := by omega
      simp! [hl, a1, a2, h2, and_false]
  · have a1 : ¬ (1 : Int) ≤ w.length := by omega
    simp! [hl, a1, h1, false_and]
/-! ### names and rooms read -/
theorem name_of_spec {w : List Nat} (h : okTx w) : m_name_of [.str (S w)] = if isNm w = true then .ok (.str (S w)) else bt := by
  have nc := callP_name (s := w) (by have := h.1; omega)
  unfold m_name_of fnP g_name_of
  cases q : isNm w <;> simp! [nc, q]
end RT

namespace RT
open L2 PyProof.Rows PySem.Spec PySem L2.DL SX
/-! ### dict(a tally) -/
/-! ### counts taken -/
def few (D ps : Dic) : Dic := ps.filter fun p => decide (get0 D p.1 < p.2)
theorem get0_nn {a : Dic} (h : ∀ p ∈ a, 1 ≤ p.2) (r : Row) : 0 ≤ get0 a r := by
  by_cases hm : r ∈ a.map Prod.fst
  · have := h _ (get0_mem hm); show 0 ≤ get0 a r; have e : ((r, get0 a r) : Row × Int).2 = get0 a r := rfl; omega
  · unfold get0; rw [look_none hm]; exact Int.le_refl _
theorem get0_of_mem {a : Dic} (nd : (a.map Prod.fst).Nodup) {p : Row × Int} (h : p ∈ a) : get0 a p.1 = p.2 := by
  induction a with
  | nil => cases h
  | cons q a ih =>
    rw [List.map_cons, List.nodup_cons] at nd
    rcases List.mem_cons.mp h with rfl | h
    · exact get0_head _ _
    · rw [get0_cons, ih nd.2 h]
      intro e
      exact nd.1 (by rw [e]; exact List.mem_map.mpr ⟨p, h, rfl⟩)
/-! two tallies in a list -/
end RT

namespace RT
open L2 PyProof.Rows PySem.Spec PySem L2.DL SX
/-! ### lists of rows -/
/-! ### the bar of two tallies -/
def both (A B : Dic) : List Row := A.map Prod.fst ++ B.map Prod.fst
def bad (A B : Dic) : List Row := (sortR (both A B)).filter fun r => !(get0 A r == get0 B r)
/-- the two shares that a bar looks at -/
def shA (ra rb : List (List Nat)) (a : Dic) : Dic := shr (shF ra (comm ra rb)) a
def shB (ra rb : List (List Nat)) (b : Dic) : Dic := shr (shF rb (comm ra rb)) b
theorem tal_shA (ra rb : List (List Nat)) (a : Dic) : Tal (shA ra rb a) := tal_shr _ _
structure BarOk (ra : List (List Nat)) (a : Dic) (rb : List (List Nat)) (b : Dic) : Prop where
  la : ra.length ≤ 1000
  lb : rb.length ≤ 1000
  wa : ∀ p ∈ a, p.1.length = ra.length
  wb : ∀ p ∈ b, p.1.length = rb.length
  na : a.length ≤ 100000
  nb : b.length ≤ 100000
theorem BarOk.symm {ra rb : List (List Nat)} {a b : Dic} (h : BarOk ra a rb b) : BarOk rb b ra a := ⟨h.lb, h.la, h.wb, h.wa, h.nb, h.na⟩
/-! the law's own bar -/
end RT

namespace RT
open L2 PyProof.Rows PySem.Spec PySem L2.DL SX
/-! ### tallies with bounds -/
structure TalB (n : Nat) (B : Int) (l : Dic) : Prop where
  tal : Tal l
  row : ∀ p ∈ l, p.1.length = n ∧ ∀ c ∈ p.1, 0 ≤ c ∧ c < 10
  cnt : ∀ p ∈ l, 1 ≤ p.2 ∧ p.2 ≤ B
theorem TalB.wid {n : Nat} {B : Int} {l : Dic} (h : TalB n B l) : ∀ p ∈ l, p.1.length = n := fun p hp => (h.row p hp).1
theorem TalB.mono {n : Nat} {B C : Int} {l : Dic} (h : TalB n B l) (k : B ≤ C) : TalB n C l := ⟨h.tal, h.row, fun p hp => ⟨(h.cnt p hp).1, by have := (h.cnt p hp).2; omega⟩⟩
theorem TalB.get0 {n : Nat} {B : Int} {l : Dic} (h : TalB n B l) (r : Row) : 0 ≤ get0 l r := get0_nn (fun p hp => (h.cnt p hp).1) r
theorem DicOk.talB {n : Nat} {D : Dic} (k : DicOk n 10 D) : TalB n 1000000000000 (settle D) := ⟨tal_settle k.nd, (k.tal (by decide)).row, (k.tal (by decide)).cnt⟩
theorem cnt_le {B : Int} (hB : 0 ≤ B) {f : Row → Row} {r : Row} : ∀ {l : Dic}, (∀ p ∈ l, 1 ≤ p.2 ∧ p.2 ≤ B) → 0 ≤ cnt f l r ∧ cnt f l r ≤ l.length * B
  | [], _ => by simp only [cnt, List.length_nil]; omega
  | p :: l, h => by
    have h1 := h p List.mem_cons_self
    obtain ⟨i1, i2⟩ := cnt_le (B := B) hB (f := f) (r := r) (l := l) fun q hq => h q (List.mem_cons_of_mem _ hq)
    have e : ((p :: l).length : Int) * B = l.length * B + B := by
      rw [List.length_cons]
      push_cast
      rw [Int.add_mul, Int.one_mul]
    rw [cnt, e]
    split <;> omega
theorem mem_get0 {l : Dic} (t : Tal l) {p : Row × Int} (h : p ∈ l) : get0 l p.1 = p.2 := get0_of_mem t.nd h
theorem shareR_dig {room part : List (List Nat)} {r : Row} (h : ∀ c ∈ r, 0 ≤ c ∧ c < 10) : ∀ c ∈ shF room part r, 0 ≤ c ∧ c < 10 := fun c hc => by
  unfold shF shareR at hc
  obtain ⟨n, _, rfl⟩ := List.mem_map.mp hc
  rw [List.getD_eq_getElem?_getD]
  cases q : r[room.idxOf n]? with
  | none => exact ⟨Int.le_refl _, by decide⟩
  | some x => exact h x (List.mem_of_getElem? q)
theorem shr_mem_src {f : Row → Row} {l : Dic} {p : Row × Int} (h : p ∈ shr f l) : ∃ q ∈ l, f q.1 = p.1 := by
  obtain ⟨z1, _, _⟩ := mem_settle h
  obtain ⟨z, hz, ez⟩ := List.mem_map.mp z1
  have : ∀ (ps D : Dic), (∀ q ∈ D, ∃ x ∈ l, f x.1 = q.1) → (∀ q ∈ ps, q ∈ l) → ∀ q ∈ accD f ps D, ∃ x ∈ l, f x.1 = q.1 := by
    intro ps
    induction ps with
    | nil => intro D h1 _; exact h1
    | cons a ps ih =>
      intro D h1 h2
      rw [accD]
      refine ih _ (fun q hq => ?_) fun q hq => h2 q (List.mem_cons_of_mem _ hq)
      rcases put_mem hq with hq | rfl
      · exact h1 q hq
      · exact ⟨a, h2 a List.mem_cons_self, rfl⟩
  obtain ⟨x, hx, e⟩ := this l [] (fun _ h => by cases h) (fun _ h => h) z hz
  exact ⟨x, hx, by rw [e, ez]⟩
theorem TalB.shr {n : Nat} {B : Int} {l : Dic} (h : TalB n B l) (hB : 0 ≤ B) (room part : List (List Nat)) : TalB part.length (l.length * B) (shr (shF room part) l) := by
  refine ⟨tal_shr _ _, fun p hp => ?_, fun p hp => ?_⟩
  · obtain ⟨q, hq, e⟩ := shr_mem_src hp
    rw [← e]
    exact ⟨shF_len _ _ _, shareR_dig (h.row q hq).2⟩
  · have e := mem_get0 (tal_shr (shF room part) l) hp
    have nz := (tal_shr (shF room part) l).nz p hp
    rw [get0_shr] at e
    obtain ⟨h1, h2⟩ := cnt_le hB (f := shF room part) (r := p.1) h.cnt
    rw [← e] at nz ⊢
    omega
/-! ### a tally moved a little -/
theorem oMin_int (i j : Int) : oMin [.int i, .int j] = some (.int (if j < i then j else i)) := rfl
/-! ### two rooms with tallies -/
end RT

namespace RT
open L2 PyProof.Rows PySem.Spec PySem L2.DL SX
/-! ### data that are equal -/
mutual
def ndc : PyData → Bool
  | .none => true
  | .bool _ => true
  | .int _ => true
  | .str _ => true
  | .list xs => ndcs xs
  | .tuple xs => ndcs xs
  | .dict _ => false
def ndcs : List PyData → Bool
  | [] => true
  | x :: xs => ndc x && ndcs xs
end
mutual
theorem alike_self : ∀ d : PyData, ndc d = true → PySem.W.alike d d = true
  | .none, _ => by simp [PySem.W.alike]
  | .bool _, _ => by simp [PySem.W.alike]
  | .int _, _ => by simp [PySem.W.alike]
  | .str _, _ => by simp [PySem.W.alike]
  | .list xs, h => by rw [PySem.W.alike]; exact alikeAll_self xs (by simpa [ndc] using h)
  | .tuple xs, h => by rw [PySem.W.alike]; exact alikeAll_self xs (by simpa [ndc] using h)
  | .dict _, h => by simp [ndc] at h
theorem alikeAll_self : ∀ xs : List PyData, ndcs xs = true → PySem.W.alikeAll xs xs = true
  | [], _ => by simp [PySem.W.alikeAll]
  | x :: xs, h => by
    simp only [ndcs, Bool.and_eq_true] at h
    rw [PySem.W.alikeAll, alike_self x h.1, alikeAll_self xs h.2]; rfl
end
structure DatV (w : Val) (d : PyData) (n : Nat) : Prop where
  py : toPy w = some d
  lay : PyData.canLay0 d = true
  dep : d.depth ≤ n
  nd : ndc d = true
structure DatVs (ws : List Val) (ds : List PyData) (n : Nat) : Prop where
  py : toPys ws = some ds
  lay : PyData.canLayAll0 ds = true
  dep : PyData.depthAll ds ≤ n
  nd : ndcs ds = true
theorem DatVs.nil {n : Nat} : DatVs [] [] n := ⟨rfl, rfl, by simp [PyData.depthAll], rfl⟩
theorem DatVs.cons {w : Val} {d : PyData} {ws : List Val} {ds : List PyData} {n : Nat} (h : DatV w d n) (k : DatVs ws ds n) : DatVs (w :: ws) (d :: ds) n := by
  refine ⟨by simp only [toPys, h.py, k.py, Option.bind_some, Option.map_some], by simp only [PyData.canLayAll0, h.lay, k.lay, Bool.and_self], ?_, by simp only [ndcs, h.nd, k.nd, Bool.and_self]⟩
  have h1 := h.dep
  have h2 := k.dep
  simp only [PyData.depthAll]; omega
theorem DatVs.map {α : Type} {f : α → Val} {g : α → PyData} {n : Nat} : ∀ {l : List α}, (∀ a ∈ l, DatV (f a) (g a) n) → DatVs (l.map f) (l.map g) n
  | [], _ => .nil
  | a :: l, h => .cons (h a List.mem_cons_self) (DatVs.map fun b hb => h b (List.mem_cons_of_mem _ hb))
theorem DatVs.lst {o : Bool} {ws : List Val} {ds : List PyData} {n : Nat} (k : DatVs ws ds n) : DatV (.lst o ws) (.list ds) (n + 1) := by
  have := k.dep
  exact ⟨by simp only [toPy, k.py, Option.map_some], by simp only [PyData.canLay0, k.lay], by simp only [PyData.depth]; omega, by simp only [ndc, k.nd]⟩
theorem DatVs.tup {ws : List Val} {ds : List PyData} {n : Nat} (k : DatVs ws ds n) : DatV (.tup ws) (.tuple ds) (n + 1) := by
  have := k.dep
  exact ⟨by simp only [toPy, k.py, Option.map_some], by simp only [PyData.canLay0, k.lay], by simp only [PyData.depth]; omega, by simp only [ndc, k.nd]⟩
theorem DatVs.tpz {ws : List Val} {ds : List PyData} {n : Nat} (k : DatVs ws ds n) : DatV (.tpz ws) (.tuple ds) (n + 1) := by
  have := k.dep
  exact ⟨by simp only [toPy, k.py, Option.map_some], by simp only [PyData.canLay0, k.lay], by simp only [PyData.depth]; omega, by simp only [ndc, k.nd]⟩
theorem DatV.mono {w : Val} {d : PyData} {n m : Nat} (h : DatV w d n) (k : n ≤ m) : DatV w d m := ⟨h.py, h.lay, Nat.le_trans h.dep k, h.nd⟩
theorem datV_int (i : Int) (n : Nat) : DatV (.int i) (.int i) n := ⟨rfl, rfl, by simp [PyData.depth], rfl⟩
theorem datV_str {s : List Nat} (h : ∀ c ∈ s, c < 1114112) (n : Nat) : DatV (.str (S s)) (.str (S s)) n := ⟨rfl, strOk_of h, by simp [PyData.depth], rfl⟩
theorem datV_row (r : Row) : DatV (.tup (encI r)) (.tuple (r.map .int)) 1 := (DatVs.map (f := Val.int) (g := PyData.int) (n := 0) fun a _ => datV_int a 0).tup
theorem datV_room {ss : List (List Nat)} (h : okC ss) : DatV (.tpz (encN ss)) (.tuple (ss.map fun s => .str (S s))) 1 := (DatVs.map (f := fun s => Val.str (S s)) (g := fun s => PyData.str (S s)) (n := 0) fun a ha => datV_str (h a ha) 0).tpz
def pairD' (p : Row × Int) : PyData := .tuple [.tuple (p.1.map .int), .int p.2]
theorem datV_pair (p : Row × Int) : DatV (pairV p) (pairD' p) 2 := (DatVs.cons (datV_row p.1) (.cons (datV_int p.2 1) .nil)).tup
theorem datV_tal (o : Bool) (l : Dic) : DatV (.lst o (encT l)) (.list (l.map pairD')) 3 := (DatVs.map (f := pairV) (g := pairD') fun p _ => datV_pair p).lst
theorem shaped_dat {w : Val} {d : PyData} {n : Nat} (h : DatV w d n) (hn : n ≤ 50) : SeqAt.shaped d = true := by
  have := h.dep
  simp only [SeqAt.shaped, h.lay, Bool.true_and]
  exact decide_eq_true (by omega)
theorem eqB_dat {w w' : Val} {d : PyData} {n m : Nat} (h : DatV w d n) (k : DatV w' d m) (hn : n ≤ 50) : eqB w w' = some true := by
  have e := PySem.W.eqv_refl_alike d (alike_self d h.nd)
  simp only [eqB, h.py, k.py, Option.bind_some, shaped_dat h hn, Bool.and_self, if_true, e]
theorem oEq_dat {w w' : Val} {d : PyData} {n m : Nat} (h : DatV w d n) (k : DatV w' d m) (hn : n ≤ 50) : oEq w w' = some (.bl true) := by
  simp only [oEq, eqB_dat h k hn, Option.map_some]
/-! ### rows of rooms, rows of tallies -/
/-- rooms with tallies -/
structure HOk (rooms : List (List (List Nat))) (ts : List Dic) : Prop where
  len : ts.length = rooms.length
  few : rooms.length ≤ 8
  rm : ∀ r ∈ rooms, Rm r ∧ r.length ≤ 6
  tl : ∀ k, k < rooms.length → TalB (rooms.getD k []).length 100000000000000 (ts.getD k []) ∧ (ts.getD k []).length ≤ 700
theorem HOk.at {rooms : List (List (List Nat))} {ts : List Dic} (h : HOk rooms ts) {k : Nat} (hk : k < rooms.length) : Rm (rooms.getD k []) ∧ (rooms.getD k []).length ≤ 6 := by
  rw [List.getD_eq_getElem?_getD, List.getElem?_eq_getElem hk]
  exact h.rm _ (List.getElem_mem _)
theorem HOk.bar {rooms : List (List (List Nat))} {ts : List Dic} (h : HOk rooms ts) {k i : Nat} (hk : k < rooms.length) (hi : i < rooms.length) : BarOk (rooms.getD k []) (ts.getD k []) (rooms.getD i []) (ts.getD i []) := by
  have a := (h.at hk).2
  have b := (h.at hi).2
  have c := h.tl k hk
  have d := h.tl i hi
  exact ⟨by omega, by omega, c.1.wid, d.1.wid, by omega, by omega⟩
/-! ### all bars -/
/-! the law's own -/
/-! the law's own look at what was told -/
end RT

namespace RT
open L2 PyProof.Rows PySem.Spec PySem L2.DL SX
/-! ### while -/
/-! ### plain facts of lists -/
theorem nodup_sub_len {α : Type} [DecidableEq α] : ∀ {l k : List α}, l.Nodup → (∀ x ∈ l, x ∈ k) → l.length ≤ k.length
  | [], _, _, _ => Nat.zero_le _
  | x :: l, k, h, hs => by
    rw [List.nodup_cons] at h
    have hx := hs x List.mem_cons_self
    have := nodup_sub_len (l := l) (k := k.erase x) h.2 fun y hy => by
      have hne : y ≠ x := fun e => h.1 (e ▸ hy)
      exact (List.mem_erase_of_ne hne).mpr (hs y (List.mem_cons_of_mem _ hy))
    rw [List.length_erase_of_mem hx] at this
    have := List.length_pos_of_mem hx
    rw [List.length_cons]; omega
/-- rooms of some questions -/
def RmIn (names : List (List Nat)) (r : List (List Nat)) : Prop := Rm r ∧ ∀ s ∈ r, s ∈ names
theorem RmIn.len {names r : List (List Nat)} (h : RmIn names r) : r.length ≤ names.length := nodup_sub_len h.1.nd h.2
/-! ### ears -/
end RT

namespace RT
open L2 PyProof.Rows PySem.Spec PySem L2.DL SX
/-! ### knots -/
/-- rooms that cover some, and no more -/
def Cover (F B : List (List (List Nat))) : Prop := (∀ b ∈ B, b ∈ F) ∧ ∀ r ∈ F, ∃ b ∈ B, ∀ s ∈ r, s ∈ b
theorem Cover.refl (B : List (List (List Nat))) : Cover B B := ⟨fun _ h => h, fun r h => ⟨r, h, fun _ h => h⟩⟩
/-! ### rooms of all kinds -/
theorem cutW_map {α : Type} (f : α → Val) (l : List α) (lo hi : Option Int) : cutW (l.map f) lo hi = ((l.drop (HT.sIx l.length 0 lo)).take (HT.sIx l.length l.length hi - HT.sIx l.length 0 lo)).map f := by
  unfold cutW
  rw [List.length_map, List.map_take, List.map_drop]
theorem oMax_int (i j : Int) : oMax [.int i, .int j] = some (.int (if j > i then j else i)) := rfl
end RT

namespace RT
open L2 PyProof.Rows PySem.Spec PySem L2.DL SX
/-! ### rooms with tallies, drawn -/
structure HB (t : Nat) (rooms : List (List (List Nat))) (ts : List Dic) : Prop where
  len : ts.length = rooms.length
  tl : ∀ k, k < rooms.length → TalB (rooms.getD k []).length (40000000000000 + 3 * t) (ts.getD k []) ∧ (ts.getD k []).length ≤ 40 + t
theorem HB.mono {t u : Nat} {rooms : List (List (List Nat))} {ts : List Dic} (h : HB t rooms ts) (k : t ≤ u) : HB u rooms ts := ⟨h.len, fun j hj => ⟨(h.tl j hj).1.mono (by omega), by have := (h.tl j hj).2; omega⟩⟩
theorem getD_set {α : Type} (l : List α) (j k : Nat) (x d : α) (hj : j < l.length) : (l.set j x).getD k d = if j = k then x else l.getD k d := by
  rw [List.getD_eq_getElem?_getD, List.getD_eq_getElem?_getD, List.getElem?_set]
  by_cases h : j = k
  · subst h; simp [hj]
  · simp [h]
theorem HB.set {t : Nat} {rooms : List (List (List Nat))} {ts : List Dic} (h : HB t rooms ts) {j : Nat} (hj : j < rooms.length) {x : Dic} (hx : TalB (rooms.getD j []).length (40000000000000 + 3 * t) x) (lx : x.length ≤ 40 + t) : HB t rooms (ts.set j x) := by
  refine ⟨by rw [List.length_set]; exact h.len, fun k hk => ?_⟩
  rw [getD_set _ _ _ _ _ (by rw [h.len]; exact hj)]
  by_cases e : j = k
  · subst e; rw [if_pos rfl]; exact ⟨hx, lx⟩
  · rw [if_neg e]; exact h.tl k hk
end RT

namespace RT
open L2 PyProof.Rows PySem.Spec PySem L2.DL SX
/-! ### places -/
/-! ### all questions -/
end RT

namespace RT
open L2 PyProof.Rows PySem.Spec PySem L2.DL SX
/-! ### hosts -/
/-! the law's own -/
end RT

namespace RT
open L2 PyProof.Rows PySem.Spec PySem L2.DL SX
/-! ### shares for a part of any kind -/
/-! ### all questions, as values -/
/-! ### whole counts -/
abbrev RT2 := List (List Nat) × Dic
def zv (p : RT2) : Val := .tup [.tpz (encN p.1), .lst false (encT p.2)]
end RT

namespace RT
open L2 PyProof.Rows PySem.Spec PySem L2.DL SX
/-! ### rows woven -/
def wov (whole ra : List (List Nat)) (r : Row) (rb : List (List Nat)) (s : Row) : Row := whole.map fun n => if n ∈ ra then r.getD (ra.idxOf n) 0 else s.getD (rb.idxOf n) 0
/-! ### the rows that have a share -/
def withS (room part : List (List Nat)) (h : Row) (rows : Dic) : Dic := rows.filter fun p => decide (shF room part p.1 = h)
end RT

namespace RT
open L2 PyProof.Rows PySem.Spec PySem L2.DL SX
/-! ### corners -/
abbrev Crn := List (Row × Row × Int)
def corF : Nat → Dic → Dic → Crn
  | n + 1, p :: L, q :: R =>
    if p.2 < q.2 then (p.1, q.1, p.2) :: corF n L ((q.1, q.2 - p.2) :: R)
    else if q.2 < p.2 then (p.1, q.1, q.2) :: corF n ((p.1, p.2 - q.2) :: L) R
    else (p.1, q.1, p.2) :: corF n L R
  | _, _, _ => []
theorem corF_nilL (n : Nat) (R : Dic) : corF n [] R = [] := by cases n <;> rfl
theorem corF_nilR (n : Nat) (L : Dic) : corF n L [] = [] := by cases n <;> cases L <;> rfl
theorem corF_lt {n : Nat} {p q : Row × Int} {L R : Dic} (h : p.2 < q.2) : corF (n + 1) (p :: L) (q :: R) = (p.1, q.1, p.2) :: corF n L ((q.1, q.2 - p.2) :: R) := by rw [corF, if_pos h]
theorem corF_gt {n : Nat} {p q : Row × Int} {L R : Dic} (h : q.2 < p.2) : corF (n + 1) (p :: L) (q :: R) = (p.1, q.1, q.2) :: corF n ((p.1, p.2 - q.2) :: L) R := by rw [corF, if_neg (by omega), if_pos h]
theorem corF_eq {n : Nat} {p q : Row × Int} {L R : Dic} (h : p.2 = q.2) : corF (n + 1) (p :: L) (q :: R) = (p.1, q.1, p.2) :: corF n L R := by rw [corF, if_neg (by omega), if_neg (by omega)]
theorem ixN_nat {n k : Nat} (h : k < n) : ixN n (k : Int) = some k := by
  unfold ixN
  have h0 : (0 : Int) ≤ (k : Int) := by omega
  simp [h]
end RT

namespace RT
open L2 PyProof.Rows PySem.Spec PySem L2.DL SX
/-! ### two tallies joined -/
theorem corF_mem : ∀ (n : Nat) {L R : Dic} {t : Row × Row × Int}, t ∈ corF n L R → t.1 ∈ L.map Prod.fst ∧ t.2.1 ∈ R.map Prod.fst
  | 0, _, _, _, h => by simp [corF] at h
  | n + 1, [], _, _, h => by simp [corF] at h
  | n + 1, p :: L, [], _, h => by simp [corF] at h
  | n + 1, p :: L, q :: R, t, h => by
    rcases Int.lt_trichotomy p.2 q.2 with c | c | c
    · rw [corF_lt c] at h
      rcases List.mem_cons.mp h with rfl | h
      · exact ⟨List.mem_cons_self, List.mem_cons_self⟩
      · have := corF_mem n h
        exact ⟨List.mem_cons_of_mem _ this.1, this.2⟩
    · rw [corF_eq c] at h
      rcases List.mem_cons.mp h with rfl | h
      · exact ⟨List.mem_cons_self, List.mem_cons_self⟩
      · have := corF_mem n h
        exact ⟨List.mem_cons_of_mem _ this.1, List.mem_cons_of_mem _ this.2⟩
    · rw [corF_gt c] at h
      rcases List.mem_cons.mp h with rfl | h
      · exact ⟨List.mem_cons_self, List.mem_cons_self⟩
      · have := corF_mem n h
        exact ⟨this.1, List.mem_cons_of_mem _ this.2⟩
theorem withS_mem {room part : List (List Nat)} {h : Row} {rows : Dic} {p : Row × Int} : p ∈ withS room part h rows ↔ p ∈ rows ∧ shF room part p.1 = h := by simp [withS]
def crn (ra rb part : List (List Nat)) (a b : Dic) (h : Row) : Crn := corF ((withS ra part h a).length + (withS rb part h b).length) (withS ra part h a) (withS rb part h b)
theorem crn_mem {ra rb part : List (List Nat)} {a b : Dic} {h : Row} {t : Row × Row × Int} (m : t ∈ crn ra rb part a b h) : (∃ p ∈ a, p.1 = t.1 ∧ shF ra part p.1 = h) ∧ ∃ q ∈ b, q.1 = t.2.1 ∧ shF rb part q.1 = h := by
  obtain ⟨m1, m2⟩ := corF_mem _ m
  obtain ⟨p, hp, ep⟩ := List.mem_map.mp m1
  obtain ⟨q, hq, eq⟩ := List.mem_map.mp m2
  exact ⟨⟨p, (withS_mem.mp hp).1, ep, (withS_mem.mp hp).2⟩, q, (withS_mem.mp hq).1, eq, (withS_mem.mp hq).2⟩
def putT (whole ra rb : List (List Nat)) (D : Dic) (t : Row × Row × Int) : Dic := put D (wov whole ra t.1 rb t.2.1) t.2.2
def joinD (ra rb : List (List Nat)) (a b : Dic) : Dic := (shA ra rb a).foldl (fun D p => (crn ra rb (comm ra rb) a b p.1).foldl (putT (unit ra rb) ra rb) D) []
theorem foldl_put_nd {α : Type} {f : α → Row} {g : α → Int} : ∀ (ts : List α) (D : Dic), (D.map Prod.fst).Nodup → ((ts.foldl (fun D t => put D (f t) (g t)) D).map Prod.fst).Nodup
  | [], D, h => h
  | t :: ts, D, h => foldl_put_nd ts _ (put_nodup _ _ h)
theorem foldl_flat {α β γ : Type} (f : γ → β → γ) (g : α → List β) : ∀ (l : List α) (D : γ), l.foldl (fun D p => (g p).foldl f D) D = (l.flatMap g).foldl f D
  | [], D => rfl
  | p :: l, D => by rw [List.foldl_cons, List.flatMap_cons, List.foldl_append]; exact foldl_flat f g l _
/-- all corners of two tallies -/
def crns (ra rb : List (List Nat)) (a b : Dic) : Crn := (shA ra rb a).flatMap fun p => crn ra rb (comm ra rb) a b p.1
theorem joinD_eq (ra rb : List (List Nat)) (a b : Dic) : joinD ra rb a b = (crns ra rb a b).foldl (fun D t => put D (wov (unit ra rb) ra t.1 rb t.2.1) t.2.2) [] := foldl_flat _ _ _ _
theorem joinD_nodup (ra rb : List (List Nat)) (a b : Dic) : ((joinD ra rb a b).map Prod.fst).Nodup := by rw [joinD_eq]; exact foldl_put_nd _ _ List.nodup_nil
end RT

namespace RT
open L2 PyProof.Rows PySem.Spec PySem L2.DL SX
/-! ### what corners add up to -/
def lft (t : Row × Row × Int) : Row × Int := (t.1, t.2.2)
def rgt (t : Row × Row × Int) : Row × Int := (t.2.1, t.2.2)
def pos (l : Dic) : Prop := ∀ p ∈ l, 1 ≤ p.2
theorem pos_tl {p : Row × Int} {l : Dic} (h : pos (p :: l)) : 1 ≤ p.2 ∧ pos l := ⟨h p List.mem_cons_self, fun q hq => h q (List.mem_cons_of_mem _ hq)⟩
theorem pos_cons {p : Row × Int} {l : Dic} (h : 1 ≤ p.2) (k : pos l) : pos (p :: l) := fun q hq => by
  rcases List.mem_cons.mp hq with rfl | hq
  · exact h
  · exact k q hq
theorem tot_nn : ∀ {l : Dic}, pos l → 0 ≤ tot l
  | [], _ => Int.le_refl _
  | p :: l, h => by
    have := tot_nn (pos_tl h).2
    have := (pos_tl h).1
    rw [tot]; omega
theorem cnt_cons (f : Row → Row) (p : Row × Int) (l : Dic) (x : Row) : cnt f (p :: l) x = (if f p.1 = x then p.2 else 0) + cnt f l x := rfl
theorem cnt_app (f : Row → Row) (a b : Dic) (x : Row) : cnt f (a ++ b) x = cnt f a x + cnt f b x := by
  induction a with
  | nil => simp [cnt]
  | cons p a ih => rw [List.cons_append, cnt_cons, cnt_cons, ih]; omega
theorem corF_left (f : Row → Row) (x : Row) : ∀ (n : Nat) (L R : Dic), L.length + R.length ≤ n → pos L → pos R → tot L ≤ tot R → cnt f ((corF n L R).map lft) x = cnt f L x
  | n, [], R, _, _, _, _ => by rw [corF_nilL]; rfl
  | n, p :: L, [], _, hL, _, ht => by
    have := (pos_tl hL).1
    have := tot_nn (pos_tl hL).2
    simp only [tot] at ht
    omega
  | 0, p :: L, q :: R, hn, _, _, _ => by simp at hn
  | n + 1, p :: L, q :: R, hn, hL, hR, ht => by
    simp only [List.length_cons] at hn
    obtain ⟨p1, pL⟩ := pos_tl hL
    obtain ⟨q1, qR⟩ := pos_tl hR
    simp only [tot] at ht
    rcases Int.lt_trichotomy p.2 q.2 with c | c | c
    · rw [corF_lt c, List.map_cons, cnt_cons, cnt_cons, corF_left f x n L _ (by simp only [List.length_cons]; omega) pL (pos_cons (by show 1 ≤ q.2 - p.2; omega) qR) (by simp only [tot]; omega)]
      rfl
    · rw [corF_eq c, List.map_cons, cnt_cons, cnt_cons, corF_left f x n L R (by omega) pL qR (by omega)]
      rfl
    · rw [corF_gt c, List.map_cons, cnt_cons, cnt_cons, corF_left f x n _ R (by simp only [List.length_cons]; omega) (pos_cons (by show 1 ≤ p.2 - q.2; omega) pL) qR (by simp only [tot]; omega), cnt_cons]
      by_cases e : f p.1 = x
      · simp only [lft, e, if_true]; omega
      · simp only [lft, e, if_false]; omega
theorem corF_right (f : Row → Row) (x : Row) : ∀ (n : Nat) (L R : Dic), L.length + R.length ≤ n → pos L → pos R → tot R ≤ tot L → cnt f ((corF n L R).map rgt) x = cnt f R x
  | n, L, [], _, _, _, _ => by rw [corF_nilR]; rfl
  | n, [], q :: R, _, _, hR, ht => by
    have := (pos_tl hR).1
    have := tot_nn (pos_tl hR).2
    simp only [tot] at ht
    omega
  | 0, p :: L, q :: R, hn, _, _, _ => by simp at hn
  | n + 1, p :: L, q :: R, hn, hL, hR, ht => by
    simp only [List.length_cons] at hn
    obtain ⟨p1, pL⟩ := pos_tl hL
    obtain ⟨q1, qR⟩ := pos_tl hR
    simp only [tot] at ht
    rcases Int.lt_trichotomy p.2 q.2 with c | c | c
    · rw [corF_lt c, List.map_cons, cnt_cons, cnt_cons, corF_right f x n L _ (by simp only [List.length_cons]; omega) pL (pos_cons (by show 1 ≤ q.2 - p.2; omega) qR) (by simp only [tot]; omega), cnt_cons]
      by_cases e : f q.1 = x
      · simp only [rgt, e, if_true]; omega
      · simp only [rgt, e, if_false]; omega
    · rw [corF_eq c, List.map_cons, cnt_cons, cnt_cons, corF_right f x n L R (by omega) pL qR (by omega)]
      simp only [rgt, c]
    · rw [corF_gt c, List.map_cons, cnt_cons, cnt_cons, corF_right f x n _ R (by simp only [List.length_cons]; omega) (pos_cons (by show 1 ≤ p.2 - q.2; omega) pL) qR (by simp only [tot]; omega)]
      rfl
theorem corF_pos : ∀ (n : Nat) (L R : Dic), pos L → pos R → ∀ t ∈ corF n L R, 1 ≤ t.2.2
  | 0, _, _, _, _, t, h => by simp [corF] at h
  | n + 1, [], _, _, _, t, h => by simp [corF] at h
  | n + 1, p :: L, [], _, _, t, h => by simp [corF] at h
  | n + 1, p :: L, q :: R, hL, hR, t, h => by
    obtain ⟨p1, pL⟩ := pos_tl hL
    obtain ⟨q1, qR⟩ := pos_tl hR
    rcases Int.lt_trichotomy p.2 q.2 with c | c | c
    · rw [corF_lt c] at h
      rcases List.mem_cons.mp h with rfl | h
      · exact p1
      · exact corF_pos n L _ pL (pos_cons (by show 1 ≤ q.2 - p.2; omega) qR) t h
    · rw [corF_eq c] at h
      rcases List.mem_cons.mp h with rfl | h
      · exact p1
      · exact corF_pos n L R pL qR t h
    · rw [corF_gt c] at h
      rcases List.mem_cons.mp h with rfl | h
      · exact q1
      · exact corF_pos n _ R (pos_cons (by show 1 ≤ p.2 - q.2; omega) pL) qR t h
theorem corF_short : ∀ (n : Nat) (L R : Dic), L.length + R.length ≤ n → pos L → pos R → tot L = tot R → L ≠ [] → (corF n L R).length + 1 ≤ L.length + R.length
  | n, [], R, _, _, _, _, h => absurd rfl h
  | n, p :: L, [], _, hL, _, ht, _ => by
    have := (pos_tl hL).1
    have := tot_nn (pos_tl hL).2
    simp only [tot] at ht
    omega
  | 0, p :: L, q :: R, hn, _, _, _, _ => by simp at hn
  | n + 1, p :: L, q :: R, hn, hL, hR, ht, _ => by
    simp only [List.length_cons] at hn
    obtain ⟨p1, pL⟩ := pos_tl hL
    obtain ⟨q1, qR⟩ := pos_tl hR
    simp only [tot] at ht
    rcases Int.lt_trichotomy p.2 q.2 with c | c | c
    · have ne : L ≠ [] := fun e => by
        subst e
        have := tot_nn qR
        simp only [tot] at ht; omega
      have ih := corF_short n L ((q.1, q.2 - p.2) :: R) (by simp only [List.length_cons]; omega) pL (pos_cons (by show 1 ≤ q.2 - p.2; omega) qR) (by simp only [tot]; omega) ne
      rw [corF_lt c]; simp only [List.length_cons] at ih ⊢; omega
    · rw [corF_eq c]
      by_cases ne : L = []
      · subst ne; rw [corF_nilL]; simp only [List.length_cons, List.length_nil]; omega
      · have ih := corF_short n L R (by omega) pL qR (by omega) ne
        simp only [List.length_cons] at ih ⊢; omega
    · have ih := corF_short n ((p.1, p.2 - q.2) :: L) R (by simp only [List.length_cons]; omega) (pos_cons (by show 1 ≤ p.2 - q.2; omega) pL) qR (by simp only [tot]; omega) (by simp)
      rw [corF_gt c]; simp only [List.length_cons] at ih ⊢; omega
def apart (s t : Row × Row × Int) : Prop := s.1 = t.1 → s.2.1 ≠ t.2.1
theorem corF_apart : ∀ (n : Nat) (L R : Dic), (L.map Prod.fst).Nodup → (R.map Prod.fst).Nodup → (corF n L R).Pairwise apart
  | 0, _, _, _, _ => by simp [corF]
  | n + 1, [], _, _, _ => by simp [corF]
  | n + 1, p :: L, [], _, _ => by simp [corF]
  | n + 1, p :: L, q :: R, hL, hR => by
    have hL' := hL
    have hR' := hR
    simp only [List.map_cons, List.nodup_cons] at hL' hR'
    rcases Int.lt_trichotomy p.2 q.2 with c | c | c
    · rw [corF_lt c]
      refine List.pairwise_cons.mpr ⟨fun t ht e => ?_, corF_apart n L _ hL'.2 hR⟩
      have e : p.1 = t.1 := e
      exact absurd (e ▸ (corF_mem n ht).1) hL'.1
    · rw [corF_eq c]
      refine List.pairwise_cons.mpr ⟨fun t ht e => ?_, corF_apart n L R hL'.2 hR'.2⟩
      have e : p.1 = t.1 := e
      exact absurd (e ▸ (corF_mem n ht).1) hL'.1
    · rw [corF_gt c]
      refine List.pairwise_cons.mpr ⟨fun t ht _ e => ?_, corF_apart n _ R hL hR'.2⟩
      have e : q.1 = t.2.1 := e
      exact absurd (e ▸ (corF_mem n ht).2) hR'.1
/-! ### a woven row's shares -/
theorem wov_get {whole ra rb : List (List Nat)} {r s : Row} {n : List Nat} (h : n ∈ whole) : (wov whole ra r rb s).getD (whole.idxOf n) 0 = if n ∈ ra then r.getD (ra.idxOf n) 0 else s.getD (rb.idxOf n) 0 := by
  unfold wov
  have hl := List.idxOf_lt_length_of_mem h
  rw [List.getD_eq_getElem?_getD, List.getElem?_map, List.getElem?_eq_getElem hl]
  simp only [Option.map_some, Option.getD_some, List.getElem_idxOf]
theorem sh_wovL {whole ra rb part : List (List Nat)} {r s : Row} (hp : ∀ n ∈ part, n ∈ ra) (hw : ∀ n ∈ ra, n ∈ whole) : shF whole part (wov whole ra r rb s) = shF ra part r := by
  unfold shF shareR
  refine List.map_congr_left fun n hn => ?_
  rw [wov_get (hw n (hp n hn)), if_pos (hp n hn)]
theorem sh_wovR {whole ra rb part : List (List Nat)} {r s : Row} (hp : ∀ n ∈ part, n ∈ rb) (hw : ∀ n ∈ rb, n ∈ whole) (hs : shF ra (comm ra rb) r = shF rb (comm ra rb) s) : shF whole part (wov whole ra r rb s) = shF rb part s := by
  unfold shF shareR at *
  refine List.map_congr_left fun n hn => ?_
  rw [wov_get (hw n (hp n hn))]
  split
  · rename_i h
    exact (List.map_inj_left.mp hs) n (comm_mem.mpr ⟨h, hp n hn⟩)
  · rfl
theorem shF_self {room : List (List Nat)} (h : room.Nodup) {r : Row} (hr : r.length = room.length) : shF room room r = r := by
  unfold shF shareR
  refine List.ext_getElem (by rw [List.length_map, hr]) fun i h1 h2 => ?_
  rw [List.length_map] at h1
  rw [List.getElem_map, List.Nodup.idxOf_getElem h, List.getD_eq_getElem?_getD, List.getElem?_eq_getElem h2]; rfl
/-! ### the rows that have a share -/
theorem tot_withS (room part : List (List Nat)) (h : Row) : ∀ rows : Dic, tot (withS room part h rows) = cnt (shF room part) rows h
  | [] => rfl
  | p :: rows => by
    have ih := tot_withS room part h rows
    unfold withS at *
    rw [List.filter_cons, cnt_cons]
    by_cases e : shF room part p.1 = h
    · rw [if_pos (decide_eq_true e), if_pos e, tot, ih]
    · rw [if_neg (by simpa using e), if_neg e, ih]; omega
theorem cnt_withS (room part : List (List Nat)) (h : Row) (x : Row) : ∀ rows : Dic, cnt id (withS room part h rows) x = if shF room part x = h then cnt id rows x else 0
  | [] => by simp [withS, cnt]
  | p :: rows => by
    have ih := cnt_withS room part h x rows
    unfold withS at *
    rw [List.filter_cons, cnt_cons]
    by_cases e : shF room part p.1 = h
    · rw [if_pos (decide_eq_true e), cnt_cons, ih]
      by_cases g : p.1 = x
      · subst g; rw [if_pos e, if_pos e]
      · have g' : ¬ (id p.1 = x) := g
        rw [if_neg g']; split <;> omega
    · rw [if_neg (by simpa using e), ih]
      by_cases g : p.1 = x
      · subst g; rw [if_neg e, if_neg e]
      · have g' : ¬ (id p.1 = x) := g
        rw [if_neg g']; split <;> omega
theorem withS_pos {room part : List (List Nat)} {h : Row} {rows : Dic} (k : pos rows) : pos (withS room part h rows) := fun p hp => k p (withS_mem.mp hp).1
theorem withS_nodup {room part : List (List Nat)} {h : Row} {rows : Dic} (k : (rows.map Prod.fst).Nodup) : ((withS room part h rows).map Prod.fst).Nodup := List.Nodup.sublist (List.Sublist.map _ (List.filter_sublist)) k
theorem cnt_ge {f : Row → Row} : ∀ {l : Dic} {p : Row × Int}, pos l → p ∈ l → p.2 ≤ cnt f l (f p.1)
  | q :: l, p, hl, hp => by
    have nn : ∀ {k : Dic} {x : Row}, pos k → 0 ≤ cnt f k x := fun {k x} hk => by
      induction k with
      | nil => exact Int.le_refl _
      | cons a k ih =>
        have := ih (pos_tl hk).2
        have := (pos_tl hk).1
        rw [cnt_cons]; split <;> omega
    have q1 := (pos_tl hl).1
    rcases List.mem_cons.mp hp with rfl | hp
    · rw [cnt_cons, if_pos rfl]
      have := nn (x := f p.1) (pos_tl hl).2
      omega
    · rw [cnt_cons]
      have := cnt_ge (f := f) (pos_tl hl).2 hp
      split <;> omega
end RT

namespace RT
open L2 PyProof.Rows PySem.Spec PySem L2.DL SX
/-! ### the joined tally -/
structure JOk (ra rb : List (List Nat)) (a b : Dic) : Prop where
  na : ra.Nodup
  nb : rb.Nodup
  ta : Tal a
  tb : Tal b
  pa : pos a
  pb : pos b
  wa : ∀ p ∈ a, p.1.length = ra.length
  wb : ∀ p ∈ b, p.1.length = rb.length
  eq : shA ra rb a = shB ra rb b
section
variable {ra rb : List (List Nat)} {a b : Dic}
theorem JOk.tots (J : JOk ra rb a b) (h : Row) : tot (withS ra (comm ra rb) h a) = tot (withS rb (comm ra rb) h b) := by
  rw [tot_withS, tot_withS, ← get0_shr, ← get0_shr]
  exact congrArg (fun D => get0 D h) J.eq
theorem JOk.left (J : JOk ra rb a b) (h x : Row) : cnt id ((crn ra rb (comm ra rb) a b h).map lft) x = if shF ra (comm ra rb) x = h then cnt id a x else 0 := by
  rw [← cnt_withS]
  exact corF_left id x _ _ _ (Nat.le_refl _) (withS_pos J.pa) (withS_pos J.pb) (by rw [J.tots]; exact Int.le_refl _)
theorem JOk.right (J : JOk ra rb a b) (h x : Row) : cnt id ((crn ra rb (comm ra rb) a b h).map rgt) x = if shF rb (comm ra rb) x = h then cnt id b x else 0 := by
  rw [← cnt_withS]
  exact corF_right id x _ _ _ (Nat.le_refl _) (withS_pos J.pa) (withS_pos J.pb) (by rw [J.tots]; exact Int.le_refl _)
theorem JOk.rights (J : JOk ra rb a b) (x : Row) : ∀ l : Dic, (l.map Prod.fst).Nodup → cnt id ((l.flatMap fun p => crn ra rb (comm ra rb) a b p.1).map rgt) x = if shF rb (comm ra rb) x ∈ l.map Prod.fst then cnt id b x else 0
  | [], _ => by simp [cnt]
  | p :: l, nd => by
    rw [List.map_cons, List.nodup_cons] at nd
    rw [List.flatMap_cons, List.map_append, cnt_app, J.right, JOk.rights J x l nd.2, List.map_cons]
    by_cases e : shF rb (comm ra rb) x = p.1
    · have : shF rb (comm ra rb) x ∉ l.map Prod.fst := e ▸ nd.1
      rw [if_pos e, if_neg this, if_pos (e ▸ List.mem_cons_self)]; omega
    · rw [if_neg e]
      by_cases g : shF rb (comm ra rb) x ∈ l.map Prod.fst
      · rw [if_pos g, if_pos (List.mem_cons_of_mem _ g)]; omega
      · rw [if_neg g, if_neg (by rw [List.mem_cons]; exact fun o => o.elim e g)]; omega
theorem shr_has {f : Row → Row} {l : Dic} (h : pos l) {p : Row × Int} (hp : p ∈ l) : f p.1 ∈ (shr f l).map Prod.fst := by
  rw [(tal_shr f l).mem, get0_shr]
  have := cnt_ge (f := f) h hp
  have := h p hp
  omega
theorem JOk.sumR (J : JOk ra rb a b) (x : Row) : cnt id ((crns ra rb a b).map rgt) x = get0 b x := by
  have e := J.rights x (shA ra rb a) (tal_shA ra rb a).nd
  unfold crns
  rw [e, cnt_id J.tb.nd]
  by_cases h : x ∈ b.map Prod.fst
  · obtain ⟨p, hp, rfl⟩ := List.mem_map.mp h
    refine if_pos ?_
    rw [J.eq]
    exact shr_has J.pb hp
  · have : get0 b x = 0 := by unfold get0; rw [look_none h]; rfl
    rw [this]; split <;> rfl
theorem crns_mem {t : Row × Row × Int} (h : t ∈ crns ra rb a b) : ∃ g, g ∈ (shA ra rb a).map Prod.fst ∧ t ∈ crn ra rb (comm ra rb) a b g := by
  obtain ⟨p, hp, ht⟩ := List.mem_flatMap.mp h
  exact ⟨p.1, List.mem_map.mpr ⟨p, hp, rfl⟩, ht⟩
theorem JOk.pos (J : JOk ra rb a b) : ∀ t ∈ crns ra rb a b, 1 ≤ t.2.2 := fun t ht => by
  obtain ⟨g, _, ht⟩ := crns_mem ht
  exact corF_pos _ _ _ (withS_pos J.pa) (withS_pos J.pb) t ht
/-- a corner's rows -/
theorem JOk.rows (J : JOk ra rb a b) {t : Row × Row × Int} (ht : t ∈ crns ra rb a b) : t.1.length = ra.length ∧ t.2.1.length = rb.length ∧ shF ra (comm ra rb) t.1 = shF rb (comm ra rb) t.2.1 := by
  obtain ⟨g, _, ht⟩ := crns_mem ht
  obtain ⟨⟨p, hp, e1, e2⟩, q, hq, e3, e4⟩ := crn_mem ht
  rw [← e1, ← e3, e2, e4]
  exact ⟨J.wa p hp, J.wb q hq, rfl⟩
def wv (ra rb : List (List Nat)) (t : Row × Row × Int) : Row := wov (unit ra rb) ra t.1 rb t.2.1
theorem JOk.wvL (J : JOk ra rb a b) {t : Row × Row × Int} (ht : t ∈ crns ra rb a b) : shF (unit ra rb) ra (wv ra rb t) = t.1 := by
  unfold wv
  rw [sh_wovL (fun n h => h) (fun n h => unit_mem.mpr (.inl h)), shF_self J.na (J.rows ht).1]
theorem JOk.wvR (J : JOk ra rb a b) {t : Row × Row × Int} (ht : t ∈ crns ra rb a b) : shF (unit ra rb) rb (wv ra rb t) = t.2.1 := by
  unfold wv
  rw [sh_wovR (fun n h => h) (fun n h => unit_mem.mpr (.inr h)) (J.rows ht).2.2, shF_self J.nb (J.rows ht).2.1]
theorem JOk.apart (J : JOk ra rb a b) : (crns ra rb a b).Pairwise apart := by
  unfold crns
  refine List.pairwise_flatMap.mpr ⟨fun p _ => corF_apart _ _ _ (withS_nodup J.ta.nd) (withS_nodup J.tb.nd), ?_⟩
  have nd := (tal_shA ra rb a).nd
  rw [List.nodup_iff_pairwise_ne, List.pairwise_map] at nd
  refine nd.imp fun {p q} ne x hx y hy e _ => ?_
  obtain ⟨⟨u, _, e1, e2⟩, _⟩ := crn_mem hx
  obtain ⟨⟨v, _, e3, e4⟩, _⟩ := crn_mem hy
  rw [e1] at e2
  rw [e3] at e4
  exact ne (e2.symm.trans ((congrArg _ e).trans e4))
theorem JOk.keys (J : JOk ra rb a b) : (((crns ra rb a b).map fun t => (wv ra rb t, t.2.2)).map Prod.fst).Nodup := by
  rw [List.map_map, List.nodup_iff_pairwise_ne, List.pairwise_map]
  refine List.Pairwise.imp_of_mem (fun {s t} hs ht h e => ?_) J.apart
  have e : wv ra rb s = wv ra rb t := e
  refine h ?_ ?_
  · rw [← J.wvL hs, ← J.wvL ht, e]
  · rw [← J.wvR hs, ← J.wvR ht, e]
theorem JOk.joined (J : JOk ra rb a b) : joinD ra rb a b = (crns ra rb a b).map fun t => (wv ra rb t, t.2.2) := by
  have e := foldl_put_get ((crns ra rb a b).map fun t => (wv ra rb t, t.2.2)) [] J.keys (fun _ _ h => by cases h)
  rw [List.nil_append, List.foldl_map] at e
  rw [joinD_eq]; exact e
theorem cnt_map {α : Type} {f : Row → Row} {g h : α → Row × Int} {x : Row} : ∀ {l : List α}, (∀ t ∈ l, f (g t).1 = (h t).1 ∧ (g t).2 = (h t).2) → cnt f (l.map g) x = cnt id (l.map h) x
  | [], _ => rfl
  | t :: l, k => by
    rw [List.map_cons, List.map_cons, cnt_cons, cnt_cons, cnt_map fun s hs => k s (List.mem_cons_of_mem _ hs), (k t List.mem_cons_self).1, (k t List.mem_cons_self).2]; rfl
theorem JOk.shareR (J : JOk ra rb a b) : shr (shF (unit ra rb) rb) (settle (joinD ra rb a b)) = b := by
  refine (tal_shr _ _).ext J.tb fun x => ?_
  rw [get0_shr, cnt_settle _ _ (joinD_nodup ra rb a b), J.joined]
  exact (cnt_map (f := shF (unit ra rb) rb) (g := fun t => (wv ra rb t, t.2.2)) (h := rgt) fun t ht => ⟨J.wvR ht, rfl⟩).trans (J.sumR x)
theorem JOk.perm (J : JOk ra rb a b) : (settle (joinD ra rb a b)).Perm ((crns ra rb a b).map fun t => (wv ra rb t, t.2.2)) := by
  have p := settle_perm (joinD_nodup ra rb a b)
  have e : ((crns ra rb a b).map fun t => (wv ra rb t, t.2.2)).filter (fun p => p.2 != 0) = (crns ra rb a b).map fun t => (wv ra rb t, t.2.2) := List.filter_eq_self.mpr fun p hp => by
    obtain ⟨t, ht, rfl⟩ := List.mem_map.mp hp
    have := J.pos t ht
    show (t.2.2 != 0) = true
    rw [bne_iff_ne]; omega
  rw [← J.joined] at e ⊢
  rw [e] at p
  exact p
/-! the joined tally's rows with a share -/
theorem wv_share (J : JOk ra rb a b) {h : Row} {t : Row × Row × Int} (ht : t ∈ crn ra rb (comm ra rb) a b h) : shF (unit ra rb) (comm ra rb) (wv ra rb t) = h := by
  unfold wv
  rw [sh_wovL (fun n h => (comm_mem.mp h).1) (fun n h => unit_mem.mpr (.inl h))]
  obtain ⟨⟨p, hp, e1, e2⟩, _⟩ := crn_mem ht
  rw [← e1, e2]
theorem crns_with (J : JOk ra rb a b) (h : Row) : ∀ l : Dic, (l.map Prod.fst).Nodup → ((l.flatMap fun p => crn ra rb (comm ra rb) a b p.1).filter fun t => decide (shF (unit ra rb) (comm ra rb) (wv ra rb t) = h)).length = if h ∈ l.map Prod.fst then (crn ra rb (comm ra rb) a b h).length else 0
  | [], _ => by simp
  | p :: l, nd => by
    rw [List.map_cons, List.nodup_cons] at nd
    rw [List.flatMap_cons, List.filter_append, List.length_append, crns_with J h l nd.2, List.map_cons]
    by_cases e : p.1 = h
    · have e1 : (crn ra rb (comm ra rb) a b p.1).filter (fun t => decide (shF (unit ra rb) (comm ra rb) (wv ra rb t) = h)) = crn ra rb (comm ra rb) a b p.1 := List.filter_eq_self.mpr fun t ht => decide_eq_true ((wv_share J ht).trans e)
      rw [e1, if_neg (e ▸ nd.1), if_pos (e ▸ List.mem_cons_self), e]; omega
    · have e1 : (crn ra rb (comm ra rb) a b p.1).filter (fun t => decide (shF (unit ra rb) (comm ra rb) (wv ra rb t) = h)) = [] := List.filter_eq_nil_iff.mpr fun t ht => by
        rw [wv_share J ht]; simpa using e
      rw [e1]
      by_cases g : h ∈ l.map Prod.fst
      · rw [if_pos g, if_pos (List.mem_cons_of_mem _ g)]; simp
      · rw [if_neg g, if_neg (by rw [List.mem_cons]; exact fun o => o.elim (fun k => e k.symm) g)]; simp
theorem JOk.few (J : JOk ra rb a b) {h : Row} (hh : h ∈ (shA ra rb a).map Prod.fst) : (withS (unit ra rb) (comm ra rb) h (settle (joinD ra rb a b))).length < (withS ra (comm ra rb) h a).length + (withS rb (comm ra rb) h b).length := by
  have p : (withS (unit ra rb) (comm ra rb) h (settle (joinD ra rb a b))).Perm _ := List.Perm.filter _ J.perm
  have e := crns_with J h (shA ra rb a) (tal_shA ra rb a).nd
  rw [if_pos hh] at e
  have e2 : (((crns ra rb a b).map fun t => (wv ra rb t, t.2.2)).filter fun p => decide (shF (unit ra rb) (comm ra rb) p.1 = h)).length = (crn ra rb (comm ra rb) a b h).length := by
    rw [List.filter_map, List.length_map]; exact e
  rw [p.length_eq, e2]
  have ne : withS ra (comm ra rb) h a ≠ [] := fun z => by
    have g := ((tal_shA ra rb a).mem h).mp hh
    unfold shA at g
    rw [get0_shr, ← tot_withS, z] at g
    exact g rfl
  have := corF_short _ (withS ra (comm ra rb) h a) (withS rb (comm ra rb) h b) (Nat.le_refl _) (withS_pos J.pa) (withS_pos J.pb) (J.tots h) ne
  unfold crn; omega
end
/-! ### told to be a tally -/
end RT

namespace RT
open L2 PyProof.Rows PySem.Spec PySem L2.DL SX
/-! ### numbers written and read -/
def nL (c : Int) : List Nat := TL.numL c.toNat
theorem intS_nL {c : Int} (h : 0 ≤ c) : intS c = S (nL c) := by
  unfold intS nL
  rw [← num_S, Int.toNat_of_nonneg h]
theorem nL_free {c : Int} {s : Nat} (h : s < 48 ∨ 57 < s) : s ∉ nL c := TL.numL_free h
theorem nL_mem {c : Int} {x : Nat} (h : x ∈ nL c) : 48 ≤ x ∧ x ≤ 57 := TL.numL_digits c.toNat x h
theorem nL_len {c : Int} (h1 : c < 10000000000000) : (nL c).length ≤ 13 := TL.numL_len (by decide) (by show c.toNat < 10 ^ 13; omega)
theorem nL_ok {c : Int} (h1 : c < 10000000000000) : okTx (nL c) := ⟨by have := nL_len h1; omega, fun x hx => by have := nL_mem hx; omega⟩
/-! ### words of rows, pairs, tallies and rooms -/
theorem joinL_mem {s x : Nat} : ∀ {ps : List (List Nat)}, x ∈ TL.joinL [s] ps → x = s ∨ ∃ p ∈ ps, x ∈ p
  | [], h => by cases h
  | [p], h => .inr ⟨p, List.mem_cons_self, h⟩
  | p :: q :: r, h => by
    rcases List.mem_append.mp h with h | h
    · exact .inr ⟨p, List.mem_cons_self, h⟩
    · rcases List.mem_cons.mp h with rfl | h
      · exact .inl rfl
      · rcases joinL_mem (ps := q :: r) h with e | ⟨z, hz, hx⟩
        · exact .inl e
        · exact .inr ⟨z, List.mem_cons_of_mem _ hz, hx⟩
theorem joinL_len {s n : Nat} : ∀ {ps : List (List Nat)}, (∀ p ∈ ps, p.length ≤ n) → (TL.joinL [s] ps).length ≤ ps.length * (n + 1)
  | [], _ => Nat.zero_le _
  | [p], h => by
    have := h p List.mem_cons_self
    show p.length ≤ 1 * (n + 1); omega
  | p :: q :: r, h => by
    have h1 := h p List.mem_cons_self
    have h2 := joinL_len (s := s) (ps := q :: r) fun z hz => h z (List.mem_cons_of_mem _ hz)
    show (p ++ ([s] ++ TL.joinL [s] (q :: r))).length ≤ _
    simp only [List.length_append, List.length_cons, List.length_nil, Nat.add_mul] at h2 ⊢
    omega
def rW (r : Row) : List Nat := if r = [] then [45] else TL.joinL [46] (r.map nL)
def okDig (r : Row) : Prop := r.length ≤ 6 ∧ ∀ c ∈ r, 0 ≤ c ∧ c < 10
theorem okDig.row {r : Row} (h : okDig r) : okRow r := ⟨by have := h.1; omega, fun c hc => by have := h.2 c hc; omega⟩
theorem map_nL {r : Row} (h : ∀ c ∈ r, 0 ≤ c) : r.map intS = (r.map nL).map S := by
  rw [List.map_map]
  exact List.map_congr_left fun c hc => intS_nL (h c hc)
theorem rowS_W {r : Row} (h : okDig r) : rowS r = S (rW r) := by
  unfold rowS rW
  split
  · exact lit_minus
  · rw [map_nL fun c hc => (h.2 c hc).1, lit_dot, join_S]
theorem rW_mem {r : Row} {x : Nat} (h : x ∈ rW r) : x = 45 ∨ x = 46 ∨ (48 ≤ x ∧ x ≤ 57) := by
  unfold rW at h
  split at h
  · exact .inl (List.mem_singleton.mp h)
  · rcases joinL_mem h with e | ⟨p, hp, hx⟩
    · exact .inr (.inl e)
    · obtain ⟨c, _, rfl⟩ := List.mem_map.mp hp
      exact .inr (.inr (nL_mem hx))
theorem rW_len {r : Row} (h : okDig r) : (rW r).length ≤ 84 := by
  unfold rW
  split
  · simp
  · have := joinL_len (s := 46) (n := 13) (ps := r.map nL) fun p hp => by
      obtain ⟨c, hc, rfl⟩ := List.mem_map.mp hp
      exact nL_len (by have := h.2 c hc; omega)
    rw [List.length_map] at this
    have := h.1
    omega
theorem rW_ok {r : Row} (h : okDig r) : okTx (rW r) := ⟨by have := rW_len h; omega, fun x hx => by rcases rW_mem hx with e | e | e <;> omega⟩
def pW (p : Row × Int) : List Nat := TL.joinL [61] [rW p.1, nL p.2]
def okPr (p : Row × Int) : Prop := okDig p.1 ∧ 0 ≤ p.2 ∧ p.2 < 10000000000000
theorem pairS_W {p : Row × Int} (h : okPr p) : pairS p = S (pW p) := by
  unfold pairS pW
  rw [rowS_W h.1, intS_nL h.2.1, lit_eq, S_cat, S_cat, List.append_assoc]; rfl
theorem pW_mem {p : Row × Int} {x : Nat} (h : x ∈ pW p) : x = 61 ∨ x = 45 ∨ x = 46 ∨ (48 ≤ x ∧ x ≤ 57) := by
  rcases joinL_mem h with e | ⟨q, hq, hx⟩
  · exact .inl e
  · rcases List.mem_cons.mp hq with rfl | hq
    · exact .inr (rW_mem hx)
    · rw [List.mem_singleton.mp hq] at hx
      exact .inr (.inr (.inr (nL_mem hx)))
theorem pW_len {p : Row × Int} (h : okPr p) : (pW p).length ≤ 170 := by
  have := joinL_len (s := 61) (n := 84) (ps := [rW p.1, nL p.2]) fun q hq => by
    rcases List.mem_cons.mp hq with rfl | hq
    · exact rW_len h.1
    · rw [List.mem_singleton.mp hq]; have := nL_len h.2.2; omega
  exact Nat.le_trans this (by simp)
theorem pW_ok {p : Row × Int} (h : okPr p) : okTx (pW p) := ⟨by have := pW_len h; omega, fun x hx => by rcases pW_mem hx with e | e | e | e <;> omega⟩
/-! ### tallies read -/
def tWs (l : Dic) : List (List Nat) := if l = [] then [[110, 111, 110, 101]] else l.map pW
def okTl (l : Dic) : Prop := l.length ≤ 100 ∧ ∀ p ∈ l, okPr p
theorem lit_none : ("none" : Str) = S [110, 111, 110, 101] := by decide +kernel
theorem tWs_ok {l : Dic} (h : okTl l) : ∀ w ∈ tWs l, okTx w ∧ w.length ≤ 170 ∧ 32 ∉ w := fun w hw => by
  unfold tWs at hw
  split at hw
  · rw [List.mem_singleton.mp hw]; exact ⟨okTx_lit _ (by decide), by decide, by decide⟩
  · obtain ⟨p, hp, rfl⟩ := List.mem_map.mp hw
    exact ⟨pW_ok (h.2 p hp), pW_len (h.2 p hp), fun hx => by rcases pW_mem hx with e | e | e | e <;> omega⟩
theorem talS_W {l : Dic} (h : okTl l) : talS l = S (TL.joinL [32] (tWs l)) := by
  unfold talS tWs
  split
  · exact lit_none
  · have : l.map pairS = (l.map pW).map S := by
      rw [List.map_map]
      exact List.map_congr_left fun p hp => pairS_W (h.2 p hp)
    rw [this, lit_sp, join_S]
theorem datVs_Tx {ws : List (List Nat)} (h : ∀ w ∈ ws, okTx w) : DatVs (encN ws) (ws.map fun s => .str (S s)) 0 := DatVs.map (f := fun s => Val.str (S s)) (g := fun s => PyData.str (S s)) (n := 0) fun a ha => datV_str (h a ha).2 0
end RT

namespace RT
/-! ### graphs: a walk's chordless part, and Dirac's lemma -/
section
variable {α : Type} (adj : α → α → Prop)
/-- a walk from v over the list to t -/
def Wk : α → List α → α → Prop
  | v, [], t => v = t
  | v, u :: l, t => adj v u ∧ Wk u l t
/-- a path without chords -/
def Ind : List α → Prop
  | [] => True
  | [_] => True
  | a :: b :: r => adj a b ∧ (∀ c ∈ r, ¬ adj a c ∧ c ≠ a) ∧ Ind (b :: r)
end
section
variable {α : Type} {adj : α → α → Prop}
theorem Wk.suffix : ∀ {a : List α} {v c t : α} {b : List α}, Wk adj v (a ++ c :: b) t → Wk adj c b t
  | [], _, _, _, _, h => h.2
  | _ :: a, _, _, _, _, h => Wk.suffix (a := a) h.2
theorem Wk.app : ∀ {a b : List α} {v m t : α}, Wk adj v a m → Wk adj m b t → Wk adj v (a ++ b) t
  | [], _, _, _, _, h, k => by cases h; exact k
  | _ :: a, _, _, _, _, h, k => ⟨h.1, Wk.app h.2 k⟩
theorem Wk.split {v t : α} (hv : v ≠ t) : ∀ (n : Nat) (l : List α), l.length ≤ n → Wk adj v l t →
    ∃ u l2, adj v u ∧ Wk adj u l2 t ∧ (∀ c ∈ l2, ¬ adj v c ∧ c ≠ v) ∧ l2.length < l.length ∧ (∀ c ∈ u :: l2, c ∈ l)
  | _, [], _, h => absurd h hv
  | 0, _ :: _, hn, _ => by simp at hn
  | n + 1, u0 :: l0, hn, h => by
    simp only [List.length_cons] at hn
    by_cases e : ∃ c, c ∈ l0 ∧ (adj v c ∨ c = v)
    · obtain ⟨c, hc, hd⟩ := e
      obtain ⟨a, b, rfl⟩ := List.append_of_mem hc
      have w := Wk.suffix (a := a) h.2
      simp only [List.length_append, List.length_cons] at hn ⊢
      rcases hd with hd | rfl
      · obtain ⟨u, l2, h1, h2, h3, h4, h5⟩ := Wk.split hv n (c :: b) (by simp only [List.length_cons]; omega) ⟨hd, w⟩
        refine ⟨u, l2, h1, h2, h3, by simp only [List.length_cons] at h4; omega, fun d hdm => ?_⟩
        have := h5 d hdm
        exact List.mem_cons_of_mem _ (List.mem_append_right _ this)
      · obtain ⟨u, l2, h1, h2, h3, h4, h5⟩ := Wk.split hv n b (by omega) w
        refine ⟨u, l2, h1, h2, h3, by omega, fun d hdm => ?_⟩
        have := h5 d hdm
        exact List.mem_cons_of_mem _ (List.mem_append_right _ (List.mem_cons_of_mem _ this))
    · refine ⟨u0, l0, h.1, h.2, fun c hc => ⟨fun q => e ⟨c, hc, .inl q⟩, fun q => e ⟨c, hc, .inr q⟩⟩, by simp, fun c hc => hc⟩
theorem Wk.path (t : α) : ∀ (n : Nat) (l : List α) (v : α), l.length ≤ n → v ≠ t → Wk adj v l t → ∃ q, Ind adj (v :: q) ∧ Wk adj v q t ∧ (∀ c ∈ q, c ∈ l) ∧ ∀ c ∈ q, c ≠ v
  | 0, l, v, hn, hv, h => by
    have : l = [] := List.eq_nil_of_length_eq_zero (by omega)
    subst this
    exact absurd h hv
  | n + 1, l, v, hn, hv, h => by
    obtain ⟨u, l2, h1, h2, h3, h4, h5⟩ := Wk.split hv (n + 1) l hn h
    by_cases e : u = t
    · subst e
      by_cases huv : u = v
      · exact absurd huv.symm hv
      · exact ⟨[u], ⟨h1, fun _ k => (by cases k), trivial⟩, ⟨h1, rfl⟩, fun c hc => by rw [List.mem_singleton.mp hc]; exact h5 u List.mem_cons_self, fun c hc => by rw [List.mem_singleton.mp hc]; exact huv⟩
    · obtain ⟨q, p1, p2, p3, p4⟩ := Wk.path t n l2 u (by omega) e h2
      by_cases huv : u = v
      · subst huv
        exact ⟨q, p1, p2, fun c hc => h5 c (List.mem_cons_of_mem _ (p3 c hc)), p4⟩
      · refine ⟨u :: q, ⟨h1, fun c hc => h3 c (p3 c hc), p1⟩, ⟨h1, p2⟩, fun c hc => ?_, fun c hc => ?_⟩
        · rcases List.mem_cons.mp hc with rfl | hc
          · exact h5 _ List.mem_cons_self
          · exact h5 c (List.mem_cons_of_mem _ (p3 c hc))
        · rcases List.mem_cons.mp hc with rfl | hc
          · exact huv
          · exact (h3 c (p3 c hc)).2
/-- a ring: x and a chordless path of three or more, x next to its ends alone -/
structure Rng (adj : α → α → Prop) (x : α) (p : List α) : Prop where
  ind : Ind adj p
  len : 3 ≤ p.length
  out : x ∉ p
  ends : ∃ s q t, p = s :: q ++ [t] ∧ adj x s ∧ adj x t ∧ ∀ c ∈ q, ¬ adj x c
/-- in reach -/
inductive Rch (adj : α → α → Prop) (P : α → Prop) (y : α) : α → Prop
  | refl : Rch adj P y y
  | step {c d : α} : Rch adj P y c → adj c d → P d → Rch adj P y d
theorem Rch.back {P : α → Prop} {y c : α} (hs : ∀ a b, adj a b → adj b a) (h : Rch adj P y c) : ∃ l, Wk adj c l y ∧ ∀ z ∈ l, Rch adj P y z := by
  induction h with
  | refl => exact ⟨[], rfl, fun _ k => (by cases k)⟩
  | @step c d h1 h2 h3 ih =>
    obtain ⟨l, w, m⟩ := ih
    refine ⟨c :: l, ⟨hs _ _ h2, w⟩, fun z hz => ?_⟩
    rcases List.mem_cons.mp hz with rfl | hz
    · exact h1
    · exact m z hz
end
end RT

namespace RT
/-! ### rooms: together, ears, knots -/
section
variable {β : Type} (R : Nat → β → Prop)
def Tog (left : List Nat) (T : List β) : Prop := ∃ i ∈ left, ∀ n ∈ T, R i n
def Adj (left : List Nat) (a b : β) : Prop := a ≠ b ∧ Tog R left [a, b]
def Ear (left : List Nat) (i j : Nat) : Prop := i ∈ left ∧ j ∈ left ∧ i ≠ j ∧ ∀ v, R i v → (∃ k ∈ left, k ≠ i ∧ R k v) → R j v
/-- rooms that were taken off hide nothing -/
def Hid (all left : List Nat) : Prop := (∀ i ∈ left, i ∈ all) ∧ ∀ T : List β, (∀ n ∈ T, ∃ k ∈ left, R k n) → Tog R all T → Tog R left T
end
section
variable {β : Type} {R : Nat → β → Prop} {left all : List Nat}
theorem Adj.symm {a b : β} (h : Adj R left a b) : Adj R left b a := by
  obtain ⟨h1, i, hi, h2⟩ := h
  refine ⟨h1.symm, i, hi, fun n hn => h2 n ?_⟩
  simp only [List.mem_cons, List.not_mem_nil, or_false] at hn ⊢
  exact hn.symm
theorem Hid.refl : Hid R all all := ⟨fun _ h => h, fun _ _ h => h⟩
theorem Hid.step {e h : Nat} {left' : List Nat} (H : Hid R all left) (he : Ear R left e h) (hl : ∀ k, k ∈ left' ↔ k ∈ left ∧ k ≠ e) : Hid R all left' := by
  refine ⟨fun i hi => H.1 i ((hl i).mp hi).1, fun T hT ht => ?_⟩
  obtain ⟨i, hi, hR⟩ := H.2 T (fun n hn => by
    obtain ⟨k, hk, h⟩ := hT n hn
    exact ⟨k, ((hl k).mp hk).1, h⟩) ht
  by_cases q : i = e
  · refine ⟨h, (hl h).mpr ⟨he.2.1, he.2.2.1.symm⟩, fun n hn => he.2.2.2 n (q ▸ hR n hn) ?_⟩
    obtain ⟨k, hk, hkn⟩ := hT n hn
    exact ⟨k, ((hl k).mp hk).1, ((hl k).mp hk).2, hkn⟩
  · exact ⟨i, (hl i).mpr ⟨hi, q⟩, hR⟩
theorem Ind.congr {α : Type} {adj adj' : α → α → Prop} : ∀ {l : List α}, (∀ a ∈ l, ∀ b ∈ l, adj a b ↔ adj' a b) → Ind adj l → Ind adj' l
  | [], _, _ => trivial
  | [_], _, _ => trivial
  | a :: b :: r, h, k => ⟨(h a List.mem_cons_self b (List.mem_cons_of_mem _ List.mem_cons_self)).mp k.1, fun c hc => ⟨fun q => (k.2.1 c hc).1 ((h a List.mem_cons_self c (List.mem_cons_of_mem _ (List.mem_cons_of_mem _ hc))).mpr q), (k.2.1 c hc).2⟩, Ind.congr (fun x hx y hy => h x (List.mem_cons_of_mem _ hx) y (List.mem_cons_of_mem _ hy)) k.2.2⟩
theorem Rng.congr {α : Type} {adj adj' : α → α → Prop} {x : α} {p : List α} (h : ∀ a ∈ x :: p, ∀ b ∈ x :: p, adj a b ↔ adj' a b) (k : Rng adj x p) : Rng adj' x p := by
  obtain ⟨s, q, t, rfl, h1, h2, h3⟩ := k.ends
  have hx := fun b hb => h x List.mem_cons_self b (List.mem_cons_of_mem _ hb)
  exact ⟨Ind.congr (fun a ha b hb => h a (List.mem_cons_of_mem _ ha) b (List.mem_cons_of_mem _ hb)) k.ind, k.len, k.out, s, q, t, rfl, (hx s (by simp)).mp h1, (hx t (by simp)).mp h2, fun c hc e => h3 c hc ((hx c (by simp [hc])).mpr e)⟩
end
end RT

namespace RT
open L2.DL
/-! ### rings walked -/
section
variable (adj : List Nat → List Nat → Bool)
def nbs (S : List (List Nat)) (n : List Nat) : List (List Nat) := S.filter (adj n)
structure Deg (S : List (List Nat)) : Prop where
  nd : S.Nodup
  two : ∀ n ∈ S, (nbs adj S n).length = 2
end
section
variable {adj : List Nat → List Nat → Bool} {S r : List (List Nat)}
theorem Deg.only (D : Deg adj S) {n a b c : List Nat} (hn : n ∈ S) (ha : a ∈ nbs adj S n) (hb : b ∈ nbs adj S n) (hab : a ≠ b) (hc : c ∈ nbs adj S n) : c = a ∨ c = b := by
  by_cases h1 : c = a
  · exact .inl h1
  by_cases h2 : c = b
  · exact .inr h2
  have nd : [a, b, c].Nodup := by
    simp only [List.nodup_cons, List.mem_cons, List.not_mem_nil, or_false, not_or, not_false_eq_true, List.nodup_nil, and_true]
    exact ⟨⟨hab, fun e => h1 e.symm⟩, fun e => h2 e.symm⟩
  have := nodup_sub_len nd (k := nbs adj S n) fun x hx => by
    simp only [List.mem_cons, List.not_mem_nil, or_false] at hx
    rcases hx with rfl | rfl | rfl
    · exact ha
    · exact hb
    · exact hc
  rw [D.two n hn] at this
  simp at this
end
/-! ### a ring of the graph: two neighbours each, all in one -/
theorem Ind.ix {α : Type} {adj : α → α → Prop} : ∀ {l : List α}, Ind adj l → ∀ {i j : Nat} (hij : i < j) (hj : j < l.length), adj (l[i]'(by omega)) l[j] ↔ j = i + 1
  | [], _, _, j, _, hj => by simp at hj
  | [_], _, i, j, hij, hj => by simp at hj; omega
  | a :: b :: r, h, 0, 1, _, _ => ⟨fun _ => rfl, fun _ => h.1⟩
  | a :: b :: r, h, 0, j + 2, _, hj => by
    have hj' : j < r.length := by simpa using hj
    refine ⟨fun q => absurd q ?_, fun q => by omega⟩
    exact (h.2.1 (r[j]) (List.getElem_mem hj')).1
  | a :: b :: r, h, i + 1, j + 1, hij, hj => by
    have := Ind.ix h.2.2 (i := i) (j := j) (by omega) (by simpa using hj)
    refine Iff.trans this ?_
    omega
section
variable {adj : List Nat → List Nat → Bool} {S : List (List Nat)}
end
end RT

namespace RT
open L2 PyProof.Rows PySem.Spec PySem L2.DL SX
/-! ### papers, plainly -/
abbrev Room := List (List Nat)
/-! a ring, told pair by pair -/
/-! masks -/
/-! rings told -/
end RT

namespace RT
open L2 PyProof.Rows PySem.Spec PySem L2.DL SX
/-! ### the program's papers, walked -/
end RT

namespace RT
open L2 PyProof.Rows PySem.Spec PySem L2.DL SX
/-! ### knots and papers, walked -/
end RT

namespace RT
open L2 PyProof.Rows PySem.Spec PySem L2.DL SX
/-! ### the law's own look at papers -/
/-! orders -/
/-! rings -/
/-! all but one -/
end RT

namespace RT
open L2 PyProof.Rows PySem.Spec PySem L2.DL SX
/-! ### papers told: form, and good -/
end RT

namespace RT
open L2 PyProof.Rows PySem.Spec PySem L2.DL SX
/-! ### rooms read -/
theorem room_loopZ {ss : List (List Nat)} (hs : ∀ s ∈ ss, s.length ≤ 16777216) : ∀ (ks : List Nat) (x : Option Val), (∀ k ∈ ks, k < ss.length) →
    ∃ x', forL [1] gN l1_is_room (ks.map fun k : Nat => Val.int (k : Int)) [some (.tpz (encN ss)), x] = if ks.all (okAt ss) = true then .nx [some (.tpz (encN ss)), x'] else .ret (.bl false) [some (.tpz (encN ss)), x']
  | [], x, _ => ⟨x, rfl⟩
  | k :: ks, x, hk => by
    have h1 := hk k List.mem_cons_self
    have e1 := getD_at h1
    have e2 := callP_name (hs _ (getD_mem h1))
    obtain ⟨x', ih⟩ := room_loopZ hs ks (some (.int k)) fun k h => hk k (List.mem_cons_of_mem _ h)
    rw [List.map_cons, forL]
    cases q1 : isNm (ss.getD k []) with
    | false =>
      have q : okAt ss k = false := by simp only [okAt, q1, Bool.false_and]
      simp! [l1_is_room, oSubs_tpz, e1, e2, q1, List.all_cons, q]
      exact ⟨_, rfl⟩
    | true =>
      by_cases hk0 : k = 0
      · subst hk0
        have e1 : atI (encN ss) 0 = some (.str (S (ss.getD 0 []))) := e1
        have q : okAt ss 0 = true := by simp only [okAt, q1, decide_true, Bool.true_or, Bool.and_self]
        refine ⟨x', ?_⟩
        simp! [l1_is_room, oSubs_tpz, e1, e2, q1, List.all_cons, q, Int.natCast_zero, Int.lt_irrefl]
        simp only [Int.natCast_zero] at ih
        exact ih
      · have e3 : atI (encN ss) ((k : Int) - 1) = some (.str (S (ss.getD (k - 1) []))) := by
          have := getD_at (ss := ss) (i := k - 1) (by omega)
          rwa [show ((k - 1 : Nat) : Int) = (k : Int) - 1 by omega] at this
        have hp : (0 : Int) < k := by omega
        by_cases hlt : ss.getD (k - 1) [] < ss.getD k []
        · have q : okAt ss k = true := by simp only [okAt, q1, hlt, decide_true, Bool.or_true, Bool.and_self]
          refine ⟨x', ?_⟩
          simp! [l1_is_room, oSubs_tpz, e1, e2, e3, hp, q1, hlt, List.all_cons, q]
          exact ih
        · have q : okAt ss k = false := by simp only [okAt, hlt, decide_false, hk0, Bool.or_self, Bool.and_false]
          simp! [l1_is_room, oSubs_tpz, e1, e2, e3, hp, q1, hlt, List.all_cons, q]
          exact ⟨_, rfl⟩
theorem room_specZ {ss : List (List Nat)} (hs : ∀ s ∈ ss, s.length ≤ 16777216) (hl : ss.length ≤ 16777216) : m_is_room [.tpz (encN ss)] = .ok (.bl (isRm ss)) := by
  unfold m_is_room fnP g_is_room
  by_cases h6 : ss.length ≤ 6
  · have a1 : ¬ (6 : Int) < ss.length := by omega
    have r1 := rngOf_one (j := ss.length) (by omega) (by omega)
    obtain ⟨x', e⟩ := room_loopZ hs (List.range ss.length) none fun k h => List.mem_range.mp h
    simp! [oLen_tpz, encN_len, a1, r1, rng_nat, e, isRm, h6]
    cases (List.range ss.length).all (okAt ss) <;> simp! []
  · have a1 : (6 : Int) < ss.length := by omega
    simp! [oLen_tpz, encN_len, a1, isRm, h6]
def roW (ss : List (List Nat)) : List Nat := if ss = [] then [45] else TL.joinL [43] ss
def rmV (ss : List (List Nat)) : Val := if ss = [] then .tup [] else .tpz (encN ss)
theorem abc_rng {c : Nat} (h : c ∈ abcL) : 97 ≤ c ∧ c ≤ 122 := by
  have : abcL.all (fun c => decide (97 ≤ c) && decide (c ≤ 122)) = true := by decide +kernel
  have := List.all_eq_true.mp this c h
  simp only [Bool.and_eq_true, decide_eq_true_eq] at this
  exact this
theorem nm8_tx {s : List Nat} (h : nm8 s) : okTx s := ⟨by have := h.2.1; omega, fun c hc => by have := abc_rng (h.2.2 c hc); omega⟩
theorem roomS_W (ss : List (List Nat)) : roomS ss = S (roW ss) := by
  unfold roomS roW
  split
  · exact lit_minus
  · rw [lit_plus, join_S]
theorem roW_mem {ss : List (List Nat)} (h : ∀ s ∈ ss, nm8 s) {x : Nat} (hx : x ∈ roW ss) : x = 45 ∨ x = 43 ∨ (97 ≤ x ∧ x ≤ 122) := by
  unfold roW at hx
  split at hx
  · exact .inl (List.mem_singleton.mp hx)
  · rcases joinL_mem hx with e | ⟨p, hp, hx⟩
    · exact .inr (.inl e)
    · exact .inr (.inr (abc_rng ((h p hp).2.2 x hx)))
theorem roW_len {ss : List (List Nat)} (h : ∀ s ∈ ss, nm8 s) (h6 : ss.length ≤ 6) : (roW ss).length ≤ 54 := by
  unfold roW
  split
  · simp
  · have := joinL_len (s := 43) (n := 8) (ps := ss) fun p hp => (h p hp).2.1
    omega
theorem roW_ok {ss : List (List Nat)} (h : ∀ s ∈ ss, nm8 s) (h6 : ss.length ≤ 6) : okTx (roW ss) := ⟨by have := roW_len h h6; omega, fun x hx => by rcases roW_mem h hx with e | e | e <;> omega⟩
theorem roomV_rm (ss : List (List Nat)) : RoomV (rmV ss) ss.length := by
  unfold rmV
  split
  · rename_i h
    subst h
    exact ⟨rfl, rfl, rfl, rfl⟩
  · exact roomV_tpz ss
/-! ### deeds -/
inductive Deed where
  | start (nm : List Nat) (rm : List (List Nat)) (t : Dic)
  | shut (nm : List Nat)
  | pap (w : Bool) (r : Row) (c : Int)
  | mrk (w : Bool) (nm : List Nat) (r : Row) (c : Int)
def startL : List Nat := [115, 116, 97, 114, 116]
def shutL : List Nat := [115, 104, 117, 116]
def papL (w : Bool) : List Nat := if w = true then [119, 105, 116, 104, 100, 114, 97, 119] else [101, 110, 116, 101, 114]
def mrkL (w : Bool) : List Nat := if w = true then [115, 116, 114, 105, 107, 101] else [109, 97, 114, 107]
theorem lit_start : ("start" : Str) = S startL := by decide +kernel
theorem lit_shut : ("shut" : Str) = S shutL := by decide +kernel
theorem lit_enter : ("enter" : Str) = S (papL false) := by decide +kernel
theorem lit_withdraw : ("withdraw" : Str) = S (papL true) := by decide +kernel
theorem lit_mark : ("mark" : Str) = S (mrkL false) := by decide +kernel
theorem lit_strike : ("strike" : Str) = S (mrkL true) := by decide +kernel
/-- the words of a deed -/
def dW : Deed → List (List Nat)
  | .start nm rm t => startL :: nm :: roW rm :: tWs t
  | .shut nm => [shutL, nm]
  | .pap w r c => [papL w, rW r, nL c]
  | .mrk w nm r c => [mrkL w, nm, rW r, nL c]
def lineL (d : Deed) : List Nat := TL.joinL [32] (dW d)
/-- a deed as data; rv: its room -/
def deedV (rv : Val) (o : Bool) : Deed → Val
  | .start nm rm t => .tup [.str (S startL), .str (S nm), rv, .lst o (encT t)]
  | .shut nm => .tup [.str (S shutL), .str (S nm)]
  | .pap w r c => .tup [.str (S (papL w)), .tup (encI r), .int c]
  | .mrk w nm r c => .tup [.str (S (mrkL w)), .str (S nm), .tup (encI r), .int c]
def dRoom : Deed → List (List Nat)
  | .start _ rm _ => rm
  | _ => []
def okD : Deed → Prop
  | .start nm rm t => nm8 nm ∧ Rm rm ∧ rm.length ≤ 6 ∧ okTl t ∧ Tal t ∧ ∀ p ∈ t, p.1.length = rm.length ∧ 1 ≤ p.2
  | .shut nm => nm8 nm
  | .pap _ r c => okDig r ∧ 0 ≤ c ∧ c < 10000000000000
  | .mrk _ nm r c => nm8 nm ∧ okDig r ∧ 0 ≤ c ∧ c < 10000000000000
theorem nm_free {s : List Nat} (h : nm8 s) {x : Nat} (hx : x < 97) : x ∉ s := fun hm => by have := abc_rng (h.2.2 x hm); omega
theorem rW_sp (r : Row) : 32 ∉ rW r := fun h => by rcases rW_mem h with e | e | e <;> omega
theorem dW_ok {d : Deed} (h : okD d) : ∀ w ∈ dW d, okTx w ∧ w.length ≤ 170 ∧ 32 ∉ w := fun w hw => by
  have N : ∀ s, nm8 s → okTx s ∧ s.length ≤ 170 ∧ 32 ∉ s := fun s hs => ⟨nm8_tx hs, by have := hs.2.1; omega, nm_free hs (by decide)⟩
  have Rr : ∀ r, okDig r → okTx (rW r) ∧ (rW r).length ≤ 170 ∧ 32 ∉ rW r := fun r hr => ⟨rW_ok hr, by have := rW_len hr; omega, rW_sp r⟩
  have Cc : ∀ c : Int, 0 ≤ c → c < 10000000000000 → okTx (nL c) ∧ (nL c).length ≤ 170 ∧ 32 ∉ nL c := fun c h0 h1 => ⟨nL_ok h1, by have := nL_len h1; omega, nL_free (by decide)⟩
  cases d with
  | start nm rm t =>
    obtain ⟨h1, h2, h3, h4, _, _⟩ := h
    rcases List.mem_cons.mp hw with rfl | hw
    · exact ⟨okTx_lit _ (by decide), by decide, by decide⟩
    rcases List.mem_cons.mp hw with rfl | hw
    · exact N _ h1
    rcases List.mem_cons.mp hw with rfl | hw
    · exact ⟨roW_ok h2.nm h3, by have := roW_len h2.nm h3; omega, fun hx => by rcases roW_mem h2.nm hx with e | e | e <;> omega⟩
    · exact tWs_ok h4 w hw
  | shut nm =>
    rcases List.mem_cons.mp hw with rfl | hw
    · exact ⟨okTx_lit _ (by decide), by decide, by decide⟩
    · rw [List.mem_singleton.mp hw]; exact N _ h
  | pap k r c =>
    obtain ⟨h1, h2, h3⟩ := h
    rcases List.mem_cons.mp hw with rfl | hw
    · cases k <;> exact ⟨okTx_lit _ (by decide), by decide, by decide⟩
    rcases List.mem_cons.mp hw with rfl | hw
    · exact Rr _ h1
    · rw [List.mem_singleton.mp hw]; exact Cc c h2 h3
  | mrk k nm r c =>
    obtain ⟨h1, h2, h3, h4⟩ := h
    rcases List.mem_cons.mp hw with rfl | hw
    · cases k <;> exact ⟨okTx_lit _ (by decide), by decide, by decide⟩
    rcases List.mem_cons.mp hw with rfl | hw
    · exact N _ h1
    rcases List.mem_cons.mp hw with rfl | hw
    · exact Rr _ h2
    · rw [List.mem_singleton.mp hw]; exact Cc c h3 h4
theorem tWs_ne (t : Dic) : tWs t ≠ [] := by
  unfold tWs
  split
  · simp
  · rename_i h
    exact fun e => h (List.map_eq_nil_iff.mp e)
theorem tWs_len (t : Dic) : (tWs t).length ≤ t.length + 1 ∧ 1 ≤ (tWs t).length := by
  unfold tWs
  split
  · simp
  · rename_i h
    have := List.length_pos_iff.mpr h
    rw [List.length_map]; omega
theorem dW_few {d : Deed} (h : okD d) : dW d ≠ [] ∧ (dW d).length ≤ 110 := by
  cases d with
  | start nm rm t =>
    have := (tWs_len t).1
    have := h.2.2.2.1.1
    exact ⟨by simp [dW], by simp only [dW, List.length_cons]; omega⟩
  | shut nm => exact ⟨by simp [dW], by simp [dW]⟩
  | pap k r c => exact ⟨by simp [dW], by simp [dW]⟩
  | mrk k nm r c => exact ⟨by simp [dW], by simp [dW]⟩
theorem line_len {d : Deed} (h : okD d) : (lineL d).length ≤ 20000 := by
  have := joinL_len (s := 32) (n := 170) (ps := dW d) fun p hp => (dW_ok h p hp).2.1
  have := (dW_few h).2
  unfold lineL
  omega
theorem line_ok {d : Deed} (h : okD d) : okTx (lineL d) := ⟨by have := line_len h; omega, fun x hx => by
  rcases joinL_mem hx with e | ⟨p, hp, hx⟩
  · omega
  · exact (dW_ok h p hp).1.2 x hx⟩
end RT

namespace RT
open L2 PyProof.Rows PySem.Spec PySem L2.DL SX
/-! ### a deed read back -/
theorem oNe_word {a b : List Nat} {x : Str} (hx : x = S b) (ha : okTx a) (hb : (decide (b.length ≤ 1000000) && b.all fun c => decide (c < 1114112)) = true) : oEq (.str (S a)) (.str x) = some (.bl (decide (a = b))) := by
  rw [hx]; exact oEq_Tx ha (okTx_lit b hb)
end RT

namespace RT
open L2 PyProof.Rows PySem.Spec PySem L2.DL SX
/-! ### a deed written by the program -/
theorem okTl.tal {t : Dic} (h : okTl t) : okTal t := ⟨by have := h.1; omega, fun p hp => ⟨(h.2 p hp).1.row, (h.2 p hp).2⟩⟩
theorem joinL_two {s : Nat} {a : List Nat} {l : List (List Nat)} (h : l ≠ []) : TL.joinL [s] (a :: l) = a ++ (s :: TL.joinL [s] l) := joinL_cons h
/-! ### a deed written by the law -/
theorem gJoin_S {o : Bool} {ws : List (List Nat)} {n : Nat} (h : ∀ w ∈ ws, okTx w ∧ w.length ≤ n) (hl : ws.length * (n + 1) ≤ 16777216) : gJoin (.str (" " : Str)) [.lst o (encN ws)] = some (.str (S (TL.joinL [32] ws))) := by
  rw [encN_strs, gJoin_ok (n := n) (k := 1) (fun s hs => by
    obtain ⟨w, hw, rfl⟩ := List.mem_map.mp hs
    exact txOk_S (h w hw).2 (h w hw).1.2) txOk_lit4.len (by rw [List.length_map]; exact hl), lit_sp, join_S]
theorem law_row_text_W {r : Row} (h : okDig r) : callP m_law_row_text [.tup (encI r)] = some (.str (S (rW r))) := by rw [law_row_text_call h.row, rowS_W h]
theorem oStrX_n {c : Int} (h0 : 0 ≤ c) (h1 : c < 10000000000000) : oStrX [.int c] = some (.str (S (nL c))) := by
  have : c.natAbs.log2 < 64 := PySem.Flt.log2_lt_of (by decide) (by omega)
  simp only [oStrX]
  rw [if_pos (by omega)]
  show some (Val.str (intS c)) = _
  rw [intS_nL h0]
theorem law_deed_text_spec {d : Deed} (h : okD d) {rv : Val} (lr : callP m_law_room_text [rv] = some (.str (S (roW (dRoom d))))) : m_law_deed_text_2 [deedV rv false d] = .ok (.str (S (lineL d))) := by
  have tk1 : kitB "tuple" "tuple" = some true := rfl
  have tk2 : kitB "str" "tuple" = some false := by decide +kernel
  have tk3 : kitB "int" "tuple" = some false := by decide +kernel
  have ap : ∀ (ws : List Val) (w : Val), ws.length < 100 → gAppend ws [w] = some (.non, ws ++ [w]) := fun ws w hl => by
    have : ws.length < sizeLine := by rw [sizeLine_eq]; omega
    simp only [gAppend]
    rw [if_pos this]
  unfold m_law_deed_text_2 fnP g_law_deed_text_2
  cases d with
  | start nm rm t =>
    have ll := line_len h
    have lw := dW_ok h
    obtain ⟨h1, h2, h3, h4, h5, h6⟩ := h
    have q1 := oNe_word lit_start (okTx_lit startL (by decide)) (by decide)
    rw [decide_eq_true rfl] at q1
    have tt := law_tally_text_call (o := false) h4.tal
    rw [talS_W h4] at tt
    have gj := gJoin_S (o := true) (ws := [startL, nm, roW rm, TL.joinL [32] (tWs t)]) (n := 20000) (fun w hw => by
      rcases List.mem_cons.mp hw with rfl | hw
      · exact ⟨okTx_lit _ (by decide), by decide⟩
      rcases List.mem_cons.mp hw with rfl | hw
      · have := lw w (by simp [dW]); exact ⟨this.1, by have := this.2.1; omega⟩
      rcases List.mem_cons.mp hw with rfl | hw
      · have := lw (roW rm) (by simp [dW]); exact ⟨this.1, by have := this.2.1; omega⟩
      · rw [List.mem_singleton.mp hw]
        have l := joinL_len (s := 32) (n := 170) (ps := tWs t) fun p hp => (tWs_ok h4 p hp).2.1
        have := (tWs_len t).1
        have := h4.1
        refine ⟨⟨by omega, fun x hx => ?_⟩, by omega⟩
        rcases joinL_mem hx with e | ⟨p, hp, hx⟩
        · omega
        · exact (tWs_ok h4 p hp).1.2 x hx) (by simp)
    have e1 : TL.joinL [32] [startL, nm, roW rm, TL.joinL [32] (tWs t)] = lineL (.start nm rm t) := by
      show _ = TL.joinL [32] (startL :: nm :: roW rm :: tWs t)
      have r1 := joinL_two (s := 32) (a := startL) (l := nm :: roW rm :: tWs t) (by simp)
      have r2 := joinL_two (s := 32) (a := nm) (l := roW rm :: tWs t) (by simp)
      have r3 := joinL_two (s := 32) (a := roW rm) (tWs_ne t)
      rw [r1, r2, r3]
      rfl
    rw [e1] at gj
    have e2 : encN [startL, nm, roW rm, TL.joinL [32] (tWs t)] = [.str ("start" : Str), .str (S nm), .str (S (roW rm)), .str (S (TL.joinL [32] (tWs t)))] := by
      rw [lit_start]; rfl
    rw [e2] at gj
    have lr' : callP m_law_room_text [rv] = some (.str (S (roW rm))) := lr
    simp! [deedV, q1, lr', tt, gLstM_ap, sz4, isStr_lit, gj]
  | shut nm =>
    have gj := gJoin_S (o := true) (ws := dW (.shut nm)) (n := 170) (fun w hw => ⟨(dW_ok h w hw).1, (dW_ok h w hw).2.1⟩) (by simp [dW])
    have e2 : encN (dW (.shut nm)) = [.str (S shutL), .str (S nm)] := rfl
    rw [e2] at gj
    have q1 := oNe_word lit_start (okTx_lit shutL (by decide)) (by decide)
    rw [show decide (shutL = startL) = false from by decide] at q1
    have os : oStrX [.str (S nm)] = some (.str (S nm)) := rfl
    have sl : oSl (.tup [.str (S shutL), .str (S nm)]) (some 1) none = some (.tup [.str (S nm)]) := rfl
    have a1 := ap [.str (S shutL)] (.str (S nm)) (by simp)
    have gj' : gJoin (.str (" " : Str)) [.lst true [.str (S shutL), .str (S nm)]] = some (.str (S (lineL (.shut nm)))) := gj
    simp! [deedV, q1, gLstN_ap, sz1, sl, forL, l1_law_deed_text_2, tyName, tk2, os, a1, isStr_lit, gj']
  | pap k r c =>
    have gj := gJoin_S (o := true) (ws := dW (.pap k r c)) (n := 170) (fun w hw => ⟨(dW_ok h w hw).1, (dW_ok h w hw).2.1⟩) (by simp [dW])
    obtain ⟨h1, h2, h3⟩ := h
    have s1 : okTx (papL k) := by cases k <;> exact okTx_lit _ (by decide)
    have q1 := oNe_word lit_start s1 (by decide)
    rw [show decide (papL k = startL) = false from by cases k <;> decide] at q1
    have os := oStrX_n h2 h3
    have sl : oSl (.tup [.str (S (papL k)), .tup (encI r), .int c]) (some 1) none = some (.tup [.tup (encI r), .int c]) := by
      show (if noOwns [.str (S (papL k)), .tup (encI r), .int c] = true then some (Val.tup [.tup (encI r), .int c]) else none) = _
      rw [if_pos (by simp only [noOwns, noOwn, noOwns_I, Bool.and_self])]
    have a1 := ap [.str (S (papL k))] (.str (S (rW r))) (by simp)
    have a2 := ap [.str (S (papL k)), .str (S (rW r))] (.str (S (nL c))) (by simp)
    have rt := law_row_text_W h1
    have gj' : gJoin (.str (" " : Str)) [.lst true [.str (S (papL k)), .str (S (rW r)), .str (S (nL c))]] = some (.str (S (lineL (.pap k r c)))) := gj
    simp! [deedV, q1, gLstN_ap, sz1, sl, noOwns_I, forL, l1_law_deed_text_2, tyName, tk1, tk3, rt, os, a1, a2, isStr_lit, gj']
  | mrk k nm r c =>
    have gj := gJoin_S (o := true) (ws := dW (.mrk k nm r c)) (n := 170) (fun w hw => ⟨(dW_ok h w hw).1, (dW_ok h w hw).2.1⟩) (by simp [dW])
    obtain ⟨h0, h1, h2, h3⟩ := h
    have s1 : okTx (mrkL k) := by cases k <;> exact okTx_lit _ (by decide)
    have q1 := oNe_word lit_start s1 (by decide)
    rw [show decide (mrkL k = startL) = false from by cases k <;> decide] at q1
    have os := oStrX_n h2 h3
    have os2 : oStrX [.str (S nm)] = some (.str (S nm)) := rfl
    have sl : oSl (.tup [.str (S (mrkL k)), .str (S nm), .tup (encI r), .int c]) (some 1) none = some (.tup [.str (S nm), .tup (encI r), .int c]) := by
      show (if noOwns [.str (S (mrkL k)), .str (S nm), .tup (encI r), .int c] = true then some (Val.tup [.str (S nm), .tup (encI r), .int c]) else none) = _
      rw [if_pos (by simp only [noOwns, noOwn, noOwns_I, Bool.and_self])]
    have a0 := ap [.str (S (mrkL k))] (.str (S nm)) (by simp)
    have a1 := ap [.str (S (mrkL k)), .str (S nm)] (.str (S (rW r))) (by simp)
    have a2 := ap [.str (S (mrkL k)), .str (S nm), .str (S (rW r))] (.str (S (nL c))) (by simp)
    have rt := law_row_text_W h1
    have gj' : gJoin (.str (" " : Str)) [.lst true [.str (S (mrkL k)), .str (S nm), .str (S (rW r)), .str (S (nL c))]] = some (.str (S (lineL (.mrk k nm r c)))) := gj
    simp! [deedV, q1, gLstN_ap, sz1, sl, noOwns_I, forL, l1_law_deed_text_2, tyName, tk1, tk2, tk3, rt, os, os2, a0, a1, a2, isStr_lit, gj']
end RT

namespace RT
open L2 PyProof.Rows PySem.Spec PySem L2.DL SX
/-! ### two deeds held against each other -/
theorem kb_tt : kitB "tuple" "tuple" = some true := rfl
theorem datV_tx {s : List Nat} (h : okTx s) (n : Nat) : DatV (.str (S s)) (.str (S s)) n := datV_str h.2 n
/-! ### a drawn deed -/
theorem sz5 : (5 ≤ sizeLine) = True := eq_true (by decide)
theorem any_deed_spec {nums : List Int} {at_ left salt : Int} (h0 : 0 ≤ at_) :
    ∃ (at' left' : Int) (d : Deed), 0 ≤ at' ∧ okD d ∧ m_law_any_deed_2 [bagV nums at_ left salt] = .ok (deedV (.tpz (encN (dRoom d))) true d) [some (bagV nums at' left' salt)] := by
  obtain ⟨at1, left1, r1, h1, hr0, hr1, e1⟩ := pull_spec (nums := nums) (left := left) (salt := salt) (many := 7) h0 (by decide) (by decide)
  obtain ⟨at2, left2, ss, h2, hl, hs, e2⟩ := names_specN (nums := nums) (left := left1) (salt := salt) (many := r1) h1 hr0 (by omega)
  have hl2 : (sortN ss).length = ss.length := (sortN_perm ss).length_eq
  have hn : Rm (sortN ss) := rm_sort hs.1 hs.2
  have h6 : (sortN ss).length ≤ 6 := by omega
  generalize hN : sortN ss = names at *
  obtain ⟨at3, left3, one, h3, hl3, ho, e3⟩ := names_specN (nums := nums) (left := left2) (salt := salt) (many := 1) h2 (by decide) (by decide)
  obtain ⟨nm, rfl⟩ : ∃ nm, one = [nm] := by
    match one, hl3 with
    | [nm], _ => exact ⟨nm, rfl⟩
  have hnm : nm8 nm := ho.1 nm List.mem_cons_self
  have R := roomV_tpz names
  obtain ⟨at4, left4, row, h4, lr, mr, e4⟩ := answers_spec (nums := nums) (left := left3) (salt := salt) (size := names.length) (base := 10) h3 (by omega) (by omega) (by decide) (by decide)
  obtain ⟨at5, left5, r5, h5, hr50, hr51, e5⟩ := pull_big (nums := nums) (left := left4) (salt := salt) (many := 1000000000000) h4 (by decide) (by decide)
  obtain ⟨at6, left6, r6, h6', hr60, hr61, e6⟩ := pull_spec (nums := nums) (left := left5) (salt := salt) (many := 5) h5 (by decide) (by decide)
  obtain ⟨at7, left7, way, h7, hw0, hw1, e7⟩ := pull_spec (nums := nums) (left := left6) (salt := salt) (many := 8) h6' (by decide) (by decide)
  obtain ⟨cnt, c0, c1, ec⟩ : ∃ cnt : Int, 0 ≤ cnt ∧ cnt < 10000000000000 ∧ oIx (.lst true [.int 0, .int 1, .int 1000000000000, .int 9999999999999, .int r5]) (.int r6) = some (.int cnt) := by
    obtain ⟨w, hw, ew⟩ := atI_lt (xs := [Val.int 0, .int 1, .int 1000000000000, .int 9999999999999, .int r5]) hr60 hr61
    simp only [List.mem_cons, List.not_mem_nil, or_false] at hw
    rcases hw with rfl | rfl | rfl | rfl | rfl
    · exact ⟨0, by decide, by decide, ew⟩
    · exact ⟨1, by decide, by decide, ew⟩
    · exact ⟨1000000000000, by decide, by decide, ew⟩
    · exact ⟨9999999999999, by decide, by decide, ew⟩
    · exact ⟨r5, hr50, by omega, ew⟩
  have op12 : oPow (.int 10) (.int 12) = some (.int 1000000000000) := rfl
  have op13 : oPow (.int 10) (.int 13) = some (.int 10000000000000) := rfl
  have ps : oSub (.int 10000000000000) (.int 1) = some (.int 9999999999999) := rfl
  have i0 : oIx (.lst true [Val.str (S nm)]) (.int 0) = some (.str (S nm)) := rfl
  have eN : encN [nm] = [.str (S nm)] := rfl
  rw [eN] at e3
  have dig : okDig row := ⟨by omega, mr⟩
  have main := To.fnIO (n := 9) (np := 1) (g := g_law_any_deed_2) (ws := [bagV nums at_ left salt]) (R := fun w outs => ∃ (at' left' : Int) (d : Deed), 0 ≤ at' ∧ okD d ∧ w = deedV (.tpz (encN (dRoom d))) true d ∧ outs = [some (bagV nums at' left' salt)]) ?_
  · obtain ⟨w, outs, ⟨at', left', d, q1, q2, rfl, rfl⟩, e⟩ := main
    exact ⟨at', left', d, q1, q2, e⟩
  unfold g_law_any_deed_2
  refine To.seq (m := fun ρ => ρ = [some (bagV nums at2 left2 salt), some (.tpz (encN names)), none, none, none, none, none, none, none]) (To.nxt (by simp! [e1, e2, oSorted_N, oTupleZ_N, hN]) rfl) ?_
  rintro _ rfl
  refine To.seq (m := fun ρ => ρ = [some (bagV nums at3 left3 salt), some (.tpz (encN names)), some (.str (S nm)), none, none, none, none, none, none]) (To.nxt (by simp! [e3, i0]) rfl) ?_
  rintro _ rfl
  refine To.seq (m := fun ρ => ρ = [some (bagV nums at4 left4 salt), some (.tpz (encN names)), some (.str (S nm)), some (.tup (encI row)), none, none, none, none, none]) (To.nxt (by simp! [R.len, e4]) rfl) ?_
  rintro _ rfl
  refine To.seq (m := fun ρ => ρ = [some (bagV nums at6 left6 salt), some (.tpz (encN names)), some (.str (S nm)), some (.tup (encI row)), some (.int cnt), none, none, none, none]) (To.nxt (by simp! [op12, op13, ps, e5, e6, gLstM_ap, sz5, ec]) rfl) ?_
  rintro _ rfl
  refine To.seq (m := fun ρ => ρ = [some (bagV nums at7 left7 salt), some (.tpz (encN names)), some (.str (S nm)), some (.tup (encI row)), some (.int cnt), some (.int way), none, none, none]) (To.nxt (by simp! [e7]) rfl) ?_
  rintro _ rfl
  by_cases w3 : way < 3
  · obtain ⟨at8, left8, D, h8, kD, lD, e8⟩ := drawn_spec (nums := nums) (left := left7) (salt := salt) R.len (by omega) h7
    have TD := kD.talB
    have lDs := settle_len (D := D)
    generalize settle D = rows at *
    have cp : compP [7, 8] (gTn 2 (gsCons gN (gsCons gN gsNil))) pYes (pOpS gTupN (psCons (pVar 7) (psCons (pOpS oMax (psCons (pC (.int 1)) (psCons (pOpS oMin (psCons (pVar 8) (psCons (pOp2 oSub (pOp2 oPow (pC (.int 10)) (pC (.int 13))) (pC (.int 1))) psNil))) psNil))) psNil))) [some (bagV nums at8 left8 salt), none, none, some (.tup (encI row)), some (.int cnt), some (.int way), some (.lst true (encT rows)), none, none] (encT rows) = some (encT rows) := by
      have := compP_map (is := [7, 8]) (t := gTn 2 (gsCons gN (gsCons gN gsNil))) (f := pOpS gTupN (psCons (pVar 7) (psCons (pOpS oMax (psCons (pC (.int 1)) (psCons (pOpS oMin (psCons (pVar 8) (psCons (pOp2 oSub (pOp2 oPow (pC (.int 10)) (pC (.int 13))) (pC (.int 1))) psNil))) psNil))) psNil))) (ρ := [some (bagV nums at8 left8 salt), none, none, some (.tup (encI row)), some (.int cnt), some (.int way), some (.lst true (encT rows)), none, none]) pairV pairV rows fun p hp => ⟨[.tup (encI p.1), .int p.2], rfl, by
        have c := TD.cnt p hp
        have mn : oMin [.int p.2, .int 9999999999999] = some (.int p.2) := by
          rw [oMin_int, if_neg (by omega)]
        have mx : oMax [.int 1, .int p.2] = some (.int p.2) := by
          rw [oMax_int]
          by_cases q : p.2 > 1
          · rw [if_pos q]
          · rw [if_neg q]; congr 2; omega
        simp! [op13, ps, mn, mx, gTupN_ap, sz2, noOwns_I, pairV]⟩
      exact this
    have lz : (encT rows).length ≤ sizeLine := by rw [encT_len, sizeLine_eq]; omega
    have w8 : ∀ a b c d e f g h i : Option Val, wipeS [a, b, c, d, e, f, g, h, i] [7, 8] = [a, b, c, d, e, f, g, none, none] := fun _ _ _ _ _ _ _ _ _ => rfl
    refine To.seq (m := fun _ => False) ?_ (fun _ f => f.elim)
    exact To.ret (by simp! [w3, e8, noOwns_T, w8, cp, lz, gTupM_ap, sz4] <;> rfl) ⟨at8, left8, .start nm names rows, h8, ⟨hnm, hn, h6, ⟨by omega, fun p hp => ⟨⟨by have := (TD.row p hp).1; omega, (TD.row p hp).2⟩, by have := TD.cnt p hp; omega, by have := TD.cnt p hp; omega⟩⟩, TD.tal, fun p hp => ⟨(TD.row p hp).1, (TD.cnt p hp).1⟩⟩, by rw [deedV, lit_start.symm]; rfl, rfl⟩
  refine To.seq (m := fun ρ => ρ = [some (bagV nums at7 left7 salt), some (.tpz (encN names)), some (.str (S nm)), some (.tup (encI row)), some (.int cnt), some (.int way), none, none, none]) (To.nxt (by simp! [w3] <;> rfl) rfl) ?_
  rintro _ rfl
  by_cases w3' : way = 3
  · subst w3'
    refine To.seq (m := fun _ => False) ?_ (fun _ f => f.elim)
    exact To.ret (by simp! [gTupM_ap, sz2] <;> rfl) ⟨at7, left7, .shut nm, h7, hnm, by rw [deedV, lit_shut.symm], rfl⟩
  have b3 : (way == 3) = false := beq_eq_false_iff_ne.mpr w3'
  refine To.seq (m := fun ρ => ρ = [some (bagV nums at7 left7 salt), some (.tpz (encN names)), some (.str (S nm)), some (.tup (encI row)), some (.int cnt), some (.int way), none, none, none]) (To.nxt (by simp! [b3] <;> rfl) rfl) ?_
  rintro _ rfl
  by_cases w6 : way < 6
  · refine To.seq (m := fun _ => False) ?_ (fun _ f => f.elim)
    rcases (show way = 4 ∨ way = 5 by omega) with rfl | rfl
    · have ix : oSubs (.lst true [.str ("enter" : Str), .str ("withdraw" : Str)]) (.int 0) = some (.str ("enter" : Str)) := rfl
      exact To.ret (by simp! [gLstN_ap, sz2, ix, gTupM_ap, sz3, noOwns_I] <;> rfl) ⟨at7, left7, .pap false row cnt, h7, ⟨dig, c0, c1⟩, by rw [deedV, lit_enter.symm], rfl⟩
    · have ix : oSubs (.lst true [.str ("enter" : Str), .str ("withdraw" : Str)]) (.int 1) = some (.str ("withdraw" : Str)) := rfl
      exact To.ret (by simp! [gLstN_ap, sz2, ix, gTupM_ap, sz3, noOwns_I] <;> rfl) ⟨at7, left7, .pap true row cnt, h7, ⟨dig, c0, c1⟩, by rw [deedV, lit_withdraw.symm], rfl⟩
  refine To.seq (m := fun ρ => ρ = [some (bagV nums at7 left7 salt), some (.tpz (encN names)), some (.str (S nm)), some (.tup (encI row)), some (.int cnt), some (.int way), none, none, none]) (To.nxt (by simp! [w6] <;> rfl) rfl) ?_
  rintro _ rfl
  rcases (show way = 6 ∨ way = 7 by omega) with rfl | rfl
  · have ix : oSubs (.lst true [.str ("mark" : Str), .str ("strike" : Str)]) (.int 0) = some (.str ("mark" : Str)) := rfl
    exact To.ret (by simp! [gLstN_ap, sz2, ix, gTupM_ap, sz4, noOwns_I] <;> rfl) ⟨at7, left7, .mrk false nm row cnt, h7, ⟨hnm, dig, c0, c1⟩, by rw [deedV, lit_mark.symm], rfl⟩
  · have ix : oSubs (.lst true [.str ("mark" : Str), .str ("strike" : Str)]) (.int 1) = some (.str ("strike" : Str)) := rfl
    exact To.ret (by simp! [gLstN_ap, sz2, ix, gTupM_ap, sz4, noOwns_I] <;> rfl) ⟨at7, left7, .mrk true nm row cnt, h7, ⟨hnm, dig, c0, c1⟩, by rw [deedV, lit_strike.symm], rfl⟩
end RT

namespace RT
open L2 PyProof.Rows PySem.Spec PySem L2.DL SX
/-! ### words of any kind read -/
theorem plS1 {ws : List Val} {f : Str} : plSh ws (some (f, .int 0)) = true := by simp [plSh, noSh]
def figI (w : List Nat) : Int := (numF w).getD (-1)
theorem numF_nn {w : List Nat} {n : Int} (h : numF w = some n) : 0 ≤ n := by
  unfold numF at h
  split at h
  · cases h; omega
  · cases h
theorem figI_nn {w : List Nat} : figI w = -1 ∧ numF w = none ∨ 0 ≤ figI w ∧ numF w = some (figI w) := by
  unfold figI
  cases q : numF w with
  | none => exact .inl ⟨rfl, rfl⟩
  | some n => exact .inr ⟨numF_nn q, rfl⟩
theorem strIn_fig (c : Nat) : strIn ⟨#[c]⟩ ("0123456789" : Str) = digB c := by
  rw [strIn_one]
  cases q : digB c with
  | true => exact decide_eq_true ((fig_mem c).mpr q)
  | false => exact decide_eq_false fun h => by rw [(fig_mem c).mp h] at q; cases q
theorem figures_spec {w : List Nat} (h : okTx w) : m_law_figures [.str (S w)] = .ok (.int (figI w)) := by
  have hl : oLen [.str (S w)] = some (.int w.length) := by rw [oLen_str (by rw [S_len, sizeLine_eq]; have := h.1; omega), S_len]
  unfold m_law_figures fnP g_law_figures figI numF
  by_cases h1 : 1 ≤ w.length
  · by_cases h2 : w.length ≤ 13
    · have a1 : (1 : Int) ≤ w.length := by omega
      have a2 : (w.length : Int) ≤ 13 := by omega
      have cp : compP [1] gN pYes (pOp2 oIn (pVar 1) (pC (.str ("0123456789" : Str)))) [some (.str (S w)), none] (w.map fun c => Val.str ⟨#[c]⟩) = some (w.map fun c => .bl (digB c)) :=
        compP_map (fun c => Val.str ⟨#[c]⟩) (fun c => .bl (digB c)) w fun c hc => ⟨_, rfl, by
          have e1 := strIn_fig c
          simp! [e1]⟩
      have oa := oAll_map true digB w
      have w1 : ∀ a b : Option Val, wipeS [a, b] [1] = [a, none] := fun _ _ => rfl
      have lz : w.length ≤ sizeLine := by rw [sizeLine_eq]; omega
      cases q : w.all digB with
      | false =>
        rw [q] at oa
        simp! [hl, a1, a2, signs_S, w1, cp, List.length_map, lz, oa, h1, h2, q, and_self, Option.getD_none]
      | true =>
        rw [q] at oa
        have s0 := str_at0 h h1
        have oc : okTx (w.take 1) := ⟨by rw [List.length_take]; omega, fun x hx => h.2 x (List.mem_of_mem_take hx)⟩
        have eq : oEq (.str (S (w.take 1))) (.str ("0" : Str)) = some (.bl (decide (w.take 1 = [48]))) := by rw [lit_nought]; exact oEq_Tx oc (okTx_lit [48] (by decide))
        have ii : oInt1 [.str (S w)] = some (.int ((NumText.digitsVal w : Nat) : Int)) := by
          have := int_S (a := w) (List.all_eq_true.mpr fun x hx => List.all_eq_true.mp q x hx) (fun e => by rw [e] at h1; simp at h1) (by omega)
          simp only [oInt1]
          rw [if_pos (by rw [S_len]; omega), this]; rfl
        by_cases q2 : 1 < w.length
        · have a3 : (1 : Int) < (w.length : Nat) := by omega
          cases q1 : decide (w.take 1 = [48]) with
          | true =>
            rw [q1] at eq
            simp! [hl, a1, a2, signs_S, w1, cp, List.length_map, lz, oa, h1, h2, q, and_self, s0, eq, a3, q2, q1, Option.getD_none]
          | false =>
            rw [q1] at eq
            simp! [hl, a1, a2, signs_S, w1, cp, List.length_map, lz, oa, h1, h2, q, and_self, s0, eq, a3, q2, q1, ii, Option.getD_some]
        · have a3 : ¬ (1 : Int) < (w.length : Nat) := by omega
          simp! [hl, a1, a2, signs_S, w1, cp, List.length_map, lz, oa, h1, h2, q, and_self, a3, q2, ii, Option.getD_some]
    · have a1 : (1 : Int) ≤ w.length := by omega
      have a2 : ¬ (w.length : Int) ≤ 13 := by omega
      simp! [hl, a1, a2, h2, and_false, Option.getD_none]
  · have a1 : ¬ (1 : Int) ≤ w.length := by omega
    simp! [hl, a1, h1, false_and, Option.getD_none]
theorem figures_call {w : List Nat} (h : okTx w) : callP m_law_figures [.str (S w)] = some (.int (figI w)) := by
  simp! [callP, figures_spec h]
/-! ### rows -/
def figs (w : List Nat) : Row := (cutB 46 w).map figI
def rowR (w : List Nat) : Option Row := if w = [45] then some [] else if (decide ((figs w).length ≤ 6) && (figs w).all in09) = true then some (figs w) else none
theorem law_row_spec {w : List Nat} (h : okTx w) : m_law_row_in [.str (S w)] = match rowR w with
    | some r => .ok (.tup (encI r))
    | none => .ok .non := by
  have e0 := oEq_Tx h (okTx_lit [45] (by decide))
  rw [← lit_minus] at e0
  unfold m_law_row_in fnP g_law_row_in rowR
  by_cases hr : w = [45]
  · rw [decide_eq_true hr] at e0
    simp! [e0, gTupN_ap, sz0, if_pos hr]
    rfl
  · rw [decide_eq_false hr] at e0
    rw [if_neg hr]
    have sp := gSplit_S (c := 46) (by decide) (w := w) h.1
    rw [← lit_dot] at sp
    have cl := cut_len 46 w
    have fl : (figs w).length = (cutB 46 w).length := List.length_map _
    have cp : compP [2] gN pYes (pOpS (callP m_law_figures) (psCons (pVar 2) psNil)) [some (.str (S w)), none, none, none] (encN (cutB 46 w)) = some (encI (figs w)) := by
      have := compP_map (is := [2]) (t := gN) (f := pOpS (callP m_law_figures) (psCons (pVar 2) psNil)) (ρ := [some (.str (S w)), none, none, none]) (fun s => Val.str (S s)) (fun s => Val.int (figI s)) (cutB 46 w) fun s hs => ⟨_, rfl, by
        have fc := figures_call (h.cut 46 s hs)
        simp! [fc]⟩
      rw [show encI (figs w) = (cutB 46 w).map fun s => Val.int (figI s) by unfold figs encI; rw [List.map_map]; rfl]
      exact this
    have cq : ∀ x : Option Val, compP [3] gN pYes (pChain oLe oLe (pC (.int 0)) (pVar 3) (pC (.int 9))) [some (.str (S w)), x, none, none] (encI (figs w)) = some ((figs w).map fun i => .bl (in09 i)) := fun x =>
      compP_map (fun i => Val.int i) (fun i => .bl (in09 i)) (figs w) fun i _ => ⟨_, rfl, by
        by_cases g0 : 0 ≤ i
        · by_cases g9 : i ≤ 9
          · have : in09 i = true := decide_eq_true ⟨g0, g9⟩
            simp! [g0, g9, this]
          · have : in09 i = false := decide_eq_false fun z => g9 z.2
            simp! [g0, g9, this]
        · have : in09 i = false := decide_eq_false fun z => g0 z.1
          simp! [g0, this]⟩
    have oa := oAll_map true in09 (figs w)
    have w2 : ∀ a b c d : Option Val, wipeS [a, b, c, d] [2] = [a, b, none, d] := fun _ _ _ _ => rfl
    have w3 : ∀ a b c d : Option Val, wipeS [a, b, c, d] [3] = [a, b, c, none] := fun _ _ _ _ => rfl
    have lz : (encI (figs w)).length ≤ sizeLine := by rw [encI_len, fl, sizeLine_eq]; have := h.1; omega
    have lz2 : (figs w).length ≤ sizeLine := by rw [fl, sizeLine_eq]; have := h.1; omega
    have ot : oTuple [.lst true (encI (figs w))] = some (.tup (encI (figs w))) := by simp only [oTuple, noOwns_I, if_true]
    by_cases h6 : (figs w).length ≤ 6
    · have l6 : ¬ (6 : Int) < ((figs w).length : Nat) := by omega
      cases q : (figs w).all in09 with
      | true =>
        rw [q] at oa
        simp! [e0, isStr_lit, sp, w2, cp, lz, encI_len, l6, w3, cq, List.length_map, lz2, oa, ot, h6, q]
      | false =>
        rw [q] at oa
        simp! [e0, isStr_lit, sp, w2, cp, lz, encI_len, l6, w3, cq, List.length_map, lz2, oa, h6, q]
    · have l6 : (6 : Int) < ((figs w).length : Nat) := by omega
      simp! [e0, isStr_lit, sp, w2, cp, lz, lz2, encI_len, l6, h6]
theorem law_row_call {w : List Nat} (h : okTx w) : callP m_law_row_in [.str (S w)] = match rowR w with
    | some r => some (.tup (encI r))
    | none => some .non := by
  have e := law_row_spec h
  cases q : rowR w with
  | none => rw [q] at e; simp! [callP, e]
  | some r => rw [q] at e; simp! [callP, e, noShs_I, noOwns_I]
theorem compX_nums {a b c : Option Val} : ∀ (ps : List (List Nat)) (acc : List Val), (∀ p ∈ ps, okTx p) → acc.length + ps.length ≤ 16777216 →
    compX [3] [3] gN (mT pYes) (mCallP m_number_of (psCons (pVar 3) psNil)) (encN ps) acc [a, b, c, none] = if (ps.all fun p => (numF p).isSome) = true then .ok (acc ++ encI (ps.map figI)) [a, b, c, none] else .err "BadText" (some ("at", .int 0)) [a, b, c, none]
  | [], acc, _, _ => by simp [compX, encN, encI]
  | p :: ps, acc, h, hl => by
    have e := number_spec (h p List.mem_cons_self)
    have w3 : ∀ a b c d : Option Val, wipeS [a, b, c, d] [3] = [a, b, c, none] := fun _ _ _ _ => rfl
    rw [List.length_cons] at hl
    have lt : acc.length < sizeLine := by rw [sizeLine_eq]; omega
    rw [encN_cons, compX]
    cases q : numF p with
    | none =>
      rw [q] at e
      simp! [nE, e, plS1, w3, List.all_cons, q, Option.isSome_none]
    | some n =>
      rw [q] at e
      have ih := compX_nums (a := a) (b := b) (c := c) ps (acc ++ [.int n]) (fun p hp => h p (List.mem_cons_of_mem _ hp)) (by rw [List.length_append, List.length_singleton]; omega)
      have fi : figI p = n := by unfold figI; rw [q]; rfl
      simp! [nE, e, w3, List.all_cons, q, Option.isSome_some, lt]
      rw [ih, fi]
      simp only [encI, List.map_cons, List.append_assoc, List.singleton_append]
theorem mx_le {r : Row} (ne : r ≠ []) (h : ∀ c ∈ r, 0 ≤ c) : ∃ m, mxI r = some m ∧ (r.all in09 = true ↔ m ≤ 9) := by
  cases r with
  | nil => exact absurd rfl ne
  | cons i is =>
    refine ⟨_, rfl, ?_⟩
    have F := mxI_fold is i
    rw [List.all_eq_true]
    constructor
    · intro k
      have := k _ F.1
      simp only [in09, decide_eq_true_eq] at this
      exact this.2
    · intro k x hx
      have := F.2 x hx
      have := h x hx
      exact decide_eq_true ⟨by omega, by omega⟩
theorem row_of_any {w : List Nat} (h : okTx w) : m_row_of_4 [.str (S w)] = match rowR w with
    | some r => .ok (.tup (encI r))
    | none => bt := by
  have e0 := oEq_Tx h (okTx_lit [45] (by decide))
  rw [← lit_minus] at e0
  unfold m_row_of_4 fnP g_row_of_4 rowR
  by_cases hr : w = [45]
  · rw [decide_eq_true hr] at e0
    simp! [e0, gTupN_ap, sz0, if_pos hr]
    rfl
  · rw [decide_eq_false hr] at e0
    rw [if_neg hr]
    have sp := gSplit_S (c := 46) (by decide) (w := w) h.1
    rw [← lit_dot] at sp
    have cl := cut_len 46 w
    have fl : (figs w).length = (cutB 46 w).length := List.length_map _
    have w3 : ∀ a b c d : Option Val, wipeS [a, b, c, d] [3] = [a, b, c, none] := fun _ _ _ _ => rfl
    by_cases h6 : (figs w).length ≤ 6
    · have l6 : ¬ (6 : Int) < ((cutB 46 w).length : Nat) := by omega
      have cx := compX_nums (a := some (.str (S w))) (b := some (.lst false (encN (cutB 46 w)))) (c := none) (cutB 46 w) [] (fun p hp => h.cut 46 p hp) (by simp only [List.length_nil]; have := h.1; omega)
      cases qa : (cutB 46 w).all fun p => (numF p).isSome with
      | false =>
        rw [qa] at cx
        have q : (figs w).all in09 = false := by
          rw [List.all_eq_false] at qa ⊢
          obtain ⟨p, hp, hn⟩ := qa
          refine ⟨figI p, List.mem_map.mpr ⟨p, hp, rfl⟩, ?_⟩
          have : figI p = -1 := by
            rcases figI_nn (w := p) with z | z
            · exact z.1
            · rw [z.2] at hn; exact absurd rfl hn
          rw [this]; decide
        simp! [e0, isStr_lit, sp, encN_len, l6, mCompX_ap, noObjs_N, frzs_N, noOwns_N, w3, cx, q]
      | true =>
        rw [qa] at cx
        have nn : ∀ c ∈ figs w, 0 ≤ c := fun c hc => by
          obtain ⟨p, hp, rfl⟩ := List.mem_map.mp hc
          have := List.all_eq_true.mp qa p hp
          rcases figI_nn (w := p) with z | z
          · rw [z.2] at this; cases this
          · exact z.1
        obtain ⟨m, em, hm⟩ := mx_le (r := figs w) (fun z => cutB_ne 46 w (List.map_eq_nil_iff.mp z)) nn
        have om : oMaxL [.lst true (encI (figs w))] = some (.int m) := by
          simp only [oMaxL, intsOf_I, Option.bind_some, em, Option.map_some]
        have ot : oTuple [.lst true (encI (figs w))] = some (.tup (encI (figs w))) := by simp only [oTuple, noOwns_I, if_true]
        have cx' : compX [3] [3] gN (mT pYes) (mCallP m_number_of (psCons (pVar 3) psNil)) (encN (cutB 46 w)) [] [some (.str (S w)), some (.lst false (encN (cutB 46 w))), none, none] = .ok (encI (figs w)) [some (.str (S w)), some (.lst false (encN (cutB 46 w))), none, none] := by
          rw [cx]; simp only [if_true, List.nil_append]; rfl
        cases q : (figs w).all in09 with
        | true =>
          have m9 : ¬ (9 : Int) < m := by have := hm.mp q; omega
          simp! [e0, isStr_lit, sp, encN_len, l6, mCompX_ap, noObjs_N, frzs_N, noOwns_N, w3, cx', om, m9, ot, h6, q]
        | false =>
          have m9 : (9 : Int) < m := by
            refine Classical.byContradiction fun z => ?_
            rw [hm.mpr (by omega)] at q; cases q
          simp! [e0, isStr_lit, sp, encN_len, l6, mCompX_ap, noObjs_N, frzs_N, noOwns_N, w3, cx', om, m9, h6, q]
    · have l6 : (6 : Int) < ((cutB 46 w).length : Nat) := by omega
      simp! [e0, isStr_lit, sp, encN_len, l6, h6]
/-! ### pairs -/
def pairR (w : List Nat) : Option (Row × Int) := match cutB 61 w with
  | [a, b] => (match rowR a, numF b with
    | some r, some n => some (r, n)
    | _, _ => none)
  | _ => none
theorem cut2 (w : List Nat) : (∃ a b, cutB 61 w = [a, b]) ∨ ((cutB 61 w).length ≠ 2 ∧ pairR w = none) := by
  cases q : cutB 61 w with
  | nil => exact .inr ⟨by simp, by unfold pairR; rw [q]⟩
  | cons a l =>
    cases l with
    | nil => exact .inr ⟨by simp, by unfold pairR; rw [q]⟩
    | cons b l =>
      cases l with
      | nil => exact .inl ⟨a, b, rfl⟩
      | cons c l => exact .inr ⟨by simp, by unfold pairR; rw [q]⟩
theorem pair_of_any {w : List Nat} (h : okTx w) : m_pair_of_4 [.str (S w)] = match pairR w with
    | some p => .ok (pairV p)
    | none => bt := by
  unfold m_pair_of_4 fnP g_pair_of_4
  have sp := gSplit_S (c := 61) (by decide) (w := w) h.1
  rw [← lit_eq] at sp
  rcases cut2 w with ⟨a, b, q⟩ | ⟨q, q2⟩
  · have ha : okTx a := h.cut 61 a (by rw [q]; exact List.mem_cons_self)
    have hb : okTx b := h.cut 61 b (by rw [q]; exact List.mem_cons_of_mem _ List.mem_cons_self)
    have e2 : encN [a, b] = [.str (S a), .str (S b)] := rfl
    rw [q, e2] at sp
    have c2 : (!((2 : Nat) : Int) == 2) = false := rfl
    have ra := row_of_any ha
    have nb := number_spec hb
    cases qa : rowR a with
    | none =>
      rw [qa] at ra
      have pr : pairR w = none := by unfold pairR; rw [q]; simp only [qa]
      simp! [isStr_lit, sp, c2, ra, pr, plS1]
    | some r =>
      rw [qa] at ra
      cases qb : numF b with
      | none =>
        rw [qb] at nb
        have pr : pairR w = none := by unfold pairR; rw [q]; simp only [qa, qb]
        simp! [isStr_lit, sp, c2, ra, nb, pr, plS1, noOwns_I]
      | some n =>
        rw [qb] at nb
        have pr : pairR w = some (r, n) := by unfold pairR; rw [q]; simp only [qa, qb]
        simp! [isStr_lit, sp, c2, ra, nb, pr, gTupM_ap, sz2, noOwns_I, pairV]
  · have l2 : (!(((cutB 61 w).length : Nat) : Int) == 2) = true := by
      rw [beq_eq_false_iff_ne.mpr (by omega)]; rfl
    simp! [isStr_lit, sp, encN_len, l2, q2]
end RT

namespace RT
open L2 PyProof.Rows PySem.Spec PySem L2.DL SX
/-! ### rooms of any kind read -/
def roomR (w : List Nat) : Option (List (List Nat)) := if w = [45] then some [] else if isRm (cutB 43 w) = true then some (cutB 43 w) else none
theorem room_any {w : List Nat} (h : okTx w) : m_room_of [.str (S w)] = (match roomR w with
    | some ss => .ok (rmV ss)
    | none => bt) ∧ m_law_room_in [.str (S w)] = (match roomR w with
    | some ss => .ok (rmV ss)
    | none => .ok .non) := by
  have e0 := oEq_Tx h (okTx_lit [45] (by decide))
  rw [← lit_minus] at e0
  unfold m_room_of m_law_room_in fnP g_room_of g_law_room_in roomR
  by_cases hr : w = [45]
  · rw [decide_eq_true hr] at e0
    refine ⟨?_, ?_⟩ <;> simp! [e0, gTupN_ap, sz0, if_pos hr] <;> rfl
  · rw [decide_eq_false hr] at e0
    rw [if_neg hr]
    have sp := gSplit_S (c := 43) (by decide) (w := w) h.1
    rw [← lit_plus] at sp
    have cl := cut_len 43 w
    have h1 := h.1
    have rs := room_specZ (ss := cutB 43 w) (fun s hs => by have := (cut_sub 43 w s hs).1; omega) (by omega)
    have rv : rmV (cutB 43 w) = .tpz (encN (cutB 43 w)) := if_neg (cutB_ne 43 w)
    cases q : isRm (cutB 43 w) with
    | true =>
      rw [q] at rs
      refine ⟨?_, ?_⟩ <;> simp! [e0, isStr_lit, sp, oTupleZ_N, callP, noObjs_N, frzs_N, noOwns_N, rs, rv]
    | false =>
      rw [q] at rs
      refine ⟨?_, ?_⟩ <;> simp! [e0, isStr_lit, sp, oTupleZ_N, callP, noObjs_N, frzs_N, noOwns_N, rs]
theorem roomR_tx {w : List Nat} (h : okTx w) {ss : List (List Nat)} (e : roomR w = some ss) : (∀ s ∈ ss, okTx s) ∧ (ss = [] ∨ isRm ss = true) := by
  unfold roomR at e
  split at e
  · cases e; exact ⟨fun s hs => (by cases hs), .inl rfl⟩
  · split at e
    · rename_i q; cases e; exact ⟨h.cut 43, .inr q⟩
    · cases e
/-! ### tallies of any kind read -/
def pairsR : List (List Nat) → Option Dic
  | [] => some []
  | w :: ws => match pairR w with
    | some p => (pairsR ws).map (p :: ·)
    | none => none
def noneL : List Nat := [110, 111, 110, 101]
def tallyR (n : Nat) (ws : List (List Nat)) : Option Dic := if ws = [noneL] then some [] else (pairsR ws).bind fun l => if isTal n l = true then some l else none
theorem none_any {o : Bool} {ws : List (List Nat)} (h : ∀ w ∈ ws, okTx w) : oEq (.lst o (encN ws)) (.lst true [.str ("none" : Str)]) = some (.bl (decide (ws = [noneL]))) := by
  have d := datVs_Tx h
  have d2 := datVs_Tx (ws := [noneL]) fun w hw => by rw [List.mem_singleton.mp hw]; exact okTx_lit _ (by decide)
  have p1 : toPy (.lst o (encN ws)) = some (.list (ws.map fun s => .str (S s))) := (d.lst (o := o)).py
  have p2 : toPy (.lst true [.str ("none" : Str)]) = some (.list [.str (S noneL)]) := by
    rw [lit_none]; exact (d2.lst (o := true)).py
  have s1 := shaped_dat (d.lst (o := o)) (by decide)
  have s2 := shaped_dat (d2.lst (o := true)) (by decide)
  simp only [oEq, eqB, p1, p2, Option.bind_some]
  rw [show SeqAt.shaped (PyData.list (ws.map fun s => .str (S s))) = true from s1, show SeqAt.shaped (PyData.list [.str (S noneL)]) = true from s2]
  have ne : PyData.eqv (PyData.list (ws.map fun s => .str (S s))) (PyData.list [.str (S noneL)]) = decide (ws = [noneL]) := by
    cases ws with
    | nil => simp [PyData.eqv, PyData.eqvAll]
    | cons a r =>
      cases r with
      | nil =>
        have := S_eqD a noneL
        simp only [List.map_cons, List.map_nil, PyData.eqv, PyData.eqvAll, Bool.and_true, this]
        simp
      | cons b r => simp [PyData.eqv, PyData.eqvAll]
  rw [ne]; rfl
theorem compX_pairs {a b c : Option Val} : ∀ (ps : List (List Nat)) (acc : List Val), (∀ p ∈ ps, okTx p) → acc.length + ps.length ≤ 16777216 →
    compX [3] [3] gN (mT pYes) (mCallP m_pair_of_4 (psCons (pVar 3) psNil)) (encN ps) acc [a, b, c, none] = match pairsR ps with
      | some l => .ok (acc ++ encT l) [a, b, c, none]
      | none => .err "BadText" (some ("at", .int 0)) [a, b, c, none]
  | [], acc, _, _ => by simp [compX, encN, encT, pairsR]
  | p :: ps, acc, h, hl => by
    have e := pair_of_any (h p List.mem_cons_self)
    have w3 : ∀ a b c d : Option Val, wipeS [a, b, c, d] [3] = [a, b, c, none] := fun _ _ _ _ => rfl
    rw [List.length_cons] at hl
    have lt : acc.length < sizeLine := by rw [sizeLine_eq]; omega
    rw [encN_cons, compX]
    cases q : pairR p with
    | none =>
      rw [q] at e
      simp! [nE, e, plS1, w3, pairsR, q]
    | some n =>
      rw [q] at e
      have ih := compX_pairs (a := a) (b := b) (c := c) ps (acc ++ [pairV n]) (fun p hp => h p (List.mem_cons_of_mem _ hp)) (by rw [List.length_append, List.length_singleton]; omega)
      simp! [nE, e, w3, pairsR, q, lt]
      rw [ih]
      cases pairsR ps with
      | none => rfl
      | some l => simp only [Option.map_some, encT, List.map_cons, List.append_assoc, List.singleton_append]
theorem pairsR_len : ∀ {ws : List (List Nat)} {l : Dic}, pairsR ws = some l → l.length = ws.length
  | [], l, h => by cases h; rfl
  | w :: ws, l, h => by
    rw [pairsR] at h
    cases q : pairR w with
    | none => rw [q] at h; cases h
    | some p =>
      rw [q] at h
      simp only [Option.map_eq_some_iff] at h
      obtain ⟨r, e, rfl⟩ := h
      rw [List.length_cons, List.length_cons, pairsR_len e]
theorem tally_of_any {rm : Val} {n : Nat} (R : RoomV rm n) {ws : List (List Nat)} (h : ∀ w ∈ ws, okTx w) (hl : ws.length ≤ 1000001) : m_tally_of_4 [rm, .lst false (encN ws)] = match tallyR n ws with
    | some l => .ok (.lst true (encT l))
    | none => bt := by
  unfold m_tally_of_4 fnP g_tally_of_4 tallyR
  have e0 := none_any (o := false) h
  by_cases hw : ws = [noneL]
  · rw [decide_eq_true hw] at e0
    rw [if_pos hw]
    simp! [gLstN_ap, sz1, sz0, e0]
    rfl
  · rw [decide_eq_false hw] at e0
    rw [if_neg hw]
    have w3 : ∀ a b c d : Option Val, wipeS [a, b, c, d] [3] = [a, b, c, none] := fun _ _ _ _ => rfl
    have cx := compX_pairs (a := some rm) (b := some (.lst false (encN ws))) (c := none) ws [] h (by simp only [List.length_nil]; omega)
    cases q : pairsR ws with
    | none =>
      rw [q] at cx
      simp! [gLstN_ap, sz1, e0, w3, noOwns_N, mCompX_ap, cx, Option.bind_none]
    | some l =>
      rw [q] at cx
      have ll := pairsR_len q
      have tc := tally_call R (o := true) (l := l) (by omega)
      have cx' : compX [3] [3] gN (mT pYes) (mCallP m_pair_of_4 (psCons (pVar 3) psNil)) (encN ws) [] [some rm, some (.lst false (encN ws)), none, none] = .ok (encT l) [some rm, some (.lst false (encN ws)), none, none] := by
        rw [cx]; simp only [List.nil_append]
      cases qt : isTal n l with
      | true =>
        rw [qt] at tc
        simp! [gLstN_ap, sz1, e0, w3, noOwns_N, mCompX_ap, cx', Option.bind_some, tc, qt]
      | false =>
        rw [qt] at tc
        simp! [gLstN_ap, sz1, e0, w3, noOwns_N, mCompX_ap, cx', Option.bind_some, tc, qt]
/-! ### the law's tallies -/
def tl (n : Nat) : Option Row → Dic → Bool
  | _, [] => true
  | pr, p :: l => isRw n p.1 && (decide (1 ≤ p.2) && ((match pr with
    | none => true
    | some r => !geRow r p.1) && tl n (some p.1) l))
theorem tl_cons (n : Nat) (pr : Option Row) (p : Row × Int) (l : Dic) : tl n pr (p :: l) = (isRw n p.1 && (decide (1 ≤ p.2) && ((match pr with
    | none => true
    | some r => !geRow r p.1) && tl n (some p.1) l))) := by cases pr <;> rfl
def lastR (acc : Dic) : Option Row := acc.getLast?.map Prod.fst
theorem lastR_snoc (acc : Dic) (p : Row × Int) : lastR (acc ++ [p]) = some p.1 := by simp [lastR]
theorem tl_at (n : Nat) : ∀ (l acc : Dic), ((List.range' acc.length l.length).all fun k => !badAt n (acc ++ l) k) = tl n (lastR acc) l
  | [], acc => rfl
  | p :: l, acc => by
    have ih := tl_at n l (acc ++ [p])
    rw [List.length_append, List.length_singleton, List.append_assoc, List.singleton_append, lastR_snoc] at ih
    rw [List.length_cons, List.range'_succ, List.all_cons, ih, tl_cons]
    have a1 : at' (acc ++ p :: l) acc.length = p := by
      unfold at'
      rw [List.getD_eq_getElem?_getD, List.getElem?_append_right (Nat.le_refl _), Nat.sub_self]; rfl
    have b : badAt n (acc ++ p :: l) acc.length = (!isRw n p.1 || (decide (p.2 < 1) || (match lastR acc with
        | none => false
        | some r => geRow r p.1))) := by
      unfold badAt
      rw [a1]
      rcases List.eq_nil_or_concat acc with rfl | ⟨acc, q, rfl⟩
      · simp [lastR]
      · rw [List.concat_eq_append, lastR_snoc]
        have a2 : at' (acc ++ [q] ++ p :: l) ((acc ++ [q]).length - 1) = q := by
          unfold at'
          rw [List.length_append, List.length_singleton, Nat.add_sub_cancel, List.append_assoc, List.getD_eq_getElem?_getD, List.getElem?_append_right (Nat.le_refl _), Nat.sub_self]; rfl
        have hp : 0 < (acc ++ [q]).length := by rw [List.length_append, List.length_singleton]; omega
        rw [a2, decide_eq_true hp, Bool.true_and]
    rw [b]
    have d : decide (p.2 < 1) = !decide (1 ≤ p.2) := by
      by_cases z : p.2 < 1
      · rw [decide_eq_true z, decide_eq_false (by omega)]; rfl
      · rw [decide_eq_false z, decide_eq_true (by omega)]; rfl
    rw [d]
    cases lastR acc with
    | none => cases isRw n p.1 <;> cases decide (1 ≤ p.2) <;> simp
    | some r => cases isRw n p.1 <;> cases decide (1 ≤ p.2) <;> cases geRow r p.1 <;> simp
theorem isTal_tl (n : Nat) (l : Dic) : isTal n l = tl n none l := by
  have := tl_at n l []
  rw [← show lastR [] = none from rfl, ← this]
  unfold isTal
  rw [List.range_eq_range']; rfl
def goT (n : Nat) (acc : Dic) (ws : List (List Nat)) : Option Dic := (pairsR ws).bind fun l => if tl n (lastR acc) l = true then some (acc ++ l) else none
theorem tallyR_go (n : Nat) (ws : List (List Nat)) : tallyR n ws = if ws = [noneL] then some [] else goT n [] ws := by
  unfold tallyR goT
  simp only [isTal_tl, List.nil_append]
  rfl
theorem rowR_in {w : List Nat} {r : Row} (h : rowR w = some r) : r.length ≤ 6 ∧ r.all in09 = true := by
  unfold rowR at h
  split at h
  · cases h; exact ⟨by simp, rfl⟩
  · split at h
    · rename_i q
      cases h
      simp only [Bool.and_eq_true, decide_eq_true_eq] at q
      exact q
    · cases h
end RT

namespace RT
open L2 PyProof.Rows PySem.Spec PySem L2.DL SX
/-! ### the law reads a tally -/
def cnd (n : Nat) (pr : Option Row) (p : Row × Int) : Bool := isRw n p.1 && (decide (1 ≤ p.2) && (match pr with
    | none => true
    | some r => !geRow r p.1))
theorem goT_cons (n : Nat) (acc : Dic) (w : List Nat) (ws : List (List Nat)) : goT n acc (w :: ws) = match pairR w with
    | none => none
    | some p => if cnd n (lastR acc) p = true then goT n (acc ++ [p]) ws else none := by
  unfold goT
  rw [pairsR]
  cases q : pairR w with
  | none => rfl
  | some p =>
    simp only []
    cases q2 : pairsR ws with
    | none => simp
    | some l =>
      simp only [Option.map_some, Option.bind_some, lastR_snoc, tl_cons, List.append_assoc, List.singleton_append]
      unfold cnd
      cases lastR acc with
      | none => cases isRw n p.1 <;> cases decide (1 ≤ p.2) <;> simp
      | some r => cases isRw n p.1 <;> cases decide (1 ≤ p.2) <;> cases geRow r p.1 <;> cases tl n (some p.1) l <;> simp
theorem gAppend_Tl {l : Dic} {r : Row} {c : Int} (h : l.length < 16777216) : gAppend (encT l) [.tup [.tup (encI r), .int c]] = some (.non, encT (l ++ [(r, c)])) := by
  simp only [gAppend]
  rw [if_pos (by rw [encT_len, sizeLine_eq]; exact h)]
  simp only [encT, List.map_append, List.map_cons, List.map_nil, pairV]
theorem lawT_loop {rm : Val} {n : Nat} (R : RoomV rm n) {b : Option Val} : ∀ (ws : List (List Nat)) (acc : Dic) (x y z : Option Val), (∀ w ∈ ws, okTx w) → acc.length + ws.length ≤ 16777215 →
    (match goT n acc ws with
      | some l => ∃ x' y' z', forL [3] gN l1_law_tally_in (encN ws) [some rm, b, some (.lst true (encT acc)), x, y, z] = .nx [some rm, b, some (.lst true (encT l)), x', y', z']
      | none => ∃ ρ, forL [3] gN l1_law_tally_in (encN ws) [some rm, b, some (.lst true (encT acc)), x, y, z] = .ret .non ρ)
  | [], acc, x, y, z, _, _ => by
    simp only [goT, pairsR, Option.bind_some, tl, if_true, List.append_nil]
    exact ⟨x, y, z, rfl⟩
  | w :: ws, acc, x, y, z, h, hl => by
    have hw := h w List.mem_cons_self
    have hs : ∀ w ∈ ws, okTx w := fun w hw => h w (List.mem_cons_of_mem _ hw)
    rw [List.length_cons] at hl
    rw [goT_cons, encN_cons, forL]
    have sp := gSplit_S (c := 61) (by decide) (w := w) hw.1
    rw [← lit_eq] at sp
    rcases cut2 w with ⟨a, c, q⟩ | ⟨q, q2⟩
    · have ha : okTx a := hw.cut 61 a (by rw [q]; exact List.mem_cons_self)
      have hc : okTx c := hw.cut 61 c (by rw [q]; exact List.mem_cons_of_mem _ List.mem_cons_self)
      have e2 : encN [a, c] = [.str (S a), .str (S c)] := rfl
      rw [q, e2] at sp
      have c2 : (!((2 : Nat) : Int) == 2) = false := rfl
      have ra := law_row_call ha
      have fc := figures_call hc
      cases qa : rowR a with
      | none =>
        rw [qa] at ra
        have pr : pairR w = none := by unfold pairR; rw [q]; simp only [qa]
        simp! [l1_law_tally_in, isStr_lit, sp, c2, ra, pr]
        exact ⟨_, rfl⟩
      | some r =>
        rw [qa] at ra
        have ri := rowR_in qa
        by_cases f1 : figI c < 1
        · have pn : (match pairR w with
            | none => none
            | some p => if cnd n (lastR acc) p = true then goT n (acc ++ [p]) ws else none) = none := by
            unfold pairR
            rw [q]
            simp only [qa]
            cases qn : numF c with
            | none => rfl
            | some m =>
              have fm : figI c = m := by unfold figI; rw [qn]; rfl
              have : cnd n (lastR acc) (r, m) = false := by
                unfold cnd
                rw [decide_eq_false (show ¬ 1 ≤ m by omega)]
                cases isRw n r <;> rfl
              simp only [this]
              rfl
          rw [pn]
          simp! [l1_law_tally_in, isStr_lit, sp, c2, ra, fc, f1]
          exact ⟨_, rfl⟩
        · have pr : pairR w = some (r, figI c) := by
            unfold pairR
            rw [q]
            rcases figI_nn (w := c) with z | z
            · omega
            · simp only [qa, z.2]
          rw [pr]
          have rl : oLen [.tup (encI r)] = some (.int r.length) := by rw [oLen_tup, encI_len]
          have ne : oNe (.int r.length) (.int n) = some (.bl (!decide (r.length = n))) := by rw [oNe_int, beq_nat]
          have nn := ne_nil_T true true acc
          have d1 : decide (1 ≤ figI c) = true := decide_eq_true (by omega)
          have ap := gAppend_Tl (l := acc) (r := r) (c := figI c) (by omega)
          by_cases hn : r.length = n
          · rw [decide_eq_true hn] at ne
            have rw1 : isRw n r = true := by unfold isRw; rw [decide_eq_true hn, ri.2]; rfl
            rcases List.eq_nil_or_concat acc with rfl | ⟨acc', p, rfl⟩
            · rw [decide_eq_true rfl] at nn
              have cd : cnd n (lastR []) (r, figI c) = true := by unfold cnd; rw [rw1, d1]; rfl
              have ih := lawT_loop R (b := b) ws [(r, figI c)] (some (.str (S w))) (some (.lst true [.str (S a), .str (S c)])) (some (.tup (encI r))) hs (by simp only [List.length_cons, List.length_nil] at hl ⊢; omega)
              simp only [cd, if_true, List.nil_append]
              have ap' : gAppend (encT []) [.tup [.tup (encI r), .int (figI c)]] = some (.non, encT [(r, figI c)]) := ap
              simp! [-oNe_int, -oLen_tup, l1_law_tally_in, isStr_lit, sp, oNe_int ((2 : Nat) : Int) 2, oLen_lst, c2, ra, fc, f1, rl, R.len, ne, gLstN_ap, sz0, nn, gTupM_ap, sz2, noOwns_I, ap']
              exact ih
            · rw [List.concat_eq_append] at *
              rw [decide_eq_false (by simp)] at nn
              have la : atI (encT (acc' ++ [p])) (-1) = some (.tup [.tup (encI p.1), .int p.2]) := by
                rw [show encT (acc' ++ [p]) = encT acc' ++ [pairV p] by simp [encT]]
                exact atI_last _ _
              have og := oGeR_I p.1 r
              cases qg : geRow p.1 r with
              | true =>
                rw [qg] at og
                have cd : cnd n (lastR (acc' ++ [p])) (r, figI c) = false := by
                  unfold cnd; rw [lastR_snoc, rw1, d1]; simp only [qg]; rfl
                simp only [cd]
                simp! [-oNe_int, -oLen_tup, l1_law_tally_in, isStr_lit, sp, oNe_int ((2 : Nat) : Int) 2, oLen_lst, c2, ra, fc, f1, rl, R.len, ne, gLstN_ap, sz0, nn, la, og]
                exact ⟨_, rfl⟩
              | false =>
                rw [qg] at og
                have cd : cnd n (lastR (acc' ++ [p])) (r, figI c) = true := by
                  unfold cnd; rw [lastR_snoc, rw1, d1]; simp only [qg]; rfl
                have ih := lawT_loop R (b := b) ws (acc' ++ [p] ++ [(r, figI c)]) (some (.str (S w))) (some (.lst true [.str (S a), .str (S c)])) (some (.tup (encI r))) hs (by simp only [List.length_append, List.length_cons, List.length_nil] at hl ⊢; omega)
                simp only [cd, if_true]
                simp! [-oNe_int, -oLen_tup, l1_law_tally_in, isStr_lit, sp, oNe_int ((2 : Nat) : Int) 2, oLen_lst, c2, ra, fc, f1, rl, R.len, ne, gLstN_ap, sz0, nn, la, og, gTupM_ap, sz2, noOwns_I, ap]
                exact ih
          · rw [decide_eq_false hn] at ne
            have cd : cnd n (lastR acc) (r, figI c) = false := by unfold cnd isRw; rw [decide_eq_false hn]; rfl
            simp only [cd]
            simp! [-oNe_int, -oLen_tup, l1_law_tally_in, isStr_lit, sp, oNe_int ((2 : Nat) : Int) 2, oLen_lst, c2, ra, fc, f1, rl, R.len, ne]
            exact ⟨_, rfl⟩
    · have l2 : (!(((cutB 61 w).length : Nat) : Int) == 2) = true := by
        rw [beq_eq_false_iff_ne.mpr (by omega)]; rfl
      simp! [l1_law_tally_in, isStr_lit, sp, encN_len, l2, q2]
      exact ⟨_, rfl⟩
theorem law_tally_any {rm : Val} {n : Nat} (R : RoomV rm n) {ws : List (List Nat)} (h : ∀ w ∈ ws, okTx w) (hl : ws.length ≤ 1000001) : m_law_tally_in [rm, .lst false (encN ws)] = match tallyR n ws with
    | some l => .ok (.lst true (encT l))
    | none => .ok .non := by
  rw [tallyR_go]
  unfold m_law_tally_in fnP g_law_tally_in
  have e0 := none_any (o := false) h
  by_cases hw : ws = [noneL]
  · rw [decide_eq_true hw] at e0
    rw [if_pos hw]
    simp! [gLstN_ap, sz1, sz0, e0]
    rfl
  · rw [decide_eq_false hw] at e0
    rw [if_neg hw]
    have lp := lawT_loop R (b := some (.lst false (encN ws))) ws [] none none none h (by simp only [List.length_nil]; omega)
    have e1 : encT [] = [] := rfl
    rw [e1] at lp
    cases q : goT n [] ws with
    | none =>
      rw [q] at lp
      obtain ⟨ρ, e⟩ := lp
      simp! [gLstN_ap, sz0, sz1, e0, noOwns_N, e]
    | some l =>
      rw [q] at lp
      obtain ⟨x', y', z', e⟩ := lp
      simp! [gLstN_ap, sz0, sz1, e0, noOwns_N, e]
end RT

namespace RT
open L2 PyProof.Rows PySem.Spec PySem L2.DL SX
/-! ### the law reads a line -/
def kindK (w : List Nat) : List Nat := if w = shutL then [110] else if w = papL false then [114, 99] else if w = papL true then [114, 99] else if w = mrkL false then [110, 114, 99] else if w = mrkL true then [110, 114, 99] else []
theorem lit_n : ("n" : Str) = S [110] := by decide +kernel
theorem lit_rc : ("rc" : Str) = S [114, 99] := by decide +kernel
theorem lit_nrc : ("nrc" : Str) = S [110, 114, 99] := by decide +kernel
theorem lit_empty : ("" : Str) = S [] := by decide +kernel
theorem lit_r : ("r" : Str) = S [114] := by decide +kernel
theorem lit_c : ("c" : Str) = S [99] := by decide +kernel
theorem keyS {x : Str} {a w : List Nat} (hx : x = S a) : ((Sum.inr x : Key) = Sum.inr (S w)) = (w = a) := propext ⟨fun h => (S_inj (hx.symm.trans (Sum.inr.inj h))).symm, fun h => by rw [h, hx]⟩
theorem kget (w : List Nat) : (dGet (.dK true (strK ["shut", "enter", "withdraw", "mark", "strike"]) [.str ("n" : Str), .str ("rc" : Str), .str ("rc" : Str), .str ("nrc" : Str), .str ("nrc" : Str)]) (.str (S w))).map (fun o => o.getD (.str ("" : Str))) = some (.str (S (kindK w))) := by
  show (some (lookL [Sum.inr ("shut" : Str), Sum.inr ("enter" : Str), Sum.inr ("withdraw" : Str), Sum.inr ("mark" : Str), Sum.inr ("strike" : Str)] [.str ("n" : Str), .str ("rc" : Str), .str ("rc" : Str), .str ("nrc" : Str), .str ("nrc" : Str)] (Sum.inr (S w) : Key))).map (fun o => o.getD (.str ("" : Str))) = _
  simp only [lookL, keyS lit_shut, keyS lit_enter, keyS lit_withdraw, keyS lit_mark, keyS lit_strike, Option.map_some]
  unfold kindK
  rw [lit_n, lit_rc, lit_nrc, lit_empty]
  by_cases h1 : w = shutL
  · rw [if_pos h1, if_pos h1]; rfl
  rw [if_neg h1, if_neg h1]
  by_cases h2 : w = papL false
  · rw [if_pos h2, if_pos h2]; rfl
  rw [if_neg h2, if_neg h2]
  by_cases h3 : w = papL true
  · rw [if_pos h3, if_pos h3]; rfl
  rw [if_neg h3, if_neg h3]
  by_cases h4 : w = mrkL false
  · rw [if_pos h4, if_pos h4]; rfl
  rw [if_neg h4, if_neg h4]
  by_cases h5 : w = mrkL true
  · rw [if_pos h5, if_pos h5]; rfl
  rw [if_neg h5, if_neg h5]; rfl
def stepK (k : Nat) (w : List Nat) : Option Val := if k = 110 then (if isNm w = true then some (.str (S w)) else none) else if k = 114 then (rowR w).map (fun r => .tup (encI r)) else (numF w).map Val.int
def stepsK : List (Nat × List Nat) → Option (List Val)
  | [] => some []
  | p :: ps => match stepK p.1 p.2 with
    | some v => (stepsK ps).map (v :: ·)
    | none => none
theorem stepK_no {k : Nat} {w : List Nat} {v : Val} (h : stepK k w = some v) : noOwn v = true := by
  unfold stepK at h
  split at h
  · split at h
    · cases h; rfl
    · cases h
  · split at h
    · simp only [Option.map_eq_some_iff] at h
      obtain ⟨r, _, rfl⟩ := h
      simp only [noOwn, noOwns_I]
    · simp only [Option.map_eq_some_iff] at h
      obtain ⟨r, _, rfl⟩ := h
      rfl
theorem stepsK_no : ∀ {ps : List (Nat × List Nat)} {vs : List Val}, stepsK ps = some vs → noOwns vs = true
  | [], vs, h => by cases h; rfl
  | p :: ps, vs, h => by
    rw [stepsK] at h
    cases q : stepK p.1 p.2 with
    | none => rw [q] at h; cases h
    | some v =>
      rw [q] at h
      simp only [Option.map_eq_some_iff] at h
      obtain ⟨r, e, rfl⟩ := h
      simp only [noOwns, stepK_no q, stepsK_no e, Bool.and_self]
theorem dgN {a b c : Val} : oSubs (.dK true (strK ["n", "r", "c"]) [a, b, c]) (.str (S [110])) = some a := by
  show (some (lookL [Sum.inr ("n" : Str), Sum.inr ("r" : Str), Sum.inr ("c" : Str)] [a, b, c] (Sum.inr (S [110]) : Key))).bind id = _
  simp only [lookL, keyS lit_n, keyS lit_r, keyS lit_c]
  simp
theorem dgR {a b c : Val} : oSubs (.dK true (strK ["n", "r", "c"]) [a, b, c]) (.str (S [114])) = some b := by
  show (some (lookL [Sum.inr ("n" : Str), Sum.inr ("r" : Str), Sum.inr ("c" : Str)] [a, b, c] (Sum.inr (S [114]) : Key))).bind id = _
  simp only [lookL, keyS lit_n, keyS lit_r, keyS lit_c]
  simp
theorem dgC {a b c : Val} : oSubs (.dK true (strK ["n", "r", "c"]) [a, b, c]) (.str (S [99])) = some c := by
  show (some (lookL [Sum.inr ("n" : Str), Sum.inr ("r" : Str), Sum.inr ("c" : Str)] [a, b, c] (Sum.inr (S [99]) : Key))).bind id = _
  simp only [lookL, keyS lit_n, keyS lit_r, keyS lit_c]
  simp
theorem eqM_S {w : List Nat} (h : okTx w) : oEq (.str (S w)) (.int (-1)) = some (.bl false) := by
  have d := datV_tx h 0
  have s1 := shaped_dat d (by decide)
  have p1 := d.py
  have p2 : toPy (.int (-1)) = some (.int (-1)) := rfl
  simp only [oEq, eqB, p1, p2, Option.bind_some]
  rw [s1, show SeqAt.shaped (PyData.int (-1)) = true from rfl]
  rfl
theorem eqM_T (r : Row) : oEq (.tup (encI r)) (.int (-1)) = some (.bl false) := by
  have d := datV_row r
  have s1 := shaped_dat d (by decide)
  have p1 := d.py
  have p2 : toPy (.int (-1)) = some (.int (-1)) := rfl
  simp only [oEq, eqB, p1, p2, Option.bind_some]
  rw [s1, show SeqAt.shaped (PyData.int (-1)) = true from rfl]
  rfl
theorem apV {ws : List Val} {w : Val} (hl : ws.length ≤ 100) : gAppend ws [w] = some (.non, ws ++ [w]) := by
  simp only [gAppend]
  rw [if_pos (by rw [sizeLine_eq]; omega)]
theorem lawK_loop {a b c d : Option Val} : ∀ (ps : List (Nat × List Nat)) (acc : List Val) (x y z : Option Val), (∀ p ∈ ps, okTx p.2 ∧ (p.1 = 110 ∨ p.1 = 114 ∨ p.1 = 99)) → acc.length + ps.length ≤ 100 →
    (match stepsK ps with
      | some vs => ∃ x' y' z', forL ([5] ++ ([6] ++ [])) (gTn 2 (gsCons gN (gsCons gN gsNil))) l1_law_read (ps.map fun p => Val.tup [.str (S [p.1]), .str (S p.2)]) [a, b, c, d, some (.lst true acc), x, y, z] = .nx [a, b, c, d, some (.lst true (acc ++ vs)), x', y', z']
      | none => ∃ ρ, forL ([5] ++ ([6] ++ [])) (gTn 2 (gsCons gN (gsCons gN gsNil))) l1_law_read (ps.map fun p => Val.tup [.str (S [p.1]), .str (S p.2)]) [a, b, c, d, some (.lst true acc), x, y, z] = .ret .non ρ)
  | [], acc, x, y, z, _, _ => by
    simp only [stepsK, List.append_nil]
    exact ⟨x, y, z, rfl⟩
  | (k, w) :: ps, acc, x, y, z, h, hl => by
    obtain ⟨hw, hk⟩ := h _ List.mem_cons_self
    replace hw : okTx w := hw
    have hs : ∀ p ∈ ps, okTx p.2 ∧ (p.1 = 110 ∨ p.1 = 114 ∨ p.1 = 99) := fun p hp => h p (List.mem_cons_of_mem _ hp)
    rw [List.length_cons] at hl
    have ih : ∀ v, _ := fun v => lawK_loop (a := a) (b := b) (c := c) (d := d) ps (acc ++ [v]) (some (.str (S [k]))) (some (.str (S w))) (some v) hs (by rw [List.length_append, List.length_singleton]; omega)
    have ap := fun v => apV (ws := acc) (w := v) (by omega)
    rw [List.map_cons, forL, stepsK]
    have ra := law_row_call hw
    have fc := figures_call hw
    have nc := callP_name (s := w) (by have := hw.1; omega)
    have l3 : (3 = 3) = True := eq_true rfl
    have es := eqM_S hw
    have fin : ∀ v vs, acc ++ [v] ++ vs = acc ++ v :: vs := fun v vs => by rw [List.append_assoc, List.singleton_append]
    rcases hk with rfl | rfl | rfl
    · have en : oEq (.str (S [110])) (.str ("n" : Str)) = some (.bl true) := by rw [lit_n]; exact oEq_Tx (okTx_lit _ (by decide)) (okTx_lit _ (by decide))
      cases qn : isNm w with
      | false =>
        rw [qn] at nc
        have sk : stepK 110 w = none := by simp [stepK, qn]
        simp only [sk]
        cases qr : rowR w <;> rw [qr] at ra <;> simp! [l1_law_read, ra, fc, pDsp_ap, noOwns_I, l3, and_self, dgN, es, en, nc] <;> exact ⟨_, rfl⟩
      | true =>
        rw [qn] at nc
        have sk : stepK 110 w = some (.str (S w)) := by simp [stepK, qn]
        simp only [sk]
        have i := ih (.str (S w))
        cases qs : stepsK ps with
        | none =>
          rw [qs] at i
          obtain ⟨ρ, e⟩ := i
          refine ⟨ρ, ?_⟩
          rw [← e]
          cases qr : rowR w <;> rw [qr] at ra <;> simp! [l1_law_read, ra, fc, pDsp_ap, noOwns_I, l3, and_self, dgN, es, en, nc, ap]
        | some vs =>
          rw [qs] at i
          obtain ⟨x', y', z', e⟩ := i
          refine ⟨x', y', z', ?_⟩
          rw [fin] at e
          rw [← e]
          cases qr : rowR w <;> rw [qr] at ra <;> simp! [l1_law_read, ra, fc, pDsp_ap, noOwns_I, l3, and_self, dgN, es, en, nc, ap]
    · have en : oEq (.str (S [114])) (.str ("n" : Str)) = some (.bl false) := by rw [lit_n]; exact oEq_Tx (okTx_lit _ (by decide)) (okTx_lit _ (by decide))
      cases qr : rowR w with
      | none =>
        rw [qr] at ra
        have sk : stepK 114 w = none := by simp [stepK, qr]
        simp only [sk]
        simp! [l1_law_read, ra, fc, pDsp_ap, noOwns_I, l3, and_self, dgR]
        exact ⟨_, rfl⟩
      | some r =>
        rw [qr] at ra
        have sk : stepK 114 w = some (.tup (encI r)) := by simp [stepK, qr]
        simp only [sk]
        have i := ih (.tup (encI r))
        have et := eqM_T r
        cases qs : stepsK ps with
        | none =>
          rw [qs] at i
          obtain ⟨ρ, e⟩ := i
          refine ⟨ρ, ?_⟩
          rw [← e]
          simp! [l1_law_read, ra, fc, pDsp_ap, noOwns_I, l3, and_self, dgR, et, en, ap]
        | some vs =>
          rw [qs] at i
          obtain ⟨x', y', z', e⟩ := i
          refine ⟨x', y', z', ?_⟩
          rw [fin] at e
          rw [← e]
          simp! [l1_law_read, ra, fc, pDsp_ap, noOwns_I, l3, and_self, dgR, et, en, ap]
    · have en : oEq (.str (S [99])) (.str ("n" : Str)) = some (.bl false) := by rw [lit_n]; exact oEq_Tx (okTx_lit _ (by decide)) (okTx_lit _ (by decide))
      rcases figI_nn (w := w) with ⟨z1, z2⟩ | ⟨z1, z2⟩
      · have sk : stepK 99 w = none := by simp [stepK, z2]
        simp only [sk]
        rw [z1] at fc
        have em : oEq (.int (-1)) (.int (-1)) = some (.bl true) := by rw [oEq_int]; rfl
        cases qr : rowR w <;> rw [qr] at ra <;> simp! [-oEq_int, l1_law_read, ra, fc, pDsp_ap, noOwns_I, l3, and_self, dgC, em] <;> exact ⟨_, rfl⟩
      · have sk : stepK 99 w = some (.int (figI w)) := by simp [stepK, z2]
        simp only [sk]
        have em : oEq (.int (figI w)) (.int (-1)) = some (.bl false) := by
          rw [oEq_int, beq_eq_false_iff_ne.mpr (by omega)]
        have i := ih (.int (figI w))
        cases qs : stepsK ps with
        | none =>
          rw [qs] at i
          obtain ⟨ρ, e⟩ := i
          refine ⟨ρ, ?_⟩
          rw [← e]
          cases qr : rowR w <;> rw [qr] at ra <;> simp! [-oEq_int, l1_law_read, ra, fc, pDsp_ap, noOwns_I, l3, and_self, dgC, em, en, ap]
        | some vs =>
          rw [qs] at i
          obtain ⟨x', y', z', e⟩ := i
          refine ⟨x', y', z', ?_⟩
          rw [fin] at e
          rw [← e]
          cases qr : rowR w <;> rw [qr] at ra <;> simp! [-oEq_int, l1_law_read, ra, fc, pDsp_ap, noOwns_I, l3, and_self, dgC, em, en, ap]
end RT

namespace RT
open L2 PyProof.Rows PySem.Spec PySem L2.DL SX
theorem kindK_is (w : List Nat) : kindK w = [] ∨ kindK w = [110] ∨ kindK w = [114, 99] ∨ kindK w = [110, 114, 99] := by
  unfold kindK
  repeat' split
  all_goals simp
theorem zipK {o : Bool} : ∀ (ks : List Nat) (ws : List (List Nat)), zipL (DL.signs (S ks)) (encN ws) = (ks.zip ws).map fun p => Val.tup [.str (S [p.1]), .str (S p.2)] := fun ks ws => by
  rw [signs_S]
  unfold zipL encN
  rw [List.zip_map, List.map_map]
  rfl
theorem cutN {ws : List (List Nat)} {n : Nat} (h : n ≤ ws.length) : oSl (.lst true (encN ws)) (some (n : Int)) none = some (.lst true (encN (ws.drop n))) := by
  show (if noOwns _ = true then some (Val.lst true (cutW _ (some (n : Int)) none)) else none) = _
  rw [if_pos (noOwns_N ws)]
  congr 2
  unfold encN
  rw [cutW_map, HT.sIx_nat, HT.sIx_none, Nat.min_eq_left h, List.take_of_length_le (by rw [List.length_drop]; exact Nat.le_refl _)]
theorem law_rest {w w0 : List Nat} {rest : List (List Nat)} (h : okTx w) (hc : cutB 32 w = w0 :: rest) (hs : ¬ (w0 = startL ∧ 3 ≤ rest.length)) :
    m_law_read [.str (S w)] = if kindK w0 = [] ∨ rest.length ≠ (kindK w0).length then .ok .non else match stepsK ((kindK w0).zip rest) with
      | some vs => .ok (.tup (.str (S w0) :: vs))
      | none => .ok .non := by
  have sp := gSplit_S (c := 32) (by decide) (w := w) h.1
  rw [hc, ← lit_sp, encN_cons] at sp
  have h0 : okTx w0 := h.cut 32 w0 (by rw [hc]; exact List.mem_cons_self)
  have hr : ∀ s ∈ rest, okTx s := fun s hs => h.cut 32 s (by rw [hc]; exact List.mem_cons_of_mem _ hs)
  have q1 := oNe_word lit_start h0 (by decide)
  have kg := kget w0
  have kl : (kindK w0).length ≤ 3 := by rcases kindK_is w0 with e | e | e | e <;> rw [e] <;> simp
  have ko : okTx (kindK w0) := by rcases kindK_is w0 with e | e | e | e <;> rw [e] <;> exact okTx_lit _ (by decide)
  have k0 : oEq (.str (S (kindK w0))) (.str ("" : Str)) = some (.bl (decide (kindK w0 = []))) := by rw [lit_empty]; exact oEq_Tx ko (okTx_lit _ (by decide))
  have kn : oLen [.str (S (kindK w0))] = some (.int (kindK w0).length) := str_len (by omega)
  have l5 : (5 = 5) = True := eq_true rfl
  have sl : oSl (.lst true (.str (S w0) :: encN rest)) (some 1) none = some (.lst true (encN rest)) := cutN (ws := w0 :: rest) (n := 1) (by simp)
  have ne : oNe (.int ((rest.length + 1 : Nat) : Int)) (.int (((kindK w0).length : Nat) + 1)) = some (.bl (!decide (rest.length = (kindK w0).length))) := by
    rw [oNe_int]
    by_cases z : rest.length = (kindK w0).length
    · rw [decide_eq_true z, z, beq_iff_eq.mpr (by omega)]
    · rw [decide_eq_false z, beq_eq_false_iff_ne.mpr (by omega)]
  unfold m_law_read fnP g_law_read
  have first : (pAnd (pTest (pOp2 oEq (pOp2 oSubs (pVar 1) (pC (.int 0))) (pC (.str "start")))) (pTest (pOp2 oGt (pOpS oLen (psCons (pVar 1) psNil)) (pC (.int 3))))) [some (.str (S w)), some (.lst true (.str (S w0) :: encN rest)), none, none, none, none, none, none] = some false := by
    by_cases s1 : w0 = startL
    · have l3 : ¬ (3 : Int) < ((rest.length + 1 : Nat) : Int) := by
        have : ¬ 3 ≤ rest.length := fun z => hs ⟨s1, z⟩
        omega
      rw [decide_eq_true s1] at q1
      simp! [q1, encN_len, l3]
    · rw [decide_eq_false s1] at q1
      simp! [q1]
  by_cases e0 : kindK w0 = []
  · rw [decide_eq_true e0] at k0
    rw [if_pos (.inl e0)]
    simp! [-pAnd_ap, isStr_lit, sp, first, pDsp_ap, l5, and_self, kg, k0]
  · rw [decide_eq_false e0] at k0
    by_cases e1 : rest.length = (kindK w0).length
    · rw [decide_eq_true e1] at ne
      rw [if_neg (fun z => z.elim e0 fun y => y e1)]
      have az : ascB (S (kindK w0)) = true := by rcases kindK_is w0 with e | e | e | e <;> rw [e] <;> simp [ascB, S]
      have zo : zipOfS [.str (S (kindK w0)), .lst false (encN rest)] = some (.non, ((kindK w0).zip rest).map fun p => Val.tup [.str (S [p.1]), .str (S p.2)]) := by
        simp only [zipOfS, az, noOwns_N, Bool.and_self, if_true, zipK (o := true)]
      have pk : ∀ p ∈ (kindK w0).zip rest, okTx p.2 ∧ (p.1 = 110 ∨ p.1 = 114 ∨ p.1 = 99) := fun p hp => by
        obtain ⟨m1, m2⟩ := List.of_mem_zip (show (p.1, p.2) ∈ _ from hp)
        refine ⟨hr _ m2, ?_⟩
        rcases kindK_is w0 with e | e | e | e <;> rw [e] at m1 <;> simp at m1 <;> omega
      have lp := lawK_loop (a := some (.str (S w))) (b := some (.lst true (.str (S w0) :: encN rest))) (c := none) (d := some (.str (S (kindK w0)))) ((kindK w0).zip rest) [.str (S w0)] none none none pk (by rw [List.length_zip]; simp only [List.length_cons, List.length_nil]; omega)
      cases qs : stepsK ((kindK w0).zip rest) with
      | none =>
        rw [qs] at lp
        obtain ⟨ρ, e⟩ := lp
        simp! [-pAnd_ap, -oNe_int, isStr_lit, sp, first, pDsp_ap, l5, and_self, kg, k0, kn, encN_len, ne, gLstN_ap, sz1, sl, mZipS_ap, noObjs_N, frzs_N, zo] at e ⊢
        simp! [e]
      | some vs =>
        rw [qs] at lp
        obtain ⟨x', y', z', e⟩ := lp
        have ot : oTuple [.lst true (.str (S w0) :: vs)] = some (.tup (.str (S w0) :: vs)) := by
          have : noOwns (.str (S w0) :: vs) = true := by simp only [noOwns, noOwn, stepsK_no qs, Bool.and_self]
          simp only [oTuple, this, if_true]
        simp! [-pAnd_ap, -oNe_int, isStr_lit, sp, first, pDsp_ap, l5, and_self, kg, k0, kn, encN_len, ne, gLstN_ap, sz1, sl, mZipS_ap, noObjs_N, frzs_N, zo] at e ⊢
        simp! [e, ot]
    · rw [decide_eq_false e1] at ne
      rw [if_pos (.inr e1)]
      simp! [-pAnd_ap, -oNe_int, isStr_lit, sp, first, pDsp_ap, l5, and_self, kg, k0, kn, encN_len, ne]
end RT

namespace RT
open L2 PyProof.Rows PySem.Spec PySem L2.DL SX
/-! ### a line of any kind: what the program reads and what the law reads -/
def okRd : Deed → Prop
  | .start nm rm t => isNm nm = true ∧ okTx nm ∧ (∀ s ∈ rm, okTx s) ∧ (rm = [] ∨ isRm rm = true)
  | .shut nm => isNm nm = true ∧ okTx nm
  | .pap _ r c => r.length ≤ 6 ∧ r.all in09 = true ∧ 0 ≤ c
  | .mrk _ nm r c => isNm nm = true ∧ okTx nm ∧ r.length ≤ 6 ∧ r.all in09 = true ∧ 0 ≤ c
def tellP : Option Deed → R0
  | some d => .ok (deedV (rmV (dRoom d)) true d)
  | none => bt
def tellL : Option Deed → R0
  | some d => .ok (deedV (rmV (dRoom d)) true d)
  | none => .ok .non
theorem read_no {w w0 : List Nat} {rest : List (List Nat)} (h : okTx w) (hc : cutB 32 w = w0 :: rest) (h1 : ¬ (w0 = startL ∧ 3 ≤ rest.length)) (h2 : ¬ (w0 = shutL ∧ rest.length = 1))
    (h3 : ¬ ((w0 = papL false ∨ w0 = papL true) ∧ rest.length = 2)) (h4 : ¬ ((w0 = mrkL false ∨ w0 = mrkL true) ∧ rest.length = 3)) : m_read_deed_5 [.str (S w)] = bt ∧ m_law_read [.str (S w)] = .ok .non := by
  have sp := gSplit_S (c := 32) (by decide) (w := w) h.1
  rw [hc, ← lit_sp, encN_cons] at sp
  have h0 : okTx w0 := h.cut 32 w0 (by rw [hc]; exact List.mem_cons_self)
  constructor
  · have q1 := oNe_word lit_start h0 (by decide)
    have q2 := oNe_word lit_shut h0 (by decide)
    have q3 := oNe_word lit_enter h0 (by decide)
    have q4 := oNe_word lit_withdraw h0 (by decide)
    have q5 := oNe_word lit_mark h0 (by decide)
    have q6 := oNe_word lit_strike h0 (by decide)
    have n2 : ∀ m : Nat, rest.length ≠ m → ((((rest.length + 1 : Nat) : Int) == ((m + 1 : Nat) : Int)) = false) := fun m hm => beq_eq_false_iff_ne.mpr (by omega)
    have A : (pAnd (pTest (pOp2 oEq (pVar 2) (pC (.str "start")))) (pTest (pOp2 oGe (pVar 3) (pC (.int 4))))) [some (.str (S w)), some (.lst true (.str (S w0) :: encN rest)), some (.str (S w0)), some (.int ((rest.length + 1 : Nat) : Int)), none] = some false := by
      by_cases s1 : w0 = startL
      · have l3 : ¬ (4 : Int) ≤ ((rest.length + 1 : Nat) : Int) := by
          have : ¬ 3 ≤ rest.length := fun z => h1 ⟨s1, z⟩
          omega
        rw [decide_eq_true s1] at q1
        simp! [q1, l3]
      · rw [decide_eq_false s1] at q1
        simp! [q1]
    have B : (pAnd (pTest (pOp2 oEq (pVar 2) (pC (.str "shut")))) (pTest (pOp2 oEq (pVar 3) (pC (.int 2))))) [some (.str (S w)), some (.lst true (.str (S w0) :: encN rest)), some (.str (S w0)), some (.int ((rest.length + 1 : Nat) : Int)), none] = some false := by
      by_cases s1 : w0 = shutL
      · have l3 : ((((rest.length + 1 : Nat) : Int) == 2) = false) := n2 1 fun z => h2 ⟨s1, z⟩
        rw [decide_eq_true s1] at q2
        simp! [q2, l3]
      · rw [decide_eq_false s1] at q2
        simp! [q2]
    have C : (pAnd (pOr (pTest (pOp2 oEq (pVar 2) (pC (.str "enter")))) (pTest (pOp2 oEq (pVar 2) (pC (.str "withdraw"))))) (pTest (pOp2 oEq (pVar 3) (pC (.int 3))))) [some (.str (S w)), some (.lst true (.str (S w0) :: encN rest)), some (.str (S w0)), some (.int ((rest.length + 1 : Nat) : Int)), none] = some false := by
      by_cases s1 : w0 = papL false
      · have l3 : ((((rest.length + 1 : Nat) : Int) == 3) = false) := n2 2 fun z => h3 ⟨.inl s1, z⟩
        rw [decide_eq_true s1] at q3
        simp! [q3, l3]
      · rw [decide_eq_false s1] at q3
        by_cases s2 : w0 = papL true
        · have l3 : ((((rest.length + 1 : Nat) : Int) == 3) = false) := n2 2 fun z => h3 ⟨.inr s2, z⟩
          rw [decide_eq_true s2] at q4
          simp! [q3, q4, l3]
        · rw [decide_eq_false s2] at q4
          simp! [q3, q4]
    have D : (pAnd (pOr (pTest (pOp2 oEq (pVar 2) (pC (.str "mark")))) (pTest (pOp2 oEq (pVar 2) (pC (.str "strike"))))) (pTest (pOp2 oEq (pVar 3) (pC (.int 4))))) [some (.str (S w)), some (.lst true (.str (S w0) :: encN rest)), some (.str (S w0)), some (.int ((rest.length + 1 : Nat) : Int)), none] = some false := by
      by_cases s1 : w0 = mrkL false
      · have l3 : ((((rest.length + 1 : Nat) : Int) == 4) = false) := n2 3 fun z => h4 ⟨.inl s1, z⟩
        rw [decide_eq_true s1] at q5
        simp! [q5, l3]
      · rw [decide_eq_false s1] at q5
        by_cases s2 : w0 = mrkL true
        · have l3 : ((((rest.length + 1 : Nat) : Int) == 4) = false) := n2 3 fun z => h4 ⟨.inr s2, z⟩
          rw [decide_eq_true s2] at q6
          simp! [q5, q6, l3]
        · rw [decide_eq_false s2] at q6
          simp! [q5, q6]
    unfold m_read_deed_5 fnP g_read_deed_5
    simp! [-pAnd_ap, isStr_lit, sp, encN_len, A, B, C, D]
  · rw [law_rest h hc h1]
    refine if_pos ?_
    by_cases e1 : w0 = shutL
    · have : kindK w0 = [110] := by rw [e1]; rfl
      rw [this]; exact .inr fun z => h2 ⟨e1, z⟩
    by_cases e2 : w0 = papL false
    · have : kindK w0 = [114, 99] := by rw [e2]; rfl
      rw [this]; exact .inr fun z => h3 ⟨.inl e2, z⟩
    by_cases e3 : w0 = papL true
    · have : kindK w0 = [114, 99] := by rw [e3]; rfl
      rw [this]; exact .inr fun z => h3 ⟨.inr e3, z⟩
    by_cases e4 : w0 = mrkL false
    · have : kindK w0 = [110, 114, 99] := by rw [e4]; rfl
      rw [this]; exact .inr fun z => h4 ⟨.inl e4, z⟩
    by_cases e5 : w0 = mrkL true
    · have : kindK w0 = [110, 114, 99] := by rw [e5]; rfl
      rw [this]; exact .inr fun z => h4 ⟨.inr e5, z⟩
    refine .inl ?_
    unfold kindK
    rw [if_neg e1, if_neg e2, if_neg e3, if_neg e4, if_neg e5]
theorem read_shut {w nm : List Nat} (h : okTx w) (hc : cutB 32 w = [shutL, nm]) : ∃ o, (∀ d, o = some d → okRd d) ∧ m_read_deed_5 [.str (S w)] = tellP o ∧ m_law_read [.str (S w)] = tellL o := by
  have hn : okTx nm := h.cut 32 nm (by rw [hc]; simp)
  have lr := law_rest h hc (fun z => by have := z.2; simp at this)
  have k : kindK shutL = [110] := rfl
  rw [k, if_neg (by simp)] at lr
  have sp := gSplit_S (c := 32) (by decide) (w := w) h.1
  rw [hc, ← lit_sp, show encN [shutL, nm] = [.str (S shutL), .str (S nm)] from rfl] at sp
  have s1 : okTx shutL := okTx_lit _ (by decide)
  have q1 := oNe_word lit_start s1 (by decide)
  have q2 := oNe_word lit_shut s1 (by decide)
  rw [show decide (shutL = startL) = false from by decide] at q1
  rw [decide_eq_true rfl] at q2
  have no := name_of_spec hn
  have c2 : (((2 : Nat) : Int) == 2) = true := rfl
  cases qn : isNm nm with
  | false =>
    rw [qn] at no
    refine ⟨none, fun d e => (by cases e), ?_, ?_⟩
    · unfold m_read_deed_5 fnP g_read_deed_5
      simp! [isStr_lit, sp, q1, q2, c2, no, plS1, tellP]
    · rw [lr]
      simp [stepsK, stepK, qn, tellL]
  | true =>
    rw [qn] at no
    refine ⟨some (.shut nm), fun d e => (by cases e; exact ⟨qn, hn⟩), ?_, ?_⟩
    · unfold m_read_deed_5 fnP g_read_deed_5
      simp! [isStr_lit, sp, q1, q2, c2, no, gTupM_ap, sz2, tellP, deedV]
      rw [lit_shut]
    · rw [lr]
      simp [stepsK, stepK, qn, tellL, deedV]
theorem read_pap {w r c : List Nat} {k : Bool} (h : okTx w) (hc : cutB 32 w = [papL k, r, c]) : ∃ o, (∀ d, o = some d → okRd d) ∧ m_read_deed_5 [.str (S w)] = tellP o ∧ m_law_read [.str (S w)] = tellL o := by
  have hr : okTx r := h.cut 32 r (by rw [hc]; simp)
  have hcc : okTx c := h.cut 32 c (by rw [hc]; simp)
  have lr := law_rest h hc (fun z => by have := z.2; simp at this)
  have kk : kindK (papL k) = [114, 99] := by cases k <;> rfl
  rw [kk, if_neg (by simp)] at lr
  have sp := gSplit_S (c := 32) (by decide) (w := w) h.1
  rw [hc, ← lit_sp, show encN [papL k, r, c] = [.str (S (papL k)), .str (S r), .str (S c)] from rfl] at sp
  have s1 : okTx (papL k) := by cases k <;> exact okTx_lit _ (by decide)
  have q1 := oNe_word lit_start s1 (by decide)
  have q2 := oNe_word lit_shut s1 (by decide)
  have q3 := oNe_word lit_enter s1 (by decide)
  have q4 := oNe_word lit_withdraw s1 (by decide)
  rw [show decide (papL k = startL) = false from by cases k <;> decide] at q1
  rw [show decide (papL k = shutL) = false from by cases k <;> decide] at q2
  have ro := row_of_any hr
  have nsp := number_spec hcc
  have c3 : (((3 : Nat) : Int) == 3) = true := rfl
  have q34 : (oEq (.str (S (papL k))) (.str ("enter" : Str)) = some (.bl true)) ∨ (oEq (.str (S (papL k))) (.str ("enter" : Str)) = some (.bl false) ∧ oEq (.str (S (papL k))) (.str ("withdraw" : Str)) = some (.bl true)) := by
    cases k with
    | true =>
      rw [show decide (papL true = papL false) = false from by decide] at q3
      rw [decide_eq_true rfl] at q4
      exact .inr ⟨q3, q4⟩
    | false =>
      rw [decide_eq_true rfl] at q3
      exact .inl q3
  cases qr : rowR r with
  | none =>
    rw [qr] at ro
    refine ⟨none, fun d e => (by cases e), ?_, ?_⟩
    · unfold m_read_deed_5 fnP g_read_deed_5
      rcases q34 with q3 | ⟨q3, q4⟩
      · simp! [isStr_lit, sp, q1, q2, q3, c3, ro, plS1, tellP]
      · simp! [isStr_lit, sp, q1, q2, q3, q4, c3, ro, plS1, tellP]
    · rw [lr]
      simp [stepsK, stepK, qr, tellL]
  | some rr =>
    rw [qr] at ro
    cases qc : numF c with
    | none =>
      rw [qc] at nsp
      refine ⟨none, fun d e => (by cases e), ?_, ?_⟩
      · unfold m_read_deed_5 fnP g_read_deed_5
        rcases q34 with q3 | ⟨q3, q4⟩
        · simp! [isStr_lit, sp, q1, q2, q3, c3, ro, nsp, noOwns_I, plS1, tellP]
        · simp! [isStr_lit, sp, q1, q2, q3, q4, c3, ro, nsp, noOwns_I, plS1, tellP]
      · rw [lr]
        simp [stepsK, stepK, qr, qc, tellL]
    | some n =>
      rw [qc] at nsp
      refine ⟨some (.pap k rr n), fun d e => (by cases e; exact ⟨(rowR_in qr).1, (rowR_in qr).2, numF_nn qc⟩), ?_, ?_⟩
      · unfold m_read_deed_5 fnP g_read_deed_5
        rcases q34 with q3 | ⟨q3, q4⟩
        · simp! [isStr_lit, sp, q1, q2, q3, c3, ro, nsp, gTupM_ap, sz3, noOwns_I, tellP, deedV]
        · simp! [isStr_lit, sp, q1, q2, q3, q4, c3, ro, nsp, gTupM_ap, sz3, noOwns_I, tellP, deedV]
      · rw [lr]
        simp [stepsK, stepK, qr, qc, tellL, deedV]
theorem read_mrk {w nm r c : List Nat} {k : Bool} (h : okTx w) (hc : cutB 32 w = [mrkL k, nm, r, c]) : ∃ o, (∀ d, o = some d → okRd d) ∧ m_read_deed_5 [.str (S w)] = tellP o ∧ m_law_read [.str (S w)] = tellL o := by
  have hn : okTx nm := h.cut 32 nm (by rw [hc]; simp)
  have hr : okTx r := h.cut 32 r (by rw [hc]; simp)
  have hcc : okTx c := h.cut 32 c (by rw [hc]; simp)
  have lr := law_rest h hc (fun z => by have := z.1; cases k <;> revert this <;> decide)
  have kk : kindK (mrkL k) = [110, 114, 99] := by cases k <;> rfl
  rw [kk, if_neg (by simp)] at lr
  have sp := gSplit_S (c := 32) (by decide) (w := w) h.1
  rw [hc, ← lit_sp, show encN [mrkL k, nm, r, c] = [.str (S (mrkL k)), .str (S nm), .str (S r), .str (S c)] from rfl] at sp
  have s1 : okTx (mrkL k) := by cases k <;> exact okTx_lit _ (by decide)
  have q1 := oNe_word lit_start s1 (by decide)
  have q2 := oNe_word lit_shut s1 (by decide)
  have q3 := oNe_word lit_enter s1 (by decide)
  have q4 := oNe_word lit_withdraw s1 (by decide)
  have q5 := oNe_word lit_mark s1 (by decide)
  have q6 := oNe_word lit_strike s1 (by decide)
  rw [show decide (mrkL k = startL) = false from by cases k <;> decide] at q1
  rw [show decide (mrkL k = shutL) = false from by cases k <;> decide] at q2
  rw [show decide (mrkL k = papL false) = false from by cases k <;> decide] at q3
  rw [show decide (mrkL k = papL true) = false from by cases k <;> decide] at q4
  have no := name_of_spec hn
  have ro := row_of_any hr
  have nsp := number_spec hcc
  have c4 : (((4 : Nat) : Int) == 4) = true := rfl
  have q56 : (oEq (.str (S (mrkL k))) (.str ("mark" : Str)) = some (.bl true)) ∨ (oEq (.str (S (mrkL k))) (.str ("mark" : Str)) = some (.bl false) ∧ oEq (.str (S (mrkL k))) (.str ("strike" : Str)) = some (.bl true)) := by
    cases k with
    | true =>
      rw [show decide (mrkL true = mrkL false) = false from by decide] at q5
      rw [decide_eq_true rfl] at q6
      exact .inr ⟨q5, q6⟩
    | false =>
      rw [decide_eq_true rfl] at q5
      exact .inl q5
  cases qn : isNm nm with
  | false =>
    rw [qn] at no
    refine ⟨none, fun d e => (by cases e), ?_, ?_⟩
    · unfold m_read_deed_5 fnP g_read_deed_5
      rcases q56 with q5 | ⟨q5, q6⟩
      · simp! [isStr_lit, sp, q1, q2, q3, q4, q5, c4, no, plS1, tellP]
      · simp! [isStr_lit, sp, q1, q2, q3, q4, q5, q6, c4, no, plS1, tellP]
    · rw [lr]
      simp [stepsK, stepK, qn, tellL]
  | true =>
  rw [qn] at no
  cases qr : rowR r with
  | none =>
    rw [qr] at ro
    refine ⟨none, fun d e => (by cases e), ?_, ?_⟩
    · unfold m_read_deed_5 fnP g_read_deed_5
      rcases q56 with q5 | ⟨q5, q6⟩
      · simp! [isStr_lit, sp, q1, q2, q3, q4, q5, c4, no, ro, plS1, tellP]
      · simp! [isStr_lit, sp, q1, q2, q3, q4, q5, q6, c4, no, ro, plS1, tellP]
    · rw [lr]
      simp [stepsK, stepK, qn, qr, tellL]
  | some rr =>
    rw [qr] at ro
    cases qc : numF c with
    | none =>
      rw [qc] at nsp
      refine ⟨none, fun d e => (by cases e), ?_, ?_⟩
      · unfold m_read_deed_5 fnP g_read_deed_5
        rcases q56 with q5 | ⟨q5, q6⟩
        · simp! [isStr_lit, sp, q1, q2, q3, q4, q5, c4, no, ro, nsp, noOwns_I, plS1, tellP]
        · simp! [isStr_lit, sp, q1, q2, q3, q4, q5, q6, c4, no, ro, nsp, noOwns_I, plS1, tellP]
      · rw [lr]
        simp [stepsK, stepK, qn, qr, qc, tellL]
    | some n =>
      rw [qc] at nsp
      refine ⟨some (.mrk k nm rr n), fun d e => (by cases e; exact ⟨qn, hn, (rowR_in qr).1, (rowR_in qr).2, numF_nn qc⟩), ?_, ?_⟩
      · unfold m_read_deed_5 fnP g_read_deed_5
        rcases q56 with q5 | ⟨q5, q6⟩
        · simp! [isStr_lit, sp, q1, q2, q3, q4, q5, c4, no, ro, nsp, gTupM_ap, sz4, noOwns_I, tellP, deedV]
        · simp! [isStr_lit, sp, q1, q2, q3, q4, q5, q6, c4, no, ro, nsp, gTupM_ap, sz4, noOwns_I, tellP, deedV]
      · rw [lr]
        simp [stepsK, stepK, qn, qr, qc, tellL, deedV]
end RT

namespace RT
open L2 PyProof.Rows PySem.Spec PySem L2.DL SX
theorem read_start {w nm rm : List Nat} {ts : List (List Nat)} (h : okTx w) (hc : cutB 32 w = startL :: nm :: rm :: ts) (ht : 1 ≤ ts.length) : ∃ o, (∀ d, o = some d → okRd d) ∧ m_read_deed_5 [.str (S w)] = tellP o ∧ m_law_read [.str (S w)] = tellL o := by
  have hn : okTx nm := h.cut 32 nm (by rw [hc]; simp)
  have hr : okTx rm := h.cut 32 rm (by rw [hc]; simp)
  have hts : ∀ s ∈ ts, okTx s := fun s hs => h.cut 32 s (by rw [hc]; simp [hs])
  have tl1 : ts.length ≤ 1000001 := by
    have := cut_len 32 w
    rw [hc] at this
    simp only [List.length_cons] at this
    have := h.1
    omega
  have sp := gSplit_S (c := 32) (by decide) (w := w) h.1
  have ee : encN (startL :: nm :: rm :: ts) = .str (S startL) :: .str (S nm) :: .str (S rm) :: encN ts := rfl
  rw [hc, ← lit_sp, ee] at sp
  have s1 : okTx startL := okTx_lit _ (by decide)
  have q1 := oNe_word lit_start s1 (by decide)
  rw [decide_eq_true rfl] at q1
  have l4 : (4 : Int) ≤ ((ts.length + 1 + 1 + 1 : Nat) : Int) := by omega
  have l3 : (3 : Int) < ((ts.length + 1 + 1 + 1 : Nat) : Int) := by omega
  have sl : oSl (.lst true (.str (S startL) :: .str (S nm) :: .str (S rm) :: encN ts)) (some 3) none = some (.lst true (encN ts)) := cutN (ws := startL :: nm :: rm :: ts) (n := 3) (by simp)
  have no := name_of_spec hn
  have nc := callP_name (s := nm) (by have := hn.1; omega)
  obtain ⟨rp, rl⟩ := room_any hr
  cases qr : roomR rm with
  | none =>
    rw [qr] at rp rl
    refine ⟨none, fun d e => (by cases e), ?_, ?_⟩
    · unfold m_read_deed_5 fnP g_read_deed_5
      simp! [isStr_lit, sp, encN_len, q1, l4, rp, plS1, tellP]
    · unfold m_law_read fnP g_law_read
      simp! [isStr_lit, sp, encN_len, q1, l3, callP, rl, tellL]
  | some ss =>
    rw [qr] at rp rl
    have R := roomV_rm ss
    have rn : oIsN (rmV ss) .non = some (.bl false) := by unfold rmV; split <;> rfl
    have rs : noSh (rmV ss) = true := by unfold rmV; split <;> simp [noSh, noShs, noShs_N]
    have cr : callP m_law_room_in [.str (S rm)] = some (rmV ss) := by simp! [callP, rl]
    cases qn : isNm nm with
    | false =>
      rw [qn] at no nc
      refine ⟨none, fun d e => (by cases e), ?_, ?_⟩
      · unfold m_read_deed_5 fnP g_read_deed_5
        simp! [isStr_lit, sp, encN_len, q1, l4, rp, no, plS1, tellP]
      · unfold m_law_read fnP g_law_read
        simp! [-oIsN_ap, isStr_lit, sp, encN_len, q1, l3, cr, rn, nc, tellL]
    | true =>
      rw [qn] at no nc
      have to := tally_of_any R hts tl1
      have tt := law_tally_any R hts tl1
      cases qt : tallyR ss.length ts with
      | none =>
        rw [qt] at to tt
        refine ⟨none, fun d e => (by cases e), ?_, ?_⟩
        · unfold m_read_deed_5 fnP g_read_deed_5
          simp! [isStr_lit, sp, encN_len, q1, l4, rp, no, R.own, R.obj, R.fr, sl, noObjs_N, frzs_N, noOwns_N, to, plS1, tellP]
        · have ct : callP m_law_tally_in [rmV ss, .lst true (encN ts)] = some .non := by simp! [callP, noObjs, R.obj, noObj, noObjs_N, frzs, R.fr, frz, frzs_N, tt]
          unfold m_law_read fnP g_law_read
          simp! [-oIsN_ap, isStr_lit, sp, encN_len, q1, l3, cr, rn, nc, sl, ct, show oIsN .non .non = some (.bl true) from rfl, tellL]
      | some l =>
        rw [qt] at to tt
        have nt : noShs (encT l) = true := noShs_T l
        refine ⟨some (.start nm ss l), fun d e => (by cases e; exact ⟨qn, hn, roomR_tx hr qr⟩), ?_, ?_⟩
        · unfold m_read_deed_5 fnP g_read_deed_5
          simp! [isStr_lit, sp, encN_len, q1, l4, rp, no, R.own, R.obj, R.fr, sl, noObjs_N, frzs_N, noOwns_N, to, nt, gTupM_ap, sz4, tellP, deedV, dRoom]
          rw [lit_start]
        · have ct : callP m_law_tally_in [rmV ss, .lst true (encN ts)] = some (.lst true (encT l)) := by simp! [callP, noObjs, R.obj, noObj, noObjs_N, frzs, R.fr, frz, frzs_N, tt, nt]
          unfold m_law_read fnP g_law_read
          simp! [-oIsN_ap, isStr_lit, sp, encN_len, q1, l3, cr, rn, nc, sl, ct, show oIsN (.lst true (encT l)) .non = some (.bl false) from rfl, R.own, gTupM_ap, sz4, tellL, deedV, dRoom]
          rw [lit_start]
theorem read_any {w : List Nat} (h : okTx w) : ∃ o, (∀ d, o = some d → okRd d) ∧ m_read_deed_5 [.str (S w)] = tellP o ∧ m_law_read [.str (S w)] = tellL o := by
  cases hc : cutB 32 w with
  | nil => exact absurd hc (cutB_ne _ _)
  | cons w0 rest =>
    by_cases h1 : w0 = startL ∧ 3 ≤ rest.length
    · obtain ⟨rfl, hl⟩ := h1
      match rest, hl with
      | nm :: rm :: ts, hl => exact read_start h hc (by simp only [List.length_cons] at hl; omega)
    by_cases h2 : w0 = shutL ∧ rest.length = 1
    · obtain ⟨rfl, hl⟩ := h2
      match rest, hl with
      | [nm], hl => exact read_shut h hc
    by_cases h3 : (w0 = papL false ∨ w0 = papL true) ∧ rest.length = 2
    · obtain ⟨hk, hl⟩ := h3
      match rest, hl with
      | [r, c], hl =>
        rcases hk with rfl | rfl
        · exact read_pap h hc
        · exact read_pap h hc
    by_cases h4 : (w0 = mrkL false ∨ w0 = mrkL true) ∧ rest.length = 3
    · obtain ⟨hk, hl⟩ := h4
      match rest, hl with
      | [nm, r, c], hl =>
        rcases hk with rfl | rfl
        · exact read_mrk h hc
        · exact read_mrk h hc
    obtain ⟨a, b⟩ := read_no h hc h1 h2 h3 h4
    exact ⟨none, fun d e => (by cases e), a, b⟩
end RT

namespace RT
open L2 PyProof.Rows PySem.Spec PySem L2.DL SX
/-! ### lines spoilt: sizes -/
def wt (qs : List (List Nat)) : Nat := (qs.map fun q => q.length + 1).sum
theorem wt_cons (q : List Nat) (qs : List (List Nat)) : wt (q :: qs) = q.length + 1 + wt qs := by unfold wt; rw [List.map_cons, List.sum_cons]
theorem wt_nil : wt [] = 0 := rfl
theorem wt_app : ∀ (a b : List (List Nat)), wt (a ++ b) = wt a + wt b
  | [], b => by rw [List.nil_append, wt_nil, Nat.zero_add]
  | q :: a, b => by rw [List.cons_append, wt_cons, wt_cons, wt_app a b]; omega
theorem wt_mem : ∀ {qs : List (List Nat)} {q : List Nat}, q ∈ qs → q.length + 1 ≤ wt qs
  | p :: qs, q, h => by
    rw [wt_cons]
    rcases List.mem_cons.mp h with rfl | h
    · omega
    · have := wt_mem h; omega
theorem wt_erase : ∀ (qs : List (List Nat)) (i : Nat), wt (qs.eraseIdx i) ≤ wt qs
  | [], i => by simp [wt_nil]
  | p :: qs, 0 => by rw [List.eraseIdx_cons_zero, wt_cons]; omega
  | p :: qs, i + 1 => by rw [List.eraseIdx_cons_succ, wt_cons, wt_cons]; have := wt_erase qs i; omega
theorem wt_set : ∀ (qs : List (List Nat)) (i : Nat) (q : List Nat), wt (qs.set i q) ≤ wt qs + q.length + 1
  | [], i, q => by simp [wt_nil]
  | p :: qs, 0, q => by rw [List.set_cons_zero, wt_cons, wt_cons]; omega
  | p :: qs, i + 1, q => by rw [List.set_cons_succ, wt_cons, wt_cons]; have := wt_set qs i q; omega
theorem wt_td (qs : List (List Nat)) (i : Nat) : wt (qs.take i) + wt (qs.drop i) = wt qs := by rw [← wt_app, List.take_append_drop]
theorem wt_cut (c : Nat) : ∀ w, wt (cutB c w) = w.length + 1
  | [] => rfl
  | x :: w => by
    have ih := wt_cut c w
    rw [cutB]
    split
    · rw [wt_cons, ih, List.length_cons, List.length_nil]; omega
    · cases q : cutB c w with
      | nil => exact absurd q (cutB_ne _ _)
      | cons p ps =>
        rw [q, wt_cons] at ih
        rw [wt_cons, List.length_cons, List.length_cons]; omega
theorem wt_len : ∀ qs : List (List Nat), qs.length ≤ wt qs
  | [] => Nat.le_refl _
  | q :: qs => by rw [wt_cons, List.length_cons]; have := wt_len qs; omega
theorem joinL_wt (s : Nat) : ∀ qs : List (List Nat), (TL.joinL [s] qs).length ≤ wt qs
  | [] => Nat.zero_le _
  | [q] => by rw [wt_cons]; show q.length ≤ _; omega
  | q :: r :: qs => by
    have := joinL_wt s (r :: qs)
    rw [wt_cons]
    show (q ++ ([s] ++ TL.joinL [s] (r :: qs))).length ≤ _
    simp only [List.length_append, List.length_cons, List.length_nil]
    omega
theorem gJoin_wt {o : Bool} {qs : List (List Nat)} (h : wt qs ≤ 16777216) : gJoin (.str (" " : Str)) [.lst o (encN qs)] = some (.str (S (TL.joinL [32] qs))) := by
  have e : ((qs.map S).map (·.length)).sum + (qs.map S).length * (" " : Str).length = wt qs := by
    rw [show (" " : Str).length = 1 by decide +kernel]
    clear h
    induction qs with
    | nil => rfl
    | cons q qs ih =>
      rw [wt_cons, ← ih]
      simp only [List.map_cons, List.sum_cons, List.length_cons, S_len]
      omega
  rw [encN_strs]
  simp only [gJoin, strsOf_strs, Option.bind_some]
  rw [e, if_pos h, lit_sp, join_S]
theorem S_of (x : Str) : x = S x.cps.toList := by cases x; simp [S]
/-! ### replace -/
theorem sub_in (x : Str) (i j : Nat) : (Builtin.Str.strSub x i j).cps.toList.length ≤ x.cps.toList.length ∧ ∀ c ∈ (Builtin.Str.strSub x i j).cps.toList, c ∈ x.cps.toList := by
  unfold Builtin.Str.strSub
  simp only [Array.toList_extract]
  refine ⟨?_, fun c hc => ?_⟩
  · rw [List.extract_eq_drop_take, List.length_take, List.length_drop]; omega
  · rw [List.extract_eq_drop_take] at hc
    exact List.mem_of_mem_drop (List.mem_of_mem_take hc)
theorem rep1_S (a : List Nat) : ∃ b, rep1 (S a) ("=" : Str) ("=0" : Str) = S b ∧ b.length ≤ 2 * a.length + 2 ∧ ∀ c ∈ b, c ∈ a ∨ c < 1114112 := by
  unfold rep1
  split
  · exact ⟨a, rfl, by omega, fun c hc => .inl hc⟩
  · rename_i hn
    have ol := StrLaws.occ_length_le (S a) ("=" : Str) 0 (S a).length 1
    cases q : Builtin.Str.occurrences (S a) ("=" : Str) 0 (S a).length 1 with
    | nil => rw [q] at hn; exact absurd rfl hn
    | cons p l =>
      rw [q] at ol
      have : l = [] := by
        cases l with
        | nil => rfl
        | cons _ _ => simp only [List.length_cons] at ol; omega
      subst this
      have e : (S a).cps.toList = a := rfl
      obtain ⟨s1, m1⟩ := sub_in (S a) 0 p
      obtain ⟨s2, m2⟩ := sub_in (S a) (p + ("=" : Str).length) (S a).length
      rw [e] at s1 m1 s2 m2
      have ez : ("=0" : Str).cps.toList = [61, 48] := by decide +kernel
      refine ⟨(Builtin.Str.strSub (S a) 0 p).cps.toList ++ [61, 48] ++ (Builtin.Str.strSub (S a) (p + ("=" : Str).length) (S a).length).cps.toList, ?_, ?_, fun c hc => ?_⟩
      · rw [← ez]
        show (⟨(Builtin.Str.strSub (S a) 0 p).cps ++ ("=0" : Str).cps ++ (Builtin.Str.strSub (S a) (p + ("=" : Str).length) (S a).length).cps⟩ : Str) = _
        simp [S]
      · simp only [List.length_append, List.length_cons, List.length_nil]; omega
      · rcases List.mem_append.mp hc with hc | hc
        · rcases List.mem_append.mp hc with hc | hc
          · exact .inl (m1 c hc)
          · simp only [List.mem_cons, List.not_mem_nil, or_false] at hc
            exact .inr (by omega)
        · exact .inl (m2 c hc)
end RT

namespace RT
open L2 PyProof.Rows PySem.Spec PySem L2.DL SX
/-! ### lines spoilt -/
theorem sg_len : sgC.length = 54 := by decide +kernel
theorem sg_lt : sgC.cps.toList.all (fun c => decide (c < 1114112)) = true := by decide +kernel
theorem sg_at {i : Int} (h0 : 0 ≤ i) (h1 : i < 54) : ∃ c, c < 1114112 ∧ oIx (.str sgC) (.int i) = some (.str (S [c])) := by
  have hl : sgC.cps.toList.length = 54 := sg_len
  obtain ⟨c, hc, e⟩ := atI_lt (xs := sgC.cps.toList) h0 (by rw [hl]; exact h1)
  have := List.all_eq_true.mp sg_lt c hc
  refine ⟨c, by simpa using this, ?_⟩
  show (if sgC.length ≤ sizeLine then (atI sgC.cps.toList i).map fun c => Val.str ⟨#[c]⟩ else none) = _
  rw [if_pos (by rw [sg_len, sizeLine_eq]; decide), e]
  rfl
theorem signed_spec {nums : List Int} {at_ left salt : Int} {w : List Nat} (h0 : 0 ≤ at_) (h : okTx w) : ∃ (at' left' : Int) (w' : List Nat), 0 ≤ at' ∧ (∀ c ∈ w', c < 1114112) ∧ w'.length ≤ w.length + 1 ∧ m_law_signed_2 [bagV nums at_ left salt, .str (S w)] = .ok (.str (S w')) [some (bagV nums at' left' salt), some (.str (S w))] := by
  have hw := h.1
  obtain ⟨at1, left1, r1, h1, hr10, hr11, e1⟩ := pull_spec (nums := nums) (left := left) (salt := salt) (many := (w.length : Int) + 1) h0 (by omega) (by omega)
  obtain ⟨at2, left2, r2, h2, hr20, hr21, e2⟩ := pull_spec (nums := nums) (left := left1) (salt := salt) (many := 54) h1 (by decide) (by decide)
  obtain ⟨at3, left3, way, h3, hw0, hw1, e3⟩ := pull_spec (nums := nums) (left := left2) (salt := salt) (many := 3) h2 (by decide) (by decide)
  obtain ⟨c, hc, ec⟩ := sg_at hr20 hr21
  have l1 : oLen [.str (S w)] = some (.int w.length) := str_len (by omega)
  have l2 : oLen [.str sgC] = some (.int 54) := by
    have := oLen_str (s := sgC) (by rw [sg_len, sizeLine_eq]; decide)
    rw [sg_len] at this
    exact this
  have t1 := str_to (a := w) (i := r1) (by omega) hr10
  have f1 := str_from (a := w) (i := r1) (by omega) hr10
  have f2 := str_from (a := w) (i := r1 + 1) (by omega) (by omega)
  have lt1 : (w.take r1.toNat).length ≤ w.length := by rw [List.length_take]; omega
  have ld1 : (w.take r1.toNat).length + (w.drop r1.toNat).length = w.length := by rw [List.length_take, List.length_drop]; omega
  have ld2 : (w.drop (r1 + 1).toNat).length ≤ (w.drop r1.toNat).length := by rw [List.length_drop, List.length_drop]; omega
  have a1 := str_add (a := w.take r1.toNat) (b := [c]) (by rw [List.length_singleton]; omega)
  have a2 := str_add (a := w.take r1.toNat ++ [c]) (b := w.drop r1.toNat) (by rw [List.length_append, List.length_singleton]; omega)
  have a3 := str_add (a := w.take r1.toNat ++ [c]) (b := w.drop (r1 + 1).toNat) (by rw [List.length_append, List.length_singleton]; omega)
  have a4 := str_add (a := w.take r1.toNat) (b := w.drop (r1 + 1).toNat) (by omega)
  have ch : ∀ x ∈ w, x < 1114112 := h.2
  have mt : ∀ x ∈ w.take r1.toNat, x < 1114112 := fun x hx => ch x (List.mem_of_mem_take hx)
  have md : ∀ k, ∀ x ∈ w.drop k, x < 1114112 := fun k x hx => ch x (List.mem_of_mem_drop hx)
  have ma : ∀ {a b : List Nat}, (∀ x ∈ a, x < 1114112) → (∀ x ∈ b, x < 1114112) → ∀ x ∈ a ++ b, x < 1114112 := fun ha hb x hx => (List.mem_append.mp hx).elim (ha x) (hb x)
  have mc : ∀ x ∈ [c], x < 1114112 := fun x hx => by rw [List.mem_singleton.mp hx]; exact hc
  unfold m_law_signed_2 fnIO g_law_signed_2
  rcases (show way = 0 ∨ way = 1 ∨ way = 2 by omega) with rfl | rfl | rfl
  · refine ⟨at3, left3, w.take r1.toNat ++ [c] ++ w.drop r1.toNat, h3, ma (ma mt mc) (md _), by simp only [List.length_append, List.length_singleton]; omega, ?_⟩
    simp! [l1, l2, e1, e2, e3, ec, t1, f1, a1, a2]
  · refine ⟨at3, left3, w.take r1.toNat ++ [c] ++ w.drop (r1 + 1).toNat, h3, ma (ma mt mc) (md _), by simp only [List.length_append, List.length_singleton]; omega, ?_⟩
    simp! [l1, l2, e1, e2, e3, ec, t1, f2, a1, a3]
  · refine ⟨at3, left3, w.take r1.toNat ++ w.drop (r1 + 1).toNat, h3, ma mt (md _), by simp only [List.length_append]; omega, ?_⟩
    simp! [l1, l2, e1, e2, e3, ec, t1, f2, a4]
/-- what a spoilt line's words are, behind the spoiling -/
def goodW (n : Nat) (qs : List (List Nat)) : Prop := (∀ q ∈ qs, ∀ c ∈ q, c < 1114112) ∧ wt qs ≤ n
theorem goodW.tell {n : Nat} {qs : List (List Nat)} (h : goodW n qs) (hn : n ≤ 16777216) : gJoin (.str (" " : Str)) [.lst true (encN qs)] = some (.str (S (TL.joinL [32] qs))) ∧ (∀ c ∈ TL.joinL [32] qs, c < 1114112) ∧ (TL.joinL [32] qs).length ≤ n := by
  have := h.2
  refine ⟨gJoin_wt (by omega), fun c hc => ?_, Nat.le_trans (joinL_wt 32 qs) this⟩
  rcases joinL_mem hc with e | ⟨p, hp, hx⟩
  · omega
  · exact h.1 p hp c hx
theorem spoilt_spec {nums : List Int} {at_ left salt : Int} {w : List Nat} (h0 : 0 ≤ at_) (h : okTx w) (hw : w.length ≤ 300000) : ∃ (at' left' : Int) (w' : List Nat), 0 ≤ at' ∧ (∀ c ∈ w', c < 1114112) ∧ w'.length ≤ 4 * w.length + 40 ∧ m_law_spoilt_line [bagV nums at_ left salt, .str (S w)] = .ok (.str (S w')) [some (bagV nums at' left' salt), some (.str (S w))] := by
  have sp := gSplit_S (c := 32) (by decide) (w := w) h.1
  rw [← lit_sp] at sp
  have wc := wt_cut 32 w
  have ch : ∀ q ∈ cutB 32 w, ∀ c ∈ q, c < 1114112 := fun q hq c hc => h.2 c ((cut_sub 32 w q hq).2 c hc)
  have pl := wt_len (cutB 32 w)
  have p1 : 1 ≤ (cutB 32 w).length := List.length_pos_iff.mpr (cutB_ne 32 w)
  generalize hp : cutB 32 w = ps at *
  obtain ⟨at1, left1, r1, h1, hr10, hr11, e1⟩ := pull_spec (nums := nums) (left := left) (salt := salt) (many := (ps.length : Int)) h0 (by omega) (by omega)
  obtain ⟨at2, left2, way, h2, hw0, hw1, e2⟩ := pull_spec (nums := nums) (left := left1) (salt := salt) (many := 8) h1 (by decide) (by decide)
  obtain ⟨k, rfl⟩ := Int.eq_ofNat_of_zero_le hr10
  have hk : k < ps.length := by omega
  have km : ps[k] ∈ ps := List.getElem_mem hk
  have kw := wt_mem km
  have ll : oLen [.lst true (encN ps)] = some (.int ps.length) := by rw [oLen_lst, encN_len]
  unfold m_law_spoilt_line fnIO g_law_spoilt_line
  by_cases w3 : way < 3
  · obtain ⟨at3, left3, w', h3, c3, l3, e3⟩ := signed_spec (nums := nums) (left := left2) (salt := salt) h2 h
    refine ⟨at3, left3, w', h3, c3, by omega, ?_⟩
    simp! [isStr_lit, sp, encN_len, e1, e2, w3, e3]
  rcases (show way = 3 ∨ way = 4 ∨ way = 5 ∨ way = 6 ∨ way = 7 by omega) with rfl | rfl | rfl | rfl | rfl
  · have g : goodW (2 * (w.length + 1)) (ps.eraseIdx k) := ⟨fun q hq => ch q (List.mem_of_mem_eraseIdx hq), by have := wt_erase ps k; omega⟩
    obtain ⟨g1, g2, g3⟩ := g.tell (by omega)
    have gp := gPop_N hk (by omega)
    refine ⟨at2, left2, _, h2, g2, by omega, ?_⟩
    simp! [isStr_lit, sp, encN_len, e1, e2, gp, sIfRep_ap, g1]
  · have g : goodW (2 * (w.length + 1)) (ps.take k ++ [ps[k]] ++ ps.drop k) := by
      refine ⟨fun q hq => ?_, ?_⟩
      · rcases List.mem_append.mp hq with hq | hq
        · rcases List.mem_append.mp hq with hq | hq
          · exact ch q (List.mem_of_mem_take hq)
          · rw [List.mem_singleton.mp hq]; exact ch _ km
        · exact ch q (List.mem_of_mem_drop hq)
      · rw [wt_app, wt_app, wt_cons, wt_nil]
        have := wt_td ps k
        omega
    obtain ⟨g1, g2, g3⟩ := g.tell (by omega)
    have gi := gInsert_N (ss := ps) (i := (k : Int)) (s := ps[k]) (by omega) (by omega) (by omega)
    have ak := atI_N hk
    refine ⟨at2, left2, _, h2, g2, by omega, ?_⟩
    rw [Int.toNat_natCast] at gi
    simp! [isStr_lit, sp, encN_len, e1, e2, ak, gi, sIfRep_ap, g1]
  · have g : goodW (2 * (w.length + 1)) (ps.eraseIdx k ++ [ps[k]]) := by
      refine ⟨fun q hq => ?_, ?_⟩
      · rcases List.mem_append.mp hq with hq | hq
        · exact ch q (List.mem_of_mem_eraseIdx hq)
        · rw [List.mem_singleton.mp hq]; exact ch _ km
      · rw [wt_app, wt_cons, wt_nil]
        have := wt_erase ps k
        omega
    obtain ⟨g1, g2, g3⟩ := g.tell (by omega)
    have gp := gPop_N hk (by omega)
    have ga : gAppend (encN (ps.eraseIdx k)) [.str (S ps[k])] = some (.non, encN (ps.eraseIdx k ++ [ps[k]])) := by
      have le := List.length_eraseIdx_le ps k
      simp only [gAppend]
      rw [if_pos (by rw [encN_len, sizeLine_eq]; omega), encN_app]; rfl
    refine ⟨at2, left2, _, h2, g2, by omega, ?_⟩
    simp! [isStr_lit, sp, encN_len, e1, e2, gp, ga, sIfRep_ap, g1]
  · obtain ⟨at3, left3, r3, h3, hr30, hr31, e3⟩ := pull_spec (nums := nums) (left := left2) (salt := salt) (many := 13) h2 (by decide) (by decide)
    have rp : oMulS (.str ("1" : Str)) (.int 14) = some (.str (S [49, 49, 49, 49, 49, 49, 49, 49, 49, 49, 49, 49, 49, 49])) := by
      show (if ("1" : Str).length ≠ 0 ∧ (2 : Int) ≤ 14 ∧ (14 : Int) ≤ 1000 ∧ ("1" : Str).length ≤ 1000 ∧ (repS ("1" : Str) 14).length ≤ 16777216 then some (Val.str (repS ("1" : Str) 14)) else none) = _
      rw [if_pos (by decide +kernel), show repS ("1" : Str) 14 = S [49, 49, 49, 49, 49, 49, 49, 49, 49, 49, 49, 49, 49, 49] by decide +kernel]
    obtain ⟨s, hs1, hs2, es⟩ : ∃ s : List Nat, s.length ≤ 14 ∧ (∀ c ∈ s, c < 1114112) ∧ atI [Val.str ("none" : Str), .str ("-" : Str), .str ("0" : Str), .str ("00" : Str), .str (S [49, 49, 49, 49, 49, 49, 49, 49, 49, 49, 49, 49, 49, 49]), .str ("0.0=1" : Str), .str ("a" : Str), .str ("a+b" : Str), .str ("b+a" : Str), .str ("start" : Str), .str ("1.1.1.1.1.1.1" : Str), .str ("" : Str), .str ("=" : Str)] r3 = some (.str (S s)) := by
      obtain ⟨x, hx, ex⟩ := atI_lt (xs := [Val.str ("none" : Str), .str ("-" : Str), .str ("0" : Str), .str ("00" : Str), .str (S [49, 49, 49, 49, 49, 49, 49, 49, 49, 49, 49, 49, 49, 49]), .str ("0.0=1" : Str), .str ("a" : Str), .str ("a+b" : Str), .str ("b+a" : Str), .str ("start" : Str), .str ("1.1.1.1.1.1.1" : Str), .str ("" : Str), .str ("=" : Str)]) hr30 hr31
      have all : ∀ y ∈ [Val.str ("none" : Str), .str ("-" : Str), .str ("0" : Str), .str ("00" : Str), .str (S [49, 49, 49, 49, 49, 49, 49, 49, 49, 49, 49, 49, 49, 49]), .str ("0.0=1" : Str), .str ("a" : Str), .str ("a+b" : Str), .str ("b+a" : Str), .str ("start" : Str), .str ("1.1.1.1.1.1.1" : Str), .str ("" : Str), .str ("=" : Str)], ∃ s : List Nat, y = .str (S s) ∧ s.length ≤ 14 ∧ ∀ c ∈ s, c < 1114112 := by
        have one : ∀ z : Str, (decide (z.cps.toList.length ≤ 14) && z.cps.toList.all fun c => decide (c < 1114112)) = true → ∃ s : List Nat, Val.str z = .str (S s) ∧ s.length ≤ 14 ∧ ∀ c ∈ s, c < 1114112 := fun z hz => by
          simp only [Bool.and_eq_true, decide_eq_true_eq, List.all_eq_true] at hz
          exact ⟨z.cps.toList, by rw [← S_of], hz.1, hz.2⟩
        intro y hy
        simp only [List.mem_cons, List.not_mem_nil, or_false] at hy
        rcases hy with rfl | rfl | rfl | rfl | rfl | rfl | rfl | rfl | rfl | rfl | rfl | rfl | rfl <;> exact one _ (by decide +kernel)
      obtain ⟨s, rfl, a, b⟩ := all x hx
      exact ⟨s, a, b, ex⟩
    have g : goodW (2 * (w.length + 1) + 20) (ps.set k s) := by
      refine ⟨fun q hq => ?_, ?_⟩
      · rcases List.mem_or_eq_of_mem_set hq with hq | rfl
        · exact ch q hq
        · exact hs2
      · have := wt_set ps k s
        omega
    obtain ⟨g1, g2, g3⟩ := g.tell (by omega)
    have pw := putW_N (s := s) hk
    refine ⟨at3, left3, _, h3, g2, by omega, ?_⟩
    have sz13 : (13 ≤ sizeLine) = True := eq_true (by decide)
    simp! [isStr_lit, sp, encN_len, e1, e2, rp, gLstN_ap, sz13, e3, es, pw, sIfRep_ap, g1]
  · obtain ⟨b, eb, bl, bm⟩ := rep1_S ps[k]
    have g : goodW (4 * (w.length + 1) + 20) (ps.set k b) := by
      refine ⟨fun q hq => ?_, ?_⟩
      · rcases List.mem_or_eq_of_mem_set hq with hq | rfl
        · exact ch q hq
        · exact fun c hc => (bm c hc).elim (fun z => ch _ km c z) id
      · have := wt_set ps k b
        omega
    obtain ⟨g1, g2, g3⟩ := g.tell (by omega)
    have ix := ixN_nat hk
    have ak := atI_N hk
    have c2 : ("=0" : Str).length = 2 := by decide +kernel
    have cd : (S ps[k]).length + ((S ps[k]).length + 1) * ("=0" : Str).length ≤ 16777216 ∧ (rep1 (S ps[k]) ("=" : Str) ("=0" : Str)).length ≤ 16777216 := by
      rw [eb, c2, S_len, S_len]
      omega
    have st : (encN ps).set k (.str (S b)) = encN (ps.set k b) := by unfold encN; rw [List.map_set]
    have i7 : (7 = (7 : Int)) = True := eq_true rfl
    refine ⟨at2, left2, _, h2, g2, by omega, ?_⟩
    have rl : repL ("=" : Str) ("=0" : Str) 2 3 [some (bagV nums at2 left2 salt), some (.str (S w)), some (.lst true (encN ps)), some (.int (k : Int)), some (.int 7), none] = .nx [some (bagV nums at2 left2 salt), some (.str (S w)), some (.lst true (encN (ps.set k b))), some (.int (k : Int)), some (.int 7), none] := by
      unfold repL
      simp! [encN_len, ix, ak]
      rw [if_pos cd, eb, st]
    simp! [isStr_lit, sp, encN_len, e1, e2, sIfRep_ap, rl, g1]
end RT

namespace RT
open L2 PyProof.Rows PySem.Spec PySem L2.DL SX
/-! ### what the law is told -/
def tellT : Option Deed → Val
  | some d => deedV (rmV (dRoom d)) true d
  | none => .int 0
theorem rmV_fr (ss : List (List Nat)) : frz (rmV ss) = rmV ss := (roomV_rm ss).fr
theorem dV_ob (d : Deed) (o : Bool) : noObj (deedV (rmV (dRoom d)) o d) = true := by
  have h := (roomV_rm (dRoom d)).obj
  cases d <;> simp only [deedV, noObj, noObjs, noObjs_T, noObjs_I, h, Bool.and_self]
theorem dV_fr (d : Deed) (o : Bool) : frz (deedV (rmV (dRoom d)) o d) = deedV (rmV (dRoom d)) false d := by
  have h := (roomV_rm (dRoom d)).fr
  cases d <;> simp only [deedV, frz, frzs, frzs_T, frzs_I, h]
theorem dV_sh (d : Deed) : noSh (deedV (rmV (dRoom d)) true d) = true := by
  have h : noSh (rmV (dRoom d)) = true := by unfold rmV; split <;> simp [noSh, noShs, noShs_N]
  cases d <;> simp only [deedV, noSh, noShs, noShs_T, noShs_I, h, Bool.and_self]
theorem told_any {w : List Nat} {o : Option Deed} (e : m_read_deed_5 [.str (S w)] = tellP o) : m_law_told_5 [.str (S w)] = .ok (tellT o) := by
  unfold m_law_told_5 fnP g_law_told_5
  have x0 : excT [("BadText", true)] "BadText" = some true := rfl
  cases o with
  | none =>
    simp only [tellP] at e
    have c : ((("BadText" : Str) = "BadText") ∧ (("at" : Str) = "at") ∧ 2 < 3) = True := eq_true ⟨rfl, rfl, by decide⟩
    simp! [e, plS1, sTryMix, hdMix, x0, tellT, true_and, and_true, Nat.reduceLT, and_self]
  | some d =>
    simp only [tellP] at e
    simp! [e, sTryMix, tellT]
theorem okRd.dat {d : Deed} (h : okRd d) : ∃ p, ∀ o, DatV (deedV (rmV (dRoom d)) o d) p 5 := by
  cases d with
  | start nm rm t =>
    have hr : DatV (rmV rm) (.tuple (rm.map fun s => .str (S s))) 1 := by
      unfold rmV
      split
      · rename_i e
        subst e
        exact ⟨rfl, rfl, by simp [PyData.depth, PyData.depthAll], rfl⟩
      · exact datV_room fun s hs => (h.2.2.1 s hs).2
    exact ⟨_, fun o' => ((DatVs.cons (datV_tx (okTx_lit startL (by decide)) 3) (.cons (datV_tx h.2.1 3) (.cons (hr.mono (by decide)) (.cons (datV_tal o' t) .nil)))).tup).mono (by decide)⟩
  | shut nm => exact ⟨_, fun o' => ((DatVs.cons (datV_tx (okTx_lit shutL (by decide)) 0) (.cons (datV_tx h.2 0) .nil)).tup).mono (by decide)⟩
  | pap k r c => exact ⟨_, fun o' => ((DatVs.cons (datV_tx (s := papL k) (by cases k <;> exact okTx_lit _ (by decide)) 1) (.cons (datV_row r) (.cons (datV_int c 1) .nil))).tup).mono (by decide)⟩
  | mrk k nm r c => exact ⟨_, fun o' => ((DatVs.cons (datV_tx (s := mrkL k) (by cases k <;> exact okTx_lit _ (by decide)) 1) (.cons (datV_tx h.2.1 1) (.cons (datV_row r) (.cons (datV_int c 1) .nil)))).tup).mono (by decide)⟩
/-- a walk over a range, by an invariant that counts -/
theorem To.forR39 {i : Nat} {g : G} {nx : Slots → Prop} {rt : Val → Slots → Prop} {n : Nat} (I : Nat → Slots → Prop) (hend : ∀ ρ, I n ρ → nx ρ) (step : ∀ k (v : Int) ρ, k < n → I k ρ → To (g (ρ.set i (some (.int v)))) (I (k + 1)) rt) :
    ∀ (ws : List Val) (k : Nat) (ρ : Slots), (∀ w ∈ ws, ∃ v : Int, w = .int v) → k + ws.length = n → I k ρ → To (L2.DL.forL [i] gN g ws ρ) nx rt
  | [], k, ρ, _, hk, h => by
    have : k = n := by simpa using hk
    subst this
    exact hend ρ h
  | w :: ws, k, ρ, hw, hk, h => by
    obtain ⟨v, rfl⟩ := hw w List.mem_cons_self
    have s := step k v ρ (by rw [List.length_cons] at hk; omega) h
    have go : forL [i] gN g (Val.int v :: ws) ρ = (match g (ρ.set i (some (.int v))) with
      | .nx ρ' => forL [i] gN g ws ρ' | .ct ρ' => forL [i] gN g ws ρ' | .brk ρ' => .nx ρ' | .ret w ρ' => .ret w ρ' | .err x p ρ' => .err x p ρ' | .bad => .bad) := rfl
    rw [go]
    cases q : g (ρ.set i (some (.int v))) with
    | nx ρ1 =>
      rw [q] at s
      exact To.forR39 I hend step ws (k + 1) ρ1 (fun z hz => hw z (List.mem_cons_of_mem _ hz)) (by rw [List.length_cons] at hk; omega) s
    | ret w1 ρ1 => rw [q] at s; exact s
    | brk ρ1 => rw [q] at s; exact s.elim
    | ct ρ1 => rw [q] at s; exact s.elim
    | err c p ρ1 => rw [q] at s; exact s.elim
    | bad => rw [q] at s; exact s.elim
def B39 : Nat → Nat
  | 0 => 20000
  | n + 1 => 4 * B39 n + 40
def I39 (K : PySem.W.Frag) (ns nums : List Int) (salt : Int) (n : Nat) (ρ : Slots) : Prop := ∃ (at' left' : Int) (w : List Nat) (x3 : Option Val), 0 ≤ at' ∧ (∀ c ∈ w, c < 1114112) ∧ w.length ≤ B39 n ∧
  ρ = [some (.scr K ns), some (bagV nums at' left' salt), some (.str (S w)), x3, none, none]
theorem turn39 {K : PySem.W.Frag} {ns nums : List Int} {salt : Int} {n : Nat} (hn : n ≤ 1) {ρ : Slots} {rt : Val → Slots → Prop} (v : Val) (I : I39 K ns nums salt n ρ) : To (l1_law_80 K (ρ.set 3 (some v))) (I39 K ns nums salt (n + 1)) rt := by
  obtain ⟨at', left', w, x3, h0, hc, hl, rfl⟩ := I
  have b : B39 n ≤ 80040 := by rcases (show n = 0 ∨ n = 1 by omega) with rfl | rfl <;> decide
  obtain ⟨at2, left2, w2, h2, c2, l2, e2⟩ := spoilt_spec (nums := nums) (left := left') (salt := salt) h0 (⟨by omega, hc⟩ : okTx w) (by omega)
  have e0 : ([some (.scr K ns), some (bagV nums at' left' salt), some (.str (S w)), x3, none, none] : Slots).set 3 (some v) = [some (.scr K ns), some (bagV nums at' left' salt), some (.str (S w)), some v, none, none] := rfl
  rw [e0]
  unfold l1_law_80
  exact To.nxt (by simp! [e2] <;> rfl) ⟨at2, left2, w2, _, h2, c2, by show w2.length ≤ 4 * B39 n + 40; omega, rfl⟩
theorem law_true (K : PySem.W.Frag) (ns : List Int) (_ : ns.length ≤ 63) : m_law_80 K [.scr K ns] = .ok (.bl true) := by
  obtain ⟨nums, salt, cb⟩ := bag_call K ns
  obtain ⟨at1, left1, d, h1, hd, e1⟩ := any_deed_spec (nums := nums) (at_ := 0) (left := 0) (salt := salt) (by decide)
  have rm : Rm (dRoom d) ∧ (dRoom d).length ≤ 6 := by
    cases d with
    | start nm rm t => exact ⟨hd.2.1, hd.2.2.1⟩
    | shut nm => exact ⟨⟨List.nodup_nil, List.Pairwise.nil, fun _ h => by cases h⟩, Nat.zero_le _⟩
    | pap k r c => exact ⟨⟨List.nodup_nil, List.Pairwise.nil, fun _ h => by cases h⟩, Nat.zero_le _⟩
    | mrk k nm r c => exact ⟨⟨List.nodup_nil, List.Pairwise.nil, fun _ h => by cases h⟩, Nat.zero_le _⟩
  have ld := law_deed_text_spec hd (rv := .tpz (encN (dRoom d))) (by rw [law_room_text_call rm.1.nm (by omega), roomS_W])
  have nv : ∀ rv : Val, noObj rv = true → ∀ o, noObj (deedV rv o d) = true := fun rv h o => by
    cases d <;> simp only [deedV, noObj, noObjs, noObjs_T, noObjs_I, h, Bool.and_self]
  have fv : ∀ rv : Val, frz rv = rv → ∀ o, frz (deedV rv o d) = deedV rv false d := fun rv h o => by
    cases d <;> simp only [deedV, frz, frzs, frzs_T, frzs_I, h]
  have z1 : noObj (.tpz (encN (dRoom d))) = true := (roomV_tpz _).obj
  have z2 : frz (.tpz (encN (dRoom d))) = .tpz (encN (dRoom d)) := (roomV_tpz _).fr
  have lk := line_ok hd
  have ll := line_len hd
  unfold m_law_80
  refine To.fnP ?_
  unfold g_law_80
  refine To.seq (m := fun ρ => ρ = [some (.scr K ns), some (bagV nums 0 0 salt), none, none, none, none]) (To.nxt (by simp! [cb]) rfl) ?_
  rintro _ rfl
  refine To.seq (m := fun ρ => ρ = [some (.scr K ns), some (bagV nums at1 left1 salt), some (.str (S (lineL d))), none, none, none]) (To.nxt (by simp! [e1, nv _ z1, fv _ z2, ld] <;> rfl) rfl) ?_
  rintro _ rfl
  obtain ⟨at2, left2, r2, h2, p0, p1, e2⟩ := pull_spec (nums := nums) (left := left1) (salt := salt) (many := 4) h1 (by decide) (by decide)
  have ix : ∃ m : Nat, (m = 0 ∨ m = 1 ∨ m = 2) ∧ atI [Val.int 1, .int 0, .int 2, .int 1] r2 = some (.int (m : Nat)) := by
    obtain ⟨w, hw, ew⟩ := atI_lt (xs := [Val.int 1, .int 0, .int 2, .int 1]) p0 p1
    simp only [List.mem_cons, List.not_mem_nil, or_false] at hw
    rcases hw with rfl | rfl | rfl | rfl
    · exact ⟨1, .inr (.inl rfl), ew⟩
    · exact ⟨0, .inl rfl, ew⟩
    · exact ⟨2, .inr (.inr rfl), ew⟩
    · exact ⟨1, .inr (.inl rfl), ew⟩
  obtain ⟨m, hm, ew⟩ := ix
  have rg : rngOf [.int (m : Nat)] = some (.non, rng 0 (m : Nat)) := rngOf_one (by omega) (by omega)
  have pk : (mIx oIx (mF (pOpS gLstN (psCons (pC (.int 1)) (psCons (pC (.int 0)) (psCons (pC (.int 2)) (psCons (pC (.int 1)) psNil)))))) (mCallIO (m_law_pull) (aSlot 1 (aVal (mF (pC (.int 4))) aNil)))) [some (.scr K ns), some (bagV nums at1 left1 salt), some (.str (S (lineL d))), none, none, none] = .ok (.int (m : Nat)) [some (.scr K ns), some (bagV nums at2 left2 salt), some (.str (S (lineL d))), none, none, none] := by
    simp! [gLstN_ap, sz4, e2, ew]
  refine To.seq (m := fun ρ => ∃ n, n ≤ 2 ∧ I39 K ns nums salt n ρ) ?_ ?_
  · have i0 : I39 K ns nums salt 0 [some (.scr K ns), some (bagV nums at2 left2 salt), some (.str (S (lineL d))), none, none, none] := ⟨at2, left2, lineL d, none, h2, lk.2, ll, rfl⟩
    rw [sFor_ap, mRng_ap, msCons_ap, pk]
    simp only [L2.DL.R.bind_ok, msNil_ap, rg, rS_ok]
    refine To.imp (To.forR39 (n := m) (I39 K ns nums salt) (fun ρ h => (⟨m, by omega, h⟩ : ∃ n, n ≤ 2 ∧ I39 K ns nums salt n ρ)) (fun k v ρ hk I => turn39 (by omega) (.int v) I) (rng 0 (m : Nat)) 0 _ (fun w hw => by
      obtain ⟨x, _, rfl⟩ := List.mem_map.mp hw
      exact ⟨_, rfl⟩) (by rw [rng_len]; omega) i0) (fun _ h => h) fun _ _ h => h
  rintro _ ⟨n, hn, at3, left3, w, x3, h3, hc, hl, rfl⟩
  have b : B39 n ≤ 320200 := by rcases (show n = 0 ∨ n = 1 ∨ n = 2 by omega) with rfl | rfl | rfl <;> decide
  have ok : okTx w := ⟨by omega, hc⟩
  obtain ⟨o, ho, ep, el⟩ := read_any ok
  have et := told_any ep
  cases o with
  | none =>
    simp only [tellL] at el
    simp only [tellT] at et
    have cl : callP m_law_read [.str (S w)] = some .non := by simp! [callP, el]
    refine To.seq (m := fun ρ => ρ = [some (.scr K ns), some (bagV nums at3 left3 salt), some (.str (S w)), x3, some .non, none]) (To.nxt (by simp! [cl] <;> rfl) rfl) ?_
    rintro _ rfl
    refine To.seq (m := fun ρ => ρ = [some (.scr K ns), some (bagV nums at3 left3 salt), some (.str (S w)), x3, some .non, some (.int 0)]) (To.nxt (by simp! [et] <;> rfl) rfl) ?_
    rintro _ rfl
    have wc := whole_call 0
    exact To.seq (m := fun _ => False) (To.ret (by simp! [wc] <;> rfl) rfl) fun _ h => h.elim
  | some d' =>
    have rd := ho d' rfl
    obtain ⟨p, dp⟩ := rd.dat
    simp only [tellL] at el
    simp only [tellT] at et
    have ds := dV_sh d'
    have cl : callP m_law_read [.str (S w)] = some (deedV (rmV (dRoom d')) true d') := by simp! [callP, el]
    refine To.seq (m := fun ρ => ρ = [some (.scr K ns), some (bagV nums at3 left3 salt), some (.str (S w)), x3, some (deedV (rmV (dRoom d')) false d'), none]) (To.nxt (by simp! [cl, dV_ob, dV_fr] <;> rfl) rfl) ?_
    rintro _ rfl
    refine To.seq (m := fun ρ => ρ = [some (.scr K ns), some (bagV nums at3 left3 salt), some (.str (S w)), x3, some (deedV (rmV (dRoom d')) false d'), some (deedV (rmV (dRoom d')) false d')]) (To.nxt (by simp! [et, dV_ob, dV_fr] <;> rfl) rfl) ?_
    rintro _ rfl
    have inn : oIsN (deedV (rmV (dRoom d')) false d') .non = some (.bl false) := by cases d' <;> rfl
    have eqq := oEq_dat (dp false) (dp false) (by decide)
    have ty : tyName (deedV (rmV (dRoom d')) false d') = some "tuple" := by cases d' <;> rfl
    refine To.seq (m := fun ρ => ρ = [some (.scr K ns), some (bagV nums at3 left3 salt), some (.str (S w)), x3, some (deedV (rmV (dRoom d')) false d'), some (deedV (rmV (dRoom d')) false d')]) (To.nxt (by simp! [-oIsN_ap, inn] <;> rfl) rfl) ?_
    rintro _ rfl
    exact To.ret (by simp! [ty, kb_tt, eqq] <;> rfl) rfl
end RT

set_option genInjectivity false
set_option genSizeOf false
namespace RT
open L2 PyProof.Rows PySem.Spec PySem L2.DL
abbrev N_is_name : List Str := ["text", "sign"]
theorem sc_is_name : FnScope N_is_name ["text"] (defScope s_is_name) := ⟨rfl, rfl, rfl, by decide +kernel, rfl, by decide +kernel, by decide +kernel⟩
abbrev N_is_row : List Str := ["room", "row", "answer"]
theorem sc_is_row : FnScope N_is_row ["room", "row"] (defScope s_is_row) := ⟨rfl, rfl, rfl, by decide +kernel, rfl, by decide +kernel, by decide +kernel⟩
abbrev N__law_bag : List Str := ["_law_script", "_law_salt", "_law_one"]
theorem sc__law_bag : FnScope N__law_bag ["_law_script"] (defScope s__law_bag) := ⟨rfl, rfl, rfl, by decide +kernel, rfl, by decide +kernel, by decide +kernel⟩
abbrev N__law_room_text : List Str := ["_law_room"]
theorem sc__law_room_text : FnScope N__law_room_text ["_law_room"] (defScope s__law_room_text) := ⟨rfl, rfl, rfl, by decide +kernel, rfl, by decide +kernel, by decide +kernel⟩
abbrev N__law_row_text : List Str := ["_law_row", "_law_answer"]
theorem sc__law_row_text : FnScope N__law_row_text ["_law_row"] (defScope s__law_row_text) := ⟨rfl, rfl, rfl, by decide +kernel, rfl, by decide +kernel, by decide +kernel⟩
abbrev N__law_pull : List Str := ["_law_bag_here", "_law_many_here", "_law_seed", "_law_mixed", "_law_drawn_here"]
theorem sc__law_pull : FnScope N__law_pull ["_law_bag_here", "_law_many_here"] (defScope s__law_pull) := ⟨rfl, rfl, rfl, by decide +kernel, rfl, by decide +kernel, by decide +kernel⟩
abbrev N__law_settled : List Str := ["_law_counts", "_law_row"]
theorem sc__law_settled : FnScope N__law_settled ["_law_counts"] (defScope s__law_settled) := ⟨rfl, rfl, rfl, by decide +kernel, rfl, by decide +kernel, by decide +kernel⟩
abbrev N__law_figures : List Str := ["_law_word_here", "_law_sign"]
theorem sc__law_figures : FnScope N__law_figures ["_law_word_here"] (defScope s__law_figures) := ⟨rfl, rfl, rfl, by decide +kernel, rfl, by decide +kernel, by decide +kernel⟩
abbrev N__law_whole : List Str := ["_law_found"]
theorem sc__law_whole : FnScope N__law_whole ["_law_found"] (defScope s__law_whole) := ⟨rfl, rfl, rfl, by decide +kernel, rfl, by decide +kernel, by decide +kernel⟩
abbrev N_is_room : List Str := ["names", "at"]
theorem sc_is_room : FnScope N_is_room ["names"] (defScope s_is_room) := ⟨rfl, rfl, rfl, by decide +kernel, rfl, by decide +kernel, by decide +kernel⟩
abbrev N_is_tally : List Str := ["room", "rows", "at", "row", "count"]
theorem sc_is_tally : FnScope N_is_tally ["room", "rows"] (defScope s_is_tally) := ⟨rfl, rfl, rfl, by decide +kernel, rfl, by decide +kernel, by decide +kernel⟩
abbrev N__law_tally_text : List Str := ["_law_rows", "_law_row", "_law_count"]
theorem sc__law_tally_text : FnScope N__law_tally_text ["_law_rows"] (defScope s__law_tally_text) := ⟨rfl, rfl, rfl, by decide +kernel, rfl, by decide +kernel, by decide +kernel⟩
abbrev N__law_word : List Str := ["_law_bag_here", "_law_size", "_law_letters", "_law_k"]
theorem sc__law_word : FnScope N__law_word ["_law_bag_here", "_law_size"] (defScope s__law_word) := ⟨rfl, rfl, rfl, by decide +kernel, rfl, by decide +kernel, by decide +kernel⟩
abbrev N__law_answers : List Str := ["_law_bag_here", "_law_size", "_law_base", "_law_k"]
theorem sc__law_answers : FnScope N__law_answers ["_law_bag_here", "_law_size", "_law_base"] (defScope s__law_answers) := ⟨rfl, rfl, rfl, by decide +kernel, rfl, by decide +kernel, by decide +kernel⟩
abbrev N__law_many : List Str := ["_law_bag_here"]
theorem sc__law_many : FnScope N__law_many ["_law_bag_here"] (defScope s__law_many) := ⟨rfl, rfl, rfl, by decide +kernel, rfl, by decide +kernel, by decide +kernel⟩
abbrev N__law_signed : List Str := ["_law_bag_here", "_law_line", "_law_signs", "_law_at", "_law_sign", "_law_way"]
theorem sc__law_signed : FnScope N__law_signed ["_law_bag_here", "_law_line"] (defScope s__law_signed) := ⟨rfl, rfl, rfl, by decide +kernel, rfl, by decide +kernel, by decide +kernel⟩
abbrev N__law_row_in : List Str := ["_law_word_here", "_law_row", "_law_part", "_law_answer"]
theorem sc__law_row_in : FnScope N__law_row_in ["_law_word_here"] (defScope s__law_row_in) := ⟨rfl, rfl, rfl, by decide +kernel, rfl, by decide +kernel, by decide +kernel⟩
abbrev N_number_of : List Str := ["word", "sign"]
theorem sc_number_of : FnScope N_number_of ["word"] (defScope s_number_of) := ⟨rfl, rfl, rfl, by decide +kernel, rfl, by decide +kernel, by decide +kernel⟩
abbrev N_name_of : List Str := ["word"]
theorem sc_name_of : FnScope N_name_of ["word"] (defScope s_name_of) := ⟨rfl, rfl, rfl, by decide +kernel, rfl, by decide +kernel, by decide +kernel⟩
abbrev N_room_of : List Str := ["word", "room"]
theorem sc_room_of : FnScope N_room_of ["word"] (defScope s_room_of) := ⟨rfl, rfl, rfl, by decide +kernel, rfl, by decide +kernel, by decide +kernel⟩
abbrev N__law_deed_text : List Str := ["_law_deed", "_law_words", "_law_part"]
theorem sc__law_deed_text : FnScope N__law_deed_text ["_law_deed"] (defScope s__law_deed_text) := ⟨rfl, rfl, rfl, by decide +kernel, rfl, by decide +kernel, by decide +kernel⟩
abbrev N__law_names : List Str := ["_law_bag_here", "_law_many_here", "_law_letters", "_law_found", "_law_start", "_law_k", "_law_word_here", "_law_step"]
theorem sc__law_names : FnScope N__law_names ["_law_bag_here", "_law_many_here"] (defScope s__law_names) := ⟨rfl, rfl, rfl, by decide +kernel, rfl, by decide +kernel, by decide +kernel⟩
abbrev N__law_drawn : List Str := ["_law_bag_here", "_law_room", "_law_counts", "_law_base", "_law_k"]
theorem sc__law_drawn : FnScope N__law_drawn ["_law_bag_here", "_law_room"] (defScope s__law_drawn) := ⟨rfl, rfl, rfl, by decide +kernel, rfl, by decide +kernel, by decide +kernel⟩
abbrev N__law_spoilt_line : List Str := ["_law_bag_here", "_law_line", "_law_words", "_law_at", "_law_way", "_law_some"]
theorem sc__law_spoilt_line : FnScope N__law_spoilt_line ["_law_bag_here", "_law_line"] (defScope s__law_spoilt_line) := ⟨rfl, rfl, rfl, by decide +kernel, rfl, by decide +kernel, by decide +kernel⟩
abbrev N__law_room_in : List Str := ["_law_word_here", "_law_room"]
theorem sc__law_room_in : FnScope N__law_room_in ["_law_word_here"] (defScope s__law_room_in) := ⟨rfl, rfl, rfl, by decide +kernel, rfl, by decide +kernel, by decide +kernel⟩
abbrev N__law_tally_in : List Str := ["_law_room", "_law_words", "_law_rows", "_law_word_here", "_law_parts", "_law_row"]
theorem sc__law_tally_in : FnScope N__law_tally_in ["_law_room", "_law_words"] (defScope s__law_tally_in) := ⟨rfl, rfl, rfl, by decide +kernel, rfl, by decide +kernel, by decide +kernel⟩
abbrev N_row_of : List Str := ["word", "parts", "row", "part"]
theorem sc_row_of : FnScope N_row_of ["word"] (defScope s_row_of) := ⟨rfl, rfl, rfl, by decide +kernel, rfl, by decide +kernel, by decide +kernel⟩
abbrev N__law_any_deed : List Str := ["_law_bag_here", "_law_names_here", "_law_name", "_law_row", "_law_count", "_law_way", "_law_rows", "_law_one", "_law_much"]
theorem sc__law_any_deed : FnScope N__law_any_deed ["_law_bag_here"] (defScope s__law_any_deed) := ⟨rfl, rfl, rfl, by decide +kernel, rfl, by decide +kernel, by decide +kernel⟩
abbrev N__law_read : List Str := ["_law_line", "_law_words", "_law_room", "_law_kinds", "_law_parts", "_law_kind", "_law_word_here", "_law_part"]
theorem sc__law_read : FnScope N__law_read ["_law_line"] (defScope s__law_read) := ⟨rfl, rfl, rfl, by decide +kernel, rfl, by decide +kernel, by decide +kernel⟩
abbrev N_pair_of : List Str := ["word", "parts"]
theorem sc_pair_of : FnScope N_pair_of ["word"] (defScope s_pair_of) := ⟨rfl, rfl, rfl, by decide +kernel, rfl, by decide +kernel, by decide +kernel⟩
abbrev N_tally_of : List Str := ["room", "words", "rows", "word"]
theorem sc_tally_of : FnScope N_tally_of ["room", "words"] (defScope s_tally_of) := ⟨rfl, rfl, rfl, by decide +kernel, rfl, by decide +kernel, by decide +kernel⟩
abbrev N_read_deed : List Str := ["line", "words", "word", "many", "room"]
theorem sc_read_deed : FnScope N_read_deed ["line"] (defScope s_read_deed) := ⟨rfl, rfl, rfl, by decide +kernel, rfl, by decide +kernel, by decide +kernel⟩
abbrev N__law_told : List Str := ["_law_line", "_law_found", "e"]
theorem sc__law_told : FnScope N__law_told ["_law_line"] (defScope s__law_told) := ⟨rfl, rfl, rfl, by decide +kernel, rfl, by decide +kernel, by decide +kernel⟩
abbrev N_law : List Str := ["_law_script", "_law_bag_here", "_law_line", "_law_turn", "_law_due", "_law_found"]
theorem sc_law : FnScope N_law ["_law_script"] (defScope s_law) := ⟨rfl, rfl, rfl, by decide +kernel, rfl, by decide +kernel, by decide +kernel⟩
theorem sci_BadText : FnScope ["self", "at"] ["self", "at"] (defScope si_BadText) := ⟨rfl, rfl, rfl, by decide +kernel, rfl, by decide +kernel, by decide +kernel⟩
structure Txt (K : PySem.W.Frag) (mg : MG) where
  (f_is_name : Addr) (d_is_name : FuncData) (F_is_name : Fun K "is_name" "is_name" s_is_name f_is_name d_is_name) (g_is_name : mg "is_name" = some (.ref f_is_name)) (b_is_name : Binds K d_is_name ["text"] [])
  (f_is_row : Addr) (d_is_row : FuncData) (F_is_row : Fun K "is_row" "is_row" s_is_row f_is_row d_is_row) (g_is_row : mg "is_row" = some (.ref f_is_row)) (b_is_row : Binds K d_is_row ["room", "row"] [])
  (f__law_bag : Addr) (d__law_bag : FuncData) (F__law_bag : Fun K "_law_bag" "_law_bag" s__law_bag f__law_bag d__law_bag) (g__law_bag : mg "_law_bag" = some (.ref f__law_bag)) (b__law_bag : Binds K d__law_bag ["_law_script"] [])
  (f__law_room_text : Addr) (d__law_room_text : FuncData) (F__law_room_text : Fun K "_law_room_text" "_law_room_text" s__law_room_text f__law_room_text d__law_room_text) (g__law_room_text : mg "_law_room_text" = some (.ref f__law_room_text)) (b__law_room_text : Binds K d__law_room_text ["_law_room"] [])
  (f__law_row_text : Addr) (d__law_row_text : FuncData) (F__law_row_text : Fun K "_law_row_text" "_law_row_text" s__law_row_text f__law_row_text d__law_row_text) (g__law_row_text : mg "_law_row_text" = some (.ref f__law_row_text)) (b__law_row_text : Binds K d__law_row_text ["_law_row"] [])
  (f__law_pull : Addr) (d__law_pull : FuncData) (F__law_pull : Fun K "_law_pull" "_law_pull" s__law_pull f__law_pull d__law_pull) (g__law_pull : mg "_law_pull" = some (.ref f__law_pull)) (b__law_pull : Binds K d__law_pull ["_law_bag_here", "_law_many_here"] [])
  (f__law_settled : Addr) (d__law_settled : FuncData) (F__law_settled : Fun K "_law_settled" "_law_settled" s__law_settled f__law_settled d__law_settled) (g__law_settled : mg "_law_settled" = some (.ref f__law_settled)) (b__law_settled : Binds K d__law_settled ["_law_counts"] [])
  (f__law_figures : Addr) (d__law_figures : FuncData) (F__law_figures : Fun K "_law_figures" "_law_figures" s__law_figures f__law_figures d__law_figures) (g__law_figures : mg "_law_figures" = some (.ref f__law_figures)) (b__law_figures : Binds K d__law_figures ["_law_word_here"] [])
  (f__law_whole : Addr) (d__law_whole : FuncData) (F__law_whole : Fun K "_law_whole" "_law_whole" s__law_whole f__law_whole d__law_whole) (g__law_whole : mg "_law_whole" = some (.ref f__law_whole)) (b__law_whole : Binds K d__law_whole ["_law_found"] [])
  (f_is_room : Addr) (d_is_room : FuncData) (F_is_room : Fun K "is_room" "is_room" s_is_room f_is_room d_is_room) (g_is_room : mg "is_room" = some (.ref f_is_room)) (b_is_room : Binds K d_is_room ["names"] [])
  (f_is_tally : Addr) (d_is_tally : FuncData) (F_is_tally : Fun K "is_tally" "is_tally" s_is_tally f_is_tally d_is_tally) (g_is_tally : mg "is_tally" = some (.ref f_is_tally)) (b_is_tally : Binds K d_is_tally ["room", "rows"] [])
  (f__law_tally_text : Addr) (d__law_tally_text : FuncData) (F__law_tally_text : Fun K "_law_tally_text" "_law_tally_text" s__law_tally_text f__law_tally_text d__law_tally_text) (g__law_tally_text : mg "_law_tally_text" = some (.ref f__law_tally_text)) (b__law_tally_text : Binds K d__law_tally_text ["_law_rows"] [])
  (f__law_word : Addr) (d__law_word : FuncData) (F__law_word : Fun K "_law_word" "_law_word" s__law_word f__law_word d__law_word) (g__law_word : mg "_law_word" = some (.ref f__law_word)) (b__law_word : Binds K d__law_word ["_law_bag_here", "_law_size"] [])
  (f__law_answers : Addr) (d__law_answers : FuncData) (F__law_answers : Fun K "_law_answers" "_law_answers" s__law_answers f__law_answers d__law_answers) (g__law_answers : mg "_law_answers" = some (.ref f__law_answers)) (b__law_answers : Binds K d__law_answers ["_law_bag_here", "_law_size", "_law_base"] [])
  (f__law_many : Addr) (d__law_many : FuncData) (F__law_many : Fun K "_law_many" "_law_many" s__law_many f__law_many d__law_many) (g__law_many : mg "_law_many" = some (.ref f__law_many)) (b__law_many : Binds K d__law_many ["_law_bag_here"] [])
  (f__law_signed : Addr) (d__law_signed : FuncData) (F__law_signed : Fun K "_law_signed" "_law_signed" s__law_signed f__law_signed d__law_signed) (g__law_signed : mg "_law_signed" = some (.ref f__law_signed)) (b__law_signed : Binds K d__law_signed ["_law_bag_here", "_law_line"] [])
  (f__law_row_in : Addr) (d__law_row_in : FuncData) (F__law_row_in : Fun K "_law_row_in" "_law_row_in" s__law_row_in f__law_row_in d__law_row_in) (g__law_row_in : mg "_law_row_in" = some (.ref f__law_row_in)) (b__law_row_in : Binds K d__law_row_in ["_law_word_here"] [])
  (f_number_of : Addr) (d_number_of : FuncData) (F_number_of : Fun K "number_of" "number_of" s_number_of f_number_of d_number_of) (g_number_of : mg "number_of" = some (.ref f_number_of)) (b_number_of : Binds K d_number_of ["word"] [])
  (f_name_of : Addr) (d_name_of : FuncData) (F_name_of : Fun K "name_of" "name_of" s_name_of f_name_of d_name_of) (g_name_of : mg "name_of" = some (.ref f_name_of)) (b_name_of : Binds K d_name_of ["word"] [])
  (f_room_of : Addr) (d_room_of : FuncData) (F_room_of : Fun K "room_of" "room_of" s_room_of f_room_of d_room_of) (g_room_of : mg "room_of" = some (.ref f_room_of)) (b_room_of : Binds K d_room_of ["word"] [])
  (f__law_deed_text : Addr) (d__law_deed_text : FuncData) (F__law_deed_text : Fun K "_law_deed_text" "_law_deed_text" s__law_deed_text f__law_deed_text d__law_deed_text) (g__law_deed_text : mg "_law_deed_text" = some (.ref f__law_deed_text)) (b__law_deed_text : Binds K d__law_deed_text ["_law_deed"] [])
  (f__law_names : Addr) (d__law_names : FuncData) (F__law_names : Fun K "_law_names" "_law_names" s__law_names f__law_names d__law_names) (g__law_names : mg "_law_names" = some (.ref f__law_names)) (b__law_names : Binds K d__law_names ["_law_bag_here", "_law_many_here"] [])
  (f__law_drawn : Addr) (d__law_drawn : FuncData) (F__law_drawn : Fun K "_law_drawn" "_law_drawn" s__law_drawn f__law_drawn d__law_drawn) (g__law_drawn : mg "_law_drawn" = some (.ref f__law_drawn)) (b__law_drawn : Binds K d__law_drawn ["_law_bag_here", "_law_room"] [])
  (f__law_spoilt_line : Addr) (d__law_spoilt_line : FuncData) (F__law_spoilt_line : Fun K "_law_spoilt_line" "_law_spoilt_line" s__law_spoilt_line f__law_spoilt_line d__law_spoilt_line) (g__law_spoilt_line : mg "_law_spoilt_line" = some (.ref f__law_spoilt_line)) (b__law_spoilt_line : Binds K d__law_spoilt_line ["_law_bag_here", "_law_line"] [])
  (f__law_room_in : Addr) (d__law_room_in : FuncData) (F__law_room_in : Fun K "_law_room_in" "_law_room_in" s__law_room_in f__law_room_in d__law_room_in) (g__law_room_in : mg "_law_room_in" = some (.ref f__law_room_in)) (b__law_room_in : Binds K d__law_room_in ["_law_word_here"] [])
  (f__law_tally_in : Addr) (d__law_tally_in : FuncData) (F__law_tally_in : Fun K "_law_tally_in" "_law_tally_in" s__law_tally_in f__law_tally_in d__law_tally_in) (g__law_tally_in : mg "_law_tally_in" = some (.ref f__law_tally_in)) (b__law_tally_in : Binds K d__law_tally_in ["_law_room", "_law_words"] [])
  (f_row_of : Addr) (d_row_of : FuncData) (F_row_of : Fun K "row_of" "row_of" s_row_of f_row_of d_row_of) (g_row_of : mg "row_of" = some (.ref f_row_of)) (b_row_of : Binds K d_row_of ["word"] [])
  (f__law_any_deed : Addr) (d__law_any_deed : FuncData) (F__law_any_deed : Fun K "_law_any_deed" "_law_any_deed" s__law_any_deed f__law_any_deed d__law_any_deed) (g__law_any_deed : mg "_law_any_deed" = some (.ref f__law_any_deed)) (b__law_any_deed : Binds K d__law_any_deed ["_law_bag_here"] [])
  (f__law_read : Addr) (d__law_read : FuncData) (F__law_read : Fun K "_law_read" "_law_read" s__law_read f__law_read d__law_read) (g__law_read : mg "_law_read" = some (.ref f__law_read)) (b__law_read : Binds K d__law_read ["_law_line"] [])
  (f_pair_of : Addr) (d_pair_of : FuncData) (F_pair_of : Fun K "pair_of" "pair_of" s_pair_of f_pair_of d_pair_of) (g_pair_of : mg "pair_of" = some (.ref f_pair_of)) (b_pair_of : Binds K d_pair_of ["word"] [])
  (f_tally_of : Addr) (d_tally_of : FuncData) (F_tally_of : Fun K "tally_of" "tally_of" s_tally_of f_tally_of d_tally_of) (g_tally_of : mg "tally_of" = some (.ref f_tally_of)) (b_tally_of : Binds K d_tally_of ["room", "words"] [])
  (f_read_deed : Addr) (d_read_deed : FuncData) (F_read_deed : Fun K "read_deed" "read_deed" s_read_deed f_read_deed d_read_deed) (g_read_deed : mg "read_deed" = some (.ref f_read_deed)) (b_read_deed : Binds K d_read_deed ["line"] [])
  (f__law_told : Addr) (d__law_told : FuncData) (F__law_told : Fun K "_law_told" "_law_told" s__law_told f__law_told d__law_told) (g__law_told : mg "_law_told" = some (.ref f__law_told)) (b__law_told : Binds K d__law_told ["_law_line"] [])
  (f_law : Addr) (d_law : FuncData) (F_law : Fun K "law" "law" s_law f_law d_law) (g_law : mg "law" = some (.ref f_law)) (b_law : Binds K d_law ["_law_script"] [])
  (c_FIGURES : ∃ t, mg "FIGURES" = some (.str "0123456789" t))
  (c_LETTERS : ∃ t, mg "LETTERS" = some (.str "abcdefghijklmnopqrstuvwxyz" t))
  (c_MOST_ANSWER : ∃ t, mg "MOST_ANSWER" = some (.int 9 t))
  (c_MOST_FIGURES : ∃ t, mg "MOST_FIGURES" = some (.int 13 t))
  (c_MOST_QUESTIONS : ∃ t, mg "MOST_QUESTIONS" = some (.int 6 t))
  (c_MOST_SIGNS : ∃ t, mg "MOST_SIGNS" = some (.int 8 t))
  (z_all : mg "all" = none)
  (z_bool : mg "bool" = none)
  (z_int : mg "int" = none)
  (z_isinstance : mg "isinstance" = none)
  (z_len : mg "len" = none)
  (z_list : mg "list" = none)
  (z_max : mg "max" = none)
  (z_min : mg "min" = none)
  (z_range : mg "range" = none)
  (z_sorted : mg "sorted" = none)
  (z_str : mg "str" = none)
  (z_tuple : mg "tuple" = none)
  (z_zip : mg "zip" = none)
  (C_BadText : Addr) (gC_BadText : mg "BadText" = some (.ref C_BadText))
  (oX_BadText : OexC K C_BadText) (fI_BadText : Addr) (dI_BadText : FuncData) (iX_BadText : PySem.W.findIn K (.ref C_BadText) "__init__" = some (some (.ref fI_BadText))) (tX_BadText : PySem.W.typeIn K (.ref fI_BadText) = some (.type "function")) (FX_BadText : Fun K "__init__" "BadText.__init__" si_BadText fI_BadText dI_BadText) (bX_BadText : Binds K dI_BadText ["self", "at"] []) (nX_BadText : PySem.W.findIn K (.ref C_BadText) "at" = some none) (xX_BadText : XfC K C_BadText)
  (x_BadText_BadText : PySem.W.exmOne K (.ref C_BadText) (.ref C_BadText) = some true)
section
variable {P : Program} {w : World} {K : PySem.W.Frag} {mg : MG} {base : Heap}
theorem ok_init_BadText (T : Txt K mg) : FnOk P w K mg base CX0 1 T.fI_BadText T.dI_BadText ["self", "at"] (spInit K "at") := fn_init T.FX_BadText sci_BadText fun cdv A outer s H E => pss_one (ps_ost (pv 0) (pv 1))
theorem bd_is_name (T : Txt K mg) : BodyOk P w K mg base N_is_name "is_name" (defScope s_is_name) T.f_is_name 0 (defBody s_is_name) 1 (g_is_name) := fun cdv A outer s H E hr tk hp =>
    (dss_cons (ds_if (dvt_p (dt_not (dt_chain op_leA vop_cmp op_leA vop_cmp (DF.dp df_int) (DF.dp (df_callB call_len vlen (by rfl) T.z_len (by decide +kernel) (ds_cons (dp_var 0) ds_nil))) (DF.dp (df_gInt (by rfl) T.c_MOST_SIGNS))))) (dss_one (ds_ret (dv_f df_bl))) dss_nil)
    (dss_cons (ds_for hp rfl (di_seq (dv_p (dp_var 0))) (dg_name 1 sc_is_name.nd) (dss_one (ds_if (dvt_p (dt_cmp (op_notInAll (rm65 hr)) vop_notIn (dp_var 1) (DF.dp (df_gStr (by rfl) T.c_LETTERS)) rfl)) (dss_one (ds_ret (dv_f df_bl))) dss_nil)))
    (dss_one (ds_ret (dv_f df_bl)))))
theorem ok_is_name (T : Txt K mg) : FnOk P w K mg base (L2.CX P w) 1 T.f_is_name T.d_is_name ["text"] (spP mg 1 (m_is_name)) := fn_pure T.F_is_name sc_is_name (bd_is_name T)
theorem bd_is_row (T : Txt K mg) : BodyOk P w K mg base N_is_row "is_row" (defScope s_is_row) T.f_is_row 0 (defBody s_is_row) 2 (g_is_row) := fun cdv A outer s H E hr tk hp =>
    (dss_cons (ds_if (dvt_p (dt_cmp (op_neD (rm64 hr)) vop_ne (DF.dp (df_callB call_len vlen (by rfl) T.z_len (by decide +kernel) (ds_cons (dp_var 1) ds_nil))) (DF.dp (df_callB call_len vlen (by rfl) T.z_len (by decide +kernel) (ds_cons (dp_var 0) ds_nil))) rfl)) (dss_one (ds_ret (dv_f df_bl))) dss_nil)
    (dss_cons (ds_for hp rfl (di_seq (dv_p (dp_var 1))) (dg_name 2 sc_is_row.nd) (dss_one (ds_if (dvt_p (dt_not (dt_chain op_leA vop_cmp op_leA vop_cmp (DF.dp df_int) (dp_var 2) (DF.dp (df_gInt (by rfl) T.c_MOST_ANSWER))))) (dss_one (ds_ret (dv_f df_bl))) dss_nil)))
    (dss_one (ds_ret (dv_f df_bl)))))
theorem ok_is_row (T : Txt K mg) : FnOk P w K mg base (L2.CX P w) 1 T.f_is_row T.d_is_row ["room", "row"] (spP mg 2 (m_is_row)) := fn_pure T.F_is_row sc_is_row (bd_is_row T)
theorem bd__law_bag (T : Txt K mg) : BodyOk P w K mg base N__law_bag "_law_bag" (defScope s__law_bag) T.f__law_bag 0 (defBody s__law_bag) 1 (g_law_bag K) := fun cdv A outer s H E hr tk hp =>
    (dss_cons (ds_set 1 (dv_f (df_callB call_len vlen (by rfl) T.z_len (by decide +kernel) (ds_cons (DF.dp (df_slice (dp_var 0) dpo_none (dpo_some (DF.dp df_int)))) ds_nil))) sc__law_bag.nd)
    (dss_cons (ds_for hp rfl (di_seq (dv_f (df_slice (dp_var 0) dpo_none (dpo_some (DF.dp df_int))))) (dg_name 2 sc__law_bag.nd) (dss_one (ds_set 1 (dv_f (df_op2 op_mod vop_mod (DF.dp (df_op2 op_addAll vop_add (DF.dp (df_op2 op_mul vop_mul (dp_var 1) (DF.dp df_int))) (dp_var 2))) (DF.dp df_int))) sc__law_bag.nd)))
    (dss_one (ds_ret (dv_lst (dvs_cons (dv_f (df_callTy (call_listAll rfl) vlist (by rfl) T.z_list (by decide +kernel) (ds_cons (DF.dp (df_slice (dp_var 0) dpo_none (dpo_some (DF.dp df_int)))) ds_nil))) (dvs_cons (dv_f df_int) (dvs_cons (dv_f df_int) (dvs_cons (dv_p (dp_var 1)) dvs_nil)))))))))
theorem ok__law_bag (T : Txt K mg) : FnOk P w K mg base (L2.CX P w) 1 T.f__law_bag T.d__law_bag ["_law_script"] (spP mg 1 (m_law_bag K)) := fn_pure T.F__law_bag sc__law_bag (bd__law_bag T)
theorem bd__law_room_text (T : Txt K mg) : BodyOk P w K mg base N__law_room_text "_law_room_text" (defScope s__law_room_text) T.f__law_room_text 0 (defBody s__law_room_text) 1 (g_law_room_text) := fun cdv A outer s H E hr tk hp =>
    (dss_cons (ds_if (dvt_p (dt_cmp (op_eqD (rm64 hr)) vop_eq (dp_var 0) (DF.dp (df_tup ds_nil)) rfl)) (dss_one (ds_ret (dv_f df_str))) dss_nil)
    (dss_one (ds_ret (dv_f (df_met ty_str PySem.F.plainAttrs_str PySem.F.slot_str_join PySem.F.type_str_join mt_join vjoin (DF.dp df_str) (ds_cons (DF.dp (df_callTy (call_listAll rfl) vlist (by rfl) T.z_list (by decide +kernel) (ds_cons (dp_var 0) ds_nil))) ds_nil))))))
theorem ok__law_room_text (T : Txt K mg) : FnOk P w K mg base (L2.CX P w) 1 T.f__law_room_text T.d__law_room_text ["_law_room"] (spP mg 1 (m_law_room_text)) := fn_pure T.F__law_room_text sc__law_room_text (bd__law_room_text T)
theorem bd__law_row_text (T : Txt K mg) : BodyOk P w K mg base N__law_row_text "_law_row_text" (defScope s__law_row_text) T.f__law_row_text 0 (defBody s__law_row_text) 1 (g_law_row_text) := fun cdv A outer s H E hr tk hp =>
    (dss_cons (ds_if (dvt_p (dt_cmp (op_eqD (rm64 hr)) vop_eq (dp_var 0) (DF.dp (df_tup ds_nil)) rfl)) (dss_one (ds_ret (dv_f df_str))) dss_nil)
    (dss_one (ds_ret (dv_f (df_met ty_str PySem.F.plainAttrs_str PySem.F.slot_str_join PySem.F.type_str_join mt_join vjoin (DF.dp df_str) (ds_cons (DF.dp (df_compV (by rfl) (by exact sc__law_row_text.nd) (dip_seq (dp_var 0)) (blkOk_by (N := N__law_row_text) (sc := defScope s__law_row_text) (own := [("_law_answer", 1)]) (by decide +kernel)) (fun s_ H_ C_ cl_ fp_ => (dg_name 1 sc__law_row_text.nd)) (fun s_ H_ C_ cl_ fp_ => dts_nil) (fun s_ H_ C_ cl_ fp_ => (df_callTy call_str_int vstr (by rfl) T.z_str (by decide +kernel) (ds_cons (dp_var 1) ds_nil))))) ds_nil))))))
theorem ok__law_row_text (T : Txt K mg) : FnOk P w K mg base (L2.CX P w) 1 T.f__law_row_text T.d__law_row_text ["_law_row"] (spP mg 1 (m_law_row_text)) := fn_pure T.F__law_row_text sc__law_row_text (bd__law_row_text T)
theorem bd__law_pull (T : Txt K mg) : BodyOk P w K mg base N__law_pull "_law_pull" (defScope s__law_pull) T.f__law_pull 0 (defBody s__law_pull) 2 (g_law_pull) := fun cdv A outer s H E hr tk hp =>
    (dss_cons (ds_if (dvt_p (dt_cmp op_leA vop_cmp (dp_sub (rm1 hr) (dp_var 0) (DF.dp df_int) (fun _ _ => rfl) (fun _ _ => rfl)) (DF.dp df_int) rfl)) (dss_cons (ds_augL 0 ip_add vip_add (DF.dp df_int) (DF.dp df_int))
    (dss_cons (ds_set 2 (dv_p (dp_sub (rm1 hr) (dp_var 0) (DF.dp df_int) (fun _ _ => rfl) (fun _ _ => rfl))) sc__law_pull.nd)
    (dss_cons (ds_if (dvt_p (dt_cmp op_leA vop_cmp (dp_sub (rm1 hr) (dp_var 0) (DF.dp df_int) (fun _ _ => rfl) (fun _ _ => rfl)) (DF.dp (df_callB call_len vlen (by rfl) T.z_len (by decide +kernel) (ds_cons (dp_sub (rm1 hr) (dp_var 0) (DF.dp df_int) (fun _ _ => rfl) (fun _ _ => rfl)) ds_nil))) rfl)) (dss_one (ds_set 2 (dv_p (dp_sub (rm1 hr) (dp_sub (rm1 hr) (dp_var 0) (DF.dp df_int) (fun _ _ => rfl) (fun _ _ => rfl)) (DF.dp (df_op2 op_sub vop_sub (dp_sub (rm1 hr) (dp_var 0) (DF.dp df_int) (fun _ _ => rfl) (fun _ _ => rfl)) (DF.dp df_int))) (fun _ _ => rfl) (fun _ _ => rfl))) sc__law_pull.nd)) dss_nil)
    (dss_cons (ds_if (dvt_p (DW.dt (dw_or (dt_cmp op_gtA vop_cmp (dp_sub (rm1 hr) (dp_var 0) (DF.dp df_int) (fun _ _ => rfl) (fun _ _ => rfl)) (DF.dp (df_callB call_len vlen (by rfl) T.z_len (by decide +kernel) (ds_cons (dp_sub (rm1 hr) (dp_var 0) (DF.dp df_int) (fun _ _ => rfl) (fun _ _ => rfl)) ds_nil))) rfl) (dw_or1 (dt_cmp op_ltA vop_cmp (dp_var 2) (DF.dp (df_op2 op_pow vop_pow (DF.dp df_int) (DF.dp df_int))) rfl))))) (dss_cons (ds_set 3 (dv_f (df_op2 op_mod vop_mod (DF.dp (df_op2 op_addAll vop_add (DF.dp (df_op2 op_addAll vop_add (DF.dp (df_op2 op_mul vop_mul (dp_var 2) (DF.dp df_int))) (DF.dp (df_op2 op_mul vop_mul (dp_sub (rm1 hr) (dp_var 0) (DF.dp df_int) (fun _ _ => rfl) (fun _ _ => rfl)) (DF.dp df_int))))) (DF.dp df_int))) (DF.dp df_int))) sc__law_pull.nd)
    (dss_cons (ds_set 3 (dv_f (df_op2 op_mod vop_mod (DF.dp (df_op2 op_mul vop_mul (dp_var 3) (dp_var 3))) (DF.dp df_int))) sc__law_pull.nd)
    (dss_one (ds_ret (dv_f (df_op2 op_mod vop_mod (DF.dp (df_op2 op_fdivW vop_div (DF.dp (df_op2 op_mod vop_mod (DF.dp (df_op2 op_mul vop_mul (DF.dp (df_op2 op_addAll vop_add (dp_var 3) (dp_sub (rm1 hr) (dp_var 0) (DF.dp df_int) (fun _ _ => rfl) (fun _ _ => rfl)))) (DF.dp df_int))) (DF.dp df_int))) (DF.dp df_int))) (dp_var 1))))))) dss_nil)
    (dss_one (ds_put 0 (rm1 hr) (dv_p (dp_var 2)) (dv_f df_int))))))) dss_nil)
    (dss_cons (ds_set 4 (dv_f (df_op2 op_mod vop_mod (dp_sub (rm1 hr) (dp_var 0) (DF.dp df_int) (fun _ _ => rfl) (fun _ _ => rfl)) (dp_var 1))) sc__law_pull.nd)
    (dss_cons (ds_put 0 (rm1 hr) (dv_f (df_op2 op_fdivW vop_div (dp_sub (rm1 hr) (dp_var 0) (DF.dp df_int) (fun _ _ => rfl) (fun _ _ => rfl)) (dp_var 1))) (dv_f df_int))
    (dss_one (ds_ret (dv_move 4))))))
theorem ok__law_pull (T : Txt K mg) : FnOk P w K mg base (L2.CX P w) 1 T.f__law_pull T.d__law_pull ["_law_bag_here", "_law_many_here"] (spIO mg 2 (m_law_pull)) := fn_io T.F__law_pull sc__law_pull (bd__law_pull T)
theorem bd__law_settled (T : Txt K mg) : BodyOk P w K mg base N__law_settled "_law_settled" (defScope s__law_settled) T.f__law_settled 0 (defBody s__law_settled) 1 (g_law_settled) := fun cdv A outer s H E hr tk hp =>
    (dss_one (ds_ret (dv_f (df_compV (by rfl) (by exact sc__law_settled.nd) (dip_seq (DF.dp (df_callB (cr_sortedD (rm64 hr)) vsorted (by rfl) T.z_sorted (by decide +kernel) (ds_cons (DF.dp (df_callTy (call_listAll rfl) vlist (by rfl) T.z_list (by decide +kernel) (ds_cons (dp_var 0) ds_nil))) ds_nil)))) (blkOk_by (N := N__law_settled) (sc := defScope s__law_settled) (own := [("_law_row", 1)]) (by decide +kernel)) (fun s_ H_ C_ cl_ fp_ => (dg_name 1 sc__law_settled.nd)) (fun s_ H_ C_ cl_ fp_ => (dts_one (dt_cmp (op_neD (rm64 hr)) vop_ne (dp_sub (rm1 hr) (dp_var 0) (dp_var 1) (fun _ _ => rfl) (fun _ _ => rfl)) (DF.dp df_int) rfl))) (fun s_ H_ C_ cl_ fp_ => (df_tup (ds_cons (dp_var 1) (ds_cons (dp_sub (rm1 hr) (dp_var 0) (dp_var 1) (fun _ _ => rfl) (fun _ _ => rfl)) ds_nil))))))))
theorem ok__law_settled (T : Txt K mg) : FnOk P w K mg base (L2.CX P w) 1 T.f__law_settled T.d__law_settled ["_law_counts"] (spP mg 1 (m_law_settled)) := fn_pure T.F__law_settled sc__law_settled (bd__law_settled T)
theorem bd__law_figures (T : Txt K mg) : BodyOk P w K mg base N__law_figures "_law_figures" (defScope s__law_figures) T.f__law_figures 0 (defBody s__law_figures) 1 (g_law_figures) := fun cdv A outer s H E hr tk hp =>
    (dss_cons (ds_if (dvt_p (DW.dt (dw_or (dt_not (dt_chain op_leA vop_cmp op_leA vop_cmp (DF.dp df_int) (DF.dp (df_callB call_len vlen (by rfl) T.z_len (by decide +kernel) (ds_cons (dp_var 0) ds_nil))) (DF.dp df_int))) (dw_or1 (dt_not (dt_val (DF.dp (df_callB (cr_all rfl) vall (by rfl) T.z_all (by decide +kernel) (ds_cons (DF.dp (df_compV (by rfl) (by exact sc__law_figures.nd) (dip_seq (dp_var 0)) (blkOk_by (N := N__law_figures) (sc := defScope s__law_figures) (own := [("_law_sign", 1)]) (by decide +kernel)) (fun s_ H_ C_ cl_ fp_ => (dg_name 1 sc__law_figures.nd)) (fun s_ H_ C_ cl_ fp_ => dts_nil) (fun s_ H_ C_ cl_ fp_ => (df_cmp (op_inAll (rm65 hr)) vop_in (dp_var 1) (DF.dp df_str) rfl)))) ds_nil))))))))) (dss_one (ds_ret (dv_f (df_op1 un_neg vop_neg (DF.dp df_int))))) dss_nil)
    (dss_cons (ds_if (dvt_p (DW.dt (dw_and (dt_cmp op_gtA vop_cmp (DF.dp (df_callB call_len vlen (by rfl) T.z_len (by decide +kernel) (ds_cons (dp_var 0) ds_nil))) (DF.dp df_int) rfl) (dw_and1 (dt_cmp (op_eqD (rm64 hr)) vop_eq (dp_sub (rm1 hr) (dp_var 0) (DF.dp df_int) (fun _ _ => rfl) (fun _ _ => rfl)) (DF.dp df_str) rfl))))) (dss_one (ds_ret (dv_f (df_op1 un_neg vop_neg (DF.dp df_int))))) dss_nil)
    (dss_one (ds_ret (dv_f (df_callTy call_intAll vint1 (by rfl) T.z_int (by decide +kernel) (ds_cons (dp_var 0) ds_nil)))))))
theorem ok__law_figures (T : Txt K mg) : FnOk P w K mg base (L2.CX P w) 1 T.f__law_figures T.d__law_figures ["_law_word_here"] (spP mg 1 (m_law_figures)) := fn_pure T.F__law_figures sc__law_figures (bd__law_figures T)
theorem bd__law_whole (T : Txt K mg) : BodyOk P w K mg base N__law_whole "_law_whole" (defScope s__law_whole) T.f__law_whole 0 (defBody s__law_whole) 1 (g_law_whole) := fun cdv A outer s H E hr tk hp =>
    (dss_one (ds_ret (dv_p (dp_andV (DF.dp (df_isi "int" (by rfl) T.z_isinstance (by rfl) T.z_int (by decide +kernel) (dp_var 0))) (df_one (DF.dp (df_notV (DF.dp (df_isi "bool" (by rfl) T.z_isinstance (by rfl) T.z_bool (by decide +kernel) (dp_var 0))))))))))
theorem ok__law_whole (T : Txt K mg) : FnOk P w K mg base (L2.CX P w) 1 T.f__law_whole T.d__law_whole ["_law_found"] (spP mg 1 (m_law_whole)) := fn_pure T.F__law_whole sc__law_whole (bd__law_whole T)
theorem bd_is_room (T : Txt K mg) : BodyOk P w K mg base N_is_room "is_room" (defScope s_is_room) T.f_is_room 1 (defBody s_is_room) 1 (g_is_room) := fun cdv A outer s H E hr tk hp =>
    (dss_cons (ds_if (dvt_p (dt_cmp op_gtA vop_cmp (DF.dp (df_callB call_len vlen (by rfl) T.z_len (by decide +kernel) (ds_cons (dp_var 0) ds_nil))) (DF.dp (df_gInt (by rfl) T.c_MOST_QUESTIONS)) rfl)) (dss_one (ds_ret (dv_f df_bl))) dss_nil)
    (dss_cons (ds_for hp rfl (di_rng1 (by rfl) T.z_range (dvs_cons (dv_f (df_callB call_len vlen (by rfl) T.z_len (by decide +kernel) (ds_cons (dp_var 0) ds_nil))) dvs_nil) (fun _ _ _ => msOne)) (dg_name 1 sc_is_room.nd) (dss_cons (ds_if (dvt_p (dt_not (dt_val (DF.dp (df_call (ok_is_name T) (hr.mono (by decide)) (by rfl) T.g_is_name T.F_is_name.kp T.b_is_name (plc pl0) (ds_cons (dp_sub (rm1 hr) (dp_var 0) (dp_var 1) (fun _ _ => rfl) (fun _ _ => rfl)) ds_nil)))))) (dss_one (ds_ret (dv_f df_bl))) dss_nil)
    (dss_one (ds_if (dvt_p (DW.dt (dw_and (dt_cmp op_gtA vop_cmp (dp_var 1) (DF.dp df_int) rfl) (dw_and1 (dt_cmp op_geA vop_cmp (dp_sub (rm1 hr) (dp_var 0) (DF.dp (df_op2 op_sub vop_sub (dp_var 1) (DF.dp df_int))) (fun _ _ => rfl) (fun _ _ => rfl)) (dp_sub (rm1 hr) (dp_var 0) (dp_var 1) (fun _ _ => rfl) (fun _ _ => rfl)) rfl))))) (dss_one (ds_ret (dv_f df_bl))) dss_nil))))
    (dss_one (ds_ret (dv_f df_bl)))))
theorem ok_is_room (T : Txt K mg) : FnOk P w K mg base (L2.CX P w) 2 T.f_is_room T.d_is_room ["names"] (spP mg 1 (m_is_room)) := fn_pure T.F_is_room sc_is_room (bd_is_room T)
theorem bd_is_tally (T : Txt K mg) : BodyOk P w K mg base N_is_tally "is_tally" (defScope s_is_tally) T.f_is_tally 1 (defBody s_is_tally) 2 (g_is_tally) := fun cdv A outer s H E hr tk hp =>
    (dss_cons (ds_for hp rfl (di_rng1 (by rfl) T.z_range (dvs_cons (dv_f (df_callB call_len vlen (by rfl) T.z_len (by decide +kernel) (ds_cons (dp_var 1) ds_nil))) dvs_nil) (fun _ _ _ => msOne)) (dg_name 2 sc_is_tally.nd) (dss_cons (ds_asg (dv_p (dp_sub (rm1 hr) (dp_var 1) (dp_var 2) (fun _ _ => rfl) (fun _ _ => rfl))) (dg_tup 2 (by rfl) (dgs_cons (dg_name 3 sc_is_tally.nd) (dgs_cons (dg_name 4 sc_is_tally.nd) dgs_nil))))
    (dss_cons (ds_if (dvt_p (DW.dt (dw_or (dt_not (dt_val (DF.dp (df_call (ok_is_row T) (hr.mono (by decide)) (by rfl) T.g_is_row T.F_is_row.kp T.b_is_row (plc (plc pl0)) (ds_cons (dp_var 0) (ds_cons (dp_var 3) ds_nil)))))) (dw_or1 (dt_cmp op_ltA vop_cmp (dp_var 4) (DF.dp df_int) rfl))))) (dss_one (ds_ret (dv_f df_bl))) dss_nil)
    (dss_one (ds_if (dvt_p (DW.dt (dw_and (dt_cmp op_gtA vop_cmp (dp_var 2) (DF.dp df_int) rfl) (dw_and1 (dt_cmp (op_geT (rm0 hr)) vop_geR (dp_sub (rm1 hr) (dp_sub (rm1 hr) (dp_var 1) (DF.dp (df_op2 op_sub vop_sub (dp_var 2) (DF.dp df_int))) (fun _ _ => rfl) (fun _ _ => rfl)) (DF.dp df_int) (fun _ _ => rfl) (fun _ _ => rfl)) (dp_var 3) rfl))))) (dss_one (ds_ret (dv_f df_bl))) dss_nil)))))
    (dss_one (ds_ret (dv_f df_bl))))
theorem ok_is_tally (T : Txt K mg) : FnOk P w K mg base (L2.CX P w) 2 T.f_is_tally T.d_is_tally ["room", "rows"] (spP mg 2 (m_is_tally)) := fn_pure T.F_is_tally sc_is_tally (bd_is_tally T)
theorem bd__law_tally_text (T : Txt K mg) : BodyOk P w K mg base N__law_tally_text "_law_tally_text" (defScope s__law_tally_text) T.f__law_tally_text 1 (defBody s__law_tally_text) 1 (g_law_tally_text) := fun cdv A outer s H E hr tk hp =>
    (dss_cons (ds_if (dvt_p (dt_cmp (op_eqD (rm64 hr)) vop_eq (dp_var 0) (DF.dp (df_lst ds_nil)) rfl)) (dss_one (ds_ret (dv_f df_str))) dss_nil)
    (dss_one (ds_ret (dv_f (df_met ty_str PySem.F.plainAttrs_str PySem.F.slot_str_join PySem.F.type_str_join mt_join vjoin (DF.dp df_str) (ds_cons (DF.dp (df_compV (by rfl) (by exact sc__law_tally_text.nd) (dip_seq (dp_var 0)) (blkOk_by (N := N__law_tally_text) (sc := defScope s__law_tally_text) (own := [("_law_row", 1), ("_law_count", 2)]) (by decide +kernel)) (fun s_ H_ C_ cl_ fp_ => (dg_tup 2 (by rfl) (dgs_cons (dg_name 1 sc__law_tally_text.nd) (dgs_cons (dg_name 2 sc__law_tally_text.nd) dgs_nil)))) (fun s_ H_ C_ cl_ fp_ => dts_nil) (fun s_ H_ C_ cl_ fp_ => (df_op2 op_addAll vop_add (DF.dp (df_op2 op_addAll vop_add (DF.dp (df_call (ok__law_row_text T) (hr.mono (by decide)) (by rfl) T.g__law_row_text T.F__law_row_text.kp T.b__law_row_text (plc pl0) (ds_cons (dp_var 1) ds_nil))) (DF.dp df_str))) (DF.dp (df_callTy call_str_int vstr (by rfl) T.z_str (by decide +kernel) (ds_cons (dp_var 2) ds_nil))))))) ds_nil))))))
theorem ok__law_tally_text (T : Txt K mg) : FnOk P w K mg base (L2.CX P w) 2 T.f__law_tally_text T.d__law_tally_text ["_law_rows"] (spP mg 1 (m_law_tally_text)) := fn_pure T.F__law_tally_text sc__law_tally_text (bd__law_tally_text T)
theorem bd__law_word (T : Txt K mg) : BodyOk P w K mg base N__law_word "_law_word" (defScope s__law_word) T.f__law_word 1 (defBody s__law_word) 2 (g_law_word) := fun cdv A outer s H E hr tk hp =>
    (dss_cons (ds_set 2 (dv_f df_str) sc__law_word.nd)
    (dss_one (ds_ret (dv_met ty_str PySem.F.plainAttrs_str PySem.F.slot_str_join PySem.F.type_str_join mt_join vjoin (dv_f df_str) (dvs_cons (dv_compV (by rfl) (by exact sc__law_word.nd) (di_rng1 (by rfl) T.z_range (dvs_cons (dv_p (dp_var 1)) dvs_nil) (fun _ _ _ => msOne)) (blkOk_by (N := N__law_word) (sc := defScope s__law_word) (own := [("_law_k", 3)]) (by decide +kernel)) (fun s_ H_ C_ cl_ fp_ => (dg_name 3 sc__law_word.nd)) (fun s_ H_ C_ cl_ fp_ => dvts_nil) (fun s_ H_ C_ cl_ fp_ => (dv_ixL 2 ix_seq vix (dv_callIO (ok__law_pull T) (hr.mono (by decide)) takes0 (by rfl) T.g__law_pull T.F__law_pull.kp T.b__law_pull rfl (als (alv al0)) (da_slot 0 (da_val (dv_f df_int) da_nil))) (fun _ _ => rfl)))) dvs_nil)))))
theorem ok__law_word (T : Txt K mg) : FnOk P w K mg base (L2.CX P w) 2 T.f__law_word T.d__law_word ["_law_bag_here", "_law_size"] (spIO mg 2 (m_law_word)) := fn_io T.F__law_word sc__law_word (bd__law_word T)
theorem bd__law_answers (T : Txt K mg) : BodyOk P w K mg base N__law_answers "_law_answers" (defScope s__law_answers) T.f__law_answers 1 (defBody s__law_answers) 3 (g_law_answers) := fun cdv A outer s H E hr tk hp =>
    (dss_one (ds_ret (dv_callTy call_tuple_of vtuple (by rfl) T.z_tuple (by decide +kernel) (dvs_cons (dv_compV (by rfl) (by exact sc__law_answers.nd) (di_rng1 (by rfl) T.z_range (dvs_cons (dv_p (dp_var 1)) dvs_nil) (fun _ _ _ => msOne)) (blkOk_by (N := N__law_answers) (sc := defScope s__law_answers) (own := [("_law_k", 3)]) (by decide +kernel)) (fun s_ H_ C_ cl_ fp_ => (dg_name 3 sc__law_answers.nd)) (fun s_ H_ C_ cl_ fp_ => dvts_nil) (fun s_ H_ C_ cl_ fp_ => (dv_callIO (ok__law_pull T) (hr.mono (by decide)) takes0 (by rfl) T.g__law_pull T.F__law_pull.kp T.b__law_pull rfl (als (als al0)) (da_slot 0 (da_slot 2 da_nil))))) dvs_nil))))
theorem ok__law_answers (T : Txt K mg) : FnOk P w K mg base (L2.CX P w) 2 T.f__law_answers T.d__law_answers ["_law_bag_here", "_law_size", "_law_base"] (spIO mg 3 (m_law_answers)) := fn_io T.F__law_answers sc__law_answers (bd__law_answers T)
theorem bd__law_many (T : Txt K mg) : BodyOk P w K mg base N__law_many "_law_many" (defScope s__law_many) T.f__law_many 1 (defBody s__law_many) 1 (g_law_many) := fun cdv A outer s H E hr tk hp =>
    (dss_one (ds_ret (dv_op2 op_addAll vop_add (dv_f df_int) (dv_callIO (ok__law_pull T) (hr.mono (by decide)) tk (by rfl) T.g__law_pull T.F__law_pull.kp T.b__law_pull rfl (als (alv al0)) (da_slot 0 (da_val (dv_ix ix_seq vix (dv_f (df_lst (ds_cons (DF.dp df_int) (ds_cons (DF.dp df_int) (ds_cons (DF.dp df_int) (ds_cons (DF.dp (df_op2 op_pow vop_pow (DF.dp df_int) (DF.dp df_int))) ds_nil)))))) (dv_callIO (ok__law_pull T) (hr.mono (by decide)) tk (by rfl) T.g__law_pull T.F__law_pull.kp T.b__law_pull rfl (als (alv al0)) (da_slot 0 (da_val (dv_f df_int) da_nil))) (fun _ _ => rfl)) da_nil))))))
theorem ok__law_many (T : Txt K mg) : FnOk P w K mg base (L2.CX P w) 2 T.f__law_many T.d__law_many ["_law_bag_here"] (spIO mg 1 (m_law_many)) := fn_io T.F__law_many sc__law_many (bd__law_many T)
theorem bd__law_signed (T : Txt K mg) : BodyOk P w K mg base N__law_signed "_law_signed" (defScope s__law_signed) T.f__law_signed 1 (defBody s__law_signed) 2 (g_law_signed_2) := fun cdv A outer s H E hr tk hp =>
    (dss_cons (ds_set 2 (dv_f df_str) sc__law_signed.nd)
    (dss_cons (ds_set 3 (dv_callIO (ok__law_pull T) (hr.mono (by decide)) tk (by rfl) T.g__law_pull T.F__law_pull.kp T.b__law_pull rfl (als (alv al0)) (da_slot 0 (da_val (dv_f (df_op2 op_addAll vop_add (DF.dp (df_callB call_len vlen (by rfl) T.z_len (by decide +kernel) (ds_cons (dp_var 1) ds_nil))) (DF.dp df_int))) da_nil))) sc__law_signed.nd)
    (dss_cons (ds_set 4 (dv_ixL 2 ix_seq vix (dv_callIO (ok__law_pull T) (hr.mono (by decide)) tk (by rfl) T.g__law_pull T.F__law_pull.kp T.b__law_pull rfl (als (alv al0)) (da_slot 0 (da_val (dv_f (df_callB call_len vlen (by rfl) T.z_len (by decide +kernel) (ds_cons (dp_var 2) ds_nil))) da_nil))) (fun _ _ => rfl)) sc__law_signed.nd)
    (dss_cons (ds_set 5 (dv_callIO (ok__law_pull T) (hr.mono (by decide)) tk (by rfl) T.g__law_pull T.F__law_pull.kp T.b__law_pull rfl (als (alv al0)) (da_slot 0 (da_val (dv_f df_int) da_nil))) sc__law_signed.nd)
    (dss_cons (ds_if (dvt_p (dt_cmp (op_eqD (rm64 hr)) vop_eq (dp_var 5) (DF.dp df_int) rfl)) (dss_one (ds_ret (dv_f (df_op2 op_addAll vop_add (DF.dp (df_op2 op_addAll vop_add (DF.dp (df_sl (dp_var 1) dpo_none (dpo_some (dp_var 3)))) (dp_var 4))) (DF.dp (df_sl (dp_var 1) (dpo_some (dp_var 3)) dpo_none)))))) dss_nil)
    (dss_cons (ds_if (dvt_p (dt_cmp (op_eqD (rm64 hr)) vop_eq (dp_var 5) (DF.dp df_int) rfl)) (dss_one (ds_ret (dv_f (df_op2 op_addAll vop_add (DF.dp (df_op2 op_addAll vop_add (DF.dp (df_sl (dp_var 1) dpo_none (dpo_some (dp_var 3)))) (dp_var 4))) (DF.dp (df_sl (dp_var 1) (dpo_some (DF.dp (df_op2 op_addAll vop_add (dp_var 3) (DF.dp df_int)))) dpo_none)))))) dss_nil)
    (dss_one (ds_ret (dv_f (df_op2 op_addAll vop_add (DF.dp (df_sl (dp_var 1) dpo_none (dpo_some (dp_var 3)))) (DF.dp (df_sl (dp_var 1) (dpo_some (DF.dp (df_op2 op_addAll vop_add (dp_var 3) (DF.dp df_int)))) dpo_none))))))))))))
theorem ok__law_signed (T : Txt K mg) : FnOk P w K mg base (L2.CX P w) 2 T.f__law_signed T.d__law_signed ["_law_bag_here", "_law_line"] (spIO mg 2 (m_law_signed_2)) := fn_io T.F__law_signed sc__law_signed (bd__law_signed T)
theorem bd__law_row_in (T : Txt K mg) : BodyOk P w K mg base N__law_row_in "_law_row_in" (defScope s__law_row_in) T.f__law_row_in 1 (defBody s__law_row_in) 1 (g_law_row_in) := fun cdv A outer s H E hr tk hp =>
    (dss_cons (ds_if (dvt_p (dt_cmp (op_eqD (rm64 hr)) vop_eq (dp_var 0) (DF.dp df_str) rfl)) (dss_one (ds_ret (dv_f (df_tup ds_nil)))) dss_nil)
    (dss_cons (ds_setLcP 1 (by rfl) (by exact sc__law_row_in.nd) (dip_seq (DF.dp (df_met ty_str PySem.F.plainAttrs_str PySem.F.slot_str_split PySem.F.type_str_split mt_split vsplit (dp_var 0) (ds_cons (DF.dp df_str) ds_nil)))) (blkOk_by (N := N__law_row_in) (sc := defScope s__law_row_in) (own := [("_law_part", 2)]) (by decide +kernel)) (fun s_ H_ C_ cl_ fp_ => (dg_name 2 sc__law_row_in.nd)) (fun s_ H_ C_ cl_ fp_ => dts_nil) (fun s_ H_ C_ cl_ fp_ => (df_call (ok__law_figures T) (hr.mono (by decide)) (by rfl) T.g__law_figures T.F__law_figures.kp T.b__law_figures (plc pl0) (ds_cons (dp_var 2) ds_nil))))
    (dss_cons (ds_if (dvt_p (DW.dt (dw_or (dt_cmp op_gtA vop_cmp (DF.dp (df_callB call_len vlen (by rfl) T.z_len (by decide +kernel) (ds_cons (dp_var 1) ds_nil))) (DF.dp df_int) rfl) (dw_or1 (dt_not (dt_val (DF.dp (df_callB (cr_all rfl) vall (by rfl) T.z_all (by decide +kernel) (ds_cons (DF.dp (df_compV (by rfl) (by exact sc__law_row_in.nd) (dip_seq (dp_var 1)) (blkOk_by (N := N__law_row_in) (sc := defScope s__law_row_in) (own := [("_law_answer", 3)]) (by decide +kernel)) (fun s_ H_ C_ cl_ fp_ => (dg_name 3 sc__law_row_in.nd)) (fun s_ H_ C_ cl_ fp_ => dts_nil) (fun s_ H_ C_ cl_ fp_ => (df_chain op_leA vop_cmp op_leA vop_cmp (DF.dp df_int) (dp_var 3) (DF.dp df_int))))) ds_nil))))))))) (dss_one (ds_ret (dv_f df_non))) dss_nil)
    (dss_one (ds_ret (dv_f (df_callTy call_tuple_of vtuple (by rfl) T.z_tuple (by decide +kernel) (ds_cons (dp_var 1) ds_nil))))))))
theorem ok__law_row_in (T : Txt K mg) : FnOk P w K mg base (L2.CX P w) 2 T.f__law_row_in T.d__law_row_in ["_law_word_here"] (spP mg 1 (m_law_row_in)) := fn_pure T.F__law_row_in sc__law_row_in (bd__law_row_in T)
theorem bd_number_of (T : Txt K mg) : BodyOk P w K mg base N_number_of "number_of" (defScope s_number_of) T.f_number_of 2 (defBody s_number_of) 1 (g_number_of) := fun cdv A outer s H E hr tk hp =>
    (dss_cons (ds_if (dvt_p (dt_not (dt_chain op_leA vop_cmp op_leA vop_cmp (DF.dp df_int) (DF.dp (df_callB call_len vlen (by rfl) T.z_len (by decide +kernel) (ds_cons (dp_var 0) ds_nil))) (DF.dp (df_gInt (by rfl) T.c_MOST_FIGURES))))) (dss_one (ds_raiseI (by rfl) tk T.gC_BadText T.oX_BadText T.iX_BadText T.tX_BadText (ok_init_BadText T) (hr.mono (by decide)) T.bX_BadText T.nX_BadText (by rfl) (DF.dp df_int))) dss_nil)
    (dss_cons (ds_for hp rfl (di_seq (dv_p (dp_var 0))) (dg_name 1 sc_number_of.nd) (dss_one (ds_if (dvt_p (dt_cmp (op_notInAll (rm65 hr)) vop_notIn (dp_var 1) (DF.dp (df_gStr (by rfl) T.c_FIGURES)) rfl)) (dss_one (ds_raiseI (by rfl) tk T.gC_BadText T.oX_BadText T.iX_BadText T.tX_BadText (ok_init_BadText T) (hr.mono (by decide)) T.bX_BadText T.nX_BadText (by rfl) (DF.dp df_int))) dss_nil)))
    (dss_cons (ds_if (dvt_p (DW.dt (dw_and (dt_cmp (op_eqD (rm64 hr)) vop_eq (dp_sub (rm1 hr) (dp_var 0) (DF.dp df_int) (fun _ _ => rfl) (fun _ _ => rfl)) (DF.dp df_str) rfl) (dw_and1 (dt_cmp op_gtA vop_cmp (DF.dp (df_callB call_len vlen (by rfl) T.z_len (by decide +kernel) (ds_cons (dp_var 0) ds_nil))) (DF.dp df_int) rfl))))) (dss_one (ds_raiseI (by rfl) tk T.gC_BadText T.oX_BadText T.iX_BadText T.tX_BadText (ok_init_BadText T) (hr.mono (by decide)) T.bX_BadText T.nX_BadText (by rfl) (DF.dp df_int))) dss_nil)
    (dss_one (ds_ret (dv_f (df_callTy call_intAll vint1 (by rfl) T.z_int (by decide +kernel) (ds_cons (dp_var 0) ds_nil))))))))
theorem ok_number_of (T : Txt K mg) : FnOk P w K mg base (L2.CX P w) 3 T.f_number_of T.d_number_of ["word"] (spP mg 1 (m_number_of)) := fn_pure T.F_number_of sc_number_of (bd_number_of T)
theorem bd_name_of (T : Txt K mg) : BodyOk P w K mg base N_name_of "name_of" (defScope s_name_of) T.f_name_of 2 (defBody s_name_of) 1 (g_name_of) := fun cdv A outer s H E hr tk hp =>
    (dss_cons (ds_if (dvt_p (dt_not (dt_val (DF.dp (df_call (ok_is_name T) (hr.mono (by decide)) (by rfl) T.g_is_name T.F_is_name.kp T.b_is_name (plc pl0) (ds_cons (dp_var 0) ds_nil)))))) (dss_one (ds_raiseI (by rfl) tk T.gC_BadText T.oX_BadText T.iX_BadText T.tX_BadText (ok_init_BadText T) (hr.mono (by decide)) T.bX_BadText T.nX_BadText (by rfl) (DF.dp df_int))) dss_nil)
    (dss_one (ds_ret (dv_move 0))))
theorem ok_name_of (T : Txt K mg) : FnOk P w K mg base (L2.CX P w) 3 T.f_name_of T.d_name_of ["word"] (spP mg 1 (m_name_of)) := fn_pure T.F_name_of sc_name_of (bd_name_of T)
theorem bd_room_of (T : Txt K mg) : BodyOk P w K mg base N_room_of "room_of" (defScope s_room_of) T.f_room_of 2 (defBody s_room_of) 1 (g_room_of) := fun cdv A outer s H E hr tk hp =>
    (dss_cons (ds_if (dvt_p (dt_cmp (op_eqD (rm64 hr)) vop_eq (dp_var 0) (DF.dp df_str) rfl)) (dss_one (ds_ret (dv_f (df_tup ds_nil)))) dss_nil)
    (dss_cons (ds_set 1 (dv_f (df_callTy call_tupleZ vtupleZ (by rfl) T.z_tuple (by decide +kernel) (ds_cons (DF.dp (df_met ty_str PySem.F.plainAttrs_str PySem.F.slot_str_split PySem.F.type_str_split mt_split vsplit (dp_var 0) (ds_cons (DF.dp df_str) ds_nil))) ds_nil))) sc_room_of.nd)
    (dss_cons (ds_if (dvt_p (dt_not (dt_val (DF.dp (df_call (ok_is_room T) (hr.mono (by decide)) (by rfl) T.g_is_room T.F_is_room.kp T.b_is_room (plc pl0) (ds_cons (dp_var 1) ds_nil)))))) (dss_one (ds_raiseI (by rfl) tk T.gC_BadText T.oX_BadText T.iX_BadText T.tX_BadText (ok_init_BadText T) (hr.mono (by decide)) T.bX_BadText T.nX_BadText (by rfl) (DF.dp df_int))) dss_nil)
    (dss_one (ds_ret (dv_move 1))))))
theorem ok_room_of (T : Txt K mg) : FnOk P w K mg base (L2.CX P w) 3 T.f_room_of T.d_room_of ["word"] (spP mg 1 (m_room_of)) := fn_pure T.F_room_of sc_room_of (bd_room_of T)
theorem bd__law_deed_text (T : Txt K mg) : BodyOk P w K mg base N__law_deed_text "_law_deed_text" (defScope s__law_deed_text) T.f__law_deed_text 2 (defBody s__law_deed_text) 1 (g_law_deed_text_2) := fun cdv A outer s H E hr tk hp =>
    (dss_cons (ds_if (dvt_p (dt_cmp (op_eqD (rm64 hr)) vop_eq (dp_sub (rm1 hr) (dp_var 0) (DF.dp df_int) (fun _ _ => rfl) (fun _ _ => rfl)) (DF.dp df_str) rfl)) (dss_one (ds_ret (dv_met ty_str PySem.F.plainAttrs_str PySem.F.slot_str_join PySem.F.type_str_join mt_join vjoin (dv_f df_str) (dvs_cons (dv_lst (dvs_cons (dv_f df_str) (dvs_cons (dv_p (dp_sub (rm1 hr) (dp_var 0) (DF.dp df_int) (fun _ _ => rfl) (fun _ _ => rfl))) (dvs_cons (dv_f (df_call (ok__law_room_text T) (hr.mono (by decide)) (by rfl) T.g__law_room_text T.F__law_room_text.kp T.b__law_room_text (plc pl0) (ds_cons (dp_sub (rm1 hr) (dp_var 0) (DF.dp df_int) (fun _ _ => rfl) (fun _ _ => rfl)) ds_nil))) (dvs_cons (dv_f (df_call (ok__law_tally_text T) (hr.mono (by decide)) (by rfl) T.g__law_tally_text T.F__law_tally_text.kp T.b__law_tally_text (plc pl0) (ds_cons (dp_sub (rm1 hr) (dp_var 0) (DF.dp df_int) (fun _ _ => rfl) (fun _ _ => rfl)) ds_nil))) dvs_nil))))) dvs_nil)))) dss_nil)
    (dss_cons (ds_set 1 (dv_f (df_lst (ds_cons (dp_sub (rm1 hr) (dp_var 0) (DF.dp df_int) (fun _ _ => rfl) (fun _ _ => rfl)) ds_nil))) sc__law_deed_text.nd)
    (dss_cons (ds_for hp rfl (di_seq (dv_f (df_sl (dp_var 0) (dpo_some (DF.dp df_int)) dpo_none))) (dg_name 2 sc__law_deed_text.nd) (dss_one (ds_if (dvt_p (dt_val (DF.dp (df_isi "tuple" (by rfl) T.z_isinstance (by rfl) T.z_tuple (by decide +kernel) (dp_var 2))))) (dss_one (ds_expr (dv_meth 1 PySem.F.slot_list_append PySem.F.type_list_append mt_append vm_append (dvs_cons (dv_f (df_call (ok__law_row_text T) (hr.mono (by decide)) (by rfl) T.g__law_row_text T.F__law_row_text.kp T.b__law_row_text (plc pl0) (ds_cons (dp_var 2) ds_nil))) dvs_nil)))) (dss_one (ds_expr (dv_meth 1 PySem.F.slot_list_append PySem.F.type_list_append mt_append vm_append (dvs_cons (dv_f (df_callTy call_strX vstrX (by rfl) T.z_str (by decide +kernel) (ds_cons (dp_var 2) ds_nil))) dvs_nil)))))))
    (dss_one (ds_ret (dv_f (df_met ty_str PySem.F.plainAttrs_str PySem.F.slot_str_join PySem.F.type_str_join mt_join vjoin (DF.dp df_str) (ds_cons (dp_var 1) ds_nil))))))))
theorem ok__law_deed_text (T : Txt K mg) : FnOk P w K mg base (L2.CX P w) 3 T.f__law_deed_text T.d__law_deed_text ["_law_deed"] (spP mg 1 (m_law_deed_text_2)) := fn_pure T.F__law_deed_text sc__law_deed_text (bd__law_deed_text T)
theorem bd__law_names (T : Txt K mg) : BodyOk P w K mg base N__law_names "_law_names" (defScope s__law_names) T.f__law_names 2 (defBody s__law_names) 2 (g_law_names) := fun cdv A outer s H E hr tk hp =>
    (dss_cons (ds_set 2 (dv_f df_str) sc__law_names.nd)
    (dss_cons (ds_set 3 (dv_f (df_lst ds_nil)) sc__law_names.nd)
    (dss_cons (ds_set 4 (dv_callIO (ok__law_word T) (hr.mono (by decide)) tk (by rfl) T.g__law_word T.F__law_word.kp T.b__law_word rfl (als (alv al0)) (da_slot 0 (da_val (dv_ix ix_seq vix (dv_f (df_lst (ds_cons (DF.dp df_int) (ds_cons (DF.dp df_int) (ds_cons (DF.dp df_int) (ds_cons (DF.dp df_int) ds_nil)))))) (dv_callIO (ok__law_pull T) (hr.mono (by decide)) tk (by rfl) T.g__law_pull T.F__law_pull.kp T.b__law_pull rfl (als (alv al0)) (da_slot 0 (da_val (dv_f df_int) da_nil))) (fun _ _ => rfl)) da_nil))) sc__law_names.nd)
    (dss_cons (ds_for hp rfl (di_rng1 (by rfl) T.z_range (dvs_cons (dv_p (dp_var 1)) dvs_nil) (fun _ _ _ => msOne)) (dg_name 5 sc__law_names.nd) (dss_cons (ds_set 6 (dv_op2 op_addAll vop_add (dv_p (dp_var 4)) (dv_callIO (ok__law_word T) (hr.mono (by decide)) tk (by rfl) T.g__law_word T.F__law_word.kp T.b__law_word rfl (als (alv al0)) (da_slot 0 (da_val (dv_op2 op_addAll vop_add (dv_f df_int) (dv_callIO (ok__law_pull T) (hr.mono (by decide)) tk (by rfl) T.g__law_pull T.F__law_pull.kp T.b__law_pull rfl (als (alv al0)) (da_slot 0 (da_val (dv_f (df_op2 op_sub vop_sub (DF.dp df_int) (DF.dp (df_callB call_len vlen (by rfl) T.z_len (by decide +kernel) (ds_cons (dp_var 4) ds_nil))))) da_nil)))) da_nil)))) sc__law_names.nd)
    (dss_cons (ds_for hp rfl (di_rng1 (by rfl) T.z_range (dvs_cons (dv_f df_int) dvs_nil) (fun _ _ _ => msOne)) (dg_name 7 sc__law_names.nd) (dss_one (ds_if (dvt_p (dt_cmp (op_inAll (rm65 hr)) vop_in (dp_var 6) (dp_var 3) rfl)) (dss_one (ds_set 6 (dv_f (df_op2 op_addAll vop_add (DF.dp (df_sl (dp_var 6) dpo_none (dpo_some (DF.dp (df_op1 un_neg vop_neg (DF.dp df_int)))))) (dp_sub (rm1 hr) (dp_var 2) (dp_var 7) (fun _ _ => rfl) (fun _ _ => rfl)))) sc__law_names.nd)) dss_nil)))
    (dss_one (ds_expr (dv_meth 3 PySem.F.slot_list_append PySem.F.type_list_append mt_append vm_append (dvs_cons (dv_p (dp_var 6)) dvs_nil)))))))
    (dss_one (ds_ret (dv_move 3)))))))
theorem ok__law_names (T : Txt K mg) : FnOk P w K mg base (L2.CX P w) 3 T.f__law_names T.d__law_names ["_law_bag_here", "_law_many_here"] (spIO mg 2 (m_law_names)) := fn_io T.F__law_names sc__law_names (bd__law_names T)
theorem bd__law_drawn (T : Txt K mg) : BodyOk P w K mg base N__law_drawn "_law_drawn" (defScope s__law_drawn) T.f__law_drawn 2 (defBody s__law_drawn) 2 (g_law_drawn) := fun cdv A outer s H E hr tk hp =>
    (dss_cons (ds_set 2 (dv_f df_dnewT) sc__law_drawn.nd)
    (dss_cons (ds_set 3 (dv_ix ix_seq vix (dv_f (df_lst (ds_cons (DF.dp df_int) (ds_cons (DF.dp df_int) (ds_cons (DF.dp df_int) (ds_cons (DF.dp df_int) ds_nil)))))) (dv_callIO (ok__law_pull T) (hr.mono (by decide)) tk (by rfl) T.g__law_pull T.F__law_pull.kp T.b__law_pull rfl (als (alv al0)) (da_slot 0 (da_val (dv_f df_int) da_nil))) (fun _ _ => rfl)) sc__law_drawn.nd)
    (dss_cons (ds_for hp rfl (di_rng1 (by rfl) T.z_range (dvs_cons (dv_ix ix_seq vix (dv_f (df_lst (ds_cons (DF.dp df_int) (ds_cons (DF.dp df_int) (ds_cons (DF.dp df_int) (ds_cons (DF.dp df_int) (ds_cons (DF.dp df_int) (ds_cons (DF.dp df_int) (ds_cons (DF.dp df_int) (ds_cons (DF.dp df_int) (ds_cons (DF.dp df_int) (ds_cons (DF.dp df_int) ds_nil)))))))))))) (dv_callIO (ok__law_pull T) (hr.mono (by decide)) tk (by rfl) T.g__law_pull T.F__law_pull.kp T.b__law_pull rfl (als (alv al0)) (da_slot 0 (da_val (dv_f df_int) da_nil))) (fun _ _ => rfl)) dvs_nil) (fun _ _ _ => msOne)) (dg_name 4 sc__law_drawn.nd) (dss_one (ds_put 2 (rm1 hr) (dv_callIO (ok__law_many T) (hr.mono (by decide)) tk (by rfl) T.g__law_many T.F__law_many.kp T.b__law_many rfl (als al0) (da_slot 0 da_nil)) (dv_callIO (ok__law_answers T) (hr.mono (by decide)) tk (by rfl) T.g__law_answers T.F__law_answers.kp T.b__law_answers rfl (als (alv (als al0))) (da_slot 0 (da_val (dv_f (df_callB call_len vlen (by rfl) T.z_len (by decide +kernel) (ds_cons (dp_var 1) ds_nil))) (da_slot 3 da_nil)))))))
    (dss_one (ds_ret (dv_f (df_call (ok__law_settled T) (hr.mono (by decide)) (by rfl) T.g__law_settled T.F__law_settled.kp T.b__law_settled (plc pl0) (ds_cons (dp_var 2) ds_nil))))))))
theorem ok__law_drawn (T : Txt K mg) : FnOk P w K mg base (L2.CX P w) 3 T.f__law_drawn T.d__law_drawn ["_law_bag_here", "_law_room"] (spIO mg 2 (m_law_drawn)) := fn_io T.F__law_drawn sc__law_drawn (bd__law_drawn T)
theorem bd__law_spoilt_line (T : Txt K mg) : BodyOk P w K mg base N__law_spoilt_line "_law_spoilt_line" (defScope s__law_spoilt_line) T.f__law_spoilt_line 2 (defBody s__law_spoilt_line) 2 (g_law_spoilt_line) := fun cdv A outer s H E hr tk hp =>
    (dss_cons (ds_set 2 (dv_f (df_met ty_str PySem.F.plainAttrs_str PySem.F.slot_str_split PySem.F.type_str_split mt_split vsplit (dp_var 1) (ds_cons (DF.dp df_str) ds_nil))) sc__law_spoilt_line.nd)
    (dss_cons (ds_set 3 (dv_callIO (ok__law_pull T) (hr.mono (by decide)) tk (by rfl) T.g__law_pull T.F__law_pull.kp T.b__law_pull rfl (als (alv al0)) (da_slot 0 (da_val (dv_f (df_callB call_len vlen (by rfl) T.z_len (by decide +kernel) (ds_cons (dp_var 2) ds_nil))) da_nil))) sc__law_spoilt_line.nd)
    (dss_cons (ds_set 4 (dv_callIO (ok__law_pull T) (hr.mono (by decide)) tk (by rfl) T.g__law_pull T.F__law_pull.kp T.b__law_pull rfl (als (alv al0)) (da_slot 0 (da_val (dv_f df_int) da_nil))) sc__law_spoilt_line.nd)
    (dss_cons (ds_if (dvt_p (dt_cmp op_ltA vop_cmp (dp_var 4) (DF.dp df_int) rfl)) (dss_one (ds_ret (dv_callIO (ok__law_signed T) (hr.mono (by decide)) tk (by rfl) T.g__law_signed T.F__law_signed.kp T.b__law_signed rfl (als (als al0)) (da_slot 0 (da_slot 1 da_nil))))) dss_nil)
    (dss_cons (ds_if (dvt_p (dt_cmp (op_eqD (rm64 hr)) vop_eq (dp_var 4) (DF.dp df_int) rfl)) (dss_one (ds_expr (dv_meth 2 PySem.F.slot_list_pop PySem.F.type_list_pop mt_pops vm_pop (dvs_cons (dv_p (dp_var 3)) dvs_nil)))) dss_nil)
    (dss_cons (ds_if (dvt_p (dt_cmp (op_eqD (rm64 hr)) vop_eq (dp_var 4) (DF.dp df_int) rfl)) (dss_one (ds_expr (dv_meth 2 PySem.F.slot_list_insert PySem.F.type_list_insert mt_insert vm_insert (dvs_cons (dv_p (dp_var 3)) (dvs_cons (dv_p (dp_sub (rm1 hr) (dp_var 2) (dp_var 3) (fun _ _ => rfl) (fun _ _ => rfl))) dvs_nil))))) dss_nil)
    (dss_cons (ds_if (dvt_p (dt_cmp (op_eqD (rm64 hr)) vop_eq (dp_var 4) (DF.dp df_int) rfl)) (dss_one (ds_expr (dv_meth 2 PySem.F.slot_list_append PySem.F.type_list_append mt_append vm_append (dvs_cons (dv_meth 2 PySem.F.slot_list_pop PySem.F.type_list_pop mt_pops vm_pop (dvs_cons (dv_p (dp_var 3)) dvs_nil)) dvs_nil)))) dss_nil)
    (dss_cons (ds_if (dvt_p (dt_cmp (op_eqD (rm64 hr)) vop_eq (dp_var 4) (DF.dp df_int) rfl)) (dss_cons (ds_set 5 (dv_f (df_lst (ds_cons (DF.dp df_str) (ds_cons (DF.dp df_str) (ds_cons (DF.dp df_str) (ds_cons (DF.dp df_str) (ds_cons (DF.dp (df_op2 op_repS vop_mulS (DF.dp df_str) (DF.dp df_int))) (ds_cons (DF.dp df_str) (ds_cons (DF.dp df_str) (ds_cons (DF.dp df_str) (ds_cons (DF.dp df_str) (ds_cons (DF.dp df_str) (ds_cons (DF.dp df_str) (ds_cons (DF.dp df_str) (ds_cons (DF.dp df_str) ds_nil))))))))))))))) sc__law_spoilt_line.nd)
    (dss_one (ds_put 2 (rm1 hr) (dv_ixL 5 ix_seq vix (dv_callIO (ok__law_pull T) (hr.mono (by decide)) tk (by rfl) T.g__law_pull T.F__law_pull.kp T.b__law_pull rfl (als (alv al0)) (da_slot 0 (da_val (dv_f df_int) da_nil))) (fun _ _ => rfl)) (dv_p (dp_var 3))))) dss_nil)
    (dss_cons (ds_ifRep 4 2 3 (rm1 hr) (rm64 hr) (by decide +kernel))
    (dss_one (ds_ret (dv_f (df_met ty_str PySem.F.plainAttrs_str PySem.F.slot_str_join PySem.F.type_str_join mt_join vjoin (DF.dp df_str) (ds_cons (dp_var 2) ds_nil))))))))))))))
theorem ok__law_spoilt_line (T : Txt K mg) : FnOk P w K mg base (L2.CX P w) 3 T.f__law_spoilt_line T.d__law_spoilt_line ["_law_bag_here", "_law_line"] (spIO mg 2 (m_law_spoilt_line)) := fn_io T.F__law_spoilt_line sc__law_spoilt_line (bd__law_spoilt_line T)
theorem bd__law_room_in (T : Txt K mg) : BodyOk P w K mg base N__law_room_in "_law_room_in" (defScope s__law_room_in) T.f__law_room_in 2 (defBody s__law_room_in) 1 (g_law_room_in) := fun cdv A outer s H E hr tk hp =>
    (dss_cons (ds_if (dvt_p (dt_cmp (op_eqD (rm64 hr)) vop_eq (dp_var 0) (DF.dp df_str) rfl)) (dss_one (ds_ret (dv_f (df_tup ds_nil)))) dss_nil)
    (dss_cons (ds_set 1 (dv_f (df_callTy call_tupleZ vtupleZ (by rfl) T.z_tuple (by decide +kernel) (ds_cons (DF.dp (df_met ty_str PySem.F.plainAttrs_str PySem.F.slot_str_split PySem.F.type_str_split mt_split vsplit (dp_var 0) (ds_cons (DF.dp df_str) ds_nil))) ds_nil))) sc__law_room_in.nd)
    (dss_cons (ds_if (dvt_p (dt_not (dt_val (DF.dp (df_call (ok_is_room T) (hr.mono (by decide)) (by rfl) T.g_is_room T.F_is_room.kp T.b_is_room (plc pl0) (ds_cons (dp_var 1) ds_nil)))))) (dss_one (ds_ret (dv_f df_non))) dss_nil)
    (dss_one (ds_ret (dv_move 1))))))
theorem ok__law_room_in (T : Txt K mg) : FnOk P w K mg base (L2.CX P w) 3 T.f__law_room_in T.d__law_room_in ["_law_word_here"] (spP mg 1 (m_law_room_in)) := fn_pure T.F__law_room_in sc__law_room_in (bd__law_room_in T)
theorem bd__law_tally_in (T : Txt K mg) : BodyOk P w K mg base N__law_tally_in "_law_tally_in" (defScope s__law_tally_in) T.f__law_tally_in 2 (defBody s__law_tally_in) 2 (g_law_tally_in) := fun cdv A outer s H E hr tk hp =>
    (dss_cons (ds_if (dvt_p (dt_cmp (op_eqD (rm64 hr)) vop_eq (dp_var 1) (DF.dp (df_lst (ds_cons (DF.dp df_str) ds_nil))) rfl)) (dss_one (ds_ret (dv_f (df_lst ds_nil)))) dss_nil)
    (dss_cons (ds_set 2 (dv_f (df_lst ds_nil)) sc__law_tally_in.nd)
    (dss_cons (ds_for hp rfl (di_seq (dv_p (dp_var 1))) (dg_name 3 sc__law_tally_in.nd) (dss_cons (ds_set 4 (dv_f (df_met ty_str PySem.F.plainAttrs_str PySem.F.slot_str_split PySem.F.type_str_split mt_split vsplit (dp_var 3) (ds_cons (DF.dp df_str) ds_nil))) sc__law_tally_in.nd)
    (dss_cons (ds_if (dvt_p (DW.dt (dw_or (dt_cmp (op_neD (rm64 hr)) vop_ne (DF.dp (df_callB call_len vlen (by rfl) T.z_len (by decide +kernel) (ds_cons (dp_var 4) ds_nil))) (DF.dp df_int) rfl) (dw_or (dt_cmp op_isN vop_isN (DF.dp (df_call (ok__law_row_in T) (hr.mono (by decide)) (by rfl) T.g__law_row_in T.F__law_row_in.kp T.b__law_row_in (plc pl0) (ds_cons (dp_sub (rm1 hr) (dp_var 4) (DF.dp df_int) (fun _ _ => rfl) (fun _ _ => rfl)) ds_nil))) (DF.dp df_non) rfl) (dw_or1 (dt_cmp op_ltA vop_cmp (DF.dp (df_call (ok__law_figures T) (hr.mono (by decide)) (by rfl) T.g__law_figures T.F__law_figures.kp T.b__law_figures (plc pl0) (ds_cons (dp_sub (rm1 hr) (dp_var 4) (DF.dp df_int) (fun _ _ => rfl) (fun _ _ => rfl)) ds_nil))) (DF.dp df_int) rfl)))))) (dss_one (ds_ret (dv_f df_non))) dss_nil)
    (dss_cons (ds_set 5 (dv_f (df_call (ok__law_row_in T) (hr.mono (by decide)) (by rfl) T.g__law_row_in T.F__law_row_in.kp T.b__law_row_in (plc pl0) (ds_cons (dp_sub (rm1 hr) (dp_var 4) (DF.dp df_int) (fun _ _ => rfl) (fun _ _ => rfl)) ds_nil))) sc__law_tally_in.nd)
    (dss_cons (ds_if (dvt_p (DW.dt (dw_or (dt_cmp (op_neD (rm64 hr)) vop_ne (DF.dp (df_callB call_len vlen (by rfl) T.z_len (by decide +kernel) (ds_cons (dp_var 5) ds_nil))) (DF.dp (df_callB call_len vlen (by rfl) T.z_len (by decide +kernel) (ds_cons (dp_var 0) ds_nil))) rfl) (dw_or1 (DW.dt (dw_and (dt_cmp (op_neD (rm64 hr)) vop_ne (dp_var 2) (DF.dp (df_lst ds_nil)) rfl) (dw_and1 (dt_cmp (op_geT (rm0 hr)) vop_geR (dp_sub (rm1 hr) (dp_sub (rm1 hr) (dp_var 2) (DF.dp (df_op1 un_neg vop_neg (DF.dp df_int))) (fun _ _ => rfl) (fun _ _ => rfl)) (DF.dp df_int) (fun _ _ => rfl) (fun _ _ => rfl)) (dp_var 5) rfl)))))))) (dss_one (ds_ret (dv_f df_non))) dss_nil)
    (dss_one (ds_expr (dv_meth 2 PySem.F.slot_list_append PySem.F.type_list_append mt_append vm_append (dvs_cons (dv_tup (dvs_cons (dv_p (dp_var 5)) (dvs_cons (dv_f (df_call (ok__law_figures T) (hr.mono (by decide)) (by rfl) T.g__law_figures T.F__law_figures.kp T.b__law_figures (plc pl0) (ds_cons (dp_sub (rm1 hr) (dp_var 4) (DF.dp df_int) (fun _ _ => rfl) (fun _ _ => rfl)) ds_nil))) dvs_nil))) dvs_nil)))))))))
    (dss_one (ds_ret (dv_move 2))))))
theorem ok__law_tally_in (T : Txt K mg) : FnOk P w K mg base (L2.CX P w) 3 T.f__law_tally_in T.d__law_tally_in ["_law_room", "_law_words"] (spP mg 2 (m_law_tally_in)) := fn_pure T.F__law_tally_in sc__law_tally_in (bd__law_tally_in T)
theorem bd_row_of (T : Txt K mg) : BodyOk P w K mg base N_row_of "row_of" (defScope s_row_of) T.f_row_of 3 (defBody s_row_of) 1 (g_row_of_4) := fun cdv A outer s H E hr tk hp =>
    (dss_cons (ds_if (dvt_p (dt_cmp (op_eqD (rm64 hr)) vop_eq (dp_var 0) (DF.dp df_str) rfl)) (dss_one (ds_ret (dv_f (df_tup ds_nil)))) dss_nil)
    (dss_cons (ds_set 1 (dv_f (df_met ty_str PySem.F.plainAttrs_str PySem.F.slot_str_split PySem.F.type_str_split mt_split vsplit (dp_var 0) (ds_cons (DF.dp df_str) ds_nil))) sc_row_of.nd)
    (dss_cons (ds_if (dvt_p (dt_cmp op_gtA vop_cmp (DF.dp (df_callB call_len vlen (by rfl) T.z_len (by decide +kernel) (ds_cons (dp_var 1) ds_nil))) (DF.dp df_int) rfl)) (dss_one (ds_raiseI (by rfl) tk T.gC_BadText T.oX_BadText T.iX_BadText T.tX_BadText (ok_init_BadText T) (hr.mono (by decide)) T.bX_BadText T.nX_BadText (by rfl) (DF.dp df_int))) dss_nil)
    (dss_cons (ds_setLcX 2 rfl rfl tk (by rfl) (by exact sc_row_of.nd) (di_seq (dv_frz 1)) (blkOk_by (N := N_row_of) (sc := defScope s_row_of) (own := [("part", 3)]) (by decide +kernel)) (fun s_ H_ C_ cl_ fp_ => (dg_name 3 sc_row_of.nd)) (fun s_ H_ C_ cl_ fp_ => dvts_nil) (fun s_ H_ C_ cl_ fp_ xe_ Wb_ bp_ => (dv_callPb (ok_number_of T) (hr.mono (by decide)) bp_ (by rfl) T.g_number_of T.F_number_of.kp T.b_number_of (plc pl0) (ds_cons (dp_var 3) ds_nil))))
    (dss_cons (ds_if (dvt_p (dt_cmp op_gtA vop_cmp (DF.dp (df_callB (cr_max rfl) vmaxL (by rfl) T.z_max (by decide +kernel) (ds_cons (dp_var 2) ds_nil))) (DF.dp df_int) rfl)) (dss_one (ds_raiseI (by rfl) tk T.gC_BadText T.oX_BadText T.iX_BadText T.tX_BadText (ok_init_BadText T) (hr.mono (by decide)) T.bX_BadText T.nX_BadText (by rfl) (DF.dp df_int))) dss_nil)
    (dss_one (ds_ret (dv_f (df_callTy call_tuple_of vtuple (by rfl) T.z_tuple (by decide +kernel) (ds_cons (dp_var 2) ds_nil))))))))))
theorem ok_row_of (T : Txt K mg) : FnOk P w K mg base (L2.CX P w) 4 T.f_row_of T.d_row_of ["word"] (spP mg 1 (m_row_of_4)) := fn_pure T.F_row_of sc_row_of (bd_row_of T)
theorem bd__law_any_deed (T : Txt K mg) : BodyOk P w K mg base N__law_any_deed "_law_any_deed" (defScope s__law_any_deed) T.f__law_any_deed 3 (defBody s__law_any_deed) 1 (g_law_any_deed_2) := fun cdv A outer s H E hr tk hp =>
    (dss_cons (ds_set 1 (dv_callTy call_tupleZ vtupleZ (by rfl) T.z_tuple (by decide +kernel) (dvs_cons (dv_callB (cr_sortedD (rm64 hr)) vsorted (by rfl) T.z_sorted (by decide +kernel) (dvs_cons (dv_callIO (ok__law_names T) (hr.mono (by decide)) tk (by rfl) T.g__law_names T.F__law_names.kp T.b__law_names rfl (als (alv al0)) (da_slot 0 (da_val (dv_callIO (ok__law_pull T) (hr.mono (by decide)) tk (by rfl) T.g__law_pull T.F__law_pull.kp T.b__law_pull rfl (als (alv al0)) (da_slot 0 (da_val (dv_f df_int) da_nil))) da_nil))) dvs_nil)) dvs_nil)) sc__law_any_deed.nd)
    (dss_cons (ds_set 2 (dv_ix ix_seq vix (dv_callIO (ok__law_names T) (hr.mono (by decide)) tk (by rfl) T.g__law_names T.F__law_names.kp T.b__law_names rfl (als (alv al0)) (da_slot 0 (da_val (dv_f df_int) da_nil))) (dv_f df_int) (fun _ _ => rfl)) sc__law_any_deed.nd)
    (dss_cons (ds_set 3 (dv_callIO (ok__law_answers T) (hr.mono (by decide)) tk (by rfl) T.g__law_answers T.F__law_answers.kp T.b__law_answers rfl (als (alv (alv al0))) (da_slot 0 (da_val (dv_f (df_callB call_len vlen (by rfl) T.z_len (by decide +kernel) (ds_cons (dp_var 1) ds_nil))) (da_val (dv_f df_int) da_nil)))) sc__law_any_deed.nd)
    (dss_cons (ds_set 4 (dv_ix ix_seq vix (dv_lst (dvs_cons (dv_f df_int) (dvs_cons (dv_f df_int) (dvs_cons (dv_f (df_op2 op_pow vop_pow (DF.dp df_int) (DF.dp df_int))) (dvs_cons (dv_f (df_op2 op_sub vop_sub (DF.dp (df_op2 op_pow vop_pow (DF.dp df_int) (DF.dp df_int))) (DF.dp df_int))) (dvs_cons (dv_callIO (ok__law_pull T) (hr.mono (by decide)) tk (by rfl) T.g__law_pull T.F__law_pull.kp T.b__law_pull rfl (als (alv al0)) (da_slot 0 (da_val (dv_f (df_op2 op_pow vop_pow (DF.dp df_int) (DF.dp df_int))) da_nil))) dvs_nil)))))) (dv_callIO (ok__law_pull T) (hr.mono (by decide)) tk (by rfl) T.g__law_pull T.F__law_pull.kp T.b__law_pull rfl (als (alv al0)) (da_slot 0 (da_val (dv_f df_int) da_nil))) (fun _ _ => rfl)) sc__law_any_deed.nd)
    (dss_cons (ds_set 5 (dv_callIO (ok__law_pull T) (hr.mono (by decide)) tk (by rfl) T.g__law_pull T.F__law_pull.kp T.b__law_pull rfl (als (alv al0)) (da_slot 0 (da_val (dv_f df_int) da_nil))) sc__law_any_deed.nd)
    (dss_cons (ds_if (dvt_p (dt_cmp op_ltA vop_cmp (dp_var 5) (DF.dp df_int) rfl)) (dss_cons (ds_set 6 (dv_callIO (ok__law_drawn T) (hr.mono (by decide)) tk (by rfl) T.g__law_drawn T.F__law_drawn.kp T.b__law_drawn rfl (als (als al0)) (da_slot 0 (da_slot 1 da_nil))) sc__law_any_deed.nd)
    (dss_one (ds_ret (dv_tup (dvs_cons (dv_f df_str) (dvs_cons (dv_move 2) (dvs_cons (dv_move 1) (dvs_cons (dv_f (df_compV (by rfl) (by exact sc__law_any_deed.nd) (dip_seq (dp_var 6)) (blkOk_by (N := N__law_any_deed) (sc := defScope s__law_any_deed) (own := [("_law_one", 7), ("_law_much", 8)]) (by decide +kernel)) (fun s_ H_ C_ cl_ fp_ => (dg_tup 2 (by rfl) (dgs_cons (dg_name 7 sc__law_any_deed.nd) (dgs_cons (dg_name 8 sc__law_any_deed.nd) dgs_nil)))) (fun s_ H_ C_ cl_ fp_ => dts_nil) (fun s_ H_ C_ cl_ fp_ => (df_tup (ds_cons (dp_var 7) (ds_cons (DF.dp (df_callB (call_max2 rfl) vmax (by rfl) T.z_max (by decide +kernel) (ds_cons (DF.dp df_int) (ds_cons (DF.dp (df_callB (call_min2 rfl) vmin (by rfl) T.z_min (by decide +kernel) (ds_cons (dp_var 8) (ds_cons (DF.dp (df_op2 op_sub vop_sub (DF.dp (df_op2 op_pow vop_pow (DF.dp df_int) (DF.dp df_int))) (DF.dp df_int))) ds_nil)))) ds_nil)))) ds_nil)))))) dvs_nil)))))))) dss_nil)
    (dss_cons (ds_if (dvt_p (dt_cmp (op_eqD (rm64 hr)) vop_eq (dp_var 5) (DF.dp df_int) rfl)) (dss_one (ds_ret (dv_tup (dvs_cons (dv_f df_str) (dvs_cons (dv_move 2) dvs_nil))))) dss_nil)
    (dss_cons (ds_if (dvt_p (dt_cmp op_ltA vop_cmp (dp_var 5) (DF.dp df_int) rfl)) (dss_one (ds_ret (dv_tup (dvs_cons (dv_p (dp_sub (rm1 hr) (DF.dp (df_lst (ds_cons (DF.dp df_str) (ds_cons (DF.dp df_str) ds_nil)))) (DF.dp (df_op2 op_sub vop_sub (dp_var 5) (DF.dp df_int))) (fun _ _ => rfl) (fun _ _ => rfl))) (dvs_cons (dv_move 3) (dvs_cons (dv_move 4) dvs_nil)))))) dss_nil)
    (dss_one (ds_ret (dv_tup (dvs_cons (dv_p (dp_sub (rm1 hr) (DF.dp (df_lst (ds_cons (DF.dp df_str) (ds_cons (DF.dp df_str) ds_nil)))) (DF.dp (df_op2 op_sub vop_sub (dp_var 5) (DF.dp df_int))) (fun _ _ => rfl) (fun _ _ => rfl))) (dvs_cons (dv_move 2) (dvs_cons (dv_move 3) (dvs_cons (dv_move 4) dvs_nil)))))))))))))))
theorem ok__law_any_deed (T : Txt K mg) : FnOk P w K mg base (L2.CX P w) 4 T.f__law_any_deed T.d__law_any_deed ["_law_bag_here"] (spIO mg 1 (m_law_any_deed_2)) := fn_io T.F__law_any_deed sc__law_any_deed (bd__law_any_deed T)
theorem bd__law_read (T : Txt K mg) : BodyOk P w K mg base N__law_read "_law_read" (defScope s__law_read) T.f__law_read 3 (defBody s__law_read) 1 (g_law_read) := fun cdv A outer s H E hr tk hp =>
    (dss_cons (ds_set 1 (dv_f (df_met ty_str PySem.F.plainAttrs_str PySem.F.slot_str_split PySem.F.type_str_split mt_split vsplit (dp_var 0) (ds_cons (DF.dp df_str) ds_nil))) sc__law_read.nd)
    (dss_cons (ds_if (dvt_p (DW.dt (dw_and (dt_cmp (op_eqD (rm64 hr)) vop_eq (dp_sub (rm1 hr) (dp_var 1) (DF.dp df_int) (fun _ _ => rfl) (fun _ _ => rfl)) (DF.dp df_str) rfl) (dw_and1 (dt_cmp op_gtA vop_cmp (DF.dp (df_callB call_len vlen (by rfl) T.z_len (by decide +kernel) (ds_cons (dp_var 1) ds_nil))) (DF.dp df_int) rfl))))) (dss_cons (ds_set 2 (dv_f (df_call (ok__law_room_in T) (hr.mono (by decide)) (by rfl) T.g__law_room_in T.F__law_room_in.kp T.b__law_room_in (plc pl0) (ds_cons (dp_sub (rm1 hr) (dp_var 1) (DF.dp df_int) (fun _ _ => rfl) (fun _ _ => rfl)) ds_nil))) sc__law_read.nd)
    (dss_cons (ds_if (dvt_p (DW.dt (dw_or (dt_cmp op_isN vop_isN (dp_var 2) (DF.dp df_non) rfl) (dw_or (dt_not (dt_val (DF.dp (df_call (ok_is_name T) (hr.mono (by decide)) (by rfl) T.g_is_name T.F_is_name.kp T.b_is_name (plc pl0) (ds_cons (dp_sub (rm1 hr) (dp_var 1) (DF.dp df_int) (fun _ _ => rfl) (fun _ _ => rfl)) ds_nil))))) (dw_or1 (dt_cmp op_isN vop_isN (DF.dp (df_call (ok__law_tally_in T) (hr.mono (by decide)) (by rfl) T.g__law_tally_in T.F__law_tally_in.kp T.b__law_tally_in (plc (plc pl0)) (ds_cons (dp_var 2) (ds_cons (DF.dp (df_sl (dp_var 1) (dpo_some (DF.dp df_int)) dpo_none)) ds_nil)))) (DF.dp df_non) rfl)))))) (dss_one (ds_ret (dv_f df_non))) dss_nil)
    (dss_one (ds_ret (dv_tup (dvs_cons (dv_f df_str) (dvs_cons (dv_p (dp_sub (rm1 hr) (dp_var 1) (DF.dp df_int) (fun _ _ => rfl) (fun _ _ => rfl))) (dvs_cons (dv_p (dp_var 2)) (dvs_cons (dv_f (df_call (ok__law_tally_in T) (hr.mono (by decide)) (by rfl) T.g__law_tally_in T.F__law_tally_in.kp T.b__law_tally_in (plc (plc pl0)) (ds_cons (dp_var 2) (ds_cons (DF.dp (df_sl (dp_var 1) (dpo_some (DF.dp df_int)) dpo_none)) ds_nil)))) dvs_nil))))))))) dss_nil)
    (dss_cons (ds_set 3 (dv_p (dp_get2 (rm1 hr) (DF.dp (df_disp (dpp_cons (DF.dp df_str) (dpp_cons (DF.dp df_str) (dpp_cons (DF.dp df_str) (dpp_cons (DF.dp df_str) (dpp_cons (DF.dp df_str) dpp_nil))))))) (dp_sub (rm1 hr) (dp_var 1) (DF.dp df_int) (fun _ _ => rfl) (fun _ _ => rfl)) (DF.dp df_str) ⟨by rfl, by rfl, by rfl, by rfl⟩)) sc__law_read.nd)
    (dss_cons (ds_if (dvt_p (DW.dt (dw_or (dt_cmp (op_eqD (rm64 hr)) vop_eq (dp_var 3) (DF.dp df_str) rfl) (dw_or1 (dt_cmp (op_neD (rm64 hr)) vop_ne (DF.dp (df_callB call_len vlen (by rfl) T.z_len (by decide +kernel) (ds_cons (dp_var 1) ds_nil))) (DF.dp (df_op2 op_addAll vop_add (DF.dp (df_callB call_len vlen (by rfl) T.z_len (by decide +kernel) (ds_cons (dp_var 3) ds_nil))) (DF.dp df_int))) rfl))))) (dss_one (ds_ret (dv_f df_non))) dss_nil)
    (dss_cons (ds_set 4 (dv_f (df_lst (ds_cons (dp_sub (rm1 hr) (dp_var 1) (DF.dp df_int) (fun _ _ => rfl) (fun _ _ => rfl)) ds_nil))) sc__law_read.nd)
    (dss_cons (ds_for hp rfl (di_zipS (by rfl) T.z_zip (dvs_cons (dv_p (dp_var 3)) (dvs_cons (dv_fz (dv_f (df_sl (dp_var 1) (dpo_some (DF.dp df_int)) dpo_none))) dvs_nil)) (fun _ _ _ => msTwo)) (dg_tup 2 (by rfl) (dgs_cons (dg_name 5 sc__law_read.nd) (dgs_cons (dg_name 6 sc__law_read.nd) dgs_nil))) (dss_cons (ds_set 7 (dv_p (dp_sub (rm1 hr) (DF.dp (df_disp (dpp_cons (dp_var 6) (dpp_cons (DF.dp (df_call (ok__law_row_in T) (hr.mono (by decide)) (by rfl) T.g__law_row_in T.F__law_row_in.kp T.b__law_row_in (plc pl0) (ds_cons (dp_var 6) ds_nil))) (dpp_cons (DF.dp (df_call (ok__law_figures T) (hr.mono (by decide)) (by rfl) T.g__law_figures T.F__law_figures.kp T.b__law_figures (plc pl0) (ds_cons (dp_var 6) ds_nil))) dpp_nil))))) (dp_var 5) (fun _ _ => rfl) (fun _ _ => rfl))) sc__law_read.nd)
    (dss_cons (ds_if (dvt_p (DW.dt (dw_or (dt_cmp op_isN vop_isN (dp_var 7) (DF.dp df_non) rfl) (dw_or (dt_cmp (op_eqD (rm64 hr)) vop_eq (dp_var 7) (DF.dp (df_op1 un_neg vop_neg (DF.dp df_int))) rfl) (dw_or1 (DW.dt (dw_and (dt_cmp (op_eqD (rm64 hr)) vop_eq (dp_var 5) (DF.dp df_str) rfl) (dw_and1 (dt_not (dt_val (DF.dp (df_call (ok_is_name T) (hr.mono (by decide)) (by rfl) T.g_is_name T.F_is_name.kp T.b_is_name (plc pl0) (ds_cons (dp_var 6) ds_nil))))))))))))) (dss_one (ds_ret (dv_f df_non))) dss_nil)
    (dss_one (ds_expr (dv_meth 4 PySem.F.slot_list_append PySem.F.type_list_append mt_append vm_append (dvs_cons (dv_p (dp_var 7)) dvs_nil)))))))
    (dss_one (ds_ret (dv_f (df_callTy call_tuple_of vtuple (by rfl) T.z_tuple (by decide +kernel) (ds_cons (dp_var 4) ds_nil)))))))))))
theorem ok__law_read (T : Txt K mg) : FnOk P w K mg base (L2.CX P w) 4 T.f__law_read T.d__law_read ["_law_line"] (spP mg 1 (m_law_read)) := fn_pure T.F__law_read sc__law_read (bd__law_read T)
theorem bd_pair_of (T : Txt K mg) : BodyOk P w K mg base N_pair_of "pair_of" (defScope s_pair_of) T.f_pair_of 4 (defBody s_pair_of) 1 (g_pair_of_4) := fun cdv A outer s H E hr tk hp =>
    (dss_cons (ds_set 1 (dv_f (df_met ty_str PySem.F.plainAttrs_str PySem.F.slot_str_split PySem.F.type_str_split mt_split vsplit (dp_var 0) (ds_cons (DF.dp df_str) ds_nil))) sc_pair_of.nd)
    (dss_cons (ds_if (dvt_p (dt_cmp (op_neD (rm64 hr)) vop_ne (DF.dp (df_callB call_len vlen (by rfl) T.z_len (by decide +kernel) (ds_cons (dp_var 1) ds_nil))) (DF.dp df_int) rfl)) (dss_one (ds_raiseI (by rfl) tk T.gC_BadText T.oX_BadText T.iX_BadText T.tX_BadText (ok_init_BadText T) (hr.mono (by decide)) T.bX_BadText T.nX_BadText (by rfl) (DF.dp df_int))) dss_nil)
    (dss_one (ds_ret (dv_tup (dvs_cons (dv_callP (ok_row_of T) (hr.mono (by decide)) tk (by rfl) T.g_row_of T.F_row_of.kp T.b_row_of (plc pl0) (ds_cons (dp_sub (rm1 hr) (dp_var 1) (DF.dp df_int) (fun _ _ => rfl) (fun _ _ => rfl)) ds_nil)) (dvs_cons (dv_callP (ok_number_of T) (hr.mono (by decide)) tk (by rfl) T.g_number_of T.F_number_of.kp T.b_number_of (plc pl0) (ds_cons (dp_sub (rm1 hr) (dp_var 1) (DF.dp df_int) (fun _ _ => rfl) (fun _ _ => rfl)) ds_nil)) dvs_nil)))))))
theorem ok_pair_of (T : Txt K mg) : FnOk P w K mg base (L2.CX P w) 5 T.f_pair_of T.d_pair_of ["word"] (spP mg 1 (m_pair_of_4)) := fn_pure T.F_pair_of sc_pair_of (bd_pair_of T)
theorem bd_tally_of (T : Txt K mg) : BodyOk P w K mg base N_tally_of "tally_of" (defScope s_tally_of) T.f_tally_of 5 (defBody s_tally_of) 2 (g_tally_of_4) := fun cdv A outer s H E hr tk hp =>
    (dss_cons (ds_if (dvt_p (dt_cmp (op_eqD (rm64 hr)) vop_eq (dp_var 1) (DF.dp (df_lst (ds_cons (DF.dp df_str) ds_nil))) rfl)) (dss_one (ds_ret (dv_f (df_lst ds_nil)))) dss_nil)
    (dss_cons (ds_setLcX 2 rfl rfl tk (by rfl) (by exact sc_tally_of.nd) (di_seq (dv_p (dp_var 1))) (blkOk_by (N := N_tally_of) (sc := defScope s_tally_of) (own := [("word", 3)]) (by decide +kernel)) (fun s_ H_ C_ cl_ fp_ => (dg_name 3 sc_tally_of.nd)) (fun s_ H_ C_ cl_ fp_ => dvts_nil) (fun s_ H_ C_ cl_ fp_ xe_ Wb_ bp_ => (dv_callPb (ok_pair_of T) (hr.mono (by decide)) bp_ (by rfl) T.g_pair_of T.F_pair_of.kp T.b_pair_of (plc pl0) (ds_cons (dp_var 3) ds_nil))))
    (dss_cons (ds_if (dvt_p (dt_not (dt_val (DF.dp (df_call (ok_is_tally T) (hr.mono (by decide)) (by rfl) T.g_is_tally T.F_is_tally.kp T.b_is_tally (plc (plc pl0)) (ds_cons (dp_var 0) (ds_cons (dp_var 2) ds_nil))))))) (dss_one (ds_raiseI (by rfl) tk T.gC_BadText T.oX_BadText T.iX_BadText T.tX_BadText (ok_init_BadText T) (hr.mono (by decide)) T.bX_BadText T.nX_BadText (by rfl) (DF.dp df_int))) dss_nil)
    (dss_one (ds_ret (dv_move 2))))))
theorem ok_tally_of (T : Txt K mg) : FnOk P w K mg base (L2.CX P w) 6 T.f_tally_of T.d_tally_of ["room", "words"] (spP mg 2 (m_tally_of_4)) := fn_pure T.F_tally_of sc_tally_of (bd_tally_of T)
theorem bd_read_deed (T : Txt K mg) : BodyOk P w K mg base N_read_deed "read_deed" (defScope s_read_deed) T.f_read_deed 6 (defBody s_read_deed) 1 (g_read_deed_5) := fun cdv A outer s H E hr tk hp =>
    (dss_cons (ds_set 1 (dv_f (df_met ty_str PySem.F.plainAttrs_str PySem.F.slot_str_split PySem.F.type_str_split mt_split vsplit (dp_var 0) (ds_cons (DF.dp df_str) ds_nil))) sc_read_deed.nd)
    (dss_cons (ds_set 2 (dv_p (dp_sub (rm1 hr) (dp_var 1) (DF.dp df_int) (fun _ _ => rfl) (fun _ _ => rfl))) sc_read_deed.nd)
    (dss_cons (ds_set 3 (dv_f (df_callB call_len vlen (by rfl) T.z_len (by decide +kernel) (ds_cons (dp_var 1) ds_nil))) sc_read_deed.nd)
    (dss_cons (ds_if (dvt_p (DW.dt (dw_and (dt_cmp (op_eqD (rm64 hr)) vop_eq (dp_var 2) (DF.dp df_str) rfl) (dw_and1 (dt_cmp op_geA vop_cmp (dp_var 3) (DF.dp df_int) rfl))))) (dss_cons (ds_set 4 (dv_callP (ok_room_of T) (hr.mono (by decide)) tk (by rfl) T.g_room_of T.F_room_of.kp T.b_room_of (plc pl0) (ds_cons (dp_sub (rm1 hr) (dp_var 1) (DF.dp df_int) (fun _ _ => rfl) (fun _ _ => rfl)) ds_nil)) sc_read_deed.nd)
    (dss_one (ds_ret (dv_tup (dvs_cons (dv_f df_str) (dvs_cons (dv_callP (ok_name_of T) (hr.mono (by decide)) tk (by rfl) T.g_name_of T.F_name_of.kp T.b_name_of (plc pl0) (ds_cons (dp_sub (rm1 hr) (dp_var 1) (DF.dp df_int) (fun _ _ => rfl) (fun _ _ => rfl)) ds_nil)) (dvs_cons (dv_p (dp_var 4)) (dvs_cons (dv_callP (ok_tally_of T) (hr.mono (by decide)) tk (by rfl) T.g_tally_of T.F_tally_of.kp T.b_tally_of (plc (plc pl0)) (ds_cons (dp_var 4) (ds_cons (DF.dp (df_sl (dp_var 1) (dpo_some (DF.dp df_int)) dpo_none)) ds_nil))) dvs_nil)))))))) dss_nil)
    (dss_cons (ds_if (dvt_p (DW.dt (dw_and (dt_cmp (op_eqD (rm64 hr)) vop_eq (dp_var 2) (DF.dp df_str) rfl) (dw_and1 (dt_cmp (op_eqD (rm64 hr)) vop_eq (dp_var 3) (DF.dp df_int) rfl))))) (dss_one (ds_ret (dv_tup (dvs_cons (dv_f df_str) (dvs_cons (dv_callP (ok_name_of T) (hr.mono (by decide)) tk (by rfl) T.g_name_of T.F_name_of.kp T.b_name_of (plc pl0) (ds_cons (dp_sub (rm1 hr) (dp_var 1) (DF.dp df_int) (fun _ _ => rfl) (fun _ _ => rfl)) ds_nil)) dvs_nil))))) dss_nil)
    (dss_cons (ds_if (dvt_p (DW.dt (dw_and (DW.dt (dw_or (dt_cmp (op_eqD (rm64 hr)) vop_eq (dp_var 2) (DF.dp df_str) rfl) (dw_or1 (dt_cmp (op_eqD (rm64 hr)) vop_eq (dp_var 2) (DF.dp df_str) rfl)))) (dw_and1 (dt_cmp (op_eqD (rm64 hr)) vop_eq (dp_var 3) (DF.dp df_int) rfl))))) (dss_one (ds_ret (dv_tup (dvs_cons (dv_move 2) (dvs_cons (dv_callP (ok_row_of T) (hr.mono (by decide)) tk (by rfl) T.g_row_of T.F_row_of.kp T.b_row_of (plc pl0) (ds_cons (dp_sub (rm1 hr) (dp_var 1) (DF.dp df_int) (fun _ _ => rfl) (fun _ _ => rfl)) ds_nil)) (dvs_cons (dv_callP (ok_number_of T) (hr.mono (by decide)) tk (by rfl) T.g_number_of T.F_number_of.kp T.b_number_of (plc pl0) (ds_cons (dp_sub (rm1 hr) (dp_var 1) (DF.dp df_int) (fun _ _ => rfl) (fun _ _ => rfl)) ds_nil)) dvs_nil)))))) dss_nil)
    (dss_cons (ds_if (dvt_p (DW.dt (dw_and (DW.dt (dw_or (dt_cmp (op_eqD (rm64 hr)) vop_eq (dp_var 2) (DF.dp df_str) rfl) (dw_or1 (dt_cmp (op_eqD (rm64 hr)) vop_eq (dp_var 2) (DF.dp df_str) rfl)))) (dw_and1 (dt_cmp (op_eqD (rm64 hr)) vop_eq (dp_var 3) (DF.dp df_int) rfl))))) (dss_one (ds_ret (dv_tup (dvs_cons (dv_move 2) (dvs_cons (dv_callP (ok_name_of T) (hr.mono (by decide)) tk (by rfl) T.g_name_of T.F_name_of.kp T.b_name_of (plc pl0) (ds_cons (dp_sub (rm1 hr) (dp_var 1) (DF.dp df_int) (fun _ _ => rfl) (fun _ _ => rfl)) ds_nil)) (dvs_cons (dv_callP (ok_row_of T) (hr.mono (by decide)) tk (by rfl) T.g_row_of T.F_row_of.kp T.b_row_of (plc pl0) (ds_cons (dp_sub (rm1 hr) (dp_var 1) (DF.dp df_int) (fun _ _ => rfl) (fun _ _ => rfl)) ds_nil)) (dvs_cons (dv_callP (ok_number_of T) (hr.mono (by decide)) tk (by rfl) T.g_number_of T.F_number_of.kp T.b_number_of (plc pl0) (ds_cons (dp_sub (rm1 hr) (dp_var 1) (DF.dp df_int) (fun _ _ => rfl) (fun _ _ => rfl)) ds_nil)) dvs_nil))))))) dss_nil)
    (dss_one (ds_raiseI (by rfl) tk T.gC_BadText T.oX_BadText T.iX_BadText T.tX_BadText (ok_init_BadText T) (hr.mono (by decide)) T.bX_BadText T.nX_BadText (by rfl) (DF.dp df_int))))))))))
theorem ok_read_deed (T : Txt K mg) : FnOk P w K mg base (L2.CX P w) 7 T.f_read_deed T.d_read_deed ["line"] (spP mg 1 (m_read_deed_5)) := fn_pure T.F_read_deed sc_read_deed (bd_read_deed T)
theorem bd__law_told (T : Txt K mg) : BodyOk P w K mg base N__law_told "_law_told" (defScope s__law_told) T.f__law_told 7 (defBody s__law_told) 1 (g_law_told_5) := fun cdv A outer s H E hr tk hp =>
    (dss_cons (ds_tryMix rfl rfl tk (fun W_ pn_ xe_ tk hp => (dss_one (ds_set 1 (dv_callP (ok_read_deed T) (hr.mono (by decide)) tk (by rfl) T.g_read_deed T.F_read_deed.kp T.b_read_deed (plc pl0) (ds_cons (dp_var 0) ds_nil)) sc__law_told.nd))) (dhm_as1 sc__law_told.nd (by rfl) (by rfl) T.gC_BadText ⟨by rfl, by decide, .inl T.gC_BadText⟩ (TabOk.get (tab_cons T.gC_BadText T.x_BadText_BadText tab_nil)) (fun a_ oe_ cls_ d_ pn_ hz_ hf_ => pss_one (ps_asg (pe_xf T.xX_BadText T.nX_BadText hz_ hf_ (pv 2)) (pg_name (i := 1) sc__law_told.nd (by rfl) (by first | exact .inl rfl | exact .inr rfl)))) dhm_nil))
    (dss_one (ds_ret (dv_move 1))))
theorem ok__law_told (T : Txt K mg) : FnOk P w K mg base (L2.CX P w) 8 T.f__law_told T.d__law_told ["_law_line"] (spP mg 1 (m_law_told_5)) := fn_pure T.F__law_told sc__law_told (bd__law_told T)
theorem bd_law (T : Txt K mg) : BodyOk P w K mg base N_law "law" (defScope s_law) T.f_law 8 (defBody s_law) 1 (g_law_80 K) := fun cdv A outer s H E hr tk hp =>
    (dss_cons (ds_set 1 (dv_f (df_call (ok__law_bag T) (hr.mono (by decide)) (by rfl) T.g__law_bag T.F__law_bag.kp T.b__law_bag (plc pl0) (ds_cons (dp_var 0) ds_nil))) sc_law.nd)
    (dss_cons (ds_set 2 (dv_fz (dv_call (ok__law_deed_text T) (hr.mono (by decide)) tk (by rfl) T.g__law_deed_text T.F__law_deed_text.kp T.b__law_deed_text (vlc vl0) (dvs_cons (dv_callIO (ok__law_any_deed T) (hr.mono (by decide)) tk (by rfl) T.g__law_any_deed T.F__law_any_deed.kp T.b__law_any_deed rfl (als al0) (da_slot 1 da_nil)) dvs_nil))) sc_law.nd)
    (dss_cons (ds_for hp rfl (di_rng1 (by rfl) T.z_range (dvs_cons (dv_ix ix_seq vix (dv_f (df_lst (ds_cons (DF.dp df_int) (ds_cons (DF.dp df_int) (ds_cons (DF.dp df_int) (ds_cons (DF.dp df_int) ds_nil)))))) (dv_callIO (ok__law_pull T) (hr.mono (by decide)) tk (by rfl) T.g__law_pull T.F__law_pull.kp T.b__law_pull rfl (als (alv al0)) (da_slot 1 (da_val (dv_f df_int) da_nil))) (fun _ _ => rfl)) dvs_nil) (fun _ _ _ => msOne)) (dg_name 3 sc_law.nd) (dss_one (ds_set 2 (dv_fz (dv_callIO (ok__law_spoilt_line T) (hr.mono (by decide)) tk (by rfl) T.g__law_spoilt_line T.F__law_spoilt_line.kp T.b__law_spoilt_line rfl (als (als al0)) (da_slot 1 (da_slot 2 da_nil)))) sc_law.nd)))
    (dss_cons (ds_set 4 (dv_fz (dv_f (df_call (ok__law_read T) (hr.mono (by decide)) (by rfl) T.g__law_read T.F__law_read.kp T.b__law_read (plc pl0) (ds_cons (dp_var 2) ds_nil)))) sc_law.nd)
    (dss_cons (ds_set 5 (dv_fz (dv_callP (ok__law_told T) (hr.mono (by decide)) tk (by rfl) T.g__law_told T.F__law_told.kp T.b__law_told (plc pl0) (ds_cons (dp_var 2) ds_nil))) sc_law.nd)
    (dss_cons (ds_if (dvt_p (dt_cmp op_isN vop_isN (dp_var 4) (DF.dp df_non) rfl)) (dss_one (ds_ret (dv_p (dp_andV (DF.dp (df_call (ok__law_whole T) (hr.mono (by decide)) (by rfl) T.g__law_whole T.F__law_whole.kp T.b__law_whole (plc pl0) (ds_cons (dp_var 5) ds_nil))) (df_one (DF.dp (df_cmp (op_eqD (rm64 hr)) vop_eq (dp_var 5) (DF.dp df_int) rfl))))))) dss_nil)
    (dss_one (ds_ret (dv_p (dp_andV (DF.dp (df_isi "tuple" (by rfl) T.z_isinstance (by rfl) T.z_tuple (by decide +kernel) (dp_var 5))) (df_one (DF.dp (df_cmp (op_eqD (rm64 hr)) vop_eq (dp_var 5) (dp_var 4) rfl)))))))))))))
theorem ok_law (T : Txt K mg) : FnOk P w K mg base (L2.CX P w) 9 T.f_law T.d_law ["_law_script"] (spP mg 1 (m_law_80 K)) := fn_pure T.F_law sc_law (bd_law T)
end

def spLaw (K : PySem.W.Frag) : Sp := fun vs H Q _ => ∃ (a : Addr) (ns : List Int), vs = [.ref a] ∧ SqL K H a (ns.map V.int) ∧ ns.length ≤ 63 ∧ ∀ H', Q (.bl true) H'
theorem all_mk {P : Program} {w : World} {K : PySem.W.Frag} {h : Heap} {mg : MG} {fa : Addr} (X : K.In h) (G : h.Ns mainGlobals mg) (hfa : mg "law" = some (.ref fa))
    {f0 : Addr} {oc0 kV0 dc0 pm0 cd0 ct0 : Value} {od0 an0 : Option Addr} {sl0 : Array (Option Value)}
    (a0 : PySem.W.nsIn K mainGlobals "is_name" = some (some (.ref f0))) (l0 : K.lookup f0 = some ⟨oc0, od0, .func (PySem.W.fnOf "is_name" "is_name" (defArgs s_is_name) (defBody s_is_name) (defScope s_is_name) .none kV0 dc0 pm0 an0 cd0 ct0), sl0⟩) (c0 : PySem.W.codeIn K cd0 "is_name" = true) (k0 : PySem.W.keepIn K (.ref f0) = true)
    {f1 : Addr} {oc1 kV1 dc1 pm1 cd1 ct1 : Value} {od1 an1 : Option Addr} {sl1 : Array (Option Value)}
    (a1 : PySem.W.nsIn K mainGlobals "is_row" = some (some (.ref f1))) (l1 : K.lookup f1 = some ⟨oc1, od1, .func (PySem.W.fnOf "is_row" "is_row" (defArgs s_is_row) (defBody s_is_row) (defScope s_is_row) .none kV1 dc1 pm1 an1 cd1 ct1), sl1⟩) (c1 : PySem.W.codeIn K cd1 "is_row" = true) (k1 : PySem.W.keepIn K (.ref f1) = true)
    {f2 : Addr} {oc2 kV2 dc2 pm2 cd2 ct2 : Value} {od2 an2 : Option Addr} {sl2 : Array (Option Value)}
    (a2 : PySem.W.nsIn K mainGlobals "_law_bag" = some (some (.ref f2))) (l2 : K.lookup f2 = some ⟨oc2, od2, .func (PySem.W.fnOf "_law_bag" "_law_bag" (defArgs s__law_bag) (defBody s__law_bag) (defScope s__law_bag) .none kV2 dc2 pm2 an2 cd2 ct2), sl2⟩) (c2 : PySem.W.codeIn K cd2 "_law_bag" = true) (k2 : PySem.W.keepIn K (.ref f2) = true)
    {f3 : Addr} {oc3 kV3 dc3 pm3 cd3 ct3 : Value} {od3 an3 : Option Addr} {sl3 : Array (Option Value)}
    (a3 : PySem.W.nsIn K mainGlobals "_law_room_text" = some (some (.ref f3))) (l3 : K.lookup f3 = some ⟨oc3, od3, .func (PySem.W.fnOf "_law_room_text" "_law_room_text" (defArgs s__law_room_text) (defBody s__law_room_text) (defScope s__law_room_text) .none kV3 dc3 pm3 an3 cd3 ct3), sl3⟩) (c3 : PySem.W.codeIn K cd3 "_law_room_text" = true) (k3 : PySem.W.keepIn K (.ref f3) = true)
    {f4 : Addr} {oc4 kV4 dc4 pm4 cd4 ct4 : Value} {od4 an4 : Option Addr} {sl4 : Array (Option Value)}
    (a4 : PySem.W.nsIn K mainGlobals "_law_row_text" = some (some (.ref f4))) (l4 : K.lookup f4 = some ⟨oc4, od4, .func (PySem.W.fnOf "_law_row_text" "_law_row_text" (defArgs s__law_row_text) (defBody s__law_row_text) (defScope s__law_row_text) .none kV4 dc4 pm4 an4 cd4 ct4), sl4⟩) (c4 : PySem.W.codeIn K cd4 "_law_row_text" = true) (k4 : PySem.W.keepIn K (.ref f4) = true)
    {f5 : Addr} {oc5 kV5 dc5 pm5 cd5 ct5 : Value} {od5 an5 : Option Addr} {sl5 : Array (Option Value)}
    (a5 : PySem.W.nsIn K mainGlobals "_law_pull" = some (some (.ref f5))) (l5 : K.lookup f5 = some ⟨oc5, od5, .func (PySem.W.fnOf "_law_pull" "_law_pull" (defArgs s__law_pull) (defBody s__law_pull) (defScope s__law_pull) .none kV5 dc5 pm5 an5 cd5 ct5), sl5⟩) (c5 : PySem.W.codeIn K cd5 "_law_pull" = true) (k5 : PySem.W.keepIn K (.ref f5) = true)
    {f6 : Addr} {oc6 kV6 dc6 pm6 cd6 ct6 : Value} {od6 an6 : Option Addr} {sl6 : Array (Option Value)}
    (a6 : PySem.W.nsIn K mainGlobals "_law_settled" = some (some (.ref f6))) (l6 : K.lookup f6 = some ⟨oc6, od6, .func (PySem.W.fnOf "_law_settled" "_law_settled" (defArgs s__law_settled) (defBody s__law_settled) (defScope s__law_settled) .none kV6 dc6 pm6 an6 cd6 ct6), sl6⟩) (c6 : PySem.W.codeIn K cd6 "_law_settled" = true) (k6 : PySem.W.keepIn K (.ref f6) = true)
    {f7 : Addr} {oc7 kV7 dc7 pm7 cd7 ct7 : Value} {od7 an7 : Option Addr} {sl7 : Array (Option Value)}
    (a7 : PySem.W.nsIn K mainGlobals "_law_figures" = some (some (.ref f7))) (l7 : K.lookup f7 = some ⟨oc7, od7, .func (PySem.W.fnOf "_law_figures" "_law_figures" (defArgs s__law_figures) (defBody s__law_figures) (defScope s__law_figures) .none kV7 dc7 pm7 an7 cd7 ct7), sl7⟩) (c7 : PySem.W.codeIn K cd7 "_law_figures" = true) (k7 : PySem.W.keepIn K (.ref f7) = true)
    {f8 : Addr} {oc8 kV8 dc8 pm8 cd8 ct8 : Value} {od8 an8 : Option Addr} {sl8 : Array (Option Value)}
    (a8 : PySem.W.nsIn K mainGlobals "_law_whole" = some (some (.ref f8))) (l8 : K.lookup f8 = some ⟨oc8, od8, .func (PySem.W.fnOf "_law_whole" "_law_whole" (defArgs s__law_whole) (defBody s__law_whole) (defScope s__law_whole) .none kV8 dc8 pm8 an8 cd8 ct8), sl8⟩) (c8 : PySem.W.codeIn K cd8 "_law_whole" = true) (k8 : PySem.W.keepIn K (.ref f8) = true)
    {f9 : Addr} {oc9 kV9 dc9 pm9 cd9 ct9 : Value} {od9 an9 : Option Addr} {sl9 : Array (Option Value)}
    (a9 : PySem.W.nsIn K mainGlobals "is_room" = some (some (.ref f9))) (l9 : K.lookup f9 = some ⟨oc9, od9, .func (PySem.W.fnOf "is_room" "is_room" (defArgs s_is_room) (defBody s_is_room) (defScope s_is_room) .none kV9 dc9 pm9 an9 cd9 ct9), sl9⟩) (c9 : PySem.W.codeIn K cd9 "is_room" = true) (k9 : PySem.W.keepIn K (.ref f9) = true)
    {f10 : Addr} {oc10 kV10 dc10 pm10 cd10 ct10 : Value} {od10 an10 : Option Addr} {sl10 : Array (Option Value)}
    (a10 : PySem.W.nsIn K mainGlobals "is_tally" = some (some (.ref f10))) (l10 : K.lookup f10 = some ⟨oc10, od10, .func (PySem.W.fnOf "is_tally" "is_tally" (defArgs s_is_tally) (defBody s_is_tally) (defScope s_is_tally) .none kV10 dc10 pm10 an10 cd10 ct10), sl10⟩) (c10 : PySem.W.codeIn K cd10 "is_tally" = true) (k10 : PySem.W.keepIn K (.ref f10) = true)
    {f11 : Addr} {oc11 kV11 dc11 pm11 cd11 ct11 : Value} {od11 an11 : Option Addr} {sl11 : Array (Option Value)}
    (a11 : PySem.W.nsIn K mainGlobals "_law_tally_text" = some (some (.ref f11))) (l11 : K.lookup f11 = some ⟨oc11, od11, .func (PySem.W.fnOf "_law_tally_text" "_law_tally_text" (defArgs s__law_tally_text) (defBody s__law_tally_text) (defScope s__law_tally_text) .none kV11 dc11 pm11 an11 cd11 ct11), sl11⟩) (c11 : PySem.W.codeIn K cd11 "_law_tally_text" = true) (k11 : PySem.W.keepIn K (.ref f11) = true)
    {f12 : Addr} {oc12 kV12 dc12 pm12 cd12 ct12 : Value} {od12 an12 : Option Addr} {sl12 : Array (Option Value)}
    (a12 : PySem.W.nsIn K mainGlobals "_law_word" = some (some (.ref f12))) (l12 : K.lookup f12 = some ⟨oc12, od12, .func (PySem.W.fnOf "_law_word" "_law_word" (defArgs s__law_word) (defBody s__law_word) (defScope s__law_word) .none kV12 dc12 pm12 an12 cd12 ct12), sl12⟩) (c12 : PySem.W.codeIn K cd12 "_law_word" = true) (k12 : PySem.W.keepIn K (.ref f12) = true)
    {f13 : Addr} {oc13 kV13 dc13 pm13 cd13 ct13 : Value} {od13 an13 : Option Addr} {sl13 : Array (Option Value)}
    (a13 : PySem.W.nsIn K mainGlobals "_law_answers" = some (some (.ref f13))) (l13 : K.lookup f13 = some ⟨oc13, od13, .func (PySem.W.fnOf "_law_answers" "_law_answers" (defArgs s__law_answers) (defBody s__law_answers) (defScope s__law_answers) .none kV13 dc13 pm13 an13 cd13 ct13), sl13⟩) (c13 : PySem.W.codeIn K cd13 "_law_answers" = true) (k13 : PySem.W.keepIn K (.ref f13) = true)
    {f14 : Addr} {oc14 kV14 dc14 pm14 cd14 ct14 : Value} {od14 an14 : Option Addr} {sl14 : Array (Option Value)}
    (a14 : PySem.W.nsIn K mainGlobals "_law_many" = some (some (.ref f14))) (l14 : K.lookup f14 = some ⟨oc14, od14, .func (PySem.W.fnOf "_law_many" "_law_many" (defArgs s__law_many) (defBody s__law_many) (defScope s__law_many) .none kV14 dc14 pm14 an14 cd14 ct14), sl14⟩) (c14 : PySem.W.codeIn K cd14 "_law_many" = true) (k14 : PySem.W.keepIn K (.ref f14) = true)
    {f15 : Addr} {oc15 kV15 dc15 pm15 cd15 ct15 : Value} {od15 an15 : Option Addr} {sl15 : Array (Option Value)}
    (a15 : PySem.W.nsIn K mainGlobals "_law_signed" = some (some (.ref f15))) (l15 : K.lookup f15 = some ⟨oc15, od15, .func (PySem.W.fnOf "_law_signed" "_law_signed" (defArgs s__law_signed) (defBody s__law_signed) (defScope s__law_signed) .none kV15 dc15 pm15 an15 cd15 ct15), sl15⟩) (c15 : PySem.W.codeIn K cd15 "_law_signed" = true) (k15 : PySem.W.keepIn K (.ref f15) = true)
    {f16 : Addr} {oc16 kV16 dc16 pm16 cd16 ct16 : Value} {od16 an16 : Option Addr} {sl16 : Array (Option Value)}
    (a16 : PySem.W.nsIn K mainGlobals "_law_row_in" = some (some (.ref f16))) (l16 : K.lookup f16 = some ⟨oc16, od16, .func (PySem.W.fnOf "_law_row_in" "_law_row_in" (defArgs s__law_row_in) (defBody s__law_row_in) (defScope s__law_row_in) .none kV16 dc16 pm16 an16 cd16 ct16), sl16⟩) (c16 : PySem.W.codeIn K cd16 "_law_row_in" = true) (k16 : PySem.W.keepIn K (.ref f16) = true)
    {f17 : Addr} {oc17 kV17 dc17 pm17 cd17 ct17 : Value} {od17 an17 : Option Addr} {sl17 : Array (Option Value)}
    (a17 : PySem.W.nsIn K mainGlobals "number_of" = some (some (.ref f17))) (l17 : K.lookup f17 = some ⟨oc17, od17, .func (PySem.W.fnOf "number_of" "number_of" (defArgs s_number_of) (defBody s_number_of) (defScope s_number_of) .none kV17 dc17 pm17 an17 cd17 ct17), sl17⟩) (c17 : PySem.W.codeIn K cd17 "number_of" = true) (k17 : PySem.W.keepIn K (.ref f17) = true)
    {f18 : Addr} {oc18 kV18 dc18 pm18 cd18 ct18 : Value} {od18 an18 : Option Addr} {sl18 : Array (Option Value)}
    (a18 : PySem.W.nsIn K mainGlobals "name_of" = some (some (.ref f18))) (l18 : K.lookup f18 = some ⟨oc18, od18, .func (PySem.W.fnOf "name_of" "name_of" (defArgs s_name_of) (defBody s_name_of) (defScope s_name_of) .none kV18 dc18 pm18 an18 cd18 ct18), sl18⟩) (c18 : PySem.W.codeIn K cd18 "name_of" = true) (k18 : PySem.W.keepIn K (.ref f18) = true)
    {f19 : Addr} {oc19 kV19 dc19 pm19 cd19 ct19 : Value} {od19 an19 : Option Addr} {sl19 : Array (Option Value)}
    (a19 : PySem.W.nsIn K mainGlobals "room_of" = some (some (.ref f19))) (l19 : K.lookup f19 = some ⟨oc19, od19, .func (PySem.W.fnOf "room_of" "room_of" (defArgs s_room_of) (defBody s_room_of) (defScope s_room_of) .none kV19 dc19 pm19 an19 cd19 ct19), sl19⟩) (c19 : PySem.W.codeIn K cd19 "room_of" = true) (k19 : PySem.W.keepIn K (.ref f19) = true)
    {f20 : Addr} {oc20 kV20 dc20 pm20 cd20 ct20 : Value} {od20 an20 : Option Addr} {sl20 : Array (Option Value)}
    (a20 : PySem.W.nsIn K mainGlobals "_law_deed_text" = some (some (.ref f20))) (l20 : K.lookup f20 = some ⟨oc20, od20, .func (PySem.W.fnOf "_law_deed_text" "_law_deed_text" (defArgs s__law_deed_text) (defBody s__law_deed_text) (defScope s__law_deed_text) .none kV20 dc20 pm20 an20 cd20 ct20), sl20⟩) (c20 : PySem.W.codeIn K cd20 "_law_deed_text" = true) (k20 : PySem.W.keepIn K (.ref f20) = true)
    {f21 : Addr} {oc21 kV21 dc21 pm21 cd21 ct21 : Value} {od21 an21 : Option Addr} {sl21 : Array (Option Value)}
    (a21 : PySem.W.nsIn K mainGlobals "_law_names" = some (some (.ref f21))) (l21 : K.lookup f21 = some ⟨oc21, od21, .func (PySem.W.fnOf "_law_names" "_law_names" (defArgs s__law_names) (defBody s__law_names) (defScope s__law_names) .none kV21 dc21 pm21 an21 cd21 ct21), sl21⟩) (c21 : PySem.W.codeIn K cd21 "_law_names" = true) (k21 : PySem.W.keepIn K (.ref f21) = true)
    {f22 : Addr} {oc22 kV22 dc22 pm22 cd22 ct22 : Value} {od22 an22 : Option Addr} {sl22 : Array (Option Value)}
    (a22 : PySem.W.nsIn K mainGlobals "_law_drawn" = some (some (.ref f22))) (l22 : K.lookup f22 = some ⟨oc22, od22, .func (PySem.W.fnOf "_law_drawn" "_law_drawn" (defArgs s__law_drawn) (defBody s__law_drawn) (defScope s__law_drawn) .none kV22 dc22 pm22 an22 cd22 ct22), sl22⟩) (c22 : PySem.W.codeIn K cd22 "_law_drawn" = true) (k22 : PySem.W.keepIn K (.ref f22) = true)
    {f23 : Addr} {oc23 kV23 dc23 pm23 cd23 ct23 : Value} {od23 an23 : Option Addr} {sl23 : Array (Option Value)}
    (a23 : PySem.W.nsIn K mainGlobals "_law_spoilt_line" = some (some (.ref f23))) (l23 : K.lookup f23 = some ⟨oc23, od23, .func (PySem.W.fnOf "_law_spoilt_line" "_law_spoilt_line" (defArgs s__law_spoilt_line) (defBody s__law_spoilt_line) (defScope s__law_spoilt_line) .none kV23 dc23 pm23 an23 cd23 ct23), sl23⟩) (c23 : PySem.W.codeIn K cd23 "_law_spoilt_line" = true) (k23 : PySem.W.keepIn K (.ref f23) = true)
    {f24 : Addr} {oc24 kV24 dc24 pm24 cd24 ct24 : Value} {od24 an24 : Option Addr} {sl24 : Array (Option Value)}
    (a24 : PySem.W.nsIn K mainGlobals "_law_room_in" = some (some (.ref f24))) (l24 : K.lookup f24 = some ⟨oc24, od24, .func (PySem.W.fnOf "_law_room_in" "_law_room_in" (defArgs s__law_room_in) (defBody s__law_room_in) (defScope s__law_room_in) .none kV24 dc24 pm24 an24 cd24 ct24), sl24⟩) (c24 : PySem.W.codeIn K cd24 "_law_room_in" = true) (k24 : PySem.W.keepIn K (.ref f24) = true)
    {f25 : Addr} {oc25 kV25 dc25 pm25 cd25 ct25 : Value} {od25 an25 : Option Addr} {sl25 : Array (Option Value)}
    (a25 : PySem.W.nsIn K mainGlobals "_law_tally_in" = some (some (.ref f25))) (l25 : K.lookup f25 = some ⟨oc25, od25, .func (PySem.W.fnOf "_law_tally_in" "_law_tally_in" (defArgs s__law_tally_in) (defBody s__law_tally_in) (defScope s__law_tally_in) .none kV25 dc25 pm25 an25 cd25 ct25), sl25⟩) (c25 : PySem.W.codeIn K cd25 "_law_tally_in" = true) (k25 : PySem.W.keepIn K (.ref f25) = true)
    {f26 : Addr} {oc26 kV26 dc26 pm26 cd26 ct26 : Value} {od26 an26 : Option Addr} {sl26 : Array (Option Value)}
    (a26 : PySem.W.nsIn K mainGlobals "row_of" = some (some (.ref f26))) (l26 : K.lookup f26 = some ⟨oc26, od26, .func (PySem.W.fnOf "row_of" "row_of" (defArgs s_row_of) (defBody s_row_of) (defScope s_row_of) .none kV26 dc26 pm26 an26 cd26 ct26), sl26⟩) (c26 : PySem.W.codeIn K cd26 "row_of" = true) (k26 : PySem.W.keepIn K (.ref f26) = true)
    {f27 : Addr} {oc27 kV27 dc27 pm27 cd27 ct27 : Value} {od27 an27 : Option Addr} {sl27 : Array (Option Value)}
    (a27 : PySem.W.nsIn K mainGlobals "_law_any_deed" = some (some (.ref f27))) (l27 : K.lookup f27 = some ⟨oc27, od27, .func (PySem.W.fnOf "_law_any_deed" "_law_any_deed" (defArgs s__law_any_deed) (defBody s__law_any_deed) (defScope s__law_any_deed) .none kV27 dc27 pm27 an27 cd27 ct27), sl27⟩) (c27 : PySem.W.codeIn K cd27 "_law_any_deed" = true) (k27 : PySem.W.keepIn K (.ref f27) = true)
    {f28 : Addr} {oc28 kV28 dc28 pm28 cd28 ct28 : Value} {od28 an28 : Option Addr} {sl28 : Array (Option Value)}
    (a28 : PySem.W.nsIn K mainGlobals "_law_read" = some (some (.ref f28))) (l28 : K.lookup f28 = some ⟨oc28, od28, .func (PySem.W.fnOf "_law_read" "_law_read" (defArgs s__law_read) (defBody s__law_read) (defScope s__law_read) .none kV28 dc28 pm28 an28 cd28 ct28), sl28⟩) (c28 : PySem.W.codeIn K cd28 "_law_read" = true) (k28 : PySem.W.keepIn K (.ref f28) = true)
    {f29 : Addr} {oc29 kV29 dc29 pm29 cd29 ct29 : Value} {od29 an29 : Option Addr} {sl29 : Array (Option Value)}
    (a29 : PySem.W.nsIn K mainGlobals "pair_of" = some (some (.ref f29))) (l29 : K.lookup f29 = some ⟨oc29, od29, .func (PySem.W.fnOf "pair_of" "pair_of" (defArgs s_pair_of) (defBody s_pair_of) (defScope s_pair_of) .none kV29 dc29 pm29 an29 cd29 ct29), sl29⟩) (c29 : PySem.W.codeIn K cd29 "pair_of" = true) (k29 : PySem.W.keepIn K (.ref f29) = true)
    {f30 : Addr} {oc30 kV30 dc30 pm30 cd30 ct30 : Value} {od30 an30 : Option Addr} {sl30 : Array (Option Value)}
    (a30 : PySem.W.nsIn K mainGlobals "tally_of" = some (some (.ref f30))) (l30 : K.lookup f30 = some ⟨oc30, od30, .func (PySem.W.fnOf "tally_of" "tally_of" (defArgs s_tally_of) (defBody s_tally_of) (defScope s_tally_of) .none kV30 dc30 pm30 an30 cd30 ct30), sl30⟩) (c30 : PySem.W.codeIn K cd30 "tally_of" = true) (k30 : PySem.W.keepIn K (.ref f30) = true)
    {f31 : Addr} {oc31 kV31 dc31 pm31 cd31 ct31 : Value} {od31 an31 : Option Addr} {sl31 : Array (Option Value)}
    (a31 : PySem.W.nsIn K mainGlobals "read_deed" = some (some (.ref f31))) (l31 : K.lookup f31 = some ⟨oc31, od31, .func (PySem.W.fnOf "read_deed" "read_deed" (defArgs s_read_deed) (defBody s_read_deed) (defScope s_read_deed) .none kV31 dc31 pm31 an31 cd31 ct31), sl31⟩) (c31 : PySem.W.codeIn K cd31 "read_deed" = true) (k31 : PySem.W.keepIn K (.ref f31) = true)
    {f32 : Addr} {oc32 kV32 dc32 pm32 cd32 ct32 : Value} {od32 an32 : Option Addr} {sl32 : Array (Option Value)}
    (a32 : PySem.W.nsIn K mainGlobals "_law_told" = some (some (.ref f32))) (l32 : K.lookup f32 = some ⟨oc32, od32, .func (PySem.W.fnOf "_law_told" "_law_told" (defArgs s__law_told) (defBody s__law_told) (defScope s__law_told) .none kV32 dc32 pm32 an32 cd32 ct32), sl32⟩) (c32 : PySem.W.codeIn K cd32 "_law_told" = true) (k32 : PySem.W.keepIn K (.ref f32) = true)
    {f33 : Addr} {oc33 kV33 dc33 pm33 cd33 ct33 : Value} {od33 an33 : Option Addr} {sl33 : Array (Option Value)}
    (a33 : PySem.W.nsIn K mainGlobals "law" = some (some (.ref f33))) (l33 : K.lookup f33 = some ⟨oc33, od33, .func (PySem.W.fnOf "law" "law" (defArgs s_law) (defBody s_law) (defScope s_law) .none kV33 dc33 pm33 an33 cd33 ct33), sl33⟩) (c33 : PySem.W.codeIn K cd33 "law" = true) (k33 : PySem.W.keepIn K (.ref f33) = true)
    {t0 : Tok} (e0 : PySem.W.nsIn K mainGlobals "FIGURES" = some (some (.str "0123456789" t0)))
    {t1 : Tok} (e1 : PySem.W.nsIn K mainGlobals "LETTERS" = some (some (.str "abcdefghijklmnopqrstuvwxyz" t1)))
    {t2 : Tok} (e2 : PySem.W.nsIn K mainGlobals "MOST_ANSWER" = some (some (.int 9 t2)))
    {t3 : Tok} (e3 : PySem.W.nsIn K mainGlobals "MOST_FIGURES" = some (some (.int 13 t3)))
    {t4 : Tok} (e4 : PySem.W.nsIn K mainGlobals "MOST_QUESTIONS" = some (some (.int 6 t4)))
    {t5 : Tok} (e5 : PySem.W.nsIn K mainGlobals "MOST_SIGNS" = some (some (.int 8 t5)))
    (z0 : PySem.W.nsIn K mainGlobals "all" = some none)
    (z1 : PySem.W.nsIn K mainGlobals "bool" = some none)
    (z2 : PySem.W.nsIn K mainGlobals "int" = some none)
    (z3 : PySem.W.nsIn K mainGlobals "isinstance" = some none)
    (z4 : PySem.W.nsIn K mainGlobals "len" = some none)
    (z5 : PySem.W.nsIn K mainGlobals "list" = some none)
    (z6 : PySem.W.nsIn K mainGlobals "max" = some none)
    (z7 : PySem.W.nsIn K mainGlobals "min" = some none)
    (z8 : PySem.W.nsIn K mainGlobals "range" = some none)
    (z9 : PySem.W.nsIn K mainGlobals "sorted" = some none)
    (z10 : PySem.W.nsIn K mainGlobals "str" = some none)
    (z11 : PySem.W.nsIn K mainGlobals "tuple" = some none)
    (z12 : PySem.W.nsIn K mainGlobals "zip" = some none)
    {C0 fI0 : Addr} (ca0 : PySem.W.nsIn K mainGlobals "BadText" = some (some (.ref C0))) (ck0 : PySem.W.keepIn K (.ref C0) = true) (cs0 : PySem.W.subIn K (.ref C0) (.type "BaseException") = some true) (cy0 : PySem.W.typeIn K (.ref C0) = some (.type "type")) (ci0 : PySem.W.isClsIn K C0 = true)
    {nm0 qq0 NN0 bs0 bm0 sn0 sb0 ab0 co0 dd0 kk00 kk10 kk20 kk30 kk50 : _} (cl0 : K.lookup C0 = some (excClassObj nm0 qq0 C0 NN0 bs0 bm0 true sn0 sb0 ab0 co0 dd0 kk00 kk10 kk20 kk30 kk50 "ValueError.__new__")) (cr0 : PySem.HandSPX.refsVE bm0 = true) (cS0 : PySem.W.findIn K (.ref C0) "__setattr__" = some (some (.builtin "object.__setattr__")))
    (cI0 : PySem.W.findIn K (.ref C0) "__init__" = some (some (.ref fI0))) (cT0 : PySem.W.typeIn K (.ref fI0) = some (.type "function")) (cn0 : PySem.W.findIn K (.ref C0) "at" = some none) (cG0 : PySem.W.findIn K (.ref C0) "__getattribute__" = some (some (.builtin "BaseException.__getattribute__"))) (cg0 : PySem.W.findIn K (.ref C0) "__getattr__" = some none) (ch0 : PySem.W.hasDictIn K C0 = true)
    {ioc0 ikV0 idc0 ipm0 icd0 ict0 : Value} {iod0 ian0 : Option Addr} {isl0 : Array (Option Value)} (il0 : K.lookup fI0 = some ⟨ioc0, iod0, .func (PySem.W.fnOf "__init__" "BadText.__init__" (defArgs si_BadText) (defBody si_BadText) (defScope si_BadText) .none ikV0 idc0 ipm0 ian0 icd0 ict0), isl0⟩) (ic0 : PySem.W.codeIn K icd0 "BadText.__init__" = true) (ik0 : PySem.W.keepIn K (.ref fI0) = true)
    (xs0_0 : PySem.W.subIn K (.ref C0) (.ref C0) = some true) :
    ∃ fd : FuncData, (∀ (s : Shared) (v : Value), BindsTo s fd ⟨[v], []⟩ [("_law_script", v)]) ∧ ∀ base : Heap, K.In base → base.Ns mainGlobals mg → FnOk P w K mg base (L2.CX P w) 9 fa fd ["_law_script"] (spLaw K) := by
  have e := hfa.symm.trans (PySem.W.mg_of X G a33)
  cases e
  let T : Txt K mg := {
    f_is_name := f0, d_is_name := _, F_is_name := fun_mk l0 c0 k0, g_is_name := PySem.W.mg_of X G a0, b_is_name := ((fun_mk (st := s_is_name) l0 c0 k0).binds (ps := ["text"]) fun _ _ _ _ _ _ us hl => (match us, hl with | [_], _ => rfl)),
    f_is_row := f1, d_is_row := _, F_is_row := fun_mk l1 c1 k1, g_is_row := PySem.W.mg_of X G a1, b_is_row := ((fun_mk (st := s_is_row) l1 c1 k1).binds (ps := ["room", "row"]) fun _ _ _ _ _ _ us hl => (match us, hl with | [_, _], _ => rfl)),
    f__law_bag := f2, d__law_bag := _, F__law_bag := fun_mk l2 c2 k2, g__law_bag := PySem.W.mg_of X G a2, b__law_bag := ((fun_mk (st := s__law_bag) l2 c2 k2).binds (ps := ["_law_script"]) fun _ _ _ _ _ _ us hl => (match us, hl with | [_], _ => rfl)),
    f__law_room_text := f3, d__law_room_text := _, F__law_room_text := fun_mk l3 c3 k3, g__law_room_text := PySem.W.mg_of X G a3, b__law_room_text := ((fun_mk (st := s__law_room_text) l3 c3 k3).binds (ps := ["_law_room"]) fun _ _ _ _ _ _ us hl => (match us, hl with | [_], _ => rfl)),
    f__law_row_text := f4, d__law_row_text := _, F__law_row_text := fun_mk l4 c4 k4, g__law_row_text := PySem.W.mg_of X G a4, b__law_row_text := ((fun_mk (st := s__law_row_text) l4 c4 k4).binds (ps := ["_law_row"]) fun _ _ _ _ _ _ us hl => (match us, hl with | [_], _ => rfl)),
    f__law_pull := f5, d__law_pull := _, F__law_pull := fun_mk l5 c5 k5, g__law_pull := PySem.W.mg_of X G a5, b__law_pull := ((fun_mk (st := s__law_pull) l5 c5 k5).binds (ps := ["_law_bag_here", "_law_many_here"]) fun _ _ _ _ _ _ us hl => (match us, hl with | [_, _], _ => rfl)),
    f__law_settled := f6, d__law_settled := _, F__law_settled := fun_mk l6 c6 k6, g__law_settled := PySem.W.mg_of X G a6, b__law_settled := ((fun_mk (st := s__law_settled) l6 c6 k6).binds (ps := ["_law_counts"]) fun _ _ _ _ _ _ us hl => (match us, hl with | [_], _ => rfl)),
    f__law_figures := f7, d__law_figures := _, F__law_figures := fun_mk l7 c7 k7, g__law_figures := PySem.W.mg_of X G a7, b__law_figures := ((fun_mk (st := s__law_figures) l7 c7 k7).binds (ps := ["_law_word_here"]) fun _ _ _ _ _ _ us hl => (match us, hl with | [_], _ => rfl)),
    f__law_whole := f8, d__law_whole := _, F__law_whole := fun_mk l8 c8 k8, g__law_whole := PySem.W.mg_of X G a8, b__law_whole := ((fun_mk (st := s__law_whole) l8 c8 k8).binds (ps := ["_law_found"]) fun _ _ _ _ _ _ us hl => (match us, hl with | [_], _ => rfl)),
    f_is_room := f9, d_is_room := _, F_is_room := fun_mk l9 c9 k9, g_is_room := PySem.W.mg_of X G a9, b_is_room := ((fun_mk (st := s_is_room) l9 c9 k9).binds (ps := ["names"]) fun _ _ _ _ _ _ us hl => (match us, hl with | [_], _ => rfl)),
    f_is_tally := f10, d_is_tally := _, F_is_tally := fun_mk l10 c10 k10, g_is_tally := PySem.W.mg_of X G a10, b_is_tally := ((fun_mk (st := s_is_tally) l10 c10 k10).binds (ps := ["room", "rows"]) fun _ _ _ _ _ _ us hl => (match us, hl with | [_, _], _ => rfl)),
    f__law_tally_text := f11, d__law_tally_text := _, F__law_tally_text := fun_mk l11 c11 k11, g__law_tally_text := PySem.W.mg_of X G a11, b__law_tally_text := ((fun_mk (st := s__law_tally_text) l11 c11 k11).binds (ps := ["_law_rows"]) fun _ _ _ _ _ _ us hl => (match us, hl with | [_], _ => rfl)),
    f__law_word := f12, d__law_word := _, F__law_word := fun_mk l12 c12 k12, g__law_word := PySem.W.mg_of X G a12, b__law_word := ((fun_mk (st := s__law_word) l12 c12 k12).binds (ps := ["_law_bag_here", "_law_size"]) fun _ _ _ _ _ _ us hl => (match us, hl with | [_, _], _ => rfl)),
    f__law_answers := f13, d__law_answers := _, F__law_answers := fun_mk l13 c13 k13, g__law_answers := PySem.W.mg_of X G a13, b__law_answers := ((fun_mk (st := s__law_answers) l13 c13 k13).binds (ps := ["_law_bag_here", "_law_size", "_law_base"]) fun _ _ _ _ _ _ us hl => (match us, hl with | [_, _, _], _ => rfl)),
    f__law_many := f14, d__law_many := _, F__law_many := fun_mk l14 c14 k14, g__law_many := PySem.W.mg_of X G a14, b__law_many := ((fun_mk (st := s__law_many) l14 c14 k14).binds (ps := ["_law_bag_here"]) fun _ _ _ _ _ _ us hl => (match us, hl with | [_], _ => rfl)),
    f__law_signed := f15, d__law_signed := _, F__law_signed := fun_mk l15 c15 k15, g__law_signed := PySem.W.mg_of X G a15, b__law_signed := ((fun_mk (st := s__law_signed) l15 c15 k15).binds (ps := ["_law_bag_here", "_law_line"]) fun _ _ _ _ _ _ us hl => (match us, hl with | [_, _], _ => rfl)),
    f__law_row_in := f16, d__law_row_in := _, F__law_row_in := fun_mk l16 c16 k16, g__law_row_in := PySem.W.mg_of X G a16, b__law_row_in := ((fun_mk (st := s__law_row_in) l16 c16 k16).binds (ps := ["_law_word_here"]) fun _ _ _ _ _ _ us hl => (match us, hl with | [_], _ => rfl)),
    f_number_of := f17, d_number_of := _, F_number_of := fun_mk l17 c17 k17, g_number_of := PySem.W.mg_of X G a17, b_number_of := ((fun_mk (st := s_number_of) l17 c17 k17).binds (ps := ["word"]) fun _ _ _ _ _ _ us hl => (match us, hl with | [_], _ => rfl)),
    f_name_of := f18, d_name_of := _, F_name_of := fun_mk l18 c18 k18, g_name_of := PySem.W.mg_of X G a18, b_name_of := ((fun_mk (st := s_name_of) l18 c18 k18).binds (ps := ["word"]) fun _ _ _ _ _ _ us hl => (match us, hl with | [_], _ => rfl)),
    f_room_of := f19, d_room_of := _, F_room_of := fun_mk l19 c19 k19, g_room_of := PySem.W.mg_of X G a19, b_room_of := ((fun_mk (st := s_room_of) l19 c19 k19).binds (ps := ["word"]) fun _ _ _ _ _ _ us hl => (match us, hl with | [_], _ => rfl)),
    f__law_deed_text := f20, d__law_deed_text := _, F__law_deed_text := fun_mk l20 c20 k20, g__law_deed_text := PySem.W.mg_of X G a20, b__law_deed_text := ((fun_mk (st := s__law_deed_text) l20 c20 k20).binds (ps := ["_law_deed"]) fun _ _ _ _ _ _ us hl => (match us, hl with | [_], _ => rfl)),
    f__law_names := f21, d__law_names := _, F__law_names := fun_mk l21 c21 k21, g__law_names := PySem.W.mg_of X G a21, b__law_names := ((fun_mk (st := s__law_names) l21 c21 k21).binds (ps := ["_law_bag_here", "_law_many_here"]) fun _ _ _ _ _ _ us hl => (match us, hl with | [_, _], _ => rfl)),
    f__law_drawn := f22, d__law_drawn := _, F__law_drawn := fun_mk l22 c22 k22, g__law_drawn := PySem.W.mg_of X G a22, b__law_drawn := ((fun_mk (st := s__law_drawn) l22 c22 k22).binds (ps := ["_law_bag_here", "_law_room"]) fun _ _ _ _ _ _ us hl => (match us, hl with | [_, _], _ => rfl)),
    f__law_spoilt_line := f23, d__law_spoilt_line := _, F__law_spoilt_line := fun_mk l23 c23 k23, g__law_spoilt_line := PySem.W.mg_of X G a23, b__law_spoilt_line := ((fun_mk (st := s__law_spoilt_line) l23 c23 k23).binds (ps := ["_law_bag_here", "_law_line"]) fun _ _ _ _ _ _ us hl => (match us, hl with | [_, _], _ => rfl)),
    f__law_room_in := f24, d__law_room_in := _, F__law_room_in := fun_mk l24 c24 k24, g__law_room_in := PySem.W.mg_of X G a24, b__law_room_in := ((fun_mk (st := s__law_room_in) l24 c24 k24).binds (ps := ["_law_word_here"]) fun _ _ _ _ _ _ us hl => (match us, hl with | [_], _ => rfl)),
    f__law_tally_in := f25, d__law_tally_in := _, F__law_tally_in := fun_mk l25 c25 k25, g__law_tally_in := PySem.W.mg_of X G a25, b__law_tally_in := ((fun_mk (st := s__law_tally_in) l25 c25 k25).binds (ps := ["_law_room", "_law_words"]) fun _ _ _ _ _ _ us hl => (match us, hl with | [_, _], _ => rfl)),
    f_row_of := f26, d_row_of := _, F_row_of := fun_mk l26 c26 k26, g_row_of := PySem.W.mg_of X G a26, b_row_of := ((fun_mk (st := s_row_of) l26 c26 k26).binds (ps := ["word"]) fun _ _ _ _ _ _ us hl => (match us, hl with | [_], _ => rfl)),
    f__law_any_deed := f27, d__law_any_deed := _, F__law_any_deed := fun_mk l27 c27 k27, g__law_any_deed := PySem.W.mg_of X G a27, b__law_any_deed := ((fun_mk (st := s__law_any_deed) l27 c27 k27).binds (ps := ["_law_bag_here"]) fun _ _ _ _ _ _ us hl => (match us, hl with | [_], _ => rfl)),
    f__law_read := f28, d__law_read := _, F__law_read := fun_mk l28 c28 k28, g__law_read := PySem.W.mg_of X G a28, b__law_read := ((fun_mk (st := s__law_read) l28 c28 k28).binds (ps := ["_law_line"]) fun _ _ _ _ _ _ us hl => (match us, hl with | [_], _ => rfl)),
    f_pair_of := f29, d_pair_of := _, F_pair_of := fun_mk l29 c29 k29, g_pair_of := PySem.W.mg_of X G a29, b_pair_of := ((fun_mk (st := s_pair_of) l29 c29 k29).binds (ps := ["word"]) fun _ _ _ _ _ _ us hl => (match us, hl with | [_], _ => rfl)),
    f_tally_of := f30, d_tally_of := _, F_tally_of := fun_mk l30 c30 k30, g_tally_of := PySem.W.mg_of X G a30, b_tally_of := ((fun_mk (st := s_tally_of) l30 c30 k30).binds (ps := ["room", "words"]) fun _ _ _ _ _ _ us hl => (match us, hl with | [_, _], _ => rfl)),
    f_read_deed := f31, d_read_deed := _, F_read_deed := fun_mk l31 c31 k31, g_read_deed := PySem.W.mg_of X G a31, b_read_deed := ((fun_mk (st := s_read_deed) l31 c31 k31).binds (ps := ["line"]) fun _ _ _ _ _ _ us hl => (match us, hl with | [_], _ => rfl)),
    f__law_told := f32, d__law_told := _, F__law_told := fun_mk l32 c32 k32, g__law_told := PySem.W.mg_of X G a32, b__law_told := ((fun_mk (st := s__law_told) l32 c32 k32).binds (ps := ["_law_line"]) fun _ _ _ _ _ _ us hl => (match us, hl with | [_], _ => rfl)),
    f_law := fa, d_law := _, F_law := fun_mk l33 c33 k33, g_law := PySem.W.mg_of X G a33, b_law := ((fun_mk (st := s_law) l33 c33 k33).binds (ps := ["_law_script"]) fun _ _ _ _ _ _ us hl => (match us, hl with | [_], _ => rfl)),
    c_FIGURES := ⟨t0, PySem.W.mg_of X G e0⟩,
    c_LETTERS := ⟨t1, PySem.W.mg_of X G e1⟩,
    c_MOST_ANSWER := ⟨t2, PySem.W.mg_of X G e2⟩,
    c_MOST_FIGURES := ⟨t3, PySem.W.mg_of X G e3⟩,
    c_MOST_QUESTIONS := ⟨t4, PySem.W.mg_of X G e4⟩,
    c_MOST_SIGNS := ⟨t5, PySem.W.mg_of X G e5⟩,
    C_BadText := C0, gC_BadText := PySem.W.mg_of X G ca0, oX_BadText := ⟨⟨_, _, _, _, _, _, _, _, _, _, _, _, _, _, _, cl0, cr0⟩, cS0, cs0, cy0, ck0⟩, fI_BadText := fI0, dI_BadText := _, iX_BadText := cI0, tX_BadText := cT0, FX_BadText := fun_mk il0 ic0 ik0, bX_BadText := ((fun_mk (st := si_BadText) il0 ic0 ik0).binds (ps := ["self", "at"]) fun _ _ _ _ _ _ us hl => (match us, hl with | [_, _], _ => rfl)), nX_BadText := cn0, xX_BadText := ⟨cG0, cg0, cs0, ch0⟩,
    x_BadText_BadText := exm_of cs0 ci0 cy0 xs0_0,
    z_all := PySem.W.mg_none_of X G z0,
    z_bool := PySem.W.mg_none_of X G z1,
    z_int := PySem.W.mg_none_of X G z2,
    z_isinstance := PySem.W.mg_none_of X G z3,
    z_len := PySem.W.mg_none_of X G z4,
    z_list := PySem.W.mg_none_of X G z5,
    z_max := PySem.W.mg_none_of X G z6,
    z_min := PySem.W.mg_none_of X G z7,
    z_range := PySem.W.mg_none_of X G z8,
    z_sorted := PySem.W.mg_none_of X G z9,
    z_str := PySem.W.mg_none_of X G z10,
    z_tuple := PySem.W.mg_none_of X G z11,
    z_zip := PySem.W.mg_none_of X G z12 }
  refine ⟨T.d_law, fun s v => .of_eq rfl, fun base _ _ => (ok_law T).imp fun vs H Q E h => ?_⟩
  obtain ⟨a, ns, rfl, hS, hl, q⟩ := h
  exact law_start hS (law_true K ns hl) q
theorem Xd {K : PySem.W.Frag} (c : SaysX fbA fnA K) (i : Nat) {f : FB} (h : fbA[i]? = some f) : f K = true := SaysX.fact c i h
theorem Xo {K : PySem.W.Frag} (c : SaysX fbA fnA K) (i : Nat) {f : FB} {p : Prop} [d : Decidable p] (h : fbA[i]? = some f) (e : f K = decide p) : p := of_decide_eq_true (e.symm.trans (SaysX.fact c i h))
theorem all_of {P : Program} {w : World} {K : PySem.W.Frag} {h : Heap} {mg : MG} {fa : Addr} (X : K.In h) (G : h.Ns mainGlobals mg) (hfa : mg "law" = some (.ref fa)) (c : SaysX fbA fnA K) :
    ∃ fd : FuncData, (∀ (s : Shared) (v : Value), BindsTo s fd ⟨[v], []⟩ [("_law_script", v)]) ∧ ∀ base : Heap, K.In base → base.Ns mainGlobals mg → FnOk P w K mg base (L2.CX P w) 9 fa fd ["_law_script"] (spLaw K) := by
  have e := hfa.symm.trans (PySem.W.mg_of X G (Xo c 66 (f := fbL66) rfl rfl))
  have e := Value.ref.inj (Option.some.inj e)
  subst e
  obtain ⟨oc0, od0, sl0, kV0, dc0, pm0, an0, cd0, ct0, l0, c0⟩ := SaysX.def_ c 0 (d := fnL0) rfl
  obtain ⟨oc1, od1, sl1, kV1, dc1, pm1, an1, cd1, ct1, l1, c1⟩ := SaysX.def_ c 1 (d := fnL1) rfl
  obtain ⟨oc2, od2, sl2, kV2, dc2, pm2, an2, cd2, ct2, l2, c2⟩ := SaysX.def_ c 2 (d := fnL2) rfl
  obtain ⟨oc3, od3, sl3, kV3, dc3, pm3, an3, cd3, ct3, l3, c3⟩ := SaysX.def_ c 3 (d := fnL3) rfl
  obtain ⟨oc4, od4, sl4, kV4, dc4, pm4, an4, cd4, ct4, l4, c4⟩ := SaysX.def_ c 4 (d := fnL4) rfl
  obtain ⟨oc5, od5, sl5, kV5, dc5, pm5, an5, cd5, ct5, l5, c5⟩ := SaysX.def_ c 5 (d := fnL5) rfl
  obtain ⟨oc6, od6, sl6, kV6, dc6, pm6, an6, cd6, ct6, l6, c6⟩ := SaysX.def_ c 6 (d := fnL6) rfl
  obtain ⟨oc7, od7, sl7, kV7, dc7, pm7, an7, cd7, ct7, l7, c7⟩ := SaysX.def_ c 7 (d := fnL7) rfl
  obtain ⟨oc8, od8, sl8, kV8, dc8, pm8, an8, cd8, ct8, l8, c8⟩ := SaysX.def_ c 8 (d := fnL8) rfl
  obtain ⟨oc9, od9, sl9, kV9, dc9, pm9, an9, cd9, ct9, l9, c9⟩ := SaysX.def_ c 9 (d := fnL9) rfl
  obtain ⟨oc10, od10, sl10, kV10, dc10, pm10, an10, cd10, ct10, l10, c10⟩ := SaysX.def_ c 10 (d := fnL10) rfl
  obtain ⟨oc11, od11, sl11, kV11, dc11, pm11, an11, cd11, ct11, l11, c11⟩ := SaysX.def_ c 11 (d := fnL11) rfl
  obtain ⟨oc12, od12, sl12, kV12, dc12, pm12, an12, cd12, ct12, l12, c12⟩ := SaysX.def_ c 12 (d := fnL12) rfl
  obtain ⟨oc13, od13, sl13, kV13, dc13, pm13, an13, cd13, ct13, l13, c13⟩ := SaysX.def_ c 13 (d := fnL13) rfl
  obtain ⟨oc14, od14, sl14, kV14, dc14, pm14, an14, cd14, ct14, l14, c14⟩ := SaysX.def_ c 14 (d := fnL14) rfl
  obtain ⟨oc15, od15, sl15, kV15, dc15, pm15, an15, cd15, ct15, l15, c15⟩ := SaysX.def_ c 15 (d := fnL15) rfl
  obtain ⟨oc16, od16, sl16, kV16, dc16, pm16, an16, cd16, ct16, l16, c16⟩ := SaysX.def_ c 16 (d := fnL16) rfl
  obtain ⟨oc17, od17, sl17, kV17, dc17, pm17, an17, cd17, ct17, l17, c17⟩ := SaysX.def_ c 17 (d := fnL17) rfl
  obtain ⟨oc18, od18, sl18, kV18, dc18, pm18, an18, cd18, ct18, l18, c18⟩ := SaysX.def_ c 18 (d := fnL18) rfl
  obtain ⟨oc19, od19, sl19, kV19, dc19, pm19, an19, cd19, ct19, l19, c19⟩ := SaysX.def_ c 19 (d := fnL19) rfl
  obtain ⟨oc20, od20, sl20, kV20, dc20, pm20, an20, cd20, ct20, l20, c20⟩ := SaysX.def_ c 20 (d := fnL20) rfl
  obtain ⟨oc21, od21, sl21, kV21, dc21, pm21, an21, cd21, ct21, l21, c21⟩ := SaysX.def_ c 21 (d := fnL21) rfl
  obtain ⟨oc22, od22, sl22, kV22, dc22, pm22, an22, cd22, ct22, l22, c22⟩ := SaysX.def_ c 22 (d := fnL22) rfl
  obtain ⟨oc23, od23, sl23, kV23, dc23, pm23, an23, cd23, ct23, l23, c23⟩ := SaysX.def_ c 23 (d := fnL23) rfl
  obtain ⟨oc24, od24, sl24, kV24, dc24, pm24, an24, cd24, ct24, l24, c24⟩ := SaysX.def_ c 24 (d := fnL24) rfl
  obtain ⟨oc25, od25, sl25, kV25, dc25, pm25, an25, cd25, ct25, l25, c25⟩ := SaysX.def_ c 25 (d := fnL25) rfl
  obtain ⟨oc26, od26, sl26, kV26, dc26, pm26, an26, cd26, ct26, l26, c26⟩ := SaysX.def_ c 26 (d := fnL26) rfl
  obtain ⟨oc27, od27, sl27, kV27, dc27, pm27, an27, cd27, ct27, l27, c27⟩ := SaysX.def_ c 27 (d := fnL27) rfl
  obtain ⟨oc28, od28, sl28, kV28, dc28, pm28, an28, cd28, ct28, l28, c28⟩ := SaysX.def_ c 28 (d := fnL28) rfl
  obtain ⟨oc29, od29, sl29, kV29, dc29, pm29, an29, cd29, ct29, l29, c29⟩ := SaysX.def_ c 29 (d := fnL29) rfl
  obtain ⟨oc30, od30, sl30, kV30, dc30, pm30, an30, cd30, ct30, l30, c30⟩ := SaysX.def_ c 30 (d := fnL30) rfl
  obtain ⟨oc31, od31, sl31, kV31, dc31, pm31, an31, cd31, ct31, l31, c31⟩ := SaysX.def_ c 31 (d := fnL31) rfl
  obtain ⟨oc32, od32, sl32, kV32, dc32, pm32, an32, cd32, ct32, l32, c32⟩ := SaysX.def_ c 32 (d := fnL32) rfl
  obtain ⟨oc33, od33, sl33, kV33, dc33, pm33, an33, cd33, ct33, l33, c33⟩ := SaysX.def_ c 33 (d := fnL33) rfl
  obtain ⟨t0, e0⟩ := ns_str (SaysX.fact c 68 (f := fbL68) rfl)
  obtain ⟨t1, e1⟩ := ns_str (SaysX.fact c 69 (f := fbL69) rfl)
  obtain ⟨t2, e2⟩ := ns_int (SaysX.fact c 70 (f := fbL70) rfl)
  obtain ⟨t3, e3⟩ := ns_int (SaysX.fact c 71 (f := fbL71) rfl)
  obtain ⟨t4, e4⟩ := ns_int (SaysX.fact c 72 (f := fbL72) rfl)
  obtain ⟨t5, e5⟩ := ns_int (SaysX.fact c 73 (f := fbL73) rfl)
  obtain ⟨nm0, qq0, NN0, bs0, bm0, sn0, sb0, ab0, co0, dd0, kk00, kk10, kk20, kk30, kk50, cl0, cr0⟩ := excObj_of (SaysX.fact c 92 (f := fbL92) rfl)
  obtain ⟨ioc0, iod0, isl0, ikV0, idc0, ipm0, ian0, icd0, ict0, il0, ic0⟩ := SaysX.def_ c 34 (d := fnL34) rfl
  exact all_mk X G hfa (Xo c 0 (f := fbL0) rfl rfl) l0 c0 (Xd c 1 (f := fbL1) rfl) (Xo c 2 (f := fbL2) rfl rfl) l1 c1 (Xd c 3 (f := fbL3) rfl) (Xo c 4 (f := fbL4) rfl rfl) l2 c2 (Xd c 5 (f := fbL5) rfl) (Xo c 6 (f := fbL6) rfl rfl) l3 c3 (Xd c 7 (f := fbL7) rfl) (Xo c 8 (f := fbL8) rfl rfl) l4 c4 (Xd c 9 (f := fbL9) rfl) (Xo c 10 (f := fbL10) rfl rfl) l5 c5 (Xd c 11 (f := fbL11) rfl) (Xo c 12 (f := fbL12) rfl rfl) l6 c6 (Xd c 13 (f := fbL13) rfl) (Xo c 14 (f := fbL14) rfl rfl) l7 c7 (Xd c 15 (f := fbL15) rfl) (Xo c 16 (f := fbL16) rfl rfl) l8 c8 (Xd c 17 (f := fbL17) rfl) (Xo c 18 (f := fbL18) rfl rfl) l9 c9 (Xd c 19 (f := fbL19) rfl) (Xo c 20 (f := fbL20) rfl rfl) l10 c10 (Xd c 21 (f := fbL21) rfl) (Xo c 22 (f := fbL22) rfl rfl) l11 c11 (Xd c 23 (f := fbL23) rfl) (Xo c 24 (f := fbL24) rfl rfl) l12 c12 (Xd c 25 (f := fbL25) rfl) (Xo c 26 (f := fbL26) rfl rfl) l13 c13 (Xd c 27 (f := fbL27) rfl) (Xo c 28 (f := fbL28) rfl rfl) l14 c14 (Xd c 29 (f := fbL29) rfl) (Xo c 30 (f := fbL30) rfl rfl) l15 c15 (Xd c 31 (f := fbL31) rfl) (Xo c 32 (f := fbL32) rfl rfl) l16 c16 (Xd c 33 (f := fbL33) rfl) (Xo c 34 (f := fbL34) rfl rfl) l17 c17 (Xd c 35 (f := fbL35) rfl) (Xo c 36 (f := fbL36) rfl rfl) l18 c18 (Xd c 37 (f := fbL37) rfl) (Xo c 38 (f := fbL38) rfl rfl) l19 c19 (Xd c 39 (f := fbL39) rfl) (Xo c 40 (f := fbL40) rfl rfl) l20 c20 (Xd c 41 (f := fbL41) rfl) (Xo c 42 (f := fbL42) rfl rfl) l21 c21 (Xd c 43 (f := fbL43) rfl) (Xo c 44 (f := fbL44) rfl rfl) l22 c22 (Xd c 45 (f := fbL45) rfl) (Xo c 46 (f := fbL46) rfl rfl) l23 c23 (Xd c 47 (f := fbL47) rfl) (Xo c 48 (f := fbL48) rfl rfl) l24 c24 (Xd c 49 (f := fbL49) rfl) (Xo c 50 (f := fbL50) rfl rfl) l25 c25 (Xd c 51 (f := fbL51) rfl) (Xo c 52 (f := fbL52) rfl rfl) l26 c26 (Xd c 53 (f := fbL53) rfl) (Xo c 54 (f := fbL54) rfl rfl) l27 c27 (Xd c 55 (f := fbL55) rfl) (Xo c 56 (f := fbL56) rfl rfl) l28 c28 (Xd c 57 (f := fbL57) rfl) (Xo c 58 (f := fbL58) rfl rfl) l29 c29 (Xd c 59 (f := fbL59) rfl) (Xo c 60 (f := fbL60) rfl rfl) l30 c30 (Xd c 61 (f := fbL61) rfl) (Xo c 62 (f := fbL62) rfl rfl) l31 c31 (Xd c 63 (f := fbL63) rfl) (Xo c 64 (f := fbL64) rfl rfl) l32 c32 (Xd c 65 (f := fbL65) rfl) (Xo c 66 (f := fbL66) rfl rfl) l33 c33 (Xd c 67 (f := fbL67) rfl) e0 e1 e2 e3 e4 e5 (Xo c 74 (f := fbL74) rfl rfl) (Xo c 75 (f := fbL75) rfl rfl) (Xo c 76 (f := fbL76) rfl rfl) (Xo c 77 (f := fbL77) rfl rfl) (Xo c 78 (f := fbL78) rfl rfl) (Xo c 79 (f := fbL79) rfl rfl) (Xo c 80 (f := fbL80) rfl rfl) (Xo c 81 (f := fbL81) rfl rfl) (Xo c 82 (f := fbL82) rfl rfl) (Xo c 83 (f := fbL83) rfl rfl) (Xo c 84 (f := fbL84) rfl rfl) (Xo c 85 (f := fbL85) rfl rfl) (Xo c 86 (f := fbL86) rfl rfl) (Xo c 87 (f := fbL87) rfl rfl) (Xd c 88 (f := fbL88) rfl) (Xo c 89 (f := fbL89) rfl rfl) (Xo c 90 (f := fbL90) rfl rfl) (Xd c 91 (f := fbL91) rfl) cl0 cr0 (Xo c 93 (f := fbL93) rfl rfl) (Xo c 94 (f := fbL94) rfl rfl) (Xo c 95 (f := fbL95) rfl rfl) (Xo c 96 (f := fbL96) rfl rfl) (Xo c 97 (f := fbL97) rfl rfl) (Xo c 98 (f := fbL98) rfl rfl) (Xd c 99 (f := fbL99) rfl) il0 ic0 (Xd c 100 (f := fbL100) rfl) (Xo c 101 (f := fbL101) rfl rfl)
abbrev hkN : PySem.W.Hook := hookX 5 fbA fnA
def obN (s : PySem.W.SharedT) : He.Al := obsXG 5 fbA fnA (HandSHeadRun.getT s)
theorem obN_eq (s : PySem.W.SharedT) : obN s = hkN.obs s.abs := obsXG_eq (HandSHeadRun.getT_eq s)
theorem runN (w : World) : RunCut RowN (PySem.W.view RowN.prog [46]) hkN (12 + (1 + (1551 + (2)))) loose w := fun os => ⟨hSf w os, hcRun w os, hcLooks w os, hcSeen w os, by
  rw [← obN_eq]
  exact hcObs w os⟩
end RT
open PySem PySem.W PySem.Calls PyProof.Rows
set_option maxHeartbeats 0 in -- all of it
theorem PySem.Challenge.cw_roomtally_k39_lines_read_or_refused_holds : PySem.Challenge.rw_roomtally_k39_lines_read_or_refused.Holds := by
  w_on; o_law
  refine L2.DL.head_cut (r := OpenLaw.row PySem.Challenge.rw_roomtally_k39_lines_read_or_refused) (q := view (OpenLaw.row PySem.Challenge.rw_roomtally_k39_lines_read_or_refused).prog [46]) (H := RT.hkN) (loose := RT.loose) (d := HandSHeadRun.topDef (OpenLaw.row PySem.Challenge.rw_roomtally_k39_lines_read_or_refused).prog 46) (kwd := []) (by kernel_rfl) (fun s => by kernel_rfl) RT.runN (by kernel_rfl) (by kernel_rfl) (by kernel_rfl) (by rfl) (by first | assumption | decide +kernel) (by decide +kernel) ⟨rfl, rfl, rfl, rfl, rfl, by decide +kernel⟩ ?hw ?hc
  case hw => w_witness2
  case hc =>
    refine L2.DL.walk_ofX (l := PySem.Challenge.rw_roomtally_k39_lines_read_or_refused) (n := 63) (k := 9) (x := "_law_script") (CX := fun w => L2.CX (PySem.Challenge.rw_roomtally_k39_lines_read_or_refused).prog w) rfl (by decide) (by kernel_rfl) ⟨rfl, by decide, by decide⟩ ?F (fun _ _ _ _ _ h => h.elim fun _ ⟨_, _, _, _, _, _, _, _, _, _, _, z⟩ => z)
    intro w mg fa h Y G hmg0
    obtain ⟨K, KX, c⟩ := Y
    have hmg : mg ("law" : PySem.Str) = some (.ref fa) := by
      have e : (HandSHeadRun.topDef (OpenLaw.row PySem.Challenge.rw_roomtally_k39_lines_read_or_refused).prog 46).name = ("law" : PySem.Str) := by kernel_rfl
      rw [← e]
      exact hmg0
    obtain ⟨fd, hb, hF⟩ := RT.all_of (P := (PySem.Challenge.rw_roomtally_k39_lines_read_or_refused).prog) (w := w) KX G hmg c
    exact ⟨K, fd, RT.spLaw K, KX, hb, fun H a ns hl _ hS => ⟨a, ns, rfl, hS, hl, fun _ => rfl⟩, hF⟩

