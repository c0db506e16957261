/-
  Parts of the proof: the executor of states by symbols, and the contracts of the functions that the law reaches. No condition.
-/
import Derived.Test.YtmcidfecepknpaaProg
import Derived.Test.YtmcidfecepknpaaW0
set_option linter.unusedVariables false
set_option linter.unusedSimpArgs false

/-
  SHAD: what the executor says holds of the machine: rounds, and all code.
-/
namespace Go.Sh
open Go.RowKit
set_option linter.unusedVariables false
set_option linter.unusedSimpArgs false

section
variable {P : Program} {B : Nat} {W0 W : World} {env : Env} {h : Heap}

theorem loop_at (R : Rel B W0 env h W) {l : Nat} {st : LoopState} {pd : Option Code} {tm : List SV} {ps : List Tmp} {asg body : Code} (hl : hget h l = some (.loop st pd tm ps asg body)) :
    ∃ e L, env l = some e ∧ e.nil = false ∧ W.heap[e.blk]? = some (.loop L) ∧ L.state = st ∧ L.pending = pd ∧ VRs env tm L.tmps.toList ∧ L.params.toList = ps ∧ L.assign = asg ∧ L.body = body ∧
      (∀ st' pd', Rel B W0 env (hset h l (.loop st' pd' tm ps asg body)) (W.putObj e.blk (.loop { L with state := st', pending := pd' }))) ∧
      ∀ o, Rel B W0 env (h.set l none) (W.putObj e.blk o) := by
  obtain ⟨e, he, hn, hb, L, hlp, hL, h3, h4, h5, h6⟩ := R.obj l _ hl
  have hlt : e.blk < W.heap.size := (Array.getElem?_eq_some_iff.1 hL).1
  refine ⟨e, { L with state := st, pending := pd }, he, hn, hL, rfl, rfl, h3, h4, h5, h6, fun st' pd' => ?_, fun o => R.drop hl rfl he hn rfl rfl rfl World.putObj_size fun k hk => World.putObj_heap_other hk⟩
  exact R.write hl rfl rfl he hn rfl rfl rfl World.putObj_size (fun k hk => World.putObj_heap_other hk) ⟨hn, hb, L, hlp, World.putObj_heap_same hlt, h3, h4, h5, h6⟩

theorem setParams_ok : ∀ (ps : List Tmp) (args : List SV) (vals : List Value) (tm : List SV) (T : Array Value), VRs env tm T.toList → VRs env args vals →
    VRs env (setParams tm (ps.zip args)) ((ps.zip vals).foldl (fun (tmps : Array Value) (x : Tmp × Value) => tmps.setIfInBounds x.1 x.2) T).toList
  | [], _, _, _, _, hT, _ => by simpa [setParams] using hT
  | p :: ps, [], [], _, _, hT, _ => by simpa [setParams] using hT
  | p :: ps, s :: ss, v :: vs, tm, T, hT, ⟨h1, h2⟩ => by
    simp only [List.zip_cons_cons, setParams, List.foldl_cons]
    exact setParams_ok ps ss vs _ _ (by simpa using hT.set p h1) h2
  | _ :: _, [], _ :: _, _, _, _, h => h.elim
  | _ :: _, _ :: _, [], _, _, _, h => h.elim

theorem endRd_ok {S : SS} {a : Act} (st : St B W0 env S a W) {l : Nat} {e : Ent} (he : env l = some e) {x : SX} {k : KV} (H : endRd l x S k) {env0 : Env} (hle : Env.le env0 env) :
    roundPost P e.blk (EOk B W0 env0 k) x.toExit a W := by
  unfold endRd at H
  split at H <;> try exact H.elim
  rename_i sta pd tm ps asg body hl
  obtain ⟨e', L, he', hn, hL, h1, h2, h3, h4, h5, h6, hput, _⟩ := loop_at st.rel hl
  rw [he] at he'; cases he'
  cases x with
  | normal => exact ⟨_, _, run_endRound none hL, _, rfl, env, .bool true, _, hle, hput .ready none, rfl, H⟩
  | ret => exact ⟨_, _, run_endRound (some .ret) hL, _, rfl, env, .bool false, _, hle, hput .done (some .ret), rfl, H⟩
  | exit id => exact ⟨_, _, run_endRound (some (.exit id)) hL, _, rfl, env, .bool false, _, hle, hput .done (some (.exit id)), rfl, H⟩

theorem roundBy_ok {ex : Ex} (hs : SoundEx P ex) (f : FuncId) : RoundOK P (roundBy ex f) := by
  intro l args h k H B W0 env vs W e R he hvs
  unfold roundBy at H
  split at H <;> try exact H.elim
  rename_i sta pd tm ps asg body hl
  split at H <;> try exact H.elim
  rename_i hlen
  simp only [decide_eq_true_eq] at hlen
  obtain ⟨e', L, he', hn, hL, h1, h2, h3, h4, h5, h6, hput, _⟩ := loop_at R hl
  rw [he] at he'; cases he'
  have hsz : vs.size = L.params.size := by
    have := hvs.length
    have h4' := congrArg List.length h4
    simp at this h4'
    omega
  refine ⟨_, _, _, _, run_yield hL hsz, roundIn_of_wpIn trivial ?_⟩
  have hT : VRs env (setParams tm (ps.zip args)) ((L.params.zip vs).foldl (fun (tmps : Array Value) (x : Tmp × Value) => tmps.setIfInBounds x.1 x.2) L.tmps).toList := by
    rw [← Array.foldl_toList, Array.toList_zip, h4]
    exact setParams_ok ps args vs.toList tm L.tmps h3 hvs
  rw [h5, h6]
  refine hs _ _ _ _ H (some e.blk) B W0 env { tmps := _, defers := [] } W _ ⟨R, hT, trivial⟩ ⟨e, he, rfl⟩ fun x S' env' a' W' hle st' hrd hx => ?_
  cases x with
  | ret => exact hx.elim
  | exit id => exact hx.elim
  | normal =>
    dsimp only at hx
    split at hx <;> try exact hx.elim
    rename_i pd' tm' ps' asg' body' hl'
    obtain ⟨e1, L', he1, hn', hL', g1, g2, g3, g4, g5, g6, hput', _⟩ := loop_at st'.rel hl'
    rw [hle _ _ he] at he1; cases he1
    refine ⟨W'.putObj e.blk (.loop { L' with state := .busy }), run_beginRound hL' g1, ?_⟩
    have hR := hput' .busy L'.pending
    rw [g2] at hR
    have e2 : ({ L' with state := .busy, pending := pd' } : Loop) = { L' with state := .busy } := by rw [← g2]
    rw [e2] at hR
    refine hs _ _ _ _ hx (some e.blk) B W0 env' a' _ _ ⟨hR, st'.tmps, st'.defs⟩ (by rw [hrd]; exact ⟨e, hle _ _ he, rfl⟩) fun x S'' env'' a'' W'' hle' st'' hrd' hx' => ?_
    exact endRd_ok st'' (hle' _ _ (hle _ _ he)) hx' (Env.le_trans hle hle')

theorem callBy_ok {X : Ctx} (ok : X.OK) {ex : Ex} (hs : SoundEx X.P ex) : CallOK X.P (callBy X ex) := by
  intro g args h k H
  unfold callBy at H
  split at H
  · rename_i F hF
    exact ok.con g F hF args h k H
  · split at H <;> try exact H.elim
    rename_i fn hfn
    split at H <;> try exact H.elim
    rename_i b hb
    exact call_body hfn hb (hs _ _ _ _ H)

theorem unroll_ok {ex : SS → KX → Prop} {c : Code} (hs : ∀ S K, ex S K → SWp P c S K) : ∀ (m : Nat) {S : SS} {K : KX}, unroll ex m S K →
    ∀ {r : Option Nat} {env : Env} {a : Act} {W : World} {Q : Exit → Act → World → Prop}, St B W0 env S a W → RR env S.rnd r →
    (∀ x S' env' a' W', Env.le env env' → St B W0 env' S' a' W' → S'.rnd = S.rnd → K x S' → Q x.toExit a' W') → Code.roundsIn (FW r) 0 P c Q m a W
  | 0, _, _, H, _, _, _, _, _, _, _, _ => H.elim
  | m + 1, S, K, H, r, env, a, W, Q, st, hr, hQ => by
    rw [roundsIn_succ]
    refine hs _ _ H r B W0 env a W _ st hr fun x S' env' a' W' hle st' hrd hx => ?_
    cases x with
    | normal => exact unroll_ok hs m hx st' (by rw [hrd]; exact hr.mono hle) fun x S'' env'' a'' W'' hle' st'' hrd' hx' => hQ x S'' env'' a'' W'' (Env.le_trans hle hle') st'' (hrd'.trans hrd) hx'
    | ret => exact hQ .ret S' env' a' W' hle st' hrd hx
    | exit id => exact hQ (.exit id) S' env' a' W' hle st' hrd hx
end

theorem exec_sound {X : Ctx} (ok : X.OK) : ∀ n, SoundEx X.P (exec X n) := by
  intro n
  induction n with
  | zero => intro f c S K H; exact H.elim
  | succ n ih =>
    have hc := callBy_ok ok ih
    have hcm := callBy_mono ok (exec_mono ok n)
    intro f c S K H
    have hrd := roundBy_ok ih f
    have hrm := roundBy_mono (exec_mono ok n) f
    unfold exec at H
    cases c <;> try exact H.elim
    case skip => exact fun r B W0 env a W Q st hr hQ => wpIn_skip (hQ .normal S env a W (Env.le_refl _) st rfl H)
    case exit id => exact fun r B W0 env a W Q st hr hQ => wpIn_exit (hQ (.exit id) S env a W (Env.le_refl _) st rfl H)
    case ret => exact fun r B W0 env a W Q st hr hQ => wpIn_ret (hQ .ret S env a W (Env.le_refl _) st rfl H)
    case region id ops draw =>
      intro r B W0 env a W Q st hr hQ
      cases draw
      · exact wpIn_region (runOps_ok ok.pok hc hrd _ st H fun S' env' a' W' hle st' hd hn hk => hQ .normal S' env' a' W' hle st' hn hk)
      · dsimp only at H
        split at H
        · rename_i ops0 fs l hreg
          obtain ⟨rfl, H⟩ := H
          obtain ⟨g1, g2, g3⟩ := ok.regs _ _ _ _ _ hreg
          have hfull := sched_full hcm hrm (callBy_ext ok _) g3 l _ S g2 H
          rw [g1] at hfull
          exact wpIn_region_any ok.pok.mixed (runFull_ok ok.pok hc hrd _ _ (W := W.drew) ⟨st.rel.drew, st.tmps, st.defs⟩ hfull fun S' env' a' W' hle st' hd hn hk => hQ .normal S' env' a' W' hle st' hn hk)
        refine wpIn_region_any ok.pok.mixed (runFull_ok ok.pok hc hrd _ _ (W := W.drew) ⟨st.rel.drew, st.tmps, st.defs⟩ (runAny_full hcm hrm (callBy_ext ok _) _ _ _ _ (fun j hj => by simp [Array.getD, Nat.not_lt.2 hj]) H) fun S' env' a' W' hle st' hd hn hk => hQ .normal S' env' a' W' hle st' hn hk)
    case seq x y =>
      intro r B W0 env a W Q st hr hQ
      refine wpIn_seq (ih _ _ _ _ H r B W0 env a W _ st hr fun x S' env' a' W' hle st' hrd hx => ?_)
      cases x with
      | normal => exact ih _ _ _ _ hx r B W0 env' a' W' _ st' (by rw [hrd]; exact hr.mono hle) fun x S'' env'' a'' W'' hle' st'' hrd' hx' => hQ x S'' env'' a'' W'' (Env.le_trans hle hle') st'' (hrd'.trans hrd) hx'
      | ret => exact hQ .ret S' env' a' W' hle st' hrd hx
      | exit id => exact hQ (.exit id) S' env' a' W' hle st' hrd hx
    case cond c t e =>
      intro r B W0 env a W Q st hr hQ
      dsimp only at H
      split at H <;> try exact H.elim
      rename_i b hb
      have hcv := ev_ok st.tmps c
      rw [hb] at hcv
      simp only [VR] at hcv
      have same : S.known c b = S := by
        cases c with
        | tmp i => exact SS.put_same hb
        | _ => rfl
      cases b with
      | true =>
        simp only [ifB] at H
        rw [same] at H
        exact wpIn_cond_true hcv (ih _ _ _ _ H r B W0 env a W Q st hr hQ)
      | false =>
        simp only [ifB] at H
        rw [same] at H
        exact wpIn_cond_false hcv (ih _ _ _ _ H r B W0 env a W Q st hr hQ)
    case block id b =>
      intro r B W0 env a W Q st hr hQ
      refine wpIn_block (ih _ _ _ _ H r B W0 env a W _ st hr fun x S' env' a' W' hle st' hrd hx => ?_)
      cases x with
      | normal => exact hQ .normal S' env' a' W' hle st' hrd hx
      | ret => exact hQ .ret S' env' a' W' hle st' hrd hx
      | exit j =>
        simp only [blockK] at hx
        simp only [SX.toExit, Exit.inBlock]
        split at hx
        · rename_i hj
          rw [if_pos (by simpa using hj)]
          exact hQ .normal S' env' a' W' hle st' hrd hx
        · rename_i hj
          rw [if_neg (by simpa using hj)]
          exact hQ (.exit j) S' env' a' W' hle st' hrd hx
    case loop b =>
      dsimp only at H
      split at H
      · rename_i b0 L hL
        obtain ⟨rfl, H⟩ := H
        exact ok.loops _ _ _ _ hL _ _ H
      · exact fun r B W0 env a W Q st hr hQ => wpIn_loop_rounds n (unroll_ok (ih f b) n H st hr hQ)
    case rangeFunc g ps asg body =>
      intro r B W0 env a W Q st hr hQ
      dsimp only at H
      split at H <;> try exact H.elim
      rename_i gf first cap hg
      split at H <;> try exact H.elim
      rename_i bd hbd
      have hgv := ev_ok st.tmps g
      rw [hg] at hgv
      simp only [VR] at hgv
      obtain ⟨f', a', c', hv, hfn, hfa, hfc⟩ := hgv
      simp only [FnR] at hfn
      subst hfn
      obtain ⟨fn, hfun, hbody⟩ : ∃ fn, X.P.funcs[gf]? = some fn ∧ fn.body = some bd := by
        cases hq : X.P.funcs[gf]? with
        | none => simp [hq] at hbd
        | some fn => exact ⟨fn, rfl, by simpa [hq] using hbd⟩
      have hnm : ¬ fn.name = "runtime.NumGoroutine" := by simpa using ok.pok.names gf fn hfun
      -- the end of the loop
      have done : ∀ {ll : Nat} {ds : List Nat} {mark : List Deferred} {env1 : Env} {e : Ent}, env1 ll = some e → Env.le env env1 → DR env1 ds (mark ++ a.defers) → ∀ (en : Ending) (W3 : World),
          EOk B W0 env1 (endFor (exec X n f) S ll ds K) en W3 → rangePost (FW r) 0 X.P e.blk Q { a with defers := mark ++ a.defers } en W3 := by
        intro ll ds mark env1 e he hle1 hds en W3 hen
        obtain ⟨v', rfl, env2, v, h', hle2, R2, hvv, hend⟩ := hen
        unfold endFor at hend
        split at hend <;> try exact hend.elim
        rename_i sta pd tm ps' asg' body' hl
        split at hend <;> try exact hend.elim
        rename_i hbusy
        obtain ⟨e', L, he', hn, hL, h1, h2, h3, h4, h5, h6, _, hdrop⟩ := loop_at R2 hl
        rw [hle2 _ _ he] at he'; cases he'
        refine ⟨L.pending, _, run_endLoop hL (by rw [h1]; exact hbusy), ?_⟩
        have st3 : ∀ o, St B W0 env2 { S with heap := h'.set ll none, defs := ds } { a with defers := mark ++ a.defers } (W3.putObj e.blk o) := fun o => ⟨hdrop _, VRs.mono (Env.le_trans hle1 hle2) _ _ st.tmps, DR.mono hle2 hds⟩
        rw [h2]
        cases pd with
        | none => exact hQ .normal _ env2 _ _ (Env.le_trans hle1 hle2) (st3 _) rfl hend
        | some c =>
          exact ih _ _ _ _ hend r B W0 env2 _ _ Q (st3 _) (hr.mono (Env.le_trans hle1 hle2)) fun x S'' env'' a'' W'' hle' st'' hrd' hx' => hQ x S'' env'' a'' W'' (Env.le_trans (Env.le_trans hle1 hle2) hle') st'' hrd' hx'
      refine wpIn_rangeFunc fun fnid _ => ?_
      split at H
      · rename_i hrnd
        rw [hrnd] at hr
        cases r with
        | some b => exact hr.elim
        | none =>
          -- the two blocks
          let e0 : Ent := ⟨W.heap.size, 0, 0, 0, false, none⟩
          let W1 := W.alloc (.deferred (some []))
          have hB := st.rel.hB
          have R1 : Rel B W0 (env.upd S.heap.length e0) (S.heap ++ [some .defs]) W1 := st.rel.alloc _ e0 .defs (fun _ => rfl) ⟨rfl, hB, World.alloc_heap_new _ _⟩
          have le1 : Env.le env (env.upd S.heap.length e0) := Env.le_upd (st.rel.fresh _ (Nat.le_refl _))
          let L : Loop := { state := .ready, pending := none, fn := fnid, tmps := a.tmps, params := ps, assign := asg, body := body, defers := W.heap.size }
          let e1 : Ent := ⟨W1.heap.size, 0, 0, 0, false, some L⟩
          have hlen : (S.heap ++ [some SO.defs]).length = S.heap.length + 1 := by simp
          have le2 : Env.le (env.upd S.heap.length e0) ((env.upd S.heap.length e0).upd (S.heap ++ [some SO.defs]).length e1) := Env.le_upd (R1.fresh _ (Nat.le_refl _))
          have R2 := R1.alloc (.loop L) e1 (.loop .ready none S.tmps ps.toList asg body) (fun _ => rfl) ⟨rfl, R1.hB, L, rfl, World.alloc_heap_new _ _, VRs.mono (Env.le_trans le1 le2) _ _ st.tmps, rfl, rfl, rfl⟩
          rw [hlen] at R2 le2
          have hcall := hc gf _ _ _ H B W0 _ (a' ++ #[.func (.yield (W.heap.size + 1)) #[] #[]] ++ c') _ R2 (by
            have hle := Env.le_trans le1 le2
            simp only [Array.toList_append]
            refine ((VRs.mono hle _ _ hfa).append ?_).append (VRs.mono hle _ _ hfc)
            refine ⟨?_, trivial⟩
            simp only [VR]
            exact ⟨_, #[], #[], rfl, ⟨e1, by simp, by simp [e1, W1]⟩, trivial, trivial⟩)
          refine ⟨W.heap.size + 1, [{ target := .collected W.heap.size, args := #[] }], W1.alloc (.loop L), Deferred.mk (.fn (.func gf) c') (a' ++ #[.func (.yield (W.heap.size + 1)) #[] #[]]), W1.alloc (.loop L), gf, a' ++ #[.func (.yield (W.heap.size + 1)) #[] #[]] ++ c', W1.alloc (.loop L), run_enterLoop_outer fnid a.tmps ps asg body, ?_, fun _ _ => trivial, ?_, fun h => by simp [FW, Fence.wide] at h, ?_⟩
          · simp [resolve, hv, Deferred.ofValue, show ∀ v, a.eval (.const v) = v from fun _ => rfl]
          · simp [invoke, callFunc, hfun, hnm, hbody]
          · refine CallsIn.mono (calls_fw hcall) fun en W3 hen => ?_
            have := done (ll := S.heap.length + 1) (ds := S.heap.length :: S.defs) (mark := [{ target := .collected W.heap.size, args := #[] }]) (e := e1) (by simp) (Env.le_trans le1 le2) ⟨⟨e0, le2 _ _ (by simp), rfl⟩, DR.mono (Env.le_trans le1 le2) st.defs⟩ en W3 hen
            simpa [e1, W1] using this
      · rename_i l hrnd
        split at H <;> try exact H.elim
        rename_i sta pd tm ps' asg' body' hl
        rw [hrnd] at hr
        cases r with
        | none => exact hr.elim
        | some b =>
          obtain ⟨e, he, rfl⟩ := hr
          obtain ⟨e', Lo, he', hn, hLo, _⟩ := loop_at st.rel hl
          rw [he] at he'; cases he'
          let L : Loop := { state := .ready, pending := none, fn := fnid, tmps := a.tmps, params := ps, assign := asg, body := body, defers := Lo.defers }
          let e1 : Ent := ⟨W.heap.size, 0, 0, 0, false, some L⟩
          have hB := st.rel.hB
          have le1 : Env.le env (env.upd S.heap.length e1) := Env.le_upd (st.rel.fresh _ (Nat.le_refl _))
          have R2 := st.rel.alloc (.loop L) e1 (.loop .ready none S.tmps ps.toList asg body) (fun _ => rfl) ⟨rfl, hB, L, rfl, World.alloc_heap_new _ _, VRs.mono le1 _ _ st.tmps, rfl, rfl, rfl⟩
          have hcall := hc gf _ _ _ H B W0 _ (a' ++ #[.func (.yield W.heap.size) #[] #[]] ++ c') _ R2 (by
            simp only [Array.toList_append]
            refine ((VRs.mono le1 _ _ hfa).append ?_).append (VRs.mono le1 _ _ hfc)
            refine ⟨?_, trivial⟩
            simp only [VR]
            exact ⟨_, #[], #[], rfl, ⟨e1, by simp, by simp [e1]⟩, trivial, trivial⟩)
          have hent : (Instr.enterLoop fnid a.tmps ps asg body (some e.blk)).run X.P W = .ok (W.heap.size, []) (W.alloc (.loop L)) := by
            unfold Instr.enterLoop
            simp only [Sem.run_bind, run_getLoop hLo, run_newObj_alloc, Result.andThen, Sem.run_pure]
            rfl
          refine ⟨W.heap.size, [], W.alloc (.loop L), Deferred.mk (.fn (.func gf) c') (a' ++ #[.func (.yield W.heap.size) #[] #[]]), W.alloc (.loop L), gf, a' ++ #[.func (.yield W.heap.size) #[] #[]] ++ c', W.alloc (.loop L), hent, ?_, fun _ _ => trivial, ?_, fun h => by simp [FW, Fence.wide] at h, ?_⟩
          · simp [resolve, hv, Deferred.ofValue, show ∀ v, a.eval (.const v) = v from fun _ => rfl]
          · simp [invoke, callFunc, hfun, hnm, hbody]
          · refine CallsIn.mono (calls_fw hcall) fun en W3 hen => ?_
            exact done (ll := S.heap.length) (ds := S.defs) (mark := []) (e := e1) (by simp) le1 (DR.mono le1 st.defs) en W3 hen
end Go.Sh

/-
  SHAD: a state is seen as another one: labels are named anew, what is no longer needed is forgotten.
-/
namespace Go.Sh
open Go.RowKit
set_option linter.unusedVariables false
set_option linter.unusedSimpArgs false

/-- Which label of the old state a label of the new one stands for. -/
abbrev Lab := Nat → Option Nat

def notAny : SV → Bool | .any => false | _ => true
def gate (f : Lab) (l' l : Nat) (p : Prop) : Prop := match f l' with | some x => (match decide (x = l) with | true => p | false => False) | none => False
def gateB (b : Bool) (p : Prop) : Prop := match b with | true => p | false => False

theorem gate_spec {f : Lab} {l' l : Nat} {p : Prop} (h : gate f l' l p) : f l' = some l ∧ p := by
  unfold gate at h
  split at h <;> try exact h.elim
  rename_i x hx
  split at h <;> try exact h.elim
  rename_i hd
  simp only [decide_eq_true_eq] at hd
  subst hd
  exact ⟨hx, h⟩
theorem gateB_spec {b : Bool} {p : Prop} (h : gateB b p) : b = true ∧ p := by
  cases b
  · exact h.elim
  · exact ⟨rfl, h⟩

def wkFn (f : Lab) : Fn → Fn → Prop → Prop
  | .yield l', g, p => match g with | .yield l => gate f l' l p | _ => False
  | .func a, g, p => match g with | .func b => gateB (decide (a = b)) p | _ => False
  | _, _, _ => False

mutual
/-- The new value says of the old one no more than what is known. -/
def wkV (f : Lab) (z : Nat → Bool) : SV → SV → Prop
  | .any, _ => True
  | .und, s => match s with | .und => True | _ => False
  | .bool b, s => match s with | .bool c => b = c | _ => False
  | .int k n, s => match s with | .int k' n' => gateB (decide (k = k')) (n = n') | _ => False
  | .str b, s => match s with | .str c => b = c | _ => False
  | .ptr l i j, s => match s with | .ptr l2 i2 j2 => gate f l l2 (i = i2 ∧ j = j2) | _ => False
  | .gptr g i, s => match s with | .gptr g2 i2 => g = g2 ∧ i = i2 | _ => False
  | .nilp, s => match s with | .nilp => True | _ => False
  | .sl l o n, s => match s with
    | .sl l2 o2 n2 => gate f l l2 (o = o2 ∧ n = n2)
    | .osl l2 n2 => gate f l l2 (o = 0 ∧ n = n2)
    | .nils => gateB (z l) (n = 0)
    | _ => False
  | .osl l n, s => match s with | .osl l2 n2 => gate f l l2 (n = n2) | .nils => gateB (z l) (n = 0) | _ => False
  | .nils, s => match s with | .nils => True | _ => False
  | .map l, s => match s with | .map l2 => gate f l l2 True | _ => False
  | .nilm, s => match s with | .nilm => True | _ => False
  | .fn g a c, s => match s with | .fn g2 a2 c2 => wkFn f g g2 (wkVs f z a a2 ∧ wkVs f z c c2) | _ => False
  | .nilf, s => match s with | .nilf => True | _ => False
  | .agg cs, s => match s with | .agg ds => wkVs f z cs ds | _ => False
  | .tup cs, s => match s with | .tup ds => wkVs f z cs ds | _ => False
  | .iface t x, s => match s with | .iface t2 y => t = t2 ∧ wkV f z x y | _ => False
  | .nili, s => match s with | .nili => True | _ => False
def wkVs (f : Lab) (z : Nat → Bool) : List SV → List SV → Prop
  | [], ss => match ss with | [] => True | _ => False
  | s' :: ss', ss => match ss with
    | s :: ss => (match notAny s' with | true => wkV f z s' s ∧ wkVs f z ss' ss | false => wkVs f z ss' ss)
    | [] => False
end

theorem wkVs_cons {f : Lab} {z : Nat → Bool} {s' s : SV} {ss' ss : List SV} (h : wkVs f z (s' :: ss') (s :: ss)) : wkV f z s' s ∧ wkVs f z ss' ss := by
  unfold wkVs at h
  dsimp only at h
  split at h
  · exact h
  · rename_i hn
    refine ⟨?_, h⟩
    cases s' <;> first | (simp [notAny] at hn; done) | (simp only [wkV])

def wkEs (f : Lab) (z : Nat → Bool) : List (SV × SV) → List (SV × SV) → Prop
  | [], es => match es with | [] => True | _ => False
  | e' :: es', es => match es with | e :: es => wkV f z e'.1 e.1 ∧ wkV f z e'.2 e.2 ∧ wkEs f z es' es | [] => False

/-- The environment of the new state. -/
def Env.lab (env : Env) (f : Lab) (z : Nat → Option Ent) : Env := fun l => match f l with | some x => env x | none => z l

section
variable {env env' : Env} {f : Lab} {z : Nat → Bool}

/-- What the two environments have to do with one another. -/
structure LabOK (env env' : Env) (f : Lab) (z : Nat → Bool) : Prop where
  lab : ∀ l x e, f l = some x → env x = some e → env' l = some e
  nil : ∀ l, z l = true → ∃ e, env' l = some e ∧ e.nil = true

mutual
theorem wkV_ok (H : LabOK env env' f z) : ∀ (s' s : SV) (v : Value), wkV f z s' s → VR env s v → VR env' s' v
  | .any, _, _, _, _ => by simp only [VR]
  | .und, s, v, h, hv => by cases s <;> first | exact h.elim | exact hv
  | .bool b, s, v, h, hv => by cases s <;> first | exact h.elim | (simp only [wkV] at h; subst h; exact hv)
  | .int k n, s, v, h, hv => by
    cases s <;> first | exact h.elim | skip
    simp only [wkV] at h
    obtain ⟨hk, hn⟩ := gateB_spec h
    simp only [decide_eq_true_eq] at hk
    subst hk; subst hn; exact hv
  | .str b, s, v, h, hv => by cases s <;> first | exact h.elim | (simp only [wkV] at h; subst h; exact hv)
  | .ptr l i j, s, v, h, hv => by
    cases s <;> first | exact h.elim | skip
    simp only [wkV] at h
    obtain ⟨hl, rfl, rfl⟩ := gate_spec h
    obtain ⟨e, he, hr⟩ := hv
    exact ⟨e, H.lab _ _ _ hl he, hr⟩
  | .gptr g i, s, v, h, hv => by cases s <;> first | exact h.elim | (simp only [wkV] at h; obtain ⟨rfl, rfl⟩ := h; exact hv)
  | .nilp, s, v, h, hv => by cases s <;> first | exact h.elim | exact hv
  | .sl l o n, s, v, h, hv => by
    cases s <;> first | exact h.elim | skip
    · simp only [wkV] at h
      obtain ⟨hl, rfl, rfl⟩ := gate_spec h
      obtain ⟨e, a, c, he, hr⟩ := hv
      exact ⟨e, a, c, H.lab _ _ _ hl he, hr⟩
    · simp only [wkV] at h
      obtain ⟨hl, rfl, rfl⟩ := gate_spec h
      obtain ⟨e, he, ⟨hn, hz, rfl⟩ | ⟨hn, hb, hc, hm, rfl⟩⟩ := hv
      · exact ⟨e, none, 0, H.lab _ _ _ hl he, by rw [hz], by omega, .inl hz⟩
      · exact ⟨e, _, _, H.lab _ _ _ hl he, rfl, hc, .inr ⟨hn, by simp [hb]⟩⟩
    · simp only [wkV] at h
      obtain ⟨hz, rfl⟩ := gateB_spec h
      obtain ⟨e, he, _⟩ := H.nil _ hz
      simp only [VR] at hv
      subst hv
      exact ⟨e, none, 0, he, rfl, by omega, .inl rfl⟩
  | .osl l n, s, v, h, hv => by
    cases s <;> first | exact h.elim | skip
    · simp only [wkV] at h
      obtain ⟨hl, rfl⟩ := gate_spec h
      obtain ⟨e, he, hr⟩ := hv
      exact ⟨e, H.lab _ _ _ hl he, hr⟩
    · simp only [wkV] at h
      obtain ⟨hz, rfl⟩ := gateB_spec h
      obtain ⟨e, he, hn⟩ := H.nil _ hz
      simp only [VR] at hv
      exact ⟨e, he, .inl ⟨hn, rfl, hv⟩⟩
  | .nils, s, v, h, hv => by cases s <;> first | exact h.elim | exact hv
  | .map l, s, v, h, hv => by
    cases s <;> first | exact h.elim | skip
    simp only [wkV] at h
    obtain ⟨hl, _⟩ := gate_spec h
    obtain ⟨e, he, hr⟩ := hv
    exact ⟨e, H.lab _ _ _ hl he, hr⟩
  | .nilm, s, v, h, hv => by cases s <;> first | exact h.elim | exact hv
  | .fn g a c, s, v, h, hv => by
    cases s <;> first | exact h.elim | skip
    rename_i g2 a2 c2
    simp only [wkV] at h
    obtain ⟨f', a', c', rfl, hf, ha, hc⟩ := hv
    cases g with
    | yield l' =>
      cases g2 <;> first | exact h.elim | skip
      obtain ⟨hl, h1, h2⟩ := gate_spec h
      obtain ⟨e, he, hr⟩ := hf
      exact ⟨f', a', c', rfl, ⟨e, H.lab _ _ _ hl he, hr⟩, wkVs_ok H _ _ _ h1 ha, wkVs_ok H _ _ _ h2 hc⟩
    | func x =>
      cases g2 <;> first | exact h.elim | skip
      obtain ⟨hl, h1, h2⟩ := gateB_spec h
      simp only [decide_eq_true_eq] at hl
      subst hl
      exact ⟨f', a', c', rfl, hf, wkVs_ok H _ _ _ h1 ha, wkVs_ok H _ _ _ h2 hc⟩
    | _ => exact h.elim
  | .nilf, s, v, h, hv => by cases s <;> first | exact h.elim | exact hv
  | .agg cs, s, v, h, hv => by
    cases s <;> first | exact h.elim | skip
    obtain ⟨a, rfl, ha⟩ := hv
    exact ⟨a, rfl, wkVs_ok H _ _ _ h ha⟩
  | .tup cs, s, v, h, hv => by
    cases s <;> first | exact h.elim | skip
    obtain ⟨a, rfl, ha⟩ := hv
    exact ⟨a, rfl, wkVs_ok H _ _ _ h ha⟩
  | .iface t x, s, v, h, hv => by
    cases s <;> first | exact h.elim | skip
    obtain ⟨rfl, h2⟩ := h
    obtain ⟨y, rfl, hy⟩ := hv
    exact ⟨y, rfl, wkV_ok H _ _ _ h2 hy⟩
  | .nili, s, v, h, hv => by cases s <;> first | exact h.elim | exact hv
theorem wkVs_ok (H : LabOK env env' f z) : ∀ (s' s : List SV) (v : List Value), wkVs f z s' s → VRs env s v → VRs env' s' v
  | [], [], [], _, _ => trivial
  | s' :: ss', s :: ss, v :: vs, h, ⟨h3, h4⟩ => ⟨wkV_ok H _ _ _ (wkVs_cons h).1 h3, wkVs_ok H _ _ _ (wkVs_cons h).2 h4⟩
  | [], _ :: _, _, h, _ => h.elim
  | _ :: _, [], _, h, _ => h.elim
  | [], [], _ :: _, _, h => h.elim
  | _ :: _, _ :: _, [], _, h => h.elim
end

theorem wkEs_ok (H : LabOK env env' f z) : ∀ (s' s : List (SV × SV)) (v : List MapEntry), wkEs f z s' s → ER env s v → ER env' s' v
  | [], [], [], _, _ => trivial
  | (a', b') :: ss', (a, b) :: ss, v :: vs, ⟨h1, h2, h3⟩, ⟨h4, h5, h6⟩ => ⟨wkV_ok H _ _ _ h1 h4, wkV_ok H _ _ _ h2 h5, wkEs_ok H _ _ _ h3 h6⟩
  | [], _ :: _, _, h, _ => h.elim
  | _ :: _, [], _, h, _ => h.elim
  | [], [], _ :: _, _, h => h.elim
  | _ :: _, _ :: _, [], _, h => h.elim

theorem isCell_wk : ∀ {s' s : SV}, wkV f z s' s → isCell s = true → notAny s' = true → isCell s' = true := by
  intro s' s h hs hn
  cases s' <;> first
    | rfl
    | (cases s <;> first | exact h.elim | (simp [isCell] at hs; done))
    | (simp [notAny] at hn; done)
end

/-- A proposition that is left as it is. -/
def Leaf (p : Prop) : Prop := p

section
variable {env env' : Env}
mutual
/-- Values that bear no label. -/
def plainV : SV → Bool
  | .bool _ | .int _ _ | .str _ | .nilp | .nils | .nilm | .nilf | .nili | .gptr _ _ => true
  | .fn (.func _) a c => plainVs a && plainVs c
  | .agg cs => plainVs cs
  | .tup cs => plainVs cs
  | .iface _ x => plainV x
  | _ => false
def plainVs : List SV → Bool
  | [] => true
  | s :: r => plainV s && plainVs r
end

mutual
theorem plainV_ok : ∀ (s : SV) (v : Value), plainV s = true → VR env s v → VR env' s v
  | .bool _, v, h, hv => hv
  | .int _ _, v, h, hv => hv
  | .str _, v, h, hv => hv
  | .nilp, v, h, hv => hv
  | .nils, v, h, hv => hv
  | .nilm, v, h, hv => hv
  | .nilf, v, h, hv => hv
  | .nili, v, h, hv => hv
  | .gptr _ _, v, h, hv => hv
  | .fn (.func f) a c, v, h, hv => by
    simp only [plainV, Bool.and_eq_true] at h
    obtain ⟨f', a', c', rfl, hf, ha, hc⟩ := hv
    exact ⟨f', a', c', rfl, hf, plainVs_ok a _ h.1 ha, plainVs_ok c _ h.2 hc⟩
  | .agg cs, v, h, hv => by
    obtain ⟨a, rfl, ha⟩ := hv
    exact ⟨a, rfl, plainVs_ok cs _ h ha⟩
  | .tup cs, v, h, hv => by
    obtain ⟨a, rfl, ha⟩ := hv
    exact ⟨a, rfl, plainVs_ok cs _ h ha⟩
  | .iface t x, v, h, hv => by
    obtain ⟨y, rfl, hy⟩ := hv
    exact ⟨y, rfl, plainV_ok x _ h hy⟩
  | .any, v, h, hv => by simp only [VR]
  | .und, v, h, hv => hv
  | .ptr _ _ _, v, h, hv => by simp [plainV] at h
  | .sl _ _ _, v, h, hv => by simp [plainV] at h
  | .osl _ _, v, h, hv => by simp [plainV] at h
  | .map _, v, h, hv => by simp [plainV] at h
  | .fn g a c, v, h, hv => by
    cases g with
    | func f =>
      simp only [plainV, Bool.and_eq_true] at h
      obtain ⟨f', a', c', rfl, hf, ha, hc⟩ := hv
      exact ⟨f', a', c', rfl, hf, plainVs_ok a _ h.1 ha, plainVs_ok c _ h.2 hc⟩
    | _ => simp [plainV] at h
theorem plainVs_ok : ∀ (s : List SV) (v : List Value), plainVs s = true → VRs env s v → VRs env' s v
  | [], [], _, _ => trivial
  | s :: ss, v :: vs, h, ⟨h1, h2⟩ => by
    simp only [plainVs, Bool.and_eq_true] at h
    exact ⟨plainV_ok s v h.1 h1, plainVs_ok ss vs h.2 h2⟩
  | [], _ :: _, _, h => h.elim
  | _ :: _, [], _, h => h.elim
end

def plainE (es : List (SV × SV)) : Bool := es.all fun e => plainV e.1 && plainV e.2
theorem plainE_ok : ∀ (s : List (SV × SV)) (v : List MapEntry), plainE s = true → ER env s v → ER env' s v
  | [], [], _, _ => trivial
  | (a, b) :: ss, v :: vs, h, ⟨h1, h2, h3⟩ => by
    simp only [plainE, List.all_cons, Bool.and_eq_true] at h
    exact ⟨plainV_ok a _ h.1.1 h1, plainV_ok b _ h.1.2 h2, plainE_ok ss vs h.2 h3⟩
  | [], _ :: _, _, h => h.elim
  | _ :: _, [], _, h => h.elim

theorem plainE_perm {a b : List (SV × SV)} (h : a.Perm b) (ha : plainE a = true) : plainE b = true := by
  simp only [plainE, List.all_eq_true] at ha ⊢
  exact fun e he => ha e (h.mem_iff.2 he)
end

/-! ### objects -/

def implB (a b : Bool) : Bool := match a with | true => b | false => true

def noAny : List SV → Bool
  | [] => true
  | .any :: _ => false
  | _ :: r => noAny r

/-- Of a loop's record, its state alone: the rest stays as it was laid. -/
def wkO (f : Lab) (z : Nat → Bool) : SO → SO → Prop
  | .arr own n k t g, o => match o with
    | .arr own2 n2 k2 t2 g2 => gateB (implB own own2) (gateB (decide (k = k2)) (gateB (implB own (decide (t = t2))) (n = n2 ∧ ∀ i, i < n → gateB (noAny (g i)) (wkVs f z (g i) (g2 i)))))
    | _ => False
  | .mp es, o => match o with | .mp es2 => wkEs f z es es2 | _ => False
  | .loop st pd _ _ _ _, o => match o with
    | .loop st2 pd2 _ _ _ _ => gateB (decide (st = st2)) (match pd, pd2 with | none, none => True | some c, some c2 => c2 = c | _, _ => False)
    | _ => False
  | .defs, o => match o with | .defs => True | _ => False
  | .tbl own es, o => match o with
    | .tbl own2 es2 => gateB (implB own own2) (gateB (plainE es2) (Leaf (List.Perm es2 es)))
    | .mp es2 => Leaf (plainE es2 = true ∧ List.Perm es2 es)
    | _ => False

def wkH (f : Lab) (z : Nat → Bool) (h : Heap) : List (Option SO) → Nat → Prop
  | [], _ => True
  | none :: r, i => wkH f z h r (i + 1)
  | some o' :: r, i => match f i with
    | some x => match hget h x with
      | some o => wkO f z o' o ∧ wkH f z h r (i + 1)
      | none => False
    | none => gateB (z i) (match o' with | .arr _ n _ _ _ => n = 0 ∧ wkH f z h r (i + 1) | _ => False)

theorem wkH_get {f : Lab} {z : Nat → Bool} {h : Heap} : ∀ {h' : List (Option SO)} {i : Nat}, wkH f z h h' i → ∀ {j : Nat} {o' : SO}, h'[j]? = some (some o') →
    (∃ x o, f (i + j) = some x ∧ hget h x = some o ∧ wkO f z o' o) ∨ (f (i + j) = none ∧ z (i + j) = true ∧ ∃ own k t g, o' = .arr own 0 k t g)
  | [], i, _, j, o', hj => by simp at hj
  | none :: r, i, H, j, o', hj => by
    cases j with
    | zero => simp at hj
    | succ j =>
      have := wkH_get (h' := r) (i := i + 1) H (j := j) (o' := o') (by simpa using hj)
      rwa [show i + 1 + j = i + (j + 1) by omega] at this
  | some y :: r, i, H, j, o', hj => by
    unfold wkH at H
    have rest : wkH f z h r (i + 1) := by
      split at H
      · split at H
        · exact H.2
        · exact H.elim
      · obtain ⟨_, H⟩ := gateB_spec H
        split at H
        · exact H.2
        · exact H.elim
    cases j with
    | zero =>
      simp at hj
      subst hj
      split at H
      · rename_i x hx
        split at H
        · rename_i o ho
          exact .inl ⟨x, o, by simpa using hx, ho, H.1⟩
        · exact H.elim
      · rename_i hx
        obtain ⟨hz, H⟩ := gateB_spec H
        split at H
        · exact .inr ⟨by simpa using hx, by simpa using hz, _, _, _, _, by rw [H.1]⟩
        · exact H.elim
    | succ j =>
      have := wkH_get (h' := r) (i := i + 1) rest (j := j) (o' := o') (by simpa using hj)
      rwa [show i + 1 + j = i + (j + 1) by omega] at this

/-- The labels that may be written stand for labels of their own. -/
def aliveMut (f : Lab) : List (Option SO) → Nat → List (Nat × Bool)
  | [], _ => []
  | none :: r, i => aliveMut f r (i + 1)
  | some o :: r, i => match f i with
    | some x => (x, o.mut) :: aliveMut f r (i + 1)
    | none => aliveMut f r (i + 1)

def sepB : List (Nat × Bool) → Bool
  | [] => true
  | (x, m) :: r => (r.all fun q => !(Nat.beq x q.1) || (!m && !q.2)) && sepB r

theorem aliveMut_mem {f : Lab} : ∀ {h' : List (Option SO)} {i j : Nat} {o : SO} {x : Nat}, h'[j]? = some (some o) → f (i + j) = some x → (x, o.mut) ∈ aliveMut f h' i
  | [], i, j, o, x, hj, _ => by simp at hj
  | none :: r, i, j, o, x, hj, hx => by
    cases j with
    | zero => simp at hj
    | succ j =>
      unfold aliveMut
      exact aliveMut_mem (i := i + 1) (j := j) (by simpa using hj) (by rwa [show i + 1 + j = i + (j + 1) by omega])
  | some y :: r, i, j, o, x, hj, hx => by
    unfold aliveMut
    cases j with
    | zero =>
      simp at hj hx
      subst hj
      rw [hx]
      exact List.mem_cons_self
    | succ j =>
      have := aliveMut_mem (f := f) (h' := r) (i := i + 1) (j := j) (o := o) (x := x) (by simpa using hj) (by rwa [show i + 1 + j = i + (j + 1) by omega])
      split
      · exact List.mem_cons_of_mem _ this
      · exact this

theorem sepB_spec {f : Lab} : ∀ {h' : List (Option SO)} {i : Nat}, sepB (aliveMut f h' i) = true → ∀ {j j' : Nat} {o o' : SO} {x x' : Nat}, j < j' → h'[j]? = some (some o) → h'[j']? = some (some o') → f (i + j) = some x → f (i + j') = some x' →
    (o.mut = true ∨ o'.mut = true) → x ≠ x'
  | [], i, _, j, j', o, o', x, x', _, hj, _, _, _, _ => by simp at hj
  | y :: r, i, H, j, j', o, o', x, x', hlt, hj, hj', hx, hx', hm => by
    cases j' with
    | zero => omega
    | succ j' =>
      cases j with
      | succ j =>
        have H' : sepB (aliveMut f r (i + 1)) = true := by
          cases y with
          | none => unfold aliveMut at H; exact H
          | some y =>
            unfold aliveMut at H
            split at H
            · simp only [sepB, Bool.and_eq_true] at H; exact H.2
            · exact H
        exact sepB_spec (i := i + 1) H' (j := j) (j' := j') (by omega) (by simpa using hj) (by simpa using hj') (by rwa [show i + 1 + j = i + (j + 1) by omega]) (by rwa [show i + 1 + j' = i + (j' + 1) by omega]) hm
      | zero =>
        simp at hj hx
        subst hj
        unfold aliveMut at H
        rw [hx] at H
        simp only [sepB, Bool.and_eq_true, List.all_eq_true] at H
        have := H.1 _ (aliveMut_mem (f := f) (h' := r) (i := i + 1) (j := j') (o := o') (x := x') (by simpa using hj') (by rwa [show i + 1 + j' = i + (j' + 1) by omega]))
        intro e
        subst e
        simp only [Nat.beq_refl, Bool.not_true, Bool.false_or, Bool.and_eq_true, Bool.not_eq_true'] at this
        rcases hm with hm | hm
        · rw [hm] at this; cases this.1
        · rw [hm] at this; cases this.2
end Go.Sh

/-
  SHAD: loops, by what is kept from round to round.
-/
namespace Go.Sh
open Go.RowKit
set_option linter.unusedVariables false
set_option linter.unusedSimpArgs false

/-- What the labels from N on stand for: an old label, or a slice that is nil. -/
abbrev Ren := List (Option Nat)
def labF (N : Nat) (ρ : Ren) : Lab := fun l => match decide (l < N) with | true => some l | false => match ρ[l - N]? with | some (some x) => some x | _ => none
def labZ (N : Nat) (ρ : Ren) : Nat → Bool := fun l => match decide (l < N) with | true => false | false => match ρ[l - N]? with | some none => true | _ => false
def noZ : Nat → Bool := fun _ => false

def rndB (N : Nat) : Option Nat → Option Nat → Bool
  | none, none => true
  | some l, some m => Nat.beq l m && decide (l < N)
  | _, _ => false
def defsB (N : Nat) : List Nat → List Nat → Bool
  | [], [] => true
  | l :: r, m :: s => Nat.beq l m && decide (l < N) && defsB N r s
  | _, _ => false

/-- The old state S may be seen as the new state S'; the labels below N keep their names, ρ says what the others stand for. -/
def Wk (N : Nat) (ρ : Ren) (S' S : SS) : Prop :=
  gateB (decide (S'.heap.length = N + ρ.length)) (gateB (sepB (aliveMut (labF N ρ) S'.heap 0)) (gateB (rndB N S'.rnd S.rnd) (gateB (defsB N S'.defs S.defs)
    (wkVs (labF N ρ) (labZ N ρ) S'.tmps S.tmps ∧ wkH (labF N ρ) (labZ N ρ) S.heap S'.heap 0))))

section
variable {B : Nat} {W0 W : World} {env env' env0 : Env} {f : Lab} {z : Nat → Bool}

theorem wkVs_get : ∀ {s' s : List SV}, wkVs f z s' s → s'.length = s.length ∧ ∀ {j : Nat} {x : SV}, s'[j]? = some x → ∃ y, s[j]? = some y ∧ wkV f z x y
  | [], [], _ => ⟨rfl, fun h => by simp at h⟩
  | a :: s', b :: s, h => by
    obtain ⟨h1, h2⟩ := wkVs_cons h
    obtain ⟨hl, hg⟩ := wkVs_get h2
    refine ⟨by simp [hl], fun {j x} hj => ?_⟩
    cases j with
    | zero => simp at hj; subst hj; exact ⟨b, rfl, h1⟩
    | succ j => simpa using hg (j := j) (x := x) (by simpa using hj)
  | [], _ :: _, h => h.elim
  | _ :: _, [], h => h.elim

theorem noAny_cons {y : SV} {r : List SV} (h : noAny (y :: r) = true) : notAny y = true ∧ noAny r = true := by
  cases y <;> first | (simp [noAny] at h; done) | exact ⟨rfl, h⟩
theorem noAny_get : ∀ {l : List SV}, noAny l = true → ∀ {j : Nat} {x : SV}, l[j]? = some x → notAny x = true
  | [], _, j, x, hj => by simp at hj
  | y :: r, h, j, x, hj => by
    obtain ⟨h1, h2⟩ := noAny_cons h
    cases j with
    | zero => simp at hj; subst hj; exact h1
    | succ j => exact noAny_get h2 (j := j) (by simpa using hj)

theorem implB_spec {a b : Bool} (h : implB a b = true) : a = true → b = true := fun ha => by subst ha; exact h

theorem wkO_mut {o' o : SO} (h : wkO f z o' o) (hm : o'.mut = true) : o.mut = true := by
  cases o' <;> cases o <;> first | exact h.elim | rfl | skip
  all_goals
    simp only [wkO] at h
    exact implB_spec (gateB_spec h).1 hm

theorem wkO_ok (H : LabOK env env' f z) {e : Ent} {o' o : SO} (h : wkO f z o' o) (hor : OR env W B e o)
    (hloop : ∀ st pd tm ps asg body, o' = .loop st pd tm ps asg body → ∃ L, e.lp = some L ∧ VRs env' tm L.tmps.toList ∧ L.params.toList = ps ∧ L.assign = asg ∧ L.body = body) : OR env' W B e o' := by
  cases o' with
  | arr own n k t g =>
    cases o <;> first | exact h.elim | skip
    rename_i own2 n2 k2 t2 g2
    simp only [wkO] at h
    obtain ⟨h1, h⟩ := gateB_spec h
    obtain ⟨h2, h⟩ := gateB_spec h
    obtain ⟨h3, h4, h5⟩ := gateB_spec h
    simp only [decide_eq_true_eq] at h2
    subst h2; subst h4
    obtain ⟨a, b, c⟩ := hor
    refine ⟨a, b, fun hn => ?_⟩
    obtain ⟨c1, c2, c3⟩ := c hn
    refine ⟨c1, fun i hi => ?_, fun hown => ?_⟩
    · obtain ⟨d1, d2⟩ := c2 i hi
      obtain ⟨e1, e2⟩ := gateB_spec (h5 i hi)
      obtain ⟨e3, e4⟩ := wkVs_get e2
      refine ⟨e3.trans d1, fun j sv hj => ?_⟩
      obtain ⟨y, hy, hw⟩ := e4 hj
      obtain ⟨hc, v, hv, hr⟩ := d2 j y hy
      exact ⟨isCell_wk hw hc (noAny_get e1 hj), v, hv, wkV_ok H _ _ _ hw hr⟩
    · obtain ⟨d1, d2, d3, vs, d4, d5⟩ := c3 (implB_spec h1 hown)
      have := implB_spec h3 hown
      simp only [decide_eq_true_eq] at this
      subst this
      exact ⟨d1, d2, d3, vs, d4, d5⟩
  | mp es =>
    cases o <;> first | exact h.elim | skip
    obtain ⟨a, b, ms, c, d, e⟩ := hor
    exact ⟨a, b, ms, c, d, wkEs_ok H _ _ _ h e⟩
  | loop st pd tm ps asg body =>
    cases o <;> first | exact h.elim | skip
    rename_i st2 pd2 tm2 ps2 asg2 body2
    simp only [wkO] at h
    obtain ⟨h1, h2⟩ := gateB_spec h
    simp only [decide_eq_true_eq] at h1
    subst h1
    have hpd : pd = pd2 := by
      cases pd <;> cases pd2 <;> first | rfl | exact h2.elim | skip
      dsimp only at h2
      rw [h2]
    subst hpd
    obtain ⟨a, b, L, c, d, _⟩ := hor
    obtain ⟨L', c', h3⟩ := hloop _ _ _ _ _ _ rfl
    rw [c] at c'; cases c'
    exact ⟨a, b, L, c, d, h3⟩
  | defs =>
    cases o <;> first | exact h.elim | skip
    exact hor
  | tbl own es =>
    cases o <;> first | exact h.elim | skip
    · rename_i es2
      obtain ⟨hp, h⟩ := (show plainE es2 = true ∧ List.Perm es2 es from h)
      obtain ⟨a, b, ms, c, d, e⟩ := hor
      exact ⟨a, fun _ => b, ms, c, es2, d, h, plainE_ok _ _ hp e⟩
    · rename_i own2 es2
      obtain ⟨h1, h⟩ := gateB_spec h
      obtain ⟨hp, h⟩ := gateB_spec h
      obtain ⟨a, b, ms, c, es3, d, hq, e⟩ := hor
      exact ⟨a, fun ho => b (implB_spec h1 ho), ms, c, es3, d, hq.trans h, plainE_ok _ _ (plainE_perm hq.symm hp) e⟩

theorem labF_lt {N : Nat} {ρ : Ren} {l : Nat} (h : l < N) : labF N ρ l = some l := by simp [labF, h]
theorem labF_none {N : Nat} {ρ : Ren} {l : Nat} (h : N + ρ.length ≤ l) : labF N ρ l = none := by
  have : ¬ l < N := by omega
  have hx : ρ[l - N]? = none := List.getElem?_eq_none (by omega)
  simp only [labF, this, decide_false, hx]
theorem labZ_none {N : Nat} {ρ : Ren} {l : Nat} (h : N + ρ.length ≤ l) : labZ N ρ l = false := by
  have : ¬ l < N := by omega
  have hx : ρ[l - N]? = none := List.getElem?_eq_none (by omega)
  simp only [labZ, this, decide_false, hx]
def kOf (H : Heap) (l : Nat) : Nat := match hget H l with | some (.arr _ _ k _ _) => k | _ => 0

theorem defsB_spec {N : Nat} : ∀ {a b : List Nat}, defsB N a b = true → a = b ∧ ∀ l ∈ a, l < N
  | [], [], _ => ⟨rfl, fun _ h => by simp at h⟩
  | l :: r, m :: s, h => by
    simp only [defsB, Bool.and_eq_true, decide_eq_true_eq] at h
    obtain ⟨h1, h2⟩ := defsB_spec h.2
    have := Nat.eq_of_beq_eq_true h.1.1
    subst this; subst h1
    exact ⟨rfl, fun x hx => by rcases List.mem_cons.1 hx with rfl | hx; exact h.1.2; exact h2 x hx⟩
  | [], _ :: _, h => by cases h
  | _ :: _, [], h => by cases h

theorem DR.lab {ls : List Nat} {ds : List Deferred} (hm : ∀ l ∈ ls, ∀ e, env l = some e → env' l = some e) (h : DR env ls ds) : DR env' ls ds := by
  induction ls generalizing ds with
  | nil => cases ds; trivial; exact h.elim
  | cons l ls ih =>
    cases ds with
    | nil => exact h.elim
    | cons d ds =>
      obtain ⟨⟨e, he, hd⟩, h2⟩ := h
      exact ⟨⟨e, hm l (by simp) e he, hd⟩, ih (fun x hx => hm x (by simp [hx])) h2⟩

/-- What a loop's record is, beside its state. -/
def LoopsAt (N : Nat) (env0 : Env) (h : Heap) : Prop := ∀ l st pd tm ps asg body, hget h l = some (.loop st pd tm ps asg body) →
  l < N ∧ ∃ e L, env0 l = some e ∧ e.lp = some L ∧ VRs env0 tm L.tmps.toList ∧ L.params.toList = ps ∧ L.assign = asg ∧ L.body = body

theorem Wk.st {N : Nat} {ρ : Ren} {S' S : SS} (H : Wk N ρ S' S) (h0 : ∀ l e, env0 l = some e → l < N) (hle : Env.le env0 env) (hloop : LoopsAt N env0 S'.heap) {a : Act} (st : St B W0 env S a W) :
    (∃ env', Env.le env0 env' ∧ St B W0 env' S' a W) ∧ S'.rnd = S.rnd := by
  obtain ⟨hlen, H⟩ := gateB_spec H
  obtain ⟨hsep, H⟩ := gateB_spec H
  obtain ⟨hrnd, H⟩ := gateB_spec H
  obtain ⟨hdefs, htmps, hheap⟩ := gateB_spec H
  simp only [decide_eq_true_eq] at hlen
  let nilE : Nat → Ent := fun l => { blk := 0, base := 0, cap := 0, w := kOf S'.heap l, nil := true }
  let env' : Env := fun l => match labZ N ρ l with | true => some (nilE l) | false => (labF N ρ l).bind env
  have hzf : ∀ l x, labF N ρ l = some x → labZ N ρ l = false := by
    intro l x h
    unfold labF at h
    unfold labZ
    split at h
    · rename_i hd; simp only [hd]
    · rename_i hd
      split at h
      · rename_i y hy; simp only [hd, hy]
      · cases h
  have henv : ∀ l x, labF N ρ l = some x → env' l = env x := fun l x h => by simp [env', hzf l x h, h]
  have hlab : LabOK env env' (labF N ρ) (labZ N ρ) := ⟨fun l x e hl he => by rw [henv l x hl]; exact he, fun l h => ⟨nilE l, by simp [env', h], rfl⟩⟩
  have hle' : Env.le env0 env' := fun l e he => by
    have := h0 l e he
    rw [henv l l (labF_lt this)]
    exact hle _ _ he
  have src : ∀ {l : Nat} {o' : SO}, hget S'.heap l = some o' → (∃ x o, labF N ρ l = some x ∧ hget S.heap x = some o ∧ wkO (labF N ρ) (labZ N ρ) o' o) ∨ (env' l = some (nilE l) ∧ ∃ own k t g, o' = .arr own 0 k t g) := by
    intro l o' hl
    rcases wkH_get hheap (hget_some hl) with ⟨x, o, h1, h2, h3⟩ | ⟨_, h, h4⟩
    · exact .inl ⟨x, o, by simpa using h1, h2, h3⟩
    · exact .inr ⟨by simp only [Nat.zero_add] at h; simp [env', h], h4⟩
  refine ⟨⟨env', hle', ⟨st.rel.base, st.rel.below, fun l o' hl => ?_, fun l l' o1 o2 e1 e2 hne h1 hm h2 he1 he2 hn1 hn2 => ?_, fun l hl => ?_⟩, wkVs_ok hlab _ _ _ htmps st.tmps, ?_⟩, ?_⟩
  · rcases (src hl).symm with ⟨he, own, k', t, g, rfl⟩ | ⟨x, o, h1, h2, h3⟩
    · have hg : kOf S'.heap l = k' := by simp [kOf, hl]
      exact ⟨nilE l, he, by simp [nilE, hg], fun _ => rfl, fun hn => by cases hn⟩
    obtain ⟨e, he, hor⟩ := st.rel.obj x o h2
    refine ⟨e, hlab.lab _ _ _ h1 he, wkO_ok hlab h3 hor fun sta pd tm ps asg body ho => ?_⟩
    subst ho
    obtain ⟨hlN, e', L, he', h4, h5, h6⟩ := hloop l _ _ _ _ _ _ hl
    rw [labF_lt hlN] at h1
    cases h1
    rw [hle _ _ he'] at he
    cases he
    exact ⟨L, h4, VRs.mono hle' _ _ h5, h6⟩
  · have live : ∀ {l : Nat} {o' : SO} {e : Ent}, hget S'.heap l = some o' → env' l = some e → e.nil = false → ∃ x o, labF N ρ l = some x ∧ hget S.heap x = some o ∧ wkO (labF N ρ) (labZ N ρ) o' o := by
      intro l o' e hl he hn
      rcases src hl with h | ⟨he', _⟩
      · exact h
      · rw [he] at he'; cases he'; cases hn
    obtain ⟨x1, y1, f1, g1, w1⟩ := live h1 he1 hn1
    obtain ⟨x2, y2, f2, g2, w2⟩ := live h2 he2 hn2
    have hx : x1 ≠ x2 := by
      rcases Nat.lt_or_gt_of_ne hne with hlt | hgt
      · exact sepB_spec hsep hlt (hget_some h1) (hget_some h2) (by simpa using f1) (by simpa using f2) (.inl hm)
      · exact (sepB_spec hsep hgt (hget_some h2) (hget_some h1) (by simpa using f2) (by simpa using f1) (.inr hm)).symm
    have a1 : env x1 = some e1 := by rw [henv l x1 f1] at he1; exact he1
    have a2 : env x2 = some e2 := by rw [henv l' x2 f2] at he2; exact he2
    exact st.rel.sep x1 x2 y1 y2 e1 e2 hx g1 (wkO_mut w1 hm) g2 a1 a2 hn1 hn2
  · have h1 : labF N ρ l = none := labF_none (by omega)
    have h2 : labZ N ρ l = false := labZ_none (by omega)
    simp [env', h1, h2]
  · obtain ⟨h1, h2⟩ := defsB_spec hdefs
    rw [h1] at h2 ⊢
    exact st.defs.lab fun l hl e he => by rw [henv l l (labF_lt (h2 l hl))]; exact he
  · unfold rndB at hrnd
    split at hrnd
    · rename_i h1 h2; rw [h1, h2]
    · rename_i l m h1 h2
      simp only [Bool.and_eq_true] at hrnd
      rw [h1, h2, Nat.eq_of_beq_eq_true hrnd.1]
    · cases hrnd

/-- The loops' records of the new state are those of the old one. -/
def StatOK (h h' : Heap) : Prop := ∀ l st pd tm ps asg body, hget h' l = some (.loop st pd tm ps asg body) → ∃ st' pd', hget h l = some (.loop st' pd' tm ps asg body)
/-- The same, less being known of their temporaries. -/
def idF : Lab := fun l => some l
def StatW (h h' : Heap) : Prop := ∀ l st pd tm ps asg body, hget h' l = some (.loop st pd tm ps asg body) → ∃ st' pd' tm', hget h l = some (.loop st' pd' tm' ps asg body) ∧ wkVs idF noZ tm tm'
theorem StatW.trans {a b c : Heap} (h : StatW a b) (h' : StatOK b c) : StatW a c := by
  intro l st pd tm ps asg body hl
  obtain ⟨st', pd', hl'⟩ := h' l st pd tm ps asg body hl
  exact h l st' pd' tm ps asg body hl'

theorem StatW.at {h h' : Heap} (H : StatW h h') (R : Rel B W0 env h W) : LoopsAt h.length env h' := by
  intro l st pd tm ps asg body hl
  obtain ⟨st', pd', tm', hl', hw⟩ := H l st pd tm ps asg body hl
  obtain ⟨e, he, hn, hb, L, h1, h2, h3, h4⟩ := R.obj l _ hl'
  exact ⟨hget_lt hl', e, L, he, h1, wkVs_ok ⟨fun l x e hl he => by cases hl; exact he, fun l h => by cases h⟩ _ _ _ hw h3, h4⟩
end

def stepK {α : Type} (G : α → SS → Prop) (K : KX) (a : α) : KX := fun x S => match x with | .normal => G a S | x => K x S

/-- **A loop.** -/
theorem loop_rule {X : Ctx} (ok : X.OK) {α : Type} {n : Nat} {f : FuncId} {b : Code} {S : SS} {K : KX} (I : α → SS) (J : α → Prop) (μ : α → Nat) (G : α → SS → Prop)
    (hG : ∀ a S', J a → G a S' → ∃ ρ a', μ a' < μ a ∧ J a' ∧ Wk S.heap.length ρ (I a') S')
    (hstat : ∀ a, StatW S.heap (I a).heap) (h0 : ∃ ρ a, J a ∧ Wk S.heap.length ρ (I a) S)
    (step : ∀ a, J a → exec X n f b (I a) (stepK G K a)) : SWp X.P (.loop b) S K := by
  intro r B W0 env a W Q st hr hQ
  have hlt : ∀ l e, env l = some e → l < S.heap.length := by
    intro l e he
    rcases Nat.lt_or_ge l S.heap.length with h | h
    · exact h
    · rw [st.rel.fresh l h] at he; cases he
  obtain ⟨ρ0, a0, hJ0, hw0⟩ := h0
  obtain ⟨⟨env1, hle1, st1⟩, hrnd1⟩ := hw0.st hlt (Env.le_refl _) ((hstat a0).at st.rel) st
  have key : ∀ m a1 env1 act W, μ a1 < m → J a1 → Env.le env env1 → St B W0 env1 (I a1) act W → (I a1).rnd = S.rnd → Code.roundsIn (FW r) 0 X.P b Q m act W := by
    intro m
    induction m with
    | zero => intro a1 _ _ _ h; omega
    | succ m ih =>
      intro a1 env1 act W hm hJ hle st1 hrnd
      rw [roundsIn_succ]
      refine exec_sound ok n _ _ _ _ (step a1 hJ) r B W0 env1 act W _ st1 (by rw [hrnd]; exact hr.mono hle) fun x S' env' a' W' hle' st' hrd hx => ?_
      cases x with
      | ret => exact hQ .ret S' env' a' W' (Env.le_trans hle hle') st' (hrd.trans hrnd) hx
      | exit id => exact hQ (.exit id) S' env' a' W' (Env.le_trans hle hle') st' (hrd.trans hrnd) hx
      | normal =>
        obtain ⟨ρ, a2, hlt2, hJ2, hw⟩ := hG a1 S' hJ hx
        obtain ⟨⟨env2, hle2, st2⟩, hrnd2⟩ := hw.st hlt (Env.le_trans hle hle') ((hstat a2).at st.rel) st'
        exact ih a2 env2 a' W' (by omega) hJ2 hle2 st2 (hrnd2.trans (hrd.trans hrnd))
  exact wpIn_loop_rounds (μ a0 + 1) (key _ a0 env1 a W (by omega) hJ0 hle1 st1 hrnd1)
end Go.Sh

/-
  SHAD: contracts: what is proved of a function in a small state holds of it in every state.
-/
namespace Go.Sh
open Go.RowKit
set_option linter.unusedVariables false
set_option linter.unusedSimpArgs false

def srcF (src : List (Option Nat)) : Lab := fun l => match src[l]? with | some (some x) => some x | _ => none
def srcZ (src : List (Option Nat)) : Nat → Bool := fun l => match src[l]? with | some none => true | _ => false

mutual
/-- The labels from m on become those from N on; what bears an elder one is forgotten. -/
def ren (m N : Nat) : SV → SV
  | .ptr l i j => match decide (l < m) with | true => .any | false => .ptr (N + (l - m)) i j
  | .sl l o n => match decide (l < m) with | true => .any | false => .sl (N + (l - m)) o n
  | .osl l n => match decide (l < m) with | true => .any | false => .osl (N + (l - m)) n
  | .map l => match decide (l < m) with | true => .any | false => .map (N + (l - m))
  | .fn _ _ _ => .any
  | .agg cs => .agg (rens m N cs)
  | .tup cs => .tup (rens m N cs)
  | .iface t x => .iface t (ren m N x)
  | s => s
def rens (m N : Nat) : List SV → List SV
  | [] => []
  | s :: r => ren m N s :: rens m N r
end

section
variable {B : Nat} {W0 W W' : World} {env env' : Env}

mutual
theorem ren_ok {m N : Nat} (H : ∀ l e, m ≤ l → env l = some e → env' (N + (l - m)) = some e) : ∀ (s : SV) (v : Value), VR env s v → VR env' (ren m N s) v
  | .ptr l i j, v, hv => by
    unfold ren
    by_cases hl : l < m
    · simp [hl, VR]
    · obtain ⟨e, he, hr⟩ := hv
      simp only [hl, decide_false]
      exact ⟨e, H _ _ (by omega) he, hr⟩
  | .sl l o n, v, hv => by
    unfold ren
    by_cases hl : l < m
    · simp [hl, VR]
    · obtain ⟨e, a, c, he, hr⟩ := hv
      simp only [hl, decide_false]
      exact ⟨e, a, c, H _ _ (by omega) he, hr⟩
  | .osl l n, v, hv => by
    unfold ren
    by_cases hl : l < m
    · simp [hl, VR]
    · obtain ⟨e, he, hr⟩ := hv
      simp only [hl, decide_false]
      exact ⟨e, H _ _ (by omega) he, hr⟩
  | .map l, v, hv => by
    unfold ren
    by_cases hl : l < m
    · simp [hl, VR]
    · obtain ⟨e, he, hr⟩ := hv
      simp only [hl, decide_false]
      exact ⟨e, H _ _ (by omega) he, hr⟩
  | .fn _ _ _, v, hv => by simp [ren, VR]
  | .agg cs, v, hv => by
    obtain ⟨a, rfl, ha⟩ := hv
    exact ⟨a, rfl, rens_ok H cs _ ha⟩
  | .tup cs, v, hv => by
    obtain ⟨a, rfl, ha⟩ := hv
    exact ⟨a, rfl, rens_ok H cs _ ha⟩
  | .iface t x, v, hv => by
    obtain ⟨y, rfl, hy⟩ := hv
    exact ⟨y, rfl, ren_ok H x _ hy⟩
  | .any, v, hv => by simp [ren, VR]
  | .und, v, hv => hv
  | .bool _, v, hv => hv
  | .int _ _, v, hv => hv
  | .str _, v, hv => hv
  | .gptr _ _, v, hv => hv
  | .nilp, v, hv => hv
  | .nils, v, hv => hv
  | .nilm, v, hv => hv
  | .nilf, v, hv => hv
  | .nili, v, hv => hv
theorem rens_ok {m N : Nat} (H : ∀ l e, m ≤ l → env l = some e → env' (N + (l - m)) = some e) : ∀ (s : List SV) (v : List Value), VRs env s v → VRs env' (rens m N s) v
  | [], [], _ => trivial
  | s :: ss, v :: vs, ⟨h1, h2⟩ => ⟨ren_ok H s v h1, rens_ok H ss vs h2⟩
  | [], _ :: _, h => h.elim
  | _ :: _, [], h => h.elim
end

def plainO : SO → Prop
  | .arr own n _ _ g => own = true ∧ ∀ i, i < n → ∀ s ∈ g i, plainV s = true
  | .mp es => plainE es = true
  | .tbl own es => own = true ∧ plainE es = true
  | _ => False

theorem plainO_ok {B' : Nat} (hB : B ≤ B') {e : Ent} {o : SO} (h : plainO o) (hor : OR env W B' e o) : OR env' W B e o := by
  cases o <;> first | exact h.elim | skip
  · obtain ⟨a, b, c⟩ := hor
    refine ⟨a, b, fun hn => ?_⟩
    obtain ⟨c1, c2, c3⟩ := c hn
    refine ⟨c1, fun i hi => ?_, fun hown => ?_⟩
    · obtain ⟨d1, d2⟩ := c2 i hi
      refine ⟨d1, fun j sv hj => ?_⟩
      obtain ⟨hc, v, hv, hr⟩ := d2 j sv hj
      exact ⟨hc, v, hv, plainV_ok _ _ (h.2 i hi sv (List.mem_of_getElem? hj)) hr⟩
    · obtain ⟨d1, d2⟩ := c3 hown
      exact ⟨by omega, d2⟩
  · obtain ⟨a, b, ms, c, d, e⟩ := hor
    exact ⟨a, by omega, ms, c, d, plainE_ok _ _ h e⟩
  · obtain ⟨a, b, ms, c, es2, d, hp, e⟩ := hor
    exact ⟨a, fun ho => by have := b ho; omega, ms, c, es2, d, hp, plainE_ok _ _ (plainE_perm hp.symm h.2) e⟩

theorem viewO_ok {B' : Nat} {e : Ent} {o : SO} (h : o.mut = false) (hor : OR env W B e o) : OR env W B' e o := by
  cases o <;> first | (simp [SO.mut] at h; done) | skip
  simp only [SO.mut] at h
  all_goals subst h
  · obtain ⟨a, b, c⟩ := hor
    exact ⟨a, b, fun hn => ⟨(c hn).1, (c hn).2.1, fun h => by cases h⟩⟩
  · obtain ⟨a, b, c⟩ := hor
    exact ⟨a, (fun h => by cases h), c⟩


/-- What a small run comes to: its value, and the new objects that it hands on. -/
def RetWk (m : Nat) (R : SV) (O : List SO) : KV := fun v h => ∃ ρ : Ren, ρ.length = O.length ∧ sepB (aliveMut (labF m ρ) (O.map some) m) = true ∧ wkV (labF m ρ) (labZ m ρ) R v ∧ wkH (labF m ρ) (labZ m ρ) h (O.map some) m

def viewsB : List (Option SO) → Bool
  | [] => true
  | none :: r => viewsB r
  | some o :: r => !o.mut && viewsB r
theorem viewsB_spec : ∀ {h : List (Option SO)}, viewsB h = true → ∀ {l : Nat} {o : SO}, h[l]? = some (some o) → o.mut = false
  | [], _, l, o, hl => by simp at hl
  | none :: r, H, l, o, hl => by cases l with | zero => simp at hl | succ l => exact viewsB_spec (h := r) H (by simpa using hl)
  | some y :: r, H, l, o, hl => by
    simp only [viewsB, Bool.and_eq_true, Bool.not_eq_true'] at H
    cases l with
    | zero => simp at hl; subst hl; exact H.1
    | succ l => exact viewsB_spec (h := r) H.2 (by simpa using hl)

theorem SCall.small {P : Program} {f : FuncId} {A : List SV} {H : Heap} {R : SV} {O : List SO} (hv : viewsB H = true) (hO : ∀ o ∈ O, plainO o) (hs : SCall P f A H (RetWk H.length R O))
    {src : List (Option Nat)} {args : List SV} {h : Heap} {k : KV} (hsrc : src.length = H.length) (hargs : wkVs (srcF src) (srcZ src) A args) (hheap : wkH (srcF src) (srcZ src) h H 0)
    (hk : k (ren H.length h.length R) (h ++ O.map some)) : SCall P f args h k := by
  intro B W0 env vs W Rl hvs
  let nilE : Nat → Ent := fun l => { blk := 0, base := 0, cap := 0, w := kOf H l, nil := true }
  let env0 : Env := fun l => match src[l]? with | some (some x) => env x | some none => some (nilE l) | none => none
  have hlab : LabOK env env0 (srcF src) (srcZ src) := by
    refine ⟨fun l x e hl he => ?_, fun l hl => ?_⟩
    · unfold srcF at hl
      split at hl
      · rename_i y hy; cases hl; simp [env0, hy, he]
      · cases hl
    · unfold srcZ at hl
      split at hl
      · rename_i hy; exact ⟨nilE l, by simp only [env0, hy], rfl⟩
      · cases hl
  have R0 : Rel W.heap.size W env0 H W := by
    refine ⟨Nat.le_refl _, Below.refl _ _, fun l o' hl => ?_, fun l l' o o' e e' _ h1 hm => ?_, fun l hl => ?_⟩
    · have hmut := viewsB_spec hv (hget_some hl)
      rcases wkH_get hheap (hget_some hl) with ⟨x, o, h1, h2, h3⟩ | ⟨h1, h2, own, k', t, g, rfl⟩
      · obtain ⟨e, he, hor⟩ := Rl.obj x o h2
        simp only [Nat.zero_add] at h1
        exact ⟨e, hlab.lab _ _ _ h1 he, viewO_ok hmut (wkO_ok hlab h3 hor fun st pd tm ps asg body ho => by subst ho; simp [SO.mut] at hmut)⟩
      · simp only [Nat.zero_add] at h1 h2
        unfold srcZ at h2
        split at h2
        · rename_i hy
          have hg : hget H l = some (.arr own 0 k' t g) := by unfold hget; rw [hget_some hl]
          exact ⟨nilE l, by simp only [env0, hy], by simp [nilE, kOf, hg], fun _ => rfl, fun hn => by cases hn⟩
        · cases h2
    · have hmut := viewsB_spec hv (hget_some h1)
      rw [hmut] at hm; cases hm
    · have : src[l]? = none := List.getElem?_eq_none (by omega)
      simp only [env0, this]
  refine Calls.mono (hs W.heap.size W env0 vs W R0 (wkVs_ok hlab _ _ _ hargs hvs)) fun en W' he => ?_
  obtain ⟨v', rfl, env1, v, h', hle, R1, hvr, ρ, hρ, hsep, hwv, hwh⟩ := he
  let m := H.length
  let nilN : Nat → Ent := fun j => { blk := 0, base := 0, cap := 0, w := kOf (O.map some) j, nil := true }
  -- a new label: what it stands for
  let newE : Nat → Option Ent := fun j => match ρ[j]? with | some (some x) => env1 x | some none => some (nilN j) | none => none
  let env3 : Env := fun l => if l < m then env1 l else newE (l - m)
  let env2 : Env := fun l => if l < h.length then env l else newE (l - h.length)
  have hlab3 : LabOK env1 env3 (labF H.length ρ) (labZ H.length ρ) := by
    refine ⟨fun l x e hl he => ?_, fun l hl => ?_⟩
    · unfold labF at hl
      split at hl
      · rename_i hd
        simp only [decide_eq_true_eq] at hd
        cases hl
        simp only [env3, m, hd, if_true]; exact he
      · rename_i hd
        simp only [decide_eq_false_iff_not] at hd
        split at hl
        · rename_i y hy
          cases hl
          simp only [env3, m, hd, if_false, newE, hy]; exact he
        · cases hl
    · unfold labZ at hl
      split at hl
      · cases hl
      · rename_i hd
        simp only [decide_eq_false_iff_not] at hd
        split at hl
        · rename_i hy
          exact ⟨nilN (l - m), by simp only [env3, m, hd, if_false, newE, hy], rfl⟩
        · cases hl
  have le2 : Env.le env env2 := fun l e he => by
    have : l < h.length := by
      rcases Nat.lt_or_ge l h.length with hx | hx
      · exact hx
      · rw [Rl.fresh l hx] at he; cases he
    simp [env2, this, he]
  have h32 : ∀ l e, H.length ≤ l → env3 l = some e → env2 (h.length + (l - H.length)) = some e := fun l e hl he => by
    have hnl : ¬ l < m := Nat.not_lt.2 hl
    simp only [env3, hnl, if_false] at he
    simp only [env2, Nat.not_lt.2 (Nat.le_add_right _ _), if_false, Nat.add_sub_cancel_left]
    exact he
  have hget_old : ∀ {l}, l < h.length → hget (h ++ O.map some) l = hget h l := fun {l} hl => by unfold hget; rw [List.getElem?_append_left hl]
  have hget_new : ∀ {l} {o}, h.length ≤ l → hget (h ++ O.map some) l = some o → O[l - h.length]? = some o ∧ ((∃ x y, ρ[l - h.length]? = some (some x) ∧ labF H.length ρ (H.length + (l - h.length)) = some x ∧ hget h' x = some y ∧ wkO (labF H.length ρ) (labZ H.length ρ) o y) ∨
      (ρ[l - h.length]? = some none ∧ ∃ own k t g, o = .arr own 0 k t g)) := by
    intro l o hl ho
    have ho' : O[l - h.length]? = some o := by
      have := hget_some ho
      rw [List.getElem?_append_right hl] at this
      simpa using this
    refine ⟨ho', ?_⟩
    have hnl : ¬ H.length + (l - h.length) < H.length := by omega
    rcases wkH_get hwh (j := l - h.length) (o' := o) (by simp [ho']) with ⟨x, y, h1, h2, h3⟩ | ⟨_, h2, h3⟩
    · refine .inl ⟨x, y, ?_, h1, h2, h3⟩
      simp only [labF, hnl, decide_false, Nat.add_sub_cancel_left] at h1
      split at h1
      · rename_i z hz; cases h1; exact hz
      · cases h1
    · refine .inr ⟨?_, h3⟩
      simp only [labZ, hnl, decide_false, Nat.add_sub_cancel_left] at h2
      split at h2
      · rename_i hz; exact hz
      · cases h2
  have below' : Below B W0 W' := Rl.below.trans (R1.below.mono Rl.hB)
  have newobj : ∀ {l} {o}, h.length ≤ l → hget (h ++ O.map some) l = some o → ∃ e, env2 l = some e ∧ OR env2 W' B e o ∧ OR env2 W' W.heap.size e o ∧ (e.nil = false → o.mut = true ∧ ∃ x y, ρ[l - h.length]? = some (some x) ∧ labF H.length ρ (H.length + (l - h.length)) = some x ∧ env1 x = some e ∧ hget h' x = some y ∧ wkO (labF H.length ρ) (labZ H.length ρ) o y) := by
    intro l o hl ho
    obtain ⟨ho', ⟨x, y, hx, hf, hy, hw⟩ | ⟨hx, own, k', t, g, rfl⟩⟩ := hget_new hl ho
    · obtain ⟨e, he, hor⟩ := R1.obj x y hy
      have hp := hO o (List.mem_of_getElem? ho')
      have hor3 := wkO_ok hlab3 hw hor fun st pd tm ps asg body ho => by subst ho; exact hp.elim
      exact ⟨e, by simp [env2, Nat.not_lt.2 hl, newE, hx, he], plainO_ok Rl.hB hp hor3, plainO_ok (Nat.le_refl _) hp hor3, fun _ => ⟨by cases o <;> first | exact hp.elim | exact hp.1 | rfl, x, y, hx, hf, he, hy, hw⟩⟩
    · have hk : kOf (O.map some) (l - h.length) = k' := by simp [kOf, hget, ho']
      exact ⟨nilN (l - h.length), by simp [env2, Nat.not_lt.2 hl, newE, hx], ⟨by simp [nilN, hk], fun _ => rfl, fun hn => by cases hn⟩, ⟨by simp [nilN, hk], fun _ => rfl, fun hn => by cases hn⟩, fun hn => by cases hn⟩
  refine ⟨v', rfl, env2, ren H.length h.length R, h ++ O.map some, le2, ⟨Rl.base, below', fun l o hl => ?_, fun l l' o o' e e' hne h1 hm h2 he1 he2 hn1 hn2 => ?_, fun l hl => ?_⟩, ren_ok h32 R v' (wkV_ok hlab3 _ _ _ hwv hvr), hk⟩
  · rcases Nat.lt_or_ge l h.length with hx | hx
    · rw [hget_old hx] at hl
      obtain ⟨e, he, hor⟩ := Rl.obj l o hl
      exact ⟨e, le2 _ _ he, hor.kept le2 R1.below.size fun hn => R1.below.block _ (hor.lt hn)⟩
    · obtain ⟨e, he2, hor, _⟩ := newobj hx hl
      exact ⟨e, he2, hor⟩
  · rcases Nat.lt_or_ge l h.length with hx | hx
    · rw [hget_old hx] at h1
      obtain ⟨f1, g1, or1⟩ := Rl.obj l o h1
      have := le2 _ _ g1
      rw [he1] at this; cases this
      rcases Nat.lt_or_ge l' h.length with hx' | hx'
      · rw [hget_old hx'] at h2
        obtain ⟨f2, g2, or2⟩ := Rl.obj l' o' h2
        have := le2 _ _ g2
        rw [he2] at this; cases this
        exact Rl.sep l l' o o' _ _ hne h1 hm h2 g1 g2 hn1 hn2
      · obtain ⟨e3, he3, _, hor, hmo⟩ := newobj hx' h2
        rw [he2] at he3; cases he3
        have := hor.base (hmo hn2).1 hn2
        have := or1.lt hn1
        omega
    · obtain ⟨e3, he3, _, hor, hmo⟩ := newobj hx h1
      rw [he1] at he3; cases he3
      rcases Nat.lt_or_ge l' h.length with hx' | hx'
      · rw [hget_old hx'] at h2
        obtain ⟨f2, g2, or2⟩ := Rl.obj l' o' h2
        have := le2 _ _ g2
        rw [he2] at this; cases this
        have := hor.base (hmo hn1).1 hn1
        have := or2.lt hn2
        omega
      · obtain ⟨e4, he4, _, hor', hmo'⟩ := newobj hx' h2
        rw [he2] at he4; cases he4
        obtain ⟨_, x1, y1, r1, f1, a1, g1, w1⟩ := hmo hn1
        obtain ⟨_, x2, y2, r2, f2, a2, g2, w2⟩ := hmo' hn2
        have ho1 := (hget_new hx h1).1
        have ho2 := (hget_new hx' h2).1
        have hne' : x1 ≠ x2 := by
          have s1 : (O.map some)[l - h.length]? = some (some o) := by simp [ho1]
          have s2 : (O.map some)[l' - h.length]? = some (some o') := by simp [ho2]
          rcases Nat.lt_or_gt_of_ne hne with hlt | hgt
          · exact sepB_spec hsep (by omega) s1 s2 f1 f2 (.inl hm)
          · exact (sepB_spec hsep (by omega) s2 s1 f2 f1 (.inr hm)).symm
        exact R1.sep x1 x2 y1 y2 _ _ hne' g1 (wkO_mut w1 hm) g2 a1 a2 hn1 hn2
  · simp only [List.length_append, List.length_map] at hl
    have hnl : ¬ l < h.length := by omega
    have : ρ[l - h.length]? = none := List.getElem?_eq_none (by omega)
    simp only [env2, hnl, if_false, newE, this]
end

/-- What is known of a function: for parameters p of which J holds, called with A p in H p it hands back R p and the new objects O p. -/
structure FSpec (π : Type) where
  J : π → Prop
  A : π → List SV
  H : π → Heap
  R : π → SV
  O : π → List SO

def FSpec.F {π : Type} (s : FSpec π) (args : List SV) (h : Heap) (k : KV) : Prop :=
  ∃ (p : π) (src : List (Option Nat)), (s.J p ∧ src.length = (s.H p).length ∧ wkVs (srcF src) (srcZ src) (s.A p) args ∧ wkH (srcF src) (srcZ src) h (s.H p) 0) ∧
    k (ren (s.H p).length h.length (s.R p)) (h ++ (s.O p).map some)

structure FSpec.OK {π : Type} (P : Program) (f : FuncId) (s : FSpec π) : Prop where
  views : ∀ p, viewsB (s.H p) = true
  plain : ∀ p, s.J p → ∀ o ∈ s.O p, plainO o
  run : ∀ p, s.J p → SCall P f (s.A p) (s.H p) (RetWk (s.H p).length (s.R p) (s.O p))

theorem FSpec.OK.call {π : Type} {P : Program} {f : FuncId} {s : FSpec π} (ok : s.OK P f) {args : List SV} {h : Heap} {k : KV} (H : s.F args h k) : SCall P f args h k := by
  obtain ⟨p, src, ⟨hJ, hsrc, ha, hh⟩, hk⟩ := H
  exact SCall.small (ok.views p) (ok.plain p hJ) (ok.run p hJ) hsrc ha hh hk

theorem FSpec.F_mono {π : Type} (s : FSpec π) {args : List SV} {h : Heap} {k k' : KV} (hk : ∀ v h', k v h' → k' v h') (H : s.F args h k) : s.F args h k' := by
  obtain ⟨p, src, h1, h2⟩ := H
  exact ⟨p, src, h1, hk _ _ h2⟩

theorem HExt.appends (h : Heap) (l : List (Option SO)) : HExt h (h ++ l) := ⟨by simp, fun x hx => by unfold hget; rw [List.getElem?_append_left hx]⟩

theorem FSpec.F_ext {π : Type} (s : FSpec π) {args : List SV} {h : Heap} {k : KV} (H : s.F args h k) : s.F args h fun v h' => HExt h h' ∧ k v h' := by
  obtain ⟨p, src, h1, h2⟩ := H
  exact ⟨p, src, h1, HExt.appends h _, h2⟩

/-- A function that is run in its small state. -/
theorem run_body {X : Ctx} (ok : X.OK) (n : Nat) {f : FuncId} {fn : Func} {b : Code} {args : List SV} {h : Heap} {k : KV} (hf : X.P.funcs[f]? = some fn) (hb : fn.body = some b)
    (H : exec X n f b { tmps := args ++ List.replicate (fn.ntmps - args.length) .und, heap := h, defs := [], rnd := none } fun x S' => match x with | .exit _ => False | _ => finish X.P fn S' k) : SCall X.P f args h k :=
  call_body hf hb (exec_sound ok n _ _ _ _ H)

/-- Contexts: the contracts one may lean on. -/
def Ctx.plain (P : Program) : Ctx := { P := P, con := fun _ => none, loopc := fun _ _ => none }
theorem Ctx.plain_ok {P : Program} (pok : POk P) : (Ctx.plain P).OK where
  pok := pok
  regs := fun _ _ _ _ _ h => by cases h
  con := fun _ _ h => by cases h
  mono := fun _ _ h => by cases h
  ext := fun _ _ h => by cases h
  loops := fun _ _ _ _ h => by cases h
  lmono := fun _ _ _ _ h => by cases h

abbrev Con := List SV → Heap → KV → Prop

/-- What one may say of a function. -/
structure ConOK (P : Program) (f : FuncId) (F : Con) : Prop where
  call : ∀ args h k, F args h k → SCall P f args h k
  mono : ∀ args h (k k' : KV), (∀ v h', k v h' → k' v h') → F args h k → F args h k'
  ext : ∀ args h (k : KV), F args h k → F args h fun v h' => HExt h h' ∧ k v h'

theorem FSpec.OK.con {π : Type} {P : Program} {f : FuncId} {s : FSpec π} (ok : s.OK P f) : ConOK P f s.F :=
  ⟨fun _ _ _ H => ok.call H, fun _ _ _ _ hk H => s.F_mono hk H, fun _ _ _ H => s.F_ext H⟩

def Ctx.with (X : Ctx) (f : FuncId) (F : Con) : Ctx := { X with con := fun g => match Nat.beq g f with | true => some F | false => X.con g }
theorem Ctx.with_ok {X : Ctx} (ok : X.OK) {f : FuncId} {F : Con} (hs : ConOK X.P f F) : (X.with f F).OK := by
  have key : ∀ g G, (X.with f F).con g = some G → (g = f ∧ G = F) ∨ X.con g = some G := by
    intro g G h
    simp only [Ctx.with] at h
    split at h
    · rename_i hg
      cases h
      exact .inl ⟨Nat.eq_of_beq_eq_true hg, rfl⟩
    · exact .inr h
  refine ⟨ok.pok, fun f' i ops fs l h => ⟨(ok.regs f' i ops fs l h).1, (ok.regs f' i ops fs l h).2.1, fun g hg => ?_⟩, fun g G h args hp k H => ?_, fun g G h args hp k k' hk H => ?_, fun g G h args hp k H => ?_, ok.loops, ok.lmono⟩
  · have := (ok.regs f' i ops fs l h).2.2 g hg
    simp only [isCon, Ctx.with] at this ⊢
    split
    · rfl
    · exact this
  · rcases key g G h with ⟨rfl, rfl⟩ | h
    · exact hs.call _ _ _ H
    · exact ok.con g G h args hp k H
  · rcases key g G h with ⟨rfl, rfl⟩ | h
    · exact hs.mono _ _ _ _ hk H
    · exact ok.mono g G h args hp k k' hk H
  · rcases key g G h with ⟨rfl, rfl⟩ | h
    · exact hs.ext _ _ _ H
    · exact ok.ext g G h args hp k H

/-- The labels from m on that a value bears, in their order. -/
def labs (m : Nat) : Nat → SV → Ren
  | 0, _ => []
  | n + 1, s => match s with
    | .ptr l _ _ | .sl l _ _ | .osl l _ | .map l => match decide (l < m) with | true => [] | false => [some l]
    | .agg cs | .tup cs => cs.flatMap (labs m n)
    | .iface _ x => labs m n x
    | .nils => [none]
    | _ => []

/-- What a small run comes to, to be reckoned. -/
def RetC (m : Nat) (R : SV) (O : List SO) : KV := fun v h =>
  gateB (decide ((labs m 9 v).length = O.length)) (gateB (sepB (aliveMut (labF m (labs m 9 v)) (O.map some) m)) (wkV (labF m (labs m 9 v)) (labZ m (labs m 9 v)) R v ∧ wkH (labF m (labs m 9 v)) (labZ m (labs m 9 v)) h (O.map some) m))
theorem RetC.wk {m : Nat} {R : SV} {O : List SO} {v : SV} {h : Heap} (H : RetC m R O v h) : RetWk m R O v h := by
  obtain ⟨h1, H⟩ := gateB_spec H
  obtain ⟨h2, H⟩ := gateB_spec H
  exact ⟨_, by simpa using h1, h2, H⟩

theorem SCall.mono {P : Program} {f : FuncId} {args : List SV} {h : Heap} {k k' : KV} (hk : ∀ v h, k v h → k' v h) (H : SCall P f args h k) : SCall P f args h k' :=
  fun B W0 env vs W R hv => Calls.mono (H B W0 env vs W R hv) fun e W' he => by
    obtain ⟨v', h1, env', v, h', h2, h3, h4, h5⟩ := he
    exact ⟨v', h1, env', v, h', h2, h3, h4, hk _ _ h5⟩

/-- A function's contract, by running it in its small state. -/
theorem FSpec.OK.of_exec {π : Type} {X : Ctx} (ok : X.OK) (n : Nat) {f : FuncId} {s : FSpec π} (views : ∀ p, viewsB (s.H p) = true) (plain : ∀ p, s.J p → ∀ o ∈ s.O p, plainO o)
    (run : ∀ p, s.J p → callBy X (exec X n) f (s.A p) (s.H p) (RetC (s.H p).length (s.R p) (s.O p))) : s.OK X.P f :=
  ⟨views, plain, fun p hJ => (callBy_ok ok (exec_sound ok n) _ _ _ _ (run p hJ)).mono fun _ _ => RetC.wk⟩
theorem FSpec.OK.of_eq {π : Type} {X : Ctx} (ok : X.OK) (n : Nat) {f : FuncId} {s : FSpec π} (T : π → Prop) (eq : ∀ p, callBy X (exec X n) f (s.A p) (s.H p) (RetC (s.H p).length (s.R p) (s.O p)) = T p)
    (views : ∀ p, viewsB (s.H p) = true) (plain : ∀ p, s.J p → ∀ o ∈ s.O p, plainO o) (run : ∀ p, s.J p → T p) : s.OK X.P f :=
  .of_exec ok n views plain fun p hJ => (eq p).mpr (run p hJ)

theorem ifB_split {b : Bool} {A B : Prop} (h : b = true → A) (h' : b = false → B) : ifB b A B := by
  cases b
  · exact h' rfl
  · exact h rfl
/-- A contract whose parameters are read off the arguments. -/
def FSpec.by {π : Type} (s : FSpec π) (ex : List SV → Heap → Option (π × List (Option Nat))) : Con := fun args h k =>
  match ex args h with
  | some (p, src) => (s.J p ∧ src.length = (s.H p).length ∧ wkVs (srcF src) (srcZ src) (s.A p) args ∧ wkH (srcF src) (srcZ src) h (s.H p) 0) ∧
    k (ren (s.H p).length h.length (s.R p)) (h ++ (s.O p).map some)
  | none => False
theorem FSpec.OK.by {π : Type} {P : Program} {f : FuncId} {s : FSpec π} (ok : s.OK P f) (ex : List SV → Heap → Option (π × List (Option Nat))) : ConOK P f (s.by ex) := by
  refine ⟨fun args h k H => ?_, fun args h k k' hk H => ?_, fun args h k H => ?_⟩
  all_goals unfold FSpec.by at H
  · split at H
    · exact ok.call ⟨_, _, H⟩
    · exact H.elim
  · unfold FSpec.by
    split at H
    · exact ⟨H.1, hk _ _ H.2⟩
    · exact H.elim
  · unfold FSpec.by
    split at H
    · exact ⟨H.1, HExt.appends h _, H.2⟩
    · exact H.elim
end Go.Sh

/-
  SHAD: contracts of loops.
-/
namespace Go.Sh
open Go.RowKit
set_option linter.unusedVariables false
set_option linter.unusedSimpArgs false

/-- The loops' records of the new heap stand in the old one. -/
def statQ (h : Heap) : List (Option SO) → Nat → Prop
  | [], _ => True
  | o :: r, i => match o with
    | some (.loop _ _ tm ps asg body) => match hget h i with
      | some (.loop _ _ tm2 ps2 asg2 body2) => (tm2 = tm ∧ ps2 = ps ∧ asg2 = asg ∧ body2 = body) ∧ statQ h r (i + 1)
      | _ => False
    | _ => statQ h r (i + 1)

theorem statQ_get {h : Heap} : ∀ {h' : List (Option SO)} {i : Nat}, statQ h h' i → ∀ {j : Nat} {st : LoopState} {pd : Option Code} {tm : List SV} {ps : List Tmp} {asg body : Code},
    h'[j]? = some (some (.loop st pd tm ps asg body)) → ∃ st' pd', hget h (i + j) = some (.loop st' pd' tm ps asg body)
  | [], i, _, j, _, _, _, _, _, _, hj => by simp at hj
  | o :: r, i, H, j, st, pd, tm, ps, asg, body, hj => by
    unfold statQ at H
    have rest : statQ h r (i + 1) := by
      split at H
      · split at H
        · exact H.2
        · exact H.elim
      · exact H
    cases j with
    | zero =>
      simp at hj
      subst hj
      dsimp only at H
      split at H
      · rename_i st2 pd2 tm2 ps2 asg2 body2 hg
        obtain ⟨⟨rfl, rfl, rfl, rfl⟩, _⟩ := H
        exact ⟨st2, pd2, by simpa using hg⟩
      · exact H.elim
    | succ j =>
      have := statQ_get (h' := r) (i := i + 1) rest (j := j) (by simpa using hj)
      rwa [show i + 1 + j = i + (j + 1) by omega] at this

theorem statQ.ok {h h' : Heap} (H : statQ h h' 0) : StatOK h h' := by
  intro l st pd tm ps asg body hl
  simpa using statQ_get H (hget_some hl)

/-- The loops' records of the new heap stand in the old one; less may be known of them. -/
def statP (h : Heap) : List (Option SO) → Nat → Prop
  | [], _ => True
  | o :: r, i => match o with
    | some (.loop _ _ tm ps asg body) => match hget h i with
      | some (.loop _ _ tm2 ps2 asg2 body2) => (wkVs idF noZ tm tm2 ∧ ps2 = ps ∧ asg2 = asg ∧ body2 = body) ∧ statP h r (i + 1)
      | _ => False
    | _ => statP h r (i + 1)

theorem statP_get {h : Heap} : ∀ {h' : List (Option SO)} {i : Nat}, statP h h' i → ∀ {j : Nat} {st : LoopState} {pd : Option Code} {tm : List SV} {ps : List Tmp} {asg body : Code},
    h'[j]? = some (some (.loop st pd tm ps asg body)) → ∃ st' pd' tm', hget h (i + j) = some (.loop st' pd' tm' ps asg body) ∧ wkVs idF noZ tm tm'
  | [], i, _, j, _, _, _, _, _, _, hj => by simp at hj
  | o :: r, i, H, j, st, pd, tm, ps, asg, body, hj => by
    unfold statP at H
    have rest : statP h r (i + 1) := by
      split at H
      · split at H
        · exact H.2
        · exact H.elim
      · exact H
    cases j with
    | zero =>
      simp at hj
      subst hj
      dsimp only at H
      split at H
      · rename_i st2 pd2 tm2 ps2 asg2 body2 hg
        obtain ⟨⟨hw, rfl, rfl, rfl⟩, _⟩ := H
        exact ⟨st2, pd2, tm2, by simpa using hg, hw⟩
      · exact H.elim
    | succ j =>
      have := statP_get (h' := r) (i := i + 1) rest (j := j) (by simpa using hj)
      rwa [show i + 1 + j = i + (j + 1) by omega] at this

theorem statP.ok {h h' : Heap} (H : statP h h' 0) : StatW h h' := by
  intro l st pd tm ps asg body hl
  simpa using statP_get H (hget_some hl)

/-- What is known of a loop. p: what stays; d: what changes from round to round; q: how it ends. -/
structure LSpec (π δ β : Type) where
  code : Code
  N : Nat
  I : π → δ → SS
  J : π → δ → Prop
  ways : Nat
  E : Nat → π → β → SX × SS
  JE : Nat → π → β → Prop

/-- All ways out. -/
def allE {π β : Type} (E : Nat → π → β → SX × SS) (JE : Nat → π → β → Prop) (p : π) (K : KX) : Nat → Prop
  | 0 => True
  | w + 1 => allE E JE p K w ∧ ∀ q, JE w p q → K (E w p q).1 (E w p q).2
theorem allE_get {π β : Type} {E : Nat → π → β → SX × SS} {JE : Nat → π → β → Prop} {p : π} {K : KX} : ∀ {n w : Nat}, allE E JE p K n → w < n → ∀ q, JE w p q → K (E w p q).1 (E w p q).2
  | 0, _, _, h => by omega
  | n + 1, w, H, h => by
    by_cases hw : w = n
    · subst hw; exact H.2
    · exact allE_get H.1 (by omega)
theorem allE_mono {π β : Type} {E : Nat → π → β → SX × SS} {JE : Nat → π → β → Prop} {p : π} {K K' : KX} (hk : ∀ x S, K x S → K' x S) : ∀ {n : Nat}, allE E JE p K n → allE E JE p K' n
  | 0, _ => trivial
  | n + 1, H => ⟨allE_mono hk H.1, fun q hq => hk _ _ (H.2 q hq)⟩

def LSpec.L {π δ β : Type} (s : LSpec π δ β) (S : SS) (K : KX) : Prop :=
  ∃ (p : π) (d : δ) (ρ : Ren), (s.J p d ∧ S.heap.length = s.N ∧ statP S.heap (s.I p d).heap 0 ∧ Wk s.N ρ (s.I p d) S) ∧ allE s.E s.JE p K s.ways

theorem LSpec.L_mono {π δ β : Type} (s : LSpec π δ β) {S : SS} {K K' : KX} (hk : ∀ x S, K x S → K' x S) (H : s.L S K) : s.L S K' := by
  obtain ⟨p, d, ρ, h1, h2⟩ := H
  exact ⟨p, d, ρ, h1, allE_mono hk h2⟩

theorem LSpec.sound {X : Ctx} (ok : X.OK) {π δ β : Type} (s : LSpec π δ β) (n : Nat) (f : FuncId) (μ : π → δ → Nat) (Z : π → δ → KX)
    (hstat : ∀ p d d', statQ (s.I p d).heap (s.I p d').heap 0) (hstatE : ∀ p d w q, w < s.ways → statQ (s.I p d).heap (s.E w p q).2.heap 0)
    (hnext : ∀ p d S', s.J p d → Z p d .normal S' → ∃ ρ d', μ p d' < μ p d ∧ s.J p d' ∧ Wk s.N ρ (s.I p d') S')
    (hexit : ∀ p d x S', (match x with | .normal => False | _ => True) → s.J p d → Z p d x S' → ∃ w q ρ, w < s.ways ∧ s.JE w p q ∧ (s.E w p q).1 = x ∧ Wk s.N ρ (s.E w p q).2 S')
    (step : ∀ p d, s.J p d → exec X n f s.code (s.I p d) (Z p d)) : ∀ S K, s.L S K → SWp X.P (.loop s.code) S K := by
  intro S K H
  obtain ⟨p, d0, ρ0, ⟨hJ0, hN, hst0, hw0⟩, hK⟩ := H
  rw [← hN] at hw0
  have hst : ∀ d, StatW S.heap (s.I p d).heap := fun d => hst0.ok.trans (hstat p d0 d).ok
  have hl : SWp X.P (.loop s.code) S fun x S' => ∃ w q ρ, w < s.ways ∧ s.JE w p q ∧ (s.E w p q).1 = x ∧ Wk s.N ρ (s.E w p q).2 S' := by
    refine loop_rule ok (n := n) (f := f) (s.I p) (s.J p) (μ p) (fun d S' => s.J p d ∧ Z p d .normal S') (fun d S' hJ h => ?_) hst ⟨ρ0, d0, hJ0, hw0⟩ fun d hJ => ?_
    · rw [hN]
      exact hnext p d S' hJ h.2
    · refine exec_mono ok n _ _ _ _ _ (fun x S' hx => ?_) (step p d hJ)
      cases x with
      | normal => exact ⟨hJ, hx⟩
      | ret => exact hexit p d .ret S' trivial hJ hx
      | exit id => exact hexit p d (.exit id) S' trivial hJ hx
  intro r B W0 env a W Q st hr hQ
  refine hl r B W0 env a W Q st hr fun x S' env' a' W' hle st' hrd hx => ?_
  obtain ⟨w, q, ρ, hwl, hq, rfl, hw⟩ := hx
  rw [← hN] at hw
  have hlt : ∀ l e, env l = some e → l < S.heap.length := by
    intro l e he
    rcases Nat.lt_or_ge l S.heap.length with h | h
    · exact h
    · rw [st.rel.fresh l h] at he; cases he
  obtain ⟨⟨env2, hle2, st2⟩, hrnd2⟩ := hw.st hlt hle ((hst0.ok.trans (hstatE p d0 w q hwl).ok).at st.rel) st'
  exact hQ _ _ env2 a' W' hle2 st2 (hrnd2.trans hrd) (allE_get hK hwl q hq)

/-- What one may say of a loop. -/
structure LoopOK (P : Program) (b : Code) (L : SS → KX → Prop) : Prop where
  loop : ∀ S K, L S K → SWp P (.loop b) S K
  mono : ∀ S (K K' : KX), (∀ x S, K x S → K' x S) → L S K → L S K'

theorem LSpec.ok {X : Ctx} (ok : X.OK) {π δ β : Type} (s : LSpec π δ β) (n : Nat) (f : FuncId) (μ : π → δ → Nat) (Z : π → δ → KX)
    (hstat : ∀ p d d', statQ (s.I p d).heap (s.I p d').heap 0) (hstatE : ∀ p d w q, w < s.ways → statQ (s.I p d).heap (s.E w p q).2.heap 0)
    (hnext : ∀ p d S', s.J p d → Z p d .normal S' → ∃ ρ d', μ p d' < μ p d ∧ s.J p d' ∧ Wk s.N ρ (s.I p d') S')
    (hexit : ∀ p d x S', (match x with | .normal => False | _ => True) → s.J p d → Z p d x S' → ∃ w q ρ, w < s.ways ∧ s.JE w p q ∧ (s.E w p q).1 = x ∧ Wk s.N ρ (s.E w p q).2 S')
    (step : ∀ p d, s.J p d → exec X n f s.code (s.I p d) (Z p d)) : LoopOK X.P s.code s.L :=
  ⟨s.sound ok n f μ Z hstat hstatE hnext hexit step, fun _ _ _ hk => s.L_mono hk⟩

def Ctx.loop (X : Ctx) (f i : Nat) (b : Code) (L : SS → KX → Prop) : Ctx := { X with loopc := fun g j => match Nat.beq g f && Nat.beq j i with | true => some (b, L) | false => X.loopc g j }
theorem Ctx.loop_ok {X : Ctx} (ok : X.OK) {f i : Nat} {b : Code} {L : SS → KX → Prop} (hl : LoopOK X.P b L) : (X.loop f i b L).OK := by
  have key : ∀ g j b' L', (X.loop f i b L).loopc g j = some (b', L') → (b' = b ∧ L' = L) ∨ X.loopc g j = some (b', L') := by
    intro g j b' L' h
    simp only [Ctx.loop] at h
    split at h
    · cases h; exact .inl ⟨rfl, rfl⟩
    · exact .inr h
  refine ⟨ok.pok, ok.regs, ok.con, ok.mono, ok.ext, fun g j b' L' h S K H => ?_, fun g j b' L' h S K K' hk H => ?_⟩
  · rcases key g j b' L' h with ⟨rfl, rfl⟩ | h
    · exact hl.loop _ _ H
    · exact ok.loops _ _ _ _ h _ _ H
  · rcases key g j b' L' h with ⟨rfl, rfl⟩ | h
    · exact hl.mono _ _ _ hk H
    · exact ok.lmono _ _ _ _ h _ _ _ hk H

/-- A region that draws, with a schedule. -/
def Ctx.sched (X : Ctx) (f i : Nat) (ops : Array Oper) (fs l : List Nat) : Ctx := { X with regc := fun g j => match Nat.beq g f && Nat.beq j i with | true => some (ops, fs, l) | false => X.regc g j }
theorem Ctx.sched_ok {X : Ctx} (ok : X.OK) {f i : Nat} {ops : Array Oper} {fs l : List Nat} (hl : l.length = ops.size) (hc : certB (fun g => fs.contains g) ops l (Array.replicate ops.size false) = true) (hf : fs.all (isCon X) = true) : (X.sched f i ops fs l).OK := by
  refine ⟨ok.pok, fun g j ops' fs' l' h => ?_, ok.con, ok.mono, ok.ext, ok.loops, ok.lmono⟩
  simp only [Ctx.sched] at h
  split at h
  · cases h
    refine ⟨hl, hc, fun g hg => ?_⟩
    simp only [List.all_eq_true] at hf
    exact hf g (by simpa using hg)
  · exact ok.regs _ _ _ _ _ h
/-- The operations of a region of some code. -/
def opsIn (i : Nat) : Code → Option (Array Oper)
  | .region id ops _ => match Nat.beq id i with | true => some ops | false => none
  | .seq a b => match opsIn i a with | some o => some o | none => opsIn i b
  | .cond _ a b => match opsIn i a with | some o => some o | none => opsIn i b
  | .block _ a => opsIn i a
  | .loop a => opsIn i a
  | .rangeFunc _ _ a b => match opsIn i a with | some o => some o | none => opsIn i b
  | _ => none
def opsOf (P : Program) (f i : Nat) : Array Oper := match (P.funcs[f]?).bind (·.body) with
  | some c => match opsIn i c with | some o => o | none => #[]
  | none => #[]
/-- The schedule that the executor would take. -/
def schedOf (con : FuncId → Bool) (ops : Array Oper) : Nat → Array Bool → List Nat
  | 0, _ => []
  | n + 1, listed => match Region.ready .any ops listed with
    | [] => []
    | i :: r => match (i :: r).find? (freeB con ops listed) with
      | some j => j :: schedOf con ops n (listed.setIfInBounds j true)
      | none => i :: schedOf con ops n (listed.setIfInBounds i true)

/-- A loop's contract whose parameters are read off the state. -/
def LSpec.by {π δ β : Type} (s : LSpec π δ β) (ex : SS → Option (π × δ × Ren)) (S : SS) (K : KX) : Prop :=
  match ex S with
  | some (p, d, ρ) => (s.J p d ∧ S.heap.length = s.N ∧ statP S.heap (s.I p d).heap 0 ∧ Wk s.N ρ (s.I p d) S) ∧ allE s.E s.JE p K s.ways
  | none => False
theorem LoopOK.by {P : Program} {π δ β : Type} {s : LSpec π δ β} (ok : LoopOK P s.code s.L) (ex : SS → Option (π × δ × Ren)) : LoopOK P s.code (s.by ex) := by
  refine ⟨fun S K H => ?_, fun S K K' hk H => ?_⟩
  · unfold LSpec.by at H
    split at H
    · exact ok.loop S K ⟨_, _, _, H⟩
    · exact H.elim
  · unfold LSpec.by at H ⊢
    split at H
    · exact ⟨H.1, allE_mono hk H.2⟩
    · exact H.elim

/-! ### to write states and continuations shortly -/

/-- Temporaries: those that are named, and nothing known of the others. -/
def lay : Nat → Nat → List (Nat × SV) → List SV
  | 0, _, _ => []
  | n + 1, i, l => match l with
    | [] => .any :: lay n (i + 1) []
    | (j, v) :: r => match Nat.beq i j with | true => v :: lay n (i + 1) r | false => .any :: lay n (i + 1) ((j, v) :: r)

def getI (S : SS) (t : Nat) (k : Int → Prop) : Prop := match S.get t with | .int _ i => k i | _ => False
def getB (S : SS) (t : Nat) (k : Bool → Prop) : Prop := match S.get t with | .bool i => k i | _ => False
def getS (S : SS) (t : Nat) (k : Nat → Nat → Prop) : Prop := match S.get t with | .osl l n => k l n | _ => False
theorem getI_spec {S : SS} {t : Nat} {k : Int → Prop} (h : getI S t k) : ∃ i, k i := by
  unfold getI at h; split at h
  · exact ⟨_, h⟩
  · exact h.elim
theorem getB_spec {S : SS} {t : Nat} {k : Bool → Prop} (h : getB S t k) : ∃ i, k i := by
  unfold getB at h; split at h
  · exact ⟨_, h⟩
  · exact h.elim
theorem getS_spec {S : SS} {t : Nat} {k : Nat → Nat → Prop} (h : getS S t k) : ∃ i n, k i n := by
  unfold getS at h; split at h
  · exact ⟨_, _, h⟩
  · exact h.elim

/-- The body of the loop whose first region is i. -/
def loopAt (i : Nat) : Code → Option Code
  | .loop b => match Nat.beq (firstRegion b) i with | true => some b | false => loopAt i b
  | .seq a b => match loopAt i a with | some c => some c | none => loopAt i b
  | .cond _ a b => match loopAt i a with | some c => some c | none => loopAt i b
  | .block _ a => loopAt i a
  | .rangeFunc _ _ a b => match loopAt i a with | some c => some c | none => loopAt i b
  | _ => none
def loopOf (P : Program) (f i : Nat) : Code := match (P.funcs[f]?).bind (·.body) with
  | some c => match loopAt i c with | some b => b | none => .skip
  | none => .skip
end Go.Sh

namespace Go.Proofs.Ytmcidfecepknpaa
open Go Go.Sh Go.Proofs

theorem names_all : (Try.prog.funcs.all fun fn => !(fn.name == "runtime.NumGoroutine")) = true := by kernel_rfl
theorem pok : POk Try.prog := by
  refine ⟨fun f fn hf => ?_, by kernel_rfl⟩
  have h := names_all
  rw [Array.all_eq_true] at h
  obtain ⟨hi, hg⟩ := Array.getElem?_eq_some_iff.1 hf
  have := h f hi
  rw [hg] at this
  simpa using this

noncomputable def X0 : Ctx := Ctx.plain Try.prog
theorem X0_ok : X0.OK := Ctx.plain_ok pok
end Go.Proofs.Ytmcidfecepknpaa

namespace Go.Proofs.Ytmcidfecepknpaa
open Go Go.Sh Go.Proofs

structure Rul where
  answer : Int
  cooling : Int
  settle : Int
  reverse : Int
def Rul.sv (r : Rul) : SV := .agg [.int .i64 r.answer, .int .i64 r.cooling, .int .i64 r.settle, .int .i64 r.reverse]
def inB (n low high : Int) : Bool := decide (low ≤ n) && decide (n ≤ high)
def Rul.ok (r : Rul) : Bool := inB r.answer 1 1000000 && inB r.settle 1 1000000 && inB r.cooling 1 1000000 && inB r.reverse 1 1000000

structure Clm where
  number : Int
  src : Int
  dst : Int
  holder : Int
  asked : Int
  backed : Bool
def Clm.sv (c : Clm) : SV := .agg [.int .i64 c.number, .int .i64 c.src, .int .i64 c.dst, .int .i64 c.holder, .int .i64 c.asked, .bool c.backed]
def Clm.ok (c : Clm) : Bool := inB c.number 0 99999999 && inB c.src 0 7 && inB c.dst 0 7 && !decide (c.src = c.dst) && inB c.holder 0 63 && inB c.asked 0 10000000

def sAreValid : FSpec Rul := { J := fun _ => True, A := fun r => [r.sv], H := fun _ => [], R := fun r => .bool r.ok, O := fun _ => [] }
def sIsClaim : FSpec Clm := { J := fun _ => True, A := fun r => [r.sv], H := fun _ => [], R := fun r => .bool r.ok, O := fun _ => [] }
end Go.Proofs.Ytmcidfecepknpaa

namespace Go.Proofs.Ytmcidfecepknpaa
open Go Go.Sh Go.Proofs
def areValid_T (r : Rul) : Prop :=
  ifB (decide ((1 : Int) ≤ Rul.answer r) == true)
  (ifB (!decide (Rul.answer r ≤ (1000000 : Int))) (Rul.ok r = false ∧ True)
    (ifB (decide ((1 : Int) ≤ Rul.settle r) == true)
      (ifB (!decide (Rul.settle r ≤ (1000000 : Int))) (Rul.ok r = false ∧ True)
        (ifB (decide ((1 : Int) ≤ Rul.cooling r) == true)
          (ifB (!decide (Rul.cooling r ≤ (1000000 : Int))) (Rul.ok r = false ∧ True)
            (ifB (decide ((1 : Int) ≤ Rul.reverse r) == true)
              (ifB (!decide (Rul.reverse r ≤ (1000000 : Int))) (Rul.ok r = false ∧ True) (Rul.ok r = true ∧ True))
              (Rul.ok r = false ∧ True)))
          (Rul.ok r = false ∧ True)))
      (Rul.ok r = false ∧ True)))
  (Rul.ok r = false ∧ True)
theorem areValid_eq (r : Rul) : callBy X0 (exec X0 100) 37 (sAreValid.A r) (sAreValid.H r) (RetC (sAreValid.H r).length (sAreValid.R r) (sAreValid.O r)) = areValid_T r := by kernel_rfl
theorem areValid_ok : sAreValid.OK X0.P 37 :=
  .of_eq X0_ok 100 _ areValid_eq (fun _ => rfl) (fun _ _ _ h => by cases h) fun r _ => by
    unfold areValid_T
    repeat' (refine ifB_split (fun _ => ?_) (fun _ => ?_))
    all_goals (refine ⟨?_, trivial⟩; simp_all [Rul.ok, inB] <;> omega)
def isClaim_T (r : Clm) : Prop :=
  ifB (decide ((0 : Int) ≤ Clm.number r) == true)
  (ifB (decide (Clm.number r ≤ (99999999 : Int)) == true)
    (ifB (decide ((0 : Int) ≤ Clm.src r) == true)
      (ifB (decide (Clm.src r ≤ (7 : Int)) == true)
        (ifB (decide ((0 : Int) ≤ Clm.dst r) == true)
          (ifB (decide (Clm.dst r ≤ (7 : Int)) == true)
            (ifB ((Clm.src r != Clm.dst r) == true)
              (ifB (decide ((0 : Int) ≤ Clm.holder r) == true)
                (ifB (decide (Clm.holder r ≤ (63 : Int)) == true)
                  (ifB (decide ((0 : Int) ≤ Clm.asked r) == true)
                    (Clm.ok r = decide (Clm.asked r ≤ (10000000 : Int)) ∧ True) (Clm.ok r = false ∧ True))
                  (Clm.ok r = false ∧ True))
                (Clm.ok r = false ∧ True))
              (Clm.ok r = false ∧ True))
            (Clm.ok r = false ∧ True))
          (Clm.ok r = false ∧ True))
        (Clm.ok r = false ∧ True))
      (Clm.ok r = false ∧ True))
    (Clm.ok r = false ∧ True))
  (Clm.ok r = false ∧ True)
theorem isClaim_eq (r : Clm) : callBy X0 (exec X0 100) 38 (sIsClaim.A r) (sIsClaim.H r) (RetC (sIsClaim.H r).length (sIsClaim.R r) (sIsClaim.O r)) = isClaim_T r := by kernel_rfl
theorem isClaim_ok : sIsClaim.OK X0.P 38 :=
  .of_eq X0_ok 100 _ isClaim_eq (fun _ => rfl) (fun _ _ _ h => by cases h) fun r _ => by
    unfold isClaim_T
    repeat' (refine ifB_split (fun _ => ?_) (fun _ => ?_))
    all_goals (refine ⟨?_, trivial⟩; simp_all [Clm.ok, inB] <;> omega)
end Go.Proofs.Ytmcidfecepknpaa

namespace Go.Proofs.Ytmcidfecepknpaa
open Go Go.Sh Go.Proofs

structure Evt where
  kind : Int
  at' : Int
  reason : Int
def Evt.cells (e : Evt) : List SV := [.int .i64 e.kind, .int .i64 e.at', .int .i64 e.reason]
def Evt.of : List SV → Evt
  | [.int _ k, .int _ a, .int _ r] => ⟨k, a, r⟩
  | _ => ⟨0, 0, 0⟩
end Go.Proofs.Ytmcidfecepknpaa

namespace Go.Proofs.Ytmcidfecepknpaa
open Go Go.Sh Go.Proofs

def lastOf (a : Int) (E : Nat → Evt) : Nat → Int
  | 0 => a
  | i + 1 => (E i).at'
def evOk (last : Int) (e : Evt) : Bool := inB e.kind 1 6 && inB e.at' last 20000000 && (if e.kind = 2 ∨ e.kind = 6 then inB e.reason 1 9 else decide (e.reason = 0))

structure VP where
  a : Int
  E : Nat → Evt
  n : Nat
def evO (n : Nat) (E : Nat → Evt) : SO := .arr false n 3 0 fun i => (E i).cells
def blank (n : Nat) (l : List (Nat × SV)) (h : Heap) : SS := { tmps := lay n 0 l, heap := h, defs := [], rnd := none }

noncomputable def lV : LSpec VP Nat Nat where
  code := loopOf Try.prog 81 2
  N := 4
  I := fun p i => blank 19 [(0, .sl 0 0 p.n), (1, .fn (.func 53) [] [.ptr 3 0 0]), (7, .int .i64 p.n), (8, .int .i64 i)] [some (evO p.n p.E), none, none, some (.arr true 1 1 3 fun _ => [.int .i64 (lastOf p.a p.E i)])]
  J := fun p i => i ≤ p.n ∧ p.n ≤ 20 ∧ ∀ j, j < i → evOk (lastOf p.a p.E j) (p.E j) = true
  ways := 2
  E := fun w p q => match w with
    | 0 => (.exit 0, blank 19 [] [none, none, none, none])
    | _ => (.ret, blank 19 [(4, .int .i64 q)] [none, none, none, none])
  JE := fun w p q => match w with
    | 0 => Leaf (∀ j, j < p.n → evOk (lastOf p.a p.E j) (p.E j) = true)
    | _ => Leaf (q < p.n ∧ evOk (lastOf p.a p.E q) (p.E q) = false)

noncomputable def zV (p : VP) (i : Nat) : KX := fun x S' => match x with
  | .normal => Leaf (i < p.n) ∧ Leaf (evOk (lastOf p.a p.E i) (p.E i) = true) ∧ Wk 4 [] (lV.I p (i + 1)) S'
  | .exit k => gateB (Nat.beq k 0) (Leaf (p.n ≤ i) ∧ Wk 4 [] (lV.E 0 p 0).2 S')
  | .ret => Leaf (i < p.n) ∧ Leaf (evOk (lastOf p.a p.E i) (p.E i) = false) ∧ Wk 4 [] (lV.E 1 p i).2 S'
end Go.Proofs.Ytmcidfecepknpaa

namespace Go.Proofs.Ytmcidfecepknpaa
open Go Go.Sh Go.Proofs
set_option linter.unusedVariables false
set_option linter.unusedSimpArgs false
def validLoop_T (p : VP) (i : Nat) : Prop :=
  ifB (decide ((↑i : Int) < (↑(VP.n p) : Int)))
  (ifB (decide ((0 : Int) ≤ (↑i : Int)) && decide ((↑i : Int) < (↑(VP.n p) : Int)))
    (ifB (decide ((0 : Nat) + Int.toNat (↑i : Int) < VP.n p) && decide ((3 : Nat) ≤ (3 : Nat)))
      (ifB ((Evt.kind (VP.E p ((0 : Nat) + Int.toNat (↑i : Int))) == (2 : Int)) == false)
        (ifB (Evt.kind (VP.E p ((0 : Nat) + Int.toNat (↑i : Int))) == (6 : Int))
          (ifB (decide ((1 : Int) ≤ Evt.kind (VP.E p ((0 : Nat) + Int.toNat (↑i : Int)))) == true)
            (ifB ((!decide (Evt.kind (VP.E p ((0 : Nat) + Int.toNat (↑i : Int))) ≤ (6 : Int))) == false)
              (ifB (decide (lastOf (VP.a p) (VP.E p) i ≤ Evt.at' (VP.E p ((0 : Nat) + Int.toNat (↑i : Int)))) == true)
                (ifB ((!decide (Evt.at' (VP.E p ((0 : Nat) + Int.toNat (↑i : Int))) ≤ (20000000 : Int))) == false)
                  (ifB (decide ((1 : Int) ≤ Evt.reason (VP.E p ((0 : Nat) + Int.toNat (↑i : Int)))) == true)
                    (ifB (!decide (Evt.reason (VP.E p ((0 : Nat) + Int.toNat (↑i : Int))) ≤ (9 : Int)))
                      (Leaf (i < VP.n p) ∧
                        Leaf (evOk (lastOf (VP.a p) (VP.E p) i) (VP.E p i) = false) ∧
                          ((↑i : Int) = (↑i : Int) ∧ True) ∧ True)
                      (Leaf (i < VP.n p) ∧
                        Leaf (evOk (lastOf (VP.a p) (VP.E p) i) (VP.E p i) = true) ∧
                          (((0 : Nat) = (0 : Nat) ∧ VP.n p = VP.n p) ∧
                              (True ∧ ((0 : Nat) = (0 : Nat) ∧ (0 : Nat) = (0 : Nat)) ∧ True) ∧
                                (↑(VP.n p) : Int) = (↑(VP.n p) : Int) ∧
                                  (↑(i + (1 : Nat)) : Int) = IntKind.wrap IntKind.i64 ((↑i : Int) + (1 : Int)) ∧ True) ∧
                            (VP.n p = VP.n p ∧
                                ∀ (i_1 : Nat),
                                  i_1 < VP.n p →
                                    Evt.kind (VP.E p i_1) = Evt.kind (VP.E p i_1) ∧
                                      Evt.at' (VP.E p i_1) = Evt.at' (VP.E p i_1) ∧
                                        Evt.reason (VP.E p i_1) = Evt.reason (VP.E p i_1) ∧ True) ∧
                              ((1 : Nat) = (1 : Nat) ∧
                                  ∀ (i_1 : Nat),
                                    i_1 < (1 : Nat) →
                                      lastOf (VP.a p) (VP.E p) (i + (1 : Nat)) =
                                          Evt.at' (VP.E p ((0 : Nat) + Int.toNat (↑i : Int))) ∧
                                        True) ∧
                                True))
                    (Leaf (i < VP.n p) ∧
                      Leaf (evOk (lastOf (VP.a p) (VP.E p) i) (VP.E p i) = false) ∧
                        ((↑i : Int) = (↑i : Int) ∧ True) ∧ True))
                  (Leaf (i < VP.n p) ∧
                    Leaf (evOk (lastOf (VP.a p) (VP.E p) i) (VP.E p i) = false) ∧
                      ((↑i : Int) = (↑i : Int) ∧ True) ∧ True))
                (Leaf (i < VP.n p) ∧
                  Leaf (evOk (lastOf (VP.a p) (VP.E p) i) (VP.E p i) = false) ∧
                    ((↑i : Int) = (↑i : Int) ∧ True) ∧ True))
              (Leaf (i < VP.n p) ∧
                Leaf (evOk (lastOf (VP.a p) (VP.E p) i) (VP.E p i) = false) ∧ ((↑i : Int) = (↑i : Int) ∧ True) ∧ True))
            (Leaf (i < VP.n p) ∧
              Leaf (evOk (lastOf (VP.a p) (VP.E p) i) (VP.E p i) = false) ∧ ((↑i : Int) = (↑i : Int) ∧ True) ∧ True))
          (ifB (decide ((1 : Int) ≤ Evt.kind (VP.E p ((0 : Nat) + Int.toNat (↑i : Int)))) == true)
            (ifB ((!decide (Evt.kind (VP.E p ((0 : Nat) + Int.toNat (↑i : Int))) ≤ (6 : Int))) == false)
              (ifB (decide (lastOf (VP.a p) (VP.E p) i ≤ Evt.at' (VP.E p ((0 : Nat) + Int.toNat (↑i : Int)))) == true)
                (ifB ((!decide (Evt.at' (VP.E p ((0 : Nat) + Int.toNat (↑i : Int))) ≤ (20000000 : Int))) == false)
                  (ifB (decide ((0 : Int) ≤ Evt.reason (VP.E p ((0 : Nat) + Int.toNat (↑i : Int)))) == true)
                    (ifB (!decide (Evt.reason (VP.E p ((0 : Nat) + Int.toNat (↑i : Int))) ≤ (0 : Int)))
                      (Leaf (i < VP.n p) ∧
                        Leaf (evOk (lastOf (VP.a p) (VP.E p) i) (VP.E p i) = false) ∧
                          ((↑i : Int) = (↑i : Int) ∧ True) ∧ True)
                      (Leaf (i < VP.n p) ∧
                        Leaf (evOk (lastOf (VP.a p) (VP.E p) i) (VP.E p i) = true) ∧
                          (((0 : Nat) = (0 : Nat) ∧ VP.n p = VP.n p) ∧
                              (True ∧ ((0 : Nat) = (0 : Nat) ∧ (0 : Nat) = (0 : Nat)) ∧ True) ∧
                                (↑(VP.n p) : Int) = (↑(VP.n p) : Int) ∧
                                  (↑(i + (1 : Nat)) : Int) = IntKind.wrap IntKind.i64 ((↑i : Int) + (1 : Int)) ∧ True) ∧
                            (VP.n p = VP.n p ∧
                                ∀ (i_1 : Nat),
                                  i_1 < VP.n p →
                                    Evt.kind (VP.E p i_1) = Evt.kind (VP.E p i_1) ∧
                                      Evt.at' (VP.E p i_1) = Evt.at' (VP.E p i_1) ∧
                                        Evt.reason (VP.E p i_1) = Evt.reason (VP.E p i_1) ∧ True) ∧
                              ((1 : Nat) = (1 : Nat) ∧
                                  ∀ (i_1 : Nat),
                                    i_1 < (1 : Nat) →
                                      lastOf (VP.a p) (VP.E p) (i + (1 : Nat)) =
                                          Evt.at' (VP.E p ((0 : Nat) + Int.toNat (↑i : Int))) ∧
                                        True) ∧
                                True))
                    (Leaf (i < VP.n p) ∧
                      Leaf (evOk (lastOf (VP.a p) (VP.E p) i) (VP.E p i) = false) ∧
                        ((↑i : Int) = (↑i : Int) ∧ True) ∧ True))
                  (Leaf (i < VP.n p) ∧
                    Leaf (evOk (lastOf (VP.a p) (VP.E p) i) (VP.E p i) = false) ∧
                      ((↑i : Int) = (↑i : Int) ∧ True) ∧ True))
                (Leaf (i < VP.n p) ∧
                  Leaf (evOk (lastOf (VP.a p) (VP.E p) i) (VP.E p i) = false) ∧
                    ((↑i : Int) = (↑i : Int) ∧ True) ∧ True))
              (Leaf (i < VP.n p) ∧
                Leaf (evOk (lastOf (VP.a p) (VP.E p) i) (VP.E p i) = false) ∧ ((↑i : Int) = (↑i : Int) ∧ True) ∧ True))
            (Leaf (i < VP.n p) ∧
              Leaf (evOk (lastOf (VP.a p) (VP.E p) i) (VP.E p i) = false) ∧ ((↑i : Int) = (↑i : Int) ∧ True) ∧ True)))
        (ifB (decide ((1 : Int) ≤ Evt.kind (VP.E p ((0 : Nat) + Int.toNat (↑i : Int)))) == true)
          (ifB ((!decide (Evt.kind (VP.E p ((0 : Nat) + Int.toNat (↑i : Int))) ≤ (6 : Int))) == false)
            (ifB (decide (lastOf (VP.a p) (VP.E p) i ≤ Evt.at' (VP.E p ((0 : Nat) + Int.toNat (↑i : Int)))) == true)
              (ifB ((!decide (Evt.at' (VP.E p ((0 : Nat) + Int.toNat (↑i : Int))) ≤ (20000000 : Int))) == false)
                (ifB (decide ((1 : Int) ≤ Evt.reason (VP.E p ((0 : Nat) + Int.toNat (↑i : Int)))) == true)
                  (ifB (!decide (Evt.reason (VP.E p ((0 : Nat) + Int.toNat (↑i : Int))) ≤ (9 : Int)))
                    (Leaf (i < VP.n p) ∧
                      Leaf (evOk (lastOf (VP.a p) (VP.E p) i) (VP.E p i) = false) ∧
                        ((↑i : Int) = (↑i : Int) ∧ True) ∧ True)
                    (Leaf (i < VP.n p) ∧
                      Leaf (evOk (lastOf (VP.a p) (VP.E p) i) (VP.E p i) = true) ∧
                        (((0 : Nat) = (0 : Nat) ∧ VP.n p = VP.n p) ∧
                            (True ∧ ((0 : Nat) = (0 : Nat) ∧ (0 : Nat) = (0 : Nat)) ∧ True) ∧
                              (↑(VP.n p) : Int) = (↑(VP.n p) : Int) ∧
                                (↑(i + (1 : Nat)) : Int) = IntKind.wrap IntKind.i64 ((↑i : Int) + (1 : Int)) ∧ True) ∧
                          (VP.n p = VP.n p ∧
                              ∀ (i_1 : Nat),
                                i_1 < VP.n p →
                                  Evt.kind (VP.E p i_1) = Evt.kind (VP.E p i_1) ∧
                                    Evt.at' (VP.E p i_1) = Evt.at' (VP.E p i_1) ∧
                                      Evt.reason (VP.E p i_1) = Evt.reason (VP.E p i_1) ∧ True) ∧
                            ((1 : Nat) = (1 : Nat) ∧
                                ∀ (i_1 : Nat),
                                  i_1 < (1 : Nat) →
                                    lastOf (VP.a p) (VP.E p) (i + (1 : Nat)) =
                                        Evt.at' (VP.E p ((0 : Nat) + Int.toNat (↑i : Int))) ∧
                                      True) ∧
                              True))
                  (Leaf (i < VP.n p) ∧
                    Leaf (evOk (lastOf (VP.a p) (VP.E p) i) (VP.E p i) = false) ∧
                      ((↑i : Int) = (↑i : Int) ∧ True) ∧ True))
                (Leaf (i < VP.n p) ∧
                  Leaf (evOk (lastOf (VP.a p) (VP.E p) i) (VP.E p i) = false) ∧
                    ((↑i : Int) = (↑i : Int) ∧ True) ∧ True))
              (Leaf (i < VP.n p) ∧
                Leaf (evOk (lastOf (VP.a p) (VP.E p) i) (VP.E p i) = false) ∧ ((↑i : Int) = (↑i : Int) ∧ True) ∧ True))
            (Leaf (i < VP.n p) ∧
              Leaf (evOk (lastOf (VP.a p) (VP.E p) i) (VP.E p i) = false) ∧ ((↑i : Int) = (↑i : Int) ∧ True) ∧ True))
          (Leaf (i < VP.n p) ∧
            Leaf (evOk (lastOf (VP.a p) (VP.E p) i) (VP.E p i) = false) ∧ ((↑i : Int) = (↑i : Int) ∧ True) ∧ True)))
      False)
    False)
  (Leaf (VP.n p ≤ i) ∧ True ∧ True)
theorem validLoop_eq (p : VP) (i : Nat) : exec X0 60 81 lV.code (lV.I p i) (zV p i) = validLoop_T p i := by kernel_rfl

theorem lastOf_succ (a : Int) (E : Nat → Evt) (i : Nat) : lastOf a E (i + 1) = (E i).at' := rfl
theorem validLoop_ok : LoopOK X0.P lV.code lV.L := by
  refine lV.ok X0_ok 60 81 (fun p i => p.n - i) zV (fun _ _ _ => by simp [lV, blank, evO, statQ]) (fun p d w q hw => ?_) (fun p i S' hJ h => ?_) (fun p i x S' hx hJ h => ?_) fun p i hJ => (validLoop_eq p i).mpr ?_
  · match w, hw with
    | 0, _ => simp [lV, blank, statQ]
    | 1, _ => simp [lV, blank, statQ]
  · obtain ⟨h1, h2, h3⟩ := h
    obtain ⟨j1, j2, j3⟩ := hJ
    simp only [Leaf] at h1 h2
    refine ⟨[], i + 1, by omega, ⟨by omega, j2, fun j hj => ?_⟩, h3⟩
    rcases Nat.lt_succ_iff_lt_or_eq.1 hj with hj | rfl
    · exact j3 j hj
    · exact h2
  · obtain ⟨j1, j2, j3⟩ := hJ
    cases x with
    | normal => exact hx.elim
    | ret =>
      obtain ⟨h1, h2, h3⟩ := h
      exact ⟨1, i, [], by decide, ⟨h1, h2⟩, rfl, h3⟩
    | exit k =>
      obtain ⟨h0, h1, h2⟩ := gateB_spec h
      have h0 := Nat.eq_of_beq_eq_true h0
      subst h0
      simp only [Leaf] at h1
      exact ⟨0, 0, [], by decide, fun j hj => j3 j (by omega), rfl, h2⟩
  · obtain ⟨j1, j2, j3⟩ := hJ
    unfold validLoop_T
    repeat' (refine ifB_split (fun _ => ?_) (fun _ => ?_))
    all_goals (simp_all [Leaf, evOk, inB, lastOf_succ, IntKind.wrap_i64] <;> omega)
end Go.Proofs.Ytmcidfecepknpaa

namespace Go.Proofs.Ytmcidfecepknpaa
open Go Go.Sh Go.Proofs
set_option linter.unusedVariables false

def exRul (args : List SV) (_ : Heap) : Option (Rul × List (Option Nat)) := match args with
  | [.agg [.int _ a, .int _ b, .int _ c, .int _ d]] => some (⟨a, b, c, d⟩, [])
  | _ => none
def exClm (args : List SV) (_ : Heap) : Option (Clm × List (Option Nat)) := match args with
  | [.agg [.int _ a, .int _ b, .int _ c, .int _ d, .int _ e, .bool f]] => some (⟨a, b, c, d, e, f⟩, [])
  | _ => none
def exV (S : SS) : Option (VP × Nat × Ren) := match S.get 0, hget S.heap 0, hget S.heap 3 with
  | .sl _ _ n, some (.arr _ _ _ _ g), some (.arr _ _ _ _ u) => match u 0 with
    | [.int _ a] => some (⟨a, fun i => Evt.of (g i), n⟩, 0, [])
    | _ => none
  | _, _, _ => none

noncomputable def X1 : Ctx := ((X0.with 37 (sAreValid.by exRul)).with 38 (sIsClaim.by exClm)).loop 81 2 lV.code (lV.by exV)
theorem X1_ok : X1.OK := Ctx.loop_ok (Ctx.with_ok (Ctx.with_ok X0_ok (areValid_ok.by exRul)) (isClaim_ok.by exClm)) (validLoop_ok.by exV)

structure CP where
  r : Rul
  c : Clm
  E : Nat → Evt
  n : Nat
def evsOk (a : Int) (E : Nat → Evt) (n : Nat) : Bool := (List.range n).all fun j => evOk (lastOf a E j) (E j)
def CP.ok (p : CP) : Bool := p.r.ok && p.c.ok && decide (p.n ≤ 20) && evsOk p.c.asked p.E p.n
def sValid : FSpec CP := { J := fun _ => True, A := fun p => [p.r.sv, p.c.sv, .sl 0 0 p.n], H := fun p => [some (evO p.n p.E)], R := fun p => .bool p.ok, O := fun _ => [] }
end Go.Proofs.Ytmcidfecepknpaa

namespace Go.Proofs.Ytmcidfecepknpaa
open Go Go.Sh Go.Proofs
set_option linter.unusedVariables false
set_option linter.unusedSimpArgs false
def valid_T (p : CP) : Prop :=
  (True ∧
    (0 : Nat) = (0 : Nat) ∧
      ((Rul.answer (CP.r p) = Rul.answer (CP.r p) ∧
            Rul.cooling (CP.r p) = Rul.cooling (CP.r p) ∧
              Rul.settle (CP.r p) = Rul.settle (CP.r p) ∧ Rul.reverse (CP.r p) = Rul.reverse (CP.r p) ∧ True) ∧
          True) ∧
        True) ∧
  ifB
    ((!Rul.ok
          { answer := Rul.answer (CP.r p), cooling := Rul.cooling (CP.r p), settle := Rul.settle (CP.r p),
            reverse := Rul.reverse (CP.r p) }) ==
      false)
    ((True ∧
        (0 : Nat) = (0 : Nat) ∧
          ((Clm.number (CP.c p) = Clm.number (CP.c p) ∧
                Clm.src (CP.c p) = Clm.src (CP.c p) ∧
                  Clm.dst (CP.c p) = Clm.dst (CP.c p) ∧
                    Clm.holder (CP.c p) = Clm.holder (CP.c p) ∧
                      Clm.asked (CP.c p) = Clm.asked (CP.c p) ∧ Clm.backed (CP.c p) = Clm.backed (CP.c p) ∧ True) ∧
              True) ∧
            True) ∧
      ifB
        ((!Clm.ok
              { number := Clm.number (CP.c p), src := Clm.src (CP.c p), dst := Clm.dst (CP.c p),
                holder := Clm.holder (CP.c p), asked := Clm.asked (CP.c p), backed := Clm.backed (CP.c p) }) ==
          false)
        (ifB (decide ((↑(CP.n p) : Int) > (20 : Int))) (CP.ok p = false ∧ True)
          (LSpec.code lV = LSpec.code lV ∧
            (((0 : Nat) ≤ CP.n p ∧
                  CP.n p ≤ (20 : Nat) ∧
                    ∀ (j : Nat),
                      j < (0 : Nat) →
                        evOk (lastOf (Clm.asked (CP.c p)) (fun (i : Nat) => Evt.of (Evt.cells (CP.E p i))) j)
                            (Evt.of (Evt.cells (CP.E p j))) =
                          true) ∧
                (4 : Nat) = (4 : Nat) ∧
                  True ∧
                    (((0 : Nat) = (0 : Nat) ∧ CP.n p = CP.n p) ∧
                        (True ∧ ((0 : Nat) = (0 : Nat) ∧ (0 : Nat) = (0 : Nat)) ∧ True) ∧
                          (↑(CP.n p) : Int) = (↑(CP.n p) : Int) ∧ (0 : Int) = (0 : Int) ∧ True) ∧
                      (CP.n p = CP.n p ∧
                          ∀ (i : Nat),
                            i < CP.n p →
                              Evt.kind (Evt.of (Evt.cells (CP.E p i))) = Evt.kind (CP.E p i) ∧
                                Evt.at' (Evt.of (Evt.cells (CP.E p i))) = Evt.at' (CP.E p i) ∧
                                  Evt.reason (Evt.of (Evt.cells (CP.E p i))) = Evt.reason (CP.E p i) ∧ True) ∧
                        ((1 : Nat) = (1 : Nat) ∧
                            ∀ (i : Nat),
                              i < (1 : Nat) →
                                lastOf (Clm.asked (CP.c p)) (fun (i_1 : Nat) => Evt.of (Evt.cells (CP.E p i_1)))
                                      (0 : Nat) =
                                    Clm.asked (CP.c p) ∧
                                  True) ∧
                          True) ∧
              (True ∧
                  ∀ (q : Nat),
                    (∀ (j : Nat),
                        j < CP.n p →
                          evOk (lastOf (Clm.asked (CP.c p)) (fun (i : Nat) => Evt.of (Evt.cells (CP.E p i))) j)
                              (Evt.of (Evt.cells (CP.E p j))) =
                            true) →
                      CP.ok p = true ∧ True) ∧
                ∀ (q : Nat),
                  q < CP.n p ∧
                      evOk (lastOf (Clm.asked (CP.c p)) (fun (i : Nat) => Evt.of (Evt.cells (CP.E p i))) q)
                          (Evt.of (Evt.cells (CP.E p q))) =
                        false →
                    CP.ok p = false ∧ True))
        (CP.ok p = false ∧ True))
    (CP.ok p = false ∧ True)
theorem valid_eq (p : CP) : callBy X1 (exec X1 100) 33 (sValid.A p) (sValid.H p) (RetC (sValid.H p).length (sValid.R p) (sValid.O p)) = valid_T p := by kernel_rfl

theorem evt_of_cells (e : Evt) : Evt.of e.cells = e := rfl
theorem valid_ok : sValid.OK X1.P 33 := by
  refine .of_eq X1_ok 100 _ valid_eq (fun _ => rfl) (fun _ _ _ h => by cases h) fun p _ => ?_
  obtain ⟨⟨a, b, c, d⟩, ⟨e, f, g, h, i, j⟩, E, n⟩ := p
  unfold valid_T
  dsimp only [evt_of_cells]
  refine ⟨by simp, ifB_split (fun h1 => ⟨by simp, ifB_split (fun h2 => ifB_split (fun h3 => ?_) fun h3 => ⟨rfl, ?_, ?_⟩) fun h2 => ?_⟩) fun h1 => ?_⟩
  · simp_all [CP.ok]; omega
  · simp_all [lastOf]; omega
  · simp_all [CP.ok, evsOk]
    exact ⟨fun _ => by omega, fun q h1 h2 _ => ⟨q, h1, h2⟩⟩
  · simp_all [CP.ok]
  · simp_all [CP.ok]
end Go.Proofs.Ytmcidfecepknpaa

namespace Go.Proofs.Ytmcidfecepknpaa
open Go Go.Sh Go.Proofs
set_option linter.unusedVariables false
def iv (n : Int) : SV := .int .i64 n
def duesE : List (SV × SV) := [(iv 1, .agg [.fn (.func 87) [] [], iv 3]), (iv 2, .agg [.fn (.func 88) [] [], iv 3]), (iv 3, .agg [.fn (.func 89) [] [], iv 4]), (iv 4, .agg [.fn (.func 90) [] [], iv 5])]
def effE (k s n : Int) : SV × SV := (.agg [iv k, iv s], iv n)
def effectsE : List (SV × SV) := [effE 1 1 3, effE 2 1 2, effE 3 2 3, effE 4 2 6, effE 5 1 7, effE 5 2 7, effE 5 3 7, effE 6 4 8]
def sDues : FSpec Unit := { J := fun _ => True, A := fun _ => [], H := fun _ => [], R := fun _ => .map 0, O := fun _ => [.tbl true duesE] }
def sEffects : FSpec Unit := { J := fun _ => True, A := fun _ => [], H := fun _ => [], R := fun _ => .map 0, O := fun _ => [.tbl true effectsE] }
def exUnit (args : List SV) (_ : Heap) : Option (Unit × List (Option Nat)) := match args with
  | [] => some ((), [])
  | _ => none
end Go.Proofs.Ytmcidfecepknpaa

namespace Go.Proofs.Ytmcidfecepknpaa
open Go Go.Sh Go.Proofs
set_option linter.unusedVariables false
set_option linter.unusedSimpArgs false
def dues_T (p : Unit) : Prop :=
  True ∧
  (true = true ∧
      [(SV.int IntKind.i64 (1 : Int), SV.agg [SV.fn (Fn.func (87 : Nat)) [] [], SV.int IntKind.i64 (3 : Int)]),
            (SV.int IntKind.i64 (2 : Int), SV.agg [SV.fn (Fn.func (88 : Nat)) [] [], SV.int IntKind.i64 (3 : Int)]),
            (SV.int IntKind.i64 (3 : Int), SV.agg [SV.fn (Fn.func (89 : Nat)) [] [], SV.int IntKind.i64 (4 : Int)]),
            (SV.int IntKind.i64 (4 : Int),
              SV.agg [SV.fn (Fn.func (90 : Nat)) [] [], SV.int IntKind.i64 (5 : Int)])].Perm
        duesE) ∧
    True
theorem dues_eq (p : Unit) : callBy X0 (exec X0 100) 58 (sDues.A p) (sDues.H p) (RetC (sDues.H p).length (sDues.R p) (sDues.O p)) = dues_T p := by kernel_rfl
def effects_T (p : Unit) : Prop :=
  ∀ (es' : List (SV × SV)),
  es'.Perm
      [(SV.agg [SV.int IntKind.i64 (1 : Int), SV.int IntKind.i64 (1 : Int)], SV.int IntKind.i64 (3 : Int)),
        (SV.agg [SV.int IntKind.i64 (2 : Int), SV.int IntKind.i64 (1 : Int)], SV.int IntKind.i64 (2 : Int)),
        (SV.agg [SV.int IntKind.i64 (3 : Int), SV.int IntKind.i64 (2 : Int)], SV.int IntKind.i64 (3 : Int)),
        (SV.agg [SV.int IntKind.i64 (4 : Int), SV.int IntKind.i64 (2 : Int)], SV.int IntKind.i64 (6 : Int)),
        (SV.agg [SV.int IntKind.i64 (5 : Int), SV.int IntKind.i64 (1 : Int)], SV.int IntKind.i64 (7 : Int)),
        (SV.agg [SV.int IntKind.i64 (5 : Int), SV.int IntKind.i64 (2 : Int)], SV.int IntKind.i64 (7 : Int)),
        (SV.agg [SV.int IntKind.i64 (5 : Int), SV.int IntKind.i64 (3 : Int)], SV.int IntKind.i64 (7 : Int)),
        (SV.agg [SV.int IntKind.i64 (6 : Int), SV.int IntKind.i64 (4 : Int)], SV.int IntKind.i64 (8 : Int))] →
    True ∧ (plainE es' = true ∧ es'.Perm effectsE) ∧ True
theorem effects_eq (p : Unit) : callBy X0 (exec X0 100) 59 (sEffects.A p) (sEffects.H p) (RetC (sEffects.H p).length (sEffects.R p) (sEffects.O p)) = effects_T p := by kernel_rfl

theorem dues_ok : sDues.OK X0.P 58 := .of_eq X0_ok 100 _ dues_eq (fun _ => rfl) (fun _ _ o h => by simp only [sDues, List.mem_singleton] at h; subst h; exact ⟨rfl, by rfl⟩) fun p _ => by
  unfold dues_T
  first | exact ⟨trivial, ⟨by rfl, List.Perm.refl _⟩, trivial⟩ | exact fun es' h => ⟨trivial, ⟨plainE_perm h.symm (by rfl), h⟩, trivial⟩
theorem effects_ok : sEffects.OK X0.P 59 := .of_eq X0_ok 100 _ effects_eq (fun _ => rfl) (fun _ _ o h => by simp only [sEffects, List.mem_singleton] at h; subst h; exact ⟨rfl, by rfl⟩) fun p _ => by
  unfold effects_T
  exact fun es' h => ⟨trivial, ⟨plainE_perm h.symm (by rfl), h⟩, trivial⟩

def exCP (args : List SV) (h : Heap) : Option (CP × List (Option Nat)) := match args with
  | [.agg [.int _ a, .int _ b, .int _ c, .int _ d], .agg [.int _ e, .int _ f, .int _ g, .int _ i, .int _ j, .bool k], s] => match s with
    | .nils => some (⟨⟨a, b, c, d⟩, ⟨e, f, g, i, j, k⟩, fun _ => ⟨0, 0, 0⟩, 0⟩, [none])
    | .sl l _ n => match hget h l with
      | some (.arr _ _ _ _ u) => some (⟨⟨a, b, c, d⟩, ⟨e, f, g, i, j, k⟩, fun x => Evt.of (u x), n⟩, [some l])
      | _ => none
    | .osl l n => match hget h l with
      | some (.arr _ _ _ _ u) => some (⟨⟨a, b, c, d⟩, ⟨e, f, g, i, j, k⟩, fun x => Evt.of (u x), n⟩, [some l])
      | _ => none
    | _ => none
  | _ => none
noncomputable def X2 : Ctx := ((X0.with 33 (sValid.by exCP)).with 58 (sDues.by exUnit)).with 59 (sEffects.by exUnit)
theorem X2_ok : X2.OK := Ctx.with_ok (Ctx.with_ok (Ctx.with_ok X0_ok (valid_ok.by exCP)) (dues_ok.by exUnit)) (effects_ok.by exUnit)
end Go.Proofs.Ytmcidfecepknpaa

namespace Go.Proofs.Ytmcidfecepknpaa
open Go Go.Sh Go.Proofs
set_option linter.unusedVariables false

/-! ### what a claim does, plainly -/
def w64 (n : Int) : Int := IntKind.wrap .i64 n
structure Sta where
  state : Int
  since : Int
  next : Int
def Sta.cells (s : Sta) : List SV := [iv s.state, iv s.since, iv s.next]
def nextOf (r : Rul) (s t : Int) : Int := if s = 1 then w64 (t + r.answer) else if s = 2 then w64 (t + r.settle) else if s = 3 then w64 (t + r.cooling) else if s = 4 then w64 (t + r.reverse) else -1
def begins (r : Rul) (s t : Int) : Sta := ⟨s, t, nextOf r s t⟩
def follow (s : Int) : Int := if s = 1 then 3 else if s = 2 then 3 else if s = 3 then 4 else if s = 4 then 5 else 0
/-- The state after an event of a kind in a state; 0 if there is none. -/
def effN (k s : Int) : Int := if k = 1 ∧ s = 1 then 3 else if k = 2 ∧ s = 1 then 2 else if k = 3 ∧ s = 2 then 3 else if k = 4 ∧ s = 2 then 6 else if k = 5 ∧ s = 1 then 7 else if k = 5 ∧ s = 2 then 7 else if k = 5 ∧ s = 3 then 7 else if k = 6 ∧ s = 4 then 8 else 0
def afterN (c : Clm) (s : Int) (e : Evt) : Int := if e.reason = 1 ∧ e.kind = 2 then 6 else effN e.kind s
/-- Has the event an effect? -/
def afterB (c : Clm) (s : Int) (e : Evt) : Bool := effN e.kind s != 0 && !(e.reason == 1 && c.backed)
/-- Does it go on by itself up to a time? -/
def goesOn (u : Int) (s : Sta) : Bool := decide (0 ≤ s.next) && decide (s.next ≤ u)
def step1 (r : Rul) (s : Sta) : Sta := begins r (follow s.state) s.next
/-- How many changes by itself there may be. -/
def rank (s : Int) : Nat := if s = 1 then 3 else if s = 2 then 3 else if s = 3 then 2 else if s = 4 then 1 else 0
def Sta.ok (r : Rul) (s : Sta) : Prop := s.next = nextOf r s.state s.since

/-- With a stop at the first status that begins after t: what came last, and whether it has stopped. -/
def aloneT (r : Rul) (t u : Int) : Nat → Sta → Bool × Sta
  | 0, s => (false, s)
  | n + 1, s => match goesOn u s with
    | true => match decide (t < (step1 r s).since) with
      | true => (true, s)
      | false => aloneT r t u n (step1 r s)
    | false => (false, s)

/-! ### contracts of begins and after -/
def machA (a b : Nat) (r : Rul) (c : Clm) (v : SV) : List SV := [iv r.answer, iv r.cooling, iv r.settle, iv r.reverse, iv c.number, iv c.src, iv c.dst, iv c.holder, iv c.asked, .bool c.backed, .map a, .map b, v]
structure BP where
  r : Rul
  c : Clm
  k : Nat
  V : Nat → Int
  s : Int
  t : Int
  e : Evt
def BP.H (p : BP) : Heap := [some (.arr false 1 13 95 fun _ => machA 1 2 p.r p.c (.sl 3 0 p.k)), some (.tbl false duesE), some (.tbl false effectsE), some (.arr false p.k 1 3 fun i => [iv (p.V i)])]
def sBegins : FSpec BP := { J := fun _ => True, A := fun p => [.ptr 0 0 0, iv p.s, iv p.t], H := BP.H, R := fun p => .agg (begins p.r p.s p.t).cells, O := fun _ => [] }
def sAfter : FSpec BP := { J := fun _ => True, A := fun p => [.ptr 0 0 0, iv p.s, .agg p.e.cells], H := BP.H, R := fun p => .tup [iv (afterN p.c p.s p.e), .bool (afterB p.c p.s p.e)], O := fun _ => [] }

def intSV : SV → Int
  | .int _ a => a
  | _ => 0
def intOf : List SV → Int
  | [.int _ a] => a
  | _ => 0
def arrOf (h : Heap) (l : Nat) : Option (Nat × (Nat → List SV)) := match hget h l with | some (.arr _ n _ _ g) => some (n, g) | _ => none
/-- The machine at a label: rules, claim, and where its parts are. -/
def machAt (h : Heap) (l : Nat) : Option (Rul × Clm × Nat × (Nat → Int) × List (Option Nat)) := match arrOf h l with
  | some (_, g) => match g 0 with
    | [.int _ a, .int _ b, .int _ c, .int _ d, .int _ e, .int _ f, .int _ g, .int _ h', .int _ i, .bool j, .map x, .map y, v] => match v with
      | .nils => some (⟨a, b, c, d⟩, ⟨e, f, g, h', i, j⟩, 0, fun _ => 0, [some l, some x, some y, none])
      | .osl z k => match arrOf h z with
        | some (_, V) => some (⟨a, b, c, d⟩, ⟨e, f, g, h', i, j⟩, k, fun i => intOf (V i), [some l, some x, some y, some z])
        | none => none
      | _ => none
    | _ => none
  | none => none
def exBegins (args : List SV) (h : Heap) : Option (BP × List (Option Nat)) := match args with
  | [.ptr l _ _, .int _ s, .int _ t] => match machAt h l with
    | some (r, c, k, V, src) => some (⟨r, c, k, V, s, t, ⟨0, 0, 0⟩⟩, src)
    | none => none
  | _ => none
def exAfter (args : List SV) (h : Heap) : Option (BP × List (Option Nat)) := match args with
  | [.ptr l _ _, .int _ s, .agg e] => match machAt h l with
    | some (r, c, k, V, src) => some (⟨r, c, k, V, s, 0, Evt.of e⟩, src)
    | none => none
  | _ => none
end Go.Proofs.Ytmcidfecepknpaa

namespace Go.Proofs.Ytmcidfecepknpaa
open Go Go.Sh Go.Proofs
set_option linter.unusedVariables false
set_option linter.unusedSimpArgs false
def begins_T (p : BP) : Prop :=
  ((((p.5 == (1 : Int)) = true → (p.5 == (2 : Int)) = true → False) ∧ ((p.5 == (1 : Int)) = true → (p.5 == (3 : Int)) = true → False) ∧ ((p.5 == (1 : Int)) = true → (p.5 == (4 : Int)) = true → False) ∧ True) ∧ (((p.5 == (2 : Int)) = true → (p.5 == (3 : Int)) = true → False) ∧ ((p.5 == (2 : Int)) = true → (p.5 == (4 : Int)) = true → False) ∧ True) ∧ (((p.5 == (3 : Int)) = true → (p.5 == (4 : Int)) = true → False) ∧ True) ∧ True ∧ True) ∧ ifB (p.5 == (1 : Int)) ((p.5 = p.5 ∧ p.6 = p.6 ∧ nextOf p.1 p.5 p.6 = IntKind.i64.wrap (p.6 + p.1.1) ∧ True) ∧ True) (ifB (p.5 == (2 : Int)) ((p.5 = p.5 ∧ p.6 = p.6 ∧ nextOf p.1 p.5 p.6 = IntKind.i64.wrap (p.6 + p.1.3) ∧ True) ∧ True) (ifB (p.5 == (3 : Int)) ((p.5 = p.5 ∧ p.6 = p.6 ∧ nextOf p.1 p.5 p.6 = IntKind.i64.wrap (p.6 + p.1.2) ∧ True) ∧ True) (ifB (p.5 == (4 : Int)) ((p.5 = p.5 ∧ p.6 = p.6 ∧ nextOf p.1 p.5 p.6 = IntKind.i64.wrap (p.6 + p.1.4) ∧ True) ∧ True) ((p.5 = p.5 ∧ p.6 = p.6 ∧ nextOf p.1 p.5 p.6 = (-1 : Int) ∧ True) ∧ True))))
theorem begins_eq (p : BP) : callBy X2 (exec X2 60) 61 (sBegins.A p) (sBegins.H p) (RetC (sBegins.H p).length (sBegins.R p) (sBegins.O p)) = begins_T p := by kernel_rfl
def after_T (p : BP) : Prop :=
  ((((p.7.1 == (1 : Int) && (p.5 == (1 : Int) && true)) = true → (p.7.1 == (2 : Int) && (p.5 == (1 : Int) && true)) = true → False) ∧ ((p.7.1 == (1 : Int) && (p.5 == (1 : Int) && true)) = true → (p.7.1 == (3 : Int) && (p.5 == (2 : Int) && true)) = true → False) ∧ ((p.7.1 == (1 : Int) && (p.5 == (1 : Int) && true)) = true → (p.7.1 == (4 : Int) && (p.5 == (2 : Int) && true)) = true → False) ∧ ((p.7.1 == (1 : Int) && (p.5 == (1 : Int) && true)) = true → (p.7.1 == (5 : Int) && (p.5 == (1 : Int) && true)) = true → False) ∧ ((p.7.1 == (1 : Int) && (p.5 == (1 : Int) && true)) = true → (p.7.1 == (5 : Int) && (p.5 == (2 : Int) && true)) = true → False) ∧ ((p.7.1 == (1 : Int) && (p.5 == (1 : Int) && true)) = true → (p.7.1 == (5 : Int) && (p.5 == (3 : Int) && true)) = true → False) ∧ ((p.7.1 == (1 : Int) && (p.5 == (1 : Int) && true)) = true → (p.7.1 == (6 : Int) && (p.5 == (4 : Int) && true)) = true → False) ∧ True) ∧ (((p.7.1 == (2 : Int) && (p.5 == (1 : Int) && true)) = true → (p.7.1 == (3 : Int) && (p.5 == (2 : Int) && true)) = true → False) ∧ ((p.7.1 == (2 : Int) && (p.5 == (1 : Int) && true)) = true → (p.7.1 == (4 : Int) && (p.5 == (2 : Int) && true)) = true → False) ∧ ((p.7.1 == (2 : Int) && (p.5 == (1 : Int) && true)) = true → (p.7.1 == (5 : Int) && (p.5 == (1 : Int) && true)) = true → False) ∧ ((p.7.1 == (2 : Int) && (p.5 == (1 : Int) && true)) = true → (p.7.1 == (5 : Int) && (p.5 == (2 : Int) && true)) = true → False) ∧ ((p.7.1 == (2 : Int) && (p.5 == (1 : Int) && true)) = true → (p.7.1 == (5 : Int) && (p.5 == (3 : Int) && true)) = true → False) ∧ ((p.7.1 == (2 : Int) && (p.5 == (1 : Int) && true)) = true → (p.7.1 == (6 : Int) && (p.5 == (4 : Int) && true)) = true → False) ∧ True) ∧ (((p.7.1 == (3 : Int) && (p.5 == (2 : Int) && true)) = true → (p.7.1 == (4 : Int) && (p.5 == (2 : Int) && true)) = true → False) ∧ ((p.7.1 == (3 : Int) && (p.5 == (2 : Int) && true)) = true → (p.7.1 == (5 : Int) && (p.5 == (1 : Int) && true)) = true → False) ∧ ((p.7.1 == (3 : Int) && (p.5 == (2 : Int) && true)) = true → (p.7.1 == (5 : Int) && (p.5 == (2 : Int) && true)) = true → False) ∧ ((p.7.1 == (3 : Int) && (p.5 == (2 : Int) && true)) = true → (p.7.1 == (5 : Int) && (p.5 == (3 : Int) && true)) = true → False) ∧ ((p.7.1 == (3 : Int) && (p.5 == (2 : Int) && true)) = true → (p.7.1 == (6 : Int) && (p.5 == (4 : Int) && true)) = true → False) ∧ True) ∧ (((p.7.1 == (4 : Int) && (p.5 == (2 : Int) && true)) = true → (p.7.1 == (5 : Int) && (p.5 == (1 : Int) && true)) = true → False) ∧ ((p.7.1 == (4 : Int) && (p.5 == (2 : Int) && true)) = true → (p.7.1 == (5 : Int) && (p.5 == (2 : Int) && true)) = true → False) ∧ ((p.7.1 == (4 : Int) && (p.5 == (2 : Int) && true)) = true → (p.7.1 == (5 : Int) && (p.5 == (3 : Int) && true)) = true → False) ∧ ((p.7.1 == (4 : Int) && (p.5 == (2 : Int) && true)) = true → (p.7.1 == (6 : Int) && (p.5 == (4 : Int) && true)) = true → False) ∧ True) ∧ (((p.7.1 == (5 : Int) && (p.5 == (1 : Int) && true)) = true → (p.7.1 == (5 : Int) && (p.5 == (2 : Int) && true)) = true → False) ∧ ((p.7.1 == (5 : Int) && (p.5 == (1 : Int) && true)) = true → (p.7.1 == (5 : Int) && (p.5 == (3 : Int) && true)) = true → False) ∧ ((p.7.1 == (5 : Int) && (p.5 == (1 : Int) && true)) = true → (p.7.1 == (6 : Int) && (p.5 == (4 : Int) && true)) = true → False) ∧ True) ∧ (((p.7.1 == (5 : Int) && (p.5 == (2 : Int) && true)) = true → (p.7.1 == (5 : Int) && (p.5 == (3 : Int) && true)) = true → False) ∧ ((p.7.1 == (5 : Int) && (p.5 == (2 : Int) && true)) = true → (p.7.1 == (6 : Int) && (p.5 == (4 : Int) && true)) = true → False) ∧ True) ∧ (((p.7.1 == (5 : Int) && (p.5 == (3 : Int) && true)) = true → (p.7.1 == (6 : Int) && (p.5 == (4 : Int) && true)) = true → False) ∧ True) ∧ True ∧ True) ∧ ifB (p.7.1 == (1 : Int) && (p.5 == (1 : Int) && true)) (ifB (p.7.3 == (1 : Int)) (ifB (p.7.1 == (2 : Int)) ((afterN p.2 p.5 p.7 = (6 : Int) ∧ afterB p.2 p.5 p.7 = !p.2.6 ∧ True) ∧ True) ((afterN p.2 p.5 p.7 = (3 : Int) ∧ afterB p.2 p.5 p.7 = !p.2.6 ∧ True) ∧ True)) ((afterN p.2 p.5 p.7 = (3 : Int) ∧ afterB p.2 p.5 p.7 = true ∧ True) ∧ True)) (ifB (p.7.1 == (2 : Int) && (p.5 == (1 : Int) && true)) (ifB (p.7.3 == (1 : Int)) (ifB (p.7.1 == (2 : Int)) ((afterN p.2 p.5 p.7 = (6 : Int) ∧ afterB p.2 p.5 p.7 = !p.2.6 ∧ True) ∧ True) ((afterN p.2 p.5 p.7 = (2 : Int) ∧ afterB p.2 p.5 p.7 = !p.2.6 ∧ True) ∧ True)) ((afterN p.2 p.5 p.7 = (2 : Int) ∧ afterB p.2 p.5 p.7 = true ∧ True) ∧ True)) (ifB (p.7.1 == (3 : Int) && (p.5 == (2 : Int) && true)) (ifB (p.7.3 == (1 : Int)) (ifB (p.7.1 == (2 : Int)) ((afterN p.2 p.5 p.7 = (6 : Int) ∧ afterB p.2 p.5 p.7 = !p.2.6 ∧ True) ∧ True) ((afterN p.2 p.5 p.7 = (3 : Int) ∧ afterB p.2 p.5 p.7 = !p.2.6 ∧ True) ∧ True)) ((afterN p.2 p.5 p.7 = (3 : Int) ∧ afterB p.2 p.5 p.7 = true ∧ True) ∧ True)) (ifB (p.7.1 == (4 : Int) && (p.5 == (2 : Int) && true)) (ifB (p.7.3 == (1 : Int)) (ifB (p.7.1 == (2 : Int)) ((afterN p.2 p.5 p.7 = (6 : Int) ∧ afterB p.2 p.5 p.7 = !p.2.6 ∧ True) ∧ True) ((afterN p.2 p.5 p.7 = (6 : Int) ∧ afterB p.2 p.5 p.7 = !p.2.6 ∧ True) ∧ True)) ((afterN p.2 p.5 p.7 = (6 : Int) ∧ afterB p.2 p.5 p.7 = true ∧ True) ∧ True)) (ifB (p.7.1 == (5 : Int) && (p.5 == (1 : Int) && true)) (ifB (p.7.3 == (1 : Int)) (ifB (p.7.1 == (2 : Int)) ((afterN p.2 p.5 p.7 = (6 : Int) ∧ afterB p.2 p.5 p.7 = !p.2.6 ∧ True) ∧ True) ((afterN p.2 p.5 p.7 = (7 : Int) ∧ afterB p.2 p.5 p.7 = !p.2.6 ∧ True) ∧ True)) ((afterN p.2 p.5 p.7 = (7 : Int) ∧ afterB p.2 p.5 p.7 = true ∧ True) ∧ True)) (ifB (p.7.1 == (5 : Int) && (p.5 == (2 : Int) && true)) (ifB (p.7.3 == (1 : Int)) (ifB (p.7.1 == (2 : Int)) ((afterN p.2 p.5 p.7 = (6 : Int) ∧ afterB p.2 p.5 p.7 = !p.2.6 ∧ True) ∧ True) ((afterN p.2 p.5 p.7 = (7 : Int) ∧ afterB p.2 p.5 p.7 = !p.2.6 ∧ True) ∧ True)) ((afterN p.2 p.5 p.7 = (7 : Int) ∧ afterB p.2 p.5 p.7 = true ∧ True) ∧ True)) (ifB (p.7.1 == (5 : Int) && (p.5 == (3 : Int) && true)) (ifB (p.7.3 == (1 : Int)) (ifB (p.7.1 == (2 : Int)) ((afterN p.2 p.5 p.7 = (6 : Int) ∧ afterB p.2 p.5 p.7 = !p.2.6 ∧ True) ∧ True) ((afterN p.2 p.5 p.7 = (7 : Int) ∧ afterB p.2 p.5 p.7 = !p.2.6 ∧ True) ∧ True)) ((afterN p.2 p.5 p.7 = (7 : Int) ∧ afterB p.2 p.5 p.7 = true ∧ True) ∧ True)) (ifB (p.7.1 == (6 : Int) && (p.5 == (4 : Int) && true)) (ifB (p.7.3 == (1 : Int)) (ifB (p.7.1 == (2 : Int)) ((afterN p.2 p.5 p.7 = (6 : Int) ∧ afterB p.2 p.5 p.7 = !p.2.6 ∧ True) ∧ True) ((afterN p.2 p.5 p.7 = (8 : Int) ∧ afterB p.2 p.5 p.7 = !p.2.6 ∧ True) ∧ True)) ((afterN p.2 p.5 p.7 = (8 : Int) ∧ afterB p.2 p.5 p.7 = true ∧ True) ∧ True)) (ifB (p.7.3 == (1 : Int)) (ifB (p.7.1 == (2 : Int)) ((afterN p.2 p.5 p.7 = (6 : Int) ∧ afterB p.2 p.5 p.7 = false ∧ True) ∧ True) ((afterN p.2 p.5 p.7 = (0 : Int) ∧ afterB p.2 p.5 p.7 = false ∧ True) ∧ True)) ((afterN p.2 p.5 p.7 = (0 : Int) ∧ afterB p.2 p.5 p.7 = false ∧ True) ∧ True)))))))))
theorem after_eq (p : BP) : callBy X2 (exec X2 60) 63 (sAfter.A p) (sAfter.H p) (RetC (sAfter.H p).length (sAfter.R p) (sAfter.O p)) = after_T p := by kernel_rfl

set_option maxHeartbeats 1000000 in
theorem begins_step (p : BP) : begins_T p := by
  unfold begins_T
  repeat' (first | refine ifB_split (fun _ => ?_) (fun _ => ?_) | refine And.intro ?_ ?_)
  all_goals first | rfl | exact trivial | (simp_all; done) | (simp_all [nextOf, w64]; done) | (simp_all; omega) | (simp_all [nextOf, w64]; omega)
theorem begins_ok : sBegins.OK X2.P 61 := .of_eq X2_ok 60 _ begins_eq (fun _ => rfl) (fun _ _ o h => by cases h) fun p _ => begins_step p

set_option maxHeartbeats 1000000 in
theorem after_step (p : BP) : after_T p := by
  unfold after_T
  repeat' (first | refine ifB_split (fun _ => ?_) (fun _ => ?_) | refine And.intro ?_ ?_)
  all_goals first | rfl | exact trivial | (simp_all; done) | (simp_all [afterN, afterB, effN]; done) | (simp_all; omega) | (simp_all [afterN, afterB, effN]; omega)
theorem after_ok : sAfter.OK X2.P 63 := .of_eq X2_ok 60 _ after_eq (fun _ => rfl) (fun _ _ o h => by cases h) fun p _ => after_step p

noncomputable def X2' : Ctx := (X2.with 61 (sBegins.by exBegins)).with 63 (sAfter.by exAfter)
theorem X2'_ok : X2'.OK := Ctx.with_ok (Ctx.with_ok X2_ok (begins_ok.by exBegins)) (after_ok.by exAfter)
end Go.Proofs.Ytmcidfecepknpaa

namespace Go.Proofs.Ytmcidfecepknpaa
open Go Go.Sh Go.Proofs
set_option linter.unusedVariables false

/-- The pieces of the first range over a function in some code. -/
def rangeIn : Code → Option (Code × Code)
  | .seq a b => match rangeIn a with | some c => some c | none => rangeIn b
  | .cond _ a b => match rangeIn a with | some c => some c | none => rangeIn b
  | .block _ a => rangeIn a
  | .loop a => rangeIn a
  | .rangeFunc _ _ a b => some (a, b)
  | _ => none
noncomputable def rangeOf (f : Nat) : Code × Code := match (Try.prog.funcs[f]?).bind (·.body) with
  | some c => match rangeIn c with | some b => b | none => (.skip, .skip)
  | none => (.skip, .skip)
noncomputable def asg14 : Code := (rangeOf 14).1
noncomputable def body14 : Code := (rangeOf 14).2

structure IP where
  r : Rul
  c : Clm
  E : Nat → Evt
  n : Nat
  t : Int
  u : Int
  k : Nat
  V : Nat → Int
  e : Evt
  a : Sta

def one (t : Nat) (cs : List SV) : Option SO := some (.arr true 1 cs.length t fun _ => cs)
def machO (r : Rul) (c : Clm) (v : SV) : Option SO := some (.arr true 1 13 95 fun _ => machA 7 8 r c v)
def staO (s : Sta) : Option SO := some (.arr true 1 3 39 fun _ => s.cells)
def voidO (k : Nat) (V : Nat → Int) : Option SO := some (.arr true k 1 3 fun i => [iv (V i)])

/-- The heap while Outcome's loop runs. -/
noncomputable def heapO (p : IP) (out : Sta) (st : LoopState) (pd : Option Code) (now : Option SO) (rest : List (Option SO)) : Heap :=
  [some (evO p.n p.E), none, none, some (.arr true 1 1 3 fun _ => [iv p.t]), some (.arr true 1 3 39 fun _ => [iv 0, iv 0, iv 0]), none, none, some (.tbl true duesE), some (.tbl true effectsE), machO p.r p.c (.osl 19 p.k), staO out,
   some (.arr true 1 1 85 fun _ => [.ptr 9 0 0]), none, some .defs, some (.loop st pd (lay 42 0 [(7, .ptr 3 0 0), (12, .ptr 10 0 0)]) [35] asg14 body14), some (.arr true 1 1 43 fun _ => [.fn (.yield 14) [] []]),
   none, none, now, voidO p.k p.V] ++ rest
def evtV (e : Evt) : List (Option SO) := [some (.arr false 1 3 0 fun _ => e.cells)]

def evtB (b : Bool) (e : Evt) : List (Option SO) := match b with | true => evtV e | false => []
def nI (b : Bool) : Nat := match b with | true => 21 | false => 20

def lI_J (p : IP) (now : Sta) : Prop := (∃ m, rank now.state ≤ m ∧ aloneT p.r p.t p.u 4 p.a = aloneT p.r p.t p.u m now) ∧ now.ok p.r
noncomputable def lI (b : Bool) : LSpec IP Sta Sta where
  code := loopOf Try.prog 62 1
  N := nI b
  I := fun p now => blank 31 [(0, iv p.u), (1, .ptr 18 0 0), (2, .ptr 11 0 0), (3, .ptr 15 0 0)] (heapO p now .ready none (staO now) (evtB b p.e))
  J := lI_J
  ways := 2
  E := fun w p q => match w with
    | 0 => (.exit 0, blank 31 [] (heapO p q .ready none (staO q) (evtB b p.e)))
    | _ => (.ret, blank 31 [(5, .bool false)] (heapO p q .done (some (.exit 0)) none (evtB b p.e)))
  JE := fun w p q => match w with
    | 0 => Leaf (aloneT p.r p.t p.u 4 p.a = (false, q) ∧ q.ok p.r)
    | _ => Leaf (aloneT p.r p.t p.u 4 p.a = (true, q))

noncomputable def zI (b : Bool) (p : IP) (now : Sta) : KX := fun x S' => match x with
  | .normal => Leaf (goesOn p.u now = true) ∧ Leaf (¬ p.t < (step1 p.r now).since) ∧ Wk (nI b) [] ((lI b).I p (step1 p.r now)) S'
  | .exit k => gateB (Nat.beq k 0) (Leaf (goesOn p.u now = false) ∧ Wk (nI b) [] ((lI b).E 0 p now).2 S')
  | .ret => Leaf (goesOn p.u now = true) ∧ Leaf (p.t < (step1 p.r now).since) ∧ Wk (nI b) [] ((lI b).E 1 p now).2 S'

def Evt.ofO (g : Nat → List SV) : Evt := Evt.of (g 0)
def Sta.ofC : List SV → Sta
  | [.int _ a, .int _ b, .int _ c] => ⟨a, b, c⟩
  | _ => ⟨0, 0, 0⟩
def machOf : List SV → Option (Rul × Clm)
  | [.int _ a, .int _ b, .int _ c, .int _ d, .int _ e, .int _ f, .int _ g, .int _ h, .int _ i, .bool j, _, _, _] => some (⟨a, b, c, d⟩, ⟨e, f, g, h, i, j⟩)
  | _ => none
/-- What the inner loop of Outcome starts with. -/
def exI (b : Bool) (S : SS) : Option (IP × Sta × Ren) := match arrOf S.heap 0, arrOf S.heap 3, arrOf S.heap 9, arrOf S.heap 18, arrOf S.heap 19 with
  | some (n, E), some (_, t), some (_, m), some (_, a), some (k, V) => match machOf (m 0) with
    | some (r, c) => some (⟨r, c, fun i => Evt.of (E i), n, intOf (t 0), intSV (S.get 0), k, fun i => intOf (V i), match b with | true => (match arrOf S.heap 20 with | some (_, e) => Evt.of (e 0) | none => ⟨0, 0, 0⟩) | false => ⟨0, 0, 0⟩, Sta.ofC (a 0)⟩, Sta.ofC (a 0), [])
    | none => none
  | _, _, _, _, _ => none
end Go.Proofs.Ytmcidfecepknpaa

namespace Go.Proofs.Ytmcidfecepknpaa
open Go Go.Sh Go.Proofs
set_option linter.unusedVariables false
set_option linter.unusedSimpArgs false
def innerT_t0 (p : IP) (now : Sta) : Prop :=
  True ∧ (4 : Nat) = (4 : Nat) ∧ (((0 : Nat) = (0 : Nat) ∧ (0 : Nat) = (0 : Nat)) ∧ (3 : Int) = (3 : Int) ∧ now.3 = now.3 ∧ True) ∧ ((1 : Nat) = (1 : Nat) ∧ ∀ (i : Nat), i < (1 : Nat) → p.1.1 = p.1.1 ∧ p.1.2 = p.1.2 ∧ p.1.3 = p.1.3 ∧ p.1.4 = p.1.4 ∧ p.2.1 = p.2.1 ∧ p.2.2 = p.2.2 ∧ p.2.3 = p.2.3 ∧ p.2.4 = p.2.4 ∧ p.2.5 = p.2.5 ∧ p.2.6 = p.2.6 ∧ True ∧ True ∧ ((0 : Nat) = (0 : Nat) ∧ p.7 = p.7) ∧ True) ∧ Leaf (duesE.Perm duesE) ∧ Leaf (effectsE.Perm effectsE) ∧ (p.7 = p.7 ∧ ∀ (i : Nat), i < p.7 → p.8 i = p.8 i ∧ True) ∧ True
theorem innerT_t0_t (p : IP) (now : Sta) : innerT_t0 p now :=
  ⟨trivial, ⟨rfl, ⟨⟨⟨rfl, rfl⟩, ⟨rfl, ⟨rfl, trivial⟩⟩⟩, ⟨⟨rfl, (fun _ => (fun _ => ⟨rfl, ⟨rfl, ⟨rfl, ⟨rfl, ⟨rfl, ⟨rfl, ⟨rfl, ⟨rfl, ⟨rfl, ⟨rfl, ⟨trivial, ⟨trivial, ⟨⟨rfl, rfl⟩, trivial⟩⟩⟩⟩⟩⟩⟩⟩⟩⟩⟩⟩⟩))⟩, ⟨(List.Perm.refl _), ⟨(List.Perm.refl _), ⟨⟨rfl, (fun _ => (fun _ => ⟨rfl, trivial⟩))⟩, trivial⟩⟩⟩⟩⟩⟩⟩
def innerT_t1 (p : IP) (now : Sta) : Prop :=
  (false = false ∧ True) ∧ (p.4 = p.4 ∧ ∀ (i : Nat), i < p.n → (p.3 i).1 = (p.3 i).1 ∧ (p.3 i).2 = (p.3 i).2 ∧ (p.3 i).3 = (p.3 i).3 ∧ True) ∧ ((1 : Nat) = (1 : Nat) ∧ ∀ (i : Nat), i < (1 : Nat) → p.5 = p.5 ∧ True) ∧ ((1 : Nat) = (1 : Nat) ∧ ∀ (i : Nat), i < (1 : Nat) → (0 : Int) = (0 : Int) ∧ (0 : Int) = (0 : Int) ∧ (0 : Int) = (0 : Int) ∧ True) ∧ Leaf (duesE.Perm duesE) ∧ Leaf (effectsE.Perm effectsE) ∧ ((1 : Nat) = (1 : Nat) ∧ ∀ (i : Nat), i < (1 : Nat) → p.1.1 = p.1.1 ∧ p.1.2 = p.1.2 ∧ p.1.3 = p.1.3 ∧ p.1.4 = p.1.4 ∧ p.2.1 = p.2.1 ∧ p.2.2 = p.2.2 ∧ p.2.3 = p.2.3 ∧ p.2.4 = p.2.4 ∧ p.2.5 = p.2.5 ∧ p.2.6 = p.2.6 ∧ True ∧ True ∧ p.7 = p.7 ∧ True) ∧ ((1 : Nat) = (1 : Nat) ∧ ∀ (i : Nat), i < (1 : Nat) → now.1 = now.1 ∧ now.2 = now.2 ∧ now.3 = now.3 ∧ True) ∧ ((1 : Nat) = (1 : Nat) ∧ ∀ (i : Nat), i < (1 : Nat) → ((0 : Nat) = (0 : Nat) ∧ (0 : Nat) = (0 : Nat)) ∧ True) ∧ True ∧ Code.exit (0 : Nat) = Code.exit (0 : Nat) ∧ ((1 : Nat) = (1 : Nat) ∧ ∀ (i : Nat), i < (1 : Nat) → (True ∧ True) ∧ True) ∧ (p.7 = p.7 ∧ ∀ (i : Nat), i < p.k → p.8 i = p.8 i ∧ True) ∧ ((1 : Nat) = (1 : Nat) ∧ ∀ (i : Nat), i < (1 : Nat) → p.9.1 = p.9.1 ∧ p.9.2 = p.9.2 ∧ p.9.3 = p.9.3 ∧ True) ∧ True
theorem innerT_t1_t (p : IP) (now : Sta) : innerT_t1 p now :=
  ⟨⟨rfl, trivial⟩, ⟨⟨rfl, (fun _ => (fun _ => ⟨rfl, ⟨rfl, ⟨rfl, trivial⟩⟩⟩))⟩, ⟨⟨rfl, (fun _ => (fun _ => ⟨rfl, trivial⟩))⟩, ⟨⟨rfl, (fun _ => (fun _ => ⟨rfl, ⟨rfl, ⟨rfl, trivial⟩⟩⟩))⟩, ⟨(List.Perm.refl _), ⟨(List.Perm.refl _), ⟨⟨rfl, (fun _ => (fun _ => ⟨rfl, ⟨rfl, ⟨rfl, ⟨rfl, ⟨rfl, ⟨rfl, ⟨rfl, ⟨rfl, ⟨rfl, ⟨rfl, ⟨trivial, ⟨trivial, ⟨rfl, trivial⟩⟩⟩⟩⟩⟩⟩⟩⟩⟩⟩⟩⟩))⟩, ⟨⟨rfl, (fun _ => (fun _ => ⟨rfl, ⟨rfl, ⟨rfl, trivial⟩⟩⟩))⟩, ⟨⟨rfl, (fun _ => (fun _ => ⟨⟨rfl, rfl⟩, trivial⟩))⟩, ⟨trivial, ⟨rfl, ⟨⟨rfl, (fun _ => (fun _ => ⟨⟨trivial, trivial⟩, trivial⟩))⟩, ⟨⟨rfl, (fun _ => (fun _ => ⟨rfl, trivial⟩))⟩, ⟨⟨rfl, (fun _ => (fun _ => ⟨rfl, ⟨rfl, ⟨rfl, trivial⟩⟩⟩))⟩, trivial⟩⟩⟩⟩⟩⟩⟩⟩⟩⟩⟩⟩⟩⟩
def innerT_t2 (p : IP) : Prop :=
  p.6 = p.6 ∧ ((0 : Nat) = (0 : Nat) ∧ (0 : Nat) = (0 : Nat)) ∧ ((0 : Nat) = (0 : Nat) ∧ (0 : Nat) = (0 : Nat)) ∧ ((0 : Nat) = (0 : Nat) ∧ (0 : Nat) = (0 : Nat)) ∧ True
theorem innerT_t2_t (p : IP) : innerT_t2 p :=
  ⟨rfl, ⟨⟨rfl, rfl⟩, ⟨⟨rfl, rfl⟩, ⟨⟨rfl, rfl⟩, trivial⟩⟩⟩⟩
def innerT_t3 (p : IP) : Prop :=
  p.4 = p.4 ∧ ∀ (i : Nat), i < p.n → (p.3 i).1 = (p.3 i).1 ∧ (p.3 i).2 = (p.3 i).2 ∧ (p.3 i).3 = (p.3 i).3 ∧ True
theorem innerT_t3_t (p : IP) : innerT_t3 p :=
  ⟨rfl, (fun _ => (fun _ => ⟨rfl, ⟨rfl, ⟨rfl, trivial⟩⟩⟩))⟩
def innerT_t4 (p : IP) : Prop :=
  (1 : Nat) = (1 : Nat) ∧ ∀ (i : Nat), i < (1 : Nat) → p.5 = p.5 ∧ True
theorem innerT_t4_t (p : IP) : innerT_t4 p :=
  ⟨rfl, (fun _ => (fun _ => ⟨rfl, trivial⟩))⟩
def innerT_t5 : Prop :=
  (1 : Nat) = (1 : Nat) ∧ ∀ (i : Nat), i < (1 : Nat) → (0 : Int) = (0 : Int) ∧ (0 : Int) = (0 : Int) ∧ (0 : Int) = (0 : Int) ∧ True
theorem innerT_t5_t : innerT_t5 :=
  ⟨rfl, (fun _ => (fun _ => ⟨rfl, ⟨rfl, ⟨rfl, trivial⟩⟩⟩))⟩
def innerT_t6 (p : IP) : Prop :=
  (1 : Nat) = (1 : Nat) ∧ ∀ (i : Nat), i < (1 : Nat) → p.1.1 = p.1.1 ∧ p.1.2 = p.1.2 ∧ p.1.3 = p.1.3 ∧ p.1.4 = p.1.4 ∧ p.2.1 = p.2.1 ∧ p.2.2 = p.2.2 ∧ p.2.3 = p.2.3 ∧ p.2.4 = p.2.4 ∧ p.2.5 = p.2.5 ∧ p.2.6 = p.2.6 ∧ True ∧ True ∧ p.7 = p.7 ∧ True
theorem innerT_t6_t (p : IP) : innerT_t6 p :=
  ⟨rfl, (fun _ => (fun _ => ⟨rfl, ⟨rfl, ⟨rfl, ⟨rfl, ⟨rfl, ⟨rfl, ⟨rfl, ⟨rfl, ⟨rfl, ⟨rfl, ⟨trivial, ⟨trivial, ⟨rfl, trivial⟩⟩⟩⟩⟩⟩⟩⟩⟩⟩⟩⟩⟩))⟩
def innerT_t7 : Prop :=
  (1 : Nat) = (1 : Nat) ∧ ∀ (i : Nat), i < (1 : Nat) → ((0 : Nat) = (0 : Nat) ∧ (0 : Nat) = (0 : Nat)) ∧ True
theorem innerT_t7_t : innerT_t7 :=
  ⟨rfl, (fun _ => (fun _ => ⟨⟨rfl, rfl⟩, trivial⟩))⟩
def innerT_t8 : Prop :=
  (1 : Nat) = (1 : Nat) ∧ ∀ (i : Nat), i < (1 : Nat) → (True ∧ True) ∧ True
theorem innerT_t8_t : innerT_t8 :=
  ⟨rfl, (fun _ => (fun _ => ⟨⟨trivial, trivial⟩, trivial⟩))⟩
def innerT_t9 (p : IP) : Prop :=
  (p.7 = p.7 ∧ ∀ (i : Nat), i < p.k → p.8 i = p.8 i ∧ True) ∧ ((1 : Nat) = (1 : Nat) ∧ ∀ (i : Nat), i < (1 : Nat) → p.9.1 = p.9.1 ∧ p.9.2 = p.9.2 ∧ p.9.3 = p.9.3 ∧ True) ∧ True
theorem innerT_t9_t (p : IP) : innerT_t9 p :=
  ⟨⟨rfl, (fun _ => (fun _ => ⟨rfl, trivial⟩))⟩, ⟨⟨rfl, (fun _ => (fun _ => ⟨rfl, ⟨rfl, ⟨rfl, trivial⟩⟩⟩))⟩, trivial⟩⟩
def innerT_t10 (p : IP) (now : Sta) : Prop :=
  True ∧ (4 : Nat) = (4 : Nat) ∧ (((0 : Nat) = (0 : Nat) ∧ (0 : Nat) = (0 : Nat)) ∧ (4 : Int) = (4 : Int) ∧ now.3 = now.3 ∧ True) ∧ ((1 : Nat) = (1 : Nat) ∧ ∀ (i : Nat), i < (1 : Nat) → p.1.1 = p.1.1 ∧ p.1.2 = p.1.2 ∧ p.1.3 = p.1.3 ∧ p.1.4 = p.1.4 ∧ p.2.1 = p.2.1 ∧ p.2.2 = p.2.2 ∧ p.2.3 = p.2.3 ∧ p.2.4 = p.2.4 ∧ p.2.5 = p.2.5 ∧ p.2.6 = p.2.6 ∧ True ∧ True ∧ ((0 : Nat) = (0 : Nat) ∧ p.7 = p.7) ∧ True) ∧ Leaf (duesE.Perm duesE) ∧ Leaf (effectsE.Perm effectsE) ∧ (p.7 = p.7 ∧ ∀ (i : Nat), i < p.7 → p.8 i = p.8 i ∧ True) ∧ True
theorem innerT_t10_t (p : IP) (now : Sta) : innerT_t10 p now :=
  ⟨trivial, ⟨rfl, ⟨⟨⟨rfl, rfl⟩, ⟨rfl, ⟨rfl, trivial⟩⟩⟩, ⟨⟨rfl, (fun _ => (fun _ => ⟨rfl, ⟨rfl, ⟨rfl, ⟨rfl, ⟨rfl, ⟨rfl, ⟨rfl, ⟨rfl, ⟨rfl, ⟨rfl, ⟨trivial, ⟨trivial, ⟨⟨rfl, rfl⟩, trivial⟩⟩⟩⟩⟩⟩⟩⟩⟩⟩⟩⟩⟩))⟩, ⟨(List.Perm.refl _), ⟨(List.Perm.refl _), ⟨⟨rfl, (fun _ => (fun _ => ⟨rfl, trivial⟩))⟩, trivial⟩⟩⟩⟩⟩⟩⟩
def innerT_t11 (p : IP) (now : Sta) : Prop :=
  True ∧ (4 : Nat) = (4 : Nat) ∧ (((0 : Nat) = (0 : Nat) ∧ (0 : Nat) = (0 : Nat)) ∧ (5 : Int) = (5 : Int) ∧ now.3 = now.3 ∧ True) ∧ ((1 : Nat) = (1 : Nat) ∧ ∀ (i : Nat), i < (1 : Nat) → p.1.1 = p.1.1 ∧ p.1.2 = p.1.2 ∧ p.1.3 = p.1.3 ∧ p.1.4 = p.1.4 ∧ p.2.1 = p.2.1 ∧ p.2.2 = p.2.2 ∧ p.2.3 = p.2.3 ∧ p.2.4 = p.2.4 ∧ p.2.5 = p.2.5 ∧ p.2.6 = p.2.6 ∧ True ∧ True ∧ ((0 : Nat) = (0 : Nat) ∧ p.7 = p.7) ∧ True) ∧ Leaf (duesE.Perm duesE) ∧ Leaf (effectsE.Perm effectsE) ∧ (p.7 = p.7 ∧ ∀ (i : Nat), i < p.7 → p.8 i = p.8 i ∧ True) ∧ True
theorem innerT_t11_t (p : IP) (now : Sta) : innerT_t11 p now :=
  ⟨trivial, ⟨rfl, ⟨⟨⟨rfl, rfl⟩, ⟨rfl, ⟨rfl, trivial⟩⟩⟩, ⟨⟨rfl, (fun _ => (fun _ => ⟨rfl, ⟨rfl, ⟨rfl, ⟨rfl, ⟨rfl, ⟨rfl, ⟨rfl, ⟨rfl, ⟨rfl, ⟨rfl, ⟨trivial, ⟨trivial, ⟨⟨rfl, rfl⟩, trivial⟩⟩⟩⟩⟩⟩⟩⟩⟩⟩⟩⟩⟩))⟩, ⟨(List.Perm.refl _), ⟨(List.Perm.refl _), ⟨⟨rfl, (fun _ => (fun _ => ⟨rfl, trivial⟩))⟩, trivial⟩⟩⟩⟩⟩⟩⟩
def innerT_t12 (p : IP) (now : Sta) : Prop :=
  True ∧ (4 : Nat) = (4 : Nat) ∧ (((0 : Nat) = (0 : Nat) ∧ (0 : Nat) = (0 : Nat)) ∧ (0 : Int) = (0 : Int) ∧ now.3 = now.3 ∧ True) ∧ ((1 : Nat) = (1 : Nat) ∧ ∀ (i : Nat), i < (1 : Nat) → p.1.1 = p.1.1 ∧ p.1.2 = p.1.2 ∧ p.1.3 = p.1.3 ∧ p.1.4 = p.1.4 ∧ p.2.1 = p.2.1 ∧ p.2.2 = p.2.2 ∧ p.2.3 = p.2.3 ∧ p.2.4 = p.2.4 ∧ p.2.5 = p.2.5 ∧ p.2.6 = p.2.6 ∧ True ∧ True ∧ ((0 : Nat) = (0 : Nat) ∧ p.7 = p.7) ∧ True) ∧ Leaf (duesE.Perm duesE) ∧ Leaf (effectsE.Perm effectsE) ∧ (p.7 = p.7 ∧ ∀ (i : Nat), i < p.7 → p.8 i = p.8 i ∧ True) ∧ True
theorem innerT_t12_t (p : IP) (now : Sta) : innerT_t12 p now :=
  ⟨trivial, ⟨rfl, ⟨⟨⟨rfl, rfl⟩, ⟨rfl, ⟨rfl, trivial⟩⟩⟩, ⟨⟨rfl, (fun _ => (fun _ => ⟨rfl, ⟨rfl, ⟨rfl, ⟨rfl, ⟨rfl, ⟨rfl, ⟨rfl, ⟨rfl, ⟨rfl, ⟨rfl, ⟨trivial, ⟨trivial, ⟨⟨rfl, rfl⟩, trivial⟩⟩⟩⟩⟩⟩⟩⟩⟩⟩⟩⟩⟩))⟩, ⟨(List.Perm.refl _), ⟨(List.Perm.refl _), ⟨⟨rfl, (fun _ => (fun _ => ⟨rfl, trivial⟩))⟩, trivial⟩⟩⟩⟩⟩⟩⟩
def innerT_t13 (p : IP) (now : Sta) : Prop :=
  True ∧ (p.4 = p.4 ∧ ∀ (i : Nat), i < p.n → (p.3 i).1 = (p.3 i).1 ∧ (p.3 i).2 = (p.3 i).2 ∧ (p.3 i).3 = (p.3 i).3 ∧ True) ∧ ((1 : Nat) = (1 : Nat) ∧ ∀ (i : Nat), i < (1 : Nat) → p.5 = p.5 ∧ True) ∧ ((1 : Nat) = (1 : Nat) ∧ ∀ (i : Nat), i < (1 : Nat) → (0 : Int) = (0 : Int) ∧ (0 : Int) = (0 : Int) ∧ (0 : Int) = (0 : Int) ∧ True) ∧ Leaf (duesE.Perm duesE) ∧ Leaf (effectsE.Perm effectsE) ∧ ((1 : Nat) = (1 : Nat) ∧ ∀ (i : Nat), i < (1 : Nat) → p.1.1 = p.1.1 ∧ p.1.2 = p.1.2 ∧ p.1.3 = p.1.3 ∧ p.1.4 = p.1.4 ∧ p.2.1 = p.2.1 ∧ p.2.2 = p.2.2 ∧ p.2.3 = p.2.3 ∧ p.2.4 = p.2.4 ∧ p.2.5 = p.2.5 ∧ p.2.6 = p.2.6 ∧ True ∧ True ∧ p.7 = p.7 ∧ True) ∧ ((1 : Nat) = (1 : Nat) ∧ ∀ (i : Nat), i < (1 : Nat) → now.1 = now.1 ∧ now.2 = now.2 ∧ now.3 = now.3 ∧ True) ∧ ((1 : Nat) = (1 : Nat) ∧ ∀ (i : Nat), i < (1 : Nat) → ((0 : Nat) = (0 : Nat) ∧ (0 : Nat) = (0 : Nat)) ∧ True) ∧ True ∧ True ∧ ((1 : Nat) = (1 : Nat) ∧ ∀ (i : Nat), i < (1 : Nat) → (True ∧ True) ∧ True) ∧ ((1 : Nat) = (1 : Nat) ∧ ∀ (i : Nat), i < (1 : Nat) → now.1 = now.1 ∧ now.2 = now.2 ∧ now.3 = now.3 ∧ True) ∧ (p.7 = p.7 ∧ ∀ (i : Nat), i < p.k → p.8 i = p.8 i ∧ True) ∧ ((1 : Nat) = (1 : Nat) ∧ ∀ (i : Nat), i < (1 : Nat) → p.9.1 = p.9.1 ∧ p.9.2 = p.9.2 ∧ p.9.3 = p.9.3 ∧ True) ∧ True
theorem innerT_t13_t (p : IP) (now : Sta) : innerT_t13 p now :=
  ⟨trivial, ⟨⟨rfl, (fun _ => (fun _ => ⟨rfl, ⟨rfl, ⟨rfl, trivial⟩⟩⟩))⟩, ⟨⟨rfl, (fun _ => (fun _ => ⟨rfl, trivial⟩))⟩, ⟨⟨rfl, (fun _ => (fun _ => ⟨rfl, ⟨rfl, ⟨rfl, trivial⟩⟩⟩))⟩, ⟨(List.Perm.refl _), ⟨(List.Perm.refl _), ⟨⟨rfl, (fun _ => (fun _ => ⟨rfl, ⟨rfl, ⟨rfl, ⟨rfl, ⟨rfl, ⟨rfl, ⟨rfl, ⟨rfl, ⟨rfl, ⟨rfl, ⟨trivial, ⟨trivial, ⟨rfl, trivial⟩⟩⟩⟩⟩⟩⟩⟩⟩⟩⟩⟩⟩))⟩, ⟨⟨rfl, (fun _ => (fun _ => ⟨rfl, ⟨rfl, ⟨rfl, trivial⟩⟩⟩))⟩, ⟨⟨rfl, (fun _ => (fun _ => ⟨⟨rfl, rfl⟩, trivial⟩))⟩, ⟨trivial, ⟨trivial, ⟨⟨rfl, (fun _ => (fun _ => ⟨⟨trivial, trivial⟩, trivial⟩))⟩, ⟨⟨rfl, (fun _ => (fun _ => ⟨rfl, ⟨rfl, ⟨rfl, trivial⟩⟩⟩))⟩, ⟨⟨rfl, (fun _ => (fun _ => ⟨rfl, trivial⟩))⟩, ⟨⟨rfl, (fun _ => (fun _ => ⟨rfl, ⟨rfl, ⟨rfl, trivial⟩⟩⟩))⟩, trivial⟩⟩⟩⟩⟩⟩⟩⟩⟩⟩⟩⟩⟩⟩⟩
def innerT_T (p : IP) (now : Sta) : Prop :=
  ifB (decide (now.3 ≥ (0 : Int)) == true) (ifB (decide (now.3 ≤ p.6)) (((((now.1 == (1 : Int)) = true → (now.1 == (2 : Int)) = true → False) ∧ ((now.1 == (1 : Int)) = true → (now.1 == (3 : Int)) = true → False) ∧ ((now.1 == (1 : Int)) = true → (now.1 == (4 : Int)) = true → False) ∧ True) ∧ (((now.1 == (2 : Int)) = true → (now.1 == (3 : Int)) = true → False) ∧ ((now.1 == (2 : Int)) = true → (now.1 == (4 : Int)) = true → False) ∧ True) ∧ (((now.1 == (3 : Int)) = true → (now.1 == (4 : Int)) = true → False) ∧ True) ∧ True ∧ True) ∧ ifB (now.1 == (1 : Int)) (innerT_t0 p now ∧ ifB (decide (now.3 > p.5)) (Leaf (goesOn p.u now = true) ∧ Leaf (p.t < (step1 p.r now).since) ∧ innerT_t1 p now) (Leaf (goesOn p.u now = true) ∧ Leaf ¬p.t < (step1 p.r now).since ∧ innerT_t2 p ∧ innerT_t3 p ∧ innerT_t4 p ∧ innerT_t5 ∧ Leaf (duesE.Perm duesE) ∧ Leaf (effectsE.Perm effectsE) ∧ innerT_t6 p ∧ ((1 : Nat) = (1 : Nat) ∧ ∀ (i : Nat), i < (1 : Nat) → Ytmcidfecepknpaa.follow now.1 = (3 : Int) ∧ now.3 = now.3 ∧ nextOf p.1 (Ytmcidfecepknpaa.follow now.1) now.3 = w64 (now.3 + p.1.2) ∧ True) ∧ innerT_t7 ∧ True ∧ True ∧ innerT_t8 ∧ ((1 : Nat) = (1 : Nat) ∧ ∀ (i : Nat), i < (1 : Nat) → Ytmcidfecepknpaa.follow now.1 = (3 : Int) ∧ now.3 = now.3 ∧ nextOf p.1 (Ytmcidfecepknpaa.follow now.1) now.3 = w64 (now.3 + p.1.2) ∧ True) ∧ innerT_t9 p)) (ifB (now.1 == (2 : Int)) (innerT_t0 p now ∧ ifB (decide (now.3 > p.5)) (Leaf (goesOn p.u now = true) ∧ Leaf (p.t < (step1 p.r now).since) ∧ innerT_t1 p now) (Leaf (goesOn p.u now = true) ∧ Leaf ¬p.t < (step1 p.r now).since ∧ innerT_t2 p ∧ innerT_t3 p ∧ innerT_t4 p ∧ innerT_t5 ∧ Leaf (duesE.Perm duesE) ∧ Leaf (effectsE.Perm effectsE) ∧ innerT_t6 p ∧ ((1 : Nat) = (1 : Nat) ∧ ∀ (i : Nat), i < (1 : Nat) → Ytmcidfecepknpaa.follow now.1 = (3 : Int) ∧ now.3 = now.3 ∧ nextOf p.1 (Ytmcidfecepknpaa.follow now.1) now.3 = w64 (now.3 + p.1.2) ∧ True) ∧ innerT_t7 ∧ True ∧ True ∧ innerT_t8 ∧ ((1 : Nat) = (1 : Nat) ∧ ∀ (i : Nat), i < (1 : Nat) → Ytmcidfecepknpaa.follow now.1 = (3 : Int) ∧ now.3 = now.3 ∧ nextOf p.1 (Ytmcidfecepknpaa.follow now.1) now.3 = w64 (now.3 + p.1.2) ∧ True) ∧ innerT_t9 p)) (ifB (now.1 == (3 : Int)) (innerT_t10 p now ∧ ifB (decide (now.3 > p.5)) (Leaf (goesOn p.u now = true) ∧ Leaf (p.t < (step1 p.r now).since) ∧ innerT_t1 p now) (Leaf (goesOn p.u now = true) ∧ Leaf ¬p.t < (step1 p.r now).since ∧ innerT_t2 p ∧ innerT_t3 p ∧ innerT_t4 p ∧ innerT_t5 ∧ Leaf (duesE.Perm duesE) ∧ Leaf (effectsE.Perm effectsE) ∧ innerT_t6 p ∧ ((1 : Nat) = (1 : Nat) ∧ ∀ (i : Nat), i < (1 : Nat) → Ytmcidfecepknpaa.follow now.1 = (4 : Int) ∧ now.3 = now.3 ∧ nextOf p.1 (Ytmcidfecepknpaa.follow now.1) now.3 = w64 (now.3 + p.1.4) ∧ True) ∧ innerT_t7 ∧ True ∧ True ∧ innerT_t8 ∧ ((1 : Nat) = (1 : Nat) ∧ ∀ (i : Nat), i < (1 : Nat) → Ytmcidfecepknpaa.follow now.1 = (4 : Int) ∧ now.3 = now.3 ∧ nextOf p.1 (Ytmcidfecepknpaa.follow now.1) now.3 = w64 (now.3 + p.1.4) ∧ True) ∧ innerT_t9 p)) (ifB (now.1 == (4 : Int)) (innerT_t11 p now ∧ ifB (decide (now.3 > p.5)) (Leaf (goesOn p.u now = true) ∧ Leaf (p.t < (step1 p.r now).since) ∧ innerT_t1 p now) (Leaf (goesOn p.u now = true) ∧ Leaf ¬p.t < (step1 p.r now).since ∧ innerT_t2 p ∧ innerT_t3 p ∧ innerT_t4 p ∧ innerT_t5 ∧ Leaf (duesE.Perm duesE) ∧ Leaf (effectsE.Perm effectsE) ∧ innerT_t6 p ∧ ((1 : Nat) = (1 : Nat) ∧ ∀ (i : Nat), i < (1 : Nat) → Ytmcidfecepknpaa.follow now.1 = (5 : Int) ∧ now.3 = now.3 ∧ nextOf p.1 (Ytmcidfecepknpaa.follow now.1) now.3 = (-1 : Int) ∧ True) ∧ innerT_t7 ∧ True ∧ True ∧ innerT_t8 ∧ ((1 : Nat) = (1 : Nat) ∧ ∀ (i : Nat), i < (1 : Nat) → Ytmcidfecepknpaa.follow now.1 = (5 : Int) ∧ now.3 = now.3 ∧ nextOf p.1 (Ytmcidfecepknpaa.follow now.1) now.3 = (-1 : Int) ∧ True) ∧ innerT_t9 p)) (innerT_t12 p now ∧ ifB (decide (now.3 > p.5)) (Leaf (goesOn p.u now = true) ∧ Leaf (p.t < (step1 p.r now).since) ∧ innerT_t1 p now) (Leaf (goesOn p.u now = true) ∧ Leaf ¬p.t < (step1 p.r now).since ∧ innerT_t2 p ∧ innerT_t3 p ∧ innerT_t4 p ∧ innerT_t5 ∧ Leaf (duesE.Perm duesE) ∧ Leaf (effectsE.Perm effectsE) ∧ innerT_t6 p ∧ ((1 : Nat) = (1 : Nat) ∧ ∀ (i : Nat), i < (1 : Nat) → Ytmcidfecepknpaa.follow now.1 = (0 : Int) ∧ now.3 = now.3 ∧ nextOf p.1 (Ytmcidfecepknpaa.follow now.1) now.3 = (-1 : Int) ∧ True) ∧ innerT_t7 ∧ True ∧ True ∧ innerT_t8 ∧ ((1 : Nat) = (1 : Nat) ∧ ∀ (i : Nat), i < (1 : Nat) → Ytmcidfecepknpaa.follow now.1 = (0 : Int) ∧ now.3 = now.3 ∧ nextOf p.1 (Ytmcidfecepknpaa.follow now.1) now.3 = (-1 : Int) ∧ True) ∧ innerT_t9 p)))))) (Leaf (goesOn p.u now = false) ∧ innerT_t13 p now)) (Leaf (goesOn p.u now = false) ∧ innerT_t13 p now)
theorem innerT_eq (p : IP) (now : Sta) : exec X2' 60 62 (lI true).code ((lI true).I p now) (zI true p now) = innerT_T p now := by kernel_rfl

theorem innerT_step (p : IP) (now : Sta) (hok : now.ok p.r) : innerT_T p now := by
  unfold innerT_T
  repeat' (first | with_reducible refine ifB_split (fun _ => ?_) (fun _ => ?_) | with_reducible refine And.intro ?_ ?_)
  all_goals try first | with_reducible exact innerT_t0_t _ _ | with_reducible exact innerT_t1_t _ _ | with_reducible exact innerT_t2_t _ | with_reducible exact innerT_t3_t _ | with_reducible exact innerT_t4_t _ | with_reducible exact innerT_t5_t | with_reducible exact innerT_t6_t _ | with_reducible exact innerT_t7_t | with_reducible exact innerT_t8_t | with_reducible exact innerT_t9_t _ | with_reducible exact innerT_t10_t _ _ | with_reducible exact innerT_t11_t _ _ | with_reducible exact innerT_t12_t _ _ | with_reducible exact innerT_t13_t _ _ | with_reducible rfl | with_reducible exact trivial | with_reducible exact List.Perm.refl _
  all_goals first
    | (simp_all [Leaf, goesOn]; done)
    | (simp_all [Leaf, goesOn]; intros; omega)
    | (simp_all [Leaf, goesOn, step1, begins, follow, nextOf, w64, Sta.ok]; done)
    | (simp_all [Leaf, goesOn, step1, begins, follow, nextOf, w64, Sta.ok]; omega)

def innerF_t0 (p : IP) (now : Sta) : Prop :=
  True ∧ (4 : Nat) = (4 : Nat) ∧ (((0 : Nat) = (0 : Nat) ∧ (0 : Nat) = (0 : Nat)) ∧ (3 : Int) = (3 : Int) ∧ now.3 = now.3 ∧ True) ∧ ((1 : Nat) = (1 : Nat) ∧ ∀ (i : Nat), i < (1 : Nat) → p.1.1 = p.1.1 ∧ p.1.2 = p.1.2 ∧ p.1.3 = p.1.3 ∧ p.1.4 = p.1.4 ∧ p.2.1 = p.2.1 ∧ p.2.2 = p.2.2 ∧ p.2.3 = p.2.3 ∧ p.2.4 = p.2.4 ∧ p.2.5 = p.2.5 ∧ p.2.6 = p.2.6 ∧ True ∧ True ∧ ((0 : Nat) = (0 : Nat) ∧ p.7 = p.7) ∧ True) ∧ Leaf (duesE.Perm duesE) ∧ Leaf (effectsE.Perm effectsE) ∧ (p.7 = p.7 ∧ ∀ (i : Nat), i < p.7 → p.8 i = p.8 i ∧ True) ∧ True
theorem innerF_t0_t (p : IP) (now : Sta) : innerF_t0 p now :=
  ⟨trivial, ⟨rfl, ⟨⟨⟨rfl, rfl⟩, ⟨rfl, ⟨rfl, trivial⟩⟩⟩, ⟨⟨rfl, (fun _ => (fun _ => ⟨rfl, ⟨rfl, ⟨rfl, ⟨rfl, ⟨rfl, ⟨rfl, ⟨rfl, ⟨rfl, ⟨rfl, ⟨rfl, ⟨trivial, ⟨trivial, ⟨⟨rfl, rfl⟩, trivial⟩⟩⟩⟩⟩⟩⟩⟩⟩⟩⟩⟩⟩))⟩, ⟨(List.Perm.refl _), ⟨(List.Perm.refl _), ⟨⟨rfl, (fun _ => (fun _ => ⟨rfl, trivial⟩))⟩, trivial⟩⟩⟩⟩⟩⟩⟩
def innerF_t1 (p : IP) (now : Sta) : Prop :=
  (false = false ∧ True) ∧ (p.4 = p.4 ∧ ∀ (i : Nat), i < p.n → (p.3 i).1 = (p.3 i).1 ∧ (p.3 i).2 = (p.3 i).2 ∧ (p.3 i).3 = (p.3 i).3 ∧ True) ∧ ((1 : Nat) = (1 : Nat) ∧ ∀ (i : Nat), i < (1 : Nat) → p.5 = p.5 ∧ True) ∧ ((1 : Nat) = (1 : Nat) ∧ ∀ (i : Nat), i < (1 : Nat) → (0 : Int) = (0 : Int) ∧ (0 : Int) = (0 : Int) ∧ (0 : Int) = (0 : Int) ∧ True) ∧ Leaf (duesE.Perm duesE) ∧ Leaf (effectsE.Perm effectsE) ∧ ((1 : Nat) = (1 : Nat) ∧ ∀ (i : Nat), i < (1 : Nat) → p.1.1 = p.1.1 ∧ p.1.2 = p.1.2 ∧ p.1.3 = p.1.3 ∧ p.1.4 = p.1.4 ∧ p.2.1 = p.2.1 ∧ p.2.2 = p.2.2 ∧ p.2.3 = p.2.3 ∧ p.2.4 = p.2.4 ∧ p.2.5 = p.2.5 ∧ p.2.6 = p.2.6 ∧ True ∧ True ∧ p.7 = p.7 ∧ True) ∧ ((1 : Nat) = (1 : Nat) ∧ ∀ (i : Nat), i < (1 : Nat) → now.1 = now.1 ∧ now.2 = now.2 ∧ now.3 = now.3 ∧ True) ∧ ((1 : Nat) = (1 : Nat) ∧ ∀ (i : Nat), i < (1 : Nat) → ((0 : Nat) = (0 : Nat) ∧ (0 : Nat) = (0 : Nat)) ∧ True) ∧ True ∧ Code.exit (0 : Nat) = Code.exit (0 : Nat) ∧ ((1 : Nat) = (1 : Nat) ∧ ∀ (i : Nat), i < (1 : Nat) → (True ∧ True) ∧ True) ∧ (p.7 = p.7 ∧ ∀ (i : Nat), i < p.k → p.8 i = p.8 i ∧ True) ∧ True
theorem innerF_t1_t (p : IP) (now : Sta) : innerF_t1 p now :=
  ⟨⟨rfl, trivial⟩, ⟨⟨rfl, (fun _ => (fun _ => ⟨rfl, ⟨rfl, ⟨rfl, trivial⟩⟩⟩))⟩, ⟨⟨rfl, (fun _ => (fun _ => ⟨rfl, trivial⟩))⟩, ⟨⟨rfl, (fun _ => (fun _ => ⟨rfl, ⟨rfl, ⟨rfl, trivial⟩⟩⟩))⟩, ⟨(List.Perm.refl _), ⟨(List.Perm.refl _), ⟨⟨rfl, (fun _ => (fun _ => ⟨rfl, ⟨rfl, ⟨rfl, ⟨rfl, ⟨rfl, ⟨rfl, ⟨rfl, ⟨rfl, ⟨rfl, ⟨rfl, ⟨trivial, ⟨trivial, ⟨rfl, trivial⟩⟩⟩⟩⟩⟩⟩⟩⟩⟩⟩⟩⟩))⟩, ⟨⟨rfl, (fun _ => (fun _ => ⟨rfl, ⟨rfl, ⟨rfl, trivial⟩⟩⟩))⟩, ⟨⟨rfl, (fun _ => (fun _ => ⟨⟨rfl, rfl⟩, trivial⟩))⟩, ⟨trivial, ⟨rfl, ⟨⟨rfl, (fun _ => (fun _ => ⟨⟨trivial, trivial⟩, trivial⟩))⟩, ⟨⟨rfl, (fun _ => (fun _ => ⟨rfl, trivial⟩))⟩, trivial⟩⟩⟩⟩⟩⟩⟩⟩⟩⟩⟩⟩⟩
def innerF_t2 (p : IP) : Prop :=
  p.6 = p.6 ∧ ((0 : Nat) = (0 : Nat) ∧ (0 : Nat) = (0 : Nat)) ∧ ((0 : Nat) = (0 : Nat) ∧ (0 : Nat) = (0 : Nat)) ∧ ((0 : Nat) = (0 : Nat) ∧ (0 : Nat) = (0 : Nat)) ∧ True
theorem innerF_t2_t (p : IP) : innerF_t2 p :=
  ⟨rfl, ⟨⟨rfl, rfl⟩, ⟨⟨rfl, rfl⟩, ⟨⟨rfl, rfl⟩, trivial⟩⟩⟩⟩
def innerF_t3 (p : IP) : Prop :=
  p.4 = p.4 ∧ ∀ (i : Nat), i < p.n → (p.3 i).1 = (p.3 i).1 ∧ (p.3 i).2 = (p.3 i).2 ∧ (p.3 i).3 = (p.3 i).3 ∧ True
theorem innerF_t3_t (p : IP) : innerF_t3 p :=
  ⟨rfl, (fun _ => (fun _ => ⟨rfl, ⟨rfl, ⟨rfl, trivial⟩⟩⟩))⟩
def innerF_t4 (p : IP) : Prop :=
  (1 : Nat) = (1 : Nat) ∧ ∀ (i : Nat), i < (1 : Nat) → p.5 = p.5 ∧ True
theorem innerF_t4_t (p : IP) : innerF_t4 p :=
  ⟨rfl, (fun _ => (fun _ => ⟨rfl, trivial⟩))⟩
def innerF_t5 : Prop :=
  (1 : Nat) = (1 : Nat) ∧ ∀ (i : Nat), i < (1 : Nat) → (0 : Int) = (0 : Int) ∧ (0 : Int) = (0 : Int) ∧ (0 : Int) = (0 : Int) ∧ True
theorem innerF_t5_t : innerF_t5 :=
  ⟨rfl, (fun _ => (fun _ => ⟨rfl, ⟨rfl, ⟨rfl, trivial⟩⟩⟩))⟩
def innerF_t6 (p : IP) : Prop :=
  (1 : Nat) = (1 : Nat) ∧ ∀ (i : Nat), i < (1 : Nat) → p.1.1 = p.1.1 ∧ p.1.2 = p.1.2 ∧ p.1.3 = p.1.3 ∧ p.1.4 = p.1.4 ∧ p.2.1 = p.2.1 ∧ p.2.2 = p.2.2 ∧ p.2.3 = p.2.3 ∧ p.2.4 = p.2.4 ∧ p.2.5 = p.2.5 ∧ p.2.6 = p.2.6 ∧ True ∧ True ∧ p.7 = p.7 ∧ True
theorem innerF_t6_t (p : IP) : innerF_t6 p :=
  ⟨rfl, (fun _ => (fun _ => ⟨rfl, ⟨rfl, ⟨rfl, ⟨rfl, ⟨rfl, ⟨rfl, ⟨rfl, ⟨rfl, ⟨rfl, ⟨rfl, ⟨trivial, ⟨trivial, ⟨rfl, trivial⟩⟩⟩⟩⟩⟩⟩⟩⟩⟩⟩⟩⟩))⟩
def innerF_t7 : Prop :=
  (1 : Nat) = (1 : Nat) ∧ ∀ (i : Nat), i < (1 : Nat) → ((0 : Nat) = (0 : Nat) ∧ (0 : Nat) = (0 : Nat)) ∧ True
theorem innerF_t7_t : innerF_t7 :=
  ⟨rfl, (fun _ => (fun _ => ⟨⟨rfl, rfl⟩, trivial⟩))⟩
def innerF_t8 : Prop :=
  (1 : Nat) = (1 : Nat) ∧ ∀ (i : Nat), i < (1 : Nat) → (True ∧ True) ∧ True
theorem innerF_t8_t : innerF_t8 :=
  ⟨rfl, (fun _ => (fun _ => ⟨⟨trivial, trivial⟩, trivial⟩))⟩
def innerF_t9 (p : IP) : Prop :=
  (p.7 = p.7 ∧ ∀ (i : Nat), i < p.k → p.8 i = p.8 i ∧ True) ∧ True
theorem innerF_t9_t (p : IP) : innerF_t9 p :=
  ⟨⟨rfl, (fun _ => (fun _ => ⟨rfl, trivial⟩))⟩, trivial⟩
def innerF_t10 (p : IP) (now : Sta) : Prop :=
  True ∧ (4 : Nat) = (4 : Nat) ∧ (((0 : Nat) = (0 : Nat) ∧ (0 : Nat) = (0 : Nat)) ∧ (4 : Int) = (4 : Int) ∧ now.3 = now.3 ∧ True) ∧ ((1 : Nat) = (1 : Nat) ∧ ∀ (i : Nat), i < (1 : Nat) → p.1.1 = p.1.1 ∧ p.1.2 = p.1.2 ∧ p.1.3 = p.1.3 ∧ p.1.4 = p.1.4 ∧ p.2.1 = p.2.1 ∧ p.2.2 = p.2.2 ∧ p.2.3 = p.2.3 ∧ p.2.4 = p.2.4 ∧ p.2.5 = p.2.5 ∧ p.2.6 = p.2.6 ∧ True ∧ True ∧ ((0 : Nat) = (0 : Nat) ∧ p.7 = p.7) ∧ True) ∧ Leaf (duesE.Perm duesE) ∧ Leaf (effectsE.Perm effectsE) ∧ (p.7 = p.7 ∧ ∀ (i : Nat), i < p.7 → p.8 i = p.8 i ∧ True) ∧ True
theorem innerF_t10_t (p : IP) (now : Sta) : innerF_t10 p now :=
  ⟨trivial, ⟨rfl, ⟨⟨⟨rfl, rfl⟩, ⟨rfl, ⟨rfl, trivial⟩⟩⟩, ⟨⟨rfl, (fun _ => (fun _ => ⟨rfl, ⟨rfl, ⟨rfl, ⟨rfl, ⟨rfl, ⟨rfl, ⟨rfl, ⟨rfl, ⟨rfl, ⟨rfl, ⟨trivial, ⟨trivial, ⟨⟨rfl, rfl⟩, trivial⟩⟩⟩⟩⟩⟩⟩⟩⟩⟩⟩⟩⟩))⟩, ⟨(List.Perm.refl _), ⟨(List.Perm.refl _), ⟨⟨rfl, (fun _ => (fun _ => ⟨rfl, trivial⟩))⟩, trivial⟩⟩⟩⟩⟩⟩⟩
def innerF_t11 (p : IP) (now : Sta) : Prop :=
  True ∧ (4 : Nat) = (4 : Nat) ∧ (((0 : Nat) = (0 : Nat) ∧ (0 : Nat) = (0 : Nat)) ∧ (5 : Int) = (5 : Int) ∧ now.3 = now.3 ∧ True) ∧ ((1 : Nat) = (1 : Nat) ∧ ∀ (i : Nat), i < (1 : Nat) → p.1.1 = p.1.1 ∧ p.1.2 = p.1.2 ∧ p.1.3 = p.1.3 ∧ p.1.4 = p.1.4 ∧ p.2.1 = p.2.1 ∧ p.2.2 = p.2.2 ∧ p.2.3 = p.2.3 ∧ p.2.4 = p.2.4 ∧ p.2.5 = p.2.5 ∧ p.2.6 = p.2.6 ∧ True ∧ True ∧ ((0 : Nat) = (0 : Nat) ∧ p.7 = p.7) ∧ True) ∧ Leaf (duesE.Perm duesE) ∧ Leaf (effectsE.Perm effectsE) ∧ (p.7 = p.7 ∧ ∀ (i : Nat), i < p.7 → p.8 i = p.8 i ∧ True) ∧ True
theorem innerF_t11_t (p : IP) (now : Sta) : innerF_t11 p now :=
  ⟨trivial, ⟨rfl, ⟨⟨⟨rfl, rfl⟩, ⟨rfl, ⟨rfl, trivial⟩⟩⟩, ⟨⟨rfl, (fun _ => (fun _ => ⟨rfl, ⟨rfl, ⟨rfl, ⟨rfl, ⟨rfl, ⟨rfl, ⟨rfl, ⟨rfl, ⟨rfl, ⟨rfl, ⟨trivial, ⟨trivial, ⟨⟨rfl, rfl⟩, trivial⟩⟩⟩⟩⟩⟩⟩⟩⟩⟩⟩⟩⟩))⟩, ⟨(List.Perm.refl _), ⟨(List.Perm.refl _), ⟨⟨rfl, (fun _ => (fun _ => ⟨rfl, trivial⟩))⟩, trivial⟩⟩⟩⟩⟩⟩⟩
def innerF_t12 (p : IP) (now : Sta) : Prop :=
  True ∧ (4 : Nat) = (4 : Nat) ∧ (((0 : Nat) = (0 : Nat) ∧ (0 : Nat) = (0 : Nat)) ∧ (0 : Int) = (0 : Int) ∧ now.3 = now.3 ∧ True) ∧ ((1 : Nat) = (1 : Nat) ∧ ∀ (i : Nat), i < (1 : Nat) → p.1.1 = p.1.1 ∧ p.1.2 = p.1.2 ∧ p.1.3 = p.1.3 ∧ p.1.4 = p.1.4 ∧ p.2.1 = p.2.1 ∧ p.2.2 = p.2.2 ∧ p.2.3 = p.2.3 ∧ p.2.4 = p.2.4 ∧ p.2.5 = p.2.5 ∧ p.2.6 = p.2.6 ∧ True ∧ True ∧ ((0 : Nat) = (0 : Nat) ∧ p.7 = p.7) ∧ True) ∧ Leaf (duesE.Perm duesE) ∧ Leaf (effectsE.Perm effectsE) ∧ (p.7 = p.7 ∧ ∀ (i : Nat), i < p.7 → p.8 i = p.8 i ∧ True) ∧ True
theorem innerF_t12_t (p : IP) (now : Sta) : innerF_t12 p now :=
  ⟨trivial, ⟨rfl, ⟨⟨⟨rfl, rfl⟩, ⟨rfl, ⟨rfl, trivial⟩⟩⟩, ⟨⟨rfl, (fun _ => (fun _ => ⟨rfl, ⟨rfl, ⟨rfl, ⟨rfl, ⟨rfl, ⟨rfl, ⟨rfl, ⟨rfl, ⟨rfl, ⟨rfl, ⟨trivial, ⟨trivial, ⟨⟨rfl, rfl⟩, trivial⟩⟩⟩⟩⟩⟩⟩⟩⟩⟩⟩⟩⟩))⟩, ⟨(List.Perm.refl _), ⟨(List.Perm.refl _), ⟨⟨rfl, (fun _ => (fun _ => ⟨rfl, trivial⟩))⟩, trivial⟩⟩⟩⟩⟩⟩⟩
def innerF_t13 (p : IP) (now : Sta) : Prop :=
  True ∧ (p.4 = p.4 ∧ ∀ (i : Nat), i < p.n → (p.3 i).1 = (p.3 i).1 ∧ (p.3 i).2 = (p.3 i).2 ∧ (p.3 i).3 = (p.3 i).3 ∧ True) ∧ ((1 : Nat) = (1 : Nat) ∧ ∀ (i : Nat), i < (1 : Nat) → p.5 = p.5 ∧ True) ∧ ((1 : Nat) = (1 : Nat) ∧ ∀ (i : Nat), i < (1 : Nat) → (0 : Int) = (0 : Int) ∧ (0 : Int) = (0 : Int) ∧ (0 : Int) = (0 : Int) ∧ True) ∧ Leaf (duesE.Perm duesE) ∧ Leaf (effectsE.Perm effectsE) ∧ ((1 : Nat) = (1 : Nat) ∧ ∀ (i : Nat), i < (1 : Nat) → p.1.1 = p.1.1 ∧ p.1.2 = p.1.2 ∧ p.1.3 = p.1.3 ∧ p.1.4 = p.1.4 ∧ p.2.1 = p.2.1 ∧ p.2.2 = p.2.2 ∧ p.2.3 = p.2.3 ∧ p.2.4 = p.2.4 ∧ p.2.5 = p.2.5 ∧ p.2.6 = p.2.6 ∧ True ∧ True ∧ p.7 = p.7 ∧ True) ∧ ((1 : Nat) = (1 : Nat) ∧ ∀ (i : Nat), i < (1 : Nat) → now.1 = now.1 ∧ now.2 = now.2 ∧ now.3 = now.3 ∧ True) ∧ ((1 : Nat) = (1 : Nat) ∧ ∀ (i : Nat), i < (1 : Nat) → ((0 : Nat) = (0 : Nat) ∧ (0 : Nat) = (0 : Nat)) ∧ True) ∧ True ∧ True ∧ ((1 : Nat) = (1 : Nat) ∧ ∀ (i : Nat), i < (1 : Nat) → (True ∧ True) ∧ True) ∧ ((1 : Nat) = (1 : Nat) ∧ ∀ (i : Nat), i < (1 : Nat) → now.1 = now.1 ∧ now.2 = now.2 ∧ now.3 = now.3 ∧ True) ∧ (p.7 = p.7 ∧ ∀ (i : Nat), i < p.k → p.8 i = p.8 i ∧ True) ∧ True
theorem innerF_t13_t (p : IP) (now : Sta) : innerF_t13 p now :=
  ⟨trivial, ⟨⟨rfl, (fun _ => (fun _ => ⟨rfl, ⟨rfl, ⟨rfl, trivial⟩⟩⟩))⟩, ⟨⟨rfl, (fun _ => (fun _ => ⟨rfl, trivial⟩))⟩, ⟨⟨rfl, (fun _ => (fun _ => ⟨rfl, ⟨rfl, ⟨rfl, trivial⟩⟩⟩))⟩, ⟨(List.Perm.refl _), ⟨(List.Perm.refl _), ⟨⟨rfl, (fun _ => (fun _ => ⟨rfl, ⟨rfl, ⟨rfl, ⟨rfl, ⟨rfl, ⟨rfl, ⟨rfl, ⟨rfl, ⟨rfl, ⟨rfl, ⟨trivial, ⟨trivial, ⟨rfl, trivial⟩⟩⟩⟩⟩⟩⟩⟩⟩⟩⟩⟩⟩))⟩, ⟨⟨rfl, (fun _ => (fun _ => ⟨rfl, ⟨rfl, ⟨rfl, trivial⟩⟩⟩))⟩, ⟨⟨rfl, (fun _ => (fun _ => ⟨⟨rfl, rfl⟩, trivial⟩))⟩, ⟨trivial, ⟨trivial, ⟨⟨rfl, (fun _ => (fun _ => ⟨⟨trivial, trivial⟩, trivial⟩))⟩, ⟨⟨rfl, (fun _ => (fun _ => ⟨rfl, ⟨rfl, ⟨rfl, trivial⟩⟩⟩))⟩, ⟨⟨rfl, (fun _ => (fun _ => ⟨rfl, trivial⟩))⟩, trivial⟩⟩⟩⟩⟩⟩⟩⟩⟩⟩⟩⟩⟩⟩
def innerF_T (p : IP) (now : Sta) : Prop :=
  ifB (decide (now.3 ≥ (0 : Int)) == true) (ifB (decide (now.3 ≤ p.6)) (((((now.1 == (1 : Int)) = true → (now.1 == (2 : Int)) = true → False) ∧ ((now.1 == (1 : Int)) = true → (now.1 == (3 : Int)) = true → False) ∧ ((now.1 == (1 : Int)) = true → (now.1 == (4 : Int)) = true → False) ∧ True) ∧ (((now.1 == (2 : Int)) = true → (now.1 == (3 : Int)) = true → False) ∧ ((now.1 == (2 : Int)) = true → (now.1 == (4 : Int)) = true → False) ∧ True) ∧ (((now.1 == (3 : Int)) = true → (now.1 == (4 : Int)) = true → False) ∧ True) ∧ True ∧ True) ∧ ifB (now.1 == (1 : Int)) (innerF_t0 p now ∧ ifB (decide (now.3 > p.5)) (Leaf (goesOn p.u now = true) ∧ Leaf (p.t < (step1 p.r now).since) ∧ innerF_t1 p now) (Leaf (goesOn p.u now = true) ∧ Leaf ¬p.t < (step1 p.r now).since ∧ innerF_t2 p ∧ innerF_t3 p ∧ innerF_t4 p ∧ innerF_t5 ∧ Leaf (duesE.Perm duesE) ∧ Leaf (effectsE.Perm effectsE) ∧ innerF_t6 p ∧ ((1 : Nat) = (1 : Nat) ∧ ∀ (i : Nat), i < (1 : Nat) → Ytmcidfecepknpaa.follow now.1 = (3 : Int) ∧ now.3 = now.3 ∧ nextOf p.1 (Ytmcidfecepknpaa.follow now.1) now.3 = w64 (now.3 + p.1.2) ∧ True) ∧ innerF_t7 ∧ True ∧ True ∧ innerF_t8 ∧ ((1 : Nat) = (1 : Nat) ∧ ∀ (i : Nat), i < (1 : Nat) → Ytmcidfecepknpaa.follow now.1 = (3 : Int) ∧ now.3 = now.3 ∧ nextOf p.1 (Ytmcidfecepknpaa.follow now.1) now.3 = w64 (now.3 + p.1.2) ∧ True) ∧ innerF_t9 p)) (ifB (now.1 == (2 : Int)) (innerF_t0 p now ∧ ifB (decide (now.3 > p.5)) (Leaf (goesOn p.u now = true) ∧ Leaf (p.t < (step1 p.r now).since) ∧ innerF_t1 p now) (Leaf (goesOn p.u now = true) ∧ Leaf ¬p.t < (step1 p.r now).since ∧ innerF_t2 p ∧ innerF_t3 p ∧ innerF_t4 p ∧ innerF_t5 ∧ Leaf (duesE.Perm duesE) ∧ Leaf (effectsE.Perm effectsE) ∧ innerF_t6 p ∧ ((1 : Nat) = (1 : Nat) ∧ ∀ (i : Nat), i < (1 : Nat) → Ytmcidfecepknpaa.follow now.1 = (3 : Int) ∧ now.3 = now.3 ∧ nextOf p.1 (Ytmcidfecepknpaa.follow now.1) now.3 = w64 (now.3 + p.1.2) ∧ True) ∧ innerF_t7 ∧ True ∧ True ∧ innerF_t8 ∧ ((1 : Nat) = (1 : Nat) ∧ ∀ (i : Nat), i < (1 : Nat) → Ytmcidfecepknpaa.follow now.1 = (3 : Int) ∧ now.3 = now.3 ∧ nextOf p.1 (Ytmcidfecepknpaa.follow now.1) now.3 = w64 (now.3 + p.1.2) ∧ True) ∧ innerF_t9 p)) (ifB (now.1 == (3 : Int)) (innerF_t10 p now ∧ ifB (decide (now.3 > p.5)) (Leaf (goesOn p.u now = true) ∧ Leaf (p.t < (step1 p.r now).since) ∧ innerF_t1 p now) (Leaf (goesOn p.u now = true) ∧ Leaf ¬p.t < (step1 p.r now).since ∧ innerF_t2 p ∧ innerF_t3 p ∧ innerF_t4 p ∧ innerF_t5 ∧ Leaf (duesE.Perm duesE) ∧ Leaf (effectsE.Perm effectsE) ∧ innerF_t6 p ∧ ((1 : Nat) = (1 : Nat) ∧ ∀ (i : Nat), i < (1 : Nat) → Ytmcidfecepknpaa.follow now.1 = (4 : Int) ∧ now.3 = now.3 ∧ nextOf p.1 (Ytmcidfecepknpaa.follow now.1) now.3 = w64 (now.3 + p.1.4) ∧ True) ∧ innerF_t7 ∧ True ∧ True ∧ innerF_t8 ∧ ((1 : Nat) = (1 : Nat) ∧ ∀ (i : Nat), i < (1 : Nat) → Ytmcidfecepknpaa.follow now.1 = (4 : Int) ∧ now.3 = now.3 ∧ nextOf p.1 (Ytmcidfecepknpaa.follow now.1) now.3 = w64 (now.3 + p.1.4) ∧ True) ∧ innerF_t9 p)) (ifB (now.1 == (4 : Int)) (innerF_t11 p now ∧ ifB (decide (now.3 > p.5)) (Leaf (goesOn p.u now = true) ∧ Leaf (p.t < (step1 p.r now).since) ∧ innerF_t1 p now) (Leaf (goesOn p.u now = true) ∧ Leaf ¬p.t < (step1 p.r now).since ∧ innerF_t2 p ∧ innerF_t3 p ∧ innerF_t4 p ∧ innerF_t5 ∧ Leaf (duesE.Perm duesE) ∧ Leaf (effectsE.Perm effectsE) ∧ innerF_t6 p ∧ ((1 : Nat) = (1 : Nat) ∧ ∀ (i : Nat), i < (1 : Nat) → Ytmcidfecepknpaa.follow now.1 = (5 : Int) ∧ now.3 = now.3 ∧ nextOf p.1 (Ytmcidfecepknpaa.follow now.1) now.3 = (-1 : Int) ∧ True) ∧ innerF_t7 ∧ True ∧ True ∧ innerF_t8 ∧ ((1 : Nat) = (1 : Nat) ∧ ∀ (i : Nat), i < (1 : Nat) → Ytmcidfecepknpaa.follow now.1 = (5 : Int) ∧ now.3 = now.3 ∧ nextOf p.1 (Ytmcidfecepknpaa.follow now.1) now.3 = (-1 : Int) ∧ True) ∧ innerF_t9 p)) (innerF_t12 p now ∧ ifB (decide (now.3 > p.5)) (Leaf (goesOn p.u now = true) ∧ Leaf (p.t < (step1 p.r now).since) ∧ innerF_t1 p now) (Leaf (goesOn p.u now = true) ∧ Leaf ¬p.t < (step1 p.r now).since ∧ innerF_t2 p ∧ innerF_t3 p ∧ innerF_t4 p ∧ innerF_t5 ∧ Leaf (duesE.Perm duesE) ∧ Leaf (effectsE.Perm effectsE) ∧ innerF_t6 p ∧ ((1 : Nat) = (1 : Nat) ∧ ∀ (i : Nat), i < (1 : Nat) → Ytmcidfecepknpaa.follow now.1 = (0 : Int) ∧ now.3 = now.3 ∧ nextOf p.1 (Ytmcidfecepknpaa.follow now.1) now.3 = (-1 : Int) ∧ True) ∧ innerF_t7 ∧ True ∧ True ∧ innerF_t8 ∧ ((1 : Nat) = (1 : Nat) ∧ ∀ (i : Nat), i < (1 : Nat) → Ytmcidfecepknpaa.follow now.1 = (0 : Int) ∧ now.3 = now.3 ∧ nextOf p.1 (Ytmcidfecepknpaa.follow now.1) now.3 = (-1 : Int) ∧ True) ∧ innerF_t9 p)))))) (Leaf (goesOn p.u now = false) ∧ innerF_t13 p now)) (Leaf (goesOn p.u now = false) ∧ innerF_t13 p now)
theorem innerF_eq (p : IP) (now : Sta) : exec X2' 60 62 (lI false).code ((lI false).I p now) (zI false p now) = innerF_T p now := by kernel_rfl

theorem innerF_step (p : IP) (now : Sta) (hok : now.ok p.r) : innerF_T p now := by
  unfold innerF_T
  repeat' (first | with_reducible refine ifB_split (fun _ => ?_) (fun _ => ?_) | with_reducible refine And.intro ?_ ?_)
  all_goals try first | with_reducible exact innerF_t0_t _ _ | with_reducible exact innerF_t1_t _ _ | with_reducible exact innerF_t2_t _ | with_reducible exact innerF_t3_t _ | with_reducible exact innerF_t4_t _ | with_reducible exact innerF_t5_t | with_reducible exact innerF_t6_t _ | with_reducible exact innerF_t7_t | with_reducible exact innerF_t8_t | with_reducible exact innerF_t9_t _ | with_reducible exact innerF_t10_t _ _ | with_reducible exact innerF_t11_t _ _ | with_reducible exact innerF_t12_t _ _ | with_reducible exact innerF_t13_t _ _ | with_reducible rfl | with_reducible exact trivial | with_reducible exact List.Perm.refl _
  all_goals first
    | (simp_all [Leaf, goesOn]; done)
    | (simp_all [Leaf, goesOn]; intros; omega)
    | (simp_all [Leaf, goesOn, step1, begins, follow, nextOf, w64, Sta.ok]; done)
    | (simp_all [Leaf, goesOn, step1, begins, follow, nextOf, w64, Sta.ok]; omega)


theorem rank_pos {r : Rul} {s : Sta} (hok : s.ok r) {u : Int} (h : goesOn u s = true) : rank (follow s.state) + 1 ≤ rank s.state := by
  simp only [goesOn, Bool.and_eq_true, decide_eq_true_eq] at h
  have h1 := h.1
  unfold Sta.ok nextOf at hok
  unfold rank follow
  split at hok
  · simp_all
  · split at hok
    · simp_all
    · split at hok
      · simp_all
      · split at hok
        · simp_all
        · omega

theorem aloneT_done {r : Rul} {t u : Int} {s : Sta} (h : goesOn u s = false) : ∀ m, aloneT r t u m s = (false, s)
  | 0 => rfl
  | m + 1 => by simp only [aloneT, h]


set_option maxRecDepth 100000 in
theorem innerT_ok : LoopOK X2'.P (lI true).code (lI true).L := by
  refine (lI true).ok X2'_ok 60 62 (fun p s => rank s.state) (zI true) (fun _ _ _ => ⟨⟨rfl, rfl, rfl, rfl⟩, trivial⟩) (fun p d w q hw => ?_) (fun p s S' hJ h => ?_) (fun p s x S' hx hJ h => ?_) fun p s hJ => ?_
  · match w, hw with
    | 0, _ => exact ⟨⟨rfl, rfl, rfl, rfl⟩, trivial⟩
    | 1, _ => exact ⟨⟨rfl, rfl, rfl, rfl⟩, trivial⟩
  · obtain ⟨h1, h2, h3⟩ := h
    simp only [Leaf] at h1 h2
    obtain ⟨⟨m, hm, ha⟩, hok⟩ := hJ
    have hr := rank_pos hok h1
    obtain ⟨m', rfl⟩ : ∃ m', m = m' + 1 := ⟨m - 1, by omega⟩
    refine ⟨[], step1 p.r s, ?_, ⟨⟨m', ?_, ?_⟩, rfl⟩, h3⟩
    · show rank (follow s.state) < rank s.state
      omega
    · show rank (follow s.state) ≤ m'
      omega
    · rw [ha]
      simp only [aloneT, h1, h2, decide_false]
  · obtain ⟨⟨m, hm, ha⟩, hok⟩ := hJ
    cases x with
    | normal => exact hx.elim
    | ret =>
      obtain ⟨h1, h2, h3⟩ := h
      simp only [Leaf] at h1 h2
      have hr := rank_pos hok h1
      obtain ⟨m', rfl⟩ : ∃ m', m = m' + 1 := ⟨m - 1, by omega⟩
      refine ⟨1, s, [], by decide, ?_, rfl, h3⟩
      show aloneT _ _ _ _ _ = _
      rw [ha]
      simp only [aloneT, h1, h2, decide_true]
    | exit k =>
      obtain ⟨h0, h1, h2⟩ := gateB_spec h
      have h0 := Nat.eq_of_beq_eq_true h0
      subst h0
      simp only [Leaf] at h1
      exact ⟨0, s, [], by decide, ⟨by rw [ha]; exact aloneT_done h1 m, hok⟩, rfl, h2⟩
  · obtain ⟨_, hok⟩ := hJ
    rw [innerT_eq]
    exact innerT_step p s hok

set_option maxRecDepth 100000 in
theorem innerF_ok : LoopOK X2'.P (lI false).code (lI false).L := by
  refine (lI false).ok X2'_ok 60 62 (fun p s => rank s.state) (zI false) (fun _ _ _ => ⟨⟨rfl, rfl, rfl, rfl⟩, trivial⟩) (fun p d w q hw => ?_) (fun p s S' hJ h => ?_) (fun p s x S' hx hJ h => ?_) fun p s hJ => ?_
  · match w, hw with
    | 0, _ => exact ⟨⟨rfl, rfl, rfl, rfl⟩, trivial⟩
    | 1, _ => exact ⟨⟨rfl, rfl, rfl, rfl⟩, trivial⟩
  · obtain ⟨h1, h2, h3⟩ := h
    simp only [Leaf] at h1 h2
    obtain ⟨⟨m, hm, ha⟩, hok⟩ := hJ
    have hr := rank_pos hok h1
    obtain ⟨m', rfl⟩ : ∃ m', m = m' + 1 := ⟨m - 1, by omega⟩
    refine ⟨[], step1 p.r s, ?_, ⟨⟨m', ?_, ?_⟩, rfl⟩, h3⟩
    · show rank (follow s.state) < rank s.state
      omega
    · show rank (follow s.state) ≤ m'
      omega
    · rw [ha]
      simp only [aloneT, h1, h2, decide_false]
  · obtain ⟨⟨m, hm, ha⟩, hok⟩ := hJ
    cases x with
    | normal => exact hx.elim
    | ret =>
      obtain ⟨h1, h2, h3⟩ := h
      simp only [Leaf] at h1 h2
      have hr := rank_pos hok h1
      obtain ⟨m', rfl⟩ : ∃ m', m = m' + 1 := ⟨m - 1, by omega⟩
      refine ⟨1, s, [], by decide, ?_, rfl, h3⟩
      show aloneT _ _ _ _ _ = _
      rw [ha]
      simp only [aloneT, h1, h2, decide_true]
    | exit k =>
      obtain ⟨h0, h1, h2⟩ := gateB_spec h
      have h0 := Nat.eq_of_beq_eq_true h0
      subst h0
      simp only [Leaf] at h1
      exact ⟨0, s, [], by decide, ⟨by rw [ha]; exact aloneT_done h1 m, hok⟩, rfl, h2⟩
  · obtain ⟨_, hok⟩ := hJ
    rw [innerF_eq]
    exact innerF_step p s hok
end Go.Proofs.Ytmcidfecepknpaa

namespace Go.Proofs.Ytmcidfecepknpaa
open Go Go.Sh Go.Proofs
set_option linter.unusedVariables false

def orL (N : Nat) (L L' : SS → KX → Prop) : SS → KX → Prop := fun S K => match decide (S.heap.length = N) with | true => L S K | false => L' S K
theorem orL_ok {P : Program} {b : Code} {L L' : SS → KX → Prop} (h : LoopOK P b L) (h' : LoopOK P b L') (N : Nat) : LoopOK P b (orL N L L') := by
  refine ⟨fun S K H => ?_, fun S K K' hk H => ?_⟩
  all_goals unfold orL at H
  · split at H
    · exact h.loop S K H
    · exact h'.loop S K H
  · unfold orL
    split at H
    · exact h.mono S K K' hk H
    · exact h'.mono S K K' hk H

noncomputable def X3 : Ctx := X2'.loop 62 1 (lI true).code (orL 21 ((lI true).by (exI true)) ((lI false).by (exI false)))
theorem X3_ok : X3.OK := Ctx.loop_ok X2'_ok (orL_ok (innerT_ok.by (exI true)) (innerF_ok.by (exI false)) 21)

/-- One event, with a stop at the first status that begins after t. -/
def evT (r : Rul) (c : Clm) (t : Int) (now : Sta) (e : Evt) : Bool × Sta := match aloneT r t e.at' 4 now with
  | (true, o) => (true, o)
  | (false, s) => match afterB c s.state e with
    | false => (false, s)
    | true => match decide (t < e.at') with
      | true => (true, s)
      | false => (false, begins r (afterN c s.state e) e.at')
def runT (r : Rul) (c : Clm) (t : Int) (E : Nat → Evt) (a : Sta) : Nat → Bool × Sta
  | 0 => (false, a)
  | i + 1 => match runT r c t E a i with
    | (true, o) => (true, o)
    | (false, s) => evT r c t s (E i)

structure MP where
  r : Rul
  c : Clm
  E : Nat → Evt
  n : Nat
  t : Int
  a : Sta
structure MD where
  i : Nat
  now : Sta
  k : Nat
  V : Nat → Int
def MP.ip (p : MP) (d : MD) : IP := ⟨p.r, p.c, p.E, p.n, p.t, 0, d.k, d.V, ⟨0, 0, 0⟩, d.now⟩

def lM_J (p : MP) (d : MD) : Prop := d.i ≤ p.n ∧ p.n ≤ 20 ∧ runT p.r p.c p.t p.E p.a d.i = (false, d.now) ∧ d.now.ok p.r ∧ d.k ≤ d.i
noncomputable def lM : LSpec MP MD MD where
  code := loopOf Try.prog 60 5
  N := 18
  I := fun p d => blank 66 [(0, .fn (.yield 14) [] []), (1, .ptr 11 0 0), (3, .ptr 15 0 0), (4, .ptr 18 0 0), (5, .fn (.func 62) [] [.ptr 18 0 0, .ptr 11 0 0, .ptr 15 0 0]), (22, .sl 0 0 p.n), (23, iv p.n), (24, iv d.i)] (heapO (p.ip d) d.now .ready none (staO d.now) [])
  J := lM_J
  ways := 2
  E := fun w p q => match w with
    | 0 => (.exit 0, blank 66 [(5, .fn (.func 62) [] [.ptr 18 0 0, .ptr 11 0 0, .ptr 15 0 0])] (heapO (p.ip q) q.now .ready none (staO q.now) []))
    | _ => (.ret, blank 66 [] (heapO (p.ip q) q.now .done (some (.exit 0)) none []))
  JE := fun w p q => match w with
    | 0 => Leaf (runT p.r p.c p.t p.E p.a p.n = (false, q.now) ∧ q.now.ok p.r)
    | _ => Leaf (runT p.r p.c p.t p.E p.a p.n = (true, q.now))

/-- What is left of Outcome's state when it stops: what came out, and the void events (of which nothing is asked). -/
def outOf (S : SS) (k : Sta → Nat → (Nat → Int) → Nat → Prop) : Prop := match arrOf S.heap 10, arrOf S.heap 9 with
  | some (_, o), some (_, m) => match m 0 with
    | [_, _, _, _, _, _, _, _, _, _, _, _, .osl l n] => match arrOf S.heap l with
      | some (_, V) => k (Sta.ofC (o 0)) n (fun i => intOf (V i)) l
      | none => False
    | _ => False
  | _, _ => False

noncomputable def zM (p : MP) (d : MD) : KX := fun x S' => match x with
  | .normal => outOf S' fun o k V l => Leaf (d.i < p.n) ∧ Leaf (evT p.r p.c p.t d.now (p.E d.i) = (false, o)) ∧ Leaf (o.ok p.r) ∧ Leaf (k ≤ d.i + 1) ∧
      (match S'.get 4 with | .ptr ln _ _ => Wk 18 [some ln, some l] (lM.I p ⟨d.i + 1, o, k, V⟩) S' | _ => False)
  | .exit j => gateB (Nat.beq j 0) (Leaf (p.n ≤ d.i) ∧ Wk 18 [some 18, some 19] (lM.E 0 p d).2 S')
  | .ret => outOf S' fun o k V l => Leaf (d.i < p.n) ∧ Leaf (evT p.r p.c p.t d.now (p.E d.i) = (true, o)) ∧ Wk 18 [some 18, some l] (lM.E 1 p ⟨0, o, k, V⟩).2 S'
end Go.Proofs.Ytmcidfecepknpaa

namespace Go.Proofs.Ytmcidfecepknpaa
open Go Go.Sh Go.Proofs
set_option linter.unusedVariables false
set_option linter.unusedSimpArgs false
def mainO_t0 (p : MP) (d : MD) : Prop :=
  (21 : Nat) = (21 : Nat) ∧ (((((0 : Nat) = (0 : Nat) ∧ (0 : Nat) = (0 : Nat)) ∧ ((0 : Nat) = (0 : Nat) ∧ (0 : Nat) = (0 : Nat)) ∧ True) ∧ [(35 : Tmp)] = [(35 : Tmp)] ∧ asg14 = asg14 ∧ body14 = body14) ∧ True) ∧ ((p.3 ((0 : Nat) + d.1)).2 = (p.3 ((0 : Nat) + d.1)).2 ∧ ((0 : Nat) = (0 : Nat) ∧ (0 : Nat) = (0 : Nat)) ∧ ((0 : Nat) = (0 : Nat) ∧ (0 : Nat) = (0 : Nat)) ∧ ((0 : Nat) = (0 : Nat) ∧ (0 : Nat) = (0 : Nat)) ∧ True) ∧ (p.4 = p.4 ∧ ∀ (i : Nat), i < p.4 → (p.3 i).1 = (p.3 i).1 ∧ (p.3 i).2 = (p.3 i).2 ∧ (p.3 i).3 = (p.3 i).3 ∧ True) ∧ ((1 : Nat) = (1 : Nat) ∧ ∀ (i : Nat), i < (1 : Nat) → p.5 = p.5 ∧ True) ∧ ((1 : Nat) = (1 : Nat) ∧ ∀ (i : Nat), i < (1 : Nat) → (0 : Int) = (0 : Int) ∧ (0 : Int) = (0 : Int) ∧ (0 : Int) = (0 : Int) ∧ True) ∧ Leaf (duesE.Perm duesE) ∧ Leaf (effectsE.Perm effectsE) ∧ ((1 : Nat) = (1 : Nat) ∧ ∀ (i : Nat), i < (1 : Nat) → p.1.1 = p.1.1 ∧ p.1.2 = p.1.2 ∧ p.1.3 = p.1.3 ∧ p.1.4 = p.1.4 ∧ p.2.1 = p.2.1 ∧ p.2.2 = p.2.2 ∧ p.2.3 = p.2.3 ∧ p.2.4 = p.2.4 ∧ p.2.5 = p.2.5 ∧ p.2.6 = p.2.6 ∧ True ∧ True ∧ d.3 = d.3 ∧ True) ∧ ((1 : Nat) = (1 : Nat) ∧ ∀ (i : Nat), i < (1 : Nat) → d.2.1 = d.2.1 ∧ d.2.2 = d.2.2 ∧ d.2.3 = d.2.3 ∧ True) ∧ ((1 : Nat) = (1 : Nat) ∧ ∀ (i : Nat), i < (1 : Nat) → ((0 : Nat) = (0 : Nat) ∧ (0 : Nat) = (0 : Nat)) ∧ True) ∧ True ∧ True ∧ ((1 : Nat) = (1 : Nat) ∧ ∀ (i : Nat), i < (1 : Nat) → (True ∧ True) ∧ True) ∧ ((1 : Nat) = (1 : Nat) ∧ ∀ (i : Nat), i < (1 : Nat) → d.2.1 = d.2.1 ∧ d.2.2 = d.2.2 ∧ d.2.3 = d.2.3 ∧ True) ∧ (d.3 = d.3 ∧ ∀ (i : Nat), i < d.3 → d.4 i = d.4 i ∧ True) ∧ ((1 : Nat) = (1 : Nat) ∧ ∀ (i : Nat), i < (1 : Nat) → (p.3 ((0 : Nat) + d.1)).1 = (p.3 ((0 : Nat) + d.1)).1 ∧ (p.3 ((0 : Nat) + d.1)).2 = (p.3 ((0 : Nat) + d.1)).2 ∧ (p.3 ((0 : Nat) + d.1)).3 = (p.3 ((0 : Nat) + d.1)).3 ∧ True) ∧ True
theorem mainO_t0_t (p : MP) (d : MD) : mainO_t0 p d :=
  ⟨rfl, ⟨⟨⟨⟨⟨rfl, rfl⟩, ⟨⟨rfl, rfl⟩, trivial⟩⟩, ⟨rfl, ⟨rfl, rfl⟩⟩⟩, trivial⟩, ⟨⟨rfl, ⟨⟨rfl, rfl⟩, ⟨⟨rfl, rfl⟩, ⟨⟨rfl, rfl⟩, trivial⟩⟩⟩⟩, ⟨⟨rfl, (fun _ => (fun _ => ⟨rfl, ⟨rfl, ⟨rfl, trivial⟩⟩⟩))⟩, ⟨⟨rfl, (fun _ => (fun _ => ⟨rfl, trivial⟩))⟩, ⟨⟨rfl, (fun _ => (fun _ => ⟨rfl, ⟨rfl, ⟨rfl, trivial⟩⟩⟩))⟩, ⟨(List.Perm.refl _), ⟨(List.Perm.refl _), ⟨⟨rfl, (fun _ => (fun _ => ⟨rfl, ⟨rfl, ⟨rfl, ⟨rfl, ⟨rfl, ⟨rfl, ⟨rfl, ⟨rfl, ⟨rfl, ⟨rfl, ⟨trivial, ⟨trivial, ⟨rfl, trivial⟩⟩⟩⟩⟩⟩⟩⟩⟩⟩⟩⟩⟩))⟩, ⟨⟨rfl, (fun _ => (fun _ => ⟨rfl, ⟨rfl, ⟨rfl, trivial⟩⟩⟩))⟩, ⟨⟨rfl, (fun _ => (fun _ => ⟨⟨rfl, rfl⟩, trivial⟩))⟩, ⟨trivial, ⟨trivial, ⟨⟨rfl, (fun _ => (fun _ => ⟨⟨trivial, trivial⟩, trivial⟩))⟩, ⟨⟨rfl, (fun _ => (fun _ => ⟨rfl, ⟨rfl, ⟨rfl, trivial⟩⟩⟩))⟩, ⟨⟨rfl, (fun _ => (fun _ => ⟨rfl, trivial⟩))⟩, ⟨⟨rfl, (fun _ => (fun _ => ⟨rfl, ⟨rfl, ⟨rfl, trivial⟩⟩⟩))⟩, trivial⟩⟩⟩⟩⟩⟩⟩⟩⟩⟩⟩⟩⟩⟩⟩⟩⟩
def mainO_t1 (p : MP) (d : MD) (q : Sta) : Prop :=
  True ∧ (4 : Nat) = (4 : Nat) ∧ (((0 : Nat) = (0 : Nat) ∧ (0 : Nat) = (0 : Nat)) ∧ q.1 = q.1 ∧ ((p.3 ((0 : Nat) + d.1)).1 = (p.3 ((0 : Nat) + d.1)).1 ∧ (p.3 ((0 : Nat) + d.1)).2 = (p.3 ((0 : Nat) + d.1)).2 ∧ (p.3 ((0 : Nat) + d.1)).3 = (p.3 ((0 : Nat) + d.1)).3 ∧ True) ∧ True) ∧ ((1 : Nat) = (1 : Nat) ∧ ∀ (i : Nat), i < (1 : Nat) → p.1.1 = p.1.1 ∧ p.1.2 = p.1.2 ∧ p.1.3 = p.1.3 ∧ p.1.4 = p.1.4 ∧ p.2.1 = p.2.1 ∧ p.2.2 = p.2.2 ∧ p.2.3 = p.2.3 ∧ p.2.4 = p.2.4 ∧ p.2.5 = p.2.5 ∧ p.2.6 = p.2.6 ∧ True ∧ True ∧ ((0 : Nat) = (0 : Nat) ∧ d.3 = d.3) ∧ True) ∧ Leaf (duesE.Perm duesE) ∧ Leaf (effectsE.Perm effectsE) ∧ (d.3 = d.3 ∧ ∀ (i : Nat), i < d.3 → d.4 i = d.4 i ∧ True) ∧ True
theorem mainO_t1_t (p : MP) (d : MD) (q : Sta) : mainO_t1 p d q :=
  ⟨trivial, ⟨rfl, ⟨⟨⟨rfl, rfl⟩, ⟨rfl, ⟨⟨rfl, ⟨rfl, ⟨rfl, trivial⟩⟩⟩, trivial⟩⟩⟩, ⟨⟨rfl, (fun _ => (fun _ => ⟨rfl, ⟨rfl, ⟨rfl, ⟨rfl, ⟨rfl, ⟨rfl, ⟨rfl, ⟨rfl, ⟨rfl, ⟨rfl, ⟨trivial, ⟨trivial, ⟨⟨rfl, rfl⟩, trivial⟩⟩⟩⟩⟩⟩⟩⟩⟩⟩⟩⟩⟩))⟩, ⟨(List.Perm.refl _), ⟨(List.Perm.refl _), ⟨⟨rfl, (fun _ => (fun _ => ⟨rfl, trivial⟩))⟩, trivial⟩⟩⟩⟩⟩⟩⟩
def mainO_t2 : Prop :=
  (0 : Nat) = (0 : Nat) ∧ (0 : Nat) = (0 : Nat)
theorem mainO_t2_t : mainO_t2 :=
  ⟨rfl, rfl⟩
def mainO_t3 : Prop :=
  True ∧ ((0 : Nat) = (0 : Nat) ∧ (0 : Nat) = (0 : Nat)) ∧ ((0 : Nat) = (0 : Nat) ∧ (0 : Nat) = (0 : Nat)) ∧ ((0 : Nat) = (0 : Nat) ∧ (0 : Nat) = (0 : Nat)) ∧ True
theorem mainO_t3_t : mainO_t3 :=
  ⟨trivial, ⟨⟨rfl, rfl⟩, ⟨⟨rfl, rfl⟩, ⟨⟨rfl, rfl⟩, trivial⟩⟩⟩⟩
def mainO_t4 (p : MP) : Prop :=
  (0 : Nat) = (0 : Nat) ∧ p.4 = p.4
theorem mainO_t4_t (p : MP) : mainO_t4 p :=
  ⟨rfl, rfl⟩
def mainO_t5 (p : MP) (d : MD) (q : Sta) : Prop :=
  (p.4 = p.4 ∧ ∀ (i : Nat), i < p.4 → (p.3 i).1 = (p.3 i).1 ∧ (p.3 i).2 = (p.3 i).2 ∧ (p.3 i).3 = (p.3 i).3 ∧ True) ∧ ((1 : Nat) = (1 : Nat) ∧ ∀ (i : Nat), i < (1 : Nat) → p.5 = p.5 ∧ True) ∧ ((1 : Nat) = (1 : Nat) ∧ ∀ (i : Nat), i < (1 : Nat) → (0 : Int) = (0 : Int) ∧ (0 : Int) = (0 : Int) ∧ (0 : Int) = (0 : Int) ∧ True) ∧ Leaf (duesE.Perm duesE) ∧ Leaf (effectsE.Perm effectsE) ∧ ((1 : Nat) = (1 : Nat) ∧ ∀ (i : Nat), i < (1 : Nat) → p.1.1 = p.1.1 ∧ p.1.2 = p.1.2 ∧ p.1.3 = p.1.3 ∧ p.1.4 = p.1.4 ∧ p.2.1 = p.2.1 ∧ p.2.2 = p.2.2 ∧ p.2.3 = p.2.3 ∧ p.2.4 = p.2.4 ∧ p.2.5 = p.2.5 ∧ p.2.6 = p.2.6 ∧ True ∧ True ∧ d.3 + (1 : Nat) = d.3 + (1 : Nat) ∧ True) ∧ ((1 : Nat) = (1 : Nat) ∧ ∀ (i : Nat), i < (1 : Nat) → q.1 = q.1 ∧ q.2 = q.2 ∧ q.3 = q.3 ∧ True) ∧ ((1 : Nat) = (1 : Nat) ∧ ∀ (i : Nat), i < (1 : Nat) → ((0 : Nat) = (0 : Nat) ∧ (0 : Nat) = (0 : Nat)) ∧ True) ∧ True ∧ True ∧ ((1 : Nat) = (1 : Nat) ∧ ∀ (i : Nat), i < (1 : Nat) → (True ∧ True) ∧ True) ∧ ((1 : Nat) = (1 : Nat) ∧ ∀ (i : Nat), i < (1 : Nat) → q.1 = q.1 ∧ q.2 = q.2 ∧ q.3 = q.3 ∧ True) ∧ (d.3 + (1 : Nat) = d.3 + (1 : Nat) ∧ ∀ (i : Nat), i < d.3 + (1 : Nat) → ((bif decide (i < d.3) then d.4 i else Int.ofNat d.1) = bif decide (i < d.3) then d.4 i else Int.ofNat d.1) ∧ True) ∧ True
theorem mainO_t5_t (p : MP) (d : MD) (q : Sta) : mainO_t5 p d q :=
  ⟨⟨rfl, (fun _ => (fun _ => ⟨rfl, ⟨rfl, ⟨rfl, trivial⟩⟩⟩))⟩, ⟨⟨rfl, (fun _ => (fun _ => ⟨rfl, trivial⟩))⟩, ⟨⟨rfl, (fun _ => (fun _ => ⟨rfl, ⟨rfl, ⟨rfl, trivial⟩⟩⟩))⟩, ⟨(List.Perm.refl _), ⟨(List.Perm.refl _), ⟨⟨rfl, (fun _ => (fun _ => ⟨rfl, ⟨rfl, ⟨rfl, ⟨rfl, ⟨rfl, ⟨rfl, ⟨rfl, ⟨rfl, ⟨rfl, ⟨rfl, ⟨trivial, ⟨trivial, ⟨rfl, trivial⟩⟩⟩⟩⟩⟩⟩⟩⟩⟩⟩⟩⟩))⟩, ⟨⟨rfl, (fun _ => (fun _ => ⟨rfl, ⟨rfl, ⟨rfl, trivial⟩⟩⟩))⟩, ⟨⟨rfl, (fun _ => (fun _ => ⟨⟨rfl, rfl⟩, trivial⟩))⟩, ⟨trivial, ⟨trivial, ⟨⟨rfl, (fun _ => (fun _ => ⟨⟨trivial, trivial⟩, trivial⟩))⟩, ⟨⟨rfl, (fun _ => (fun _ => ⟨rfl, ⟨rfl, ⟨rfl, trivial⟩⟩⟩))⟩, ⟨⟨rfl, (fun _ => (fun _ => ⟨rfl, trivial⟩))⟩, trivial⟩⟩⟩⟩⟩⟩⟩⟩⟩⟩⟩⟩⟩
def mainO_t6 (p : MP) (d : MD) (q : Sta) : Prop :=
  True ∧ (4 : Nat) = (4 : Nat) ∧ (((0 : Nat) = (0 : Nat) ∧ (0 : Nat) = (0 : Nat)) ∧ afterN { number := p.2.1, src := p.2.2, dst := p.2.3, holder := p.2.4, asked := p.2.5, backed := p.2.6 } q.1 { kind := (p.3 ((0 : Nat) + d.1)).1, at' := (p.3 ((0 : Nat) + d.1)).2, reason := (p.3 ((0 : Nat) + d.1)).3 } = afterN { number := p.2.1, src := p.2.2, dst := p.2.3, holder := p.2.4, asked := p.2.5, backed := p.2.6 } q.1 { kind := (p.3 ((0 : Nat) + d.1)).1, at' := (p.3 ((0 : Nat) + d.1)).2, reason := (p.3 ((0 : Nat) + d.1)).3 } ∧ (p.3 ((0 : Nat) + d.1)).2 = (p.3 ((0 : Nat) + d.1)).2 ∧ True) ∧ ((1 : Nat) = (1 : Nat) ∧ ∀ (i : Nat), i < (1 : Nat) → p.1.1 = p.1.1 ∧ p.1.2 = p.1.2 ∧ p.1.3 = p.1.3 ∧ p.1.4 = p.1.4 ∧ p.2.1 = p.2.1 ∧ p.2.2 = p.2.2 ∧ p.2.3 = p.2.3 ∧ p.2.4 = p.2.4 ∧ p.2.5 = p.2.5 ∧ p.2.6 = p.2.6 ∧ True ∧ True ∧ ((0 : Nat) = (0 : Nat) ∧ d.3 = d.3) ∧ True) ∧ Leaf (duesE.Perm duesE) ∧ Leaf (effectsE.Perm effectsE) ∧ (d.3 = d.3 ∧ ∀ (i : Nat), i < d.3 → d.4 i = d.4 i ∧ True) ∧ True
theorem mainO_t6_t (p : MP) (d : MD) (q : Sta) : mainO_t6 p d q :=
  ⟨trivial, ⟨rfl, ⟨⟨⟨rfl, rfl⟩, ⟨rfl, ⟨rfl, trivial⟩⟩⟩, ⟨⟨rfl, (fun _ => (fun _ => ⟨rfl, ⟨rfl, ⟨rfl, ⟨rfl, ⟨rfl, ⟨rfl, ⟨rfl, ⟨rfl, ⟨rfl, ⟨rfl, ⟨trivial, ⟨trivial, ⟨⟨rfl, rfl⟩, trivial⟩⟩⟩⟩⟩⟩⟩⟩⟩⟩⟩⟩⟩))⟩, ⟨(List.Perm.refl _), ⟨(List.Perm.refl _), ⟨⟨rfl, (fun _ => (fun _ => ⟨rfl, trivial⟩))⟩, trivial⟩⟩⟩⟩⟩⟩⟩
def mainO_t7 (p : MP) (d : MD) (q : Sta) : Prop :=
  True ∧ (p.4 = p.4 ∧ ∀ (i : Nat), i < p.4 → (p.3 i).1 = (p.3 i).1 ∧ (p.3 i).2 = (p.3 i).2 ∧ (p.3 i).3 = (p.3 i).3 ∧ True) ∧ ((1 : Nat) = (1 : Nat) ∧ ∀ (i : Nat), i < (1 : Nat) → p.5 = p.5 ∧ True) ∧ ((1 : Nat) = (1 : Nat) ∧ ∀ (i : Nat), i < (1 : Nat) → (0 : Int) = (0 : Int) ∧ (0 : Int) = (0 : Int) ∧ (0 : Int) = (0 : Int) ∧ True) ∧ Leaf (duesE.Perm duesE) ∧ Leaf (effectsE.Perm effectsE) ∧ ((1 : Nat) = (1 : Nat) ∧ ∀ (i : Nat), i < (1 : Nat) → p.1.1 = p.1.1 ∧ p.1.2 = p.1.2 ∧ p.1.3 = p.1.3 ∧ p.1.4 = p.1.4 ∧ p.2.1 = p.2.1 ∧ p.2.2 = p.2.2 ∧ p.2.3 = p.2.3 ∧ p.2.4 = p.2.4 ∧ p.2.5 = p.2.5 ∧ p.2.6 = p.2.6 ∧ True ∧ True ∧ d.3 = d.3 ∧ True) ∧ ((1 : Nat) = (1 : Nat) ∧ ∀ (i : Nat), i < (1 : Nat) → q.1 = q.1 ∧ q.2 = q.2 ∧ q.3 = q.3 ∧ True) ∧ ((1 : Nat) = (1 : Nat) ∧ ∀ (i : Nat), i < (1 : Nat) → ((0 : Nat) = (0 : Nat) ∧ (0 : Nat) = (0 : Nat)) ∧ True) ∧ True ∧ Code.exit (0 : Nat) = Code.exit (0 : Nat) ∧ ((1 : Nat) = (1 : Nat) ∧ ∀ (i : Nat), i < (1 : Nat) → (True ∧ True) ∧ True) ∧ (d.3 = d.3 ∧ ∀ (i : Nat), i < d.3 → d.4 i = d.4 i ∧ True) ∧ True
theorem mainO_t7_t (p : MP) (d : MD) (q : Sta) : mainO_t7 p d q :=
  ⟨trivial, ⟨⟨rfl, (fun _ => (fun _ => ⟨rfl, ⟨rfl, ⟨rfl, trivial⟩⟩⟩))⟩, ⟨⟨rfl, (fun _ => (fun _ => ⟨rfl, trivial⟩))⟩, ⟨⟨rfl, (fun _ => (fun _ => ⟨rfl, ⟨rfl, ⟨rfl, trivial⟩⟩⟩))⟩, ⟨(List.Perm.refl _), ⟨(List.Perm.refl _), ⟨⟨rfl, (fun _ => (fun _ => ⟨rfl, ⟨rfl, ⟨rfl, ⟨rfl, ⟨rfl, ⟨rfl, ⟨rfl, ⟨rfl, ⟨rfl, ⟨rfl, ⟨trivial, ⟨trivial, ⟨rfl, trivial⟩⟩⟩⟩⟩⟩⟩⟩⟩⟩⟩⟩⟩))⟩, ⟨⟨rfl, (fun _ => (fun _ => ⟨rfl, ⟨rfl, ⟨rfl, trivial⟩⟩⟩))⟩, ⟨⟨rfl, (fun _ => (fun _ => ⟨⟨rfl, rfl⟩, trivial⟩))⟩, ⟨trivial, ⟨rfl, ⟨⟨rfl, (fun _ => (fun _ => ⟨⟨trivial, trivial⟩, trivial⟩))⟩, ⟨⟨rfl, (fun _ => (fun _ => ⟨rfl, trivial⟩))⟩, trivial⟩⟩⟩⟩⟩⟩⟩⟩⟩⟩⟩⟩⟩
def mainO_t8 (p : MP) (d : MD) (q : Sta) : Prop :=
  (p.4 = p.4 ∧ ∀ (i : Nat), i < p.4 → (p.3 i).1 = (p.3 i).1 ∧ (p.3 i).2 = (p.3 i).2 ∧ (p.3 i).3 = (p.3 i).3 ∧ True) ∧ ((1 : Nat) = (1 : Nat) ∧ ∀ (i : Nat), i < (1 : Nat) → p.5 = p.5 ∧ True) ∧ ((1 : Nat) = (1 : Nat) ∧ ∀ (i : Nat), i < (1 : Nat) → (0 : Int) = (0 : Int) ∧ (0 : Int) = (0 : Int) ∧ (0 : Int) = (0 : Int) ∧ True) ∧ Leaf (duesE.Perm duesE) ∧ Leaf (effectsE.Perm effectsE) ∧ ((1 : Nat) = (1 : Nat) ∧ ∀ (i : Nat), i < (1 : Nat) → p.1.1 = p.1.1 ∧ p.1.2 = p.1.2 ∧ p.1.3 = p.1.3 ∧ p.1.4 = p.1.4 ∧ p.2.1 = p.2.1 ∧ p.2.2 = p.2.2 ∧ p.2.3 = p.2.3 ∧ p.2.4 = p.2.4 ∧ p.2.5 = p.2.5 ∧ p.2.6 = p.2.6 ∧ True ∧ True ∧ d.3 = d.3 ∧ True) ∧ ((1 : Nat) = (1 : Nat) ∧ ∀ (i : Nat), i < (1 : Nat) → afterN { number := p.2.1, src := p.2.2, dst := p.2.3, holder := p.2.4, asked := p.2.5, backed := p.2.6 } q.1 { kind := (p.3 ((0 : Nat) + d.1)).1, at' := (p.3 ((0 : Nat) + d.1)).2, reason := (p.3 ((0 : Nat) + d.1)).3 } = afterN { number := p.2.1, src := p.2.2, dst := p.2.3, holder := p.2.4, asked := p.2.5, backed := p.2.6 } q.1 { kind := (p.3 ((0 : Nat) + d.1)).1, at' := (p.3 ((0 : Nat) + d.1)).2, reason := (p.3 ((0 : Nat) + d.1)).3 } ∧ (p.3 ((0 : Nat) + d.1)).2 = (p.3 ((0 : Nat) + d.1)).2 ∧ nextOf { answer := p.1.1, cooling := p.1.2, settle := p.1.3, reverse := p.1.4 } (afterN { number := p.2.1, src := p.2.2, dst := p.2.3, holder := p.2.4, asked := p.2.5, backed := p.2.6 } q.1 { kind := (p.3 ((0 : Nat) + d.1)).1, at' := (p.3 ((0 : Nat) + d.1)).2, reason := (p.3 ((0 : Nat) + d.1)).3 }) (p.3 ((0 : Nat) + d.1)).2 = nextOf { answer := p.1.1, cooling := p.1.2, settle := p.1.3, reverse := p.1.4 } (afterN { number := p.2.1, src := p.2.2, dst := p.2.3, holder := p.2.4, asked := p.2.5, backed := p.2.6 } q.1 { kind := (p.3 ((0 : Nat) + d.1)).1, at' := (p.3 ((0 : Nat) + d.1)).2, reason := (p.3 ((0 : Nat) + d.1)).3 }) (p.3 ((0 : Nat) + d.1)).2 ∧ True) ∧ ((1 : Nat) = (1 : Nat) ∧ ∀ (i : Nat), i < (1 : Nat) → ((0 : Nat) = (0 : Nat) ∧ (0 : Nat) = (0 : Nat)) ∧ True) ∧ True ∧ True ∧ ((1 : Nat) = (1 : Nat) ∧ ∀ (i : Nat), i < (1 : Nat) → (True ∧ True) ∧ True) ∧ ((1 : Nat) = (1 : Nat) ∧ ∀ (i : Nat), i < (1 : Nat) → afterN { number := p.2.1, src := p.2.2, dst := p.2.3, holder := p.2.4, asked := p.2.5, backed := p.2.6 } q.1 { kind := (p.3 ((0 : Nat) + d.1)).1, at' := (p.3 ((0 : Nat) + d.1)).2, reason := (p.3 ((0 : Nat) + d.1)).3 } = afterN { number := p.2.1, src := p.2.2, dst := p.2.3, holder := p.2.4, asked := p.2.5, backed := p.2.6 } q.1 { kind := (p.3 ((0 : Nat) + d.1)).1, at' := (p.3 ((0 : Nat) + d.1)).2, reason := (p.3 ((0 : Nat) + d.1)).3 } ∧ (p.3 ((0 : Nat) + d.1)).2 = (p.3 ((0 : Nat) + d.1)).2 ∧ nextOf { answer := p.1.1, cooling := p.1.2, settle := p.1.3, reverse := p.1.4 } (afterN { number := p.2.1, src := p.2.2, dst := p.2.3, holder := p.2.4, asked := p.2.5, backed := p.2.6 } q.1 { kind := (p.3 ((0 : Nat) + d.1)).1, at' := (p.3 ((0 : Nat) + d.1)).2, reason := (p.3 ((0 : Nat) + d.1)).3 }) (p.3 ((0 : Nat) + d.1)).2 = nextOf { answer := p.1.1, cooling := p.1.2, settle := p.1.3, reverse := p.1.4 } (afterN { number := p.2.1, src := p.2.2, dst := p.2.3, holder := p.2.4, asked := p.2.5, backed := p.2.6 } q.1 { kind := (p.3 ((0 : Nat) + d.1)).1, at' := (p.3 ((0 : Nat) + d.1)).2, reason := (p.3 ((0 : Nat) + d.1)).3 }) (p.3 ((0 : Nat) + d.1)).2 ∧ True) ∧ (d.3 = d.3 ∧ ∀ (i : Nat), i < d.3 → d.4 i = d.4 i ∧ True) ∧ True
theorem mainO_t8_t (p : MP) (d : MD) (q : Sta) : mainO_t8 p d q :=
  ⟨⟨rfl, (fun _ => (fun _ => ⟨rfl, ⟨rfl, ⟨rfl, trivial⟩⟩⟩))⟩, ⟨⟨rfl, (fun _ => (fun _ => ⟨rfl, trivial⟩))⟩, ⟨⟨rfl, (fun _ => (fun _ => ⟨rfl, ⟨rfl, ⟨rfl, trivial⟩⟩⟩))⟩, ⟨(List.Perm.refl _), ⟨(List.Perm.refl _), ⟨⟨rfl, (fun _ => (fun _ => ⟨rfl, ⟨rfl, ⟨rfl, ⟨rfl, ⟨rfl, ⟨rfl, ⟨rfl, ⟨rfl, ⟨rfl, ⟨rfl, ⟨trivial, ⟨trivial, ⟨rfl, trivial⟩⟩⟩⟩⟩⟩⟩⟩⟩⟩⟩⟩⟩))⟩, ⟨⟨rfl, (fun _ => (fun _ => ⟨rfl, ⟨rfl, ⟨rfl, trivial⟩⟩⟩))⟩, ⟨⟨rfl, (fun _ => (fun _ => ⟨⟨rfl, rfl⟩, trivial⟩))⟩, ⟨trivial, ⟨trivial, ⟨⟨rfl, (fun _ => (fun _ => ⟨⟨trivial, trivial⟩, trivial⟩))⟩, ⟨⟨rfl, (fun _ => (fun _ => ⟨rfl, ⟨rfl, ⟨rfl, trivial⟩⟩⟩))⟩, ⟨⟨rfl, (fun _ => (fun _ => ⟨rfl, trivial⟩))⟩, trivial⟩⟩⟩⟩⟩⟩⟩⟩⟩⟩⟩⟩⟩
def mainO_t9 (p : MP) (d : MD) : Prop :=
  ((True ∧ ((0 : Nat) = (0 : Nat) ∧ (0 : Nat) = (0 : Nat)) ∧ ((0 : Nat) = (0 : Nat) ∧ (0 : Nat) = (0 : Nat)) ∧ ((0 : Nat) = (0 : Nat) ∧ (0 : Nat) = (0 : Nat)) ∧ True) ∧ True) ∧ (p.4 = p.4 ∧ ∀ (i : Nat), i < p.4 → (p.3 i).1 = (p.3 i).1 ∧ (p.3 i).2 = (p.3 i).2 ∧ (p.3 i).3 = (p.3 i).3 ∧ True) ∧ ((1 : Nat) = (1 : Nat) ∧ ∀ (i : Nat), i < (1 : Nat) → p.5 = p.5 ∧ True) ∧ ((1 : Nat) = (1 : Nat) ∧ ∀ (i : Nat), i < (1 : Nat) → (0 : Int) = (0 : Int) ∧ (0 : Int) = (0 : Int) ∧ (0 : Int) = (0 : Int) ∧ True) ∧ Leaf (duesE.Perm duesE) ∧ Leaf (effectsE.Perm effectsE) ∧ ((1 : Nat) = (1 : Nat) ∧ ∀ (i : Nat), i < (1 : Nat) → p.1.1 = p.1.1 ∧ p.1.2 = p.1.2 ∧ p.1.3 = p.1.3 ∧ p.1.4 = p.1.4 ∧ p.2.1 = p.2.1 ∧ p.2.2 = p.2.2 ∧ p.2.3 = p.2.3 ∧ p.2.4 = p.2.4 ∧ p.2.5 = p.2.5 ∧ p.2.6 = p.2.6 ∧ True ∧ True ∧ d.3 = d.3 ∧ True) ∧ ((1 : Nat) = (1 : Nat) ∧ ∀ (i : Nat), i < (1 : Nat) → d.2.1 = d.2.1 ∧ d.2.2 = d.2.2 ∧ d.2.3 = d.2.3 ∧ True) ∧ ((1 : Nat) = (1 : Nat) ∧ ∀ (i : Nat), i < (1 : Nat) → ((0 : Nat) = (0 : Nat) ∧ (0 : Nat) = (0 : Nat)) ∧ True) ∧ True ∧ True ∧ ((1 : Nat) = (1 : Nat) ∧ ∀ (i : Nat), i < (1 : Nat) → (True ∧ True) ∧ True) ∧ ((1 : Nat) = (1 : Nat) ∧ ∀ (i : Nat), i < (1 : Nat) → d.2.1 = d.2.1 ∧ d.2.2 = d.2.2 ∧ d.2.3 = d.2.3 ∧ True) ∧ (d.3 = d.3 ∧ ∀ (i : Nat), i < d.3 → d.4 i = d.4 i ∧ True) ∧ True
theorem mainO_t9_t (p : MP) (d : MD) : mainO_t9 p d :=
  ⟨⟨⟨trivial, ⟨⟨rfl, rfl⟩, ⟨⟨rfl, rfl⟩, ⟨⟨rfl, rfl⟩, trivial⟩⟩⟩⟩, trivial⟩, ⟨⟨rfl, (fun _ => (fun _ => ⟨rfl, ⟨rfl, ⟨rfl, trivial⟩⟩⟩))⟩, ⟨⟨rfl, (fun _ => (fun _ => ⟨rfl, trivial⟩))⟩, ⟨⟨rfl, (fun _ => (fun _ => ⟨rfl, ⟨rfl, ⟨rfl, trivial⟩⟩⟩))⟩, ⟨(List.Perm.refl _), ⟨(List.Perm.refl _), ⟨⟨rfl, (fun _ => (fun _ => ⟨rfl, ⟨rfl, ⟨rfl, ⟨rfl, ⟨rfl, ⟨rfl, ⟨rfl, ⟨rfl, ⟨rfl, ⟨rfl, ⟨trivial, ⟨trivial, ⟨rfl, trivial⟩⟩⟩⟩⟩⟩⟩⟩⟩⟩⟩⟩⟩))⟩, ⟨⟨rfl, (fun _ => (fun _ => ⟨rfl, ⟨rfl, ⟨rfl, trivial⟩⟩⟩))⟩, ⟨⟨rfl, (fun _ => (fun _ => ⟨⟨rfl, rfl⟩, trivial⟩))⟩, ⟨trivial, ⟨trivial, ⟨⟨rfl, (fun _ => (fun _ => ⟨⟨trivial, trivial⟩, trivial⟩))⟩, ⟨⟨rfl, (fun _ => (fun _ => ⟨rfl, ⟨rfl, ⟨rfl, trivial⟩⟩⟩))⟩, ⟨⟨rfl, (fun _ => (fun _ => ⟨rfl, trivial⟩))⟩, trivial⟩⟩⟩⟩⟩⟩⟩⟩⟩⟩⟩⟩⟩⟩
def mainO_T (p : MP) (d : MD) : Prop :=
  ifB (decide (Int.ofNat d.1 < Int.ofNat p.4)) (ifB (decide (Int.ofNat d.1 < (↑p.4 : Int))) (ifB (decide ((0 : Nat) + d.1 < p.4) && true) ((lI true).code = (lI true).code ∧ (lI_J { r := { answer := p.1.1, cooling := p.1.2, settle := p.1.3, reverse := p.1.4 }, c := { number := p.2.1, src := p.2.2, dst := p.2.3, holder := p.2.4, asked := p.2.5, backed := p.2.6 }, E := fun (i : Nat) => { kind := (p.3 i).1, at' := (p.3 i).2, reason := (p.3 i).3 }, n := p.4, t := p.5, u := (p.3 ((0 : Nat) + d.1)).2, k := d.3, V := fun (i : Nat) => d.4 i, e := { kind := (p.3 ((0 : Nat) + d.1)).1, at' := (p.3 ((0 : Nat) + d.1)).2, reason := (p.3 ((0 : Nat) + d.1)).3 }, a := { state := d.2.1, since := d.2.2, next := d.2.3 } } { state := d.2.1, since := d.2.2, next := d.2.3 } ∧ mainO_t0 p d) ∧ (True ∧ ∀ (q : Sta), Leaf (aloneT { answer := p.1.1, cooling := p.1.2, settle := p.1.3, reverse := p.1.4 } p.5 (p.3 ((0 : Nat) + d.1)).2 (4 : Nat) { state := d.2.1, since := d.2.2, next := d.2.3 } = (false, q) ∧ Sta.ok { answer := p.1.1, cooling := p.1.2, settle := p.1.3, reverse := p.1.4 } q) → mainO_t1 p d q ∧ ifB (!afterB { number := p.2.1, src := p.2.2, dst := p.2.3, holder := p.2.4, asked := p.2.5, backed := p.2.6 } q.1 { kind := (p.3 ((0 : Nat) + d.1)).1, at' := (p.3 ((0 : Nat) + d.1)).2, reason := (p.3 ((0 : Nat) + d.1)).3 }) (ifB (decide (d.3 ≤ d.3) && decide ((d.3 + (1 : Nat)) * (8 : Nat) ≤ (140737488355328 : Nat))) (Leaf (d.i < p.n) ∧ Leaf (evT p.r p.c p.t d.now (p.E d.i) = (false, { state := q.1, since := q.2, next := q.3 })) ∧ Leaf (Sta.ok p.r { state := q.1, since := q.2, next := q.3 }) ∧ Leaf (d.3 + (1 : Nat) ≤ d.i + (1 : Nat)) ∧ ((True ∧ True) ∧ mainO_t2 ∧ mainO_t2 ∧ mainO_t2 ∧ mainO_t3 ∧ mainO_t4 p ∧ Int.ofNat p.4 = Int.ofNat p.4 ∧ Int.ofNat (d.1 + (1 : Nat)) = IntKind.i64.wrap (Int.ofNat (d.1 + (1 : Nat))) ∧ True) ∧ mainO_t5 p d q) False ∧ ifB (decide (d.3 ≤ d.3) && decide ((d.3 + (1 : Nat)) * (8 : Nat) ≤ (140737488355328 : Nat))) (Leaf (d.i < p.n) ∧ Leaf (evT p.r p.c p.t d.now (p.E d.i) = (false, { state := q.1, since := q.2, next := q.3 })) ∧ Leaf (Sta.ok p.r { state := q.1, since := q.2, next := q.3 }) ∧ Leaf (d.3 + (1 : Nat) ≤ d.i + (1 : Nat)) ∧ ((True ∧ True) ∧ mainO_t2 ∧ mainO_t2 ∧ mainO_t2 ∧ mainO_t3 ∧ mainO_t4 p ∧ Int.ofNat p.4 = Int.ofNat p.4 ∧ Int.ofNat (d.1 + (1 : Nat)) = IntKind.i64.wrap (Int.ofNat (d.1 + (1 : Nat))) ∧ True) ∧ mainO_t5 p d q) False ∧ ifB (decide (d.3 ≤ d.3) && decide ((d.3 + (1 : Nat)) * (8 : Nat) ≤ (140737488355328 : Nat))) (Leaf (d.i < p.n) ∧ Leaf (evT p.r p.c p.t d.now (p.E d.i) = (false, { state := q.1, since := q.2, next := q.3 })) ∧ Leaf (Sta.ok p.r { state := q.1, since := q.2, next := q.3 }) ∧ Leaf (d.3 + (1 : Nat) ≤ d.i + (1 : Nat)) ∧ ((True ∧ True) ∧ mainO_t2 ∧ mainO_t2 ∧ mainO_t2 ∧ mainO_t3 ∧ mainO_t4 p ∧ Int.ofNat p.4 = Int.ofNat p.4 ∧ Int.ofNat (d.1 + (1 : Nat)) = IntKind.i64.wrap (Int.ofNat (d.1 + (1 : Nat))) ∧ True) ∧ mainO_t5 p d q) False) (mainO_t6 p d q ∧ ifB (decide ((p.3 ((0 : Nat) + d.1)).2 > p.5)) (Leaf (d.i < p.n) ∧ Leaf (evT p.r p.c p.t d.now (p.E d.i) = (true, { state := q.1, since := q.2, next := q.3 })) ∧ mainO_t7 p d q) (Leaf (d.i < p.n) ∧ Leaf (evT p.r p.c p.t d.now (p.E d.i) = (false, { state := afterN { number := p.2.1, src := p.2.2, dst := p.2.3, holder := p.2.4, asked := p.2.5, backed := p.2.6 } q.1 { kind := (p.3 ((0 : Nat) + d.1)).1, at' := (p.3 ((0 : Nat) + d.1)).2, reason := (p.3 ((0 : Nat) + d.1)).3 }, since := (p.3 ((0 : Nat) + d.1)).2, next := nextOf { answer := p.1.1, cooling := p.1.2, settle := p.1.3, reverse := p.1.4 } (afterN { number := p.2.1, src := p.2.2, dst := p.2.3, holder := p.2.4, asked := p.2.5, backed := p.2.6 } q.1 { kind := (p.3 ((0 : Nat) + d.1)).1, at' := (p.3 ((0 : Nat) + d.1)).2, reason := (p.3 ((0 : Nat) + d.1)).3 }) (p.3 ((0 : Nat) + d.1)).2 })) ∧ Leaf (Sta.ok p.r { state := afterN { number := p.2.1, src := p.2.2, dst := p.2.3, holder := p.2.4, asked := p.2.5, backed := p.2.6 } q.1 { kind := (p.3 ((0 : Nat) + d.1)).1, at' := (p.3 ((0 : Nat) + d.1)).2, reason := (p.3 ((0 : Nat) + d.1)).3 }, since := (p.3 ((0 : Nat) + d.1)).2, next := nextOf { answer := p.1.1, cooling := p.1.2, settle := p.1.3, reverse := p.1.4 } (afterN { number := p.2.1, src := p.2.2, dst := p.2.3, holder := p.2.4, asked := p.2.5, backed := p.2.6 } q.1 { kind := (p.3 ((0 : Nat) + d.1)).1, at' := (p.3 ((0 : Nat) + d.1)).2, reason := (p.3 ((0 : Nat) + d.1)).3 }) (p.3 ((0 : Nat) + d.1)).2 }) ∧ Leaf (d.3 ≤ d.i + (1 : Nat)) ∧ ((True ∧ True) ∧ mainO_t2 ∧ mainO_t2 ∧ mainO_t2 ∧ mainO_t3 ∧ mainO_t4 p ∧ Int.ofNat p.4 = Int.ofNat p.4 ∧ Int.ofNat (d.1 + (1 : Nat)) = IntKind.i64.wrap (Int.ofNat (d.1 + (1 : Nat))) ∧ True) ∧ mainO_t8 p d q))) ∧ ∀ (q : Sta), Leaf (aloneT { answer := p.1.1, cooling := p.1.2, settle := p.1.3, reverse := p.1.4 } p.5 (p.3 ((0 : Nat) + d.1)).2 (4 : Nat) { state := d.2.1, since := d.2.2, next := d.2.3 } = (true, q)) → Leaf (d.i < p.n) ∧ Leaf (evT p.r p.c p.t d.now (p.E d.i) = (true, { state := q.1, since := q.2, next := q.3 })) ∧ mainO_t7 p d q) False) False) (Leaf (p.n ≤ d.i) ∧ mainO_t9 p d)
theorem mainO_eq (p : MP) (d : MD) : exec X3 80 60 lM.code (lM.I p d) (zM p d) = mainO_T p d := by kernel_rfl

theorem rank_le (s : Int) : rank s ≤ 4 := by unfold rank; split <;> (try omega); split <;> (try omega); split <;> (try omega); split <;> omega
theorem outOf_spec {S : SS} {K : Sta → Nat → (Nat → Int) → Nat → Prop} (h : outOf S K) : ∃ o k V l, K o k V l := by
  unfold outOf at h
  split at h <;> try exact h.elim
  split at h <;> try exact h.elim
  split at h <;> try exact h.elim
  exact ⟨_, _, _, _, h⟩
theorem runT_stop {r : Rul} {c : Clm} {t : Int} {E : Nat → Evt} {a o : Sta} {i : Nat} (h : runT r c t E a i = (true, o)) : ∀ n, i ≤ n → runT r c t E a n = (true, o)
  | 0, hn => by
    have : i = 0 := by omega
    subst this; exact h
  | n + 1, hn => by
    rcases Nat.lt_or_ge n i with hl | hl
    · have : i = n + 1 := by omega
      subst this; exact h
    · rw [runT, runT_stop h n hl]
theorem wrapSmall {n : Int} (h : 0 ≤ n) (h' : n ≤ 1000000000) : IntKind.i64.wrap n = n := by rw [IntKind.wrap_i64]; omega

theorem mainO_step (p : MP) (d : MD) (hJ : lM_J p d) : mainO_T p d := by
  obtain ⟨h1, h2, h3, h4, h5⟩ := hJ
  unfold mainO_T
  repeat' (first | with_reducible refine ifB_split (fun _ => ?_) (fun _ => ?_) | with_reducible refine And.intro ?_ ?_)
  all_goals try first | with_reducible exact mainO_t0_t _ _ | with_reducible exact mainO_t1_t _ _ _ | with_reducible exact mainO_t2_t | with_reducible exact mainO_t3_t | with_reducible exact mainO_t4_t _ | with_reducible exact mainO_t5_t _ _ _ | with_reducible exact mainO_t6_t _ _ _ | with_reducible exact mainO_t7_t _ _ _ | with_reducible exact mainO_t8_t _ _ _ | with_reducible exact mainO_t9_t _ _ | with_reducible rfl | with_reducible exact trivial | with_reducible exact List.Perm.refl _
  all_goals try (intro q hq; first | obtain ⟨hq1, hq2⟩ := hq | have hq1 := hq)
  all_goals
    repeat' (first | with_reducible refine ifB_split (fun _ => ?_) (fun _ => ?_) | with_reducible refine And.intro ?_ ?_)
  all_goals try first | with_reducible exact mainO_t0_t _ _ | with_reducible exact mainO_t1_t _ _ _ | with_reducible exact mainO_t2_t | with_reducible exact mainO_t3_t | with_reducible exact mainO_t4_t _ | with_reducible exact mainO_t5_t _ _ _ | with_reducible exact mainO_t6_t _ _ _ | with_reducible exact mainO_t7_t _ _ _ | with_reducible exact mainO_t8_t _ _ _ | with_reducible exact mainO_t9_t _ _ | with_reducible rfl | with_reducible exact trivial | with_reducible exact List.Perm.refl _
  all_goals simp only [Nat.zero_add, Leaf, Int.ofNat_eq_natCast, decide_eq_true_eq, decide_eq_false_iff_not, Bool.and_eq_true, Bool.not_eq_true', Bool.not_eq_true, Bool.not_eq_false'] at *
  all_goals first
    | omega
    | exact ⟨⟨4, rank_le _, rfl⟩, h4⟩
    | (rw [wrapSmall (by omega) (by omega)]; done)
    | (simp_all [evT]; done)
    | (simp_all [evT]; omega)
    | (simp_all [evT, Sta.ok, begins]; done)
    | (exfalso; simp_all; omega)
    | (rename_i hb hl; simp only [evT, hq1, hb]; rw [decide_eq_false (by omega)]; rfl)

set_option maxRecDepth 100000 in
theorem mainO_ok : LoopOK X3.P lM.code lM.L := by
  refine lM.ok X3_ok 80 60 (fun p d => p.n - d.i) zM (fun _ _ _ => ⟨⟨rfl, rfl, rfl, rfl⟩, trivial⟩) (fun p d w q hw => ?_) (fun p d S' hJ h => ?_) (fun p d x S' hx hJ h => ?_) fun p d hJ => ?_
  · match w, hw with
    | 0, _ => exact ⟨⟨rfl, rfl, rfl, rfl⟩, trivial⟩
    | 1, _ => exact ⟨⟨rfl, rfl, rfl, rfl⟩, trivial⟩
  · unfold zM at h; dsimp only at h
    obtain ⟨o, k, V, l, h1, h2, h3, h4, h5⟩ := outOf_spec h
    simp only [Leaf] at h1 h2 h3 h4
    obtain ⟨j1, j2, j3, j4, j5⟩ := hJ
    split at h5 <;> try exact h5.elim
    refine ⟨_, ⟨d.i + 1, o, k, V⟩, ?_, ⟨?_, j2, ?_, h3, ?_⟩, h5⟩
    · show p.n - (d.i + 1) < p.n - d.i
      omega
    · show d.i + 1 ≤ p.n
      omega
    · show runT _ _ _ _ _ (d.i + 1) = (false, o)
      rw [runT, j3]; exact h2
    · show k ≤ d.i + 1
      exact h4
  · obtain ⟨j1, j2, j3, j4, j5⟩ := hJ
    cases x with
    | normal => exact hx.elim
    | ret =>
      unfold zM at h; dsimp only at h
      obtain ⟨o, k, V, l, h1, h2, h3⟩ := outOf_spec h
      simp only [Leaf] at h1 h2
      refine ⟨1, ⟨0, o, k, V⟩, _, by decide, ?_, rfl, h3⟩
      refine runT_stop (i := d.i + 1) ?_ _ h1
      rw [runT, j3]; exact h2
    | exit k =>
      obtain ⟨h0, h1, h2⟩ := gateB_spec h
      have h0 := Nat.eq_of_beq_eq_true h0
      subst h0
      simp only [Leaf] at h1
      have : d.i = p.n := by omega
      refine ⟨0, d, _, by decide, ⟨?_, j4⟩, rfl, h2⟩
      rw [← this]; exact j3
  · rw [mainO_eq]
    exact mainO_step p d hJ
end Go.Proofs.Ytmcidfecepknpaa

namespace Go.Proofs.Ytmcidfecepknpaa
open Go Go.Sh Go.Proofs
set_option linter.unusedVariables false

def exM (S : SS) : Option (MP × MD × Ren) := match S.get 4 with
  | .ptr ln _ _ => match arrOf S.heap 0, arrOf S.heap 3, arrOf S.heap 9, arrOf S.heap ln with
    | some (n, E), some (_, t), some (_, m), some (_, a) => match machOf (m 0) with
      | some (r, c) => some (⟨r, c, fun i => Evt.of (E i), n, intOf (t 0), Sta.ofC (a 0)⟩, ⟨0, Sta.ofC (a 0), 0, fun _ => 0⟩, [some ln, none])
      | none => none
    | _, _, _, _ => none
  | _ => none
noncomputable def X4 : Ctx := X3.loop 60 5 lM.code (lM.by exM)
theorem X4_ok : X4.OK := Ctx.loop_ok X3_ok (mainO_ok.by exM)

structure OP where
  r : Rul
  c : Clm
  E : Nat → Evt
  n : Nat
  t : Int
def OP.cp (p : OP) : CP := ⟨p.r, p.c, p.E, p.n⟩
/-- Is the question right? -/
def OP.ok (p : OP) : Bool := p.cp.ok && (decide (0 ≤ p.t) && decide (p.t ≤ 20000000))
/-- The outcome of a right question. -/
def outT (p : OP) : Sta := match decide (p.t < p.c.asked) with
  | true => ⟨0, 0, p.c.asked⟩
  | false => match runT p.r p.c p.t p.E (begins p.r 1 p.c.asked) p.n with
    | (true, o) => o
    | (false, s) => (aloneT p.r p.t 4611686018427387904 4 s).2
def outcome (p : OP) : Sta := match p.ok with | true => outT p | false => ⟨0, 0, 0⟩
def outErr (p : OP) : Int := match p.ok with | true => 0 | false => 160
def sOutcome : FSpec OP := { J := fun _ => True, A := fun p => [p.r.sv, p.c.sv, .sl 0 0 p.n, iv p.t], H := fun p => [some (evO p.n p.E)], R := fun p => .tup [.agg (outcome p).cells, iv (outErr p)], O := fun _ => [] }
end Go.Proofs.Ytmcidfecepknpaa

namespace Go.Proofs.Ytmcidfecepknpaa
open Go Go.Sh Go.Proofs
set_option linter.unusedVariables false
set_option linter.unusedSimpArgs false
def outc_t0 (p : OP) : Prop :=
  True ∧ (1 : Nat) = (1 : Nat) ∧ ((p.1.1 = p.1.1 ∧ p.1.2 = p.1.2 ∧ p.1.3 = p.1.3 ∧ p.1.4 = p.1.4 ∧ True) ∧ (p.2.1 = p.2.1 ∧ p.2.2 = p.2.2 ∧ p.2.3 = p.2.3 ∧ p.2.4 = p.2.4 ∧ p.2.5 = p.2.5 ∧ p.2.6 = p.2.6 ∧ True) ∧ ((0 : Nat) = (0 : Nat) ∧ p.4 = p.4) ∧ True) ∧ (p.4 = p.4 ∧ ∀ (i : Nat), i < p.4 → (p.3 i).1 = (p.3 i).1 ∧ (p.3 i).2 = (p.3 i).2 ∧ (p.3 i).3 = (p.3 i).3 ∧ True) ∧ True
theorem outc_t0_t (p : OP) : outc_t0 p :=
  ⟨trivial, ⟨rfl, ⟨⟨⟨rfl, ⟨rfl, ⟨rfl, ⟨rfl, trivial⟩⟩⟩⟩, ⟨⟨rfl, ⟨rfl, ⟨rfl, ⟨rfl, ⟨rfl, ⟨rfl, trivial⟩⟩⟩⟩⟩⟩, ⟨⟨rfl, rfl⟩, trivial⟩⟩⟩, ⟨⟨rfl, (fun _ => (fun _ => ⟨rfl, ⟨rfl, ⟨rfl, trivial⟩⟩⟩))⟩, trivial⟩⟩⟩⟩
def outc_t1 : Prop :=
  True ∧ (0 : Nat) = (0 : Nat) ∧ True ∧ True
theorem outc_t1_t : outc_t1 :=
  ⟨trivial, ⟨rfl, ⟨trivial, trivial⟩⟩⟩
def outc_t2 (p : OP) : Prop :=
  True ∧ (4 : Nat) = (4 : Nat) ∧ (((0 : Nat) = (0 : Nat) ∧ (0 : Nat) = (0 : Nat)) ∧ (1 : Int) = (1 : Int) ∧ p.2.5 = p.2.5 ∧ True) ∧ ((1 : Nat) = (1 : Nat) ∧ ∀ (i : Nat), i < (1 : Nat) → p.1.1 = p.1.1 ∧ p.1.2 = p.1.2 ∧ p.1.3 = p.1.3 ∧ p.1.4 = p.1.4 ∧ p.2.1 = p.2.1 ∧ p.2.2 = p.2.2 ∧ p.2.3 = p.2.3 ∧ p.2.4 = p.2.4 ∧ p.2.5 = p.2.5 ∧ p.2.6 = p.2.6 ∧ True ∧ True ∧ (0 : Nat) = (0 : Nat) ∧ True) ∧ Leaf (duesE.Perm duesE) ∧ Leaf (effectsE.Perm effectsE) ∧ (0 : Nat) = (0 : Nat) ∧ True
theorem outc_t2_t (p : OP) : outc_t2 p :=
  ⟨trivial, ⟨rfl, ⟨⟨⟨rfl, rfl⟩, ⟨rfl, ⟨rfl, trivial⟩⟩⟩, ⟨⟨rfl, (fun _ => (fun _ => ⟨rfl, ⟨rfl, ⟨rfl, ⟨rfl, ⟨rfl, ⟨rfl, ⟨rfl, ⟨rfl, ⟨rfl, ⟨rfl, ⟨trivial, ⟨trivial, ⟨rfl, trivial⟩⟩⟩⟩⟩⟩⟩⟩⟩⟩⟩⟩⟩))⟩, ⟨(List.Perm.refl _), ⟨(List.Perm.refl _), ⟨rfl, trivial⟩⟩⟩⟩⟩⟩⟩
def outc_t3 (p : OP) : Prop :=
  (18 : Nat) = (18 : Nat) ∧ (((((0 : Nat) = (0 : Nat) ∧ (0 : Nat) = (0 : Nat)) ∧ ((0 : Nat) = (0 : Nat) ∧ (0 : Nat) = (0 : Nat)) ∧ True) ∧ [(35 : Tmp)] = [(35 : Tmp)] ∧ asg14 = asg14 ∧ body14 = body14) ∧ True) ∧ ((True ∧ True) ∧ ((0 : Nat) = (0 : Nat) ∧ (0 : Nat) = (0 : Nat)) ∧ ((0 : Nat) = (0 : Nat) ∧ (0 : Nat) = (0 : Nat)) ∧ ((0 : Nat) = (0 : Nat) ∧ (0 : Nat) = (0 : Nat)) ∧ (True ∧ ((0 : Nat) = (0 : Nat) ∧ (0 : Nat) = (0 : Nat)) ∧ ((0 : Nat) = (0 : Nat) ∧ (0 : Nat) = (0 : Nat)) ∧ ((0 : Nat) = (0 : Nat) ∧ (0 : Nat) = (0 : Nat)) ∧ True) ∧ ((0 : Nat) = (0 : Nat) ∧ p.4 = p.4) ∧ Int.ofNat p.4 = Int.ofNat p.4 ∧ (0 : Int) = (0 : Int) ∧ True) ∧ (p.4 = p.4 ∧ ∀ (i : Nat), i < p.4 → (p.3 i).1 = (p.3 i).1 ∧ (p.3 i).2 = (p.3 i).2 ∧ (p.3 i).3 = (p.3 i).3 ∧ True) ∧ ((1 : Nat) = (1 : Nat) ∧ ∀ (i : Nat), i < (1 : Nat) → p.5 = p.5 ∧ True) ∧ ((1 : Nat) = (1 : Nat) ∧ ∀ (i : Nat), i < (1 : Nat) → (0 : Int) = (0 : Int) ∧ (0 : Int) = (0 : Int) ∧ (0 : Int) = (0 : Int) ∧ True) ∧ Leaf (duesE.Perm duesE) ∧ Leaf (effectsE.Perm effectsE) ∧ ((1 : Nat) = (1 : Nat) ∧ ∀ (i : Nat), i < (1 : Nat) → p.1.1 = p.1.1 ∧ p.1.2 = p.1.2 ∧ p.1.3 = p.1.3 ∧ p.1.4 = p.1.4 ∧ p.2.1 = p.2.1 ∧ p.2.2 = p.2.2 ∧ p.2.3 = p.2.3 ∧ p.2.4 = p.2.4 ∧ p.2.5 = p.2.5 ∧ p.2.6 = p.2.6 ∧ True ∧ True ∧ (0 : Nat) = (0 : Nat) ∧ True) ∧ ((1 : Nat) = (1 : Nat) ∧ ∀ (i : Nat), i < (1 : Nat) → (1 : Int) = (1 : Int) ∧ p.2.5 = p.2.5 ∧ w64 (p.2.5 + p.1.1) = w64 (p.2.5 + p.1.1) ∧ True) ∧ ((1 : Nat) = (1 : Nat) ∧ ∀ (i : Nat), i < (1 : Nat) → ((0 : Nat) = (0 : Nat) ∧ (0 : Nat) = (0 : Nat)) ∧ True) ∧ True ∧ True ∧ ((1 : Nat) = (1 : Nat) ∧ ∀ (i : Nat), i < (1 : Nat) → (True ∧ True) ∧ True) ∧ ((1 : Nat) = (1 : Nat) ∧ ∀ (i : Nat), i < (1 : Nat) → (1 : Int) = (1 : Int) ∧ p.2.5 = p.2.5 ∧ w64 (p.2.5 + p.1.1) = w64 (p.2.5 + p.1.1) ∧ True) ∧ (0 : Nat) = (0 : Nat) ∧ True
theorem outc_t3_t (p : OP) : outc_t3 p :=
  ⟨rfl, ⟨⟨⟨⟨⟨rfl, rfl⟩, ⟨⟨rfl, rfl⟩, trivial⟩⟩, ⟨rfl, ⟨rfl, rfl⟩⟩⟩, trivial⟩, ⟨⟨⟨trivial, trivial⟩, ⟨⟨rfl, rfl⟩, ⟨⟨rfl, rfl⟩, ⟨⟨rfl, rfl⟩, ⟨⟨trivial, ⟨⟨rfl, rfl⟩, ⟨⟨rfl, rfl⟩, ⟨⟨rfl, rfl⟩, trivial⟩⟩⟩⟩, ⟨⟨rfl, rfl⟩, ⟨rfl, ⟨rfl, trivial⟩⟩⟩⟩⟩⟩⟩⟩, ⟨⟨rfl, (fun _ => (fun _ => ⟨rfl, ⟨rfl, ⟨rfl, trivial⟩⟩⟩))⟩, ⟨⟨rfl, (fun _ => (fun _ => ⟨rfl, trivial⟩))⟩, ⟨⟨rfl, (fun _ => (fun _ => ⟨rfl, ⟨rfl, ⟨rfl, trivial⟩⟩⟩))⟩, ⟨(List.Perm.refl _), ⟨(List.Perm.refl _), ⟨⟨rfl, (fun _ => (fun _ => ⟨rfl, ⟨rfl, ⟨rfl, ⟨rfl, ⟨rfl, ⟨rfl, ⟨rfl, ⟨rfl, ⟨rfl, ⟨rfl, ⟨trivial, ⟨trivial, ⟨rfl, trivial⟩⟩⟩⟩⟩⟩⟩⟩⟩⟩⟩⟩⟩))⟩, ⟨⟨rfl, (fun _ => (fun _ => ⟨rfl, ⟨rfl, ⟨rfl, trivial⟩⟩⟩))⟩, ⟨⟨rfl, (fun _ => (fun _ => ⟨⟨rfl, rfl⟩, trivial⟩))⟩, ⟨trivial, ⟨trivial, ⟨⟨rfl, (fun _ => (fun _ => ⟨⟨trivial, trivial⟩, trivial⟩))⟩, ⟨⟨rfl, (fun _ => (fun _ => ⟨rfl, ⟨rfl, ⟨rfl, trivial⟩⟩⟩))⟩, ⟨rfl, trivial⟩⟩⟩⟩⟩⟩⟩⟩⟩⟩⟩⟩⟩⟩⟩⟩
def outc_t4 (p : OP) (q : MD) : Prop :=
  (20 : Nat) = (20 : Nat) ∧ (((((0 : Nat) = (0 : Nat) ∧ (0 : Nat) = (0 : Nat)) ∧ ((0 : Nat) = (0 : Nat) ∧ (0 : Nat) = (0 : Nat)) ∧ True) ∧ [(35 : Tmp)] = [(35 : Tmp)] ∧ asg14 = asg14 ∧ body14 = body14) ∧ True) ∧ ((4611686018427387904 : Int) = (4611686018427387904 : Int) ∧ ((0 : Nat) = (0 : Nat) ∧ (0 : Nat) = (0 : Nat)) ∧ ((0 : Nat) = (0 : Nat) ∧ (0 : Nat) = (0 : Nat)) ∧ ((0 : Nat) = (0 : Nat) ∧ (0 : Nat) = (0 : Nat)) ∧ True) ∧ (p.4 = p.4 ∧ ∀ (i : Nat), i < p.4 → (p.3 i).1 = (p.3 i).1 ∧ (p.3 i).2 = (p.3 i).2 ∧ (p.3 i).3 = (p.3 i).3 ∧ True) ∧ ((1 : Nat) = (1 : Nat) ∧ ∀ (i : Nat), i < (1 : Nat) → p.5 = p.5 ∧ True) ∧ ((1 : Nat) = (1 : Nat) ∧ ∀ (i : Nat), i < (1 : Nat) → (0 : Int) = (0 : Int) ∧ (0 : Int) = (0 : Int) ∧ (0 : Int) = (0 : Int) ∧ True) ∧ Leaf (duesE.Perm duesE) ∧ Leaf (effectsE.Perm effectsE) ∧ ((1 : Nat) = (1 : Nat) ∧ ∀ (i : Nat), i < (1 : Nat) → p.1.1 = p.1.1 ∧ p.1.2 = p.1.2 ∧ p.1.3 = p.1.3 ∧ p.1.4 = p.1.4 ∧ p.2.1 = p.2.1 ∧ p.2.2 = p.2.2 ∧ p.2.3 = p.2.3 ∧ p.2.4 = p.2.4 ∧ p.2.5 = p.2.5 ∧ p.2.6 = p.2.6 ∧ True ∧ True ∧ q.3 = q.3 ∧ True) ∧ ((1 : Nat) = (1 : Nat) ∧ ∀ (i : Nat), i < (1 : Nat) → q.2.1 = q.2.1 ∧ q.2.2 = q.2.2 ∧ q.2.3 = q.2.3 ∧ True) ∧ ((1 : Nat) = (1 : Nat) ∧ ∀ (i : Nat), i < (1 : Nat) → ((0 : Nat) = (0 : Nat) ∧ (0 : Nat) = (0 : Nat)) ∧ True) ∧ True ∧ True ∧ ((1 : Nat) = (1 : Nat) ∧ ∀ (i : Nat), i < (1 : Nat) → (True ∧ True) ∧ True) ∧ ((1 : Nat) = (1 : Nat) ∧ ∀ (i : Nat), i < (1 : Nat) → q.2.1 = q.2.1 ∧ q.2.2 = q.2.2 ∧ q.2.3 = q.2.3 ∧ True) ∧ (q.3 = q.3 ∧ ∀ (i : Nat), i < q.3 → q.4 i = q.4 i ∧ True) ∧ True
theorem outc_t4_t (p : OP) (q : MD) : outc_t4 p q :=
  ⟨rfl, ⟨⟨⟨⟨⟨rfl, rfl⟩, ⟨⟨rfl, rfl⟩, trivial⟩⟩, ⟨rfl, ⟨rfl, rfl⟩⟩⟩, trivial⟩, ⟨⟨rfl, ⟨⟨rfl, rfl⟩, ⟨⟨rfl, rfl⟩, ⟨⟨rfl, rfl⟩, trivial⟩⟩⟩⟩, ⟨⟨rfl, (fun _ => (fun _ => ⟨rfl, ⟨rfl, ⟨rfl, trivial⟩⟩⟩))⟩, ⟨⟨rfl, (fun _ => (fun _ => ⟨rfl, trivial⟩))⟩, ⟨⟨rfl, (fun _ => (fun _ => ⟨rfl, ⟨rfl, ⟨rfl, trivial⟩⟩⟩))⟩, ⟨(List.Perm.refl _), ⟨(List.Perm.refl _), ⟨⟨rfl, (fun _ => (fun _ => ⟨rfl, ⟨rfl, ⟨rfl, ⟨rfl, ⟨rfl, ⟨rfl, ⟨rfl, ⟨rfl, ⟨rfl, ⟨rfl, ⟨trivial, ⟨trivial, ⟨rfl, trivial⟩⟩⟩⟩⟩⟩⟩⟩⟩⟩⟩⟩⟩))⟩, ⟨⟨rfl, (fun _ => (fun _ => ⟨rfl, ⟨rfl, ⟨rfl, trivial⟩⟩⟩))⟩, ⟨⟨rfl, (fun _ => (fun _ => ⟨⟨rfl, rfl⟩, trivial⟩))⟩, ⟨trivial, ⟨trivial, ⟨⟨rfl, (fun _ => (fun _ => ⟨⟨trivial, trivial⟩, trivial⟩))⟩, ⟨⟨rfl, (fun _ => (fun _ => ⟨rfl, ⟨rfl, ⟨rfl, trivial⟩⟩⟩))⟩, ⟨⟨rfl, (fun _ => (fun _ => ⟨rfl, trivial⟩))⟩, trivial⟩⟩⟩⟩⟩⟩⟩⟩⟩⟩⟩⟩⟩⟩⟩⟩
def outc_T (p : OP) : Prop :=
  outc_t0 p ∧ ifB (!{ r := p.1, c := p.2, E := p.3, n := p.4 : CP }.ok) ((((outcome p).1 = (0 : Int) ∧ (outcome p).2 = (0 : Int) ∧ (outcome p).3 = (0 : Int) ∧ True) ∧ outErr p = (160 : Int) ∧ True) ∧ True) (outc_t1 ∧ outc_t1 ∧ ifB (decide ((0 : Int) ≤ p.5) == true) (ifB (!decide (p.5 ≤ (20000000 : Int))) ((((outcome p).1 = (0 : Int) ∧ (outcome p).2 = (0 : Int) ∧ (outcome p).3 = (0 : Int) ∧ True) ∧ outErr p = (160 : Int) ∧ True) ∧ True) ((outc_t2 p ∧ ifB (decide (p.2.5 > p.5)) ((((outcome p).1 = (0 : Int) ∧ (outcome p).2 = (0 : Int) ∧ (outcome p).3 = p.2.5 ∧ True) ∧ outErr p = (0 : Int) ∧ True) ∧ True) (lM.code = lM.code ∧ (lM_J { r := p.1, c := p.2, E := p.3, n := p.4, t := p.5, a := { state := (1 : Int), since := p.2.5, next := w64 (p.2.5 + p.1.1) : Sta } : MP } { i := (0 : Nat), now := { state := (1 : Int), since := p.2.5, next := w64 (p.2.5 + p.1.1) : Sta }, k := (0 : Nat), V := fun (x : Nat) => (0 : Int) : MD } ∧ outc_t3 p) ∧ (True ∧ ∀ (q : MD), Leaf (Ytmcidfecepknpaa.runT p.1 p.2 p.5 p.3 { state := (1 : Int), since := p.2.5, next := w64 (p.2.5 + p.1.1) : Sta } p.4 = (false, q.now) ∧ Sta.ok p.1 q.now) → (lI true).code = (lI true).code ∧ (lI_J { r := p.1, c := p.2, E := p.3, n := p.4, t := p.5, u := (4611686018427387904 : Int), k := q.3, V := q.4, e := { kind := (0 : Int), at' := (0 : Int), reason := (0 : Int) : Evt }, a := q.2 : IP } q.2 ∧ outc_t4 p q) ∧ (True ∧ ∀ (q_1 : Sta), Leaf (aloneT p.1 p.5 (4611686018427387904 : Int) (4 : Nat) q.2 = (false, q_1) ∧ Sta.ok p.1 q_1) → (((outcome p).1 = q_1.1 ∧ (outcome p).2 = q_1.2 ∧ (outcome p).3 = q_1.3 ∧ True) ∧ outErr p = (0 : Int) ∧ True) ∧ True) ∧ ∀ (q_1 : Sta), Leaf (aloneT p.1 p.5 (4611686018427387904 : Int) (4 : Nat) q.2 = (true, q_1)) → (((outcome p).1 = q_1.1 ∧ (outcome p).2 = q_1.2 ∧ (outcome p).3 = q_1.3 ∧ True) ∧ outErr p = (0 : Int) ∧ True) ∧ True) ∧ ∀ (q : MD), Leaf (Ytmcidfecepknpaa.runT p.1 p.2 p.5 p.3 { state := (1 : Int), since := p.2.5, next := w64 (p.2.5 + p.1.1) : Sta } p.4 = (true, q.now)) → (((outcome p).1 = q.2.1 ∧ (outcome p).2 = q.2.2 ∧ (outcome p).3 = q.2.3 ∧ True) ∧ outErr p = (0 : Int) ∧ True) ∧ True)) ∧ outc_t2 p ∧ ifB (decide (p.2.5 > p.5)) ((((outcome p).1 = (0 : Int) ∧ (outcome p).2 = (0 : Int) ∧ (outcome p).3 = p.2.5 ∧ True) ∧ outErr p = (0 : Int) ∧ True) ∧ True) (lM.code = lM.code ∧ (lM_J { r := p.1, c := p.2, E := p.3, n := p.4, t := p.5, a := { state := (1 : Int), since := p.2.5, next := w64 (p.2.5 + p.1.1) : Sta } : MP } { i := (0 : Nat), now := { state := (1 : Int), since := p.2.5, next := w64 (p.2.5 + p.1.1) : Sta }, k := (0 : Nat), V := fun (x : Nat) => (0 : Int) : MD } ∧ outc_t3 p) ∧ (True ∧ ∀ (q : MD), Leaf (Ytmcidfecepknpaa.runT p.1 p.2 p.5 p.3 { state := (1 : Int), since := p.2.5, next := w64 (p.2.5 + p.1.1) : Sta } p.4 = (false, q.now) ∧ Sta.ok p.1 q.now) → (lI true).code = (lI true).code ∧ (lI_J { r := p.1, c := p.2, E := p.3, n := p.4, t := p.5, u := (4611686018427387904 : Int), k := q.3, V := q.4, e := { kind := (0 : Int), at' := (0 : Int), reason := (0 : Int) : Evt }, a := q.2 : IP } q.2 ∧ outc_t4 p q) ∧ (True ∧ ∀ (q_1 : Sta), Leaf (aloneT p.1 p.5 (4611686018427387904 : Int) (4 : Nat) q.2 = (false, q_1) ∧ Sta.ok p.1 q_1) → (((outcome p).1 = q_1.1 ∧ (outcome p).2 = q_1.2 ∧ (outcome p).3 = q_1.3 ∧ True) ∧ outErr p = (0 : Int) ∧ True) ∧ True) ∧ ∀ (q_1 : Sta), Leaf (aloneT p.1 p.5 (4611686018427387904 : Int) (4 : Nat) q.2 = (true, q_1)) → (((outcome p).1 = q_1.1 ∧ (outcome p).2 = q_1.2 ∧ (outcome p).3 = q_1.3 ∧ True) ∧ outErr p = (0 : Int) ∧ True) ∧ True) ∧ ∀ (q : MD), Leaf (Ytmcidfecepknpaa.runT p.1 p.2 p.5 p.3 { state := (1 : Int), since := p.2.5, next := w64 (p.2.5 + p.1.1) : Sta } p.4 = (true, q.now)) → (((outcome p).1 = q.2.1 ∧ (outcome p).2 = q.2.2 ∧ (outcome p).3 = q.2.3 ∧ True) ∧ outErr p = (0 : Int) ∧ True) ∧ True))) ((((outcome p).1 = (0 : Int) ∧ (outcome p).2 = (0 : Int) ∧ (outcome p).3 = (0 : Int) ∧ True) ∧ outErr p = (160 : Int) ∧ True) ∧ True))
theorem outc_eq (p : OP) : callBy X4 (exec X4 100) 14 (sOutcome.A p) (sOutcome.H p) (RetC (sOutcome.H p).length (sOutcome.R p) (sOutcome.O p)) = outc_T p := by kernel_rfl

theorem CP.ok_n {p : CP} (h : p.ok = true) : p.n ≤ 20 := by
  simp only [CP.ok, Bool.and_eq_true, decide_eq_true_eq] at h
  exact h.1.2
set_option maxHeartbeats 1000000 in
theorem outc_step (p : OP) : outc_T p := by
  unfold outc_T
  repeat' (first | with_reducible refine ifB_split (fun _ => ?_) (fun _ => ?_) | with_reducible refine And.intro ?_ ?_ | with_reducible refine fun q hq => ?_)
  all_goals try first | with_reducible exact outc_t0_t _ | with_reducible exact outc_t1_t | with_reducible exact outc_t2_t _ | with_reducible exact outc_t3_t _ | with_reducible exact outc_t4_t _ _ | with_reducible rfl | with_reducible exact trivial | with_reducible exact List.Perm.refl _
  all_goals simp only [Leaf, Bool.not_eq_true', Bool.not_eq_false', decide_eq_true_eq, decide_eq_false_iff_not, beq_true] at *
  all_goals first
    | exact ⟨Nat.zero_le _, CP.ok_n (by assumption), rfl, rfl, Nat.le_refl _⟩
    | (have hq' := hq.2; exact ⟨⟨4, rank_le _, rfl⟩, hq'⟩)
    | (simp_all [outcome, outErr, OP.ok, OP.cp]; done)
    | (have ho : p.ok = false := by
         unfold OP.ok
         first
         | (rw [decide_eq_false (p := p.t ≤ 20000000) (by omega)]; simp; done)
         | (rw [decide_eq_false (p := 0 ≤ p.t) (by omega)]; simp; done)
       simp only [outcome, outErr, ho]; done)
    | (have ho : p.ok = true := by simp_all [OP.ok, OP.cp]
       first
       | (have hd : decide (p.t < p.c.asked) = true := decide_eq_true (by omega)
          simp only [outcome, ho, outT, hd]; done)
       | (have hd : decide (p.t < p.c.asked) = false := decide_eq_false (by omega)
          simp only [outcome, ho, outT, hd]
          simp_all [begins, nextOf]; done)
       | trace_state)
theorem outcome_ok : sOutcome.OK X4.P 14 := .of_eq X4_ok 100 _ outc_eq (fun _ => rfl) (fun _ _ o h => by cases h) fun p _ => outc_step p
end Go.Proofs.Ytmcidfecepknpaa

namespace Go.Proofs.Ytmcidfecepknpaa
open Go Go.Sh Go.Proofs
set_option linter.unusedVariables false

/-! ### what Void and Timeline come to, plainly -/
def goN (r : Rul) (u : Int) : Nat → Sta → Sta
  | 0, s => s
  | n + 1, s => match goesOn u s with | true => goN r u n (step1 r s) | false => s
def aloneL (r : Rul) (u : Int) : Nat → Sta → List Sta
  | 0, _ => []
  | n + 1, s => match goesOn u s with | true => step1 r s :: aloneL r u n (step1 r s) | false => []
def evN (r : Rul) (c : Clm) (s : Sta) (e : Evt) : Sta := match afterB c (goN r e.at' 4 s).state e with
  | true => begins r (afterN c (goN r e.at' 4 s).state e) e.at'
  | false => goN r e.at' 4 s
def runN (r : Rul) (c : Clm) (E : Nat → Evt) (a : Sta) : Nat → Sta
  | 0 => a
  | i + 1 => evN r c (runN r c E a i) (E i)
/-- The events without an effect among the first ones. -/
def voids (r : Rul) (c : Clm) (E : Nat → Evt) (a : Sta) : Nat → List Int
  | 0 => []
  | i + 1 => voids r c E a i ++ (match afterB c (goN r (E i).at' 4 (runN r c E a i)).state (E i) with | true => [] | false => [(i : Int)])
/-- The statuses up to an event. -/
def evL (r : Rul) (c : Clm) (s : Sta) (e : Evt) : List Sta := aloneL r e.at' 4 s ++ (match afterB c (goN r e.at' 4 s).state e with | true => [begins r (afterN c (goN r e.at' 4 s).state e) e.at'] | false => [])
def line (r : Rul) (c : Clm) (E : Nat → Evt) (a : Sta) : Nat → List Sta
  | 0 => [a]
  | i + 1 => line r c E a i ++ evL r c (runN r c E a i) (E i)
def Lst {α : Type} (k : Nat) (V : Nat → α) : List α := (List.range k).map V

theorem Lst_snoc {α : Type} {k : Nat} {V W : Nat → α} (h : ∀ j, j < k → W j = V j) : Lst (k + 1) W = Lst k V ++ [W k] := by
  simp only [Lst, List.range_succ, List.map_append, List.map_cons, List.map_nil]
  congr 1
  exact List.map_congr_left fun j hj => h j (List.mem_range.1 hj)
theorem Lst_len {α : Type} (k : Nat) (V : Nat → α) : (Lst k V).length = k := by simp [Lst]
theorem Lst_getD {α : Type} {k : Nat} {V : Nat → α} {d : α} {j : Nat} (h : j < k) : (Lst k V).getD j d = V j := by
  simp [Lst, List.getD, List.getElem?_map, List.getElem?_range h]

theorem goN_done {r : Rul} {u : Int} {s : Sta} (h : goesOn u s = false) : ∀ m, goN r u m s = s
  | 0 => rfl
  | m + 1 => by simp only [goN, h]
theorem aloneL_done {r : Rul} {u : Int} {s : Sta} (h : goesOn u s = false) : ∀ m, aloneL r u m s = []
  | 0 => rfl
  | m + 1 => by simp only [aloneL, h]

/-! ### in Void -/
noncomputable def asg17 : Code := (rangeOf 17).1
noncomputable def body17 : Code := (rangeOf 17).2
def machV (r : Rul) (c : Clm) (v : SV) : Option SO := some (.arr true 1 13 95 fun _ => machA 5 6 r c v)
/-- The heap while Void's loop runs. -/
noncomputable def heapV (p : IP) (st : LoopState) (pd : Option Code) (now : Option SO) (rest : List (Option SO)) : Heap :=
  [some (evO p.n p.E), none, none, none, none, some (.tbl true duesE), some (.tbl true effectsE), machV p.r p.c (.osl 15 p.k), some (.arr true 1 1 85 fun _ => [.ptr 7 0 0]), none, some .defs,
   some (.loop st pd (lay 28 0 [(8, .ptr 7 0 0)]) [23] asg17 body17), some (.arr true 1 1 43 fun _ => [.fn (.yield 11) [] []]), none, now, voidO p.k p.V] ++ rest
def nV (b : Bool) : Nat := match b with | true => 17 | false => 16
def lIV_J (p : IP) (now : Sta) : Prop := (∃ m, rank now.state ≤ m ∧ goN p.r p.u 4 p.a = goN p.r p.u m now) ∧ now.ok p.r
noncomputable def lIV (b : Bool) : LSpec IP Sta Sta where
  code := loopOf Try.prog 62 1
  N := nV b
  I := fun p now => blank 31 [(0, iv p.u), (1, .ptr 14 0 0), (2, .ptr 8 0 0), (3, .ptr 12 0 0)] (heapV p .ready none (staO now) (evtB b p.e))
  J := lIV_J
  ways := 1
  E := fun w p q => (.exit 0, blank 31 [] (heapV p .ready none (staO q) (evtB b p.e)))
  JE := fun w p q => Leaf (goN p.r p.u 4 p.a = q ∧ q.ok p.r)
noncomputable def zIV (b : Bool) (p : IP) (now : Sta) : KX := fun x S' => match x with
  | .normal => Leaf (goesOn p.u now = true) ∧ Wk (nV b) [] ((lIV b).I p (step1 p.r now)) S'
  | .exit k => gateB (Nat.beq k 0) (Leaf (goesOn p.u now = false) ∧ Wk (nV b) [] ((lIV b).E 0 p now).2 S')
  | .ret => False
def exIV (b : Bool) (S : SS) : Option (IP × Sta × Ren) := match arrOf S.heap 0, arrOf S.heap 7, arrOf S.heap 14, arrOf S.heap 15 with
  | some (n, E), some (_, m), some (_, a), some (k, V) => match machOf (m 0) with
    | some (r, c) => some (⟨r, c, fun i => Evt.of (E i), n, 0, intSV (S.get 0), k, fun i => intOf (V i), match b with | true => (match arrOf S.heap 16 with | some (_, e) => Evt.of (e 0) | none => ⟨0, 0, 0⟩) | false => ⟨0, 0, 0⟩, Sta.ofC (a 0)⟩, Sta.ofC (a 0), [])
    | none => none
  | _, _, _, _ => none
end Go.Proofs.Ytmcidfecepknpaa

namespace Go.Proofs.Ytmcidfecepknpaa
open Go Go.Sh Go.Proofs
set_option linter.unusedVariables false
set_option linter.unusedSimpArgs false
def innerVT_t0 (p : IP) (now : Sta) : Prop :=
  True ∧ (4 : Nat) = (4 : Nat) ∧ (((0 : Nat) = (0 : Nat) ∧ (0 : Nat) = (0 : Nat)) ∧ (3 : Int) = (3 : Int) ∧ now.3 = now.3 ∧ True) ∧ ((1 : Nat) = (1 : Nat) ∧ ∀ (i : Nat), i < (1 : Nat) → p.1.1 = p.1.1 ∧ p.1.2 = p.1.2 ∧ p.1.3 = p.1.3 ∧ p.1.4 = p.1.4 ∧ p.2.1 = p.2.1 ∧ p.2.2 = p.2.2 ∧ p.2.3 = p.2.3 ∧ p.2.4 = p.2.4 ∧ p.2.5 = p.2.5 ∧ p.2.6 = p.2.6 ∧ True ∧ True ∧ ((0 : Nat) = (0 : Nat) ∧ p.7 = p.7) ∧ True) ∧ Leaf (duesE.Perm duesE) ∧ Leaf (effectsE.Perm effectsE) ∧ (p.7 = p.7 ∧ ∀ (i : Nat), i < p.7 → p.8 i = p.8 i ∧ True) ∧ True
theorem innerVT_t0_t (p : IP) (now : Sta) : innerVT_t0 p now :=
  ⟨trivial, ⟨rfl, ⟨⟨⟨rfl, rfl⟩, ⟨rfl, ⟨rfl, trivial⟩⟩⟩, ⟨⟨rfl, (fun _ => (fun _ => ⟨rfl, ⟨rfl, ⟨rfl, ⟨rfl, ⟨rfl, ⟨rfl, ⟨rfl, ⟨rfl, ⟨rfl, ⟨rfl, ⟨trivial, ⟨trivial, ⟨⟨rfl, rfl⟩, trivial⟩⟩⟩⟩⟩⟩⟩⟩⟩⟩⟩⟩⟩))⟩, ⟨(List.Perm.refl _), ⟨(List.Perm.refl _), ⟨⟨rfl, (fun _ => (fun _ => ⟨rfl, trivial⟩))⟩, trivial⟩⟩⟩⟩⟩⟩⟩
def innerVT_t1 (p : IP) : Prop :=
  p.6 = p.6 ∧ ((0 : Nat) = (0 : Nat) ∧ (0 : Nat) = (0 : Nat)) ∧ ((0 : Nat) = (0 : Nat) ∧ (0 : Nat) = (0 : Nat)) ∧ ((0 : Nat) = (0 : Nat) ∧ (0 : Nat) = (0 : Nat)) ∧ True
theorem innerVT_t1_t (p : IP) : innerVT_t1 p :=
  ⟨rfl, ⟨⟨rfl, rfl⟩, ⟨⟨rfl, rfl⟩, ⟨⟨rfl, rfl⟩, trivial⟩⟩⟩⟩
def innerVT_t2 (p : IP) : Prop :=
  p.4 = p.4 ∧ ∀ (i : Nat), i < p.n → (p.3 i).1 = (p.3 i).1 ∧ (p.3 i).2 = (p.3 i).2 ∧ (p.3 i).3 = (p.3 i).3 ∧ True
theorem innerVT_t2_t (p : IP) : innerVT_t2 p :=
  ⟨rfl, (fun _ => (fun _ => ⟨rfl, ⟨rfl, ⟨rfl, trivial⟩⟩⟩))⟩
def innerVT_t3 (p : IP) : Prop :=
  (1 : Nat) = (1 : Nat) ∧ ∀ (i : Nat), i < (1 : Nat) → p.1.1 = p.1.1 ∧ p.1.2 = p.1.2 ∧ p.1.3 = p.1.3 ∧ p.1.4 = p.1.4 ∧ p.2.1 = p.2.1 ∧ p.2.2 = p.2.2 ∧ p.2.3 = p.2.3 ∧ p.2.4 = p.2.4 ∧ p.2.5 = p.2.5 ∧ p.2.6 = p.2.6 ∧ True ∧ True ∧ p.7 = p.7 ∧ True
theorem innerVT_t3_t (p : IP) : innerVT_t3 p :=
  ⟨rfl, (fun _ => (fun _ => ⟨rfl, ⟨rfl, ⟨rfl, ⟨rfl, ⟨rfl, ⟨rfl, ⟨rfl, ⟨rfl, ⟨rfl, ⟨rfl, ⟨trivial, ⟨trivial, ⟨rfl, trivial⟩⟩⟩⟩⟩⟩⟩⟩⟩⟩⟩⟩⟩))⟩
def innerVT_t4 : Prop :=
  (1 : Nat) = (1 : Nat) ∧ ∀ (i : Nat), i < (1 : Nat) → ((0 : Nat) = (0 : Nat) ∧ (0 : Nat) = (0 : Nat)) ∧ True
theorem innerVT_t4_t : innerVT_t4 :=
  ⟨rfl, (fun _ => (fun _ => ⟨⟨rfl, rfl⟩, trivial⟩))⟩
def innerVT_t5 : Prop :=
  (1 : Nat) = (1 : Nat) ∧ ∀ (i : Nat), i < (1 : Nat) → (True ∧ True) ∧ True
theorem innerVT_t5_t : innerVT_t5 :=
  ⟨rfl, (fun _ => (fun _ => ⟨⟨trivial, trivial⟩, trivial⟩))⟩
def innerVT_t6 (p : IP) : Prop :=
  (p.7 = p.7 ∧ ∀ (i : Nat), i < p.k → p.8 i = p.8 i ∧ True) ∧ ((1 : Nat) = (1 : Nat) ∧ ∀ (i : Nat), i < (1 : Nat) → p.9.1 = p.9.1 ∧ p.9.2 = p.9.2 ∧ p.9.3 = p.9.3 ∧ True) ∧ True
theorem innerVT_t6_t (p : IP) : innerVT_t6 p :=
  ⟨⟨rfl, (fun _ => (fun _ => ⟨rfl, trivial⟩))⟩, ⟨⟨rfl, (fun _ => (fun _ => ⟨rfl, ⟨rfl, ⟨rfl, trivial⟩⟩⟩))⟩, trivial⟩⟩
def innerVT_t7 (p : IP) (now : Sta) : Prop :=
  True ∧ (4 : Nat) = (4 : Nat) ∧ (((0 : Nat) = (0 : Nat) ∧ (0 : Nat) = (0 : Nat)) ∧ (4 : Int) = (4 : Int) ∧ now.3 = now.3 ∧ True) ∧ ((1 : Nat) = (1 : Nat) ∧ ∀ (i : Nat), i < (1 : Nat) → p.1.1 = p.1.1 ∧ p.1.2 = p.1.2 ∧ p.1.3 = p.1.3 ∧ p.1.4 = p.1.4 ∧ p.2.1 = p.2.1 ∧ p.2.2 = p.2.2 ∧ p.2.3 = p.2.3 ∧ p.2.4 = p.2.4 ∧ p.2.5 = p.2.5 ∧ p.2.6 = p.2.6 ∧ True ∧ True ∧ ((0 : Nat) = (0 : Nat) ∧ p.7 = p.7) ∧ True) ∧ Leaf (duesE.Perm duesE) ∧ Leaf (effectsE.Perm effectsE) ∧ (p.7 = p.7 ∧ ∀ (i : Nat), i < p.7 → p.8 i = p.8 i ∧ True) ∧ True
theorem innerVT_t7_t (p : IP) (now : Sta) : innerVT_t7 p now :=
  ⟨trivial, ⟨rfl, ⟨⟨⟨rfl, rfl⟩, ⟨rfl, ⟨rfl, trivial⟩⟩⟩, ⟨⟨rfl, (fun _ => (fun _ => ⟨rfl, ⟨rfl, ⟨rfl, ⟨rfl, ⟨rfl, ⟨rfl, ⟨rfl, ⟨rfl, ⟨rfl, ⟨rfl, ⟨trivial, ⟨trivial, ⟨⟨rfl, rfl⟩, trivial⟩⟩⟩⟩⟩⟩⟩⟩⟩⟩⟩⟩⟩))⟩, ⟨(List.Perm.refl _), ⟨(List.Perm.refl _), ⟨⟨rfl, (fun _ => (fun _ => ⟨rfl, trivial⟩))⟩, trivial⟩⟩⟩⟩⟩⟩⟩
def innerVT_t8 (p : IP) (now : Sta) : Prop :=
  True ∧ (4 : Nat) = (4 : Nat) ∧ (((0 : Nat) = (0 : Nat) ∧ (0 : Nat) = (0 : Nat)) ∧ (5 : Int) = (5 : Int) ∧ now.3 = now.3 ∧ True) ∧ ((1 : Nat) = (1 : Nat) ∧ ∀ (i : Nat), i < (1 : Nat) → p.1.1 = p.1.1 ∧ p.1.2 = p.1.2 ∧ p.1.3 = p.1.3 ∧ p.1.4 = p.1.4 ∧ p.2.1 = p.2.1 ∧ p.2.2 = p.2.2 ∧ p.2.3 = p.2.3 ∧ p.2.4 = p.2.4 ∧ p.2.5 = p.2.5 ∧ p.2.6 = p.2.6 ∧ True ∧ True ∧ ((0 : Nat) = (0 : Nat) ∧ p.7 = p.7) ∧ True) ∧ Leaf (duesE.Perm duesE) ∧ Leaf (effectsE.Perm effectsE) ∧ (p.7 = p.7 ∧ ∀ (i : Nat), i < p.7 → p.8 i = p.8 i ∧ True) ∧ True
theorem innerVT_t8_t (p : IP) (now : Sta) : innerVT_t8 p now :=
  ⟨trivial, ⟨rfl, ⟨⟨⟨rfl, rfl⟩, ⟨rfl, ⟨rfl, trivial⟩⟩⟩, ⟨⟨rfl, (fun _ => (fun _ => ⟨rfl, ⟨rfl, ⟨rfl, ⟨rfl, ⟨rfl, ⟨rfl, ⟨rfl, ⟨rfl, ⟨rfl, ⟨rfl, ⟨trivial, ⟨trivial, ⟨⟨rfl, rfl⟩, trivial⟩⟩⟩⟩⟩⟩⟩⟩⟩⟩⟩⟩⟩))⟩, ⟨(List.Perm.refl _), ⟨(List.Perm.refl _), ⟨⟨rfl, (fun _ => (fun _ => ⟨rfl, trivial⟩))⟩, trivial⟩⟩⟩⟩⟩⟩⟩
def innerVT_t9 (p : IP) (now : Sta) : Prop :=
  True ∧ (4 : Nat) = (4 : Nat) ∧ (((0 : Nat) = (0 : Nat) ∧ (0 : Nat) = (0 : Nat)) ∧ (0 : Int) = (0 : Int) ∧ now.3 = now.3 ∧ True) ∧ ((1 : Nat) = (1 : Nat) ∧ ∀ (i : Nat), i < (1 : Nat) → p.1.1 = p.1.1 ∧ p.1.2 = p.1.2 ∧ p.1.3 = p.1.3 ∧ p.1.4 = p.1.4 ∧ p.2.1 = p.2.1 ∧ p.2.2 = p.2.2 ∧ p.2.3 = p.2.3 ∧ p.2.4 = p.2.4 ∧ p.2.5 = p.2.5 ∧ p.2.6 = p.2.6 ∧ True ∧ True ∧ ((0 : Nat) = (0 : Nat) ∧ p.7 = p.7) ∧ True) ∧ Leaf (duesE.Perm duesE) ∧ Leaf (effectsE.Perm effectsE) ∧ (p.7 = p.7 ∧ ∀ (i : Nat), i < p.7 → p.8 i = p.8 i ∧ True) ∧ True
theorem innerVT_t9_t (p : IP) (now : Sta) : innerVT_t9 p now :=
  ⟨trivial, ⟨rfl, ⟨⟨⟨rfl, rfl⟩, ⟨rfl, ⟨rfl, trivial⟩⟩⟩, ⟨⟨rfl, (fun _ => (fun _ => ⟨rfl, ⟨rfl, ⟨rfl, ⟨rfl, ⟨rfl, ⟨rfl, ⟨rfl, ⟨rfl, ⟨rfl, ⟨rfl, ⟨trivial, ⟨trivial, ⟨⟨rfl, rfl⟩, trivial⟩⟩⟩⟩⟩⟩⟩⟩⟩⟩⟩⟩⟩))⟩, ⟨(List.Perm.refl _), ⟨(List.Perm.refl _), ⟨⟨rfl, (fun _ => (fun _ => ⟨rfl, trivial⟩))⟩, trivial⟩⟩⟩⟩⟩⟩⟩
def innerVT_t10 (p : IP) (now : Sta) : Prop :=
  True ∧ (p.4 = p.4 ∧ ∀ (i : Nat), i < p.n → (p.3 i).1 = (p.3 i).1 ∧ (p.3 i).2 = (p.3 i).2 ∧ (p.3 i).3 = (p.3 i).3 ∧ True) ∧ Leaf (duesE.Perm duesE) ∧ Leaf (effectsE.Perm effectsE) ∧ ((1 : Nat) = (1 : Nat) ∧ ∀ (i : Nat), i < (1 : Nat) → p.1.1 = p.1.1 ∧ p.1.2 = p.1.2 ∧ p.1.3 = p.1.3 ∧ p.1.4 = p.1.4 ∧ p.2.1 = p.2.1 ∧ p.2.2 = p.2.2 ∧ p.2.3 = p.2.3 ∧ p.2.4 = p.2.4 ∧ p.2.5 = p.2.5 ∧ p.2.6 = p.2.6 ∧ True ∧ True ∧ p.7 = p.7 ∧ True) ∧ ((1 : Nat) = (1 : Nat) ∧ ∀ (i : Nat), i < (1 : Nat) → ((0 : Nat) = (0 : Nat) ∧ (0 : Nat) = (0 : Nat)) ∧ True) ∧ True ∧ True ∧ ((1 : Nat) = (1 : Nat) ∧ ∀ (i : Nat), i < (1 : Nat) → (True ∧ True) ∧ True) ∧ ((1 : Nat) = (1 : Nat) ∧ ∀ (i : Nat), i < (1 : Nat) → now.1 = now.1 ∧ now.2 = now.2 ∧ now.3 = now.3 ∧ True) ∧ (p.7 = p.7 ∧ ∀ (i : Nat), i < p.k → p.8 i = p.8 i ∧ True) ∧ ((1 : Nat) = (1 : Nat) ∧ ∀ (i : Nat), i < (1 : Nat) → p.9.1 = p.9.1 ∧ p.9.2 = p.9.2 ∧ p.9.3 = p.9.3 ∧ True) ∧ True
theorem innerVT_t10_t (p : IP) (now : Sta) : innerVT_t10 p now :=
  ⟨trivial, ⟨⟨rfl, (fun _ => (fun _ => ⟨rfl, ⟨rfl, ⟨rfl, trivial⟩⟩⟩))⟩, ⟨(List.Perm.refl _), ⟨(List.Perm.refl _), ⟨⟨rfl, (fun _ => (fun _ => ⟨rfl, ⟨rfl, ⟨rfl, ⟨rfl, ⟨rfl, ⟨rfl, ⟨rfl, ⟨rfl, ⟨rfl, ⟨rfl, ⟨trivial, ⟨trivial, ⟨rfl, trivial⟩⟩⟩⟩⟩⟩⟩⟩⟩⟩⟩⟩⟩))⟩, ⟨⟨rfl, (fun _ => (fun _ => ⟨⟨rfl, rfl⟩, trivial⟩))⟩, ⟨trivial, ⟨trivial, ⟨⟨rfl, (fun _ => (fun _ => ⟨⟨trivial, trivial⟩, trivial⟩))⟩, ⟨⟨rfl, (fun _ => (fun _ => ⟨rfl, ⟨rfl, ⟨rfl, trivial⟩⟩⟩))⟩, ⟨⟨rfl, (fun _ => (fun _ => ⟨rfl, trivial⟩))⟩, ⟨⟨rfl, (fun _ => (fun _ => ⟨rfl, ⟨rfl, ⟨rfl, trivial⟩⟩⟩))⟩, trivial⟩⟩⟩⟩⟩⟩⟩⟩⟩⟩⟩⟩
def innerVT_T (p : IP) (now : Sta) : Prop :=
  ifB (decide (now.3 ≥ (0 : Int)) == true) (ifB (decide (now.3 ≤ p.6)) (((((now.1 == (1 : Int)) = true → (now.1 == (2 : Int)) = true → False) ∧ ((now.1 == (1 : Int)) = true → (now.1 == (3 : Int)) = true → False) ∧ ((now.1 == (1 : Int)) = true → (now.1 == (4 : Int)) = true → False) ∧ True) ∧ (((now.1 == (2 : Int)) = true → (now.1 == (3 : Int)) = true → False) ∧ ((now.1 == (2 : Int)) = true → (now.1 == (4 : Int)) = true → False) ∧ True) ∧ (((now.1 == (3 : Int)) = true → (now.1 == (4 : Int)) = true → False) ∧ True) ∧ True ∧ True) ∧ ifB (now.1 == (1 : Int)) (innerVT_t0 p now ∧ Leaf (goesOn p.u now = true) ∧ innerVT_t1 p ∧ innerVT_t2 p ∧ Leaf (duesE.Perm duesE) ∧ Leaf (effectsE.Perm effectsE) ∧ innerVT_t3 p ∧ innerVT_t4 ∧ True ∧ True ∧ innerVT_t5 ∧ ((1 : Nat) = (1 : Nat) ∧ ∀ (i : Nat), i < (1 : Nat) → Ytmcidfecepknpaa.follow now.1 = (3 : Int) ∧ now.3 = now.3 ∧ nextOf p.1 (Ytmcidfecepknpaa.follow now.1) now.3 = w64 (now.3 + p.1.2) ∧ True) ∧ innerVT_t6 p) (ifB (now.1 == (2 : Int)) (innerVT_t0 p now ∧ Leaf (goesOn p.u now = true) ∧ innerVT_t1 p ∧ innerVT_t2 p ∧ Leaf (duesE.Perm duesE) ∧ Leaf (effectsE.Perm effectsE) ∧ innerVT_t3 p ∧ innerVT_t4 ∧ True ∧ True ∧ innerVT_t5 ∧ ((1 : Nat) = (1 : Nat) ∧ ∀ (i : Nat), i < (1 : Nat) → Ytmcidfecepknpaa.follow now.1 = (3 : Int) ∧ now.3 = now.3 ∧ nextOf p.1 (Ytmcidfecepknpaa.follow now.1) now.3 = w64 (now.3 + p.1.2) ∧ True) ∧ innerVT_t6 p) (ifB (now.1 == (3 : Int)) (innerVT_t7 p now ∧ Leaf (goesOn p.u now = true) ∧ innerVT_t1 p ∧ innerVT_t2 p ∧ Leaf (duesE.Perm duesE) ∧ Leaf (effectsE.Perm effectsE) ∧ innerVT_t3 p ∧ innerVT_t4 ∧ True ∧ True ∧ innerVT_t5 ∧ ((1 : Nat) = (1 : Nat) ∧ ∀ (i : Nat), i < (1 : Nat) → Ytmcidfecepknpaa.follow now.1 = (4 : Int) ∧ now.3 = now.3 ∧ nextOf p.1 (Ytmcidfecepknpaa.follow now.1) now.3 = w64 (now.3 + p.1.4) ∧ True) ∧ innerVT_t6 p) (ifB (now.1 == (4 : Int)) (innerVT_t8 p now ∧ Leaf (goesOn p.u now = true) ∧ innerVT_t1 p ∧ innerVT_t2 p ∧ Leaf (duesE.Perm duesE) ∧ Leaf (effectsE.Perm effectsE) ∧ innerVT_t3 p ∧ innerVT_t4 ∧ True ∧ True ∧ innerVT_t5 ∧ ((1 : Nat) = (1 : Nat) ∧ ∀ (i : Nat), i < (1 : Nat) → Ytmcidfecepknpaa.follow now.1 = (5 : Int) ∧ now.3 = now.3 ∧ nextOf p.1 (Ytmcidfecepknpaa.follow now.1) now.3 = (-1 : Int) ∧ True) ∧ innerVT_t6 p) (innerVT_t9 p now ∧ Leaf (goesOn p.u now = true) ∧ innerVT_t1 p ∧ innerVT_t2 p ∧ Leaf (duesE.Perm duesE) ∧ Leaf (effectsE.Perm effectsE) ∧ innerVT_t3 p ∧ innerVT_t4 ∧ True ∧ True ∧ innerVT_t5 ∧ ((1 : Nat) = (1 : Nat) ∧ ∀ (i : Nat), i < (1 : Nat) → Ytmcidfecepknpaa.follow now.1 = (0 : Int) ∧ now.3 = now.3 ∧ nextOf p.1 (Ytmcidfecepknpaa.follow now.1) now.3 = (-1 : Int) ∧ True) ∧ innerVT_t6 p))))) (Leaf (goesOn p.u now = false) ∧ innerVT_t10 p now)) (Leaf (goesOn p.u now = false) ∧ innerVT_t10 p now)
theorem innerVT_eq (p : IP) (now : Sta) : exec X2' 60 62 (lIV true).code ((lIV true).I p now) (zIV true p now) = innerVT_T p now := by kernel_rfl

theorem innerVT_step (p : IP) (now : Sta) (hok : now.ok p.r) : innerVT_T p now := by
  unfold innerVT_T
  repeat' (first | with_reducible refine ifB_split (fun _ => ?_) (fun _ => ?_) | with_reducible refine And.intro ?_ ?_)
  all_goals try first | with_reducible exact innerVT_t0_t _ _ | with_reducible exact innerVT_t1_t _ | with_reducible exact innerVT_t2_t _ | with_reducible exact innerVT_t3_t _ | with_reducible exact innerVT_t4_t | with_reducible exact innerVT_t5_t | with_reducible exact innerVT_t6_t _ | with_reducible exact innerVT_t7_t _ _ | with_reducible exact innerVT_t8_t _ _ | with_reducible exact innerVT_t9_t _ _ | with_reducible exact innerVT_t10_t _ _ | with_reducible rfl | with_reducible exact trivial | with_reducible exact List.Perm.refl _
  all_goals first
    | (simp_all [Leaf, goesOn]; done)
    | (simp_all [Leaf, goesOn]; intros; omega)
    | (simp_all [Leaf, goesOn, step1, begins, follow, nextOf, w64, Sta.ok]; done)
    | (simp_all [Leaf, goesOn, step1, begins, follow, nextOf, w64, Sta.ok]; omega)

set_option maxRecDepth 100000 in
theorem innerVT_ok : LoopOK X2'.P (lIV true).code (lIV true).L := by
  refine (lIV true).ok X2'_ok 60 62 (fun p s => rank s.state) (zIV true) (fun _ _ _ => ⟨⟨rfl, rfl, rfl, rfl⟩, trivial⟩) (fun p d w q hw => ?_) (fun p s S' hJ h => ?_) (fun p s x S' hx hJ h => ?_) fun p s hJ => ?_
  · match w, hw with
    | 0, _ => exact ⟨⟨rfl, rfl, rfl, rfl⟩, trivial⟩
  · obtain ⟨h1, h3⟩ := h
    simp only [Leaf] at h1
    obtain ⟨⟨m, hm, ha⟩, hok⟩ := hJ
    have hr := rank_pos hok h1
    obtain ⟨m', rfl⟩ : ∃ m', m = m' + 1 := ⟨m - 1, by omega⟩
    refine ⟨[], step1 p.r s, ?_, ⟨⟨m', ?_, ?_⟩, rfl⟩, h3⟩
    · show rank (follow s.state) < rank s.state
      omega
    · show rank (follow s.state) ≤ m'
      omega
    · rw [ha]
      simp only [goN, h1]
  · obtain ⟨⟨m, hm, ha⟩, hok⟩ := hJ
    cases x with
    | normal => exact hx.elim
    | ret => exact h.elim
    | exit k =>
      obtain ⟨h0, h1, h2⟩ := gateB_spec h
      have h0 := Nat.eq_of_beq_eq_true h0
      subst h0
      simp only [Leaf] at h1
      exact ⟨0, s, [], Nat.lt_succ_self 0, ⟨by rw [ha]; exact goN_done h1 m, hok⟩, rfl, h2⟩
  · obtain ⟨_, hok⟩ := hJ
    rw [innerVT_eq]
    exact innerVT_step p s hok
def innerVF_t0 (p : IP) (now : Sta) : Prop :=
  True ∧ (4 : Nat) = (4 : Nat) ∧ (((0 : Nat) = (0 : Nat) ∧ (0 : Nat) = (0 : Nat)) ∧ (3 : Int) = (3 : Int) ∧ now.3 = now.3 ∧ True) ∧ ((1 : Nat) = (1 : Nat) ∧ ∀ (i : Nat), i < (1 : Nat) → p.1.1 = p.1.1 ∧ p.1.2 = p.1.2 ∧ p.1.3 = p.1.3 ∧ p.1.4 = p.1.4 ∧ p.2.1 = p.2.1 ∧ p.2.2 = p.2.2 ∧ p.2.3 = p.2.3 ∧ p.2.4 = p.2.4 ∧ p.2.5 = p.2.5 ∧ p.2.6 = p.2.6 ∧ True ∧ True ∧ ((0 : Nat) = (0 : Nat) ∧ p.7 = p.7) ∧ True) ∧ Leaf (duesE.Perm duesE) ∧ Leaf (effectsE.Perm effectsE) ∧ (p.7 = p.7 ∧ ∀ (i : Nat), i < p.7 → p.8 i = p.8 i ∧ True) ∧ True
theorem innerVF_t0_t (p : IP) (now : Sta) : innerVF_t0 p now :=
  ⟨trivial, ⟨rfl, ⟨⟨⟨rfl, rfl⟩, ⟨rfl, ⟨rfl, trivial⟩⟩⟩, ⟨⟨rfl, (fun _ => (fun _ => ⟨rfl, ⟨rfl, ⟨rfl, ⟨rfl, ⟨rfl, ⟨rfl, ⟨rfl, ⟨rfl, ⟨rfl, ⟨rfl, ⟨trivial, ⟨trivial, ⟨⟨rfl, rfl⟩, trivial⟩⟩⟩⟩⟩⟩⟩⟩⟩⟩⟩⟩⟩))⟩, ⟨(List.Perm.refl _), ⟨(List.Perm.refl _), ⟨⟨rfl, (fun _ => (fun _ => ⟨rfl, trivial⟩))⟩, trivial⟩⟩⟩⟩⟩⟩⟩
def innerVF_t1 (p : IP) : Prop :=
  p.6 = p.6 ∧ ((0 : Nat) = (0 : Nat) ∧ (0 : Nat) = (0 : Nat)) ∧ ((0 : Nat) = (0 : Nat) ∧ (0 : Nat) = (0 : Nat)) ∧ ((0 : Nat) = (0 : Nat) ∧ (0 : Nat) = (0 : Nat)) ∧ True
theorem innerVF_t1_t (p : IP) : innerVF_t1 p :=
  ⟨rfl, ⟨⟨rfl, rfl⟩, ⟨⟨rfl, rfl⟩, ⟨⟨rfl, rfl⟩, trivial⟩⟩⟩⟩
def innerVF_t2 (p : IP) : Prop :=
  p.4 = p.4 ∧ ∀ (i : Nat), i < p.n → (p.3 i).1 = (p.3 i).1 ∧ (p.3 i).2 = (p.3 i).2 ∧ (p.3 i).3 = (p.3 i).3 ∧ True
theorem innerVF_t2_t (p : IP) : innerVF_t2 p :=
  ⟨rfl, (fun _ => (fun _ => ⟨rfl, ⟨rfl, ⟨rfl, trivial⟩⟩⟩))⟩
def innerVF_t3 (p : IP) : Prop :=
  (1 : Nat) = (1 : Nat) ∧ ∀ (i : Nat), i < (1 : Nat) → p.1.1 = p.1.1 ∧ p.1.2 = p.1.2 ∧ p.1.3 = p.1.3 ∧ p.1.4 = p.1.4 ∧ p.2.1 = p.2.1 ∧ p.2.2 = p.2.2 ∧ p.2.3 = p.2.3 ∧ p.2.4 = p.2.4 ∧ p.2.5 = p.2.5 ∧ p.2.6 = p.2.6 ∧ True ∧ True ∧ p.7 = p.7 ∧ True
theorem innerVF_t3_t (p : IP) : innerVF_t3 p :=
  ⟨rfl, (fun _ => (fun _ => ⟨rfl, ⟨rfl, ⟨rfl, ⟨rfl, ⟨rfl, ⟨rfl, ⟨rfl, ⟨rfl, ⟨rfl, ⟨rfl, ⟨trivial, ⟨trivial, ⟨rfl, trivial⟩⟩⟩⟩⟩⟩⟩⟩⟩⟩⟩⟩⟩))⟩
def innerVF_t4 : Prop :=
  (1 : Nat) = (1 : Nat) ∧ ∀ (i : Nat), i < (1 : Nat) → ((0 : Nat) = (0 : Nat) ∧ (0 : Nat) = (0 : Nat)) ∧ True
theorem innerVF_t4_t : innerVF_t4 :=
  ⟨rfl, (fun _ => (fun _ => ⟨⟨rfl, rfl⟩, trivial⟩))⟩
def innerVF_t5 : Prop :=
  (1 : Nat) = (1 : Nat) ∧ ∀ (i : Nat), i < (1 : Nat) → (True ∧ True) ∧ True
theorem innerVF_t5_t : innerVF_t5 :=
  ⟨rfl, (fun _ => (fun _ => ⟨⟨trivial, trivial⟩, trivial⟩))⟩
def innerVF_t6 (p : IP) : Prop :=
  (p.7 = p.7 ∧ ∀ (i : Nat), i < p.k → p.8 i = p.8 i ∧ True) ∧ True
theorem innerVF_t6_t (p : IP) : innerVF_t6 p :=
  ⟨⟨rfl, (fun _ => (fun _ => ⟨rfl, trivial⟩))⟩, trivial⟩
def innerVF_t7 (p : IP) (now : Sta) : Prop :=
  True ∧ (4 : Nat) = (4 : Nat) ∧ (((0 : Nat) = (0 : Nat) ∧ (0 : Nat) = (0 : Nat)) ∧ (4 : Int) = (4 : Int) ∧ now.3 = now.3 ∧ True) ∧ ((1 : Nat) = (1 : Nat) ∧ ∀ (i : Nat), i < (1 : Nat) → p.1.1 = p.1.1 ∧ p.1.2 = p.1.2 ∧ p.1.3 = p.1.3 ∧ p.1.4 = p.1.4 ∧ p.2.1 = p.2.1 ∧ p.2.2 = p.2.2 ∧ p.2.3 = p.2.3 ∧ p.2.4 = p.2.4 ∧ p.2.5 = p.2.5 ∧ p.2.6 = p.2.6 ∧ True ∧ True ∧ ((0 : Nat) = (0 : Nat) ∧ p.7 = p.7) ∧ True) ∧ Leaf (duesE.Perm duesE) ∧ Leaf (effectsE.Perm effectsE) ∧ (p.7 = p.7 ∧ ∀ (i : Nat), i < p.7 → p.8 i = p.8 i ∧ True) ∧ True
theorem innerVF_t7_t (p : IP) (now : Sta) : innerVF_t7 p now :=
  ⟨trivial, ⟨rfl, ⟨⟨⟨rfl, rfl⟩, ⟨rfl, ⟨rfl, trivial⟩⟩⟩, ⟨⟨rfl, (fun _ => (fun _ => ⟨rfl, ⟨rfl, ⟨rfl, ⟨rfl, ⟨rfl, ⟨rfl, ⟨rfl, ⟨rfl, ⟨rfl, ⟨rfl, ⟨trivial, ⟨trivial, ⟨⟨rfl, rfl⟩, trivial⟩⟩⟩⟩⟩⟩⟩⟩⟩⟩⟩⟩⟩))⟩, ⟨(List.Perm.refl _), ⟨(List.Perm.refl _), ⟨⟨rfl, (fun _ => (fun _ => ⟨rfl, trivial⟩))⟩, trivial⟩⟩⟩⟩⟩⟩⟩
def innerVF_t8 (p : IP) (now : Sta) : Prop :=
  True ∧ (4 : Nat) = (4 : Nat) ∧ (((0 : Nat) = (0 : Nat) ∧ (0 : Nat) = (0 : Nat)) ∧ (5 : Int) = (5 : Int) ∧ now.3 = now.3 ∧ True) ∧ ((1 : Nat) = (1 : Nat) ∧ ∀ (i : Nat), i < (1 : Nat) → p.1.1 = p.1.1 ∧ p.1.2 = p.1.2 ∧ p.1.3 = p.1.3 ∧ p.1.4 = p.1.4 ∧ p.2.1 = p.2.1 ∧ p.2.2 = p.2.2 ∧ p.2.3 = p.2.3 ∧ p.2.4 = p.2.4 ∧ p.2.5 = p.2.5 ∧ p.2.6 = p.2.6 ∧ True ∧ True ∧ ((0 : Nat) = (0 : Nat) ∧ p.7 = p.7) ∧ True) ∧ Leaf (duesE.Perm duesE) ∧ Leaf (effectsE.Perm effectsE) ∧ (p.7 = p.7 ∧ ∀ (i : Nat), i < p.7 → p.8 i = p.8 i ∧ True) ∧ True
theorem innerVF_t8_t (p : IP) (now : Sta) : innerVF_t8 p now :=
  ⟨trivial, ⟨rfl, ⟨⟨⟨rfl, rfl⟩, ⟨rfl, ⟨rfl, trivial⟩⟩⟩, ⟨⟨rfl, (fun _ => (fun _ => ⟨rfl, ⟨rfl, ⟨rfl, ⟨rfl, ⟨rfl, ⟨rfl, ⟨rfl, ⟨rfl, ⟨rfl, ⟨rfl, ⟨trivial, ⟨trivial, ⟨⟨rfl, rfl⟩, trivial⟩⟩⟩⟩⟩⟩⟩⟩⟩⟩⟩⟩⟩))⟩, ⟨(List.Perm.refl _), ⟨(List.Perm.refl _), ⟨⟨rfl, (fun _ => (fun _ => ⟨rfl, trivial⟩))⟩, trivial⟩⟩⟩⟩⟩⟩⟩
def innerVF_t9 (p : IP) (now : Sta) : Prop :=
  True ∧ (4 : Nat) = (4 : Nat) ∧ (((0 : Nat) = (0 : Nat) ∧ (0 : Nat) = (0 : Nat)) ∧ (0 : Int) = (0 : Int) ∧ now.3 = now.3 ∧ True) ∧ ((1 : Nat) = (1 : Nat) ∧ ∀ (i : Nat), i < (1 : Nat) → p.1.1 = p.1.1 ∧ p.1.2 = p.1.2 ∧ p.1.3 = p.1.3 ∧ p.1.4 = p.1.4 ∧ p.2.1 = p.2.1 ∧ p.2.2 = p.2.2 ∧ p.2.3 = p.2.3 ∧ p.2.4 = p.2.4 ∧ p.2.5 = p.2.5 ∧ p.2.6 = p.2.6 ∧ True ∧ True ∧ ((0 : Nat) = (0 : Nat) ∧ p.7 = p.7) ∧ True) ∧ Leaf (duesE.Perm duesE) ∧ Leaf (effectsE.Perm effectsE) ∧ (p.7 = p.7 ∧ ∀ (i : Nat), i < p.7 → p.8 i = p.8 i ∧ True) ∧ True
theorem innerVF_t9_t (p : IP) (now : Sta) : innerVF_t9 p now :=
  ⟨trivial, ⟨rfl, ⟨⟨⟨rfl, rfl⟩, ⟨rfl, ⟨rfl, trivial⟩⟩⟩, ⟨⟨rfl, (fun _ => (fun _ => ⟨rfl, ⟨rfl, ⟨rfl, ⟨rfl, ⟨rfl, ⟨rfl, ⟨rfl, ⟨rfl, ⟨rfl, ⟨rfl, ⟨trivial, ⟨trivial, ⟨⟨rfl, rfl⟩, trivial⟩⟩⟩⟩⟩⟩⟩⟩⟩⟩⟩⟩⟩))⟩, ⟨(List.Perm.refl _), ⟨(List.Perm.refl _), ⟨⟨rfl, (fun _ => (fun _ => ⟨rfl, trivial⟩))⟩, trivial⟩⟩⟩⟩⟩⟩⟩
def innerVF_t10 (p : IP) (now : Sta) : Prop :=
  True ∧ (p.4 = p.4 ∧ ∀ (i : Nat), i < p.n → (p.3 i).1 = (p.3 i).1 ∧ (p.3 i).2 = (p.3 i).2 ∧ (p.3 i).3 = (p.3 i).3 ∧ True) ∧ Leaf (duesE.Perm duesE) ∧ Leaf (effectsE.Perm effectsE) ∧ ((1 : Nat) = (1 : Nat) ∧ ∀ (i : Nat), i < (1 : Nat) → p.1.1 = p.1.1 ∧ p.1.2 = p.1.2 ∧ p.1.3 = p.1.3 ∧ p.1.4 = p.1.4 ∧ p.2.1 = p.2.1 ∧ p.2.2 = p.2.2 ∧ p.2.3 = p.2.3 ∧ p.2.4 = p.2.4 ∧ p.2.5 = p.2.5 ∧ p.2.6 = p.2.6 ∧ True ∧ True ∧ p.7 = p.7 ∧ True) ∧ ((1 : Nat) = (1 : Nat) ∧ ∀ (i : Nat), i < (1 : Nat) → ((0 : Nat) = (0 : Nat) ∧ (0 : Nat) = (0 : Nat)) ∧ True) ∧ True ∧ True ∧ ((1 : Nat) = (1 : Nat) ∧ ∀ (i : Nat), i < (1 : Nat) → (True ∧ True) ∧ True) ∧ ((1 : Nat) = (1 : Nat) ∧ ∀ (i : Nat), i < (1 : Nat) → now.1 = now.1 ∧ now.2 = now.2 ∧ now.3 = now.3 ∧ True) ∧ (p.7 = p.7 ∧ ∀ (i : Nat), i < p.k → p.8 i = p.8 i ∧ True) ∧ True
theorem innerVF_t10_t (p : IP) (now : Sta) : innerVF_t10 p now :=
  ⟨trivial, ⟨⟨rfl, (fun _ => (fun _ => ⟨rfl, ⟨rfl, ⟨rfl, trivial⟩⟩⟩))⟩, ⟨(List.Perm.refl _), ⟨(List.Perm.refl _), ⟨⟨rfl, (fun _ => (fun _ => ⟨rfl, ⟨rfl, ⟨rfl, ⟨rfl, ⟨rfl, ⟨rfl, ⟨rfl, ⟨rfl, ⟨rfl, ⟨rfl, ⟨trivial, ⟨trivial, ⟨rfl, trivial⟩⟩⟩⟩⟩⟩⟩⟩⟩⟩⟩⟩⟩))⟩, ⟨⟨rfl, (fun _ => (fun _ => ⟨⟨rfl, rfl⟩, trivial⟩))⟩, ⟨trivial, ⟨trivial, ⟨⟨rfl, (fun _ => (fun _ => ⟨⟨trivial, trivial⟩, trivial⟩))⟩, ⟨⟨rfl, (fun _ => (fun _ => ⟨rfl, ⟨rfl, ⟨rfl, trivial⟩⟩⟩))⟩, ⟨⟨rfl, (fun _ => (fun _ => ⟨rfl, trivial⟩))⟩, trivial⟩⟩⟩⟩⟩⟩⟩⟩⟩⟩⟩
def innerVF_T (p : IP) (now : Sta) : Prop :=
  ifB (decide (now.3 ≥ (0 : Int)) == true) (ifB (decide (now.3 ≤ p.6)) (((((now.1 == (1 : Int)) = true → (now.1 == (2 : Int)) = true → False) ∧ ((now.1 == (1 : Int)) = true → (now.1 == (3 : Int)) = true → False) ∧ ((now.1 == (1 : Int)) = true → (now.1 == (4 : Int)) = true → False) ∧ True) ∧ (((now.1 == (2 : Int)) = true → (now.1 == (3 : Int)) = true → False) ∧ ((now.1 == (2 : Int)) = true → (now.1 == (4 : Int)) = true → False) ∧ True) ∧ (((now.1 == (3 : Int)) = true → (now.1 == (4 : Int)) = true → False) ∧ True) ∧ True ∧ True) ∧ ifB (now.1 == (1 : Int)) (innerVF_t0 p now ∧ Leaf (goesOn p.u now = true) ∧ innerVF_t1 p ∧ innerVF_t2 p ∧ Leaf (duesE.Perm duesE) ∧ Leaf (effectsE.Perm effectsE) ∧ innerVF_t3 p ∧ innerVF_t4 ∧ True ∧ True ∧ innerVF_t5 ∧ ((1 : Nat) = (1 : Nat) ∧ ∀ (i : Nat), i < (1 : Nat) → Ytmcidfecepknpaa.follow now.1 = (3 : Int) ∧ now.3 = now.3 ∧ nextOf p.1 (Ytmcidfecepknpaa.follow now.1) now.3 = w64 (now.3 + p.1.2) ∧ True) ∧ innerVF_t6 p) (ifB (now.1 == (2 : Int)) (innerVF_t0 p now ∧ Leaf (goesOn p.u now = true) ∧ innerVF_t1 p ∧ innerVF_t2 p ∧ Leaf (duesE.Perm duesE) ∧ Leaf (effectsE.Perm effectsE) ∧ innerVF_t3 p ∧ innerVF_t4 ∧ True ∧ True ∧ innerVF_t5 ∧ ((1 : Nat) = (1 : Nat) ∧ ∀ (i : Nat), i < (1 : Nat) → Ytmcidfecepknpaa.follow now.1 = (3 : Int) ∧ now.3 = now.3 ∧ nextOf p.1 (Ytmcidfecepknpaa.follow now.1) now.3 = w64 (now.3 + p.1.2) ∧ True) ∧ innerVF_t6 p) (ifB (now.1 == (3 : Int)) (innerVF_t7 p now ∧ Leaf (goesOn p.u now = true) ∧ innerVF_t1 p ∧ innerVF_t2 p ∧ Leaf (duesE.Perm duesE) ∧ Leaf (effectsE.Perm effectsE) ∧ innerVF_t3 p ∧ innerVF_t4 ∧ True ∧ True ∧ innerVF_t5 ∧ ((1 : Nat) = (1 : Nat) ∧ ∀ (i : Nat), i < (1 : Nat) → Ytmcidfecepknpaa.follow now.1 = (4 : Int) ∧ now.3 = now.3 ∧ nextOf p.1 (Ytmcidfecepknpaa.follow now.1) now.3 = w64 (now.3 + p.1.4) ∧ True) ∧ innerVF_t6 p) (ifB (now.1 == (4 : Int)) (innerVF_t8 p now ∧ Leaf (goesOn p.u now = true) ∧ innerVF_t1 p ∧ innerVF_t2 p ∧ Leaf (duesE.Perm duesE) ∧ Leaf (effectsE.Perm effectsE) ∧ innerVF_t3 p ∧ innerVF_t4 ∧ True ∧ True ∧ innerVF_t5 ∧ ((1 : Nat) = (1 : Nat) ∧ ∀ (i : Nat), i < (1 : Nat) → Ytmcidfecepknpaa.follow now.1 = (5 : Int) ∧ now.3 = now.3 ∧ nextOf p.1 (Ytmcidfecepknpaa.follow now.1) now.3 = (-1 : Int) ∧ True) ∧ innerVF_t6 p) (innerVF_t9 p now ∧ Leaf (goesOn p.u now = true) ∧ innerVF_t1 p ∧ innerVF_t2 p ∧ Leaf (duesE.Perm duesE) ∧ Leaf (effectsE.Perm effectsE) ∧ innerVF_t3 p ∧ innerVF_t4 ∧ True ∧ True ∧ innerVF_t5 ∧ ((1 : Nat) = (1 : Nat) ∧ ∀ (i : Nat), i < (1 : Nat) → Ytmcidfecepknpaa.follow now.1 = (0 : Int) ∧ now.3 = now.3 ∧ nextOf p.1 (Ytmcidfecepknpaa.follow now.1) now.3 = (-1 : Int) ∧ True) ∧ innerVF_t6 p))))) (Leaf (goesOn p.u now = false) ∧ innerVF_t10 p now)) (Leaf (goesOn p.u now = false) ∧ innerVF_t10 p now)
theorem innerVF_eq (p : IP) (now : Sta) : exec X2' 60 62 (lIV false).code ((lIV false).I p now) (zIV false p now) = innerVF_T p now := by kernel_rfl

theorem innerVF_step (p : IP) (now : Sta) (hok : now.ok p.r) : innerVF_T p now := by
  unfold innerVF_T
  repeat' (first | with_reducible refine ifB_split (fun _ => ?_) (fun _ => ?_) | with_reducible refine And.intro ?_ ?_)
  all_goals try first | with_reducible exact innerVF_t0_t _ _ | with_reducible exact innerVF_t1_t _ | with_reducible exact innerVF_t2_t _ | with_reducible exact innerVF_t3_t _ | with_reducible exact innerVF_t4_t | with_reducible exact innerVF_t5_t | with_reducible exact innerVF_t6_t _ | with_reducible exact innerVF_t7_t _ _ | with_reducible exact innerVF_t8_t _ _ | with_reducible exact innerVF_t9_t _ _ | with_reducible exact innerVF_t10_t _ _ | with_reducible rfl | with_reducible exact trivial | with_reducible exact List.Perm.refl _
  all_goals first
    | (simp_all [Leaf, goesOn]; done)
    | (simp_all [Leaf, goesOn]; intros; omega)
    | (simp_all [Leaf, goesOn, step1, begins, follow, nextOf, w64, Sta.ok]; done)
    | (simp_all [Leaf, goesOn, step1, begins, follow, nextOf, w64, Sta.ok]; omega)

set_option maxRecDepth 100000 in
theorem innerVF_ok : LoopOK X2'.P (lIV false).code (lIV false).L := by
  refine (lIV false).ok X2'_ok 60 62 (fun p s => rank s.state) (zIV false) (fun _ _ _ => ⟨⟨rfl, rfl, rfl, rfl⟩, trivial⟩) (fun p d w q hw => ?_) (fun p s S' hJ h => ?_) (fun p s x S' hx hJ h => ?_) fun p s hJ => ?_
  · match w, hw with
    | 0, _ => exact ⟨⟨rfl, rfl, rfl, rfl⟩, trivial⟩
  · obtain ⟨h1, h3⟩ := h
    simp only [Leaf] at h1
    obtain ⟨⟨m, hm, ha⟩, hok⟩ := hJ
    have hr := rank_pos hok h1
    obtain ⟨m', rfl⟩ : ∃ m', m = m' + 1 := ⟨m - 1, by omega⟩
    refine ⟨[], step1 p.r s, ?_, ⟨⟨m', ?_, ?_⟩, rfl⟩, h3⟩
    · show rank (follow s.state) < rank s.state
      omega
    · show rank (follow s.state) ≤ m'
      omega
    · rw [ha]
      simp only [goN, h1]
  · obtain ⟨⟨m, hm, ha⟩, hok⟩ := hJ
    cases x with
    | normal => exact hx.elim
    | ret => exact h.elim
    | exit k =>
      obtain ⟨h0, h1, h2⟩ := gateB_spec h
      have h0 := Nat.eq_of_beq_eq_true h0
      subst h0
      simp only [Leaf] at h1
      exact ⟨0, s, [], Nat.lt_succ_self 0, ⟨by rw [ha]; exact goN_done h1 m, hok⟩, rfl, h2⟩
  · obtain ⟨_, hok⟩ := hJ
    rw [innerVF_eq]
    exact innerVF_step p s hok
end Go.Proofs.Ytmcidfecepknpaa

namespace Go.Proofs.Ytmcidfecepknpaa
open Go Go.Sh Go.Proofs
set_option linter.unusedVariables false
noncomputable def X3V : Ctx := X2'.loop 62 1 (lIV true).code (orL 17 ((lIV true).by (exIV true)) ((lIV false).by (exIV false)))
theorem X3V_ok : X3V.OK := Ctx.loop_ok X2'_ok (orL_ok (innerVT_ok.by (exIV true)) (innerVF_ok.by (exIV false)) 17)

def lMV_J (p : MP) (d : MD) : Prop := d.i ≤ p.n ∧ p.n ≤ 20 ∧ runN p.r p.c p.E p.a d.i = d.now ∧ d.now.ok p.r ∧ d.k ≤ d.i ∧ Lst d.k d.V = voids p.r p.c p.E p.a d.i
noncomputable def lMV : LSpec MP MD MD where
  code := loopOf Try.prog 60 5
  N := 14
  I := fun p d => blank 66 [(0, .fn (.yield 11) [] []), (1, .ptr 8 0 0), (3, .ptr 12 0 0), (4, .ptr 14 0 0), (5, .fn (.func 62) [] [.ptr 14 0 0, .ptr 8 0 0, .ptr 12 0 0]), (22, .sl 0 0 p.n), (23, iv p.n), (24, iv d.i)] (heapV (p.ip d) .ready none (staO d.now) [])
  J := lMV_J
  ways := 1
  E := fun w p q => (.exit 0, blank 66 [(5, .fn (.func 62) [] [.ptr 14 0 0, .ptr 8 0 0, .ptr 12 0 0])] (heapV (p.ip q) .ready none (staO q.now) []))
  JE := fun w p q => Leaf (runN p.r p.c p.E p.a p.n = q.now ∧ q.now.ok p.r ∧ Lst q.k q.V = voids p.r p.c p.E p.a p.n)

/-- The state of Void's loop after a round: what is now, the void events and where they lie. -/
def outV (S : SS) (k : Sta → Nat → (Nat → Int) → Nat → Nat → Prop) : Prop := match S.get 4, arrOf S.heap 7 with
  | .ptr ln _ _, some (_, m) => match arrOf S.heap ln, m 0 with
    | some (_, a), [_, _, _, _, _, _, _, _, _, _, _, _, .osl l n] => match arrOf S.heap l with
      | some (_, V) => k (Sta.ofC (a 0)) n (fun i => intOf (V i)) ln l
      | none => False
    | _, _ => False
  | _, _ => False
def vNext (p : MP) (d : MD) (k : Nat) (V : Nat → Int) : Prop := match afterB p.c (goN p.r (p.E d.i).at' 4 d.now).state (p.E d.i) with
  | true => k = d.k ∧ ∀ j, j < d.k → V j = d.V j
  | false => k = d.k + 1 ∧ (∀ j, j < d.k → V j = d.V j) ∧ V d.k = d.i
noncomputable def zMV (p : MP) (d : MD) : KX := fun x S' => match x with
  | .normal => outV S' fun o k V ln lv => Leaf (d.i < p.n) ∧ Leaf (evN p.r p.c d.now (p.E d.i) = o ∧ o.ok p.r) ∧ Leaf (vNext p d k V) ∧ Wk 14 [some ln, some lv] (lMV.I p ⟨d.i + 1, o, k, V⟩) S'
  | .exit j => gateB (Nat.beq j 0) (Leaf (p.n ≤ d.i) ∧ Wk 14 [some 14, some 15] (lMV.E 0 p d).2 S')
  | .ret => False
end Go.Proofs.Ytmcidfecepknpaa

