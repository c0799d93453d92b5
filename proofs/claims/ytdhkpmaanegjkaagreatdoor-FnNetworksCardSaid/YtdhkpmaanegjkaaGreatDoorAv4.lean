/- The abstract layer: values, steps, contracts, part Av4: an abstract walk of Go functions whose soundness is proved here once. No conditions. -/
import Derived.Laws.BytesArg
import Derived.StillTail
import Derived.Test.YtdhkpmaanegjkaaGreatDoorAv2
set_option linter.unusedVariables false
set_option linter.unusedSimpArgs false
namespace Go.Av
open Go.RowKit
theorem exact_move {pl pl' : Nat → Pl} {L L' : Nat} {S Fr S' Fr' : Nat → Prop} {w w' : World} {v : AV} {u u' : Value} (hu : exactV v = some u) (hres : RelA pl L S Fr w v u') : RelA pl' L' S' Fr' w' v u' := by
  unfold exactV at hu
  split at hu
  · exact .p hres.pinv.scalar
  · rename_i fl cs
    cases hx : exL exPV cs with
    | none => rw [hx] at hu; cases hu
    | some us' =>
      obtain ⟨h1, h2⟩ := exL_spec hx
      have hp := hres.pinv
      cases hp with
      | @agg _ arr hs h1' hr' =>
        refine .p (.agg hs h1' fun j p u hp hu => ?_)
        obtain ⟨u', e1, e2⟩ := h2 j p hp
        have := hr' j p u hp hu
        cases p with
        | c v => exact this.scalar
        | _ => cases e2
  · rename_i vs'
    cases hx : exL exAV vs' with
    | none => rw [hx] at hu; cases hu
    | some us' =>
      obtain ⟨h1, h2⟩ := exL_spec hx
      cases hres with
      | @tup _ arr hs hr' =>
        refine .tup hs fun j p u hp hu => ?_
        obtain ⟨u', e1, e2⟩ := h2 j p hp
        have := hr' j p u hp hu
        cases p with
        | p fl q =>
          cases q with
          | c v => exact .p this.pinv.scalar
          | _ => cases e2
        | _ => cases e2
  · cases hu
def calleeW (st : St) (G : Bool) (callee : Callee) (vs : List AV) (K : FuncId → List AV → Prop) : Prop := match callee with
  | .value (.func f) => K f vs
  | .value (.tmp t) => withV st G (.tmp t) fun v => (match v with
    | .afn f caps => K f (vs ++ caps)
    | .p fl (.fn f ps) => K f (vs ++ ps.map (.p fl))
    | _ => False)
  | _ => False
def argsW (P : Program) [Kn P] (zs : TypeId → List PV) (st : St) (G : Bool) : List Operand → List TypeId → (List AV → Prop) → Prop
  | [], _, K => K []
  | x :: xs, ts, K => withV st G x fun v => argsW P zs st G xs ts.tail fun vs => K ((match ts.head? with | some t => coerce P zs t v | none => v) :: vs)
def CallQ (P : Program) [Kn P] (st : St) (f : FuncId) (vs : List AV) (v : AV) : Prop :=
  ∃ u, exactV v = some u ∧ seqW (convW st.heap [] true) vs fun args => FnSem P f args [] fun rs _ => retAV rs = v
section
variable {N m : Nat} {F A : Nat → Prop} {w0 : World} {st : St} {pl : Nat → Pl} {a : Act} {w : World} {P : Program} [Kn P]
theorem live_nil {pl : Nat → Pl} {k b : Nat} : ¬ owns pl [] k b := by simp [owns]
theorem callQ_sound (hC : ConcP N m F A w0 st pl a w) (hF : HF P F A w0) {f : FuncId} {vs : List AV} {v : AV} (h : CallQ P st f vs v) {us : Array Value} (hl : us.size = vs.length)
    (hus : ∀ (j : Nat) (v : AV) (u : Value), vs[j]? = some v → us[j]? = some u → RelA pl st.heap.length (Sany A w0.heap.size pl st.heap w) (Fresh w0.heap.size pl st.heap w) w v u) :
    ∃ u, exactV v = some u ∧ callable P f = true ∧ Calls P f us w fun e w' => e = .returned u ∧ Ext w w' ∧ ∀ (pl' : Nat → Pl) (L : Nat) (S Fr : Nat → Prop), RelA pl' L S Fr w' v u := by
  obtain ⟨u, hu, h⟩ := h
  obtain ⟨args, hsem, hla, hra⟩ := seqW_sound (r := fun v v' => ∀ (L' : Nat) (Sc Frc : Nat → Prop), ([] : List Nat).length ≤ L' → Hand pl st.heap A w0.heap.size w [] true Sc → ∀ u, RelA pl st.heap.length (Sany A w0.heap.size pl st.heap w) (Fresh w0.heap.size pl st.heap w) w v u → RelA (renPl [] pl) L' Sc Frc w v' u)
      (fun v K h => convW_sound hC.seen h) h
  refine ⟨u, hu, hsem.1, (hsem.2 w us (renPl [] pl) (fun b => b < w.heap.size) (fun b hb => ⟨hb, fun k hk => (live_nil hk).elim⟩) (Kn.keep hF.kn (fun b hb => Nat.lt_of_lt_of_le (hF.lt b (hF.sub b hb)) hC.hsize) (fun b hb => hC.frame b (hF.sub b hb)) hC.hsize) ?_).mono ?_⟩
  · refine ⟨fun k b hk => (live_nil hk).elim, fun k hk => by simp [isnew] at hk, fun k k' b hk => (live_nil hk).elim, fun k ob hk => by simp at hk, by rw [hl, hla], fun j v' u' hv' hu' => ?_⟩
    have h1 : j < vs.length := by rw [← hla]; exact (List.getElem?_eq_some_iff.1 hv').1
    have hst : ∀ b, b < w.heap.size → Sany (fun b => b < w.heap.size) w.heap.size (renPl [] pl) [] w b := fun b hb => ⟨⟨hb, fun k hk => (live_nil hk).elim⟩, .inl hb⟩
    exact hra j _ v' (List.getElem?_eq_getElem h1) hv' _ _ _ (Nat.zero_le _) ⟨fun hh => (by cases hh), fun _ b hb => hst b hb.1, fun _ k b hk _ => hst _ (hC.ownlt k b hk)⟩ u' (hus j _ u' (List.getElem?_eq_getElem h1) hu')
  · rintro e w' ⟨v', rs, hout, pl', rfl, hR, hB⟩
    have hres := hB.res
    rw [hR] at hres
    have e1 := exactV_spec hu hres
    subst e1
    refine ⟨rfl, ⟨hB.os, hB.tape, hB.output, hB.size, fun b hb => hB.frame b ⟨hb, fun k hk => (live_nil hk).elim⟩⟩, fun pl'' L S Fr => ?_⟩
    exact exact_move hu hres
theorem coerce_rel {zs : TypeId → List PV} {t : TypeId} {L : Nat} {S Fr : Nat → Prop} {v : AV} {u : Value} (h : RelA pl L S Fr w v u) : RelA pl L S Fr w (coerce P zs t v) u := (fun _ => (
coerce_sound h
)) (inferInstance : Kn P)
theorem argsW_sound {S Fr : Nat → Prop} (hS : Seen pl S Fr w st a) {zs : TypeId → List PV} {G : Bool} : ∀ {xs : List Operand} {ts : List TypeId} {K : List AV → Prop}, argsW P zs st G xs ts K →
    ∃ vs, K vs ∧ vs.length = xs.length ∧ (G = true → ∀ (j : Nat) (v : AV) (u : Value), vs[j]? = some v → (xs.map a.eval)[j]? = some u → RelA pl st.heap.length S Fr w v u)
  | [], ts, K, h => ⟨[], h, rfl, fun _ j v u hv => by simp at hv⟩
  | x :: xs, ts, K, h => by
    unfold argsW at h
    obtain ⟨v, hv, hr⟩ := withV_sound hS h
    obtain ⟨vs, hK, hl, hrs⟩ := argsW_sound hS hv
    refine ⟨_, hK, by simp [hl], fun hG j v' u' hv' hu' => ?_⟩
    cases j with
    | zero =>
      simp at hv' hu'
      subst hv' hu'
      cases ts.head? with
      | none => exact hr hG
      | some t => exact coerce_rel (hr hG)
    | succ j => simp only [List.getElem?_cons_succ, List.map_cons] at hv' hu'; exact hrs hG j v' u' hv' hu'
theorem calleeW_sound {S Fr : Nat → Prop} (hS : Seen pl S Fr w st a) {G : Bool} {c : Callee} {vs : List AV} {K : FuncId → List AV → Prop} (h : calleeW st G c vs K) :
    ∃ f vs', K f vs' ∧ (G = true → ∀ (us : Array Value), us.size = vs.length → (∀ (j : Nat) (v : AV) (u : Value), vs[j]? = some v → us[j]? = some u → RelA pl st.heap.length S Fr w v u) →
      ∃ us', (us'.size = vs'.length ∧ ∀ (j : Nat) (v : AV) (u : Value), vs'[j]? = some v → us'[j]? = some u → RelA pl st.heap.length S Fr w v u) ∧
        ∀ (call : Call) (t : TypeId) (w' : World), call.callee = c → call.args.map a.eval = us → callable P f = true → ((do let d ← resolve a.eval call t; invoke d.target d.args) : Sem Next).run P w' = .ok (.enter f us') w') := by
  have fin : ∀ (f : FuncId) (args : Array Value) (w' : World), callable P f = true → (callFunc f args).run P w' = .ok (.enter f args) w' := by
    intro f args w' hc
    unfold callable at hc
    split at hc
    case h_2 => cases hc
    rename_i fn hf
    simp only [Bool.and_eq_true, Bool.not_eq_true'] at hc
    have h1 : fn.name ≠ "runtime.NumGoroutine" := by simpa using hc.1
    obtain ⟨c, hb⟩ := Option.isSome_iff_exists.1 hc.2
    simp [callFunc, hf, h1, hb]
  unfold calleeW at h
  split at h
  case h_1 f =>
    refine ⟨f, vs, h, fun _ us hl hr => ⟨us, ⟨hl, hr⟩, fun call t w' hc hu hcl => ?_⟩⟩
    simp only [resolve, hc, hu, Deferred.ofValue, Act.eval, Sem.run_bind, Sem.run_pure, Result.andThen_ok, invoke]
    simp [fin f _ w' hcl]
  case h_2 t =>
    obtain ⟨v, hv, hrv⟩ := withV_sound hS h
    split at hv
    · rename_i f caps
      refine ⟨f, _, hv, fun hG us hl hr => ?_⟩
      have hv' := hrv hG
      generalize hq : a.eval (.tmp t) = q at hv'
      cases hv' with
      | @afn _ _ arr hs hr' =>
        refine ⟨us ++ arr, ⟨by simp [hl, hs], fun j v u hv hu => ?_⟩, fun call t' w' hc hu hcl => ?_⟩
        · by_cases hj : j < vs.length
          · rw [List.getElem?_append_left hj] at hv
            rw [Array.getElem?_append_left (by omega)] at hu
            exact hr j v u hv hu
          · rw [List.getElem?_append_right (by omega)] at hv
            rw [Array.getElem?_append_right (by omega), hl] at hu
            exact hr' _ v u hv hu
        · simp only [resolve, hc, hu, hq, Deferred.ofValue, Sem.run_bind, Sem.run_pure, Result.andThen_ok, invoke]
          simp [fin f _ w' hcl]
    · rename_i fl f ps
      refine ⟨f, _, hv, fun hG us hl hr => ?_⟩
      have hv' := (hrv hG).pinv
      generalize hq : a.eval (.tmp t) = q at hv'
      cases hv' with
      | @fn _ _ arr hs hr' =>
        refine ⟨us ++ arr, ⟨by simp [hl, hs], fun j v u hv hu => ?_⟩, fun call t' w' hc hu hcl => ?_⟩
        · by_cases hj : j < vs.length
          · rw [List.getElem?_append_left hj] at hv
            rw [Array.getElem?_append_left (by omega)] at hu
            exact hr j v u hv hu
          · rw [List.getElem?_append_right (by omega), List.getElem?_map] at hv
            rw [Array.getElem?_append_right (by omega), hl] at hu
            cases hx : ps[j - vs.length]? with
            | none => rw [hx] at hv; cases hv
            | some p => rw [hx] at hv; cases hv; exact .p (hr' _ p u hx hu)
        · simp only [resolve, hc, hu, hq, Deferred.ofValue, Sem.run_bind, Sem.run_pure, Result.andThen_ok, invoke]
          simp [fin f _ w' hcl]
    · exact hv.elim
  case h_3 => exact h.elim
end
end Go.Av
namespace Go.Av
open Go.RowKit
section
variable {N m : Nat} {F A : Nat → Prop} {w0 : World} {st : St} {pl : Nat → Pl} {a : Act} {w : World} {P : Program} [Kn P]
theorem Src.firstN {S : Nat → Prop} {zl c : Nat} {es : List (List PV)} {u : Value} {news : List Value} (h : Src S w zl es u news) (hc : c ≤ es.length) : (Builtin.firstCells zl c u).run P w = .ok (news.take (c * zl)).toArray w := by
  have _k : Kn P := inferInstance
  obtain ⟨A', cp, rfl, hA⟩ := h.shape
  have hle : c * zl ≤ news.length := by rw [h.len]; exact Nat.mul_le_mul_right _ hc
  cases A' with
  | none =>
    have h0 : es.length = 0 := by
      rcases Nat.eq_zero_or_pos es.length with h0 | h0
      · exact h0
      · obtain ⟨ad, h1, _⟩ := hA h0; cases h1
    have : news = [] := List.eq_nil_of_length_eq_zero (by rw [h.len, h0]; simp)
    subst this
    simp [Builtin.firstCells]
  | some ad =>
    refine run_firstCells_some w zl c ad es.length cp (news.take (c * zl)) (by rw [List.length_take]; omega) fun j v hv => ?_
    rcases Nat.eq_zero_or_pos es.length with h0 | h0
    · have : news = [] := List.eq_nil_of_length_eq_zero (by rw [h.len, h0]; simp)
      subst this
      simp at hv
    · obtain ⟨ad', h1, h2⟩ := hA h0
      cases h1
      rw [List.getElem?_take] at hv
      split at hv
      · exact h2 j v hv
      · cases hv
set_option maxHeartbeats 1000000 in
theorem hop_copy (hC : ConcP N m F A w0 st pl a w) {o : Oper} {t t' : TypeId} {d s : Operand} {args : Array Operand} {ts : Array TypeId} (ho : o.op = .call { callee := .builtin .copy, args, argTypes := ts }) (hargs : args.toList = [d, s]) (hts : ts.toList = [t, t'])
    {vd vs : AV} (hd : RelA pl st.heap.length (Sany A w0.heap.size pl st.heap w) (Fresh w0.heap.size pl st.heap w) w vd (a.eval d)) (hs : RelA pl st.heap.length (Sany A w0.heap.size pl st.heap w) (Fresh w0.heap.size pl st.heap w) w vs (a.eval s))
    {K : AV → List OB → Prop} (h : copyW P st.heap t vd vs K) : ∃ v h', K v h' ∧ HopOk P N m F A w0 st pl a w o v h' := by
  have hargs' : args = #[d, s] := by apply Array.ext'; simpa using hargs
  have hts' : ts = #[t, t'] := by apply Array.ext'; simpa using hts
  subst hargs' hts'
  have hexec : ∀ {v : Value} {w' : World}, (Builtin.copy_ #[t, t'] o.type #[a.eval d, a.eval s]).run P w = .ok v w' → (execOp a.eval o).run P w = .ok (.value v) w' := by
    intro v w' hr
    simp only [execOp, ho, resolve, invoke, builtin, Sem.run_bind, Sem.run_pure, Result.andThen_ok, List.map_toArray, List.map_cons, List.map_nil, hr]
  unfold copyW at h
  split at h
  case h_2 => exact h.elim
  rename_i e ht
  split at h
  case h_2 => exact h.elim
  rename_i k lo n
  split at h
  case h_2 => exact h.elim
  rename_i nw fl z es hk
  obtain ⟨hz, hn, h⟩ := h
  have hn := hn rfl
  obtain ⟨fl', es', ⟨c, rfl, es2, rfl, hK⟩, hsrc⟩ := srcW_sound hC h
  obtain ⟨news, hS⟩ := hsrc _ hs
  obtain ⟨g1, g2, g3, g4, g5, g6⟩ := hC.heap k _ hk
  have h0 : P.cellsOf e ≠ 0 := by omega
  have hFS : ∀ b, Fresh w0.heap.size pl st.heap w b → Sany A w0.heap.size pl st.heap w b := fun b hb => ⟨hb.2, .inr hb.1⟩
  refine ⟨_, _, hK, ?_⟩
  generalize hcd : min es'.length n = c at *
  have hc1 : c ≤ es'.length := by omega
  have hc2 : c ≤ n := by omega
  have hcz : c * z.length ≤ news.length := by rw [hS.len]; exact Nat.mul_le_mul_right _ hc1
  have hfc := hS.firstN (P := P) hc1
  obtain ⟨A2, cp, hse, hA2⟩ := hS.shape
  have htl : (es'.take c).length = c := by rw [List.length_take]; omega
  have hlen2 : (es.take lo ++ es'.take c ++ es.drop (lo + c)).length = es.length := by
    simp only [List.length_append, List.length_take, List.length_drop]; omega
  have hget : ∀ (i : Nat) (e : List PV), (es.take lo ++ es'.take c ++ es.drop (lo + c))[i]? = some e → (lo ≤ i ∧ i < lo + c ∧ es'[i - lo]? = some e) ∨ (¬(lo ≤ i ∧ i < lo + c) ∧ es[i]? = some e) := by
    intro i e he
    have hsp := splice_get (l := es) (vs := es'.take c) (o := lo) (by rw [htl]; omega) i
    rw [htl] at hsp
    rw [hsp] at he
    by_cases hi : lo ≤ i ∧ i < lo + c
    · rw [if_pos hi, List.getElem?_take, if_pos (by omega)] at he
      exact .inl ⟨hi.1, hi.2, he⟩
    · rw [if_neg hi] at he
      exact .inr ⟨hi, he⟩
  have helen : ∀ (i : Nat) (e : List PV), (es.take lo ++ es'.take c ++ es.drop (lo + c))[i]? = some e → e.length = z.length := by
    intro i e he
    rcases hget i e he with ⟨_, _, h3⟩ | ⟨_, h3⟩
    · exact hS.elen _ _ h3
    · exact g5 _ _ h3
  have hint : RelA pl (st.heap.set k (OB.row nw (Fl.join fl fl') z (es.take lo ++ es'.take c ++ es.drop (lo + c)))).length (Sany A w0.heap.size pl (st.heap.set k (OB.row nw (Fl.join fl fl') z (es.take lo ++ es'.take c ++ es.drop (lo + c)))) w) (Fresh w0.heap.size pl (st.heap.set k (OB.row nw (Fl.join fl fl') z (es.take lo ++ es'.take c ++ es.drop (lo + c)))) w) w (.p .flat (.c (.int .i64 (c : Int)))) (goInt c) := by
    refine .mkc ((wrap_eq_iff .i64 _).2 ?_) rfl
    simp only [kmin, kmax, maxLen] at g3 ⊢
    omega
  cases hde : a.eval d with
  | slice Ad n' C =>
    rw [hde] at hd
    cases hd with
    | osl hkL hA hCc hn' hM =>
      by_cases hc0 : c = 0
      · -- nothing is copied
        subst hc0
        obtain ⟨hN, hmk⟩ := hC.write' hk (ob' := .row nw (Fl.join fl fl') z (es.take lo ++ es'.take 0 ++ es.drop (lo + 0))) (w' := w) rfl rfl rfl rfl rfl rfl (fun _ _ => rfl)
        refine ⟨.value (goInt 0), w, pl, hexec ?_, fun _ _ _ => rfl, by simp, hmk ?_, .inr ⟨_, rfl, ?_⟩⟩
        · rw [hde]
          rw [hse] at hfc ⊢
          simp only [Builtin.copy_, List.getElem?_toArray, List.getElem?_cons_zero, List.getElem?_cons_succ, Sem.run_bind, run_underlying ht, Result.andThen_ok, Builtin.lenOf, Sem.run_pure, run_sizeOf' h0]
          rw [show Nat.min es'.length n = 0 from hcd, ← hz, hfc]
          cases Ad with
          | none => simp
          | some ad => simp [storeCells]
        · have e0 : es.take lo ++ es'.take 0 ++ es.drop (lo + 0) = es := by simp
          rw [e0]
          refine ⟨g1, g2, g3, g4, g5, fun hcap => ?_⟩
          obtain ⟨ty, arr, q1, q2, q3⟩ := g6 hcap
          refine ⟨ty, arr, q1, q2, fun i j e p he hp => ?_⟩
          obtain ⟨x, r1, r2, r3⟩ := q3 i j e p he hp
          rw [e0] at hN
          exact ⟨x, r1, r2, hN.rel (r3.mono (flag_join_left hFS _ _) (fun _ _ => rfl))⟩
        · exact hint
      · have hcap : 0 < (pl k).cap := by omega
        have hAd := hA (by omega)
        obtain ⟨ty, arr, q1, q2, q3⟩ := g6 hcap
        have hlive : obOwns (pl k) (.row nw fl z es) (pl k).blk := ⟨by omega, rfl⟩
        have hCz : lo * z.length + C * z.length = (pl k).cap * z.length := by rw [← Nat.add_mul, hCc]
        have hcC : c * z.length ≤ C * z.length := Nat.mul_le_mul_right _ (by omega)
        have hnl : (news.take (c * z.length)).length = c * z.length := by rw [List.length_take]; omega
        have hfit : (pl k).off + lo * (pl k).sz + (news.take (c * z.length)).length ≤ arr.size := by rw [hnl, g1]; omega
        have hst := run_storeCells_at P (pl k).blk ((pl k).off + lo * (pl k).sz) ty (news.take (c * z.length)) 0 arr w q1 (by simpa using hfit) (fun v hv => hS.one v (List.mem_of_mem_take hv))
        simp only [Nat.add_zero] at hst
        obtain ⟨s1, s2, s3, s4, s5⟩ := setRow_same w (pl k).blk (arr.toList.take ((pl k).off + lo * (pl k).sz) ++ news.take (c * z.length) ++ arr.toList.drop ((pl k).off + lo * (pl k).sz + (news.take (c * z.length)).length)).toArray
        obtain ⟨hN, hmk⟩ := hC.write hk (ob' := .row nw (Fl.join fl fl') z (es.take lo ++ es'.take c ++ es.drop (lo + c))) rfl rfl hlive s1 s2 s3 s4 s5
        refine ⟨.value (goInt c), _, pl, hexec ?_, fun _ _ _ => rfl, by simp, hmk ?_, .inr ⟨_, rfl, ?_⟩⟩
        rotate_left
        · refine ⟨g1, g2, g3, by rw [hlen2]; exact g4, helen, fun _ => ⟨ty, _, setRow_heap w _ arr _ ty (0, 0) q1, ?_, fun i j e' p he hp => ?_⟩⟩
          · simp only [List.size_toArray, List.length_append, List.length_take, List.length_drop, Array.length_toList]
            rw [g1] at hfit ⊢
            simp only [List.length_take] at hnl hfit
            omega
          · have hj : j < z.length := by rw [← helen i e' he]; exact (List.getElem?_eq_some_iff.1 hp).1
            have hgw : ∀ k', (arr.toList.take ((pl k).off + lo * (pl k).sz) ++ news.take (c * z.length) ++ arr.toList.drop ((pl k).off + lo * (pl k).sz + (news.take (c * z.length)).length)).toArray[k']? = if (pl k).off + lo * z.length ≤ k' ∧ k' < (pl k).off + lo * z.length + c * z.length then (news.take (c * z.length))[k' - ((pl k).off + lo * z.length)]? else arr[k']? := fun k' => by
              have hsp := splice_get (l := arr.toList) (vs := news.take (c * z.length)) (o := (pl k).off + lo * (pl k).sz) (by simpa using hfit) k'
              rw [List.getElem?_toArray, hsp, hnl, g1]
              simp only [Array.getElem?_toList]
            rw [hgw]
            rcases hget i e' he with ⟨h1, h2, h3⟩ | ⟨h1, h3⟩
            · obtain ⟨x, r1, r2, r3⟩ := hS.rel _ _ _ _ h3 hp
              have hi4 : i * z.length = lo * z.length + (i - lo) * z.length := by rw [← Nat.add_mul]; congr 1; omega
              have hi5 : (i - lo + 1) * z.length ≤ c * z.length := Nat.mul_le_mul_right _ (by omega)
              rw [Nat.add_mul] at hi5
              refine ⟨x, ?_, r2, hN.rel (r3.mono (flag_join_right hFS _ _) (fun _ _ => rfl))⟩
              rw [if_pos (by omega), List.getElem?_take, if_pos (by omega)]
              have : (pl k).off + (i * z.length + j) - ((pl k).off + lo * z.length) = (i - lo) * z.length + j := by omega
              rw [this]; exact r1
            · obtain ⟨x, r1, r2, r3⟩ := q3 _ _ _ _ h3 hp
              refine ⟨x, ?_, r2, hN.rel (r3.mono (flag_join_left hFS _ _) (fun _ _ => rfl))⟩
              rw [if_neg ?_]
              · exact r1
              · intro hcc
                rcases Nat.lt_or_ge i lo with hlt | hge
                · have : (i + 1) * z.length ≤ lo * z.length := Nat.mul_le_mul_right _ hlt
                  rw [Nat.add_mul] at this
                  omega
                · have : (lo + c) * z.length ≤ i * z.length := Nat.mul_le_mul_right _ (by omega)
                  rw [Nat.add_mul] at this
                  omega
        · exact exact_move (v := .p .flat (.c (.int .i64 (c : Int)))) (u := goInt c) rfl hint
        · rw [hde, hAd]
          rw [hse] at hfc ⊢
          simp only [Builtin.copy_, List.getElem?_toArray, List.getElem?_cons_zero, List.getElem?_cons_succ, Sem.run_bind, run_underlying ht, Result.andThen_ok, Builtin.lenOf, Sem.run_pure, run_sizeOf' h0]
          rw [show Nat.min es'.length n = c from hcd, ← hz, hfc]
          simp [hst]
  | _ => rw [hde] at hd; cases hd
end
end Go.Av
namespace Go.Av
open Go.RowKit
section
variable {N m : Nat} {F A : Nat → Prop} {w0 : World} {st : St} {pl : Nat → Pl} {a : Act} {w : World} {P : Program} [Kn P]
theorem hop_makeMap (hC : ConcP N m F A w0 st pl a w) (hF : ∀ b, F b → b < w0.heap.size) {o : Oper} {t : TypeId} (ho : o.op = .makeMap t none) {K : AV → List OB → Prop} (h : makeMapW P st.heap t K) : ∃ v h', K v h' ∧ HopOk P N m F A w0 st pl a w o v h' := by
  unfold makeMapW at h
  split at h
  case h_2 => exact h.elim
  rename_i kt et ht
  refine ⟨_, _, h, ?_⟩
  obtain ⟨hN, hmk⟩ := hC.newObj hF (mkPl w.heap.size 0 0 0) (.map #[] 0) (.mp true (isKey P kt) (fun _ => none)) fun b hb => hb.symm
  have hrun : (execOp a.eval o).run P w = .ok (.value (.map (some w.heap.size))) (w.alloc (.map #[] 0)) := by
    simp [execOp, ho, Instr.makeMap, Result.andThen]
  refine ⟨_, w.alloc (.map #[] 0), plAt pl st.heap.length (mkPl w.heap.size 0 0 0), hrun, fun k hk _ => plAt_lt hk, by simp, hmk ?_, .inr ⟨_, rfl, ?_⟩⟩
  · refine ⟨#[], 0, by rw [plAt_eq]; exact heap_new w _, fun e he => (by cases he), fun x n hx => (by cases hx), List.nodup_nil⟩
  · have : Value.map (some w.heap.size) = Value.map (some (plAt pl st.heap.length (mkPl w.heap.size 0 0 0) st.heap.length).blk) := by rw [plAt_eq]
    rw [this]
    exact .amap (by simp)
theorem hop_update (hC : ConcP N m F A w0 st pl a w) {o : Oper} {t : TypeId} {x k v : Operand} (ho : o.op = .mapUpdate t x k v ∨ o.op = .insert t x k v) {va vb vc : AV}
    (ha : RelA pl st.heap.length (Sany A w0.heap.size pl st.heap w) (Fresh w0.heap.size pl st.heap w) w va (a.eval x)) (hb : RelA pl st.heap.length (Sany A w0.heap.size pl st.heap w) (Fresh w0.heap.size pl st.heap w) w vb (a.eval k))
    (hc : RelA pl st.heap.length (Sany A w0.heap.size pl st.heap w) (Fresh w0.heap.size pl st.heap w) w vc (a.eval v)) {K : List OB → Prop} (h : updateW P st.heap t va vb vc K) :
    ∃ h', K h' ∧ HopOk P N m F A w0 st pl a w o .junk h' := by
  unfold updateW at h
  split at h
  case h_2 => exact h.elim
  rename_i kt et ht
  split at h
  case h_2 => exact h.elim
  rename_i k1
  split at h
  case h_2 => exact h.elim
  rename_i nw ks f hk
  split at h
  case h_2 => exact h.elim
  rename_i u hu
  split at h
  case h_2 => exact h.elim
  rename_i fl n
  obtain ⟨law, rfl, hkey, f', rfl, h⟩ := h
  refine ⟨_, h, ?_⟩
  obtain ⟨es, clock, q1, q2, q3, q4⟩ := hC.heap k1 _ hk
  have hix := exactV_spec hu hb
  obtain ⟨l, hl⟩ := hkey rfl
  have hlive := owns_mp (pl := pl) hk
  have hxe : a.eval x = .map (some (pl k1).blk) := by
    generalize a.eval x = y at ha
    cases ha with
    | amap _ => rfl
  have hve : a.eval v = .int .i64 n ∧ wfV (.int .i64 n) := by
    generalize a.eval v = y at hc
    cases hc with
    | p hr =>
      cases hr with
      | c h1 h2 => exact ⟨rfl, h1⟩
  have hset : ∀ (o' : Obj) (w' : World), w' = { w with heap := w.heap.setIfInBounds (pl k1).blk o' } → w'.heap[(pl k1).blk]? = some o' ∧ (∀ b, b ≠ (pl k1).blk → w'.heap[b]? = w.heap[b]?) ∧ w'.heap.size = w.heap.size := by
    rintro o' w' rfl
    have := hC.ownlt k1 _ hlive
    refine ⟨by simp [this], fun b hb => ?_, by simp⟩
    exact Array.getElem?_setIfInBounds_ne (Ne.symm hb)
  have main : ∃ es' clock', (execOp a.eval o).run P w = .ok .skip { w with heap := w.heap.setIfInBounds (pl k1).blk (.map es' clock') } ∧
      (∀ e ∈ es'.toList, isKey P kt e.key ∧ ∃ m, e.val = .int .i64 m ∧ wfV (.int .i64 m) ∧ updM f u n e.key = some m) ∧ (∀ (y : Value) (m : Int), updM f u n y = some m → ∃ e ∈ es'.toList, e.key = y) ∧ (es'.toList.map (·.key)).Nodup := by
    rcases law.find w hl es.toList (fun e he => (q2 e he).1) with ⟨h1, h2⟩ | ⟨j, e, h1, h2, h3⟩
    · refine ⟨es.push { key := u, val := .int .i64 n, born := clock }, clock + 1, ?_, ?_, ?_, ?_⟩
      · rcases ho with ho | ho <;> simp [execOp, ho, Instr.mapUpdate, hxe, hve.1, hix, run_underlying ht, Go.MapKept.run_getObj_map q1, law.check w _ hl, h1, Go.MapKept.run_setObj_map _ q1, Result.andThen]
      · intro e he
        simp only [Array.toList_push, List.mem_append, List.mem_singleton] at he
        rcases he with he | rfl
        · obtain ⟨a1, m, a2, a3, a4⟩ := q2 e he
          exact ⟨a1, m, a2, a3, by rw [updM_ne _ _ (h2 e he)]; exact a4⟩
        · exact ⟨⟨l, hl⟩, n, rfl, hve.2, updM_eq _ _ _⟩
      · intro y m hy
        by_cases hyu : y = u
        · refine ⟨{ key := u, val := .int .i64 n, born := clock }, by simp, hyu.symm⟩
        · rw [updM_ne _ _ hyu] at hy
          obtain ⟨e, he, rfl⟩ := q3 _ _ hy
          exact ⟨e, by simp [Array.mem_toList_iff.1 he], rfl⟩
      · simp only [Array.toList_push, List.map_append, List.map_cons, List.map_nil]
        rw [List.nodup_append]
        refine ⟨q4, by simp, fun y hy z hz => ?_⟩
        obtain ⟨e, he, rfl⟩ := List.mem_map.1 hy
        have : z = u := by simpa using hz
        subst this
        exact h2 e he
    · have hj : es[j]? = some e := by simpa using h2
      have hmod : ∀ i, (es.modify j fun e' => { e' with key := u, val := .int .i64 n }).toList[i]? = (fun (e' : MapEntry) => if j = i then ({ e' with key := u, val := .int .i64 n } : MapEntry) else e') <$> es.toList[i]? := by
        intro i
        rw [Array.toList_modify, List.getElem?_modify]
      have hkeys : ((es.modify j fun e' => { e' with key := u, val := .int .i64 n }).toList.map (·.key)) = es.toList.map (·.key) := by
        apply List.ext_getElem?
        intro i
        rw [List.getElem?_map, List.getElem?_map, hmod]
        by_cases hij : j = i
        · subst hij; rw [h2]; simp [h3]
        · cases es.toList[i]? <;> simp [hij]
      have hne : ∀ i e', i ≠ j → es.toList[i]? = some e' → e'.key ≠ u := by
        intro i e' hi he' hu'
        have g1 : (es.toList.map (·.key))[i]? = some u := by rw [List.getElem?_map, he']; simp [hu']
        have g2 : (es.toList.map (·.key))[j]? = some u := by rw [List.getElem?_map, h2]; simp [h3]
        obtain ⟨l1, g1⟩ := List.getElem?_eq_some_iff.1 g1
        obtain ⟨l2, g2⟩ := List.getElem?_eq_some_iff.1 g2
        exact hi ((List.getElem_inj q4).1 (g1.trans g2.symm))
      refine ⟨es.modify j fun e' => { e' with key := u, val := .int .i64 n }, clock, ?_, ?_, ?_, ?_⟩
      · rcases ho with ho | ho <;> simp [execOp, ho, Instr.mapUpdate, hxe, hve.1, hix, run_underlying ht, Go.MapKept.run_getObj_map q1, law.check w _ hl, h1, hj, h3, law.stays w hl, Go.MapKept.run_setObj_map _ q1, Result.andThen]
      · intro e' he'
        obtain ⟨i, hi⟩ := List.getElem?_of_mem he'
        rw [hmod] at hi
        cases hei : es.toList[i]? with
        | none => rw [hei] at hi; cases hi
        | some e0 =>
          rw [hei] at hi
          simp only [Option.map_eq_map, Option.map_some, Option.some.injEq] at hi
          by_cases hij : j = i
          · rw [if_pos hij] at hi
            subst hi
            exact ⟨⟨l, hl⟩, n, rfl, hve.2, updM_eq _ _ _⟩
          · rw [if_neg hij] at hi
            subst hi
            obtain ⟨a1, m, a2, a3, a4⟩ := q2 e0 (List.mem_of_getElem? hei)
            exact ⟨a1, m, a2, a3, by rw [updM_ne _ _ (hne i e0 (Ne.symm hij) hei)]; exact a4⟩
      · intro y m hy
        have : y ∈ es.toList.map (·.key) := by
          by_cases hyu : y = u
          · rw [hyu]; exact List.mem_map.2 ⟨e, List.mem_of_getElem? h2, h3⟩
          · rw [updM_ne _ _ hyu] at hy
            obtain ⟨e1, he1, h4⟩ := q3 _ _ hy
            exact List.mem_map.2 ⟨e1, he1, h4⟩
        rw [← hkeys] at this
        obtain ⟨e1, he1, h4⟩ := List.mem_map.1 this
        exact ⟨e1, he1, h4⟩
      · rw [hkeys]; exact q4
  obtain ⟨es', clock', hrun, p1, p2, p3⟩ := main
  obtain ⟨s1, s2, s3⟩ := hset (.map es' clock') _ rfl
  obtain ⟨hN, hmk⟩ := hC.write (w' := { w with heap := w.heap.setIfInBounds (pl k1).blk (.map es' clock') }) hk (ob' := .mp nw (isKey P kt) (updM f u n)) rfl rfl rfl rfl rfl rfl s3 s2
  exact ⟨_, _, pl, hrun, fun _ _ _ => rfl, by simp, hmk ⟨es', clock', s1, p1, p2, p3⟩, .inl ⟨rfl, rfl⟩⟩
end
end Go.Av
namespace Go.Av
open Go.RowKit
theorem rowsTy_out {P : Program} [Kn P] {e : TypeId} {K0 : Prop} {K : List PV → Prop} (h : rowsTy P e K0 K) : K0 ∨ ∃ e', P.underlying e = some (.slice e') ∧ zNil P e = true ∧ P.cellsOf e = 1 ∧ zeroOk P e' = true ∧ P.cellsOf e' ≠ 0 ∧ K (zeroPV P e') := by
  unfold rowsTy at h
  split at h
  · rename_i e' he
    rcases h with h | ⟨h1, h2, h3, h4, h5⟩
    · exact .inl h
    · exact .inr ⟨e', he, h1, Nat.eq_of_beq_eq_true h2, h3, by intro h0; rw [h0] at h4; exact absurd h4 (by decide), h5⟩
  · exact .inl h
theorem zNil_spec {P : Program} [Kn P] {e : TypeId} (h : zNil P e = true) : ∃ i, P.info? e = some i ∧ i.zero = some (.slice none 0 0) ∧ i.size = P.cellsOf e := by
  unfold zNil at h
  cases hi : P.info? e with
  | none => simp [hi] at h
  | some i =>
    simp only [hi, Option.bind_some] at h
    split at h
    · rename_i hz; exact ⟨i, rfl, hz, by simp [Program.cellsOf, hi]⟩
    · cases h
theorem zeroPV_len {P : Program} [Kn P] {e : TypeId} (h : zeroOk P e = true) : (zeroPV P e).length = P.cellsOf e := by
  obtain ⟨i, z, hi, hz1, hz2, hz3, hz4, hz5⟩ := zeroOk_spec h
  rw [hz2]; simpa using hz4
def Killed (h0 h : List OB) : Prop := h.length = h0.length ∧ ∀ k : Nat, h[k]? = h0[k]? ∨ h[k]? = some OB.dead
theorem Killed.refl (h : List OB) : Killed h h := ⟨rfl, fun _ => .inl rfl⟩
theorem Killed.set {h0 h : List OB} (hk : Killed h0 h) (k : Nat) : Killed h0 (h.set k .dead) := by
  refine ⟨by rw [List.length_set]; exact hk.1, fun k' => ?_⟩
  by_cases e : k = k'
  · subst e
    rcases Nat.lt_or_ge k h.length with h1 | h1
    · right; exact List.getElem?_set_self h1
    · left
      rw [List.getElem?_eq_none (by simpa using h1), List.getElem?_eq_none (by rw [← hk.1]; exact h1)]
  · rw [List.getElem?_set_ne e]; exact hk.2 k'
section
variable {N m : Nat} {F A : Nat → Prop} {w0 : World} {st : St} {pl : Nat → Pl} {a : Act} {w : World} {P : Program} [Kn P]
theorem ConcP.killPush (hC : ConcP N m F A w0 st pl a w) (hF : ∀ b, F b → b < w0.heap.size) {h : List OB} (hK : Killed st.heap h) {w' : World} (hos : w'.os = w.os) (htp : w'.tape = w.tape) (hout : w'.output = w.output) (hsz : w.heap.size ≤ w'.heap.size)
    (pn : Pl) (ob' : OB) (hk1 : kind ob' ≠ 1) (hown : ∀ b, obOwns pn ob' b → (∃ k, h[k]? = some .dead ∧ owns pl st.heap k b ∧ (nwOf ob' = true → isnew m st.heap k)) ∨ (w.heap.size ≤ b ∧ b < w'.heap.size))
    (hW : ∀ b, b < w.heap.size → (∀ k, h[k]? = some .dead → ¬ owns pl st.heap k b) → w'.heap[b]? = w.heap[b]?) :
    Newer A w0.heap.size pl st.heap w (plAt pl st.heap.length pn) (h ++ [ob']) w' ∧
    (OBrel (plAt pl st.heap.length pn) (h ++ [ob']).length (Sany A w0.heap.size (plAt pl st.heap.length pn) (h ++ [ob']) w') (Fresh w0.heap.size (plAt pl st.heap.length pn) (h ++ [ob']) w') w' st.heap.length ob' →
      ConcP N m F A w0 ⟨st.env, h ++ [ob']⟩ (plAt pl st.heap.length pn) a w') := by
  have hl : ∀ k b, owns (plAt pl st.heap.length pn) (h ++ [ob']) k b → (k < st.heap.length ∧ h[k]? = st.heap[k]? ∧ h[k]? ≠ some .dead ∧ owns pl st.heap k b) ∨ (k = st.heap.length ∧ obOwns pn ob' b) := by
    intro k b hk
    rw [← hK.1] at hk ⊢
    rcases owns_push hk with ⟨h1, h2⟩ | h1
    · left
      obtain ⟨ob, g1, g2⟩ := owns_out h2
      have hne : h[k]? ≠ some .dead := fun e => by rw [e] at g1; cases g1; exact g2
      have := (hK.2 k).resolve_right hne
      exact ⟨h1, this, hne, owns_of (this ▸ g1) g2⟩
    · exact .inr h1
  obtain ⟨hN, hmk⟩ := hC.regroup hF hos htp hout hsz (pl' := plAt pl st.heap.length pn) (heap' := h ++ [ob']) (by simp [hK.1]) (fun k hk => Pl.base_eq (plAt_lt hk))
    (fun k b hk => by
      rcases hl k b hk with ⟨_, _, _, h2⟩ | ⟨_, h2⟩
      · exact .inl ⟨k, h2⟩
      · rcases hown b h2 with ⟨k', _, h3, _⟩ | h3
        · exact .inl ⟨k', h3⟩
        · exact .inr h3)
    (fun b hb hn => hW b hb fun k _ => hn k)
  refine ⟨hN, fun hob => hmk (fun k k' b h1 h2 => ?_) (fun k b hn h1 => ?_) (fun k ob hk => ?_)⟩
  · rcases hl k b h1 with ⟨_, a1, a2, a3⟩ | ⟨a1, a2⟩ <;> rcases hl k' b h2 with ⟨_, b1, b2, b3⟩ | ⟨b1, b2⟩
    · exact hC.disj k k' b a3 b3
    · rcases hown b b2 with ⟨k0, c1, c2, _⟩ | c1
      · exact absurd (hC.disj k k0 b a3 c2 ▸ c1) a2
      · have := hC.ownlt k b a3; omega
    · rcases hown b a2 with ⟨k0, c1, c2, _⟩ | c1
      · exact absurd (hC.disj k' k0 b b3 c2 ▸ c1) b2
      · have := hC.ownlt k' b b3; omega
    · omega
  · rcases hl k b h1 with ⟨a0, a1, a2, a3⟩ | ⟨a1, a2⟩
    · refine hC.newb k b ?_ a3
      unfold isnew at hn ⊢
      rw [List.getElem?_append_left (by rw [hK.1]; exact a0), a1] at hn
      exact hn
    · rcases hown b a2 with ⟨k0, c1, c2, c3⟩ | c1
      · refine hC.newb k0 b (c3 ?_) c2
        unfold isnew at hn
        rw [a1, List.getElem?_append_right (by rw [hK.1]; exact Nat.le_refl _), hK.1] at hn
        simp only [Nat.sub_self, List.getElem?_cons_zero] at hn
        cases ob' with
        | dead => exact hn.elim
        | fix c => exact absurd rfl hk1
        | row nw fl z es => exact hn
        | mp nw ks f => exact hn
        | rows nw fl z es ho => exact hn
      · exact Nat.le_trans hC.hsize c1.1
  · rcases Nat.lt_trichotomy k st.heap.length with hlt | heq | hgt
    · rw [List.getElem?_append_left (by rw [hK.1]; exact hlt)] at hk
      by_cases hd : h[k]? = some .dead
      · right; rw [hd] at hk; cases hk; trivial
      · have he := (hK.2 k).resolve_right hd
        left
        refine ⟨by rw [← he]; exact hk, plAt_lt hlt, fun b hb => hW b (hC.ownlt k b (owns_of (by rw [← he]; exact hk) hb)) fun k' h1 h2 => ?_⟩
        have := hC.disj k k' b (owns_of (by rw [← he]; exact hk) hb) h2
        exact hd (this ▸ h1)
    · right
      subst heq
      rw [List.getElem?_append_right (by rw [hK.1]; exact Nat.le_refl _), hK.1] at hk
      simp at hk
      subst hk
      exact hob
    · rw [List.getElem?_eq_none (by simp [hK.1]; omega)] at hk; cases hk
theorem RowRel.nil {S : Nat → Prop} {z : List PV} (hz : 0 < z.length) : RowRel S w ⟨0, 0, 0, z.length⟩ z [] :=
  ⟨rfl, hz, Nat.zero_le _, Nat.zero_le _, fun i e he => by simp at he, fun hc => absurd hc (Nat.lt_irrefl 0)⟩
theorem RowsRel.made {pl : Nat → Pl} {L : Nat} {S Fr : Nat → Prop} {fl : Fl} {z : List PV} {blk cap n : Nat} {arr : Array Value} {ty : TypeId} (hz : 0 < z.length) (hcm : cap ≤ maxLen) (hn : n ≤ cap) (hb : 0 < cap → w.heap[blk]? = some (.cells arr ty (0, 0)) ∧ cap ≤ arr.size ∧ ∀ i, i < n → arr[i]? = some (.slice none 0 0)) :
    RowsRel pl L S Fr w ⟨⟨blk, 0, cap, 1⟩, List.replicate n ⟨0, 0, 0, z.length⟩⟩ fl z (List.replicate n []) none := by
  have hq : ∀ {i : Nat} {q : Pl0}, (List.replicate n (⟨0, 0, 0, z.length⟩ : Pl0))[i]? = some q → q = ⟨0, 0, 0, z.length⟩ := fun hq => by
    have := List.mem_of_getElem? hq; simp at this; exact this.2
  have he : ∀ {i : Nat} {e : List (List PV)}, (List.replicate n ([] : List (List PV)))[i]? = some e → e = [] ∧ i < n := fun {i e} he => by
    have h1 := List.mem_of_getElem? he
    have h2 := (List.getElem?_eq_some_iff.1 he).1
    simp at h1 h2; exact ⟨h1.2, h2⟩
  refine { sz := rfl, cap := hcm, len := by simpa using hn, inn := by simp, zpos := hz, mem := fun hc => ?_, row := fun i e q h1 h2 _ => ?_, out := fun _ _ hh => (by cases hh), apart := fun i j q q' h1 _ _ _ _ hc => ?_, apart0 := fun i q h1 _ hc => ?_ }
  · obtain ⟨h1, h2, h3⟩ := hb hc
    refine ⟨ty, arr, h1, by show 0 + cap ≤ arr.size; omega, fun i e q he' hq' => ?_⟩
    obtain ⟨rfl, hi⟩ := he he'
    cases hq hq'
    exact ⟨none, by show arr[0 + i]? = _; rw [Nat.zero_add]; exact h3 i hi, fun hc => absurd hc (Nat.lt_irrefl 0), rfl, Nat.zero_le _, Nat.zero_le _⟩
  · obtain ⟨rfl, _⟩ := he h1
    cases hq h2
    exact .nil hz
  · cases hq h1; exact absurd hc (Nat.lt_irrefl 0)
  · cases hq h1; exact absurd hc (Nat.lt_irrefl 0)
theorem owns_made {fl : Fl} {z : List PV} {blk cap n zl : Nat} {es : List (List (List PV))} {nw : Bool} {b : Nat} (h : obOwns ⟨⟨blk, 0, cap, 1⟩, List.replicate n ⟨0, 0, 0, zl⟩⟩ (.rows nw fl z es none) b) : b = blk ∧ 0 < cap := by
  rcases h with ⟨h1, h2⟩ | ⟨i, q, h1, _, h2, _⟩
  · exact ⟨h2.symm, h1⟩
  · have := List.mem_of_getElem? h1
    simp at this
    rw [this.2] at h2
    exact absurd h2 (Nat.lt_irrefl 0)
theorem hop_makeRows (hC : ConcP N m F A w0 st pl a w) (hF : ∀ b, F b → b < w0.heap.size) {o : Oper} {t e e' : TypeId} {l c : Operand} (ho : o.op = .makeSlice t l c) (ht : P.underlying t = some (.slice e)) {K : AV → List OB → Prop}
    (hzn : zNil P e = true) (h1 : P.cellsOf e = 1) (hz' : zeroOk P e' = true) (h0' : P.cellsOf e' ≠ 0)
    (h : withV st true l fun vl => ixW vl fun il => withV st true c fun vc => ixW vc fun ic =>
        zeroOk P e = true ∧ fB (P.bytesOf e) fun b => BndF true (0 ≤ il ∧ il ≤ ic ∧ ic ≤ 9223372036854775807 ∧ (b : Int) * ic ≤ 281474976710656) (EqN il.toNat fun n =>
        EqR (List.replicate n []) fun es => K (.osl st.heap.length 0 n) (st.heap ++ [.rows true .flat (zeroPV P e') es none]))) :
    ∃ v h', K v h' ∧ HopOk P N m F A w0 st pl a w o v h' := by
  obtain ⟨vl, h, hrl⟩ := withV_sound hC.seen h
  obtain ⟨il, h, hil⟩ := ixW_sound (pl := pl) (S := Sany A w0.heap.size pl st.heap w) (Fr := Fresh w0.heap.size pl st.heap w) (w := w) (L := st.heap.length) h
  obtain ⟨vc, h, hrc⟩ := withV_sound hC.seen h
  obtain ⟨ic, ⟨hz, h⟩, hic⟩ := ixW_sound (pl := pl) (S := Sany A w0.heap.size pl st.heap w) (Fr := Fresh w0.heap.size pl st.heap w) (w := w) (L := st.heap.length) h
  obtain ⟨hbd, n', rfl, es', rfl, hK⟩ := fNs_eq h
  obtain ⟨hl0, hlc, hc63, hb⟩ := hbd rfl
  obtain ⟨kl, el, _⟩ := hil _ (hrl rfl)
  obtain ⟨kc, ec, _⟩ := hic _ (hrc rfl)
  obtain ⟨i, hi, hzi, hsi⟩ := zNil_spec hzn
  have hbi : i.bytes = P.bytesOf e := by simp [Program.bytesOf, hi]
  have hrun : (execOp a.eval o).run P w = .ok (.value (.slice (some ⟨w.heap.size, 0, none⟩) il.toNat ic.toNat)) (w.alloc (.cells (madeCells #[.slice none 0 0] (ic.toNat * 1)) e)) := by
    have := run_make (P := P) w t e i (.slice none 0 0) ht hi hzi kl kc il ic hl0 hlc (by rw [hbi]; exact hb) hc63
    rw [hsi, h1] at this
    simp only [execOp, ho, el, ec, Sem.run_bind, this, Result.andThen_ok, Sem.run_pure]
    rfl
  have hcM : ic.toNat ≤ maxLen := by simp only [maxLen]; omega
  have hzl := zeroPV_len hz'
  obtain ⟨hN2, hmk⟩ := hC.newBlk hF ⟨⟨w.heap.size, 0, ic.toNat, 1⟩, List.replicate il.toNat ⟨0, 0, 0, (zeroPV P e').length⟩⟩ (madeCells #[.slice none 0 0] (ic.toNat * 1)) e (.rows true .flat (zeroPV P e') (List.replicate il.toNat []) none) fun b hb => (owns_made hb).1
  refine ⟨_, _, hK, _, _, plAt pl st.heap.length ⟨⟨w.heap.size, 0, ic.toNat, 1⟩, List.replicate il.toNat ⟨0, 0, 0, (zeroPV P e').length⟩⟩, hrun, fun k hk _ => plAt_lt hk, by simp, hmk ?_, .inr ⟨_, rfl, ?_⟩⟩
  · show RowsRel _ _ _ _ _ (plAt pl st.heap.length _ st.heap.length) _ _ _ _
    rw [plAt_eq]
    refine RowsRel.made (arr := madeCells #[.slice none 0 0] (ic.toNat * 1)) (ty := e) (by omega) hcM (by omega) fun _ => ⟨heap_new w _, by simp [madeCells], fun i hi => ?_⟩
    have hlt : i < ic.toNat := by omega
    simp [madeCells, hlt, Nat.mod_one]
  · refine .osl (by simp) (fun _ => ?_) ?_ (by omega) ?_
    · rw [plAt_eq]
      show some _ = some (⟨w.heap.size, 0 + 0 * 1, none⟩ : Addr)
      rfl
    · rw [plAt_eq]
      show 0 + ic.toNat = ic.toNat
      omega
    · rw [plAt_eq]; exact hcM
theorem hop_nilRows (hC : ConcP N m F A w0 st pl a w) (hF : ∀ b, F b → b < w0.heap.size) {o : Oper} {x : Operand} (ho : o.op = .assign x) (hx : isNilC x = true) {e' : TypeId} (hz' : zeroOk P e' = true) (h0' : P.cellsOf e' ≠ 0) :
    HopOk P N m F A w0 st pl a w o (.osl st.heap.length 0 0) (st.heap ++ [.rows true .flat (zeroPV P e') [] none]) := by
  have hzl := zeroPV_len hz'
  obtain ⟨hN, hmk⟩ := hC.newOb hF (Ext.refl w) ⟨⟨0, 0, 0, 1⟩, List.replicate 0 ⟨0, 0, 0, (zeroPV P e').length⟩⟩ (.rows true .flat (zeroPV P e') [] none) fun b hb => absurd (owns_made hb).2 (Nat.lt_irrefl 0)
  have hxe : a.eval x = .slice none 0 0 := by
    unfold isNilC at hx
    split at hx
    · rfl
    · simp at hx
  have hrun : (execOp a.eval o).run P w = .ok (.value (.slice none 0 0)) w := by
    simp only [execOp, ho, hxe, Sem.run_pure]
  refine ⟨_, w, _, hrun, fun k hk _ => plAt_lt hk, by simp, hmk ?_, .inr ⟨.slice none 0 0, rfl, ?_⟩⟩
  · show RowsRel _ _ _ _ _ (plAt pl st.heap.length _ st.heap.length) _ _ _ _
    rw [plAt_eq]
    exact RowsRel.made (n := 0) (arr := #[]) (ty := 0) (by omega) (Nat.zero_le _) (Nat.zero_le _) fun hc => absurd hc (Nat.lt_irrefl 0)
  · refine .osl (by simp) (fun hlt => ?_) ?_ (Nat.le_refl _) ?_
    · rw [plAt_eq] at hlt; exact absurd hlt (by simp)
    · rw [plAt_eq]
    · rw [plAt_eq]; exact Nat.zero_le _
theorem RowRel.sub {S : Nat → Prop} {p : Pl0} {z : List PV} {es : List (List PV)} (h : RowRel S w p z es) {lo n C : Nat} (hn : lo + n ≤ es.length) (hC : lo + C = p.cap) (hnC : n ≤ C) : RowRel S w ⟨p.blk, p.off + lo * p.sz, C, z.length⟩ z ((es.drop lo).take n) := by
  obtain ⟨g1, g2, g3, g4, g5, g6⟩ := h
  have hget : ∀ (i : Nat) (e : List PV), ((es.drop lo).take n)[i]? = some e → es[lo + i]? = some e ∧ i < n := fun i e he => by
    rw [List.getElem?_take] at he
    split at he
    · rename_i hlt; exact ⟨by rwa [List.getElem?_drop] at he, hlt⟩
    · cases he
  refine ⟨rfl, g2, by show C ≤ maxLen; omega, by show _ ≤ C; simp; omega, fun i e he => g5 _ _ (hget i e he).1, fun hc => ?_⟩
  have hc : 0 < C := hc
  obtain ⟨ty, arr, q1, q2, q3⟩ := g6 (by omega)
  refine ⟨ty, arr, q1, ?_, fun i j e p' he hp => ?_⟩
  · show p.off + lo * p.sz + C * z.length ≤ arr.size
    rw [← hC, Nat.add_mul] at q2
    rw [g1]; omega
  · obtain ⟨x, r1, r2, r3⟩ := q3 _ _ _ _ (hget i e he).1 hp
    refine ⟨x, ?_, r2, r3⟩
    show arr[p.off + lo * p.sz + (i * z.length + j)]? = some x
    have : p.off + lo * p.sz + (i * z.length + j) = p.off + ((lo + i) * z.length + j) := by rw [g1, Nat.add_mul]; omega
    rw [this]; exact r1
theorem takeRow_sound (hC : ConcP N m F A w0 st pl a w) {h : List OB} (hK : Killed st.heap h) {z : List PV} (hz : 0 < z.length) {v : AV} {u : Value} {K : Bool → Fl → List (List PV) → List OB → Prop} (ht : takeRowW h z v K)
    (hu : RelA pl st.heap.length (Sany A w0.heap.size pl st.heap w) (Fresh w0.heap.size pl st.heap w) w v u) :
    ∃ nw1 fl e h' q Ad, K nw1 fl e h' ∧ Killed st.heap h' ∧ (∀ k : Nat, h[k]? = some OB.dead → h'[k]? = some OB.dead) ∧ (∀ (k : Nat) nw fl z es ho, h[k]? = some (OB.rows nw fl z es ho) → h'[k]? = h[k]?) ∧ u = .slice Ad e.length q.cap ∧ (0 < q.cap → Ad = some ⟨q.blk, q.off, none⟩) ∧
      q.sz = z.length ∧ q.cap ≤ maxLen ∧ e.length ≤ q.cap ∧ RowRel (flagS (Sany A w0.heap.size pl st.heap w) (Fresh w0.heap.size pl st.heap w) fl) w q z e ∧
      (0 < q.cap → ∃ k, h[k]? ≠ some .dead ∧ h'[k]? = some .dead ∧ owns pl st.heap k q.blk ∧ (nw1 = true → isnew m st.heap k) ∧ ∃ z' es', st.heap[k]? = some (.row nw1 fl z' es')) := by
  unfold takeRowW at ht
  split at ht
  case h_1 k lo n =>
    split at ht
    case h_2 => exact ht.elim
    rename_i nw fl z' es hk
    obtain ⟨rfl, hn, es', rfl, hK'⟩ := ht
    have hn := hn rfl
    have hk0 : st.heap[k]? = some (.row nw fl z' es) := by
      rcases hK.2 k with e | e
      · rw [← e]; exact hk
      · rw [e] at hk; cases hk
    have hlt := (List.getElem?_eq_some_iff.1 hk).1
    have hR : RowRel _ w (pl k).toPl0 z' es := hC.heap k _ hk0
    cases hu with
    | @osl _ _ _ C A' hkL hA hCc hn' hM =>
      have hlen : ((es.drop lo).take n).length = n := by simp; omega
      refine ⟨nw, fl, _, _, ⟨(pl k).blk, (pl k).off + lo * (pl k).sz, C, z'.length⟩, A', hK', hK.set k, fun k' h1 => ?_, fun k' nw1 fl1 z1 es1 ho1 h1 => ?_, by rw [hlen], fun hc => hA ?_, rfl, by show C ≤ maxLen; omega, by rw [hlen]; exact hn', hR.sub hn hCc hn', fun hc => ⟨k, by rw [hk]; simp, List.getElem?_set_self hlt, owns_row hk0 ?_, ?_, z', es, hk0⟩⟩
      · by_cases e : k = k'
        · subst e; exact List.getElem?_set_self hlt
        · rw [List.getElem?_set_ne e]; exact h1
      · by_cases e : k = k'
        · subst e; rw [hk] at h1; cases h1
        · rw [List.getElem?_set_ne e]
      · have hc : 0 < C := hc
        omega
      · have hc : 0 < C := hc
        omega
      · intro hnw; subst hnw; unfold isnew; rw [hk0]
  case h_2 fl =>
    obtain ⟨rfl, _, _⟩ := hu.cinv
    exact ⟨true, .flat, _, _, ⟨0, 0, 0, z.length⟩, none, ht, hK, fun _ h => h, fun _ _ _ _ _ _ _ => rfl, rfl, fun hc => absurd hc (Nat.lt_irrefl 0), rfl, Nat.zero_le _, Nat.zero_le _, .nil hz, fun hc => absurd hc (Nat.lt_irrefl 0)⟩
  case h_3 => exact ht.elim
structure Parts (pl : Nat → Pl) (S Fr : Nat → Prop) (w : World) (m : Nat) (h0 h : List OB) (z : List PV) (nw : Bool) (fl : Fl) (es : List (List (List PV))) (inn : List Pl0) (arr : Array Value) : Prop where
  kill : Killed h0 h
  li : inn.length = es.length
  la : arr.size = es.length
  cell : ∀ (i : Nat) (e : List (List PV)) (q : Pl0), es[i]? = some e → inn[i]? = some q → ∃ Ad, arr[i]? = some (.slice Ad e.length q.cap) ∧ (0 < q.cap → Ad = some ⟨q.blk, q.off, none⟩) ∧ q.sz = z.length ∧ q.cap ≤ maxLen ∧ e.length ≤ q.cap ∧ RowRel (flagS S Fr fl) w q z e
  own : ∀ (i : Nat) (q : Pl0), inn[i]? = some q → 0 < q.cap → ∃ k, h[k]? = some .dead ∧ h0[k]? ≠ some .dead ∧ owns pl h0 k q.blk ∧ (nw = true → isnew m h0 k)
  apart : ∀ (i j : Nat) (q q' : Pl0), inn[i]? = some q → inn[j]? = some q' → i ≠ j → 0 < q.cap → 0 < q'.cap → q.blk ≠ q'.blk
theorem partsR_sound (hC : ConcP N m F A w0 st pl a w) {z : List PV} (hz : 0 < z.length) : ∀ {parts : List (Nat × Operand)} {nw : Bool} {fl : Fl} {es : List (List (List PV))} {h : List OB} {inn : List Pl0} {arr : Array Value} {K : Bool → Fl → List (List (List PV)) → List OB → Prop},
    partsRW st z parts nw fl es h K → Parts pl (Sany A w0.heap.size pl st.heap w) (Fresh w0.heap.size pl st.heap w) w m st.heap h z nw fl es inn arr →
    ∃ nw' fl' es' h' inn' arr', K nw' fl' es' h' ∧ es'.length = es.length ∧ Instr.fill (fun i => some (i * 1, 1)) arr (parts.map fun (i, x) => (i, a.eval x)) = some arr' ∧
      Parts pl (Sany A w0.heap.size pl st.heap w) (Fresh w0.heap.size pl st.heap w) w m st.heap h' z nw' fl' es' inn' arr'
  | [], nw, fl, es, h, inn, arr, K, hk, hp => ⟨nw, fl, es, h, inn, arr, hk, rfl, rfl, hp⟩
  | (i, x) :: r, nw, fl, es, h, inn, arr, K, hk, hp => by
    simp only [partsRW] at hk
    obtain ⟨v, hv, hr⟩ := withV_sound hC.seen hk
    obtain ⟨nw1, fl1, e, h1, q, Ad, ⟨hi, hk1⟩, t1, t2, _, t3, t4, t5, t6, t7, t8, t9⟩ := takeRow_sound hC hp.kill hz hv (hr rfl)
    have hk1 := fAnd_eq hk1
    have hi : i < es.length := by simpa using hi
    have hFS : ∀ b, Fresh w0.heap.size pl st.heap w b → Sany A w0.heap.size pl st.heap w b := fun b hb => ⟨hb.2, .inr hb.1⟩
    have hone : (a.eval x).cells = #[a.eval x] := cells_one (by rw [t3]; rfl)
    have hget : ∀ j, (putC arr (i * 1) (a.eval x).cells)[j]? = if j = i then some (a.eval x) else arr[j]? := by
      intro j
      rw [get_putC, hone]
      by_cases hj : j = i
      · subst hj
        rw [if_pos ⟨by omega, by simp, by rw [hp.la]; exact hi⟩, if_pos rfl]
        simp
      · rw [if_neg hj, if_neg (by simp; omega)]
    have hp1 : Parts pl (Sany A w0.heap.size pl st.heap w) (Fresh w0.heap.size pl st.heap w) w m st.heap h1 z (nw && nw1) (Fl.join fl fl1) (es.set i e) (inn.set i q) (putC arr (i * 1) (a.eval x).cells) := by
      refine { kill := t1, li := by simp [hp.li], la := by rw [size_putC, hp.la, List.length_set], cell := fun j e' q' he hq => ?_, own := fun j q' hq hc => ?_, apart := fun j j' q1 q2 hq1 hq2 hne hc1 hc2 => ?_ }
      · rw [hget]
        by_cases hj : i = j
        · subst hj
          rw [List.getElem?_set_self hi] at he
          rw [List.getElem?_set_self (by rw [hp.li]; exact hi)] at hq
          cases he; cases hq
          rw [if_pos rfl]
          exact ⟨Ad, by rw [t3], t4, t5, t6, t7, t8.mono (flag_join_right hFS _ _) (fun _ _ => rfl) (fun _ => rfl)⟩
        · rw [List.getElem?_set_ne hj] at he hq
          rw [if_neg (Ne.symm hj)]
          obtain ⟨Ad', c1, c2, c3, c4, c5, c6⟩ := hp.cell j e' q' he hq
          exact ⟨Ad', c1, c2, c3, c4, c5, c6.mono (flag_join_left hFS _ _) (fun _ _ => rfl) (fun _ => rfl)⟩
      · by_cases hj : i = j
        · subst hj
          rw [List.getElem?_set_self (by rw [hp.li]; exact hi)] at hq
          cases hq
          obtain ⟨k, g1, g2, g3, g4, _⟩ := t9 hc
          refine ⟨k, g2, fun e0 => ?_, g3, fun hn => g4 (Bool.and_eq_true_iff.1 hn).2⟩
          obtain ⟨ob, o1, o2⟩ := owns_out g3
          rw [e0] at o1; cases o1; exact o2
        · rw [List.getElem?_set_ne hj] at hq
          obtain ⟨k, g1, g2, g3, g4⟩ := hp.own j q' hq hc
          exact ⟨k, t2 k g1, g2, g3, fun hn => g4 (Bool.and_eq_true_iff.1 hn).1⟩
      · have key : ∀ (j : Nat) (q' : Pl0), inn[j]? = some q' → 0 < q'.cap → 0 < q.cap → q.blk ≠ q'.blk := by
          intro j q' hq hc hcq e0
          obtain ⟨k, g1, g2, g3, g4, _⟩ := t9 hcq
          obtain ⟨k', g1', g2', g3', g4'⟩ := hp.own j q' hq hc
          rw [e0] at g3
          exact g1 (hC.disj k k' _ g3 g3' ▸ g1')
        by_cases hj : i = j
        · subst hj
          rw [List.getElem?_set_self (by rw [hp.li]; exact hi)] at hq1
          rw [List.getElem?_set_ne hne] at hq2
          cases hq1
          exact key j' q2 hq2 hc2 hc1
        · rw [List.getElem?_set_ne hj] at hq1
          by_cases hj' : i = j'
          · subst hj'
            rw [List.getElem?_set_self (by rw [hp.li]; exact hi)] at hq2
            cases hq2
            exact Ne.symm (key j q1 hq1 hc1 hc2)
          · rw [List.getElem?_set_ne hj'] at hq2
            exact hp.apart j j' q1 q2 hq1 hq2 hne hc1 hc2
    obtain ⟨nw', fl', es', h', inn', arr', hK, hle, hfill, hp'⟩ := partsR_sound hC hz hk1 hp1
    refine ⟨nw', fl', es', h', inn', arr', hK, by rw [hle, List.length_set], ?_, hp'⟩
    simp only [List.map_cons, Instr.fill]
    have hcnd : ¬ ((a.eval x).cells.size ≠ 1 || decide (i * 1 + (a.eval x).cells.size > arr.size)) = true := by
      simp only [ne_eq, Bool.or_eq_true, decide_eq_true_eq, not_or, Decidable.not_not]
      rw [hone, hp.la]
      exact ⟨rfl, by simp; omega⟩
    rw [if_neg hcnd]
    exact hfill
theorem hop_buildRows (hC : ConcP N m F A w0 st pl a w) (hF : ∀ b, F b → b < w0.heap.size) {o : Oper} {t e e' : TypeId} {len : Nat} {parts : Array (Nat × Operand)} (ho : o.op = .buildSlice t len parts) (ht : P.underlying t = some (.slice e)) {K : AV → List OB → Prop}
    (hzn : zNil P e = true) (h1 : P.cellsOf e = 1) (hz' : zeroOk P e' = true) (h0' : P.cellsOf e' ≠ 0) (h24 : len ≤ 16777216)
    (h : partsRW st (zeroPV P e') parts.toList true .flat (List.replicate len []) st.heap fun nw fl es h => EqR es fun es => K (.osl h.length 0 len) (h ++ [.rows nw fl (zeroPV P e') es none])) :
    ∃ v h', K v h' ∧ HopOk P N m F A w0 st pl a w o v h' := by
  have hzl := zeroPV_len hz'
  have hzp : 0 < (zeroPV P e').length := by omega
  obtain ⟨i, hi, hzi, hsi⟩ := zNil_spec hzn
  have hp0 : Parts pl (Sany A w0.heap.size pl st.heap w) (Fresh w0.heap.size pl st.heap w) w m st.heap st.heap (zeroPV P e') true .flat (List.replicate len []) (List.replicate len ⟨0, 0, 0, (zeroPV P e').length⟩) (madeCells #[.slice none 0 0] len) := by
    have hq : ∀ {i : Nat} {q : Pl0}, (List.replicate len (⟨0, 0, 0, (zeroPV P e').length⟩ : Pl0))[i]? = some q → q = ⟨0, 0, 0, (zeroPV P e').length⟩ := fun hq => by
      have := List.mem_of_getElem? hq; simp at this; exact this.2
    refine { kill := .refl _, li := by simp, la := by simp [madeCells], cell := fun j e q he hq' => ?_, own := fun j q hq' hc => ?_, apart := fun j j' q q' hq' _ _ hc => ?_ }
    · cases hq hq'
      have h2 := (List.getElem?_eq_some_iff.1 he).1
      have h3 := List.mem_of_getElem? he
      simp at h2 h3
      obtain ⟨_, rfl⟩ := h3
      exact ⟨none, by simp [madeCells, h2, Nat.mod_one], fun hc => absurd hc (Nat.lt_irrefl 0), rfl, Nat.zero_le _, Nat.zero_le _, .nil hzp⟩
    · cases hq hq'; exact absurd hc (Nat.lt_irrefl 0)
    · cases hq hq'; exact absurd hc (Nat.lt_irrefl 0)
  obtain ⟨nw, fl, es, h', inn, arr, ⟨es', rfl, hK⟩, hle, hfill, hp⟩ := partsR_sound hC hzp h hp0
  have hles : es.length = len := by rw [hle]; simp
  have hlenM : len ≤ maxLen := by simp only [maxLen]; omega
  have hrun : (execOp a.eval o).run P w = .ok (.value (.slice (some ⟨w.heap.size, 0, none⟩) len len)) (w.alloc (.cells arr e)) := by
    have h24' : ¬ (len * P.cellsOf e > 2 ^ 24) := by rw [h1]; omega
    have hfill' : Instr.fill (fun i => some (i * P.cellsOf e, P.cellsOf e)) (madeCells #[.slice none 0 0] len) (parts.map fun (i, x) => (i, a.eval x)).toList = some arr := by
      rw [Array.toList_map, h1]
      exact hfill
    have hzv : (zeroValue e).run P w = .ok (.slice none 0 0) w := by simp [zeroValue, typeInfo, hi, hzi]
    have h0 : P.cellsOf e ≠ 0 := by omega
    simp only [execOp, ho, Instr.buildSlice, Sem.run_bind, run_underlying ht, Result.andThen_ok, run_sizeOf' h0, if_neg h24']
    by_cases hz0 : len * P.cellsOf e = 0
    · simp only [if_pos hz0, pure_bind]
      have hl0 : len = 0 := by rw [h1] at hz0; omega
      rw [hz0]
      rw [hl0] at hfill' ⊢
      have e0 : (Array.map (fun x => (#[] : Array Value)[x % (#[] : Array Value).size]!) (Array.range 0)) = madeCells #[.slice none 0 0] 0 := by simp [madeCells]
      rw [e0, hfill']
      simp only [Sem.run_bind, newRow, run_newObj, Result.andThen_ok, Sem.run_pure]
      rfl
    · simp only [if_neg hz0, Sem.run_bind, hzv, Result.andThen_ok, Sem.run_pure]
      have e0 : (Array.map (fun x => (Value.slice none 0 0).cells[x % (Value.slice none 0 0).cells.size]!) (Array.range (len * P.cellsOf e))) = madeCells #[.slice none 0 0] len := by rw [h1, Nat.mul_one]; rfl
      rw [e0, hfill']
      simp only [Sem.run_bind, newRow, run_newObj, Result.andThen_ok, Sem.run_pure]
      rfl
  obtain ⟨hN, hmk⟩ := hC.killPush hF hp.kill (w' := w.alloc (.cells arr e)) rfl rfl rfl (by simp) ⟨⟨w.heap.size, 0, len, 1⟩, inn⟩ (.rows nw fl (zeroPV P e') es none) (by simp [kind]) (fun b hb => by
      rcases hb with ⟨_, h2⟩ | ⟨j, q, h2, _, h3, h4⟩
      · right; have h2 : w.heap.size = b := h2; subst h2; simp
      · left
        obtain ⟨k, g1, g2, g3, g4⟩ := hp.own j q h2 h3
        exact ⟨k, g1, h4 ▸ g3, g4⟩) (fun b hb _ => Below.heap_alloc w _ b hb)
  rw [hp.kill.1] at hK
  refine ⟨_, _, hK, _, _, plAt pl st.heap.length ⟨⟨w.heap.size, 0, len, 1⟩, inn⟩, hrun, fun k hk _ => plAt_lt hk, by simp [hp.kill.1], hmk ?_, .inr ⟨_, rfl, ?_⟩⟩
  · show RowsRel _ _ _ _ _ (plAt pl st.heap.length _ st.heap.length) _ _ _ _
    rw [plAt_eq]
    refine { sz := rfl, cap := hlenM, len := by show es.length ≤ len; omega, inn := hp.li, zpos := hzp, mem := fun _ => ⟨e, arr, heap_new w _, by show 0 + len ≤ arr.size; rw [hp.la]; omega, fun j e1 q he hq => ?_⟩, row := fun j e1 q he hq _ => ?_, out := fun _ _ hh => (by cases hh), apart := fun j j' q q' h2 h3 h4 _ _ => hp.apart j j' q q' h2 h3 h4, apart0 := fun j q h2 _ h3 _ => ?_ }
    · obtain ⟨Ad, c1, c2, c3, c4, c5, _⟩ := hp.cell j e1 q he hq
      exact ⟨Ad, by show arr[0 + j]? = _; rw [Nat.zero_add]; exact c1, c2, c3, c4, c5⟩
    · obtain ⟨Ad, c1, c2, c3, c4, c5, c6⟩ := hp.cell j e1 q he hq
      refine c6.mono (flagS_mono hN.S hN.Fr fl) (flagS_same (fun b hb => hN.same b hb.1) (fun b hb => hN.same b hb.2) fl) fun hc => ?_
      obtain ⟨k, g1, g2, g3, g4⟩ := hp.own j q hq hc
      exact Below.heap_alloc w _ _ (hC.ownlt k _ g3)
    · obtain ⟨k, g1, g2, g3, g4⟩ := hp.own j q h2 h3
      have := hC.ownlt k _ g3
      show q.blk ≠ w.heap.size
      omega
  · refine .osl (by simp [hp.kill.1]) (fun _ => ?_) ?_ (Nat.le_refl _) ?_
    · rw [plAt_eq]
      show some _ = some (⟨w.heap.size, 0 + 0 * 1, none⟩ : Addr)
      rfl
    · rw [plAt_eq]
      show 0 + len = len
      omega
    · rw [plAt_eq]; exact hlenM
end
end Go.Av
namespace Go.Av
open Go.RowKit
section
variable {N m : Nat} {F A : Nat → Prop} {w0 : World} {st : St} {pl : Nat → Pl} {a : Act} {w : World} {P : Program} [Kn P]
theorem isnew_rows {h : List OB} {k : Nat} {nw : Bool} {fl : Fl} {z : List PV} {es : List (List (List PV))} {ho : Option (Nat × Nat)} (hk : h[k]? = some (.rows nw fl z es ho)) : isnew m h k ↔ nw = true := by
  unfold isnew; rw [hk]
theorem hop_storeRows (hC : ConcP N m F A w0 st pl a w) (hF : ∀ b, F b → b < w0.heap.size) {o : Oper} {t : TypeId} {x y : Operand} (ho : o.op = .store t x y) {k i : Nat} {vy : AV}
    (hx : RelA pl st.heap.length (Sany A w0.heap.size pl st.heap w) (Fresh w0.heap.size pl st.heap w) w (.orow k i 0) (a.eval x)) (hy : RelA pl st.heap.length (Sany A w0.heap.size pl st.heap w) (Fresh w0.heap.size pl st.heap w) w vy (a.eval y))
    (h1 : P.cellsOf t = 1) {nw : Bool} {fl : Fl} {z : List PV} {es : List (List (List PV))} (hk : st.heap[k]? = some (.rows nw fl z es none)) (hmk : m ≤ k) {K : AV → List OB → Prop}
    (h : takeRowW st.heap z vy fun nw' fl' e h' => BndF true (i < es.length) (EqR (es.set i e) fun es => fAnd nw nw' fun nw => K .junk (h'.set k (.rows nw (Fl.join fl fl') z es none)))) : ∃ v h', K v h' ∧ HopOk P N m F A w0 st pl a w o v h' := by
  have hR : RowsRel pl st.heap.length (Sany A w0.heap.size pl st.heap w) (Fresh w0.heap.size pl st.heap w) w (pl k) fl z es none := hC.heap k _ hk
  obtain ⟨nw', fl', e, h', q, Ad, ⟨hi, es2, rfl, hK⟩, t1, t2, t2', t3, t4, t5, t6, t7, t8, t9⟩ := takeRow_sound hC (.refl _) hR.zpos h hy
  have hK := fAnd_eq hK
  have hi := hi rfl
  have hFS : ∀ b, Fresh w0.heap.size pl st.heap w b → Sany A w0.heap.size pl st.heap w b := fun b hb => ⟨hb.2, .inr hb.1⟩
  have hkl := (List.getElem?_eq_some_iff.1 hk).1
  have hk' : h'[k]? = some (.rows nw fl z es none) := by rw [t2' k _ _ _ _ _ hk]; exact hk
  have hkl' : k < h'.length := by rw [t1.1]; exact hkl
  have hcap : 0 < (pl k).cap := by have := hR.len; omega
  obtain ⟨ty, arr, q1, q2, q3⟩ := hR.mem hcap
  have hxe : a.eval x = .pointer (some ⟨(pl k).blk, (pl k).off + i, none⟩) := by
    generalize a.eval x = u at hx ⊢
    cases hx with
    | orow hkL => rw [hR.sz]; simp
  have hone : (a.eval y).cells = #[a.eval y] := cells_one (by rw [t3]; rfl)
  have hlen := hR.len
  have hst := run_storeVar (P := P) (w := w) (t := t) (by omega) (g := (pl k).blk) (o := (pl k).off + i) (u := a.eval y) (by rw [hone, h1]; rfl) q1 (by rw [h1]; omega) (fun j v hv => by
    rw [hone] at hv
    have hj := (Array.getElem?_eq_some_iff.1 hv).1
    simp at hj
    subst hj
    simp at hv
    subst hv
    rw [t3]; rfl)
  obtain ⟨s1, s2, s3, s4, s5⟩ := setRow_same w (pl k).blk (arr.toList.take ((pl k).off + i) ++ (a.eval y).cells.toList ++ arr.toList.drop ((pl k).off + i + P.cellsOf t)).toArray
  have hget : ∀ j, (arr.toList.take ((pl k).off + i) ++ (a.eval y).cells.toList ++ arr.toList.drop ((pl k).off + i + P.cellsOf t)).toArray[j]? = if j = (pl k).off + i then some (a.eval y) else arr[j]? := by
    intro j
    rw [List.getElem?_toArray, hone, h1]
    have := splice_get (l := arr.toList) (vs := [a.eval y]) (o := (pl k).off + i) (by simp; omega) j
    simp only [List.length_singleton] at this
    have e0 : (#[a.eval y] : Array Value).toList = [a.eval y] := rfl
    rw [e0, this]
    by_cases hj : j = (pl k).off + i
    · subst hj; rw [if_pos (by omega), if_pos rfl]; simp
    · rw [if_neg (by omega), if_neg hj, Array.getElem?_toList]
  let pl' : Nat → Pl := fun j => if j = k then ⟨(pl k).toPl0, (pl k).inn.set i q⟩ else pl j
  have hplk : pl' k = ⟨(pl k).toPl0, (pl k).inn.set i q⟩ := by simp [pl']
  have hpln : ∀ j, j ≠ k → pl' j = pl j := fun j hj => by simp [pl', hj]
  have hinn : i < (pl k).inn.length := by rw [hR.inn]; exact hi
  have hset : ∀ j, j ≠ k → (h'.set k (OB.rows (nw && nw') (Fl.join fl fl') z (es.set i e) none))[j]? = h'[j]? := fun j hj => List.getElem?_set_ne (Ne.symm hj)
  have hsetk : (h'.set k (OB.rows (nw && nw') (Fl.join fl fl') z (es.set i e) none))[k]? = some (.rows (nw && nw') (Fl.join fl fl') z (es.set i e) none) := List.getElem?_set_self hkl'
  -- who owns what
  have hl : ∀ j b, owns pl' (h'.set k (.rows (nw && nw') (Fl.join fl fl') z (es.set i e) none)) j b → (j ≠ k ∧ h'[j]? = st.heap[j]? ∧ h'[j]? ≠ some .dead ∧ owns pl st.heap j b) ∨ (j = k ∧ owns pl st.heap k b) ∨ (j = k ∧ 0 < q.cap ∧ q.blk = b) := by
    intro j b hj
    obtain ⟨ob, g1, g2⟩ := owns_out hj
    by_cases hjk : j = k
    · right
      subst hjk
      rw [hsetk] at g1
      cases g1
      rw [hplk] at g2
      rcases g2 with ⟨c1, c2⟩ | ⟨i', q', c1, c2, c3, c4⟩
      · exact .inl ⟨rfl, owns_of hk (.inl ⟨c1, c2⟩)⟩
      · have c1 : ((pl j).inn.set i q)[i']? = some q' := c1
        by_cases hii : i = i'
        · subst hii
          rw [List.getElem?_set_self hinn] at c1
          cases c1
          exact .inr ⟨rfl, c3, c4⟩
        · rw [List.getElem?_set_ne hii] at c1
          exact .inl ⟨rfl, owns_of hk (.inr ⟨i', q', c1, by simp, c3, c4⟩)⟩
    · left
      rw [hset j hjk] at g1
      rw [hpln j hjk] at g2
      have hne : h'[j]? ≠ some .dead := fun e0 => by rw [e0] at g1; cases g1; exact g2
      have := (t1.2 j).resolve_right hne
      exact ⟨hjk, this, hne, owns_of (this ▸ g1) g2⟩
  obtain ⟨hN, hmk'⟩ := hC.regroup hF s1 s2 s3 (Nat.le_of_eq s4.symm) (pl' := pl') (heap' := h'.set k (.rows (nw && nw') (Fl.join fl fl') z (es.set i e) none)) (by simp [t1.1])
    (fun j _ => by
      by_cases hjk : j = k
      · subst hjk; rw [hplk]; rfl
      · rw [hpln j hjk]; rfl)
    (fun j b hj => by
      rcases hl j b hj with ⟨_, _, _, g⟩ | ⟨_, g⟩ | ⟨_, g1, g2⟩
      · exact .inl ⟨j, g⟩
      · exact .inl ⟨k, g⟩
      · obtain ⟨k2, _, _, g3, _⟩ := t9 g1
        exact .inl ⟨k2, g2 ▸ g3⟩)
    (fun b hb hn => s5 b fun e0 => hn k (owns_of hk (.inl ⟨hcap, e0.symm⟩)))
  have hne2 : ∀ {b : Nat} {j : Nat}, h'[j]? ≠ some .dead → owns pl st.heap j b → ¬ (0 < q.cap ∧ q.blk = b) := by
    intro b j hj ho2 ⟨g1, g2⟩
    obtain ⟨k2, _, g4, g3, _⟩ := t9 g1
    exact hj (hC.disj j k2 b ho2 (g2 ▸ g3) ▸ g4)
  refine ⟨_, _, hK, .skip, _, pl', ?_, fun j _ hj => hpln j (by omega), by simp [t1.1], hmk' (fun j j' b g1 g2 => ?_) (fun j b hn hj => ?_) (fun j ob hj => ?_), .inl ⟨rfl, rfl⟩⟩
  · simp only [execOp, ho, hxe, Instr.storeAt, Instr.sureAddr, Sem.run_bind, Sem.run_pure, Result.andThen_ok, hst]
  · rcases hl j b g1 with ⟨a1, a2, a3, a4⟩ | ⟨a1, a2⟩ | ⟨a1, a2⟩ <;> rcases hl j' b g2 with ⟨b1, b2, b3, b4⟩ | ⟨b1, b2⟩ | ⟨b1, b2⟩
    · exact hC.disj j j' b a4 b4
    · rw [b1]; exact hC.disj j k b a4 b2
    · exact absurd b2 (hne2 a3 a4)
    · rw [a1]; exact hC.disj k j' b a2 b4
    · omega
    · omega
    · exact absurd a2 (hne2 b3 b4)
    · omega
    · omega
  · rcases hl j b hj with ⟨a1, a2, a3, a4⟩ | ⟨a1, a2⟩ | ⟨a1, a2, a3⟩
    · refine hC.newb j b ?_ a4
      unfold isnew at hn ⊢
      rw [hset j a1, a2] at hn
      exact hn
    · subst a1
      rw [isnew_rows hsetk] at hn
      exact hC.newb j b ((isnew_rows hk).2 (Bool.and_eq_true_iff.1 hn).1) a2
    · obtain ⟨k2, _, g4, g3, g5, _⟩ := t9 a2
      subst a1
      rw [isnew_rows hsetk] at hn
      exact hC.newb k2 b (g5 (Bool.and_eq_true_iff.1 hn).2) (a3 ▸ g3)
  · by_cases hjk : j = k
    · subst hjk
      right
      rw [hsetk] at hj
      cases hj
      show RowsRel _ _ _ _ _ (pl' j) _ _ _ _
      rw [hplk]
      refine { sz := hR.sz, cap := hR.cap, len := by rw [List.length_set]; exact hR.len, inn := by simp [hR.inn], zpos := hR.zpos, mem := fun _ => ⟨ty, _, setRow_heap w _ arr _ ty (0, 0) q1, ?_, fun i' e1 q' he hq => ?_⟩, row := fun i' e1 q' he hq _ => ?_, out := fun _ _ hh => (by cases hh), apart := fun i1 i2 p1 p2 h1' h2' hne _ _ c1 c2 => ?_, apart0 := fun i1 p1 h1' _ c1 c2 => ?_ }
      · simp only [List.size_toArray, List.length_append, List.length_take, List.length_drop, Array.length_toList, hone, h1]
        have : (pl j).off + i < arr.size := by omega
        simp
        omega
      · have hq : ((pl j).inn.set i q)[i']? = some q' := hq
        show ∃ Ad', (_ : Array Value)[(pl j).off + i']? = some (.slice Ad' e1.length q'.cap) ∧ _
        rw [hget]
        by_cases hii : i = i'
        · subst hii
          rw [List.getElem?_set_self hi] at he
          rw [List.getElem?_set_self hinn] at hq
          cases he; cases hq
          rw [if_pos rfl]
          exact ⟨Ad, by rw [t3], t4, t5, t6, t7⟩
        · rw [List.getElem?_set_ne hii] at he hq
          rw [if_neg (by omega)]
          exact q3 i' e1 q' he hq
      · have hq : ((pl j).inn.set i q)[i']? = some q' := hq
        by_cases hii : i = i'
        · subst hii
          rw [List.getElem?_set_self hi] at he
          rw [List.getElem?_set_self hinn] at hq
          cases he; cases hq
          refine (t8.mono (flag_join_right hFS fl fl') (fun _ _ => rfl) (fun _ => rfl)).mono (flagS_mono hN.S hN.Fr _) (flagS_same (fun b hb => hN.same b hb.1) (fun b hb => hN.same b hb.2) _) fun hc => ?_
          obtain ⟨k2, g1, g4, g3, _⟩ := t9 hc
          refine s5 _ fun e0 => ?_
          have := hC.disj k2 j _ g3 (owns_of hk (.inl ⟨hcap, e0.symm⟩))
          rw [this] at g4
          rw [hk'] at g4; cases g4
        · rw [List.getElem?_set_ne hii] at he hq
          refine ((hR.row i' e1 q' he hq (by simp)).mono (flag_join_left hFS fl fl') (fun _ _ => rfl) (fun _ => rfl)).mono (flagS_mono hN.S hN.Fr _) (flagS_same (fun b hb => hN.same b hb.1) (fun b hb => hN.same b hb.2) _) fun hc => ?_
          exact s5 _ (hR.apart0 i' q' hq (by simp) hc hcap)
      · have h1' : ((pl j).inn.set i q)[i1]? = some p1 := h1'
        have h2' : ((pl j).inn.set i q)[i2]? = some p2 := h2'
        have key : ∀ (i3 : Nat) (p3 : Pl0), (pl j).inn[i3]? = some p3 → 0 < p3.cap → 0 < q.cap → q.blk ≠ p3.blk := fun i3 p3 g1 g2 g3 e0 =>
          hne2 (j := j) (by rw [hk']; simp) (owns_of hk (.inr ⟨i3, p3, g1, by simp, g2, rfl⟩)) ⟨g3, e0⟩
        by_cases hi1 : i = i1
        · subst hi1
          rw [List.getElem?_set_self hinn] at h1'
          rw [List.getElem?_set_ne hne] at h2'
          cases h1'
          exact key i2 p2 h2' c2 c1
        · rw [List.getElem?_set_ne hi1] at h1'
          by_cases hi2 : i = i2
          · subst hi2
            rw [List.getElem?_set_self hinn] at h2'
            cases h2'
            exact Ne.symm (key i1 p1 h1' c1 c2)
          · rw [List.getElem?_set_ne hi2] at h2'
            exact hR.apart i1 i2 p1 p2 h1' h2' hne (by simp) (by simp) c1 c2
      · have h1' : ((pl j).inn.set i q)[i1]? = some p1 := h1'
        show p1.blk ≠ (pl j).blk
        by_cases hi1 : i = i1
        · subst hi1
          rw [List.getElem?_set_self hinn] at h1'
          cases h1'
          intro e0
          exact hne2 (j := j) (by rw [hk']; simp) (owns_of hk (.inl ⟨hcap, rfl⟩)) ⟨c1, e0⟩
        · rw [List.getElem?_set_ne hi1] at h1'
          exact hR.apart0 i1 p1 h1' (by simp) c1 hcap
    · rw [hset j hjk] at hj
      by_cases hd : h'[j]? = some .dead
      · right; rw [hd] at hj; cases hj; trivial
      · left
        have he := (t1.2 j).resolve_right hd
        refine ⟨by rw [← he]; exact hj, hpln j hjk, fun b hb => s5 b fun e0 => ?_⟩
        exact hjk (hC.disj j k b (owns_of (by rw [← he]; exact hj) hb) (owns_of hk (.inl ⟨hcap, e0.symm⟩)))
end
end Go.Av
namespace Go.Av
open Go.RowKit
def mergeW (h : List OB) (k : Nat) (K : List OB → Prop) : Prop := match h[k]? with
  | some (.rows nw fl z es (some (i, k2))) => (match h[k2]? with
    | some (.row nw2 fl2 z2 es2) => z2 = z ∧ (!nw || nw2) = true ∧ BndF true (es2.length = (es.getD i []).length) (EqR (es.set i es2) fun es => K ((h.set k (.rows nw (Fl.join fl fl2) z es none)).set k2 .dead))
    | _ => False)
  | _ => K h
def holeAt : List OB → Nat → Option Nat
  | [], _ => none
  | .rows _ _ _ _ (some _) :: _, k => some k
  | _ :: r, k => holeAt r (k + 1)
def unholeW : Nat → List OB → (List OB → Prop) → Prop
  | 0, h, K => K h
  | n + 1, h, K => match holeAt h 0 with
    | none => K h
    | some k => mergeW h k fun h => unholeW n h K
def loadRW (P : Program) [Kn P] (zs : TypeId → List PV) (st : St) (o : Oper) (K : AV → List OB → Prop) : Prop := match o.op with
  | .load t x => withV st true x fun a => (match a with
    | .orow k i j => (match st.heap[k]? with
      | some (.rows ..) => (match P.underlying t with
        | some (.slice _) => j = 0 ∧ mergeW st.heap k fun h => (match h[k]? with
          | some (.rows nw fl z es none) => BndF true (i < es.length) (EqL (es.getD i []) fun e => EqN e.length fun n => K (.osl h.length 0 n) (h.set k (.rows nw fl z es (some (i, h.length))) ++ [.row nw fl z e]))
          | _ => False)
        | _ => False)
      | _ => opW P zs st true o fun v => K v st.heap)
    | _ => opW P zs st true o fun v => K v st.heap)
  | _ => False
section
variable {N m : Nat} {F A : Nat → Prop} {w0 : World} {st : St} {pl : Nat → Pl} {a : Act} {w : World} {P : Program} [Kn P]
theorem ConcP.merge (hC : ConcP N m F A w0 st pl a w) (hF : ∀ b, F b → b < w0.heap.size) {k i k2 : Nat} {nw nw2 : Bool} {fl fl2 : Fl} {z : List PV} {es : List (List (List PV))} {es2 : List (List PV)} (hk : st.heap[k]? = some (.rows nw fl z es (some (i, k2)))) (hk2 : st.heap[k2]? = some (.row nw2 fl2 z es2))
    (hnw : (!nw || nw2) = true) (hle : es2.length = (es.getD i []).length) : ConcP N m F A w0 ⟨st.env, (st.heap.set k (.rows nw (Fl.join fl fl2) z (es.set i es2) none)).set k2 .dead⟩ pl a w := by
  have hR : RowsRel pl st.heap.length (Sany A w0.heap.size pl st.heap w) (Fresh w0.heap.size pl st.heap w) w (pl k) fl z es (some (i, k2)) := hC.heap k _ hk
  have hR2 : RowRel (flagS (Sany A w0.heap.size pl st.heap w) (Fresh w0.heap.size pl st.heap w) fl2) w (pl k2).toPl0 z es2 := hC.heap k2 _ hk2
  obtain ⟨o1, hi, o3⟩ := hR.out i k2 rfl
  have hFS : ∀ b, Fresh w0.heap.size pl st.heap w b → Sany A w0.heap.size pl st.heap w b := fun b hb => ⟨hb.2, .inr hb.1⟩
  have hne : k2 ≠ k := fun e => by rw [e, hk] at hk2; cases hk2
  have hkl := (List.getElem?_eq_some_iff.1 hk).1
  have hk2l := (List.getElem?_eq_some_iff.1 hk2).1
  have g2 : ((st.heap.set k (.rows nw (Fl.join fl fl2) z (es.set i es2) none)).set k2 .dead)[k2]? = some .dead := List.getElem?_set_self (by simpa using hk2l)
  have g1 : ((st.heap.set k (.rows nw (Fl.join fl fl2) z (es.set i es2) none)).set k2 .dead)[k]? = some (.rows nw (Fl.join fl fl2) z (es.set i es2) none) := by rw [List.getElem?_set_ne hne, List.getElem?_set_self hkl]
  have g0 : ∀ j, j ≠ k → j ≠ k2 → ((st.heap.set k (.rows nw (Fl.join fl fl2) z (es.set i es2) none)).set k2 .dead)[j]? = st.heap[j]? := fun j h1 h2 => by rw [List.getElem?_set_ne (Ne.symm h2), List.getElem?_set_ne (Ne.symm h1)]
  generalize hh : (st.heap.set k (.rows nw (Fl.join fl fl2) z (es.set i es2) none)).set k2 .dead = heap' at *
  have hlen : heap'.length = st.heap.length := by rw [← hh]; simp
  have hl : ∀ j b, owns pl heap' j b → (j ≠ k ∧ j ≠ k2 ∧ owns pl st.heap j b) ∨ (j = k ∧ owns pl st.heap k b) ∨ (j = k ∧ owns pl st.heap k2 b) := by
    intro j b hj
    obtain ⟨ob, c1, c2⟩ := owns_out hj
    by_cases hjk : j = k
    · subst hjk
      right
      rw [g1] at c1
      cases c1
      rcases c2 with c2 | ⟨i', q', d1, d2, d3, d4⟩
      · exact .inl ⟨rfl, owns_of hk (.inl c2)⟩
      · by_cases hii : i' = i
        · subst hii
          rw [o3] at d1; cases d1
          exact .inr ⟨rfl, owns_of hk2 ⟨d3, d4⟩⟩
        · exact .inl ⟨rfl, owns_of hk (.inr ⟨i', q', d1, by simp; exact Ne.symm hii, d3, d4⟩)⟩
    · by_cases hj2 : j = k2
      · subst hj2; rw [g2] at c1; cases c1; exact c2.elim
      · rw [g0 j hjk hj2] at c1
        exact .inl ⟨hjk, hj2, owns_of c1 c2⟩
  obtain ⟨hN, hmk⟩ := hC.regroup hF (w' := w) rfl rfl rfl (Nat.le_refl _) (pl' := pl) (heap' := heap') (by omega) (fun _ _ => rfl)
    (fun j b hj => by
      rcases hl j b hj with ⟨_, _, h⟩ | ⟨_, h⟩ | ⟨_, h⟩
      · exact .inl ⟨j, h⟩
      · exact .inl ⟨k, h⟩
      · exact .inl ⟨k2, h⟩) (fun _ _ _ => rfl)
  refine hmk (fun j j' b h1 h2 => ?_) (fun j b hn hj => ?_) (fun j ob hj => ?_)
  · rcases hl j b h1 with ⟨a1, a2, a3⟩ | ⟨a1, a2⟩ | ⟨a1, a2⟩ <;> rcases hl j' b h2 with ⟨b1, b2, b3⟩ | ⟨b1, b2⟩ | ⟨b1, b2⟩
    · exact hC.disj j j' b a3 b3
    · exact absurd (hC.disj j k b a3 b2) a1
    · exact absurd (hC.disj j k2 b a3 b2) a2
    · exact absurd (hC.disj j' k b b3 a2) b1
    · omega
    · omega
    · exact absurd (hC.disj j' k2 b b3 a2) b2
    · omega
    · omega
  · rcases hl j b hj with ⟨a1, a2, a3⟩ | ⟨a1, a2⟩ | ⟨a1, a2⟩
    · refine hC.newb j b ?_ a3
      unfold isnew at hn ⊢
      rwa [g0 j a1 a2] at hn
    · subst a1
      rw [isnew_rows g1] at hn
      exact hC.newb j b ((isnew_rows hk).2 hn) a2
    · subst a1
      rw [isnew_rows g1] at hn
      refine hC.newb k2 b ?_ a2
      unfold isnew
      rw [hk2]
      rw [hn] at hnw
      simpa using hnw
  · by_cases hjk : j = k
    · subst hjk
      right
      rw [g1] at hj
      cases hj
      have he0 : es[i]? = some (es.getD i []) := getD_some hi
      refine { sz := hR.sz, cap := hR.cap, len := by rw [List.length_set]; exact hR.len, inn := by rw [List.length_set]; exact hR.inn, zpos := hR.zpos, mem := fun hc => ?_, row := fun i' e q he hq _ => ?_, out := fun _ _ hh => (by cases hh), apart := fun i1 i2 p1 p2 h1 h2 hne' _ _ c1 c2 => ?_, apart0 := fun i1 p1 h1 _ c1 c2 => ?_ }
      · obtain ⟨ty, arr, m1, m2, m3⟩ := hR.mem hc
        refine ⟨ty, arr, m1, m2, fun i' e q he hq => ?_⟩
        by_cases hii : i = i'
        · subst hii
          rw [List.getElem?_set_self hi] at he
          cases he
          obtain ⟨Ad, n1, n2, n3, n4, n5⟩ := m3 i _ q he0 hq
          exact ⟨Ad, by rw [hle]; exact n1, n2, n3, n4, by rw [hle]; exact n5⟩
        · rw [List.getElem?_set_ne hii] at he
          exact m3 i' e q he hq
      · by_cases hii : i = i'
        · subst hii
          rw [List.getElem?_set_self hi] at he
          cases he
          rw [o3] at hq; cases hq
          exact (hR2.mono (flag_join_right hFS fl fl2) (fun _ _ => rfl) (fun _ => rfl)).mono (flagS_mono hN.S hN.Fr _) (fun _ _ => rfl) (fun _ => rfl)
        · rw [List.getElem?_set_ne hii] at he
          exact ((hR.row i' e q he hq (by simp; exact hii)).mono (flag_join_left hFS fl fl2) (fun _ _ => rfl) (fun _ => rfl)).mono (flagS_mono hN.S hN.Fr _) (fun _ _ => rfl) (fun _ => rfl)
      · by_cases hi1 : i1 = i
        · subst hi1
          rw [o3] at h1; cases h1
          intro e0
          have := hC.disj k2 j _ (owns_of hk2 ⟨c1, rfl⟩) (owns_of hk (.inr ⟨i2, p2, h2, by simp; exact hne', c2, e0.symm⟩))
          exact hne this
        · by_cases hi2 : i2 = i
          · subst hi2
            rw [o3] at h2; cases h2
            intro e0
            have := hC.disj k2 j _ (owns_of hk2 ⟨c2, rfl⟩) (owns_of hk (.inr ⟨i1, p1, h1, by simp; exact Ne.symm hne', c1, e0⟩))
            exact hne this
          · exact hR.apart i1 i2 p1 p2 h1 h2 hne' (by simp; exact Ne.symm hi1) (by simp; exact Ne.symm hi2) c1 c2
      · by_cases hi1 : i1 = i
        · subst hi1
          rw [o3] at h1; cases h1
          intro e0
          exact hne (hC.disj k2 j _ (owns_of hk2 ⟨c1, rfl⟩) (owns_of hk (.inl ⟨c2, e0.symm⟩)))
        · exact hR.apart0 i1 p1 h1 (by simp; exact Ne.symm hi1) c1 c2
    · by_cases hj2 : j = k2
      · subst hj2; rw [g2] at hj; cases hj; right; trivial
      · rw [g0 j hjk hj2] at hj
        exact .inl ⟨hj, rfl, fun _ _ => rfl⟩
theorem ConcP.split (hC : ConcP N m F A w0 st pl a w) (hF : ∀ b, F b → b < w0.heap.size) {k i : Nat} {nw : Bool} {fl : Fl} {z : List PV} {es : List (List (List PV))} (hk : st.heap[k]? = some (.rows nw fl z es none)) (hi : i < es.length) :
    ∃ q Ad, w.cell? ⟨(pl k).blk, (pl k).off + i, none⟩ = some (.slice Ad (es.getD i []).length q.cap) ∧
      ConcP N m F A w0 ⟨st.env, st.heap.set k (.rows nw fl z es (some (i, st.heap.length))) ++ [.row nw fl z (es.getD i [])]⟩ (plAt pl st.heap.length ⟨q, []⟩) a w ∧
      ∀ (S Fr : Nat → Prop), RelA (plAt pl st.heap.length ⟨q, []⟩) (st.heap.length + 1) S Fr w (.osl st.heap.length 0 (es.getD i []).length) (.slice Ad (es.getD i []).length q.cap) := by
  have hR : RowsRel pl st.heap.length (Sany A w0.heap.size pl st.heap w) (Fresh w0.heap.size pl st.heap w) w (pl k) fl z es none := hC.heap k _ hk
  have hkl := (List.getElem?_eq_some_iff.1 hk).1
  have hlt : i < (pl k).inn.length := by rw [hR.inn]; exact hi
  have hq := List.getElem?_eq_getElem hlt
  generalize (pl k).inn[i] = q at hq
  have he0 : es[i]? = some (es.getD i []) := getD_some hi
  have hcap : 0 < (pl k).cap := by have := hR.len; omega
  obtain ⟨ty, arr, m1, m2, m3⟩ := hR.mem hcap
  obtain ⟨Ad, n1, n2, n3, n4, n5⟩ := m3 i _ q he0 hq
  have hrow := hR.row i _ q he0 hq (by simp)
  have hset : (st.heap.set k (OB.rows nw fl z es (some (i, st.heap.length)))).length = st.heap.length := by simp
  have g1 : (st.heap.set k (OB.rows nw fl z es (some (i, st.heap.length))) ++ [OB.row nw fl z (es.getD i [])])[k]? = some (.rows nw fl z es (some (i, st.heap.length))) := by rw [List.getElem?_append_left (by rw [hset]; exact hkl), List.getElem?_set_self hkl]
  have g2 : (st.heap.set k (OB.rows nw fl z es (some (i, st.heap.length))) ++ [OB.row nw fl z (es.getD i [])])[st.heap.length]? = some (.row nw fl z (es.getD i [])) := by rw [List.getElem?_append_right (by rw [hset]; exact Nat.le_refl _), hset]; simp
  have g0 : ∀ j, j < st.heap.length → j ≠ k → (st.heap.set k (OB.rows nw fl z es (some (i, st.heap.length))) ++ [OB.row nw fl z (es.getD i [])])[j]? = st.heap[j]? := fun j h1 h2 => by rw [List.getElem?_append_left (by rw [hset]; exact h1), List.getElem?_set_ne (Ne.symm h2)]
  have g3 : ∀ j ob, (st.heap.set k (OB.rows nw fl z es (some (i, st.heap.length))) ++ [OB.row nw fl z (es.getD i [])])[j]? = some ob → j ≤ st.heap.length := fun j ob h => by have := (List.getElem?_eq_some_iff.1 h).1; simp at this; omega
  have hlen : (st.heap.set k (OB.rows nw fl z es (some (i, st.heap.length))) ++ [OB.row nw fl z (es.getD i [])]).length = st.heap.length + 1 := by simp
  generalize hh : st.heap.set k (OB.rows nw fl z es (some (i, st.heap.length))) ++ [OB.row nw fl z (es.getD i [])] = heap' at *
  have p1 : ∀ j, j < st.heap.length → plAt pl st.heap.length ⟨q, []⟩ j = pl j := fun j h => plAt_lt h
  have p2 : plAt pl st.heap.length ⟨q, []⟩ st.heap.length = ⟨q, []⟩ := plAt_eq
  refine ⟨q, Ad, ?_, ?_, fun S Fr => ?_⟩
  · rw [cell_of_row w _ _ arr ty (0, 0) m1]; exact n1
  · have hl : ∀ j b, owns (plAt pl st.heap.length ⟨q, []⟩) heap' j b → (j < st.heap.length ∧ j ≠ k ∧ owns pl st.heap j b) ∨ (j = k ∧ obOwns (pl k) (.rows nw fl z es (some (i, st.heap.length))) b) ∨ (j = st.heap.length ∧ 0 < q.cap ∧ q.blk = b) := by
      intro j b hj
      obtain ⟨ob, c1, c2⟩ := owns_out hj
      have := g3 j ob c1
      by_cases hjk : j = k
      · subst hjk
        rw [g1] at c1; cases c1
        rw [p1 j hkl] at c2
        exact .inr (.inl ⟨rfl, c2⟩)
      · by_cases hjl : j = st.heap.length
        · subst hjl
          rw [g2] at c1; cases c1
          rw [p2] at c2
          exact .inr (.inr ⟨rfl, c2⟩)
        · rw [g0 j (by omega) hjk] at c1
          rw [p1 j (by omega)] at c2
          exact .inl ⟨by omega, hjk, owns_of c1 c2⟩
    have hsub : ∀ b, obOwns (pl k) (.rows nw fl z es (some (i, st.heap.length))) b → owns pl st.heap k b := fun b hb => by
      rcases hb with hb | ⟨i', q', d1, d2, d3⟩
      · exact owns_of hk (.inl hb)
      · exact owns_of hk (.inr ⟨i', q', d1, by simp, d3⟩)
    have hq0 : ∀ b, 0 < q.cap ∧ q.blk = b → owns pl st.heap k b := fun b hb => owns_of hk (.inr ⟨i, q, hq, by simp, hb⟩)
    have hno : ∀ b, obOwns (pl k) (.rows nw fl z es (some (i, st.heap.length))) b → 0 < q.cap ∧ q.blk = b → False := fun b hb ⟨c1, c2⟩ => by
      rcases hb with ⟨d1, d2⟩ | ⟨i', q', d1, d2, d3, d4⟩
      · exact hR.apart0 i q hq (by simp) c1 d1 (c2.trans d2.symm)
      · exact hR.apart i i' q q' hq d1 (fun e => d2 (by simp [e])) (by simp) (by simp) c1 d3 (c2.trans d4.symm)
    obtain ⟨hN, hmk⟩ := hC.regroup hF (w' := w) rfl rfl rfl (Nat.le_refl _) (pl' := plAt pl st.heap.length ⟨q, []⟩) (heap' := heap') (by omega) (fun j hj => Pl.base_eq (p1 j hj))
      (fun j b hj => by
        rcases hl j b hj with ⟨_, _, h⟩ | ⟨_, h⟩ | ⟨_, h⟩
        · exact .inl ⟨j, h⟩
        · exact .inl ⟨k, hsub b h⟩
        · exact .inl ⟨k, hq0 b h⟩) (fun _ _ _ => rfl)
    refine hmk (fun j j' b h1 h2 => ?_) (fun j b hn hj => ?_) (fun j ob hj => ?_)
    · rcases hl j b h1 with ⟨a0, a1, a2⟩ | ⟨a1, a2⟩ | ⟨a1, a2⟩ <;> rcases hl j' b h2 with ⟨b0, b1, b2⟩ | ⟨b1, b2⟩ | ⟨b1, b2⟩
      · exact hC.disj j j' b a2 b2
      · exact absurd (hC.disj j k b a2 (hsub b b2)) a1
      · exact absurd (hC.disj j k b a2 (hq0 b b2)) a1
      · exact absurd (hC.disj j' k b b2 (hsub b a2)) b1
      · omega
      · exact (hno b a2 b2).elim
      · exact absurd (hC.disj j' k b b2 (hq0 b a2)) b1
      · exact (hno b b2 a2).elim
      · omega
    · rcases hl j b hj with ⟨a0, a1, a2⟩ | ⟨a1, a2⟩ | ⟨a1, a2⟩
      · refine hC.newb j b ?_ a2
        unfold isnew at hn ⊢
        rwa [g0 j a0 a1] at hn
      · subst a1
        rw [isnew_rows g1] at hn
        exact hC.newb j b ((isnew_rows hk).2 hn) (hsub b a2)
      · subst a1
        unfold isnew at hn
        rw [g2] at hn
        exact hC.newb k b ((isnew_rows hk).2 hn) (hq0 b a2)
    · have hjl := g3 j ob hj
      by_cases hjk : j = k
      · subst hjk
        right
        rw [g1] at hj; cases hj
        show RowsRel _ _ _ _ _ (plAt pl st.heap.length ⟨q, []⟩ j) _ _ _ _
        rw [p1 j hkl]
        refine { sz := hR.sz, cap := hR.cap, len := hR.len, inn := hR.inn, zpos := hR.zpos, mem := hR.mem, row := fun i' e q' he hq' _ => ?_, out := fun i' k2 hh => ?_, apart := fun i1 i2 p1 p2 h1 h2 hne _ _ => hR.apart i1 i2 p1 p2 h1 h2 hne (by simp) (by simp), apart0 := fun i1 p1 h1 _ => hR.apart0 i1 p1 h1 (by simp) }
        · exact (hR.row i' e q' he hq' (by simp)).mono (flagS_mono hN.S hN.Fr _) (fun _ _ => rfl) (fun _ => rfl)
        · cases hh
          exact ⟨by omega, hi, by rw [p2]; exact hq⟩
      · by_cases hjL : j = st.heap.length
        · subst hjL
          right
          rw [g2] at hj; cases hj
          show RowRel _ _ (plAt pl st.heap.length ⟨q, []⟩ st.heap.length).toPl0 _ _
          rw [p2]
          exact hrow.mono (flagS_mono hN.S hN.Fr _) (fun _ _ => rfl) (fun _ => rfl)
        · rw [g0 j (by omega) hjk] at hj
          exact .inl ⟨hj, p1 j (by omega), fun _ _ => rfl⟩
  · refine .osl (by omega) (fun hc => ?_) (by rw [p2]; exact Nat.zero_add _) n5 (by rw [p2]; exact n4)
    rw [p2] at hc ⊢
    rw [n2 hc]; simp
theorem mergeW_sound (hC : ConcP N m F A w0 st pl a w) (hF : ∀ b, F b → b < w0.heap.size) {k : Nat} {K : List OB → Prop} (h : mergeW st.heap k K) : ∃ h', K h' ∧ h'.length = st.heap.length ∧ ConcP N m F A w0 ⟨st.env, h'⟩ pl a w := by
  unfold mergeW at h
  split at h
  case h_1 nw fl z es i k2 hk =>
    split at h
    case h_2 => exact h.elim
    rename_i nw2 fl2 z2 es2 hk2
    obtain ⟨rfl, hnw, hle, es', rfl, hK⟩ := h
    exact ⟨_, hK, by simp, hC.merge hF hk hk2 hnw (hle rfl)⟩
  case h_2 => exact ⟨_, h, rfl, hC⟩
theorem unholeW_sound {e : Nat → AV} (hF : ∀ b, F b → b < w0.heap.size) : ∀ {n : Nat} {h : List OB} {K : List OB → Prop}, unholeW n h K → ConcP N m F A w0 ⟨e, h⟩ pl a w → ∃ h', K h' ∧ h'.length = h.length ∧ ConcP N m F A w0 ⟨e, h'⟩ pl a w
  | 0, h, K, hk, hC => ⟨h, hk, rfl, hC⟩
  | n + 1, h, K, hk, hC => by
    unfold unholeW at hk
    split at hk
    · exact ⟨h, hk, rfl, hC⟩
    · obtain ⟨h1, hk1, hl1, hC1⟩ := mergeW_sound hC hF hk
      obtain ⟨h2, hk2, hl2, hC2⟩ := unholeW_sound hF hk1 hC1
      exact ⟨h2, hk2, hl2.trans hl1, hC2⟩
theorem hop_loadR (hC : ConcP N m F A w0 st pl a w) (hF : ∀ b, F b → b < w0.heap.size) {zs : TypeId → List PV} {o : Oper} {K : AV → List OB → Prop} (h : loadRW P zs st o K) : ∃ v h', K v h' ∧ HopOk P N m F A w0 st pl a w o v h' := by
  have pure : (opW P zs st true o fun v => K v st.heap) → ∃ v h', K v h' ∧ HopOk P N m F A w0 st pl a w o v h' := by
    intro h
    obtain ⟨v, hK, hv⟩ := opW_sound hC.seen h
    obtain ⟨u, hrel, hrun⟩ := hv rfl
    exact ⟨v, _, hK, _, w, pl, hrun w (.inr fun _ _ => rfl), fun _ _ _ => rfl, Nat.le_refl _, hC, .inr ⟨u, rfl, hrel⟩⟩
  unfold loadRW at h
  split at h
  case h_2 => exact h.elim
  rename_i t x ho
  obtain ⟨va, h, hra⟩ := withV_sound hC.seen h
  split at h
  case h_2 => exact pure h
  rename_i k i j
  split at h
  case h_2 => exact pure h
  rename_i nw0 fl0 z0 es0 ho0 hk0
  split at h
  case h_2 => exact h.elim
  rename_i e ht
  obtain ⟨rfl, h⟩ := h
  obtain ⟨h1, h, hl1, hC1⟩ := mergeW_sound hC hF h
  split at h
  case h_2 => exact h.elim
  rename_i nw fl z es hk
  obtain ⟨hi, e', rfl, n, rfl, hK⟩ := h
  have hi := hi rfl
  obtain ⟨q, Ad, hcell, hC2, hrel⟩ := hC1.split hF hk hi
  have hR : RowsRel pl h1.length _ _ w (pl k) fl z es none := hC1.heap k _ hk
  have hx : a.eval x = .pointer (some ⟨(pl k).blk, (pl k).off + i, none⟩) := by
    have := hra rfl
    generalize a.eval x = u at this ⊢
    cases this with
    | orow hkL => rw [hR.sz]; simp
  have hag : aggT (.slice e) = false := rfl
  have hrun : (execOp a.eval o).run P w = .ok (.value (.slice Ad (es.getD i []).length q.cap)) w := by
    have := run_loadVar_one (P := P) ht hag ⟨(pl k).blk, (pl k).off + i, none⟩ _ w hcell
    simp only [execOp, ho, hx, Instr.loadAt, Instr.sureAddr, Sem.run_bind, Sem.run_pure, Result.andThen_ok, this]
  refine ⟨_, _, hK, _, w, _, hrun, fun k' hk' _ => plAt_lt (by show k' < h1.length; omega), by simp; omega, hC2, .inr ⟨_, rfl, ?_⟩⟩
  have := hrel (Sany A w0.heap.size (plAt pl h1.length ⟨q, []⟩) (h1.set k (.rows nw fl z es (some (i, h1.length))) ++ [.row nw fl z (es.getD i [])]) w) (Fresh w0.heap.size (plAt pl h1.length ⟨q, []⟩) (h1.set k (.rows nw fl z es (some (i, h1.length))) ++ [.row nw fl z (es.getD i [])]) w)
  simpa using this
end
end Go.Av
namespace Go.Av
open Go.RowKit
section
variable {N m : Nat} {F A : Nat → Prop} {w0 : World} {st : St} {pl : Nat → Pl} {a : Act} {w : World} {P : Program} [Kn P]
theorem World.size_alloc' (w : World) (o : Obj) : (w.alloc o).heap.size = w.heap.size + 1 := by simp
theorem rows_src (hC : ConcP N m F A w0 st pl a w) {k : Nat} {nw : Bool} {fl : Fl} {z : List PV} {es : List (List (List PV))} (hk : st.heap[k]? = some (.rows nw fl z es none)) {u : Value} {S Fr S0 : Nat → Prop}
    (hu : RelA pl st.heap.length S Fr w (.osl k 0 es.length) u) : ∃ news : List Value, news.length = es.length ∧ Src S0 w 1 (es.map fun _ => [PV.junk]) u news ∧ (∃ Ad, u = .slice Ad es.length (pl k).cap ∧ (0 < (pl k).cap → Ad = some ⟨(pl k).blk, (pl k).off, none⟩)) ∧
      ∀ (i : Nat) (e : List (List PV)) (q : Pl0), es[i]? = some e → (pl k).inn[i]? = some q → ∃ Ad, news[i]? = some (.slice Ad e.length q.cap) ∧ (0 < q.cap → Ad = some ⟨q.blk, q.off, none⟩) := by
  have hR : RowsRel pl st.heap.length (Sany A w0.heap.size pl st.heap w) (Fresh w0.heap.size pl st.heap w) w (pl k) fl z es none := hC.heap k _ hk
  cases hu with
  | @osl _ _ _ C Ad hkL hA hCc hn hM =>
    have hC' : C = (pl k).cap := by omega
    subst hC'
    have hA0 : 0 < (pl k).cap → Ad = some ⟨(pl k).blk, (pl k).off, none⟩ := fun h => by rw [hA h]; simp
    by_cases hc : 0 < (pl k).cap
    · obtain ⟨ty, arr, m1, m2, m3⟩ := hR.mem hc
      have hlen := hR.len
      have hcell : ∀ (i : Nat), i < es.length → ∃ q, (pl k).inn[i]? = some q ∧ ∃ Ad, arr[(pl k).off + i]? = some (.slice Ad (es.getD i []).length q.cap) ∧ (0 < q.cap → Ad = some ⟨q.blk, q.off, none⟩) := by
        intro i hi
        have hlt : i < (pl k).inn.length := by rw [hR.inn]; exact hi
        obtain ⟨Ad, n1, n2, _⟩ := m3 i _ _ (getD_some hi) (List.getElem?_eq_getElem hlt)
        exact ⟨_, List.getElem?_eq_getElem hlt, Ad, n1, n2⟩
      have hsrc := Src.mk' (w := w) (S := S0) (zl := 1) (es := es.map fun _ => [PV.junk]) (A := Ad) (c := (pl k).cap) (fun j => arr.getD ((pl k).off + j) undef) (fun h0 => ⟨_, hA0 hc, fun j hj => by
          rw [Addr.add_lit, cell_of_row w _ _ arr ty (0, 0) m1]
          have hj : j < es.length := by simpa using hj
          obtain ⟨q, _, Ad', h1, _⟩ := hcell j hj
          rw [Array.getD_eq_getD_getElem?, h1]; rfl⟩) (fun i e he => by
          rw [List.getElem?_map] at he
          cases h0 : es[i]? with
          | none => rw [h0] at he; cases he
          | some e0 => rw [h0] at he; cases he; rfl) (fun i j e p he hp => by
          rw [List.getElem?_map] at he
          cases h0 : es[i]? with
          | none => rw [h0] at he; cases he
          | some e0 =>
            rw [h0] at he
            have he : e = [PV.junk] := (Option.some.inj he).symm
            subst he
            have hj : j = 0 := by have := (List.getElem?_eq_some_iff.1 hp).1; simpa using this
            subst hj
            have hp : p = PV.junk := (Option.some.inj hp).symm
            subst hp
            obtain ⟨q, _, Ad', h1, _⟩ := hcell i (List.getElem?_eq_some_iff.1 h0).1
            have e1 : (pl k).off + (i * 1 + 0) = (pl k).off + i := by omega
            rw [Array.getD_eq_getD_getElem?, e1, h1]
            exact ⟨rfl, .junk rfl⟩)
      rw [show (es.map fun _ => [PV.junk]).length = es.length from List.length_map _] at hsrc
      refine ⟨(List.range (es.length * 1)).map fun j => arr.getD ((pl k).off + j) undef, by simp, hsrc, ⟨Ad, rfl, hA0⟩, fun i e q he hq => ?_⟩
      have hi := (List.getElem?_eq_some_iff.1 he).1
      obtain ⟨q', hq', Ad', h1, h2⟩ := hcell i hi
      rw [hq] at hq'; cases hq'
      refine ⟨Ad', ?_, h2⟩
      rw [List.getElem?_map, List.getElem?_range (by simpa using hi)]
      have e0 : es.getD i [] = e := by simp [List.getD_eq_getElem?_getD, he]
      rw [e0] at h1
      simp only [Option.map_some]
      rw [Array.getD_eq_getD_getElem?, h1]; rfl
    · have he0 : es = [] := List.eq_nil_of_length_eq_zero (by have := hR.len; omega)
      subst he0
      refine ⟨[], rfl, ⟨⟨Ad, (pl k).cap, rfl, fun h0 => absurd h0 (by simp)⟩, rfl, fun i e he => by simp at he, fun x hx => by simp at hx, fun i j e p he => by simp at he⟩, ⟨Ad, rfl, hA0⟩, fun i e q he => by simp at he⟩
set_option maxHeartbeats 1000000 in
theorem hop_appendRows (hC : ConcP N m F A w0 st pl a w) (hF : ∀ b, F b → b < w0.heap.size) {o : Oper} {t e : TypeId} {d s : Operand} (ho : o.op = .call { callee := .builtin .append, args := #[d, s], argTypes := #[t, t] }) (ht : P.underlying t = some (.slice e)) (h1 : P.cellsOf e = 1) (hzo : zeroOk P e = true)
    {k k' : Nat} {nw nw' : Bool} {fl fl' : Fl} {z : List PV} {es es' : List (List (List PV))} (hk : st.heap[k]? = some (.rows nw fl z es none)) (hk' : st.heap[k']? = some (.rows nw' fl' z es' none)) (hne : k ≠ k')
    (hd : RelA pl st.heap.length (Sany A w0.heap.size pl st.heap w) (Fresh w0.heap.size pl st.heap w) w (.osl k 0 es.length) (a.eval d)) (hs : RelA pl st.heap.length (Sany A w0.heap.size pl st.heap w) (Fresh w0.heap.size pl st.heap w) w (.osl k' 0 es'.length) (a.eval s))
    (hb : (es.length + es'.length) * P.bytesOf e ≤ 140737488355328) (h63 : es.length + es'.length ≤ 9223372036854775807) :
    HopOk P N m F A w0 st pl a w o (.osl st.heap.length 0 (es.length + es'.length)) ((st.heap.set k .dead).set k' .dead ++ [.rows (nw && nw') (Fl.join fl fl') z (es ++ es') none]) := by
  have hR : RowsRel pl st.heap.length (Sany A w0.heap.size pl st.heap w) (Fresh w0.heap.size pl st.heap w) w (pl k) fl z es none := hC.heap k _ hk
  have hR' : RowsRel pl st.heap.length (Sany A w0.heap.size pl st.heap w) (Fresh w0.heap.size pl st.heap w) w (pl k') fl' z es' none := hC.heap k' _ hk'
  have hFS : ∀ b, Fresh w0.heap.size pl st.heap w b → Sany A w0.heap.size pl st.heap w b := fun b hb => ⟨hb.2, .inr hb.1⟩
  have hkl := (List.getElem?_eq_some_iff.1 hk).1
  have hkl' := (List.getElem?_eq_some_iff.1 hk').1
  have hexec : ∀ {v : Value} {w' : World}, (Builtin.append_ #[t, t] o.type #[a.eval d, a.eval s]).run P w = .ok v w' → (execOp a.eval o).run P w = .ok (.value v) w' := by
    intro v w' hr
    simp only [execOp, ho, resolve, invoke, builtin, Sem.run_bind, Sem.run_pure, Result.andThen_ok, List.map_toArray, List.map_cons, List.map_nil, hr]
  have hK : Killed st.heap ((st.heap.set k .dead).set k' .dead) := ((Killed.refl _).set k).set k'
  have hkd : ((st.heap.set k .dead).set k' .dead)[k]? = some .dead := by rw [List.getElem?_set_ne (Ne.symm hne), List.getElem?_set_self hkl]
  have hkd' : ((st.heap.set k .dead).set k' .dead)[k']? = some .dead := List.getElem?_set_self (by simpa using hkl')
  generalize (st.heap.set k OB.dead).set k' OB.dead = hh at hK hkd hkd' ⊢
  obtain ⟨olds, lo1, lo2, ⟨Ad, ed, hAd⟩, lo4⟩ := rows_src hC (S0 := fun _ => True) hk hd
  obtain ⟨news, ln1, ln2, ⟨As, es0, hAs⟩, ln4⟩ := rows_src hC (S0 := fun _ => True) hk' hs
  have hnewt : nw' = true → isnew m st.heap k' := by rw [isnew_rows hk']; exact id
  have hlin : ((pl k).inn ++ (pl k').inn).length = es.length + es'.length := by rw [List.length_append, hR.inn, hR'.inn]
  -- what the new one owns, but for its own block
  have hown : ∀ (p0 : Pl0) b, obOwns ⟨p0, (pl k).inn ++ (pl k').inn⟩ (.rows (nw && nw') (Fl.join fl fl') z (es ++ es') none) b → (0 < p0.cap ∧ p0.blk = b) ∨ ((∃ (i : Nat) (q : Pl0), (pl k).inn[i]? = some q ∧ 0 < q.cap ∧ q.blk = b) ∧ owns pl st.heap k b) ∨ ((∃ (i : Nat) (q : Pl0), (pl k').inn[i]? = some q ∧ 0 < q.cap ∧ q.blk = b) ∧ owns pl st.heap k' b) := by
    intro p0 b hb
    rcases hb with hb | ⟨i, q, g1, _, g2, g3⟩
    · exact .inl hb
    · have g1 : ((pl k).inn ++ (pl k').inn)[i]? = some q := g1
      rcases Nat.lt_or_ge i (pl k).inn.length with hi | hi
      · rw [List.getElem?_append_left hi] at g1
        exact .inr (.inl ⟨⟨i, q, g1, g2, g3⟩, owns_of hk (.inr ⟨i, q, g1, by simp, g2, g3⟩)⟩)
      · rw [List.getElem?_append_right hi] at g1
        exact .inr (.inr ⟨⟨_, q, g1, g2, g3⟩, owns_of hk' (.inr ⟨_, q, g1, by simp, g2, g3⟩)⟩)
  -- the new rows
  have mk : ∀ (p0 : Pl0) (S' Fr' : Nat → Prop) (w' : World) (pl2 : Nat → Pl) (L2 : Nat), p0.sz = 1 → p0.cap ≤ maxLen → es.length + es'.length ≤ p0.cap →
      (0 < p0.cap → ∃ ty arr, w'.heap[p0.blk]? = some (.cells arr ty (0, 0)) ∧ p0.off + p0.cap ≤ arr.size ∧ (∀ i, i < es.length → arr[p0.off + i]? = olds[i]?) ∧ (∀ i, i < es'.length → arr[p0.off + es.length + i]? = news[i]?)) →
      (∀ b, Sany A w0.heap.size pl st.heap w b → S' b) → (∀ b, Fresh w0.heap.size pl st.heap w b → Fr' b) → (∀ b, Sany A w0.heap.size pl st.heap w b → w'.heap[b]? = w.heap[b]?) → (∀ b, Fresh w0.heap.size pl st.heap w b → w'.heap[b]? = w.heap[b]?) →
      (∀ b, b < w.heap.size → (∃ (i : Nat) (q : Pl0), ((pl k).inn[i]? = some q ∨ (pl k').inn[i]? = some q) ∧ 0 < q.cap ∧ q.blk = b) → w'.heap[b]? = w.heap[b]? ∧ (0 < p0.cap → b ≠ p0.blk)) →
      RowsRel pl2 L2 S' Fr' w' ⟨p0, (pl k).inn ++ (pl k').inn⟩ (Fl.join fl fl') z (es ++ es') none := by
    intro p0 S' Fr' w' pl2 L2 q1 q2 q3 q4 q5 q6 q7 q8 q9
    have sp : ∀ {α : Type} {l1 l2 : List α} {i : Nat} {x : α} {n : Nat}, l1.length = n → (l1 ++ l2)[i]? = some x → (i < n ∧ l1[i]? = some x) ∨ (n ≤ i ∧ l2[i - n]? = some x) := by
      intro α l1 l2 i x n hn hx
      subst hn
      rcases Nat.lt_or_ge i l1.length with hi | hi
      · left; rw [List.getElem?_append_left hi] at hx; exact ⟨hi, hx⟩
      · right; rw [List.getElem?_append_right hi] at hx; exact ⟨hi, hx⟩
    have lt1 : ∀ (i : Nat) (q : Pl0), (pl k).inn[i]? = some q → 0 < q.cap → q.blk < w.heap.size := fun i q g1 g2 => hC.ownlt k _ (owns_of hk (.inr ⟨i, q, g1, by simp, g2, rfl⟩))
    have lt2 : ∀ (i : Nat) (q : Pl0), (pl k').inn[i]? = some q → 0 < q.cap → q.blk < w.heap.size := fun i q g1 g2 => hC.ownlt k' _ (owns_of hk' (.inr ⟨i, q, g1, by simp, g2, rfl⟩))
    have cross : ∀ (i j : Nat) (q q' : Pl0), (pl k).inn[i]? = some q → (pl k').inn[j]? = some q' → 0 < q.cap → 0 < q'.cap → q.blk ≠ q'.blk := fun i j q q' g1 g2 g3 g4 e0 =>
      hne (hC.disj k k' _ (owns_of hk (.inr ⟨i, q, g1, by simp, g3, rfl⟩)) (owns_of hk' (.inr ⟨j, q', g2, by simp, g4, e0.symm⟩)))
    refine { sz := q1, cap := q2, len := by rw [List.length_append]; exact q3, inn := by rw [hlin, List.length_append], zpos := hR.zpos, mem := fun hc => ?_, row := fun i e1 q he hq _ => ?_, out := fun _ _ hh => (by cases hh), apart := fun i j q q' hq hq' hij _ _ c1 c2 => ?_, apart0 := fun i q hq _ c1 c2 => ?_ }
    · obtain ⟨ty, arr, r1, r2, r3, r4⟩ := q4 hc
      refine ⟨ty, arr, r1, r2, fun i e1 q he hq => ?_⟩
      rcases sp rfl he with ⟨g1, g2⟩ | ⟨g1, g2⟩ <;> rcases sp hR.inn hq with ⟨g3, g4⟩ | ⟨g3, g4⟩
      · obtain ⟨A1, x1, x2⟩ := lo4 i e1 q g2 g4
        obtain ⟨y1, y2, y3, y4, y5, y6⟩ := hR.row i e1 q g2 g4 (by simp)
        exact ⟨A1, by rw [← x1]; exact r3 i g1, x2, y1, y3, y4⟩
      · omega
      · omega
      · obtain ⟨A1, x1, x2⟩ := ln4 _ e1 q g2 g4
        obtain ⟨y1, y2, y3, y4, y5, y6⟩ := hR'.row _ e1 q g2 g4 (by simp)
        refine ⟨A1, ?_, x2, y1, y3, y4⟩
        rw [← x1]
        have hi2 := (List.getElem?_eq_some_iff.1 g2).1
        have := r4 (i - es.length) hi2
        have e1 : p0.off + es.length + (i - es.length) = p0.off + i := by omega
        rw [e1] at this
        exact this
    · rcases sp rfl he with ⟨g1, g2⟩ | ⟨g1, g2⟩ <;> rcases sp hR.inn hq with ⟨g3, g4⟩ | ⟨g3, g4⟩
      · exact ((hR.row i e1 q g2 g4 (by simp)).mono (flag_join_left hFS fl fl') (fun _ _ => rfl) (fun _ => rfl)).mono (flagS_mono q5 q6 _) (flagS_same q7 q8 _) fun hc => (q9 _ (lt1 i q g4 hc) ⟨i, q, .inl g4, hc, rfl⟩).1
      · omega
      · omega
      · exact ((hR'.row _ e1 q g2 g4 (by simp)).mono (flag_join_right hFS fl fl') (fun _ _ => rfl) (fun _ => rfl)).mono (flagS_mono q5 q6 _) (flagS_same q7 q8 _) fun hc => (q9 _ (lt2 _ q g4 hc) ⟨_, q, .inr g4, hc, rfl⟩).1
    · have hq : ((pl k).inn ++ (pl k').inn)[i]? = some q := hq
      have hq' : ((pl k).inn ++ (pl k').inn)[j]? = some q' := hq'
      rcases sp hR.inn hq with ⟨g1, g2⟩ | ⟨g1, g2⟩ <;> rcases sp hR.inn hq' with ⟨g3, g4⟩ | ⟨g3, g4⟩
      · exact hR.apart i j q q' g2 g4 hij (by simp) (by simp) c1 c2
      · exact cross _ _ q q' g2 g4 c1 c2
      · exact Ne.symm (cross _ _ q' q g4 g2 c2 c1)
      · exact hR'.apart _ _ q q' g2 g4 (by omega) (by simp) (by simp) c1 c2
    · have hq : ((pl k).inn ++ (pl k').inn)[i]? = some q := hq
      rcases sp hR.inn hq with ⟨g1, g2⟩ | ⟨g1, g2⟩
      · exact (q9 _ (lt1 _ q g2 c1) ⟨_, q, .inl g2, c1, rfl⟩).2 c2
      · exact (q9 _ (lt2 _ q g2 c1) ⟨_, q, .inr g2, c1, rfl⟩).2 c2
  have hres : ∀ (p0 : Pl0) (C : Nat) (Ar : Option Addr) (L : Nat) (S' Fr' : Nat → Prop) (w' : World), p0.cap = C → es.length + es'.length ≤ C → C ≤ maxLen → (0 < C → Ar = some ⟨p0.blk, p0.off, none⟩) → st.heap.length < L →
      RelA (plAt pl st.heap.length ⟨p0, (pl k).inn ++ (pl k').inn⟩) L S' Fr' w' (.osl st.heap.length 0 (es.length + es'.length)) (.slice Ar (es.length + es'.length) C) := by
    intro p0 C Ar L S' Fr' w' q1 q2 q3 q4 q5
    subst q1
    refine .osl q5 (fun hc => ?_) (by rw [plAt_eq]; exact Nat.zero_add _) q2 (by rw [plAt_eq]; exact q3)
    rw [plAt_eq] at hc ⊢
    rw [q4 hc]; simp
  have hcapM := hR.cap
  have hlenC := hR.len
  rw [ed] at hexec
  have ln2' : Src (fun _ => True) w (P.cellsOf e) (es'.map fun _ => [PV.junk]) (a.eval s) news := by rw [h1]; exact ln2
  by_cases hroom : es.length + es'.length ≤ (pl k).cap
  · by_cases hC0 : 0 < (pl k).cap
    · -- in place
      obtain ⟨ty, arr, q1, q2, q3⟩ := hR.mem hC0
      have hold : ∀ i, i < es.length → arr[(pl k).off + i]? = olds[i]? := by
        intro i hi
        have hlt : i < (pl k).inn.length := by rw [hR.inn]; exact hi
        obtain ⟨A1, x1, x2, _⟩ := q3 i _ _ (getD_some (d := []) hi) (List.getElem?_eq_getElem hlt)
        obtain ⟨A2, y1, y2⟩ := lo4 i _ _ (getD_some (d := []) hi) (List.getElem?_eq_getElem hlt)
        obtain ⟨A3, c3, hsh, hA3⟩ := lo2.shape
        rw [x1, y1]
        by_cases hqc : 0 < ((pl k).inn[i]).cap
        · rw [x2 hqc, y2 hqc]
        · -- the same cell
          have hz := lo2.shape
          obtain ⟨A4, c4, e4, h4⟩ := hz
          rw [ed] at e4
          injection e4 with e5 e6 e7
          obtain ⟨ad, h5, h6⟩ := h4 (by simp; omega)
          rw [← e5, hAd hC0] at h5
          injection h5 with h5
          subst h5
          have := h6 i _ y1
          rw [Addr.add_lit, cell_of_row w _ _ arr ty (0, 0) q1] at this
          rw [← x1]; rw [this]
      have hrun := run_append_in (P := P) (w := w) (t := t) (ty := o.type) ht (by omega) (o := (pl k).off) (C := (pl k).cap) (n := es.length) q1 ln2' (by simpa using hroom) (by rw [h1, ln1]; omega)
      rw [h1] at hrun
      simp only [List.length_map, Nat.mul_one] at hrun
      obtain ⟨s1, s2, s3, s4, s5⟩ := setRow_same w (pl k).blk (arr.toList.take ((pl k).off + es.length) ++ news ++ arr.toList.drop ((pl k).off + es.length + news.length)).toArray
      have hget : ∀ j, (arr.toList.take ((pl k).off + es.length) ++ news ++ arr.toList.drop ((pl k).off + es.length + news.length)).toArray[j]? = if (pl k).off + es.length ≤ j ∧ j < (pl k).off + es.length + news.length then news[j - ((pl k).off + es.length)]? else arr[j]? := by
        intro j
        rw [List.getElem?_toArray, splice_get (by rw [ln1]; simp; omega)]
        simp only [Array.getElem?_toList]
      generalize hW : w.setRow (pl k).blk (arr.toList.take ((pl k).off + es.length) ++ news ++ arr.toList.drop ((pl k).off + es.length + news.length)).toArray = w1 at *
      have hblk1 : w1.heap[(pl k).blk]? = some (.cells (arr.toList.take ((pl k).off + es.length) ++ news ++ arr.toList.drop ((pl k).off + es.length + news.length)).toArray ty (0, 0)) := by rw [← hW]; exact setRow_heap w _ arr _ ty (0, 0) q1
      have hasz : (arr.toList.take ((pl k).off + es.length) ++ news ++ arr.toList.drop ((pl k).off + es.length + news.length)).toArray.size = arr.size := by
        simp only [List.size_toArray, List.length_append, List.length_take, List.length_drop, Array.length_toList, ln1]; omega
      generalize (arr.toList.take ((pl k).off + es.length) ++ news ++ arr.toList.drop ((pl k).off + es.length + news.length)).toArray = arr1 at *
      obtain ⟨hN, hmk⟩ := hC.killPush hF hK s1 s2 s3 (Nat.le_of_eq s4.symm) ⟨(pl k).toPl0, (pl k).inn ++ (pl k').inn⟩ (.rows (nw && nw') (Fl.join fl fl') z (es ++ es') none) (by simp [kind]) (fun b hb => by
          left
          rcases hown _ b hb with g | ⟨_, g⟩ | ⟨_, g⟩
          · exact ⟨k, hkd, owns_of hk (.inl g), fun hn => (isnew_rows hk).2 (Bool.and_eq_true_iff.1 hn).1⟩
          · exact ⟨k, hkd, g, fun hn => (isnew_rows hk).2 (Bool.and_eq_true_iff.1 hn).1⟩
          · exact ⟨k', hkd', g, fun hn => hnewt (Bool.and_eq_true_iff.1 hn).2⟩) (fun b _ hn => s5 b fun e0 => hn k hkd (owns_of hk (.inl ⟨hC0, e0.symm⟩)))
      refine ⟨_, w1, _, hexec (by rw [hAd hC0]; exact hrun), fun k1 hk1 _ => plAt_lt hk1, by simp [hK.1], hmk ?_, .inr ⟨_, rfl, hres _ _ _ _ _ _ _ rfl hroom hcapM (fun _ => rfl) (by simp [hK.1])⟩⟩
      show RowsRel _ _ _ _ _ (plAt pl st.heap.length _ st.heap.length) _ _ _ _
      rw [plAt_eq]
      refine mk _ _ _ _ _ _ hR.sz hcapM hroom (fun _ => ⟨ty, arr1, hblk1, by rw [hasz]; exact q2, fun i hi => ?_, fun i hi => ?_⟩) hN.S hN.Fr (fun b hb => hN.same b hb.1) (fun b hb => hN.same b hb.2) (fun b hb ⟨i, q, g1, g2, g3⟩ => ?_)
      · rw [hget, if_neg (by omega)]; exact hold i hi
      · rw [hget, if_pos (by rw [ln1]; omega)]
        congr 1; omega
      · have hb' : b ≠ (pl k).blk := by
          rcases g1 with g1 | g1
          · rw [← g3]; exact hR.apart0 i q g1 (by simp) g2 hC0
          · intro e0
            exact hne (hC.disj k k' b (owns_of hk (.inl ⟨hC0, e0.symm⟩)) (owns_of hk' (.inr ⟨i, q, g1, by simp, g2, g3⟩)))
        exact ⟨s5 b hb', fun _ => hb'⟩
    · -- nothing there, nothing wanted
      have hc0 : (pl k).cap = 0 := by omega
      have he1 : es.length = 0 := by omega
      have he2 : es'.length = 0 := by omega
      have hrun := run_append_in0 (P := P) (w := w) (t := t) (ty := o.type) ht (by omega) ln2' (by simpa using he2) Ad
      obtain ⟨hN, hmk⟩ := hC.killPush hF hK (w' := w) rfl rfl rfl (Nat.le_refl _) ⟨⟨0, 0, 0, 1⟩, (pl k).inn ++ (pl k').inn⟩ (.rows (nw && nw') (Fl.join fl fl') z (es ++ es') none) (by simp [kind]) (fun b hb => by
          left
          rcases hown _ b hb with g | ⟨_, g⟩ | ⟨_, g⟩
          · exact absurd g.1 (Nat.lt_irrefl 0)
          · exact ⟨k, hkd, g, fun hn => (isnew_rows hk).2 (Bool.and_eq_true_iff.1 hn).1⟩
          · exact ⟨k', hkd', g, fun hn => hnewt (Bool.and_eq_true_iff.1 hn).2⟩) (fun b _ hn => rfl)
      refine ⟨.value (.slice Ad 0 0), w, _, hexec (by rw [he1, hc0]; exact hrun), fun k1 hk1 _ => plAt_lt hk1, by simp [hK.1], hmk ?_, .inr ⟨_, rfl, ?_⟩⟩
      · show RowsRel _ _ _ _ _ (plAt pl st.heap.length _ st.heap.length) _ _ _ _
        rw [plAt_eq]
        exact mk _ _ _ _ _ _ rfl (Nat.zero_le _) (by show _ ≤ 0; omega) (fun hc => absurd hc (Nat.lt_irrefl 0)) hN.S hN.Fr (fun b hb => hN.same b hb.1) (fun b hb => hN.same b hb.2) (fun b hb _ => ⟨rfl, fun hc => absurd hc (Nat.lt_irrefl 0)⟩)
      · have := hres ⟨0, 0, 0, 1⟩ 0 Ad (hh ++ [OB.rows (nw && nw') (Fl.join fl fl') z (es ++ es') none]).length (Sany A w0.heap.size (plAt pl st.heap.length ⟨⟨0, 0, 0, 1⟩, (pl k).inn ++ (pl k').inn⟩) (hh ++ [OB.rows (nw && nw') (Fl.join fl fl') z (es ++ es') none]) w) (Fresh w0.heap.size (plAt pl st.heap.length ⟨⟨0, 0, 0, 1⟩, (pl k).inn ++ (pl k').inn⟩) (hh ++ [OB.rows (nw && nw') (Fl.join fl fl') z (es ++ es') none]) w) w rfl (by omega) (Nat.zero_le _) (fun hc => absurd hc (Nat.lt_irrefl 0)) (by simp [hK.1])
        rw [he1, he2] at this ⊢
        exact this
  · -- a new block
    obtain ⟨i, zv, hi, hz1, hz2, hz3, hz4, hz5⟩ := zeroOk_spec hzo
    have hbi : i.bytes = P.bytesOf e := by simp [Program.bytesOf, hi]
    have hm0 : 0 < es'.length := by omega
    obtain ⟨A', c, hse, hA'⟩ := ln2.shape
    obtain ⟨ad, rfl, had⟩ := hA' (by simpa using hm0)
    have hfit : Builtin.nextslicecap (es.length + es'.length) (pl k).cap * i.bytes ≤ 281474976710656 := growslice_fits (by omega) (by rw [hbi]; exact hb)
    have hol : olds.length = es.length * i.size := by rw [lo1, hz5, h1, Nat.mul_one]
    have hrun : (Builtin.append_ #[t, t] o.type #[.slice Ad es.length (pl k).cap, a.eval s]).run P w = .ok (.slice (some ⟨w.heap.size, 0, none⟩) (es.length + es'.length) (grownCap w (es.length + es'.length) (pl k).cap e)) (w.drew.alloc (.cells (olds.toArray ++ news.toArray ++ Builtin.zeroCells zv.cells (grownCap w (es.length + es'.length) (pl k).cap e - (es.length + es'.length))) e)) := by
      rw [hse]
      simp only [List.length_map]
      have hnl : news.length = es'.length * i.size := by rw [ln1, hz5, h1, Nat.mul_one]
      cases Ad with
      | some b =>
        refine run_append_grow (P := P) w t o.type e i zv ht hi hz1 b es.length (pl k).cap olds hol (fun j v hv => ?_) ad es'.length c news hnl had (by omega) (by omega) hfit
        obtain ⟨A2, c2, e2, hA2⟩ := lo2.shape
        rw [ed] at e2
        rcases Nat.eq_zero_or_pos es.length with hn0 | hn0
        · rw [hn0] at hol
          have := List.eq_nil_of_length_eq_zero (by simpa using hol)
          subst this
          simp at hv
        · obtain ⟨ad2, e3, e4⟩ := hA2 (by simpa using hn0)
          injection e2 with e5 _ _
          rw [e3] at e5
          cases e5
          exact e4 j v hv
      | none =>
        have hc0 : (pl k).cap = 0 := by
          rcases Nat.eq_zero_or_pos (pl k).cap with h0 | h0
          · exact h0
          · have := hAd h0; cases this
        have hn0 : es.length = 0 := by omega
        have := List.eq_nil_of_length_eq_zero (l := olds) (by rw [lo1, hn0])
        subst this
        have hr := run_append_nil (P := P) w t o.type e i zv ht hi hz1 ad es'.length c news hnl had hm0 (by omega) (by
          have : es'.length * P.bytesOf e ≤ 140737488355328 := by rw [hn0] at hb; simpa using hb
          rw [hbi]; omega)
        rw [hn0, hc0]
        simpa using hr
    have hge := grownCap_ge w (es.length + es'.length) (pl k).cap e
    have hcm : grownCap w (es.length + es'.length) (pl k).cap e ≤ maxLen := grownCap_le_maxLen w (es.length + es'.length) (pl k).cap e (by simp only [maxLen]; exact h63)
    generalize grownCap w (es.length + es'.length) (pl k).cap e = G at *
    have hxt : Ext w (w.drew.alloc (.cells (olds.toArray ++ news.toArray ++ Builtin.zeroCells zv.cells (G - (es.length + es'.length))) e)) := Ext.trans (b := w.drew) ⟨rfl, rfl, rfl, Nat.le_refl _, fun _ _ => rfl⟩ (Ext.alloc _ _)
    have hnew : (w.drew.alloc (.cells (olds.toArray ++ news.toArray ++ Builtin.zeroCells zv.cells (G - (es.length + es'.length))) e)).heap[w.heap.size]? = some (.cells (olds.toArray ++ news.toArray ++ Builtin.zeroCells zv.cells (G - (es.length + es'.length))) e (0, 0)) := heap_new w.drew _
    have hsz : (w.drew.alloc (.cells (olds.toArray ++ news.toArray ++ Builtin.zeroCells zv.cells (G - (es.length + es'.length))) e)).heap.size = w.heap.size + 1 := World.size_alloc' w.drew _
    generalize hW : w.drew.alloc (.cells (olds.toArray ++ news.toArray ++ Builtin.zeroCells zv.cells (G - (es.length + es'.length))) e) = w1 at *
    obtain ⟨hN, hmk⟩ := hC.killPush hF hK hxt.os hxt.tape hxt.output hxt.size ⟨⟨w.heap.size, 0, G, 1⟩, (pl k).inn ++ (pl k').inn⟩ (.rows (nw && nw') (Fl.join fl fl') z (es ++ es') none) (by simp [kind]) (fun b hb => by
        rcases hown _ b hb with g | ⟨_, g⟩ | ⟨_, g⟩
        · right
          have : w.heap.size = b := g.2
          omega
        · exact .inl ⟨k, hkd, g, fun hn => (isnew_rows hk).2 (Bool.and_eq_true_iff.1 hn).1⟩
        · exact .inl ⟨k', hkd', g, fun hn => hnewt (Bool.and_eq_true_iff.1 hn).2⟩) (fun b hb _ => hxt.block b hb)
    refine ⟨_, w1, _, hexec hrun, fun k1 hk1 _ => plAt_lt hk1, by simp [hK.1], hmk ?_, .inr ⟨_, rfl, hres _ _ _ _ _ _ _ rfl hge hcm (fun _ => rfl) (by simp [hK.1])⟩⟩
    show RowsRel _ _ _ _ _ (plAt pl st.heap.length _ st.heap.length) _ _ _ _
    rw [plAt_eq]
    refine mk _ _ _ _ _ _ rfl hcm hge (fun _ => ⟨e, _, hnew, ?_, fun j hj => ?_, fun j hj => ?_⟩) hN.S hN.Fr (fun b hb => hN.same b hb.1) (fun b hb => hN.same b hb.2) (fun b hb _ => ⟨hxt.block b hb, fun _ => by show b ≠ w.heap.size; omega⟩)
    · show 0 + G ≤ _
      simp only [Array.size_append, List.size_toArray, size_zeroCells, hz4, lo1, ln1, h1, Nat.mul_one]
      omega
    · show (_ : Array Value)[0 + j]? = _
      rw [Nat.zero_add, Array.getElem?_append_left (by simp [lo1, ln1]; omega), Array.getElem?_append_left (by simp [lo1]; omega), List.getElem?_toArray]
    · show (_ : Array Value)[0 + es.length + j]? = _
      rw [Nat.zero_add, Array.getElem?_append_left (by simp [lo1, ln1]; omega), Array.getElem?_append_right (by simp [lo1]), List.getElem?_toArray, List.size_toArray, lo1]
      congr 1; omega
end
end Go.Av
namespace Go.Av
open Go.RowKit
inductive StrF (es : List (List PV)) (K : ByteArray → Prop) : Prop
  | mk (bs : List Int) (h : es = bs.map fun b => [.c (.int .u8 b)]) (hl : bs.length ≤ 9223372036854775807) (k : K (strOfNums bs))
def isCv (o : Oper) : Bool := match o.op with
  | .convert .. => true
  | _ => false
def cvRW (P : Program) [Kn P] (st : St) (o : Oper) (K : AV → List OB → Prop) : Prop := match o.op with
  | .convert src dst x => withV st true x fun a => (match P.underlying src with
    | some (.slice e) => P.underlying e = some (.int .u8) ∧ P.underlying dst = some .string ∧ srcW st.heap 0 1 a fun _ es => StrF es fun s => K (.p .flat (.c (.string s))) st.heap
    | _ => cvW P true src dst a fun v => K v st.heap)
  | _ => False
section
variable {N m : Nat} {F A : Nat → Prop} {w0 : World} {st : St} {pl : Nat → Pl} {a : Act} {w : World} {P : Program} [Kn P]
theorem run_cvBytes {S : Nat → Prop} {src dst e : TypeId} (hs : P.underlying src = some (.slice e)) (he : P.underlying e = some (.int .u8)) (hd : P.underlying dst = some .string) {bs : List Int} {u : Value} {news : List Value}
    (h : Src S w 1 (bs.map fun b => [.c (.int .u8 b)]) u news) : (convert src dst u).run P w = .ok (.string (strOfNums bs)) w := by
  have _k : Kn P := inferInstance
  obtain ⟨A', c, rfl, hA⟩ := h.shape
  have hn : news = bs.map (Value.int .u8) := by
    have hl : news.length = bs.length := by simpa using h.len
    refine List.ext_getElem (by simp [hl]) fun i h1 h2 => ?_
    have hi : i < bs.length := by omega
    obtain ⟨x, hx, _, hr⟩ := h.rel i 0 [.c (.int .u8 bs[i])] (.c (.int .u8 bs[i])) (by simp [hi]) rfl
    rw [Nat.mul_one, Nat.add_zero, List.getElem?_eq_getElem h1] at hx
    have hx := Option.some.inj hx
    rw [hx, List.getElem_map]
    cases hr with
    | c a b => rfl
  cases A' with
  | none =>
    have h0 : bs = [] := by
      cases bs with
      | nil => rfl
      | cons b r => obtain ⟨ad, h1, _⟩ := hA (by simp); cases h1
    subst h0
    rw [run_convert_bytes_nil w src e hs he _ _ dst hd]
    rfl
  | some ad =>
    rw [run_convert_bytes_string w src dst e _ _ _ hs he hd, run_bytesToString w ad _ c bs, foldl_push_bytes]
    · simp [strOfNums, ByteArray.empty, ByteArray.emptyWithCapacity]
      rfl
    · have := run_loadCells_list (P := P) w ad (bs.map (Value.int .u8)) (fun j v hj => by
        have hp : 0 < (bs.map fun b => [PV.c (.int .u8 b)]).length := by
          rcases Nat.eq_zero_or_pos (bs.map fun b => [PV.c (.int .u8 b)]).length with h0 | h0
          · have : bs = [] := by simpa using h0
            subst this; simp at hj
          · exact h0
        obtain ⟨ad', h1, h2⟩ := hA hp
        cases h1
        exact h2 j v (by rw [hn]; exact hj))
      simpa using this
theorem hop_cv (hC : ConcP N m F A w0 st pl a w) {o : Oper} {K : AV → List OB → Prop} (h : cvRW P st o K) : ∃ v h', K v h' ∧ HopOk P N m F A w0 st pl a w o v h' := by
  have keep : ∀ {v u}, RelA pl st.heap.length (Sany A w0.heap.size pl st.heap w) (Fresh w0.heap.size pl st.heap w) w v u → (execOp a.eval o).run P w = .ok (.value u) w → HopOk P N m F A w0 st pl a w o v st.heap :=
    fun hrel hrun => ⟨_, w, pl, hrun, fun _ _ _ => rfl, Nat.le_refl _, hC, .inr ⟨_, rfl, hrel⟩⟩
  unfold cvRW at h
  split at h
  case h_2 => exact h.elim
  rename_i src dst x ho
  obtain ⟨va, h, hra⟩ := withV_sound hC.seen h
  split at h
  case h_1 e hs =>
    obtain ⟨he, hd, h⟩ := h
    obtain ⟨fl, es, hK, hsrc⟩ := srcW_sound hC h
    obtain ⟨bs, rfl, hl, hk⟩ := hK
    obtain ⟨news, hN⟩ := hsrc _ (hra rfl)
    refine ⟨_, _, hk, keep (u := .string (strOfNums bs)) (.mkc ?_ rfl) ?_⟩
    · simp only [wfV, strOfNums_size, maxLen]; omega
    · simp [execOp, ho, run_cvBytes hs he hd hN]
  case h_2 =>
    obtain ⟨v, hK, hp⟩ := cvW_sound (pl := pl) (S := Sany A w0.heap.size pl st.heap w) (Fr := Fresh w0.heap.size pl st.heap w) (w := w) (L := st.heap.length) h
    obtain ⟨u, h1, h2⟩ := hp rfl _ (hra rfl)
    exact ⟨_, _, hK, keep h1 (by simp [execOp, ho, h2])⟩
end
end Go.Av
namespace Go.Av
open Go.RowKit
section
variable {N m : Nat} {F A : Nat → Prop} {w0 : World} {st : St} {pl : Nat → Pl} {a : Act} {w : World} {P : Program} [Kn P]
set_option maxHeartbeats 1000000 in
theorem hop_clear (hC : ConcP N m F A w0 st pl a w) {o : Oper} {t : TypeId} {d : Operand} {args : Array Operand} {ts : Array TypeId} (ho : o.op = .call { callee := .builtin .clear, args, argTypes := ts }) (hargs : args.toList = [d]) (hts : ts.toList = [t])
    {vd : AV} (hd : RelA pl st.heap.length (Sany A w0.heap.size pl st.heap w) (Fresh w0.heap.size pl st.heap w) w vd (a.eval d))
    {K : List OB → Prop} (h : clearW P st.heap t vd K) : ∃ h', K h' ∧ HopOk P N m F A w0 st pl a w o .junk h' := by
  have hargs' : args = #[d] := by apply Array.ext'; simpa using hargs
  have hts' : ts = #[t] := by apply Array.ext'; simpa using hts
  subst hargs' hts'
  have hexec : ∀ {v : Value} {w' : World}, (Builtin.clear_ #[t] o.type #[a.eval d]).run P w = .ok v w' → (execOp a.eval o).run P w = .ok (.value v) w' := by
    intro v w' hr
    simp only [execOp, ho, resolve, invoke, builtin, Sem.run_bind, Sem.run_pure, Result.andThen_ok, List.map_toArray, List.map_cons, List.map_nil, hr]
  unfold clearW at h
  split at h
  case h_2 => exact h.elim
  rename_i e ht
  split at h
  case h_2 => exact h.elim
  rename_i k lo n
  split at h
  case h_2 => exact h.elim
  rename_i nw fl z es hk
  obtain ⟨hz, hzo, hn, es2, rfl, hK⟩ := h
  have hn := hn rfl
  obtain ⟨g1, g2, g3, g4, g5, g6⟩ := hC.heap k _ hk
  have h0 : P.cellsOf e ≠ 0 := by omega
  refine ⟨_, hK, ?_⟩
  obtain ⟨i0, zv, hi0, hz1, hz2, hz3, hz4, hz5⟩ := zeroOk_spec hzo
  have hone : ∀ v ∈ (Builtin.zeroCells zv.cells n).toList, v.oneCell' = true := by
    intro v hv
    simp only [Builtin.zeroCells, Array.toList_map, List.mem_map] at hv
    obtain ⟨j, hj, rfl⟩ := hv
    have hlt : j % zv.cells.size < zv.cells.size := Nat.mod_lt _ (by omega)
    rw [getElem!_pos zv.cells _ hlt]
    exact (okC1_spec (hz3 _ (by simp))).2
  have hlz : (List.replicate n (zeroPV P e)).length = n := by simp
  have hzl : (zeroPV P e).length = z.length := by rw [hz2, hz]; simpa using hz4
  have hget : ∀ (i : Nat) (e' : List PV), (es.take lo ++ List.replicate n (zeroPV P e) ++ es.drop (lo + n))[i]? = some e' → (lo ≤ i ∧ i < lo + n ∧ (List.replicate n (zeroPV P e))[i - lo]? = some e') ∨ (¬(lo ≤ i ∧ i < lo + n) ∧ es[i]? = some e') := by
    intro i e' he
    have hsp := splice_get (l := es) (vs := List.replicate n (zeroPV P e)) (o := lo) (by rw [hlz]; omega) i
    rw [hlz] at hsp
    rw [hsp] at he
    by_cases hi : lo ≤ i ∧ i < lo + n
    · rw [if_pos hi] at he; exact .inl ⟨hi.1, hi.2, he⟩
    · rw [if_neg hi] at he; exact .inr ⟨hi, he⟩
  have hlen2 : (es.take lo ++ List.replicate n (zeroPV P e) ++ es.drop (lo + n)).length = es.length := by
    simp only [List.length_append, List.length_take, List.length_drop, hlz]; omega
  have helen : ∀ (i : Nat) (e' : List PV), (es.take lo ++ List.replicate n (zeroPV P e) ++ es.drop (lo + n))[i]? = some e' → e'.length = z.length := by
    intro i e' he
    rcases hget i e' he with ⟨_, _, h3⟩ | ⟨_, h3⟩
    · rw [(List.mem_replicate.1 (List.mem_of_getElem? h3)).2]; exact hzl
    · exact g5 _ _ h3
  cases hde : a.eval d with
  | slice Ad n' C =>
    rw [hde] at hd
    cases hd with
    | osl hkL hA hCc hn' hM =>
      by_cases hn0 : n = 0
      · subst hn0
        obtain ⟨hN, hmk⟩ := hC.write' hk (ob' := .row nw fl z (es.take lo ++ List.replicate 0 (zeroPV P e) ++ es.drop (lo + 0))) (w' := w) rfl rfl rfl rfl rfl rfl (fun _ _ => rfl)
        refine ⟨.value (.tuple #[]), w, pl, hexec ?_, fun _ _ _ => rfl, by simp, hmk ?_, .inr ⟨_, rfl, .junk⟩⟩
        · rw [hde]
          cases Ad <;> simp [Builtin.clear_, run_underlying ht]
        · have e0 : es.take lo ++ List.replicate 0 (zeroPV P e) ++ es.drop (lo + 0) = es := by simp
          rw [e0]
          refine ⟨g1, g2, g3, g4, g5, fun hcap => ?_⟩
          obtain ⟨ty, arr, q1, q2, q3⟩ := g6 hcap
          refine ⟨ty, arr, q1, q2, fun i j e p he hp => ?_⟩
          obtain ⟨x, r1, r2, r3⟩ := q3 i j e p he hp
          rw [e0] at hN
          exact ⟨x, r1, r2, hN.rel r3⟩
      · have hcap : 0 < (pl k).cap := by omega
        have hAd := hA (by omega)
        obtain ⟨ty, arr, q1, q2, q3⟩ := g6 hcap
        have hlive : obOwns (pl k) (.row nw fl z es) (pl k).blk := ⟨by omega, rfl⟩
        have hCz : lo * z.length + C * z.length = (pl k).cap * z.length := by rw [← Nat.add_mul, hCc]
        have hcC : n * z.length ≤ C * z.length := Nat.mul_le_mul_right _ (by omega)
        have hnl : (Builtin.zeroCells zv.cells n).toList.length = n * z.length := by rw [Array.length_toList, size_zeroCells, hz4, hz]
        have hfit : (pl k).off + lo * (pl k).sz + (Builtin.zeroCells zv.cells n).toList.length ≤ arr.size := by rw [hnl, g1]; omega
        have hst := run_storeCells_at P (pl k).blk ((pl k).off + lo * (pl k).sz) ty (Builtin.zeroCells zv.cells n).toList 0 arr w q1 (by simpa using hfit) hone
        simp only [Nat.add_zero] at hst
        obtain ⟨s1, s2, s3, s4, s5⟩ := setRow_same w (pl k).blk (arr.toList.take ((pl k).off + lo * (pl k).sz) ++ (Builtin.zeroCells zv.cells n).toList ++ arr.toList.drop ((pl k).off + lo * (pl k).sz + (Builtin.zeroCells zv.cells n).toList.length)).toArray
        obtain ⟨hN, hmk⟩ := hC.write hk (ob' := .row nw fl z (es.take lo ++ List.replicate n (zeroPV P e) ++ es.drop (lo + n))) rfl rfl hlive s1 s2 s3 s4 s5
        refine ⟨.value (.tuple #[]), _, pl, hexec ?_, fun _ _ _ => rfl, by simp, hmk ?_, .inr ⟨_, rfl, .junk⟩⟩
        · rw [hde, hAd]
          obtain ⟨n1, rfl⟩ : ∃ n1, n = n1 + 1 := ⟨n - 1, by omega⟩
          have hzv : ∀ w', (zeroValue e).run P w' = .ok zv w' := fun w' => by simp [zeroValue, typeInfo, hi0, hz1]
          simp [Builtin.clear_, run_underlying ht, hzv, hst]
        · refine ⟨g1, g2, g3, by rw [hlen2]; exact g4, helen, fun _ => ⟨ty, _, setRow_heap w _ arr _ ty (0, 0) q1, ?_, fun i j e' p he hp => ?_⟩⟩
          · simp only [List.size_toArray, List.length_append, List.length_take, List.length_drop, Array.length_toList]
            rw [g1] at hfit ⊢
            simp only [Array.length_toList] at hnl hfit
            omega
          · have hj : j < z.length := by rw [← helen i e' he]; exact (List.getElem?_eq_some_iff.1 hp).1
            have hgw : ∀ k', (arr.toList.take ((pl k).off + lo * (pl k).sz) ++ (Builtin.zeroCells zv.cells n).toList ++ arr.toList.drop ((pl k).off + lo * (pl k).sz + (Builtin.zeroCells zv.cells n).toList.length)).toArray[k']? = if (pl k).off + lo * z.length ≤ k' ∧ k' < (pl k).off + lo * z.length + n * z.length then (Builtin.zeroCells zv.cells n).toList[k' - ((pl k).off + lo * z.length)]? else arr[k']? := fun k' => by
              have hsp := splice_get (l := arr.toList) (vs := (Builtin.zeroCells zv.cells n).toList) (o := (pl k).off + lo * (pl k).sz) (by simpa using hfit) k'
              rw [List.getElem?_toArray, hsp, hnl, g1]
              simp only [Array.getElem?_toList]
            rw [hgw]
            rcases hget i e' he with ⟨h1, h2, h3⟩ | ⟨h1, h3⟩
            · obtain ⟨i1, z1, a1, a2, a3, a4, a5, hE⟩ := ElRel.made (S := flagS (Sany A w0.heap.size pl st.heap w) (Fresh w0.heap.size pl st.heap w) fl) (w := w) hzo n
              rw [hi0] at a1; cases a1
              rw [hz1] at a2; cases a2
              obtain ⟨x, r1, r2, r3⟩ := hE.rel _ _ _ _ h3 hp
              have hi4 : i * z.length = lo * z.length + (i - lo) * z.length := by rw [← Nat.add_mul]; congr 1; omega
              have hi5 : (i - lo + 1) * z.length ≤ n * z.length := Nat.mul_le_mul_right _ (by omega)
              rw [Nat.add_mul] at hi5
              refine ⟨x, ?_, r2, hN.rel r3⟩
              rw [if_pos (by omega)]
              have : (pl k).off + (i * z.length + j) - ((pl k).off + lo * z.length) = (i - lo) * (zeroPV P e).length + j := by rw [hzl]; omega
              rw [this, Array.getElem?_toList]
              have e5 : Builtin.zeroCells zv.cells n = madeCells zv.cells (n * P.cellsOf e) := by rw [← hz4]; rfl
              rw [e5]; exact r1
            · obtain ⟨x, r1, r2, r3⟩ := q3 _ _ _ _ h3 hp
              refine ⟨x, ?_, r2, hN.rel r3⟩
              rw [if_neg ?_]
              · exact r1
              · intro hcc
                rcases Nat.lt_or_ge i lo with hlt | hge
                · have : (i + 1) * z.length ≤ lo * z.length := Nat.mul_le_mul_right _ hlt
                  rw [Nat.add_mul] at this
                  omega
                · have : (lo + n) * z.length ≤ i * z.length := Nat.mul_le_mul_right _ (by omega)
                  rw [Nat.add_mul] at this
                  omega
  | _ => rw [hde] at hd; cases hd
end
end Go.Av
namespace Go.Av
open Go.RowKit
section
variable {N m : Nat} {F A : Nat → Prop} {w0 : World} {st : St} {pl : Nat → Pl} {a : Act} {w : World} {P : Program} [Kn P]
theorem hopW_sound (hC : ConcP N m F A w0 st pl a w) (hF : HF P F A w0) {o : Oper} {K : AV → List OB → Prop} (hop : isHop o = true) (h : hopW P m st o K) : ∃ v h', K v h' ∧ HopOk P N m F A w0 st pl a w o v h' := by
  unfold hopW at h
  split at h
  case h_1 t ho => exact ⟨_, _, h.2, hop_alloc hC hF ho h.1⟩
  case h_2 t x ho => exact hop_box hC hF ho h
  case h_3 t len parts ho =>
    split at h
    case h_2 => exact h.elim
    rename_i e ht
    rcases rowsTy_out h with h | ⟨e', he, h1, h2, h3, h4, h5, h6⟩
    · exact hop_buildSlice hC hF ho ht h.1 h.2.1 (Nat.le_of_ble_eq_true h.2.2.1) h.2.2.2
    · exact hop_buildRows hC hF ho ht h1 h2 h3 h4 (Nat.le_of_ble_eq_true h5) h6
  case h_4 t l c ho =>
    split at h
    case h_2 => exact h.elim
    rename_i e ht
    rcases rowsTy_out h with h | ⟨e', he, h1, h2, h3, h4, h5⟩
    · exact hop_makeSlice hC hF ho ht h
    · exact hop_makeRows hC hF ho ht h1 h2 h3 h4 h5
  case h_5 t x y ho => exact hop_store hC (fun ho hx hy h1 hk hm h => hop_storeRows hC hF ho hx hy h1 hk hm h) ho h
  case h_6 args ts ho =>
    split at h
    case h_2 => exact h.elim
    rename_i d s t t' hargs hts
    obtain ⟨rfl, h⟩ := h
    obtain ⟨vd, h1, hd⟩ := withV_sound hC.seen h
    obtain ⟨vs, h2, hs⟩ := withV_sound hC.seen h1
    refine hop_append hC hF ho hargs hts (hd rfl) (hs rfl) (fun ht h1 hz hk hk' hne hd hs hb h63 => hop_appendRows hC hF ?_ ht h1 hz hk hk' hne hd hs hb h63) h2
    rw [ho]
    have e1 : args = #[d, s] := by apply Array.ext'; simpa using hargs
    have e2 : ts = #[t', t'] := by apply Array.ext'; simpa using hts
    rw [e1, e2]
  case h_7 args ts ho =>
    split at h
    case h_2 => exact h.elim
    rename_i d s t t' hargs hts
    obtain ⟨vd, h1, hd⟩ := withV_sound hC.seen h
    obtain ⟨vs, h2, hs⟩ := withV_sound hC.seen h1
    exact hop_copy hC ho hargs hts (hd rfl) (hs rfl) h2
  case h_8 args ts ho =>
    split at h
    case h_2 => exact h.elim
    rename_i d t hargs hts
    obtain ⟨vd, h1, hd⟩ := withV_sound hC.seen h
    obtain ⟨h', h4, h5⟩ := hop_clear hC ho hargs hts (hd rfl) h1
    exact ⟨_, _, h4, h5⟩
  case h_9 x ho =>
    split at h
    case h_2 => exact h.elim
    rename_i e ht
    have hx : isNilC x = true := by simpa [isHop, ho] using hop
    rcases rowsTy_out h with h | ⟨e', he, h1, h2, h3, h4, h5⟩
    · exact ⟨_, _, h.2.2, hop_nil hC hF ho hx h.1 h.2.1⟩
    · exact ⟨_, _, h5, hop_nilRows hC hF ho hx h3 h4⟩
  case h_10 t r ho =>
    obtain ⟨rfl, h⟩ := h
    exact hop_makeMap hC hF ho h
  case h_11 t x k v ho =>
    obtain ⟨va, h1, ha⟩ := withV_sound hC.seen h
    obtain ⟨vb, h2, hb⟩ := withV_sound hC.seen h1
    obtain ⟨vc, h3, hc⟩ := withV_sound hC.seen h2
    obtain ⟨h', h4, h5⟩ := hop_update hC (.inl ho) (ha rfl) (hb rfl) (hc rfl) h3
    exact ⟨_, _, h4, h5⟩
  case h_12 t x k v ho =>
    obtain ⟨va, h1, ha⟩ := withV_sound hC.seen h
    obtain ⟨vb, h2, hb⟩ := withV_sound hC.seen h1
    obtain ⟨vc, h3, hc⟩ := withV_sound hC.seen h2
    obtain ⟨h', h4, h5⟩ := hop_update hC (.inr ho) (ha rfl) (hb rfl) (hc rfl) h3
    exact ⟨_, _, h4, h5⟩
  case h_13 => exact h.elim
def isCall : Op → Option Call
  | .call c => match c.callee with
    | .builtin _ => none
    | _ => some c
  | _ => none
theorem isCall_spec {op : Op} {c : Call} (h : isCall op = some c) : op = .call c := by
  unfold isCall at h
  split at h
  · split at h
    · cases h
    · cases h; rfl
  · cases h
theorem seqW_det {α β : Type} {f : α → (β → Prop) → Prop} (hf : ∀ (a : α) (K : β → Prop), f a K → ∃ b, K b ∧ ∀ K' : β → Prop, K' b → f a K') : ∀ {l : List α} {K : List β → Prop}, seqW f l K → ∃ bs, K bs ∧ ∀ K' : List β → Prop, K' bs → seqW f l K'
  | [], K, h => ⟨[], h, fun _ h => h⟩
  | a :: r, K, h => by
    obtain ⟨b, h1, h2⟩ := hf a _ h
    obtain ⟨bs, h3, h4⟩ := seqW_det hf h1
    exact ⟨b :: bs, h3, fun K' hk => h2 _ (h4 _ hk)⟩
theorem pvW_det {heap : List OB} {ids : List Nat} : ∀ (d : Nat) (a : AV) (K : PV → Prop), pvW heap ids d a K → ∃ p, K p ∧ ∀ K' : PV → Prop, K' p → pvW heap ids d a K'
  | 0, _, _, h => h.elim
  | d + 1, a, K, h => by
    cases a with
    | p fl v => exact ⟨v, h, fun _ h => h⟩
    | own k off =>
      simp only [pvW] at h ⊢
      obtain ⟨h1, h⟩ := h
      cases hk : heap[k]? with
      | none => rw [hk] at h; exact h.elim
      | some ob =>
        rw [hk] at h
        simp only [h1, true_and]
        cases ob with
        | fix cells =>
          obtain ⟨ps, h2, h3⟩ := seqW_det (pvW_det d) h
          exact ⟨_, h2, fun K' hk' => h3 (fun ps => K' (.ref (ps.drop off))) hk'⟩
        | _ => exact h.elim
    | orow k i j =>
      simp only [pvW] at h ⊢
      obtain ⟨h1, h⟩ := h
      cases hk : heap[k]? with
      | none => rw [hk] at h; exact h.elim
      | some ob =>
        rw [hk] at h
        simp only [h1, true_and]
        cases ob with
        | row nw fl z es =>
          obtain ⟨h2, e, h3, h4⟩ := h
          exact ⟨_, h4, fun K' hk' => ⟨h2, e, h3, hk'⟩⟩
        | _ => exact h.elim
    | osl k lo n =>
      simp only [pvW] at h ⊢
      obtain ⟨h1, h⟩ := h
      cases hk : heap[k]? with
      | none => rw [hk] at h; exact h.elim
      | some ob =>
        rw [hk] at h
        simp only [h1, true_and]
        cases ob with
        | row nw fl z es =>
          obtain ⟨h2, e, h3, h4⟩ := h
          exact ⟨_, h4, fun K' hk' => ⟨h2, e, h3, hk'⟩⟩
        | rows nw fl z es ho =>
          cases ho with
          | some q => exact h.elim
          | none =>
            obtain ⟨h2, e, h3, h4⟩ := h
            exact ⟨_, h4, fun K' hk' => ⟨h2, e, h3, hk'⟩⟩
        | _ => exact h.elim
    | afn f caps =>
      unfold pvW at h ⊢
      obtain ⟨ps, h2, h3⟩ := seqW_det (pvW_det d) h
      exact ⟨_, h2, fun K' hk' => h3 _ hk'⟩
    | aagg cells =>
      unfold pvW at h ⊢
      obtain ⟨ps, h2, h3⟩ := seqW_det (pvW_det d) h
      exact ⟨_, h2, fun K' hk' => h3 _ hk'⟩
    | amap k =>
      simp only [pvW] at h ⊢
      exact ⟨_, h.2, fun K' hk' => ⟨h.1, hk'⟩⟩
    | _ => unfold pvW at h; exact h.elim
theorem convW1_det {heap : List OB} {ids : List Nat} {lend : Bool} (a : AV) (K : AV → Prop) (h : convW1 heap ids lend a K) : ∃ v, K v ∧ ∀ K' : AV → Prop, K' v → convW1 heap ids lend a K' := by
  have hp : ∀ {a : AV} {K : AV → Prop}, (lend = true ∧ pvW heap ids 5 a fun p => K (.p .any p)) → ∃ v, K v ∧ ∀ K' : AV → Prop, K' v → (lend = true ∧ pvW heap ids 5 a fun p => K' (.p .any p)) := by
    intro a K ⟨h1, h2⟩
    obtain ⟨p, h3, h4⟩ := pvW_det _ _ _ h2
    exact ⟨_, h3, fun K' hk => ⟨h1, h4 _ hk⟩⟩
  cases a with
  | p fl v => cases v <;> exact ⟨_, h, fun _ h => h⟩
  | own k off =>
    simp only [convW1] at h ⊢
    cases hi : ids.idxOf? k with
    | none => rw [hi] at h; exact hp h
    | some i => rw [hi] at h; exact ⟨_, h, fun _ h => h⟩
  | orow k i j =>
    simp only [convW1] at h ⊢
    cases hi : ids.idxOf? k with
    | none => rw [hi] at h; exact hp h
    | some i => rw [hi] at h; exact ⟨_, h, fun _ h => h⟩
  | amap k =>
    simp only [convW1] at h ⊢
    cases hi : ids.idxOf? k with
    | none => rw [hi] at h; exact hp h
    | some i => rw [hi] at h; exact ⟨_, h, fun _ h => h⟩
  | osl k lo n =>
    simp only [convW1] at h ⊢
    cases hi : ids.idxOf? k with
    | none => rw [hi] at h; exact hp h
    | some i => rw [hi] at h; exact ⟨_, h, fun _ h => h⟩
  | afn f caps => exact hp h
  | aagg cells => exact hp h
  | junk => exact ⟨_, h, fun _ h => h⟩
  | _ => unfold convW1 at h; exact h.elim
theorem convW_det {heap : List OB} {ids : List Nat} {lend : Bool} (a : AV) (K : AV → Prop) (h : convW heap ids lend a K) : ∃ v, K v ∧ ∀ K' : AV → Prop, K' v → convW heap ids lend a K' := by
  unfold convW at h
  split at h
  · split at h
    · rename_i e
      obtain ⟨cs, h1, h2⟩ := seqW_det convW1_det h
      exact ⟨_, h1, fun K' hk => by unfold convW; simp only [e]; exact h2 _ hk⟩
    · rename_i e
      obtain ⟨v, h1, h2⟩ := convW1_det _ _ h
      exact ⟨v, h1, fun K' hk => by unfold convW; simp only [e]; exact h2 _ hk⟩
  · split at h
    · rename_i e
      obtain ⟨cs, h1, h2⟩ := seqW_det convW1_det h
      exact ⟨_, h1, fun K' hk => by unfold convW; simp only [e]; exact h2 _ hk⟩
    · rename_i e
      obtain ⟨v, h1, h2⟩ := convW1_det _ _ h
      exact ⟨v, h1, fun K' hk => by unfold convW; simp only [e]; exact h2 _ hk⟩
  · rename_i hn1 hn2
    obtain ⟨v, h1, h2⟩ := convW1_det _ _ h
    exact ⟨v, h1, fun K' hk => by
      unfold convW
      split
      · exact absurd rfl (hn1 _ _)
      · exact absurd rfl (hn2 _)
      · exact h2 _ hk⟩
inductive CallF (P : Program) [Kn P] (st : St) (f : FuncId) (vs : List AV) (K : AV → List OB → Prop) : Prop
  | mk (h : CallW P st f vs K)
inductive ArgQ (G : Bool) (P : Program) [Kn P] (f : FuncId) (args : List AV) (K : AV → Prop) : Prop
  | mk (rs : List AV) (v : AV) (u : Value) (h : G = true → FnSem P f args [] fun rs' _ => rs' = rs) (hr : retAV rs = v) (hv : exactV v = some u) (k : K v)
inductive CallG (G : Bool) (P : Program) [Kn P] (st : St) (f : FuncId) (vs : List AV) (K : AV → Prop) : Prop
  | mk (h : seqW (convW st.heap [] true) vs fun args => ArgQ G P f args K)
theorem CallG.out {G : Bool} {P : Program} [Kn P] {st : St} {f : FuncId} {vs : List AV} {K : AV → Prop} (h : CallG G P st f vs K) : ∃ v, (G = true → CallQ P st f vs v) ∧ K v := by
  obtain ⟨h⟩ := h
  obtain ⟨args, ⟨rs, v, u, h1, h2, h3, h4⟩, h5⟩ := seqW_det convW_det h
  exact ⟨v, fun hG => ⟨u, h3, h5 _ ((h1 hG).mono fun rs' ho hr => by rw [hr]; exact h2)⟩, h4⟩
def isLd (o : Oper) : Bool := match o.op with
  | .load .. => true
  | _ => false
def tyA : List Operand → List TypeId → List TypeId
  | [.const (.slice none 0 0), .tmp _], _ => []
  | _, ts => ts
def step0 (q : Bool) (P : Program) [Kn P] (zs : TypeId → List PV) (m : Nat) (st : St) (o : Oper) (K : AV → List OB → Prop) : Prop :=
  match isCall o.op with
  | some c => argsW P zs st true c.args.toList (tyA c.args.toList c.argTypes.toList) fun vs => calleeW st true c.callee vs fun f vs =>
      bif q then CallG true P st f vs fun v => K v st.heap
      else CallF P st f vs K
  | none => bif !q && isHop o then hopW P m st o K
      else bif !q && isLd o then loadRW P zs st o K
      else bif !q && isCv o then cvRW P st o K
      else opW P zs st true o fun v => K v st.heap
inductive GdS (G : Bool) (A T F : Prop) : Prop
  | keep (k : A)
  | tt (h : G = true) (k : T)
  | ff (h : G = false) (k : F)
  | split (h1 : G = true → T) (h0 : G = false → F)
theorem GdS.same {G : Bool} {A F : Prop} (h : GdS G A A F) : A ∨ (G = false ∧ F) := by
  cases h with
  | keep k => exact .inl k
  | tt _ k => exact .inl k
  | ff hg k => exact .inr ⟨hg, k⟩
  | split h1 h0 =>
    cases G with
    | true => exact .inl (h1 rfl)
    | false => exact .inr ⟨rfl, h0 rfl⟩
def stepV (q : Bool) (P : Program) [Kn P] (zs : TypeId → List PV) (m : Nat) (st : St) (ops : Array Oper) (o : Oper) (K : AV → List OB → Prop) : Prop :=
  match o.guard with
  | none => step0 q P zs m st o K
  | some g => gW st ops (some g) fun G => bif q then GdS G (match isCall o.op with
      | some c => argsW P zs st G c.args.toList c.argTypes.toList fun vs => calleeW st G c.callee vs fun f vs => CallG G P st f vs fun v => K (.opt G v) st.heap
      | none => opW P zs st G o fun v => K (.opt G v) st.heap) (match isCall o.op with
      | some c => argsW P zs st G c.args.toList c.argTypes.toList fun vs => calleeW st G c.callee vs fun f vs => CallG G P st f vs fun v => K (.opt G v) st.heap
      | none => opW P zs st G o fun v => K (.opt G v) st.heap) (K (.opt false (Bo false)) st.heap)
    else GdS G (match isCall o.op with
      | some c => argsW P zs st G c.args.toList c.argTypes.toList fun vs => calleeW st G c.callee vs fun f vs => CallG G P st f vs fun v => K (.opt G v) st.heap
      | none => opW P zs st G o fun v => K (.opt G v) st.heap) (step0 false P zs m st o K) (K (.opt false (Bo false)) st.heap)
def okDst (N : Nat) (o : Oper) : Bool := match o.dst with
  | some d => decide (d < N)
  | none => true
theorem okDst_spec {o : Oper} (h : okDst N o = true) : ∀ t, o.dst = some t → t < N := by
  intro t ht
  simpa [okDst, ht] using h
theorem upon_value_of {o : Oper} {Q : Exit → Act → World → Prop} {K : Act → World → Prop} {u : Value} {w' : World} (h : (execOp a.eval o).run P w = .ok (.value u) w') (hk : K (a.put o.dst u) w') : o.wp P a w K Q := by
  have _k : Kn P := inferInstance
  simp only [Oper.wp, h, Oper.upon]; exact hk
theorem upon_skip_of {o : Oper} {Q : Exit → Act → World → Prop} {K : Act → World → Prop} {w' : World} (h : (execOp a.eval o).run P w = .ok .skip w') (hk : K (a.put o.dst undef) w') : o.wp P a w K Q := by
  have _k : Kn P := inferInstance
  simp only [Oper.wp, h, Oper.upon]; exact hk
theorem upon_call_of {o : Oper} {Q : Exit → Act → World → Prop} {K : Act → World → Prop} {f : FuncId} {us : Array Value} (h : (execOp a.eval o).run P w = .ok (.enter f us) w) {R : Ending → World → Prop} (hc : Calls P f us w R)
    (hk : ∀ e w', R e w' → ∃ u, e = .returned u ∧ K (a.put o.dst u) w') : o.wp P a w K Q := by
  have _k : Kn P := inferInstance
  simp only [Oper.wp, h, Oper.upon]
  refine hc.mono fun e w' hR => ?_
  obtain ⟨u, rfl, h2⟩ := hk e w' hR
  exact h2
theorem hus_args {S Fr : Nat → Prop} {L : Nat} {args : Array Operand} {vs : List AV} (h : ∀ (j : Nat) (v : AV) (u : Value), vs[j]? = some v → (args.toList.map a.eval)[j]? = some u → RelA pl L S Fr w v u) :
    ∀ (j : Nat) (v : AV) (u : Value), vs[j]? = some v → (args.map a.eval)[j]? = some u → RelA pl L S Fr w v u := by
  intro j v u hv hu
  refine h j v u hv ?_
  rw [← Array.toList_map, Array.getElem?_toList]
  exact hu
theorem stepV_sound {zs : TypeId → List PV} {ops : Array Oper} {o : Oper} {rest : List Oper} {K : St → Prop} {K0 : AV → List OB → Prop} (hN : okDst N o = true) (hK0 : ∀ v h, K0 v h → RW P N m ops rest K ⟨updO st.env o.dst v, h⟩) (h : stepV false P zs m st ops o K0) : RW P N m ops (o :: rest) K st := by
  intro F A w0 pl0 a w hF hA hc
  obtain ⟨pl, hC, hio⟩ := hc
  have hd := okDst_spec hN
  have go : ∀ {v : AV} {h' : List OB} {pl' : Nat → Pl} {a' : Act} {w' : World}, K0 v h' → ConcP N m F A w0 ⟨updO st.env o.dst v, h'⟩ pl' a' w' → (∀ k, k < st.heap.length → k < h'.length ∧ (k < m → pl' k = pl k)) →
      wpList P ops (fun e a' w' => e = .normal ∧ ∃ st', Conc N m F A w0 pl0 st' a' w' ∧ K st') rest a' w' := fun hR hC' hp =>
    hK0 _ _ hR F A w0 pl0 _ _ hF hA ⟨_, hC', fun k hk => ⟨(hp k (hio k hk).1).1, ((hp k (hio k hk).1).2 hk).trans (hio k hk).2⟩⟩
  unfold stepV at h
  unfold wpList
  have hFw : ∀ b, F b → b < w.heap.size := fun b hb => Nat.lt_of_lt_of_le (hF b hb) hC.hsize
  -- a call that leaves memory alone
  have goQ : ∀ {G : Bool} {c : Call} {gd : Bool}, isCall o.op = some c → Region.wanted o (yielded ops a.tmps) = G → (argsW P zs st G c.args.toList c.argTypes.toList fun vs => calleeW st G c.callee vs fun f vs => CallG G P st f vs fun v => K0 (.opt G v) st.heap) →
      (if Region.wanted o (yielded ops a.tmps) = true then o.wp P a w (wpList P ops (fun e a' w' => e = .normal ∧ ∃ st', Conc N m F A w0 pl0 st' a' w' ∧ K st') rest) (fun e a' w' => e = .normal ∧ ∃ st', Conc N m F A w0 pl0 st' a' w' ∧ K st') ∨ (o.asks P a w ∧ LetsOut (fun e a' w' => e = .normal ∧ ∃ st', Conc N m F A w0 pl0 st' a' w' ∧ K st')) else wpList P ops (fun e a' w' => e = .normal ∧ ∃ st', Conc N m F A w0 pl0 st' a' w' ∧ K st') rest (a.put o.dst undef) w) := by
    intro G c _ hcall hG h
    have hop := isCall_spec hcall
    obtain ⟨vs, h, hl, hr⟩ := argsW_sound hC.seen h
    obtain ⟨f, vs', hg, hcal⟩ := calleeW_sound (P := P) hC.seen h
    obtain ⟨v, hQ, hR⟩ := hg.out
    rw [hG]
    cases G with
    | false =>
      simp only [Bool.false_eq_true, if_false]
      exact go hR (hC.put o.dst hd (.opt (fun h => by cases h) (fun _ => rfl))) (fun _ hk => ⟨hk, fun _ => rfl⟩)
    | true =>
      simp only [if_true]
      left
      obtain ⟨us', ⟨hl', hr'⟩, hrun⟩ := hcal rfl (c.args.map a.eval) (by simp [hl]) (hus_args (hr rfl))
      obtain ⟨u, hu, hcb, hcalls⟩ := callQ_sound hC hF (hQ rfl) hl' hr'
      refine upon_call_of (R := fun e w' => e = .returned u ∧ Ext w w' ∧ ∀ (pl' : Nat → Pl) (L : Nat) (S Fr : Nat → Prop), RelA pl' L S Fr w' v u) (f := f) (us := us') ?_ hcalls ?_
      · have := hrun c o.type w rfl rfl hcb
        simpa only [execOp, hop] using this
      · rintro e w' ⟨rfl, hx, hrel⟩
        exact ⟨u, rfl, go hR ((hC.ext hFw hx).put o.dst hd (.opt (fun _ => hrel _ _ _ _) (fun h => by cases h))) (fun _ hk => ⟨hk, fun _ => rfl⟩)⟩
  have base : Region.wanted o (yielded ops a.tmps) = true → step0 false P zs m st o K0 →
      (if Region.wanted o (yielded ops a.tmps) = true then o.wp P a w (wpList P ops (fun e a' w' => e = .normal ∧ ∃ st', Conc N m F A w0 pl0 st' a' w' ∧ K st') rest) (fun e a' w' => e = .normal ∧ ∃ st', Conc N m F A w0 pl0 st' a' w' ∧ K st') ∨ (o.asks P a w ∧ LetsOut (fun e a' w' => e = .normal ∧ ∃ st', Conc N m F A w0 pl0 st' a' w' ∧ K st')) else wpList P ops (fun e a' w' => e = .normal ∧ ∃ st', Conc N m F A w0 pl0 st' a' w' ∧ K st') rest (a.put o.dst undef) w) := by
    intro hw h
    unfold step0 at h
    split at h
    case h_1 c hcall =>
      have hop := isCall_spec hcall
      obtain ⟨vs, h, hl, hr⟩ := argsW_sound hC.seen h
      obtain ⟨f, vs', h, hcal⟩ := calleeW_sound (P := P) hC.seen h
      obtain ⟨us', ⟨hl', hr'⟩, hrun⟩ := hcal rfl (c.args.map a.eval) (by simp [hl]) (hus_args (hr rfl))
      rw [if_pos hw]
      left
      simp only [cond_false] at h
      obtain ⟨h⟩ := h
      have hcb : callable P f = true := by
        obtain ⟨ids, lend, _, h1, h2, h⟩ := h
        obtain ⟨args, h, _⟩ := seqW_sound (r := fun _ _ => True) (fun v K h => let ⟨v', h1, _⟩ := convW_sound hC.seen h; ⟨v', h1, trivial⟩) h
        obtain ⟨hin, ⟨R, hs, _⟩, _⟩ := seqW_sound (r := fun _ _ => True) (fun v K h => let ⟨v', h1, _⟩ := convOB_sound hC.seen h; ⟨v', h1, trivial⟩) h
        exact hs.1
      refine upon_call_of (f := f) (us := us') ?_ (callW_sound hC hF h hl' hr') ?_
      · have := hrun c o.type w rfl rfl hcb
        simpa only [execOp, hop] using this
      · rintro e w' ⟨u, rv, heap', pl', rfl, hR, hp, hC', hrel⟩
        refine ⟨u, rfl, go hR (hC'.put o.dst hd hrel) fun k hk => ⟨(hp k hk).1, fun _ => (hp k hk).2⟩⟩
    case h_2 hcall =>
      rw [if_pos hw]
      left
      cases hh : isHop o with
      | true =>
        simp only [hh, Bool.not_false, Bool.and_self, cond_true] at h
        obtain ⟨v, h', hR, nx, w', pl', hrun, hp, hle, hC', hres⟩ := hopW_sound hC hF hh h
        rcases hres with ⟨rfl, rfl⟩ | ⟨u, rfl, hrel⟩
        · refine upon_skip_of hrun (go hR (hC'.put o.dst hd .junk) fun k hk => ⟨Nat.lt_of_lt_of_le hk hle, hp k hk⟩)
        · refine upon_value_of hrun (go hR (hC'.put o.dst hd hrel) fun k hk => ⟨Nat.lt_of_lt_of_le hk hle, hp k hk⟩)
      | false =>
        simp only [hh, Bool.not_false, Bool.and_false, cond_false] at h
        cases hld : isLd o with
        | true =>
          simp only [hld, Bool.and_self, cond_true] at h
          obtain ⟨v, h', hR, nx, w', pl', hrun, hp, hle, hC', hres⟩ := hop_loadR hC hF h
          rcases hres with ⟨rfl, rfl⟩ | ⟨u, rfl, hrel⟩
          · refine upon_skip_of hrun (go hR (hC'.put o.dst hd .junk) fun k hk => ⟨Nat.lt_of_lt_of_le hk hle, hp k hk⟩)
          · refine upon_value_of hrun (go hR (hC'.put o.dst hd hrel) fun k hk => ⟨Nat.lt_of_lt_of_le hk hle, hp k hk⟩)
        | false =>
        simp only [hld, Bool.and_false, cond_false] at h
        cases hcv : isCv o with
        | true =>
          simp only [hcv, Bool.and_self, cond_true] at h
          obtain ⟨v, h', hR, nx, w', pl', hrun, hp, hle, hC', hres⟩ := hop_cv hC h
          rcases hres with ⟨rfl, rfl⟩ | ⟨u, rfl, hrel⟩
          · refine upon_skip_of hrun (go hR (hC'.put o.dst hd .junk) fun k hk => ⟨Nat.lt_of_lt_of_le hk hle, hp k hk⟩)
          · refine upon_value_of hrun (go hR (hC'.put o.dst hd hrel) fun k hk => ⟨Nat.lt_of_lt_of_le hk hle, hp k hk⟩)
        | false =>
        simp only [hcv, Bool.and_false, cond_false] at h
        obtain ⟨v, hR, hv⟩ := opW_sound hC.seen h
        obtain ⟨u, hrel, hrun⟩ := hv rfl
        exact upon_value_of (hrun w (.inr fun _ _ => rfl)) (go hR (hC.put o.dst hd hrel) (fun _ hk => ⟨hk, fun _ => rfl⟩))
  split at h
  case h_1 hg => exact base (by simp [Region.wanted, hg]) h
  case h_2 g hg =>
    have h := gW_sound hC.seen (o := o) (by rw [hg]; exact h)
    simp only [cond_false] at h
    have off : Region.wanted o (yielded ops a.tmps) = false → K0 (.opt false (Bo false)) st.heap → _ := fun hw hR => go hR (hC.put o.dst hd (.opt (fun h => by cases h) (fun _ => rfl))) (fun _ hk => ⟨hk, fun _ => rfl⟩)
    cases h with
    | tt hw k => exact base hw k
    | ff hw k => rw [if_neg (by rw [hw]; simp)]; exact off hw k
    | split h1 h0 =>
      cases hw : Region.wanted o (yielded ops a.tmps) with
      | true => have := base hw (h1 hw); rwa [hw] at this
      | false => rw [if_neg (by simp)]; exact off hw (h0 hw)
    | keep h =>
    split at h
    case h_1 c hcall => exact goQ (gd := true) hcall rfl h
    case h_2 hcall =>
      obtain ⟨v, hR, hv⟩ := opW_sound hC.seen h
      cases hw : Region.wanted o (yielded ops a.tmps) with
      | true =>
        simp only [if_true]
        left
        rw [hw] at hR
        obtain ⟨u, hrel, hrun⟩ := hv hw
        exact upon_value_of (hrun w (.inr fun _ _ => rfl)) (go hR (hC.put o.dst hd (.opt (fun _ => hrel) (fun h => by cases h))) (fun _ hk => ⟨hk, fun _ => rfl⟩))
      | false =>
        simp only [Bool.false_eq_true, if_false]
        rw [hw] at hR
        exact go hR (hC.put o.dst hd (.opt (fun h => by cases h) (fun _ => rfl))) (fun _ hk => ⟨hk, fun _ => rfl⟩)
end
end Go.Av
namespace Go.Av
open Go.RowKit
section
variable {N m : Nat} {F A : Nat → Prop} {w0 : World} {st : St} {pl : Nat → Pl} {a : Act} {w : World} {P : Program} [Kn P]
theorem ConcP.relExt (_hC : ConcP N m F A w0 st pl a w) {w' : World} (hx : Ext w w') {v : AV} {u : Value} (h : RelA pl st.heap.length (Sany A w0.heap.size pl st.heap w) (Fresh w0.heap.size pl st.heap w) w v u) :
    RelA pl st.heap.length (Sany A w0.heap.size pl st.heap w') (Fresh w0.heap.size pl st.heap w') w' v u := by
  have hS0 : ∀ b, Stab pl st.heap w b → Stab pl st.heap w' b := fun b hb => ⟨Nat.lt_of_lt_of_le hb.1 hx.size, hb.2⟩
  exact h.mono (Nat.le_refl _) (fun _ _ => rfl) (fun b hb => ⟨hS0 b hb.1, hb.2⟩) (fun b hb => ⟨hb.1, hS0 b hb.2⟩) (fun b hb => hx.block b hb.1.1) (fun b hb => hx.block b hb.2.1)
theorem quietV_sound (hC : ConcP N m F A w0 st pl a w) (hF : HF P F A w0) {zs : TypeId → List PV} {ops : Array Oper} {o : Oper} {K : AV → List OB → Prop} (h : stepV true P zs m st ops o K) :
    ∃ v, K v st.heap ∧
      ((Region.wanted o (yielded ops a.tmps) = true ∧ ∃ u, RelA pl st.heap.length (Sany A w0.heap.size pl st.heap w) (Fresh w0.heap.size pl st.heap w) w v u ∧ (∀ w', Ext w w' → o.quietAt P a (Ext w) w' u) ∧ (isCall o.op = none → (execOp a.eval o).run P w = .ok (.value u) w ∧ (wfree2 o = true → ∀ w', (execOp a.eval o).run P w' = .ok (.value u) w'))) ∨
       (Region.wanted o (yielded ops a.tmps) = false ∧ RelA pl st.heap.length (Sany A w0.heap.size pl st.heap w) (Fresh w0.heap.size pl st.heap w) w v undef)) := by
  have hFw : ∀ b, F b → b < w.heap.size := fun b hb => Nat.lt_of_lt_of_le (hF b hb) hC.hsize
  have qv : ∀ {u : Value}, (∀ w', Same w w' → (execOp a.eval o).run P w' = .ok (.value u) w') → ∀ w', Ext w w' → o.quietAt P a (Ext w) w' u := fun hu w' hx => by
    simp only [Oper.quietAt, hu w' hx.block, Oper.quietUpon, and_self]
  have qc : ∀ {c : Call} {vs : List AV} {f : FuncId} {vs' : List AV} {v : AV} {u : Value}, isCall o.op = some c → vs.length = c.args.toList.length → exactV v = some u → CallQ P st f vs' v →
      (∀ (j : Nat) (v : AV) (u : Value), vs[j]? = some v → (c.args.toList.map a.eval)[j]? = some u → RelA pl st.heap.length (Sany A w0.heap.size pl st.heap w) (Fresh w0.heap.size pl st.heap w) w v u) →
      (∀ (us : Array Value), us.size = vs.length → (∀ (j : Nat) (v : AV) (u : Value), vs[j]? = some v → us[j]? = some u → RelA pl st.heap.length (Sany A w0.heap.size pl st.heap w) (Fresh w0.heap.size pl st.heap w) w v u) →
      ∃ us', (us'.size = vs'.length ∧ ∀ (j : Nat) (v : AV) (u : Value), vs'[j]? = some v → us'[j]? = some u → RelA pl st.heap.length (Sany A w0.heap.size pl st.heap w) (Fresh w0.heap.size pl st.heap w) w v u) ∧
        ∀ (call : Call) (t : TypeId) (w' : World), call.callee = c.callee → call.args.map a.eval = us → callable P f = true → ((do let d ← resolve a.eval call t; invoke d.target d.args) : Sem Next).run P w' = .ok (.enter f us') w') →
      (∀ w', Ext w w' → o.quietAt P a (Ext w) w' u) ∧ RelA pl st.heap.length (Sany A w0.heap.size pl st.heap w) (Fresh w0.heap.size pl st.heap w) w v u := by
    intro c vs f vs' v u hcall hl hu hQ hr hcal
    have hop := isCall_spec hcall
    obtain ⟨us', ⟨hl', hr'⟩, hrun⟩ := hcal (c.args.map a.eval) (by simp [hl]) (hus_args hr)
    have hcs : ∀ w', Ext w w' → callable P f = true ∧ Calls P f us' w' fun e w'' => e = .returned u ∧ Ext w' w'' := by
      intro w' hx
      obtain ⟨u', hu', hcb, hcalls⟩ := callQ_sound (hC.ext hFw hx) hF hQ hl' (fun j v u hv hu => hC.relExt hx (hr' j v u hv hu))
      rw [hu] at hu'
      cases hu'
      exact ⟨hcb, hcalls.mono fun e w'' h => ⟨h.1, h.2.1⟩⟩
    refine ⟨fun w' hx => ?_, ?_⟩
    · obtain ⟨hcb, hcalls⟩ := hcs w' hx
      have := hrun c o.type w' rfl rfl hcb
      have e1 : (execOp a.eval o).run P w' = .ok (.enter f us') w' := by simpa only [execOp, hop] using this
      simp only [Oper.quietAt, e1, Oper.quietUpon, true_and]
      exact hcalls.mono fun e w'' h => ⟨h.1, hx.trans h.2⟩
    · obtain ⟨u', hu', hcb, hcalls⟩ := callQ_sound hC hF hQ hl' hr'
      rw [hu] at hu'
      cases hu'
      obtain ⟨e, w', fr, ⟨_, _, hrel⟩, _⟩ := hcalls []
      obtain ⟨u2, hu2, hs⟩ := hQ
      -- the relation of a known value does not look at the world
      have := hrel pl st.heap.length (Sany A w0.heap.size pl st.heap w) (Fresh w0.heap.size pl st.heap w)
      refine exact_move hu this
  unfold stepV at h
  split at h
  case h_1 hg =>
    have hw : Region.wanted o (yielded ops a.tmps) = true := by simp [Region.wanted, hg]
    unfold step0 at h
    split at h
    case h_1 c hcall =>
      obtain ⟨vs, h, hl, hr⟩ := argsW_sound hC.seen h
      obtain ⟨f, vs', h, hcal⟩ := calleeW_sound (P := P) hC.seen h
      simp only [cond_true] at h
      obtain ⟨v, hQ, hK⟩ := h.out
      have hQ := hQ rfl
      obtain ⟨u, hu, _⟩ := id hQ
      obtain ⟨h1, h2⟩ := qc hcall hl hu hQ (hr rfl) (hcal rfl)
      exact ⟨v, hK, .inl ⟨hw, u, h2, h1, fun hn => by rw [hn] at hcall; cases hcall⟩⟩
    case h_2 hcall =>
      simp only [Bool.not_true, Bool.false_and, cond_false] at h
      obtain ⟨v, hK, hv⟩ := opW_sound hC.seen h
      obtain ⟨u, hrel, hrun⟩ := hv rfl
      exact ⟨v, hK, .inl ⟨hw, u, hrel, qv fun w' h => hrun w' (.inr h), fun _ => ⟨hrun w (.inr fun _ _ => rfl), fun hf w' => hrun w' (.inl hf)⟩⟩⟩
  case h_2 g hg =>
    have h := gW_sound hC.seen (o := o) (by rw [hg]; exact h)
    simp only [cond_true] at h
    rcases h.same with h | ⟨hw, hK⟩
    case inr => exact ⟨_, hK, .inr ⟨hw, .opt (fun h => by cases h) (fun _ => rfl)⟩⟩
    cases hw : Region.wanted o (yielded ops a.tmps) with
    | false =>
      rw [hw] at h
      split at h
      case h_1 c hcall =>
        obtain ⟨vs, h, hl, hr⟩ := argsW_sound hC.seen h
        obtain ⟨f, vs', hg', hcal⟩ := calleeW_sound (P := P) hC.seen h
        obtain ⟨v, _, hK⟩ := hg'.out
        exact ⟨_, hK, .inr ⟨rfl, .opt (fun h => by cases h) (fun _ => rfl)⟩⟩
      case h_2 hcall =>
        obtain ⟨v, hK, hv⟩ := opW_sound hC.seen h
        exact ⟨_, hK, .inr ⟨rfl, .opt (fun h => by cases h) (fun _ => rfl)⟩⟩
    | true =>
      rw [hw] at h
      split at h
      case h_1 c hcall =>
        obtain ⟨vs, h, hl, hr⟩ := argsW_sound hC.seen h
        obtain ⟨f, vs', hg', hcal⟩ := calleeW_sound (P := P) hC.seen h
        obtain ⟨v, hQ, hK⟩ := hg'.out
        obtain ⟨u, hu, _⟩ := id (hQ rfl)
        obtain ⟨h1, h2⟩ := qc hcall hl hu (hQ rfl) (hr rfl) (hcal rfl)
        exact ⟨_, hK, .inl ⟨rfl, u, .opt (fun _ => h2) (fun h => by cases h), h1, fun hn => by rw [hn] at hcall; cases hcall⟩⟩
      case h_2 hcall =>
        obtain ⟨v, hK, hv⟩ := opW_sound hC.seen h
        obtain ⟨u, hrel, hrun⟩ := hv rfl
        exact ⟨_, hK, .inl ⟨rfl, u, .opt (fun _ => hrel) (fun h => by cases h), qv fun w' h => hrun w' (.inr h), fun _ => ⟨hrun w (.inr fun _ _ => rfl), fun hf w' => hrun w' (.inl hf)⟩⟩⟩
end
end Go.Av
namespace Go.Av
open Go.RowKit
def Wf {α : Type} (P : Program) [Kn P] (s : Sem α) : Prop := ∀ (w : World) (v : α) (w1 : World), s.run P w = .ok v w1 → w1 = w ∧ ∀ w', s.run P w' = .ok v w'
def Nev {α : Type} (P : Program) [Kn P] (s : Sem α) : Prop := ∀ (w : World) (v : α) (w1 : World), s.run P w ≠ .ok v w1
section
variable {P : Program} [Kn P] {α β : Type}
theorem Wf.pure (a : α) : Wf P (Pure.pure a : Sem α) := by
  intro w v w1 h
  rw [Sem.run_pure] at h
  cases h
  exact ⟨rfl, fun w' => Sem.run_pure ..⟩
theorem Wf.bind {s : Sem α} {f : α → Sem β} (hs : Wf P s) (hf : ∀ a, Wf P (f a)) : Wf P (s >>= f) := by
  intro w v w1 h
  rw [Sem.run_bind] at h
  cases hr : s.run P w with
  | halt e w2 => rw [hr] at h; cases h
  | ok a w2 =>
    rw [hr] at h
    obtain ⟨rfl, h2⟩ := hs _ _ _ hr
    obtain ⟨rfl, h3⟩ := hf a _ _ _ h
    exact ⟨rfl, fun w' => by rw [Sem.run_bind, h2 w']; exact h3 w'⟩
theorem Nev.wf {s : Sem α} (h : Nev P s) : Wf P s := fun w v w1 h1 => absurd h1 (h w v w1)
theorem Nev.bind {s : Sem α} {f : α → Sem β} (hf : ∀ a, Nev P (f a)) : Nev P (s >>= f) := by
  intro w v w1 h
  rw [Sem.run_bind] at h
  cases hr : s.run P w with
  | halt e w2 => rw [hr] at h; cases h
  | ok a w2 => rw [hr] at h; exact hf a _ _ _ h
theorem Nev.halt (e : Halt) : Nev P (.halt e : Sem α) := by
  intro w v w1 h
  cases h
theorem Nev.panic (e : RuntimeError) : Nev P (runtimePanic e : Sem α) := by
  unfold runtimePanic
  refine Nev.bind fun p => ?_
  cases e <;> first | exact Nev.halt _ | exact Nev.bind fun _ => Nev.halt _ | exact Nev.bind fun _ => Nev.bind fun _ => Nev.halt _
theorem Wf.underlying (t : TypeId) : Wf P (underlying t) := by
  unfold Go.underlying
  refine Wf.bind (fun w v w1 h => ?_) fun p => ?_
  · cases h; exact ⟨rfl, fun _ => rfl⟩
  · split
    · exact .pure _
    · exact (Nev.halt _).wf
theorem Wf.sizeOf (t : TypeId) : Wf P (sizeOf t) := by
  unfold Go.sizeOf typeInfo
  refine Wf.bind (Wf.bind (fun w v w1 h => ?_) fun p => ?_) fun _ => .pure _
  · cases h; exact ⟨rfl, fun _ => rfl⟩
  · split
    · exact .pure _
    · exact (Nev.halt _).wf
theorem Wf.bound (x : Value) (y : Nat) (c : BoundsCode) : Wf P (Instr.sliceBound x y c) := by
  unfold Instr.sliceBound
  refine Wf.bind ?_ fun p => ?_
  · unfold asIntOf
    split
    · exact .pure _
    · exact (Nev.halt _).wf
    · exact (Nev.halt _).wf
  · dsimp only
    split
    · exact .pure _
    · unfold boundsPanic
      dsimp only
      split <;> exact (Nev.bind fun _ => Nev.panic _).wf
theorem Wf.bounds (b : Bool) (l c : Nat) (lo hi mx : Option Value) : Wf P (Instr.sliceBounds b l c lo hi mx) := by
  unfold Instr.sliceBounds
  dsimp only
  repeat' first
    | exact Wf.pure _
    | exact Wf.bound _ _ _
    | exact (Nev.halt _).wf
    | refine Wf.bind ?_ fun _ => ?_
    | split
theorem Wf.slice (t : TypeId) (x : Value) (lo hi mx : Option Value) : Wf P (Instr.sliceAt t x lo hi mx) := by
  unfold Instr.sliceAt Instr.slice Instr.sureAddr asAddr
  dsimp only
  repeat' first
    | exact Wf.pure _
    | exact Wf.underlying _
    | exact Wf.sizeOf _
    | exact Wf.bounds _ _ _ _ _ _
    | exact (Nev.halt _).wf
    | exact (Nev.panic _).wf
    | refine Wf.bind ?_ fun _ => ?_
    | split
end
def wfreeO (o : Oper) : Bool := match o.op with
  | .move _ | .assign _ | .slice .. => true
  | _ => false
section
variable {P : Program} [Kn P] {ops : Array Oper} {md : Region.Mode} {w : World}
theorem wfree_yields {o : Oper} {a : Act} {v : Value} (hf : wfreeO o = true) (hy : YieldsAt P ops w o v a) : Yields P ops o v a := by
  have hv : ∀ n w1, (execOp a.eval o).run P w = .ok n w1 → (∃ u, n = .value u) ∧ ∀ w', (execOp a.eval o).run P w' = .ok n w' := by
    intro n w1 hr
    unfold wfreeO at hf
    split at hf
    · rename_i x hop
      simp only [execOp, hop, Sem.run_pure] at hr ⊢
      cases hr
      exact ⟨⟨_, rfl⟩, fun _ => rfl⟩
    · rename_i x hop
      simp only [execOp, hop, Sem.run_pure] at hr ⊢
      cases hr
      exact ⟨⟨_, rfl⟩, fun _ => rfl⟩
    · rename_i t x lo hi mx hop
      simp only [execOp, hop] at hr ⊢
      obtain ⟨_, h2⟩ := Wf.bind (Wf.slice (P := P) t (a.eval x) (lo.map a.eval) (hi.map a.eval) (mx.map a.eval)) (fun u => Wf.pure (Next.value u)) _ _ _ hr
      refine ⟨?_, h2⟩
      rw [Sem.run_bind] at hr
      cases hs : (Instr.sliceAt t (a.eval x) (lo.map a.eval) (hi.map a.eval) (mx.map a.eval)).run P w with
      | halt e w2 => rw [hs] at hr; cases hr
      | ok u w2 => rw [hs] at hr; cases hr; exact ⟨u, rfl⟩
    · cases hf
  rcases hy with ⟨hw, h | ⟨h, rfl⟩ | ⟨f, args, h, _⟩⟩ | ⟨hw, rfl⟩
  · exact .inl ⟨hw, (hv _ _ h).2⟩
  · obtain ⟨u, hu⟩ := (hv _ _ h).1; cases hu
  · obtain ⟨u, hu⟩ := (hv _ _ h).1; cases hu
  · exact .inr ⟨hw, rfl⟩
theorem wpAny_free {g : Nat} {Q' : Exit → Act → World → Prop} {Lq : Act → Prop} (hsel : Region.noSelect ops = true) (hQ : ∀ c a w, ¬ Q' (.panic c) a w) : ∀ (l : List Oper) (k : Nat) (listed : Array Bool) (a : Act),
    (∀ j, j < l.length → l[j]? = ops[k + j]?) → l.all wfreeO = true → Region.lexHead md ops g l.length k listed = true → wpStill P ops w Lq l a →
    (∀ listed' a', Region.seqB md ops g (k + l.length) listed' = true → Lq a' → wpAny P md ops Q' g listed' a' w) → wpAny P md ops Q' (l.length + g) listed a w
  | [], k, listed, a, _, _, hB, h, hk => by
    rw [List.length_nil, Nat.zero_add]
    exact hk _ _ hB h
  | o :: l, k, listed, a, hl, hf, hB, h, hk => by
    have h0 : ops[k]? = some o := by simpa using (hl 0 (by simp)).symm
    simp only [List.all_cons, Bool.and_eq_true] at hf
    simp only [List.length_cons, Region.lexHead, Bool.and_eq_true] at hB
    have hst : stOp P ops w k (wpStill P ops w Lq l) a := by unfold stOp; simp only [h0]; exact h
    obtain ⟨v, hy, hK⟩ := yieldsAt_of_stOp h0 hst
    rw [List.length_cons, Nat.add_right_comm]
    refine wpAny_take h0 hsel hB.1.2 hB.1.1 (fun c a w h => absurd h (hQ _ _ _)) (wfree_yields hf.1 hy) ?_
    exact wpAny_free hsel hQ l (k + 1) _ _ (fun j hj => by have := hl (j + 1) (by simp; omega); simpa [Nat.add_assoc, Nat.add_comm 1 j] using this) hf.2 hB.2 hK
      (fun listed' a' h1 h2 => hk listed' a' (by rw [List.length_cons]; rwa [Nat.add_assoc, Nat.add_comm 1] at h1) h2)
def lexFreeB (md : Region.Mode) (ops : Array Oper) (n : Nat) : Bool :=
  Region.noSelect ops && Nat.blt n ops.size && (ops.toList.take n).all wfreeO && Region.lexHead md ops (ops.size - n) n 0 (Array.replicate ops.size false)
theorem wp_region_free_tail {id : Nat} {Q : Exit → Act → World → Prop} {a : Act} {w : World} {l : List Oper} (n : Nat) (hm : P.follows .mixedOrders = true) (hQ : ∀ c a w, ¬ Q (.panic c) a w) (hB : lexFreeB .any l.toArray n = true)
    (h : wpStill P l.toArray { w with drawn := w.drawn + 1 } (fun a' => wpList P l.toArray Q (l.drop n) a' { w with drawn := w.drawn + 1 }) (l.take n) a) : (Code.region id l.toArray true).wp P Q a w := by
  simp only [lexFreeB, Bool.and_eq_true] at hB
  obtain ⟨⟨⟨hsel, hn⟩, hf⟩, hlex⟩ := hB
  have hn' : n < l.length := by simpa using hn
  have htl : (l.take n).length = n := by simp; omega
  have hdl : (l.drop n).length = l.toArray.size - n := by simp
  refine wp_region_any hm ?_
  have := wpAny_free (md := .any) (Q' := Q) (w := { w with drawn := w.drawn + 1 }) (g := l.toArray.size - n) hsel hQ (l.take n) 0 (Array.replicate l.toArray.size false) a
    (fun j hj => by
      have hj' : j < n := by rw [htl] at hj; exact hj
      simp [hj']) (by simpa using hf) (by rw [htl]; exact hlex) h
    (fun listed' a' h1 h2 => by
      have h3 := wpAny_of_seq (md := .any) (Q' := Q) (l.drop n) n listed' a' { w with drawn := w.drawn + 1 } (fun j => by simp [List.getElem?_drop]) (by rw [hdl]; simpa [htl] using h1) h2
      rwa [hdl] at h3)
  rw [htl, show n + (l.toArray.size - n) = l.toArray.size by simp; omega] at this
  exact this
theorem wp_region_some_tail {id : Nat} {Q : Exit → Act → World → Prop} {a : Act} {w : World} {l : List Oper} (n : Nat) (hm : P.follows .mixedOrders = true) (hQ : ∀ c a w, ¬ Q (.panic c) a w) (hB : (Region.lexTailB .any l.toArray n || lexFreeB .any l.toArray n) = true)
    (h : wpStill P l.toArray { w with drawn := w.drawn + 1 } (fun a' => wpList P l.toArray Q (l.drop n) a' { w with drawn := w.drawn + 1 }) (l.take n) a) : (Code.region id l.toArray true).wp P Q a w := by
  rcases (Bool.or_eq_true _ _).mp hB with hb | hb
  · exact wp_region_still_tail n hm hb h
  · exact wp_region_free_tail n hm hQ hb h
end
end Go.Av
