/- The abstract layer: values, steps, contracts, part Av3: an abstract walk of Go functions whose soundness is proved here once. No conditions. -/
import Derived.OpenShut
import Derived.ProofKit
import Derived.ReadAgain
import Derived.RowKit3
import Derived.StillTail
import Derived.WalkKit
import Derived.Test.YtkpbogjkgladiaaAv2
set_option linter.unusedVariables false
set_option linter.unusedSimpArgs false
namespace Go.Av
open Go.RowKit

/-! Calls: to whom; calls that hand back one known value and leave memory alone. -/
theorem exact_move {pl pl' : Nat → Pl} {L L' : Nat} {S Fr S' Fr' : Nat → Prop} {w w' : World} {v : AV} {u u' : Value} (hu : exactV v = some u) (hres : RelA pl L S Fr w v u') : RelA pl' L' S' Fr' w' v u' := by
  unfold exactV at hu
  split at hu
  · exact .p hres.pinv.scalar
  · rename_i fl cs
    cases hx : exL exPV cs with
    | none => rw [hx] at hu; cases hu
    | some us' =>
      obtain ⟨h1, h2⟩ := exL_spec hx
      have hp := hres.pinv
      cases hp with
      | @agg _ arr hs h1' hr' =>
        refine .p (.agg hs h1' fun j p u hp hu => ?_)
        obtain ⟨u', e1, e2⟩ := h2 j p hp
        have := hr' j p u hp hu
        cases p with
        | c v => exact this.scalar
        | _ => cases e2
  · rename_i vs'
    cases hx : exL exAV vs' with
    | none => rw [hx] at hu; cases hu
    | some us' =>
      obtain ⟨h1, h2⟩ := exL_spec hx
      cases hres with
      | @tup _ arr hs hr' =>
        refine .tup hs fun j p u hp hu => ?_
        obtain ⟨u', e1, e2⟩ := h2 j p hp
        have := hr' j p u hp hu
        cases p with
        | p fl q =>
          cases q with
          | c v => exact .p this.pinv.scalar
          | _ => cases e2
        | _ => cases e2
  · cases hu

/-- whom it calls, with what -/
def calleeW (st : St) (G : Bool) (callee : Callee) (vs : List AV) (K : FuncId → List AV → Prop) : Prop := match callee with
  | .value (.func f) => K f vs
  | .value (.tmp t) => withV st G (.tmp t) fun v => (match v with
    | .afn f caps => K f (vs ++ caps)
    | .p fl (.fn f ps) => K f (vs ++ ps.map (.p fl))
    | _ => False)
  | _ => False

def argsW (P : Program) (zs : TypeId → List PV) (st : St) (G : Bool) : List Operand → List TypeId → (List AV → Prop) → Prop
  | [], _, K => K []
  | x :: xs, ts, K => withV st G x fun v => argsW P zs st G xs ts.tail fun vs => K ((match ts.head? with | some t => coerce P zs t v | none => v) :: vs)

/-- a call that hands back v and leaves all memory as it was -/
def CallQ (P : Program) (st : St) (f : FuncId) (vs : List AV) (v : AV) : Prop :=
  ∃ u, exactV v = some u ∧ seqW (convW st.heap [] true) vs fun args => FnSem P f args [] fun rs _ => retAV rs = v

section
variable {N m : Nat} {F A : Nat → Prop} {w0 : World} {st : St} {pl : Nat → Pl} {a : Act} {w : World} {P : Program}

theorem live_nil {pl : Nat → Pl} {k b : Nat} : ¬ owns pl [] k b := by simp [owns]

theorem callQ_sound (hC : ConcP N m F A w0 st pl a w) {f : FuncId} {vs : List AV} {v : AV} (h : CallQ P st f vs v) {us : Array Value} (hl : us.size = vs.length)
    (hus : ∀ (j : Nat) (v : AV) (u : Value), vs[j]? = some v → us[j]? = some u → RelA pl st.heap.length (Sany A w0.heap.size pl st.heap w) (Fresh w0.heap.size pl st.heap w) w v u) :
    ∃ u, exactV v = some u ∧ callable P f = true ∧ Calls P f us w fun e w' => e = .returned u ∧ Ext w w' ∧ ∀ (pl' : Nat → Pl) (L : Nat) (S Fr : Nat → Prop), RelA pl' L S Fr w' v u := by
  obtain ⟨u, hu, h⟩ := h
  obtain ⟨args, hsem, hla, hra⟩ := seqW_sound (r := fun v v' => ∀ (L' : Nat) (Sc Frc : Nat → Prop), ([] : List Nat).length ≤ L' → Hand pl st.heap A w0.heap.size w [] true Sc → ∀ u, RelA pl st.heap.length (Sany A w0.heap.size pl st.heap w) (Fresh w0.heap.size pl st.heap w) w v u → RelA (renPl [] pl) L' Sc Frc w v' u)
      (fun v K h => convW_sound hC.seen h) h
  refine ⟨u, hu, hsem.1, (hsem.2 w us (renPl [] pl) (fun b => b < w.heap.size) (fun b hb => ⟨hb, fun k hk => (live_nil hk).elim⟩) ?_).mono ?_⟩
  · refine ⟨fun k b hk => (live_nil hk).elim, fun k hk => by simp [isnew] at hk, fun k k' b hk => (live_nil hk).elim, fun k ob hk => by simp at hk, by rw [hl, hla], fun j v' u' hv' hu' => ?_⟩
    have h1 : j < vs.length := by rw [← hla]; exact (List.getElem?_eq_some_iff.1 hv').1
    have hst : ∀ b, b < w.heap.size → Sany (fun b => b < w.heap.size) w.heap.size (renPl [] pl) [] w b := fun b hb => ⟨⟨hb, fun k hk => (live_nil hk).elim⟩, .inl hb⟩
    exact hra j _ v' (List.getElem?_eq_getElem h1) hv' _ _ _ (Nat.zero_le _) ⟨fun hh => (by cases hh), fun _ b hb => hst b hb.1, fun _ k b hk _ => hst _ (hC.ownlt k b hk)⟩ u' (hus j _ u' (List.getElem?_eq_getElem h1) hu')
  · rintro e w' ⟨v', rs, hout, pl', rfl, hR, hB⟩
    have hres := hB.res
    rw [hR] at hres
    have e1 := exactV_spec hu hres
    subst e1
    refine ⟨rfl, ⟨hB.os, hB.tape, hB.output, hB.size, fun b hb => hB.frame b ⟨hb, fun k hk => (live_nil hk).elim⟩⟩, fun pl'' L S Fr => ?_⟩
    exact exact_move hu hres

theorem coerce_rel {zs : TypeId → List PV} {t : TypeId} {L : Nat} {S Fr : Nat → Prop} {v : AV} {u : Value} (h : RelA pl L S Fr w v u) : RelA pl L S Fr w (coerce P zs t v) u := coerce_sound h

theorem argsW_sound {S Fr : Nat → Prop} (hS : Seen pl S Fr w st a) {zs : TypeId → List PV} {G : Bool} : ∀ {xs : List Operand} {ts : List TypeId} {K : List AV → Prop}, argsW P zs st G xs ts K →
    ∃ vs, K vs ∧ vs.length = xs.length ∧ (G = true → ∀ (j : Nat) (v : AV) (u : Value), vs[j]? = some v → (xs.map a.eval)[j]? = some u → RelA pl st.heap.length S Fr w v u)
  | [], ts, K, h => ⟨[], h, rfl, fun _ j v u hv => by simp at hv⟩
  | x :: xs, ts, K, h => by
    unfold argsW at h
    obtain ⟨v, hv, hr⟩ := withV_sound hS h
    obtain ⟨vs, hK, hl, hrs⟩ := argsW_sound hS hv
    refine ⟨_, hK, by simp [hl], fun hG j v' u' hv' hu' => ?_⟩
    cases j with
    | zero =>
      simp at hv' hu'
      subst hv' hu'
      cases ts.head? with
      | none => exact hr hG
      | some t => exact coerce_rel (hr hG)
    | succ j => simp only [List.getElem?_cons_succ, List.map_cons] at hv' hu'; exact hrs hG j v' u' hv' hu'

theorem calleeW_sound {S Fr : Nat → Prop} (hS : Seen pl S Fr w st a) {G : Bool} {c : Callee} {vs : List AV} {K : FuncId → List AV → Prop} (h : calleeW st G c vs K) :
    ∃ f vs', K f vs' ∧ (G = true → ∀ (us : Array Value), us.size = vs.length → (∀ (j : Nat) (v : AV) (u : Value), vs[j]? = some v → us[j]? = some u → RelA pl st.heap.length S Fr w v u) →
      ∃ us', (us'.size = vs'.length ∧ ∀ (j : Nat) (v : AV) (u : Value), vs'[j]? = some v → us'[j]? = some u → RelA pl st.heap.length S Fr w v u) ∧
        ∀ (call : Call) (t : TypeId) (w' : World), call.callee = c → call.args.map a.eval = us → callable P f = true → ((do let d ← resolve a.eval call t; invoke d.target d.args) : Sem Next).run P w' = .ok (.enter f us') w') := by
  have fin : ∀ (f : FuncId) (args : Array Value) (w' : World), callable P f = true → (callFunc f args).run P w' = .ok (.enter f args) w' := by
    intro f args w' hc
    unfold callable at hc
    split at hc
    case h_2 => cases hc
    rename_i fn hf
    simp only [Bool.and_eq_true, Bool.not_eq_true'] at hc
    have h1 : fn.name ≠ "runtime.NumGoroutine" := by simpa using hc.1
    obtain ⟨c, hb⟩ := Option.isSome_iff_exists.1 hc.2
    simp [callFunc, hf, h1, hb]
  unfold calleeW at h
  split at h
  case h_1 f =>
    refine ⟨f, vs, h, fun _ us hl hr => ⟨us, ⟨hl, hr⟩, fun call t w' hc hu hcl => ?_⟩⟩
    simp only [resolve, hc, hu, Deferred.ofValue, Act.eval, Sem.run_bind, Sem.run_pure, Result.andThen_ok, invoke]
    simp [fin f _ w' hcl]
  case h_2 t =>
    obtain ⟨v, hv, hrv⟩ := withV_sound hS h
    split at hv
    · rename_i f caps
      refine ⟨f, _, hv, fun hG us hl hr => ?_⟩
      have hv' := hrv hG
      generalize hq : a.eval (.tmp t) = q at hv'
      cases hv' with
      | @afn _ _ arr hs hr' =>
        refine ⟨us ++ arr, ⟨by simp [hl, hs], fun j v u hv hu => ?_⟩, fun call t' w' hc hu hcl => ?_⟩
        · by_cases hj : j < vs.length
          · rw [List.getElem?_append_left hj] at hv
            rw [Array.getElem?_append_left (by omega)] at hu
            exact hr j v u hv hu
          · rw [List.getElem?_append_right (by omega)] at hv
            rw [Array.getElem?_append_right (by omega), hl] at hu
            exact hr' _ v u hv hu
        · simp only [resolve, hc, hu, hq, Deferred.ofValue, Sem.run_bind, Sem.run_pure, Result.andThen_ok, invoke]
          simp [fin f _ w' hcl]
    · rename_i fl f ps
      refine ⟨f, _, hv, fun hG us hl hr => ?_⟩
      have hv' := (hrv hG).pinv
      generalize hq : a.eval (.tmp t) = q at hv'
      cases hv' with
      | @fn _ _ arr hs hr' =>
        refine ⟨us ++ arr, ⟨by simp [hl, hs], fun j v u hv hu => ?_⟩, fun call t' w' hc hu hcl => ?_⟩
        · by_cases hj : j < vs.length
          · rw [List.getElem?_append_left hj] at hv
            rw [Array.getElem?_append_left (by omega)] at hu
            exact hr j v u hv hu
          · rw [List.getElem?_append_right (by omega), List.getElem?_map] at hv
            rw [Array.getElem?_append_right (by omega), hl] at hu
            cases hx : ps[j - vs.length]? with
            | none => rw [hx] at hv; cases hv
            | some p => rw [hx] at hv; cases hv; exact .p (hr' _ p u hx hu)
        · simp only [resolve, hc, hu, hq, Deferred.ofValue, Sem.run_bind, Sem.run_pure, Result.andThen_ok, invoke]
          simp [fin f _ w' hcl]
    · exact hv.elim
  case h_3 => exact h.elim
end
end Go.Av

namespace Go.Av
open Go.RowKit

section
variable {N m : Nat} {F A : Nat → Prop} {w0 : World} {st : St} {pl : Nat → Pl} {a : Act} {w : World} {P : Program}

theorem Src.firstN {S : Nat → Prop} {zl c : Nat} {es : List (List PV)} {u : Value} {news : List Value} (h : Src S w zl es u news) (hc : c ≤ es.length) : (Builtin.firstCells zl c u).run P w = .ok (news.take (c * zl)).toArray w := by
  obtain ⟨A', cp, rfl, hA⟩ := h.shape
  have hle : c * zl ≤ news.length := by rw [h.len]; exact Nat.mul_le_mul_right _ hc
  cases A' with
  | none =>
    have h0 : es.length = 0 := by
      rcases Nat.eq_zero_or_pos es.length with h0 | h0
      · exact h0
      · obtain ⟨ad, h1, _⟩ := hA h0; cases h1
    have : news = [] := List.eq_nil_of_length_eq_zero (by rw [h.len, h0]; simp)
    subst this
    simp [Builtin.firstCells]
  | some ad =>
    refine run_firstCells_some w zl c ad es.length cp (news.take (c * zl)) (by rw [List.length_take]; omega) fun j v hv => ?_
    rcases Nat.eq_zero_or_pos es.length with h0 | h0
    · have : news = [] := List.eq_nil_of_length_eq_zero (by rw [h.len, h0]; simp)
      subst this
      simp at hv
    · obtain ⟨ad', h1, h2⟩ := hA h0
      cases h1
      rw [List.getElem?_take] at hv
      split at hv
      · exact h2 j v hv
      · cases hv

set_option maxHeartbeats 1000000 in
theorem hop_copy (hC : ConcP N m F A w0 st pl a w) {o : Oper} {t t' : TypeId} {d s : Operand} {args : Array Operand} {ts : Array TypeId} (ho : o.op = .call { callee := .builtin .copy, args, argTypes := ts }) (hargs : args.toList = [d, s]) (hts : ts.toList = [t, t'])
    {vd vs : AV} (hd : RelA pl st.heap.length (Sany A w0.heap.size pl st.heap w) (Fresh w0.heap.size pl st.heap w) w vd (a.eval d)) (hs : RelA pl st.heap.length (Sany A w0.heap.size pl st.heap w) (Fresh w0.heap.size pl st.heap w) w vs (a.eval s))
    {K : AV → List OB → Prop} (h : copyW P st.heap t vd vs K) : ∃ v h', K v h' ∧ HopOk P N m F A w0 st pl a w o v h' := by
  have hargs' : args = #[d, s] := by apply Array.ext'; simpa using hargs
  have hts' : ts = #[t, t'] := by apply Array.ext'; simpa using hts
  subst hargs' hts'
  have hexec : ∀ {v : Value} {w' : World}, (Builtin.copy_ #[t, t'] o.type #[a.eval d, a.eval s]).run P w = .ok v w' → (execOp a.eval o).run P w = .ok (.value v) w' := by
    intro v w' hr
    simp only [execOp, ho, resolve, invoke, builtin, Sem.run_bind, Sem.run_pure, Result.andThen_ok, List.map_toArray, List.map_cons, List.map_nil, hr]
  unfold copyW at h
  split at h
  case h_2 => exact h.elim
  rename_i e ht
  split at h
  case h_2 => exact h.elim
  rename_i k lo n
  split at h
  case h_2 => exact h.elim
  rename_i nw fl z es hk
  obtain ⟨hz, hn, h⟩ := h
  have hn := hn rfl
  obtain ⟨fl', es', ⟨c, rfl, es2, rfl, hK⟩, hsrc⟩ := srcW_sound hC h
  obtain ⟨news, hS⟩ := hsrc _ hs
  obtain ⟨g1, g2, g3, g4, g5, g6⟩ := hC.heap k _ hk
  have h0 : P.cellsOf e ≠ 0 := by omega
  have hFS : ∀ b, Fresh w0.heap.size pl st.heap w b → Sany A w0.heap.size pl st.heap w b := fun b hb => ⟨hb.2, .inr hb.1⟩
  refine ⟨_, _, hK, ?_⟩
  generalize hcd : min es'.length n = c at *
  have hc1 : c ≤ es'.length := by omega
  have hc2 : c ≤ n := by omega
  have hcz : c * z.length ≤ news.length := by rw [hS.len]; exact Nat.mul_le_mul_right _ hc1
  have hfc := hS.firstN (P := P) hc1
  obtain ⟨A2, cp, hse, hA2⟩ := hS.shape
  have htl : (es'.take c).length = c := by rw [List.length_take]; omega
  have hlen2 : (es.take lo ++ es'.take c ++ es.drop (lo + c)).length = es.length := by
    simp only [List.length_append, List.length_take, List.length_drop]; omega
  have hget : ∀ (i : Nat) (e : List PV), (es.take lo ++ es'.take c ++ es.drop (lo + c))[i]? = some e → (lo ≤ i ∧ i < lo + c ∧ es'[i - lo]? = some e) ∨ (¬(lo ≤ i ∧ i < lo + c) ∧ es[i]? = some e) := by
    intro i e he
    have hsp := splice_get (l := es) (vs := es'.take c) (o := lo) (by rw [htl]; omega) i
    rw [htl] at hsp
    rw [hsp] at he
    by_cases hi : lo ≤ i ∧ i < lo + c
    · rw [if_pos hi, List.getElem?_take, if_pos (by omega)] at he
      exact .inl ⟨hi.1, hi.2, he⟩
    · rw [if_neg hi] at he
      exact .inr ⟨hi, he⟩
  have helen : ∀ (i : Nat) (e : List PV), (es.take lo ++ es'.take c ++ es.drop (lo + c))[i]? = some e → e.length = z.length := by
    intro i e he
    rcases hget i e he with ⟨_, _, h3⟩ | ⟨_, h3⟩
    · exact hS.elen _ _ h3
    · exact g5 _ _ h3
  have hint : RelA pl (st.heap.set k (OB.row nw (Fl.join fl fl') z (es.take lo ++ es'.take c ++ es.drop (lo + c)))).length (Sany A w0.heap.size pl (st.heap.set k (OB.row nw (Fl.join fl fl') z (es.take lo ++ es'.take c ++ es.drop (lo + c)))) w) (Fresh w0.heap.size pl (st.heap.set k (OB.row nw (Fl.join fl fl') z (es.take lo ++ es'.take c ++ es.drop (lo + c)))) w) w (.p .flat (.c (.int .i64 (c : Int)))) (goInt c) := by
    refine .mkc ((wrap_eq_iff .i64 _).2 ?_) rfl
    simp only [kmin, kmax, maxLen] at g3 ⊢
    omega
  cases hde : a.eval d with
  | slice Ad n' C =>
    rw [hde] at hd
    cases hd with
    | osl hkL hA hCc hn' hM =>
      by_cases hc0 : c = 0
      · -- nothing is copied
        subst hc0
        obtain ⟨hN, hmk⟩ := hC.write' hk (ob' := .row nw (Fl.join fl fl') z (es.take lo ++ es'.take 0 ++ es.drop (lo + 0))) (w' := w) rfl rfl rfl rfl rfl rfl (fun _ _ => rfl)
        refine ⟨.value (goInt 0), w, pl, hexec ?_, fun _ _ _ => rfl, by simp, hmk ?_, .inr ⟨_, rfl, ?_⟩⟩
        · rw [hde]
          rw [hse] at hfc ⊢
          simp only [Builtin.copy_, List.getElem?_toArray, List.getElem?_cons_zero, List.getElem?_cons_succ, Sem.run_bind, run_underlying ht, Result.andThen_ok, Builtin.lenOf, Sem.run_pure, run_sizeOf' h0]
          rw [show Nat.min es'.length n = 0 from hcd, ← hz, hfc]
          cases Ad with
          | none => simp
          | some ad => simp [storeCells]
        · have e0 : es.take lo ++ es'.take 0 ++ es.drop (lo + 0) = es := by simp
          rw [e0]
          refine ⟨g1, g2, g3, g4, g5, fun hcap => ?_⟩
          obtain ⟨ty, arr, q1, q2, q3⟩ := g6 hcap
          refine ⟨ty, arr, q1, q2, fun i j e p he hp => ?_⟩
          obtain ⟨x, r1, r2, r3⟩ := q3 i j e p he hp
          rw [e0] at hN
          exact ⟨x, r1, r2, hN.rel (r3.mono (flag_join_left hFS _ _) (fun _ _ => rfl))⟩
        · exact hint
      · have hcap : 0 < (pl k).cap := by omega
        have hAd := hA (by omega)
        obtain ⟨ty, arr, q1, q2, q3⟩ := g6 hcap
        have hlive : obOwns (pl k) (.row nw fl z es) (pl k).blk := ⟨by omega, rfl⟩
        have hCz : lo * z.length + C * z.length = (pl k).cap * z.length := by rw [← Nat.add_mul, hCc]
        have hcC : c * z.length ≤ C * z.length := Nat.mul_le_mul_right _ (by omega)
        have hnl : (news.take (c * z.length)).length = c * z.length := by rw [List.length_take]; omega
        have hfit : (pl k).off + lo * (pl k).sz + (news.take (c * z.length)).length ≤ arr.size := by rw [hnl, g1]; omega
        have hst := run_storeCells_at P (pl k).blk ((pl k).off + lo * (pl k).sz) ty (news.take (c * z.length)) 0 arr w q1 (by simpa using hfit) (fun v hv => hS.one v (List.mem_of_mem_take hv))
        simp only [Nat.add_zero] at hst
        obtain ⟨s1, s2, s3, s4, s5⟩ := setRow_same w (pl k).blk (arr.toList.take ((pl k).off + lo * (pl k).sz) ++ news.take (c * z.length) ++ arr.toList.drop ((pl k).off + lo * (pl k).sz + (news.take (c * z.length)).length)).toArray
        obtain ⟨hN, hmk⟩ := hC.write hk (ob' := .row nw (Fl.join fl fl') z (es.take lo ++ es'.take c ++ es.drop (lo + c))) rfl rfl hlive s1 s2 s3 s4 s5
        refine ⟨.value (goInt c), _, pl, hexec ?_, fun _ _ _ => rfl, by simp, hmk ?_, .inr ⟨_, rfl, ?_⟩⟩
        rotate_left
        · refine ⟨g1, g2, g3, by rw [hlen2]; exact g4, helen, fun _ => ⟨ty, _, setRow_heap w _ arr _ ty (0, 0) q1, ?_, fun i j e' p he hp => ?_⟩⟩
          · simp only [List.size_toArray, List.length_append, List.length_take, List.length_drop, Array.length_toList]
            rw [g1] at hfit ⊢
            simp only [List.length_take] at hnl hfit
            omega
          · have hj : j < z.length := by rw [← helen i e' he]; exact (List.getElem?_eq_some_iff.1 hp).1
            have hgw : ∀ k', (arr.toList.take ((pl k).off + lo * (pl k).sz) ++ news.take (c * z.length) ++ arr.toList.drop ((pl k).off + lo * (pl k).sz + (news.take (c * z.length)).length)).toArray[k']? = if (pl k).off + lo * z.length ≤ k' ∧ k' < (pl k).off + lo * z.length + c * z.length then (news.take (c * z.length))[k' - ((pl k).off + lo * z.length)]? else arr[k']? := fun k' => by
              have hsp := splice_get (l := arr.toList) (vs := news.take (c * z.length)) (o := (pl k).off + lo * (pl k).sz) (by simpa using hfit) k'
              rw [List.getElem?_toArray, hsp, hnl, g1]
              simp only [Array.getElem?_toList]
            rw [hgw]
            rcases hget i e' he with ⟨h1, h2, h3⟩ | ⟨h1, h3⟩
            · obtain ⟨x, r1, r2, r3⟩ := hS.rel _ _ _ _ h3 hp
              have hi4 : i * z.length = lo * z.length + (i - lo) * z.length := by rw [← Nat.add_mul]; congr 1; omega
              have hi5 : (i - lo + 1) * z.length ≤ c * z.length := Nat.mul_le_mul_right _ (by omega)
              rw [Nat.add_mul] at hi5
              refine ⟨x, ?_, r2, hN.rel (r3.mono (flag_join_right hFS _ _) (fun _ _ => rfl))⟩
              rw [if_pos (by omega), List.getElem?_take, if_pos (by omega)]
              have : (pl k).off + (i * z.length + j) - ((pl k).off + lo * z.length) = (i - lo) * z.length + j := by omega
              rw [this]; exact r1
            · obtain ⟨x, r1, r2, r3⟩ := q3 _ _ _ _ h3 hp
              refine ⟨x, ?_, r2, hN.rel (r3.mono (flag_join_left hFS _ _) (fun _ _ => rfl))⟩
              rw [if_neg ?_]
              · exact r1
              · intro hcc
                rcases Nat.lt_or_ge i lo with hlt | hge
                · have : (i + 1) * z.length ≤ lo * z.length := Nat.mul_le_mul_right _ hlt
                  rw [Nat.add_mul] at this
                  omega
                · have : (lo + c) * z.length ≤ i * z.length := Nat.mul_le_mul_right _ (by omega)
                  rw [Nat.add_mul] at this
                  omega
        · exact exact_move (v := .p .flat (.c (.int .i64 (c : Int)))) (u := goInt c) rfl hint
        · rw [hde, hAd]
          rw [hse] at hfc ⊢
          simp only [Builtin.copy_, List.getElem?_toArray, List.getElem?_cons_zero, List.getElem?_cons_succ, Sem.run_bind, run_underlying ht, Result.andThen_ok, Builtin.lenOf, Sem.run_pure, run_sizeOf' h0]
          rw [show Nat.min es'.length n = c from hcd, ← hz, hfc]
          simp [hst]
  | _ => rw [hde] at hd; cases hd
end
end Go.Av

namespace Go.Av
open Go.RowKit

section
variable {N m : Nat} {F A : Nat → Prop} {w0 : World} {st : St} {pl : Nat → Pl} {a : Act} {w : World} {P : Program}

theorem hop_makeMap (hC : ConcP N m F A w0 st pl a w) (hF : ∀ b, F b → b < w0.heap.size) {o : Oper} {t : TypeId} (ho : o.op = .makeMap t none) {K : AV → List OB → Prop} (h : makeMapW P st.heap t K) : ∃ v h', K v h' ∧ HopOk P N m F A w0 st pl a w o v h' := by
  unfold makeMapW at h
  split at h
  case h_2 => exact h.elim
  rename_i kt et ht
  refine ⟨_, _, h, ?_⟩
  obtain ⟨hN, hmk⟩ := hC.newObj hF (mkPl w.heap.size 0 0 0) (.map #[] 0) (.mp true (isKey P kt) (fun _ => none)) fun b hb => hb.symm
  have hrun : (execOp a.eval o).run P w = .ok (.value (.map (some w.heap.size))) (w.alloc (.map #[] 0)) := by
    simp [execOp, ho, Instr.makeMap, Result.andThen]
  refine ⟨_, w.alloc (.map #[] 0), plAt pl st.heap.length (mkPl w.heap.size 0 0 0), hrun, fun k hk _ => plAt_lt hk, by simp, hmk ?_, .inr ⟨_, rfl, ?_⟩⟩
  · refine ⟨#[], 0, by rw [plAt_eq]; exact heap_new w _, fun e he => (by cases he), fun x n hx => (by cases hx), List.nodup_nil⟩
  · have : Value.map (some w.heap.size) = Value.map (some (plAt pl st.heap.length (mkPl w.heap.size 0 0 0) st.heap.length).blk) := by rw [plAt_eq]
    rw [this]
    exact .amap (by simp)

theorem hop_update (hC : ConcP N m F A w0 st pl a w) {o : Oper} {t : TypeId} {x k v : Operand} (ho : o.op = .mapUpdate t x k v) {va vb vc : AV}
    (ha : RelA pl st.heap.length (Sany A w0.heap.size pl st.heap w) (Fresh w0.heap.size pl st.heap w) w va (a.eval x)) (hb : RelA pl st.heap.length (Sany A w0.heap.size pl st.heap w) (Fresh w0.heap.size pl st.heap w) w vb (a.eval k))
    (hc : RelA pl st.heap.length (Sany A w0.heap.size pl st.heap w) (Fresh w0.heap.size pl st.heap w) w vc (a.eval v)) {K : List OB → Prop} (h : updateW P st.heap t va vb vc K) :
    ∃ h', K h' ∧ HopOk P N m F A w0 st pl a w o .junk h' := by
  unfold updateW at h
  split at h
  case h_2 => exact h.elim
  rename_i kt et ht
  split at h
  case h_2 => exact h.elim
  rename_i k1
  split at h
  case h_2 => exact h.elim
  rename_i nw ks f hk
  split at h
  case h_2 => exact h.elim
  rename_i u hu
  split at h
  case h_2 => exact h.elim
  rename_i fl n
  obtain ⟨law, rfl, hkey, f', rfl, h⟩ := h
  refine ⟨_, h, ?_⟩
  obtain ⟨es, clock, q1, q2, q3, q4⟩ := hC.heap k1 _ hk
  have hix := exactV_spec hu hb
  obtain ⟨l, hl⟩ := hkey rfl
  have hlive := owns_mp (pl := pl) hk
  have hxe : a.eval x = .map (some (pl k1).blk) := by
    generalize a.eval x = y at ha
    cases ha with
    | amap _ => rfl
  have hve : a.eval v = .int .i64 n ∧ wfV (.int .i64 n) := by
    generalize a.eval v = y at hc
    cases hc with
    | p hr =>
      cases hr with
      | c h1 h2 => exact ⟨rfl, h1⟩
  have hset : ∀ (o' : Obj) (w' : World), w' = { w with heap := w.heap.setIfInBounds (pl k1).blk o' } → w'.heap[(pl k1).blk]? = some o' ∧ (∀ b, b ≠ (pl k1).blk → w'.heap[b]? = w.heap[b]?) ∧ w'.heap.size = w.heap.size := by
    rintro o' w' rfl
    have := hC.ownlt k1 _ hlive
    refine ⟨by simp [this], fun b hb => ?_, by simp⟩
    exact Array.getElem?_setIfInBounds_ne (Ne.symm hb)
  have main : ∃ es' clock', (execOp a.eval o).run P w = .ok .skip { w with heap := w.heap.setIfInBounds (pl k1).blk (.map es' clock') } ∧
      (∀ e ∈ es'.toList, isKey P kt e.key ∧ ∃ m, e.val = .int .i64 m ∧ wfV (.int .i64 m) ∧ updM f u n e.key = some m) ∧ (∀ (y : Value) (m : Int), updM f u n y = some m → ∃ e ∈ es'.toList, e.key = y) ∧ (es'.toList.map (·.key)).Nodup := by
    rcases law.find w hl es.toList (fun e he => (q2 e he).1) with ⟨h1, h2⟩ | ⟨j, e, h1, h2, h3⟩
    · refine ⟨es.push { key := u, val := .int .i64 n, born := clock }, clock + 1, ?_, ?_, ?_, ?_⟩
      · simp [execOp, ho, Instr.mapUpdate, hxe, hve.1, hix, run_underlying ht, Go.MapKept.run_getObj_map q1, law.check w _ hl, h1, Go.MapKept.run_setObj_map _ q1, Result.andThen]
      · intro e he
        simp only [Array.toList_push, List.mem_append, List.mem_singleton] at he
        rcases he with he | rfl
        · obtain ⟨a1, m, a2, a3, a4⟩ := q2 e he
          exact ⟨a1, m, a2, a3, by rw [updM_ne _ _ (h2 e he)]; exact a4⟩
        · exact ⟨⟨l, hl⟩, n, rfl, hve.2, updM_eq _ _ _⟩
      · intro y m hy
        by_cases hyu : y = u
        · refine ⟨{ key := u, val := .int .i64 n, born := clock }, by simp, hyu.symm⟩
        · rw [updM_ne _ _ hyu] at hy
          obtain ⟨e, he, rfl⟩ := q3 _ _ hy
          exact ⟨e, by simp [Array.mem_toList_iff.1 he], rfl⟩
      · simp only [Array.toList_push, List.map_append, List.map_cons, List.map_nil]
        rw [List.nodup_append]
        refine ⟨q4, by simp, fun y hy z hz => ?_⟩
        obtain ⟨e, he, rfl⟩ := List.mem_map.1 hy
        have : z = u := by simpa using hz
        subst this
        exact h2 e he
    · have hj : es[j]? = some e := by simpa using h2
      have hmod : ∀ i, (es.modify j fun e' => { e' with key := u, val := .int .i64 n }).toList[i]? = (fun (e' : MapEntry) => if j = i then ({ e' with key := u, val := .int .i64 n } : MapEntry) else e') <$> es.toList[i]? := by
        intro i
        rw [Array.toList_modify, List.getElem?_modify]
      have hkeys : ((es.modify j fun e' => { e' with key := u, val := .int .i64 n }).toList.map (·.key)) = es.toList.map (·.key) := by
        apply List.ext_getElem?
        intro i
        rw [List.getElem?_map, List.getElem?_map, hmod]
        by_cases hij : j = i
        · subst hij; rw [h2]; simp [h3]
        · cases es.toList[i]? <;> simp [hij]
      have hne : ∀ i e', i ≠ j → es.toList[i]? = some e' → e'.key ≠ u := by
        intro i e' hi he' hu'
        have g1 : (es.toList.map (·.key))[i]? = some u := by rw [List.getElem?_map, he']; simp [hu']
        have g2 : (es.toList.map (·.key))[j]? = some u := by rw [List.getElem?_map, h2]; simp [h3]
        obtain ⟨l1, g1⟩ := List.getElem?_eq_some_iff.1 g1
        obtain ⟨l2, g2⟩ := List.getElem?_eq_some_iff.1 g2
        exact hi ((List.getElem_inj q4).1 (g1.trans g2.symm))
      refine ⟨es.modify j fun e' => { e' with key := u, val := .int .i64 n }, clock, ?_, ?_, ?_, ?_⟩
      · simp [execOp, ho, Instr.mapUpdate, hxe, hve.1, hix, run_underlying ht, Go.MapKept.run_getObj_map q1, law.check w _ hl, h1, hj, h3, law.stays w hl, Go.MapKept.run_setObj_map _ q1, Result.andThen]
      · intro e' he'
        obtain ⟨i, hi⟩ := List.getElem?_of_mem he'
        rw [hmod] at hi
        cases hei : es.toList[i]? with
        | none => rw [hei] at hi; cases hi
        | some e0 =>
          rw [hei] at hi
          simp only [Option.map_eq_map, Option.map_some, Option.some.injEq] at hi
          by_cases hij : j = i
          · rw [if_pos hij] at hi
            subst hi
            exact ⟨⟨l, hl⟩, n, rfl, hve.2, updM_eq _ _ _⟩
          · rw [if_neg hij] at hi
            subst hi
            obtain ⟨a1, m, a2, a3, a4⟩ := q2 e0 (List.mem_of_getElem? hei)
            exact ⟨a1, m, a2, a3, by rw [updM_ne _ _ (hne i e0 (Ne.symm hij) hei)]; exact a4⟩
      · intro y m hy
        have : y ∈ es.toList.map (·.key) := by
          by_cases hyu : y = u
          · rw [hyu]; exact List.mem_map.2 ⟨e, List.mem_of_getElem? h2, h3⟩
          · rw [updM_ne _ _ hyu] at hy
            obtain ⟨e1, he1, h4⟩ := q3 _ _ hy
            exact List.mem_map.2 ⟨e1, he1, h4⟩
        rw [← hkeys] at this
        obtain ⟨e1, he1, h4⟩ := List.mem_map.1 this
        exact ⟨e1, he1, h4⟩
      · rw [hkeys]; exact q4
  obtain ⟨es', clock', hrun, p1, p2, p3⟩ := main
  obtain ⟨s1, s2, s3⟩ := hset (.map es' clock') _ rfl
  obtain ⟨hN, hmk⟩ := hC.write (w' := { w with heap := w.heap.setIfInBounds (pl k1).blk (.map es' clock') }) hk (ob' := .mp nw (isKey P kt) (updM f u n)) rfl rfl rfl rfl rfl rfl s3 s2
  exact ⟨_, _, pl, hrun, fun _ _ _ => rfl, by simp, hmk ⟨es', clock', s1, p1, p2, p3⟩, .inl ⟨rfl, rfl⟩⟩
end
end Go.Av

namespace Go.Av
open Go.RowKit

/-! Rows of rows. -/
theorem rowsTy_out {P : Program} {e : TypeId} {K0 : Prop} {K : List PV → Prop} (h : rowsTy P e K0 K) : K0 ∨ ∃ e', P.underlying e = some (.slice e') ∧ zNil P e = true ∧ P.cellsOf e = 1 ∧ zeroOk P e' = true ∧ P.cellsOf e' ≠ 0 ∧ K (zeroPV P e') := by
  unfold rowsTy at h
  split at h
  · rename_i e' he
    rcases h with h | ⟨h1, h2, h3, h4, h5⟩
    · exact .inl h
    · exact .inr ⟨e', he, h1, Nat.eq_of_beq_eq_true h2, h3, by intro h0; rw [h0] at h4; exact absurd h4 (by decide), h5⟩
  · exact .inl h
theorem zNil_spec {P : Program} {e : TypeId} (h : zNil P e = true) : ∃ i, P.info? e = some i ∧ i.zero = some (.slice none 0 0) ∧ i.size = P.cellsOf e := by
  unfold zNil at h
  cases hi : P.info? e with
  | none => simp [hi] at h
  | some i =>
    simp only [hi, Option.bind_some] at h
    split at h
    · rename_i hz; exact ⟨i, rfl, hz, by simp [Program.cellsOf, hi]⟩
    · cases h
theorem zeroPV_len {P : Program} {e : TypeId} (h : zeroOk P e = true) : (zeroPV P e).length = P.cellsOf e := by
  obtain ⟨i, z, hi, hz1, hz2, hz3, hz4, hz5⟩ := zeroOk_spec h
  rw [hz2]; simpa using hz4

/-- some own blocks are given up -/
def Killed (h0 h : List OB) : Prop := h.length = h0.length ∧ ∀ k : Nat, h[k]? = h0[k]? ∨ h[k]? = some OB.dead
theorem Killed.refl (h : List OB) : Killed h h := ⟨rfl, fun _ => .inl rfl⟩
theorem Killed.set {h0 h : List OB} (hk : Killed h0 h) (k : Nat) : Killed h0 (h.set k .dead) := by
  refine ⟨by rw [List.length_set]; exact hk.1, fun k' => ?_⟩
  by_cases e : k = k'
  · subst e
    rcases Nat.lt_or_ge k h.length with h1 | h1
    · right; exact List.getElem?_set_self h1
    · left
      rw [List.getElem?_eq_none (by simpa using h1), List.getElem?_eq_none (by rw [← hk.1]; exact h1)]
  · rw [List.getElem?_set_ne e]; exact hk.2 k'

section
variable {N m : Nat} {F A : Nat → Prop} {w0 : World} {st : St} {pl : Nat → Pl} {a : Act} {w : World} {P : Program}

/-- own blocks are given up; a new one takes over what they owned -/
theorem ConcP.killPush (hC : ConcP N m F A w0 st pl a w) (hF : ∀ b, F b → b < w0.heap.size) {h : List OB} (hK : Killed st.heap h) {w' : World} (hos : w'.os = w.os) (htp : w'.tape = w.tape) (hout : w'.output = w.output) (hsz : w.heap.size ≤ w'.heap.size)
    (pn : Pl) (ob' : OB) (hk1 : kind ob' ≠ 1) (hown : ∀ b, obOwns pn ob' b → (∃ k, h[k]? = some .dead ∧ owns pl st.heap k b ∧ (nwOf ob' = true → isnew m st.heap k)) ∨ (w.heap.size ≤ b ∧ b < w'.heap.size))
    (hW : ∀ b, b < w.heap.size → (∀ k, h[k]? = some .dead → ¬ owns pl st.heap k b) → w'.heap[b]? = w.heap[b]?) :
    Newer A w0.heap.size pl st.heap w (plAt pl st.heap.length pn) (h ++ [ob']) w' ∧
    (OBrel (plAt pl st.heap.length pn) (h ++ [ob']).length (Sany A w0.heap.size (plAt pl st.heap.length pn) (h ++ [ob']) w') (Fresh w0.heap.size (plAt pl st.heap.length pn) (h ++ [ob']) w') w' st.heap.length ob' →
      ConcP N m F A w0 ⟨st.env, h ++ [ob']⟩ (plAt pl st.heap.length pn) a w') := by
  have hl : ∀ k b, owns (plAt pl st.heap.length pn) (h ++ [ob']) k b → (k < st.heap.length ∧ h[k]? = st.heap[k]? ∧ h[k]? ≠ some .dead ∧ owns pl st.heap k b) ∨ (k = st.heap.length ∧ obOwns pn ob' b) := by
    intro k b hk
    rw [← hK.1] at hk ⊢
    rcases owns_push hk with ⟨h1, h2⟩ | h1
    · left
      obtain ⟨ob, g1, g2⟩ := owns_out h2
      have hne : h[k]? ≠ some .dead := fun e => by rw [e] at g1; cases g1; exact g2
      have := (hK.2 k).resolve_right hne
      exact ⟨h1, this, hne, owns_of (this ▸ g1) g2⟩
    · exact .inr h1
  obtain ⟨hN, hmk⟩ := hC.regroup hF hos htp hout hsz (pl' := plAt pl st.heap.length pn) (heap' := h ++ [ob']) (by simp [hK.1]) (fun k hk => Pl.base_eq (plAt_lt hk))
    (fun k b hk => by
      rcases hl k b hk with ⟨_, _, _, h2⟩ | ⟨_, h2⟩
      · exact .inl ⟨k, h2⟩
      · rcases hown b h2 with ⟨k', _, h3, _⟩ | h3
        · exact .inl ⟨k', h3⟩
        · exact .inr h3)
    (fun b hb hn => hW b hb fun k _ => hn k)
  refine ⟨hN, fun hob => hmk (fun k k' b h1 h2 => ?_) (fun k b hn h1 => ?_) (fun k ob hk => ?_)⟩
  · rcases hl k b h1 with ⟨_, a1, a2, a3⟩ | ⟨a1, a2⟩ <;> rcases hl k' b h2 with ⟨_, b1, b2, b3⟩ | ⟨b1, b2⟩
    · exact hC.disj k k' b a3 b3
    · rcases hown b b2 with ⟨k0, c1, c2, _⟩ | c1
      · exact absurd (hC.disj k k0 b a3 c2 ▸ c1) a2
      · have := hC.ownlt k b a3; omega
    · rcases hown b a2 with ⟨k0, c1, c2, _⟩ | c1
      · exact absurd (hC.disj k' k0 b b3 c2 ▸ c1) b2
      · have := hC.ownlt k' b b3; omega
    · omega
  · rcases hl k b h1 with ⟨a0, a1, a2, a3⟩ | ⟨a1, a2⟩
    · refine hC.newb k b ?_ a3
      unfold isnew at hn ⊢
      rw [List.getElem?_append_left (by rw [hK.1]; exact a0), a1] at hn
      exact hn
    · rcases hown b a2 with ⟨k0, c1, c2, c3⟩ | c1
      · refine hC.newb k0 b (c3 ?_) c2
        unfold isnew at hn
        rw [a1, List.getElem?_append_right (by rw [hK.1]; exact Nat.le_refl _), hK.1] at hn
        simp only [Nat.sub_self, List.getElem?_cons_zero] at hn
        cases ob' with
        | dead => exact hn.elim
        | fix c => exact absurd rfl hk1
        | row nw fl z es => exact hn
        | mp nw ks f => exact hn
        | rows nw fl z es ho => exact hn
      · exact Nat.le_trans hC.hsize c1.1
  · rcases Nat.lt_trichotomy k st.heap.length with hlt | heq | hgt
    · rw [List.getElem?_append_left (by rw [hK.1]; exact hlt)] at hk
      by_cases hd : h[k]? = some .dead
      · right; rw [hd] at hk; cases hk; trivial
      · have he := (hK.2 k).resolve_right hd
        left
        refine ⟨by rw [← he]; exact hk, plAt_lt hlt, fun b hb => hW b (hC.ownlt k b (owns_of (by rw [← he]; exact hk) hb)) fun k' h1 h2 => ?_⟩
        have := hC.disj k k' b (owns_of (by rw [← he]; exact hk) hb) h2
        exact hd (this ▸ h1)
    · right
      subst heq
      rw [List.getElem?_append_right (by rw [hK.1]; exact Nat.le_refl _), hK.1] at hk
      simp at hk
      subst hk
      exact hob
    · rw [List.getElem?_eq_none (by simp [hK.1]; omega)] at hk; cases hk

theorem RowRel.nil {S : Nat → Prop} {z : List PV} (hz : 0 < z.length) : RowRel S w ⟨0, 0, 0, z.length⟩ z [] :=
  ⟨rfl, hz, Nat.zero_le _, Nat.zero_le _, fun i e he => by simp at he, fun hc => absurd hc (Nat.lt_irrefl 0)⟩

/-- rows that hold nothing yet -/
theorem RowsRel.made {pl : Nat → Pl} {L : Nat} {S Fr : Nat → Prop} {fl : Fl} {z : List PV} {blk cap n : Nat} {arr : Array Value} {ty : TypeId} (hz : 0 < z.length) (hcm : cap ≤ maxLen) (hn : n ≤ cap) (hb : 0 < cap → w.heap[blk]? = some (.cells arr ty (0, 0)) ∧ cap ≤ arr.size ∧ ∀ i, i < n → arr[i]? = some (.slice none 0 0)) :
    RowsRel pl L S Fr w ⟨⟨blk, 0, cap, 1⟩, List.replicate n ⟨0, 0, 0, z.length⟩⟩ fl z (List.replicate n []) none := by
  have hq : ∀ {i : Nat} {q : Pl0}, (List.replicate n (⟨0, 0, 0, z.length⟩ : Pl0))[i]? = some q → q = ⟨0, 0, 0, z.length⟩ := fun hq => by
    have := List.mem_of_getElem? hq; simp at this; exact this.2
  have he : ∀ {i : Nat} {e : List (List PV)}, (List.replicate n ([] : List (List PV)))[i]? = some e → e = [] ∧ i < n := fun {i e} he => by
    have h1 := List.mem_of_getElem? he
    have h2 := (List.getElem?_eq_some_iff.1 he).1
    simp at h1 h2; exact ⟨h1.2, h2⟩
  refine { sz := rfl, cap := hcm, len := by simpa using hn, inn := by simp, zpos := hz, mem := fun hc => ?_, row := fun i e q h1 h2 _ => ?_, out := fun _ _ hh => (by cases hh), apart := fun i j q q' h1 _ _ _ _ hc => ?_, apart0 := fun i q h1 _ hc => ?_ }
  · obtain ⟨h1, h2, h3⟩ := hb hc
    refine ⟨ty, arr, h1, by show 0 + cap ≤ arr.size; omega, fun i e q he' hq' => ?_⟩
    obtain ⟨rfl, hi⟩ := he he'
    cases hq hq'
    exact ⟨none, by show arr[0 + i]? = _; rw [Nat.zero_add]; exact h3 i hi, fun hc => absurd hc (Nat.lt_irrefl 0), rfl, Nat.zero_le _, Nat.zero_le _⟩
  · obtain ⟨rfl, _⟩ := he h1
    cases hq h2
    exact .nil hz
  · cases hq h1; exact absurd hc (Nat.lt_irrefl 0)
  · cases hq h1; exact absurd hc (Nat.lt_irrefl 0)

theorem owns_made {fl : Fl} {z : List PV} {blk cap n zl : Nat} {es : List (List (List PV))} {nw : Bool} {b : Nat} (h : obOwns ⟨⟨blk, 0, cap, 1⟩, List.replicate n ⟨0, 0, 0, zl⟩⟩ (.rows nw fl z es none) b) : b = blk ∧ 0 < cap := by
  rcases h with ⟨h1, h2⟩ | ⟨i, q, h1, _, h2, _⟩
  · exact ⟨h2.symm, h1⟩
  · have := List.mem_of_getElem? h1
    simp at this
    rw [this.2] at h2
    exact absurd h2 (Nat.lt_irrefl 0)

theorem hop_makeRows (hC : ConcP N m F A w0 st pl a w) (hF : ∀ b, F b → b < w0.heap.size) {o : Oper} {t e e' : TypeId} {l c : Operand} (ho : o.op = .makeSlice t l c) (ht : P.underlying t = some (.slice e)) {K : AV → List OB → Prop}
    (hzn : zNil P e = true) (h1 : P.cellsOf e = 1) (hz' : zeroOk P e' = true) (h0' : P.cellsOf e' ≠ 0)
    (h : withV st true l fun vl => ixW vl fun il => withV st true c fun vc => ixW vc fun ic =>
        zeroOk P e = true ∧ fB (P.bytesOf e) fun b => BndF true (0 ≤ il ∧ il ≤ ic ∧ ic ≤ 9223372036854775807 ∧ (b : Int) * ic ≤ 281474976710656) (EqN il.toNat fun n =>
        EqR (List.replicate n []) fun es => K (.osl st.heap.length 0 n) (st.heap ++ [.rows true .flat (zeroPV P e') es none]))) :
    ∃ v h', K v h' ∧ HopOk P N m F A w0 st pl a w o v h' := by
  obtain ⟨vl, h, hrl⟩ := withV_sound hC.seen h
  obtain ⟨il, h, hil⟩ := ixW_sound (pl := pl) (S := Sany A w0.heap.size pl st.heap w) (Fr := Fresh w0.heap.size pl st.heap w) (w := w) (L := st.heap.length) h
  obtain ⟨vc, h, hrc⟩ := withV_sound hC.seen h
  obtain ⟨ic, ⟨hz, h⟩, hic⟩ := ixW_sound (pl := pl) (S := Sany A w0.heap.size pl st.heap w) (Fr := Fresh w0.heap.size pl st.heap w) (w := w) (L := st.heap.length) h
  obtain ⟨hbd, n', rfl, es', rfl, hK⟩ := fNs_eq h
  obtain ⟨hl0, hlc, hc63, hb⟩ := hbd rfl
  obtain ⟨kl, el, _⟩ := hil _ (hrl rfl)
  obtain ⟨kc, ec, _⟩ := hic _ (hrc rfl)
  obtain ⟨i, hi, hzi, hsi⟩ := zNil_spec hzn
  have hbi : i.bytes = P.bytesOf e := by simp [Program.bytesOf, hi]
  have hrun : (execOp a.eval o).run P w = .ok (.value (.slice (some ⟨w.heap.size, 0, none⟩) il.toNat ic.toNat)) (w.alloc (.cells (madeCells #[.slice none 0 0] (ic.toNat * 1)) e)) := by
    have := run_make (P := P) w t e i (.slice none 0 0) ht hi hzi kl kc il ic hl0 hlc (by rw [hbi]; exact hb) hc63
    rw [hsi, h1] at this
    simp only [execOp, ho, el, ec, Sem.run_bind, this, Result.andThen_ok, Sem.run_pure]
    rfl
  have hcM : ic.toNat ≤ maxLen := by simp only [maxLen]; omega
  have hzl := zeroPV_len hz'
  obtain ⟨hN2, hmk⟩ := hC.newBlk hF ⟨⟨w.heap.size, 0, ic.toNat, 1⟩, List.replicate il.toNat ⟨0, 0, 0, (zeroPV P e').length⟩⟩ (madeCells #[.slice none 0 0] (ic.toNat * 1)) e (.rows true .flat (zeroPV P e') (List.replicate il.toNat []) none) fun b hb => (owns_made hb).1
  refine ⟨_, _, hK, _, _, plAt pl st.heap.length ⟨⟨w.heap.size, 0, ic.toNat, 1⟩, List.replicate il.toNat ⟨0, 0, 0, (zeroPV P e').length⟩⟩, hrun, fun k hk _ => plAt_lt hk, by simp, hmk ?_, .inr ⟨_, rfl, ?_⟩⟩
  · show RowsRel _ _ _ _ _ (plAt pl st.heap.length _ st.heap.length) _ _ _ _
    rw [plAt_eq]
    refine RowsRel.made (arr := madeCells #[.slice none 0 0] (ic.toNat * 1)) (ty := e) (by omega) hcM (by omega) fun _ => ⟨heap_new w _, by simp [madeCells], fun i hi => ?_⟩
    have hlt : i < ic.toNat := by omega
    simp [madeCells, hlt, Nat.mod_one]
  · refine .osl (by simp) (fun _ => ?_) ?_ (by omega) ?_
    · rw [plAt_eq]
      show some _ = some (⟨w.heap.size, 0 + 0 * 1, none⟩ : Addr)
      rfl
    · rw [plAt_eq]
      show 0 + ic.toNat = ic.toNat
      omega
    · rw [plAt_eq]; exact hcM

theorem hop_nilRows (hC : ConcP N m F A w0 st pl a w) (hF : ∀ b, F b → b < w0.heap.size) {o : Oper} {x : Operand} (ho : o.op = .assign x) (hx : isNilC x = true) {e' : TypeId} (hz' : zeroOk P e' = true) (h0' : P.cellsOf e' ≠ 0) :
    HopOk P N m F A w0 st pl a w o (.osl st.heap.length 0 0) (st.heap ++ [.rows true .flat (zeroPV P e') [] none]) := by
  have hzl := zeroPV_len hz'
  obtain ⟨hN, hmk⟩ := hC.newOb hF (Ext.refl w) ⟨⟨0, 0, 0, 1⟩, List.replicate 0 ⟨0, 0, 0, (zeroPV P e').length⟩⟩ (.rows true .flat (zeroPV P e') [] none) fun b hb => absurd (owns_made hb).2 (Nat.lt_irrefl 0)
  have hxe : a.eval x = .slice none 0 0 := by
    unfold isNilC at hx
    split at hx
    · rfl
    · simp at hx
  have hrun : (execOp a.eval o).run P w = .ok (.value (.slice none 0 0)) w := by
    simp only [execOp, ho, hxe, Sem.run_pure]
  refine ⟨_, w, _, hrun, fun k hk _ => plAt_lt hk, by simp, hmk ?_, .inr ⟨.slice none 0 0, rfl, ?_⟩⟩
  · show RowsRel _ _ _ _ _ (plAt pl st.heap.length _ st.heap.length) _ _ _ _
    rw [plAt_eq]
    exact RowsRel.made (n := 0) (arr := #[]) (ty := 0) (by omega) (Nat.zero_le _) (Nat.zero_le _) fun hc => absurd hc (Nat.lt_irrefl 0)
  · refine .osl (by simp) (fun hlt => ?_) ?_ (Nat.le_refl _) ?_
    · rw [plAt_eq] at hlt; exact absurd hlt (by simp)
    · rw [plAt_eq]
    · rw [plAt_eq]; exact Nat.zero_le _

theorem RowRel.sub {S : Nat → Prop} {p : Pl0} {z : List PV} {es : List (List PV)} (h : RowRel S w p z es) {lo n C : Nat} (hn : lo + n ≤ es.length) (hC : lo + C = p.cap) (hnC : n ≤ C) : RowRel S w ⟨p.blk, p.off + lo * p.sz, C, z.length⟩ z ((es.drop lo).take n) := by
  obtain ⟨g1, g2, g3, g4, g5, g6⟩ := h
  have hget : ∀ (i : Nat) (e : List PV), ((es.drop lo).take n)[i]? = some e → es[lo + i]? = some e ∧ i < n := fun i e he => by
    rw [List.getElem?_take] at he
    split at he
    · rename_i hlt; exact ⟨by rwa [List.getElem?_drop] at he, hlt⟩
    · cases he
  refine ⟨rfl, g2, by show C ≤ maxLen; omega, by show _ ≤ C; simp; omega, fun i e he => g5 _ _ (hget i e he).1, fun hc => ?_⟩
  have hc : 0 < C := hc
  obtain ⟨ty, arr, q1, q2, q3⟩ := g6 (by omega)
  refine ⟨ty, arr, q1, ?_, fun i j e p' he hp => ?_⟩
  · show p.off + lo * p.sz + C * z.length ≤ arr.size
    rw [← hC, Nat.add_mul] at q2
    rw [g1]; omega
  · obtain ⟨x, r1, r2, r3⟩ := q3 _ _ _ _ (hget i e he).1 hp
    refine ⟨x, ?_, r2, r3⟩
    show arr[p.off + lo * p.sz + (i * z.length + j)]? = some x
    have : p.off + lo * p.sz + (i * z.length + j) = p.off + ((lo + i) * z.length + j) := by rw [g1, Nat.add_mul]; omega
    rw [this]; exact r1

/-- a value that goes over into a row of rows -/
theorem takeRow_sound (hC : ConcP N m F A w0 st pl a w) {h : List OB} (hK : Killed st.heap h) {z : List PV} (hz : 0 < z.length) {v : AV} {u : Value} {K : Fl → List (List PV) → List OB → Prop} (ht : takeRowW h z v K)
    (hu : RelA pl st.heap.length (Sany A w0.heap.size pl st.heap w) (Fresh w0.heap.size pl st.heap w) w v u) :
    ∃ fl e h' q Ad, K fl e h' ∧ Killed st.heap h' ∧ (∀ k : Nat, h[k]? = some OB.dead → h'[k]? = some OB.dead) ∧ (∀ (k : Nat) nw fl z es ho, h[k]? = some (OB.rows nw fl z es ho) → h'[k]? = h[k]?) ∧ u = .slice Ad e.length q.cap ∧ (0 < q.cap → Ad = some ⟨q.blk, q.off, none⟩) ∧
      q.sz = z.length ∧ q.cap ≤ maxLen ∧ e.length ≤ q.cap ∧ RowRel (flagS (Sany A w0.heap.size pl st.heap w) (Fresh w0.heap.size pl st.heap w) fl) w q z e ∧
      (0 < q.cap → ∃ k, h[k]? ≠ some .dead ∧ h'[k]? = some .dead ∧ owns pl st.heap k q.blk ∧ isnew m st.heap k ∧ ∃ z' es', st.heap[k]? = some (.row true fl z' es')) := by
  unfold takeRowW at ht
  split at ht
  case h_1 k lo n =>
    split at ht
    case h_2 => exact ht.elim
    rename_i fl z' es hk
    obtain ⟨rfl, hn, es', rfl, hK'⟩ := ht
    have hn := hn rfl
    have hk0 : st.heap[k]? = some (.row true fl z' es) := by
      rcases hK.2 k with e | e
      · rw [← e]; exact hk
      · rw [e] at hk; cases hk
    have hlt := (List.getElem?_eq_some_iff.1 hk).1
    have hR : RowRel _ w (pl k).toPl0 z' es := hC.heap k _ hk0
    cases hu with
    | @osl _ _ _ C A' hkL hA hCc hn' hM =>
      have hlen : ((es.drop lo).take n).length = n := by simp; omega
      refine ⟨fl, _, _, ⟨(pl k).blk, (pl k).off + lo * (pl k).sz, C, z'.length⟩, A', hK', hK.set k, fun k' h1 => ?_, fun k' nw1 fl1 z1 es1 ho1 h1 => ?_, by rw [hlen], fun hc => hA ?_, rfl, by show C ≤ maxLen; omega, by rw [hlen]; exact hn', hR.sub hn hCc hn', fun hc => ⟨k, by rw [hk]; simp, List.getElem?_set_self hlt, owns_row hk0 ?_, ?_, z', es, hk0⟩⟩
      · by_cases e : k = k'
        · subst e; exact List.getElem?_set_self hlt
        · rw [List.getElem?_set_ne e]; exact h1
      · by_cases e : k = k'
        · subst e; rw [hk] at h1; cases h1
        · rw [List.getElem?_set_ne e]
      · have hc : 0 < C := hc
        omega
      · have hc : 0 < C := hc
        omega
      · unfold isnew; rw [hk0]
  case h_2 fl =>
    obtain ⟨rfl, _, _⟩ := hu.cinv
    exact ⟨.flat, _, _, ⟨0, 0, 0, z.length⟩, none, ht, hK, fun _ h => h, fun _ _ _ _ _ _ _ => rfl, rfl, fun hc => absurd hc (Nat.lt_irrefl 0), rfl, Nat.zero_le _, Nat.zero_le _, .nil hz, fun hc => absurd hc (Nat.lt_irrefl 0)⟩
  case h_3 => exact ht.elim

/-- parts of a literal, taken over one behind the other -/
structure Parts (pl : Nat → Pl) (S Fr : Nat → Prop) (w : World) (m : Nat) (h0 h : List OB) (z : List PV) (fl : Fl) (es : List (List (List PV))) (inn : List Pl0) (arr : Array Value) : Prop where
  kill : Killed h0 h
  li : inn.length = es.length
  la : arr.size = es.length
  cell : ∀ (i : Nat) (e : List (List PV)) (q : Pl0), es[i]? = some e → inn[i]? = some q → ∃ Ad, arr[i]? = some (.slice Ad e.length q.cap) ∧ (0 < q.cap → Ad = some ⟨q.blk, q.off, none⟩) ∧ q.sz = z.length ∧ q.cap ≤ maxLen ∧ e.length ≤ q.cap ∧ RowRel (flagS S Fr fl) w q z e
  own : ∀ (i : Nat) (q : Pl0), inn[i]? = some q → 0 < q.cap → ∃ k, h[k]? = some .dead ∧ h0[k]? ≠ some .dead ∧ owns pl h0 k q.blk ∧ isnew m h0 k
  apart : ∀ (i j : Nat) (q q' : Pl0), inn[i]? = some q → inn[j]? = some q' → i ≠ j → 0 < q.cap → 0 < q'.cap → q.blk ≠ q'.blk

theorem partsR_sound (hC : ConcP N m F A w0 st pl a w) {z : List PV} (hz : 0 < z.length) : ∀ {parts : List (Nat × Operand)} {fl : Fl} {es : List (List (List PV))} {h : List OB} {inn : List Pl0} {arr : Array Value} {K : Fl → List (List (List PV)) → List OB → Prop},
    partsRW st z parts fl es h K → Parts pl (Sany A w0.heap.size pl st.heap w) (Fresh w0.heap.size pl st.heap w) w m st.heap h z fl es inn arr →
    ∃ fl' es' h' inn' arr', K fl' es' h' ∧ es'.length = es.length ∧ Instr.fill (fun i => some (i * 1, 1)) arr (parts.map fun (i, x) => (i, a.eval x)) = some arr' ∧
      Parts pl (Sany A w0.heap.size pl st.heap w) (Fresh w0.heap.size pl st.heap w) w m st.heap h' z fl' es' inn' arr'
  | [], fl, es, h, inn, arr, K, hk, hp => ⟨fl, es, h, inn, arr, hk, rfl, rfl, hp⟩
  | (i, x) :: r, fl, es, h, inn, arr, K, hk, hp => by
    simp only [partsRW] at hk
    obtain ⟨v, hv, hr⟩ := withV_sound hC.seen hk
    obtain ⟨fl1, e, h1, q, Ad, ⟨hi, hk1⟩, t1, t2, _, t3, t4, t5, t6, t7, t8, t9⟩ := takeRow_sound hC hp.kill hz hv (hr rfl)
    have hi : i < es.length := by simpa using hi
    have hFS : ∀ b, Fresh w0.heap.size pl st.heap w b → Sany A w0.heap.size pl st.heap w b := fun b hb => ⟨hb.2, .inr hb.1⟩
    have hone : (a.eval x).cells = #[a.eval x] := cells_one (by rw [t3]; rfl)
    have hget : ∀ j, (putC arr (i * 1) (a.eval x).cells)[j]? = if j = i then some (a.eval x) else arr[j]? := by
      intro j
      rw [get_putC, hone]
      by_cases hj : j = i
      · subst hj
        rw [if_pos ⟨by omega, by simp, by rw [hp.la]; exact hi⟩, if_pos rfl]
        simp
      · rw [if_neg hj, if_neg (by simp; omega)]
    have hp1 : Parts pl (Sany A w0.heap.size pl st.heap w) (Fresh w0.heap.size pl st.heap w) w m st.heap h1 z (Fl.join fl fl1) (es.set i e) (inn.set i q) (putC arr (i * 1) (a.eval x).cells) := by
      refine { kill := t1, li := by simp [hp.li], la := by rw [size_putC, hp.la, List.length_set], cell := fun j e' q' he hq => ?_, own := fun j q' hq hc => ?_, apart := fun j j' q1 q2 hq1 hq2 hne hc1 hc2 => ?_ }
      · rw [hget]
        by_cases hj : i = j
        · subst hj
          rw [List.getElem?_set_self hi] at he
          rw [List.getElem?_set_self (by rw [hp.li]; exact hi)] at hq
          cases he; cases hq
          rw [if_pos rfl]
          exact ⟨Ad, by rw [t3], t4, t5, t6, t7, t8.mono (flag_join_right hFS _ _) (fun _ _ => rfl) (fun _ => rfl)⟩
        · rw [List.getElem?_set_ne hj] at he hq
          rw [if_neg (Ne.symm hj)]
          obtain ⟨Ad', c1, c2, c3, c4, c5, c6⟩ := hp.cell j e' q' he hq
          exact ⟨Ad', c1, c2, c3, c4, c5, c6.mono (flag_join_left hFS _ _) (fun _ _ => rfl) (fun _ => rfl)⟩
      · by_cases hj : i = j
        · subst hj
          rw [List.getElem?_set_self (by rw [hp.li]; exact hi)] at hq
          cases hq
          obtain ⟨k, g1, g2, g3, g4, _⟩ := t9 hc
          refine ⟨k, g2, fun e0 => ?_, g3, g4⟩
          obtain ⟨ob, o1, o2⟩ := owns_out g3
          rw [e0] at o1; cases o1; exact o2
        · rw [List.getElem?_set_ne hj] at hq
          obtain ⟨k, g1, g2, g3, g4⟩ := hp.own j q' hq hc
          exact ⟨k, t2 k g1, g2, g3, g4⟩
      · have key : ∀ (j : Nat) (q' : Pl0), inn[j]? = some q' → 0 < q'.cap → 0 < q.cap → q.blk ≠ q'.blk := by
          intro j q' hq hc hcq e0
          obtain ⟨k, g1, g2, g3, g4, _⟩ := t9 hcq
          obtain ⟨k', g1', g2', g3', g4'⟩ := hp.own j q' hq hc
          rw [e0] at g3
          exact g1 (hC.disj k k' _ g3 g3' ▸ g1')
        by_cases hj : i = j
        · subst hj
          rw [List.getElem?_set_self (by rw [hp.li]; exact hi)] at hq1
          rw [List.getElem?_set_ne hne] at hq2
          cases hq1
          exact key j' q2 hq2 hc2 hc1
        · rw [List.getElem?_set_ne hj] at hq1
          by_cases hj' : i = j'
          · subst hj'
            rw [List.getElem?_set_self (by rw [hp.li]; exact hi)] at hq2
            cases hq2
            exact Ne.symm (key j q1 hq1 hc1 hc2)
          · rw [List.getElem?_set_ne hj'] at hq2
            exact hp.apart j j' q1 q2 hq1 hq2 hne hc1 hc2
    obtain ⟨fl', es', h', inn', arr', hK, hle, hfill, hp'⟩ := partsR_sound hC hz hk1 hp1
    refine ⟨fl', es', h', inn', arr', hK, by rw [hle, List.length_set], ?_, hp'⟩
    simp only [List.map_cons, Instr.fill]
    have hcnd : ¬ ((a.eval x).cells.size ≠ 1 || decide (i * 1 + (a.eval x).cells.size > arr.size)) = true := by
      simp only [ne_eq, Bool.or_eq_true, decide_eq_true_eq, not_or, Decidable.not_not]
      rw [hone, hp.la]
      exact ⟨rfl, by simp; omega⟩
    rw [if_neg hcnd]
    exact hfill

theorem hop_buildRows (hC : ConcP N m F A w0 st pl a w) (hF : ∀ b, F b → b < w0.heap.size) {o : Oper} {t e e' : TypeId} {len : Nat} {parts : Array (Nat × Operand)} (ho : o.op = .buildSlice t len parts) (ht : P.underlying t = some (.slice e)) {K : AV → List OB → Prop}
    (hzn : zNil P e = true) (h1 : P.cellsOf e = 1) (hz' : zeroOk P e' = true) (h0' : P.cellsOf e' ≠ 0) (h24 : len ≤ 16777216)
    (h : partsRW st (zeroPV P e') parts.toList .flat (List.replicate len []) st.heap fun fl es h => EqR es fun es => K (.osl h.length 0 len) (h ++ [.rows true fl (zeroPV P e') es none])) :
    ∃ v h', K v h' ∧ HopOk P N m F A w0 st pl a w o v h' := by
  have hzl := zeroPV_len hz'
  have hzp : 0 < (zeroPV P e').length := by omega
  obtain ⟨i, hi, hzi, hsi⟩ := zNil_spec hzn
  have hp0 : Parts pl (Sany A w0.heap.size pl st.heap w) (Fresh w0.heap.size pl st.heap w) w m st.heap st.heap (zeroPV P e') .flat (List.replicate len []) (List.replicate len ⟨0, 0, 0, (zeroPV P e').length⟩) (madeCells #[.slice none 0 0] len) := by
    have hq : ∀ {i : Nat} {q : Pl0}, (List.replicate len (⟨0, 0, 0, (zeroPV P e').length⟩ : Pl0))[i]? = some q → q = ⟨0, 0, 0, (zeroPV P e').length⟩ := fun hq => by
      have := List.mem_of_getElem? hq; simp at this; exact this.2
    refine { kill := .refl _, li := by simp, la := by simp [madeCells], cell := fun j e q he hq' => ?_, own := fun j q hq' hc => ?_, apart := fun j j' q q' hq' _ _ hc => ?_ }
    · cases hq hq'
      have h2 := (List.getElem?_eq_some_iff.1 he).1
      have h3 := List.mem_of_getElem? he
      simp at h2 h3
      obtain ⟨_, rfl⟩ := h3
      exact ⟨none, by simp [madeCells, h2, Nat.mod_one], fun hc => absurd hc (Nat.lt_irrefl 0), rfl, Nat.zero_le _, Nat.zero_le _, .nil hzp⟩
    · cases hq hq'; exact absurd hc (Nat.lt_irrefl 0)
    · cases hq hq'; exact absurd hc (Nat.lt_irrefl 0)
  obtain ⟨fl, es, h', inn, arr, ⟨es', rfl, hK⟩, hle, hfill, hp⟩ := partsR_sound hC hzp h hp0
  have hles : es.length = len := by rw [hle]; simp
  have hlenM : len ≤ maxLen := by simp only [maxLen]; omega
  have hrun : (execOp a.eval o).run P w = .ok (.value (.slice (some ⟨w.heap.size, 0, none⟩) len len)) (w.alloc (.cells arr e)) := by
    have h24' : ¬ (len * P.cellsOf e > 2 ^ 24) := by rw [h1]; omega
    have hfill' : Instr.fill (fun i => some (i * P.cellsOf e, P.cellsOf e)) (madeCells #[.slice none 0 0] len) (parts.map fun (i, x) => (i, a.eval x)).toList = some arr := by
      rw [Array.toList_map, h1]
      exact hfill
    have hzv : (zeroValue e).run P w = .ok (.slice none 0 0) w := by simp [zeroValue, typeInfo, hi, hzi]
    have h0 : P.cellsOf e ≠ 0 := by omega
    simp only [execOp, ho, Instr.buildSlice, Sem.run_bind, run_underlying ht, Result.andThen_ok, run_sizeOf' h0, if_neg h24']
    by_cases hz0 : len * P.cellsOf e = 0
    · simp only [if_pos hz0, pure_bind]
      have hl0 : len = 0 := by rw [h1] at hz0; omega
      rw [hz0]
      rw [hl0] at hfill' ⊢
      have e0 : (Array.map (fun x => (#[] : Array Value)[x % (#[] : Array Value).size]!) (Array.range 0)) = madeCells #[.slice none 0 0] 0 := by simp [madeCells]
      rw [e0, hfill']
      simp only [Sem.run_bind, newRow, run_newObj, Result.andThen_ok, Sem.run_pure]
      rfl
    · simp only [if_neg hz0, Sem.run_bind, hzv, Result.andThen_ok, Sem.run_pure]
      have e0 : (Array.map (fun x => (Value.slice none 0 0).cells[x % (Value.slice none 0 0).cells.size]!) (Array.range (len * P.cellsOf e))) = madeCells #[.slice none 0 0] len := by rw [h1, Nat.mul_one]; rfl
      rw [e0, hfill']
      simp only [Sem.run_bind, newRow, run_newObj, Result.andThen_ok, Sem.run_pure]
      rfl
  obtain ⟨hN, hmk⟩ := hC.killPush hF hp.kill (w' := w.alloc (.cells arr e)) rfl rfl rfl (by simp) ⟨⟨w.heap.size, 0, len, 1⟩, inn⟩ (.rows true fl (zeroPV P e') es none) (by simp [kind]) (fun b hb => by
      rcases hb with ⟨_, h2⟩ | ⟨j, q, h2, _, h3, h4⟩
      · right; have h2 : w.heap.size = b := h2; subst h2; simp
      · left
        obtain ⟨k, g1, g2, g3, g4⟩ := hp.own j q h2 h3
        exact ⟨k, g1, h4 ▸ g3, fun _ => g4⟩) (fun b hb _ => Below.heap_alloc w _ b hb)
  rw [hp.kill.1] at hK
  refine ⟨_, _, hK, _, _, plAt pl st.heap.length ⟨⟨w.heap.size, 0, len, 1⟩, inn⟩, hrun, fun k hk _ => plAt_lt hk, by simp [hp.kill.1], hmk ?_, .inr ⟨_, rfl, ?_⟩⟩
  · show RowsRel _ _ _ _ _ (plAt pl st.heap.length _ st.heap.length) _ _ _ _
    rw [plAt_eq]
    refine { sz := rfl, cap := hlenM, len := by show es.length ≤ len; omega, inn := hp.li, zpos := hzp, mem := fun _ => ⟨e, arr, heap_new w _, by show 0 + len ≤ arr.size; rw [hp.la]; omega, fun j e1 q he hq => ?_⟩, row := fun j e1 q he hq _ => ?_, out := fun _ _ hh => (by cases hh), apart := fun j j' q q' h2 h3 h4 _ _ => hp.apart j j' q q' h2 h3 h4, apart0 := fun j q h2 _ h3 _ => ?_ }
    · obtain ⟨Ad, c1, c2, c3, c4, c5, _⟩ := hp.cell j e1 q he hq
      exact ⟨Ad, by show arr[0 + j]? = _; rw [Nat.zero_add]; exact c1, c2, c3, c4, c5⟩
    · obtain ⟨Ad, c1, c2, c3, c4, c5, c6⟩ := hp.cell j e1 q he hq
      refine c6.mono (flagS_mono hN.S hN.Fr fl) (flagS_same (fun b hb => hN.same b hb.1) (fun b hb => hN.same b hb.2) fl) fun hc => ?_
      obtain ⟨k, g1, g2, g3, g4⟩ := hp.own j q hq hc
      exact Below.heap_alloc w _ _ (hC.ownlt k _ g3)
    · obtain ⟨k, g1, g2, g3, g4⟩ := hp.own j q h2 h3
      have := hC.ownlt k _ g3
      show q.blk ≠ w.heap.size
      omega
  · refine .osl (by simp [hp.kill.1]) (fun _ => ?_) ?_ (Nat.le_refl _) ?_
    · rw [plAt_eq]
      show some _ = some (⟨w.heap.size, 0 + 0 * 1, none⟩ : Addr)
      rfl
    · rw [plAt_eq]
      show 0 + len = len
      omega
    · rw [plAt_eq]; exact hlenM
end
end Go.Av

namespace Go.Av
open Go.RowKit

section
variable {N m : Nat} {F A : Nat → Prop} {w0 : World} {st : St} {pl : Nat → Pl} {a : Act} {w : World} {P : Program}

theorem isnew_rows {h : List OB} {k : Nat} {nw : Bool} {fl : Fl} {z : List PV} {es : List (List (List PV))} {ho : Option (Nat × Nat)} (hk : h[k]? = some (.rows nw fl z es ho)) : isnew m h k ↔ nw = true := by
  unfold isnew; rw [hk]

theorem hop_storeRows (hC : ConcP N m F A w0 st pl a w) (hF : ∀ b, F b → b < w0.heap.size) {o : Oper} {t : TypeId} {x y : Operand} (ho : o.op = .store t x y) {k i : Nat} {vy : AV}
    (hx : RelA pl st.heap.length (Sany A w0.heap.size pl st.heap w) (Fresh w0.heap.size pl st.heap w) w (.orow k i 0) (a.eval x)) (hy : RelA pl st.heap.length (Sany A w0.heap.size pl st.heap w) (Fresh w0.heap.size pl st.heap w) w vy (a.eval y))
    (h1 : P.cellsOf t = 1) {nw : Bool} {fl : Fl} {z : List PV} {es : List (List (List PV))} (hk : st.heap[k]? = some (.rows nw fl z es none)) (hmk : m ≤ k) {K : AV → List OB → Prop}
    (h : takeRowW st.heap z vy fun fl' e h' => BndF true (i < es.length) (EqR (es.set i e) fun es => K .junk (h'.set k (.rows nw (Fl.join fl fl') z es none)))) : ∃ v h', K v h' ∧ HopOk P N m F A w0 st pl a w o v h' := by
  have hR : RowsRel pl st.heap.length (Sany A w0.heap.size pl st.heap w) (Fresh w0.heap.size pl st.heap w) w (pl k) fl z es none := hC.heap k _ hk
  obtain ⟨fl', e, h', q, Ad, ⟨hi, es2, rfl, hK⟩, t1, t2, t2', t3, t4, t5, t6, t7, t8, t9⟩ := takeRow_sound hC (.refl _) hR.zpos h hy
  have hi := hi rfl
  have hFS : ∀ b, Fresh w0.heap.size pl st.heap w b → Sany A w0.heap.size pl st.heap w b := fun b hb => ⟨hb.2, .inr hb.1⟩
  have hkl := (List.getElem?_eq_some_iff.1 hk).1
  have hk' : h'[k]? = some (.rows nw fl z es none) := by rw [t2' k _ _ _ _ _ hk]; exact hk
  have hkl' : k < h'.length := by rw [t1.1]; exact hkl
  have hcap : 0 < (pl k).cap := by have := hR.len; omega
  obtain ⟨ty, arr, q1, q2, q3⟩ := hR.mem hcap
  have hxe : a.eval x = .pointer (some ⟨(pl k).blk, (pl k).off + i, none⟩) := by
    generalize a.eval x = u at hx ⊢
    cases hx with
    | orow hkL => rw [hR.sz]; simp
  have hone : (a.eval y).cells = #[a.eval y] := cells_one (by rw [t3]; rfl)
  have hlen := hR.len
  have hst := run_storeVar (P := P) (w := w) (t := t) (by omega) (g := (pl k).blk) (o := (pl k).off + i) (u := a.eval y) (by rw [hone, h1]; rfl) q1 (by rw [h1]; omega) (fun j v hv => by
    rw [hone] at hv
    have hj := (Array.getElem?_eq_some_iff.1 hv).1
    simp at hj
    subst hj
    simp at hv
    subst hv
    rw [t3]; rfl)
  obtain ⟨s1, s2, s3, s4, s5⟩ := setRow_same w (pl k).blk (arr.toList.take ((pl k).off + i) ++ (a.eval y).cells.toList ++ arr.toList.drop ((pl k).off + i + P.cellsOf t)).toArray
  have hget : ∀ j, (arr.toList.take ((pl k).off + i) ++ (a.eval y).cells.toList ++ arr.toList.drop ((pl k).off + i + P.cellsOf t)).toArray[j]? = if j = (pl k).off + i then some (a.eval y) else arr[j]? := by
    intro j
    rw [List.getElem?_toArray, hone, h1]
    have := splice_get (l := arr.toList) (vs := [a.eval y]) (o := (pl k).off + i) (by simp; omega) j
    simp only [List.length_singleton] at this
    have e0 : (#[a.eval y] : Array Value).toList = [a.eval y] := rfl
    rw [e0, this]
    by_cases hj : j = (pl k).off + i
    · subst hj; rw [if_pos (by omega), if_pos rfl]; simp
    · rw [if_neg (by omega), if_neg hj, Array.getElem?_toList]
  let pl' : Nat → Pl := fun j => if j = k then ⟨(pl k).toPl0, (pl k).inn.set i q⟩ else pl j
  have hplk : pl' k = ⟨(pl k).toPl0, (pl k).inn.set i q⟩ := by simp [pl']
  have hpln : ∀ j, j ≠ k → pl' j = pl j := fun j hj => by simp [pl', hj]
  have hinn : i < (pl k).inn.length := by rw [hR.inn]; exact hi
  have hset : ∀ j, j ≠ k → (h'.set k (OB.rows nw (Fl.join fl fl') z (es.set i e) none))[j]? = h'[j]? := fun j hj => List.getElem?_set_ne (Ne.symm hj)
  have hsetk : (h'.set k (OB.rows nw (Fl.join fl fl') z (es.set i e) none))[k]? = some (.rows nw (Fl.join fl fl') z (es.set i e) none) := List.getElem?_set_self hkl'
  -- who owns what
  have hl : ∀ j b, owns pl' (h'.set k (.rows nw (Fl.join fl fl') z (es.set i e) none)) j b → (j ≠ k ∧ h'[j]? = st.heap[j]? ∧ h'[j]? ≠ some .dead ∧ owns pl st.heap j b) ∨ (j = k ∧ owns pl st.heap k b) ∨ (j = k ∧ 0 < q.cap ∧ q.blk = b) := by
    intro j b hj
    obtain ⟨ob, g1, g2⟩ := owns_out hj
    by_cases hjk : j = k
    · right
      subst hjk
      rw [hsetk] at g1
      cases g1
      rw [hplk] at g2
      rcases g2 with ⟨c1, c2⟩ | ⟨i', q', c1, c2, c3, c4⟩
      · exact .inl ⟨rfl, owns_of hk (.inl ⟨c1, c2⟩)⟩
      · have c1 : ((pl j).inn.set i q)[i']? = some q' := c1
        by_cases hii : i = i'
        · subst hii
          rw [List.getElem?_set_self hinn] at c1
          cases c1
          exact .inr ⟨rfl, c3, c4⟩
        · rw [List.getElem?_set_ne hii] at c1
          exact .inl ⟨rfl, owns_of hk (.inr ⟨i', q', c1, by simp, c3, c4⟩)⟩
    · left
      rw [hset j hjk] at g1
      rw [hpln j hjk] at g2
      have hne : h'[j]? ≠ some .dead := fun e0 => by rw [e0] at g1; cases g1; exact g2
      have := (t1.2 j).resolve_right hne
      exact ⟨hjk, this, hne, owns_of (this ▸ g1) g2⟩
  obtain ⟨hN, hmk'⟩ := hC.regroup hF s1 s2 s3 (Nat.le_of_eq s4.symm) (pl' := pl') (heap' := h'.set k (.rows nw (Fl.join fl fl') z (es.set i e) none)) (by simp [t1.1])
    (fun j _ => by
      by_cases hjk : j = k
      · subst hjk; rw [hplk]; rfl
      · rw [hpln j hjk]; rfl)
    (fun j b hj => by
      rcases hl j b hj with ⟨_, _, _, g⟩ | ⟨_, g⟩ | ⟨_, g1, g2⟩
      · exact .inl ⟨j, g⟩
      · exact .inl ⟨k, g⟩
      · obtain ⟨k2, _, _, g3, _⟩ := t9 g1
        exact .inl ⟨k2, g2 ▸ g3⟩)
    (fun b hb hn => s5 b fun e0 => hn k (owns_of hk (.inl ⟨hcap, e0.symm⟩)))
  have hne2 : ∀ {b : Nat} {j : Nat}, h'[j]? ≠ some .dead → owns pl st.heap j b → ¬ (0 < q.cap ∧ q.blk = b) := by
    intro b j hj ho2 ⟨g1, g2⟩
    obtain ⟨k2, _, g4, g3, _⟩ := t9 g1
    exact hj (hC.disj j k2 b ho2 (g2 ▸ g3) ▸ g4)
  refine ⟨_, _, hK, .skip, _, pl', ?_, fun j _ hj => hpln j (by omega), by simp [t1.1], hmk' (fun j j' b g1 g2 => ?_) (fun j b hn hj => ?_) (fun j ob hj => ?_), .inl ⟨rfl, rfl⟩⟩
  · simp only [execOp, ho, hxe, Instr.storeAt, Instr.sureAddr, Sem.run_bind, Sem.run_pure, Result.andThen_ok, hst]
  · rcases hl j b g1 with ⟨a1, a2, a3, a4⟩ | ⟨a1, a2⟩ | ⟨a1, a2⟩ <;> rcases hl j' b g2 with ⟨b1, b2, b3, b4⟩ | ⟨b1, b2⟩ | ⟨b1, b2⟩
    · exact hC.disj j j' b a4 b4
    · rw [b1]; exact hC.disj j k b a4 b2
    · exact absurd b2 (hne2 a3 a4)
    · rw [a1]; exact hC.disj k j' b a2 b4
    · omega
    · omega
    · exact absurd a2 (hne2 b3 b4)
    · omega
    · omega
  · rcases hl j b hj with ⟨a1, a2, a3, a4⟩ | ⟨a1, a2⟩ | ⟨a1, a2, a3⟩
    · refine hC.newb j b ?_ a4
      unfold isnew at hn ⊢
      rw [hset j a1, a2] at hn
      exact hn
    · subst a1
      rw [isnew_rows hsetk] at hn
      exact hC.newb j b ((isnew_rows hk).2 hn) a2
    · obtain ⟨k2, _, g4, g3, g5, _⟩ := t9 a2
      exact hC.newb k2 b g5 (a3 ▸ g3)
  · by_cases hjk : j = k
    · subst hjk
      right
      rw [hsetk] at hj
      cases hj
      show RowsRel _ _ _ _ _ (pl' j) _ _ _ _
      rw [hplk]
      refine { sz := hR.sz, cap := hR.cap, len := by rw [List.length_set]; exact hR.len, inn := by simp [hR.inn], zpos := hR.zpos, mem := fun _ => ⟨ty, _, setRow_heap w _ arr _ ty (0, 0) q1, ?_, fun i' e1 q' he hq => ?_⟩, row := fun i' e1 q' he hq _ => ?_, out := fun _ _ hh => (by cases hh), apart := fun i1 i2 p1 p2 h1' h2' hne _ _ c1 c2 => ?_, apart0 := fun i1 p1 h1' _ c1 c2 => ?_ }
      · simp only [List.size_toArray, List.length_append, List.length_take, List.length_drop, Array.length_toList, hone, h1]
        have : (pl j).off + i < arr.size := by omega
        simp
        omega
      · have hq : ((pl j).inn.set i q)[i']? = some q' := hq
        show ∃ Ad', (_ : Array Value)[(pl j).off + i']? = some (.slice Ad' e1.length q'.cap) ∧ _
        rw [hget]
        by_cases hii : i = i'
        · subst hii
          rw [List.getElem?_set_self hi] at he
          rw [List.getElem?_set_self hinn] at hq
          cases he; cases hq
          rw [if_pos rfl]
          exact ⟨Ad, by rw [t3], t4, t5, t6, t7⟩
        · rw [List.getElem?_set_ne hii] at he hq
          rw [if_neg (by omega)]
          exact q3 i' e1 q' he hq
      · have hq : ((pl j).inn.set i q)[i']? = some q' := hq
        by_cases hii : i = i'
        · subst hii
          rw [List.getElem?_set_self hi] at he
          rw [List.getElem?_set_self hinn] at hq
          cases he; cases hq
          refine (t8.mono (flag_join_right hFS fl fl') (fun _ _ => rfl) (fun _ => rfl)).mono (flagS_mono hN.S hN.Fr _) (flagS_same (fun b hb => hN.same b hb.1) (fun b hb => hN.same b hb.2) _) fun hc => ?_
          obtain ⟨k2, g1, g4, g3, _⟩ := t9 hc
          refine s5 _ fun e0 => ?_
          have := hC.disj k2 j _ g3 (owns_of hk (.inl ⟨hcap, e0.symm⟩))
          rw [this] at g4
          rw [hk'] at g4; cases g4
        · rw [List.getElem?_set_ne hii] at he hq
          refine ((hR.row i' e1 q' he hq (by simp)).mono (flag_join_left hFS fl fl') (fun _ _ => rfl) (fun _ => rfl)).mono (flagS_mono hN.S hN.Fr _) (flagS_same (fun b hb => hN.same b hb.1) (fun b hb => hN.same b hb.2) _) fun hc => ?_
          exact s5 _ (hR.apart0 i' q' hq (by simp) hc hcap)
      · have h1' : ((pl j).inn.set i q)[i1]? = some p1 := h1'
        have h2' : ((pl j).inn.set i q)[i2]? = some p2 := h2'
        have key : ∀ (i3 : Nat) (p3 : Pl0), (pl j).inn[i3]? = some p3 → 0 < p3.cap → 0 < q.cap → q.blk ≠ p3.blk := fun i3 p3 g1 g2 g3 e0 =>
          hne2 (j := j) (by rw [hk']; simp) (owns_of hk (.inr ⟨i3, p3, g1, by simp, g2, rfl⟩)) ⟨g3, e0⟩
        by_cases hi1 : i = i1
        · subst hi1
          rw [List.getElem?_set_self hinn] at h1'
          rw [List.getElem?_set_ne hne] at h2'
          cases h1'
          exact key i2 p2 h2' c2 c1
        · rw [List.getElem?_set_ne hi1] at h1'
          by_cases hi2 : i = i2
          · subst hi2
            rw [List.getElem?_set_self hinn] at h2'
            cases h2'
            exact Ne.symm (key i1 p1 h1' c1 c2)
          · rw [List.getElem?_set_ne hi2] at h2'
            exact hR.apart i1 i2 p1 p2 h1' h2' hne (by simp) (by simp) c1 c2
      · have h1' : ((pl j).inn.set i q)[i1]? = some p1 := h1'
        show p1.blk ≠ (pl j).blk
        by_cases hi1 : i = i1
        · subst hi1
          rw [List.getElem?_set_self hinn] at h1'
          cases h1'
          intro e0
          exact hne2 (j := j) (by rw [hk']; simp) (owns_of hk (.inl ⟨hcap, rfl⟩)) ⟨c1, e0⟩
        · rw [List.getElem?_set_ne hi1] at h1'
          exact hR.apart0 i1 p1 h1' (by simp) c1 hcap
    · rw [hset j hjk] at hj
      by_cases hd : h'[j]? = some .dead
      · right; rw [hd] at hj; cases hj; trivial
      · left
        have he := (t1.2 j).resolve_right hd
        refine ⟨by rw [← he]; exact hj, hpln j hjk, fun b hb => s5 b fun e0 => ?_⟩
        exact hjk (hC.disj j k b (owns_of (by rw [← he]; exact hj) hb) (owns_of hk (.inl ⟨hcap, e0.symm⟩)))
end
end Go.Av

namespace Go.Av
open Go.RowKit

/-- a row that was taken out goes back -/
def mergeW (h : List OB) (k : Nat) (K : List OB → Prop) : Prop := match h[k]? with
  | some (.rows nw fl z es (some (i, k2))) => (match h[k2]? with
    | some (.row nw2 fl2 z2 es2) => z2 = z ∧ (!nw || nw2) = true ∧ BndF true (es2.length = (es.getD i []).length) (EqR (es.set i es2) fun es => K ((h.set k (.rows nw (Fl.join fl fl2) z es none)).set k2 .dead))
    | _ => False)
  | _ => K h
def holeAt : List OB → Nat → Option Nat
  | [], _ => none
  | .rows _ _ _ _ (some _) :: _, k => some k
  | _ :: r, k => holeAt r (k + 1)
/-- all rows that were taken out go back -/
def unholeW : Nat → List OB → (List OB → Prop) → Prop
  | 0, h, K => K h
  | n + 1, h, K => match holeAt h 0 with
    | none => K h
    | some k => mergeW h k fun h => unholeW n h K
/-- a load; of a row of rows: it is taken out -/
def loadRW (P : Program) (zs : TypeId → List PV) (st : St) (o : Oper) (K : AV → List OB → Prop) : Prop := match o.op with
  | .load t x => withV st true x fun a => (match a with
    | .orow k i j => (match st.heap[k]? with
      | some (.rows ..) => (match P.underlying t with
        | some (.slice _) => j = 0 ∧ mergeW st.heap k fun h => (match h[k]? with
          | some (.rows nw fl z es none) => BndF true (i < es.length) (EqL (es.getD i []) fun e => EqN e.length fun n => K (.osl h.length 0 n) (h.set k (.rows nw fl z es (some (i, h.length))) ++ [.row nw fl z e]))
          | _ => False)
        | _ => False)
      | _ => opW P zs st true o fun v => K v st.heap)
    | _ => opW P zs st true o fun v => K v st.heap)
  | _ => False

section
variable {N m : Nat} {F A : Nat → Prop} {w0 : World} {st : St} {pl : Nat → Pl} {a : Act} {w : World} {P : Program}

theorem ConcP.merge (hC : ConcP N m F A w0 st pl a w) (hF : ∀ b, F b → b < w0.heap.size) {k i k2 : Nat} {nw nw2 : Bool} {fl fl2 : Fl} {z : List PV} {es : List (List (List PV))} {es2 : List (List PV)} (hk : st.heap[k]? = some (.rows nw fl z es (some (i, k2)))) (hk2 : st.heap[k2]? = some (.row nw2 fl2 z es2))
    (hnw : (!nw || nw2) = true) (hle : es2.length = (es.getD i []).length) : ConcP N m F A w0 ⟨st.env, (st.heap.set k (.rows nw (Fl.join fl fl2) z (es.set i es2) none)).set k2 .dead⟩ pl a w := by
  have hR : RowsRel pl st.heap.length (Sany A w0.heap.size pl st.heap w) (Fresh w0.heap.size pl st.heap w) w (pl k) fl z es (some (i, k2)) := hC.heap k _ hk
  have hR2 : RowRel (flagS (Sany A w0.heap.size pl st.heap w) (Fresh w0.heap.size pl st.heap w) fl2) w (pl k2).toPl0 z es2 := hC.heap k2 _ hk2
  obtain ⟨o1, hi, o3⟩ := hR.out i k2 rfl
  have hFS : ∀ b, Fresh w0.heap.size pl st.heap w b → Sany A w0.heap.size pl st.heap w b := fun b hb => ⟨hb.2, .inr hb.1⟩
  have hne : k2 ≠ k := fun e => by rw [e, hk] at hk2; cases hk2
  have hkl := (List.getElem?_eq_some_iff.1 hk).1
  have hk2l := (List.getElem?_eq_some_iff.1 hk2).1
  have g2 : ((st.heap.set k (.rows nw (Fl.join fl fl2) z (es.set i es2) none)).set k2 .dead)[k2]? = some .dead := List.getElem?_set_self (by simpa using hk2l)
  have g1 : ((st.heap.set k (.rows nw (Fl.join fl fl2) z (es.set i es2) none)).set k2 .dead)[k]? = some (.rows nw (Fl.join fl fl2) z (es.set i es2) none) := by rw [List.getElem?_set_ne hne, List.getElem?_set_self hkl]
  have g0 : ∀ j, j ≠ k → j ≠ k2 → ((st.heap.set k (.rows nw (Fl.join fl fl2) z (es.set i es2) none)).set k2 .dead)[j]? = st.heap[j]? := fun j h1 h2 => by rw [List.getElem?_set_ne (Ne.symm h2), List.getElem?_set_ne (Ne.symm h1)]
  generalize hh : (st.heap.set k (.rows nw (Fl.join fl fl2) z (es.set i es2) none)).set k2 .dead = heap' at *
  have hlen : heap'.length = st.heap.length := by rw [← hh]; simp
  have hl : ∀ j b, owns pl heap' j b → (j ≠ k ∧ j ≠ k2 ∧ owns pl st.heap j b) ∨ (j = k ∧ owns pl st.heap k b) ∨ (j = k ∧ owns pl st.heap k2 b) := by
    intro j b hj
    obtain ⟨ob, c1, c2⟩ := owns_out hj
    by_cases hjk : j = k
    · subst hjk
      right
      rw [g1] at c1
      cases c1
      rcases c2 with c2 | ⟨i', q', d1, d2, d3, d4⟩
      · exact .inl ⟨rfl, owns_of hk (.inl c2)⟩
      · by_cases hii : i' = i
        · subst hii
          rw [o3] at d1; cases d1
          exact .inr ⟨rfl, owns_of hk2 ⟨d3, d4⟩⟩
        · exact .inl ⟨rfl, owns_of hk (.inr ⟨i', q', d1, by simp; exact Ne.symm hii, d3, d4⟩)⟩
    · by_cases hj2 : j = k2
      · subst hj2; rw [g2] at c1; cases c1; exact c2.elim
      · rw [g0 j hjk hj2] at c1
        exact .inl ⟨hjk, hj2, owns_of c1 c2⟩
  obtain ⟨hN, hmk⟩ := hC.regroup hF (w' := w) rfl rfl rfl (Nat.le_refl _) (pl' := pl) (heap' := heap') (by omega) (fun _ _ => rfl)
    (fun j b hj => by
      rcases hl j b hj with ⟨_, _, h⟩ | ⟨_, h⟩ | ⟨_, h⟩
      · exact .inl ⟨j, h⟩
      · exact .inl ⟨k, h⟩
      · exact .inl ⟨k2, h⟩) (fun _ _ _ => rfl)
  refine hmk (fun j j' b h1 h2 => ?_) (fun j b hn hj => ?_) (fun j ob hj => ?_)
  · rcases hl j b h1 with ⟨a1, a2, a3⟩ | ⟨a1, a2⟩ | ⟨a1, a2⟩ <;> rcases hl j' b h2 with ⟨b1, b2, b3⟩ | ⟨b1, b2⟩ | ⟨b1, b2⟩
    · exact hC.disj j j' b a3 b3
    · exact absurd (hC.disj j k b a3 b2) a1
    · exact absurd (hC.disj j k2 b a3 b2) a2
    · exact absurd (hC.disj j' k b b3 a2) b1
    · omega
    · omega
    · exact absurd (hC.disj j' k2 b b3 a2) b2
    · omega
    · omega
  · rcases hl j b hj with ⟨a1, a2, a3⟩ | ⟨a1, a2⟩ | ⟨a1, a2⟩
    · refine hC.newb j b ?_ a3
      unfold isnew at hn ⊢
      rwa [g0 j a1 a2] at hn
    · subst a1
      rw [isnew_rows g1] at hn
      exact hC.newb j b ((isnew_rows hk).2 hn) a2
    · subst a1
      rw [isnew_rows g1] at hn
      refine hC.newb k2 b ?_ a2
      unfold isnew
      rw [hk2]
      rw [hn] at hnw
      simpa using hnw
  · by_cases hjk : j = k
    · subst hjk
      right
      rw [g1] at hj
      cases hj
      have he0 : es[i]? = some (es.getD i []) := getD_some hi
      refine { sz := hR.sz, cap := hR.cap, len := by rw [List.length_set]; exact hR.len, inn := by rw [List.length_set]; exact hR.inn, zpos := hR.zpos, mem := fun hc => ?_, row := fun i' e q he hq _ => ?_, out := fun _ _ hh => (by cases hh), apart := fun i1 i2 p1 p2 h1 h2 hne' _ _ c1 c2 => ?_, apart0 := fun i1 p1 h1 _ c1 c2 => ?_ }
      · obtain ⟨ty, arr, m1, m2, m3⟩ := hR.mem hc
        refine ⟨ty, arr, m1, m2, fun i' e q he hq => ?_⟩
        by_cases hii : i = i'
        · subst hii
          rw [List.getElem?_set_self hi] at he
          cases he
          obtain ⟨Ad, n1, n2, n3, n4, n5⟩ := m3 i _ q he0 hq
          exact ⟨Ad, by rw [hle]; exact n1, n2, n3, n4, by rw [hle]; exact n5⟩
        · rw [List.getElem?_set_ne hii] at he
          exact m3 i' e q he hq
      · by_cases hii : i = i'
        · subst hii
          rw [List.getElem?_set_self hi] at he
          cases he
          rw [o3] at hq; cases hq
          exact (hR2.mono (flag_join_right hFS fl fl2) (fun _ _ => rfl) (fun _ => rfl)).mono (flagS_mono hN.S hN.Fr _) (fun _ _ => rfl) (fun _ => rfl)
        · rw [List.getElem?_set_ne hii] at he
          exact ((hR.row i' e q he hq (by simp; exact hii)).mono (flag_join_left hFS fl fl2) (fun _ _ => rfl) (fun _ => rfl)).mono (flagS_mono hN.S hN.Fr _) (fun _ _ => rfl) (fun _ => rfl)
      · by_cases hi1 : i1 = i
        · subst hi1
          rw [o3] at h1; cases h1
          intro e0
          have := hC.disj k2 j _ (owns_of hk2 ⟨c1, rfl⟩) (owns_of hk (.inr ⟨i2, p2, h2, by simp; exact hne', c2, e0.symm⟩))
          exact hne this
        · by_cases hi2 : i2 = i
          · subst hi2
            rw [o3] at h2; cases h2
            intro e0
            have := hC.disj k2 j _ (owns_of hk2 ⟨c2, rfl⟩) (owns_of hk (.inr ⟨i1, p1, h1, by simp; exact Ne.symm hne', c1, e0⟩))
            exact hne this
          · exact hR.apart i1 i2 p1 p2 h1 h2 hne' (by simp; exact Ne.symm hi1) (by simp; exact Ne.symm hi2) c1 c2
      · by_cases hi1 : i1 = i
        · subst hi1
          rw [o3] at h1; cases h1
          intro e0
          exact hne (hC.disj k2 j _ (owns_of hk2 ⟨c1, rfl⟩) (owns_of hk (.inl ⟨c2, e0.symm⟩)))
        · exact hR.apart0 i1 p1 h1 (by simp; exact Ne.symm hi1) c1 c2
    · by_cases hj2 : j = k2
      · subst hj2; rw [g2] at hj; cases hj; right; trivial
      · rw [g0 j hjk hj2] at hj
        exact .inl ⟨hj, rfl, fun _ _ => rfl⟩

theorem ConcP.split (hC : ConcP N m F A w0 st pl a w) (hF : ∀ b, F b → b < w0.heap.size) {k i : Nat} {nw : Bool} {fl : Fl} {z : List PV} {es : List (List (List PV))} (hk : st.heap[k]? = some (.rows nw fl z es none)) (hi : i < es.length) :
    ∃ q Ad, w.cell? ⟨(pl k).blk, (pl k).off + i, none⟩ = some (.slice Ad (es.getD i []).length q.cap) ∧
      ConcP N m F A w0 ⟨st.env, st.heap.set k (.rows nw fl z es (some (i, st.heap.length))) ++ [.row nw fl z (es.getD i [])]⟩ (plAt pl st.heap.length ⟨q, []⟩) a w ∧
      ∀ (S Fr : Nat → Prop), RelA (plAt pl st.heap.length ⟨q, []⟩) (st.heap.length + 1) S Fr w (.osl st.heap.length 0 (es.getD i []).length) (.slice Ad (es.getD i []).length q.cap) := by
  have hR : RowsRel pl st.heap.length (Sany A w0.heap.size pl st.heap w) (Fresh w0.heap.size pl st.heap w) w (pl k) fl z es none := hC.heap k _ hk
  have hkl := (List.getElem?_eq_some_iff.1 hk).1
  have hlt : i < (pl k).inn.length := by rw [hR.inn]; exact hi
  have hq := List.getElem?_eq_getElem hlt
  generalize (pl k).inn[i] = q at hq
  have he0 : es[i]? = some (es.getD i []) := getD_some hi
  have hcap : 0 < (pl k).cap := by have := hR.len; omega
  obtain ⟨ty, arr, m1, m2, m3⟩ := hR.mem hcap
  obtain ⟨Ad, n1, n2, n3, n4, n5⟩ := m3 i _ q he0 hq
  have hrow := hR.row i _ q he0 hq (by simp)
  have hset : (st.heap.set k (OB.rows nw fl z es (some (i, st.heap.length)))).length = st.heap.length := by simp
  have g1 : (st.heap.set k (OB.rows nw fl z es (some (i, st.heap.length))) ++ [OB.row nw fl z (es.getD i [])])[k]? = some (.rows nw fl z es (some (i, st.heap.length))) := by rw [List.getElem?_append_left (by rw [hset]; exact hkl), List.getElem?_set_self hkl]
  have g2 : (st.heap.set k (OB.rows nw fl z es (some (i, st.heap.length))) ++ [OB.row nw fl z (es.getD i [])])[st.heap.length]? = some (.row nw fl z (es.getD i [])) := by rw [List.getElem?_append_right (by rw [hset]; exact Nat.le_refl _), hset]; simp
  have g0 : ∀ j, j < st.heap.length → j ≠ k → (st.heap.set k (OB.rows nw fl z es (some (i, st.heap.length))) ++ [OB.row nw fl z (es.getD i [])])[j]? = st.heap[j]? := fun j h1 h2 => by rw [List.getElem?_append_left (by rw [hset]; exact h1), List.getElem?_set_ne (Ne.symm h2)]
  have g3 : ∀ j ob, (st.heap.set k (OB.rows nw fl z es (some (i, st.heap.length))) ++ [OB.row nw fl z (es.getD i [])])[j]? = some ob → j ≤ st.heap.length := fun j ob h => by have := (List.getElem?_eq_some_iff.1 h).1; simp at this; omega
  have hlen : (st.heap.set k (OB.rows nw fl z es (some (i, st.heap.length))) ++ [OB.row nw fl z (es.getD i [])]).length = st.heap.length + 1 := by simp
  generalize hh : st.heap.set k (OB.rows nw fl z es (some (i, st.heap.length))) ++ [OB.row nw fl z (es.getD i [])] = heap' at *
  have p1 : ∀ j, j < st.heap.length → plAt pl st.heap.length ⟨q, []⟩ j = pl j := fun j h => plAt_lt h
  have p2 : plAt pl st.heap.length ⟨q, []⟩ st.heap.length = ⟨q, []⟩ := plAt_eq
  refine ⟨q, Ad, ?_, ?_, fun S Fr => ?_⟩
  · rw [cell_of_row w _ _ arr ty (0, 0) m1]; exact n1
  · have hl : ∀ j b, owns (plAt pl st.heap.length ⟨q, []⟩) heap' j b → (j < st.heap.length ∧ j ≠ k ∧ owns pl st.heap j b) ∨ (j = k ∧ obOwns (pl k) (.rows nw fl z es (some (i, st.heap.length))) b) ∨ (j = st.heap.length ∧ 0 < q.cap ∧ q.blk = b) := by
      intro j b hj
      obtain ⟨ob, c1, c2⟩ := owns_out hj
      have := g3 j ob c1
      by_cases hjk : j = k
      · subst hjk
        rw [g1] at c1; cases c1
        rw [p1 j hkl] at c2
        exact .inr (.inl ⟨rfl, c2⟩)
      · by_cases hjl : j = st.heap.length
        · subst hjl
          rw [g2] at c1; cases c1
          rw [p2] at c2
          exact .inr (.inr ⟨rfl, c2⟩)
        · rw [g0 j (by omega) hjk] at c1
          rw [p1 j (by omega)] at c2
          exact .inl ⟨by omega, hjk, owns_of c1 c2⟩
    have hsub : ∀ b, obOwns (pl k) (.rows nw fl z es (some (i, st.heap.length))) b → owns pl st.heap k b := fun b hb => by
      rcases hb with hb | ⟨i', q', d1, d2, d3⟩
      · exact owns_of hk (.inl hb)
      · exact owns_of hk (.inr ⟨i', q', d1, by simp, d3⟩)
    have hq0 : ∀ b, 0 < q.cap ∧ q.blk = b → owns pl st.heap k b := fun b hb => owns_of hk (.inr ⟨i, q, hq, by simp, hb⟩)
    have hno : ∀ b, obOwns (pl k) (.rows nw fl z es (some (i, st.heap.length))) b → 0 < q.cap ∧ q.blk = b → False := fun b hb ⟨c1, c2⟩ => by
      rcases hb with ⟨d1, d2⟩ | ⟨i', q', d1, d2, d3, d4⟩
      · exact hR.apart0 i q hq (by simp) c1 d1 (c2.trans d2.symm)
      · exact hR.apart i i' q q' hq d1 (fun e => d2 (by simp [e])) (by simp) (by simp) c1 d3 (c2.trans d4.symm)
    obtain ⟨hN, hmk⟩ := hC.regroup hF (w' := w) rfl rfl rfl (Nat.le_refl _) (pl' := plAt pl st.heap.length ⟨q, []⟩) (heap' := heap') (by omega) (fun j hj => Pl.base_eq (p1 j hj))
      (fun j b hj => by
        rcases hl j b hj with ⟨_, _, h⟩ | ⟨_, h⟩ | ⟨_, h⟩
        · exact .inl ⟨j, h⟩
        · exact .inl ⟨k, hsub b h⟩
        · exact .inl ⟨k, hq0 b h⟩) (fun _ _ _ => rfl)
    refine hmk (fun j j' b h1 h2 => ?_) (fun j b hn hj => ?_) (fun j ob hj => ?_)
    · rcases hl j b h1 with ⟨a0, a1, a2⟩ | ⟨a1, a2⟩ | ⟨a1, a2⟩ <;> rcases hl j' b h2 with ⟨b0, b1, b2⟩ | ⟨b1, b2⟩ | ⟨b1, b2⟩
      · exact hC.disj j j' b a2 b2
      · exact absurd (hC.disj j k b a2 (hsub b b2)) a1
      · exact absurd (hC.disj j k b a2 (hq0 b b2)) a1
      · exact absurd (hC.disj j' k b b2 (hsub b a2)) b1
      · omega
      · exact (hno b a2 b2).elim
      · exact absurd (hC.disj j' k b b2 (hq0 b a2)) b1
      · exact (hno b b2 a2).elim
      · omega
    · rcases hl j b hj with ⟨a0, a1, a2⟩ | ⟨a1, a2⟩ | ⟨a1, a2⟩
      · refine hC.newb j b ?_ a2
        unfold isnew at hn ⊢
        rwa [g0 j a0 a1] at hn
      · subst a1
        rw [isnew_rows g1] at hn
        exact hC.newb j b ((isnew_rows hk).2 hn) (hsub b a2)
      · subst a1
        unfold isnew at hn
        rw [g2] at hn
        exact hC.newb k b ((isnew_rows hk).2 hn) (hq0 b a2)
    · have hjl := g3 j ob hj
      by_cases hjk : j = k
      · subst hjk
        right
        rw [g1] at hj; cases hj
        show RowsRel _ _ _ _ _ (plAt pl st.heap.length ⟨q, []⟩ j) _ _ _ _
        rw [p1 j hkl]
        refine { sz := hR.sz, cap := hR.cap, len := hR.len, inn := hR.inn, zpos := hR.zpos, mem := hR.mem, row := fun i' e q' he hq' _ => ?_, out := fun i' k2 hh => ?_, apart := fun i1 i2 p1 p2 h1 h2 hne _ _ => hR.apart i1 i2 p1 p2 h1 h2 hne (by simp) (by simp), apart0 := fun i1 p1 h1 _ => hR.apart0 i1 p1 h1 (by simp) }
        · exact (hR.row i' e q' he hq' (by simp)).mono (flagS_mono hN.S hN.Fr _) (fun _ _ => rfl) (fun _ => rfl)
        · cases hh
          exact ⟨by omega, hi, by rw [p2]; exact hq⟩
      · by_cases hjL : j = st.heap.length
        · subst hjL
          right
          rw [g2] at hj; cases hj
          show RowRel _ _ (plAt pl st.heap.length ⟨q, []⟩ st.heap.length).toPl0 _ _
          rw [p2]
          exact hrow.mono (flagS_mono hN.S hN.Fr _) (fun _ _ => rfl) (fun _ => rfl)
        · rw [g0 j (by omega) hjk] at hj
          exact .inl ⟨hj, p1 j (by omega), fun _ _ => rfl⟩
  · refine .osl (by omega) (fun hc => ?_) (by rw [p2]; exact Nat.zero_add _) n5 (by rw [p2]; exact n4)
    rw [p2] at hc ⊢
    rw [n2 hc]; simp

theorem mergeW_sound (hC : ConcP N m F A w0 st pl a w) (hF : ∀ b, F b → b < w0.heap.size) {k : Nat} {K : List OB → Prop} (h : mergeW st.heap k K) : ∃ h', K h' ∧ h'.length = st.heap.length ∧ ConcP N m F A w0 ⟨st.env, h'⟩ pl a w := by
  unfold mergeW at h
  split at h
  case h_1 nw fl z es i k2 hk =>
    split at h
    case h_2 => exact h.elim
    rename_i nw2 fl2 z2 es2 hk2
    obtain ⟨rfl, hnw, hle, es', rfl, hK⟩ := h
    exact ⟨_, hK, by simp, hC.merge hF hk hk2 hnw (hle rfl)⟩
  case h_2 => exact ⟨_, h, rfl, hC⟩
theorem unholeW_sound {e : Nat → AV} (hF : ∀ b, F b → b < w0.heap.size) : ∀ {n : Nat} {h : List OB} {K : List OB → Prop}, unholeW n h K → ConcP N m F A w0 ⟨e, h⟩ pl a w → ∃ h', K h' ∧ h'.length = h.length ∧ ConcP N m F A w0 ⟨e, h'⟩ pl a w
  | 0, h, K, hk, hC => ⟨h, hk, rfl, hC⟩
  | n + 1, h, K, hk, hC => by
    unfold unholeW at hk
    split at hk
    · exact ⟨h, hk, rfl, hC⟩
    · obtain ⟨h1, hk1, hl1, hC1⟩ := mergeW_sound hC hF hk
      obtain ⟨h2, hk2, hl2, hC2⟩ := unholeW_sound hF hk1 hC1
      exact ⟨h2, hk2, hl2.trans hl1, hC2⟩

theorem hop_loadR (hC : ConcP N m F A w0 st pl a w) (hF : ∀ b, F b → b < w0.heap.size) {zs : TypeId → List PV} {o : Oper} {K : AV → List OB → Prop} (h : loadRW P zs st o K) : ∃ v h', K v h' ∧ HopOk P N m F A w0 st pl a w o v h' := by
  have pure : (opW P zs st true o fun v => K v st.heap) → ∃ v h', K v h' ∧ HopOk P N m F A w0 st pl a w o v h' := by
    intro h
    obtain ⟨v, hK, hv⟩ := opW_sound hC.seen h
    obtain ⟨u, hrel, hrun⟩ := hv rfl
    exact ⟨v, _, hK, _, w, pl, hrun w (.inr fun _ _ => rfl), fun _ _ _ => rfl, Nat.le_refl _, hC, .inr ⟨u, rfl, hrel⟩⟩
  unfold loadRW at h
  split at h
  case h_2 => exact h.elim
  rename_i t x ho
  obtain ⟨va, h, hra⟩ := withV_sound hC.seen h
  split at h
  case h_2 => exact pure h
  rename_i k i j
  split at h
  case h_2 => exact pure h
  rename_i nw0 fl0 z0 es0 ho0 hk0
  split at h
  case h_2 => exact h.elim
  rename_i e ht
  obtain ⟨rfl, h⟩ := h
  obtain ⟨h1, h, hl1, hC1⟩ := mergeW_sound hC hF h
  split at h
  case h_2 => exact h.elim
  rename_i nw fl z es hk
  obtain ⟨hi, e', rfl, n, rfl, hK⟩ := h
  have hi := hi rfl
  obtain ⟨q, Ad, hcell, hC2, hrel⟩ := hC1.split hF hk hi
  have hR : RowsRel pl h1.length _ _ w (pl k) fl z es none := hC1.heap k _ hk
  have hx : a.eval x = .pointer (some ⟨(pl k).blk, (pl k).off + i, none⟩) := by
    have := hra rfl
    generalize a.eval x = u at this ⊢
    cases this with
    | orow hkL => rw [hR.sz]; simp
  have hag : aggT (.slice e) = false := rfl
  have hrun : (execOp a.eval o).run P w = .ok (.value (.slice Ad (es.getD i []).length q.cap)) w := by
    have := run_loadVar_one (P := P) ht hag ⟨(pl k).blk, (pl k).off + i, none⟩ _ w hcell
    simp only [execOp, ho, hx, Instr.loadAt, Instr.sureAddr, Sem.run_bind, Sem.run_pure, Result.andThen_ok, this]
  refine ⟨_, _, hK, _, w, _, hrun, fun k' hk' _ => plAt_lt (by show k' < h1.length; omega), by simp; omega, hC2, .inr ⟨_, rfl, ?_⟩⟩
  have := hrel (Sany A w0.heap.size (plAt pl h1.length ⟨q, []⟩) (h1.set k (.rows nw fl z es (some (i, h1.length))) ++ [.row nw fl z (es.getD i [])]) w) (Fresh w0.heap.size (plAt pl h1.length ⟨q, []⟩) (h1.set k (.rows nw fl z es (some (i, h1.length))) ++ [.row nw fl z (es.getD i [])]) w)
  simpa using this
end
end Go.Av

namespace Go.Av
open Go.RowKit

section
variable {N m : Nat} {F A : Nat → Prop} {w0 : World} {st : St} {pl : Nat → Pl} {a : Act} {w : World} {P : Program}

theorem World.size_alloc' (w : World) (o : Obj) : (w.alloc o).heap.size = w.heap.size + 1 := by simp
/-- the cells of a row of rows, as they lie in memory -/
theorem rows_src (hC : ConcP N m F A w0 st pl a w) {k : Nat} {nw : Bool} {fl : Fl} {z : List PV} {es : List (List (List PV))} (hk : st.heap[k]? = some (.rows nw fl z es none)) {u : Value} {S Fr S0 : Nat → Prop}
    (hu : RelA pl st.heap.length S Fr w (.osl k 0 es.length) u) : ∃ news : List Value, news.length = es.length ∧ Src S0 w 1 (es.map fun _ => [PV.junk]) u news ∧ (∃ Ad, u = .slice Ad es.length (pl k).cap ∧ (0 < (pl k).cap → Ad = some ⟨(pl k).blk, (pl k).off, none⟩)) ∧
      ∀ (i : Nat) (e : List (List PV)) (q : Pl0), es[i]? = some e → (pl k).inn[i]? = some q → ∃ Ad, news[i]? = some (.slice Ad e.length q.cap) ∧ (0 < q.cap → Ad = some ⟨q.blk, q.off, none⟩) := by
  have hR : RowsRel pl st.heap.length (Sany A w0.heap.size pl st.heap w) (Fresh w0.heap.size pl st.heap w) w (pl k) fl z es none := hC.heap k _ hk
  cases hu with
  | @osl _ _ _ C Ad hkL hA hCc hn hM =>
    have hC' : C = (pl k).cap := by omega
    subst hC'
    have hA0 : 0 < (pl k).cap → Ad = some ⟨(pl k).blk, (pl k).off, none⟩ := fun h => by rw [hA h]; simp
    by_cases hc : 0 < (pl k).cap
    · obtain ⟨ty, arr, m1, m2, m3⟩ := hR.mem hc
      have hlen := hR.len
      have hcell : ∀ (i : Nat), i < es.length → ∃ q, (pl k).inn[i]? = some q ∧ ∃ Ad, arr[(pl k).off + i]? = some (.slice Ad (es.getD i []).length q.cap) ∧ (0 < q.cap → Ad = some ⟨q.blk, q.off, none⟩) := by
        intro i hi
        have hlt : i < (pl k).inn.length := by rw [hR.inn]; exact hi
        obtain ⟨Ad, n1, n2, _⟩ := m3 i _ _ (getD_some hi) (List.getElem?_eq_getElem hlt)
        exact ⟨_, List.getElem?_eq_getElem hlt, Ad, n1, n2⟩
      have hsrc := Src.mk' (w := w) (S := S0) (zl := 1) (es := es.map fun _ => [PV.junk]) (A := Ad) (c := (pl k).cap) (fun j => arr.getD ((pl k).off + j) undef) (fun h0 => ⟨_, hA0 hc, fun j hj => by
          rw [Addr.add_lit, cell_of_row w _ _ arr ty (0, 0) m1]
          have hj : j < es.length := by simpa using hj
          obtain ⟨q, _, Ad', h1, _⟩ := hcell j hj
          rw [Array.getD_eq_getD_getElem?, h1]; rfl⟩) (fun i e he => by
          rw [List.getElem?_map] at he
          cases h0 : es[i]? with
          | none => rw [h0] at he; cases he
          | some e0 => rw [h0] at he; cases he; rfl) (fun i j e p he hp => by
          rw [List.getElem?_map] at he
          cases h0 : es[i]? with
          | none => rw [h0] at he; cases he
          | some e0 =>
            rw [h0] at he
            have he : e = [PV.junk] := (Option.some.inj he).symm
            subst he
            have hj : j = 0 := by have := (List.getElem?_eq_some_iff.1 hp).1; simpa using this
            subst hj
            have hp : p = PV.junk := (Option.some.inj hp).symm
            subst hp
            obtain ⟨q, _, Ad', h1, _⟩ := hcell i (List.getElem?_eq_some_iff.1 h0).1
            have e1 : (pl k).off + (i * 1 + 0) = (pl k).off + i := by omega
            rw [Array.getD_eq_getD_getElem?, e1, h1]
            exact ⟨rfl, .junk rfl⟩)
      rw [show (es.map fun _ => [PV.junk]).length = es.length from List.length_map _] at hsrc
      refine ⟨(List.range (es.length * 1)).map fun j => arr.getD ((pl k).off + j) undef, by simp, hsrc, ⟨Ad, rfl, hA0⟩, fun i e q he hq => ?_⟩
      have hi := (List.getElem?_eq_some_iff.1 he).1
      obtain ⟨q', hq', Ad', h1, h2⟩ := hcell i hi
      rw [hq] at hq'; cases hq'
      refine ⟨Ad', ?_, h2⟩
      rw [List.getElem?_map, List.getElem?_range (by simpa using hi)]
      have e0 : es.getD i [] = e := by simp [List.getD_eq_getElem?_getD, he]
      rw [e0] at h1
      simp only [Option.map_some]
      rw [Array.getD_eq_getD_getElem?, h1]; rfl
    · have he0 : es = [] := List.eq_nil_of_length_eq_zero (by have := hR.len; omega)
      subst he0
      refine ⟨[], rfl, ⟨⟨Ad, (pl k).cap, rfl, fun h0 => absurd h0 (by simp)⟩, rfl, fun i e he => by simp at he, fun x hx => by simp at hx, fun i j e p he => by simp at he⟩, ⟨Ad, rfl, hA0⟩, fun i e q he => by simp at he⟩

set_option maxHeartbeats 1000000 in
theorem hop_appendRows (hC : ConcP N m F A w0 st pl a w) (hF : ∀ b, F b → b < w0.heap.size) {o : Oper} {t e : TypeId} {d s : Operand} (ho : o.op = .call { callee := .builtin .append, args := #[d, s], argTypes := #[t, t] }) (ht : P.underlying t = some (.slice e)) (h1 : P.cellsOf e = 1) (hzo : zeroOk P e = true)
    {k k' : Nat} {nw : Bool} {fl fl' : Fl} {z : List PV} {es es' : List (List (List PV))} (hk : st.heap[k]? = some (.rows nw fl z es none)) (hk' : st.heap[k']? = some (.rows true fl' z es' none)) (hne : k ≠ k')
    (hd : RelA pl st.heap.length (Sany A w0.heap.size pl st.heap w) (Fresh w0.heap.size pl st.heap w) w (.osl k 0 es.length) (a.eval d)) (hs : RelA pl st.heap.length (Sany A w0.heap.size pl st.heap w) (Fresh w0.heap.size pl st.heap w) w (.osl k' 0 es'.length) (a.eval s))
    (hb : (es.length + es'.length) * P.bytesOf e ≤ 140737488355328) (h63 : es.length + es'.length ≤ 9223372036854775807) :
    HopOk P N m F A w0 st pl a w o (.osl st.heap.length 0 (es.length + es'.length)) ((st.heap.set k .dead).set k' .dead ++ [.rows nw (Fl.join fl fl') z (es ++ es') none]) := by
  have hR : RowsRel pl st.heap.length (Sany A w0.heap.size pl st.heap w) (Fresh w0.heap.size pl st.heap w) w (pl k) fl z es none := hC.heap k _ hk
  have hR' : RowsRel pl st.heap.length (Sany A w0.heap.size pl st.heap w) (Fresh w0.heap.size pl st.heap w) w (pl k') fl' z es' none := hC.heap k' _ hk'
  have hFS : ∀ b, Fresh w0.heap.size pl st.heap w b → Sany A w0.heap.size pl st.heap w b := fun b hb => ⟨hb.2, .inr hb.1⟩
  have hkl := (List.getElem?_eq_some_iff.1 hk).1
  have hkl' := (List.getElem?_eq_some_iff.1 hk').1
  have hexec : ∀ {v : Value} {w' : World}, (Builtin.append_ #[t, t] o.type #[a.eval d, a.eval s]).run P w = .ok v w' → (execOp a.eval o).run P w = .ok (.value v) w' := by
    intro v w' hr
    simp only [execOp, ho, resolve, invoke, builtin, Sem.run_bind, Sem.run_pure, Result.andThen_ok, List.map_toArray, List.map_cons, List.map_nil, hr]
  have hK : Killed st.heap ((st.heap.set k .dead).set k' .dead) := ((Killed.refl _).set k).set k'
  have hkd : ((st.heap.set k .dead).set k' .dead)[k]? = some .dead := by rw [List.getElem?_set_ne (Ne.symm hne), List.getElem?_set_self hkl]
  have hkd' : ((st.heap.set k .dead).set k' .dead)[k']? = some .dead := List.getElem?_set_self (by simpa using hkl')
  generalize (st.heap.set k OB.dead).set k' OB.dead = hh at hK hkd hkd' ⊢
  obtain ⟨olds, lo1, lo2, ⟨Ad, ed, hAd⟩, lo4⟩ := rows_src hC (S0 := fun _ => True) hk hd
  obtain ⟨news, ln1, ln2, ⟨As, es0, hAs⟩, ln4⟩ := rows_src hC (S0 := fun _ => True) hk' hs
  have hnewt : isnew m st.heap k' := by rw [isnew_rows hk']
  have hlin : ((pl k).inn ++ (pl k').inn).length = es.length + es'.length := by rw [List.length_append, hR.inn, hR'.inn]
  -- what the new one owns, but for its own block
  have hown : ∀ (p0 : Pl0) b, obOwns ⟨p0, (pl k).inn ++ (pl k').inn⟩ (.rows nw (Fl.join fl fl') z (es ++ es') none) b → (0 < p0.cap ∧ p0.blk = b) ∨ ((∃ (i : Nat) (q : Pl0), (pl k).inn[i]? = some q ∧ 0 < q.cap ∧ q.blk = b) ∧ owns pl st.heap k b) ∨ ((∃ (i : Nat) (q : Pl0), (pl k').inn[i]? = some q ∧ 0 < q.cap ∧ q.blk = b) ∧ owns pl st.heap k' b) := by
    intro p0 b hb
    rcases hb with hb | ⟨i, q, g1, _, g2, g3⟩
    · exact .inl hb
    · have g1 : ((pl k).inn ++ (pl k').inn)[i]? = some q := g1
      rcases Nat.lt_or_ge i (pl k).inn.length with hi | hi
      · rw [List.getElem?_append_left hi] at g1
        exact .inr (.inl ⟨⟨i, q, g1, g2, g3⟩, owns_of hk (.inr ⟨i, q, g1, by simp, g2, g3⟩)⟩)
      · rw [List.getElem?_append_right hi] at g1
        exact .inr (.inr ⟨⟨_, q, g1, g2, g3⟩, owns_of hk' (.inr ⟨_, q, g1, by simp, g2, g3⟩)⟩)
  -- the new rows
  have mk : ∀ (p0 : Pl0) (S' Fr' : Nat → Prop) (w' : World) (pl2 : Nat → Pl) (L2 : Nat), p0.sz = 1 → p0.cap ≤ maxLen → es.length + es'.length ≤ p0.cap →
      (0 < p0.cap → ∃ ty arr, w'.heap[p0.blk]? = some (.cells arr ty (0, 0)) ∧ p0.off + p0.cap ≤ arr.size ∧ (∀ i, i < es.length → arr[p0.off + i]? = olds[i]?) ∧ (∀ i, i < es'.length → arr[p0.off + es.length + i]? = news[i]?)) →
      (∀ b, Sany A w0.heap.size pl st.heap w b → S' b) → (∀ b, Fresh w0.heap.size pl st.heap w b → Fr' b) → (∀ b, Sany A w0.heap.size pl st.heap w b → w'.heap[b]? = w.heap[b]?) → (∀ b, Fresh w0.heap.size pl st.heap w b → w'.heap[b]? = w.heap[b]?) →
      (∀ b, b < w.heap.size → (∃ (i : Nat) (q : Pl0), ((pl k).inn[i]? = some q ∨ (pl k').inn[i]? = some q) ∧ 0 < q.cap ∧ q.blk = b) → w'.heap[b]? = w.heap[b]? ∧ (0 < p0.cap → b ≠ p0.blk)) →
      RowsRel pl2 L2 S' Fr' w' ⟨p0, (pl k).inn ++ (pl k').inn⟩ (Fl.join fl fl') z (es ++ es') none := by
    intro p0 S' Fr' w' pl2 L2 q1 q2 q3 q4 q5 q6 q7 q8 q9
    have sp : ∀ {α : Type} {l1 l2 : List α} {i : Nat} {x : α} {n : Nat}, l1.length = n → (l1 ++ l2)[i]? = some x → (i < n ∧ l1[i]? = some x) ∨ (n ≤ i ∧ l2[i - n]? = some x) := by
      intro α l1 l2 i x n hn hx
      subst hn
      rcases Nat.lt_or_ge i l1.length with hi | hi
      · left; rw [List.getElem?_append_left hi] at hx; exact ⟨hi, hx⟩
      · right; rw [List.getElem?_append_right hi] at hx; exact ⟨hi, hx⟩
    have lt1 : ∀ (i : Nat) (q : Pl0), (pl k).inn[i]? = some q → 0 < q.cap → q.blk < w.heap.size := fun i q g1 g2 => hC.ownlt k _ (owns_of hk (.inr ⟨i, q, g1, by simp, g2, rfl⟩))
    have lt2 : ∀ (i : Nat) (q : Pl0), (pl k').inn[i]? = some q → 0 < q.cap → q.blk < w.heap.size := fun i q g1 g2 => hC.ownlt k' _ (owns_of hk' (.inr ⟨i, q, g1, by simp, g2, rfl⟩))
    have cross : ∀ (i j : Nat) (q q' : Pl0), (pl k).inn[i]? = some q → (pl k').inn[j]? = some q' → 0 < q.cap → 0 < q'.cap → q.blk ≠ q'.blk := fun i j q q' g1 g2 g3 g4 e0 =>
      hne (hC.disj k k' _ (owns_of hk (.inr ⟨i, q, g1, by simp, g3, rfl⟩)) (owns_of hk' (.inr ⟨j, q', g2, by simp, g4, e0.symm⟩)))
    refine { sz := q1, cap := q2, len := by rw [List.length_append]; exact q3, inn := by rw [hlin, List.length_append], zpos := hR.zpos, mem := fun hc => ?_, row := fun i e1 q he hq _ => ?_, out := fun _ _ hh => (by cases hh), apart := fun i j q q' hq hq' hij _ _ c1 c2 => ?_, apart0 := fun i q hq _ c1 c2 => ?_ }
    · obtain ⟨ty, arr, r1, r2, r3, r4⟩ := q4 hc
      refine ⟨ty, arr, r1, r2, fun i e1 q he hq => ?_⟩
      rcases sp rfl he with ⟨g1, g2⟩ | ⟨g1, g2⟩ <;> rcases sp hR.inn hq with ⟨g3, g4⟩ | ⟨g3, g4⟩
      · obtain ⟨A1, x1, x2⟩ := lo4 i e1 q g2 g4
        obtain ⟨y1, y2, y3, y4, y5, y6⟩ := hR.row i e1 q g2 g4 (by simp)
        exact ⟨A1, by rw [← x1]; exact r3 i g1, x2, y1, y3, y4⟩
      · omega
      · omega
      · obtain ⟨A1, x1, x2⟩ := ln4 _ e1 q g2 g4
        obtain ⟨y1, y2, y3, y4, y5, y6⟩ := hR'.row _ e1 q g2 g4 (by simp)
        refine ⟨A1, ?_, x2, y1, y3, y4⟩
        rw [← x1]
        have hi2 := (List.getElem?_eq_some_iff.1 g2).1
        have := r4 (i - es.length) hi2
        have e1 : p0.off + es.length + (i - es.length) = p0.off + i := by omega
        rw [e1] at this
        exact this
    · rcases sp rfl he with ⟨g1, g2⟩ | ⟨g1, g2⟩ <;> rcases sp hR.inn hq with ⟨g3, g4⟩ | ⟨g3, g4⟩
      · exact ((hR.row i e1 q g2 g4 (by simp)).mono (flag_join_left hFS fl fl') (fun _ _ => rfl) (fun _ => rfl)).mono (flagS_mono q5 q6 _) (flagS_same q7 q8 _) fun hc => (q9 _ (lt1 i q g4 hc) ⟨i, q, .inl g4, hc, rfl⟩).1
      · omega
      · omega
      · exact ((hR'.row _ e1 q g2 g4 (by simp)).mono (flag_join_right hFS fl fl') (fun _ _ => rfl) (fun _ => rfl)).mono (flagS_mono q5 q6 _) (flagS_same q7 q8 _) fun hc => (q9 _ (lt2 _ q g4 hc) ⟨_, q, .inr g4, hc, rfl⟩).1
    · have hq : ((pl k).inn ++ (pl k').inn)[i]? = some q := hq
      have hq' : ((pl k).inn ++ (pl k').inn)[j]? = some q' := hq'
      rcases sp hR.inn hq with ⟨g1, g2⟩ | ⟨g1, g2⟩ <;> rcases sp hR.inn hq' with ⟨g3, g4⟩ | ⟨g3, g4⟩
      · exact hR.apart i j q q' g2 g4 hij (by simp) (by simp) c1 c2
      · exact cross _ _ q q' g2 g4 c1 c2
      · exact Ne.symm (cross _ _ q' q g4 g2 c2 c1)
      · exact hR'.apart _ _ q q' g2 g4 (by omega) (by simp) (by simp) c1 c2
    · have hq : ((pl k).inn ++ (pl k').inn)[i]? = some q := hq
      rcases sp hR.inn hq with ⟨g1, g2⟩ | ⟨g1, g2⟩
      · exact (q9 _ (lt1 _ q g2 c1) ⟨_, q, .inl g2, c1, rfl⟩).2 c2
      · exact (q9 _ (lt2 _ q g2 c1) ⟨_, q, .inr g2, c1, rfl⟩).2 c2
  have hres : ∀ (p0 : Pl0) (C : Nat) (Ar : Option Addr) (L : Nat) (S' Fr' : Nat → Prop) (w' : World), p0.cap = C → es.length + es'.length ≤ C → C ≤ maxLen → (0 < C → Ar = some ⟨p0.blk, p0.off, none⟩) → st.heap.length < L →
      RelA (plAt pl st.heap.length ⟨p0, (pl k).inn ++ (pl k').inn⟩) L S' Fr' w' (.osl st.heap.length 0 (es.length + es'.length)) (.slice Ar (es.length + es'.length) C) := by
    intro p0 C Ar L S' Fr' w' q1 q2 q3 q4 q5
    subst q1
    refine .osl q5 (fun hc => ?_) (by rw [plAt_eq]; exact Nat.zero_add _) q2 (by rw [plAt_eq]; exact q3)
    rw [plAt_eq] at hc ⊢
    rw [q4 hc]; simp
  have hcapM := hR.cap
  have hlenC := hR.len
  rw [ed] at hexec
  have ln2' : Src (fun _ => True) w (P.cellsOf e) (es'.map fun _ => [PV.junk]) (a.eval s) news := by rw [h1]; exact ln2
  by_cases hroom : es.length + es'.length ≤ (pl k).cap
  · by_cases hC0 : 0 < (pl k).cap
    · -- in place
      obtain ⟨ty, arr, q1, q2, q3⟩ := hR.mem hC0
      have hold : ∀ i, i < es.length → arr[(pl k).off + i]? = olds[i]? := by
        intro i hi
        have hlt : i < (pl k).inn.length := by rw [hR.inn]; exact hi
        obtain ⟨A1, x1, x2, _⟩ := q3 i _ _ (getD_some (d := []) hi) (List.getElem?_eq_getElem hlt)
        obtain ⟨A2, y1, y2⟩ := lo4 i _ _ (getD_some (d := []) hi) (List.getElem?_eq_getElem hlt)
        obtain ⟨A3, c3, hsh, hA3⟩ := lo2.shape
        rw [x1, y1]
        by_cases hqc : 0 < ((pl k).inn[i]).cap
        · rw [x2 hqc, y2 hqc]
        · -- the same cell
          have hz := lo2.shape
          obtain ⟨A4, c4, e4, h4⟩ := hz
          rw [ed] at e4
          injection e4 with e5 e6 e7
          obtain ⟨ad, h5, h6⟩ := h4 (by simp; omega)
          rw [← e5, hAd hC0] at h5
          injection h5 with h5
          subst h5
          have := h6 i _ y1
          rw [Addr.add_lit, cell_of_row w _ _ arr ty (0, 0) q1] at this
          rw [← x1]; rw [this]
      have hrun := run_append_in (P := P) (w := w) (t := t) (ty := o.type) ht (by omega) (o := (pl k).off) (C := (pl k).cap) (n := es.length) q1 ln2' (by simpa using hroom) (by rw [h1, ln1]; omega)
      rw [h1] at hrun
      simp only [List.length_map, Nat.mul_one] at hrun
      obtain ⟨s1, s2, s3, s4, s5⟩ := setRow_same w (pl k).blk (arr.toList.take ((pl k).off + es.length) ++ news ++ arr.toList.drop ((pl k).off + es.length + news.length)).toArray
      have hget : ∀ j, (arr.toList.take ((pl k).off + es.length) ++ news ++ arr.toList.drop ((pl k).off + es.length + news.length)).toArray[j]? = if (pl k).off + es.length ≤ j ∧ j < (pl k).off + es.length + news.length then news[j - ((pl k).off + es.length)]? else arr[j]? := by
        intro j
        rw [List.getElem?_toArray, splice_get (by rw [ln1]; simp; omega)]
        simp only [Array.getElem?_toList]
      generalize hW : w.setRow (pl k).blk (arr.toList.take ((pl k).off + es.length) ++ news ++ arr.toList.drop ((pl k).off + es.length + news.length)).toArray = w1 at *
      have hblk1 : w1.heap[(pl k).blk]? = some (.cells (arr.toList.take ((pl k).off + es.length) ++ news ++ arr.toList.drop ((pl k).off + es.length + news.length)).toArray ty (0, 0)) := by rw [← hW]; exact setRow_heap w _ arr _ ty (0, 0) q1
      have hasz : (arr.toList.take ((pl k).off + es.length) ++ news ++ arr.toList.drop ((pl k).off + es.length + news.length)).toArray.size = arr.size := by
        simp only [List.size_toArray, List.length_append, List.length_take, List.length_drop, Array.length_toList, ln1]; omega
      generalize (arr.toList.take ((pl k).off + es.length) ++ news ++ arr.toList.drop ((pl k).off + es.length + news.length)).toArray = arr1 at *
      obtain ⟨hN, hmk⟩ := hC.killPush hF hK s1 s2 s3 (Nat.le_of_eq s4.symm) ⟨(pl k).toPl0, (pl k).inn ++ (pl k').inn⟩ (.rows nw (Fl.join fl fl') z (es ++ es') none) (by simp [kind]) (fun b hb => by
          left
          rcases hown _ b hb with g | ⟨_, g⟩ | ⟨_, g⟩
          · exact ⟨k, hkd, owns_of hk (.inl g), fun hn => (isnew_rows hk).2 hn⟩
          · exact ⟨k, hkd, g, fun hn => (isnew_rows hk).2 hn⟩
          · exact ⟨k', hkd', g, fun _ => hnewt⟩) (fun b _ hn => s5 b fun e0 => hn k hkd (owns_of hk (.inl ⟨hC0, e0.symm⟩)))
      refine ⟨_, w1, _, hexec (by rw [hAd hC0]; exact hrun), fun k1 hk1 _ => plAt_lt hk1, by simp [hK.1], hmk ?_, .inr ⟨_, rfl, hres _ _ _ _ _ _ _ rfl hroom hcapM (fun _ => rfl) (by simp [hK.1])⟩⟩
      show RowsRel _ _ _ _ _ (plAt pl st.heap.length _ st.heap.length) _ _ _ _
      rw [plAt_eq]
      refine mk _ _ _ _ _ _ hR.sz hcapM hroom (fun _ => ⟨ty, arr1, hblk1, by rw [hasz]; exact q2, fun i hi => ?_, fun i hi => ?_⟩) hN.S hN.Fr (fun b hb => hN.same b hb.1) (fun b hb => hN.same b hb.2) (fun b hb ⟨i, q, g1, g2, g3⟩ => ?_)
      · rw [hget, if_neg (by omega)]; exact hold i hi
      · rw [hget, if_pos (by rw [ln1]; omega)]
        congr 1; omega
      · have hb' : b ≠ (pl k).blk := by
          rcases g1 with g1 | g1
          · rw [← g3]; exact hR.apart0 i q g1 (by simp) g2 hC0
          · intro e0
            exact hne (hC.disj k k' b (owns_of hk (.inl ⟨hC0, e0.symm⟩)) (owns_of hk' (.inr ⟨i, q, g1, by simp, g2, g3⟩)))
        exact ⟨s5 b hb', fun _ => hb'⟩
    · -- nothing there, nothing wanted
      have hc0 : (pl k).cap = 0 := by omega
      have he1 : es.length = 0 := by omega
      have he2 : es'.length = 0 := by omega
      have hrun := run_append_in0 (P := P) (w := w) (t := t) (ty := o.type) ht (by omega) ln2' (by simpa using he2) Ad
      obtain ⟨hN, hmk⟩ := hC.killPush hF hK (w' := w) rfl rfl rfl (Nat.le_refl _) ⟨⟨0, 0, 0, 1⟩, (pl k).inn ++ (pl k').inn⟩ (.rows nw (Fl.join fl fl') z (es ++ es') none) (by simp [kind]) (fun b hb => by
          left
          rcases hown _ b hb with g | ⟨_, g⟩ | ⟨_, g⟩
          · exact absurd g.1 (Nat.lt_irrefl 0)
          · exact ⟨k, hkd, g, fun hn => (isnew_rows hk).2 hn⟩
          · exact ⟨k', hkd', g, fun _ => hnewt⟩) (fun b _ hn => rfl)
      refine ⟨.value (.slice Ad 0 0), w, _, hexec (by rw [he1, hc0]; exact hrun), fun k1 hk1 _ => plAt_lt hk1, by simp [hK.1], hmk ?_, .inr ⟨_, rfl, ?_⟩⟩
      · show RowsRel _ _ _ _ _ (plAt pl st.heap.length _ st.heap.length) _ _ _ _
        rw [plAt_eq]
        exact mk _ _ _ _ _ _ rfl (Nat.zero_le _) (by show _ ≤ 0; omega) (fun hc => absurd hc (Nat.lt_irrefl 0)) hN.S hN.Fr (fun b hb => hN.same b hb.1) (fun b hb => hN.same b hb.2) (fun b hb _ => ⟨rfl, fun hc => absurd hc (Nat.lt_irrefl 0)⟩)
      · have := hres ⟨0, 0, 0, 1⟩ 0 Ad (hh ++ [OB.rows nw (Fl.join fl fl') z (es ++ es') none]).length (Sany A w0.heap.size (plAt pl st.heap.length ⟨⟨0, 0, 0, 1⟩, (pl k).inn ++ (pl k').inn⟩) (hh ++ [OB.rows nw (Fl.join fl fl') z (es ++ es') none]) w) (Fresh w0.heap.size (plAt pl st.heap.length ⟨⟨0, 0, 0, 1⟩, (pl k).inn ++ (pl k').inn⟩) (hh ++ [OB.rows nw (Fl.join fl fl') z (es ++ es') none]) w) w rfl (by omega) (Nat.zero_le _) (fun hc => absurd hc (Nat.lt_irrefl 0)) (by simp [hK.1])
        rw [he1, he2] at this ⊢
        exact this
  · -- a new block
    obtain ⟨i, zv, hi, hz1, hz2, hz3, hz4, hz5⟩ := zeroOk_spec hzo
    have hbi : i.bytes = P.bytesOf e := by simp [Program.bytesOf, hi]
    have hm0 : 0 < es'.length := by omega
    obtain ⟨A', c, hse, hA'⟩ := ln2.shape
    obtain ⟨ad, rfl, had⟩ := hA' (by simpa using hm0)
    have hfit : Builtin.nextslicecap (es.length + es'.length) (pl k).cap * i.bytes ≤ 281474976710656 := growslice_fits (by omega) (by rw [hbi]; exact hb)
    have hol : olds.length = es.length * i.size := by rw [lo1, hz5, h1, Nat.mul_one]
    have hrun : (Builtin.append_ #[t, t] o.type #[.slice Ad es.length (pl k).cap, a.eval s]).run P w = .ok (.slice (some ⟨w.heap.size, 0, none⟩) (es.length + es'.length) (grownCap w (es.length + es'.length) (pl k).cap e)) (w.drew.alloc (.cells (olds.toArray ++ news.toArray ++ Builtin.zeroCells zv.cells (grownCap w (es.length + es'.length) (pl k).cap e - (es.length + es'.length))) e)) := by
      rw [hse]
      simp only [List.length_map]
      have hnl : news.length = es'.length * i.size := by rw [ln1, hz5, h1, Nat.mul_one]
      cases Ad with
      | some b =>
        refine run_append_grow (P := P) w t o.type e i zv ht hi hz1 b es.length (pl k).cap olds hol (fun j v hv => ?_) ad es'.length c news hnl had (by omega) (by omega) hfit
        obtain ⟨A2, c2, e2, hA2⟩ := lo2.shape
        rw [ed] at e2
        rcases Nat.eq_zero_or_pos es.length with hn0 | hn0
        · rw [hn0] at hol
          have := List.eq_nil_of_length_eq_zero (by simpa using hol)
          subst this
          simp at hv
        · obtain ⟨ad2, e3, e4⟩ := hA2 (by simpa using hn0)
          injection e2 with e5 _ _
          rw [e3] at e5
          cases e5
          exact e4 j v hv
      | none =>
        have hc0 : (pl k).cap = 0 := by
          rcases Nat.eq_zero_or_pos (pl k).cap with h0 | h0
          · exact h0
          · have := hAd h0; cases this
        have hn0 : es.length = 0 := by omega
        have := List.eq_nil_of_length_eq_zero (l := olds) (by rw [lo1, hn0])
        subst this
        have hr := run_append_nil (P := P) w t o.type e i zv ht hi hz1 ad es'.length c news hnl had hm0 (by omega) (by
          have : es'.length * P.bytesOf e ≤ 140737488355328 := by rw [hn0] at hb; simpa using hb
          rw [hbi]; omega)
        rw [hn0, hc0]
        simpa using hr
    have hge := grownCap_ge w (es.length + es'.length) (pl k).cap e
    have hcm : grownCap w (es.length + es'.length) (pl k).cap e ≤ maxLen := grownCap_le_maxLen w (es.length + es'.length) (pl k).cap e (by simp only [maxLen]; exact h63)
    generalize grownCap w (es.length + es'.length) (pl k).cap e = G at *
    have hxt : Ext w (w.drew.alloc (.cells (olds.toArray ++ news.toArray ++ Builtin.zeroCells zv.cells (G - (es.length + es'.length))) e)) := Ext.trans (b := w.drew) ⟨rfl, rfl, rfl, Nat.le_refl _, fun _ _ => rfl⟩ (Ext.alloc _ _)
    have hnew : (w.drew.alloc (.cells (olds.toArray ++ news.toArray ++ Builtin.zeroCells zv.cells (G - (es.length + es'.length))) e)).heap[w.heap.size]? = some (.cells (olds.toArray ++ news.toArray ++ Builtin.zeroCells zv.cells (G - (es.length + es'.length))) e (0, 0)) := heap_new w.drew _
    have hsz : (w.drew.alloc (.cells (olds.toArray ++ news.toArray ++ Builtin.zeroCells zv.cells (G - (es.length + es'.length))) e)).heap.size = w.heap.size + 1 := World.size_alloc' w.drew _
    generalize hW : w.drew.alloc (.cells (olds.toArray ++ news.toArray ++ Builtin.zeroCells zv.cells (G - (es.length + es'.length))) e) = w1 at *
    obtain ⟨hN, hmk⟩ := hC.killPush hF hK hxt.os hxt.tape hxt.output hxt.size ⟨⟨w.heap.size, 0, G, 1⟩, (pl k).inn ++ (pl k').inn⟩ (.rows nw (Fl.join fl fl') z (es ++ es') none) (by simp [kind]) (fun b hb => by
        rcases hown _ b hb with g | ⟨_, g⟩ | ⟨_, g⟩
        · right
          have : w.heap.size = b := g.2
          omega
        · exact .inl ⟨k, hkd, g, fun hn => (isnew_rows hk).2 hn⟩
        · exact .inl ⟨k', hkd', g, fun _ => hnewt⟩) (fun b hb _ => hxt.block b hb)
    refine ⟨_, w1, _, hexec hrun, fun k1 hk1 _ => plAt_lt hk1, by simp [hK.1], hmk ?_, .inr ⟨_, rfl, hres _ _ _ _ _ _ _ rfl hge hcm (fun _ => rfl) (by simp [hK.1])⟩⟩
    show RowsRel _ _ _ _ _ (plAt pl st.heap.length _ st.heap.length) _ _ _ _
    rw [plAt_eq]
    refine mk _ _ _ _ _ _ rfl hcm hge (fun _ => ⟨e, _, hnew, ?_, fun j hj => ?_, fun j hj => ?_⟩) hN.S hN.Fr (fun b hb => hN.same b hb.1) (fun b hb => hN.same b hb.2) (fun b hb _ => ⟨hxt.block b hb, fun _ => by show b ≠ w.heap.size; omega⟩)
    · show 0 + G ≤ _
      simp only [Array.size_append, List.size_toArray, size_zeroCells, hz4, lo1, ln1, h1, Nat.mul_one]
      omega
    · show (_ : Array Value)[0 + j]? = _
      rw [Nat.zero_add, Array.getElem?_append_left (by simp [lo1, ln1]; omega), Array.getElem?_append_left (by simp [lo1]; omega), List.getElem?_toArray]
    · show (_ : Array Value)[0 + es.length + j]? = _
      rw [Nat.zero_add, Array.getElem?_append_left (by simp [lo1, ln1]; omega), Array.getElem?_append_right (by simp [lo1]), List.getElem?_toArray, List.size_toArray, lo1]
      congr 1; omega
end
end Go.Av

namespace Go.Av
open Go.RowKit

section
variable {N m : Nat} {F A : Nat → Prop} {w0 : World} {st : St} {pl : Nat → Pl} {a : Act} {w : World} {P : Program}

theorem hopW_sound (hC : ConcP N m F A w0 st pl a w) (hF : ∀ b, F b → b < w0.heap.size) {o : Oper} {K : AV → List OB → Prop} (hop : isHop o = true) (h : hopW P m st o K) : ∃ v h', K v h' ∧ HopOk P N m F A w0 st pl a w o v h' := by
  unfold hopW at h
  split at h
  case h_1 t ho => exact ⟨_, _, h.2, hop_alloc hC hF ho h.1⟩
  case h_2 t x ho => exact hop_box hC hF ho h
  case h_3 t len parts ho =>
    split at h
    case h_2 => exact h.elim
    rename_i e ht
    rcases rowsTy_out h with h | ⟨e', he, h1, h2, h3, h4, h5, h6⟩
    · exact hop_buildSlice hC hF ho ht h.1 h.2.1 (Nat.le_of_ble_eq_true h.2.2.1) h.2.2.2
    · exact hop_buildRows hC hF ho ht h1 h2 h3 h4 (Nat.le_of_ble_eq_true h5) h6
  case h_4 t l c ho =>
    split at h
    case h_2 => exact h.elim
    rename_i e ht
    rcases rowsTy_out h with h | ⟨e', he, h1, h2, h3, h4, h5⟩
    · exact hop_makeSlice hC hF ho ht h
    · exact hop_makeRows hC hF ho ht h1 h2 h3 h4 h5
  case h_5 t x y ho => exact hop_store hC (fun ho hx hy h1 hk hm h => hop_storeRows hC hF ho hx hy h1 hk hm h) ho h
  case h_6 args ts ho =>
    split at h
    case h_2 => exact h.elim
    rename_i d s t t' hargs hts
    obtain ⟨rfl, h⟩ := h
    obtain ⟨vd, h1, hd⟩ := withV_sound hC.seen h
    obtain ⟨vs, h2, hs⟩ := withV_sound hC.seen h1
    refine hop_append hC hF ho hargs hts (hd rfl) (hs rfl) (fun ht h1 hz hk hk' hne hd hs hb h63 => hop_appendRows hC hF ?_ ht h1 hz hk hk' hne hd hs hb h63) h2
    rw [ho]
    have e1 : args = #[d, s] := by apply Array.ext'; simpa using hargs
    have e2 : ts = #[t', t'] := by apply Array.ext'; simpa using hts
    rw [e1, e2]
  case h_7 args ts ho =>
    split at h
    case h_2 => exact h.elim
    rename_i d s t t' hargs hts
    obtain ⟨vd, h1, hd⟩ := withV_sound hC.seen h
    obtain ⟨vs, h2, hs⟩ := withV_sound hC.seen h1
    exact hop_copy hC ho hargs hts (hd rfl) (hs rfl) h2
  case h_8 x ho =>
    split at h
    case h_2 => exact h.elim
    rename_i e ht
    have hx : isNilC x = true := by simpa [isHop, ho] using hop
    rcases rowsTy_out h with h | ⟨e', he, h1, h2, h3, h4, h5⟩
    · exact ⟨_, _, h.2.2, hop_nil hC hF ho hx h.1 h.2.1⟩
    · exact ⟨_, _, h5, hop_nilRows hC hF ho hx h3 h4⟩
  case h_9 t r ho =>
    obtain ⟨rfl, h⟩ := h
    exact hop_makeMap hC hF ho h
  case h_10 t x k v ho =>
    obtain ⟨va, h1, ha⟩ := withV_sound hC.seen h
    obtain ⟨vb, h2, hb⟩ := withV_sound hC.seen h1
    obtain ⟨vc, h3, hc⟩ := withV_sound hC.seen h2
    obtain ⟨h', h4, h5⟩ := hop_update hC ho (ha rfl) (hb rfl) (hc rfl) h3
    exact ⟨_, _, h4, h5⟩
  case h_11 => exact h.elim

def isCall : Op → Option Call
  | .call c => match c.callee with
    | .builtin _ => none
    | _ => some c
  | _ => none
theorem isCall_spec {op : Op} {c : Call} (h : isCall op = some c) : op = .call c := by
  unfold isCall at h
  split at h
  · split at h
    · cases h
    · cases h; rfl
  · cases h

/-! The conversions of arguments find one result, whatever is asked of it. -/
theorem seqW_det {α β : Type} {f : α → (β → Prop) → Prop} (hf : ∀ (a : α) (K : β → Prop), f a K → ∃ b, K b ∧ ∀ K' : β → Prop, K' b → f a K') : ∀ {l : List α} {K : List β → Prop}, seqW f l K → ∃ bs, K bs ∧ ∀ K' : List β → Prop, K' bs → seqW f l K'
  | [], K, h => ⟨[], h, fun _ h => h⟩
  | a :: r, K, h => by
    obtain ⟨b, h1, h2⟩ := hf a _ h
    obtain ⟨bs, h3, h4⟩ := seqW_det hf h1
    exact ⟨b :: bs, h3, fun K' hk => h2 _ (h4 _ hk)⟩
theorem pvW_det {heap : List OB} {ids : List Nat} : ∀ (d : Nat) (a : AV) (K : PV → Prop), pvW heap ids d a K → ∃ p, K p ∧ ∀ K' : PV → Prop, K' p → pvW heap ids d a K'
  | 0, _, _, h => h.elim
  | d + 1, a, K, h => by
    cases a with
    | p fl v => exact ⟨v, h, fun _ h => h⟩
    | own k off =>
      simp only [pvW] at h ⊢
      obtain ⟨h1, h⟩ := h
      cases hk : heap[k]? with
      | none => rw [hk] at h; exact h.elim
      | some ob =>
        rw [hk] at h
        simp only [h1, true_and]
        cases ob with
        | fix cells =>
          obtain ⟨ps, h2, h3⟩ := seqW_det (pvW_det d) h
          exact ⟨_, h2, fun K' hk' => h3 (fun ps => K' (.ref (ps.drop off))) hk'⟩
        | _ => exact h.elim
    | orow k i j =>
      simp only [pvW] at h ⊢
      obtain ⟨h1, h⟩ := h
      cases hk : heap[k]? with
      | none => rw [hk] at h; exact h.elim
      | some ob =>
        rw [hk] at h
        simp only [h1, true_and]
        cases ob with
        | row nw fl z es =>
          obtain ⟨h2, e, h3, h4⟩ := h
          exact ⟨_, h4, fun K' hk' => ⟨h2, e, h3, hk'⟩⟩
        | _ => exact h.elim
    | osl k lo n =>
      simp only [pvW] at h ⊢
      obtain ⟨h1, h⟩ := h
      cases hk : heap[k]? with
      | none => rw [hk] at h; exact h.elim
      | some ob =>
        rw [hk] at h
        simp only [h1, true_and]
        cases ob with
        | row nw fl z es =>
          obtain ⟨h2, e, h3, h4⟩ := h
          exact ⟨_, h4, fun K' hk' => ⟨h2, e, h3, hk'⟩⟩
        | rows nw fl z es ho =>
          cases ho with
          | some q => exact h.elim
          | none =>
            obtain ⟨h2, e, h3, h4⟩ := h
            exact ⟨_, h4, fun K' hk' => ⟨h2, e, h3, hk'⟩⟩
        | _ => exact h.elim
    | afn f caps =>
      unfold pvW at h ⊢
      obtain ⟨ps, h2, h3⟩ := seqW_det (pvW_det d) h
      exact ⟨_, h2, fun K' hk' => h3 _ hk'⟩
    | aagg cells =>
      unfold pvW at h ⊢
      obtain ⟨ps, h2, h3⟩ := seqW_det (pvW_det d) h
      exact ⟨_, h2, fun K' hk' => h3 _ hk'⟩
    | amap k =>
      simp only [pvW] at h ⊢
      exact ⟨_, h.2, fun K' hk' => ⟨h.1, hk'⟩⟩
    | _ => unfold pvW at h; exact h.elim
theorem convW1_det {heap : List OB} {ids : List Nat} {lend : Bool} (a : AV) (K : AV → Prop) (h : convW1 heap ids lend a K) : ∃ v, K v ∧ ∀ K' : AV → Prop, K' v → convW1 heap ids lend a K' := by
  have hp : ∀ {a : AV} {K : AV → Prop}, (lend = true ∧ pvW heap ids 5 a fun p => K (.p .any p)) → ∃ v, K v ∧ ∀ K' : AV → Prop, K' v → (lend = true ∧ pvW heap ids 5 a fun p => K' (.p .any p)) := by
    intro a K ⟨h1, h2⟩
    obtain ⟨p, h3, h4⟩ := pvW_det _ _ _ h2
    exact ⟨_, h3, fun K' hk => ⟨h1, h4 _ hk⟩⟩
  cases a with
  | p fl v => cases v <;> exact ⟨_, h, fun _ h => h⟩
  | own k off =>
    simp only [convW1] at h ⊢
    cases hi : ids.idxOf? k with
    | none => rw [hi] at h; exact hp h
    | some i => rw [hi] at h; exact ⟨_, h, fun _ h => h⟩
  | orow k i j =>
    simp only [convW1] at h ⊢
    cases hi : ids.idxOf? k with
    | none => rw [hi] at h; exact hp h
    | some i => rw [hi] at h; exact ⟨_, h, fun _ h => h⟩
  | amap k =>
    simp only [convW1] at h ⊢
    cases hi : ids.idxOf? k with
    | none => rw [hi] at h; exact hp h
    | some i => rw [hi] at h; exact ⟨_, h, fun _ h => h⟩
  | osl k lo n =>
    simp only [convW1] at h ⊢
    cases hi : ids.idxOf? k with
    | none => rw [hi] at h; exact hp h
    | some i => rw [hi] at h; exact ⟨_, h, fun _ h => h⟩
  | afn f caps => exact hp h
  | aagg cells => exact hp h
  | junk => exact ⟨_, h, fun _ h => h⟩
  | _ => unfold convW1 at h; exact h.elim
theorem convW_det {heap : List OB} {ids : List Nat} {lend : Bool} (a : AV) (K : AV → Prop) (h : convW heap ids lend a K) : ∃ v, K v ∧ ∀ K' : AV → Prop, K' v → convW heap ids lend a K' := by
  unfold convW at h
  split at h
  · split at h
    · rename_i e
      obtain ⟨cs, h1, h2⟩ := seqW_det convW1_det h
      exact ⟨_, h1, fun K' hk => by unfold convW; simp only [e]; exact h2 _ hk⟩
    · rename_i e
      obtain ⟨v, h1, h2⟩ := convW1_det _ _ h
      exact ⟨v, h1, fun K' hk => by unfold convW; simp only [e]; exact h2 _ hk⟩
  · split at h
    · rename_i e
      obtain ⟨cs, h1, h2⟩ := seqW_det convW1_det h
      exact ⟨_, h1, fun K' hk => by unfold convW; simp only [e]; exact h2 _ hk⟩
    · rename_i e
      obtain ⟨v, h1, h2⟩ := convW1_det _ _ h
      exact ⟨v, h1, fun K' hk => by unfold convW; simp only [e]; exact h2 _ hk⟩
  · rename_i hn1 hn2
    obtain ⟨v, h1, h2⟩ := convW1_det _ _ h
    exact ⟨v, h1, fun K' hk => by
      unfold convW
      split
      · exact absurd rfl (hn1 _ _)
      · exact absurd rfl (hn2 _)
      · exact h2 _ hk⟩

/-- a call -/
inductive CallF (P : Program) (st : St) (f : FuncId) (vs : List AV) (K : AV → List OB → Prop) : Prop
  | mk (h : CallW P st f vs K)
/-- a call that leaves memory alone, under a guard: its contract -/
inductive ArgQ (G : Bool) (P : Program) (f : FuncId) (args : List AV) (K : AV → Prop) : Prop
  | mk (rs : List AV) (v : AV) (u : Value) (h : G = true → FnSem P f args [] fun rs' _ => rs' = rs) (hr : retAV rs = v) (hv : exactV v = some u) (k : K v)
/-- a call that leaves memory alone, under a guard -/
inductive CallG (G : Bool) (P : Program) (st : St) (f : FuncId) (vs : List AV) (K : AV → Prop) : Prop
  | mk (h : seqW (convW st.heap [] true) vs fun args => ArgQ G P f args K)
theorem CallG.out {G : Bool} {P : Program} {st : St} {f : FuncId} {vs : List AV} {K : AV → Prop} (h : CallG G P st f vs K) : ∃ v, (G = true → CallQ P st f vs v) ∧ K v := by
  obtain ⟨h⟩ := h
  obtain ⟨args, ⟨rs, v, u, h1, h2, h3, h4⟩, h5⟩ := seqW_det convW_det h
  exact ⟨v, fun hG => ⟨u, h3, h5 _ ((h1 hG).mono fun rs' ho hr => by rw [hr]; exact h2)⟩, h4⟩

def isLd (o : Oper) : Bool := match o.op with
  | .load .. => true
  | _ => false
/-- one operation that has no guard (or whose guard is known to hold); q: it must leave memory alone -/
def step0 (q : Bool) (P : Program) (zs : TypeId → List PV) (m : Nat) (st : St) (o : Oper) (K : AV → List OB → Prop) : Prop :=
  match isCall o.op with
  | some c => argsW P zs st true c.args.toList c.argTypes.toList fun vs => calleeW st true c.callee vs fun f vs =>
      bif q then CallG true P st f vs fun v => K v st.heap
      else CallF P st f vs K
  | none => bif !q && isHop o then hopW P m st o K
      else bif !q && isLd o then loadRW P zs st o K
      else opW P zs st true o fun v => K v st.heap
/-- an operation under a guard: both ways at once; or each way by itself -/
inductive GdS (G : Bool) (A T F : Prop) : Prop
  | keep (k : A)
  | tt (h : G = true) (k : T)
  | ff (h : G = false) (k : F)
  | split (h1 : G = true → T) (h0 : G = false → F)
/-- one operation; q: it must leave memory alone -/
def stepV (q : Bool) (P : Program) (zs : TypeId → List PV) (m : Nat) (st : St) (ops : Array Oper) (o : Oper) (K : AV → List OB → Prop) : Prop :=
  match o.guard with
  | none => step0 q P zs m st o K
  | some g => gW st ops (some g) fun G => bif q then (match isCall o.op with
      | some c => argsW P zs st G c.args.toList c.argTypes.toList fun vs => calleeW st G c.callee vs fun f vs => CallG G P st f vs fun v => K (.opt G v) st.heap
      | none => opW P zs st G o fun v => K (.opt G v) st.heap)
    else GdS G (match isCall o.op with
      | some c => argsW P zs st G c.args.toList c.argTypes.toList fun vs => calleeW st G c.callee vs fun f vs => CallG G P st f vs fun v => K (.opt G v) st.heap
      | none => opW P zs st G o fun v => K (.opt G v) st.heap) (step0 false P zs m st o K) (K (.opt false (Bo false)) st.heap)

def okDst (N : Nat) (o : Oper) : Bool := match o.dst with
  | some d => decide (d < N)
  | none => true
theorem okDst_spec {o : Oper} (h : okDst N o = true) : ∀ t, o.dst = some t → t < N := by
  intro t ht
  simpa [okDst, ht] using h

theorem upon_value_of {o : Oper} {Q : Exit → Act → World → Prop} {K : Act → World → Prop} {u : Value} {w' : World} (h : (execOp a.eval o).run P w = .ok (.value u) w') (hk : K (a.put o.dst u) w') : o.wp P a w K Q := by
  simp only [Oper.wp, h, Oper.upon]; exact hk
theorem upon_skip_of {o : Oper} {Q : Exit → Act → World → Prop} {K : Act → World → Prop} {w' : World} (h : (execOp a.eval o).run P w = .ok .skip w') (hk : K (a.put o.dst undef) w') : o.wp P a w K Q := by
  simp only [Oper.wp, h, Oper.upon]; exact hk
theorem upon_call_of {o : Oper} {Q : Exit → Act → World → Prop} {K : Act → World → Prop} {f : FuncId} {us : Array Value} (h : (execOp a.eval o).run P w = .ok (.enter f us) w) {R : Ending → World → Prop} (hc : Calls P f us w R)
    (hk : ∀ e w', R e w' → ∃ u, e = .returned u ∧ K (a.put o.dst u) w') : o.wp P a w K Q := by
  simp only [Oper.wp, h, Oper.upon]
  refine hc.mono fun e w' hR => ?_
  obtain ⟨u, rfl, h2⟩ := hk e w' hR
  exact h2

theorem hus_args {S Fr : Nat → Prop} {L : Nat} {args : Array Operand} {vs : List AV} (h : ∀ (j : Nat) (v : AV) (u : Value), vs[j]? = some v → (args.toList.map a.eval)[j]? = some u → RelA pl L S Fr w v u) :
    ∀ (j : Nat) (v : AV) (u : Value), vs[j]? = some v → (args.map a.eval)[j]? = some u → RelA pl L S Fr w v u := by
  intro j v u hv hu
  refine h j v u hv ?_
  rw [← Array.toList_map, Array.getElem?_toList]
  exact hu

theorem stepV_sound {zs : TypeId → List PV} {ops : Array Oper} {o : Oper} {rest : List Oper} {K : St → Prop} {K0 : AV → List OB → Prop} (hN : okDst N o = true) (hK0 : ∀ v h, K0 v h → RW P N m ops rest K ⟨updO st.env o.dst v, h⟩) (h : stepV false P zs m st ops o K0) : RW P N m ops (o :: rest) K st := by
  intro F A w0 pl0 a w hF hA hc
  obtain ⟨pl, hC, hio⟩ := hc
  have hd := okDst_spec hN
  have go : ∀ {v : AV} {h' : List OB} {pl' : Nat → Pl} {a' : Act} {w' : World}, K0 v h' → ConcP N m F A w0 ⟨updO st.env o.dst v, h'⟩ pl' a' w' → (∀ k, k < st.heap.length → k < h'.length ∧ (k < m → pl' k = pl k)) →
      wpList P ops (fun e a' w' => e = .normal ∧ ∃ st', Conc N m F A w0 pl0 st' a' w' ∧ K st') rest a' w' := fun hR hC' hp =>
    hK0 _ _ hR F A w0 pl0 _ _ hF hA ⟨_, hC', fun k hk => ⟨(hp k (hio k hk).1).1, ((hp k (hio k hk).1).2 hk).trans (hio k hk).2⟩⟩
  unfold stepV at h
  unfold wpList
  have hFw : ∀ b, F b → b < w.heap.size := fun b hb => Nat.lt_of_lt_of_le (hF b hb) hC.hsize
  -- a call that leaves memory alone
  have goQ : ∀ {G : Bool} {c : Call} {gd : Bool}, isCall o.op = some c → Region.wanted o (yielded ops a.tmps) = G → (argsW P zs st G c.args.toList c.argTypes.toList fun vs => calleeW st G c.callee vs fun f vs => CallG G P st f vs fun v => K0 (.opt G v) st.heap) →
      (if Region.wanted o (yielded ops a.tmps) = true then o.wp P a w (wpList P ops (fun e a' w' => e = .normal ∧ ∃ st', Conc N m F A w0 pl0 st' a' w' ∧ K st') rest) (fun e a' w' => e = .normal ∧ ∃ st', Conc N m F A w0 pl0 st' a' w' ∧ K st') ∨ (o.asks P a w ∧ LetsOut (fun e a' w' => e = .normal ∧ ∃ st', Conc N m F A w0 pl0 st' a' w' ∧ K st')) else wpList P ops (fun e a' w' => e = .normal ∧ ∃ st', Conc N m F A w0 pl0 st' a' w' ∧ K st') rest (a.put o.dst undef) w) := by
    intro G c _ hcall hG h
    have hop := isCall_spec hcall
    obtain ⟨vs, h, hl, hr⟩ := argsW_sound hC.seen h
    obtain ⟨f, vs', hg, hcal⟩ := calleeW_sound hC.seen h
    obtain ⟨v, hQ, hR⟩ := hg.out
    rw [hG]
    cases G with
    | false =>
      simp only [Bool.false_eq_true, if_false]
      exact go hR (hC.put o.dst hd (.opt (fun h => by cases h) (fun _ => rfl))) (fun _ hk => ⟨hk, fun _ => rfl⟩)
    | true =>
      simp only [if_true]
      left
      obtain ⟨us', ⟨hl', hr'⟩, hrun⟩ := hcal rfl (c.args.map a.eval) (by simp [hl]) (hus_args (hr rfl))
      obtain ⟨u, hu, hcb, hcalls⟩ := callQ_sound hC (hQ rfl) hl' hr'
      refine upon_call_of (R := fun e w' => e = .returned u ∧ Ext w w' ∧ ∀ (pl' : Nat → Pl) (L : Nat) (S Fr : Nat → Prop), RelA pl' L S Fr w' v u) (f := f) (us := us') ?_ hcalls ?_
      · have := hrun c o.type w rfl rfl hcb
        simpa only [execOp, hop] using this
      · rintro e w' ⟨rfl, hx, hrel⟩
        exact ⟨u, rfl, go hR ((hC.ext hFw hx).put o.dst hd (.opt (fun _ => hrel _ _ _ _) (fun h => by cases h))) (fun _ hk => ⟨hk, fun _ => rfl⟩)⟩
  have base : Region.wanted o (yielded ops a.tmps) = true → step0 false P zs m st o K0 →
      (if Region.wanted o (yielded ops a.tmps) = true then o.wp P a w (wpList P ops (fun e a' w' => e = .normal ∧ ∃ st', Conc N m F A w0 pl0 st' a' w' ∧ K st') rest) (fun e a' w' => e = .normal ∧ ∃ st', Conc N m F A w0 pl0 st' a' w' ∧ K st') ∨ (o.asks P a w ∧ LetsOut (fun e a' w' => e = .normal ∧ ∃ st', Conc N m F A w0 pl0 st' a' w' ∧ K st')) else wpList P ops (fun e a' w' => e = .normal ∧ ∃ st', Conc N m F A w0 pl0 st' a' w' ∧ K st') rest (a.put o.dst undef) w) := by
    intro hw h
    unfold step0 at h
    split at h
    case h_1 c hcall =>
      have hop := isCall_spec hcall
      obtain ⟨vs, h, hl, hr⟩ := argsW_sound hC.seen h
      obtain ⟨f, vs', h, hcal⟩ := calleeW_sound hC.seen h
      obtain ⟨us', ⟨hl', hr'⟩, hrun⟩ := hcal rfl (c.args.map a.eval) (by simp [hl]) (hus_args (hr rfl))
      rw [if_pos hw]
      left
      simp only [cond_false] at h
      obtain ⟨h⟩ := h
      have hcb : callable P f = true := by
        obtain ⟨ids, lend, h1, h2, h⟩ := h
        obtain ⟨args, h, _⟩ := seqW_sound (r := fun _ _ => True) (fun v K h => let ⟨v', h1, _⟩ := convW_sound hC.seen h; ⟨v', h1, trivial⟩) h
        obtain ⟨hin, ⟨R, hs, _⟩, _⟩ := seqW_sound (r := fun _ _ => True) (fun v K h => let ⟨v', h1, _⟩ := convOB_sound hC.seen h; ⟨v', h1, trivial⟩) h
        exact hs.1
      refine upon_call_of (f := f) (us := us') ?_ (callW_sound hC hF h hl' hr') ?_
      · have := hrun c o.type w rfl rfl hcb
        simpa only [execOp, hop] using this
      · rintro e w' ⟨u, rv, heap', pl', rfl, hR, hp, hC', hrel⟩
        refine ⟨u, rfl, go hR (hC'.put o.dst hd hrel) fun k hk => ⟨(hp k hk).1, fun _ => (hp k hk).2⟩⟩
    case h_2 hcall =>
      rw [if_pos hw]
      left
      cases hh : isHop o with
      | true =>
        simp only [hh, Bool.not_false, Bool.and_self, cond_true] at h
        obtain ⟨v, h', hR, nx, w', pl', hrun, hp, hle, hC', hres⟩ := hopW_sound hC hF hh h
        rcases hres with ⟨rfl, rfl⟩ | ⟨u, rfl, hrel⟩
        · refine upon_skip_of hrun (go hR (hC'.put o.dst hd .junk) fun k hk => ⟨Nat.lt_of_lt_of_le hk hle, hp k hk⟩)
        · refine upon_value_of hrun (go hR (hC'.put o.dst hd hrel) fun k hk => ⟨Nat.lt_of_lt_of_le hk hle, hp k hk⟩)
      | false =>
        simp only [hh, Bool.not_false, Bool.and_false, cond_false] at h
        cases hld : isLd o with
        | true =>
          simp only [hld, Bool.and_self, cond_true] at h
          obtain ⟨v, h', hR, nx, w', pl', hrun, hp, hle, hC', hres⟩ := hop_loadR hC hF h
          rcases hres with ⟨rfl, rfl⟩ | ⟨u, rfl, hrel⟩
          · refine upon_skip_of hrun (go hR (hC'.put o.dst hd .junk) fun k hk => ⟨Nat.lt_of_lt_of_le hk hle, hp k hk⟩)
          · refine upon_value_of hrun (go hR (hC'.put o.dst hd hrel) fun k hk => ⟨Nat.lt_of_lt_of_le hk hle, hp k hk⟩)
        | false =>
        simp only [hld, Bool.and_false, cond_false] at h
        obtain ⟨v, hR, hv⟩ := opW_sound hC.seen h
        obtain ⟨u, hrel, hrun⟩ := hv rfl
        exact upon_value_of (hrun w (.inr fun _ _ => rfl)) (go hR (hC.put o.dst hd hrel) (fun _ hk => ⟨hk, fun _ => rfl⟩))
  split at h
  case h_1 hg => exact base (by simp [Region.wanted, hg]) h
  case h_2 g hg =>
    have h := gW_sound hC.seen (o := o) (by rw [hg]; exact h)
    simp only [cond_false] at h
    have off : Region.wanted o (yielded ops a.tmps) = false → K0 (.opt false (Bo false)) st.heap → _ := fun hw hR => go hR (hC.put o.dst hd (.opt (fun h => by cases h) (fun _ => rfl))) (fun _ hk => ⟨hk, fun _ => rfl⟩)
    cases h with
    | tt hw k => exact base hw k
    | ff hw k => rw [if_neg (by rw [hw]; simp)]; exact off hw k
    | split h1 h0 =>
      cases hw : Region.wanted o (yielded ops a.tmps) with
      | true => have := base hw (h1 hw); rwa [hw] at this
      | false => rw [if_neg (by simp)]; exact off hw (h0 hw)
    | keep h =>
    split at h
    case h_1 c hcall => exact goQ (gd := true) hcall rfl h
    case h_2 hcall =>
      obtain ⟨v, hR, hv⟩ := opW_sound hC.seen h
      cases hw : Region.wanted o (yielded ops a.tmps) with
      | true =>
        simp only [if_true]
        left
        rw [hw] at hR
        obtain ⟨u, hrel, hrun⟩ := hv hw
        exact upon_value_of (hrun w (.inr fun _ _ => rfl)) (go hR (hC.put o.dst hd (.opt (fun _ => hrel) (fun h => by cases h))) (fun _ hk => ⟨hk, fun _ => rfl⟩))
      | false =>
        simp only [Bool.false_eq_true, if_false]
        rw [hw] at hR
        exact go hR (hC.put o.dst hd (.opt (fun h => by cases h) (fun _ => rfl))) (fun _ hk => ⟨hk, fun _ => rfl⟩)
end
end Go.Av

namespace Go.Av
open Go.RowKit

/-! Regions whose order is drawn; whole bodies. -/
section
variable {N m : Nat} {F A : Nat → Prop} {w0 : World} {st : St} {pl : Nat → Pl} {a : Act} {w : World} {P : Program}

theorem ConcP.relExt (_hC : ConcP N m F A w0 st pl a w) {w' : World} (hx : Ext w w') {v : AV} {u : Value} (h : RelA pl st.heap.length (Sany A w0.heap.size pl st.heap w) (Fresh w0.heap.size pl st.heap w) w v u) :
    RelA pl st.heap.length (Sany A w0.heap.size pl st.heap w') (Fresh w0.heap.size pl st.heap w') w' v u := by
  have hS0 : ∀ b, Stab pl st.heap w b → Stab pl st.heap w' b := fun b hb => ⟨Nat.lt_of_lt_of_le hb.1 hx.size, hb.2⟩
  exact h.mono (Nat.le_refl _) (fun _ _ => rfl) (fun b hb => ⟨hS0 b hb.1, hb.2⟩) (fun b hb => ⟨hb.1, hS0 b hb.2⟩) (fun b hb => hx.block b hb.1.1) (fun b hb => hx.block b hb.2.1)

/-- what a quiet operation does: one value, in all worlds behind this one -/
theorem quietV_sound (hC : ConcP N m F A w0 st pl a w) (hF : ∀ b, F b → b < w0.heap.size) {zs : TypeId → List PV} {ops : Array Oper} {o : Oper} {K : AV → List OB → Prop} (h : stepV true P zs m st ops o K) :
    ∃ v, K v st.heap ∧
      ((Region.wanted o (yielded ops a.tmps) = true ∧ ∃ u, RelA pl st.heap.length (Sany A w0.heap.size pl st.heap w) (Fresh w0.heap.size pl st.heap w) w v u ∧ (∀ w', Ext w w' → o.quietAt P a (Ext w) w' u) ∧ (isCall o.op = none → (execOp a.eval o).run P w = .ok (.value u) w ∧ (wfree2 o = true → ∀ w', (execOp a.eval o).run P w' = .ok (.value u) w'))) ∨
       (Region.wanted o (yielded ops a.tmps) = false ∧ RelA pl st.heap.length (Sany A w0.heap.size pl st.heap w) (Fresh w0.heap.size pl st.heap w) w v undef)) := by
  have hFw : ∀ b, F b → b < w.heap.size := fun b hb => Nat.lt_of_lt_of_le (hF b hb) hC.hsize
  have qv : ∀ {u : Value}, (∀ w', Same w w' → (execOp a.eval o).run P w' = .ok (.value u) w') → ∀ w', Ext w w' → o.quietAt P a (Ext w) w' u := fun hu w' hx => by
    simp only [Oper.quietAt, hu w' hx.block, Oper.quietUpon, and_self]
  have qc : ∀ {c : Call} {vs : List AV} {f : FuncId} {vs' : List AV} {v : AV} {u : Value}, isCall o.op = some c → vs.length = c.args.toList.length → exactV v = some u → CallQ P st f vs' v →
      (∀ (j : Nat) (v : AV) (u : Value), vs[j]? = some v → (c.args.toList.map a.eval)[j]? = some u → RelA pl st.heap.length (Sany A w0.heap.size pl st.heap w) (Fresh w0.heap.size pl st.heap w) w v u) →
      (∀ (us : Array Value), us.size = vs.length → (∀ (j : Nat) (v : AV) (u : Value), vs[j]? = some v → us[j]? = some u → RelA pl st.heap.length (Sany A w0.heap.size pl st.heap w) (Fresh w0.heap.size pl st.heap w) w v u) →
      ∃ us', (us'.size = vs'.length ∧ ∀ (j : Nat) (v : AV) (u : Value), vs'[j]? = some v → us'[j]? = some u → RelA pl st.heap.length (Sany A w0.heap.size pl st.heap w) (Fresh w0.heap.size pl st.heap w) w v u) ∧
        ∀ (call : Call) (t : TypeId) (w' : World), call.callee = c.callee → call.args.map a.eval = us → callable P f = true → ((do let d ← resolve a.eval call t; invoke d.target d.args) : Sem Next).run P w' = .ok (.enter f us') w') →
      (∀ w', Ext w w' → o.quietAt P a (Ext w) w' u) ∧ RelA pl st.heap.length (Sany A w0.heap.size pl st.heap w) (Fresh w0.heap.size pl st.heap w) w v u := by
    intro c vs f vs' v u hcall hl hu hQ hr hcal
    have hop := isCall_spec hcall
    obtain ⟨us', ⟨hl', hr'⟩, hrun⟩ := hcal (c.args.map a.eval) (by simp [hl]) (hus_args hr)
    have hcs : ∀ w', Ext w w' → callable P f = true ∧ Calls P f us' w' fun e w'' => e = .returned u ∧ Ext w' w'' := by
      intro w' hx
      obtain ⟨u', hu', hcb, hcalls⟩ := callQ_sound (hC.ext hFw hx) hQ hl' (fun j v u hv hu => hC.relExt hx (hr' j v u hv hu))
      rw [hu] at hu'
      cases hu'
      exact ⟨hcb, hcalls.mono fun e w'' h => ⟨h.1, h.2.1⟩⟩
    refine ⟨fun w' hx => ?_, ?_⟩
    · obtain ⟨hcb, hcalls⟩ := hcs w' hx
      have := hrun c o.type w' rfl rfl hcb
      have e1 : (execOp a.eval o).run P w' = .ok (.enter f us') w' := by simpa only [execOp, hop] using this
      simp only [Oper.quietAt, e1, Oper.quietUpon, true_and]
      exact hcalls.mono fun e w'' h => ⟨h.1, hx.trans h.2⟩
    · obtain ⟨u', hu', hcb, hcalls⟩ := callQ_sound hC hQ hl' hr'
      rw [hu] at hu'
      cases hu'
      obtain ⟨e, w', fr, ⟨_, _, hrel⟩, _⟩ := hcalls []
      obtain ⟨u2, hu2, hs⟩ := hQ
      -- the relation of a known value does not look at the world
      have := hrel pl st.heap.length (Sany A w0.heap.size pl st.heap w) (Fresh w0.heap.size pl st.heap w)
      refine exact_move hu this
  unfold stepV at h
  split at h
  case h_1 hg =>
    have hw : Region.wanted o (yielded ops a.tmps) = true := by simp [Region.wanted, hg]
    unfold step0 at h
    split at h
    case h_1 c hcall =>
      obtain ⟨vs, h, hl, hr⟩ := argsW_sound hC.seen h
      obtain ⟨f, vs', h, hcal⟩ := calleeW_sound hC.seen h
      simp only [cond_true] at h
      obtain ⟨v, hQ, hK⟩ := h.out
      have hQ := hQ rfl
      obtain ⟨u, hu, _⟩ := id hQ
      obtain ⟨h1, h2⟩ := qc hcall hl hu hQ (hr rfl) (hcal rfl)
      exact ⟨v, hK, .inl ⟨hw, u, h2, h1, fun hn => by rw [hn] at hcall; cases hcall⟩⟩
    case h_2 hcall =>
      simp only [Bool.not_true, Bool.false_and, cond_false] at h
      obtain ⟨v, hK, hv⟩ := opW_sound hC.seen h
      obtain ⟨u, hrel, hrun⟩ := hv rfl
      exact ⟨v, hK, .inl ⟨hw, u, hrel, qv fun w' h => hrun w' (.inr h), fun _ => ⟨hrun w (.inr fun _ _ => rfl), fun hf w' => hrun w' (.inl hf)⟩⟩⟩
  case h_2 g hg =>
    have h := gW_sound hC.seen (o := o) (by rw [hg]; exact h)
    simp only [cond_true] at h
    cases hw : Region.wanted o (yielded ops a.tmps) with
    | false =>
      rw [hw] at h
      split at h
      case h_1 c hcall =>
        obtain ⟨vs, h, hl, hr⟩ := argsW_sound hC.seen h
        obtain ⟨f, vs', hg', hcal⟩ := calleeW_sound (P := P) hC.seen h
        obtain ⟨v, _, hK⟩ := hg'.out
        exact ⟨_, hK, .inr ⟨rfl, .opt (fun h => by cases h) (fun _ => rfl)⟩⟩
      case h_2 hcall =>
        obtain ⟨v, hK, hv⟩ := opW_sound hC.seen h
        exact ⟨_, hK, .inr ⟨rfl, .opt (fun h => by cases h) (fun _ => rfl)⟩⟩
    | true =>
      rw [hw] at h
      split at h
      case h_1 c hcall =>
        obtain ⟨vs, h, hl, hr⟩ := argsW_sound hC.seen h
        obtain ⟨f, vs', hg', hcal⟩ := calleeW_sound hC.seen h
        obtain ⟨v, hQ, hK⟩ := hg'.out
        obtain ⟨u, hu, _⟩ := id (hQ rfl)
        obtain ⟨h1, h2⟩ := qc hcall hl hu (hQ rfl) (hr rfl) (hcal rfl)
        exact ⟨_, hK, .inl ⟨rfl, u, .opt (fun _ => h2) (fun h => by cases h), h1, fun hn => by rw [hn] at hcall; cases hcall⟩⟩
      case h_2 hcall =>
        obtain ⟨v, hK, hv⟩ := opW_sound hC.seen h
        obtain ⟨u, hrel, hrun⟩ := hv rfl
        exact ⟨_, hK, .inl ⟨rfl, u, .opt (fun _ => hrel) (fun h => by cases h), qv fun w' h => hrun w' (.inr h), fun _ => ⟨hrun w (.inr fun _ _ => rfl), fun hf w' => hrun w' (.inl hf)⟩⟩⟩

end
end Go.Av

namespace Go.Av
open Go.RowKit

/-! Operations whose value hangs on no world: they may be taken first in a region whose order is drawn. -/

def Wf {α : Type} (P : Program) (s : Sem α) : Prop := ∀ (w : World) (v : α) (w1 : World), s.run P w = .ok v w1 → w1 = w ∧ ∀ w', s.run P w' = .ok v w'
def Nev {α : Type} (P : Program) (s : Sem α) : Prop := ∀ (w : World) (v : α) (w1 : World), s.run P w ≠ .ok v w1

section
variable {P : Program} {α β : Type}
theorem Wf.pure (a : α) : Wf P (Pure.pure a : Sem α) := by
  intro w v w1 h
  rw [Sem.run_pure] at h
  cases h
  exact ⟨rfl, fun w' => Sem.run_pure ..⟩
theorem Wf.bind {s : Sem α} {f : α → Sem β} (hs : Wf P s) (hf : ∀ a, Wf P (f a)) : Wf P (s >>= f) := by
  intro w v w1 h
  rw [Sem.run_bind] at h
  cases hr : s.run P w with
  | halt e w2 => rw [hr] at h; cases h
  | ok a w2 =>
    rw [hr] at h
    obtain ⟨rfl, h2⟩ := hs _ _ _ hr
    obtain ⟨rfl, h3⟩ := hf a _ _ _ h
    exact ⟨rfl, fun w' => by rw [Sem.run_bind, h2 w']; exact h3 w'⟩
theorem Nev.wf {s : Sem α} (h : Nev P s) : Wf P s := fun w v w1 h1 => absurd h1 (h w v w1)
theorem Nev.bind {s : Sem α} {f : α → Sem β} (hf : ∀ a, Nev P (f a)) : Nev P (s >>= f) := by
  intro w v w1 h
  rw [Sem.run_bind] at h
  cases hr : s.run P w with
  | halt e w2 => rw [hr] at h; cases h
  | ok a w2 => rw [hr] at h; exact hf a _ _ _ h
theorem Nev.halt (e : Halt) : Nev P (.halt e : Sem α) := by
  intro w v w1 h
  cases h
theorem Nev.panic (e : RuntimeError) : Nev P (runtimePanic e : Sem α) := by
  unfold runtimePanic
  refine Nev.bind fun p => ?_
  cases e <;> first | exact Nev.halt _ | exact Nev.bind fun _ => Nev.halt _ | exact Nev.bind fun _ => Nev.bind fun _ => Nev.halt _
theorem Wf.underlying (t : TypeId) : Wf P (underlying t) := by
  unfold Go.underlying
  refine Wf.bind (fun w v w1 h => ?_) fun p => ?_
  · cases h; exact ⟨rfl, fun _ => rfl⟩
  · split
    · exact .pure _
    · exact (Nev.halt _).wf
theorem Wf.sizeOf (t : TypeId) : Wf P (sizeOf t) := by
  unfold Go.sizeOf typeInfo
  refine Wf.bind (Wf.bind (fun w v w1 h => ?_) fun p => ?_) fun _ => .pure _
  · cases h; exact ⟨rfl, fun _ => rfl⟩
  · split
    · exact .pure _
    · exact (Nev.halt _).wf
theorem Wf.bound (x : Value) (y : Nat) (c : BoundsCode) : Wf P (Instr.sliceBound x y c) := by
  unfold Instr.sliceBound
  refine Wf.bind ?_ fun p => ?_
  · unfold asIntOf
    split
    · exact .pure _
    · exact (Nev.halt _).wf
    · exact (Nev.halt _).wf
  · dsimp only
    split
    · exact .pure _
    · unfold boundsPanic
      dsimp only
      split <;> exact (Nev.bind fun _ => Nev.panic _).wf
theorem Wf.bounds (b : Bool) (l c : Nat) (lo hi mx : Option Value) : Wf P (Instr.sliceBounds b l c lo hi mx) := by
  unfold Instr.sliceBounds
  dsimp only
  repeat' first
    | exact Wf.pure _
    | exact Wf.bound _ _ _
    | exact (Nev.halt _).wf
    | refine Wf.bind ?_ fun _ => ?_
    | split
/-- a part of a slice -/
theorem Wf.slice (t : TypeId) (x : Value) (lo hi mx : Option Value) : Wf P (Instr.sliceAt t x lo hi mx) := by
  unfold Instr.sliceAt Instr.slice Instr.sureAddr asAddr
  dsimp only
  repeat' first
    | exact Wf.pure _
    | exact Wf.underlying _
    | exact Wf.sizeOf _
    | exact Wf.bounds _ _ _ _ _ _
    | exact (Nev.halt _).wf
    | exact (Nev.panic _).wf
    | refine Wf.bind ?_ fun _ => ?_
    | split
end

def wfreeO (o : Oper) : Bool := match o.op with
  | .move _ | .assign _ | .slice .. => true
  | _ => false

section
variable {P : Program} {ops : Array Oper} {md : Region.Mode} {w : World}
theorem wfree_yields {o : Oper} {a : Act} {v : Value} (hf : wfreeO o = true) (hy : YieldsAt P ops w o v a) : Yields P ops o v a := by
  have hv : ∀ n w1, (execOp a.eval o).run P w = .ok n w1 → (∃ u, n = .value u) ∧ ∀ w', (execOp a.eval o).run P w' = .ok n w' := by
    intro n w1 hr
    unfold wfreeO at hf
    split at hf
    · rename_i x hop
      simp only [execOp, hop, Sem.run_pure] at hr ⊢
      cases hr
      exact ⟨⟨_, rfl⟩, fun _ => rfl⟩
    · rename_i x hop
      simp only [execOp, hop, Sem.run_pure] at hr ⊢
      cases hr
      exact ⟨⟨_, rfl⟩, fun _ => rfl⟩
    · rename_i t x lo hi mx hop
      simp only [execOp, hop] at hr ⊢
      obtain ⟨_, h2⟩ := Wf.bind (Wf.slice (P := P) t (a.eval x) (lo.map a.eval) (hi.map a.eval) (mx.map a.eval)) (fun u => Wf.pure (Next.value u)) _ _ _ hr
      refine ⟨?_, h2⟩
      rw [Sem.run_bind] at hr
      cases hs : (Instr.sliceAt t (a.eval x) (lo.map a.eval) (hi.map a.eval) (mx.map a.eval)).run P w with
      | halt e w2 => rw [hs] at hr; cases hr
      | ok u w2 => rw [hs] at hr; cases hr; exact ⟨u, rfl⟩
    · cases hf
  rcases hy with ⟨hw, h | ⟨h, rfl⟩ | ⟨f, args, h, _⟩⟩ | ⟨hw, rfl⟩
  · exact .inl ⟨hw, (hv _ _ h).2⟩
  · obtain ⟨u, hu⟩ := (hv _ _ h).1; cases hu
  · obtain ⟨u, hu⟩ := (hv _ _ h).1; cases hu
  · exact .inr ⟨hw, rfl⟩

theorem wpAny_free {g : Nat} {Q' : Exit → Act → World → Prop} {Lq : Act → Prop} (hsel : Region.noSelect ops = true) (hQ : ∀ c a w, ¬ Q' (.panic c) a w) : ∀ (l : List Oper) (k : Nat) (listed : Array Bool) (a : Act),
    (∀ j, j < l.length → l[j]? = ops[k + j]?) → l.all wfreeO = true → Region.lexHead md ops g l.length k listed = true → wpStill P ops w Lq l a →
    (∀ listed' a', Region.seqB md ops g (k + l.length) listed' = true → Lq a' → wpAny P md ops Q' g listed' a' w) → wpAny P md ops Q' (l.length + g) listed a w
  | [], k, listed, a, _, _, hB, h, hk => by
    rw [List.length_nil, Nat.zero_add]
    exact hk _ _ hB h
  | o :: l, k, listed, a, hl, hf, hB, h, hk => by
    have h0 : ops[k]? = some o := by simpa using (hl 0 (by simp)).symm
    simp only [List.all_cons, Bool.and_eq_true] at hf
    simp only [List.length_cons, Region.lexHead, Bool.and_eq_true] at hB
    have hst : stOp P ops w k (wpStill P ops w Lq l) a := by unfold stOp; simp only [h0]; exact h
    obtain ⟨v, hy, hK⟩ := yieldsAt_of_stOp h0 hst
    rw [List.length_cons, Nat.add_right_comm]
    refine wpAny_take h0 hsel hB.1.2 hB.1.1 (fun c a w h => absurd h (hQ _ _ _)) (wfree_yields hf.1 hy) ?_
    exact wpAny_free hsel hQ l (k + 1) _ _ (fun j hj => by have := hl (j + 1) (by simp; omega); simpa [Nat.add_assoc, Nat.add_comm 1 j] using this) hf.2 hB.2 hK
      (fun listed' a' h1 h2 => hk listed' a' (by rw [List.length_cons]; rwa [Nat.add_assoc, Nat.add_comm 1] at h1) h2)

def lexFreeB (md : Region.Mode) (ops : Array Oper) (n : Nat) : Bool :=
  Region.noSelect ops && Nat.blt n ops.size && (ops.toList.take n).all wfreeO && Region.lexHead md ops (ops.size - n) n 0 (Array.replicate ops.size false)

theorem wp_region_free_tail {id : Nat} {Q : Exit → Act → World → Prop} {a : Act} {w : World} {l : List Oper} (n : Nat) (hm : P.follows .mixedOrders = true) (hQ : ∀ c a w, ¬ Q (.panic c) a w) (hB : lexFreeB .any l.toArray n = true)
    (h : wpStill P l.toArray { w with drawn := w.drawn + 1 } (fun a' => wpList P l.toArray Q (l.drop n) a' { w with drawn := w.drawn + 1 }) (l.take n) a) : (Code.region id l.toArray true).wp P Q a w := by
  simp only [lexFreeB, Bool.and_eq_true] at hB
  obtain ⟨⟨⟨hsel, hn⟩, hf⟩, hlex⟩ := hB
  have hn' : n < l.length := by simpa using hn
  have htl : (l.take n).length = n := by simp; omega
  have hdl : (l.drop n).length = l.toArray.size - n := by simp
  refine wp_region_any hm ?_
  have := wpAny_free (md := .any) (Q' := Q) (w := { w with drawn := w.drawn + 1 }) (g := l.toArray.size - n) hsel hQ (l.take n) 0 (Array.replicate l.toArray.size false) a
    (fun j hj => by
      have hj' : j < n := by rw [htl] at hj; exact hj
      simp [hj']) (by simpa using hf) (by rw [htl]; exact hlex) h
    (fun listed' a' h1 h2 => by
      have h3 := wpAny_of_seq (md := .any) (Q' := Q) (l.drop n) n listed' a' { w with drawn := w.drawn + 1 } (fun j => by simp [List.getElem?_drop]) (by rw [hdl]; simpa [htl] using h1) h2
      rwa [hdl] at h3)
  rw [htl, show n + (l.toArray.size - n) = l.toArray.size by simp; omega] at this
  exact this
theorem wp_region_some_tail {id : Nat} {Q : Exit → Act → World → Prop} {a : Act} {w : World} {l : List Oper} (n : Nat) (hm : P.follows .mixedOrders = true) (hQ : ∀ c a w, ¬ Q (.panic c) a w) (hB : (Region.lexTailB .any l.toArray n || lexFreeB .any l.toArray n) = true)
    (h : wpStill P l.toArray { w with drawn := w.drawn + 1 } (fun a' => wpList P l.toArray Q (l.drop n) a' { w with drawn := w.drawn + 1 }) (l.take n) a) : (Code.region id l.toArray true).wp P Q a w := by
  rcases (Bool.or_eq_true _ _).mp hB with hb | hb
  · exact wp_region_still_tail n hm hb h
  · exact wp_region_free_tail n hm hQ hb h
end
end Go.Av

namespace Go.Av
open Go.RowKit

/-! THE WALK AS A FUNCTION. The environment is a list, the latest entry first; values and blocks are brought to constructor form by continuations. -/
abbrev En := List (Nat × AV)
def lk : En → Nat → AV
  | [], _ => .junk
  | (s, v) :: r, t => bif Nat.beq s t then v else lk r t

theorem lk_cons (e : En) (d : Nat) (v : AV) : upd (lk e) d v = lk ((d, v) :: e) := by
  funext s
  simp only [upd, lk]
  by_cases h : s = d
  · subst h; simp
  · rw [if_neg h]
    have : Nat.beq d s = false := by
      cases hb : Nat.beq d s with
      | false => rfl
      | true => exact absurd (Nat.eq_of_beq_eq_true hb).symm h
    rw [this]; rfl

def putF (e : En) (d : Option Nat) (v : AV) : En := match d with
  | some d => (d, v) :: e
  | none => e
theorem updO_lk (e : En) (d : Option Nat) (v : AV) : updO (lk e) d v = lk (putF e d v) := by
  cases d with
  | none => rfl
  | some d => exact lk_cons e d v

def fFl (fl : Fl) (K : Fl → Prop) : Prop := match fl with
  | .flat => K .flat
  | .fresh => K .fresh
  | .any => K .any
theorem fFl_eq {fl : Fl} {K : Fl → Prop} (h : fFl fl K) : K fl := by cases fl <;> exact h

def fP (p : PV) (K : PV → Prop) : Prop := match p with
  | .c v => K (.c v)
  | .lst z es => K (.lst z es)
  | .agg cs => K (.agg cs)
  | .ref cs => K (.ref cs)
  | .fn f cs => K (.fn f cs)
  | .junk => K .junk
theorem fP_eq {p : PV} {K : PV → Prop} (h : fP p K) : K p := by cases p <;> exact h

def fPs : List PV → (List PV → Prop) → Prop
  | [], K => K []
  | p :: r, K => fP p fun p => fPs r fun r => K (p :: r)
theorem fPs_eq : ∀ {l : List PV} {K : List PV → Prop}, fPs l K → K l
  | [], _, h => h
  | p :: r, K, h => fPs_eq (l := r) (K := fun r => K (p :: r)) (fP_eq (p := p) h)

/-- a pure value, its cells too -/
def fQ (p : PV) (K : PV → Prop) : Prop := match p with
  | .c v => K (.c v)
  | .lst z es => fPs z fun z => K (.lst z es)
  | .agg cs => fPs cs fun cs => K (.agg cs)
  | .ref cs => fPs cs fun cs => K (.ref cs)
  | .fn f cs => fPs cs fun cs => K (.fn f cs)
  | .junk => K .junk
theorem fQ_eq {p : PV} {K : PV → Prop} (h : fQ p K) : K p := by
  cases p with
  | c v => exact h
  | lst z es => exact fPs_eq (K := fun z => K (.lst z es)) h
  | agg cs => exact fPs_eq (K := fun cs => K (.agg cs)) h
  | ref cs => exact fPs_eq (K := fun cs => K (.ref cs)) h
  | fn f cs => exact fPs_eq (K := fun cs => K (.fn f cs)) h
  | junk => exact h

def fN (n : Nat) (K : Nat → Prop) : Prop := fNs [0, 1, 2, 3, 4, 5, 6, 7, 8, 9, 10, 11, 12, 13, 14, 15, 16, 17, 18, 19, 20, 21, 22, 23, 24, 25, 26, 27, 28, 29, 30, 31, 32, 33, 34, 35, 36, 37, 38, 39, 40, 41, 42, 43, 44, 45, 46, 47, 48, 49, 50, 51, 52, 53, 54, 55, 56, 57, 58, 59, 60, 61, 62, 63, 64, 65, 66, 67, 68, 69, 70, 71] n K

def fV : Nat → AV → (AV → Prop) → Prop
  | 0, v, K => K v
  | d + 1, v, K => match v with
    | .p fl p => fFl fl fun fl => fQ p fun p => K (.p fl p)
    | .own k off => fN k fun k => fN off fun off => K (.own k off)
    | .orow k i j => fN k fun k => fN j fun j => K (.orow k i j)
    | .osl k lo n => fN k fun k => K (.osl k lo n)
    | .amap k => fN k fun k => K (.amap k)
    | .afn f caps => seqW (fV d) caps fun caps => K (.afn f caps)
    | .aagg cells => seqW (fV d) cells fun cells => K (.aagg cells)
    | .tup vs => seqW (fV d) vs fun vs => K (.tup vs)
    | .opt g v => fV d v fun v => K (.opt g v)
    | .junk => K .junk

theorem seqW_id {α : Type} {f : α → (α → Prop) → Prop} (hf : ∀ a K, f a K → K a) : ∀ {l : List α} {K : List α → Prop}, seqW f l K → K l
  | [], _, h => h
  | a :: r, K, h => seqW_id hf (l := r) (K := fun r => K (a :: r)) (hf a _ h)

theorem fV_eq : ∀ (d : Nat) (v : AV) (K : AV → Prop), fV d v K → K v
  | 0, _, _, h => h
  | d + 1, v, K, h => by
    cases v with
    | p fl p => exact fQ_eq (K := fun p => K (.p fl p)) (fFl_eq (fl := fl) (K := fun fl => fQ p fun p => K (.p fl p)) h)
    | own k off => exact fNs_eq (K := fun off => K (.own k off)) (fNs_eq (n := k) (K := fun k => fN off fun off => K (.own k off)) h)
    | orow k i j => exact fNs_eq (K := fun j => K (.orow k i j)) (fNs_eq (n := k) (K := fun k => fN j fun j => K (.orow k i j)) h)
    | osl k lo n => exact fNs_eq (K := fun k => K (.osl k lo n)) h
    | amap k => exact fNs_eq (K := fun k => K (.amap k)) h
    | afn f caps => exact seqW_id (fV_eq d) (K := fun caps => K (.afn f caps)) h
    | aagg cells => exact seqW_id (fV_eq d) (K := fun cells => K (.aagg cells)) h
    | tup vs => exact seqW_id (fV_eq d) (K := fun vs => K (.tup vs)) h
    | opt g v => exact fV_eq d v (fun v => K (.opt g v)) h
    | junk => exact h

def fOB (ob : OB) (K : OB → Prop) : Prop := match ob with
  | .dead => K .dead
  | .fix cells => seqW (fV 3) cells fun cells => K (.fix cells)
  | .row true fl z es => fFl fl fun fl => fPs z fun z => K (.row true fl z es)
  | .row false fl z es => fFl fl fun fl => fPs z fun z => K (.row false fl z es)
  | .mp true ks f => K (.mp true ks f)
  | .mp false ks f => K (.mp false ks f)
  | .rows true fl z es none => fFl fl fun fl => fPs z fun z => K (.rows true fl z es none)
  | .rows false fl z es none => fFl fl fun fl => fPs z fun z => K (.rows false fl z es none)
  | .rows true fl z es (some (i, k2)) => fFl fl fun fl => fPs z fun z => fN k2 fun k2 => K (.rows true fl z es (some (i, k2)))
  | .rows false fl z es (some (i, k2)) => fFl fl fun fl => fPs z fun z => fN k2 fun k2 => K (.rows false fl z es (some (i, k2)))
theorem fOB_eq {ob : OB} {K : OB → Prop} (h : fOB ob K) : K ob := by
  cases ob with
  | dead => exact h
  | fix cells => exact seqW_id (fV_eq 3) (K := fun cells => K (.fix cells)) h
  | mp nw ks f => cases nw <;> exact h
  | rows nw fl z es ho =>
    cases ho with
    | none =>
      cases nw with
      | true => exact fPs_eq (K := fun z => K (.rows true fl z es none)) (fFl_eq (fl := fl) (K := fun fl => fPs z fun z => K (.rows true fl z es none)) h)
      | false => exact fPs_eq (K := fun z => K (.rows false fl z es none)) (fFl_eq (fl := fl) (K := fun fl => fPs z fun z => K (.rows false fl z es none)) h)
    | some q =>
      obtain ⟨i, k2⟩ := q
      cases nw with
      | true => exact fNs_eq (K := fun k2 => K (.rows true fl z es (some (i, k2)))) (fPs_eq (K := fun z => fN k2 fun k2 => K (.rows true fl z es (some (i, k2)))) (fFl_eq (fl := fl) (K := fun fl => fPs z fun z => fN k2 fun k2 => K (.rows true fl z es (some (i, k2)))) h))
      | false => exact fNs_eq (K := fun k2 => K (.rows false fl z es (some (i, k2)))) (fPs_eq (K := fun z => fN k2 fun k2 => K (.rows false fl z es (some (i, k2)))) (fFl_eq (fl := fl) (K := fun fl => fPs z fun z => fN k2 fun k2 => K (.rows false fl z es (some (i, k2)))) h))
  | row nw fl z es =>
    cases nw with
    | true => exact fPs_eq (K := fun z => K (.row true fl z es)) (fFl_eq (fl := fl) (K := fun fl => fPs z fun z => K (.row true fl z es)) h)
    | false => exact fPs_eq (K := fun z => K (.row false fl z es)) (fFl_eq (fl := fl) (K := fun fl => fPs z fun z => K (.row false fl z es)) h)
def fH (h : List OB) (K : List OB → Prop) : Prop := seqW fOB h K
theorem fH_eq {h : List OB} {K : List OB → Prop} (hh : fH h K) : K h := seqW_id (fun _ _ h => fOB_eq h) hh

/-- the operations of a region, in their order -/
def regF (q : Bool) (P : Program) (zs : TypeId → List PV) (m : Nat) (ops : Array Oper) (K : En → List OB → Prop) : List Oper → En → List OB → Prop
  | [], e, h => K e h
  | o :: r, e, h => stepV q P zs m ⟨lk e, h⟩ ops o fun v h' => fV 4 v fun v => fH h' fun h' => (match o.dst with
    | some d => regF q P zs m ops K r ((d, v) :: e) h'
    | none => regF q P zs m ops K r e h')

/-- the same, where memory is left alone -/
def regG (P : Program) (zs : TypeId → List PV) (m : Nat) (ops : Array Oper) (K : En → List OB → Prop) (h : List OB) : List Oper → En → Prop
  | [], e => K e h
  | o :: r, e => stepV true P zs m ⟨lk e, h⟩ ops o fun v _ => fV 4 v fun v => (match o.dst with
    | some d => regG P zs m ops K h r ((d, v) :: e)
    | none => regG P zs m ops K h r e)

section
variable {N m : Nat} {F A : Nat → Prop} {w0 : World} {pl : Nat → Pl} {a : Act} {w : World} {P : Program}

theorem regF_put {q : Bool} {zs : TypeId → List PV} {ops : Array Oper} {K : En → List OB → Prop} {r : List Oper} {d : Option Nat} {v : AV} {e : En} {h : List OB} (hr : match d with
    | some d => regF q P zs m ops K r ((d, v) :: e) h
    | none => regF q P zs m ops K r e h) : regF q P zs m ops K r (putF e d v) h := by
  cases d <;> exact hr
theorem regG_put {zs : TypeId → List PV} {ops : Array Oper} {K : En → List OB → Prop} {r : List Oper} {d : Option Nat} {v : AV} {e : En} {h : List OB} (hr : match d with
    | some d => regG P zs m ops K h r ((d, v) :: e)
    | none => regG P zs m ops K h r e) : regG P zs m ops K h r (putF e d v) := by
  cases d <;> exact hr

theorem regQ_sound (hF : ∀ b, F b → b < w0.heap.size) {zs : TypeId → List PV} {ops : Array Oper} {K : En → List OB → Prop} {Q : Act → Prop} {hp : List OB} : ∀ {l : List Oper} {e : En} {a : Act}, l.all (okDst N) = true → ConcP N m F A w0 ⟨lk e, hp⟩ pl a w → regG P zs m ops K hp l e →
    (∀ (e' : En) (a' : Act), ConcP N m F A w0 ⟨lk e', hp⟩ pl a' w → K e' hp → Q a') → wpQuiet P ops (Ext w) Q l a
  | [], e, a, _, hC, h, hK => hK e a hC h
  | o :: l, e, a, hd, hC, h, hK => by
    simp only [List.all_cons, Bool.and_eq_true] at hd
    obtain ⟨v, hr, hv⟩ := quietV_sound hC hF h
    have hr := regG_put (fV_eq _ _ _ hr)
    have put : ∀ {u : Value}, RelA pl hp.length (Sany A w0.heap.size pl hp w) (Fresh w0.heap.size pl hp w) w v u → ConcP N m F A w0 ⟨lk (putF e o.dst v), hp⟩ pl (a.put o.dst u) w := fun hu => by
      rw [← updO_lk]; exact hC.put o.dst (okDst_spec hd.1) hu
    unfold wpQuiet
    rcases hv with ⟨hw, u, hrel, hq, _⟩ | ⟨hw, hrel⟩
    · rw [if_pos hw]
      exact ⟨u, hq, regQ_sound hF hd.2 (put hrel) hr hK⟩
    · rw [if_neg (by simp [hw])]
      exact regQ_sound hF hd.2 (put hrel) hr hK

theorem regS_sound (hF : ∀ b, F b → b < w0.heap.size) {zs : TypeId → List PV} {ops : Array Oper} {K : En → List OB → Prop} {Q : Act → Prop} {hp : List OB} : ∀ {l : List Oper} {e : En} {a : Act}, l.all (okDst N) = true → l.all (fun o => (isCall o.op).isNone) = true → ConcP N m F A w0 ⟨lk e, hp⟩ pl a w → regG P zs m ops K hp l e →
    (∀ (e' : En) (a' : Act), ConcP N m F A w0 ⟨lk e', hp⟩ pl a' w → K e' hp → Q a') → wpStill P ops w Q l a
  | [], e, a, _, _, hC, h, hK => hK e a hC h
  | o :: l, e, a, hd, hc, hC, h, hK => by
    simp only [List.all_cons, Bool.and_eq_true] at hd hc
    obtain ⟨v, hr, hv⟩ := quietV_sound hC hF h
    have hr := regG_put (fV_eq _ _ _ hr)
    have put : ∀ {u : Value}, RelA pl hp.length (Sany A w0.heap.size pl hp w) (Fresh w0.heap.size pl hp w) w v u → ConcP N m F A w0 ⟨lk (putF e o.dst v), hp⟩ pl (a.put o.dst u) w := fun hu => by
      rw [← updO_lk]; exact hC.put o.dst (okDst_spec hd.1) hu
    unfold wpStill
    rcases hv with ⟨hw, u, hrel, _, hq⟩ | ⟨hw, hrel⟩
    · rw [if_pos hw]
      simp only [Oper.still, (hq (by simpa using hc.1)).1, Oper.stillUpon_value]
      exact regS_sound hF hd.2 hc.2 (put hrel) hr hK
    · rw [if_neg (by simp [hw])]
      exact regS_sound hF hd.2 hc.2 (put hrel) hr hK

theorem regF_sound {zs : TypeId → List PV} {ops : Array Oper} {K : En → List OB → Prop} : ∀ {l : List Oper} {e : En} {h : List OB}, l.all (okDst N) = true → regF false P zs m ops K l e h → RW P N m ops l (fun st => ∃ e h, st = ⟨lk e, h⟩ ∧ K e h) ⟨lk e, h⟩
  | [], e, h, _, hk => fun F A w0 pl0 a w hF hA hc => ⟨rfl, _, hc, e, h, rfl, hk⟩
  | o :: l, e, h, hd, hk => by
    simp only [List.all_cons, Bool.and_eq_true] at hd
    refine stepV_sound hd.1 (fun v h' hr => ?_) hk
    have hr := regF_put (fH_eq (fV_eq _ _ _ hr))
    have := regF_sound hd.2 hr
    rw [← updO_lk] at this
    exact this

theorem Ext.drew (w : World) : Ext w { w with drawn := w.drawn + 1 } := ⟨rfl, rfl, rfl, Nat.le_refl _, fun _ _ => rfl⟩

/-! Regions whose order is drawn, walked in every order. -/
def LetsNo (Q : Exit → Act → World → Prop) : Prop := ∀ e a w, Q e a w → e = .normal
theorem Oper.wp_to {o : Oper} {a : Act} {w : World} {K K' : Act → World → Prop} {Q Q' : Exit → Act → World → Prop} (hQ : LetsNo Q) (h : ∀ a w, K a w → K' a w) (hh : o.wp P a w K Q) : o.wp P a w K' Q' := by
  unfold Oper.wp at *
  generalize (execOp a.eval o).run P w = r at *
  cases r with
  | ok n w' =>
    cases n <;> simp only [Oper.upon] at hh ⊢ <;>
      first
        | exact h _ _ hh
        | exact Calls.mono hh (fun e w'' he => by
            cases e with
            | returned v => exact h _ _ he
            | panicked c => cases hQ _ _ _ he
            | outgrown => obtain ⟨a1, w1, h1⟩ := he; cases hQ _ _ _ h1)
        | exact Rows.mono hh (fun _ _ he => h _ _ he)
        | exact hh.elim
  | halt x w' => cases x <;> simp only [Oper.upon] at hh ⊢ <;> first | exact hh.elim | (cases hQ _ _ _ hh)

theorem step_wpOp {pl0 : Nat → Pl} {zs : TypeId → List PV} {ops : Array Oper} {i : Nat} {o : Oper} {st : St} {K0 : AV → List OB → Prop} (h0 : ops[i]? = some o) (hN : okDst N o = true) (h : stepV false P zs m st ops o K0) (hF : ∀ b, F b → b < w0.heap.size) (hA : ∀ b, A b → F b)
    (hC : Conc N m F A w0 pl0 st a w) {Kc : Act → World → Prop} {Q' : Exit → Act → World → Prop} (hK : ∀ v h' a' w', K0 v h' → Conc N m F A w0 pl0 ⟨updO st.env o.dst v, h'⟩ a' w' → Kc a' w') : wpOp P ops Q' i Kc a w := by
  have hr : RW P N m ops [o] (fun s => ∃ v h', K0 v h' ∧ s = ⟨updO st.env o.dst v, h'⟩) st :=
    stepV_sound (rest := []) (K := fun s => ∃ v h', K0 v h' ∧ s = ⟨updO st.env o.dst v, h'⟩) hN (fun v h' hk F A w0 pl0 a w _ _ hc => ⟨rfl, _, hc, v, h', hk, rfl⟩) h
  have hw := hr F A w0 pl0 a w hF hA hC
  have hQ : LetsNo fun e a' w' => e = .normal ∧ ∃ st', Conc N m F A w0 pl0 st' a' w' ∧ ∃ v h', K0 v h' ∧ st' = ⟨updO st.env o.dst v, h'⟩ := fun e a w h => h.1
  have hk : ∀ a' w', wpList P ops (fun e a' w' => e = .normal ∧ ∃ st', Conc N m F A w0 pl0 st' a' w' ∧ ∃ v h', K0 v h' ∧ st' = ⟨updO st.env o.dst v, h'⟩) [] a' w' → Kc a' w' := by
    rintro a' w' ⟨_, st', hc, v, h', hk, rfl⟩
    exact hK _ _ _ _ hk hc
  unfold wpList at hw
  unfold wpOp
  simp only [h0]
  split
  · rename_i hwant
    rw [if_pos hwant] at hw
    rcases hw with hw | ⟨_, _, _, h1⟩
    · exact .inl (Oper.wp_to hQ hk hw)
    · cases h1.1
  · rename_i hwant
    rw [if_neg hwant] at hw
    exact hk _ _ hw

/-- all of a list, one behind the other -/
inductive AllF (p : Nat → Prop) : List Nat → Prop
  | one (i : Nat) (h : p i) : AllF p [i]
  | cons (i : Nat) (r : List Nat) (h : p i) (k : AllF p r) : AllF p (i :: r)
theorem AllF.out {p : Nat → Prop} {l : List Nat} (h : AllF p l) : l ≠ [] ∧ ∀ i ∈ l, p i := by
  induction h with
  | one i h => exact ⟨by simp, fun j hj => by simp at hj; subst hj; exact h⟩
  | cons i r h k ih =>
    refine ⟨by simp, fun j hj => ?_⟩
    rcases List.mem_cons.1 hj with e | hj
    · subst e; exact h
    · exact ih.2 j hj
/-- may the i-th operation be taken first, whatever the others? -/
def takeB (ops : Array Oper) (listed : Array Bool) (i : Nat) : Bool :=
  Region.noSelect ops && Region.free .any ops listed i && (Region.ready .any ops listed).contains i && (match ops[i]? with | some o => wfree2 o && (isCall o.op).isNone && !isHop o | none => false)
/-- the i-th of a list -/
def getO : List Oper → Nat → Option Oper
  | [], _ => none
  | o :: _, 0 => some o
  | _ :: r, i + 1 => getO r i
theorem getO_eq : ∀ (l : List Oper) (i : Nat), getO l i = l[i]?
  | [], i => by simp [getO]
  | o :: _, 0 => rfl
  | _ :: r, i + 1 => by simp [getO, getO_eq r i]
theorem getO_arr (ops : Array Oper) (i : Nat) : getO ops.toList i = ops[i]? := by rw [getO_eq, Array.getElem?_toList]
/-- which operations may come next -/
inductive OrdF (ops : Array Oper) (listed : Array Bool) (step : Bool → Nat → Prop) (fin : Prop) : Prop
  | fin (h : Region.ready .any ops listed = []) (k : fin)
  | all (rs : List Nat) (h : Region.ready .any ops listed = rs) (k : AllF (step false) rs)
  | take (i : Nat) (h : takeB ops listed i = true) (k : step true i)
/-- a region in all its orders -/
def anyF (P : Program) (zs : TypeId → List PV) (m : Nat) (ops : Array Oper) (K : En → List OB → Prop) : Nat → Array Bool → En → List OB → Prop
  | 0, listed, e, h => OrdF ops listed (fun _ _ => False) (K e h)
  | f + 1, listed, e, h => OrdF ops listed (fun q i => match getO ops.toList i with
    | some o => stepV q P zs m ⟨lk e, h⟩ ops o fun v h' => fV 4 v fun v => fH h' fun h' => (match o.dst with
      | some d => anyF P zs m ops K f (listed.setIfInBounds i true) ((d, v) :: e) h'
      | none => anyF P zs m ops K f (listed.setIfInBounds i true) e h')
    | none => False) (K e h)
theorem anyF_put {zs : TypeId → List PV} {ops : Array Oper} {K : En → List OB → Prop} {f : Nat} {listed : Array Bool} {d : Option Nat} {v : AV} {e : En} {h : List OB} (hr : match d with
    | some d => anyF P zs m ops K f listed ((d, v) :: e) h
    | none => anyF P zs m ops K f listed e h) : anyF P zs m ops K f listed (putF e d v) h := by
  cases d <;> exact hr
theorem anyF_sound {pl0 : Nat → Pl} (hF : ∀ b, F b → b < w0.heap.size) (hA : ∀ b, A b → F b) {zs : TypeId → List PV} {ops : Array Oper} (hd : ops.toList.all (okDst N) = true) {K : En → List OB → Prop} {Q' : Exit → Act → World → Prop} (hQ' : LetsNo Q')
    (hK : ∀ e h a w, Conc N m F A w0 pl0 ⟨lk e, h⟩ a w → K e h → Q' .normal a w) : ∀ {f : Nat} {listed : Array Bool} {e : En} {h : List OB} {a : Act} {w : World}, Conc N m F A w0 pl0 ⟨lk e, h⟩ a w → anyF P zs m ops K f listed e h → wpAny P .any ops Q' f listed a w := by
  intro f
  have hdi : ∀ {i : Nat} {o : Oper}, ops[i]? = some o → okDst N o = true := fun {i o} h => by
    simp only [List.all_eq_true] at hd
    exact hd o (List.mem_of_getElem? (i := i) (by rw [Array.getElem?_toList]; exact h))
  induction f with
  | zero =>
    intro listed e h a w hC hh
    rcases hh with ⟨h1, h2⟩ | ⟨rs, h1, h2⟩ | ⟨i, h1, h2⟩
    · exact ⟨h1, hK _ _ _ _ hC h2⟩
    · obtain ⟨h3, h4⟩ := h2.out
      cases rs with
      | nil => exact absurd rfl h3
      | cons i r => exact (h4 i (by simp)).elim
    · exact h2.elim
  | succ f ih =>
    intro listed e h a w hC hh
    rcases hh with ⟨h1, h2⟩ | ⟨rs, h1, h2⟩ | ⟨i, h1, h2⟩
    · exact wpAny_done h1 (hK _ _ _ _ hC h2) _
    · obtain ⟨h3, h4⟩ := h2.out
      refine wpAny_all h1 h3 fun i hi => ?_
      have h5 := h4 i hi
      simp only [getO_arr] at h5
      cases ho : ops[i]? with
      | none => rw [ho] at h5; exact h5.elim
      | some o =>
        rw [ho] at h5
        refine step_wpOp ho (hdi ho) h5 hF hA hC fun v h' a' w' hr hc => ?_
        have hr := anyF_put (fH_eq (fV_eq _ _ _ hr))
        rw [updO_lk] at hc
        exact ih hc hr
    · simp only [takeB, Bool.and_eq_true] at h1
      obtain ⟨⟨⟨hsel, hfree⟩, hready⟩, hwf⟩ := h1
      simp only [getO_arr] at h2
      cases ho : ops[i]? with
      | none => rw [ho] at h2; exact h2.elim
      | some o =>
        rw [ho] at h2 hwf
        simp only [Bool.and_eq_true, Bool.not_eq_true'] at hwf
        obtain ⟨pl, hp, hio⟩ := hC
        obtain ⟨v, hr, hv⟩ := quietV_sound hp hF h2
        have hr := anyF_put (fH_eq (fV_eq _ _ _ hr))
        have hnc : isCall o.op = none := by simpa using hwf.1.2
        have put : ∀ {u : Value}, RelA pl h.length (Sany A w0.heap.size pl h w) (Fresh w0.heap.size pl h w) w v u → Conc N m F A w0 pl0 ⟨lk (putF e o.dst v), h⟩ (a.put o.dst u) w := fun hu => by
          rw [← updO_lk]; exact ⟨pl, hp.put o.dst (okDst_spec (hdi ho)) hu, hio⟩
        have hpan : ∀ (u : Value) (c : List PanicEntry) (a : Act) (w : World), Q' (.panic c) (a.put o.dst u) w → Q' (.panic c) a w := fun u c a w h => by cases hQ' _ _ _ h
        rcases hv with ⟨hw, u, hrel, hq, hrun⟩ | ⟨hw, hrel⟩
        · exact wpAny_take ho hsel hfree hready (fun c => hpan u c) (.inl ⟨hw, (hrun hnc).2 hwf.1.1⟩) (ih (put hrel) hr)
        · exact wpAny_take ho hsel hfree hready (fun c => hpan undef c) (.inr ⟨hw, rfl⟩) (ih (put hrel) hr)

def hopAt : List Oper → Nat → Option Nat
  | [], _ => none
  | o :: r, i => bif isHop o then some i else hopAt r (i + 1)

/-- one order stands for all -/
def lexOk (ops : Array Oper) : Bool := match hopAt ops.toList 0 with
  | none => Region.lexB .any ops
  | some n => (Region.lexTailB .any ops n || lexFreeB .any ops n) && (ops.toList.take n).all (fun o => (isCall o.op).isNone)
def okReg (N : Nat) (ops : Array Oper) (_ : Bool) : Bool := ops.toList.all (okDst N)

/-- a body is of those that 'codeF' walks -/
def okCode (N : Nat) : Code → Bool
  | .seq a b => okCode N a && okCode N b
  | .cond _ a b => okCode N a && okCode N b
  | .block _ c => okCode N c
  | .loop c => okCode N c
  | .region _ ops d => okReg N ops d
  | .skip => true
  | .ret => true
  | .exit _ => true
  | _ => false

inductive DrawF (ops : Array Oper) (A B : Prop) : Prop
  | lex (h : lexOk ops = true) (k : A)
  | any (k : B)
def drawF (P : Program) (zs : TypeId → List PV) (m : Nat) (ops : Array Oper) (K : En → List OB → Prop) (e : En) (h : List OB) : Prop := DrawF ops (match hopAt ops.toList 0 with
  | none => regG P zs m ops K h ops.toList e
  | some n => regG P zs m ops (fun e h => regF false P zs m ops K (ops.toList.drop n) e h) h (ops.toList.take n) e)
  (anyF P zs m ops K ops.size (Array.replicate ops.size false) e h)

theorem AW.drawn {zs : TypeId → List PV} {id : Nat} {ops : Array Oper} {K : En → List OB → Prop} {e : En} {h : List OB} (hm : P.follows .mixedOrders = true) (hd : okReg N ops true = true) (hk : drawF P zs m ops K e h) :
    AW P N m (.region id ops true) (fun x st => x = .normal ∧ ∃ e h, st = ⟨lk e, h⟩ ∧ K e h) ⟨lk e, h⟩ := by
  unfold okReg at hd
  unfold drawF at hk
  rintro F A w0 pl0 a w hF hA ⟨pl, hp, hio⟩
  have hFw : ∀ b, F b → b < w.heap.size := fun b hb => Nat.lt_of_lt_of_le (hF b hb) hp.hsize
  have hp1 := hp.ext hFw (Ext.drew w)
  rcases hk with ⟨hok, hk⟩ | hk
  case any =>
    refine wp_mono (Q := fun e a' w' => e = .normal ∧ ∃ st', Conc N m F A w0 pl0 st' a' w' ∧ ∃ e h, st' = ⟨lk e, h⟩ ∧ K e h) ?_ (fun e a' w' ⟨he, st', hc, hq⟩ => by subst he; exact ⟨st', hc, rfl, hq⟩)
    exact wp_region_any hm (anyF_sound hF hA hd (fun e a w h => h.1) (fun e h a w hc hk => ⟨rfl, _, hc, e, h, rfl, hk⟩) ⟨pl, hp1, hio⟩ hk)
  unfold lexOk at hok
  split at hk
  · rename_i hh
    rw [hh] at hok
    refine wp_region_quiet (C := Ext { w with drawn := w.drawn + 1 }) hm hok (Ext.refl _) (regQ_sound hF hd hp1 hk ?_)
    intro e' a' hp' hK w' hx
    exact ⟨_, ⟨pl, hp'.ext hFw hx, hio⟩, rfl, e', h, rfl, hK⟩
  · rename_i n hh
    rw [hh] at hok
    simp only [Bool.and_eq_true] at hok
    have hd1 : (ops.toList.take n).all (okDst N) = true := by
      simp only [List.all_eq_true] at hd ⊢
      exact fun x hx => hd x (List.mem_of_mem_take hx)
    have hd2 : (ops.toList.drop n).all (okDst N) = true := by
      simp only [List.all_eq_true] at hd ⊢
      exact fun x hx => hd x (List.mem_of_mem_drop hx)
    refine wp_mono (Q := fun e a' w' => e = .normal ∧ ∃ st', Conc N m F A w0 pl0 st' a' w' ∧ ∃ e h, st' = ⟨lk e, h⟩ ∧ K e h) ?_ (fun e a' w' ⟨he, st', hc, hq⟩ => by subst he; exact ⟨st', hc, rfl, hq⟩)
    have key := wp_region_some_tail (P := P) (id := id) (Q := fun e a' w' => e = .normal ∧ ∃ st', Conc N m F A w0 pl0 st' a' w' ∧ ∃ e h, st' = ⟨lk e, h⟩ ∧ K e h) (a := a) (w := w) (l := ops.toList) n hm (fun c a w h => by cases h.1) (by simpa using hok.1) ?_
    · simpa using key
    · refine regS_sound hF hd1 hok.2 hp1 (by simpa using hk) ?_
      intro e' a' hp' hK
      have := regF_sound hd2 hK F A w0 pl0 a' _ hF hA ⟨pl, hp', hio⟩
      simpa using this
end
end Go.Av

namespace Go.Av
open Go.RowKit

/-! GHOSTS: a state in other words: a nil slice that a block holds becomes a row of one's own; a row that came in goes over to a new block. -/
inductive Gh where
  | nils (k off : Nat) (z : List PV)
  | nilr (k off : Nat) (z : List PV)
  | mv (k : Nat)

def nilAt (h : List OB) (k off : Nat) (z : List PV) : Bool := match h[k]? with
  | some (.fix cells) => (match cells[off]? with
    | some (.p _ (.c (.slice none 0 0))) => (match z with
      | [] => false
      | _ => true)
    | _ => false)
  | _ => false
def nilH (h : List OB) (k off : Nat) : List OB := match h[k]? with
  | some (.fix cells) => h.set k (.fix (cells.set off (.osl h.length 0 0)))
  | _ => h
def mvG (k L : Nat) : Nat → Option Nat := fun i => bif Nat.beq i k then some L else some i
def mvE (k L : Nat) : En → En
  | [] => []
  | (s, v) :: r => (s, renA (mvG k L) some v) :: mvE k L r
def mvO (g : Nat → Option Nat) : OB → OB
  | .fix cells => .fix (renL g some cells)
  | ob => ob
def mvL (g : Nat → Option Nat) : List OB → List OB
  | [] => []
  | ob :: r => mvO g ob :: mvL g r
theorem mvL_eq (g : Nat → Option Nat) (h : List OB) : mvL g h = h.map (mvO g) := by
  induction h with
  | nil => rfl
  | cons a r ih => simp [mvL, ih]
def mvAt (h : List OB) (k : Nat) : Bool := match h[k]? with
  | some (.row false _ _ _) => true
  | some (.rows false _ _ _ none) => true
  | _ => false
def mvH (h : List OB) (k : Nat) : List OB := match h[k]? with
  | some ob => mvL (mvG k h.length) (h.set k .dead ++ [ob])
  | none => h
theorem lk_mvE (k L : Nat) : ∀ (e : En) (s : Nat), lk (mvE k L e) s = renA (mvG k L) some (lk e s)
  | [], s => by simp [mvE, lk, renA]
  | (t, v) :: r, s => by
    simp only [mvE, lk]
    cases Nat.beq t s with
    | true => rfl
    | false => exact lk_mvE k L r s

section
variable {N m : Nat} {F A : Nat → Prop} {w0 : World} {st : St} {pl : Nat → Pl} {a : Act} {w : World} {P : Program}

theorem owns_mvL {g : Nat → Option Nat} {h : List OB} {k b : Nat} : owns pl (h.map (mvO g)) k b ↔ owns pl h k b := by
  unfold owns
  rw [List.getElem?_map]
  cases h[k]? with
  | none => exact Iff.rfl
  | some ob => cases ob <;> exact Iff.rfl
theorem ConcP.remap (hp : ConcP N m F A w0 st pl a w) (g : Nat → Option Nat) (hg : ∀ k i, k < st.heap.length → g k = some i → i < st.heap.length ∧ pl i = pl k) :
    ConcP N m F A w0 ⟨fun s => renA g some (st.env s), st.heap.map (mvO g)⟩ pl a w := by
  have ho : ∀ k b, owns pl (st.heap.map (mvO g)) k b ↔ owns pl st.heap k b := fun k b => owns_mvL
  have hSt : Stab pl (st.heap.map (mvO g)) w = Stab pl st.heap w := funext fun b => propext ⟨fun h => ⟨h.1, fun k hk => h.2 k ((ho k b).2 hk)⟩, fun h => ⟨h.1, fun k hk => h.2 k ((ho k b).1 hk)⟩⟩
  have hS : Sany A w0.heap.size pl (st.heap.map (mvO g)) w = Sany A w0.heap.size pl st.heap w := by unfold Sany; rw [hSt]
  have hFr : Fresh w0.heap.size pl (st.heap.map (mvO g)) w = Fresh w0.heap.size pl st.heap w := by unfold Fresh; rw [hSt]
  have hn : ∀ k, isnew m (st.heap.map (mvO g)) k → isnew m st.heap k := by
    intro k hk
    unfold isnew at hk ⊢
    rw [List.getElem?_map] at hk
    cases h : st.heap[k]? with
    | none => rw [h] at hk; exact hk
    | some ob => rw [h] at hk; cases ob <;> exact hk
  have hl : (st.heap.map (mvO g)).length = st.heap.length := List.length_map _
  have hfm : ∀ fl fl', (some fl : Option Fl) = some fl' → ∀ b, flagS (Sany A w0.heap.size pl st.heap w) (Fresh w0.heap.size pl st.heap w) fl b → flagS (Sany A w0.heap.size pl st.heap w) (Fresh w0.heap.size pl st.heap w) fl' b ∧ w.heap[b]? = w.heap[b]? := by
    intro fl fl' he b hb; cases he; exact ⟨hb, rfl⟩
  refine { defers := hp.defers, size := hp.size, os := hp.os, tape := hp.tape, output := hp.output, hsize := hp.hsize, frame := hp.frame, ownlt := fun k b hk => hp.ownlt k b ((ho k b).1 hk), ownF := fun k b hk => hp.ownF k b ((ho k b).1 hk), newb := fun k b h1 hk => hp.newb k b (hn k h1) ((ho k b).1 hk), disj := fun k k' b h1 h2 => hp.disj k k' b ((ho k b).1 h1) ((ho k' b).1 h2), heap := fun k ob hk => ?_, env := fun s => ?_ }
  · simp only [hS, hFr, hl]
    simp only [List.getElem?_map] at hk
    cases h : st.heap[k]? with
    | none => rw [h] at hk; cases hk
    | some ob0 =>
      rw [h] at hk
      cases hk
      have := hp.heap k ob0 h
      cases ob0 with
      | fix cells => exact OBrel.ren (g := g) (fm := some) hg hfm rfl (fun _ _ => rfl) this
      | _ => exact this
  · simp only [hS, hFr, hl]
    exact (hp.env s).ren hg hfm

theorem nilAt_spec {h : List OB} {k off : Nat} {z : List PV} (hb : nilAt h k off z = true) : ∃ cells fl, h[k]? = some (.fix cells) ∧ cells[off]? = some (.p fl (.c (.slice none 0 0))) ∧ 0 < z.length := by
  unfold nilAt at hb
  split at hb
  · rename_i cells hk
    split at hb
    · rename_i fl ho
      cases z with
      | nil => cases hb
      | cons x r => exact ⟨_, _, hk, ho, by simp⟩
    · cases hb
  · cases hb

theorem ConcP.nilCell {env : Nat → AV} {h : List OB} {pl : Nat → Pl} (hp : ConcP N m F A w0 ⟨env, h⟩ pl a w) {k off : Nat} {cells : List AV} {fl : Fl} (hk : h[k]? = some (.fix cells)) (ho : cells[off]? = some (.p fl (.c (.slice none 0 0)))) {i : Nat} (hi : i < h.length) (hc : (pl i).cap = 0) :
    ConcP N m F A w0 ⟨env, h.set k (.fix (cells.set off (.osl i 0 0)))⟩ pl a w := by
  obtain ⟨hN, hmk⟩ := hp.write' hk (ob' := .fix (cells.set off (.osl i 0 0))) rfl rfl (w' := w) rfl rfl rfl rfl (fun _ _ => rfl)
  refine hmk ?_
  obtain ⟨ty, arr, h1, h2, h3⟩ := hp.heap k _ hk
  refine ⟨ty, arr, h1, by simp [h2], fun j av u hj hu => ?_⟩
  by_cases hjo : j = off
  · subst hjo
    have hlt : j < cells.length := (List.getElem?_eq_some_iff.1 ho).1
    rw [List.getElem?_set_self hlt] at hj
    cases hj
    obtain ⟨h4, h5⟩ := h3 j _ u ho hu
    obtain ⟨rfl, _, _⟩ := h5.cinv
    exact ⟨h4, .osl (by simpa using hi) (fun hlt => by omega) (by omega) (Nat.le_refl _) (by omega)⟩
  · rw [List.getElem?_set_ne (fun e => hjo e.symm)] at hj
    obtain ⟨h4, h5⟩ := h3 j _ u hj hu
    exact ⟨h4, hN.relA h5⟩

/-- a row of rows without a place -/
theorem ConcP.newNilR (h : ConcP N m F A w0 st pl a w) (hF : ∀ b, F b → b < w0.heap.size) (nw : Bool) (fl : Fl) (z : List PV) (hz : 0 < z.length) :
    ConcP N m F A w0 ⟨st.env, st.heap ++ [.rows nw fl z [] none]⟩ (plAt pl st.heap.length (mkPl 0 0 0 1)) a w := by
  obtain ⟨hN, hmk⟩ := h.newOb hF (Ext.refl w) (mkPl 0 0 0 1) (.rows nw fl z [] none) fun b hb => by
    rcases hb with hb | ⟨i, q, hq, _⟩
    · exact absurd hb.1 (Nat.lt_irrefl 0)
    · simp at hq
  refine hmk ?_
  show RowsRel _ _ _ _ _ (plAt pl st.heap.length (mkPl 0 0 0 1) st.heap.length) fl z [] none
  rw [plAt_eq]
  exact { sz := rfl, cap := Nat.zero_le _, len := Nat.zero_le _, inn := rfl, zpos := hz, mem := fun hc => absurd hc (by simp), row := fun i e q he => (by simp at he), out := fun i k2 hh => (by cases hh), apart := fun i j q q' hq => (by simp at hq), apart0 := fun i q hq => (by simp at hq) }
end

def fE : En → (En → Prop) → Prop
  | [], K => K []
  | (s, v) :: r, K => fV 4 v fun v => fE r fun r => K ((s, v) :: r)
theorem fE_eq : ∀ {e : En} {K : En → Prop}, fE e K → K e
  | [], _, h => h
  | (s, v) :: r, K, h => fE_eq (e := r) (K := fun r => K ((s, v) :: r)) (fV_eq _ _ _ h)


def ghW : List Gh → (En → List OB → Prop) → En → List OB → Prop
  | [], K, e, h => K e h
  | .nils k off z :: r, K, e, h => nilAt h k off z = true ∧ fH (nilH h k off ++ [.row true .flat z []]) fun h => ghW r K e h
  | .nilr k off z :: r, K, e, h => nilAt h k off z = true ∧ fH (nilH h k off ++ [.rows true .flat z [] none]) fun h => ghW r K e h
  | .mv k :: r, K, e, h => mvAt h k = true ∧ fE (mvE k h.length e) fun e => fH (mvH h k) fun h => ghW r K e h
inductive GhF (id : Nat) (K : En → List OB → Prop) (e : En) (h : List OB) : Prop
  | go (k : K e h)
  | act (l : List Gh) (x : ghW l K e h)
theorem GhF.at {id : Nat} {K : En → List OB → Prop} {e : En} {h : List OB} (i : Nat) (_ : Nat.beq id i = true) (l : List Gh) (x : ghW l K e h) : GhF id K e h := .act l x

theorem AW.gh {P : Program} {N m : Nat} {c : Code} {Q : Exit → St → Prop} {K : En → List OB → Prop} (hK : ∀ e h, K e h → AW P N m c Q ⟨lk e, h⟩) : ∀ {l : List Gh} {e : En} {h : List OB}, ghW l K e h → AW P N m c Q ⟨lk e, h⟩
  | [], e, h, hx => hK e h hx
  | .nils k off z :: r, e, h, hx => by
    obtain ⟨hb, hx⟩ := hx
    have ih := AW.gh hK (fH_eq hx)
    obtain ⟨cells, fl, hk, ho, hz⟩ := nilAt_spec hb
    rintro F A w0 pl0 a w hF hA ⟨pl, hp, hio⟩
    have hkl := (List.getElem?_eq_some_iff.1 hk).1
    have h1 := (hp.newNil hF true .flat z hz).2
    have h2 := h1.nilCell (k := k) (off := off) (cells := cells) (fl := fl) (by rw [List.getElem?_append_left hkl]; exact hk) ho (i := h.length) (by simp) (by show (plAt pl h.length _ h.length).cap = 0; rw [plAt_eq])
    refine ih F A w0 pl0 a w hF hA ⟨plAt pl h.length (mkPl 0 0 0 z.length), ?_, fun k' hk' => ⟨?_, ?_⟩⟩
    · unfold nilH
      simp only [hk]
      rw [List.set_append_left _ _ hkl] at h2
      exact h2
    · have := (hio k' hk').1
      unfold nilH; simp only [hk]; simp at this ⊢; omega
    · show plAt pl h.length _ k' = _
      rw [plAt_lt (hio k' hk').1]; exact (hio k' hk').2
  | .nilr k off z :: r, e, h, hx => by
    obtain ⟨hb, hx⟩ := hx
    have ih := AW.gh hK (fH_eq hx)
    obtain ⟨cells, fl, hk, ho, hz⟩ := nilAt_spec hb
    rintro F A w0 pl0 a w hF hA ⟨pl, hp, hio⟩
    have hkl := (List.getElem?_eq_some_iff.1 hk).1
    have h1 := hp.newNilR hF true .flat z hz
    have h2 := h1.nilCell (k := k) (off := off) (cells := cells) (fl := fl) (by rw [List.getElem?_append_left hkl]; exact hk) ho (i := h.length) (by simp) (by show (plAt pl h.length _ h.length).cap = 0; rw [plAt_eq])
    refine ih F A w0 pl0 a w hF hA ⟨plAt pl h.length (mkPl 0 0 0 1), ?_, fun k' hk' => ⟨?_, ?_⟩⟩
    · unfold nilH
      simp only [hk]
      rw [List.set_append_left _ _ hkl] at h2
      exact h2
    · have := (hio k' hk').1
      unfold nilH; simp only [hk]; simp at this ⊢; omega
    · show plAt pl h.length _ k' = _
      rw [plAt_lt (hio k' hk').1]; exact (hio k' hk').2
  | .mv k :: r, e, h, hx => by
    obtain ⟨hb, hx⟩ := hx
    have ih := AW.gh hK (fH_eq (fE_eq hx))
    rintro F A w0 pl0 a w hF hA ⟨pl, hp, hio⟩
    have hb' : ∃ ob, h[k]? = some ob ∧ nwOf ob = false ∧ kind ob ≠ 1 := by
      unfold mvAt at hb
      split at hb
      · rename_i hk; exact ⟨_, hk, rfl, by simp [kind]⟩
      · rename_i hk; exact ⟨_, hk, rfl, by simp [kind]⟩
      · cases hb
    obtain ⟨ob, hk, hn1, hn2⟩ := hb'
    have hkl := (List.getElem?_eq_some_iff.1 hk).1
    obtain ⟨hN, hmk⟩ := hp.moveG hk (ob' := ob) (.inr ⟨hn1, hn2⟩) (w' := w) rfl rfl rfl rfl (fun _ _ => rfl) (pl k) (fun _ hb => hb)
    have h1 := hmk ((hp.heap k ob hk).mono (pl' := fun i => if i = k then plAt pl h.length (pl k) h.length else plAt pl h.length (pl k) i) hN.len (fun i hi => by
        by_cases hik : i = k
        · simp only [hik, if_true, plAt_eq]; exact Pl.Base.refl _
        · simp only [hik, if_false]; exact hN.pl i hi) hN.S hN.Fr (fun b hb => hN.same b hb.1) (fun b hb => hN.same b hb.2) (by simp [plAt_eq]) (fun _ _ => rfl) |> fun hob => by
          have e : OBrel (fun i => if i = k then plAt pl h.length (pl k) h.length else plAt pl h.length (pl k) i) (h.set k OB.dead ++ [ob]).length (Sany A w0.heap.size (plAt pl h.length (pl k)) (h.set k OB.dead ++ [ob]) w) (Fresh w0.heap.size (plAt pl h.length (pl k)) (h.set k OB.dead ++ [ob]) w) w k ob := hob
          have ef : (fun i => if i = k then plAt pl h.length (pl k) h.length else plAt pl h.length (pl k) i) = plAt pl h.length (pl k) := by
            funext i
            by_cases hik : i = k
            · subst hik; simp only [if_true, plAt_eq]; rw [plAt_lt hkl]
            · simp [hik]
          rw [ef] at e
          have e2 : plAt pl h.length (pl k) h.length = plAt pl h.length (pl k) k := by rw [plAt_eq, plAt_lt hkl]
          revert e
          cases ob with
          | fix c => exact absurd rfl hn2
          | dead => exact fun _ => trivial
          | row nw fl z es => intro e; show RowRel _ _ (plAt pl h.length (pl k) h.length).toPl0 z es; rw [e2]; exact e
          | mp nw ks f => intro e; show MapIs _ (plAt pl h.length (pl k) h.length).blk ks f; rw [e2]; exact e
          | rows nw fl z es ho => intro e; show RowsRel _ _ _ _ _ (plAt pl h.length (pl k) h.length) fl z es ho; rw [e2]; exact e)
    have h2 := h1.remap (mvG k h.length) (fun k' i hk' hi => by
      simp only [List.length_append, List.length_set, List.length_singleton] at hk' ⊢
      unfold mvG at hi
      cases hbq : Nat.beq k' k with
      | true =>
        rw [hbq] at hi
        cases hi
        have := Nat.eq_of_beq_eq_true hbq
        subst this
        exact ⟨by omega, by rw [plAt_eq, plAt_lt hkl]⟩
      | false =>
        rw [hbq] at hi
        cases hi
        exact ⟨by omega, rfl⟩)
    refine ih F A w0 pl0 a w hF hA ⟨plAt pl h.length (pl k), ?_, fun k' hk' => ⟨?_, ?_⟩⟩
    · have e1 : lk (mvE k h.length e) = fun s => renA (mvG k h.length) some (lk e s) := funext fun s => lk_mvE _ _ _ _
      rw [e1]
      unfold mvH
      simp only [hk, mvL_eq]
      exact h2
    · have := (hio k' hk').1
      unfold mvH; simp only [hk, mvL_eq]; simp at this ⊢; omega
    · show plAt pl h.length _ k' = _
      rw [plAt_lt (hio k' hk').1]; exact (hio k' hk').2
end Go.Av

namespace Go.Av
open Go.RowKit

/-! THE WALK OF A BODY. -/
inductive CondF (b : Bool) (A B : Prop) : Prop
  | mk (t : b = true → A) (f : b = false → B)
def condF (v : AV) (A B : Prop) : Prop := match v with
  | .p _ (.c (.bool b)) => CondF b A B
  | _ => False

/-- own blocks: those that are kept -/
def nodupB : List Nat → Bool
  | [] => true
  | a :: r => !(r.any (Nat.beq a)) && nodupB r
def prefB : Nat → Nat → List Nat → Bool
  | 0, _, _ => true
  | _ + 1, _, [] => false
  | m + 1, i, a :: r => Nat.beq a i && prefB m (i + 1) r
def okKeep (m : Nat) (keep : List Nat) (n : Nat) : Bool := prefB m 0 keep && nodupB keep && keep.all (fun k => Nat.blt k n)

/-- the environment holds what the template says; what it does not name is forgotten -/
def fitsF (keep : List Nat) (e : En) : En → Prop
  | [] => True
  | (s, v) :: r => renA (expG keep) some (lk e s) = v ∧ fitsF keep e r

/-- rows of no memory may count as rows of new memory -/
def wkOB : OB → OB
  | .row nw .flat z es => .row nw .fresh z es
  | ob => ob
def wkL : List Nat → List OB → List OB
  | [], h => h
  | k :: r, h => wkL r (match h[k]? with
    | some ob => h.set k (wkOB ob)
    | none => h)
/-- a state fits the template -/
def fitF (m : Nat) (e : En) (h : List OB) (e' : En) (h' : List OB) : Prop :=
  ∃ keep ws : List Nat, okKeep m keep h.length = true ∧ wkL ws (renHeap keep h) = h' ∧ fitsF keep e e'

def thenF (K : En → List OB → Prop) (Q : Exit → En → List OB → Prop) : Exit → En → List OB → Prop
  | .normal, e, h => K e h
  | x, e, h => Q x e h
def blockF (id : Nat) (Q : Exit → En → List OB → Prop) : Exit → En → List OB → Prop
  | .exit id', e, h => bif Nat.beq id' id then Q .normal e h else Q (.exit id') e h
  | x, e, h => Q x e h

/-- where a loop's round ends, or where ways meet -/
inductive FitF {T : Type} (m : Nat) (Pre : T → Prop) (sl : T → En) (hp : T → List OB) (e : En) (h : List OB) : Prop
  | mk (t : T) (p : Pre t) (f : fitF m e h (sl t) (hp t))
inductive BackF {T : Type} (m : Nat) (Pre : T → Prop) (sl : T → En) (hp : T → List OB) (μ : T → Nat) (n : Nat) (e : En) (h : List OB) : Prop
  | mk (t : T) (p : Pre t) (l : μ t < n) (f : fitF m e h (sl t) (hp t))

/-- ahead of them, rows that were taken out go back -/
def BackU {T : Type} (m : Nat) (Pre : T → Prop) (sl : T → En) (hp : T → List OB) (μ : T → Nat) (n : Nat) (e : En) (h : List OB) : Prop := unholeW 4 h fun h => BackF m Pre sl hp μ n e h
def FitU {T : Type} (m : Nat) (Pre : T → Prop) (sl : T → En) (hp : T → List OB) (e : En) (h : List OB) : Prop := unholeW 4 h fun h => FitF m Pre sl hp e h
/-- a loop: a template for the state at its head -/
inductive LoopF (m : Nat) (body : (Exit → En → List OB → Prop) → En → List OB → Prop) (Q : Exit → En → List OB → Prop) (e : En) (h : List OB) : Prop
  | mk (T : Type) (Pre : T → Prop) (sl : T → En) (hp : T → List OB) (μ : T → Nat)
    (entry : FitF m Pre sl hp e h)
    (round : ∀ t, Pre t → fE (sl t) fun e => fH (hp t) fun h => body (thenF (fun e' h' => BackU m Pre sl hp μ (μ t) e' h') Q) e h)

/-- one behind the other; at the join the state may be cut down to a template -/
inductive SeqF (m : Nat) (a b : (Exit → En → List OB → Prop) → En → List OB → Prop) (Q : Exit → En → List OB → Prop) (e : En) (h : List OB) : Prop
  | run (x : a (thenF (fun e h => b Q e h) Q) e h)
  | cut (T : Type) (Pre : T → Prop) (sl : T → En) (hp : T → List OB)
    (x : a (thenF (fun e h => FitU m Pre sl hp e h) Q) e h)
    (y : ∀ t, Pre t → fE (sl t) fun e => fH (hp t) fun h => b Q e h)

/-- a region -/
def regB (P : Program) (zs : TypeId → List PV) (m : Nat) (ops : Array Oper) (K : En → List OB → Prop) (d : Bool) (e : En) (h : List OB) : Prop := match d with
  | true => drawF P zs m ops K e h
  | false => regF false P zs m ops K ops.toList e h
def codeF (P : Program) (zs : TypeId → List PV) (m : Nat) : Code → (Exit → En → List OB → Prop) → En → List OB → Prop
  | .skip, Q, e, h => Q .normal e h
  | .ret, Q, e, h => Q .ret e h
  | .exit id, Q, e, h => Q (.exit id) e h
  | .seq a b, Q, e, h => SeqF m (codeF P zs m a) (codeF P zs m b) Q e h
  | .cond c a b, Q, e, h => withV ⟨lk e, h⟩ true c fun v => condF v (codeF P zs m a Q e h) (codeF P zs m b Q e h)
  | .block id c, Q, e, h => codeF P zs m c (blockF id Q) e h
  | .loop c, Q, e, h => unholeW 4 h fun h => LoopF m (codeF P zs m c) Q e h
  | .region id ops d, Q, e, h => GhF id (regB P zs m ops (Q .normal) d) e h
  | _, _, _, _ => False

/-- what a body hands back -/
inductive RetF (m : Nat) (vs : List AV) (h : List OB) (R : List AV → List OB → Prop) : Prop
  | mk (keep : List Nat) (hk : okKeep m keep h.length = true) (k : seqW (fV 4) (renL (expG keep) some vs) fun vs => fH (renHeap keep h) fun ho => R vs ho)
def retF (P : Program) (rs : List ResultVar) (m : Nat) (R : List AV → List OB → Prop) : Exit → En → List OB → Prop
  | .normal, e, h | .ret, e, h => unholeW 4 h fun h => resW P ⟨lk e, h⟩ rs fun vs => RetF m vs h R
  | _, _, _ => False

/-- the first region of a body: which loop it is -/
def codeId : Code → Nat
  | .region id _ _ => id
  | .seq a _ => codeId a
  | .cond _ a _ => codeId a
  | .block _ c => codeId c
  | .loop c => codeId c
  | _ => 0
theorem LoopF.at {P : Program} {zs : TypeId → List PV} {m : Nat} {c : Code} {Q : Exit → En → List OB → Prop} {e : En} {h : List OB} (id : Nat) (hid : Nat.beq (codeId c) id = true) (hl : LoopF m (codeF P zs m c) Q e h) : LoopF m (codeF P zs m c) Q e h := hl
section
variable {N m : Nat} {P : Program}

theorem nodupB_spec : ∀ {l : List Nat}, nodupB l = true → l.Nodup
  | [], _ => List.nodup_nil
  | a :: r, h => by
    simp only [nodupB, Bool.and_eq_true, Bool.not_eq_true', List.any_eq_false] at h
    refine List.nodup_cons.2 ⟨fun hm => ?_, nodupB_spec h.2⟩
    have := h.1 a hm
    simp at this
theorem prefB_spec : ∀ {m i : Nat} {l : List Nat}, prefB m i l = true → l.take m = List.range' i m ∧ m ≤ l.length
  | 0, _, _, _ => by simp
  | m + 1, i, [], h => by simp [prefB] at h
  | m + 1, i, a :: r, h => by
    simp only [prefB, Bool.and_eq_true] at h
    have h1 := Nat.eq_of_beq_eq_true h.1
    obtain ⟨h2, h3⟩ := prefB_spec h.2
    subst h1
    simp [List.range'_succ, h2, h3]
theorem okKeep_spec {keep : List Nat} {n : Nat} (h : okKeep m keep n = true) : keep.take m = List.range m ∧ m ≤ keep.length ∧ keep.Nodup ∧ ∀ k ∈ keep, k < n := by
  simp only [okKeep, Bool.and_eq_true, List.all_eq_true] at h
  obtain ⟨h1, h2⟩ := prefB_spec h.1.1
  exact ⟨by rw [h1, List.range_eq_range'], h2, nodupB_spec h.1.2, fun k hk => by simpa using h.2 k hk⟩

/-- forgetting -/
theorem ConcP.weak {F A : Nat → Prop} {w0 : World} {pl : Nat → Pl} {a : Act} {w : World} {f g : Nat → AV} {h : List OB} (hC : ConcP N m F A w0 ⟨f, h⟩ pl a w) (hg : ∀ s, g s = f s ∨ g s = .junk) : ConcP N m F A w0 ⟨g, h⟩ pl a w :=
  { hC with
    ownlt := hC.ownlt, ownF := hC.ownF, newb := hC.newb, disj := hC.disj, heap := hC.heap
    env := fun s => by
      rcases hg s with e | e
      · show RelA _ _ _ _ _ (g s) _
        rw [e]; exact hC.env s
      · show RelA _ _ _ _ _ (g s) _
        rw [e]; exact .junk }

theorem AW.weak {c : Code} {Q : Exit → St → Prop} {f g : Nat → AV} {h : List OB} (hg : ∀ s, g s = f s ∨ g s = .junk) (hc : AW P N m c Q ⟨g, h⟩) : AW P N m c Q ⟨f, h⟩ := by
  rintro F A w0 pl0 a w hF hA ⟨pl, hp, hio⟩
  exact hc F A w0 pl0 a w hF hA ⟨pl, hp.weak hg, hio⟩

theorem fitsF_spec {keep : List Nat} {e : En} : ∀ {e' : En}, fitsF keep e e' → ∀ s, lk e' s = renA (expG keep) some (lk e s) ∨ lk e' s = .junk
  | [], _, s => .inr rfl
  | (t, v) :: r, h, s => by
    simp only [lk]
    cases hb : Nat.beq t s with
    | true =>
      have := Nat.eq_of_beq_eq_true hb
      subst this
      exact .inl h.1.symm
    | false => exact fitsF_spec h.2 s

theorem ConcP.wk1 {F A : Nat → Prop} {w0 : World} {st : St} {pl : Nat → Pl} {a : Act} {w : World} (hC : ConcP N m F A w0 st pl a w) {k : Nat} {ob : OB} (hk : st.heap[k]? = some ob) : ConcP N m F A w0 ⟨st.env, st.heap.set k (wkOB ob)⟩ pl a w := by
  have triv : wkOB ob = ob → ConcP N m F A w0 ⟨st.env, st.heap.set k (wkOB ob)⟩ pl a w := fun e => by
    rw [e]
    have hs : st.heap.set k ob = st.heap := by
      apply List.ext_getElem?
      intro j
      by_cases hj : k = j
      · subst hj; rw [List.getElem?_set_self (List.getElem?_eq_some_iff.1 hk).1, hk]
      · rw [List.getElem?_set_ne hj]
    rw [hs]; exact hC
  cases ob with
  | dead => exact triv rfl
  | fix cells => exact triv rfl
  | mp nw ks f => exact triv rfl
  | rows nw fl z es ho => exact triv rfl
  | row nw fl z es =>
    cases fl with
    | fresh => exact triv rfl
    | any => exact triv rfl
    | flat =>
      obtain ⟨hN, hmk⟩ := hC.write' hk (ob' := .row nw .fresh z es) (w' := w) rfl rfl rfl rfl rfl rfl (fun _ _ => rfl)
      refine hmk ?_
      obtain ⟨g1, g2, g3, g4, g5, g6⟩ := hC.heap k _ hk
      refine ⟨g1, g2, g3, g4, g5, fun hcap => ?_⟩
      obtain ⟨ty, arr, q1, q2, q3⟩ := g6 hcap
      refine ⟨ty, arr, q1, q2, fun i j e p he hp => ?_⟩
      obtain ⟨x, r1, r2, r3⟩ := q3 i j e p he hp
      exact ⟨x, r1, r2, r3.mono (fun b hb => hb.elim) (fun _ _ => rfl)⟩
theorem AW.wk {c : Code} {Q : Exit → St → Prop} {e : Nat → AV} : ∀ {ws : List Nat} {h : List OB}, AW P N m c Q ⟨e, wkL ws h⟩ → AW P N m c Q ⟨e, h⟩
  | [], _, hc => hc
  | k :: r, h, hc => by
    have hc := AW.wk (ws := r) hc
    cases hk : h[k]? with
    | none => simpa [hk] using hc
    | some ob =>
      simp only [hk] at hc
      intro F A w0 pl0 a w hF hA hcc
      obtain ⟨pl, hC, hio⟩ := hcc
      exact hc F A w0 pl0 a w hF hA ⟨pl, hC.wk1 hk, fun k' hk' => ⟨by have := (hio k' hk').1; simpa using this, (hio k' hk').2⟩⟩
theorem AW.fit {c : Code} {Q : Exit → St → Prop} {e e' : En} {h h' : List OB} (hf : fitF m e h e' h') (hc : AW P N m c Q ⟨lk e', h'⟩) : AW P N m c Q ⟨lk e, h⟩ := by
  obtain ⟨keep, ws, hk, rfl, hs⟩ := hf
  obtain ⟨h1, h2, h3, h4⟩ := okKeep_spec hk
  exact AW.rename keep h1 h3 h4 (AW.weak (fitsF_spec hs) (AW.wk hc))

theorem AW.conv {c : Code} {Q Q' : Exit → St → Prop} {st : St} (hq : ∀ (x : Exit) (s : St), Q x s → ∀ (F A : Nat → Prop) (w0 : World) (pl0 : Nat → Pl) (a : Act) (w : World), (∀ b, F b → b < w0.heap.size) → Conc N m F A w0 pl0 s a w → ∃ s', Conc N m F A w0 pl0 s' a w ∧ Q' x s') (h : AW P N m c Q st) : AW P N m c Q' st :=
  fun F A w0 pl0 a w hF hA hc => wp_mono (h F A w0 pl0 a w hF hA hc) fun _ _ _ ⟨st', hc', h'⟩ => hq _ _ h' F A w0 pl0 _ _ hF hc'
theorem Conc.unhole {F A : Nat → Prop} {w0 : World} {pl0 : Nat → Pl} {a : Act} {w : World} (hF : ∀ b, F b → b < w0.heap.size) {e : Nat → AV} {n : Nat} {h : List OB} {K : List OB → Prop} (hk : unholeW n h K) (hC : Conc N m F A w0 pl0 ⟨e, h⟩ a w) : ∃ h', K h' ∧ Conc N m F A w0 pl0 ⟨e, h'⟩ a w := by
  obtain ⟨pl, hp, hio⟩ := hC
  obtain ⟨h', h1, h2, h3⟩ := unholeW_sound hF hk hp
  exact ⟨h', h1, pl, h3, fun k hk => ⟨by have := (hio k hk).1; show k < h'.length; rw [h2]; exact this, (hio k hk).2⟩⟩
theorem AW.unhole {c : Code} {Q : Exit → St → Prop} {e : Nat → AV} {n : Nat} {h : List OB} {K : List OB → Prop} (hk : unholeW n h K) (hc : ∀ h', K h' → AW P N m c Q ⟨e, h'⟩) : AW P N m c Q ⟨e, h⟩ := by
  intro F A w0 pl0 a w hF hA hC
  obtain ⟨h', h1, h2⟩ := hC.unhole hF hk
  exact hc h' h1 F A w0 pl0 a w hF hA h2
def asQ (Q : Exit → En → List OB → Prop) : Exit → St → Prop := fun x st => ∃ e h, st = ⟨lk e, h⟩ ∧ Q x e h

theorem codeF_sound {zs : TypeId → List PV} (hm : P.follows .mixedOrders = true) : ∀ (c : Code) (Q : Exit → En → List OB → Prop) (e : En) (h : List OB), okCode N c = true → codeF P zs m c Q e h → AW P N m c (asQ Q) ⟨lk e, h⟩ := by
  intro c
  induction c with
  | skip => intro Q e h _ hc; exact AW.skip ⟨e, h, rfl, hc⟩
  | ret => intro Q e h _ hc; exact AW.ret ⟨e, h, rfl, hc⟩
  | exit id => intro Q e h _ hc; exact AW.exit ⟨e, h, rfl, hc⟩
  | seq a b iha ihb =>
    intro Q e h hok hc
    simp only [okCode, Bool.and_eq_true] at hok
    rcases hc with hc | ⟨T, Pre, sl, hp, hc, hc2⟩
    · refine AW.seq (AW.mono (fun x s hs => ?_) (iha _ e h hok.1 hc))
      obtain ⟨e', h', rfl, hq⟩ := hs
      cases x with
      | normal => exact ihb Q e' h' hok.2 hq
      | _ => exact ⟨e', h', rfl, hq⟩
    · refine AW.seq (AW.mono (fun x s hs => ?_) (iha _ e h hok.1 hc))
      obtain ⟨e', h', rfl, hq⟩ := hs
      cases x with
      | normal =>
        refine AW.unhole hq fun h'' hq => ?_
        obtain ⟨t, hpt, hf⟩ := hq
        exact AW.fit hf (ihb Q (sl t) (hp t) hok.2 (fH_eq (fE_eq (hc2 t hpt))))
      | _ => exact ⟨e', h', rfl, hq⟩
  | cond c a b iha ihb =>
    intro Q e h hok hc
    simp only [okCode, Bool.and_eq_true] at hok
    refine AW.cond ?_
    have mono : ∀ {K K' : AV → Prop}, (∀ v, K v → K' v) → withV ⟨lk e, h⟩ true c K → withV ⟨lk e, h⟩ true c K' := by
      intro K K' hk h
      unfold withV at h ⊢
      split at h
      · split at h
        · exact let ⟨h1, h2⟩ := h; ⟨h1, hk _ h2⟩
        · exact hk _ h
      · exact ⟨h.1, hk _ h.2⟩
      · exact hk _ h
      · exact h.elim
    refine mono (fun v hv => ?_) hc
    unfold condF at hv
    split at hv
    · obtain ⟨h1, h2⟩ := hv
      exact ⟨fun hb => iha Q e h hok.1 (h1 hb), fun hb => ihb Q e h hok.2 (h2 hb)⟩
    · exact hv.elim
  | block id c ih =>
    intro Q e h hok hc
    refine AW.block (AW.mono (fun x s hs => ?_) (ih _ e h hok hc))
    obtain ⟨e', h', rfl, hq⟩ := hs
    cases x with
    | exit id' =>
      simp only [blockF] at hq
      simp only [blockQ]
      by_cases hid : id' = id
      · subst hid
        rw [if_pos rfl]
        simp only [Nat.beq_refl, cond_true] at hq
        exact ⟨e', h', rfl, hq⟩
      · rw [if_neg hid]
        have : Nat.beq id' id = false := by
          cases hb : Nat.beq id' id with
          | false => rfl
          | true => exact absurd (Nat.eq_of_beq_eq_true hb) hid
        rw [this] at hq
        exact ⟨e', h', rfl, hq⟩
    | _ => exact ⟨e', h', rfl, hq⟩
  | loop c ih =>
    intro Q e h hok hc
    refine AW.unhole hc fun h hc => ?_
    obtain ⟨T, Pre, sl, hp, μ, ⟨t0, hp0, hf0⟩, hc⟩ := hc
    refine AW.loop (T := T) (fun t st => Pre t ∧ ∃ e h, st = ⟨lk e, h⟩ ∧ fitF m e h (sl t) (hp t)) μ t0 ⟨hp0, e, h, rfl, hf0⟩ ?_
    rintro t s ⟨hpt, e, h, rfl, hf⟩
    refine AW.fit hf (AW.conv (fun x s hs F A w0 pl0 a w hF hC => ?_) (ih _ (sl t) (hp t) hok (fH_eq (fE_eq (hc t hpt)))))
    obtain ⟨e', h', rfl, hq⟩ := hs
    cases x with
    | normal =>
      obtain ⟨h'', hq, hC⟩ := hC.unhole hF hq
      obtain ⟨t', h1, h2, h3⟩ := hq
      exact ⟨_, hC, t', ⟨h1, e', h'', rfl, h3⟩, h2⟩
    | _ => exact ⟨_, hC, e', h', rfl, hq⟩
  | region id ops d =>
    intro Q e h hok hc
    have hc' : ∃ l, ghW l (regB P zs m ops (Q .normal) d) e h := by
      rcases hc with hc | ⟨l, hc⟩
      · exact ⟨[], hc⟩
      · exact ⟨l, hc⟩
    obtain ⟨l, hc⟩ := hc'
    refine AW.gh (fun e h hc => ?_) hc
    cases d with
    | false =>
      simp only [okCode, okReg, Bool.and_eq_true] at hok
      exact AW.region (P := P) (Q := asQ Q) (regF_sound hok hc)
    | true =>
      refine AW.mono (fun x s ⟨hx, e, h, hs, hk⟩ => ?_) (AW.drawn hm hok hc)
      subst hx
      exact ⟨e, h, hs, hk⟩
  | _ => intro Q e h hok; simp [okCode] at hok

def argE : Nat → List AV → En
  | _, [] => []
  | i, a :: r => (i, a) :: argE (i + 1) r
theorem argE_spec : ∀ {l : List AV} {i s : Nat}, lk (argE i l) (i + s) = (l[s]?).getD .junk
  | [], i, s => by simp [argE, lk]
  | a :: r, i, s => by
    simp only [argE, lk]
    cases s with
    | zero => simp
    | succ s =>
      have : Nat.beq i (i + (s + 1)) = false := by
        cases hb : Nat.beq i (i + (s + 1)) with
        | false => rfl
        | true => have := Nat.eq_of_beq_eq_true hb; omega
      rw [this]
      have := argE_spec (l := r) (i := i + 1) (s := s)
      have e : i + 1 + s = i + (s + 1) := by omega
      rw [e] at this
      simpa using this

theorem FnSem.of_codeF {zs : TypeId → List PV} {f : FuncId} {fn : Func} {c : Code} {args : List AV} {hin : List OB} {R : List AV → List OB → Prop} (hm : P.follows .mixedOrders = true) (hf : P.funcs[f]? = some fn) (hb : fn.body = some c) (hc : callable P f = true) (hN : Nat.ble args.length fn.ntmps = true) (hok : okCode fn.ntmps c = true)
    (h : codeF P zs hin.length c (retF P fn.results.toList hin.length R) (argE 0 args) hin) : FnSem P f args hin R := by
  refine FnSem.of_AW hf hb hc (Nat.le_of_ble_eq_true hN) ?_
  have e0 : envOf args = lk (argE 0 args) := by
    funext s
    have := argE_spec (l := args) (i := 0) (s := s)
    simp only [Nat.zero_add] at this
    rw [this]; rfl
  rw [e0]
  refine AW.conv (fun x s hs F A w0 pl0 a w hF hC => ?_) (codeF_sound hm c _ _ _ hok h)
  obtain ⟨e, h, rfl, hq⟩ := hs
  have key : ∀ h : List OB, ∀ {rs : List ResultVar}, resW P ⟨lk e, h⟩ rs (fun vs => RetF hin.length vs h R) → resW P ⟨lk e, h⟩ rs (fun vs => exportW hin.length ⟨lk e, h⟩ vs R) := by
    intro h rs
    have fin : ∀ vs, RetF hin.length vs h R → exportW hin.length ⟨lk e, h⟩ vs R := by
      rintro vs ⟨keep, hk, hr⟩
      obtain ⟨h1, h2, h3, h4⟩ := okKeep_spec hk
      exact ⟨keep, h1, h2, h3, h4, fH_eq (seqW_id (fV_eq 4) (K := fun vs => fH (renHeap keep h) fun ho => R vs ho) hr)⟩
    have mono : ∀ {st : St} {G : Bool} {x : Operand} {K K' : AV → Prop}, (∀ v, K v → K' v) → withV st G x K → withV st G x K' := by
      intro st G x K K' hk h
      unfold withV at h ⊢
      split at h
      · split at h
        · exact let ⟨h1, h2⟩ := h; ⟨h1, hk _ h2⟩
        · exact hk _ h
      · exact ⟨h.1, hk _ h.2⟩
      · exact hk _ h
      · exact h.elim
    have loadm : ∀ {st : St} {t : TypeId} {a : AV} {K K' : AV → Prop}, (∀ v, K v → K' v) → loadW P st t a K → loadW P st t a K' := by
      intro st t a K K' hk h
      unfold loadW at h ⊢
      split at h
      case h_2 => exact h.elim
      split at h
      · rename_i hagg
        rw [if_pos hagg]
        split at h
        · exact ⟨h.1, h.2.1, hk _ h.2.2⟩
        · split at h
          · exact ⟨h.1, h.2.1, hk _ h.2.2⟩
          · exact h.elim
        · split at h
          · exact ⟨h.1, h.2.1, let ⟨a, e, b, c⟩ := h.2.2; ⟨a, e, b, hk _ c⟩⟩
          · exact h.elim
        · exact h.elim
      · rename_i hagg
        rw [if_neg hagg]
        split at h
        · split at h
          · exact hk _ h
          · exact h.elim
        · split at h
          · split at h
            · exact hk _ h
            · exact h.elim
          · exact h.elim
        · split at h
          · obtain ⟨h1, e, h2, h⟩ := h
            refine ⟨h1, e, h2, ?_⟩
            split at h
            · exact hk _ h
            · exact h.elim
          · exact h.elim
        · exact h.elim
    have gen : ∀ (rs : List ResultVar) {K K' : List AV → Prop}, (∀ vs, K vs → K' vs) → resW P ⟨lk e, h⟩ rs K → resW P ⟨lk e, h⟩ rs K' := by
      intro rs
      induction rs with
      | nil => intro K K' hk hr; exact hk _ hr
      | cons r rs ih =>
        intro K K' hk hr
        cases r with
        | tmp t => exact mono (fun v hv => ih (fun vs h => hk _ h) hv) hr
        | cell a ty => exact mono (fun v hv => loadm (fun v' hv' => ih (fun vs h => hk _ h) hv') hv) hr
    exact gen rs fin
  cases x with
  | normal =>
    obtain ⟨h', hq, hC⟩ := hC.unhole hF hq
    exact ⟨_, hC, key h' hq⟩
  | ret =>
    obtain ⟨h', hq, hC⟩ := hC.unhole hF hq
    exact ⟨_, hC, key h' hq⟩
  | _ => exact ⟨_, hC, hq⟩
end
end Go.Av

namespace Go.Av
open Go.RowKit

/-! Common forms of contracts and calls. -/
structure Is (vs : List AV) (hs : List OB) (rs : List AV) (ho : List OB) : Prop where
  res : rs = vs
  heap : ho = hs

section
variable {P : Program} {st : St} {f : FuncId} {vs : List AV}

theorem seqW_mono {α β : Type} {f : α → (β → Prop) → Prop} (hf : ∀ (a : α) (K K' : β → Prop), (∀ b, K b → K' b) → f a K → f a K') : ∀ {l : List α} {K K' : List β → Prop}, (∀ b, K b → K' b) → seqW f l K → seqW f l K'
  | [], _, _, hk, h => hk _ h
  | a :: r, _, _, hk, h => hf a _ _ (fun b hb => seqW_mono hf (l := r) (fun bs => hk (b :: bs)) hb) h

theorem pvW_mono {heap : List OB} {ids : List Nat} : ∀ (d : Nat) (a : AV) (K K' : PV → Prop), (∀ p, K p → K' p) → pvW heap ids d a K → pvW heap ids d a K'
  | 0, _, _, _, _, h => h.elim
  | d + 1, a, K, K', hk, h => by
    unfold pvW at h ⊢
    split at h
    · exact hk _ h
    · refine ⟨h.1, ?_⟩
      have h := h.2
      split at h
      · exact seqW_mono (pvW_mono d) (fun b => hk _) h
      · exact h.elim
    · refine ⟨h.1, ?_⟩
      have h := h.2
      split at h
      · exact let ⟨a, e, b, c⟩ := h; ⟨a, e, b, hk _ c⟩
      · exact h.elim
    · refine ⟨h.1, ?_⟩
      have h := h.2
      split at h
      · exact let ⟨a, e, b, c⟩ := h; ⟨a, e, b, hk _ c⟩
      · exact let ⟨a, e, b, c⟩ := h; ⟨a, e, b, hk _ c⟩
      · exact h.elim
    · exact ⟨h.1, hk _ h.2⟩
    · exact seqW_mono (pvW_mono d) (fun b => hk _) h
    · exact seqW_mono (pvW_mono d) (fun b => hk _) h
    · exact h.elim

theorem convW1_mono {heap : List OB} {ids : List Nat} {lend : Bool} (a : AV) (K K' : AV → Prop) (hk : ∀ v, K v → K' v) (h : convW1 heap ids lend a K) : convW1 heap ids lend a K' := by
  unfold convW1 at h ⊢
  split at h
  · exact hk _ h
  · exact hk _ h
  · split at h
    · exact hk _ h
    · exact ⟨h.1, pvW_mono _ _ _ _ (fun p => hk _) h.2⟩
  · split at h
    · exact hk _ h
    · exact ⟨h.1, pvW_mono _ _ _ _ (fun p => hk _) h.2⟩
  · split at h
    · exact hk _ h
    · exact ⟨h.1, pvW_mono _ _ _ _ (fun p => hk _) h.2⟩
  · split at h
    · exact hk _ h
    · exact ⟨h.1, pvW_mono _ _ _ _ (fun p => hk _) h.2⟩
  · exact ⟨h.1, pvW_mono _ _ _ _ (fun p => hk _) h.2⟩
  · exact ⟨h.1, pvW_mono _ _ _ _ (fun p => hk _) h.2⟩
  · exact hk _ h
  · exact h.elim
theorem convW_mono {heap : List OB} {ids : List Nat} {lend : Bool} (a : AV) (K K' : AV → Prop) (hk : ∀ v, K v → K' v) (h : convW heap ids lend a K) : convW heap ids lend a K' := by
  unfold convW at h ⊢
  split at h
  · split at h
    · exact seqW_mono convW1_mono (fun b => hk _) h
    · exact convW1_mono _ _ _ hk h
  · split at h
    · exact seqW_mono convW1_mono (fun b => hk _) h
    · exact convW1_mono _ _ _ hk h
  · exact convW1_mono _ _ _ hk h

theorem convOB_mono {heap : List OB} {ids : List Nat} {lend : Bool} (a : OB) (K K' : OB → Prop) (hk : ∀ v, K v → K' v) (h : convOB heap ids lend a K) : convOB heap ids lend a K' := by
  unfold convOB at h ⊢
  split at h
  · exact h.elim
  · exact seqW_mono convW_mono (fun b => hk _) h
  · exact hk _ h
  · exact hk _ h
  · exact hk _ h
  · exact hk _ h
  · exact hk _ h
  · exact h.elim

def memB : List Nat → Nat → Bool
  | [], _ => true
  | k :: r, n => Nat.blt k n && memB r n
theorem memB_spec : ∀ {l : List Nat} {n : Nat}, memB l n = true → ∀ k ∈ l, k < n
  | [], _, _ => fun k hk => absurd hk List.not_mem_nil
  | a :: r, n, h => by
    simp only [memB, Bool.and_eq_true] at h
    intro k hk
    rcases List.mem_cons.1 hk with rfl | hk
    · simpa using h.1
    · exact memB_spec h.2 k hk

/-- a call: its contract, and how it goes on -/
inductive ArgF (n : Nat) (P : Program) (f : FuncId) (args : List AV) (hin : List OB) (K : List AV → List OB → Prop) : Prop
  | mk (R : List AV → List OB → Prop) (h : FnSem P f args hin R) (k : ∀ rs ho, R rs ho → n ≤ ho.length → K rs ho)
theorem ArgF.is {n : Nat} {P : Program} {f : FuncId} {args : List AV} {hin : List OB} {K : List AV → List OB → Prop} {rs : List AV} {ho : List OB} (h : FnSem P f args hin (Is rs ho)) (k : K rs ho) : ArgF n P f args hin K :=
  ⟨_, h, fun rs' ho' hR _ => by obtain ⟨rfl, rfl⟩ := hR; exact k⟩
theorem ArgQ.is {G : Bool} {P : Program} {f : FuncId} {args : List AV} {K : AV → Prop} {rs : List AV} {v : AV} {u : Value} {ho : List OB} (h : G = true → FnSem P f args [] (Is rs ho)) (hr : retAV rs = v) (hv : exactV v = some u) (k : K v) : ArgQ G P f args K :=
  ⟨rs, v, u, fun hG => (h hG).mono fun _ _ hR => hR.res, hr, hv, k⟩

/-- A CALL with a contract that names what comes back. ids: the own blocks that the callee may turn; lend: are others lent for reading? (then nothing of 'any' comes back) -/
theorem CallW.is {K : AV → List OB → Prop} (ids : List Nat) (lend : Bool) (hn : (nodupB ids && memB ids st.heap.length) = true)
    (h : seqW (convW st.heap ids lend) vs fun args => seqW (convOB st.heap ids lend) (ids.map fun k => st.heap.getD k .dead) fun hin => ArgF ids.length P f args hin fun rs ho => K (renA (impG ids st.heap.length) (impF lend) (retAV rs)) (heapBack lend ids st.heap ho)) : CallW P st f vs K := by
  simp only [Bool.and_eq_true] at hn
  refine ⟨ids, lend, nodupB_spec hn.1, memB_spec hn.2, seqW_mono convW_mono (fun args => seqW_mono convOB_mono fun hin ha => ?_) h⟩
  obtain ⟨R, h1, h2⟩ := ha
  exact ⟨R, h1, h2⟩

def wfN : Nat → PV → Prop
  | 0, _ => True
  | _ + 1, .c v => wfV v
  | d + 1, .lst _ es => es.length ≤ maxLen ∧ ∀ e ∈ es, ∀ p ∈ e, wfN d p
  | d + 1, .agg cs => ∀ p ∈ cs, wfN d p
  | d + 1, .ref cs => ∀ p ∈ cs, wfN d p
  | d + 1, .fn _ cs => ∀ p ∈ cs, wfN d p
  | _ + 1, .junk => True
theorem wfN_of_rel {S : Nat → Prop} {w : World} {p : PV} {u : Value} (h : Rel S w p u) : ∀ d, wfN d p := by
  induction h with
  | c hv h1 => intro d; cases d <;> trivial
  | junk h1 => intro d; cases d <;> trivial
  | @lst z es a n cap hn hc hm ad ha hSS hl f hc1 h1 hr ih =>
    intro d
    cases d with
    | zero => trivial
    | succ d =>
      refine ⟨by omega, fun e he p hp => ?_⟩
      obtain ⟨i, hi⟩ := List.getElem?_of_mem he
      obtain ⟨j, hj⟩ := List.getElem?_of_mem hp
      exact ih i j e p hi hj d
  | @agg cells arr hs h1 hr ih =>
    intro d
    cases d with
    | zero => trivial
    | succ d =>
      intro p hp
      obtain ⟨j, hj⟩ := List.getElem?_of_mem hp
      have hlt : j < arr.size := by rw [hs]; exact (List.getElem?_eq_some_iff.1 hj).1
      exact ih j p _ hj (Array.getElem?_eq_getElem hlt) d
  | @ref cells ad hSS f hc1 h1 hr ih =>
    intro d
    cases d with
    | zero => trivial
    | succ d =>
      intro p hp
      obtain ⟨j, hj⟩ := List.getElem?_of_mem hp
      exact ih j p hj d
  | @fn f caps arr hs hr ih =>
    intro d
    cases d with
    | zero => trivial
    | succ d =>
      intro p hp
      obtain ⟨j, hj⟩ := List.getElem?_of_mem hp
      have hlt : j < arr.size := by rw [hs]; exact (List.getElem?_eq_some_iff.1 hj).1
      exact ih j p _ hj (Array.getElem?_eq_getElem hlt) d

/-- what an argument is by its type alone -/
def wfA : AV → Prop
  | .p _ v => wfN 4 v
  | _ => True
def wfO : OB → Prop
  | .row _ _ _ es => es.length ≤ maxLen ∧ ∀ e ∈ es, ∀ p ∈ e, wfN 4 p
  | .rows _ _ _ es none => es.length ≤ maxLen ∧ ∀ e ∈ es, e.length ≤ maxLen ∧ ∀ c ∈ e, ∀ p ∈ c, wfN 4 p
  | _ => True

def wfAs : List AV → Prop
  | [] => True
  | a :: r => wfA a ∧ wfAs r
theorem wfAs_of : ∀ {l : List AV}, (∀ a ∈ l, wfA a) → wfAs l
  | [], _ => trivial
  | a :: _, h => ⟨h a (List.mem_cons_self ..), wfAs_of fun b hb => h b (List.mem_cons_of_mem _ hb)⟩
def wfOs : List OB → Prop
  | [] => True
  | a :: r => wfO a ∧ wfOs r
theorem wfOs_of : ∀ {l : List OB}, (∀ a ∈ l, wfO a) → wfOs l
  | [], _ => trivial
  | a :: _, h => ⟨h a (List.mem_cons_self ..), wfOs_of fun b hb => h b (List.mem_cons_of_mem _ hb)⟩

theorem FnSem.of_wf {args : List AV} {hin : List OB} {R : List AV → List OB → Prop} (hc : callable P f = true) (h : (∀ a ∈ args, wfA a) → (∀ ob ∈ hin, wfO ob) → FnSem P f args hin R) : FnSem P f args hin R := by
  refine ⟨hc, fun w vals pl A hA he => (h (fun a ha => ?_) (fun ob ho => ?_)).2 w vals pl A hA he⟩
  · obtain ⟨j, hj⟩ := List.getElem?_of_mem ha
    have hlt : j < vals.size := by rw [he.size]; exact (List.getElem?_eq_some_iff.1 hj).1
    have := he.args j a _ hj (Array.getElem?_eq_getElem hlt)
    cases a with
    | p fl v => exact wfN_of_rel this.pinv 4
    | _ => trivial
  · obtain ⟨k, hk⟩ := List.getElem?_of_mem ho
    have := he.heap k ob hk
    cases ob with
    | row nw fl z es =>
      obtain ⟨g1, g2, g3, g4, g5, g6⟩ := this
      refine ⟨by omega, fun e hm p hp => ?_⟩
      obtain ⟨i, hi⟩ := List.getElem?_of_mem hm
      obtain ⟨j, hj⟩ := List.getElem?_of_mem hp
      have hlt := (List.getElem?_eq_some_iff.1 hi).1
      obtain ⟨ty, arr, q1, q2, q3⟩ := g6 (by omega)
      obtain ⟨u, r1, r2, r3⟩ := q3 i j e p hi hj
      exact wfN_of_rel r3 4
    | rows nw fl z es hole =>
      cases hole with
      | some q => trivial
      | none =>
        have this : RowsRel pl hin.length (Sany A w.heap.size pl hin w) (Fresh w.heap.size pl hin w) w (pl k) fl z es none := this
        refine ⟨Nat.le_trans this.len this.cap, fun e hm => ?_⟩
        obtain ⟨i, hi⟩ := List.getElem?_of_mem hm
        have hlt := (List.getElem?_eq_some_iff.1 hi).1
        have hlt2 : i < (pl k).inn.length := by rw [this.inn]; exact hlt
        have hq := List.getElem?_eq_getElem hlt2
        obtain ⟨g1, g2, g3, g4, g5, g6⟩ := this.row i e _ hi hq (by simp)
        refine ⟨by omega, fun c hc p hp => ?_⟩
        obtain ⟨i', hi'⟩ := List.getElem?_of_mem hc
        obtain ⟨j, hj⟩ := List.getElem?_of_mem hp
        have hlt' := (List.getElem?_eq_some_iff.1 hi').1
        obtain ⟨ty, arr, q1, q2, q3⟩ := g6 (by omega)
        obtain ⟨u, r1, r2, r3⟩ := q3 i' j c p hi' hj
        exact wfN_of_rel r3 4
    | _ => trivial

/-- THE WALK OF A FUNCTION -/
theorem FnSem.walk {zs : TypeId → List PV} {fn : Func} {c : Code} {res : Array ResultVar} {args : List AV} {hin : List OB} {R : List AV → List OB → Prop} (hm : P.follows .mixedOrders = true) (hf : P.funcs[f]? = some fn) (hb : fn.body = some c) (hres : fn.results = res) (hc : callable P f = true) (hN : Nat.ble args.length fn.ntmps = true) (hok : okCode fn.ntmps c = true)
    (h : wfAs args → wfOs hin → codeF P zs hin.length c (retF P res.toList hin.length R) (argE 0 args) hin) : FnSem P f args hin R :=
  FnSem.of_wf hc fun h1 h2 => FnSem.of_codeF (zs := zs) hm hf hb hc hN hok (by rw [hres]; exact h (wfAs_of h1) (wfOs_of h2))

theorem CallQ.is {rs : List AV} {v : AV} {u : Value} (h : seqW (convW st.heap [] true) vs fun args => FnSem P f args [] (Is rs [])) (hr : retAV rs = v) (hv : exactV v = some u) : CallQ P st f vs v := by
  exact ⟨u, hv, seqW_mono convW_mono (fun args ha => ha.mono fun rs' ho' hR => by obtain ⟨rfl, rfl⟩ := hR; exact hr) h⟩
end

/-! Which own blocks are kept: those that the values name, in the order in which they are named. -/
def hasId : List Nat → Nat → Bool
  | [], _ => false
  | a :: r, k => Nat.beq a k || hasId r k
def snocId : List Nat → Nat → List Nat
  | [], k => [k]
  | a :: r, k => a :: snocId r k
def foldIds (f : AV → List Nat → List Nat) : List AV → List Nat → List Nat
  | [], acc => acc
  | v :: r, acc => foldIds f r (f v acc)
def idsA (h : List OB) : Nat → AV → List Nat → List Nat
  | 0, _, acc => acc
  | d + 1, v, acc => match v with
    | .own k _ => bif hasId acc k then acc else (match h[k]? with
      | some (.fix cells) => foldIds (idsA h d) cells (snocId acc k)
      | _ => snocId acc k)
    | .orow k _ _ => bif hasId acc k then acc else snocId acc k
    | .osl k _ _ => bif hasId acc k then acc else snocId acc k
    | .afn _ caps => foldIds (idsA h d) caps acc
    | .aagg cells => foldIds (idsA h d) cells acc
    | .tup vs => foldIds (idsA h d) vs acc
    | .opt _ v => idsA h d v acc
    | _ => acc
def rangeI : Nat → Nat → List Nat
  | 0, _ => []
  | n + 1, i => i :: rangeI n (i + 1)
/-- those that the first m blocks name -/
def preIds (h : List OB) : List OB → Nat → List Nat → List Nat
  | _, 0, acc => acc
  | [], _, acc => acc
  | .fix cells :: r, n + 1, acc => preIds h r n (foldIds (idsA h 5) cells acc)
  | _ :: r, n + 1, acc => preIds h r n acc
def keepIds (m : Nat) (h : List OB) (vs : List AV) : List Nat := preIds h h m (foldIds (idsA h 6) vs (rangeI m 0))
def fKeep : List Nat → (List Nat → Prop) → Prop
  | [], K => K []
  | a :: r, K => fN a fun a => fKeep r fun r => K (a :: r)
theorem fKeep_eq : ∀ {l : List Nat} {K : List Nat → Prop}, fKeep l K → K l
  | [], _, h => h
  | a :: r, K, h => fKeep_eq (l := r) (K := fun r => K (a :: r)) (fNs_eq (K := fun a => fKeep r fun r => K (a :: r)) h)
def pickAt : List Nat → List AV → List AV
  | [], _ => []
  | i :: r, vs => (match vs[i]? with
    | some v => v :: pickAt r vs
    | none => pickAt r vs)
/-- a call that may turn the own blocks that the arguments at 'pos' name -/
theorem CallF.own {P : Program} {st : St} {f : FuncId} {vs : List AV} {K : AV → List OB → Prop} (pos : List Nat) (lend : Bool)
    (h : fKeep (keepIds 0 st.heap (pickAt pos vs)) fun ids => (nodupB ids && memB ids st.heap.length) = true ∧
      seqW (convW st.heap ids lend) vs fun args => seqW (convOB st.heap ids lend) (ids.map fun k => st.heap.getD k .dead) fun hin => ArgF ids.length P f args hin fun rs ho => K (renA (impG ids st.heap.length) (impF lend) (retAV rs)) (heapBack lend ids st.heap ho)) : CallF P st f vs K := by
  obtain ⟨h1, h2⟩ := fKeep_eq h
  exact ⟨CallW.is _ lend h1 h2⟩
def slotVals (e : En) : En → List AV
  | [] => []
  | (s, _) :: r => lk e s :: slotVals e r

def fitsK (keep : List Nat) (e : En) : En → Prop → Prop
  | [], K => K
  | (s, v) :: r, K => renA (expG keep) some (lk e s) = v ∧ fitsK keep e r K
theorem fitsK_eq {keep : List Nat} {e : En} : ∀ {e' : En} {K : Prop}, fitsK keep e e' K → fitsF keep e e' ∧ K
  | [], _, h => ⟨trivial, h⟩
  | (_, _) :: _, _, h => ⟨⟨h.1, (fitsK_eq h.2).1⟩, (fitsK_eq h.2).2⟩
def fitK (m : Nat) (e : En) (h : List OB) (e' : En) (h' : List OB) (K : Prop) : Prop :=
  fKeep (keepIds m h (slotVals e e')) fun keep => okKeep m keep h.length = true ∧ renHeap keep h = h' ∧ fitsK keep e e' K
theorem fitK.fit {m : Nat} {e : En} {h : List OB} {e' : En} {h' : List OB} {K : Prop} (f : fitK m e h e' h' K) : fitF m e h e' h' ∧ K := by
  obtain ⟨h1, h2, h3⟩ := fKeep_eq f
  obtain ⟨h4, h5⟩ := fitsK_eq h3
  exact ⟨⟨_, [], h1, h2, h4⟩, h5⟩

/-- the slots that stay as they are -/
def fixVals (e : En) : List Nat → List AV → List AV
  | [], l => l
  | s :: r, l => lk e s :: fixVals e r l
def fixE (keep : List Nat) (e : En) : List Nat → En
  | [] => []
  | s :: r => (s, renA (expG keep) some (lk e s)) :: fixE keep e r
def appE : En → En → En
  | [], b => b
  | x :: r, b => x :: appE r b
theorem fitsF_fix {keep : List Nat} {e e' : En} (h : fitsF keep e e') : ∀ fix : List Nat, fitsF keep e (appE (fixE keep e fix) e')
  | [] => h
  | _ :: r => ⟨rfl, fitsF_fix h r⟩

/-- what is owed at a loop's head, then the round -/
inductive LoopB (p r : Prop) : Prop
  | mk (h : p) (k : r)
theorem LoopB.of {T : Type} {p : Prop} {r : T → Prop} (h : p) (k : ∀ t, r t) : LoopB p (∀ t, r t) := ⟨h, k⟩
/-- what is owed where a round ends, or where ways meet -/
inductive BackB (p l : Prop) : Prop
  | mk (h : p) (k : l)

def setOB : List OB → Nat → OB → List OB
  | [], _, _ => []
  | _ :: r, 0, ob => ob :: r
  | a :: r, n + 1, ob => a :: setOB r n ob
def ovr : List OB → List (Nat × OB) → List OB
  | h, [] => h
  | h, (i, ob) :: r => ovr (setOB h i ob) r
/-- a loop: the slots 'fix' stay as they are, and the own blocks but for those in 'mods' -/
theorem LoopF.fix {m : Nat} {body : (Exit → En → List OB → Prop) → En → List OB → Prop} {Q : Exit → En → List OB → Prop} {e : En} {h : List OB} (fix : List Nat) (T : Type) (Pre : T → Prop) (sl : T → En) (mods : T → List (Nat × OB)) (μ : T → Nat) (t : T)
    (f : fKeep (keepIds m h (fixVals e fix (slotVals e (sl t)))) fun keep => okKeep m keep h.length = true ∧ renHeap keep h = ovr (renHeap keep h) (mods t) ∧ fitsK keep e (sl t) (LoopB (Pre t)
      (∀ t, Pre t → fE (appE (fixE keep e fix) (sl t)) fun e' => fH (ovr (renHeap keep h) (mods t)) fun h' => body (thenF (fun e' h' => BackU m Pre (fun t => appE (fixE keep e fix) (sl t)) (fun t => ovr (renHeap keep h) (mods t)) μ (μ t) e' h') Q) e' h'))) : LoopF m body Q e h := by
  obtain ⟨h1, h2, h3⟩ := fKeep_eq f
  obtain ⟨h4, h5, h6⟩ := fitsK_eq h3
  exact LoopF.mk T Pre _ (fun t => ovr (renHeap _ h) (mods t)) μ (FitF.mk t h5 ⟨_, [], h1, h2, fitsF_fix h4 fix⟩) h6

/-- the same; the rows 'ws' count as rows of new memory from here on -/
theorem LoopF.fixw {m : Nat} {body : (Exit → En → List OB → Prop) → En → List OB → Prop} {Q : Exit → En → List OB → Prop} {e : En} {h : List OB} (ws fix : List Nat) (T : Type) (Pre : T → Prop) (sl : T → En) (mods : T → List (Nat × OB)) (μ : T → Nat) (t : T)
    (f : fKeep (keepIds m h (fixVals e fix (slotVals e (sl t)))) fun keep => okKeep m keep h.length = true ∧ wkL ws (renHeap keep h) = ovr (wkL ws (renHeap keep h)) (mods t) ∧ fitsK keep e (sl t) (LoopB (Pre t)
      (∀ t, Pre t → fE (appE (fixE keep e fix) (sl t)) fun e' => fH (ovr (wkL ws (renHeap keep h)) (mods t)) fun h' => body (thenF (fun e' h' => BackU m Pre (fun t => appE (fixE keep e fix) (sl t)) (fun t => ovr (wkL ws (renHeap keep h)) (mods t)) μ (μ t) e' h') Q) e' h'))) : LoopF m body Q e h := by
  obtain ⟨h1, h2, h3⟩ := fKeep_eq f
  obtain ⟨h4, h5, h6⟩ := fitsK_eq h3
  exact LoopF.mk T Pre _ (fun t => ovr (wkL ws (renHeap _ h)) (mods t)) μ (FitF.mk t h5 ⟨_, ws, h1, h2, fitsF_fix h4 fix⟩) h6

theorem BackF.auto {T : Type} {m : Nat} {Pre : T → Prop} {sl : T → En} {hp : T → List OB} {μ : T → Nat} {n : Nat} {e : En} {h : List OB} (t : T) (f : fitK m e h (sl t) (hp t) (BackB (Pre t) (μ t < n))) : BackF m Pre sl hp μ n e h := by
  obtain ⟨h1, h2, h3⟩ := f.fit
  exact BackF.mk t h2 h3 h1

theorem BackF.auto2 {A B : Type} {m : Nat} {Pre : A × B → Prop} {sl : A × B → En} {hp : A × B → List OB} {μ : A × B → Nat} {n : Nat} {e : En} {h : List OB} (x0 : A) (x1 : B) (f : fitK m e h (sl (x0, x1)) (hp (x0, x1)) (BackB (Pre (x0, x1)) (μ (x0, x1) < n))) : BackF m Pre sl hp μ n e h := BackF.auto (x0, x1) f
theorem BackF.auto3 {A B C : Type} {m : Nat} {Pre : A × B × C → Prop} {sl : A × B × C → En} {hp : A × B × C → List OB} {μ : A × B × C → Nat} {n : Nat} {e : En} {h : List OB} (x0 : A) (x1 : B) (x2 : C) (f : fitK m e h (sl (x0, x1, x2)) (hp (x0, x1, x2)) (BackB (Pre (x0, x1, x2)) (μ (x0, x1, x2) < n))) : BackF m Pre sl hp μ n e h := BackF.auto (x0, x1, x2) f
theorem BackF.auto4 {A B C D : Type} {m : Nat} {Pre : A × B × C × D → Prop} {sl : A × B × C × D → En} {hp : A × B × C × D → List OB} {μ : A × B × C × D → Nat} {n : Nat} {e : En} {h : List OB} (x0 : A) (x1 : B) (x2 : C) (x3 : D) (f : fitK m e h (sl (x0, x1, x2, x3)) (hp (x0, x1, x2, x3)) (BackB (Pre (x0, x1, x2, x3)) (μ (x0, x1, x2, x3) < n))) : BackF m Pre sl hp μ n e h := BackF.auto (x0, x1, x2, x3) f
theorem BackF.auto5 {A B C D E : Type} {m : Nat} {Pre : A × B × C × D × E → Prop} {sl : A × B × C × D × E → En} {hp : A × B × C × D × E → List OB} {μ : A × B × C × D × E → Nat} {n : Nat} {e : En} {h : List OB} (x0 : A) (x1 : B) (x2 : C) (x3 : D) (x4 : E) (f : fitK m e h (sl (x0, x1, x2, x3, x4)) (hp (x0, x1, x2, x3, x4)) (BackB (Pre (x0, x1, x2, x3, x4)) (μ (x0, x1, x2, x3, x4) < n))) : BackF m Pre sl hp μ n e h := BackF.auto (x0, x1, x2, x3, x4) f
theorem BackF.auto6 {A B C D E G : Type} {m : Nat} {Pre : A × B × C × D × E × G → Prop} {sl : A × B × C × D × E × G → En} {hp : A × B × C × D × E × G → List OB} {μ : A × B × C × D × E × G → Nat} {n : Nat} {e : En} {h : List OB} (x0 : A) (x1 : B) (x2 : C) (x3 : D) (x4 : E) (x5 : G) (f : fitK m e h (sl (x0, x1, x2, x3, x4, x5)) (hp (x0, x1, x2, x3, x4, x5)) (BackB (Pre (x0, x1, x2, x3, x4, x5)) (μ (x0, x1, x2, x3, x4, x5) < n))) : BackF m Pre sl hp μ n e h := BackF.auto (x0, x1, x2, x3, x4, x5) f
theorem BackF.auto7 {A B C D E G H : Type} {m : Nat} {Pre : A × B × C × D × E × G × H → Prop} {sl : A × B × C × D × E × G × H → En} {hp : A × B × C × D × E × G × H → List OB} {μ : A × B × C × D × E × G × H → Nat} {n : Nat} {e : En} {h : List OB} (x0 : A) (x1 : B) (x2 : C) (x3 : D) (x4 : E) (x5 : G) (x6 : H) (f : fitK m e h (sl (x0, x1, x2, x3, x4, x5, x6)) (hp (x0, x1, x2, x3, x4, x5, x6)) (BackB (Pre (x0, x1, x2, x3, x4, x5, x6)) (μ (x0, x1, x2, x3, x4, x5, x6) < n))) : BackF m Pre sl hp μ n e h := BackF.auto (x0, x1, x2, x3, x4, x5, x6) f
theorem BackF.auto8 {A B C D E G H I : Type} {m : Nat} {Pre : A × B × C × D × E × G × H × I → Prop} {sl : A × B × C × D × E × G × H × I → En} {hp : A × B × C × D × E × G × H × I → List OB} {μ : A × B × C × D × E × G × H × I → Nat} {n : Nat} {e : En} {h : List OB} (x0 : A) (x1 : B) (x2 : C) (x3 : D) (x4 : E) (x5 : G) (x6 : H) (x7 : I) (f : fitK m e h (sl (x0, x1, x2, x3, x4, x5, x6, x7)) (hp (x0, x1, x2, x3, x4, x5, x6, x7)) (BackB (Pre (x0, x1, x2, x3, x4, x5, x6, x7)) (μ (x0, x1, x2, x3, x4, x5, x6, x7) < n))) : BackF m Pre sl hp μ n e h := BackF.auto (x0, x1, x2, x3, x4, x5, x6, x7) f

/-- ways meet: the slots 'fix' are as they were ahead; all own blocks that these and the others name -/
theorem SeqF.cutfix {m : Nat} {a b : (Exit → En → List OB → Prop) → En → List OB → Prop} {Q : Exit → En → List OB → Prop} {e : En} {h : List OB} (fix keep : List Nat) (T : Type) (Pre : T → Prop) (sl : T → En) (hp : T → List OB)
    (x : a (thenF (fun e' h' => FitU m Pre (fun t => appE (fixE keep e fix) (sl t)) hp e' h') Q) e h)
    (y : ∀ t, Pre t → fE (appE (fixE keep e fix) (sl t)) fun e => fH (hp t) fun h => b Q e h) : SeqF m a b Q e h :=
  SeqF.cut T Pre _ hp x y
theorem FitF.auto {T : Type} {m : Nat} {Pre : T → Prop} {sl : T → En} {hp : T → List OB} {e : En} {h : List OB} (t : T) (f : fitK m e h (sl t) (hp t) (BackB (Pre t) True)) : FitF m Pre sl hp e h := by
  obtain ⟨h1, h2, _⟩ := f.fit
  exact FitF.mk t h2 h1

theorem FitF.auto2 {A B : Type} {m : Nat} {Pre : A × B → Prop} {sl : A × B → En} {hp : A × B → List OB} {e : En} {h : List OB} (x0 : A) (x1 : B) (f : fitK m e h (sl (x0, x1)) (hp (x0, x1)) (BackB (Pre (x0, x1)) True)) : FitF m Pre sl hp e h := FitF.auto (x0, x1) f
theorem FitF.auto3 {A B C : Type} {m : Nat} {Pre : A × B × C → Prop} {sl : A × B × C → En} {hp : A × B × C → List OB} {e : En} {h : List OB} (x0 : A) (x1 : B) (x2 : C) (f : fitK m e h (sl (x0, x1, x2)) (hp (x0, x1, x2)) (BackB (Pre (x0, x1, x2)) True)) : FitF m Pre sl hp e h := FitF.auto (x0, x1, x2) f
theorem FitF.auto4 {A B C D : Type} {m : Nat} {Pre : A × B × C × D → Prop} {sl : A × B × C × D → En} {hp : A × B × C × D → List OB} {e : En} {h : List OB} (x0 : A) (x1 : B) (x2 : C) (x3 : D) (f : fitK m e h (sl (x0, x1, x2, x3)) (hp (x0, x1, x2, x3)) (BackB (Pre (x0, x1, x2, x3)) True)) : FitF m Pre sl hp e h := FitF.auto (x0, x1, x2, x3) f
theorem FitF.auto5 {A B C D E : Type} {m : Nat} {Pre : A × B × C × D × E → Prop} {sl : A × B × C × D × E → En} {hp : A × B × C × D × E → List OB} {e : En} {h : List OB} (x0 : A) (x1 : B) (x2 : C) (x3 : D) (x4 : E) (f : fitK m e h (sl (x0, x1, x2, x3, x4)) (hp (x0, x1, x2, x3, x4)) (BackB (Pre (x0, x1, x2, x3, x4)) True)) : FitF m Pre sl hp e h := FitF.auto (x0, x1, x2, x3, x4) f
theorem FitF.auto6 {A B C D E G : Type} {m : Nat} {Pre : A × B × C × D × E × G → Prop} {sl : A × B × C × D × E × G → En} {hp : A × B × C × D × E × G → List OB} {e : En} {h : List OB} (x0 : A) (x1 : B) (x2 : C) (x3 : D) (x4 : E) (x5 : G) (f : fitK m e h (sl (x0, x1, x2, x3, x4, x5)) (hp (x0, x1, x2, x3, x4, x5)) (BackB (Pre (x0, x1, x2, x3, x4, x5)) True)) : FitF m Pre sl hp e h := FitF.auto (x0, x1, x2, x3, x4, x5) f
theorem FitF.auto7 {A B C D E G H : Type} {m : Nat} {Pre : A × B × C × D × E × G × H → Prop} {sl : A × B × C × D × E × G × H → En} {hp : A × B × C × D × E × G × H → List OB} {e : En} {h : List OB} (x0 : A) (x1 : B) (x2 : C) (x3 : D) (x4 : E) (x5 : G) (x6 : H) (f : fitK m e h (sl (x0, x1, x2, x3, x4, x5, x6)) (hp (x0, x1, x2, x3, x4, x5, x6)) (BackB (Pre (x0, x1, x2, x3, x4, x5, x6)) True)) : FitF m Pre sl hp e h := FitF.auto (x0, x1, x2, x3, x4, x5, x6) f
theorem FitF.auto8 {A B C D E G H I : Type} {m : Nat} {Pre : A × B × C × D × E × G × H × I → Prop} {sl : A × B × C × D × E × G × H × I → En} {hp : A × B × C × D × E × G × H × I → List OB} {e : En} {h : List OB} (x0 : A) (x1 : B) (x2 : C) (x3 : D) (x4 : E) (x5 : G) (x6 : H) (x7 : I) (f : fitK m e h (sl (x0, x1, x2, x3, x4, x5, x6, x7)) (hp (x0, x1, x2, x3, x4, x5, x6, x7)) (BackB (Pre (x0, x1, x2, x3, x4, x5, x6, x7)) True)) : FitF m Pre sl hp e h := FitF.auto (x0, x1, x2, x3, x4, x5, x6, x7) f

theorem RetF.auto {m : Nat} {vs : List AV} {h : List OB} {R : List AV → List OB → Prop} (k : fKeep (keepIds m h vs) fun keep => okKeep m keep h.length = true ∧ seqW (fV 4) (renL (expG keep) some vs) fun vs => fH (renHeap keep h) fun ho => R vs ho) : RetF m vs h R := by
  obtain ⟨h1, h2⟩ := fKeep_eq k
  exact ⟨_, h1, h2⟩

/-! Rows that are new count as rows, if need be. -/
def oldO : OB → OB
  | .row _ fl z es => .row false fl z es
  | .rows _ fl z es ho => .rows false fl z es ho
  | ob => ob
def oldL : List OB → List OB
  | [] => []
  | ob :: r => oldO ob :: oldL r
theorem oldL_eq (h : List OB) : oldL h = h.map oldO := by
  induction h with
  | nil => rfl
  | cons a r ih => simp [oldL, ih]
theorem owns_old {pl : Nat → Pl} {h : List OB} {k b : Nat} : owns pl (h.map oldO) k b ↔ owns pl h k b := by
  unfold owns
  rw [List.getElem?_map]
  cases h[k]? with
  | none => exact Iff.rfl
  | some ob => cases ob <;> exact Iff.rfl
theorem FnSem.old {P : Program} {f : FuncId} {args : List AV} {hin : List OB} {R : List AV → List OB → Prop} (h : FnSem P f args hin fun vs ho => R vs (oldL ho)) : FnSem P f args hin R := by
  refine ⟨h.1, fun w vals pl A hA he => (h.2 w vals pl A hA he).mono ?_⟩
  rintro e w' ⟨v, vs, ho, pl', rfl, hR, hB⟩
  rw [oldL_eq] at hR
  have hSt : ∀ w', Stab pl' (ho.map oldO) w' = Stab pl' ho w' := fun w' => funext fun b => propext ⟨fun h => ⟨h.1, fun k hk => h.2 k (owns_old.2 hk)⟩, fun h => ⟨h.1, fun k hk => h.2 k (owns_old.1 hk)⟩⟩
  have hS : ∀ B, Sany A B pl' (ho.map oldO) w' = Sany A B pl' ho w' := fun B => by unfold Sany; rw [hSt]
  have hFr : ∀ B, Fresh B pl' (ho.map oldO) w' = Fresh B pl' ho w' := fun B => by unfold Fresh; rw [hSt]
  have hl : (ho.map oldO).length = ho.length := List.length_map _
  refine ⟨v, vs, _, pl', rfl, hR, { os := hB.os, tape := hB.tape, output := hB.output, size := hB.size, frame := hB.frame, len := by rw [hl]; exact hB.len, io := hB.io, own := fun k b hk => hB.own k b (owns_old.1 hk), newb := fun k b hn hk => hB.newb k b ?_ (owns_old.1 hk), disj := fun k k' b h1 h2 => hB.disj k k' b (owns_old.1 h1) (owns_old.1 h2), heap := fun k ob hk => ?_, res := by rw [hS, hFr, hl]; exact hB.res }⟩
  · unfold isnew at hn ⊢
    rw [List.getElem?_map] at hn
    cases h : ho[k]? with
    | none => rw [h] at hn; exact hn
    | some ob => rw [h] at hn; cases ob <;> first | exact hn | cases hn
  · rw [hS, hFr, hl]
    rw [List.getElem?_map] at hk
    cases h : ho[k]? with
    | none => rw [h] at hk; cases hk
    | some ob =>
      rw [h] at hk
      cases hk
      have := hB.heap k ob h
      cases ob <;> exact this
end Go.Av

namespace Go.Av
open Go.RowKit

/-! FROM THE ROW TO THE CONTRACT: what data are as abstract values. -/
inductive Sh where
  | ik (k : IntKind)
  | bb
  | ss
  | sl (e : List Sh)

def zSh : Sh → PV
  | .ik k => .c (.int k 0)
  | .bb => .c (.bool false)
  | .ss => .c (.string ⟨#[]⟩)
  | .sl _ => .c (.slice none 0 0)

inductive Fit : Sh → PV → Prop
  | ik (k : IntKind) (n : Int) : Fit (.ik k) (.c (.int k n))
  | bb (x : Bool) : Fit .bb (.c (.bool x))
  | ss (x : ByteArray) : Fit .ss (.c (.string x))
  | sl {l : List Sh} {es : List (List PV)} (hl : ∀ e ∈ es, e.length = l.length) (h : ∀ e ∈ es, ∀ (j : Nat) (p : PV) (s : Sh), e[j]? = some p → l[j]? = some s → Fit s p) : Fit (.sl l) (.lst (l.map zSh) es)

def shMap (f : TypeId → Option (List Sh)) : List Field → Option (List Sh)
  | [] => some []
  | x :: r => match f x.type with
    | some a => (match shMap f r with
      | some b => some (a ++ b)
      | none => none)
    | none => none

def shOf (P : Program) : Nat → TypeId → Option (List Sh)
  | 0, _ => none
  | n + 1, t => match P.underlying t with
    | some (.int k) => some [.ik k]
    | some .bool => some [.bb]
    | some .string => some [.ss]
    | some (.slice e) => (match shOf P n e with
      | some l => some [.sl l]
      | none => none)
    | some (.struct fs) => shMap (shOf P n) fs.toList
    | _ => none

/-- the cells that were read, as pure values -/
inductive RdL (w : World) : List Sh → List PV → List Value → Prop
  | nil : RdL w [] [] []
  | cons {s : Sh} {p : PV} {c : Value} {ss : List Sh} {ps : List PV} {cs : List Value} (hf : Fit s p) (hr : Rel (fun b => b < w.heap.size) w p c) (h1 : c.oneCell' = true) (h : RdL w ss ps cs) : RdL w (s :: ss) (p :: ps) (c :: cs)

theorem RdL.append {w : World} {ss ss' : List Sh} {ps ps' : List PV} {cs cs' : List Value} (h : RdL w ss ps cs) (h' : RdL w ss' ps' cs') : RdL w (ss ++ ss') (ps ++ ps') (cs ++ cs') := by
  induction h with
  | nil => exact h'
  | cons hf hr h1 _ ih => exact .cons hf hr h1 ih
theorem RdL.len {w : World} {ss : List Sh} {ps : List PV} {cs : List Value} (h : RdL w ss ps cs) : ps.length = ss.length ∧ cs.length = ss.length := by
  induction h with
  | nil => exact ⟨rfl, rfl⟩
  | cons _ _ _ _ ih => simp [ih.1, ih.2]
theorem RdL.fit {w : World} {ss : List Sh} {ps : List PV} {cs : List Value} (h : RdL w ss ps cs) : ∀ (j : Nat) (p : PV) (s : Sh), ps[j]? = some p → ss[j]? = some s → Fit s p := by
  induction h with
  | nil => intro j p s h; simp at h
  | cons hf _ _ _ ih =>
    intro j p s hp hs
    cases j with
    | zero => simp at hp hs; subst hp hs; exact hf
    | succ j => exact ih j p s (by simpa using hp) (by simpa using hs)
theorem RdL.rel {w : World} {ss : List Sh} {ps : List PV} {cs : List Value} (h : RdL w ss ps cs) : ∀ (j : Nat) (p : PV) (c : Value), ps[j]? = some p → cs[j]? = some c → Rel (fun b => b < w.heap.size) w p c ∧ c.oneCell' = true := by
  induction h with
  | nil => intro j p s h; simp at h
  | cons _ hr h1 _ ih =>
    intro j p s hp hs
    cases j with
    | zero => simp at hp hs; subst hp hs; exact ⟨hr, h1⟩
    | succ j => exact ih j p s (by simpa using hp) (by simpa using hs)

theorem wf_lit {k : IntKind} {n : Int} (h : (Lit.int k n).wf = true) : wfV (.int k n) := by
  refine (wrap_eq_iff k n).2 ?_
  simp only [Lit.wf, Bool.and_eq_true, decide_eq_true_eq] at h
  cases k <;> simpa [kmin, kmax, IntKind.min, IntKind.max, IntKind.signed, IntKind.bits] using h

theorem pick_list {α : Type} {Q : Nat → α → Prop} : ∀ (n : Nat), (∀ i, i < n → ∃ e, Q i e) → ∃ es : List α, es.length = n ∧ ∀ i e, es[i]? = some e → Q i e
  | 0, _ => ⟨[], rfl, fun i e h => by simp at h⟩
  | n + 1, h => by
    obtain ⟨es, hl, hq⟩ := pick_list n (fun i hi => h i (by omega))
    obtain ⟨e, he⟩ := h n (by omega)
    refine ⟨es ++ [e], by simp [hl], fun i x hx => ?_⟩
    rw [List.getElem?_append] at hx
    split at hx
    · exact hq i x hx
    · have : i = n := by
        have := (List.getElem?_eq_some_iff.1 hx).1
        simp at this; omega
      subst this
      rw [hl] at hx
      simp at hx
      subst hx
      exact he

section
variable {H : Type} {enc : TypeId × Value → H} {P : Program} {w : World} {spare : Nat → Bool} {held : Bool}

theorem read_struct {n : Nat} (ih : ∀ (t : TypeId) (l : List Sh), t < P.types.size → shOf P n t = some l → ∀ (fuel : Nat) (cs : List Value) (x : DataW H × List MemPlace), DataW.trod enc P w 0 spare held fuel t cs = some x → ∃ ps, RdL w l ps cs) :
    ∀ (fl : List Field) (l : List Sh) (o : Nat) (cs : List Value), shMap (shOf P n) fl = some l → (∀ f ∈ fl, f.type < P.types.size) →
      (∀ (j : Nat) f, fl[j]? = some f → f.offset = o + ((fl.take j).map fun f => P.cellsOf f.type).sum) → cs.length = (fl.map fun f => P.cellsOf f.type).sum →
      (∀ f ∈ fl, ∃ fuel x, DataW.trod enc P w 0 spare held fuel f.type ((cs.drop (f.offset - o)).take (P.cellsOf f.type)) = some x) → ∃ ps, RdL w l ps cs
  | [], l, o, cs, hs, _, _, hl, _ => by
    simp [shMap] at hs
    subst hs
    have : cs = [] := by simpa using hl
    subst this
    exact ⟨[], .nil⟩
  | f :: r, l, o, cs, hs, ht, ho, hl, hr => by
    simp only [shMap] at hs
    split at hs
    case h_2 => cases hs
    rename_i a ha
    split at hs
    case h_2 => cases hs
    rename_i b hb
    cases hs
    have ho0 : f.offset = o := by simpa using ho 0 f rfl
    obtain ⟨fuel, x, hx⟩ := hr f (by simp)
    rw [ho0] at hx
    simp only [Nat.sub_self, List.drop_zero] at hx
    obtain ⟨ps, h1⟩ := ih f.type a (ht f (by simp)) ha fuel _ x hx
    have hl' : cs.length = P.cellsOf f.type + (r.map fun f => P.cellsOf f.type).sum := by simpa using hl
    obtain ⟨ps', h2⟩ := read_struct ih r b (o + P.cellsOf f.type) (cs.drop (P.cellsOf f.type)) hb (fun g hg => ht g (by simp [hg]))
      (fun j g hg => by
        have := ho (j + 1) g (by simpa using hg)
        simp only [List.take_succ_cons, List.map_cons, List.sum_cons] at this
        omega) (by rw [List.length_drop]; omega)
      (fun g hg => by
        obtain ⟨fuel, x, hx⟩ := hr g (by simp [hg])
        obtain ⟨j, hj⟩ := List.getElem?_of_mem hg
        have := ho (j + 1) g (by simpa using hj)
        simp only [List.take_succ_cons, List.map_cons, List.sum_cons] at this
        refine ⟨fuel, x, ?_⟩
        rw [List.drop_drop]
        have e : P.cellsOf f.type + (g.offset - (o + P.cellsOf f.type)) = g.offset - o := by omega
        rw [e]; exact hx)
    have := h1.append h2
    rw [List.take_append_drop] at this
    exact ⟨_, this⟩

theorem read_cells (hK : Kids P (· < P.types.size)) : ∀ (n : Nat) (t : TypeId) (l : List Sh), t < P.types.size → shOf P n t = some l → ∀ (fuel : Nat) (cs : List Value) (x : DataW H × List MemPlace), DataW.trod enc P w 0 spare held fuel t cs = some x → ∃ ps, RdL w l ps cs := by
  intro n
  induction n with
  | zero => intro t l _ h; simp [shOf] at h
  | succ n ih =>
    intro t l ht hs fuel cs x hx
    simp only [shOf] at hs
    split at hs
    case h_1 k hu =>
      cases hs
      obtain ⟨m, rfl, _, hw⟩ := DataW.trod_int hu hx
      exact ⟨[.c (.int k m)], .cons (.ik k m) (.c (wf_lit hw) rfl) rfl .nil⟩
    case h_2 hu =>
      cases hs
      obtain ⟨m, rfl, _⟩ := DataW.trod_bool hu hx
      exact ⟨[.c (.bool m)], .cons (.bb m) (.c trivial rfl) rfl .nil⟩
    case h_3 hu =>
      cases hs
      obtain ⟨m, rfl, _, hw⟩ := DataW.trod_string hu hx
      exact ⟨[.c (.string m)], .cons (.ss m) (.c hw rfl) rfl .nil⟩
    case h_4 e hu =>
      split at hs
      case h_2 => cases hs
      rename_i le he
      cases hs
      have hte := hK.slice ht hu
      rcases DataW.trod_slice hu hx with ⟨rfl, _⟩ | ⟨a, len, cap, elems, rest, m, _, rfl, _, _, hlc, hcm, hel, hget, _⟩
      · refine ⟨[.lst (le.map zSh) []], .cons (.sl (by simp) (by simp)) (.lst (es := []) rfl (Nat.zero_le _) (by simp [maxLen]) ⟨0, 0, none⟩ (by simp) (by simp) (by simp) (fun _ _ => undef) (by simp) (by simp) (by simp)) rfl .nil⟩
      · have key : ∀ i, i < len → ∃ y : List PV × List Value, RdL w le y.1 y.2 ∧ w.cells? 0 (a.add (i * P.cellsOf e)) (P.cellsOf e) = some y.2 := by
          intro i hi
          have h1 := hget i hi
          rw [List.getElem?_eq_getElem (by omega), Option.bind_eq_some_iff] at h1
          obtain ⟨cs', hc, ht'⟩ := h1
          obtain ⟨ps, hp⟩ := ih e le hte he m cs' _ ht'
          exact ⟨(ps, cs'), hp, hc⟩
        obtain ⟨ys, hyl, hys⟩ := pick_list len key
        have hle : ∀ i y, ys[i]? = some y → le.length = P.cellsOf e := fun i y hy => by
          obtain ⟨h1, h2⟩ := hys i y hy
          have := (World.cells?_some h2).2.1
          have := h1.len.2
          omega
        have hes : ∀ {i : Nat} {q : List PV}, (ys.map (·.1))[i]? = some q → ∃ y : List PV × List Value, ys[i]? = some y ∧ y.1 = q := fun {i q} hq => by
          rw [List.getElem?_map] at hq
          cases hy : ys[i]? with
          | none => rw [hy] at hq; simp at hq
          | some y => rw [hy] at hq; simp at hq; exact ⟨y, rfl, hq⟩
        have hcell : ∀ (i j : Nat) (y : List PV × List Value), ys[i]? = some y → j < le.length → w.cell? (a.add (i * (le.map zSh).length + j)) = some (y.2.getD j undef) := fun i j y hy hj => by
          obtain ⟨h1, h2⟩ := hys i y hy
          have e0 := hle i y hy
          have h3 := (World.cells?_some h2).2.2 j (by omega)
          rw [add_of_add] at h3
          rw [List.length_map, e0, h3, List.getD_eq_getElem?_getD, List.getElem?_eq_getElem (by have := h1.len.2; omega)]
          rfl
        have hmem : ∀ e ∈ ys.map (·.1), ∃ (y : List PV × List Value) (i : Nat), ys[i]? = some y ∧ y.1 = e := fun e he => by
          obtain ⟨i, hi⟩ := List.getElem?_of_mem he
          obtain ⟨y, h1, h2⟩ := hes hi
          exact ⟨y, i, h1, h2⟩
        refine ⟨[.lst (le.map zSh) (ys.map (·.1))], .cons (.sl (fun e he => ?_) (fun e he => ?_)) (.lst (es := ys.map (·.1)) (by simp [hyl]) hlc hcm a (fun _ => rfl) ?_ ?_ (fun i j => ((ys[i]?.map (·.2)).getD []).getD j undef) ?_ ?_ ?_) rfl .nil⟩
        · obtain ⟨y, i, hy, rfl⟩ := hmem e he
          exact (hys i y hy).1.len.1
        · obtain ⟨y, i, hy, rfl⟩ := hmem e he
          exact (hys i y hy).1.fit
        · intro h0 hz
          obtain ⟨y, hy⟩ : ∃ y, ys[0]? = some y := ⟨_, List.getElem?_eq_getElem (by omega)⟩
          have h3 := hcell 0 0 y hy (by simpa using hz)
          have := World.block_lt_of_cell? w _ h3
          rwa [block_of_add] at this
        · intro i q hq
          obtain ⟨y, hy, rfl⟩ := hes hq
          simpa using (hys i y hy).1.len.1
        · intro i j q p hq hp
          obtain ⟨y, hy, rfl⟩ := hes hq
          have hj : j < le.length := by rw [← (hys i y hy).1.len.1]; exact (List.getElem?_eq_some_iff.1 hp).1
          rw [hcell i j y hy hj, hy]; rfl
        · intro i j q p hq hp
          obtain ⟨y, hy, rfl⟩ := hes hq
          have hj : j < y.2.length := by rw [(hys i y hy).1.len.2, ← (hys i y hy).1.len.1]; exact (List.getElem?_eq_some_iff.1 hp).1
          have := ((hys i y hy).1.rel j p _ hp (List.getElem?_eq_getElem hj)).2
          simpa [hy, List.getD_eq_getElem?_getD, List.getElem?_eq_getElem hj] using this
        · intro i j q p hq hp
          obtain ⟨y, hy, rfl⟩ := hes hq
          have hj : j < y.2.length := by rw [(hys i y hy).1.len.2, ← (hys i y hy).1.len.1]; exact (List.getElem?_eq_some_iff.1 hp).1
          have := ((hys i y hy).1.rel j p _ hp (List.getElem?_eq_getElem hj)).1
          simpa [flagS, hy, List.getD_eq_getElem?_getD, List.getElem?_eq_getElem hj] using this
    case h_5 fs hu =>
      obtain ⟨xs, m, _, _, hlen, hxs, hget⟩ := DataW.trod_struct hu hx
      obtain ⟨k1, k2, k3⟩ := hK.struct ht hu
      refine read_struct ih fs.toList l 0 cs hs k1 (fun j f hf => by rw [k3 j f hf]; simp) (by rw [hlen, k2]) fun f hf => ?_
      obtain ⟨j, hj⟩ := List.getElem?_of_mem hf
      have hj' : fs[j]? = some f := by rw [← Array.getElem?_toList]; exact hj
      have := hget j f hj'
      have hlt : j < xs.length := by rw [hxs]; exact (Array.getElem?_eq_some_iff.1 hj').1
      rw [List.getElem?_eq_getElem hlt] at this
      exact ⟨m, _, by simpa using this⟩
    case h_6 => cases hs

/-- an argument -/
def argAV (P : Program) (t : TypeId) (ps : List PV) : AV := match P.underlying t with
  | some (.struct _) => .p .any (.agg ps)
  | _ => (match ps with
    | [.c v] => .p .flat (.c v)
    | [p] => .p .any p
    | _ => .junk)
def ArgsOf (P : Program) (n : Nat) : List TypeId → List AV → Prop
  | [], as => as = []
  | t :: ts, as => ∃ l ps r, shOf P n t = some l ∧ ps.length = l.length ∧ (∀ (j : Nat) (p : PV) (s : Sh), ps[j]? = some p → l[j]? = some s → Fit s p) ∧ as = argAV P t ps :: r ∧ ArgsOf P n ts r

theorem args_read (hK : Kids P (· < P.types.size)) (n : Nat) {base : Nat} : ∀ {ts : List TypeId} {vs : List Value} {ds : List (DataW H)} {pl : List MemPlace}, (∀ t ∈ ts, t < P.types.size ∧ (shOf P n t).isSome = true) →
    (∀ (j : Nat) t v, ts[j]? = some t → vs[j]? = some v → Value.okWide P w .any base t v) → DataW.TrodAll enc P w 0 spare held ts vs ds pl →
    ∃ as, ArgsOf P n ts as ∧ as.length = vs.length ∧ ∀ (j : Nat) (a : AV) (u : Value), as[j]? = some a → vs[j]? = some u → ∀ (plc : Nat → Pl) (L : Nat) (Fr : Nat → Prop), RelA plc L (fun b => b < w.heap.size) Fr w a u
  | [], [], _, _, _, _, _ => ⟨[], rfl, rfl, fun j a u h => by simp at h⟩
  | [], _ :: _, [], _, _, _, h => by cases h
  | [], _ :: _, _ :: _, _, _, _, h => by cases h
  | _ :: _, [], _, _, _, _, h => by cases h
  | _ :: _, _ :: _, [], _, _, _, h => by cases h
  | t :: ts, v :: vs, d :: ds, pl, ht, hv, ⟨p, q, h1, h2, _⟩ => by
    obtain ⟨as, hA, hl, hr⟩ := args_read hK n (fun t h => ht t (by simp [h])) (fun j t v h h' => hv (j + 1) t v (by simpa using h) (by simpa using h')) h2
    obtain ⟨ht1, hsh⟩ := ht t (by simp)
    obtain ⟨l, hl1⟩ := Option.isSome_iff_exists.1 hsh
    obtain ⟨fuel, hf⟩ := h1
    obtain ⟨ps, hps⟩ := read_cells hK n t l ht1 hl1 fuel _ _ hf
    refine ⟨argAV P t ps :: as, ⟨l, ps, as, hl1, hps.len.1, hps.fit, rfl, hA⟩, by simp [hl], fun j a u ha hu plc L Fr => ?_⟩
    cases j with
    | succ j => exact hr j a u (by simpa using ha) (by simpa using hu) plc L Fr
    | zero =>
      simp at ha hu
      subst ha hu
      have hval := hv 0 t v rfl rfl
      have hstruct : ∀ fs, P.underlying t = some (.struct fs) → ∃ arr, v = .agg arr := fun fs hu => by
        unfold Value.okWide at hval
        rw [hu] at hval
        obtain ⟨arr, rfl, _⟩ := hval
        exact ⟨arr, rfl⟩
      unfold argAV
      split
      · rename_i fs hu
        obtain ⟨arr, rfl⟩ := hstruct fs hu
        have hc : (Value.agg arr).cells.toList = arr.toList := rfl
        rw [hc] at hps
        refine .p (.agg (by have := hps.len; simp at this; omega) (fun j u hu => ?_) (fun j p u hp hu => ?_))
        · have hu' : arr.toList[j]? = some u := by rw [Array.getElem?_toList]; exact hu
          have hlt : j < ps.length := by have := hps.len; have := (List.getElem?_eq_some_iff.1 hu').1; omega
          exact (hps.rel j _ u (List.getElem?_eq_getElem hlt) hu').2
        · have hu' : arr.toList[j]? = some u := by rw [Array.getElem?_toList]; exact hu
          exact (hps.rel j p u hp hu').1
      · rename_i hns
        have hone : v.cells = #[v] := by
          cases v with
          | agg arr =>
            exfalso
            unfold Value.okWide at hval
            split at hval
            · rename_i fs hu; exact hns fs hu
            · rename_i m e hu
              obtain ⟨k, rfl⟩ : ∃ k, n = k + 1 := by cases n with | zero => simp [shOf] at hl1 | succ k => exact ⟨k, rfl⟩
              simp [shOf, hu] at hl1
            · simp only [Cell.okWide] at hval
              split at hval <;> first | (simp_all; done) | skip
              all_goals (simp only [Cell.ok] at hval; split at hval <;> simp_all)
          | _ => rfl
        rw [hone] at hps
        have hlen := hps.len
        have h1 : ps.length = 1 := by simp at hlen; omega
        obtain ⟨p0, rfl⟩ := List.length_eq_one_iff.1 h1
        obtain ⟨hr0, h10⟩ := hps.rel 0 p0 v rfl rfl
        cases p0 with
        | c x => exact .p hr0.scalar
        | _ => exact .p hr0

open Go.ChangeShapes Go.WideShapes Go.ChangeAt in
/-- the post of a law: true, and the arguments read as they did -/
theorem post_true {f : Func} {s : ChangeSpec} {W W' : World} {args : Array Value} {ds gs : List (DataW H)} {before : List MemPlace} {tb : TypeId} (hK : Kids P (· < P.types.size)) (hz : ∀ t e, t < P.types.size → P.underlying t = some (.slice e) → 0 < P.cellsOf e)
    (hts : ∀ t ∈ f.params.toList, t < P.types.size) (hres : f.resultTypes = #[tb]) (htb : P.underlying tb = some .bool) (hvars : s.vars = [])
    (hW : DataW.Whole enc P f.params.toList s.vars false W args.toList ds gs before) (hfn : s.fn H (ds ++ gs) = { results := [.lit (.bool true)], args := ds })
    (hos : W'.os = W.os) (hout : W'.output = W.output) (hheap : ∀ b, b < W.heap.size → W'.heap[b]? = W.heap[b]?) :
    s.post enc P f false true false false W args (.bool true) W' := by
  have hW' := hW
  have hlt := hW.lt
  obtain ⟨pa, pv, hA, hV, hps, hz', hn⟩ := hW
  rw [hvars] at hV
  obtain ⟨hg, rfl⟩ := trodVars_none hV
  have hcell : ∀ a : Addr, a.block < W.heap.size → W'.cell? a = W.cell? a := fun a ha => World.cell?_of_block (hheap _ ha)
  have hsame : ∀ p ∈ pa, W.sameAt W' p := by
    intro p hp
    have hb := hlt p (by rw [hps]; simpa using hp)
    cases p with
    | cell b off => exact hcell ⟨b, off, none⟩ hb
    | map b => exact hheap _ hb
  have hargs : ∀ sp : Nat → Bool, (∀ p ∈ before, sp p.block = true) → DataW.TrodAll enc P W' 0 sp true f.params.toList args.toList ds pa := by
    intro sp hsp
    refine DataW.TrodAll.respare hK hz (fun t ht => hts t ht) ?_ (fun p hp => hsp p (by rw [hps]; simpa using hp))
    have carry : ∀ {ts : List TypeId} {vs : List Value} {ds : List (DataW H)} {pl : List MemPlace}, DataW.TrodAll enc P W 0 (fun _ => true) true ts vs ds pl → (∀ p ∈ pl, W.sameAt W' p) → DataW.TrodAll enc P W' 0 (fun _ => true) true ts vs ds pl := by
      intro ts
      induction ts with
      | nil =>
        intro vs ds pl h _
        match vs, ds, h with
        | [], [], h => exact h
      | cons t ts ih =>
        intro vs ds pl h hs
        match vs, ds, h with
        | v :: vs, d :: ds, ⟨p, q, ⟨n, h1⟩, h2, e⟩ =>
          exact ⟨p, q, ⟨n, DataW.trod_carry n _ _ _ h1 (fun x hx => hs x (by rw [e]; exact List.mem_append_left _ hx))⟩, ih h2 (fun x hx => hs x (by rw [e]; exact List.mem_append_right _ hx)), e⟩
    exact carry hA hsame
  have hold : ∀ p ∈ before, (fun b => decide (b < W.heap.size)) p.block = true := fun p hp => by simpa using hlt p hp
  have hresT : ∀ (b : Nat) (sp : Nat → Bool) (hd : Bool), DataW.TrodAll enc P W' b sp hd f.resultTypes.toList ((Value.bool true).resultList f.resultTypes.size) [.lit (.bool true)] [] := by
    intro b sp hd
    rw [hres]
    exact trodAll_cons_mk (shut_bool htb _) trodAll_mk0
  have hvT : ∀ sp : Nat → Bool, DataW.TrodVars enc P W' sp s.vars (s.fn H (ds ++ gs)).vars [] := by
    intro sp; rw [hvars, hfn]; rfl
  refine ⟨ds, gs, before, [], pa, [], hW', by rw [hfn]; exact hresT _ _ _, by rw [hfn]; exact hargs _ hold, hvT _, ?_, fun _ => ⟨?_, _, _, ([] ++ pa) ++ [], ⟨[] ++ pa, [], trodAll_append (hargs _ (fun _ _ => rfl)) (hresT _ _ _), hvT _, rfl, ?_, ?_⟩, ?_⟩⟩
  · refine ⟨hos, hout, fun i hi => ?_⟩
    rw [hheap i hi]
    split
    · rename_i h1 h2; rw [h1] at h2; cases h2; exact ⟨rfl, rfl, rfl, fun _ _ => rfl⟩
    · rename_i h1 h2; rw [h1] at h2; cases h2; exact .inr ⟨rfl, rfl⟩
    · rfl
  · exact ok_one hres rfl (okWide_bool_mk htb _)
  · intro b off hp
    have hp' : MemPlace.cell b off ∈ before := by rw [hps]; simpa using hp
    have hb := hlt _ hp'
    have := hz' b off hp'
    have e : W'.frozen? ⟨b, off, none⟩ = W.frozen? ⟨b, off, none⟩ := by
      have hh : W'.heap[b]? = W.heap[b]? := hheap b hb
      simp only [World.frozen?, hh]
    rw [e]; exact this
  · intro h; cases h
  · intro p hp _
    rw [hps]; simpa using hp

/-- A LAW: what its contract gives for its row -/
theorem law_calls {f : FuncId} {fn : Func} {s : ChangeSpec} {tb : TypeId} {W : World} {base : Nat} {args : Array Value} {ds gs : List (DataW H)} {before : List MemPlace} (hlaid : laidOutB P = true) (hm : mapsRowed P = true)
    (hz : ((List.range P.types.size).all fun t => match P.underlying t with | some (.slice e) => decide (0 < P.cellsOf e) | _ => true) = true)
    (hsh : (fn.params.toList.all fun t => decide (t < P.types.size) && (shOf P 6 t).isSome) = true) (hres : fn.resultTypes = #[tb]) (htb : P.underlying tb = some .bool) (hvars : s.vars = [])
    (hsem : ∀ as, ArgsOf P 6 fn.params.toList as → FnSem P f as [] (Is [Bo true] []))
    (hval : ∀ (j : Nat) t v, fn.params[j]? = some t → args[j]? = some v → Value.okWide P W .any base t v)
    (hW : DataW.Whole enc P fn.params.toList s.vars false W args.toList ds gs before) (hfn : s.fn H (ds ++ gs) = { results := [.lit (.bool true)], args := ds }) :
    Calls P f args W fun e W' => ∃ v, e = .returned v ∧ s.post enc P fn false true false false W args v W' := by
  have hK := kids_rows hlaid hm
  have hts : ∀ t ∈ fn.params.toList, t < P.types.size ∧ (shOf P 6 t).isSome = true := fun t ht => by
    have := List.all_eq_true.1 hsh t ht
    simpa using this
  obtain ⟨pa, pv, hA, hV, hps, _⟩ := id hW
  obtain ⟨as, h1, h2, h3⟩ := args_read hK 6 hts (fun j t v ht hv => hval j t v (by rw [← Array.getElem?_toList]; exact ht) (by rw [← Array.getElem?_toList]; exact hv)) hA
  have hst : ∀ b, b < W.heap.size → Sany (fun b => b < W.heap.size) W.heap.size (fun _ => mkPl 0 0 0 0) [] W b := fun b hb => ⟨⟨hb, fun k hk => (live_nil hk).elim⟩, .inl hb⟩
  refine ((hsem as h1).2 W args (fun _ => mkPl 0 0 0 0) (fun b => b < W.heap.size) (fun b hb => ⟨hb, fun k hk => (live_nil hk).elim⟩) ?_).mono ?_
  · refine ⟨fun k b hk => (live_nil hk).elim, fun k hk => by simp [isnew] at hk, fun k k' b hk => (live_nil hk).elim, fun k ob hk => by simp at hk, by simpa using h2.symm, fun j a u ha hu => ?_⟩
    refine (h3 j a u ha (by rw [Array.getElem?_toList]; exact hu) (fun _ => mkPl 0 0 0 0) 0 (Fresh W.heap.size (fun _ => mkPl 0 0 0 0) [] W)).mono (Nat.le_refl _) (fun _ _ => rfl) hst (fun _ h => h) (fun _ _ => rfl) (fun _ _ => rfl)
  · rintro e W' ⟨v, vs, hout, pl', rfl, ⟨rfl, rfl⟩, hB⟩
    have hv : v = .bool true := hB.res.cinv.1
    subst hv
    exact ⟨_, rfl, post_true hK (slices_full_of P hz) (fun t ht => (hts t ht).1) hres htb hvars hW hfn hB.os hB.output fun b hb => hB.frame b ⟨hb, fun k hk => (live_nil hk).elim⟩⟩
end
end Go.Av

namespace Go.Av
open Go.RowKit

/-! COMMON FORMS: what data look like as abstract values, and the small equations that walks ask for. -/
abbrev In (x : Int) : AV := .p .flat (.c (.int .i64 x))
abbrev By (x : Int) : AV := .p .flat (.c (.int .u8 x))
abbrev Str (s : ByteArray) : AV := .p .flat (.c (.string s))
def eI (x : Int) : List PV := [.c (.int .i64 x)]
def eY (x : Int) : List PV := [.c (.int .u8 x)]
def eB (b : Bool) : List PV := [.c (.bool b)]
def eS (s : ByteArray) : List PV := [.c (.string s)]
def eLI (xs : List Int) : List PV := [.lst (eI 0) (xs.map eI)]
def eLB (xs : List Bool) : List PV := [.lst (eB false) (xs.map eB)]
def eLS (xs : List ByteArray) : List PV := [.lst (eS ⟨#[]⟩) (xs.map eS)]
def zL : List PV := [.c (.slice none 0 0)]
abbrev LI (xs : List Int) : PV := .lst (eI 0) (xs.map eI)
abbrev LY (xs : List Int) : PV := .lst (eY 0) (xs.map eY)
abbrev LB (xs : List Bool) : PV := .lst (eB false) (xs.map eB)
abbrev LS (xs : List ByteArray) : PV := .lst (eS ⟨#[]⟩) (xs.map eS)
abbrev LLI (xs : List (List Int)) : PV := .lst zL (xs.map eLI)
abbrev LLB (xs : List (List Bool)) : PV := .lst zL (xs.map eLB)
abbrev LLS (xs : List (List ByteArray)) : PV := .lst zL (xs.map eLS)
/-- given, for reading -/
abbrev Lx (v : PV) : AV := .p .any v
abbrev Rw (fl : Fl) (z : List PV) (es : List (List PV)) : OB := .row true fl z es

def zs0 : TypeId → List PV := fun _ => []

section
variable {α : Type} (f : α → List PV)
theorem gm {xs : List α} {n : Nat} {z : List PV} (d : α) (h : z = f d) : (xs.map f).getD n z = f (xs.getD n d) := by
  simp only [List.getD_eq_getElem?_getD, List.getElem?_map, h]
  cases xs[n]? <;> rfl
theorem gmb {xs : List α} {n : Nat} {z : List PV} (d : α) (h : n < xs.length) : (xs.map f).getD n z = f (xs.getD n d) := by
  simp [List.getD_eq_getElem?_getD, h]
theorem sn {xs : List α} {n : Nat} {v : α} (h : n = xs.length) : ((xs.map f).drop 0).take n ++ [f v] = (xs ++ [v]).map f := by
  subst h
  rw [List.drop_zero, List.take_of_length_le (by simp)]; simp
theorem sn0 {n : Nat} {v : α} : (([] : List (List PV)).drop 0).take n ++ [f v] = [v].map f := by simp
theorem tk {xs : List α} {n : Nat} (h : n = xs.length) : ((xs.map f).drop 0).take n = xs.map f := by
  subst h
  rw [List.drop_zero, List.take_of_length_le (by simp)]
theorem tk0 {n : Nat} : (([] : List (List PV)).drop 0).take n = ([] : List α).map f := by simp
theorem dt {xs : List α} {l n : Nat} : ((xs.map f).drop l).take n = ((xs.drop l).take n).map f := by
  rw [List.map_take, List.map_drop]
theorem ap {xs ys : List α} {n : Nat} (h : n = xs.length) : ((xs.map f).drop 0).take n ++ ys.map f = (xs ++ ys).map f := by
  rw [tk f h, List.map_append]
theorem ap0 {ys : List α} {n : Nat} : (([] : List (List PV)).drop 0).take n ++ ys.map f = ys.map f := by simp
theorem st {xs : List α} {i : Nat} {v : α} : (xs.map f).set i (f v) = (xs.set i v).map f := by
  rw [List.map_set]
theorem rp {n : Nat} (d : α) : List.replicate n (f d) = (List.replicate n d).map f := by simp
theorem ln {xs : List α} : (xs.map f).length = xs.length := List.length_map f
end

theorem bytes_nil {s : ByteArray} : s = ⟨#[]⟩ ↔ s.size = 0 := by
  constructor
  · rintro rfl; rfl
  · intro h; cases s with | mk d => congr; exact Array.eq_empty_of_size_eq_zero h
theorem wrapI {n : Int} (h1 : -9223372036854775808 ≤ n) (h2 : n ≤ 9223372036854775807) : IntKind.i64.wrap n = n := (wrap_eq_iff .i64 n).2 ⟨h1, h2⟩
theorem wrapD {a b : Int} (h0 : 0 ≤ a) (h1 : 0 < b) (h2 : a ≤ 9223372036854775807) : IntKind.i64.wrap (a.tdiv b) = a / b := by
  rw [Int.tdiv_eq_ediv_of_nonneg h0]
  exact wrapI (by have := Int.ediv_nonneg h0 (Int.le_of_lt h1); omega) (Int.le_trans (Int.ediv_le_self _ h0) h2)
theorem modE {a b : Int} (h0 : 0 ≤ a) : a.tmod b = a % b := Int.tmod_eq_emod_of_nonneg h0
theorem wrapY {n : Int} (h1 : 0 ≤ n) (h2 : n ≤ 255) : IntKind.u8.wrap n = n := (wrap_eq_iff .u8 n).2 ⟨h1, h2⟩

theorem wf_I {fl : Fl} {x : Int} (h : wfA (.p fl (.c (.int .i64 x)))) : -9223372036854775808 ≤ x ∧ x ≤ 9223372036854775807 := (wrap_eq_iff .i64 x).1 h
theorem wf_Y {fl : Fl} {x : Int} (h : wfA (.p fl (.c (.int .u8 x)))) : 0 ≤ x ∧ x ≤ 255 := (wrap_eq_iff .u8 x).1 h
theorem wf_S {fl : Fl} {s : ByteArray} (h : wfA (.p fl (.c (.string s)))) : s.size ≤ 9223372036854775807 := h
theorem wf_LI {fl : Fl} {z : List PV} {xs : List Int} (h : wfA (.p fl (.lst z (xs.map eI)))) : xs.length ≤ 9223372036854775807 ∧ ∀ x ∈ xs, -9223372036854775808 ≤ x ∧ x ≤ 9223372036854775807 := by
  refine ⟨by simpa [maxLen] using h.1, fun x hx => (wrap_eq_iff .i64 x).1 (h.2 (eI x) (List.mem_map_of_mem hx) (.c (.int .i64 x)) (by simp [eI]))⟩
theorem wf_LY {fl : Fl} {z : List PV} {xs : List Int} (h : wfA (.p fl (.lst z (xs.map eY)))) : xs.length ≤ 9223372036854775807 ∧ ∀ x ∈ xs, 0 ≤ x ∧ x ≤ 255 := by
  refine ⟨by simpa [maxLen] using h.1, fun x hx => (wrap_eq_iff .u8 x).1 (h.2 (eY x) (List.mem_map_of_mem hx) (.c (.int .u8 x)) (by simp [eY]))⟩
theorem wf_LLI {fl : Fl} {z : List PV} {xs : List (List Int)} (h : wfA (.p fl (.lst z (xs.map eLI)))) : xs.length ≤ 9223372036854775807 ∧ ∀ ys ∈ xs, ys.length ≤ 9223372036854775807 ∧ ∀ x ∈ ys, -9223372036854775808 ≤ x ∧ x ≤ 9223372036854775807 := by
  refine ⟨by simpa [maxLen] using h.1, fun ys hy => ?_⟩
  have h1 := h.2 (eLI ys) (List.mem_map_of_mem hy) (.lst (eI 0) (ys.map eI)) (by simp [eLI])
  exact ⟨by simpa [maxLen] using h1.1, fun x hx => (wrap_eq_iff .i64 x).1 (h1.2 (eI x) (List.mem_map_of_mem hx) (.c (.int .i64 x)) (by simp [eI]))⟩
theorem wf_Ls {α : Type} {f : α → List PV} {fl : Fl} {z : List PV} {xs : List α} (h : wfA (.p fl (.lst z (xs.map f)))) : xs.length ≤ 9223372036854775807 := by
  simpa [maxLen] using h.1

theorem ite_and_p (p : Prop) [Decidable p] (b : Bool) : (if p then b else false) = (decide p && b) := by by_cases h : p <;> simp [h]
theorem ite_or_p (p : Prop) [Decidable p] (b : Bool) : (if p then true else b) = (decide p || b) := by by_cases h : p <;> simp [h]


/-! What came in, by its shape. -/
def FitL (l : List Sh) (ps : List PV) : Prop := ps.length = l.length ∧ ∀ (j : Nat) (p : PV) (s : Sh), ps[j]? = some p → l[j]? = some s → Fit s p
theorem FitL.cons {s : Sh} {l : List Sh} {ps : List PV} (h : FitL (s :: l) ps) : ∃ p r, ps = p :: r ∧ Fit s p ∧ FitL l r := by
  obtain ⟨h1, h2⟩ := h
  cases ps with
  | nil => simp at h1
  | cons p r => exact ⟨p, r, rfl, h2 0 p s rfl rfl, by simpa using h1, fun j q t hq ht => h2 (j + 1) q t (by simpa using hq) (by simpa using ht)⟩
theorem FitL.nil {ps : List PV} (h : FitL [] ps) : ps = [] := by simpa [FitL] using h.1
theorem fit_i {k : IntKind} {p : PV} (h : Fit (.ik k) p) : ∃ n, p = .c (.int k n) := by cases h; exact ⟨_, rfl⟩
theorem fit_b {p : PV} (h : Fit .bb p) : ∃ n, p = .c (.bool n) := by cases h; exact ⟨_, rfl⟩
theorem fit_s {p : PV} (h : Fit .ss p) : ∃ n, p = .c (.string n) := by cases h; exact ⟨_, rfl⟩
theorem map_of {α : Type} {f : α → List PV} : ∀ {es : List (List PV)}, (∀ e ∈ es, ∃ x, e = f x) → ∃ xs : List α, es = xs.map f
  | [], _ => ⟨[], rfl⟩
  | e :: r, h => by
    obtain ⟨x, hx⟩ := h e (by simp)
    obtain ⟨xs, hxs⟩ := map_of (es := r) fun e he => h e (by simp [he])
    exact ⟨x :: xs, by simp [hx, hxs]⟩
theorem fit_sl {α : Type} (f : α → List PV) {l : List Sh} (hf : ∀ e, FitL l e → ∃ x, e = f x) {p : PV} (h : Fit (.sl l) p) : ∃ xs : List α, p = .lst (l.map zSh) (xs.map f) := by
  cases h with
  | sl h1 h2 =>
    obtain ⟨xs, hxs⟩ := map_of (f := f) fun e he => hf e ⟨h1 e he, h2 e he⟩
    exact ⟨xs, by rw [hxs]⟩
theorem fit_LI {p : PV} (h : Fit (.sl [.ik .i64]) p) : ∃ xs, p = LI xs := by
  refine fit_sl eI (fun e he => ?_) h
  obtain ⟨p0, r, rfl, hf, he⟩ := he.cons
  obtain rfl := he.nil
  obtain ⟨n, rfl⟩ := fit_i hf
  exact ⟨n, rfl⟩
theorem fit_LY {p : PV} (h : Fit (.sl [.ik .u8]) p) : ∃ xs, p = LY xs := by
  refine fit_sl eY (fun e he => ?_) h
  obtain ⟨p0, r, rfl, hf, he⟩ := he.cons
  obtain rfl := he.nil
  obtain ⟨n, rfl⟩ := fit_i hf
  exact ⟨n, rfl⟩
theorem fit_LB {p : PV} (h : Fit (.sl [.bb]) p) : ∃ xs, p = LB xs := by
  refine fit_sl eB (fun e he => ?_) h
  obtain ⟨p0, r, rfl, hf, he⟩ := he.cons
  obtain rfl := he.nil
  obtain ⟨n, rfl⟩ := fit_b hf
  exact ⟨n, rfl⟩
theorem fit_LS {p : PV} (h : Fit (.sl [.ss]) p) : ∃ xs, p = LS xs := by
  refine fit_sl eS (fun e he => ?_) h
  obtain ⟨p0, r, rfl, hf, he⟩ := he.cons
  obtain rfl := he.nil
  obtain ⟨n, rfl⟩ := fit_s hf
  exact ⟨n, rfl⟩
theorem fit_LLI {p : PV} (h : Fit (.sl [.sl [.ik .i64]]) p) : ∃ xs, p = LLI xs := by
  refine fit_sl eLI (fun e he => ?_) h
  obtain ⟨p0, r, rfl, hf, he⟩ := he.cons
  obtain rfl := he.nil
  obtain ⟨n, rfl⟩ := fit_LI hf
  exact ⟨n, rfl⟩

theorem ArgsOf.cons {P : Program} {n : Nat} {t : TypeId} {ts : List TypeId} {as : List AV} {l : List Sh} (hl : shOf P n t = some l) (h : ArgsOf P n (t :: ts) as) : ∃ ps r, FitL l ps ∧ as = argAV P t ps :: r ∧ ArgsOf P n ts r := by
  obtain ⟨l', ps, r, h1, h2, h3, h4, h5⟩ := h
  rw [hl] at h1; cases h1
  exact ⟨ps, r, ⟨h2, h3⟩, h4, h5⟩
theorem argAV_struct {P : Program} {t : TypeId} {fs : Array Field} {ps : List PV} (h : P.underlying t = some (.struct fs)) : argAV P t ps = .p .any (.agg ps) := by unfold argAV; rw [h]
theorem argAV_c {P : Program} {t : TypeId} {v : Value} (h : ∀ fs, P.underlying t ≠ some (.struct fs)) : argAV P t [.c v] = .p .flat (.c v) := by
  unfold argAV; split
  · rename_i fs hh; exact absurd hh (h fs)
  · rfl
theorem argAV_l {P : Program} {t : TypeId} {z : List PV} {es : List (List PV)} (h : ∀ fs, P.underlying t ≠ some (.struct fs)) : argAV P t [.lst z es] = .p .any (.lst z es) := by
  unfold argAV; split
  · rename_i fs hh; exact absurd hh (h fs)
  · rfl
theorem trodAll_len {H : Type} {enc : TypeId × Value → H} {P : Program} {w : World} {b : Nat} {sp : Nat → Bool} {hd : Bool} : ∀ {ts : List TypeId} {vs : List Value} {ds : List (DataW H)} {ps : List MemPlace}, DataW.TrodAll enc P w b sp hd ts vs ds ps → ds.length = ts.length
  | [], [], [], _, _ => rfl
  | _ :: _, _ :: _, _ :: _, _, ⟨_, _, _, h, _⟩ => by simp [trodAll_len h]
end Go.Av

namespace Go.Av
open Go.RowKit

structure GAir where
  temperature : Int
  pressure : Int
  humidity : Int
deriving DecidableEq
instance : Inhabited GAir := ⟨⟨0, 0, 0⟩⟩
def GAir.cells (x : GAir) : List PV := [.c (.int .i64 x.temperature), .c (.int .i64 x.pressure), .c (.int .i64 x.humidity)]
def GAir.z : List PV := [.c (.int .i64 0), .c (.int .i64 0), .c (.int .i64 0)]
theorem eta_Air (x : GAir) : (⟨x.temperature, x.pressure, x.humidity⟩ : GAir) = x := rfl
def GAir.sz (x : GAir) : Nat := 0
def GAir.wf (x : GAir) : Prop := (-9223372036854775808 ≤ x.temperature ∧ x.temperature ≤ 9223372036854775807) ∧ (-9223372036854775808 ≤ x.pressure ∧ x.pressure ≤ 9223372036854775807) ∧ (-9223372036854775808 ≤ x.humidity ∧ x.humidity ≤ 9223372036854775807)
theorem wf_cells_Air {d : Nat} {x : GAir} (h : ∀ p ∈ x.cells, wfN (d + 2) p) : x.wf := by
  refine ⟨(wrap_eq_iff .i64 _).1 (h (.c (.int .i64 x.temperature)) (by simp [GAir.cells])), (wrap_eq_iff .i64 _).1 (h (.c (.int .i64 x.pressure)) (by simp [GAir.cells])), (wrap_eq_iff .i64 _).1 (h (.c (.int .i64 x.humidity)) (by simp [GAir.cells]))⟩
theorem wf_Air {fl : Fl} {x : GAir} (h : wfA (.p fl (.agg x.cells))) : x.wf := wf_cells_Air (d := 1) h
theorem wfr_Air {fl : Fl} {x : GAir} (h : wfA (.p fl (.ref x.cells))) : x.wf := wf_cells_Air (d := 1) h
theorem wf_LAir {fl : Fl} {z : List PV} {xs : List GAir} (h : wfA (.p fl (.lst z (xs.map GAir.cells)))) : xs.length ≤ 9223372036854775807 ∧ ∀ x ∈ xs, x.wf :=
  ⟨by simpa [maxLen] using h.1, fun x hx => wf_cells_Air (d := 1) (h.2 _ (List.mem_map_of_mem hx))⟩

structure GAirway where
  id : ByteArray
  from_ : Int
  to : Int
  length : Int
  section_ : Int
  friction : Int
  shock : Int
deriving DecidableEq
instance : Inhabited GAirway := ⟨⟨⟨#[]⟩, 0, 0, 0, 0, 0, 0⟩⟩
def GAirway.cells (x : GAirway) : List PV := [.c (.string x.id), .c (.int .i64 x.from_), .c (.int .i64 x.to), .c (.int .i64 x.length), .c (.int .i64 x.section_), .c (.int .i64 x.friction), .c (.int .i64 x.shock)]
def GAirway.z : List PV := [.c (.string ⟨#[]⟩), .c (.int .i64 0), .c (.int .i64 0), .c (.int .i64 0), .c (.int .i64 0), .c (.int .i64 0), .c (.int .i64 0)]
theorem eta_Airway (x : GAirway) : (⟨x.id, x.from_, x.to, x.length, x.section_, x.friction, x.shock⟩ : GAirway) = x := rfl
def GAirway.sz (x : GAirway) : Nat := x.id.size
def GAirway.wf (x : GAirway) : Prop := x.id.size ≤ 9223372036854775807 ∧ (-9223372036854775808 ≤ x.from_ ∧ x.from_ ≤ 9223372036854775807) ∧ (-9223372036854775808 ≤ x.to ∧ x.to ≤ 9223372036854775807) ∧ (-9223372036854775808 ≤ x.length ∧ x.length ≤ 9223372036854775807) ∧ (-9223372036854775808 ≤ x.section_ ∧ x.section_ ≤ 9223372036854775807) ∧ (-9223372036854775808 ≤ x.friction ∧ x.friction ≤ 9223372036854775807) ∧ (-9223372036854775808 ≤ x.shock ∧ x.shock ≤ 9223372036854775807)
theorem wf_cells_Airway {d : Nat} {x : GAirway} (h : ∀ p ∈ x.cells, wfN (d + 2) p) : x.wf := by
  refine ⟨(h (.c (.string x.id)) (by simp [GAirway.cells])), (wrap_eq_iff .i64 _).1 (h (.c (.int .i64 x.from_)) (by simp [GAirway.cells])), (wrap_eq_iff .i64 _).1 (h (.c (.int .i64 x.to)) (by simp [GAirway.cells])), (wrap_eq_iff .i64 _).1 (h (.c (.int .i64 x.length)) (by simp [GAirway.cells])), (wrap_eq_iff .i64 _).1 (h (.c (.int .i64 x.section_)) (by simp [GAirway.cells])), (wrap_eq_iff .i64 _).1 (h (.c (.int .i64 x.friction)) (by simp [GAirway.cells])), (wrap_eq_iff .i64 _).1 (h (.c (.int .i64 x.shock)) (by simp [GAirway.cells]))⟩
theorem wf_Airway {fl : Fl} {x : GAirway} (h : wfA (.p fl (.agg x.cells))) : x.wf := wf_cells_Airway (d := 1) h
theorem wfr_Airway {fl : Fl} {x : GAirway} (h : wfA (.p fl (.ref x.cells))) : x.wf := wf_cells_Airway (d := 1) h
theorem wf_LAirway {fl : Fl} {z : List PV} {xs : List GAirway} (h : wfA (.p fl (.lst z (xs.map GAirway.cells)))) : xs.length ≤ 9223372036854775807 ∧ ∀ x ∈ xs, x.wf :=
  ⟨by simpa [maxLen] using h.1, fun x hx => wf_cells_Airway (d := 1) (h.2 _ (List.mem_map_of_mem hx))⟩

structure GMine where
  junctions : Int
  airways : List GAirway
deriving DecidableEq
instance : Inhabited GMine := ⟨⟨0, []⟩⟩
def GMine.cells (x : GMine) : List PV := [.c (.int .i64 x.junctions), .lst (GAirway.cells default) (x.airways.map GAirway.cells)]
def GMine.z : List PV := [.c (.int .i64 0), .c (.slice none 0 0)]
theorem eta_Mine (x : GMine) : (⟨x.junctions, x.airways⟩ : GMine) = x := rfl
def GMine.sz (x : GMine) : Nat := 0
def GMine.wf (x : GMine) : Prop := (-9223372036854775808 ≤ x.junctions ∧ x.junctions ≤ 9223372036854775807) ∧ (x.airways.length ≤ 9223372036854775807 ∧ ∀ y ∈ x.airways, y.wf)
theorem wf_cells_Mine {d : Nat} {x : GMine} (h : ∀ p ∈ x.cells, wfN (d + 3) p) : x.wf := by
  refine ⟨(wrap_eq_iff .i64 _).1 (h (.c (.int .i64 x.junctions)) (by simp [GMine.cells])), (by have h1 := (h (.lst (GAirway.cells default) (x.airways.map GAirway.cells)) (by simp [GMine.cells])); exact ⟨by simpa [maxLen] using h1.1, fun y hy => wf_cells_Airway (d := d) (h1.2 _ (List.mem_map_of_mem hy))⟩)⟩
theorem wf_Mine {fl : Fl} {x : GMine} (h : wfA (.p fl (.agg x.cells))) : x.wf := wf_cells_Mine (d := 0) h
theorem wfr_Mine {fl : Fl} {x : GMine} (h : wfA (.p fl (.ref x.cells))) : x.wf := wf_cells_Mine (d := 0) h
theorem wf_LMine {fl : Fl} {z : List PV} {xs : List GMine} (h : wfA (.p fl (.lst z (xs.map GMine.cells)))) : xs.length ≤ 9223372036854775807 ∧ ∀ x ∈ xs, x.wf :=
  ⟨by simpa [maxLen] using h.1, fun x hx => wf_cells_Mine (d := 0) (h.2 _ (List.mem_map_of_mem hx))⟩

structure GSurvey where
  airway : ByteArray
  drop : Int
  dropError : Int
  flow : Int
  flowError : Int
deriving DecidableEq
instance : Inhabited GSurvey := ⟨⟨⟨#[]⟩, 0, 0, 0, 0⟩⟩
def GSurvey.cells (x : GSurvey) : List PV := [.c (.string x.airway), .c (.int .i64 x.drop), .c (.int .i64 x.dropError), .c (.int .i64 x.flow), .c (.int .i64 x.flowError)]
def GSurvey.z : List PV := [.c (.string ⟨#[]⟩), .c (.int .i64 0), .c (.int .i64 0), .c (.int .i64 0), .c (.int .i64 0)]
theorem eta_Survey (x : GSurvey) : (⟨x.airway, x.drop, x.dropError, x.flow, x.flowError⟩ : GSurvey) = x := rfl
def GSurvey.sz (x : GSurvey) : Nat := x.airway.size
def GSurvey.wf (x : GSurvey) : Prop := x.airway.size ≤ 9223372036854775807 ∧ (-9223372036854775808 ≤ x.drop ∧ x.drop ≤ 9223372036854775807) ∧ (-9223372036854775808 ≤ x.dropError ∧ x.dropError ≤ 9223372036854775807) ∧ (-9223372036854775808 ≤ x.flow ∧ x.flow ≤ 9223372036854775807) ∧ (-9223372036854775808 ≤ x.flowError ∧ x.flowError ≤ 9223372036854775807)
theorem wf_cells_Survey {d : Nat} {x : GSurvey} (h : ∀ p ∈ x.cells, wfN (d + 2) p) : x.wf := by
  refine ⟨(h (.c (.string x.airway)) (by simp [GSurvey.cells])), (wrap_eq_iff .i64 _).1 (h (.c (.int .i64 x.drop)) (by simp [GSurvey.cells])), (wrap_eq_iff .i64 _).1 (h (.c (.int .i64 x.dropError)) (by simp [GSurvey.cells])), (wrap_eq_iff .i64 _).1 (h (.c (.int .i64 x.flow)) (by simp [GSurvey.cells])), (wrap_eq_iff .i64 _).1 (h (.c (.int .i64 x.flowError)) (by simp [GSurvey.cells]))⟩
theorem wf_Survey {fl : Fl} {x : GSurvey} (h : wfA (.p fl (.agg x.cells))) : x.wf := wf_cells_Survey (d := 1) h
theorem wfr_Survey {fl : Fl} {x : GSurvey} (h : wfA (.p fl (.ref x.cells))) : x.wf := wf_cells_Survey (d := 1) h
theorem wf_LSurvey {fl : Fl} {z : List PV} {xs : List GSurvey} (h : wfA (.p fl (.lst z (xs.map GSurvey.cells)))) : xs.length ≤ 9223372036854775807 ∧ ∀ x ∈ xs, x.wf :=
  ⟨by simpa [maxLen] using h.1, fun x hx => wf_cells_Survey (d := 1) (h.2 _ (List.mem_map_of_mem hx))⟩

structure GFan where
  id : ByteArray
  airway : Int
  curve : List (List Int)
deriving DecidableEq
instance : Inhabited GFan := ⟨⟨⟨#[]⟩, 0, []⟩⟩
def GFan.cells (x : GFan) : List PV := [.c (.string x.id), .c (.int .i64 x.airway), LLI x.curve]
def GFan.z : List PV := [.c (.string ⟨#[]⟩), .c (.int .i64 0), .c (.slice none 0 0)]
theorem eta_Fan (x : GFan) : (⟨x.id, x.airway, x.curve⟩ : GFan) = x := rfl
def GFan.sz (x : GFan) : Nat := x.id.size
def GFan.wf (x : GFan) : Prop := x.id.size ≤ 9223372036854775807 ∧ (-9223372036854775808 ≤ x.airway ∧ x.airway ≤ 9223372036854775807) ∧ (x.curve.length ≤ 9223372036854775807)
theorem wf_cells_Fan {d : Nat} {x : GFan} (h : ∀ p ∈ x.cells, wfN (d + 2) p) : x.wf := by
  refine ⟨(h (.c (.string x.id)) (by simp [GFan.cells])), (wrap_eq_iff .i64 _).1 (h (.c (.int .i64 x.airway)) (by simp [GFan.cells])), (by have h1 := (h (LLI x.curve) (by simp [GFan.cells])); simpa [maxLen] using h1.1)⟩
theorem wf_Fan {fl : Fl} {x : GFan} (h : wfA (.p fl (.agg x.cells))) : x.wf := wf_cells_Fan (d := 1) h
theorem wfr_Fan {fl : Fl} {x : GFan} (h : wfA (.p fl (.ref x.cells))) : x.wf := wf_cells_Fan (d := 1) h
theorem wf_LFan {fl : Fl} {z : List PV} {xs : List GFan} (h : wfA (.p fl (.lst z (xs.map GFan.cells)))) : xs.length ≤ 9223372036854775807 ∧ ∀ x ∈ xs, x.wf :=
  ⟨by simpa [maxLen] using h.1, fun x hx => wf_cells_Fan (d := 1) (h.2 _ (List.mem_map_of_mem hx))⟩

structure GDoor where
  id : ByteArray
  airway : Int
  open_ : Int
  shut : Int
deriving DecidableEq
instance : Inhabited GDoor := ⟨⟨⟨#[]⟩, 0, 0, 0⟩⟩
def GDoor.cells (x : GDoor) : List PV := [.c (.string x.id), .c (.int .i64 x.airway), .c (.int .i64 x.open_), .c (.int .i64 x.shut)]
def GDoor.z : List PV := [.c (.string ⟨#[]⟩), .c (.int .i64 0), .c (.int .i64 0), .c (.int .i64 0)]
theorem eta_Door (x : GDoor) : (⟨x.id, x.airway, x.open_, x.shut⟩ : GDoor) = x := rfl
def GDoor.sz (x : GDoor) : Nat := x.id.size
def GDoor.wf (x : GDoor) : Prop := x.id.size ≤ 9223372036854775807 ∧ (-9223372036854775808 ≤ x.airway ∧ x.airway ≤ 9223372036854775807) ∧ (-9223372036854775808 ≤ x.open_ ∧ x.open_ ≤ 9223372036854775807) ∧ (-9223372036854775808 ≤ x.shut ∧ x.shut ≤ 9223372036854775807)
theorem wf_cells_Door {d : Nat} {x : GDoor} (h : ∀ p ∈ x.cells, wfN (d + 2) p) : x.wf := by
  refine ⟨(h (.c (.string x.id)) (by simp [GDoor.cells])), (wrap_eq_iff .i64 _).1 (h (.c (.int .i64 x.airway)) (by simp [GDoor.cells])), (wrap_eq_iff .i64 _).1 (h (.c (.int .i64 x.open_)) (by simp [GDoor.cells])), (wrap_eq_iff .i64 _).1 (h (.c (.int .i64 x.shut)) (by simp [GDoor.cells]))⟩
theorem wf_Door {fl : Fl} {x : GDoor} (h : wfA (.p fl (.agg x.cells))) : x.wf := wf_cells_Door (d := 1) h
theorem wfr_Door {fl : Fl} {x : GDoor} (h : wfA (.p fl (.ref x.cells))) : x.wf := wf_cells_Door (d := 1) h
theorem wf_LDoor {fl : Fl} {z : List PV} {xs : List GDoor} (h : wfA (.p fl (.lst z (xs.map GDoor.cells)))) : xs.length ≤ 9223372036854775807 ∧ ∀ x ∈ xs, x.wf :=
  ⟨by simpa [maxLen] using h.1, fun x hx => wf_cells_Door (d := 1) (h.2 _ (List.mem_map_of_mem hx))⟩

structure GDuct where
  id : ByteArray
  length : Int
  joint : Int
  loss : Int
deriving DecidableEq
instance : Inhabited GDuct := ⟨⟨⟨#[]⟩, 0, 0, 0⟩⟩
def GDuct.cells (x : GDuct) : List PV := [.c (.string x.id), .c (.int .i64 x.length), .c (.int .i64 x.joint), .c (.int .i64 x.loss)]
def GDuct.z : List PV := [.c (.string ⟨#[]⟩), .c (.int .i64 0), .c (.int .i64 0), .c (.int .i64 0)]
theorem eta_Duct (x : GDuct) : (⟨x.id, x.length, x.joint, x.loss⟩ : GDuct) = x := rfl
def GDuct.sz (x : GDuct) : Nat := x.id.size
def GDuct.wf (x : GDuct) : Prop := x.id.size ≤ 9223372036854775807 ∧ (-9223372036854775808 ≤ x.length ∧ x.length ≤ 9223372036854775807) ∧ (-9223372036854775808 ≤ x.joint ∧ x.joint ≤ 9223372036854775807) ∧ (-9223372036854775808 ≤ x.loss ∧ x.loss ≤ 9223372036854775807)
theorem wf_cells_Duct {d : Nat} {x : GDuct} (h : ∀ p ∈ x.cells, wfN (d + 2) p) : x.wf := by
  refine ⟨(h (.c (.string x.id)) (by simp [GDuct.cells])), (wrap_eq_iff .i64 _).1 (h (.c (.int .i64 x.length)) (by simp [GDuct.cells])), (wrap_eq_iff .i64 _).1 (h (.c (.int .i64 x.joint)) (by simp [GDuct.cells])), (wrap_eq_iff .i64 _).1 (h (.c (.int .i64 x.loss)) (by simp [GDuct.cells]))⟩
theorem wf_Duct {fl : Fl} {x : GDuct} (h : wfA (.p fl (.agg x.cells))) : x.wf := wf_cells_Duct (d := 1) h
theorem wfr_Duct {fl : Fl} {x : GDuct} (h : wfA (.p fl (.ref x.cells))) : x.wf := wf_cells_Duct (d := 1) h
theorem wf_LDuct {fl : Fl} {z : List PV} {xs : List GDuct} (h : wfA (.p fl (.lst z (xs.map GDuct.cells)))) : xs.length ≤ 9223372036854775807 ∧ ∀ x ∈ xs, x.wf :=
  ⟨by simpa [maxLen] using h.1, fun x hx => wf_cells_Duct (d := 1) (h.2 _ (List.mem_map_of_mem hx))⟩

structure GDusting where
  airway : Int
  from_ : Int
  until_ : Int
  dust : Int
deriving DecidableEq
instance : Inhabited GDusting := ⟨⟨0, 0, 0, 0⟩⟩
def GDusting.cells (x : GDusting) : List PV := [.c (.int .i64 x.airway), .c (.int .i64 x.from_), .c (.int .i64 x.until_), .c (.int .i64 x.dust)]
def GDusting.z : List PV := [.c (.int .i64 0), .c (.int .i64 0), .c (.int .i64 0), .c (.int .i64 0)]
theorem eta_Dusting (x : GDusting) : (⟨x.airway, x.from_, x.until_, x.dust⟩ : GDusting) = x := rfl
def GDusting.sz (x : GDusting) : Nat := 0
def GDusting.wf (x : GDusting) : Prop := (-9223372036854775808 ≤ x.airway ∧ x.airway ≤ 9223372036854775807) ∧ (-9223372036854775808 ≤ x.from_ ∧ x.from_ ≤ 9223372036854775807) ∧ (-9223372036854775808 ≤ x.until_ ∧ x.until_ ≤ 9223372036854775807) ∧ (-9223372036854775808 ≤ x.dust ∧ x.dust ≤ 9223372036854775807)
theorem wf_cells_Dusting {d : Nat} {x : GDusting} (h : ∀ p ∈ x.cells, wfN (d + 2) p) : x.wf := by
  refine ⟨(wrap_eq_iff .i64 _).1 (h (.c (.int .i64 x.airway)) (by simp [GDusting.cells])), (wrap_eq_iff .i64 _).1 (h (.c (.int .i64 x.from_)) (by simp [GDusting.cells])), (wrap_eq_iff .i64 _).1 (h (.c (.int .i64 x.until_)) (by simp [GDusting.cells])), (wrap_eq_iff .i64 _).1 (h (.c (.int .i64 x.dust)) (by simp [GDusting.cells]))⟩
theorem wf_Dusting {fl : Fl} {x : GDusting} (h : wfA (.p fl (.agg x.cells))) : x.wf := wf_cells_Dusting (d := 1) h
theorem wfr_Dusting {fl : Fl} {x : GDusting} (h : wfA (.p fl (.ref x.cells))) : x.wf := wf_cells_Dusting (d := 1) h
theorem wf_LDusting {fl : Fl} {z : List PV} {xs : List GDusting} (h : wfA (.p fl (.lst z (xs.map GDusting.cells)))) : xs.length ≤ 9223372036854775807 ∧ ∀ x ∈ xs, x.wf :=
  ⟨by simpa [maxLen] using h.1, fun x hx => wf_cells_Dusting (d := 1) (h.2 _ (List.mem_map_of_mem hx))⟩

structure GHeading where
  id : ByteArray
  volume : Int
  rate : Int
deriving DecidableEq
instance : Inhabited GHeading := ⟨⟨⟨#[]⟩, 0, 0⟩⟩
def GHeading.cells (x : GHeading) : List PV := [.c (.string x.id), .c (.int .i64 x.volume), .c (.int .i64 x.rate)]
def GHeading.z : List PV := [.c (.string ⟨#[]⟩), .c (.int .i64 0), .c (.int .i64 0)]
theorem eta_Heading (x : GHeading) : (⟨x.id, x.volume, x.rate⟩ : GHeading) = x := rfl
def GHeading.sz (x : GHeading) : Nat := x.id.size
def GHeading.wf (x : GHeading) : Prop := x.id.size ≤ 9223372036854775807 ∧ (-9223372036854775808 ≤ x.volume ∧ x.volume ≤ 9223372036854775807) ∧ (-9223372036854775808 ≤ x.rate ∧ x.rate ≤ 9223372036854775807)
theorem wf_cells_Heading {d : Nat} {x : GHeading} (h : ∀ p ∈ x.cells, wfN (d + 2) p) : x.wf := by
  refine ⟨(h (.c (.string x.id)) (by simp [GHeading.cells])), (wrap_eq_iff .i64 _).1 (h (.c (.int .i64 x.volume)) (by simp [GHeading.cells])), (wrap_eq_iff .i64 _).1 (h (.c (.int .i64 x.rate)) (by simp [GHeading.cells]))⟩
theorem wf_Heading {fl : Fl} {x : GHeading} (h : wfA (.p fl (.agg x.cells))) : x.wf := wf_cells_Heading (d := 1) h
theorem wfr_Heading {fl : Fl} {x : GHeading} (h : wfA (.p fl (.ref x.cells))) : x.wf := wf_cells_Heading (d := 1) h
theorem wf_LHeading {fl : Fl} {z : List PV} {xs : List GHeading} (h : wfA (.p fl (.lst z (xs.map GHeading.cells)))) : xs.length ≤ 9223372036854775807 ∧ ∀ x ∈ xs, x.wf :=
  ⟨by simpa [maxLen] using h.1, fun x hx => wf_cells_Heading (d := 1) (h.2 _ (List.mem_map_of_mem hx))⟩

structure GFire where
  airway : Int
  at_ : Int
  start : Int
deriving DecidableEq
instance : Inhabited GFire := ⟨⟨0, 0, 0⟩⟩
def GFire.cells (x : GFire) : List PV := [.c (.int .i64 x.airway), .c (.int .i64 x.at_), .c (.int .i64 x.start)]
def GFire.z : List PV := [.c (.int .i64 0), .c (.int .i64 0), .c (.int .i64 0)]
theorem eta_Fire (x : GFire) : (⟨x.airway, x.at_, x.start⟩ : GFire) = x := rfl
def GFire.sz (x : GFire) : Nat := 0
def GFire.wf (x : GFire) : Prop := (-9223372036854775808 ≤ x.airway ∧ x.airway ≤ 9223372036854775807) ∧ (-9223372036854775808 ≤ x.at_ ∧ x.at_ ≤ 9223372036854775807) ∧ (-9223372036854775808 ≤ x.start ∧ x.start ≤ 9223372036854775807)
theorem wf_cells_Fire {d : Nat} {x : GFire} (h : ∀ p ∈ x.cells, wfN (d + 2) p) : x.wf := by
  refine ⟨(wrap_eq_iff .i64 _).1 (h (.c (.int .i64 x.airway)) (by simp [GFire.cells])), (wrap_eq_iff .i64 _).1 (h (.c (.int .i64 x.at_)) (by simp [GFire.cells])), (wrap_eq_iff .i64 _).1 (h (.c (.int .i64 x.start)) (by simp [GFire.cells]))⟩
theorem wf_Fire {fl : Fl} {x : GFire} (h : wfA (.p fl (.agg x.cells))) : x.wf := wf_cells_Fire (d := 1) h
theorem wfr_Fire {fl : Fl} {x : GFire} (h : wfA (.p fl (.ref x.cells))) : x.wf := wf_cells_Fire (d := 1) h
theorem wf_LFire {fl : Fl} {z : List PV} {xs : List GFire} (h : wfA (.p fl (.lst z (xs.map GFire.cells)))) : xs.length ≤ 9223372036854775807 ∧ ∀ x ∈ xs, x.wf :=
  ⟨by simpa [maxLen] using h.1, fun x hx => wf_cells_Fire (d := 1) (h.2 _ (List.mem_map_of_mem hx))⟩

structure GMode where
  name : ByteArray
  flow : Int
  power : Int
deriving DecidableEq
instance : Inhabited GMode := ⟨⟨⟨#[]⟩, 0, 0⟩⟩
def GMode.cells (x : GMode) : List PV := [.c (.string x.name), .c (.int .i64 x.flow), .c (.int .i64 x.power)]
def GMode.z : List PV := [.c (.string ⟨#[]⟩), .c (.int .i64 0), .c (.int .i64 0)]
theorem eta_Mode (x : GMode) : (⟨x.name, x.flow, x.power⟩ : GMode) = x := rfl
def GMode.sz (x : GMode) : Nat := x.name.size
def GMode.wf (x : GMode) : Prop := x.name.size ≤ 9223372036854775807 ∧ (-9223372036854775808 ≤ x.flow ∧ x.flow ≤ 9223372036854775807) ∧ (-9223372036854775808 ≤ x.power ∧ x.power ≤ 9223372036854775807)
theorem wf_cells_Mode {d : Nat} {x : GMode} (h : ∀ p ∈ x.cells, wfN (d + 2) p) : x.wf := by
  refine ⟨(h (.c (.string x.name)) (by simp [GMode.cells])), (wrap_eq_iff .i64 _).1 (h (.c (.int .i64 x.flow)) (by simp [GMode.cells])), (wrap_eq_iff .i64 _).1 (h (.c (.int .i64 x.power)) (by simp [GMode.cells]))⟩
theorem wf_Mode {fl : Fl} {x : GMode} (h : wfA (.p fl (.agg x.cells))) : x.wf := wf_cells_Mode (d := 1) h
theorem wfr_Mode {fl : Fl} {x : GMode} (h : wfA (.p fl (.ref x.cells))) : x.wf := wf_cells_Mode (d := 1) h
theorem wf_LMode {fl : Fl} {z : List PV} {xs : List GMode} (h : wfA (.p fl (.lst z (xs.map GMode.cells)))) : xs.length ≤ 9223372036854775807 ∧ ∀ x ∈ xs, x.wf :=
  ⟨by simpa [maxLen] using h.1, fun x hx => wf_cells_Mode (d := 1) (h.2 _ (List.mem_map_of_mem hx))⟩

structure GSensor where
  id : ByteArray
  junction : Int
  limit : Int
  delay : Int
  release : Int
deriving DecidableEq
instance : Inhabited GSensor := ⟨⟨⟨#[]⟩, 0, 0, 0, 0⟩⟩
def GSensor.cells (x : GSensor) : List PV := [.c (.string x.id), .c (.int .i64 x.junction), .c (.int .i64 x.limit), .c (.int .i64 x.delay), .c (.int .i64 x.release)]
def GSensor.z : List PV := [.c (.string ⟨#[]⟩), .c (.int .i64 0), .c (.int .i64 0), .c (.int .i64 0), .c (.int .i64 0)]
theorem eta_Sensor (x : GSensor) : (⟨x.id, x.junction, x.limit, x.delay, x.release⟩ : GSensor) = x := rfl
def GSensor.sz (x : GSensor) : Nat := x.id.size
def GSensor.wf (x : GSensor) : Prop := x.id.size ≤ 9223372036854775807 ∧ (-9223372036854775808 ≤ x.junction ∧ x.junction ≤ 9223372036854775807) ∧ (-9223372036854775808 ≤ x.limit ∧ x.limit ≤ 9223372036854775807) ∧ (-9223372036854775808 ≤ x.delay ∧ x.delay ≤ 9223372036854775807) ∧ (-9223372036854775808 ≤ x.release ∧ x.release ≤ 9223372036854775807)
theorem wf_cells_Sensor {d : Nat} {x : GSensor} (h : ∀ p ∈ x.cells, wfN (d + 2) p) : x.wf := by
  refine ⟨(h (.c (.string x.id)) (by simp [GSensor.cells])), (wrap_eq_iff .i64 _).1 (h (.c (.int .i64 x.junction)) (by simp [GSensor.cells])), (wrap_eq_iff .i64 _).1 (h (.c (.int .i64 x.limit)) (by simp [GSensor.cells])), (wrap_eq_iff .i64 _).1 (h (.c (.int .i64 x.delay)) (by simp [GSensor.cells])), (wrap_eq_iff .i64 _).1 (h (.c (.int .i64 x.release)) (by simp [GSensor.cells]))⟩
theorem wf_Sensor {fl : Fl} {x : GSensor} (h : wfA (.p fl (.agg x.cells))) : x.wf := wf_cells_Sensor (d := 1) h
theorem wfr_Sensor {fl : Fl} {x : GSensor} (h : wfA (.p fl (.ref x.cells))) : x.wf := wf_cells_Sensor (d := 1) h
theorem wf_LSensor {fl : Fl} {z : List PV} {xs : List GSensor} (h : wfA (.p fl (.lst z (xs.map GSensor.cells)))) : xs.length ≤ 9223372036854775807 ∧ ∀ x ∈ xs, x.wf :=
  ⟨by simpa [maxLen] using h.1, fun x hx => wf_cells_Sensor (d := 1) (h.2 _ (List.mem_map_of_mem hx))⟩

structure GEdge where
  a : Int
  b : Int
  resistance : Int
deriving DecidableEq
instance : Inhabited GEdge := ⟨⟨0, 0, 0⟩⟩
def GEdge.cells (x : GEdge) : List PV := [.c (.int .i64 x.a), .c (.int .i64 x.b), .c (.int .i64 x.resistance)]
def GEdge.z : List PV := [.c (.int .i64 0), .c (.int .i64 0), .c (.int .i64 0)]
theorem eta_Edge (x : GEdge) : (⟨x.a, x.b, x.resistance⟩ : GEdge) = x := rfl
def GEdge.sz (x : GEdge) : Nat := 0
def GEdge.wf (x : GEdge) : Prop := (-9223372036854775808 ≤ x.a ∧ x.a ≤ 9223372036854775807) ∧ (-9223372036854775808 ≤ x.b ∧ x.b ≤ 9223372036854775807) ∧ (-9223372036854775808 ≤ x.resistance ∧ x.resistance ≤ 9223372036854775807)
theorem wf_cells_Edge {d : Nat} {x : GEdge} (h : ∀ p ∈ x.cells, wfN (d + 2) p) : x.wf := by
  refine ⟨(wrap_eq_iff .i64 _).1 (h (.c (.int .i64 x.a)) (by simp [GEdge.cells])), (wrap_eq_iff .i64 _).1 (h (.c (.int .i64 x.b)) (by simp [GEdge.cells])), (wrap_eq_iff .i64 _).1 (h (.c (.int .i64 x.resistance)) (by simp [GEdge.cells]))⟩
theorem wf_Edge {fl : Fl} {x : GEdge} (h : wfA (.p fl (.agg x.cells))) : x.wf := wf_cells_Edge (d := 1) h
theorem wfr_Edge {fl : Fl} {x : GEdge} (h : wfA (.p fl (.ref x.cells))) : x.wf := wf_cells_Edge (d := 1) h
theorem wf_LEdge {fl : Fl} {z : List PV} {xs : List GEdge} (h : wfA (.p fl (.lst z (xs.map GEdge.cells)))) : xs.length ≤ 9223372036854775807 ∧ ∀ x ∈ xs, x.wf :=
  ⟨by simpa [maxLen] using h.1, fun x hx => wf_cells_Edge (d := 1) (h.2 _ (List.mem_map_of_mem hx))⟩

theorem fitL_Air {e : List PV} (h : FitL [.ik .i64, .ik .i64, .ik .i64] e) : ∃ x : GAir, e = x.cells := by
  obtain ⟨p0, e0, rfl, f0, h⟩ := h.cons
  obtain ⟨p1, e1, rfl, f1, h⟩ := h.cons
  obtain ⟨p2, e2, rfl, f2, h⟩ := h.cons
  obtain rfl := h.nil
  obtain ⟨x0, rfl⟩ := fit_i f0
  obtain ⟨x1, rfl⟩ := fit_i f1
  obtain ⟨x2, rfl⟩ := fit_i f2
  exact ⟨⟨x0, x1, x2⟩, rfl⟩
theorem fitL_Airway {e : List PV} (h : FitL [.ss, .ik .i64, .ik .i64, .ik .i64, .ik .i64, .ik .i64, .ik .i64] e) : ∃ x : GAirway, e = x.cells := by
  obtain ⟨p0, e0, rfl, f0, h⟩ := h.cons
  obtain ⟨p1, e1, rfl, f1, h⟩ := h.cons
  obtain ⟨p2, e2, rfl, f2, h⟩ := h.cons
  obtain ⟨p3, e3, rfl, f3, h⟩ := h.cons
  obtain ⟨p4, e4, rfl, f4, h⟩ := h.cons
  obtain ⟨p5, e5, rfl, f5, h⟩ := h.cons
  obtain ⟨p6, e6, rfl, f6, h⟩ := h.cons
  obtain rfl := h.nil
  obtain ⟨x0, rfl⟩ := fit_s f0
  obtain ⟨x1, rfl⟩ := fit_i f1
  obtain ⟨x2, rfl⟩ := fit_i f2
  obtain ⟨x3, rfl⟩ := fit_i f3
  obtain ⟨x4, rfl⟩ := fit_i f4
  obtain ⟨x5, rfl⟩ := fit_i f5
  obtain ⟨x6, rfl⟩ := fit_i f6
  exact ⟨⟨x0, x1, x2, x3, x4, x5, x6⟩, rfl⟩
theorem fitL_Mine {e : List PV} (h : FitL [.ik .i64, .sl [.ss, .ik .i64, .ik .i64, .ik .i64, .ik .i64, .ik .i64, .ik .i64]] e) : ∃ x : GMine, e = x.cells := by
  obtain ⟨p0, e0, rfl, f0, h⟩ := h.cons
  obtain ⟨p1, e1, rfl, f1, h⟩ := h.cons
  obtain rfl := h.nil
  obtain ⟨x0, rfl⟩ := fit_i f0
  obtain ⟨x1, rfl⟩ := fit_sl GAirway.cells (fun e => fitL_Airway) f1
  exact ⟨⟨x0, x1⟩, rfl⟩
theorem fitL_Survey {e : List PV} (h : FitL [.ss, .ik .i64, .ik .i64, .ik .i64, .ik .i64] e) : ∃ x : GSurvey, e = x.cells := by
  obtain ⟨p0, e0, rfl, f0, h⟩ := h.cons
  obtain ⟨p1, e1, rfl, f1, h⟩ := h.cons
  obtain ⟨p2, e2, rfl, f2, h⟩ := h.cons
  obtain ⟨p3, e3, rfl, f3, h⟩ := h.cons
  obtain ⟨p4, e4, rfl, f4, h⟩ := h.cons
  obtain rfl := h.nil
  obtain ⟨x0, rfl⟩ := fit_s f0
  obtain ⟨x1, rfl⟩ := fit_i f1
  obtain ⟨x2, rfl⟩ := fit_i f2
  obtain ⟨x3, rfl⟩ := fit_i f3
  obtain ⟨x4, rfl⟩ := fit_i f4
  exact ⟨⟨x0, x1, x2, x3, x4⟩, rfl⟩
theorem fitL_Fan {e : List PV} (h : FitL [.ss, .ik .i64, .sl [.sl [.ik .i64]]] e) : ∃ x : GFan, e = x.cells := by
  obtain ⟨p0, e0, rfl, f0, h⟩ := h.cons
  obtain ⟨p1, e1, rfl, f1, h⟩ := h.cons
  obtain ⟨p2, e2, rfl, f2, h⟩ := h.cons
  obtain rfl := h.nil
  obtain ⟨x0, rfl⟩ := fit_s f0
  obtain ⟨x1, rfl⟩ := fit_i f1
  obtain ⟨x2, rfl⟩ := fit_LLI f2
  exact ⟨⟨x0, x1, x2⟩, rfl⟩
theorem fitL_Door {e : List PV} (h : FitL [.ss, .ik .i64, .ik .i64, .ik .i64] e) : ∃ x : GDoor, e = x.cells := by
  obtain ⟨p0, e0, rfl, f0, h⟩ := h.cons
  obtain ⟨p1, e1, rfl, f1, h⟩ := h.cons
  obtain ⟨p2, e2, rfl, f2, h⟩ := h.cons
  obtain ⟨p3, e3, rfl, f3, h⟩ := h.cons
  obtain rfl := h.nil
  obtain ⟨x0, rfl⟩ := fit_s f0
  obtain ⟨x1, rfl⟩ := fit_i f1
  obtain ⟨x2, rfl⟩ := fit_i f2
  obtain ⟨x3, rfl⟩ := fit_i f3
  exact ⟨⟨x0, x1, x2, x3⟩, rfl⟩
theorem fitL_Duct {e : List PV} (h : FitL [.ss, .ik .i64, .ik .i64, .ik .i64] e) : ∃ x : GDuct, e = x.cells := by
  obtain ⟨p0, e0, rfl, f0, h⟩ := h.cons
  obtain ⟨p1, e1, rfl, f1, h⟩ := h.cons
  obtain ⟨p2, e2, rfl, f2, h⟩ := h.cons
  obtain ⟨p3, e3, rfl, f3, h⟩ := h.cons
  obtain rfl := h.nil
  obtain ⟨x0, rfl⟩ := fit_s f0
  obtain ⟨x1, rfl⟩ := fit_i f1
  obtain ⟨x2, rfl⟩ := fit_i f2
  obtain ⟨x3, rfl⟩ := fit_i f3
  exact ⟨⟨x0, x1, x2, x3⟩, rfl⟩
theorem fitL_Dusting {e : List PV} (h : FitL [.ik .i64, .ik .i64, .ik .i64, .ik .i64] e) : ∃ x : GDusting, e = x.cells := by
  obtain ⟨p0, e0, rfl, f0, h⟩ := h.cons
  obtain ⟨p1, e1, rfl, f1, h⟩ := h.cons
  obtain ⟨p2, e2, rfl, f2, h⟩ := h.cons
  obtain ⟨p3, e3, rfl, f3, h⟩ := h.cons
  obtain rfl := h.nil
  obtain ⟨x0, rfl⟩ := fit_i f0
  obtain ⟨x1, rfl⟩ := fit_i f1
  obtain ⟨x2, rfl⟩ := fit_i f2
  obtain ⟨x3, rfl⟩ := fit_i f3
  exact ⟨⟨x0, x1, x2, x3⟩, rfl⟩
theorem fitL_Heading {e : List PV} (h : FitL [.ss, .ik .i64, .ik .i64] e) : ∃ x : GHeading, e = x.cells := by
  obtain ⟨p0, e0, rfl, f0, h⟩ := h.cons
  obtain ⟨p1, e1, rfl, f1, h⟩ := h.cons
  obtain ⟨p2, e2, rfl, f2, h⟩ := h.cons
  obtain rfl := h.nil
  obtain ⟨x0, rfl⟩ := fit_s f0
  obtain ⟨x1, rfl⟩ := fit_i f1
  obtain ⟨x2, rfl⟩ := fit_i f2
  exact ⟨⟨x0, x1, x2⟩, rfl⟩
theorem fitL_Fire {e : List PV} (h : FitL [.ik .i64, .ik .i64, .ik .i64] e) : ∃ x : GFire, e = x.cells := by
  obtain ⟨p0, e0, rfl, f0, h⟩ := h.cons
  obtain ⟨p1, e1, rfl, f1, h⟩ := h.cons
  obtain ⟨p2, e2, rfl, f2, h⟩ := h.cons
  obtain rfl := h.nil
  obtain ⟨x0, rfl⟩ := fit_i f0
  obtain ⟨x1, rfl⟩ := fit_i f1
  obtain ⟨x2, rfl⟩ := fit_i f2
  exact ⟨⟨x0, x1, x2⟩, rfl⟩
theorem fitL_Mode {e : List PV} (h : FitL [.ss, .ik .i64, .ik .i64] e) : ∃ x : GMode, e = x.cells := by
  obtain ⟨p0, e0, rfl, f0, h⟩ := h.cons
  obtain ⟨p1, e1, rfl, f1, h⟩ := h.cons
  obtain ⟨p2, e2, rfl, f2, h⟩ := h.cons
  obtain rfl := h.nil
  obtain ⟨x0, rfl⟩ := fit_s f0
  obtain ⟨x1, rfl⟩ := fit_i f1
  obtain ⟨x2, rfl⟩ := fit_i f2
  exact ⟨⟨x0, x1, x2⟩, rfl⟩
theorem fitL_Sensor {e : List PV} (h : FitL [.ss, .ik .i64, .ik .i64, .ik .i64, .ik .i64] e) : ∃ x : GSensor, e = x.cells := by
  obtain ⟨p0, e0, rfl, f0, h⟩ := h.cons
  obtain ⟨p1, e1, rfl, f1, h⟩ := h.cons
  obtain ⟨p2, e2, rfl, f2, h⟩ := h.cons
  obtain ⟨p3, e3, rfl, f3, h⟩ := h.cons
  obtain ⟨p4, e4, rfl, f4, h⟩ := h.cons
  obtain rfl := h.nil
  obtain ⟨x0, rfl⟩ := fit_s f0
  obtain ⟨x1, rfl⟩ := fit_i f1
  obtain ⟨x2, rfl⟩ := fit_i f2
  obtain ⟨x3, rfl⟩ := fit_i f3
  obtain ⟨x4, rfl⟩ := fit_i f4
  exact ⟨⟨x0, x1, x2, x3, x4⟩, rfl⟩
theorem fitL_Edge {e : List PV} (h : FitL [.ik .i64, .ik .i64, .ik .i64] e) : ∃ x : GEdge, e = x.cells := by
  obtain ⟨p0, e0, rfl, f0, h⟩ := h.cons
  obtain ⟨p1, e1, rfl, f1, h⟩ := h.cons
  obtain ⟨p2, e2, rfl, f2, h⟩ := h.cons
  obtain rfl := h.nil
  obtain ⟨x0, rfl⟩ := fit_i f0
  obtain ⟨x1, rfl⟩ := fit_i f1
  obtain ⟨x2, rfl⟩ := fit_i f2
  exact ⟨⟨x0, x1, x2⟩, rfl⟩
end Go.Av

