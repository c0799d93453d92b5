/- The abstract layer: values, steps, contracts, part Av3: an abstract walk of Go functions whose soundness is proved here once. No conditions. -/
import Derived.OpenShut
import Derived.ProofKit
import Derived.ReadAgain
import Derived.RowKit3
import Derived.StillTail
import Derived.WalkKit
import Derived.Test.YtldmnanlaofbiaaAv2
set_option linter.unusedVariables false
set_option linter.unusedSimpArgs false
namespace Go.Av
open Go.RowKit

/-! Calls: to whom; calls that hand back one known value and leave memory alone. -/
def exPV : PV → Option Value
  | .c u => some u
  | _ => none
def exAV : AV → Option Value
  | .p _ p => exPV p
  | _ => none
def exL {α : Type} (f : α → Option Value) : List α → Option (List Value)
  | [] => some []
  | a :: r => match f a with
    | some u => (match exL f r with
      | some us => some (u :: us)
      | none => none)
    | none => none
/-- the one value that it can be -/
def exactV : AV → Option Value
  | .p _ (.c u) => some u
  | .p _ (.agg cs) => (exL exPV cs).map fun l => .agg l.toArray
  | .tup vs => (exL exAV vs).map fun l => .tuple l.toArray
  | _ => none

theorem exL_spec {α : Type} {f : α → Option Value} : ∀ {l : List α} {us : List Value}, exL f l = some us → us.length = l.length ∧ ∀ (j : Nat) (a : α), l[j]? = some a → ∃ u, us[j]? = some u ∧ f a = some u
  | [], us, h => by cases h; exact ⟨rfl, fun j a ha => by simp at ha⟩
  | a :: r, us, h => by
    unfold exL at h
    split at h
    case h_2 => cases h
    rename_i u hu
    split at h
    case h_2 => cases h
    rename_i us' hus
    cases h
    obtain ⟨h1, h2⟩ := exL_spec hus
    refine ⟨by simp [h1], fun j a' ha' => ?_⟩
    cases j with
    | zero => simp at ha'; subst ha'; exact ⟨u, rfl, hu⟩
    | succ j => simp at ha'; simpa using h2 j a' ha'

theorem exactV_spec {pl : Nat → Pl} {L : Nat} {S Fr : Nat → Prop} {w : World} {v : AV} {u u' : Value} (h : exactV v = some u) (hr : RelA pl L S Fr w v u') : u' = u := by
  unfold exactV at h
  split at h
  · cases h; exact hr.cinv.1
  · rename_i fl cs
    cases hx : exL exPV cs with
    | none => rw [hx] at h; cases h
    | some us =>
      rw [hx] at h
      cases h
      obtain ⟨h1, h2⟩ := exL_spec hx
      have hp := hr.pinv
      cases hp with
      | @agg _ arr hs h1' hr' =>
        congr 1
        apply Array.ext'
        apply List.ext_getElem?
        intro j
        simp only
        cases hc : cs[j]? with
        | none =>
          have := List.getElem?_eq_none_iff.1 hc
          rw [List.getElem?_eq_none (by simp; omega), List.getElem?_eq_none (by omega)]
        | some p =>
          obtain ⟨u, e1, e2⟩ := h2 j p hc
          rw [e1]
          have hj : j < arr.size := by rw [hs]; exact (List.getElem?_eq_some_iff.1 hc).1
          have := hr' j p arr[j] hc (Array.getElem?_eq_getElem hj)
          cases p with
          | c v => cases e2; cases this; simp [hj]
          | _ => cases e2
  · rename_i vs
    cases hx : exL exAV vs with
    | none => rw [hx] at h; cases h
    | some us =>
      rw [hx] at h
      cases h
      obtain ⟨h1, h2⟩ := exL_spec hx
      cases hr with
      | @tup _ arr hs hr' =>
        congr 1
        apply Array.ext'
        apply List.ext_getElem?
        intro j
        simp only
        cases hc : vs[j]? with
        | none =>
          have := List.getElem?_eq_none_iff.1 hc
          rw [List.getElem?_eq_none (by simp; omega), List.getElem?_eq_none (by omega)]
        | some p =>
          obtain ⟨u, e1, e2⟩ := h2 j p hc
          rw [e1]
          have hj : j < arr.size := by rw [hs]; exact (List.getElem?_eq_some_iff.1 hc).1
          have := hr' j p arr[j] hc (Array.getElem?_eq_getElem hj)
          cases p with
          | p fl q =>
            cases q with
            | c v => cases e2; have := this.cinv.1; simp [hj, this]
            | _ => cases e2
          | _ => cases e2
  · cases h

theorem exact_move {pl pl' : Nat → Pl} {L L' : Nat} {S Fr S' Fr' : Nat → Prop} {w w' : World} {v : AV} {u u' : Value} (hu : exactV v = some u) (hres : RelA pl L S Fr w v u') : RelA pl' L' S' Fr' w' v u' := by
  unfold exactV at hu
  split at hu
  · exact .p hres.pinv.scalar
  · rename_i fl cs
    cases hx : exL exPV cs with
    | none => rw [hx] at hu; cases hu
    | some us' =>
      obtain ⟨h1, h2⟩ := exL_spec hx
      have hp := hres.pinv
      cases hp with
      | @agg _ arr hs h1' hr' =>
        refine .p (.agg hs h1' fun j p u hp hu => ?_)
        obtain ⟨u', e1, e2⟩ := h2 j p hp
        have := hr' j p u hp hu
        cases p with
        | c v => exact this.scalar
        | _ => cases e2
  · rename_i vs'
    cases hx : exL exAV vs' with
    | none => rw [hx] at hu; cases hu
    | some us' =>
      obtain ⟨h1, h2⟩ := exL_spec hx
      cases hres with
      | @tup _ arr hs hr' =>
        refine .tup hs fun j p u hp hu => ?_
        obtain ⟨u', e1, e2⟩ := h2 j p hp
        have := hr' j p u hp hu
        cases p with
        | p fl q =>
          cases q with
          | c v => exact .p this.pinv.scalar
          | _ => cases e2
        | _ => cases e2
  · cases hu

/-- whom it calls, with what -/
def calleeW (st : St) (G : Bool) (callee : Callee) (vs : List AV) (K : FuncId → List AV → Prop) : Prop := match callee with
  | .value (.func f) => K f vs
  | .value (.tmp t) => withV st G (.tmp t) fun v => (match v with
    | .afn f caps => K f (vs ++ caps)
    | .p fl (.fn f ps) => K f (vs ++ ps.map (.p fl))
    | _ => False)
  | _ => False

def argsW (P : Program) (zs : TypeId → List PV) (st : St) (G : Bool) : List Operand → List TypeId → (List AV → Prop) → Prop
  | [], _, K => K []
  | x :: xs, ts, K => withV st G x fun v => argsW P zs st G xs ts.tail fun vs => K ((match ts.head? with | some t => coerce P zs t v | none => v) :: vs)

/-- a call that hands back v and leaves all memory as it was -/
def CallQ (P : Program) (st : St) (f : FuncId) (vs : List AV) (v : AV) : Prop :=
  ∃ u, exactV v = some u ∧ seqW (convW st.heap [] true) vs fun args => FnSem P f args [] fun rs _ => retAV rs = v

section
variable {N m : Nat} {F A : Nat → Prop} {w0 : World} {st : St} {pl : Nat → Pl} {a : Act} {w : World} {P : Program}

theorem live_nil {pl : Nat → Pl} {k : Nat} : ¬ live pl [] k := by simp [live]

theorem callQ_sound (hC : ConcP N m F A w0 st pl a w) {f : FuncId} {vs : List AV} {v : AV} (h : CallQ P st f vs v) {us : Array Value} (hl : us.size = vs.length)
    (hus : ∀ (j : Nat) (v : AV) (u : Value), vs[j]? = some v → us[j]? = some u → RelA pl st.heap.length (Sany A w0.heap.size pl st.heap w) (Fresh w0.heap.size pl st.heap w) w v u) :
    ∃ u, exactV v = some u ∧ callable P f = true ∧ Calls P f us w fun e w' => e = .returned u ∧ Ext w w' ∧ ∀ (pl' : Nat → Pl) (L : Nat) (S Fr : Nat → Prop), RelA pl' L S Fr w' v u := by
  obtain ⟨u, hu, h⟩ := h
  obtain ⟨args, hsem, hla, hra⟩ := seqW_sound (r := fun v v' => ∀ (L' : Nat) (Sc Frc : Nat → Prop), ([] : List Nat).length ≤ L' → Hand pl st.heap A w0.heap.size w [] true Sc → ∀ u, RelA pl st.heap.length (Sany A w0.heap.size pl st.heap w) (Fresh w0.heap.size pl st.heap w) w v u → RelA (renPl [] pl) L' Sc Frc w v' u)
      (fun v K h => convW_sound hC.seen h) h
  refine ⟨u, hu, hsem.1, (hsem.2 w us (renPl [] pl) (fun b => b < w.heap.size) (fun b hb => ⟨hb, fun k hk => (live_nil hk).elim⟩) ?_).mono ?_⟩
  · refine ⟨fun k hk => (live_nil hk).elim, fun k hk => by simp [isnew] at hk, fun k k' hk => (live_nil hk).elim, fun k ob hk => by simp at hk, by rw [hl, hla], fun j v' u' hv' hu' => ?_⟩
    have h1 : j < vs.length := by rw [← hla]; exact (List.getElem?_eq_some_iff.1 hv').1
    have hst : ∀ b, b < w.heap.size → Sany (fun b => b < w.heap.size) w.heap.size (renPl [] pl) [] w b := fun b hb => ⟨⟨hb, fun k hk => (live_nil hk).elim⟩, .inl hb⟩
    exact hra j _ v' (List.getElem?_eq_getElem h1) hv' _ _ _ (Nat.zero_le _) ⟨fun hh => (by cases hh), fun _ b hb => hst b hb.1, fun _ k hk _ => hst _ (hC.ownlt k hk)⟩ u' (hus j _ u' (List.getElem?_eq_getElem h1) hu')
  · rintro e w' ⟨v', rs, hout, pl', rfl, hR, hB⟩
    have hres := hB.res
    rw [hR] at hres
    have e1 := exactV_spec hu hres
    subst e1
    refine ⟨rfl, ⟨hB.os, hB.tape, hB.output, hB.size, fun b hb => hB.frame b ⟨hb, fun k hk => (live_nil hk).elim⟩⟩, fun pl'' L S Fr => ?_⟩
    exact exact_move hu hres

theorem coerce_rel {zs : TypeId → List PV} {t : TypeId} {L : Nat} {S Fr : Nat → Prop} {v : AV} {u : Value} (h : RelA pl L S Fr w v u) : RelA pl L S Fr w (coerce P zs t v) u := coerce_sound h

theorem argsW_sound {S Fr : Nat → Prop} (hS : Seen pl S Fr w st a) {zs : TypeId → List PV} {G : Bool} : ∀ {xs : List Operand} {ts : List TypeId} {K : List AV → Prop}, argsW P zs st G xs ts K →
    ∃ vs, K vs ∧ vs.length = xs.length ∧ (G = true → ∀ (j : Nat) (v : AV) (u : Value), vs[j]? = some v → (xs.map a.eval)[j]? = some u → RelA pl st.heap.length S Fr w v u)
  | [], ts, K, h => ⟨[], h, rfl, fun _ j v u hv => by simp at hv⟩
  | x :: xs, ts, K, h => by
    unfold argsW at h
    obtain ⟨v, hv, hr⟩ := withV_sound hS h
    obtain ⟨vs, hK, hl, hrs⟩ := argsW_sound hS hv
    refine ⟨_, hK, by simp [hl], fun hG j v' u' hv' hu' => ?_⟩
    cases j with
    | zero =>
      simp at hv' hu'
      subst hv' hu'
      cases ts.head? with
      | none => exact hr hG
      | some t => exact coerce_rel (hr hG)
    | succ j => simp only [List.getElem?_cons_succ, List.map_cons] at hv' hu'; exact hrs hG j v' u' hv' hu'

theorem calleeW_sound {S Fr : Nat → Prop} (hS : Seen pl S Fr w st a) {G : Bool} {c : Callee} {vs : List AV} {K : FuncId → List AV → Prop} (h : calleeW st G c vs K) :
    ∃ f vs', K f vs' ∧ (G = true → ∀ (us : Array Value), us.size = vs.length → (∀ (j : Nat) (v : AV) (u : Value), vs[j]? = some v → us[j]? = some u → RelA pl st.heap.length S Fr w v u) →
      ∃ us', (us'.size = vs'.length ∧ ∀ (j : Nat) (v : AV) (u : Value), vs'[j]? = some v → us'[j]? = some u → RelA pl st.heap.length S Fr w v u) ∧
        ∀ (call : Call) (t : TypeId) (w' : World), call.callee = c → call.args.map a.eval = us → callable P f = true → ((do let d ← resolve a.eval call t; invoke d.target d.args) : Sem Next).run P w' = .ok (.enter f us') w') := by
  have fin : ∀ (f : FuncId) (args : Array Value) (w' : World), callable P f = true → (callFunc f args).run P w' = .ok (.enter f args) w' := by
    intro f args w' hc
    unfold callable at hc
    split at hc
    case h_2 => cases hc
    rename_i fn hf
    simp only [Bool.and_eq_true, Bool.not_eq_true'] at hc
    have h1 : fn.name ≠ "runtime.NumGoroutine" := by simpa using hc.1
    obtain ⟨c, hb⟩ := Option.isSome_iff_exists.1 hc.2
    simp [callFunc, hf, h1, hb]
  unfold calleeW at h
  split at h
  case h_1 f =>
    refine ⟨f, vs, h, fun _ us hl hr => ⟨us, ⟨hl, hr⟩, fun call t w' hc hu hcl => ?_⟩⟩
    simp only [resolve, hc, hu, Deferred.ofValue, Act.eval, Sem.run_bind, Sem.run_pure, Result.andThen_ok, invoke]
    simp [fin f _ w' hcl]
  case h_2 t =>
    obtain ⟨v, hv, hrv⟩ := withV_sound hS h
    split at hv
    · rename_i f caps
      refine ⟨f, _, hv, fun hG us hl hr => ?_⟩
      have hv' := hrv hG
      generalize hq : a.eval (.tmp t) = q at hv'
      cases hv' with
      | @afn _ _ arr hs hr' =>
        refine ⟨us ++ arr, ⟨by simp [hl, hs], fun j v u hv hu => ?_⟩, fun call t' w' hc hu hcl => ?_⟩
        · by_cases hj : j < vs.length
          · rw [List.getElem?_append_left hj] at hv
            rw [Array.getElem?_append_left (by omega)] at hu
            exact hr j v u hv hu
          · rw [List.getElem?_append_right (by omega)] at hv
            rw [Array.getElem?_append_right (by omega), hl] at hu
            exact hr' _ v u hv hu
        · simp only [resolve, hc, hu, hq, Deferred.ofValue, Sem.run_bind, Sem.run_pure, Result.andThen_ok, invoke]
          simp [fin f _ w' hcl]
    · rename_i fl f ps
      refine ⟨f, _, hv, fun hG us hl hr => ?_⟩
      have hv' := (hrv hG).pinv
      generalize hq : a.eval (.tmp t) = q at hv'
      cases hv' with
      | @fn _ _ arr hs hr' =>
        refine ⟨us ++ arr, ⟨by simp [hl, hs], fun j v u hv hu => ?_⟩, fun call t' w' hc hu hcl => ?_⟩
        · by_cases hj : j < vs.length
          · rw [List.getElem?_append_left hj] at hv
            rw [Array.getElem?_append_left (by omega)] at hu
            exact hr j v u hv hu
          · rw [List.getElem?_append_right (by omega), List.getElem?_map] at hv
            rw [Array.getElem?_append_right (by omega), hl] at hu
            cases hx : ps[j - vs.length]? with
            | none => rw [hx] at hv; cases hv
            | some p => rw [hx] at hv; cases hv; exact .p (hr' _ p u hx hu)
        · simp only [resolve, hc, hu, hq, Deferred.ofValue, Sem.run_bind, Sem.run_pure, Result.andThen_ok, invoke]
          simp [fin f _ w' hcl]
    · exact hv.elim
  case h_3 => exact h.elim
end
end Go.Av

namespace Go.Av
open Go.RowKit

section
variable {N m : Nat} {F A : Nat → Prop} {w0 : World} {st : St} {pl : Nat → Pl} {a : Act} {w : World} {P : Program}

theorem Src.firstN {S : Nat → Prop} {zl c : Nat} {es : List (List PV)} {u : Value} {news : List Value} (h : Src S w zl es u news) (hc : c ≤ es.length) : (Builtin.firstCells zl c u).run P w = .ok (news.take (c * zl)).toArray w := by
  obtain ⟨A', cp, rfl, hA⟩ := h.shape
  have hle : c * zl ≤ news.length := by rw [h.len]; exact Nat.mul_le_mul_right _ hc
  cases A' with
  | none =>
    have h0 : es.length = 0 := by
      rcases Nat.eq_zero_or_pos es.length with h0 | h0
      · exact h0
      · obtain ⟨ad, h1, _⟩ := hA h0; cases h1
    have : news = [] := List.eq_nil_of_length_eq_zero (by rw [h.len, h0]; simp)
    subst this
    simp [Builtin.firstCells]
  | some ad =>
    refine run_firstCells_some w zl c ad es.length cp (news.take (c * zl)) (by rw [List.length_take]; omega) fun j v hv => ?_
    rcases Nat.eq_zero_or_pos es.length with h0 | h0
    · have : news = [] := List.eq_nil_of_length_eq_zero (by rw [h.len, h0]; simp)
      subst this
      simp at hv
    · obtain ⟨ad', h1, h2⟩ := hA h0
      cases h1
      rw [List.getElem?_take] at hv
      split at hv
      · exact h2 j v hv
      · cases hv

set_option maxHeartbeats 1000000 in
theorem hop_copy (hC : ConcP N m F A w0 st pl a w) {o : Oper} {t t' : TypeId} {d s : Operand} {args : Array Operand} {ts : Array TypeId} (ho : o.op = .call { callee := .builtin .copy, args, argTypes := ts }) (hargs : args.toList = [d, s]) (hts : ts.toList = [t, t'])
    {vd vs : AV} (hd : RelA pl st.heap.length (Sany A w0.heap.size pl st.heap w) (Fresh w0.heap.size pl st.heap w) w vd (a.eval d)) (hs : RelA pl st.heap.length (Sany A w0.heap.size pl st.heap w) (Fresh w0.heap.size pl st.heap w) w vs (a.eval s))
    {K : AV → List OB → Prop} (h : copyW P st.heap t vd vs K) : ∃ v h', K v h' ∧ HopOk P N m F A w0 st pl a w o v h' := by
  have hargs' : args = #[d, s] := by apply Array.ext'; simpa using hargs
  have hts' : ts = #[t, t'] := by apply Array.ext'; simpa using hts
  subst hargs' hts'
  have hexec : ∀ {v : Value} {w' : World}, (Builtin.copy_ #[t, t'] o.type #[a.eval d, a.eval s]).run P w = .ok v w' → (execOp a.eval o).run P w = .ok (.value v) w' := by
    intro v w' hr
    simp only [execOp, ho, resolve, invoke, builtin, Sem.run_bind, Sem.run_pure, Result.andThen_ok, List.map_toArray, List.map_cons, List.map_nil, hr]
  unfold copyW at h
  split at h
  case h_2 => exact h.elim
  rename_i e ht
  split at h
  case h_2 => exact h.elim
  rename_i k lo n
  split at h
  case h_2 => exact h.elim
  rename_i nw fl z es hk
  obtain ⟨hz, hn, h⟩ := h
  have hn := hn rfl
  obtain ⟨fl', es', ⟨c, rfl, es2, rfl, hK⟩, hsrc⟩ := srcW_sound hC h
  obtain ⟨news, hS⟩ := hsrc _ hs
  obtain ⟨g1, g2, g3, g4, g5, g6⟩ := hC.heap k _ hk
  have h0 : P.cellsOf e ≠ 0 := by omega
  have hFS : ∀ b, Fresh w0.heap.size pl st.heap w b → Sany A w0.heap.size pl st.heap w b := fun b hb => ⟨hb.2, .inr hb.1⟩
  refine ⟨_, _, hK, ?_⟩
  generalize hcd : min es'.length n = c at *
  have hc1 : c ≤ es'.length := by omega
  have hc2 : c ≤ n := by omega
  have hcz : c * z.length ≤ news.length := by rw [hS.len]; exact Nat.mul_le_mul_right _ hc1
  have hfc := hS.firstN (P := P) hc1
  obtain ⟨A2, cp, hse, hA2⟩ := hS.shape
  have htl : (es'.take c).length = c := by rw [List.length_take]; omega
  have hlen2 : (es.take lo ++ es'.take c ++ es.drop (lo + c)).length = es.length := by
    simp only [List.length_append, List.length_take, List.length_drop]; omega
  have hget : ∀ (i : Nat) (e : List PV), (es.take lo ++ es'.take c ++ es.drop (lo + c))[i]? = some e → (lo ≤ i ∧ i < lo + c ∧ es'[i - lo]? = some e) ∨ (¬(lo ≤ i ∧ i < lo + c) ∧ es[i]? = some e) := by
    intro i e he
    have hsp := splice_get (l := es) (vs := es'.take c) (o := lo) (by rw [htl]; omega) i
    rw [htl] at hsp
    rw [hsp] at he
    by_cases hi : lo ≤ i ∧ i < lo + c
    · rw [if_pos hi, List.getElem?_take, if_pos (by omega)] at he
      exact .inl ⟨hi.1, hi.2, he⟩
    · rw [if_neg hi] at he
      exact .inr ⟨hi, he⟩
  have helen : ∀ (i : Nat) (e : List PV), (es.take lo ++ es'.take c ++ es.drop (lo + c))[i]? = some e → e.length = z.length := by
    intro i e he
    rcases hget i e he with ⟨_, _, h3⟩ | ⟨_, h3⟩
    · exact hS.elen _ _ h3
    · exact g5 _ _ h3
  have hint : RelA pl (st.heap.set k (OB.row nw (Fl.join fl fl') z (es.take lo ++ es'.take c ++ es.drop (lo + c)))).length (Sany A w0.heap.size pl (st.heap.set k (OB.row nw (Fl.join fl fl') z (es.take lo ++ es'.take c ++ es.drop (lo + c)))) w) (Fresh w0.heap.size pl (st.heap.set k (OB.row nw (Fl.join fl fl') z (es.take lo ++ es'.take c ++ es.drop (lo + c)))) w) w (.p .flat (.c (.int .i64 (c : Int)))) (goInt c) := by
    refine .mkc ((wrap_eq_iff .i64 _).2 ?_) rfl
    simp only [kmin, kmax, maxLen] at g3 ⊢
    omega
  cases hde : a.eval d with
  | slice Ad n' C =>
    rw [hde] at hd
    cases hd with
    | osl hkL hA hCc hn' hM =>
      by_cases hc0 : c = 0
      · -- nothing is copied
        subst hc0
        obtain ⟨hN, hmk⟩ := hC.write' hk (ob' := .row nw (Fl.join fl fl') z (es.take lo ++ es'.take 0 ++ es.drop (lo + 0))) (w' := w) rfl (fun nw' fl z es h => by cases h; exact ⟨_, _, _, rfl⟩) rfl rfl rfl rfl (fun _ _ => rfl)
        refine ⟨.value (goInt 0), w, pl, hexec ?_, fun _ _ => rfl, by simp, hmk ?_, .inr ⟨_, rfl, ?_⟩⟩
        · rw [hde]
          rw [hse] at hfc ⊢
          simp only [Builtin.copy_, List.getElem?_toArray, List.getElem?_cons_zero, List.getElem?_cons_succ, Sem.run_bind, run_underlying ht, Result.andThen_ok, Builtin.lenOf, Sem.run_pure, run_sizeOf' h0]
          rw [show Nat.min es'.length n = 0 from hcd, ← hz, hfc]
          cases Ad with
          | none => simp
          | some ad => simp [storeCells]
        · have e0 : es.take lo ++ es'.take 0 ++ es.drop (lo + 0) = es := by simp
          rw [e0]
          refine ⟨g1, g2, g3, g4, g5, fun hcap => ?_⟩
          obtain ⟨ty, arr, q1, q2, q3⟩ := g6 hcap
          refine ⟨ty, arr, q1, q2, fun i j e p he hp => ?_⟩
          obtain ⟨x, r1, r2, r3⟩ := q3 i j e p he hp
          rw [e0] at hN
          exact ⟨x, r1, r2, hN.rel (r3.mono (flag_join_left hFS _ _) (fun _ _ => rfl))⟩
        · exact hint
      · have hcap : 0 < (pl k).cap := by omega
        have hAd := hA (by omega)
        obtain ⟨ty, arr, q1, q2, q3⟩ := g6 hcap
        have hlive : live pl st.heap k := by simp [live, hk]; omega
        have hCz : lo * z.length + C * z.length = (pl k).cap * z.length := by rw [← Nat.add_mul, hCc]
        have hcC : c * z.length ≤ C * z.length := Nat.mul_le_mul_right _ (by omega)
        have hnl : (news.take (c * z.length)).length = c * z.length := by rw [List.length_take]; omega
        have hfit : (pl k).off + lo * (pl k).sz + (news.take (c * z.length)).length ≤ arr.size := by rw [hnl, g1]; omega
        have hst := run_storeCells_at P (pl k).blk ((pl k).off + lo * (pl k).sz) ty (news.take (c * z.length)) 0 arr w q1 (by simpa using hfit) (fun v hv => hS.one v (List.mem_of_mem_take hv))
        simp only [Nat.add_zero] at hst
        obtain ⟨s1, s2, s3, s4, s5⟩ := setRow_same w (pl k).blk (arr.toList.take ((pl k).off + lo * (pl k).sz) ++ news.take (c * z.length) ++ arr.toList.drop ((pl k).off + lo * (pl k).sz + (news.take (c * z.length)).length)).toArray
        obtain ⟨hN, hmk⟩ := hC.write hk (ob' := .row nw (Fl.join fl fl') z (es.take lo ++ es'.take c ++ es.drop (lo + c))) rfl (fun nw' fl z es h => by cases h; exact ⟨_, _, _, rfl⟩) hlive s1 s2 s3 s4 s5
        refine ⟨.value (goInt c), _, pl, hexec ?_, fun _ _ => rfl, by simp, hmk ?_, .inr ⟨_, rfl, ?_⟩⟩
        rotate_left
        · refine ⟨g1, g2, g3, by rw [hlen2]; exact g4, helen, fun _ => ⟨ty, _, setRow_heap w _ arr _ ty (0, 0) q1, ?_, fun i j e' p he hp => ?_⟩⟩
          · simp only [List.size_toArray, List.length_append, List.length_take, List.length_drop, Array.length_toList]
            rw [g1] at hfit ⊢
            simp only [List.length_take] at hnl hfit
            omega
          · have hj : j < z.length := by rw [← helen i e' he]; exact (List.getElem?_eq_some_iff.1 hp).1
            have hgw : ∀ k', (arr.toList.take ((pl k).off + lo * (pl k).sz) ++ news.take (c * z.length) ++ arr.toList.drop ((pl k).off + lo * (pl k).sz + (news.take (c * z.length)).length)).toArray[k']? = if (pl k).off + lo * z.length ≤ k' ∧ k' < (pl k).off + lo * z.length + c * z.length then (news.take (c * z.length))[k' - ((pl k).off + lo * z.length)]? else arr[k']? := fun k' => by
              have hsp := splice_get (l := arr.toList) (vs := news.take (c * z.length)) (o := (pl k).off + lo * (pl k).sz) (by simpa using hfit) k'
              rw [List.getElem?_toArray, hsp, hnl, g1]
              simp only [Array.getElem?_toList]
            rw [hgw]
            rcases hget i e' he with ⟨h1, h2, h3⟩ | ⟨h1, h3⟩
            · obtain ⟨x, r1, r2, r3⟩ := hS.rel _ _ _ _ h3 hp
              have hi4 : i * z.length = lo * z.length + (i - lo) * z.length := by rw [← Nat.add_mul]; congr 1; omega
              have hi5 : (i - lo + 1) * z.length ≤ c * z.length := Nat.mul_le_mul_right _ (by omega)
              rw [Nat.add_mul] at hi5
              refine ⟨x, ?_, r2, hN.rel (r3.mono (flag_join_right hFS _ _) (fun _ _ => rfl))⟩
              rw [if_pos (by omega), List.getElem?_take, if_pos (by omega)]
              have : (pl k).off + (i * z.length + j) - ((pl k).off + lo * z.length) = (i - lo) * z.length + j := by omega
              rw [this]; exact r1
            · obtain ⟨x, r1, r2, r3⟩ := q3 _ _ _ _ h3 hp
              refine ⟨x, ?_, r2, hN.rel (r3.mono (flag_join_left hFS _ _) (fun _ _ => rfl))⟩
              rw [if_neg ?_]
              · exact r1
              · intro hcc
                rcases Nat.lt_or_ge i lo with hlt | hge
                · have : (i + 1) * z.length ≤ lo * z.length := Nat.mul_le_mul_right _ hlt
                  rw [Nat.add_mul] at this
                  omega
                · have : (lo + c) * z.length ≤ i * z.length := Nat.mul_le_mul_right _ (by omega)
                  rw [Nat.add_mul] at this
                  omega
        · exact exact_move (v := .p .flat (.c (.int .i64 (c : Int)))) (u := goInt c) rfl hint
        · rw [hde, hAd]
          rw [hse] at hfc ⊢
          simp only [Builtin.copy_, List.getElem?_toArray, List.getElem?_cons_zero, List.getElem?_cons_succ, Sem.run_bind, run_underlying ht, Result.andThen_ok, Builtin.lenOf, Sem.run_pure, run_sizeOf' h0]
          rw [show Nat.min es'.length n = c from hcd, ← hz, hfc]
          simp [hst]
  | _ => rw [hde] at hd; cases hd
end
end Go.Av

namespace Go.Av
open Go.RowKit

section
variable {N m : Nat} {F A : Nat → Prop} {w0 : World} {st : St} {pl : Nat → Pl} {a : Act} {w : World} {P : Program}

theorem hopW_sound (hC : ConcP N m F A w0 st pl a w) (hF : ∀ b, F b → b < w0.heap.size) {o : Oper} {K : AV → List OB → Prop} (hop : isHop o = true) (h : hopW P m st o K) : ∃ v h', K v h' ∧ HopOk P N m F A w0 st pl a w o v h' := by
  unfold hopW at h
  split at h
  case h_1 t ho => exact ⟨_, _, h.2, hop_alloc hC hF ho h.1⟩
  case h_2 t x ho => exact hop_box hC hF ho h
  case h_3 t len parts ho =>
    split at h
    case h_2 => exact h.elim
    rename_i e ht
    exact hop_buildSlice hC hF ho ht h.1 h.2.1 (Nat.le_of_ble_eq_true h.2.2.1) h.2.2.2
  case h_4 t l c ho =>
    split at h
    case h_2 => exact h.elim
    rename_i e ht
    exact hop_makeSlice hC hF ho ht h
  case h_5 t x y ho => exact hop_store hC ho h
  case h_6 args ts ho =>
    split at h
    case h_2 => exact h.elim
    rename_i d s t t' hargs hts
    obtain ⟨rfl, h⟩ := h
    obtain ⟨vd, h1, hd⟩ := withV_sound hC.seen h
    obtain ⟨vs, h2, hs⟩ := withV_sound hC.seen h1
    exact hop_append hC hF ho hargs hts (hd rfl) (hs rfl) h2
  case h_7 args ts ho =>
    split at h
    case h_2 => exact h.elim
    rename_i d s t t' hargs hts
    obtain ⟨vd, h1, hd⟩ := withV_sound hC.seen h
    obtain ⟨vs, h2, hs⟩ := withV_sound hC.seen h1
    exact hop_copy hC ho hargs hts (hd rfl) (hs rfl) h2
  case h_8 x ho =>
    split at h
    case h_2 => exact h.elim
    rename_i e ht
    have hx : isNilC x = true := by simpa [isHop, ho] using hop
    exact ⟨_, _, h.2.2, hop_nil hC ho hx h.1 h.2.1⟩
  case h_9 => exact h.elim

def isCall : Op → Option Call
  | .call c => match c.callee with
    | .builtin _ => none
    | _ => some c
  | _ => none
theorem isCall_spec {op : Op} {c : Call} (h : isCall op = some c) : op = .call c := by
  unfold isCall at h
  split at h
  · split at h
    · cases h
    · cases h; rfl
  · cases h

/-! The conversions of arguments find one result, whatever is asked of it. -/
theorem seqW_det {α β : Type} {f : α → (β → Prop) → Prop} (hf : ∀ (a : α) (K : β → Prop), f a K → ∃ b, K b ∧ ∀ K' : β → Prop, K' b → f a K') : ∀ {l : List α} {K : List β → Prop}, seqW f l K → ∃ bs, K bs ∧ ∀ K' : List β → Prop, K' bs → seqW f l K'
  | [], K, h => ⟨[], h, fun _ h => h⟩
  | a :: r, K, h => by
    obtain ⟨b, h1, h2⟩ := hf a _ h
    obtain ⟨bs, h3, h4⟩ := seqW_det hf h1
    exact ⟨b :: bs, h3, fun K' hk => h2 _ (h4 _ hk)⟩
theorem pvW_det {heap : List OB} {ids : List Nat} : ∀ (d : Nat) (a : AV) (K : PV → Prop), pvW heap ids d a K → ∃ p, K p ∧ ∀ K' : PV → Prop, K' p → pvW heap ids d a K'
  | 0, _, _, h => h.elim
  | d + 1, a, K, h => by
    cases a with
    | p fl v => exact ⟨v, h, fun _ h => h⟩
    | own k off =>
      simp only [pvW] at h ⊢
      obtain ⟨h1, h⟩ := h
      cases hk : heap[k]? with
      | none => rw [hk] at h; exact h.elim
      | some ob =>
        rw [hk] at h
        simp only [h1, true_and]
        cases ob with
        | fix cells =>
          obtain ⟨ps, h2, h3⟩ := seqW_det (pvW_det d) h
          exact ⟨_, h2, fun K' hk' => h3 (fun ps => K' (.ref (ps.drop off))) hk'⟩
        | _ => exact h.elim
    | orow k i j =>
      simp only [pvW] at h ⊢
      obtain ⟨h1, h⟩ := h
      cases hk : heap[k]? with
      | none => rw [hk] at h; exact h.elim
      | some ob =>
        rw [hk] at h
        simp only [h1, true_and]
        cases ob with
        | row nw fl z es =>
          obtain ⟨h2, e, h3, h4⟩ := h
          exact ⟨_, h4, fun K' hk' => ⟨h2, e, h3, hk'⟩⟩
        | _ => exact h.elim
    | osl k lo n =>
      simp only [pvW] at h ⊢
      obtain ⟨h1, h⟩ := h
      cases hk : heap[k]? with
      | none => rw [hk] at h; exact h.elim
      | some ob =>
        rw [hk] at h
        simp only [h1, true_and]
        cases ob with
        | row nw fl z es =>
          obtain ⟨h2, e, h3, h4⟩ := h
          exact ⟨_, h4, fun K' hk' => ⟨h2, e, h3, hk'⟩⟩
        | _ => exact h.elim
    | afn f caps =>
      unfold pvW at h ⊢
      obtain ⟨ps, h2, h3⟩ := seqW_det (pvW_det d) h
      exact ⟨_, h2, fun K' hk' => h3 _ hk'⟩
    | aagg cells =>
      unfold pvW at h ⊢
      obtain ⟨ps, h2, h3⟩ := seqW_det (pvW_det d) h
      exact ⟨_, h2, fun K' hk' => h3 _ hk'⟩
    | _ => unfold pvW at h; exact h.elim
theorem convW1_det {heap : List OB} {ids : List Nat} {lend : Bool} (a : AV) (K : AV → Prop) (h : convW1 heap ids lend a K) : ∃ v, K v ∧ ∀ K' : AV → Prop, K' v → convW1 heap ids lend a K' := by
  have hp : ∀ {a : AV} {K : AV → Prop}, (lend = true ∧ pvW heap ids 5 a fun p => K (.p .any p)) → ∃ v, K v ∧ ∀ K' : AV → Prop, K' v → (lend = true ∧ pvW heap ids 5 a fun p => K' (.p .any p)) := by
    intro a K ⟨h1, h2⟩
    obtain ⟨p, h3, h4⟩ := pvW_det _ _ _ h2
    exact ⟨_, h3, fun K' hk => ⟨h1, h4 _ hk⟩⟩
  cases a with
  | p fl v => cases v <;> exact ⟨_, h, fun _ h => h⟩
  | own k off =>
    simp only [convW1] at h ⊢
    cases hi : ids.idxOf? k with
    | none => rw [hi] at h; exact hp h
    | some i => rw [hi] at h; exact ⟨_, h, fun _ h => h⟩
  | orow k i j =>
    simp only [convW1] at h ⊢
    cases hi : ids.idxOf? k with
    | none => rw [hi] at h; exact hp h
    | some i => rw [hi] at h; exact ⟨_, h, fun _ h => h⟩
  | osl k lo n =>
    simp only [convW1] at h ⊢
    cases hi : ids.idxOf? k with
    | none => rw [hi] at h; exact hp h
    | some i => rw [hi] at h; exact ⟨_, h, fun _ h => h⟩
  | afn f caps => exact hp h
  | aagg cells => exact hp h
  | junk => exact ⟨_, h, fun _ h => h⟩
  | _ => unfold convW1 at h; exact h.elim
theorem convW_det {heap : List OB} {ids : List Nat} {lend : Bool} (a : AV) (K : AV → Prop) (h : convW heap ids lend a K) : ∃ v, K v ∧ ∀ K' : AV → Prop, K' v → convW heap ids lend a K' := by
  unfold convW at h
  split at h
  · split at h
    · rename_i e
      obtain ⟨cs, h1, h2⟩ := seqW_det convW1_det h
      exact ⟨_, h1, fun K' hk => by unfold convW; simp only [e]; exact h2 _ hk⟩
    · rename_i e
      obtain ⟨v, h1, h2⟩ := convW1_det _ _ h
      exact ⟨v, h1, fun K' hk => by unfold convW; simp only [e]; exact h2 _ hk⟩
  · split at h
    · rename_i e
      obtain ⟨cs, h1, h2⟩ := seqW_det convW1_det h
      exact ⟨_, h1, fun K' hk => by unfold convW; simp only [e]; exact h2 _ hk⟩
    · rename_i e
      obtain ⟨v, h1, h2⟩ := convW1_det _ _ h
      exact ⟨v, h1, fun K' hk => by unfold convW; simp only [e]; exact h2 _ hk⟩
  · rename_i hn1 hn2
    obtain ⟨v, h1, h2⟩ := convW1_det _ _ h
    exact ⟨v, h1, fun K' hk => by
      unfold convW
      split
      · exact absurd rfl (hn1 _ _)
      · exact absurd rfl (hn2 _)
      · exact h2 _ hk⟩

/-- a call -/
inductive CallF (P : Program) (st : St) (f : FuncId) (vs : List AV) (K : AV → List OB → Prop) : Prop
  | mk (h : CallW P st f vs K)
/-- a call that leaves memory alone, under a guard: its contract -/
inductive ArgQ (G : Bool) (P : Program) (f : FuncId) (args : List AV) (K : AV → Prop) : Prop
  | mk (rs : List AV) (v : AV) (u : Value) (h : G = true → FnSem P f args [] fun rs' _ => rs' = rs) (hr : retAV rs = v) (hv : exactV v = some u) (k : K v)
/-- a call that leaves memory alone, under a guard -/
inductive CallG (G : Bool) (P : Program) (st : St) (f : FuncId) (vs : List AV) (K : AV → Prop) : Prop
  | mk (h : seqW (convW st.heap [] true) vs fun args => ArgQ G P f args K)
theorem CallG.out {G : Bool} {P : Program} {st : St} {f : FuncId} {vs : List AV} {K : AV → Prop} (h : CallG G P st f vs K) : ∃ v, (G = true → CallQ P st f vs v) ∧ K v := by
  obtain ⟨h⟩ := h
  obtain ⟨args, ⟨rs, v, u, h1, h2, h3, h4⟩, h5⟩ := seqW_det convW_det h
  exact ⟨v, fun hG => ⟨u, h3, h5 _ ((h1 hG).mono fun rs' ho hr => by rw [hr]; exact h2)⟩, h4⟩

/-- one operation; q: it must leave memory alone -/
def stepV (q : Bool) (P : Program) (zs : TypeId → List PV) (m : Nat) (st : St) (ops : Array Oper) (o : Oper) (K : AV → List OB → Prop) : Prop :=
  match o.guard with
  | none => (match isCall o.op with
    | some c => argsW P zs st true c.args.toList c.argTypes.toList fun vs => calleeW st true c.callee vs fun f vs =>
        bif q then CallG true P st f vs fun v => K v st.heap
        else CallF P st f vs K
    | none => bif !q && isHop o then hopW P m st o K
        else opW P zs st true o fun v => K v st.heap)
  | some g => gW st ops (some g) fun G => (match isCall o.op with
    | some c => argsW P zs st G c.args.toList c.argTypes.toList fun vs => calleeW st G c.callee vs fun f vs => CallG G P st f vs fun v => K (.opt G v) st.heap
    | none => opW P zs st G o fun v => K (.opt G v) st.heap)

def okDst (N : Nat) (o : Oper) : Bool := match o.dst with
  | some d => decide (d < N)
  | none => true
theorem okDst_spec {o : Oper} (h : okDst N o = true) : ∀ t, o.dst = some t → t < N := by
  intro t ht
  simpa [okDst, ht] using h

theorem upon_value_of {o : Oper} {Q : Exit → Act → World → Prop} {K : Act → World → Prop} {u : Value} {w' : World} (h : (execOp a.eval o).run P w = .ok (.value u) w') (hk : K (a.put o.dst u) w') : o.wp P a w K Q := by
  simp only [Oper.wp, h, Oper.upon]; exact hk
theorem upon_skip_of {o : Oper} {Q : Exit → Act → World → Prop} {K : Act → World → Prop} {w' : World} (h : (execOp a.eval o).run P w = .ok .skip w') (hk : K (a.put o.dst undef) w') : o.wp P a w K Q := by
  simp only [Oper.wp, h, Oper.upon]; exact hk
theorem upon_call_of {o : Oper} {Q : Exit → Act → World → Prop} {K : Act → World → Prop} {f : FuncId} {us : Array Value} (h : (execOp a.eval o).run P w = .ok (.enter f us) w) {R : Ending → World → Prop} (hc : Calls P f us w R)
    (hk : ∀ e w', R e w' → ∃ u, e = .returned u ∧ K (a.put o.dst u) w') : o.wp P a w K Q := by
  simp only [Oper.wp, h, Oper.upon]
  refine hc.mono fun e w' hR => ?_
  obtain ⟨u, rfl, h2⟩ := hk e w' hR
  exact h2

theorem hus_args {S Fr : Nat → Prop} {L : Nat} {args : Array Operand} {vs : List AV} (h : ∀ (j : Nat) (v : AV) (u : Value), vs[j]? = some v → (args.toList.map a.eval)[j]? = some u → RelA pl L S Fr w v u) :
    ∀ (j : Nat) (v : AV) (u : Value), vs[j]? = some v → (args.map a.eval)[j]? = some u → RelA pl L S Fr w v u := by
  intro j v u hv hu
  refine h j v u hv ?_
  rw [← Array.toList_map, Array.getElem?_toList]
  exact hu

theorem stepV_sound {zs : TypeId → List PV} {ops : Array Oper} {o : Oper} {rest : List Oper} {K : St → Prop} {K0 : AV → List OB → Prop} (hN : okDst N o = true) (hK0 : ∀ v h, K0 v h → RW P N m ops rest K ⟨updO st.env o.dst v, h⟩) (h : stepV false P zs m st ops o K0) : RW P N m ops (o :: rest) K st := by
  intro F A w0 pl0 a w hF hA hc
  obtain ⟨pl, hC, hio⟩ := hc
  have hd := okDst_spec hN
  have go : ∀ {v : AV} {h' : List OB} {pl' : Nat → Pl} {a' : Act} {w' : World}, K0 v h' → ConcP N m F A w0 ⟨updO st.env o.dst v, h'⟩ pl' a' w' → (∀ k, k < st.heap.length → k < h'.length ∧ pl' k = pl k) →
      wpList P ops (fun e a' w' => e = .normal ∧ ∃ st', Conc N m F A w0 pl0 st' a' w' ∧ K st') rest a' w' := fun hR hC' hp =>
    hK0 _ _ hR F A w0 pl0 _ _ hF hA ⟨_, hC', fun k hk => ⟨(hp k (hio k hk).1).1, (hp k (hio k hk).1).2.trans (hio k hk).2⟩⟩
  unfold stepV at h
  unfold wpList
  have hFw : ∀ b, F b → b < w.heap.size := fun b hb => Nat.lt_of_lt_of_le (hF b hb) hC.hsize
  -- a call that leaves memory alone
  have goQ : ∀ {G : Bool} {c : Call} {gd : Bool}, isCall o.op = some c → Region.wanted o (yielded ops a.tmps) = G → (argsW P zs st G c.args.toList c.argTypes.toList fun vs => calleeW st G c.callee vs fun f vs => CallG G P st f vs fun v => K0 (.opt G v) st.heap) →
      (if Region.wanted o (yielded ops a.tmps) = true then o.wp P a w (wpList P ops (fun e a' w' => e = .normal ∧ ∃ st', Conc N m F A w0 pl0 st' a' w' ∧ K st') rest) (fun e a' w' => e = .normal ∧ ∃ st', Conc N m F A w0 pl0 st' a' w' ∧ K st') ∨ (o.asks P a w ∧ LetsOut (fun e a' w' => e = .normal ∧ ∃ st', Conc N m F A w0 pl0 st' a' w' ∧ K st')) else wpList P ops (fun e a' w' => e = .normal ∧ ∃ st', Conc N m F A w0 pl0 st' a' w' ∧ K st') rest (a.put o.dst undef) w) := by
    intro G c _ hcall hG h
    have hop := isCall_spec hcall
    obtain ⟨vs, h, hl, hr⟩ := argsW_sound hC.seen h
    obtain ⟨f, vs', hg, hcal⟩ := calleeW_sound hC.seen h
    obtain ⟨v, hQ, hR⟩ := hg.out
    rw [hG]
    cases G with
    | false =>
      simp only [Bool.false_eq_true, if_false]
      exact go hR (hC.put o.dst hd (.opt (fun h => by cases h) (fun _ => rfl))) (fun _ hk => ⟨hk, rfl⟩)
    | true =>
      simp only [if_true]
      left
      obtain ⟨us', ⟨hl', hr'⟩, hrun⟩ := hcal rfl (c.args.map a.eval) (by simp [hl]) (hus_args (hr rfl))
      obtain ⟨u, hu, hcb, hcalls⟩ := callQ_sound hC (hQ rfl) hl' hr'
      refine upon_call_of (R := fun e w' => e = .returned u ∧ Ext w w' ∧ ∀ (pl' : Nat → Pl) (L : Nat) (S Fr : Nat → Prop), RelA pl' L S Fr w' v u) (f := f) (us := us') ?_ hcalls ?_
      · have := hrun c o.type w rfl rfl hcb
        simpa only [execOp, hop] using this
      · rintro e w' ⟨rfl, hx, hrel⟩
        exact ⟨u, rfl, go hR ((hC.ext hFw hx).put o.dst hd (.opt (fun _ => hrel _ _ _ _) (fun h => by cases h))) (fun _ hk => ⟨hk, rfl⟩)⟩
  split at h
  case h_1 hg =>
    have hw : Region.wanted o (yielded ops a.tmps) = true := by simp [Region.wanted, hg]
    split at h
    case h_1 c hcall =>
      have hop := isCall_spec hcall
      obtain ⟨vs, h, hl, hr⟩ := argsW_sound hC.seen h
      obtain ⟨f, vs', h, hcal⟩ := calleeW_sound hC.seen h
      obtain ⟨us', ⟨hl', hr'⟩, hrun⟩ := hcal rfl (c.args.map a.eval) (by simp [hl]) (hus_args (hr rfl))
      rw [if_pos hw]
      left
      simp only [cond_false] at h
      obtain ⟨h⟩ := h
      have hcb : callable P f = true := by
        obtain ⟨ids, lend, h1, h2, h⟩ := h
        obtain ⟨args, h, _⟩ := seqW_sound (r := fun _ _ => True) (fun v K h => let ⟨v', h1, _⟩ := convW_sound hC.seen h; ⟨v', h1, trivial⟩) h
        obtain ⟨hin, ⟨R, hs, _⟩, _⟩ := seqW_sound (r := fun _ _ => True) (fun v K h => let ⟨v', h1, _⟩ := convOB_sound hC.seen h; ⟨v', h1, trivial⟩) h
        exact hs.1
      refine upon_call_of (f := f) (us := us') ?_ (callW_sound hC hF h hl' hr') ?_
      · have := hrun c o.type w rfl rfl hcb
        simpa only [execOp, hop] using this
      · rintro e w' ⟨u, rv, heap', pl', rfl, hR, hp, hC', hrel⟩
        refine ⟨u, rfl, go hR (hC'.put o.dst hd hrel) hp⟩
    case h_2 hcall =>
      rw [if_pos hw]
      left
      cases hh : isHop o with
      | true =>
        simp only [hh, Bool.not_false, Bool.and_self, cond_true] at h
        obtain ⟨v, h', hR, nx, w', pl', hrun, hp, hle, hC', hres⟩ := hopW_sound hC hF hh h
        rcases hres with ⟨rfl, rfl⟩ | ⟨u, rfl, hrel⟩
        · refine upon_skip_of hrun (go hR (hC'.put o.dst hd .junk) fun k hk => ⟨Nat.lt_of_lt_of_le hk hle, hp k hk⟩)
        · refine upon_value_of hrun (go hR (hC'.put o.dst hd hrel) fun k hk => ⟨Nat.lt_of_lt_of_le hk hle, hp k hk⟩)
      | false =>
        simp only [hh, Bool.not_false, Bool.and_false, cond_false] at h
        obtain ⟨v, hR, hv⟩ := opW_sound hC.seen h
        obtain ⟨u, hrel, hrun⟩ := hv rfl
        exact upon_value_of (hrun w (fun _ _ => rfl)) (go hR (hC.put o.dst hd hrel) (fun _ hk => ⟨hk, rfl⟩))
  case h_2 g hg =>
    have h := gW_sound hC.seen (o := o) (by rw [hg]; exact h)
    split at h
    case h_1 c hcall => exact goQ (gd := true) hcall rfl h
    case h_2 hcall =>
      obtain ⟨v, hR, hv⟩ := opW_sound hC.seen h
      cases hw : Region.wanted o (yielded ops a.tmps) with
      | true =>
        simp only [if_true]
        left
        rw [hw] at hR
        obtain ⟨u, hrel, hrun⟩ := hv hw
        exact upon_value_of (hrun w (fun _ _ => rfl)) (go hR (hC.put o.dst hd (.opt (fun _ => hrel) (fun h => by cases h))) (fun _ hk => ⟨hk, rfl⟩))
      | false =>
        simp only [Bool.false_eq_true, if_false]
        rw [hw] at hR
        exact go hR (hC.put o.dst hd (.opt (fun h => by cases h) (fun _ => rfl))) (fun _ hk => ⟨hk, rfl⟩)
end
end Go.Av

namespace Go.Av
open Go.RowKit

/-! Regions whose order is drawn; whole bodies. -/
section
variable {N m : Nat} {F A : Nat → Prop} {w0 : World} {st : St} {pl : Nat → Pl} {a : Act} {w : World} {P : Program}

theorem ConcP.relExt (_hC : ConcP N m F A w0 st pl a w) {w' : World} (hx : Ext w w') {v : AV} {u : Value} (h : RelA pl st.heap.length (Sany A w0.heap.size pl st.heap w) (Fresh w0.heap.size pl st.heap w) w v u) :
    RelA pl st.heap.length (Sany A w0.heap.size pl st.heap w') (Fresh w0.heap.size pl st.heap w') w' v u := by
  have hS0 : ∀ b, Stab pl st.heap w b → Stab pl st.heap w' b := fun b hb => ⟨Nat.lt_of_lt_of_le hb.1 hx.size, hb.2⟩
  exact h.mono (Nat.le_refl _) (fun _ _ => rfl) (fun b hb => ⟨hS0 b hb.1, hb.2⟩) (fun b hb => ⟨hb.1, hS0 b hb.2⟩) (fun b hb => hx.block b hb.1.1) (fun b hb => hx.block b hb.2.1)

/-- what a quiet operation does: one value, in all worlds behind this one -/
theorem quietV_sound (hC : ConcP N m F A w0 st pl a w) (hF : ∀ b, F b → b < w0.heap.size) {zs : TypeId → List PV} {ops : Array Oper} {o : Oper} {K : AV → List OB → Prop} (h : stepV true P zs m st ops o K) :
    ∃ v, K v st.heap ∧
      ((Region.wanted o (yielded ops a.tmps) = true ∧ ∃ u, RelA pl st.heap.length (Sany A w0.heap.size pl st.heap w) (Fresh w0.heap.size pl st.heap w) w v u ∧ (∀ w', Ext w w' → o.quietAt P a (Ext w) w' u) ∧ (isCall o.op = none → (execOp a.eval o).run P w = .ok (.value u) w)) ∨
       (Region.wanted o (yielded ops a.tmps) = false ∧ RelA pl st.heap.length (Sany A w0.heap.size pl st.heap w) (Fresh w0.heap.size pl st.heap w) w v undef)) := by
  have hFw : ∀ b, F b → b < w.heap.size := fun b hb => Nat.lt_of_lt_of_le (hF b hb) hC.hsize
  have qv : ∀ {u : Value}, (∀ w', Same w w' → (execOp a.eval o).run P w' = .ok (.value u) w') → ∀ w', Ext w w' → o.quietAt P a (Ext w) w' u := fun hu w' hx => by
    simp only [Oper.quietAt, hu w' hx.block, Oper.quietUpon, and_self]
  have qc : ∀ {c : Call} {vs : List AV} {f : FuncId} {vs' : List AV} {v : AV} {u : Value}, isCall o.op = some c → vs.length = c.args.toList.length → exactV v = some u → CallQ P st f vs' v →
      (∀ (j : Nat) (v : AV) (u : Value), vs[j]? = some v → (c.args.toList.map a.eval)[j]? = some u → RelA pl st.heap.length (Sany A w0.heap.size pl st.heap w) (Fresh w0.heap.size pl st.heap w) w v u) →
      (∀ (us : Array Value), us.size = vs.length → (∀ (j : Nat) (v : AV) (u : Value), vs[j]? = some v → us[j]? = some u → RelA pl st.heap.length (Sany A w0.heap.size pl st.heap w) (Fresh w0.heap.size pl st.heap w) w v u) →
      ∃ us', (us'.size = vs'.length ∧ ∀ (j : Nat) (v : AV) (u : Value), vs'[j]? = some v → us'[j]? = some u → RelA pl st.heap.length (Sany A w0.heap.size pl st.heap w) (Fresh w0.heap.size pl st.heap w) w v u) ∧
        ∀ (call : Call) (t : TypeId) (w' : World), call.callee = c.callee → call.args.map a.eval = us → callable P f = true → ((do let d ← resolve a.eval call t; invoke d.target d.args) : Sem Next).run P w' = .ok (.enter f us') w') →
      (∀ w', Ext w w' → o.quietAt P a (Ext w) w' u) ∧ RelA pl st.heap.length (Sany A w0.heap.size pl st.heap w) (Fresh w0.heap.size pl st.heap w) w v u := by
    intro c vs f vs' v u hcall hl hu hQ hr hcal
    have hop := isCall_spec hcall
    obtain ⟨us', ⟨hl', hr'⟩, hrun⟩ := hcal (c.args.map a.eval) (by simp [hl]) (hus_args hr)
    have hcs : ∀ w', Ext w w' → callable P f = true ∧ Calls P f us' w' fun e w'' => e = .returned u ∧ Ext w' w'' := by
      intro w' hx
      obtain ⟨u', hu', hcb, hcalls⟩ := callQ_sound (hC.ext hFw hx) hQ hl' (fun j v u hv hu => hC.relExt hx (hr' j v u hv hu))
      rw [hu] at hu'
      cases hu'
      exact ⟨hcb, hcalls.mono fun e w'' h => ⟨h.1, h.2.1⟩⟩
    refine ⟨fun w' hx => ?_, ?_⟩
    · obtain ⟨hcb, hcalls⟩ := hcs w' hx
      have := hrun c o.type w' rfl rfl hcb
      have e1 : (execOp a.eval o).run P w' = .ok (.enter f us') w' := by simpa only [execOp, hop] using this
      simp only [Oper.quietAt, e1, Oper.quietUpon, true_and]
      exact hcalls.mono fun e w'' h => ⟨h.1, hx.trans h.2⟩
    · obtain ⟨u', hu', hcb, hcalls⟩ := callQ_sound hC hQ hl' hr'
      rw [hu] at hu'
      cases hu'
      obtain ⟨e, w', fr, ⟨_, _, hrel⟩, _⟩ := hcalls []
      obtain ⟨u2, hu2, hs⟩ := hQ
      -- the relation of a known value does not look at the world
      have := hrel pl st.heap.length (Sany A w0.heap.size pl st.heap w) (Fresh w0.heap.size pl st.heap w)
      refine exact_move hu this
  unfold stepV at h
  split at h
  case h_1 hg =>
    have hw : Region.wanted o (yielded ops a.tmps) = true := by simp [Region.wanted, hg]
    split at h
    case h_1 c hcall =>
      obtain ⟨vs, h, hl, hr⟩ := argsW_sound hC.seen h
      obtain ⟨f, vs', h, hcal⟩ := calleeW_sound hC.seen h
      simp only [cond_true] at h
      obtain ⟨v, hQ, hK⟩ := h.out
      have hQ := hQ rfl
      obtain ⟨u, hu, _⟩ := id hQ
      obtain ⟨h1, h2⟩ := qc hcall hl hu hQ (hr rfl) (hcal rfl)
      exact ⟨v, hK, .inl ⟨hw, u, h2, h1, fun hn => by rw [hn] at hcall; cases hcall⟩⟩
    case h_2 hcall =>
      simp only [Bool.not_true, Bool.false_and, cond_false] at h
      obtain ⟨v, hK, hv⟩ := opW_sound hC.seen h
      obtain ⟨u, hrel, hrun⟩ := hv rfl
      exact ⟨v, hK, .inl ⟨hw, u, hrel, qv hrun, fun _ => hrun w (fun _ _ => rfl)⟩⟩
  case h_2 g hg =>
    have h := gW_sound hC.seen (o := o) (by rw [hg]; exact h)
    cases hw : Region.wanted o (yielded ops a.tmps) with
    | false =>
      rw [hw] at h
      split at h
      case h_1 c hcall =>
        obtain ⟨vs, h, hl, hr⟩ := argsW_sound hC.seen h
        obtain ⟨f, vs', hg', hcal⟩ := calleeW_sound (P := P) hC.seen h
        obtain ⟨v, _, hK⟩ := hg'.out
        exact ⟨_, hK, .inr ⟨rfl, .opt (fun h => by cases h) (fun _ => rfl)⟩⟩
      case h_2 hcall =>
        obtain ⟨v, hK, hv⟩ := opW_sound hC.seen h
        exact ⟨_, hK, .inr ⟨rfl, .opt (fun h => by cases h) (fun _ => rfl)⟩⟩
    | true =>
      rw [hw] at h
      split at h
      case h_1 c hcall =>
        obtain ⟨vs, h, hl, hr⟩ := argsW_sound hC.seen h
        obtain ⟨f, vs', hg', hcal⟩ := calleeW_sound hC.seen h
        obtain ⟨v, hQ, hK⟩ := hg'.out
        obtain ⟨u, hu, _⟩ := id (hQ rfl)
        obtain ⟨h1, h2⟩ := qc hcall hl hu (hQ rfl) (hr rfl) (hcal rfl)
        exact ⟨_, hK, .inl ⟨rfl, u, .opt (fun _ => h2) (fun h => by cases h), h1, fun hn => by rw [hn] at hcall; cases hcall⟩⟩
      case h_2 hcall =>
        obtain ⟨v, hK, hv⟩ := opW_sound hC.seen h
        obtain ⟨u, hrel, hrun⟩ := hv rfl
        exact ⟨_, hK, .inl ⟨rfl, u, .opt (fun _ => hrel) (fun h => by cases h), qv hrun, fun _ => hrun w (fun _ _ => rfl)⟩⟩

end
end Go.Av

namespace Go.Av
open Go.RowKit

/-! THE WALK AS A FUNCTION. The environment is a list, the latest entry first; values and blocks are brought to constructor form by continuations. -/
abbrev En := List (Nat × AV)
def lk : En → Nat → AV
  | [], _ => .junk
  | (s, v) :: r, t => bif Nat.beq s t then v else lk r t

theorem lk_cons (e : En) (d : Nat) (v : AV) : upd (lk e) d v = lk ((d, v) :: e) := by
  funext s
  simp only [upd, lk]
  by_cases h : s = d
  · subst h; simp
  · rw [if_neg h]
    have : Nat.beq d s = false := by
      cases hb : Nat.beq d s with
      | false => rfl
      | true => exact absurd (Nat.eq_of_beq_eq_true hb).symm h
    rw [this]; rfl

def putF (e : En) (d : Option Nat) (v : AV) : En := match d with
  | some d => (d, v) :: e
  | none => e
theorem updO_lk (e : En) (d : Option Nat) (v : AV) : updO (lk e) d v = lk (putF e d v) := by
  cases d with
  | none => rfl
  | some d => exact lk_cons e d v

def fFl (fl : Fl) (K : Fl → Prop) : Prop := match fl with
  | .flat => K .flat
  | .fresh => K .fresh
  | .any => K .any
theorem fFl_eq {fl : Fl} {K : Fl → Prop} (h : fFl fl K) : K fl := by cases fl <;> exact h

def fP (p : PV) (K : PV → Prop) : Prop := match p with
  | .c v => K (.c v)
  | .lst z es => K (.lst z es)
  | .agg cs => K (.agg cs)
  | .ref cs => K (.ref cs)
  | .fn f cs => K (.fn f cs)
theorem fP_eq {p : PV} {K : PV → Prop} (h : fP p K) : K p := by cases p <;> exact h

def fPs : List PV → (List PV → Prop) → Prop
  | [], K => K []
  | p :: r, K => fP p fun p => fPs r fun r => K (p :: r)
theorem fPs_eq : ∀ {l : List PV} {K : List PV → Prop}, fPs l K → K l
  | [], _, h => h
  | p :: r, K, h => fPs_eq (l := r) (K := fun r => K (p :: r)) (fP_eq (p := p) h)

/-- a pure value, its cells too -/
def fQ (p : PV) (K : PV → Prop) : Prop := match p with
  | .c v => K (.c v)
  | .lst z es => fPs z fun z => K (.lst z es)
  | .agg cs => fPs cs fun cs => K (.agg cs)
  | .ref cs => fPs cs fun cs => K (.ref cs)
  | .fn f cs => fPs cs fun cs => K (.fn f cs)
theorem fQ_eq {p : PV} {K : PV → Prop} (h : fQ p K) : K p := by
  cases p with
  | c v => exact h
  | lst z es => exact fPs_eq (K := fun z => K (.lst z es)) h
  | agg cs => exact fPs_eq (K := fun cs => K (.agg cs)) h
  | ref cs => exact fPs_eq (K := fun cs => K (.ref cs)) h
  | fn f cs => exact fPs_eq (K := fun cs => K (.fn f cs)) h

def fN (n : Nat) (K : Nat → Prop) : Prop := fNs [0, 1, 2, 3, 4, 5, 6, 7, 8, 9, 10, 11, 12, 13, 14, 15, 16, 17, 18, 19, 20, 21, 22, 23, 24, 25, 26, 27, 28, 29, 30, 31, 32, 33, 34, 35, 36, 37, 38, 39, 40, 41, 42, 43, 44, 45, 46, 47, 48, 49, 50, 51, 52, 53, 54, 55, 56, 57, 58, 59, 60, 61, 62, 63, 64, 65, 66, 67, 68, 69, 70, 71] n K

def fV : Nat → AV → (AV → Prop) → Prop
  | 0, v, K => K v
  | d + 1, v, K => match v with
    | .p fl p => fFl fl fun fl => fQ p fun p => K (.p fl p)
    | .own k off => fN k fun k => fN off fun off => K (.own k off)
    | .orow k i j => fN k fun k => fN j fun j => K (.orow k i j)
    | .osl k lo n => fN k fun k => K (.osl k lo n)
    | .afn f caps => seqW (fV d) caps fun caps => K (.afn f caps)
    | .aagg cells => seqW (fV d) cells fun cells => K (.aagg cells)
    | .tup vs => seqW (fV d) vs fun vs => K (.tup vs)
    | .opt g v => fV d v fun v => K (.opt g v)
    | .junk => K .junk

theorem seqW_id {α : Type} {f : α → (α → Prop) → Prop} (hf : ∀ a K, f a K → K a) : ∀ {l : List α} {K : List α → Prop}, seqW f l K → K l
  | [], _, h => h
  | a :: r, K, h => seqW_id hf (l := r) (K := fun r => K (a :: r)) (hf a _ h)

theorem fV_eq : ∀ (d : Nat) (v : AV) (K : AV → Prop), fV d v K → K v
  | 0, _, _, h => h
  | d + 1, v, K, h => by
    cases v with
    | p fl p => exact fQ_eq (K := fun p => K (.p fl p)) (fFl_eq (fl := fl) (K := fun fl => fQ p fun p => K (.p fl p)) h)
    | own k off => exact fNs_eq (K := fun off => K (.own k off)) (fNs_eq (n := k) (K := fun k => fN off fun off => K (.own k off)) h)
    | orow k i j => exact fNs_eq (K := fun j => K (.orow k i j)) (fNs_eq (n := k) (K := fun k => fN j fun j => K (.orow k i j)) h)
    | osl k lo n => exact fNs_eq (K := fun k => K (.osl k lo n)) h
    | afn f caps => exact seqW_id (fV_eq d) (K := fun caps => K (.afn f caps)) h
    | aagg cells => exact seqW_id (fV_eq d) (K := fun cells => K (.aagg cells)) h
    | tup vs => exact seqW_id (fV_eq d) (K := fun vs => K (.tup vs)) h
    | opt g v => exact fV_eq d v (fun v => K (.opt g v)) h
    | junk => exact h

def fOB (ob : OB) (K : OB → Prop) : Prop := match ob with
  | .dead => K .dead
  | .fix cells => seqW (fV 3) cells fun cells => K (.fix cells)
  | .row true fl z es => fFl fl fun fl => fPs z fun z => K (.row true fl z es)
  | .row false fl z es => fFl fl fun fl => fPs z fun z => K (.row false fl z es)
theorem fOB_eq {ob : OB} {K : OB → Prop} (h : fOB ob K) : K ob := by
  cases ob with
  | dead => exact h
  | fix cells => exact seqW_id (fV_eq 3) (K := fun cells => K (.fix cells)) h
  | row nw fl z es =>
    cases nw with
    | true => exact fPs_eq (K := fun z => K (.row true fl z es)) (fFl_eq (fl := fl) (K := fun fl => fPs z fun z => K (.row true fl z es)) h)
    | false => exact fPs_eq (K := fun z => K (.row false fl z es)) (fFl_eq (fl := fl) (K := fun fl => fPs z fun z => K (.row false fl z es)) h)
def fH (h : List OB) (K : List OB → Prop) : Prop := seqW fOB h K
theorem fH_eq {h : List OB} {K : List OB → Prop} (hh : fH h K) : K h := seqW_id (fun _ _ h => fOB_eq h) hh

/-- the operations of a region, in their order -/
def regF (q : Bool) (P : Program) (zs : TypeId → List PV) (m : Nat) (ops : Array Oper) (K : En → List OB → Prop) : List Oper → En → List OB → Prop
  | [], e, h => K e h
  | o :: r, e, h => stepV q P zs m ⟨lk e, h⟩ ops o fun v h' => fV 4 v fun v => fH h' fun h' => (match o.dst with
    | some d => regF q P zs m ops K r ((d, v) :: e) h'
    | none => regF q P zs m ops K r e h')

/-- the same, where memory is left alone -/
def regG (P : Program) (zs : TypeId → List PV) (m : Nat) (ops : Array Oper) (K : En → List OB → Prop) (h : List OB) : List Oper → En → Prop
  | [], e => K e h
  | o :: r, e => stepV true P zs m ⟨lk e, h⟩ ops o fun v _ => fV 4 v fun v => (match o.dst with
    | some d => regG P zs m ops K h r ((d, v) :: e)
    | none => regG P zs m ops K h r e)

section
variable {N m : Nat} {F A : Nat → Prop} {w0 : World} {pl : Nat → Pl} {a : Act} {w : World} {P : Program}

theorem regF_put {q : Bool} {zs : TypeId → List PV} {ops : Array Oper} {K : En → List OB → Prop} {r : List Oper} {d : Option Nat} {v : AV} {e : En} {h : List OB} (hr : match d with
    | some d => regF q P zs m ops K r ((d, v) :: e) h
    | none => regF q P zs m ops K r e h) : regF q P zs m ops K r (putF e d v) h := by
  cases d <;> exact hr
theorem regG_put {zs : TypeId → List PV} {ops : Array Oper} {K : En → List OB → Prop} {r : List Oper} {d : Option Nat} {v : AV} {e : En} {h : List OB} (hr : match d with
    | some d => regG P zs m ops K h r ((d, v) :: e)
    | none => regG P zs m ops K h r e) : regG P zs m ops K h r (putF e d v) := by
  cases d <;> exact hr

theorem regQ_sound (hF : ∀ b, F b → b < w0.heap.size) {zs : TypeId → List PV} {ops : Array Oper} {K : En → List OB → Prop} {Q : Act → Prop} {hp : List OB} : ∀ {l : List Oper} {e : En} {a : Act}, l.all (okDst N) = true → ConcP N m F A w0 ⟨lk e, hp⟩ pl a w → regG P zs m ops K hp l e →
    (∀ (e' : En) (a' : Act), ConcP N m F A w0 ⟨lk e', hp⟩ pl a' w → K e' hp → Q a') → wpQuiet P ops (Ext w) Q l a
  | [], e, a, _, hC, h, hK => hK e a hC h
  | o :: l, e, a, hd, hC, h, hK => by
    simp only [List.all_cons, Bool.and_eq_true] at hd
    obtain ⟨v, hr, hv⟩ := quietV_sound hC hF h
    have hr := regG_put (fV_eq _ _ _ hr)
    have put : ∀ {u : Value}, RelA pl hp.length (Sany A w0.heap.size pl hp w) (Fresh w0.heap.size pl hp w) w v u → ConcP N m F A w0 ⟨lk (putF e o.dst v), hp⟩ pl (a.put o.dst u) w := fun hu => by
      rw [← updO_lk]; exact hC.put o.dst (okDst_spec hd.1) hu
    unfold wpQuiet
    rcases hv with ⟨hw, u, hrel, hq, _⟩ | ⟨hw, hrel⟩
    · rw [if_pos hw]
      exact ⟨u, hq, regQ_sound hF hd.2 (put hrel) hr hK⟩
    · rw [if_neg (by simp [hw])]
      exact regQ_sound hF hd.2 (put hrel) hr hK

theorem regS_sound (hF : ∀ b, F b → b < w0.heap.size) {zs : TypeId → List PV} {ops : Array Oper} {K : En → List OB → Prop} {Q : Act → Prop} {hp : List OB} : ∀ {l : List Oper} {e : En} {a : Act}, l.all (okDst N) = true → l.all (fun o => (isCall o.op).isNone) = true → ConcP N m F A w0 ⟨lk e, hp⟩ pl a w → regG P zs m ops K hp l e →
    (∀ (e' : En) (a' : Act), ConcP N m F A w0 ⟨lk e', hp⟩ pl a' w → K e' hp → Q a') → wpStill P ops w Q l a
  | [], e, a, _, _, hC, h, hK => hK e a hC h
  | o :: l, e, a, hd, hc, hC, h, hK => by
    simp only [List.all_cons, Bool.and_eq_true] at hd hc
    obtain ⟨v, hr, hv⟩ := quietV_sound hC hF h
    have hr := regG_put (fV_eq _ _ _ hr)
    have put : ∀ {u : Value}, RelA pl hp.length (Sany A w0.heap.size pl hp w) (Fresh w0.heap.size pl hp w) w v u → ConcP N m F A w0 ⟨lk (putF e o.dst v), hp⟩ pl (a.put o.dst u) w := fun hu => by
      rw [← updO_lk]; exact hC.put o.dst (okDst_spec hd.1) hu
    unfold wpStill
    rcases hv with ⟨hw, u, hrel, _, hq⟩ | ⟨hw, hrel⟩
    · rw [if_pos hw]
      simp only [Oper.still, hq (by simpa using hc.1), Oper.stillUpon_value]
      exact regS_sound hF hd.2 hc.2 (put hrel) hr hK
    · rw [if_neg (by simp [hw])]
      exact regS_sound hF hd.2 hc.2 (put hrel) hr hK

theorem regF_sound {zs : TypeId → List PV} {ops : Array Oper} {K : En → List OB → Prop} : ∀ {l : List Oper} {e : En} {h : List OB}, l.all (okDst N) = true → regF false P zs m ops K l e h → RW P N m ops l (fun st => ∃ e h, st = ⟨lk e, h⟩ ∧ K e h) ⟨lk e, h⟩
  | [], e, h, _, hk => fun F A w0 pl0 a w hF hA hc => ⟨rfl, _, hc, e, h, rfl, hk⟩
  | o :: l, e, h, hd, hk => by
    simp only [List.all_cons, Bool.and_eq_true] at hd
    refine stepV_sound hd.1 (fun v h' hr => ?_) hk
    have hr := regF_put (fH_eq (fV_eq _ _ _ hr))
    have := regF_sound hd.2 hr
    rw [← updO_lk] at this
    exact this

theorem Ext.drew (w : World) : Ext w { w with drawn := w.drawn + 1 } := ⟨rfl, rfl, rfl, Nat.le_refl _, fun _ _ => rfl⟩

def hopAt : List Oper → Nat → Option Nat
  | [], _ => none
  | o :: r, i => bif isHop o then some i else hopAt r (i + 1)

def okReg (N : Nat) (ops : Array Oper) (draw : Bool) : Bool := ops.toList.all (okDst N) && (!draw || (match hopAt ops.toList 0 with
  | none => Region.lexB .any ops
  | some n => Region.lexTailB .any ops n && (ops.toList.take n).all (fun o => (isCall o.op).isNone)))

/-- a body is of those that 'codeF' walks -/
def okCode (N : Nat) : Code → Bool
  | .seq a b => okCode N a && okCode N b
  | .cond _ a b => okCode N a && okCode N b
  | .block _ c => okCode N c
  | .loop c => okCode N c
  | .region _ ops d => okReg N ops d
  | .skip => true
  | .ret => true
  | .exit _ => true
  | _ => false

def drawF (P : Program) (zs : TypeId → List PV) (m : Nat) (ops : Array Oper) (K : En → List OB → Prop) (e : En) (h : List OB) : Prop := match hopAt ops.toList 0 with
  | none => regG P zs m ops K h ops.toList e
  | some n => regG P zs m ops (fun e h => regF false P zs m ops K (ops.toList.drop n) e h) h (ops.toList.take n) e

theorem AW.drawn {zs : TypeId → List PV} {id : Nat} {ops : Array Oper} {K : En → List OB → Prop} {e : En} {h : List OB} (hm : P.follows .mixedOrders = true) (hok : okReg N ops true = true) (hk : drawF P zs m ops K e h) :
    AW P N m (.region id ops true) (fun x st => x = .normal ∧ ∃ e h, st = ⟨lk e, h⟩ ∧ K e h) ⟨lk e, h⟩ := by
  simp only [okReg, Bool.and_eq_true, Bool.not_true, Bool.false_or] at hok
  obtain ⟨hd, hok⟩ := hok
  unfold drawF at hk
  rintro F A w0 pl0 a w hF hA ⟨pl, hp, hio⟩
  have hFw : ∀ b, F b → b < w.heap.size := fun b hb => Nat.lt_of_lt_of_le (hF b hb) hp.hsize
  have hp1 := hp.ext hFw (Ext.drew w)
  split at hk
  · rename_i hh
    rw [hh] at hok
    refine wp_region_quiet (C := Ext { w with drawn := w.drawn + 1 }) hm hok (Ext.refl _) (regQ_sound hF hd hp1 hk ?_)
    intro e' a' hp' hK w' hx
    exact ⟨_, ⟨pl, hp'.ext hFw hx, hio⟩, rfl, e', h, rfl, hK⟩
  · rename_i n hh
    rw [hh] at hok
    simp only [Bool.and_eq_true] at hok
    have hd1 : (ops.toList.take n).all (okDst N) = true := by
      simp only [List.all_eq_true] at hd ⊢
      exact fun x hx => hd x (List.mem_of_mem_take hx)
    have hd2 : (ops.toList.drop n).all (okDst N) = true := by
      simp only [List.all_eq_true] at hd ⊢
      exact fun x hx => hd x (List.mem_of_mem_drop hx)
    refine wp_mono (Q := fun e a' w' => e = .normal ∧ ∃ st', Conc N m F A w0 pl0 st' a' w' ∧ ∃ e h, st' = ⟨lk e, h⟩ ∧ K e h) ?_ (fun e a' w' ⟨he, st', hc, hq⟩ => by subst he; exact ⟨st', hc, rfl, hq⟩)
    have key := wp_region_still_tail (P := P) (id := id) (Q := fun e a' w' => e = .normal ∧ ∃ st', Conc N m F A w0 pl0 st' a' w' ∧ ∃ e h, st' = ⟨lk e, h⟩ ∧ K e h) (a := a) (w := w) (l := ops.toList) n hm (by simpa using hok.1) ?_
    · simpa using key
    · refine regS_sound hF hd1 hok.2 hp1 (by simpa using hk) ?_
      intro e' a' hp' hK
      have := regF_sound hd2 hK F A w0 pl0 a' _ hF hA ⟨pl, hp', hio⟩
      simpa using this
end
end Go.Av

namespace Go.Av
open Go.RowKit

/-! THE WALK OF A BODY. -/
inductive CondF (b : Bool) (A B : Prop) : Prop
  | mk (t : b = true → A) (f : b = false → B)
def condF (v : AV) (A B : Prop) : Prop := match v with
  | .p _ (.c (.bool b)) => CondF b A B
  | _ => False

/-- own blocks: those that are kept -/
def nodupB : List Nat → Bool
  | [] => true
  | a :: r => !(r.any (Nat.beq a)) && nodupB r
def prefB : Nat → Nat → List Nat → Bool
  | 0, _, _ => true
  | _ + 1, _, [] => false
  | m + 1, i, a :: r => Nat.beq a i && prefB m (i + 1) r
def okKeep (m : Nat) (keep : List Nat) (n : Nat) : Bool := prefB m 0 keep && nodupB keep && keep.all (fun k => Nat.blt k n)

/-- the environment holds what the template says; what it does not name is forgotten -/
def fitsF (keep : List Nat) (e : En) : En → Prop
  | [] => True
  | (s, v) :: r => renA (expG keep) some (lk e s) = v ∧ fitsF keep e r

/-- rows of no memory may count as rows of new memory -/
def wkOB : OB → OB
  | .row nw .flat z es => .row nw .fresh z es
  | ob => ob
def wkL : List Nat → List OB → List OB
  | [], h => h
  | k :: r, h => wkL r (match h[k]? with
    | some ob => h.set k (wkOB ob)
    | none => h)
/-- a state fits the template -/
def fitF (m : Nat) (e : En) (h : List OB) (e' : En) (h' : List OB) : Prop :=
  ∃ keep ws : List Nat, okKeep m keep h.length = true ∧ wkL ws (renHeap keep h) = h' ∧ fitsF keep e e'

def thenF (K : En → List OB → Prop) (Q : Exit → En → List OB → Prop) : Exit → En → List OB → Prop
  | .normal, e, h => K e h
  | x, e, h => Q x e h
def blockF (id : Nat) (Q : Exit → En → List OB → Prop) : Exit → En → List OB → Prop
  | .exit id', e, h => bif Nat.beq id' id then Q .normal e h else Q (.exit id') e h
  | x, e, h => Q x e h

def fE : En → (En → Prop) → Prop
  | [], K => K []
  | (s, v) :: r, K => fV 4 v fun v => fE r fun r => K ((s, v) :: r)
theorem fE_eq : ∀ {e : En} {K : En → Prop}, fE e K → K e
  | [], _, h => h
  | (s, v) :: r, K, h => fE_eq (e := r) (K := fun r => K ((s, v) :: r)) (fV_eq _ _ _ h)

/-- where a loop's round ends, or where ways meet -/
inductive FitF {T : Type} (m : Nat) (Pre : T → Prop) (sl : T → En) (hp : T → List OB) (e : En) (h : List OB) : Prop
  | mk (t : T) (p : Pre t) (f : fitF m e h (sl t) (hp t))
inductive BackF {T : Type} (m : Nat) (Pre : T → Prop) (sl : T → En) (hp : T → List OB) (μ : T → Nat) (n : Nat) (e : En) (h : List OB) : Prop
  | mk (t : T) (p : Pre t) (l : μ t < n) (f : fitF m e h (sl t) (hp t))

/-- a loop: a template for the state at its head -/
inductive LoopF (m : Nat) (body : (Exit → En → List OB → Prop) → En → List OB → Prop) (Q : Exit → En → List OB → Prop) (e : En) (h : List OB) : Prop
  | mk (T : Type) (Pre : T → Prop) (sl : T → En) (hp : T → List OB) (μ : T → Nat)
    (entry : FitF m Pre sl hp e h)
    (round : ∀ t, Pre t → fE (sl t) fun e => fH (hp t) fun h => body (thenF (fun e' h' => BackF m Pre sl hp μ (μ t) e' h') Q) e h)

/-- one behind the other; at the join the state may be cut down to a template -/
inductive SeqF (m : Nat) (a b : (Exit → En → List OB → Prop) → En → List OB → Prop) (Q : Exit → En → List OB → Prop) (e : En) (h : List OB) : Prop
  | run (x : a (thenF (fun e h => b Q e h) Q) e h)
  | cut (T : Type) (Pre : T → Prop) (sl : T → En) (hp : T → List OB)
    (x : a (thenF (fun e h => FitF m Pre sl hp e h) Q) e h)
    (y : ∀ t, Pre t → fE (sl t) fun e => fH (hp t) fun h => b Q e h)

def codeF (P : Program) (zs : TypeId → List PV) (m : Nat) : Code → (Exit → En → List OB → Prop) → En → List OB → Prop
  | .skip, Q, e, h => Q .normal e h
  | .ret, Q, e, h => Q .ret e h
  | .exit id, Q, e, h => Q (.exit id) e h
  | .seq a b, Q, e, h => SeqF m (codeF P zs m a) (codeF P zs m b) Q e h
  | .cond c a b, Q, e, h => withV ⟨lk e, h⟩ true c fun v => condF v (codeF P zs m a Q e h) (codeF P zs m b Q e h)
  | .block id c, Q, e, h => codeF P zs m c (blockF id Q) e h
  | .loop c, Q, e, h => LoopF m (codeF P zs m c) Q e h
  | .region _ ops d, Q, e, h => (match d with
    | true => drawF P zs m ops (Q .normal) e h
    | false => regF false P zs m ops (Q .normal) ops.toList e h)
  | _, _, _, _ => False

/-- what a body hands back -/
inductive RetF (m : Nat) (vs : List AV) (h : List OB) (R : List AV → List OB → Prop) : Prop
  | mk (keep : List Nat) (hk : okKeep m keep h.length = true) (k : seqW (fV 4) (renL (expG keep) some vs) fun vs => fH (renHeap keep h) fun ho => R vs ho)
def retF (P : Program) (rs : List ResultVar) (m : Nat) (R : List AV → List OB → Prop) : Exit → En → List OB → Prop
  | .normal, e, h | .ret, e, h => resW P ⟨lk e, h⟩ rs fun vs => RetF m vs h R
  | _, _, _ => False

section
variable {N m : Nat} {P : Program}

theorem nodupB_spec : ∀ {l : List Nat}, nodupB l = true → l.Nodup
  | [], _ => List.nodup_nil
  | a :: r, h => by
    simp only [nodupB, Bool.and_eq_true, Bool.not_eq_true', List.any_eq_false] at h
    refine List.nodup_cons.2 ⟨fun hm => ?_, nodupB_spec h.2⟩
    have := h.1 a hm
    simp at this
theorem prefB_spec : ∀ {m i : Nat} {l : List Nat}, prefB m i l = true → l.take m = List.range' i m ∧ m ≤ l.length
  | 0, _, _, _ => by simp
  | m + 1, i, [], h => by simp [prefB] at h
  | m + 1, i, a :: r, h => by
    simp only [prefB, Bool.and_eq_true] at h
    have h1 := Nat.eq_of_beq_eq_true h.1
    obtain ⟨h2, h3⟩ := prefB_spec h.2
    subst h1
    simp [List.range'_succ, h2, h3]
theorem okKeep_spec {keep : List Nat} {n : Nat} (h : okKeep m keep n = true) : keep.take m = List.range m ∧ m ≤ keep.length ∧ keep.Nodup ∧ ∀ k ∈ keep, k < n := by
  simp only [okKeep, Bool.and_eq_true, List.all_eq_true] at h
  obtain ⟨h1, h2⟩ := prefB_spec h.1.1
  exact ⟨by rw [h1, List.range_eq_range'], h2, nodupB_spec h.1.2, fun k hk => by simpa using h.2 k hk⟩

/-- forgetting -/
theorem ConcP.weak {F A : Nat → Prop} {w0 : World} {pl : Nat → Pl} {a : Act} {w : World} {f g : Nat → AV} {h : List OB} (hC : ConcP N m F A w0 ⟨f, h⟩ pl a w) (hg : ∀ s, g s = f s ∨ g s = .junk) : ConcP N m F A w0 ⟨g, h⟩ pl a w :=
  { hC with
    ownlt := hC.ownlt, ownF := hC.ownF, newb := hC.newb, disj := hC.disj, heap := hC.heap
    env := fun s => by
      rcases hg s with e | e
      · show RelA _ _ _ _ _ (g s) _
        rw [e]; exact hC.env s
      · show RelA _ _ _ _ _ (g s) _
        rw [e]; exact .junk }

theorem AW.weak {c : Code} {Q : Exit → St → Prop} {f g : Nat → AV} {h : List OB} (hg : ∀ s, g s = f s ∨ g s = .junk) (hc : AW P N m c Q ⟨g, h⟩) : AW P N m c Q ⟨f, h⟩ := by
  rintro F A w0 pl0 a w hF hA ⟨pl, hp, hio⟩
  exact hc F A w0 pl0 a w hF hA ⟨pl, hp.weak hg, hio⟩

theorem fitsF_spec {keep : List Nat} {e : En} : ∀ {e' : En}, fitsF keep e e' → ∀ s, lk e' s = renA (expG keep) some (lk e s) ∨ lk e' s = .junk
  | [], _, s => .inr rfl
  | (t, v) :: r, h, s => by
    simp only [lk]
    cases hb : Nat.beq t s with
    | true =>
      have := Nat.eq_of_beq_eq_true hb
      subst this
      exact .inl h.1.symm
    | false => exact fitsF_spec h.2 s

theorem ConcP.wk1 {F A : Nat → Prop} {w0 : World} {st : St} {pl : Nat → Pl} {a : Act} {w : World} (hC : ConcP N m F A w0 st pl a w) {k : Nat} {ob : OB} (hk : st.heap[k]? = some ob) : ConcP N m F A w0 ⟨st.env, st.heap.set k (wkOB ob)⟩ pl a w := by
  have triv : wkOB ob = ob → ConcP N m F A w0 ⟨st.env, st.heap.set k (wkOB ob)⟩ pl a w := fun e => by
    rw [e]
    have hs : st.heap.set k ob = st.heap := by
      apply List.ext_getElem?
      intro j
      by_cases hj : k = j
      · subst hj; rw [List.getElem?_set_self (List.getElem?_eq_some_iff.1 hk).1, hk]
      · rw [List.getElem?_set_ne hj]
    rw [hs]; exact hC
  cases ob with
  | dead => exact triv rfl
  | fix cells => exact triv rfl
  | row nw fl z es =>
    cases fl with
    | fresh => exact triv rfl
    | any => exact triv rfl
    | flat =>
      obtain ⟨hN, hmk⟩ := hC.write' hk (ob' := .row nw .fresh z es) (w' := w) rfl (fun nw' fl z es h => by cases h; exact ⟨_, _, _, rfl⟩) rfl rfl rfl rfl (fun _ _ => rfl)
      refine hmk ?_
      obtain ⟨g1, g2, g3, g4, g5, g6⟩ := hC.heap k _ hk
      refine ⟨g1, g2, g3, g4, g5, fun hcap => ?_⟩
      obtain ⟨ty, arr, q1, q2, q3⟩ := g6 hcap
      refine ⟨ty, arr, q1, q2, fun i j e p he hp => ?_⟩
      obtain ⟨x, r1, r2, r3⟩ := q3 i j e p he hp
      exact ⟨x, r1, r2, r3.mono (fun b hb => hb.elim) (fun _ _ => rfl)⟩
theorem AW.wk {c : Code} {Q : Exit → St → Prop} {e : Nat → AV} : ∀ {ws : List Nat} {h : List OB}, AW P N m c Q ⟨e, wkL ws h⟩ → AW P N m c Q ⟨e, h⟩
  | [], _, hc => hc
  | k :: r, h, hc => by
    have hc := AW.wk (ws := r) hc
    cases hk : h[k]? with
    | none => simpa [hk] using hc
    | some ob =>
      simp only [hk] at hc
      intro F A w0 pl0 a w hF hA hcc
      obtain ⟨pl, hC, hio⟩ := hcc
      exact hc F A w0 pl0 a w hF hA ⟨pl, hC.wk1 hk, fun k' hk' => ⟨by have := (hio k' hk').1; simpa using this, (hio k' hk').2⟩⟩
theorem AW.fit {c : Code} {Q : Exit → St → Prop} {e e' : En} {h h' : List OB} (hf : fitF m e h e' h') (hc : AW P N m c Q ⟨lk e', h'⟩) : AW P N m c Q ⟨lk e, h⟩ := by
  obtain ⟨keep, ws, hk, rfl, hs⟩ := hf
  obtain ⟨h1, h2, h3, h4⟩ := okKeep_spec hk
  exact AW.rename keep h1 h3 h4 (AW.weak (fitsF_spec hs) (AW.wk hc))

def asQ (Q : Exit → En → List OB → Prop) : Exit → St → Prop := fun x st => ∃ e h, st = ⟨lk e, h⟩ ∧ Q x e h

theorem codeF_sound {zs : TypeId → List PV} (hm : P.follows .mixedOrders = true) : ∀ (c : Code) (Q : Exit → En → List OB → Prop) (e : En) (h : List OB), okCode N c = true → codeF P zs m c Q e h → AW P N m c (asQ Q) ⟨lk e, h⟩ := by
  intro c
  induction c with
  | skip => intro Q e h _ hc; exact AW.skip ⟨e, h, rfl, hc⟩
  | ret => intro Q e h _ hc; exact AW.ret ⟨e, h, rfl, hc⟩
  | exit id => intro Q e h _ hc; exact AW.exit ⟨e, h, rfl, hc⟩
  | seq a b iha ihb =>
    intro Q e h hok hc
    simp only [okCode, Bool.and_eq_true] at hok
    rcases hc with hc | ⟨T, Pre, sl, hp, hc, hc2⟩
    · refine AW.seq (AW.mono (fun x s hs => ?_) (iha _ e h hok.1 hc))
      obtain ⟨e', h', rfl, hq⟩ := hs
      cases x with
      | normal => exact ihb Q e' h' hok.2 hq
      | _ => exact ⟨e', h', rfl, hq⟩
    · refine AW.seq (AW.mono (fun x s hs => ?_) (iha _ e h hok.1 hc))
      obtain ⟨e', h', rfl, hq⟩ := hs
      cases x with
      | normal =>
        obtain ⟨t, hpt, hf⟩ := hq
        exact AW.fit hf (ihb Q (sl t) (hp t) hok.2 (fH_eq (fE_eq (hc2 t hpt))))
      | _ => exact ⟨e', h', rfl, hq⟩
  | cond c a b iha ihb =>
    intro Q e h hok hc
    simp only [okCode, Bool.and_eq_true] at hok
    refine AW.cond ?_
    have mono : ∀ {K K' : AV → Prop}, (∀ v, K v → K' v) → withV ⟨lk e, h⟩ true c K → withV ⟨lk e, h⟩ true c K' := by
      intro K K' hk h
      unfold withV at h ⊢
      split at h
      · split at h
        · exact let ⟨h1, h2⟩ := h; ⟨h1, hk _ h2⟩
        · exact hk _ h
      · exact ⟨h.1, hk _ h.2⟩
      · exact hk _ h
      · exact h.elim
    refine mono (fun v hv => ?_) hc
    unfold condF at hv
    split at hv
    · obtain ⟨h1, h2⟩ := hv
      exact ⟨fun hb => iha Q e h hok.1 (h1 hb), fun hb => ihb Q e h hok.2 (h2 hb)⟩
    · exact hv.elim
  | block id c ih =>
    intro Q e h hok hc
    refine AW.block (AW.mono (fun x s hs => ?_) (ih _ e h hok hc))
    obtain ⟨e', h', rfl, hq⟩ := hs
    cases x with
    | exit id' =>
      simp only [blockF] at hq
      simp only [blockQ]
      by_cases hid : id' = id
      · subst hid
        rw [if_pos rfl]
        simp only [Nat.beq_refl, cond_true] at hq
        exact ⟨e', h', rfl, hq⟩
      · rw [if_neg hid]
        have : Nat.beq id' id = false := by
          cases hb : Nat.beq id' id with
          | false => rfl
          | true => exact absurd (Nat.eq_of_beq_eq_true hb) hid
        rw [this] at hq
        exact ⟨e', h', rfl, hq⟩
    | _ => exact ⟨e', h', rfl, hq⟩
  | loop c ih =>
    intro Q e h hok hc
    obtain ⟨T, Pre, sl, hp, μ, ⟨t0, hp0, hf0⟩, hc⟩ := hc
    refine AW.loop (T := T) (fun t st => Pre t ∧ ∃ e h, st = ⟨lk e, h⟩ ∧ fitF m e h (sl t) (hp t)) μ t0 ⟨hp0, e, h, rfl, hf0⟩ ?_
    rintro t s ⟨hpt, e, h, rfl, hf⟩
    refine AW.fit hf (AW.mono (fun x s hs => ?_) (ih _ (sl t) (hp t) hok (fH_eq (fE_eq (hc t hpt)))))
    obtain ⟨e', h', rfl, hq⟩ := hs
    cases x with
    | normal =>
      obtain ⟨t', h1, h2, h3⟩ := hq
      exact ⟨t', ⟨h1, e', h', rfl, h3⟩, h2⟩
    | _ => exact ⟨e', h', rfl, hq⟩
  | region id ops d =>
    intro Q e h hok hc
    cases d with
    | false =>
      simp only [okCode, okReg, Bool.and_eq_true] at hok
      exact AW.region (P := P) (Q := asQ Q) (regF_sound hok.1 hc)
    | true =>
      refine AW.mono (fun x s ⟨hx, e, h, hs, hk⟩ => ?_) (AW.drawn hm hok hc)
      subst hx
      exact ⟨e, h, hs, hk⟩
  | _ => intro Q e h hok; simp [okCode] at hok

def argE : Nat → List AV → En
  | _, [] => []
  | i, a :: r => (i, a) :: argE (i + 1) r
theorem argE_spec : ∀ {l : List AV} {i s : Nat}, lk (argE i l) (i + s) = (l[s]?).getD .junk
  | [], i, s => by simp [argE, lk]
  | a :: r, i, s => by
    simp only [argE, lk]
    cases s with
    | zero => simp
    | succ s =>
      have : Nat.beq i (i + (s + 1)) = false := by
        cases hb : Nat.beq i (i + (s + 1)) with
        | false => rfl
        | true => have := Nat.eq_of_beq_eq_true hb; omega
      rw [this]
      have := argE_spec (l := r) (i := i + 1) (s := s)
      have e : i + 1 + s = i + (s + 1) := by omega
      rw [e] at this
      simpa using this

theorem FnSem.of_codeF {zs : TypeId → List PV} {f : FuncId} {fn : Func} {c : Code} {args : List AV} {hin : List OB} {R : List AV → List OB → Prop} (hm : P.follows .mixedOrders = true) (hf : P.funcs[f]? = some fn) (hb : fn.body = some c) (hc : callable P f = true) (hN : Nat.ble args.length fn.ntmps = true) (hok : okCode fn.ntmps c = true)
    (h : codeF P zs hin.length c (retF P fn.results.toList hin.length R) (argE 0 args) hin) : FnSem P f args hin R := by
  refine FnSem.of_AW hf hb hc (Nat.le_of_ble_eq_true hN) ?_
  have e0 : envOf args = lk (argE 0 args) := by
    funext s
    have := argE_spec (l := args) (i := 0) (s := s)
    simp only [Nat.zero_add] at this
    rw [this]; rfl
  rw [e0]
  refine AW.mono (fun x s hs => ?_) (codeF_sound hm c _ _ _ hok h)
  obtain ⟨e, h, rfl, hq⟩ := hs
  have key : ∀ {rs : List ResultVar}, resW P ⟨lk e, h⟩ rs (fun vs => RetF hin.length vs h R) → resW P ⟨lk e, h⟩ rs (fun vs => exportW hin.length ⟨lk e, h⟩ vs R) := by
    intro rs
    have fin : ∀ vs, RetF hin.length vs h R → exportW hin.length ⟨lk e, h⟩ vs R := by
      rintro vs ⟨keep, hk, hr⟩
      obtain ⟨h1, h2, h3, h4⟩ := okKeep_spec hk
      exact ⟨keep, h1, h2, h3, h4, fH_eq (seqW_id (fV_eq 4) (K := fun vs => fH (renHeap keep h) fun ho => R vs ho) hr)⟩
    have mono : ∀ {st : St} {G : Bool} {x : Operand} {K K' : AV → Prop}, (∀ v, K v → K' v) → withV st G x K → withV st G x K' := by
      intro st G x K K' hk h
      unfold withV at h ⊢
      split at h
      · split at h
        · exact let ⟨h1, h2⟩ := h; ⟨h1, hk _ h2⟩
        · exact hk _ h
      · exact ⟨h.1, hk _ h.2⟩
      · exact hk _ h
      · exact h.elim
    have loadm : ∀ {st : St} {t : TypeId} {a : AV} {K K' : AV → Prop}, (∀ v, K v → K' v) → loadW P st t a K → loadW P st t a K' := by
      intro st t a K K' hk h
      unfold loadW at h ⊢
      split at h
      case h_2 => exact h.elim
      split at h
      · rename_i hagg
        rw [if_pos hagg]
        split at h
        · exact ⟨h.1, h.2.1, hk _ h.2.2⟩
        · split at h
          · exact ⟨h.1, h.2.1, hk _ h.2.2⟩
          · exact h.elim
        · split at h
          · exact ⟨h.1, h.2.1, let ⟨a, e, b, c⟩ := h.2.2; ⟨a, e, b, hk _ c⟩⟩
          · exact h.elim
        · exact h.elim
      · rename_i hagg
        rw [if_neg hagg]
        split at h
        · split at h
          · exact hk _ h
          · exact h.elim
        · split at h
          · split at h
            · exact hk _ h
            · exact h.elim
          · exact h.elim
        · split at h
          · obtain ⟨h1, e, h2, h⟩ := h
            refine ⟨h1, e, h2, ?_⟩
            split at h
            · exact hk _ h
            · exact h.elim
          · exact h.elim
        · exact h.elim
    have gen : ∀ (rs : List ResultVar) {K K' : List AV → Prop}, (∀ vs, K vs → K' vs) → resW P ⟨lk e, h⟩ rs K → resW P ⟨lk e, h⟩ rs K' := by
      intro rs
      induction rs with
      | nil => intro K K' hk hr; exact hk _ hr
      | cons r rs ih =>
        intro K K' hk hr
        cases r with
        | tmp t => exact mono (fun v hv => ih (fun vs h => hk _ h) hv) hr
        | cell a ty => exact mono (fun v hv => loadm (fun v' hv' => ih (fun vs h => hk _ h) hv') hv) hr
    exact gen rs fin
  cases x with
  | normal => exact key hq
  | ret => exact key hq
  | _ => exact hq
end
end Go.Av

namespace Go.Av
open Go.RowKit

/-! Common forms of contracts and calls. -/
structure Is (vs : List AV) (hs : List OB) (rs : List AV) (ho : List OB) : Prop where
  res : rs = vs
  heap : ho = hs

section
variable {P : Program} {st : St} {f : FuncId} {vs : List AV}

theorem seqW_mono {α β : Type} {f : α → (β → Prop) → Prop} (hf : ∀ (a : α) (K K' : β → Prop), (∀ b, K b → K' b) → f a K → f a K') : ∀ {l : List α} {K K' : List β → Prop}, (∀ b, K b → K' b) → seqW f l K → seqW f l K'
  | [], _, _, hk, h => hk _ h
  | a :: r, _, _, hk, h => hf a _ _ (fun b hb => seqW_mono hf (l := r) (fun bs => hk (b :: bs)) hb) h

theorem pvW_mono {heap : List OB} {ids : List Nat} : ∀ (d : Nat) (a : AV) (K K' : PV → Prop), (∀ p, K p → K' p) → pvW heap ids d a K → pvW heap ids d a K'
  | 0, _, _, _, _, h => h.elim
  | d + 1, a, K, K', hk, h => by
    unfold pvW at h ⊢
    split at h
    · exact hk _ h
    · refine ⟨h.1, ?_⟩
      have h := h.2
      split at h
      · exact seqW_mono (pvW_mono d) (fun b => hk _) h
      · exact h.elim
    · refine ⟨h.1, ?_⟩
      have h := h.2
      split at h
      · exact let ⟨a, e, b, c⟩ := h; ⟨a, e, b, hk _ c⟩
      · exact h.elim
    · refine ⟨h.1, ?_⟩
      have h := h.2
      split at h
      · exact let ⟨a, e, b, c⟩ := h; ⟨a, e, b, hk _ c⟩
      · exact h.elim
    · exact seqW_mono (pvW_mono d) (fun b => hk _) h
    · exact seqW_mono (pvW_mono d) (fun b => hk _) h
    · exact h.elim

theorem convW1_mono {heap : List OB} {ids : List Nat} {lend : Bool} (a : AV) (K K' : AV → Prop) (hk : ∀ v, K v → K' v) (h : convW1 heap ids lend a K) : convW1 heap ids lend a K' := by
  unfold convW1 at h ⊢
  split at h
  · exact hk _ h
  · exact hk _ h
  · split at h
    · exact hk _ h
    · exact ⟨h.1, pvW_mono _ _ _ _ (fun p => hk _) h.2⟩
  · split at h
    · exact hk _ h
    · exact ⟨h.1, pvW_mono _ _ _ _ (fun p => hk _) h.2⟩
  · split at h
    · exact hk _ h
    · exact ⟨h.1, pvW_mono _ _ _ _ (fun p => hk _) h.2⟩
  · exact ⟨h.1, pvW_mono _ _ _ _ (fun p => hk _) h.2⟩
  · exact ⟨h.1, pvW_mono _ _ _ _ (fun p => hk _) h.2⟩
  · exact hk _ h
  · exact h.elim
theorem convW_mono {heap : List OB} {ids : List Nat} {lend : Bool} (a : AV) (K K' : AV → Prop) (hk : ∀ v, K v → K' v) (h : convW heap ids lend a K) : convW heap ids lend a K' := by
  unfold convW at h ⊢
  split at h
  · split at h
    · exact seqW_mono convW1_mono (fun b => hk _) h
    · exact convW1_mono _ _ _ hk h
  · split at h
    · exact seqW_mono convW1_mono (fun b => hk _) h
    · exact convW1_mono _ _ _ hk h
  · exact convW1_mono _ _ _ hk h

theorem convOB_mono {heap : List OB} {ids : List Nat} {lend : Bool} (a : OB) (K K' : OB → Prop) (hk : ∀ v, K v → K' v) (h : convOB heap ids lend a K) : convOB heap ids lend a K' := by
  unfold convOB at h ⊢
  split at h
  · exact h.elim
  · exact seqW_mono convW_mono (fun b => hk _) h
  · exact hk _ h
  · exact hk _ h

def memB : List Nat → Nat → Bool
  | [], _ => true
  | k :: r, n => Nat.blt k n && memB r n
theorem memB_spec : ∀ {l : List Nat} {n : Nat}, memB l n = true → ∀ k ∈ l, k < n
  | [], _, _ => fun k hk => absurd hk List.not_mem_nil
  | a :: r, n, h => by
    simp only [memB, Bool.and_eq_true] at h
    intro k hk
    rcases List.mem_cons.1 hk with rfl | hk
    · simpa using h.1
    · exact memB_spec h.2 k hk

/-- a call: its contract, and how it goes on -/
inductive ArgF (n : Nat) (P : Program) (f : FuncId) (args : List AV) (hin : List OB) (K : List AV → List OB → Prop) : Prop
  | mk (R : List AV → List OB → Prop) (h : FnSem P f args hin R) (k : ∀ rs ho, R rs ho → n ≤ ho.length → K rs ho)
theorem ArgF.is {n : Nat} {P : Program} {f : FuncId} {args : List AV} {hin : List OB} {K : List AV → List OB → Prop} {rs : List AV} {ho : List OB} (h : FnSem P f args hin (Is rs ho)) (k : K rs ho) : ArgF n P f args hin K :=
  ⟨_, h, fun rs' ho' hR _ => by obtain ⟨rfl, rfl⟩ := hR; exact k⟩
theorem ArgQ.is {G : Bool} {P : Program} {f : FuncId} {args : List AV} {K : AV → Prop} {rs : List AV} {v : AV} {u : Value} {ho : List OB} (h : G = true → FnSem P f args [] (Is rs ho)) (hr : retAV rs = v) (hv : exactV v = some u) (k : K v) : ArgQ G P f args K :=
  ⟨rs, v, u, fun hG => (h hG).mono fun _ _ hR => hR.res, hr, hv, k⟩

/-- A CALL with a contract that names what comes back. ids: the own blocks that the callee may turn; lend: are others lent for reading? (then nothing of 'any' comes back) -/
theorem CallW.is {K : AV → List OB → Prop} (ids : List Nat) (lend : Bool) (hn : (nodupB ids && memB ids st.heap.length) = true)
    (h : seqW (convW st.heap ids lend) vs fun args => seqW (convOB st.heap ids lend) (ids.map fun k => st.heap.getD k .dead) fun hin => ArgF ids.length P f args hin fun rs ho => K (renA (impG ids st.heap.length) (impF lend) (retAV rs)) (heapBack lend ids st.heap ho)) : CallW P st f vs K := by
  simp only [Bool.and_eq_true] at hn
  refine ⟨ids, lend, nodupB_spec hn.1, memB_spec hn.2, seqW_mono convW_mono (fun args => seqW_mono convOB_mono fun hin ha => ?_) h⟩
  obtain ⟨R, h1, h2⟩ := ha
  exact ⟨R, h1, h2⟩

def wfN : Nat → PV → Prop
  | 0, _ => True
  | _ + 1, .c v => wfV v
  | d + 1, .lst _ es => es.length ≤ maxLen ∧ ∀ e ∈ es, ∀ p ∈ e, wfN d p
  | d + 1, .agg cs => ∀ p ∈ cs, wfN d p
  | d + 1, .ref cs => ∀ p ∈ cs, wfN d p
  | d + 1, .fn _ cs => ∀ p ∈ cs, wfN d p
theorem wfN_of_rel {S : Nat → Prop} {w : World} {p : PV} {u : Value} (h : Rel S w p u) : ∀ d, wfN d p := by
  induction h with
  | c hv h1 => intro d; cases d <;> trivial
  | @lst z es a n cap hn hc hm ad ha hSS hl f hc1 h1 hr ih =>
    intro d
    cases d with
    | zero => trivial
    | succ d =>
      refine ⟨by omega, fun e he p hp => ?_⟩
      obtain ⟨i, hi⟩ := List.getElem?_of_mem he
      obtain ⟨j, hj⟩ := List.getElem?_of_mem hp
      exact ih i j e p hi hj d
  | @agg cells arr hs h1 hr ih =>
    intro d
    cases d with
    | zero => trivial
    | succ d =>
      intro p hp
      obtain ⟨j, hj⟩ := List.getElem?_of_mem hp
      have hlt : j < arr.size := by rw [hs]; exact (List.getElem?_eq_some_iff.1 hj).1
      exact ih j p _ hj (Array.getElem?_eq_getElem hlt) d
  | @ref cells ad hSS f hc1 h1 hr ih =>
    intro d
    cases d with
    | zero => trivial
    | succ d =>
      intro p hp
      obtain ⟨j, hj⟩ := List.getElem?_of_mem hp
      exact ih j p hj d
  | @fn f caps arr hs hr ih =>
    intro d
    cases d with
    | zero => trivial
    | succ d =>
      intro p hp
      obtain ⟨j, hj⟩ := List.getElem?_of_mem hp
      have hlt : j < arr.size := by rw [hs]; exact (List.getElem?_eq_some_iff.1 hj).1
      exact ih j p _ hj (Array.getElem?_eq_getElem hlt) d

/-- what an argument is by its type alone -/
def wfA : AV → Prop
  | .p _ v => wfN 4 v
  | _ => True
def wfO : OB → Prop
  | .row _ _ _ es => es.length ≤ maxLen ∧ ∀ e ∈ es, ∀ p ∈ e, wfN 4 p
  | _ => True

def wfAs : List AV → Prop
  | [] => True
  | a :: r => wfA a ∧ wfAs r
theorem wfAs_of : ∀ {l : List AV}, (∀ a ∈ l, wfA a) → wfAs l
  | [], _ => trivial
  | a :: _, h => ⟨h a (List.mem_cons_self ..), wfAs_of fun b hb => h b (List.mem_cons_of_mem _ hb)⟩
def wfOs : List OB → Prop
  | [] => True
  | a :: r => wfO a ∧ wfOs r
theorem wfOs_of : ∀ {l : List OB}, (∀ a ∈ l, wfO a) → wfOs l
  | [], _ => trivial
  | a :: _, h => ⟨h a (List.mem_cons_self ..), wfOs_of fun b hb => h b (List.mem_cons_of_mem _ hb)⟩

theorem FnSem.of_wf {args : List AV} {hin : List OB} {R : List AV → List OB → Prop} (hc : callable P f = true) (h : (∀ a ∈ args, wfA a) → (∀ ob ∈ hin, wfO ob) → FnSem P f args hin R) : FnSem P f args hin R := by
  refine ⟨hc, fun w vals pl A hA he => (h (fun a ha => ?_) (fun ob ho => ?_)).2 w vals pl A hA he⟩
  · obtain ⟨j, hj⟩ := List.getElem?_of_mem ha
    have hlt : j < vals.size := by rw [he.size]; exact (List.getElem?_eq_some_iff.1 hj).1
    have := he.args j a _ hj (Array.getElem?_eq_getElem hlt)
    cases a with
    | p fl v => exact wfN_of_rel this.pinv 4
    | _ => trivial
  · obtain ⟨k, hk⟩ := List.getElem?_of_mem ho
    have := he.heap k ob hk
    cases ob with
    | row nw fl z es =>
      obtain ⟨g1, g2, g3, g4, g5, g6⟩ := this
      refine ⟨by omega, fun e hm p hp => ?_⟩
      obtain ⟨i, hi⟩ := List.getElem?_of_mem hm
      obtain ⟨j, hj⟩ := List.getElem?_of_mem hp
      have hlt := (List.getElem?_eq_some_iff.1 hi).1
      obtain ⟨ty, arr, q1, q2, q3⟩ := g6 (by omega)
      obtain ⟨u, r1, r2, r3⟩ := q3 i j e p hi hj
      exact wfN_of_rel r3 4
    | _ => trivial

/-- THE WALK OF A FUNCTION -/
theorem FnSem.walk {zs : TypeId → List PV} {fn : Func} {c : Code} {res : Array ResultVar} {args : List AV} {hin : List OB} {R : List AV → List OB → Prop} (hm : P.follows .mixedOrders = true) (hf : P.funcs[f]? = some fn) (hb : fn.body = some c) (hres : fn.results = res) (hc : callable P f = true) (hN : Nat.ble args.length fn.ntmps = true) (hok : okCode fn.ntmps c = true)
    (h : wfAs args → wfOs hin → codeF P zs hin.length c (retF P res.toList hin.length R) (argE 0 args) hin) : FnSem P f args hin R :=
  FnSem.of_wf hc fun h1 h2 => FnSem.of_codeF (zs := zs) hm hf hb hc hN hok (by rw [hres]; exact h (wfAs_of h1) (wfOs_of h2))

theorem CallQ.is {rs : List AV} {v : AV} {u : Value} (h : seqW (convW st.heap [] true) vs fun args => FnSem P f args [] (Is rs [])) (hr : retAV rs = v) (hv : exactV v = some u) : CallQ P st f vs v := by
  exact ⟨u, hv, seqW_mono convW_mono (fun args ha => ha.mono fun rs' ho' hR => by obtain ⟨rfl, rfl⟩ := hR; exact hr) h⟩
end

/-! Which own blocks are kept: those that the values name, in the order in which they are named. -/
def hasId : List Nat → Nat → Bool
  | [], _ => false
  | a :: r, k => Nat.beq a k || hasId r k
def snocId : List Nat → Nat → List Nat
  | [], k => [k]
  | a :: r, k => a :: snocId r k
def foldIds (f : AV → List Nat → List Nat) : List AV → List Nat → List Nat
  | [], acc => acc
  | v :: r, acc => foldIds f r (f v acc)
def idsA (h : List OB) : Nat → AV → List Nat → List Nat
  | 0, _, acc => acc
  | d + 1, v, acc => match v with
    | .own k _ => bif hasId acc k then acc else (match h[k]? with
      | some (.fix cells) => foldIds (idsA h d) cells (snocId acc k)
      | _ => snocId acc k)
    | .orow k _ _ => bif hasId acc k then acc else snocId acc k
    | .osl k _ _ => bif hasId acc k then acc else snocId acc k
    | .afn _ caps => foldIds (idsA h d) caps acc
    | .aagg cells => foldIds (idsA h d) cells acc
    | .tup vs => foldIds (idsA h d) vs acc
    | .opt _ v => idsA h d v acc
    | _ => acc
def rangeI : Nat → Nat → List Nat
  | 0, _ => []
  | n + 1, i => i :: rangeI n (i + 1)
def keepIds (m : Nat) (h : List OB) (vs : List AV) : List Nat := foldIds (idsA h 6) vs (rangeI m 0)
def fKeep : List Nat → (List Nat → Prop) → Prop
  | [], K => K []
  | a :: r, K => fN a fun a => fKeep r fun r => K (a :: r)
theorem fKeep_eq : ∀ {l : List Nat} {K : List Nat → Prop}, fKeep l K → K l
  | [], _, h => h
  | a :: r, K, h => fKeep_eq (l := r) (K := fun r => K (a :: r)) (fNs_eq (K := fun a => fKeep r fun r => K (a :: r)) h)
def pickAt : List Nat → List AV → List AV
  | [], _ => []
  | i :: r, vs => (match vs[i]? with
    | some v => v :: pickAt r vs
    | none => pickAt r vs)
/-- a call that may turn the own blocks that the arguments at 'pos' name -/
theorem CallF.own {P : Program} {st : St} {f : FuncId} {vs : List AV} {K : AV → List OB → Prop} (pos : List Nat) (lend : Bool)
    (h : fKeep (keepIds 0 st.heap (pickAt pos vs)) fun ids => (nodupB ids && memB ids st.heap.length) = true ∧
      seqW (convW st.heap ids lend) vs fun args => seqW (convOB st.heap ids lend) (ids.map fun k => st.heap.getD k .dead) fun hin => ArgF ids.length P f args hin fun rs ho => K (renA (impG ids st.heap.length) (impF lend) (retAV rs)) (heapBack lend ids st.heap ho)) : CallF P st f vs K := by
  obtain ⟨h1, h2⟩ := fKeep_eq h
  exact ⟨CallW.is _ lend h1 h2⟩
def slotVals (e : En) : En → List AV
  | [] => []
  | (s, _) :: r => lk e s :: slotVals e r

def fitsK (keep : List Nat) (e : En) : En → Prop → Prop
  | [], K => K
  | (s, v) :: r, K => renA (expG keep) some (lk e s) = v ∧ fitsK keep e r K
theorem fitsK_eq {keep : List Nat} {e : En} : ∀ {e' : En} {K : Prop}, fitsK keep e e' K → fitsF keep e e' ∧ K
  | [], _, h => ⟨trivial, h⟩
  | (_, _) :: _, _, h => ⟨⟨h.1, (fitsK_eq h.2).1⟩, (fitsK_eq h.2).2⟩
def fitK (m : Nat) (e : En) (h : List OB) (e' : En) (h' : List OB) (K : Prop) : Prop :=
  fKeep (keepIds m h (slotVals e e')) fun keep => okKeep m keep h.length = true ∧ renHeap keep h = h' ∧ fitsK keep e e' K
theorem fitK.fit {m : Nat} {e : En} {h : List OB} {e' : En} {h' : List OB} {K : Prop} (f : fitK m e h e' h' K) : fitF m e h e' h' ∧ K := by
  obtain ⟨h1, h2, h3⟩ := fKeep_eq f
  obtain ⟨h4, h5⟩ := fitsK_eq h3
  exact ⟨⟨_, [], h1, h2, h4⟩, h5⟩

/-- the slots that stay as they are -/
def fixVals (e : En) : List Nat → List AV → List AV
  | [], l => l
  | s :: r, l => lk e s :: fixVals e r l
def fixE (keep : List Nat) (e : En) : List Nat → En
  | [] => []
  | s :: r => (s, renA (expG keep) some (lk e s)) :: fixE keep e r
def appE : En → En → En
  | [], b => b
  | x :: r, b => x :: appE r b
theorem fitsF_fix {keep : List Nat} {e e' : En} (h : fitsF keep e e') : ∀ fix : List Nat, fitsF keep e (appE (fixE keep e fix) e')
  | [] => h
  | _ :: r => ⟨rfl, fitsF_fix h r⟩

/-- what is owed at a loop's head, then the round -/
inductive LoopB (p r : Prop) : Prop
  | mk (h : p) (k : r)
theorem LoopB.of {T : Type} {p : Prop} {r : T → Prop} (h : p) (k : ∀ t, r t) : LoopB p (∀ t, r t) := ⟨h, k⟩
/-- what is owed where a round ends, or where ways meet -/
inductive BackB (p l : Prop) : Prop
  | mk (h : p) (k : l)

def setOB : List OB → Nat → OB → List OB
  | [], _, _ => []
  | _ :: r, 0, ob => ob :: r
  | a :: r, n + 1, ob => a :: setOB r n ob
def ovr : List OB → List (Nat × OB) → List OB
  | h, [] => h
  | h, (i, ob) :: r => ovr (setOB h i ob) r
/-- a loop: the slots 'fix' stay as they are, and the own blocks but for those in 'mods' -/
theorem LoopF.fix {m : Nat} {body : (Exit → En → List OB → Prop) → En → List OB → Prop} {Q : Exit → En → List OB → Prop} {e : En} {h : List OB} (fix : List Nat) (T : Type) (Pre : T → Prop) (sl : T → En) (mods : T → List (Nat × OB)) (μ : T → Nat) (t : T)
    (f : fKeep (keepIds m h (fixVals e fix (slotVals e (sl t)))) fun keep => okKeep m keep h.length = true ∧ renHeap keep h = ovr (renHeap keep h) (mods t) ∧ fitsK keep e (sl t) (LoopB (Pre t)
      (∀ t, Pre t → fE (appE (fixE keep e fix) (sl t)) fun e' => fH (ovr (renHeap keep h) (mods t)) fun h' => body (thenF (fun e' h' => BackF m Pre (fun t => appE (fixE keep e fix) (sl t)) (fun t => ovr (renHeap keep h) (mods t)) μ (μ t) e' h') Q) e' h'))) : LoopF m body Q e h := by
  obtain ⟨h1, h2, h3⟩ := fKeep_eq f
  obtain ⟨h4, h5, h6⟩ := fitsK_eq h3
  exact LoopF.mk T Pre _ (fun t => ovr (renHeap _ h) (mods t)) μ (FitF.mk t h5 ⟨_, [], h1, h2, fitsF_fix h4 fix⟩) h6

/-- the same; the rows 'ws' count as rows of new memory from here on -/
theorem LoopF.fixw {m : Nat} {body : (Exit → En → List OB → Prop) → En → List OB → Prop} {Q : Exit → En → List OB → Prop} {e : En} {h : List OB} (ws fix : List Nat) (T : Type) (Pre : T → Prop) (sl : T → En) (mods : T → List (Nat × OB)) (μ : T → Nat) (t : T)
    (f : fKeep (keepIds m h (fixVals e fix (slotVals e (sl t)))) fun keep => okKeep m keep h.length = true ∧ wkL ws (renHeap keep h) = ovr (wkL ws (renHeap keep h)) (mods t) ∧ fitsK keep e (sl t) (LoopB (Pre t)
      (∀ t, Pre t → fE (appE (fixE keep e fix) (sl t)) fun e' => fH (ovr (wkL ws (renHeap keep h)) (mods t)) fun h' => body (thenF (fun e' h' => BackF m Pre (fun t => appE (fixE keep e fix) (sl t)) (fun t => ovr (wkL ws (renHeap keep h)) (mods t)) μ (μ t) e' h') Q) e' h'))) : LoopF m body Q e h := by
  obtain ⟨h1, h2, h3⟩ := fKeep_eq f
  obtain ⟨h4, h5, h6⟩ := fitsK_eq h3
  exact LoopF.mk T Pre _ (fun t => ovr (wkL ws (renHeap _ h)) (mods t)) μ (FitF.mk t h5 ⟨_, ws, h1, h2, fitsF_fix h4 fix⟩) h6

theorem BackF.auto {T : Type} {m : Nat} {Pre : T → Prop} {sl : T → En} {hp : T → List OB} {μ : T → Nat} {n : Nat} {e : En} {h : List OB} (t : T) (f : fitK m e h (sl t) (hp t) (BackB (Pre t) (μ t < n))) : BackF m Pre sl hp μ n e h := by
  obtain ⟨h1, h2, h3⟩ := f.fit
  exact BackF.mk t h2 h3 h1

theorem BackF.auto2 {A B : Type} {m : Nat} {Pre : A × B → Prop} {sl : A × B → En} {hp : A × B → List OB} {μ : A × B → Nat} {n : Nat} {e : En} {h : List OB} (x0 : A) (x1 : B) (f : fitK m e h (sl (x0, x1)) (hp (x0, x1)) (BackB (Pre (x0, x1)) (μ (x0, x1) < n))) : BackF m Pre sl hp μ n e h := BackF.auto (x0, x1) f
theorem BackF.auto3 {A B C : Type} {m : Nat} {Pre : A × B × C → Prop} {sl : A × B × C → En} {hp : A × B × C → List OB} {μ : A × B × C → Nat} {n : Nat} {e : En} {h : List OB} (x0 : A) (x1 : B) (x2 : C) (f : fitK m e h (sl (x0, x1, x2)) (hp (x0, x1, x2)) (BackB (Pre (x0, x1, x2)) (μ (x0, x1, x2) < n))) : BackF m Pre sl hp μ n e h := BackF.auto (x0, x1, x2) f
theorem BackF.auto4 {A B C D : Type} {m : Nat} {Pre : A × B × C × D → Prop} {sl : A × B × C × D → En} {hp : A × B × C × D → List OB} {μ : A × B × C × D → Nat} {n : Nat} {e : En} {h : List OB} (x0 : A) (x1 : B) (x2 : C) (x3 : D) (f : fitK m e h (sl (x0, x1, x2, x3)) (hp (x0, x1, x2, x3)) (BackB (Pre (x0, x1, x2, x3)) (μ (x0, x1, x2, x3) < n))) : BackF m Pre sl hp μ n e h := BackF.auto (x0, x1, x2, x3) f
theorem BackF.auto5 {A B C D E : Type} {m : Nat} {Pre : A × B × C × D × E → Prop} {sl : A × B × C × D × E → En} {hp : A × B × C × D × E → List OB} {μ : A × B × C × D × E → Nat} {n : Nat} {e : En} {h : List OB} (x0 : A) (x1 : B) (x2 : C) (x3 : D) (x4 : E) (f : fitK m e h (sl (x0, x1, x2, x3, x4)) (hp (x0, x1, x2, x3, x4)) (BackB (Pre (x0, x1, x2, x3, x4)) (μ (x0, x1, x2, x3, x4) < n))) : BackF m Pre sl hp μ n e h := BackF.auto (x0, x1, x2, x3, x4) f
theorem BackF.auto6 {A B C D E G : Type} {m : Nat} {Pre : A × B × C × D × E × G → Prop} {sl : A × B × C × D × E × G → En} {hp : A × B × C × D × E × G → List OB} {μ : A × B × C × D × E × G → Nat} {n : Nat} {e : En} {h : List OB} (x0 : A) (x1 : B) (x2 : C) (x3 : D) (x4 : E) (x5 : G) (f : fitK m e h (sl (x0, x1, x2, x3, x4, x5)) (hp (x0, x1, x2, x3, x4, x5)) (BackB (Pre (x0, x1, x2, x3, x4, x5)) (μ (x0, x1, x2, x3, x4, x5) < n))) : BackF m Pre sl hp μ n e h := BackF.auto (x0, x1, x2, x3, x4, x5) f
theorem BackF.auto7 {A B C D E G H : Type} {m : Nat} {Pre : A × B × C × D × E × G × H → Prop} {sl : A × B × C × D × E × G × H → En} {hp : A × B × C × D × E × G × H → List OB} {μ : A × B × C × D × E × G × H → Nat} {n : Nat} {e : En} {h : List OB} (x0 : A) (x1 : B) (x2 : C) (x3 : D) (x4 : E) (x5 : G) (x6 : H) (f : fitK m e h (sl (x0, x1, x2, x3, x4, x5, x6)) (hp (x0, x1, x2, x3, x4, x5, x6)) (BackB (Pre (x0, x1, x2, x3, x4, x5, x6)) (μ (x0, x1, x2, x3, x4, x5, x6) < n))) : BackF m Pre sl hp μ n e h := BackF.auto (x0, x1, x2, x3, x4, x5, x6) f
theorem BackF.auto8 {A B C D E G H I : Type} {m : Nat} {Pre : A × B × C × D × E × G × H × I → Prop} {sl : A × B × C × D × E × G × H × I → En} {hp : A × B × C × D × E × G × H × I → List OB} {μ : A × B × C × D × E × G × H × I → Nat} {n : Nat} {e : En} {h : List OB} (x0 : A) (x1 : B) (x2 : C) (x3 : D) (x4 : E) (x5 : G) (x6 : H) (x7 : I) (f : fitK m e h (sl (x0, x1, x2, x3, x4, x5, x6, x7)) (hp (x0, x1, x2, x3, x4, x5, x6, x7)) (BackB (Pre (x0, x1, x2, x3, x4, x5, x6, x7)) (μ (x0, x1, x2, x3, x4, x5, x6, x7) < n))) : BackF m Pre sl hp μ n e h := BackF.auto (x0, x1, x2, x3, x4, x5, x6, x7) f

/-- ways meet: the slots 'fix' are as they were ahead; all own blocks that these and the others name -/
theorem SeqF.cutfix {m : Nat} {a b : (Exit → En → List OB → Prop) → En → List OB → Prop} {Q : Exit → En → List OB → Prop} {e : En} {h : List OB} (fix keep : List Nat) (T : Type) (Pre : T → Prop) (sl : T → En) (hp : T → List OB)
    (x : a (thenF (fun e' h' => FitF m Pre (fun t => appE (fixE keep e fix) (sl t)) hp e' h') Q) e h)
    (y : ∀ t, Pre t → fE (appE (fixE keep e fix) (sl t)) fun e => fH (hp t) fun h => b Q e h) : SeqF m a b Q e h :=
  SeqF.cut T Pre _ hp x y
theorem FitF.auto {T : Type} {m : Nat} {Pre : T → Prop} {sl : T → En} {hp : T → List OB} {e : En} {h : List OB} (t : T) (f : fitK m e h (sl t) (hp t) (BackB (Pre t) True)) : FitF m Pre sl hp e h := by
  obtain ⟨h1, h2, _⟩ := f.fit
  exact FitF.mk t h2 h1

theorem FitF.auto2 {A B : Type} {m : Nat} {Pre : A × B → Prop} {sl : A × B → En} {hp : A × B → List OB} {e : En} {h : List OB} (x0 : A) (x1 : B) (f : fitK m e h (sl (x0, x1)) (hp (x0, x1)) (BackB (Pre (x0, x1)) True)) : FitF m Pre sl hp e h := FitF.auto (x0, x1) f
theorem FitF.auto3 {A B C : Type} {m : Nat} {Pre : A × B × C → Prop} {sl : A × B × C → En} {hp : A × B × C → List OB} {e : En} {h : List OB} (x0 : A) (x1 : B) (x2 : C) (f : fitK m e h (sl (x0, x1, x2)) (hp (x0, x1, x2)) (BackB (Pre (x0, x1, x2)) True)) : FitF m Pre sl hp e h := FitF.auto (x0, x1, x2) f
theorem FitF.auto4 {A B C D : Type} {m : Nat} {Pre : A × B × C × D → Prop} {sl : A × B × C × D → En} {hp : A × B × C × D → List OB} {e : En} {h : List OB} (x0 : A) (x1 : B) (x2 : C) (x3 : D) (f : fitK m e h (sl (x0, x1, x2, x3)) (hp (x0, x1, x2, x3)) (BackB (Pre (x0, x1, x2, x3)) True)) : FitF m Pre sl hp e h := FitF.auto (x0, x1, x2, x3) f
theorem FitF.auto5 {A B C D E : Type} {m : Nat} {Pre : A × B × C × D × E → Prop} {sl : A × B × C × D × E → En} {hp : A × B × C × D × E → List OB} {e : En} {h : List OB} (x0 : A) (x1 : B) (x2 : C) (x3 : D) (x4 : E) (f : fitK m e h (sl (x0, x1, x2, x3, x4)) (hp (x0, x1, x2, x3, x4)) (BackB (Pre (x0, x1, x2, x3, x4)) True)) : FitF m Pre sl hp e h := FitF.auto (x0, x1, x2, x3, x4) f
theorem FitF.auto6 {A B C D E G : Type} {m : Nat} {Pre : A × B × C × D × E × G → Prop} {sl : A × B × C × D × E × G → En} {hp : A × B × C × D × E × G → List OB} {e : En} {h : List OB} (x0 : A) (x1 : B) (x2 : C) (x3 : D) (x4 : E) (x5 : G) (f : fitK m e h (sl (x0, x1, x2, x3, x4, x5)) (hp (x0, x1, x2, x3, x4, x5)) (BackB (Pre (x0, x1, x2, x3, x4, x5)) True)) : FitF m Pre sl hp e h := FitF.auto (x0, x1, x2, x3, x4, x5) f
theorem FitF.auto7 {A B C D E G H : Type} {m : Nat} {Pre : A × B × C × D × E × G × H → Prop} {sl : A × B × C × D × E × G × H → En} {hp : A × B × C × D × E × G × H → List OB} {e : En} {h : List OB} (x0 : A) (x1 : B) (x2 : C) (x3 : D) (x4 : E) (x5 : G) (x6 : H) (f : fitK m e h (sl (x0, x1, x2, x3, x4, x5, x6)) (hp (x0, x1, x2, x3, x4, x5, x6)) (BackB (Pre (x0, x1, x2, x3, x4, x5, x6)) True)) : FitF m Pre sl hp e h := FitF.auto (x0, x1, x2, x3, x4, x5, x6) f
theorem FitF.auto8 {A B C D E G H I : Type} {m : Nat} {Pre : A × B × C × D × E × G × H × I → Prop} {sl : A × B × C × D × E × G × H × I → En} {hp : A × B × C × D × E × G × H × I → List OB} {e : En} {h : List OB} (x0 : A) (x1 : B) (x2 : C) (x3 : D) (x4 : E) (x5 : G) (x6 : H) (x7 : I) (f : fitK m e h (sl (x0, x1, x2, x3, x4, x5, x6, x7)) (hp (x0, x1, x2, x3, x4, x5, x6, x7)) (BackB (Pre (x0, x1, x2, x3, x4, x5, x6, x7)) True)) : FitF m Pre sl hp e h := FitF.auto (x0, x1, x2, x3, x4, x5, x6, x7) f

theorem RetF.auto {m : Nat} {vs : List AV} {h : List OB} {R : List AV → List OB → Prop} (k : fKeep (keepIds m h vs) fun keep => okKeep m keep h.length = true ∧ seqW (fV 4) (renL (expG keep) some vs) fun vs => fH (renHeap keep h) fun ho => R vs ho) : RetF m vs h R := by
  obtain ⟨h1, h2⟩ := fKeep_eq k
  exact ⟨_, h1, h2⟩

end Go.Av

namespace Go.Av
open Go.RowKit

/-! FROM THE ROW TO THE CONTRACT: what data are as abstract values. -/
inductive Sh where
  | ik (k : IntKind)
  | bb
  | ss
  | sl (e : List Sh)

def zSh : Sh → PV
  | .ik k => .c (.int k 0)
  | .bb => .c (.bool false)
  | .ss => .c (.string ⟨#[]⟩)
  | .sl _ => .c (.slice none 0 0)

inductive Fit : Sh → PV → Prop
  | ik (k : IntKind) (n : Int) : Fit (.ik k) (.c (.int k n))
  | bb (x : Bool) : Fit .bb (.c (.bool x))
  | ss (x : ByteArray) : Fit .ss (.c (.string x))
  | sl {l : List Sh} {es : List (List PV)} (hl : ∀ e ∈ es, e.length = l.length) (h : ∀ e ∈ es, ∀ (j : Nat) (p : PV) (s : Sh), e[j]? = some p → l[j]? = some s → Fit s p) : Fit (.sl l) (.lst (l.map zSh) es)

def shMap (f : TypeId → Option (List Sh)) : List Field → Option (List Sh)
  | [] => some []
  | x :: r => match f x.type with
    | some a => (match shMap f r with
      | some b => some (a ++ b)
      | none => none)
    | none => none

def shOf (P : Program) : Nat → TypeId → Option (List Sh)
  | 0, _ => none
  | n + 1, t => match P.underlying t with
    | some (.int k) => some [.ik k]
    | some .bool => some [.bb]
    | some .string => some [.ss]
    | some (.slice e) => (match shOf P n e with
      | some l => some [.sl l]
      | none => none)
    | some (.struct fs) => shMap (shOf P n) fs.toList
    | _ => none

/-- the cells that were read, as pure values -/
inductive RdL (w : World) : List Sh → List PV → List Value → Prop
  | nil : RdL w [] [] []
  | cons {s : Sh} {p : PV} {c : Value} {ss : List Sh} {ps : List PV} {cs : List Value} (hf : Fit s p) (hr : Rel (fun b => b < w.heap.size) w p c) (h1 : c.oneCell' = true) (h : RdL w ss ps cs) : RdL w (s :: ss) (p :: ps) (c :: cs)

theorem RdL.append {w : World} {ss ss' : List Sh} {ps ps' : List PV} {cs cs' : List Value} (h : RdL w ss ps cs) (h' : RdL w ss' ps' cs') : RdL w (ss ++ ss') (ps ++ ps') (cs ++ cs') := by
  induction h with
  | nil => exact h'
  | cons hf hr h1 _ ih => exact .cons hf hr h1 ih
theorem RdL.len {w : World} {ss : List Sh} {ps : List PV} {cs : List Value} (h : RdL w ss ps cs) : ps.length = ss.length ∧ cs.length = ss.length := by
  induction h with
  | nil => exact ⟨rfl, rfl⟩
  | cons _ _ _ _ ih => simp [ih.1, ih.2]
theorem RdL.fit {w : World} {ss : List Sh} {ps : List PV} {cs : List Value} (h : RdL w ss ps cs) : ∀ (j : Nat) (p : PV) (s : Sh), ps[j]? = some p → ss[j]? = some s → Fit s p := by
  induction h with
  | nil => intro j p s h; simp at h
  | cons hf _ _ _ ih =>
    intro j p s hp hs
    cases j with
    | zero => simp at hp hs; subst hp hs; exact hf
    | succ j => exact ih j p s (by simpa using hp) (by simpa using hs)
theorem RdL.rel {w : World} {ss : List Sh} {ps : List PV} {cs : List Value} (h : RdL w ss ps cs) : ∀ (j : Nat) (p : PV) (c : Value), ps[j]? = some p → cs[j]? = some c → Rel (fun b => b < w.heap.size) w p c ∧ c.oneCell' = true := by
  induction h with
  | nil => intro j p s h; simp at h
  | cons _ hr h1 _ ih =>
    intro j p s hp hs
    cases j with
    | zero => simp at hp hs; subst hp hs; exact ⟨hr, h1⟩
    | succ j => exact ih j p s (by simpa using hp) (by simpa using hs)

theorem wf_lit {k : IntKind} {n : Int} (h : (Lit.int k n).wf = true) : wfV (.int k n) := by
  refine (wrap_eq_iff k n).2 ?_
  simp only [Lit.wf, Bool.and_eq_true, decide_eq_true_eq] at h
  cases k <;> simpa [kmin, kmax, IntKind.min, IntKind.max, IntKind.signed, IntKind.bits] using h

theorem pick_list {α : Type} {Q : Nat → α → Prop} : ∀ (n : Nat), (∀ i, i < n → ∃ e, Q i e) → ∃ es : List α, es.length = n ∧ ∀ i e, es[i]? = some e → Q i e
  | 0, _ => ⟨[], rfl, fun i e h => by simp at h⟩
  | n + 1, h => by
    obtain ⟨es, hl, hq⟩ := pick_list n (fun i hi => h i (by omega))
    obtain ⟨e, he⟩ := h n (by omega)
    refine ⟨es ++ [e], by simp [hl], fun i x hx => ?_⟩
    rw [List.getElem?_append] at hx
    split at hx
    · exact hq i x hx
    · have : i = n := by
        have := (List.getElem?_eq_some_iff.1 hx).1
        simp at this; omega
      subst this
      rw [hl] at hx
      simp at hx
      subst hx
      exact he

section
variable {H : Type} {enc : TypeId × Value → H} {P : Program} {w : World} {spare : Nat → Bool} {held : Bool}

theorem read_struct {n : Nat} (ih : ∀ (t : TypeId) (l : List Sh), t < P.types.size → shOf P n t = some l → ∀ (fuel : Nat) (cs : List Value) (x : DataW H × List MemPlace), DataW.trod enc P w 0 spare held fuel t cs = some x → ∃ ps, RdL w l ps cs) :
    ∀ (fl : List Field) (l : List Sh) (o : Nat) (cs : List Value), shMap (shOf P n) fl = some l → (∀ f ∈ fl, f.type < P.types.size) →
      (∀ (j : Nat) f, fl[j]? = some f → f.offset = o + ((fl.take j).map fun f => P.cellsOf f.type).sum) → cs.length = (fl.map fun f => P.cellsOf f.type).sum →
      (∀ f ∈ fl, ∃ fuel x, DataW.trod enc P w 0 spare held fuel f.type ((cs.drop (f.offset - o)).take (P.cellsOf f.type)) = some x) → ∃ ps, RdL w l ps cs
  | [], l, o, cs, hs, _, _, hl, _ => by
    simp [shMap] at hs
    subst hs
    have : cs = [] := by simpa using hl
    subst this
    exact ⟨[], .nil⟩
  | f :: r, l, o, cs, hs, ht, ho, hl, hr => by
    simp only [shMap] at hs
    split at hs
    case h_2 => cases hs
    rename_i a ha
    split at hs
    case h_2 => cases hs
    rename_i b hb
    cases hs
    have ho0 : f.offset = o := by simpa using ho 0 f rfl
    obtain ⟨fuel, x, hx⟩ := hr f (by simp)
    rw [ho0] at hx
    simp only [Nat.sub_self, List.drop_zero] at hx
    obtain ⟨ps, h1⟩ := ih f.type a (ht f (by simp)) ha fuel _ x hx
    have hl' : cs.length = P.cellsOf f.type + (r.map fun f => P.cellsOf f.type).sum := by simpa using hl
    obtain ⟨ps', h2⟩ := read_struct ih r b (o + P.cellsOf f.type) (cs.drop (P.cellsOf f.type)) hb (fun g hg => ht g (by simp [hg]))
      (fun j g hg => by
        have := ho (j + 1) g (by simpa using hg)
        simp only [List.take_succ_cons, List.map_cons, List.sum_cons] at this
        omega) (by rw [List.length_drop]; omega)
      (fun g hg => by
        obtain ⟨fuel, x, hx⟩ := hr g (by simp [hg])
        obtain ⟨j, hj⟩ := List.getElem?_of_mem hg
        have := ho (j + 1) g (by simpa using hj)
        simp only [List.take_succ_cons, List.map_cons, List.sum_cons] at this
        refine ⟨fuel, x, ?_⟩
        rw [List.drop_drop]
        have e : P.cellsOf f.type + (g.offset - (o + P.cellsOf f.type)) = g.offset - o := by omega
        rw [e]; exact hx)
    have := h1.append h2
    rw [List.take_append_drop] at this
    exact ⟨_, this⟩

theorem read_cells (hK : Kids P (· < P.types.size)) : ∀ (n : Nat) (t : TypeId) (l : List Sh), t < P.types.size → shOf P n t = some l → ∀ (fuel : Nat) (cs : List Value) (x : DataW H × List MemPlace), DataW.trod enc P w 0 spare held fuel t cs = some x → ∃ ps, RdL w l ps cs := by
  intro n
  induction n with
  | zero => intro t l _ h; simp [shOf] at h
  | succ n ih =>
    intro t l ht hs fuel cs x hx
    simp only [shOf] at hs
    split at hs
    case h_1 k hu =>
      cases hs
      obtain ⟨m, rfl, _, hw⟩ := DataW.trod_int hu hx
      exact ⟨[.c (.int k m)], .cons (.ik k m) (.c (wf_lit hw) rfl) rfl .nil⟩
    case h_2 hu =>
      cases hs
      obtain ⟨m, rfl, _⟩ := DataW.trod_bool hu hx
      exact ⟨[.c (.bool m)], .cons (.bb m) (.c trivial rfl) rfl .nil⟩
    case h_3 hu =>
      cases hs
      obtain ⟨m, rfl, _, hw⟩ := DataW.trod_string hu hx
      exact ⟨[.c (.string m)], .cons (.ss m) (.c hw rfl) rfl .nil⟩
    case h_4 e hu =>
      split at hs
      case h_2 => cases hs
      rename_i le he
      cases hs
      have hte := hK.slice ht hu
      rcases DataW.trod_slice hu hx with ⟨rfl, _⟩ | ⟨a, len, cap, elems, rest, m, _, rfl, _, _, hlc, hcm, hel, hget, _⟩
      · refine ⟨[.lst (le.map zSh) []], .cons (.sl (by simp) (by simp)) (.lst (es := []) rfl (Nat.zero_le _) (by simp [maxLen]) ⟨0, 0, none⟩ (by simp) (by simp) (by simp) (fun _ _ => undef) (by simp) (by simp) (by simp)) rfl .nil⟩
      · have key : ∀ i, i < len → ∃ y : List PV × List Value, RdL w le y.1 y.2 ∧ w.cells? 0 (a.add (i * P.cellsOf e)) (P.cellsOf e) = some y.2 := by
          intro i hi
          have h1 := hget i hi
          rw [List.getElem?_eq_getElem (by omega), Option.bind_eq_some_iff] at h1
          obtain ⟨cs', hc, ht'⟩ := h1
          obtain ⟨ps, hp⟩ := ih e le hte he m cs' _ ht'
          exact ⟨(ps, cs'), hp, hc⟩
        obtain ⟨ys, hyl, hys⟩ := pick_list len key
        have hle : ∀ i y, ys[i]? = some y → le.length = P.cellsOf e := fun i y hy => by
          obtain ⟨h1, h2⟩ := hys i y hy
          have := (World.cells?_some h2).2.1
          have := h1.len.2
          omega
        have hes : ∀ {i : Nat} {q : List PV}, (ys.map (·.1))[i]? = some q → ∃ y : List PV × List Value, ys[i]? = some y ∧ y.1 = q := fun {i q} hq => by
          rw [List.getElem?_map] at hq
          cases hy : ys[i]? with
          | none => rw [hy] at hq; simp at hq
          | some y => rw [hy] at hq; simp at hq; exact ⟨y, rfl, hq⟩
        have hcell : ∀ (i j : Nat) (y : List PV × List Value), ys[i]? = some y → j < le.length → w.cell? (a.add (i * (le.map zSh).length + j)) = some (y.2.getD j undef) := fun i j y hy hj => by
          obtain ⟨h1, h2⟩ := hys i y hy
          have e0 := hle i y hy
          have h3 := (World.cells?_some h2).2.2 j (by omega)
          rw [add_of_add] at h3
          rw [List.length_map, e0, h3, List.getD_eq_getElem?_getD, List.getElem?_eq_getElem (by have := h1.len.2; omega)]
          rfl
        have hmem : ∀ e ∈ ys.map (·.1), ∃ (y : List PV × List Value) (i : Nat), ys[i]? = some y ∧ y.1 = e := fun e he => by
          obtain ⟨i, hi⟩ := List.getElem?_of_mem he
          obtain ⟨y, h1, h2⟩ := hes hi
          exact ⟨y, i, h1, h2⟩
        refine ⟨[.lst (le.map zSh) (ys.map (·.1))], .cons (.sl (fun e he => ?_) (fun e he => ?_)) (.lst (es := ys.map (·.1)) (by simp [hyl]) hlc hcm a (fun _ => rfl) ?_ ?_ (fun i j => ((ys[i]?.map (·.2)).getD []).getD j undef) ?_ ?_ ?_) rfl .nil⟩
        · obtain ⟨y, i, hy, rfl⟩ := hmem e he
          exact (hys i y hy).1.len.1
        · obtain ⟨y, i, hy, rfl⟩ := hmem e he
          exact (hys i y hy).1.fit
        · intro h0 hz
          obtain ⟨y, hy⟩ : ∃ y, ys[0]? = some y := ⟨_, List.getElem?_eq_getElem (by omega)⟩
          have h3 := hcell 0 0 y hy (by simpa using hz)
          have := World.block_lt_of_cell? w _ h3
          rwa [block_of_add] at this
        · intro i q hq
          obtain ⟨y, hy, rfl⟩ := hes hq
          simpa using (hys i y hy).1.len.1
        · intro i j q p hq hp
          obtain ⟨y, hy, rfl⟩ := hes hq
          have hj : j < le.length := by rw [← (hys i y hy).1.len.1]; exact (List.getElem?_eq_some_iff.1 hp).1
          rw [hcell i j y hy hj, hy]; rfl
        · intro i j q p hq hp
          obtain ⟨y, hy, rfl⟩ := hes hq
          have hj : j < y.2.length := by rw [(hys i y hy).1.len.2, ← (hys i y hy).1.len.1]; exact (List.getElem?_eq_some_iff.1 hp).1
          have := ((hys i y hy).1.rel j p _ hp (List.getElem?_eq_getElem hj)).2
          simpa [hy, List.getD_eq_getElem?_getD, List.getElem?_eq_getElem hj] using this
        · intro i j q p hq hp
          obtain ⟨y, hy, rfl⟩ := hes hq
          have hj : j < y.2.length := by rw [(hys i y hy).1.len.2, ← (hys i y hy).1.len.1]; exact (List.getElem?_eq_some_iff.1 hp).1
          have := ((hys i y hy).1.rel j p _ hp (List.getElem?_eq_getElem hj)).1
          simpa [flagS, hy, List.getD_eq_getElem?_getD, List.getElem?_eq_getElem hj] using this
    case h_5 fs hu =>
      obtain ⟨xs, m, _, _, hlen, hxs, hget⟩ := DataW.trod_struct hu hx
      obtain ⟨k1, k2, k3⟩ := hK.struct ht hu
      refine read_struct ih fs.toList l 0 cs hs k1 (fun j f hf => by rw [k3 j f hf]; simp) (by rw [hlen, k2]) fun f hf => ?_
      obtain ⟨j, hj⟩ := List.getElem?_of_mem hf
      have hj' : fs[j]? = some f := by rw [← Array.getElem?_toList]; exact hj
      have := hget j f hj'
      have hlt : j < xs.length := by rw [hxs]; exact (Array.getElem?_eq_some_iff.1 hj').1
      rw [List.getElem?_eq_getElem hlt] at this
      exact ⟨m, _, by simpa using this⟩
    case h_6 => cases hs

/-- an argument -/
def argAV (P : Program) (t : TypeId) (ps : List PV) : AV := match P.underlying t with
  | some (.struct _) => .p .any (.agg ps)
  | _ => (match ps with
    | [.c v] => .p .flat (.c v)
    | [p] => .p .any p
    | _ => .junk)
def ArgsOf (P : Program) (n : Nat) : List TypeId → List AV → Prop
  | [], as => as = []
  | t :: ts, as => ∃ l ps r, shOf P n t = some l ∧ ps.length = l.length ∧ (∀ (j : Nat) (p : PV) (s : Sh), ps[j]? = some p → l[j]? = some s → Fit s p) ∧ as = argAV P t ps :: r ∧ ArgsOf P n ts r

theorem args_read (hK : Kids P (· < P.types.size)) (n : Nat) {base : Nat} : ∀ {ts : List TypeId} {vs : List Value} {ds : List (DataW H)} {pl : List MemPlace}, (∀ t ∈ ts, t < P.types.size ∧ (shOf P n t).isSome = true) →
    (∀ (j : Nat) t v, ts[j]? = some t → vs[j]? = some v → Value.okWide P w .any base t v) → DataW.TrodAll enc P w 0 spare held ts vs ds pl →
    ∃ as, ArgsOf P n ts as ∧ as.length = vs.length ∧ ∀ (j : Nat) (a : AV) (u : Value), as[j]? = some a → vs[j]? = some u → ∀ (plc : Nat → Pl) (L : Nat) (Fr : Nat → Prop), RelA plc L (fun b => b < w.heap.size) Fr w a u
  | [], [], _, _, _, _, _ => ⟨[], rfl, rfl, fun j a u h => by simp at h⟩
  | [], _ :: _, [], _, _, _, h => by cases h
  | [], _ :: _, _ :: _, _, _, _, h => by cases h
  | _ :: _, [], _, _, _, _, h => by cases h
  | _ :: _, _ :: _, [], _, _, _, h => by cases h
  | t :: ts, v :: vs, d :: ds, pl, ht, hv, ⟨p, q, h1, h2, _⟩ => by
    obtain ⟨as, hA, hl, hr⟩ := args_read hK n (fun t h => ht t (by simp [h])) (fun j t v h h' => hv (j + 1) t v (by simpa using h) (by simpa using h')) h2
    obtain ⟨ht1, hsh⟩ := ht t (by simp)
    obtain ⟨l, hl1⟩ := Option.isSome_iff_exists.1 hsh
    obtain ⟨fuel, hf⟩ := h1
    obtain ⟨ps, hps⟩ := read_cells hK n t l ht1 hl1 fuel _ _ hf
    refine ⟨argAV P t ps :: as, ⟨l, ps, as, hl1, hps.len.1, hps.fit, rfl, hA⟩, by simp [hl], fun j a u ha hu plc L Fr => ?_⟩
    cases j with
    | succ j => exact hr j a u (by simpa using ha) (by simpa using hu) plc L Fr
    | zero =>
      simp at ha hu
      subst ha hu
      have hval := hv 0 t v rfl rfl
      have hstruct : ∀ fs, P.underlying t = some (.struct fs) → ∃ arr, v = .agg arr := fun fs hu => by
        unfold Value.okWide at hval
        rw [hu] at hval
        obtain ⟨arr, rfl, _⟩ := hval
        exact ⟨arr, rfl⟩
      unfold argAV
      split
      · rename_i fs hu
        obtain ⟨arr, rfl⟩ := hstruct fs hu
        have hc : (Value.agg arr).cells.toList = arr.toList := rfl
        rw [hc] at hps
        refine .p (.agg (by have := hps.len; simp at this; omega) (fun j u hu => ?_) (fun j p u hp hu => ?_))
        · have hu' : arr.toList[j]? = some u := by rw [Array.getElem?_toList]; exact hu
          have hlt : j < ps.length := by have := hps.len; have := (List.getElem?_eq_some_iff.1 hu').1; omega
          exact (hps.rel j _ u (List.getElem?_eq_getElem hlt) hu').2
        · have hu' : arr.toList[j]? = some u := by rw [Array.getElem?_toList]; exact hu
          exact (hps.rel j p u hp hu').1
      · rename_i hns
        have hone : v.cells = #[v] := by
          cases v with
          | agg arr =>
            exfalso
            unfold Value.okWide at hval
            split at hval
            · rename_i fs hu; exact hns fs hu
            · rename_i m e hu
              obtain ⟨k, rfl⟩ : ∃ k, n = k + 1 := by cases n with | zero => simp [shOf] at hl1 | succ k => exact ⟨k, rfl⟩
              simp [shOf, hu] at hl1
            · simp only [Cell.okWide] at hval
              split at hval <;> first | (simp_all; done) | skip
              all_goals (simp only [Cell.ok] at hval; split at hval <;> simp_all)
          | _ => rfl
        rw [hone] at hps
        have hlen := hps.len
        have h1 : ps.length = 1 := by simp at hlen; omega
        obtain ⟨p0, rfl⟩ := List.length_eq_one_iff.1 h1
        obtain ⟨hr0, h10⟩ := hps.rel 0 p0 v rfl rfl
        cases p0 with
        | c x => exact .p hr0.scalar
        | _ => exact .p hr0

open Go.ChangeShapes Go.WideShapes Go.ChangeAt in
/-- the post of a law: true, and the arguments read as they did -/
theorem post_true {f : Func} {s : ChangeSpec} {W W' : World} {args : Array Value} {ds gs : List (DataW H)} {before : List MemPlace} {tb : TypeId} (hK : Kids P (· < P.types.size)) (hz : ∀ t e, t < P.types.size → P.underlying t = some (.slice e) → 0 < P.cellsOf e)
    (hts : ∀ t ∈ f.params.toList, t < P.types.size) (hres : f.resultTypes = #[tb]) (htb : P.underlying tb = some .bool) (hvars : s.vars = [])
    (hW : DataW.Whole enc P f.params.toList s.vars false W args.toList ds gs before) (hfn : s.fn H (ds ++ gs) = { results := [.lit (.bool true)], args := ds })
    (hos : W'.os = W.os) (hout : W'.output = W.output) (hheap : ∀ b, b < W.heap.size → W'.heap[b]? = W.heap[b]?) :
    s.post enc P f false true false false W args (.bool true) W' := by
  have hW' := hW
  have hlt := hW.lt
  obtain ⟨pa, pv, hA, hV, hps, hz', hn⟩ := hW
  rw [hvars] at hV
  obtain ⟨hg, rfl⟩ := trodVars_none hV
  have hcell : ∀ a : Addr, a.block < W.heap.size → W'.cell? a = W.cell? a := fun a ha => World.cell?_of_block (hheap _ ha)
  have hsame : ∀ p ∈ pa, W.sameAt W' p := by
    intro p hp
    have hb := hlt p (by rw [hps]; simpa using hp)
    cases p with
    | cell b off => exact hcell ⟨b, off, none⟩ hb
    | map b => exact hheap _ hb
  have hargs : ∀ sp : Nat → Bool, (∀ p ∈ before, sp p.block = true) → DataW.TrodAll enc P W' 0 sp true f.params.toList args.toList ds pa := by
    intro sp hsp
    refine DataW.TrodAll.respare hK hz (fun t ht => hts t ht) ?_ (fun p hp => hsp p (by rw [hps]; simpa using hp))
    have carry : ∀ {ts : List TypeId} {vs : List Value} {ds : List (DataW H)} {pl : List MemPlace}, DataW.TrodAll enc P W 0 (fun _ => true) true ts vs ds pl → (∀ p ∈ pl, W.sameAt W' p) → DataW.TrodAll enc P W' 0 (fun _ => true) true ts vs ds pl := by
      intro ts
      induction ts with
      | nil =>
        intro vs ds pl h _
        match vs, ds, h with
        | [], [], h => exact h
      | cons t ts ih =>
        intro vs ds pl h hs
        match vs, ds, h with
        | v :: vs, d :: ds, ⟨p, q, ⟨n, h1⟩, h2, e⟩ =>
          exact ⟨p, q, ⟨n, DataW.trod_carry n _ _ _ h1 (fun x hx => hs x (by rw [e]; exact List.mem_append_left _ hx))⟩, ih h2 (fun x hx => hs x (by rw [e]; exact List.mem_append_right _ hx)), e⟩
    exact carry hA hsame
  have hold : ∀ p ∈ before, (fun b => decide (b < W.heap.size)) p.block = true := fun p hp => by simpa using hlt p hp
  have hresT : ∀ (b : Nat) (sp : Nat → Bool) (hd : Bool), DataW.TrodAll enc P W' b sp hd f.resultTypes.toList ((Value.bool true).resultList f.resultTypes.size) [.lit (.bool true)] [] := by
    intro b sp hd
    rw [hres]
    exact trodAll_cons_mk (shut_bool htb _) trodAll_mk0
  have hvT : ∀ sp : Nat → Bool, DataW.TrodVars enc P W' sp s.vars (s.fn H (ds ++ gs)).vars [] := by
    intro sp; rw [hvars, hfn]; rfl
  refine ⟨ds, gs, before, [], pa, [], hW', by rw [hfn]; exact hresT _ _ _, by rw [hfn]; exact hargs _ hold, hvT _, ?_, fun _ => ⟨?_, _, _, ([] ++ pa) ++ [], ⟨[] ++ pa, [], trodAll_append (hargs _ (fun _ _ => rfl)) (hresT _ _ _), hvT _, rfl, ?_, ?_⟩, ?_⟩⟩
  · refine ⟨hos, hout, fun i hi => ?_⟩
    rw [hheap i hi]
    split
    · rename_i h1 h2; rw [h1] at h2; cases h2; exact ⟨rfl, rfl, rfl, fun _ _ => rfl⟩
    · rename_i h1 h2; rw [h1] at h2; cases h2; exact .inr ⟨rfl, rfl⟩
    · rfl
  · exact ok_one hres rfl (okWide_bool_mk htb _)
  · intro b off hp
    have hp' : MemPlace.cell b off ∈ before := by rw [hps]; simpa using hp
    have hb := hlt _ hp'
    have := hz' b off hp'
    have e : W'.frozen? ⟨b, off, none⟩ = W.frozen? ⟨b, off, none⟩ := by
      have hh : W'.heap[b]? = W.heap[b]? := hheap b hb
      simp only [World.frozen?, hh]
    rw [e]; exact this
  · intro h; cases h
  · intro p hp _
    rw [hps]; simpa using hp

/-- A LAW: what its contract gives for its row -/
theorem law_calls {f : FuncId} {fn : Func} {s : ChangeSpec} {tb : TypeId} {W : World} {base : Nat} {args : Array Value} {ds gs : List (DataW H)} {before : List MemPlace} (hlaid : laidOutB P = true) (hm : mapsRowed P = true)
    (hz : ((List.range P.types.size).all fun t => match P.underlying t with | some (.slice e) => decide (0 < P.cellsOf e) | _ => true) = true)
    (hsh : (fn.params.toList.all fun t => decide (t < P.types.size) && (shOf P 6 t).isSome) = true) (hres : fn.resultTypes = #[tb]) (htb : P.underlying tb = some .bool) (hvars : s.vars = [])
    (hsem : ∀ as, ArgsOf P 6 fn.params.toList as → FnSem P f as [] (Is [Bo true] []))
    (hval : ∀ (j : Nat) t v, fn.params[j]? = some t → args[j]? = some v → Value.okWide P W .any base t v)
    (hW : DataW.Whole enc P fn.params.toList s.vars false W args.toList ds gs before) (hfn : s.fn H (ds ++ gs) = { results := [.lit (.bool true)], args := ds }) :
    Calls P f args W fun e W' => ∃ v, e = .returned v ∧ s.post enc P fn false true false false W args v W' := by
  have hK := kids_rows hlaid hm
  have hts : ∀ t ∈ fn.params.toList, t < P.types.size ∧ (shOf P 6 t).isSome = true := fun t ht => by
    have := List.all_eq_true.1 hsh t ht
    simpa using this
  obtain ⟨pa, pv, hA, hV, hps, _⟩ := id hW
  obtain ⟨as, h1, h2, h3⟩ := args_read hK 6 hts (fun j t v ht hv => hval j t v (by rw [← Array.getElem?_toList]; exact ht) (by rw [← Array.getElem?_toList]; exact hv)) hA
  have hst : ∀ b, b < W.heap.size → Sany (fun b => b < W.heap.size) W.heap.size (fun _ => ⟨0, 0, 0, 0⟩) [] W b := fun b hb => ⟨⟨hb, fun k hk => (live_nil hk).elim⟩, .inl hb⟩
  refine ((hsem as h1).2 W args (fun _ => ⟨0, 0, 0, 0⟩) (fun b => b < W.heap.size) (fun b hb => ⟨hb, fun k hk => (live_nil hk).elim⟩) ?_).mono ?_
  · refine ⟨fun k hk => (live_nil hk).elim, fun k hk => by simp [isnew] at hk, fun k k' hk => (live_nil hk).elim, fun k ob hk => by simp at hk, by simpa using h2.symm, fun j a u ha hu => ?_⟩
    refine (h3 j a u ha (by rw [Array.getElem?_toList]; exact hu) (fun _ => ⟨0, 0, 0, 0⟩) 0 (Fresh W.heap.size (fun _ => ⟨0, 0, 0, 0⟩) [] W)).mono (Nat.le_refl _) (fun _ _ => rfl) hst (fun _ h => h) (fun _ _ => rfl) (fun _ _ => rfl)
  · rintro e W' ⟨v, vs, hout, pl', rfl, ⟨rfl, rfl⟩, hB⟩
    have hv : v = .bool true := hB.res.cinv.1
    subst hv
    exact ⟨_, rfl, post_true hK (slices_full_of P hz) (fun t ht => (hts t ht).1) hres htb hvars hW hfn hB.os hB.output fun b hb => hB.frame b ⟨hb, fun k hk => (live_nil hk).elim⟩⟩
end
end Go.Av

namespace Go.Av
open Go.RowKit

/-! COMMON FORMS: what data look like as abstract values, and the small equations that walks ask for. -/
abbrev In (x : Int) : AV := .p .flat (.c (.int .i64 x))
abbrev By (x : Int) : AV := .p .flat (.c (.int .u8 x))
abbrev Str (s : ByteArray) : AV := .p .flat (.c (.string s))
def eI (x : Int) : List PV := [.c (.int .i64 x)]
def eY (x : Int) : List PV := [.c (.int .u8 x)]
def eB (b : Bool) : List PV := [.c (.bool b)]
def eS (s : ByteArray) : List PV := [.c (.string s)]
def eLI (xs : List Int) : List PV := [.lst (eI 0) (xs.map eI)]
def eLB (xs : List Bool) : List PV := [.lst (eB false) (xs.map eB)]
def eLS (xs : List ByteArray) : List PV := [.lst (eS ⟨#[]⟩) (xs.map eS)]
def zL : List PV := [.c (.slice none 0 0)]
abbrev LI (xs : List Int) : PV := .lst (eI 0) (xs.map eI)
abbrev LY (xs : List Int) : PV := .lst (eY 0) (xs.map eY)
abbrev LB (xs : List Bool) : PV := .lst (eB false) (xs.map eB)
abbrev LS (xs : List ByteArray) : PV := .lst (eS ⟨#[]⟩) (xs.map eS)
abbrev LLI (xs : List (List Int)) : PV := .lst zL (xs.map eLI)
abbrev LLB (xs : List (List Bool)) : PV := .lst zL (xs.map eLB)
abbrev LLS (xs : List (List ByteArray)) : PV := .lst zL (xs.map eLS)
/-- given, for reading -/
abbrev Lx (v : PV) : AV := .p .any v
abbrev Rw (fl : Fl) (z : List PV) (es : List (List PV)) : OB := .row true fl z es

def zs0 : TypeId → List PV := fun _ => []

section
variable {α : Type} (f : α → List PV)
theorem gm {xs : List α} {n : Nat} {z : List PV} (d : α) (h : z = f d) : (xs.map f).getD n z = f (xs.getD n d) := by
  simp only [List.getD_eq_getElem?_getD, List.getElem?_map, h]
  cases xs[n]? <;> rfl
theorem gmb {xs : List α} {n : Nat} {z : List PV} (d : α) (h : n < xs.length) : (xs.map f).getD n z = f (xs.getD n d) := by
  simp [List.getD_eq_getElem?_getD, h]
theorem sn {xs : List α} {n : Nat} {v : α} (h : n = xs.length) : ((xs.map f).drop 0).take n ++ [f v] = (xs ++ [v]).map f := by
  subst h
  rw [List.drop_zero, List.take_of_length_le (by simp)]; simp
theorem sn0 {n : Nat} {v : α} : (([] : List (List PV)).drop 0).take n ++ [f v] = [v].map f := by simp
theorem tk {xs : List α} {n : Nat} (h : n = xs.length) : ((xs.map f).drop 0).take n = xs.map f := by
  subst h
  rw [List.drop_zero, List.take_of_length_le (by simp)]
theorem tk0 {n : Nat} : (([] : List (List PV)).drop 0).take n = ([] : List α).map f := by simp
theorem dt {xs : List α} {l n : Nat} : ((xs.map f).drop l).take n = ((xs.drop l).take n).map f := by
  rw [List.map_take, List.map_drop]
theorem ap {xs ys : List α} {n : Nat} (h : n = xs.length) : ((xs.map f).drop 0).take n ++ ys.map f = (xs ++ ys).map f := by
  rw [tk f h, List.map_append]
theorem ap0 {ys : List α} {n : Nat} : (([] : List (List PV)).drop 0).take n ++ ys.map f = ys.map f := by simp
theorem st {xs : List α} {i : Nat} {v : α} : (xs.map f).set i (f v) = (xs.set i v).map f := by
  rw [List.map_set]
theorem rp {n : Nat} (d : α) : List.replicate n (f d) = (List.replicate n d).map f := by simp
theorem ln {xs : List α} : (xs.map f).length = xs.length := List.length_map f
end

theorem bytes_nil {s : ByteArray} : s = ⟨#[]⟩ ↔ s.size = 0 := by
  constructor
  · rintro rfl; rfl
  · intro h; cases s with | mk d => congr; exact Array.eq_empty_of_size_eq_zero h
theorem wrapI {n : Int} (h1 : -9223372036854775808 ≤ n) (h2 : n ≤ 9223372036854775807) : IntKind.i64.wrap n = n := (wrap_eq_iff .i64 n).2 ⟨h1, h2⟩
theorem wrapD {a b : Int} (h0 : 0 ≤ a) (h1 : 0 < b) (h2 : a ≤ 9223372036854775807) : IntKind.i64.wrap (a.tdiv b) = a / b := by
  rw [Int.tdiv_eq_ediv_of_nonneg h0]
  exact wrapI (by have := Int.ediv_nonneg h0 (Int.le_of_lt h1); omega) (Int.le_trans (Int.ediv_le_self _ h0) h2)
theorem modE {a b : Int} (h0 : 0 ≤ a) : a.tmod b = a % b := Int.tmod_eq_emod_of_nonneg h0
theorem wrapY {n : Int} (h1 : 0 ≤ n) (h2 : n ≤ 255) : IntKind.u8.wrap n = n := (wrap_eq_iff .u8 n).2 ⟨h1, h2⟩

theorem wf_I {fl : Fl} {x : Int} (h : wfA (.p fl (.c (.int .i64 x)))) : -9223372036854775808 ≤ x ∧ x ≤ 9223372036854775807 := (wrap_eq_iff .i64 x).1 h
theorem wf_Y {fl : Fl} {x : Int} (h : wfA (.p fl (.c (.int .u8 x)))) : 0 ≤ x ∧ x ≤ 255 := (wrap_eq_iff .u8 x).1 h
theorem wf_S {fl : Fl} {s : ByteArray} (h : wfA (.p fl (.c (.string s)))) : s.size ≤ 9223372036854775807 := h
theorem wf_LI {fl : Fl} {z : List PV} {xs : List Int} (h : wfA (.p fl (.lst z (xs.map eI)))) : xs.length ≤ 9223372036854775807 ∧ ∀ x ∈ xs, -9223372036854775808 ≤ x ∧ x ≤ 9223372036854775807 := by
  refine ⟨by simpa [maxLen] using h.1, fun x hx => (wrap_eq_iff .i64 x).1 (h.2 (eI x) (List.mem_map_of_mem hx) (.c (.int .i64 x)) (by simp [eI]))⟩
theorem wf_LY {fl : Fl} {z : List PV} {xs : List Int} (h : wfA (.p fl (.lst z (xs.map eY)))) : xs.length ≤ 9223372036854775807 ∧ ∀ x ∈ xs, 0 ≤ x ∧ x ≤ 255 := by
  refine ⟨by simpa [maxLen] using h.1, fun x hx => (wrap_eq_iff .u8 x).1 (h.2 (eY x) (List.mem_map_of_mem hx) (.c (.int .u8 x)) (by simp [eY]))⟩
theorem wf_LLI {fl : Fl} {z : List PV} {xs : List (List Int)} (h : wfA (.p fl (.lst z (xs.map eLI)))) : xs.length ≤ 9223372036854775807 ∧ ∀ ys ∈ xs, ys.length ≤ 9223372036854775807 ∧ ∀ x ∈ ys, -9223372036854775808 ≤ x ∧ x ≤ 9223372036854775807 := by
  refine ⟨by simpa [maxLen] using h.1, fun ys hy => ?_⟩
  have h1 := h.2 (eLI ys) (List.mem_map_of_mem hy) (.lst (eI 0) (ys.map eI)) (by simp [eLI])
  exact ⟨by simpa [maxLen] using h1.1, fun x hx => (wrap_eq_iff .i64 x).1 (h1.2 (eI x) (List.mem_map_of_mem hx) (.c (.int .i64 x)) (by simp [eI]))⟩
theorem wf_Ls {α : Type} {f : α → List PV} {fl : Fl} {z : List PV} {xs : List α} (h : wfA (.p fl (.lst z (xs.map f)))) : xs.length ≤ 9223372036854775807 := by
  simpa [maxLen] using h.1

theorem ite_and_p (p : Prop) [Decidable p] (b : Bool) : (if p then b else false) = (decide p && b) := by by_cases h : p <;> simp [h]
theorem ite_or_p (p : Prop) [Decidable p] (b : Bool) : (if p then true else b) = (decide p || b) := by by_cases h : p <;> simp [h]


/-! What came in, by its shape. -/
def FitL (l : List Sh) (ps : List PV) : Prop := ps.length = l.length ∧ ∀ (j : Nat) (p : PV) (s : Sh), ps[j]? = some p → l[j]? = some s → Fit s p
theorem FitL.cons {s : Sh} {l : List Sh} {ps : List PV} (h : FitL (s :: l) ps) : ∃ p r, ps = p :: r ∧ Fit s p ∧ FitL l r := by
  obtain ⟨h1, h2⟩ := h
  cases ps with
  | nil => simp at h1
  | cons p r => exact ⟨p, r, rfl, h2 0 p s rfl rfl, by simpa using h1, fun j q t hq ht => h2 (j + 1) q t (by simpa using hq) (by simpa using ht)⟩
theorem FitL.nil {ps : List PV} (h : FitL [] ps) : ps = [] := by simpa [FitL] using h.1
theorem fit_i {k : IntKind} {p : PV} (h : Fit (.ik k) p) : ∃ n, p = .c (.int k n) := by cases h; exact ⟨_, rfl⟩
theorem fit_b {p : PV} (h : Fit .bb p) : ∃ n, p = .c (.bool n) := by cases h; exact ⟨_, rfl⟩
theorem fit_s {p : PV} (h : Fit .ss p) : ∃ n, p = .c (.string n) := by cases h; exact ⟨_, rfl⟩
theorem map_of {α : Type} {f : α → List PV} : ∀ {es : List (List PV)}, (∀ e ∈ es, ∃ x, e = f x) → ∃ xs : List α, es = xs.map f
  | [], _ => ⟨[], rfl⟩
  | e :: r, h => by
    obtain ⟨x, hx⟩ := h e (by simp)
    obtain ⟨xs, hxs⟩ := map_of (es := r) fun e he => h e (by simp [he])
    exact ⟨x :: xs, by simp [hx, hxs]⟩
theorem fit_sl {α : Type} (f : α → List PV) {l : List Sh} (hf : ∀ e, FitL l e → ∃ x, e = f x) {p : PV} (h : Fit (.sl l) p) : ∃ xs : List α, p = .lst (l.map zSh) (xs.map f) := by
  cases h with
  | sl h1 h2 =>
    obtain ⟨xs, hxs⟩ := map_of (f := f) fun e he => hf e ⟨h1 e he, h2 e he⟩
    exact ⟨xs, by rw [hxs]⟩
theorem fit_LI {p : PV} (h : Fit (.sl [.ik .i64]) p) : ∃ xs, p = LI xs := by
  refine fit_sl eI (fun e he => ?_) h
  obtain ⟨p0, r, rfl, hf, he⟩ := he.cons
  obtain rfl := he.nil
  obtain ⟨n, rfl⟩ := fit_i hf
  exact ⟨n, rfl⟩
theorem fit_LY {p : PV} (h : Fit (.sl [.ik .u8]) p) : ∃ xs, p = LY xs := by
  refine fit_sl eY (fun e he => ?_) h
  obtain ⟨p0, r, rfl, hf, he⟩ := he.cons
  obtain rfl := he.nil
  obtain ⟨n, rfl⟩ := fit_i hf
  exact ⟨n, rfl⟩
theorem fit_LB {p : PV} (h : Fit (.sl [.bb]) p) : ∃ xs, p = LB xs := by
  refine fit_sl eB (fun e he => ?_) h
  obtain ⟨p0, r, rfl, hf, he⟩ := he.cons
  obtain rfl := he.nil
  obtain ⟨n, rfl⟩ := fit_b hf
  exact ⟨n, rfl⟩
theorem fit_LS {p : PV} (h : Fit (.sl [.ss]) p) : ∃ xs, p = LS xs := by
  refine fit_sl eS (fun e he => ?_) h
  obtain ⟨p0, r, rfl, hf, he⟩ := he.cons
  obtain rfl := he.nil
  obtain ⟨n, rfl⟩ := fit_s hf
  exact ⟨n, rfl⟩
theorem fit_LLI {p : PV} (h : Fit (.sl [.sl [.ik .i64]]) p) : ∃ xs, p = LLI xs := by
  refine fit_sl eLI (fun e he => ?_) h
  obtain ⟨p0, r, rfl, hf, he⟩ := he.cons
  obtain rfl := he.nil
  obtain ⟨n, rfl⟩ := fit_LI hf
  exact ⟨n, rfl⟩

theorem ArgsOf.cons {P : Program} {n : Nat} {t : TypeId} {ts : List TypeId} {as : List AV} {l : List Sh} (hl : shOf P n t = some l) (h : ArgsOf P n (t :: ts) as) : ∃ ps r, FitL l ps ∧ as = argAV P t ps :: r ∧ ArgsOf P n ts r := by
  obtain ⟨l', ps, r, h1, h2, h3, h4, h5⟩ := h
  rw [hl] at h1; cases h1
  exact ⟨ps, r, ⟨h2, h3⟩, h4, h5⟩
theorem argAV_struct {P : Program} {t : TypeId} {fs : Array Field} {ps : List PV} (h : P.underlying t = some (.struct fs)) : argAV P t ps = .p .any (.agg ps) := by unfold argAV; rw [h]
theorem argAV_c {P : Program} {t : TypeId} {v : Value} (h : ∀ fs, P.underlying t ≠ some (.struct fs)) : argAV P t [.c v] = .p .flat (.c v) := by
  unfold argAV; split
  · rename_i fs hh; exact absurd hh (h fs)
  · rfl
theorem argAV_l {P : Program} {t : TypeId} {z : List PV} {es : List (List PV)} (h : ∀ fs, P.underlying t ≠ some (.struct fs)) : argAV P t [.lst z es] = .p .any (.lst z es) := by
  unfold argAV; split
  · rename_i fs hh; exact absurd hh (h fs)
  · rfl
theorem trodAll_len {H : Type} {enc : TypeId × Value → H} {P : Program} {w : World} {b : Nat} {sp : Nat → Bool} {hd : Bool} : ∀ {ts : List TypeId} {vs : List Value} {ds : List (DataW H)} {ps : List MemPlace}, DataW.TrodAll enc P w b sp hd ts vs ds ps → ds.length = ts.length
  | [], [], [], _, _ => rfl
  | _ :: _, _ :: _, _ :: _, _, ⟨_, _, _, h, _⟩ => by simp [trodAll_len h]
end Go.Av

namespace Go.Av
open Go.RowKit

structure GAir where
  temperature : Int
  pressure : Int
  humidity : Int
deriving DecidableEq
instance : Inhabited GAir := ⟨⟨0, 0, 0⟩⟩
def GAir.cells (x : GAir) : List PV := [.c (.int .i64 x.temperature), .c (.int .i64 x.pressure), .c (.int .i64 x.humidity)]
def GAir.z : List PV := [.c (.int .i64 0), .c (.int .i64 0), .c (.int .i64 0)]
theorem eta_Air (x : GAir) : (⟨x.temperature, x.pressure, x.humidity⟩ : GAir) = x := rfl
def GAir.sz (x : GAir) : Nat := 0
def GAir.wf (x : GAir) : Prop := (-9223372036854775808 ≤ x.temperature ∧ x.temperature ≤ 9223372036854775807) ∧ (-9223372036854775808 ≤ x.pressure ∧ x.pressure ≤ 9223372036854775807) ∧ (-9223372036854775808 ≤ x.humidity ∧ x.humidity ≤ 9223372036854775807)
theorem wf_cells_Air {d : Nat} {x : GAir} (h : ∀ p ∈ x.cells, wfN (d + 2) p) : x.wf := by
  refine ⟨(wrap_eq_iff .i64 _).1 (h (.c (.int .i64 x.temperature)) (by simp [GAir.cells])), (wrap_eq_iff .i64 _).1 (h (.c (.int .i64 x.pressure)) (by simp [GAir.cells])), (wrap_eq_iff .i64 _).1 (h (.c (.int .i64 x.humidity)) (by simp [GAir.cells]))⟩
theorem wf_Air {fl : Fl} {x : GAir} (h : wfA (.p fl (.agg x.cells))) : x.wf := wf_cells_Air (d := 1) h
theorem wfr_Air {fl : Fl} {x : GAir} (h : wfA (.p fl (.ref x.cells))) : x.wf := wf_cells_Air (d := 1) h
theorem wf_LAir {fl : Fl} {z : List PV} {xs : List GAir} (h : wfA (.p fl (.lst z (xs.map GAir.cells)))) : xs.length ≤ 9223372036854775807 ∧ ∀ x ∈ xs, x.wf :=
  ⟨by simpa [maxLen] using h.1, fun x hx => wf_cells_Air (d := 1) (h.2 _ (List.mem_map_of_mem hx))⟩

structure GAirway where
  id : ByteArray
  from_ : Int
  to : Int
  length : Int
  section_ : Int
  friction : Int
  shock : Int
deriving DecidableEq
instance : Inhabited GAirway := ⟨⟨⟨#[]⟩, 0, 0, 0, 0, 0, 0⟩⟩
def GAirway.cells (x : GAirway) : List PV := [.c (.string x.id), .c (.int .i64 x.from_), .c (.int .i64 x.to), .c (.int .i64 x.length), .c (.int .i64 x.section_), .c (.int .i64 x.friction), .c (.int .i64 x.shock)]
def GAirway.z : List PV := [.c (.string ⟨#[]⟩), .c (.int .i64 0), .c (.int .i64 0), .c (.int .i64 0), .c (.int .i64 0), .c (.int .i64 0), .c (.int .i64 0)]
theorem eta_Airway (x : GAirway) : (⟨x.id, x.from_, x.to, x.length, x.section_, x.friction, x.shock⟩ : GAirway) = x := rfl
def GAirway.sz (x : GAirway) : Nat := x.id.size
def GAirway.wf (x : GAirway) : Prop := x.id.size ≤ 9223372036854775807 ∧ (-9223372036854775808 ≤ x.from_ ∧ x.from_ ≤ 9223372036854775807) ∧ (-9223372036854775808 ≤ x.to ∧ x.to ≤ 9223372036854775807) ∧ (-9223372036854775808 ≤ x.length ∧ x.length ≤ 9223372036854775807) ∧ (-9223372036854775808 ≤ x.section_ ∧ x.section_ ≤ 9223372036854775807) ∧ (-9223372036854775808 ≤ x.friction ∧ x.friction ≤ 9223372036854775807) ∧ (-9223372036854775808 ≤ x.shock ∧ x.shock ≤ 9223372036854775807)
theorem wf_cells_Airway {d : Nat} {x : GAirway} (h : ∀ p ∈ x.cells, wfN (d + 2) p) : x.wf := by
  refine ⟨(h (.c (.string x.id)) (by simp [GAirway.cells])), (wrap_eq_iff .i64 _).1 (h (.c (.int .i64 x.from_)) (by simp [GAirway.cells])), (wrap_eq_iff .i64 _).1 (h (.c (.int .i64 x.to)) (by simp [GAirway.cells])), (wrap_eq_iff .i64 _).1 (h (.c (.int .i64 x.length)) (by simp [GAirway.cells])), (wrap_eq_iff .i64 _).1 (h (.c (.int .i64 x.section_)) (by simp [GAirway.cells])), (wrap_eq_iff .i64 _).1 (h (.c (.int .i64 x.friction)) (by simp [GAirway.cells])), (wrap_eq_iff .i64 _).1 (h (.c (.int .i64 x.shock)) (by simp [GAirway.cells]))⟩
theorem wf_Airway {fl : Fl} {x : GAirway} (h : wfA (.p fl (.agg x.cells))) : x.wf := wf_cells_Airway (d := 1) h
theorem wfr_Airway {fl : Fl} {x : GAirway} (h : wfA (.p fl (.ref x.cells))) : x.wf := wf_cells_Airway (d := 1) h
theorem wf_LAirway {fl : Fl} {z : List PV} {xs : List GAirway} (h : wfA (.p fl (.lst z (xs.map GAirway.cells)))) : xs.length ≤ 9223372036854775807 ∧ ∀ x ∈ xs, x.wf :=
  ⟨by simpa [maxLen] using h.1, fun x hx => wf_cells_Airway (d := 1) (h.2 _ (List.mem_map_of_mem hx))⟩

structure GMine where
  junctions : Int
  airways : List GAirway
deriving DecidableEq
instance : Inhabited GMine := ⟨⟨0, []⟩⟩
def GMine.cells (x : GMine) : List PV := [.c (.int .i64 x.junctions), .lst (GAirway.cells default) (x.airways.map GAirway.cells)]
def GMine.z : List PV := [.c (.int .i64 0), .c (.slice none 0 0)]
theorem eta_Mine (x : GMine) : (⟨x.junctions, x.airways⟩ : GMine) = x := rfl
def GMine.sz (x : GMine) : Nat := 0
def GMine.wf (x : GMine) : Prop := (-9223372036854775808 ≤ x.junctions ∧ x.junctions ≤ 9223372036854775807) ∧ (x.airways.length ≤ 9223372036854775807 ∧ ∀ y ∈ x.airways, y.wf)
theorem wf_cells_Mine {d : Nat} {x : GMine} (h : ∀ p ∈ x.cells, wfN (d + 3) p) : x.wf := by
  refine ⟨(wrap_eq_iff .i64 _).1 (h (.c (.int .i64 x.junctions)) (by simp [GMine.cells])), (by have h1 := (h (.lst (GAirway.cells default) (x.airways.map GAirway.cells)) (by simp [GMine.cells])); exact ⟨by simpa [maxLen] using h1.1, fun y hy => wf_cells_Airway (d := d) (h1.2 _ (List.mem_map_of_mem hy))⟩)⟩
theorem wf_Mine {fl : Fl} {x : GMine} (h : wfA (.p fl (.agg x.cells))) : x.wf := wf_cells_Mine (d := 0) h
theorem wfr_Mine {fl : Fl} {x : GMine} (h : wfA (.p fl (.ref x.cells))) : x.wf := wf_cells_Mine (d := 0) h
theorem wf_LMine {fl : Fl} {z : List PV} {xs : List GMine} (h : wfA (.p fl (.lst z (xs.map GMine.cells)))) : xs.length ≤ 9223372036854775807 ∧ ∀ x ∈ xs, x.wf :=
  ⟨by simpa [maxLen] using h.1, fun x hx => wf_cells_Mine (d := 0) (h.2 _ (List.mem_map_of_mem hx))⟩

structure GSurvey where
  airway : ByteArray
  drop : Int
  dropError : Int
  flow : Int
  flowError : Int
deriving DecidableEq
instance : Inhabited GSurvey := ⟨⟨⟨#[]⟩, 0, 0, 0, 0⟩⟩
def GSurvey.cells (x : GSurvey) : List PV := [.c (.string x.airway), .c (.int .i64 x.drop), .c (.int .i64 x.dropError), .c (.int .i64 x.flow), .c (.int .i64 x.flowError)]
def GSurvey.z : List PV := [.c (.string ⟨#[]⟩), .c (.int .i64 0), .c (.int .i64 0), .c (.int .i64 0), .c (.int .i64 0)]
theorem eta_Survey (x : GSurvey) : (⟨x.airway, x.drop, x.dropError, x.flow, x.flowError⟩ : GSurvey) = x := rfl
def GSurvey.sz (x : GSurvey) : Nat := x.airway.size
def GSurvey.wf (x : GSurvey) : Prop := x.airway.size ≤ 9223372036854775807 ∧ (-9223372036854775808 ≤ x.drop ∧ x.drop ≤ 9223372036854775807) ∧ (-9223372036854775808 ≤ x.dropError ∧ x.dropError ≤ 9223372036854775807) ∧ (-9223372036854775808 ≤ x.flow ∧ x.flow ≤ 9223372036854775807) ∧ (-9223372036854775808 ≤ x.flowError ∧ x.flowError ≤ 9223372036854775807)
theorem wf_cells_Survey {d : Nat} {x : GSurvey} (h : ∀ p ∈ x.cells, wfN (d + 2) p) : x.wf := by
  refine ⟨(h (.c (.string x.airway)) (by simp [GSurvey.cells])), (wrap_eq_iff .i64 _).1 (h (.c (.int .i64 x.drop)) (by simp [GSurvey.cells])), (wrap_eq_iff .i64 _).1 (h (.c (.int .i64 x.dropError)) (by simp [GSurvey.cells])), (wrap_eq_iff .i64 _).1 (h (.c (.int .i64 x.flow)) (by simp [GSurvey.cells])), (wrap_eq_iff .i64 _).1 (h (.c (.int .i64 x.flowError)) (by simp [GSurvey.cells]))⟩
theorem wf_Survey {fl : Fl} {x : GSurvey} (h : wfA (.p fl (.agg x.cells))) : x.wf := wf_cells_Survey (d := 1) h
theorem wfr_Survey {fl : Fl} {x : GSurvey} (h : wfA (.p fl (.ref x.cells))) : x.wf := wf_cells_Survey (d := 1) h
theorem wf_LSurvey {fl : Fl} {z : List PV} {xs : List GSurvey} (h : wfA (.p fl (.lst z (xs.map GSurvey.cells)))) : xs.length ≤ 9223372036854775807 ∧ ∀ x ∈ xs, x.wf :=
  ⟨by simpa [maxLen] using h.1, fun x hx => wf_cells_Survey (d := 1) (h.2 _ (List.mem_map_of_mem hx))⟩

structure GFan where
  id : ByteArray
  airway : Int
  curve : List (List Int)
deriving DecidableEq
instance : Inhabited GFan := ⟨⟨⟨#[]⟩, 0, []⟩⟩
def GFan.cells (x : GFan) : List PV := [.c (.string x.id), .c (.int .i64 x.airway), LLI x.curve]
def GFan.z : List PV := [.c (.string ⟨#[]⟩), .c (.int .i64 0), .c (.slice none 0 0)]
theorem eta_Fan (x : GFan) : (⟨x.id, x.airway, x.curve⟩ : GFan) = x := rfl
def GFan.sz (x : GFan) : Nat := x.id.size
def GFan.wf (x : GFan) : Prop := x.id.size ≤ 9223372036854775807 ∧ (-9223372036854775808 ≤ x.airway ∧ x.airway ≤ 9223372036854775807) ∧ (x.curve.length ≤ 9223372036854775807)
theorem wf_cells_Fan {d : Nat} {x : GFan} (h : ∀ p ∈ x.cells, wfN (d + 2) p) : x.wf := by
  refine ⟨(h (.c (.string x.id)) (by simp [GFan.cells])), (wrap_eq_iff .i64 _).1 (h (.c (.int .i64 x.airway)) (by simp [GFan.cells])), (by have h1 := (h (LLI x.curve) (by simp [GFan.cells])); simpa [maxLen] using h1.1)⟩
theorem wf_Fan {fl : Fl} {x : GFan} (h : wfA (.p fl (.agg x.cells))) : x.wf := wf_cells_Fan (d := 1) h
theorem wfr_Fan {fl : Fl} {x : GFan} (h : wfA (.p fl (.ref x.cells))) : x.wf := wf_cells_Fan (d := 1) h
theorem wf_LFan {fl : Fl} {z : List PV} {xs : List GFan} (h : wfA (.p fl (.lst z (xs.map GFan.cells)))) : xs.length ≤ 9223372036854775807 ∧ ∀ x ∈ xs, x.wf :=
  ⟨by simpa [maxLen] using h.1, fun x hx => wf_cells_Fan (d := 1) (h.2 _ (List.mem_map_of_mem hx))⟩

structure GDoor where
  id : ByteArray
  airway : Int
  open_ : Int
  shut : Int
deriving DecidableEq
instance : Inhabited GDoor := ⟨⟨⟨#[]⟩, 0, 0, 0⟩⟩
def GDoor.cells (x : GDoor) : List PV := [.c (.string x.id), .c (.int .i64 x.airway), .c (.int .i64 x.open_), .c (.int .i64 x.shut)]
def GDoor.z : List PV := [.c (.string ⟨#[]⟩), .c (.int .i64 0), .c (.int .i64 0), .c (.int .i64 0)]
theorem eta_Door (x : GDoor) : (⟨x.id, x.airway, x.open_, x.shut⟩ : GDoor) = x := rfl
def GDoor.sz (x : GDoor) : Nat := x.id.size
def GDoor.wf (x : GDoor) : Prop := x.id.size ≤ 9223372036854775807 ∧ (-9223372036854775808 ≤ x.airway ∧ x.airway ≤ 9223372036854775807) ∧ (-9223372036854775808 ≤ x.open_ ∧ x.open_ ≤ 9223372036854775807) ∧ (-9223372036854775808 ≤ x.shut ∧ x.shut ≤ 9223372036854775807)
theorem wf_cells_Door {d : Nat} {x : GDoor} (h : ∀ p ∈ x.cells, wfN (d + 2) p) : x.wf := by
  refine ⟨(h (.c (.string x.id)) (by simp [GDoor.cells])), (wrap_eq_iff .i64 _).1 (h (.c (.int .i64 x.airway)) (by simp [GDoor.cells])), (wrap_eq_iff .i64 _).1 (h (.c (.int .i64 x.open_)) (by simp [GDoor.cells])), (wrap_eq_iff .i64 _).1 (h (.c (.int .i64 x.shut)) (by simp [GDoor.cells]))⟩
theorem wf_Door {fl : Fl} {x : GDoor} (h : wfA (.p fl (.agg x.cells))) : x.wf := wf_cells_Door (d := 1) h
theorem wfr_Door {fl : Fl} {x : GDoor} (h : wfA (.p fl (.ref x.cells))) : x.wf := wf_cells_Door (d := 1) h
theorem wf_LDoor {fl : Fl} {z : List PV} {xs : List GDoor} (h : wfA (.p fl (.lst z (xs.map GDoor.cells)))) : xs.length ≤ 9223372036854775807 ∧ ∀ x ∈ xs, x.wf :=
  ⟨by simpa [maxLen] using h.1, fun x hx => wf_cells_Door (d := 1) (h.2 _ (List.mem_map_of_mem hx))⟩

structure GDuct where
  id : ByteArray
  length : Int
  joint : Int
  loss : Int
deriving DecidableEq
instance : Inhabited GDuct := ⟨⟨⟨#[]⟩, 0, 0, 0⟩⟩
def GDuct.cells (x : GDuct) : List PV := [.c (.string x.id), .c (.int .i64 x.length), .c (.int .i64 x.joint), .c (.int .i64 x.loss)]
def GDuct.z : List PV := [.c (.string ⟨#[]⟩), .c (.int .i64 0), .c (.int .i64 0), .c (.int .i64 0)]
theorem eta_Duct (x : GDuct) : (⟨x.id, x.length, x.joint, x.loss⟩ : GDuct) = x := rfl
def GDuct.sz (x : GDuct) : Nat := x.id.size
def GDuct.wf (x : GDuct) : Prop := x.id.size ≤ 9223372036854775807 ∧ (-9223372036854775808 ≤ x.length ∧ x.length ≤ 9223372036854775807) ∧ (-9223372036854775808 ≤ x.joint ∧ x.joint ≤ 9223372036854775807) ∧ (-9223372036854775808 ≤ x.loss ∧ x.loss ≤ 9223372036854775807)
theorem wf_cells_Duct {d : Nat} {x : GDuct} (h : ∀ p ∈ x.cells, wfN (d + 2) p) : x.wf := by
  refine ⟨(h (.c (.string x.id)) (by simp [GDuct.cells])), (wrap_eq_iff .i64 _).1 (h (.c (.int .i64 x.length)) (by simp [GDuct.cells])), (wrap_eq_iff .i64 _).1 (h (.c (.int .i64 x.joint)) (by simp [GDuct.cells])), (wrap_eq_iff .i64 _).1 (h (.c (.int .i64 x.loss)) (by simp [GDuct.cells]))⟩
theorem wf_Duct {fl : Fl} {x : GDuct} (h : wfA (.p fl (.agg x.cells))) : x.wf := wf_cells_Duct (d := 1) h
theorem wfr_Duct {fl : Fl} {x : GDuct} (h : wfA (.p fl (.ref x.cells))) : x.wf := wf_cells_Duct (d := 1) h
theorem wf_LDuct {fl : Fl} {z : List PV} {xs : List GDuct} (h : wfA (.p fl (.lst z (xs.map GDuct.cells)))) : xs.length ≤ 9223372036854775807 ∧ ∀ x ∈ xs, x.wf :=
  ⟨by simpa [maxLen] using h.1, fun x hx => wf_cells_Duct (d := 1) (h.2 _ (List.mem_map_of_mem hx))⟩

structure GDusting where
  airway : Int
  from_ : Int
  until_ : Int
  dust : Int
deriving DecidableEq
instance : Inhabited GDusting := ⟨⟨0, 0, 0, 0⟩⟩
def GDusting.cells (x : GDusting) : List PV := [.c (.int .i64 x.airway), .c (.int .i64 x.from_), .c (.int .i64 x.until_), .c (.int .i64 x.dust)]
def GDusting.z : List PV := [.c (.int .i64 0), .c (.int .i64 0), .c (.int .i64 0), .c (.int .i64 0)]
theorem eta_Dusting (x : GDusting) : (⟨x.airway, x.from_, x.until_, x.dust⟩ : GDusting) = x := rfl
def GDusting.sz (x : GDusting) : Nat := 0
def GDusting.wf (x : GDusting) : Prop := (-9223372036854775808 ≤ x.airway ∧ x.airway ≤ 9223372036854775807) ∧ (-9223372036854775808 ≤ x.from_ ∧ x.from_ ≤ 9223372036854775807) ∧ (-9223372036854775808 ≤ x.until_ ∧ x.until_ ≤ 9223372036854775807) ∧ (-9223372036854775808 ≤ x.dust ∧ x.dust ≤ 9223372036854775807)
theorem wf_cells_Dusting {d : Nat} {x : GDusting} (h : ∀ p ∈ x.cells, wfN (d + 2) p) : x.wf := by
  refine ⟨(wrap_eq_iff .i64 _).1 (h (.c (.int .i64 x.airway)) (by simp [GDusting.cells])), (wrap_eq_iff .i64 _).1 (h (.c (.int .i64 x.from_)) (by simp [GDusting.cells])), (wrap_eq_iff .i64 _).1 (h (.c (.int .i64 x.until_)) (by simp [GDusting.cells])), (wrap_eq_iff .i64 _).1 (h (.c (.int .i64 x.dust)) (by simp [GDusting.cells]))⟩
theorem wf_Dusting {fl : Fl} {x : GDusting} (h : wfA (.p fl (.agg x.cells))) : x.wf := wf_cells_Dusting (d := 1) h
theorem wfr_Dusting {fl : Fl} {x : GDusting} (h : wfA (.p fl (.ref x.cells))) : x.wf := wf_cells_Dusting (d := 1) h
theorem wf_LDusting {fl : Fl} {z : List PV} {xs : List GDusting} (h : wfA (.p fl (.lst z (xs.map GDusting.cells)))) : xs.length ≤ 9223372036854775807 ∧ ∀ x ∈ xs, x.wf :=
  ⟨by simpa [maxLen] using h.1, fun x hx => wf_cells_Dusting (d := 1) (h.2 _ (List.mem_map_of_mem hx))⟩

structure GHeading where
  id : ByteArray
  volume : Int
  rate : Int
deriving DecidableEq
instance : Inhabited GHeading := ⟨⟨⟨#[]⟩, 0, 0⟩⟩
def GHeading.cells (x : GHeading) : List PV := [.c (.string x.id), .c (.int .i64 x.volume), .c (.int .i64 x.rate)]
def GHeading.z : List PV := [.c (.string ⟨#[]⟩), .c (.int .i64 0), .c (.int .i64 0)]
theorem eta_Heading (x : GHeading) : (⟨x.id, x.volume, x.rate⟩ : GHeading) = x := rfl
def GHeading.sz (x : GHeading) : Nat := x.id.size
def GHeading.wf (x : GHeading) : Prop := x.id.size ≤ 9223372036854775807 ∧ (-9223372036854775808 ≤ x.volume ∧ x.volume ≤ 9223372036854775807) ∧ (-9223372036854775808 ≤ x.rate ∧ x.rate ≤ 9223372036854775807)
theorem wf_cells_Heading {d : Nat} {x : GHeading} (h : ∀ p ∈ x.cells, wfN (d + 2) p) : x.wf := by
  refine ⟨(h (.c (.string x.id)) (by simp [GHeading.cells])), (wrap_eq_iff .i64 _).1 (h (.c (.int .i64 x.volume)) (by simp [GHeading.cells])), (wrap_eq_iff .i64 _).1 (h (.c (.int .i64 x.rate)) (by simp [GHeading.cells]))⟩
theorem wf_Heading {fl : Fl} {x : GHeading} (h : wfA (.p fl (.agg x.cells))) : x.wf := wf_cells_Heading (d := 1) h
theorem wfr_Heading {fl : Fl} {x : GHeading} (h : wfA (.p fl (.ref x.cells))) : x.wf := wf_cells_Heading (d := 1) h
theorem wf_LHeading {fl : Fl} {z : List PV} {xs : List GHeading} (h : wfA (.p fl (.lst z (xs.map GHeading.cells)))) : xs.length ≤ 9223372036854775807 ∧ ∀ x ∈ xs, x.wf :=
  ⟨by simpa [maxLen] using h.1, fun x hx => wf_cells_Heading (d := 1) (h.2 _ (List.mem_map_of_mem hx))⟩

structure GFire where
  airway : Int
  at_ : Int
  start : Int
deriving DecidableEq
instance : Inhabited GFire := ⟨⟨0, 0, 0⟩⟩
def GFire.cells (x : GFire) : List PV := [.c (.int .i64 x.airway), .c (.int .i64 x.at_), .c (.int .i64 x.start)]
def GFire.z : List PV := [.c (.int .i64 0), .c (.int .i64 0), .c (.int .i64 0)]
theorem eta_Fire (x : GFire) : (⟨x.airway, x.at_, x.start⟩ : GFire) = x := rfl
def GFire.sz (x : GFire) : Nat := 0
def GFire.wf (x : GFire) : Prop := (-9223372036854775808 ≤ x.airway ∧ x.airway ≤ 9223372036854775807) ∧ (-9223372036854775808 ≤ x.at_ ∧ x.at_ ≤ 9223372036854775807) ∧ (-9223372036854775808 ≤ x.start ∧ x.start ≤ 9223372036854775807)
theorem wf_cells_Fire {d : Nat} {x : GFire} (h : ∀ p ∈ x.cells, wfN (d + 2) p) : x.wf := by
  refine ⟨(wrap_eq_iff .i64 _).1 (h (.c (.int .i64 x.airway)) (by simp [GFire.cells])), (wrap_eq_iff .i64 _).1 (h (.c (.int .i64 x.at_)) (by simp [GFire.cells])), (wrap_eq_iff .i64 _).1 (h (.c (.int .i64 x.start)) (by simp [GFire.cells]))⟩
theorem wf_Fire {fl : Fl} {x : GFire} (h : wfA (.p fl (.agg x.cells))) : x.wf := wf_cells_Fire (d := 1) h
theorem wfr_Fire {fl : Fl} {x : GFire} (h : wfA (.p fl (.ref x.cells))) : x.wf := wf_cells_Fire (d := 1) h
theorem wf_LFire {fl : Fl} {z : List PV} {xs : List GFire} (h : wfA (.p fl (.lst z (xs.map GFire.cells)))) : xs.length ≤ 9223372036854775807 ∧ ∀ x ∈ xs, x.wf :=
  ⟨by simpa [maxLen] using h.1, fun x hx => wf_cells_Fire (d := 1) (h.2 _ (List.mem_map_of_mem hx))⟩

structure GMode where
  name : ByteArray
  flow : Int
  power : Int
deriving DecidableEq
instance : Inhabited GMode := ⟨⟨⟨#[]⟩, 0, 0⟩⟩
def GMode.cells (x : GMode) : List PV := [.c (.string x.name), .c (.int .i64 x.flow), .c (.int .i64 x.power)]
def GMode.z : List PV := [.c (.string ⟨#[]⟩), .c (.int .i64 0), .c (.int .i64 0)]
theorem eta_Mode (x : GMode) : (⟨x.name, x.flow, x.power⟩ : GMode) = x := rfl
def GMode.sz (x : GMode) : Nat := x.name.size
def GMode.wf (x : GMode) : Prop := x.name.size ≤ 9223372036854775807 ∧ (-9223372036854775808 ≤ x.flow ∧ x.flow ≤ 9223372036854775807) ∧ (-9223372036854775808 ≤ x.power ∧ x.power ≤ 9223372036854775807)
theorem wf_cells_Mode {d : Nat} {x : GMode} (h : ∀ p ∈ x.cells, wfN (d + 2) p) : x.wf := by
  refine ⟨(h (.c (.string x.name)) (by simp [GMode.cells])), (wrap_eq_iff .i64 _).1 (h (.c (.int .i64 x.flow)) (by simp [GMode.cells])), (wrap_eq_iff .i64 _).1 (h (.c (.int .i64 x.power)) (by simp [GMode.cells]))⟩
theorem wf_Mode {fl : Fl} {x : GMode} (h : wfA (.p fl (.agg x.cells))) : x.wf := wf_cells_Mode (d := 1) h
theorem wfr_Mode {fl : Fl} {x : GMode} (h : wfA (.p fl (.ref x.cells))) : x.wf := wf_cells_Mode (d := 1) h
theorem wf_LMode {fl : Fl} {z : List PV} {xs : List GMode} (h : wfA (.p fl (.lst z (xs.map GMode.cells)))) : xs.length ≤ 9223372036854775807 ∧ ∀ x ∈ xs, x.wf :=
  ⟨by simpa [maxLen] using h.1, fun x hx => wf_cells_Mode (d := 1) (h.2 _ (List.mem_map_of_mem hx))⟩

structure GSensor where
  id : ByteArray
  junction : Int
  limit : Int
  delay : Int
  release : Int
deriving DecidableEq
instance : Inhabited GSensor := ⟨⟨⟨#[]⟩, 0, 0, 0, 0⟩⟩
def GSensor.cells (x : GSensor) : List PV := [.c (.string x.id), .c (.int .i64 x.junction), .c (.int .i64 x.limit), .c (.int .i64 x.delay), .c (.int .i64 x.release)]
def GSensor.z : List PV := [.c (.string ⟨#[]⟩), .c (.int .i64 0), .c (.int .i64 0), .c (.int .i64 0), .c (.int .i64 0)]
theorem eta_Sensor (x : GSensor) : (⟨x.id, x.junction, x.limit, x.delay, x.release⟩ : GSensor) = x := rfl
def GSensor.sz (x : GSensor) : Nat := x.id.size
def GSensor.wf (x : GSensor) : Prop := x.id.size ≤ 9223372036854775807 ∧ (-9223372036854775808 ≤ x.junction ∧ x.junction ≤ 9223372036854775807) ∧ (-9223372036854775808 ≤ x.limit ∧ x.limit ≤ 9223372036854775807) ∧ (-9223372036854775808 ≤ x.delay ∧ x.delay ≤ 9223372036854775807) ∧ (-9223372036854775808 ≤ x.release ∧ x.release ≤ 9223372036854775807)
theorem wf_cells_Sensor {d : Nat} {x : GSensor} (h : ∀ p ∈ x.cells, wfN (d + 2) p) : x.wf := by
  refine ⟨(h (.c (.string x.id)) (by simp [GSensor.cells])), (wrap_eq_iff .i64 _).1 (h (.c (.int .i64 x.junction)) (by simp [GSensor.cells])), (wrap_eq_iff .i64 _).1 (h (.c (.int .i64 x.limit)) (by simp [GSensor.cells])), (wrap_eq_iff .i64 _).1 (h (.c (.int .i64 x.delay)) (by simp [GSensor.cells])), (wrap_eq_iff .i64 _).1 (h (.c (.int .i64 x.release)) (by simp [GSensor.cells]))⟩
theorem wf_Sensor {fl : Fl} {x : GSensor} (h : wfA (.p fl (.agg x.cells))) : x.wf := wf_cells_Sensor (d := 1) h
theorem wfr_Sensor {fl : Fl} {x : GSensor} (h : wfA (.p fl (.ref x.cells))) : x.wf := wf_cells_Sensor (d := 1) h
theorem wf_LSensor {fl : Fl} {z : List PV} {xs : List GSensor} (h : wfA (.p fl (.lst z (xs.map GSensor.cells)))) : xs.length ≤ 9223372036854775807 ∧ ∀ x ∈ xs, x.wf :=
  ⟨by simpa [maxLen] using h.1, fun x hx => wf_cells_Sensor (d := 1) (h.2 _ (List.mem_map_of_mem hx))⟩

structure GEdge where
  a : Int
  b : Int
  resistance : Int
deriving DecidableEq
instance : Inhabited GEdge := ⟨⟨0, 0, 0⟩⟩
def GEdge.cells (x : GEdge) : List PV := [.c (.int .i64 x.a), .c (.int .i64 x.b), .c (.int .i64 x.resistance)]
def GEdge.z : List PV := [.c (.int .i64 0), .c (.int .i64 0), .c (.int .i64 0)]
theorem eta_Edge (x : GEdge) : (⟨x.a, x.b, x.resistance⟩ : GEdge) = x := rfl
def GEdge.sz (x : GEdge) : Nat := 0
def GEdge.wf (x : GEdge) : Prop := (-9223372036854775808 ≤ x.a ∧ x.a ≤ 9223372036854775807) ∧ (-9223372036854775808 ≤ x.b ∧ x.b ≤ 9223372036854775807) ∧ (-9223372036854775808 ≤ x.resistance ∧ x.resistance ≤ 9223372036854775807)
theorem wf_cells_Edge {d : Nat} {x : GEdge} (h : ∀ p ∈ x.cells, wfN (d + 2) p) : x.wf := by
  refine ⟨(wrap_eq_iff .i64 _).1 (h (.c (.int .i64 x.a)) (by simp [GEdge.cells])), (wrap_eq_iff .i64 _).1 (h (.c (.int .i64 x.b)) (by simp [GEdge.cells])), (wrap_eq_iff .i64 _).1 (h (.c (.int .i64 x.resistance)) (by simp [GEdge.cells]))⟩
theorem wf_Edge {fl : Fl} {x : GEdge} (h : wfA (.p fl (.agg x.cells))) : x.wf := wf_cells_Edge (d := 1) h
theorem wfr_Edge {fl : Fl} {x : GEdge} (h : wfA (.p fl (.ref x.cells))) : x.wf := wf_cells_Edge (d := 1) h
theorem wf_LEdge {fl : Fl} {z : List PV} {xs : List GEdge} (h : wfA (.p fl (.lst z (xs.map GEdge.cells)))) : xs.length ≤ 9223372036854775807 ∧ ∀ x ∈ xs, x.wf :=
  ⟨by simpa [maxLen] using h.1, fun x hx => wf_cells_Edge (d := 1) (h.2 _ (List.mem_map_of_mem hx))⟩

theorem fitL_Air {e : List PV} (h : FitL [.ik .i64, .ik .i64, .ik .i64] e) : ∃ x : GAir, e = x.cells := by
  obtain ⟨p0, e0, rfl, f0, h⟩ := h.cons
  obtain ⟨p1, e1, rfl, f1, h⟩ := h.cons
  obtain ⟨p2, e2, rfl, f2, h⟩ := h.cons
  obtain rfl := h.nil
  obtain ⟨x0, rfl⟩ := fit_i f0
  obtain ⟨x1, rfl⟩ := fit_i f1
  obtain ⟨x2, rfl⟩ := fit_i f2
  exact ⟨⟨x0, x1, x2⟩, rfl⟩
theorem fitL_Airway {e : List PV} (h : FitL [.ss, .ik .i64, .ik .i64, .ik .i64, .ik .i64, .ik .i64, .ik .i64] e) : ∃ x : GAirway, e = x.cells := by
  obtain ⟨p0, e0, rfl, f0, h⟩ := h.cons
  obtain ⟨p1, e1, rfl, f1, h⟩ := h.cons
  obtain ⟨p2, e2, rfl, f2, h⟩ := h.cons
  obtain ⟨p3, e3, rfl, f3, h⟩ := h.cons
  obtain ⟨p4, e4, rfl, f4, h⟩ := h.cons
  obtain ⟨p5, e5, rfl, f5, h⟩ := h.cons
  obtain ⟨p6, e6, rfl, f6, h⟩ := h.cons
  obtain rfl := h.nil
  obtain ⟨x0, rfl⟩ := fit_s f0
  obtain ⟨x1, rfl⟩ := fit_i f1
  obtain ⟨x2, rfl⟩ := fit_i f2
  obtain ⟨x3, rfl⟩ := fit_i f3
  obtain ⟨x4, rfl⟩ := fit_i f4
  obtain ⟨x5, rfl⟩ := fit_i f5
  obtain ⟨x6, rfl⟩ := fit_i f6
  exact ⟨⟨x0, x1, x2, x3, x4, x5, x6⟩, rfl⟩
theorem fitL_Mine {e : List PV} (h : FitL [.ik .i64, .sl [.ss, .ik .i64, .ik .i64, .ik .i64, .ik .i64, .ik .i64, .ik .i64]] e) : ∃ x : GMine, e = x.cells := by
  obtain ⟨p0, e0, rfl, f0, h⟩ := h.cons
  obtain ⟨p1, e1, rfl, f1, h⟩ := h.cons
  obtain rfl := h.nil
  obtain ⟨x0, rfl⟩ := fit_i f0
  obtain ⟨x1, rfl⟩ := fit_sl GAirway.cells (fun e => fitL_Airway) f1
  exact ⟨⟨x0, x1⟩, rfl⟩
theorem fitL_Survey {e : List PV} (h : FitL [.ss, .ik .i64, .ik .i64, .ik .i64, .ik .i64] e) : ∃ x : GSurvey, e = x.cells := by
  obtain ⟨p0, e0, rfl, f0, h⟩ := h.cons
  obtain ⟨p1, e1, rfl, f1, h⟩ := h.cons
  obtain ⟨p2, e2, rfl, f2, h⟩ := h.cons
  obtain ⟨p3, e3, rfl, f3, h⟩ := h.cons
  obtain ⟨p4, e4, rfl, f4, h⟩ := h.cons
  obtain rfl := h.nil
  obtain ⟨x0, rfl⟩ := fit_s f0
  obtain ⟨x1, rfl⟩ := fit_i f1
  obtain ⟨x2, rfl⟩ := fit_i f2
  obtain ⟨x3, rfl⟩ := fit_i f3
  obtain ⟨x4, rfl⟩ := fit_i f4
  exact ⟨⟨x0, x1, x2, x3, x4⟩, rfl⟩
theorem fitL_Fan {e : List PV} (h : FitL [.ss, .ik .i64, .sl [.sl [.ik .i64]]] e) : ∃ x : GFan, e = x.cells := by
  obtain ⟨p0, e0, rfl, f0, h⟩ := h.cons
  obtain ⟨p1, e1, rfl, f1, h⟩ := h.cons
  obtain ⟨p2, e2, rfl, f2, h⟩ := h.cons
  obtain rfl := h.nil
  obtain ⟨x0, rfl⟩ := fit_s f0
  obtain ⟨x1, rfl⟩ := fit_i f1
  obtain ⟨x2, rfl⟩ := fit_LLI f2
  exact ⟨⟨x0, x1, x2⟩, rfl⟩
theorem fitL_Door {e : List PV} (h : FitL [.ss, .ik .i64, .ik .i64, .ik .i64] e) : ∃ x : GDoor, e = x.cells := by
  obtain ⟨p0, e0, rfl, f0, h⟩ := h.cons
  obtain ⟨p1, e1, rfl, f1, h⟩ := h.cons
  obtain ⟨p2, e2, rfl, f2, h⟩ := h.cons
  obtain ⟨p3, e3, rfl, f3, h⟩ := h.cons
  obtain rfl := h.nil
  obtain ⟨x0, rfl⟩ := fit_s f0
  obtain ⟨x1, rfl⟩ := fit_i f1
  obtain ⟨x2, rfl⟩ := fit_i f2
  obtain ⟨x3, rfl⟩ := fit_i f3
  exact ⟨⟨x0, x1, x2, x3⟩, rfl⟩
theorem fitL_Duct {e : List PV} (h : FitL [.ss, .ik .i64, .ik .i64, .ik .i64] e) : ∃ x : GDuct, e = x.cells := by
  obtain ⟨p0, e0, rfl, f0, h⟩ := h.cons
  obtain ⟨p1, e1, rfl, f1, h⟩ := h.cons
  obtain ⟨p2, e2, rfl, f2, h⟩ := h.cons
  obtain ⟨p3, e3, rfl, f3, h⟩ := h.cons
  obtain rfl := h.nil
  obtain ⟨x0, rfl⟩ := fit_s f0
  obtain ⟨x1, rfl⟩ := fit_i f1
  obtain ⟨x2, rfl⟩ := fit_i f2
  obtain ⟨x3, rfl⟩ := fit_i f3
  exact ⟨⟨x0, x1, x2, x3⟩, rfl⟩
theorem fitL_Dusting {e : List PV} (h : FitL [.ik .i64, .ik .i64, .ik .i64, .ik .i64] e) : ∃ x : GDusting, e = x.cells := by
  obtain ⟨p0, e0, rfl, f0, h⟩ := h.cons
  obtain ⟨p1, e1, rfl, f1, h⟩ := h.cons
  obtain ⟨p2, e2, rfl, f2, h⟩ := h.cons
  obtain ⟨p3, e3, rfl, f3, h⟩ := h.cons
  obtain rfl := h.nil
  obtain ⟨x0, rfl⟩ := fit_i f0
  obtain ⟨x1, rfl⟩ := fit_i f1
  obtain ⟨x2, rfl⟩ := fit_i f2
  obtain ⟨x3, rfl⟩ := fit_i f3
  exact ⟨⟨x0, x1, x2, x3⟩, rfl⟩
theorem fitL_Heading {e : List PV} (h : FitL [.ss, .ik .i64, .ik .i64] e) : ∃ x : GHeading, e = x.cells := by
  obtain ⟨p0, e0, rfl, f0, h⟩ := h.cons
  obtain ⟨p1, e1, rfl, f1, h⟩ := h.cons
  obtain ⟨p2, e2, rfl, f2, h⟩ := h.cons
  obtain rfl := h.nil
  obtain ⟨x0, rfl⟩ := fit_s f0
  obtain ⟨x1, rfl⟩ := fit_i f1
  obtain ⟨x2, rfl⟩ := fit_i f2
  exact ⟨⟨x0, x1, x2⟩, rfl⟩
theorem fitL_Fire {e : List PV} (h : FitL [.ik .i64, .ik .i64, .ik .i64] e) : ∃ x : GFire, e = x.cells := by
  obtain ⟨p0, e0, rfl, f0, h⟩ := h.cons
  obtain ⟨p1, e1, rfl, f1, h⟩ := h.cons
  obtain ⟨p2, e2, rfl, f2, h⟩ := h.cons
  obtain rfl := h.nil
  obtain ⟨x0, rfl⟩ := fit_i f0
  obtain ⟨x1, rfl⟩ := fit_i f1
  obtain ⟨x2, rfl⟩ := fit_i f2
  exact ⟨⟨x0, x1, x2⟩, rfl⟩
theorem fitL_Mode {e : List PV} (h : FitL [.ss, .ik .i64, .ik .i64] e) : ∃ x : GMode, e = x.cells := by
  obtain ⟨p0, e0, rfl, f0, h⟩ := h.cons
  obtain ⟨p1, e1, rfl, f1, h⟩ := h.cons
  obtain ⟨p2, e2, rfl, f2, h⟩ := h.cons
  obtain rfl := h.nil
  obtain ⟨x0, rfl⟩ := fit_s f0
  obtain ⟨x1, rfl⟩ := fit_i f1
  obtain ⟨x2, rfl⟩ := fit_i f2
  exact ⟨⟨x0, x1, x2⟩, rfl⟩
theorem fitL_Sensor {e : List PV} (h : FitL [.ss, .ik .i64, .ik .i64, .ik .i64, .ik .i64] e) : ∃ x : GSensor, e = x.cells := by
  obtain ⟨p0, e0, rfl, f0, h⟩ := h.cons
  obtain ⟨p1, e1, rfl, f1, h⟩ := h.cons
  obtain ⟨p2, e2, rfl, f2, h⟩ := h.cons
  obtain ⟨p3, e3, rfl, f3, h⟩ := h.cons
  obtain ⟨p4, e4, rfl, f4, h⟩ := h.cons
  obtain rfl := h.nil
  obtain ⟨x0, rfl⟩ := fit_s f0
  obtain ⟨x1, rfl⟩ := fit_i f1
  obtain ⟨x2, rfl⟩ := fit_i f2
  obtain ⟨x3, rfl⟩ := fit_i f3
  obtain ⟨x4, rfl⟩ := fit_i f4
  exact ⟨⟨x0, x1, x2, x3, x4⟩, rfl⟩
theorem fitL_Edge {e : List PV} (h : FitL [.ik .i64, .ik .i64, .ik .i64] e) : ∃ x : GEdge, e = x.cells := by
  obtain ⟨p0, e0, rfl, f0, h⟩ := h.cons
  obtain ⟨p1, e1, rfl, f1, h⟩ := h.cons
  obtain ⟨p2, e2, rfl, f2, h⟩ := h.cons
  obtain rfl := h.nil
  obtain ⟨x0, rfl⟩ := fit_i f0
  obtain ⟨x1, rfl⟩ := fit_i f1
  obtain ⟨x2, rfl⟩ := fit_i f2
  exact ⟨⟨x0, x1, x2⟩, rfl⟩
end Go.Av

