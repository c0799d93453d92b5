/- The abstract layer: values, steps, contracts, part Av3: an abstract walk of Go functions whose soundness is proved here once. No conditions. -/
import Derived.OpenShut
import Derived.OrdersHeld
import Derived.ProofKit
import Derived.ReadAgain
import Derived.RowKit3
import Derived.WalkKit
import Derived.Test.YtdhkpmaanegjkaaGreatDoorAv4
set_option linter.unusedVariables false
set_option linter.unusedSimpArgs false
namespace Go.Av
open Go.RowKit
abbrev En := List (Nat × AV)
def lk : En → Nat → AV
  | [], _ => .junk
  | (s, v) :: r, t => bif Nat.beq s t then v else lk r t
theorem lk_cons (e : En) (d : Nat) (v : AV) : upd (lk e) d v = lk ((d, v) :: e) := by
  funext s
  simp only [upd, lk]
  by_cases h : s = d
  · subst h; simp
  · rw [if_neg h]
    have : Nat.beq d s = false := by
      cases hb : Nat.beq d s with
      | false => rfl
      | true => exact absurd (Nat.eq_of_beq_eq_true hb).symm h
    rw [this]; rfl
def putF (e : En) (d : Option Nat) (v : AV) : En := match d with
  | some d => (d, v) :: e
  | none => e
theorem updO_lk (e : En) (d : Option Nat) (v : AV) : updO (lk e) d v = lk (putF e d v) := by
  cases d with
  | none => rfl
  | some d => exact lk_cons e d v
def fFl (fl : Fl) (K : Fl → Prop) : Prop := match fl with
  | .flat => K .flat
  | .fresh => K .fresh
  | .any => K .any
theorem fFl_eq {fl : Fl} {K : Fl → Prop} (h : fFl fl K) : K fl := by cases fl <;> exact h
def fP (p : PV) (K : PV → Prop) : Prop := match p with
  | .c v => K (.c v)
  | .lst z es => K (.lst z es)
  | .agg cs => K (.agg cs)
  | .ref cs => K (.ref cs)
  | .fn f cs => K (.fn f cs)
  | .junk => K .junk
theorem fP_eq {p : PV} {K : PV → Prop} (h : fP p K) : K p := by cases p <;> exact h
def fPs : List PV → (List PV → Prop) → Prop
  | [], K => K []
  | p :: r, K => fP p fun p => fPs r fun r => K (p :: r)
theorem fPs_eq : ∀ {l : List PV} {K : List PV → Prop}, fPs l K → K l
  | [], _, h => h
  | p :: r, K, h => fPs_eq (l := r) (K := fun r => K (p :: r)) (fP_eq (p := p) h)
def fQ (p : PV) (K : PV → Prop) : Prop := match p with
  | .c v => K (.c v)
  | .lst z es => fPs z fun z => K (.lst z es)
  | .agg cs => fPs cs fun cs => K (.agg cs)
  | .ref cs => fPs cs fun cs => K (.ref cs)
  | .fn f cs => fPs cs fun cs => K (.fn f cs)
  | .junk => K .junk
theorem fQ_eq {p : PV} {K : PV → Prop} (h : fQ p K) : K p := by
  cases p with
  | c v => exact h
  | lst z es => exact fPs_eq (K := fun z => K (.lst z es)) h
  | agg cs => exact fPs_eq (K := fun cs => K (.agg cs)) h
  | ref cs => exact fPs_eq (K := fun cs => K (.ref cs)) h
  | fn f cs => exact fPs_eq (K := fun cs => K (.fn f cs)) h
  | junk => exact h
def fN (n : Nat) (K : Nat → Prop) : Prop := fNs [0, 1, 2, 3, 4, 5, 6, 7, 8, 9, 10, 11, 12, 13, 14, 15, 16, 17, 18, 19, 20, 21, 22, 23, 24, 25, 26, 27, 28, 29, 30, 31, 32, 33, 34, 35, 36, 37, 38, 39, 40, 41, 42, 43, 44, 45, 46, 47, 48, 49, 50, 51, 52, 53, 54, 55, 56, 57, 58, 59, 60, 61, 62, 63, 64, 65, 66, 67, 68, 69, 70, 71] n K
def fV : Nat → AV → (AV → Prop) → Prop
  | 0, v, K => K v
  | d + 1, v, K => match v with
    | .p fl p => fFl fl fun fl => fQ p fun p => K (.p fl p)
    | .own k off => fN k fun k => fN off fun off => K (.own k off)
    | .orow k i j => fN k fun k => fN j fun j => K (.orow k i j)
    | .osl k lo n => fN k fun k => K (.osl k lo n)
    | .amap k => fN k fun k => K (.amap k)
    | .afn f caps => seqW (fV d) caps fun caps => K (.afn f caps)
    | .aagg cells => seqW (fV d) cells fun cells => K (.aagg cells)
    | .tup vs => seqW (fV d) vs fun vs => K (.tup vs)
    | .opt g v => fV d v fun v => K (.opt g v)
    | .junk => K .junk
theorem seqW_id {α : Type} {f : α → (α → Prop) → Prop} (hf : ∀ a K, f a K → K a) : ∀ {l : List α} {K : List α → Prop}, seqW f l K → K l
  | [], _, h => h
  | a :: r, K, h => seqW_id hf (l := r) (K := fun r => K (a :: r)) (hf a _ h)
theorem fV_eq : ∀ (d : Nat) (v : AV) (K : AV → Prop), fV d v K → K v
  | 0, _, _, h => h
  | d + 1, v, K, h => by
    cases v with
    | p fl p => exact fQ_eq (K := fun p => K (.p fl p)) (fFl_eq (fl := fl) (K := fun fl => fQ p fun p => K (.p fl p)) h)
    | own k off => exact fNs_eq (K := fun off => K (.own k off)) (fNs_eq (n := k) (K := fun k => fN off fun off => K (.own k off)) h)
    | orow k i j => exact fNs_eq (K := fun j => K (.orow k i j)) (fNs_eq (n := k) (K := fun k => fN j fun j => K (.orow k i j)) h)
    | osl k lo n => exact fNs_eq (K := fun k => K (.osl k lo n)) h
    | amap k => exact fNs_eq (K := fun k => K (.amap k)) h
    | afn f caps => exact seqW_id (fV_eq d) (K := fun caps => K (.afn f caps)) h
    | aagg cells => exact seqW_id (fV_eq d) (K := fun cells => K (.aagg cells)) h
    | tup vs => exact seqW_id (fV_eq d) (K := fun vs => K (.tup vs)) h
    | opt g v => exact fV_eq d v (fun v => K (.opt g v)) h
    | junk => exact h
def fOB (ob : OB) (K : OB → Prop) : Prop := match ob with
  | .dead => K .dead
  | .fix cells => seqW (fV 3) cells fun cells => K (.fix cells)
  | .row true fl z es => fFl fl fun fl => fPs z fun z => K (.row true fl z es)
  | .row false fl z es => fFl fl fun fl => fPs z fun z => K (.row false fl z es)
  | .mp true ks f => K (.mp true ks f)
  | .mp false ks f => K (.mp false ks f)
  | .rows true fl z es none => fFl fl fun fl => fPs z fun z => K (.rows true fl z es none)
  | .rows false fl z es none => fFl fl fun fl => fPs z fun z => K (.rows false fl z es none)
  | .rows true fl z es (some (i, k2)) => fFl fl fun fl => fPs z fun z => fN k2 fun k2 => K (.rows true fl z es (some (i, k2)))
  | .rows false fl z es (some (i, k2)) => fFl fl fun fl => fPs z fun z => fN k2 fun k2 => K (.rows false fl z es (some (i, k2)))
theorem fOB_eq {ob : OB} {K : OB → Prop} (h : fOB ob K) : K ob := by
  cases ob with
  | dead => exact h
  | fix cells => exact seqW_id (fV_eq 3) (K := fun cells => K (.fix cells)) h
  | mp nw ks f => cases nw <;> exact h
  | rows nw fl z es ho =>
    cases ho with
    | none =>
      cases nw with
      | true => exact fPs_eq (K := fun z => K (.rows true fl z es none)) (fFl_eq (fl := fl) (K := fun fl => fPs z fun z => K (.rows true fl z es none)) h)
      | false => exact fPs_eq (K := fun z => K (.rows false fl z es none)) (fFl_eq (fl := fl) (K := fun fl => fPs z fun z => K (.rows false fl z es none)) h)
    | some q =>
      obtain ⟨i, k2⟩ := q
      cases nw with
      | true => exact fNs_eq (K := fun k2 => K (.rows true fl z es (some (i, k2)))) (fPs_eq (K := fun z => fN k2 fun k2 => K (.rows true fl z es (some (i, k2)))) (fFl_eq (fl := fl) (K := fun fl => fPs z fun z => fN k2 fun k2 => K (.rows true fl z es (some (i, k2)))) h))
      | false => exact fNs_eq (K := fun k2 => K (.rows false fl z es (some (i, k2)))) (fPs_eq (K := fun z => fN k2 fun k2 => K (.rows false fl z es (some (i, k2)))) (fFl_eq (fl := fl) (K := fun fl => fPs z fun z => fN k2 fun k2 => K (.rows false fl z es (some (i, k2)))) h))
  | row nw fl z es =>
    cases nw with
    | true => exact fPs_eq (K := fun z => K (.row true fl z es)) (fFl_eq (fl := fl) (K := fun fl => fPs z fun z => K (.row true fl z es)) h)
    | false => exact fPs_eq (K := fun z => K (.row false fl z es)) (fFl_eq (fl := fl) (K := fun fl => fPs z fun z => K (.row false fl z es)) h)
def fH (h : List OB) (K : List OB → Prop) : Prop := seqW fOB h K
theorem fH_eq {h : List OB} {K : List OB → Prop} (hh : fH h K) : K h := seqW_id (fun _ _ h => fOB_eq h) hh
def regF (q : Bool) (P : Program) [Kn P] (zs : TypeId → List PV) (m : Nat) (ops : Array Oper) (K : En → List OB → Prop) : List Oper → En → List OB → Prop
  | [], e, h => K e h
  | o :: r, e, h => stepV q P zs m ⟨lk e, h⟩ ops o fun v h' => fV 4 v fun v => fH h' fun h' => (match o.dst with
    | some d => regF q P zs m ops K r ((d, v) :: e) h'
    | none => regF q P zs m ops K r e h')
def regG (P : Program) [Kn P] (zs : TypeId → List PV) (m : Nat) (ops : Array Oper) (K : En → List OB → Prop) (h : List OB) : List Oper → En → Prop
  | [], e => K e h
  | o :: r, e => stepV true P zs m ⟨lk e, h⟩ ops o fun v _ => fV 4 v fun v => (match o.dst with
    | some d => regG P zs m ops K h r ((d, v) :: e)
    | none => regG P zs m ops K h r e)
section
variable {N m : Nat} {F A : Nat → Prop} {w0 : World} {pl : Nat → Pl} {a : Act} {w : World} {P : Program} [Kn P]
theorem regF_put {q : Bool} {zs : TypeId → List PV} {ops : Array Oper} {K : En → List OB → Prop} {r : List Oper} {d : Option Nat} {v : AV} {e : En} {h : List OB} (hr : match d with
    | some d => regF q P zs m ops K r ((d, v) :: e) h
    | none => regF q P zs m ops K r e h) : regF q P zs m ops K r (putF e d v) h := by
  cases d <;> exact hr
theorem regG_put {zs : TypeId → List PV} {ops : Array Oper} {K : En → List OB → Prop} {r : List Oper} {d : Option Nat} {v : AV} {e : En} {h : List OB} (hr : match d with
    | some d => regG P zs m ops K h r ((d, v) :: e)
    | none => regG P zs m ops K h r e) : regG P zs m ops K h r (putF e d v) := by
  cases d <;> exact hr
theorem regQ_sound (hF : HF P F A w0) {zs : TypeId → List PV} {ops : Array Oper} {K : En → List OB → Prop} {Q : Act → Prop} {hp : List OB} : ∀ {l : List Oper} {e : En} {a : Act}, l.all (okDst N) = true → ConcP N m F A w0 ⟨lk e, hp⟩ pl a w → regG P zs m ops K hp l e →
    (∀ (e' : En) (a' : Act), ConcP N m F A w0 ⟨lk e', hp⟩ pl a' w → K e' hp → Q a') → wpQuiet P ops (Ext w) Q l a
  | [], e, a, _, hC, h, hK => hK e a hC h
  | o :: l, e, a, hd, hC, h, hK => by
    simp only [List.all_cons, Bool.and_eq_true] at hd
    obtain ⟨v, hr, hv⟩ := quietV_sound hC hF h
    have hr := regG_put (fV_eq _ _ _ hr)
    have put : ∀ {u : Value}, RelA pl hp.length (Sany A w0.heap.size pl hp w) (Fresh w0.heap.size pl hp w) w v u → ConcP N m F A w0 ⟨lk (putF e o.dst v), hp⟩ pl (a.put o.dst u) w := fun hu => by
      rw [← updO_lk]; exact hC.put o.dst (okDst_spec hd.1) hu
    unfold wpQuiet
    rcases hv with ⟨hw, u, hrel, hq, _⟩ | ⟨hw, hrel⟩
    · rw [if_pos hw]
      exact ⟨u, hq, regQ_sound hF hd.2 (put hrel) hr hK⟩
    · rw [if_neg (by simp [hw])]
      exact regQ_sound hF hd.2 (put hrel) hr hK
theorem regS_sound (hF : HF P F A w0) {zs : TypeId → List PV} {ops : Array Oper} {K : En → List OB → Prop} {Q : Act → Prop} {hp : List OB} : ∀ {l : List Oper} {e : En} {a : Act}, l.all (okDst N) = true → l.all (fun o => (isCall o.op).isNone) = true → ConcP N m F A w0 ⟨lk e, hp⟩ pl a w → regG P zs m ops K hp l e →
    (∀ (e' : En) (a' : Act), ConcP N m F A w0 ⟨lk e', hp⟩ pl a' w → K e' hp → Q a') → wpStill P ops w Q l a
  | [], e, a, _, _, hC, h, hK => hK e a hC h
  | o :: l, e, a, hd, hc, hC, h, hK => by
    simp only [List.all_cons, Bool.and_eq_true] at hd hc
    obtain ⟨v, hr, hv⟩ := quietV_sound hC hF h
    have hr := regG_put (fV_eq _ _ _ hr)
    have put : ∀ {u : Value}, RelA pl hp.length (Sany A w0.heap.size pl hp w) (Fresh w0.heap.size pl hp w) w v u → ConcP N m F A w0 ⟨lk (putF e o.dst v), hp⟩ pl (a.put o.dst u) w := fun hu => by
      rw [← updO_lk]; exact hC.put o.dst (okDst_spec hd.1) hu
    unfold wpStill
    rcases hv with ⟨hw, u, hrel, _, hq⟩ | ⟨hw, hrel⟩
    · rw [if_pos hw]
      simp only [Oper.still, (hq (by simpa using hc.1)).1, Oper.stillUpon_value]
      exact regS_sound hF hd.2 hc.2 (put hrel) hr hK
    · rw [if_neg (by simp [hw])]
      exact regS_sound hF hd.2 hc.2 (put hrel) hr hK
theorem regF_sound {zs : TypeId → List PV} {ops : Array Oper} {K : En → List OB → Prop} : ∀ {l : List Oper} {e : En} {h : List OB}, l.all (okDst N) = true → regF false P zs m ops K l e h → RW P N m ops l (fun st => ∃ e h, st = ⟨lk e, h⟩ ∧ K e h) ⟨lk e, h⟩
  | [], e, h, _, hk => fun F A w0 pl0 a w hF hA hc => ⟨rfl, _, hc, e, h, rfl, hk⟩
  | o :: l, e, h, hd, hk => by
    simp only [List.all_cons, Bool.and_eq_true] at hd
    refine stepV_sound hd.1 (fun v h' hr => ?_) hk
    have hr := regF_put (fH_eq (fV_eq _ _ _ hr))
    have := regF_sound hd.2 hr
    rw [← updO_lk] at this
    exact this
theorem Ext.drew (w : World) : Ext w { w with drawn := w.drawn + 1 } := ⟨rfl, rfl, rfl, Nat.le_refl _, fun _ _ => rfl⟩
def LetsNo (Q : Exit → Act → World → Prop) : Prop := ∀ e a w, Q e a w → e = .normal
theorem Oper.wp_to {o : Oper} {a : Act} {w : World} {K K' : Act → World → Prop} {Q Q' : Exit → Act → World → Prop} (hQ : LetsNo Q) (h : ∀ a w, K a w → K' a w) (hh : o.wp P a w K Q) : o.wp P a w K' Q' := by
  have _k : Kn P := inferInstance
  unfold Oper.wp at *
  generalize (execOp a.eval o).run P w = r at *
  cases r with
  | ok n w' =>
    cases n <;> simp only [Oper.upon] at hh ⊢ <;>
      first
        | exact h _ _ hh
        | exact Calls.mono hh (fun e w'' he => by
            cases e with
            | returned v => exact h _ _ he
            | panicked c => cases hQ _ _ _ he
            | outgrown => obtain ⟨a1, w1, h1⟩ := he; cases hQ _ _ _ h1)
        | exact Rows.mono hh (fun _ _ he => h _ _ he)
        | exact hh.elim
  | halt x w' => cases x <;> simp only [Oper.upon] at hh ⊢ <;> first | exact hh.elim | (cases hQ _ _ _ hh)
theorem step_wpOp {pl0 : Nat → Pl} {zs : TypeId → List PV} {ops : Array Oper} {i : Nat} {o : Oper} {st : St} {K0 : AV → List OB → Prop} (h0 : ops[i]? = some o) (hN : okDst N o = true) (h : stepV false P zs m st ops o K0) (hF : HF P F A w0) (hA : ∀ b, A b → F b)
    (hC : Conc N m F A w0 pl0 st a w) {Kc : Act → World → Prop} {Q' : Exit → Act → World → Prop} (hK : ∀ v h' a' w', K0 v h' → Conc N m F A w0 pl0 ⟨updO st.env o.dst v, h'⟩ a' w' → Kc a' w') : wpOp P ops Q' i Kc a w := by
  have hr : RW P N m ops [o] (fun s => ∃ v h', K0 v h' ∧ s = ⟨updO st.env o.dst v, h'⟩) st :=
    stepV_sound (rest := []) (K := fun s => ∃ v h', K0 v h' ∧ s = ⟨updO st.env o.dst v, h'⟩) hN (fun v h' hk F A w0 pl0 a w _ _ hc => ⟨rfl, _, hc, v, h', hk, rfl⟩) h
  have hw := hr F A w0 pl0 a w hF hA hC
  have hQ : LetsNo fun e a' w' => e = .normal ∧ ∃ st', Conc N m F A w0 pl0 st' a' w' ∧ ∃ v h', K0 v h' ∧ st' = ⟨updO st.env o.dst v, h'⟩ := fun e a w h => h.1
  have hk : ∀ a' w', wpList P ops (fun e a' w' => e = .normal ∧ ∃ st', Conc N m F A w0 pl0 st' a' w' ∧ ∃ v h', K0 v h' ∧ st' = ⟨updO st.env o.dst v, h'⟩) [] a' w' → Kc a' w' := by
    rintro a' w' ⟨_, st', hc, v, h', hk, rfl⟩
    exact hK _ _ _ _ hk hc
  unfold wpList at hw
  unfold wpOp
  simp only [h0]
  split
  · rename_i hwant
    rw [if_pos hwant] at hw
    rcases hw with hw | ⟨_, _, _, h1⟩
    · exact .inl (Oper.wp_to hQ hk hw)
    · cases h1.1
  · rename_i hwant
    rw [if_neg hwant] at hw
    exact hk _ _ hw
inductive AllF (p : Nat → Prop) : List Nat → Prop
  | one (i : Nat) (h : p i) : AllF p [i]
  | cons (i : Nat) (r : List Nat) (h : p i) (k : AllF p r) : AllF p (i :: r)
theorem AllF.out {p : Nat → Prop} {l : List Nat} (h : AllF p l) : l ≠ [] ∧ ∀ i ∈ l, p i := by
  induction h with
  | one i h => exact ⟨by simp, fun j hj => by simp at hj; subst hj; exact h⟩
  | cons i r h k ih =>
    refine ⟨by simp, fun j hj => ?_⟩
    rcases List.mem_cons.1 hj with e | hj
    · subst e; exact h
    · exact ih.2 j hj
def takeB (ops : Array Oper) (listed : Array Bool) (i : Nat) : Bool :=
  Region.noSelect ops && Region.free .any ops listed i && (Region.ready .any ops listed).contains i && (match ops[i]? with | some o => wfree2 o && (isCall o.op).isNone && !isHop o | none => false)
def getO : List Oper → Nat → Option Oper
  | [], _ => none
  | o :: _, 0 => some o
  | _ :: r, i + 1 => getO r i
theorem getO_eq : ∀ (l : List Oper) (i : Nat), getO l i = l[i]?
  | [], i => by simp [getO]
  | o :: _, 0 => rfl
  | _ :: r, i + 1 => by simp [getO, getO_eq r i]
theorem getO_arr (ops : Array Oper) (i : Nat) : getO ops.toList i = ops[i]? := by rw [getO_eq, Array.getElem?_toList]
inductive OrdF (ops : Array Oper) (listed : Array Bool) (step : Bool → Nat → Prop) (fin : Prop) : Prop
  | fin (h : Region.ready .any ops listed = []) (k : fin)
  | all (rs : List Nat) (h : Region.ready .any ops listed = rs) (k : AllF (step false) rs)
  | take (i : Nat) (h : takeB ops listed i = true) (k : step true i)
def anyF (P : Program) [Kn P] (zs : TypeId → List PV) (m : Nat) (ops : Array Oper) (K : En → List OB → Prop) : Nat → Array Bool → En → List OB → Prop
  | 0, listed, e, h => OrdF ops listed (fun _ _ => False) (K e h)
  | f + 1, listed, e, h => OrdF ops listed (fun q i => match getO ops.toList i with
    | some o => stepV q P zs m ⟨lk e, h⟩ ops o fun v h' => fV 4 v fun v => fH h' fun h' => (match o.dst with
      | some d => anyF P zs m ops K f (listed.setIfInBounds i true) ((d, v) :: e) h'
      | none => anyF P zs m ops K f (listed.setIfInBounds i true) e h')
    | none => False) (K e h)
theorem anyF_put {zs : TypeId → List PV} {ops : Array Oper} {K : En → List OB → Prop} {f : Nat} {listed : Array Bool} {d : Option Nat} {v : AV} {e : En} {h : List OB} (hr : match d with
    | some d => anyF P zs m ops K f listed ((d, v) :: e) h
    | none => anyF P zs m ops K f listed e h) : anyF P zs m ops K f listed (putF e d v) h := by
  cases d <;> exact hr
theorem anyF_sound {pl0 : Nat → Pl} (hF : HF P F A w0) (hA : ∀ b, A b → F b) {zs : TypeId → List PV} {ops : Array Oper} (hd : ops.toList.all (okDst N) = true) {K : En → List OB → Prop} {Q' : Exit → Act → World → Prop} (hQ' : LetsNo Q')
    (hK : ∀ e h a w, Conc N m F A w0 pl0 ⟨lk e, h⟩ a w → K e h → Q' .normal a w) : ∀ {f : Nat} {listed : Array Bool} {e : En} {h : List OB} {a : Act} {w : World}, Conc N m F A w0 pl0 ⟨lk e, h⟩ a w → anyF P zs m ops K f listed e h → wpAny P .any ops Q' f listed a w := by
  intro f
  have hdi : ∀ {i : Nat} {o : Oper}, ops[i]? = some o → okDst N o = true := fun {i o} h => by
    simp only [List.all_eq_true] at hd
    exact hd o (List.mem_of_getElem? (i := i) (by rw [Array.getElem?_toList]; exact h))
  induction f with
  | zero =>
    intro listed e h a w hC hh
    rcases hh with ⟨h1, h2⟩ | ⟨rs, h1, h2⟩ | ⟨i, h1, h2⟩
    · exact ⟨h1, hK _ _ _ _ hC h2⟩
    · obtain ⟨h3, h4⟩ := h2.out
      cases rs with
      | nil => exact absurd rfl h3
      | cons i r => exact (h4 i (by simp)).elim
    · exact h2.elim
  | succ f ih =>
    intro listed e h a w hC hh
    rcases hh with ⟨h1, h2⟩ | ⟨rs, h1, h2⟩ | ⟨i, h1, h2⟩
    · exact wpAny_done h1 (hK _ _ _ _ hC h2) _
    · obtain ⟨h3, h4⟩ := h2.out
      refine wpAny_all h1 h3 fun i hi => ?_
      have h5 := h4 i hi
      simp only [getO_arr] at h5
      cases ho : ops[i]? with
      | none => rw [ho] at h5; exact h5.elim
      | some o =>
        rw [ho] at h5
        refine step_wpOp ho (hdi ho) h5 hF hA hC fun v h' a' w' hr hc => ?_
        have hr := anyF_put (fH_eq (fV_eq _ _ _ hr))
        rw [updO_lk] at hc
        exact ih hc hr
    · simp only [takeB, Bool.and_eq_true] at h1
      obtain ⟨⟨⟨hsel, hfree⟩, hready⟩, hwf⟩ := h1
      simp only [getO_arr] at h2
      cases ho : ops[i]? with
      | none => rw [ho] at h2; exact h2.elim
      | some o =>
        rw [ho] at h2 hwf
        simp only [Bool.and_eq_true, Bool.not_eq_true'] at hwf
        obtain ⟨pl, hp, hio⟩ := hC
        obtain ⟨v, hr, hv⟩ := quietV_sound hp hF h2
        have hr := anyF_put (fH_eq (fV_eq _ _ _ hr))
        have hnc : isCall o.op = none := by simpa using hwf.1.2
        have put : ∀ {u : Value}, RelA pl h.length (Sany A w0.heap.size pl h w) (Fresh w0.heap.size pl h w) w v u → Conc N m F A w0 pl0 ⟨lk (putF e o.dst v), h⟩ (a.put o.dst u) w := fun hu => by
          rw [← updO_lk]; exact ⟨pl, hp.put o.dst (okDst_spec (hdi ho)) hu, hio⟩
        have hpan : ∀ (u : Value) (c : List PanicEntry) (a : Act) (w : World), Q' (.panic c) (a.put o.dst u) w → Q' (.panic c) a w := fun u c a w h => by cases hQ' _ _ _ h
        rcases hv with ⟨hw, u, hrel, hq, hrun⟩ | ⟨hw, hrel⟩
        · exact wpAny_take ho hsel hfree hready (fun c => hpan u c) (.inl ⟨hw, (hrun hnc).2 hwf.1.1⟩) (ih (put hrel) hr)
        · exact wpAny_take ho hsel hfree hready (fun c => hpan undef c) (.inr ⟨hw, rfl⟩) (ih (put hrel) hr)
def hopAt : List Oper → Nat → Option Nat
  | [], _ => none
  | o :: r, i => bif isHop o then some i else hopAt r (i + 1)
def lexOk (ops : Array Oper) : Bool := match hopAt ops.toList 0 with
  | none => Region.lexB .any ops
  | some n => (Region.lexTailB .any ops n || lexFreeB .any ops n) && (ops.toList.take n).all (fun o => (isCall o.op).isNone)
def okReg (N : Nat) (ops : Array Oper) (_ : Bool) : Bool := ops.toList.all (okDst N)
def okCode (N : Nat) : Code → Bool
  | .seq a b => okCode N a && okCode N b
  | .cond _ a b => okCode N a && okCode N b
  | .block _ c => okCode N c
  | .loop c => okCode N c
  | .region _ ops d => okReg N ops d
  | .skip => true
  | .ret => true
  | .exit _ => true
  | _ => false
inductive DrawF (ops : Array Oper) (A B : Prop) : Prop
  | lex (h : lexOk ops = true) (k : A)
  | any (k : B)
def drawF (P : Program) [Kn P] (zs : TypeId → List PV) (m : Nat) (ops : Array Oper) (K : En → List OB → Prop) (e : En) (h : List OB) : Prop := DrawF ops (match hopAt ops.toList 0 with
  | none => regG P zs m ops K h ops.toList e
  | some n => regG P zs m ops (fun e h => regF false P zs m ops K (ops.toList.drop n) e h) h (ops.toList.take n) e)
  (anyF P zs m ops K ops.size (Array.replicate ops.size false) e h)
theorem AW.drawn {zs : TypeId → List PV} {id : Nat} {ops : Array Oper} {K : En → List OB → Prop} {e : En} {h : List OB} (hm : P.follows .mixedOrders = true) (hd : okReg N ops true = true) (hk : drawF P zs m ops K e h) :
    AW P N m (.region id ops true) (fun x st => x = .normal ∧ ∃ e h, st = ⟨lk e, h⟩ ∧ K e h) ⟨lk e, h⟩ := by
  unfold okReg at hd
  unfold drawF at hk
  rintro F A w0 pl0 a w hF hA ⟨pl, hp, hio⟩
  have hFw : ∀ b, F b → b < w.heap.size := fun b hb => Nat.lt_of_lt_of_le (hF b hb) hp.hsize
  have hp1 := hp.ext hFw (Ext.drew w)
  rcases hk with ⟨hok, hk⟩ | hk
  case any =>
    refine wp_mono (Q := fun e a' w' => e = .normal ∧ ∃ st', Conc N m F A w0 pl0 st' a' w' ∧ ∃ e h, st' = ⟨lk e, h⟩ ∧ K e h) ?_ (fun e a' w' ⟨he, st', hc, hq⟩ => by subst he; exact ⟨st', hc, rfl, hq⟩)
    exact wp_region_any hm (anyF_sound hF hA hd (fun e a w h => h.1) (fun e h a w hc hk => ⟨rfl, _, hc, e, h, rfl, hk⟩) ⟨pl, hp1, hio⟩ hk)
  unfold lexOk at hok
  split at hk
  · rename_i hh
    rw [hh] at hok
    refine wp_region_quiet (C := Ext { w with drawn := w.drawn + 1 }) hm hok (Ext.refl _) (regQ_sound hF hd hp1 hk ?_)
    intro e' a' hp' hK w' hx
    exact ⟨_, ⟨pl, hp'.ext hFw hx, hio⟩, rfl, e', h, rfl, hK⟩
  · rename_i n hh
    rw [hh] at hok
    simp only [Bool.and_eq_true] at hok
    have hd1 : (ops.toList.take n).all (okDst N) = true := by
      simp only [List.all_eq_true] at hd ⊢
      exact fun x hx => hd x (List.mem_of_mem_take hx)
    have hd2 : (ops.toList.drop n).all (okDst N) = true := by
      simp only [List.all_eq_true] at hd ⊢
      exact fun x hx => hd x (List.mem_of_mem_drop hx)
    refine wp_mono (Q := fun e a' w' => e = .normal ∧ ∃ st', Conc N m F A w0 pl0 st' a' w' ∧ ∃ e h, st' = ⟨lk e, h⟩ ∧ K e h) ?_ (fun e a' w' ⟨he, st', hc, hq⟩ => by subst he; exact ⟨st', hc, rfl, hq⟩)
    have key := wp_region_some_tail (P := P) (id := id) (Q := fun e a' w' => e = .normal ∧ ∃ st', Conc N m F A w0 pl0 st' a' w' ∧ ∃ e h, st' = ⟨lk e, h⟩ ∧ K e h) (a := a) (w := w) (l := ops.toList) n hm (fun c a w h => by cases h.1) (by simpa using hok.1) ?_
    · simpa using key
    · refine regS_sound hF hd1 hok.2 hp1 (by simpa using hk) ?_
      intro e' a' hp' hK
      have := regF_sound hd2 hK F A w0 pl0 a' _ hF hA ⟨pl, hp', hio⟩
      simpa using this
end
end Go.Av
namespace Go.Av
open Go.RowKit
theorem RowRel.cut {S T : Nat → Prop} {w : World} {q : Pl0} {z : List PV} {es : List (List PV)} (h : RowRel S w q z es) (hST : ∀ b, S b → T b) (hT : 0 < q.cap → T q.blk) {lo n C : Nat} {A : Option Addr}
    (hA : lo < q.cap → A = some ⟨q.blk, q.off + lo * q.sz, none⟩) (hC : lo + C = q.cap) (hn' : n ≤ C) (hn : lo + n ≤ es.length) : Rel T w (.lst z ((es.drop lo).take n)) (.slice A n C) := by
  obtain ⟨g1, g2, g3, g4, g5, g6⟩ := h
  have hlen : ((es.drop lo).take n).length = n := by simp; omega
  have hget : ∀ (i : Nat) (e : List PV), ((es.drop lo).take n)[i]? = some e → es[lo + i]? = some e ∧ i < n := fun i e he => by
    rw [List.getElem?_take] at he
    split at he
    · rename_i hlt; exact ⟨by rwa [List.getElem?_drop] at he, hlt⟩
    · cases he
  by_cases hcap : 0 < q.cap
  · obtain ⟨ty, arr, q1, q2, q3⟩ := g6 hcap
    refine .lst hlen.symm hn' (by omega) ⟨q.blk, q.off + lo * q.sz, none⟩ (fun h0 => hA (by omega)) (fun _ _ => hT hcap) (fun i e he => g5 _ _ (hget i e he).1) (fun i j => arr.getD (q.off + ((lo + i) * z.length + j)) undef)
      (fun i j e p he hp => ?_) (fun i j e p he hp => ?_) (fun i j e p he hp => ?_)
    · obtain ⟨x, h2, h3, h4⟩ := q3 _ _ _ _ (hget i e he).1 hp
      rw [Addr.add_lit, cell_of_row w _ _ arr ty (0, 0) q1, Array.getD_eq_getD_getElem?, h2, g1]
      have e1 : q.off + lo * z.length + (i * z.length + j) = q.off + ((lo + i) * z.length + j) := by rw [Nat.add_mul]; omega
      rw [e1, h2]; rfl
    · obtain ⟨x, h2, h3, h4⟩ := q3 _ _ _ _ (hget i e he).1 hp
      rw [Array.getD_eq_getD_getElem?, h2]; exact h3
    · obtain ⟨x, h2, h3, h4⟩ := q3 _ _ _ _ (hget i e he).1 hp
      rw [Array.getD_eq_getD_getElem?, h2]; exact h4.mono hST (fun _ _ => rfl)
  · have hn0 : n = 0 := by omega
    subst hn0
    exact .lst hlen.symm hn' (by omega) ⟨0, 0, none⟩ (fun h0 => absurd h0 (by omega)) (fun h0 _ => absurd h0 (by omega)) (fun i e he => absurd (hget i e he).2 (by omega)) (fun _ _ => undef)
      (fun i j e p he hp => absurd (hget i e he).2 (by omega)) (fun i j e p he hp => absurd (hget i e he).2 (by omega)) (fun i j e p he hp => absurd (hget i e he).2 (by omega))
theorem RowsRel.cut {pl : Nat → Pl} {L : Nat} {S Fr T : Nat → Prop} {w : World} {p : Pl} {fl : Fl} {z : List PV} {es : List (List (List PV))} (hR : RowsRel pl L S Fr w p fl z es none) (hfl : ∀ b, flagS S Fr fl b → T b) (hT0 : 0 < p.cap → T p.blk) (hTi : ∀ (i : Nat) (q : Pl0), p.inn[i]? = some q → 0 < q.cap → T q.blk)
    {lo n C : Nat} {A : Option Addr} (hA : lo < p.cap → A = some ⟨p.blk, p.off + lo * p.sz, none⟩) (hC : lo + C = p.cap) (hn' : n ≤ C) (hn : lo + n ≤ es.length) : Rel T w (.lst zL0 (((es.drop lo).take n).map fun e => [.lst z e])) (.slice A n C) := by
  have hget : ∀ (i : Nat) (e : List PV), (((es.drop lo).take n).map fun e => [PV.lst z e])[i]? = some e → ∃ e0, es[lo + i]? = some e0 ∧ i < n ∧ e = [.lst z e0] := fun i e he => by
    rw [List.getElem?_map, List.getElem?_take] at he
    split at he
    · rename_i hlt
      rw [List.getElem?_drop] at he
      cases he0 : es[lo + i]? with
      | none => rw [he0] at he; cases he
      | some e0 => rw [he0] at he; cases he; exact ⟨e0, rfl, hlt, rfl⟩
    · cases he
  have hlen : (((es.drop lo).take n).map fun e => [PV.lst z e]).length = n := by simp; omega
  have hcp := hR.cap
  by_cases hcap : 0 < p.cap
  · obtain ⟨ty, arr, q1, q2, q3⟩ := hR.mem hcap
    have hin : ∀ (i : Nat) (e0 : List (List PV)), es[lo + i]? = some e0 → ∃ q, p.inn[lo + i]? = some q := fun i e0 he => ⟨_, List.getElem?_eq_getElem (by rw [hR.inn]; exact (List.getElem?_eq_some_iff.1 he).1)⟩
    refine .lst hlen.symm hn' (by omega) ⟨p.blk, p.off + lo * p.sz, none⟩ (fun h0 => hA (by omega)) (fun _ _ => hT0 hcap) (fun i e he => by obtain ⟨e0, _, _, rfl⟩ := hget i e he; rfl) (fun i j => arr.getD (p.off + (lo + i)) undef)
      (fun i j e p' he hp => ?_) (fun i j e p' he hp => ?_) (fun i j e p' he hp => ?_)
    all_goals
      obtain ⟨e0, h1, h2, rfl⟩ := hget i e he
      have hj : j = 0 := by have := (List.getElem?_eq_some_iff.1 hp).1; simpa using this
      subst hj
      obtain ⟨q, hq⟩ := hin i e0 h1
      obtain ⟨A', m1, m2, m3, m4, m5⟩ := q3 _ _ _ h1 hq
    · rw [Addr.add_lit, cell_of_row w _ _ arr ty (0, 0) q1, Array.getD_eq_getD_getElem?, m1, hR.sz]
      have e1 : p.off + lo * 1 + (i * 1 + 0) = p.off + (lo + i) := by omega
      simp only [zL0, List.length_singleton]
      rw [e1, m1]; rfl
    · rw [Array.getD_eq_getD_getElem?, m1]; rfl
    · rw [Array.getD_eq_getD_getElem?, m1]
      simp at hp
      subst hp
      exact (hR.row _ _ _ h1 hq (by simp)).rel hfl (fun hc' => hTi _ q hq hc') m2
  · have hn0 : n = 0 := by have := hR.len; omega
    subst hn0
    exact .lst hlen.symm hn' (by omega) ⟨0, 0, none⟩ (fun h0 => absurd h0 (by omega)) (fun h0 _ => absurd h0 (by omega)) (fun i e he => by obtain ⟨_, _, h2, _⟩ := hget i e he; omega) (fun _ _ => undef)
      (fun i j e p he hp => by obtain ⟨_, _, h2, _⟩ := hget i e he; omega) (fun i j e p he hp => by obtain ⟨_, _, h2, _⟩ := hget i e he; omega) (fun i j e p he hp => by obtain ⟨_, _, h2, _⟩ := hget i e he; omega)
def fzG (ob : OB) (lo n : Nat) (K : AV → Prop) : Prop := match ob with
  | .row true fl z es => BndF true (lo + n ≤ es.length) (EqL ((es.drop lo).take n) fun es => K (.p (Fl.join .fresh fl) (.lst z es)))
  | .rows true fl z es none => BndF true (lo + n ≤ es.length) (EqL (((es.drop lo).take n).map fun e => [.lst z e]) fun es => K (.p (Fl.join .fresh fl) (.lst zL0 es)))
  | _ => False
def fzV (k : Nat) (ob : OB) : Nat → AV → (AV → Prop) → Prop
  | 0, _, K => K .junk
  | d + 1, a, K => match a with
    | .osl k' lo n => bif Nat.beq k' k then fzG ob lo n K else K (.osl k' lo n)
    | .own k' off => bif Nat.beq k' k then K .junk else K (.own k' off)
    | .orow k' i j => bif Nat.beq k' k then K .junk else K (.orow k' i j)
    | .amap k' => bif Nat.beq k' k then K .junk else K (.amap k')
    | .tup vs => seqW (fzV k ob d) vs fun vs => K (.tup vs)
    | .aagg vs => seqW (fzV k ob d) vs fun vs => K (.aagg vs)
    | .afn f vs => seqW (fzV k ob d) vs fun vs => K (.afn f vs)
    | .opt g v => fzV k ob d v fun v => K (.opt g v)
    | a => K a
def fzO (k : Nat) (ob : OB) (o : OB) (K : OB → Prop) : Prop := match o with
  | .fix cells => seqW (fzV k ob 4) cells fun cs => K (.fix cs)
  | o => K o
def fzOk (ob : OB) : Bool := match ob with
  | .row true _ _ _ => true
  | .rows true _ _ _ none => true
  | _ => false
section
variable {N m : Nat} {F A : Nat → Prop} {w0 : World} {pl : Nat → Pl} {a : Act} {w : World}
theorem fzV_sound {env : Nat → AV} {h : List OB} (hp : ConcP N m F A w0 ⟨env, h⟩ pl a w) {k : Nat} {ob : OB} (hk : h[k]? = some ob) (hob : fzOk ob = true) {S1 Fr1 : Nat → Prop} (hS : ∀ b, Sany A w0.heap.size pl h w b → S1 b) (hFr : ∀ b, Fresh w0.heap.size pl h w b → Fr1 b) (hFS : ∀ b, Fr1 b → S1 b) (hown : ∀ b, owns pl h k b → Fr1 b) :
    ∀ (d : Nat) (v : AV) (K : AV → Prop), fzV k ob d v K → ∃ v', K v' ∧ ∀ u, RelA pl h.length (Sany A w0.heap.size pl h w) (Fresh w0.heap.size pl h w) w v u → RelA pl h.length S1 Fr1 w v' u
  | 0, v, K, hx => ⟨.junk, hx, fun u _ => .junk⟩
  | d + 1, v, K, hx => by
    have same : ∀ v, K v → ∃ v', K v' ∧ ∀ u, RelA pl h.length (Sany A w0.heap.size pl h w) (Fresh w0.heap.size pl h w) w v u → RelA pl h.length S1 Fr1 w v' u := fun v hv =>
      ⟨v, hv, fun u hu => hu.mono (Nat.le_refl _) (fun _ _ => Pl.Base.refl _) hS hFr (fun _ _ => rfl) (fun _ _ => rfl)⟩
    have hj : ∀ fl, fl ≠ Fl.any → ∀ b, flagS (Sany A w0.heap.size pl h w) (Fresh w0.heap.size pl h w) fl b → flagS S1 Fr1 (Fl.join .fresh fl) b := by
      intro fl hfl b hb
      cases fl with
      | flat => exact hb.elim
      | fresh => exact hFr b hb
      | any => exact absurd rfl hfl
    have hj2 : ∀ fl b, flagS (Sany A w0.heap.size pl h w) (Fresh w0.heap.size pl h w) fl b → flagS S1 Fr1 (Fl.join .fresh fl) b := by
      intro fl b hb
      cases fl with
      | flat => exact hb.elim
      | fresh => exact hFr b hb
      | any => exact hS b hb
    have hj3 : ∀ fl b, Fr1 b → flagS S1 Fr1 (Fl.join .fresh fl) b := by
      intro fl b hb
      cases fl with
      | flat => exact hb
      | fresh => exact hb
      | any => exact hFS b hb
    unfold fzV at hx
    split at hx
    case h_1 k' lo n =>
      cases hb : Nat.beq k' k with
      | false => rw [hb] at hx; exact same _ hx
      | true =>
        rw [hb] at hx
        have := Nat.eq_of_beq_eq_true hb
        subst this
        simp only [cond_true] at hx
        unfold fzG at hx
        split at hx
        · rename_i fl z es
          obtain ⟨hn, es', rfl, hK⟩ := hx
          have hn := hn rfl
          refine ⟨_, hK, fun u hu => ?_⟩
          have hR : RowRel (flagS (Sany A w0.heap.size pl h w) (Fresh w0.heap.size pl h w) fl) w (pl k').toPl0 z es := hp.heap k' _ hk
          cases hu with
          | @osl _ _ _ C A' hkL hA hC hn' hM => exact .p (hR.cut (hj2 fl) (fun hc => hj3 fl _ (hown _ (owns_row hk hc))) hA hC hn' hn)
        · rename_i fl z es
          obtain ⟨hn, es', rfl, hK⟩ := hx
          have hn := hn rfl
          refine ⟨_, hK, fun u hu => ?_⟩
          have hR : RowsRel pl h.length (Sany A w0.heap.size pl h w) (Fresh w0.heap.size pl h w) w (pl k') fl z es none := hp.heap k' _ hk
          cases hu with
          | @osl _ _ _ C A' hkL hA hC hn' hM => exact .p (hR.cut (hj2 fl) (fun hc => hj3 fl _ (hown _ (owns_of hk (.inl ⟨hc, rfl⟩)))) (fun i q hq hc => hj3 fl _ (hown _ (owns_of hk (.inr ⟨i, q, hq, by simp, hc, rfl⟩)))) hA hC hn' hn)
        · exact hx.elim
    case h_2 k' off =>
      cases hb : Nat.beq k' k with
      | false => rw [hb] at hx; exact same _ hx
      | true => rw [hb] at hx; exact ⟨_, hx, fun u _ => .junk⟩
    case h_3 k' i j =>
      cases hb : Nat.beq k' k with
      | false => rw [hb] at hx; exact same _ hx
      | true => rw [hb] at hx; exact ⟨_, hx, fun u _ => .junk⟩
    case h_4 k' =>
      cases hb : Nat.beq k' k with
      | false => rw [hb] at hx; exact same _ hx
      | true => rw [hb] at hx; exact ⟨_, hx, fun u _ => .junk⟩
    case h_5 vs =>
      obtain ⟨ps, hK, hl, hr⟩ := seqW_sound (r := fun v p => ∀ u, RelA pl h.length (Sany A w0.heap.size pl h w) (Fresh w0.heap.size pl h w) w v u → RelA pl h.length S1 Fr1 w p u) (fun v K h => fzV_sound hp hk hob hS hFr hFS hown d v K h) hx
      refine ⟨_, hK, fun u hu => ?_⟩
      cases hu with
      | @tup _ arr hs hr' =>
        refine .tup (by rw [hs, hl]) fun j p x hp' hx' => ?_
        have hj' : j < vs.length := by rw [← hl]; exact (List.getElem?_eq_some_iff.1 hp').1
        exact hr j _ p (List.getElem?_eq_getElem hj') hp' x (hr' j _ x (List.getElem?_eq_getElem hj') hx')
    case h_6 vs =>
      obtain ⟨ps, hK, hl, hr⟩ := seqW_sound (r := fun v p => ∀ u, RelA pl h.length (Sany A w0.heap.size pl h w) (Fresh w0.heap.size pl h w) w v u → RelA pl h.length S1 Fr1 w p u) (fun v K h => fzV_sound hp hk hob hS hFr hFS hown d v K h) hx
      refine ⟨_, hK, fun u hu => ?_⟩
      cases hu with
      | @aagg _ arr hs h1 hr' =>
        refine .aagg (by rw [hs, hl]) h1 fun j p x hp' hx' => ?_
        have hj' : j < vs.length := by rw [← hl]; exact (List.getElem?_eq_some_iff.1 hp').1
        exact hr j _ p (List.getElem?_eq_getElem hj') hp' x (hr' j _ x (List.getElem?_eq_getElem hj') hx')
    case h_7 f vs =>
      obtain ⟨ps, hK, hl, hr⟩ := seqW_sound (r := fun v p => ∀ u, RelA pl h.length (Sany A w0.heap.size pl h w) (Fresh w0.heap.size pl h w) w v u → RelA pl h.length S1 Fr1 w p u) (fun v K h => fzV_sound hp hk hob hS hFr hFS hown d v K h) hx
      refine ⟨_, hK, fun u hu => ?_⟩
      cases hu with
      | @afn _ _ arr hs hr' =>
        refine .afn (by rw [hs, hl]) fun j p x hp' hx' => ?_
        have hj' : j < vs.length := by rw [← hl]; exact (List.getElem?_eq_some_iff.1 hp').1
        exact hr j _ p (List.getElem?_eq_getElem hj') hp' x (hr' j _ x (List.getElem?_eq_getElem hj') hx')
    case h_8 g v =>
      obtain ⟨v', hK, hr⟩ := fzV_sound hp hk hob hS hFr hFS hown d v _ hx
      refine ⟨_, hK, fun u hu => ?_⟩
      cases hu with
      | opt h1 h0 => exact .opt (fun hg => hr u (h1 hg)) h0
    case h_9 => exact same _ hx
theorem frz_own {h : List OB} {k i b : Nat} (hb : owns pl (h.set k .dead) i b) : i ≠ k ∧ owns pl h i b := by
  obtain ⟨o, h1, h2⟩ := owns_out hb
  by_cases hik : i = k
  · subst hik
    by_cases hl : i < h.length
    · rw [List.getElem?_set_self hl] at h1; cases h1; exact h2.elim
    · rw [List.getElem?_eq_none (by simp; omega)] at h1; cases h1
  · rw [List.getElem?_set_ne (fun e => hik (Eq.symm e))] at h1
    exact ⟨hik, owns_of h1 h2⟩
theorem frz1 {env : Nat → AV} {h : List OB} (hp : ConcP N m F A w0 ⟨env, h⟩ pl a w) {k : Nat} {ob : OB} (hk : h[k]? = some ob) (hob : fzOk ob = true) :
    (∀ b, Sany A w0.heap.size pl h w b → Sany A w0.heap.size pl (h.set k .dead) w b) ∧ (∀ b, Fresh w0.heap.size pl h w b → Fresh w0.heap.size pl (h.set k .dead) w b) ∧ (∀ b, Fresh w0.heap.size pl (h.set k .dead) w b → Sany A w0.heap.size pl (h.set k .dead) w b) ∧ (∀ b, owns pl h k b → Fresh w0.heap.size pl (h.set k .dead) w b) := by
  have hnew : isnew m h k := by
    unfold isnew; rw [hk]
    unfold fzOk at hob
    split at hob
    · rfl
    · rfl
    · cases hob
  have hSt : ∀ b, Stab pl h w b → Stab pl (h.set k .dead) w b := fun b hb => ⟨hb.1, fun i hi => hb.2 i (frz_own hi).2⟩
  exact ⟨fun b hb => ⟨hSt b hb.1, hb.2⟩, fun b hb => ⟨hb.1, hSt b hb.2⟩, fun b hb => ⟨hb.2, .inr hb.1⟩, fun b hb => ⟨hp.newb k b hnew hb, hp.ownlt k b hb, fun i hi => (frz_own hi).1 (hp.disj i k b (frz_own hi).2 hb)⟩⟩
def fzRel (R : AV → AV → Prop) (o o' : OB) : Prop := match o with
  | .fix cs => ∃ cs', o' = .fix cs' ∧ cs'.length = cs.length ∧ ∀ (j : Nat) (c c' : AV), cs[j]? = some c → cs'[j]? = some c' → R c c'
  | o => o' = o
theorem fzO_sound {k : Nat} {ob : OB} {R : AV → AV → Prop} (hV : ∀ v K, fzV k ob 4 v K → ∃ v', K v' ∧ R v v') {o : OB} {K : OB → Prop} (hx : fzO k ob o K) : ∃ o', K o' ∧ fzRel R o o' := by
  cases o with
  | fix cs =>
    obtain ⟨ps, hK, hl, hr⟩ := seqW_sound (r := R) hV hx
    exact ⟨_, hK, ps, rfl, hl, hr⟩
  | dead => exact ⟨_, hx, rfl⟩
  | row nw fl z es => exact ⟨_, hx, rfl⟩
  | mp nw ks f => exact ⟨_, hx, rfl⟩
  | rows nw fl z es ho => exact ⟨_, hx, rfl⟩
theorem fzRel.owns {R : AV → AV → Prop} {o o' : OB} (h : fzRel R o o') (p : Pl) (b : Nat) : obOwns p o' b ↔ obOwns p o b := by
  cases o with
  | fix cs => obtain ⟨cs', rfl, _⟩ := h; exact Iff.rfl
  | dead => have e : o' = OB.dead := h; rw [e]
  | row nw fl z es => have e : o' = OB.row nw fl z es := h; rw [e]
  | mp nw ks f => have e : o' = OB.mp nw ks f := h; rw [e]
  | rows nw fl z es ho => have e : o' = OB.rows nw fl z es ho := h; rw [e]
theorem ConcP.freeze {env env' : Nat → AV} {h h' : List OB} (hp : ConcP N m F A w0 ⟨env, h⟩ pl a w) {k : Nat} {ob : OB} (hk : h[k]? = some ob) (hob : fzOk ob = true) (hl : h'.length = h.length) {R : AV → AV → Prop}
    (hR : ∀ v v', R v v' → ∀ u, RelA pl h.length (Sany A w0.heap.size pl h w) (Fresh w0.heap.size pl h w) w v u → RelA pl h.length (Sany A w0.heap.size pl (h.set k .dead) w) (Fresh w0.heap.size pl (h.set k .dead) w) w v' u)
    (hO : ∀ (i : Nat) (o o' : OB), (h.set k .dead)[i]? = some o → h'[i]? = some o' → fzRel R o o')
    (hE : ∀ s, R (env s) (env' s)) : ConcP N m F A w0 ⟨env', h'⟩ pl a w := by
  have hkl := (List.getElem?_eq_some_iff.1 hk).1
  obtain ⟨hS, hFr, hFS, hown⟩ := frz1 hp hk hob
  have both : ∀ (i : Nat) (o' : OB), h'[i]? = some o' → ∃ o : OB, (h.set k .dead)[i]? = some o ∧ fzRel R o o' := by
    intro i o' hi
    have hil : i < (h.set k .dead).length := by rw [List.length_set, ← hl]; exact (List.getElem?_eq_some_iff.1 hi).1
    exact ⟨_, List.getElem?_eq_getElem hil, hO i _ o' (List.getElem?_eq_getElem hil) hi⟩
  have ow : ∀ i b, owns pl h' i b ↔ owns pl (h.set k .dead) i b := by
    intro i b
    constructor
    · intro hb
      obtain ⟨o', h1, h2⟩ := owns_out hb
      obtain ⟨o, h3, h4⟩ := both i o' h1
      exact owns_of h3 ((h4.owns _ _).1 h2)
    · intro hb
      obtain ⟨o, h1, h2⟩ := owns_out hb
      have hil : i < h'.length := by rw [hl]; have := (List.getElem?_eq_some_iff.1 h1).1; rwa [List.length_set] at this
      have h4 := hO i o _ h1 (List.getElem?_eq_getElem hil)
      exact owns_of (List.getElem?_eq_getElem hil) ((h4.owns _ _).2 h2)
  have hSt : Stab pl h' w = Stab pl (h.set k .dead) w := funext fun b => propext ⟨fun h => ⟨h.1, fun i hi => h.2 i ((ow i b).2 hi)⟩, fun h => ⟨h.1, fun i hi => h.2 i ((ow i b).1 hi)⟩⟩
  have eS : Sany A w0.heap.size pl h' w = Sany A w0.heap.size pl (h.set k .dead) w := by unfold Sany; rw [hSt]
  have eF : Fresh w0.heap.size pl h' w = Fresh w0.heap.size pl (h.set k .dead) w := by unfold Fresh; rw [hSt]
  have own1 : ∀ i b, owns pl h' i b → i ≠ k ∧ owns pl h i b := fun i b hb => frz_own ((ow i b).1 hb)
  refine { defers := hp.defers, size := hp.size, os := hp.os, tape := hp.tape, output := hp.output, hsize := hp.hsize, frame := hp.frame, ownlt := fun i b hi => hp.ownlt i b (own1 i b hi).2, ownF := fun i b hi => hp.ownF i b (own1 i b hi).2, newb := fun i b hn hi => hp.newb i b ?_ (own1 i b hi).2, disj := fun i j b h1 h2 => hp.disj i j b (own1 i b h1).2 (own1 j b h2).2, heap := fun i o' hi => ?_, env := fun s => ?_ }
  · have hik := (own1 i b hi).1
    unfold isnew at hn ⊢
    cases hi' : h'[i]? with
    | none => simp only [hi'] at hn
    | some o' =>
      obtain ⟨o, h3, h4⟩ := both i o' hi'
      rw [List.getElem?_set_ne (fun e => hik (Eq.symm e))] at h3
      simp only [hi'] at hn
      simp only [h3]
      cases o with
      | fix cs => obtain ⟨cs', rfl, _⟩ := h4; exact hn
      | dead => have e : o' = OB.dead := h4; rw [e] at hn; exact hn
      | row nw fl z es => have e : o' = OB.row nw fl z es := h4; rw [e] at hn; exact hn
      | mp nw ks f => have e : o' = OB.mp nw ks f := h4; rw [e] at hn; exact hn
      | rows nw fl z es ho => have e : o' = OB.rows nw fl z es ho := h4; rw [e] at hn; exact hn
  · have hi : h'[i]? = some o' := hi
    obtain ⟨o, h3, h4⟩ := both i o' hi
    show OBrel pl h'.length (Sany A w0.heap.size pl h' w) (Fresh w0.heap.size pl h' w) w i o'
    rw [hl, eS, eF]
    by_cases hik : i = k
    · subst hik
      rw [List.getElem?_set_self hkl] at h3
      cases h3
      have e : o' = OB.dead := h4
      rw [e]; trivial
    · rw [List.getElem?_set_ne (fun e => hik (Eq.symm e))] at h3
      have hob' := hp.heap i o h3
      cases o with
      | fix cs =>
        obtain ⟨cs', rfl, hlen, hr⟩ := h4
        obtain ⟨ty, arr, g1, g2, g3⟩ := hob'
        refine ⟨ty, arr, g1, by rw [g2, hlen], fun j c u hj hu => ?_⟩
        have hj' : j < cs.length := by rw [← hlen]; exact (List.getElem?_eq_some_iff.1 hj).1
        obtain ⟨q1, q2⟩ := g3 j _ u (List.getElem?_eq_getElem hj') hu
        exact ⟨q1, hR _ _ (hr j _ c (List.getElem?_eq_getElem hj') hj) u q2⟩
      | dead => have e : o' = OB.dead := h4; rw [e]; trivial
      | row nw fl z es => have e : o' = OB.row nw fl z es := h4; rw [e]; exact OBrel.mono (Nat.le_refl _) (fun _ _ => Pl.Base.refl _) hS hFr (fun _ _ => rfl) (fun _ _ => rfl) rfl (fun _ _ => rfl) hob'
      | mp nw ks f => have e : o' = OB.mp nw ks f := h4; rw [e]; exact OBrel.mono (Nat.le_refl _) (fun _ _ => Pl.Base.refl _) hS hFr (fun _ _ => rfl) (fun _ _ => rfl) rfl (fun _ _ => rfl) hob'
      | rows nw fl z es ho => have e : o' = OB.rows nw fl z es ho := h4; rw [e]; exact OBrel.mono (Nat.le_refl _) (fun _ _ => Pl.Base.refl _) hS hFr (fun _ _ => rfl) (fun _ _ => rfl) rfl (fun _ _ => rfl) hob'
  · show RelA pl h'.length (Sany A w0.heap.size pl h' w) (Fresh w0.heap.size pl h' w) w (env' s) _
    rw [hl, eS, eF]
    exact hR _ _ (hE s) _ (hp.env s)
end
end Go.Av
namespace Go.Av
open Go.RowKit
inductive Gh where
  | nils (k off : Nat) (z : List PV)
  | nilr (k off : Nat) (z : List PV)
  | mv (k : Nat)
  | old (k : Nat)
  | fz (k s : Nat)
  | fzc (k b o : Nat)
def nilAt (h : List OB) (k off : Nat) (z : List PV) : Bool := match h[k]? with
  | some (.fix cells) => (match cells[off]? with
    | some (.p _ (.c (.slice none 0 0))) => (match z with
      | [] => false
      | _ => true)
    | _ => false)
  | _ => false
def nilH (h : List OB) (k off : Nat) : List OB := match h[k]? with
  | some (.fix cells) => h.set k (.fix (cells.set off (.osl h.length 0 0)))
  | _ => h
def mvG (k L : Nat) : Nat → Option Nat := fun i => bif Nat.beq i k then some L else some i
def mvE (k L : Nat) : En → En
  | [] => []
  | (s, v) :: r => (s, renA (mvG k L) some v) :: mvE k L r
def mvO (g : Nat → Option Nat) : OB → OB
  | .fix cells => .fix (renL g some cells)
  | ob => ob
def mvL (g : Nat → Option Nat) : List OB → List OB
  | [] => []
  | ob :: r => mvO g ob :: mvL g r
theorem mvL_eq (g : Nat → Option Nat) (h : List OB) : mvL g h = h.map (mvO g) := by
  induction h with
  | nil => rfl
  | cons a r ih => simp [mvL, ih]
def mvAt (h : List OB) (k : Nat) : Bool := match h[k]? with
  | some (.row false _ _ _) => true
  | some (.rows false _ _ _ none) => true
  | _ => false
def mvH (h : List OB) (k : Nat) : List OB := match h[k]? with
  | some ob => mvL (mvG k h.length) (h.set k .dead ++ [ob])
  | none => h
theorem lk_mvE (k L : Nat) : ∀ (e : En) (s : Nat), lk (mvE k L e) s = renA (mvG k L) some (lk e s)
  | [], s => by simp [mvE, lk, renA]
  | (t, v) :: r, s => by
    simp only [mvE, lk]
    cases Nat.beq t s with
    | true => rfl
    | false => exact lk_mvE k L r s
section
variable {N m : Nat} {F A : Nat → Prop} {w0 : World} {st : St} {pl : Nat → Pl} {a : Act} {w : World} {P : Program} [Kn P]
theorem owns_mvL {g : Nat → Option Nat} {h : List OB} {k b : Nat} : owns pl (h.map (mvO g)) k b ↔ owns pl h k b := by
  unfold owns
  rw [List.getElem?_map]
  cases h[k]? with
  | none => exact Iff.rfl
  | some ob => cases ob <;> exact Iff.rfl
theorem ConcP.remap (hp : ConcP N m F A w0 st pl a w) (g : Nat → Option Nat) (hg : ∀ k i, k < st.heap.length → g k = some i → i < st.heap.length ∧ pl i = pl k) :
    ConcP N m F A w0 ⟨fun s => renA g some (st.env s), st.heap.map (mvO g)⟩ pl a w := by
  have ho : ∀ k b, owns pl (st.heap.map (mvO g)) k b ↔ owns pl st.heap k b := fun k b => owns_mvL
  have hSt : Stab pl (st.heap.map (mvO g)) w = Stab pl st.heap w := funext fun b => propext ⟨fun h => ⟨h.1, fun k hk => h.2 k ((ho k b).2 hk)⟩, fun h => ⟨h.1, fun k hk => h.2 k ((ho k b).1 hk)⟩⟩
  have hS : Sany A w0.heap.size pl (st.heap.map (mvO g)) w = Sany A w0.heap.size pl st.heap w := by unfold Sany; rw [hSt]
  have hFr : Fresh w0.heap.size pl (st.heap.map (mvO g)) w = Fresh w0.heap.size pl st.heap w := by unfold Fresh; rw [hSt]
  have hn : ∀ k, isnew m (st.heap.map (mvO g)) k → isnew m st.heap k := by
    intro k hk
    unfold isnew at hk ⊢
    rw [List.getElem?_map] at hk
    cases h : st.heap[k]? with
    | none => rw [h] at hk; exact hk
    | some ob => rw [h] at hk; cases ob <;> exact hk
  have hl : (st.heap.map (mvO g)).length = st.heap.length := List.length_map _
  have hfm : ∀ fl fl', (some fl : Option Fl) = some fl' → ∀ b, flagS (Sany A w0.heap.size pl st.heap w) (Fresh w0.heap.size pl st.heap w) fl b → flagS (Sany A w0.heap.size pl st.heap w) (Fresh w0.heap.size pl st.heap w) fl' b ∧ w.heap[b]? = w.heap[b]? := by
    intro fl fl' he b hb; cases he; exact ⟨hb, rfl⟩
  refine { defers := hp.defers, size := hp.size, os := hp.os, tape := hp.tape, output := hp.output, hsize := hp.hsize, frame := hp.frame, ownlt := fun k b hk => hp.ownlt k b ((ho k b).1 hk), ownF := fun k b hk => hp.ownF k b ((ho k b).1 hk), newb := fun k b h1 hk => hp.newb k b (hn k h1) ((ho k b).1 hk), disj := fun k k' b h1 h2 => hp.disj k k' b ((ho k b).1 h1) ((ho k' b).1 h2), heap := fun k ob hk => ?_, env := fun s => ?_ }
  · simp only [hS, hFr, hl]
    simp only [List.getElem?_map] at hk
    cases h : st.heap[k]? with
    | none => rw [h] at hk; cases hk
    | some ob0 =>
      rw [h] at hk
      cases hk
      have := hp.heap k ob0 h
      cases ob0 with
      | fix cells => exact OBrel.ren (g := g) (fm := some) hg hfm rfl (fun _ _ => rfl) this
      | _ => exact this
  · simp only [hS, hFr, hl]
    exact (hp.env s).ren hg hfm
theorem nilAt_spec {h : List OB} {k off : Nat} {z : List PV} (hb : nilAt h k off z = true) : ∃ cells fl, h[k]? = some (.fix cells) ∧ cells[off]? = some (.p fl (.c (.slice none 0 0))) ∧ 0 < z.length := by
  unfold nilAt at hb
  split at hb
  · rename_i cells hk
    split at hb
    · rename_i fl ho
      cases z with
      | nil => cases hb
      | cons x r => exact ⟨_, _, hk, ho, by simp⟩
    · cases hb
  · cases hb
theorem ConcP.nilCell {env : Nat → AV} {h : List OB} {pl : Nat → Pl} (hp : ConcP N m F A w0 ⟨env, h⟩ pl a w) {k off : Nat} {cells : List AV} {fl : Fl} (hk : h[k]? = some (.fix cells)) (ho : cells[off]? = some (.p fl (.c (.slice none 0 0)))) {i : Nat} (hi : i < h.length) (hc : (pl i).cap = 0) :
    ConcP N m F A w0 ⟨env, h.set k (.fix (cells.set off (.osl i 0 0)))⟩ pl a w := by
  obtain ⟨hN, hmk⟩ := hp.write' hk (ob' := .fix (cells.set off (.osl i 0 0))) rfl rfl (w' := w) rfl rfl rfl rfl (fun _ _ => rfl)
  refine hmk ?_
  obtain ⟨ty, arr, h1, h2, h3⟩ := hp.heap k _ hk
  refine ⟨ty, arr, h1, by simp [h2], fun j av u hj hu => ?_⟩
  by_cases hjo : j = off
  · subst hjo
    have hlt : j < cells.length := (List.getElem?_eq_some_iff.1 ho).1
    rw [List.getElem?_set_self hlt] at hj
    cases hj
    obtain ⟨h4, h5⟩ := h3 j _ u ho hu
    obtain ⟨rfl, _, _⟩ := h5.cinv
    exact ⟨h4, .osl (by simpa using hi) (fun hlt => by omega) (by omega) (Nat.le_refl _) (by omega)⟩
  · rw [List.getElem?_set_ne (fun e => hjo e.symm)] at hj
    obtain ⟨h4, h5⟩ := h3 j _ u hj hu
    exact ⟨h4, hN.relA h5⟩
theorem ConcP.newNilR (h : ConcP N m F A w0 st pl a w) (hF : ∀ b, F b → b < w0.heap.size) (nw : Bool) (fl : Fl) (z : List PV) (hz : 0 < z.length) :
    ConcP N m F A w0 ⟨st.env, st.heap ++ [.rows nw fl z [] none]⟩ (plAt pl st.heap.length (mkPl 0 0 0 1)) a w := by
  obtain ⟨hN, hmk⟩ := h.newOb hF (Ext.refl w) (mkPl 0 0 0 1) (.rows nw fl z [] none) fun b hb => by
    rcases hb with hb | ⟨i, q, hq, _⟩
    · exact absurd hb.1 (Nat.lt_irrefl 0)
    · simp at hq
  refine hmk ?_
  show RowsRel _ _ _ _ _ (plAt pl st.heap.length (mkPl 0 0 0 1) st.heap.length) fl z [] none
  rw [plAt_eq]
  exact { sz := rfl, cap := Nat.zero_le _, len := Nat.zero_le _, inn := rfl, zpos := hz, mem := fun hc => absurd hc (by simp), row := fun i e q he => (by simp at he), out := fun i k2 hh => (by cases hh), apart := fun i j q q' hq => (by simp at hq), apart0 := fun i q hq => (by simp at hq) }
end
def fE : En → (En → Prop) → Prop
  | [], K => K []
  | (s, v) :: r, K => fV 4 v fun v => fE r fun r => K ((s, v) :: r)
theorem fE_eq : ∀ {e : En} {K : En → Prop}, fE e K → K e
  | [], _, h => h
  | (s, v) :: r, K, h => fE_eq (e := r) (K := fun r => K ((s, v) :: r)) (fV_eq _ _ _ h)
def unnew : OB → OB
  | .row _ fl z es => .row false fl z es
  | .mp _ ks f => .mp false ks f
  | .rows _ fl z es ho => .rows false fl z es ho
  | ob => ob
def oldH (h : List OB) (k : Nat) : List OB := match h[k]? with
  | some ob => h.set k (unnew ob)
  | none => h
theorem obOwns_un {p : Pl} {ob : OB} {b : Nat} : obOwns p (unnew ob) b ↔ obOwns p ob b := by cases ob <;> exact Iff.rfl
section
variable {N m : Nat} {F A : Nat → Prop} {w0 : World} {pl : Nat → Pl} {a : Act} {w : World}
theorem ConcP.oldK {env : Nat → AV} {h : List OB} (hp : ConcP N m F A w0 ⟨env, h⟩ pl a w) {k : Nat} {ob : OB} (hk : h[k]? = some ob) : ConcP N m F A w0 ⟨env, h.set k (unnew ob)⟩ pl a w := by
  have hkl := (List.getElem?_eq_some_iff.1 hk).1
  have ho : ∀ i b, owns pl (h.set k (unnew ob)) i b ↔ owns pl h i b := by
    intro i b
    by_cases hik : i = k
    · subst hik
      rw [owns_iff (List.getElem?_set_self hkl), owns_iff hk]; exact obOwns_un
    · unfold owns; rw [List.getElem?_set_ne (fun e => hik e.symm)]
  have hSt : Stab pl (h.set k (unnew ob)) w = Stab pl h w := funext fun b => propext ⟨fun h => ⟨h.1, fun i hi => h.2 i ((ho i b).2 hi)⟩, fun h => ⟨h.1, fun i hi => h.2 i ((ho i b).1 hi)⟩⟩
  have hS : Sany A w0.heap.size pl (h.set k (unnew ob)) w = Sany A w0.heap.size pl h w := by unfold Sany; rw [hSt]
  have hFr : Fresh w0.heap.size pl (h.set k (unnew ob)) w = Fresh w0.heap.size pl h w := by unfold Fresh; rw [hSt]
  have hl : (h.set k (unnew ob)).length = h.length := List.length_set
  refine { defers := hp.defers, size := hp.size, os := hp.os, tape := hp.tape, output := hp.output, hsize := hp.hsize, frame := hp.frame, ownlt := fun i b hi => hp.ownlt i b ((ho i b).1 hi), ownF := fun i b hi => hp.ownF i b ((ho i b).1 hi), newb := fun i b hn hi => hp.newb i b ?_ ((ho i b).1 hi), disj := fun i j b h1 h2 => hp.disj i j b ((ho i b).1 h1) ((ho j b).1 h2), heap := fun i o hi => ?_, env := fun s => ?_ }
  · unfold isnew at hn ⊢
    by_cases hik : i = k
    · subst hik
      simp only [List.getElem?_set_self hkl] at hn
      simp only [hk]
      cases ob with
      | fix c => exact hn
      | dead => exact hn
      | row nw fl z es => simp [unnew] at hn
      | mp nw ks f => simp [unnew] at hn
      | rows nw fl z es ho => simp [unnew] at hn
    · simp only [List.getElem?_set_ne (fun e => hik (Eq.symm e))] at hn; exact hn
  · simp only [hS, hFr, hl]
    by_cases hik : i = k
    · subst hik
      simp only [List.getElem?_set_self hkl, Option.some.injEq] at hi
      subst hi
      have := hp.heap i ob hk
      cases ob <;> exact this
    · simp only [List.getElem?_set_ne (fun e => hik (Eq.symm e))] at hi
      exact hp.heap i o hi
  · simp only [hS, hFr, hl]; exact hp.env s
end
def fzS (k : Nat) (ob : OB) (a : AV) (K : AV → Prop) : Prop := match a with
  | .osl k' lo n => Nat.beq k' k = true ∧ fzG ob lo n K
  | _ => False
def ghW : List Gh → (En → List OB → Prop) → En → List OB → Prop
  | [], K, e, h => K e h
  | .nils k off z :: r, K, e, h => nilAt h k off z = true ∧ fH (nilH h k off ++ [.row true .flat z []]) fun h => ghW r K e h
  | .nilr k off z :: r, K, e, h => nilAt h k off z = true ∧ fH (nilH h k off ++ [.rows true .flat z [] none]) fun h => ghW r K e h
  | .old k :: r, K, e, h => fH (oldH h k) fun h => ghW r K e h
  | .fz k s :: r, K, e, h => (match h[k]? with
    | some ob => fzOk ob = true ∧ fzS k ob (lk e s) fun v => fV 4 v fun v => fH (h.set k .dead) fun h => ghW r K ((s, v) :: e) h
    | none => False)
  | .fzc k b o :: r, K, e, h => (match h[k]?, h[b]? with
    | some ob, some (.fix cells) => (match cells[o]? with
      | some a => fzOk ob = true ∧ Nat.beq b k = false ∧ fzS k ob a fun v => fV 4 v fun v => fH ((h.set k .dead).set b (.fix (cells.set o v))) fun h => ghW r K e h
      | none => False)
    | _, _ => False)
  | .mv k :: r, K, e, h => mvAt h k = true ∧ fE (mvE k h.length e) fun e => fH (mvH h k) fun h => ghW r K e h
inductive GhF (id : Nat) (K : En → List OB → Prop) (e : En) (h : List OB) : Prop
  | go (k : K e h)
  | act (l : List Gh) (x : ghW l K e h)
theorem GhF.at {id : Nat} {K : En → List OB → Prop} {e : En} {h : List OB} (i : Nat) (_ : Nat.beq id i = true) (l : List Gh) (x : ghW l K e h) : GhF id K e h := .act l x
theorem AW.gh {P : Program} [Kn P] {N m : Nat} {c : Code} {Q : Exit → St → Prop} {K : En → List OB → Prop} (hK : ∀ e h, K e h → AW P N m c Q ⟨lk e, h⟩) : ∀ {l : List Gh} {e : En} {h : List OB}, ghW l K e h → AW P N m c Q ⟨lk e, h⟩
  | [], e, h, hx => hK e h hx
  | .nils k off z :: r, e, h, hx => by
    obtain ⟨hb, hx⟩ := hx
    have ih := AW.gh hK (fH_eq hx)
    obtain ⟨cells, fl, hk, ho, hz⟩ := nilAt_spec hb
    rintro F A w0 pl0 a w hF hA ⟨pl, hp, hio⟩
    have hkl := (List.getElem?_eq_some_iff.1 hk).1
    have h1 := (hp.newNil hF true .flat z hz).2
    have h2 := h1.nilCell (k := k) (off := off) (cells := cells) (fl := fl) (by rw [List.getElem?_append_left hkl]; exact hk) ho (i := h.length) (by simp) (by show (plAt pl h.length _ h.length).cap = 0; rw [plAt_eq])
    refine ih F A w0 pl0 a w hF hA ⟨plAt pl h.length (mkPl 0 0 0 z.length), ?_, fun k' hk' => ⟨?_, ?_⟩⟩
    · unfold nilH
      simp only [hk]
      rw [List.set_append_left _ _ hkl] at h2
      exact h2
    · have := (hio k' hk').1
      unfold nilH; simp only [hk]; simp at this ⊢; omega
    · show plAt pl h.length _ k' = _
      rw [plAt_lt (hio k' hk').1]; exact (hio k' hk').2
  | .nilr k off z :: r, e, h, hx => by
    obtain ⟨hb, hx⟩ := hx
    have ih := AW.gh hK (fH_eq hx)
    obtain ⟨cells, fl, hk, ho, hz⟩ := nilAt_spec hb
    rintro F A w0 pl0 a w hF hA ⟨pl, hp, hio⟩
    have hkl := (List.getElem?_eq_some_iff.1 hk).1
    have h1 := hp.newNilR hF true .flat z hz
    have h2 := h1.nilCell (k := k) (off := off) (cells := cells) (fl := fl) (by rw [List.getElem?_append_left hkl]; exact hk) ho (i := h.length) (by simp) (by show (plAt pl h.length _ h.length).cap = 0; rw [plAt_eq])
    refine ih F A w0 pl0 a w hF hA ⟨plAt pl h.length (mkPl 0 0 0 1), ?_, fun k' hk' => ⟨?_, ?_⟩⟩
    · unfold nilH
      simp only [hk]
      rw [List.set_append_left _ _ hkl] at h2
      exact h2
    · have := (hio k' hk').1
      unfold nilH; simp only [hk]; simp at this ⊢; omega
    · show plAt pl h.length _ k' = _
      rw [plAt_lt (hio k' hk').1]; exact (hio k' hk').2
  | .old k :: r, e, h, hx => by
    have ih := AW.gh hK (fH_eq hx)
    rintro F A w0 pl0 a w hF hA ⟨pl, hp, hio⟩
    cases hk : h[k]? with
    | none => exact ih F A w0 pl0 a w hF hA ⟨pl, by unfold oldH; simp only [hk]; exact hp, fun k' hk' => by unfold oldH; simp only [hk]; exact hio k' hk'⟩
    | some ob => exact ih F A w0 pl0 a w hF hA ⟨pl, by unfold oldH; simp only [hk]; exact hp.oldK hk, fun k' hk' => by have := hio k' hk'; unfold oldH; simp only [hk, List.length_set]; exact this⟩
  | .fz k s :: r, e, h, hx => by
    rintro F A w0 pl0 a w hF hA ⟨pl, hp, hio⟩
    unfold ghW at hx
    split at hx
    case h_2 => exact hx.elim
    rename_i ob hk
    obtain ⟨hob, hx⟩ := hx
    unfold fzS at hx
    split at hx
    case h_2 => exact hx.elim
    rename_i k' lo n hs
    obtain ⟨hb, hx⟩ := hx
    have hkk := Nat.eq_of_beq_eq_true hb
    subst hkk
    obtain ⟨hS, hFr, hFS, hown⟩ := frz1 hp hk hob
    have hx1 : fzV k' ob 1 (.osl k' lo n) (fun v => fV 4 v fun v => fH (h.set k' .dead) fun h => ghW r K ((s, v) :: e) h) := by
      unfold fzV
      simp only [Nat.beq_refl, cond_true]
      exact hx
    obtain ⟨v, hx2, hv⟩ := fzV_sound hp hk hob hS hFr hFS hown 1 _ _ hx1
    have hx3 := fH_eq (fV_eq _ _ _ hx2)
    have ih := AW.gh hK hx3
    have same : ∀ v u, RelA pl h.length (Sany A w0.heap.size pl h w) (Fresh w0.heap.size pl h w) w v u → RelA pl h.length (Sany A w0.heap.size pl (h.set k' .dead) w) (Fresh w0.heap.size pl (h.set k' .dead) w) w v u := fun v u hu =>
      hu.mono (Nat.le_refl _) (fun _ _ => Pl.Base.refl _) hS hFr (fun _ _ => rfl) (fun _ _ => rfl)
    refine ih F A w0 pl0 a w hF hA ⟨pl, hp.freeze (h' := h.set k' .dead) (env' := lk ((s, v) :: e)) hk hob (List.length_set) (R := fun v v' => ∀ u, RelA pl h.length (Sany A w0.heap.size pl h w) (Fresh w0.heap.size pl h w) w v u → RelA pl h.length (Sany A w0.heap.size pl (h.set k' .dead) w) (Fresh w0.heap.size pl (h.set k' .dead) w) w v' u) (fun v v' h => h) (fun i o o' h1 h2 => ?_) (fun s' => ?_), fun k2 hk2 => ⟨by have := (hio k2 hk2).1; show k2 < (h.set k' OB.dead).length; rw [List.length_set]; exact this, (hio k2 hk2).2⟩⟩
    · have e1 : o = o' := Option.some.inj (h1.symm.trans h2)
      subst e1
      cases o with
      | fix cs => exact ⟨cs, rfl, rfl, fun j c c' h3 h4 => by have e2 : c = c' := Option.some.inj (h3.symm.trans h4); subst e2; exact same c⟩
      | dead => rfl
      | row nw fl z es => rfl
      | mp nw ks f => rfl
      | rows nw fl z es ho => rfl
    · simp only [lk]
      cases hb2 : Nat.beq s s' with
      | true =>
        have := Nat.eq_of_beq_eq_true hb2
        subst this
        intro u hu
        rw [hs] at hu
        exact hv u hu
      | false => exact same _
  | .fzc k b o :: r, e, h, hx => by
    rintro F A w0 pl0 a w hF hA ⟨pl, hp, hio⟩
    unfold ghW at hx
    split at hx
    case h_2 => exact hx.elim
    rename_i ob cells hk hbk
    split at hx
    case h_2 => exact hx.elim
    rename_i a0 ho
    obtain ⟨hob, hne, hx⟩ := hx
    have hne : b ≠ k := fun e => by subst e; rw [Nat.beq_refl] at hne; cases hne
    unfold fzS at hx
    split at hx
    case h_2 => exact hx.elim
    rename_i k' lo n
    obtain ⟨hb, hx⟩ := hx
    have hkk := Nat.eq_of_beq_eq_true hb
    subst hkk
    obtain ⟨hS, hFr, hFS, hown⟩ := frz1 hp hk hob
    have hx1 : fzV k' ob 1 (.osl k' lo n) (fun v => fV 4 v fun v => fH ((h.set k' .dead).set b (.fix (cells.set o v))) fun h => ghW r K e h) := by
      unfold fzV
      simp only [Nat.beq_refl, cond_true]
      exact hx
    obtain ⟨v, hx2, hv⟩ := fzV_sound hp hk hob hS hFr hFS hown 1 _ _ hx1
    have hx3 := fH_eq (fV_eq _ _ _ hx2)
    have ih := AW.gh hK hx3
    have same : ∀ v u, RelA pl h.length (Sany A w0.heap.size pl h w) (Fresh w0.heap.size pl h w) w v u → RelA pl h.length (Sany A w0.heap.size pl (h.set k' .dead) w) (Fresh w0.heap.size pl (h.set k' .dead) w) w v u := fun v u hu =>
      hu.mono (Nat.le_refl _) (fun _ _ => Pl.Base.refl _) hS hFr (fun _ _ => rfl) (fun _ _ => rfl)
    refine ih F A w0 pl0 a w hF hA ⟨pl, hp.freeze (h' := (h.set k' .dead).set b (.fix (cells.set o v))) (env' := lk e) hk hob (by simp) (R := fun v v' => ∀ u, RelA pl h.length (Sany A w0.heap.size pl h w) (Fresh w0.heap.size pl h w) w v u → RelA pl h.length (Sany A w0.heap.size pl (h.set k' .dead) w) (Fresh w0.heap.size pl (h.set k' .dead) w) w v' u) (fun v v' h => h) (fun i o1 o2 h1 h2 => ?_) (fun s' => same _), fun k2 hk2 => ⟨by have := (hio k2 hk2).1; show k2 < ((h.set k' OB.dead).set b _).length; rw [List.length_set, List.length_set]; exact this, (hio k2 hk2).2⟩⟩
    by_cases hib : i = b
    · subst hib
      have hil : i < (h.set k' OB.dead).length := (List.getElem?_eq_some_iff.1 h1).1
      rw [List.getElem?_set_self hil] at h2
      rw [List.getElem?_set_ne (fun e => hne e.symm), hbk] at h1
      cases h1
      cases h2
      refine ⟨cells.set o v, rfl, by simp, fun j c c' h3 h4 => ?_⟩
      by_cases hj : o = j
      · subst hj
        rw [List.getElem?_set_self (List.getElem?_eq_some_iff.1 h3).1] at h4
        rw [ho] at h3
        cases h3; cases h4
        exact hv
      · rw [List.getElem?_set_ne hj] at h4
        have e2 : c = c' := Option.some.inj (h3.symm.trans h4)
        subst e2
        exact same c
    · rw [List.getElem?_set_ne (fun e => hib e.symm)] at h2
      have e1 : o1 = o2 := Option.some.inj (h1.symm.trans h2)
      subst e1
      cases o1 with
      | fix cs => exact ⟨cs, rfl, rfl, fun j c c' h3 h4 => by have e2 : c = c' := Option.some.inj (h3.symm.trans h4); subst e2; exact same c⟩
      | dead => rfl
      | row nw fl z es => rfl
      | mp nw ks f => rfl
      | rows nw fl z es ho => rfl
  | .mv k :: r, e, h, hx => by
    obtain ⟨hb, hx⟩ := hx
    have ih := AW.gh hK (fH_eq (fE_eq hx))
    rintro F A w0 pl0 a w hF hA ⟨pl, hp, hio⟩
    have hb' : ∃ ob, h[k]? = some ob ∧ nwOf ob = false ∧ kind ob ≠ 1 := by
      unfold mvAt at hb
      split at hb
      · rename_i hk; exact ⟨_, hk, rfl, by simp [kind]⟩
      · rename_i hk; exact ⟨_, hk, rfl, by simp [kind]⟩
      · cases hb
    obtain ⟨ob, hk, hn1, hn2⟩ := hb'
    have hkl := (List.getElem?_eq_some_iff.1 hk).1
    obtain ⟨hN, hmk⟩ := hp.moveG hk (ob' := ob) (.inr ⟨hn1, hn2⟩) (w' := w) rfl rfl rfl rfl (fun _ _ => rfl) (pl k) (fun _ hb => hb)
    have h1 := hmk ((hp.heap k ob hk).mono (pl' := fun i => if i = k then plAt pl h.length (pl k) h.length else plAt pl h.length (pl k) i) hN.len (fun i hi => by
        by_cases hik : i = k
        · simp only [hik, if_true, plAt_eq]; exact Pl.Base.refl _
        · simp only [hik, if_false]; exact hN.pl i hi) hN.S hN.Fr (fun b hb => hN.same b hb.1) (fun b hb => hN.same b hb.2) (by simp [plAt_eq]) (fun _ _ => rfl) |> fun hob => by
          have e : OBrel (fun i => if i = k then plAt pl h.length (pl k) h.length else plAt pl h.length (pl k) i) (h.set k OB.dead ++ [ob]).length (Sany A w0.heap.size (plAt pl h.length (pl k)) (h.set k OB.dead ++ [ob]) w) (Fresh w0.heap.size (plAt pl h.length (pl k)) (h.set k OB.dead ++ [ob]) w) w k ob := hob
          have ef : (fun i => if i = k then plAt pl h.length (pl k) h.length else plAt pl h.length (pl k) i) = plAt pl h.length (pl k) := by
            funext i
            by_cases hik : i = k
            · subst hik; simp only [if_true, plAt_eq]; rw [plAt_lt hkl]
            · simp [hik]
          rw [ef] at e
          have e2 : plAt pl h.length (pl k) h.length = plAt pl h.length (pl k) k := by rw [plAt_eq, plAt_lt hkl]
          revert e
          cases ob with
          | fix c => exact absurd rfl hn2
          | dead => exact fun _ => trivial
          | row nw fl z es => intro e; show RowRel _ _ (plAt pl h.length (pl k) h.length).toPl0 z es; rw [e2]; exact e
          | mp nw ks f => intro e; show MapIs _ (plAt pl h.length (pl k) h.length).blk ks f; rw [e2]; exact e
          | rows nw fl z es ho => intro e; show RowsRel _ _ _ _ _ (plAt pl h.length (pl k) h.length) fl z es ho; rw [e2]; exact e)
    have h2 := h1.remap (mvG k h.length) (fun k' i hk' hi => by
      simp only [List.length_append, List.length_set, List.length_singleton] at hk' ⊢
      unfold mvG at hi
      cases hbq : Nat.beq k' k with
      | true =>
        rw [hbq] at hi
        cases hi
        have := Nat.eq_of_beq_eq_true hbq
        subst this
        exact ⟨by omega, by rw [plAt_eq, plAt_lt hkl]⟩
      | false =>
        rw [hbq] at hi
        cases hi
        exact ⟨by omega, rfl⟩)
    refine ih F A w0 pl0 a w hF hA ⟨plAt pl h.length (pl k), ?_, fun k' hk' => ⟨?_, ?_⟩⟩
    · have e1 : lk (mvE k h.length e) = fun s => renA (mvG k h.length) some (lk e s) := funext fun s => lk_mvE _ _ _ _
      rw [e1]
      unfold mvH
      simp only [hk, mvL_eq]
      exact h2
    · have := (hio k' hk').1
      unfold mvH; simp only [hk, mvL_eq]; simp at this ⊢; omega
    · show plAt pl h.length _ k' = _
      rw [plAt_lt (hio k' hk').1]; exact (hio k' hk').2
end Go.Av
namespace Go.Av
open Go.RowKit
section
variable {P : Program} [Kn P] {ops : Array Oper} {Q : Exit → Act → World → Prop} {S : Array Bool → World → Prop}
def wpAnyS (P : Program) [Kn P] (ops : Array Oper) (Q : Exit → Act → World → Prop) (S : Array Bool → World → Prop) : Nat → Array Bool → Act → World → Prop
  | 0, listed, a, w => Region.ready .any ops listed = [] ∧ Q .normal a w
  | f + 1, listed, a, w => (Region.ready .any ops listed = [] → Q .normal a w) ∧
      ∀ i ∈ Region.ready .any ops listed, wpOp P ops Q i (fun a' w' => S (listed.setIfInBounds i true) w' ∧ wpAnyS P ops Q S f (listed.setIfInBounds i true) a' w') a w
theorem wpAny_of_S : ∀ (f : Nat) (listed : Array Bool) (a : Act) (w : World), wpAnyS P ops Q S f listed a w → wpAny P .any ops Q f listed a w
  | 0, _, _, _, h => h
  | f + 1, _, _, _, h => ⟨h.1, fun i hi => wpOp_mono (fun a' w' h' => wpAny_of_S f _ a' w' h'.2) (h.2 i hi)⟩
def unl (deps : List Nat) (listed : Array Bool) : Prop := ∀ j ∈ deps, listed.getD j false = false
theorem wpAnyS_first {i : Nat} {oi : Oper} {v : Value} {deps : List Nat} (hi : ops[i]? = some oi) (hsel : Region.noSelect ops = true)
    (hQ : ∀ c a w, Q (.panic c) (a.put oi.dst v) w → Q (.panic c) a w)
    (hdep : ∀ j ∈ deps, ∃ oj, ops[j]? = some oj ∧ ∃ e ∈ oj.after, Region.binds .any e = true ∧ (e.on = i ∨ e.on ∈ deps)) (hid : i ∉ deps)
    (hSi : ∀ L w, S (L.setIfInBounds i true) w ↔ S L w) :
    ∀ (f : Nat) (listed : Array Bool) (a : Act) (w : World),
      (∀ j oj, ops[j]? = some oj → j ≠ i → listed.getD j true = false → (∀ e ∈ oj.after, Region.binds .any e = true → e.on ≠ i) → oi.apart ops oj = true) →
      i ∈ Region.ready .any ops listed → unl deps listed → S listed w → YieldsIf P ops (fun w => ∃ L, unl deps L ∧ S L w) oi v a →
      wpAnyS P ops Q S f (listed.setIfInBounds i true) (a.put oi.dst v) w → wpAnyS P ops Q S (f + 1) listed a w := by
  intro f
  induction f with
  | zero =>
    intro listed a w _ hr hu hS hy H
    refine ⟨fun h => (by rw [h] at hr; cases hr), fun j hj => ?_⟩
    by_cases hji : j = i
    · subst hji; exact hy.wpOp hi ⟨listed, hu, hS⟩ ⟨(hSi _ _).2 hS, H⟩
    · have := ready_mono hj hji
      rw [H.1] at this
      cases this
  | succ f ih =>
    intro listed a w hfree hr hu hS hy H
    refine ⟨fun h => (by rw [h] at hr; cases hr), fun j hj => ?_⟩
    by_cases hji : j = i
    · subst hji; exact hy.wpOp hi ⟨listed, hu, hS⟩ ⟨(hSi _ _).2 hS, H⟩
    · have h1 := H.2 j (ready_mono hj hji)
      obtain ⟨hjun, oj, hoj, hall⟩ := mem_ready.1 hj
      have hi0 : listed.getD i false = false := getD_both (mem_ready.1 hr).1
      have hnot : ∀ e ∈ oj.after, Region.binds .any e = true → e.on ≠ i := fun e he hb heq => by
        have h1 := hall e he hb
        rw [heq, hi0] at h1
        cases h1
      have hjd : j ∉ deps := fun hjd => by
        obtain ⟨oj', hoj', e, he, hb, hon⟩ := hdep j hjd
        rw [hoj] at hoj'
        cases hoj'
        rcases hon with hon | hon
        · exact hnot e he hb hon
        · have := hall e he hb
          rw [hu _ hon] at this
          cases this
      have h2 := wpOp_putIf hoj (hfree j oj hoj hji hjun hnot) (fun cs b => Region.noSelect_spec hsel i oi cs b hi) (fun cs b => Region.noSelect_spec hsel j oj cs b hoj) hQ hy h1
      have hfree' : ∀ k ok, ops[k]? = some ok → k ≠ i → (listed.setIfInBounds j true).getD k true = false →
          (∀ e ∈ ok.after, Region.binds .any e = true → e.on ≠ i) → oi.apart ops ok = true := fun k ok hk hki hun hno => by
        refine hfree k ok hk hki ?_ hno
        by_cases hjk : j = k
        · subst hjk; exact hjun
        · rw [getD_set_ne true hjk] at hun; exact hun
      have hu' : unl deps (listed.setIfInBounds j true) := fun d hd => by
        have hne : j ≠ d := fun e => hjd (by rw [e]; exact hd)
        rw [getD_set_ne false hne]; exact hu d hd
      refine wpOp_mono (fun a' w' h3 => ?_) h2
      have hS' : S (listed.setIfInBounds j true) w' := by
        have := h3.2.1
        rw [Array.setIfInBounds_comm _ _ (Ne.symm hji)] at this
        exact (hSi _ _).1 this
      refine ⟨hS', ih (listed.setIfInBounds j true) a' w' hfree' (ready_mono hr (Ne.symm hji)) hu' hS' h3.1 ?_⟩
      rw [Array.setIfInBounds_comm _ _ hji]
      exact h3.2.2
end
def fmW : Fl → Option Fl
  | .flat => some .flat
  | _ => some .any
def redE : En → En
  | [] => []
  | (s, v) :: r => (s, renA some fmW v) :: redE r
theorem lk_redE : ∀ (e : En) (s : Nat), lk (redE e) s = renA some fmW (lk e s)
  | [], s => by simp [redE, lk, renA]
  | (t, v) :: r, s => by
    simp only [redE, lk]
    cases Nat.beq t s with
    | true => rfl
    | false => exact lk_redE r s
def wkB (ob : OB) : OB := unnew (renOB some fmW ob)
def aliveB (L1 : Nat) (T : List Nat) (k : Nat) : Bool := Nat.ble L1 k || T.any (Nat.beq k)
def redH (L1 : Nat) (T : List Nat) : Nat → List OB → List OB
  | _, [] => []
  | k, ob :: r => (match aliveB L1 T k with
    | true => wkB ob
    | false => .dead) :: redH L1 T (k + 1) r
def mrgH (L1 : Nat) (T : List Nat) : Nat → List OB → List OB → List OB
  | _, [], new => new
  | _, ob :: r, [] => ob :: r
  | k, ob :: r, n :: r' => (match aliveB L1 T k with
    | true => bk ob n
    | false => ob) :: mrgH L1 T (k + 1) r r'
theorem redH_get {L1 : Nat} {T : List Nat} : ∀ {h : List OB} {k0 k : Nat}, (redH L1 T k0 h)[k]? = (h[k]?).map fun ob => if aliveB L1 T (k0 + k) = true then wkB ob else .dead
  | [], k0, k => by simp [redH]
  | ob :: r, k0, 0 => by
    simp only [redH, List.getElem?_cons_zero, Option.map_some, Nat.add_zero]
    cases aliveB L1 T k0 <;> rfl
  | ob :: r, k0, k + 1 => by
    simp only [redH, List.getElem?_cons_succ]
    rw [redH_get, show k0 + 1 + k = k0 + (k + 1) by omega]
theorem redH_len {L1 : Nat} {T : List Nat} : ∀ {h : List OB} {k0 : Nat}, (redH L1 T k0 h).length = h.length
  | [], _ => rfl
  | _ :: r, k0 => by simp [redH, redH_len (h := r)]
theorem mrgH_lt {L1 : Nat} {T : List Nat} : ∀ {h h2 : List OB} {k0 k : Nat} {ob n : OB}, h[k]? = some ob → h2[k]? = some n → (mrgH L1 T k0 h h2)[k]? = some (if aliveB L1 T (k0 + k) = true then bk ob n else ob)
  | [], _, _, _, _, _, h1, _ => by simp at h1
  | _ :: _, [], _, _, _, _, _, h2 => by simp at h2
  | a :: r, b :: r', k0, 0, ob, n, h1, h2 => by
    simp at h1 h2
    subst h1 h2
    simp only [mrgH, List.getElem?_cons_zero, Nat.add_zero]
    cases aliveB L1 T k0 <;> rfl
  | a :: r, b :: r', k0, k + 1, ob, n, h1, h2 => by
    simp only [List.getElem?_cons_succ] at h1 h2
    simp only [mrgH, List.getElem?_cons_succ]
    rw [mrgH_lt h1 h2, show k0 + 1 + k = k0 + (k + 1) by omega]
theorem mrgH_ge {L1 : Nat} {T : List Nat} : ∀ {h h2 : List OB} {k0 k : Nat}, h.length ≤ k → h.length ≤ h2.length → (mrgH L1 T k0 h h2)[k]? = h2[k]?
  | [], _, _, _, _, _ => by simp [mrgH]
  | _ :: _, [], _, _, _, h2 => by simp at h2
  | _ :: r, _ :: r', k0, 0, h1, _ => by simp at h1
  | _ :: r, _ :: r', k0, k + 1, h1, h2 => by
    simp only [mrgH, List.getElem?_cons_succ]
    exact mrgH_ge (by simpa using h1) (by simpa using h2)
theorem mrgH_len {L1 : Nat} {T : List Nat} : ∀ {h h2 : List OB} {k0 : Nat}, h.length ≤ h2.length → (mrgH L1 T k0 h h2).length = h2.length
  | [], _, _, _ => by simp [mrgH]
  | _ :: _, [], _, h => by simp at h
  | _ :: r, _ :: r', k0, h => by simp [mrgH, mrgH_len (h := r) (h2 := r') (by simpa using h)]
theorem obOwns_wk {p : Pl} {ob : OB} {b : Nat} (h : obOwns p (wkB ob) b) : obOwns p ob b := by
  have : obOwns p (renOB some fmW ob) b := by
    unfold wkB at h
    generalize renOB some fmW ob = x at h
    cases x <;> exact h
  exact obOwns_ren this
theorem obOwns_bk {p : Pl} {ob n : OB} {b : Nat} (h : obOwns p (bk ob n) b) : obOwns p ob b ∧ obOwns p n b := by
  unfold bk at h
  split at h
  · exact ⟨h, h⟩
  · exact ⟨h, h⟩
  · exact ⟨h, h⟩
  · exact ⟨h, h⟩
  · exact h.elim
theorem isnew_bk {m k : Nat} {ob n : OB} {h h' : List OB} (hk : h[k]? = some ob) (hk' : h'[k]? = some (bk ob n)) (hn : isnew m h' k) : isnew m h k := by
  unfold isnew at hn ⊢
  rw [hk'] at hn
  rw [hk]
  cases ob with
  | dead => cases n <;> exact False.elim hn
  | fix c => cases n <;> first | exact hn | exact False.elim hn
  | row nw fl z es => cases n <;> first | exact hn | exact False.elim hn
  | mp nw ks f => cases n <;> first | exact hn | exact False.elim hn
  | rows nw fl z es ho =>
    cases ho with
    | none =>
      cases n with
      | rows nw' fl' z' es' ho' => cases ho' <;> first | exact hn | exact False.elim hn
      | _ => exact False.elim hn
    | some q => cases n <;> exact False.elim hn
theorem OBrel_bk {pl : Nat → Pl} {L : Nat} {S Fr : Nat → Prop} {w : World} {k : Nat} {ob n : OB} (h : OBrel pl L S Fr w k n) : OBrel pl L S Fr w k (bk ob n) := by
  unfold bk
  split
  · exact h
  · exact h
  · exact h
  · exact h
  · trivial
section
variable {N m : Nat} {F A : Nat → Prop} {w0 : World} {st : St} {pl : Nat → Pl} {a : Act} {w : World} {P : Program} [Kn P]
def stayF (pl : Nat → Pl) (heap : List OB) (w : World) (L1 : Nat) (T : List Nat) (b : Nat) : Prop := b < w.heap.size ∧ ∀ k, aliveB L1 T k = true → ¬ owns pl heap k b
theorem owns_red {L1 : Nat} {T : List Nat} {h : List OB} {k b : Nat} (hk : owns pl (redH L1 T 0 h) k b) : aliveB L1 T k = true ∧ owns pl h k b := by
  obtain ⟨ob, h1, h2⟩ := owns_out hk
  rw [redH_get, Nat.zero_add] at h1
  cases hh : h[k]? with
  | none => rw [hh] at h1; cases h1
  | some ob0 =>
    rw [hh] at h1
    cases ha : aliveB L1 T k with
    | true =>
      simp only [ha, if_true, Option.map_some, Option.some.injEq] at h1
      subst h1
      exact ⟨rfl, owns_of hh (obOwns_wk h2)⟩
    | false =>
      simp only [ha, Bool.false_eq_true, if_false, Option.map_some, Option.some.injEq] at h1
      subst h1
      exact h2.elim
theorem ConcP.reduce (hp : ConcP N m F A w0 st pl a w) (L1 : Nat) (T : List Nat) :
    ConcP N st.heap.length (stayF pl st.heap w L1 T) (Sany A w0.heap.size pl st.heap w) w ⟨fun s => renA some fmW (st.env s), redH L1 T 0 st.heap⟩ pl a w := by
  have hSt : ∀ b, Stab pl st.heap w b → Stab pl (redH L1 T 0 st.heap) w b := fun b hb => ⟨hb.1, fun k hk => hb.2 k (owns_red hk).2⟩
  have hg : ∀ k i, k < st.heap.length → (some k : Option Nat) = some i → i < st.heap.length ∧ pl i = pl k := fun k i hk hi => by cases hi; exact ⟨hk, rfl⟩
  have hfm : ∀ fl fl', fmW fl = some fl' → ∀ b, flagS (Sany A w0.heap.size pl st.heap w) (Fresh w0.heap.size pl st.heap w) fl b →
      flagS (Sany (Sany A w0.heap.size pl st.heap w) w.heap.size pl (redH L1 T 0 st.heap) w) (Fresh w.heap.size pl (redH L1 T 0 st.heap) w) fl' b ∧ w.heap[b]? = w.heap[b]? := by
    intro fl fl' he b hb
    cases fl with
    | flat => exact hb.elim
    | fresh => cases he; exact ⟨⟨hSt b hb.2, .inl ⟨hb.2, .inr hb.1⟩⟩, rfl⟩
    | any => cases he; exact ⟨⟨hSt b hb.1, .inl hb⟩, rfl⟩
  refine { defers := hp.defers, size := hp.size, os := rfl, tape := rfl, output := rfl, hsize := Nat.le_refl _, frame := fun _ _ => rfl, ownlt := fun k b hk => hp.ownlt k b (owns_red hk).2, ownF := fun k b hk hb => hb.2 k (owns_red hk).1 (owns_red hk).2, newb := fun k b hn hk => ?_, disj := fun k k' b h1 h2 => hp.disj k k' b (owns_red h1).2 (owns_red h2).2, heap := fun k ob hk => ?_, env := fun s => ?_ }
  · exfalso
    unfold isnew at hn
    simp only [redH_get, Nat.zero_add] at hn
    cases hh : st.heap[k]? with
    | none => rw [hh] at hn; exact hn
    | some ob0 =>
      have hkl := (List.getElem?_eq_some_iff.1 hh).1
      rw [hh] at hn
      cases ha : aliveB L1 T k with
      | false => simp [ha] at hn
      | true =>
        simp only [ha, if_true, Option.map_some] at hn
        unfold wkB at hn
        generalize renOB some fmW ob0 = x at hn
        cases x with
        | fix c => simp only [unnew] at hn; omega
        | dead => exact hn
        | row nw fl z es => simp [unnew] at hn
        | mp nw ks f => simp [unnew] at hn
        | rows nw fl z es ho => simp [unnew] at hn
  · simp only [redH_get, Nat.zero_add] at hk
    simp only [redH_len]
    cases hh : st.heap[k]? with
    | none => rw [hh] at hk; cases hk
    | some ob0 =>
      rw [hh] at hk
      cases ha : aliveB L1 T k with
      | false => simp [ha] at hk; subst hk; trivial
      | true =>
        simp only [ha, if_true, Option.map_some, Option.some.injEq] at hk
        subst hk
        have := OBrel.ren (g := some) (fm := fmW) (pl' := pl) (w' := w) hg hfm (k := k) (i := k) rfl (fun _ _ => rfl) (hp.heap k ob0 hh)
        unfold wkB
        generalize renOB some fmW ob0 = x at this
        cases x <;> exact this
  · simp only [redH_len]
    exact (hp.env s).ren hg hfm
theorem ConcP.mergeH (hp : ConcP N m F A w0 st pl a w) (hF : ∀ b, F b → b < w0.heap.size) {L1 : Nat} {T : List Nat} {f : Nat → AV} {h2 : List OB} {pl2 : Nat → Pl} {a' : Act} {w' : World}
    (hq : ConcP N st.heap.length (stayF pl st.heap w L1 T) (Sany A w0.heap.size pl st.heap w) w ⟨f, h2⟩ pl2 a' w') (hio : ∀ k, k < st.heap.length → k < h2.length ∧ pl2 k = pl k) :
    ConcP N m F A w0 ⟨f, mrgH L1 T 0 st.heap h2⟩ pl2 a' w' ∧
    (∀ k b, owns pl2 (mrgH L1 T 0 st.heap h2) k b → (k < st.heap.length ∧ owns pl st.heap k b) ∨ (st.heap.length ≤ k ∧ ¬ stayF pl st.heap w L1 T b)) := by
  have hFF : ∀ b, F b → stayF pl st.heap w L1 T b := fun b hb => ⟨Nat.lt_of_lt_of_le (hF b hb) hp.hsize, fun k _ hk => hp.ownF k b hk hb⟩
  have hlen : st.heap.length ≤ h2.length := by
    rcases Nat.eq_zero_or_pos st.heap.length with h0 | h0
    · omega
    · have := (hio (st.heap.length - 1) (by omega)).1; omega
  have ho : ∀ k b, owns pl2 (mrgH L1 T 0 st.heap h2) k b → (k < st.heap.length ∧ owns pl st.heap k b ∧ (aliveB L1 T k = true → owns pl2 h2 k b)) ∨ (st.heap.length ≤ k ∧ owns pl2 h2 k b) := by
    intro k b hk
    obtain ⟨ob, h3, h4⟩ := owns_out hk
    rcases Nat.lt_or_ge k st.heap.length with hlt | hge
    · left
      have e1 := List.getElem?_eq_getElem hlt
      have e2 := List.getElem?_eq_getElem (hio k hlt).1
      rw [mrgH_lt e1 e2, Nat.zero_add] at h3
      cases ha : aliveB L1 T k with
      | false =>
        simp only [ha, Bool.false_eq_true, if_false, Option.some.injEq] at h3
        subst h3
        rw [(hio k hlt).2] at h4
        exact ⟨hlt, owns_of e1 h4, fun h => by cases h⟩
      | true =>
        simp only [ha, if_true, Option.some.injEq] at h3
        subst h3
        obtain ⟨h5, h6⟩ := obOwns_bk h4
        refine ⟨hlt, owns_of e1 (by rw [← (hio k hlt).2]; exact h5), fun _ => owns_of e2 h6⟩
    · right
      rw [mrgH_ge hge hlen] at h3
      exact ⟨hge, owns_of h3 h4⟩
  have hnew : ∀ k b, st.heap.length ≤ k → owns pl2 h2 k b → ¬ stayF pl st.heap w L1 T b := fun k b _ hk hs => hq.ownF k b hk hs
  have hStab : ∀ b, Stab pl st.heap w b → Stab pl2 (mrgH L1 T 0 st.heap h2) w' b := fun b hb => by
    have hs : stayF pl st.heap w L1 T b := ⟨hb.1, fun k _ hk => hb.2 k hk⟩
    refine ⟨Nat.lt_of_lt_of_le hb.1 hq.hsize, fun k hk => ?_⟩
    rcases ho k b hk with ⟨h3, h4, _⟩ | ⟨h3, h4⟩
    · exact hb.2 k h4
    · exact hnew k b h3 h4 hs
  have hS0 : ∀ b, Sany A w0.heap.size pl st.heap w b → Sany A w0.heap.size pl2 (mrgH L1 T 0 st.heap h2) w' b := fun b hb => ⟨hStab b hb.1, hb.2⟩
  have hFr0 : ∀ b, Fresh w0.heap.size pl st.heap w b → Fresh w0.heap.size pl2 (mrgH L1 T 0 st.heap h2) w' b := fun b hb => ⟨hb.1, hStab b hb.2⟩
  have same : ∀ b, Stab pl st.heap w b → w'.heap[b]? = w.heap[b]? := fun b hb => hq.frame b ⟨hb.1, fun k _ hk => hb.2 k hk⟩
  have hStab2 : ∀ b, Stab pl2 h2 w' b → (Stab pl st.heap w b ∨ w.heap.size ≤ b) → Stab pl2 (mrgH L1 T 0 st.heap h2) w' b := fun b hb hor => by
    refine ⟨hb.1, fun k hk => ?_⟩
    rcases ho k b hk with ⟨h3, h4, h5⟩ | ⟨h3, h4⟩
    · rcases hor with h6 | h6
      · exact h6.2 k h4
      · have := hp.ownlt k b h4; omega
    · exact hb.2 k h4
  have hS2 : ∀ b, Sany (Sany A w0.heap.size pl st.heap w) w.heap.size pl2 h2 w' b → Sany A w0.heap.size pl2 (mrgH L1 T 0 st.heap h2) w' b := fun b hb => by
    rcases hb.2 with h3 | h3
    · exact ⟨hStab2 b hb.1 (.inl h3.1), h3.2⟩
    · exact ⟨hStab2 b hb.1 (.inr h3), .inr (Nat.le_trans hp.hsize h3)⟩
  have hFr2 : ∀ b, Fresh w.heap.size pl2 h2 w' b → Fresh w0.heap.size pl2 (mrgH L1 T 0 st.heap h2) w' b := fun b hb => ⟨Nat.le_trans hp.hsize hb.1, hStab2 b hb.2 (.inr hb.1)⟩
  have hml : (mrgH L1 T 0 st.heap h2).length = h2.length := mrgH_len hlen
  refine ⟨{ defers := hq.defers, size := hq.size, os := hq.os.trans hp.os, tape := hq.tape.trans hp.tape, output := hq.output.trans hp.output, hsize := Nat.le_trans hp.hsize hq.hsize, frame := fun b hb => (hq.frame b (hFF b hb)).trans (hp.frame b hb), ownlt := fun k b hk => ?_, ownF := fun k b hk hb => ?_, newb := fun k b hn hk => ?_, disj := fun k k' b h1 h3 => ?_, heap := fun k ob hk => ?_, env := fun s => ?_ }, fun k b hk => ?_⟩
  · rcases ho k b hk with ⟨_, h4, _⟩ | ⟨_, h4⟩
    · exact Nat.lt_of_lt_of_le (hp.ownlt k b h4) hq.hsize
    · exact hq.ownlt k b h4
  · rcases ho k b hk with ⟨_, h4, _⟩ | ⟨h3, h4⟩
    · exact hp.ownF k b h4 hb
    · exact hnew k b h3 h4 (hFF b hb)
  · rcases ho k b hk with ⟨hlt, h4, _⟩ | ⟨h3, h4⟩
    · refine hp.newb k b ?_ h4
      have e1 := List.getElem?_eq_getElem hlt
      have e2 := List.getElem?_eq_getElem (hio k hlt).1
      have e3 := mrgH_lt (L1 := L1) (T := T) (k0 := 0) e1 e2
      rw [Nat.zero_add] at e3
      cases ha : aliveB L1 T k with
      | false =>
        simp only [ha, Bool.false_eq_true, if_false] at e3
        unfold isnew at hn ⊢
        simp only [e3] at hn
        rw [e1]; exact hn
      | true =>
        simp only [ha, if_true] at e3
        exact isnew_bk e1 e3 hn
    · refine Nat.le_trans hp.hsize (hq.newb k b ?_ h4)
      unfold isnew at hn ⊢
      simp only [mrgH_ge h3 hlen] at hn
      cases hh : h2[k]? with
      | none => rw [hh] at hn; exact hn
      | some ob =>
        simp only [hh] at hn ⊢
        cases ob with
        | fix c => exact h3
        | _ => exact hn
  · rcases ho k b h1 with ⟨a1, a2, a3⟩ | ⟨a1, a2⟩ <;> rcases ho k' b h3 with ⟨b1, b2, b3⟩ | ⟨b1, b2⟩
    · exact hp.disj k k' b a2 b2
    · exfalso
      refine hnew k' b b1 b2 ⟨hp.ownlt k b a2, fun k2 h4 h5 => ?_⟩
      have := hp.disj k k2 b a2 h5
      subst this
      have := hq.disj k k' b (a3 h4) b2
      omega
    · exfalso
      refine hnew k b a1 a2 ⟨hp.ownlt k' b b2, fun k2 h4 h5 => ?_⟩
      have := hp.disj k' k2 b b2 h5
      subst this
      have := hq.disj k k' b a2 (b3 h4)
      omega
    · exact hq.disj k k' b a2 b2
  · simp only [hml]
    have up : ∀ {ob : OB}, h2[k]? = some ob → OBrel pl2 h2.length (Sany A w0.heap.size pl2 (mrgH L1 T 0 st.heap h2) w') (Fresh w0.heap.size pl2 (mrgH L1 T 0 st.heap h2) w') w' k ob := fun h3 =>
      (hq.heap k _ h3).mono (Nat.le_refl _) (fun _ _ => Pl.Base.refl _) hS2 hFr2 (fun _ _ => rfl) (fun _ _ => rfl) rfl (fun _ _ => rfl)
    rcases Nat.lt_or_ge k st.heap.length with hlt | hge
    · have e1 := List.getElem?_eq_getElem hlt
      have e2 := List.getElem?_eq_getElem (hio k hlt).1
      simp only [mrgH_lt e1 e2, Nat.zero_add] at hk
      cases ha : aliveB L1 T k with
      | true =>
        simp only [ha, if_true, Option.some.injEq] at hk
        subst hk
        exact OBrel_bk (up e2)
      | false =>
        simp only [ha, Bool.false_eq_true, if_false, Option.some.injEq] at hk
        subst hk
        refine (hp.heap k _ e1).mono hlen (fun i hi => by rw [(hio i hi).2]; exact Pl.Base.refl _) hS0 hFr0 (fun b hb => same b hb.1) (fun b hb => same b hb.2) (hio k hlt).2 fun b hb => hq.frame b ⟨hp.ownlt k b (owns_of e1 hb), fun k2 h4 h5 => ?_⟩
        have := hp.disj k k2 b (owns_of e1 hb) h5
        subst this
        rw [ha] at h4; cases h4
    · rw [mrgH_ge hge hlen] at hk
      exact up hk
  · simp only [hml]
    exact (hq.env s).mono (Nat.le_refl _) (fun _ _ => Pl.Base.refl _) hS2 hFr2 (fun _ _ => rfl) (fun _ _ => rfl)
  · rcases ho k b hk with ⟨h3, h4, _⟩ | ⟨h3, h4⟩
    · exact .inl ⟨h3, h4⟩
    · exact .inr ⟨h3, hnew k b h3 h4⟩
end
end Go.Av
namespace Go.Av
open Go.RowKit
def tOf : List (Nat × List Nat) → Nat → List Nat
  | [], _ => []
  | (j, T) :: r, i => bif Nat.beq j i then T else tOf r i
theorem tOf_mem : ∀ {tch : List (Nat × List Nat)} {i k : Nat}, k ∈ tOf tch i → ∃ p ∈ tch, p.1 = i ∧ k ∈ p.2
  | [], _, _, h => by simp [tOf] at h
  | (j, T) :: r, i, k, h => by
    simp only [tOf] at h
    cases hb : Nat.beq j i with
    | true => rw [hb] at h; exact ⟨(j, T), by simp, Nat.eq_of_beq_eq_true hb, h⟩
    | false =>
      rw [hb] at h
      obtain ⟨p, h1, h2⟩ := tOf_mem (tch := r) h
      exact ⟨p, by simp [h1], h2⟩
def noT (tch : List (Nat × List Nat)) (i : Nat) : Bool := tch.all fun p => !(Nat.beq p.1 i)
def unT (tch : List (Nat × List Nat)) (own1 : Nat → Nat → Prop) (listed : Array Bool) (b : Nat) : Prop := ∀ p ∈ tch, listed.getD p.1 false = true → ∀ k ∈ p.2, ¬ own1 k b
def SH (tch : List (Nat × List Nat)) (own1 : Nat → Nat → Prop) (w1 : World) (listed : Array Bool) (w' : World) : Prop := ∀ b, b < w1.heap.size → unT tch own1 listed b → w'.heap[b]? = w1.heap[b]?
theorem SH_set {tch : List (Nat × List Nat)} {own1 : Nat → Nat → Prop} {w1 : World} {i : Nat} (h : noT tch i = true) (L : Array Bool) (w : World) : SH tch own1 w1 (L.setIfInBounds i true) w ↔ SH tch own1 w1 L w := by
  have e : ∀ b, unT tch own1 (L.setIfInBounds i true) b ↔ unT tch own1 L b := by
    intro b
    have key : ∀ p ∈ tch, (L.setIfInBounds i true).getD p.1 false = L.getD p.1 false := fun p hp => by
      simp only [noT, List.all_eq_true, Bool.not_eq_true'] at h
      have := h p hp
      exact getD_set_ne false (fun e => by rw [e, Nat.beq_refl] at this; cases this)
    constructor <;> intro hb p hp hl k hk
    · exact hb p hp (by rw [key p hp]; exact hl) k hk
    · exact hb p hp (by rw [← key p hp]; exact hl) k hk
  constructor <;> intro hs b hb hu
  · exact hs b hb ((e b).2 hu)
  · exact hs b hb ((e b).1 hu)
inductive OpH (hop : Bool) (A B : Prop) : Prop
  | quiet (h : hop = false) (k : A)
  | heap (k : B)
inductive OrdL (f : Nat) (A : Prop) (step : Nat → List Nat → Prop) : Prop
  | ord (k : A)
  | ld (i : Nat) (deps : List Nat) (k : step i deps)
theorem OrdL.at {f : Nat} {A : Prop} {step : Nat → List Nat → Prop} (n : Nat) (_ : Nat.beq f n = true) (i : Nat) (deps : List Nat) (k : step i deps) : OrdL f A step := .ld i deps k
def tchOk (tch : List (Nat × List Nat)) (L1 : Nat) : Bool := tch.all fun p => p.2.all fun k => Nat.blt k L1
def hdB (ops : Array Oper) (listed : Array Bool) (tch : List (Nat × List Nat)) (i : Nat) (deps : List Nat) : Bool :=
  Region.noSelect ops && Region.free .any ops listed i && (Region.ready .any ops listed).contains i && noT tch i && (deps.all fun j => !(listed.getD j false)) && !(deps.contains i) &&
  (deps.all fun j => match ops[j]? with
    | some oj => oj.after.any fun e => Region.binds .any e && (e.on == i || deps.contains e.on)
    | none => false) &&
  (match ops[i]? with
    | some o => (isCall o.op).isNone && !isHop o && (wfree2 o || isLd o)
    | none => false)
def ldA (e : En) (o : Oper) : AV := match o.op with
  | .load _ (.tmp t) => (match lk e t with
    | .opt _ v => v
    | v => v)
  | _ => .junk
def ldK (tch : List (Nat × List Nat)) (deps : List Nat) (k : Nat) : Bool := tch.all fun p => !(p.2.any (Nat.beq k)) || deps.any (Nat.beq p.1)
def ldOk (tch : List (Nat × List Nat)) (deps : List Nat) (o : Oper) (v : AV) : Bool := match isLd o with
  | false => true
  | true => (match v with
    | .own k _ => ldK tch deps k
    | .orow k _ _ => ldK tch deps k
    | .p _ _ => true
    | _ => false)
def heldF (P : Program) [Kn P] (zs : TypeId → List PV) (m : Nat) (ops : Array Oper) (tch : List (Nat × List Nat)) (K : En → List OB → Prop) : Nat → Nat → Array Bool → En → List OB → Prop
  | 0, _, listed, e, h => OrdF ops listed (fun _ _ => False) (K e h)
  | f + 1, L1, listed, e, h => OrdL f (OrdF ops listed (fun q i => match getO ops.toList i with
    | some o => (match q with
      | true => noT tch i = true ∧ stepV true P zs m ⟨lk e, h⟩ ops o fun v _ => fV 4 v fun v => (match o.dst with
        | some d => heldF P zs m ops tch K f L1 (listed.setIfInBounds i true) ((d, v) :: e) h
        | none => heldF P zs m ops tch K f L1 (listed.setIfInBounds i true) e h)
      | false => OpH (isHop o) (stepV true P zs m ⟨lk e, h⟩ ops o fun v _ => fV 4 v fun v => (match o.dst with
        | some d => heldF P zs m ops tch K f L1 (listed.setIfInBounds i true) ((d, v) :: e) h
        | none => heldF P zs m ops tch K f L1 (listed.setIfInBounds i true) e h))
        (fE (redE e) fun e => fH (redH L1 (tOf tch i) 0 h) fun hr => stepV false P zs h.length ⟨lk e, hr⟩ ops o fun v h' => fV 4 v fun v => fH (mrgH L1 (tOf tch i) 0 h h') fun h' => (match o.dst with
        | some d => heldF P zs m ops tch K f L1 (listed.setIfInBounds i true) ((d, v) :: e) h'
        | none => heldF P zs m ops tch K f L1 (listed.setIfInBounds i true) e h')))
    | none => False) (K e h)) (fun i deps => match getO ops.toList i with
    | some o => tchOk tch L1 = true ∧ hdB ops listed tch i deps = true ∧ ldOk tch deps o (ldA e o) = true ∧ stepV true P zs m ⟨lk e, h⟩ ops o fun v _ => fV 4 v fun v => (match o.dst with
      | some d => heldF P zs m ops tch K f h.length (listed.setIfInBounds i true) ((d, v) :: e) h
      | none => heldF P zs m ops tch K f h.length (listed.setIfInBounds i true) e h)
    | none => False)
theorem heldF_put {P : Program} [Kn P] {zs : TypeId → List PV} {m : Nat} {ops : Array Oper} {tch : List (Nat × List Nat)} {L1 : Nat} {K : En → List OB → Prop} {f : Nat} {listed : Array Bool} {d : Option Nat} {v : AV} {e : En} {h : List OB} (hr : match d with
    | some d => heldF P zs m ops tch K f L1 listed ((d, v) :: e) h
    | none => heldF P zs m ops tch K f L1 listed e h) : heldF P zs m ops tch K f L1 listed (putF e d v) h := by
  cases d <;> exact hr
inductive HdF (f : Nat) (step : Nat → List Nat → Prop) (go : Prop) : Prop
  | take (i : Nat) (deps : List Nat) (k : step i deps)
  | go (k : go)
theorem HdF.at {f : Nat} {step : Nat → List Nat → Prop} {go : Prop} (n : Nat) (_ : Nat.beq f n = true) (i : Nat) (deps : List Nat) (k : step i deps) : HdF f step go := .take i deps k
theorem HdF.goAt {f : Nat} {step : Nat → List Nat → Prop} {go : Prop} (n : Nat) (_ : Nat.beq f n = true) (k : go) : HdF f step go := .go k
def headF (P : Program) [Kn P] (zs : TypeId → List PV) (m : Nat) (ops : Array Oper) (tch : List (Nat × List Nat)) (h : List OB) (K2 : Nat → Array Bool → En → Prop) : Nat → Array Bool → En → Prop
  | 0, listed, e => K2 0 listed e
  | f + 1, listed, e => HdF f (fun i deps => match getO ops.toList i with
    | some o => hdB ops listed tch i deps = true ∧ ldOk tch deps o (ldA e o) = true ∧ stepV true P zs m ⟨lk e, h⟩ ops o fun v _ => fV 4 v fun v => (match o.dst with
      | some d => headF P zs m ops tch h K2 f (listed.setIfInBounds i true) ((d, v) :: e)
      | none => headF P zs m ops tch h K2 f (listed.setIfInBounds i true) e)
    | none => False) (K2 (f + 1) listed e)
theorem headF_put {P : Program} [Kn P] {zs : TypeId → List PV} {m : Nat} {ops : Array Oper} {tch : List (Nat × List Nat)} {h : List OB} {K2 : Nat → Array Bool → En → Prop} {f : Nat} {listed : Array Bool} {d : Option Nat} {v : AV} {e : En} (hr : match d with
    | some d => headF P zs m ops tch h K2 f listed ((d, v) :: e)
    | none => headF P zs m ops tch h K2 f listed e) : headF P zs m ops tch h K2 f listed (putF e d v) := by
  cases d <;> exact hr
def regH (P : Program) [Kn P] (zs : TypeId → List PV) (m : Nat) (ops : Array Oper) (tch : List (Nat × List Nat)) (K : En → List OB → Prop) (e : En) (h : List OB) : Prop :=
  headF P zs m ops tch h (fun f listed e => heldF P zs m ops tch K f h.length listed e h) ops.size (Array.replicate ops.size false) e
inductive DrawG (A : Prop) (B : List (Nat × List Nat) → Prop) : Prop
  | old (k : A)
  | held (tch : List (Nat × List Nat)) (k : B tch)
def drawG (P : Program) [Kn P] (zs : TypeId → List PV) (m : Nat) (ops : Array Oper) (K : En → List OB → Prop) (e : En) (h : List OB) : Prop := DrawG (drawF P zs m ops K e h) fun tch => regH P zs m ops tch K e h
section
variable {N m : Nat} {F A : Nat → Prop} {w0 : World} {st : St} {pl : Nat → Pl} {a : Act} {w : World} {P : Program} [Kn P]
theorem wp_of_quiet {o : Oper} {u : Value} {C : World → Prop} {K : Act → World → Prop} {Q : Exit → Act → World → Prop} (h : o.quietAt P a C w u) (hw : C w) (hk : ∀ w', C w' → K (a.put o.dst u) w') : o.wp P a w K Q := by
  have _k : Kn P := inferInstance
  unfold Oper.quietAt at h
  unfold Oper.wp
  generalize (execOp a.eval o).run P w = r at *
  cases r with
  | ok n w' =>
    cases n <;> simp only [Oper.quietUpon, Oper.upon] at h ⊢ <;>
      first
        | exact h.elim
        | (obtain ⟨rfl, rfl⟩ := h; exact hk _ hw)
        | (obtain ⟨rfl, h⟩ := h; exact h.mono fun e w'' he => by obtain ⟨rfl, h2⟩ := he; exact hk _ h2)
  | halt x w' => exact h.elim
theorem loadV_sound (hC : ConcP N m F A w0 st pl a w) {zs : TypeId → List PV} {ops : Array Oper} {o : Oper} {K : AV → List OB → Prop} (hl : isLd o = true) (h : stepV true P zs m st ops o K) {va : AV}
    (hva : va = match o.op with
      | .load _ (.tmp t) => (match st.env t with
        | .opt _ v => v
        | v => v)
      | _ => .junk) (hj : va ≠ .junk) :
    ∃ v, K v st.heap ∧
      ((Region.wanted o (yielded ops a.tmps) = true ∧ ∃ u ad, RelA pl st.heap.length (Sany A w0.heap.size pl st.heap w) (Fresh w0.heap.size pl st.heap w) w v u ∧ srcAt pl st.heap (Sany A w0.heap.size pl st.heap w) va ad.block ∧ ∀ w', SameAt (.pointer (some ad)) w w' → (execOp a.eval o).run P w' = .ok (.value u) w') ∨
       (Region.wanted o (yielded ops a.tmps) = false ∧ RelA pl st.heap.length (Sany A w0.heap.size pl st.heap w) (Fresh w0.heap.size pl st.heap w) w v undef)) := by
  obtain ⟨t, x, ho⟩ : ∃ t x, o.op = .load t x := by
    unfold isLd at hl
    split at hl
    · rename_i t x ho; exact ⟨t, x, ho⟩
    · cases hl
  rw [ho] at hva
  have hnc : isCall o.op = none := by rw [ho]; rfl
  obtain ⟨t0, rfl⟩ : ∃ t0, x = .tmp t0 := by
    cases x with
    | tmp t0 => exact ⟨t0, rfl⟩
    | _ => exact absurd hva hj
  simp only at hva
  have core : ∀ {G : Bool} {K : AV → Prop}, opW P zs st G o K → ∃ v, K v ∧ (G = true → ∃ u ad, RelA pl st.heap.length (Sany A w0.heap.size pl st.heap w) (Fresh w0.heap.size pl st.heap w) w v u ∧ srcAt pl st.heap (Sany A w0.heap.size pl st.heap w) va ad.block ∧ ∀ w', SameAt (.pointer (some ad)) w w' → (execOp a.eval o).run P w' = .ok (.value u) w') := by
    intro G K h
    unfold opW at h
    rw [ho] at h
    simp only at h
    have hx : ∃ v0, v0 = va ∧ (loadW P st t v0 fun v => K (coerce P zs t v)) ∧ (G = true → RelA pl st.heap.length (Sany A w0.heap.size pl st.heap w) (Fresh w0.heap.size pl st.heap w) w v0 (a.eval (.tmp t0))) := by
      have he := hC.env t0
      unfold withV at h
      simp only at h
      generalize st.env t0 = y at *
      cases y with
      | opt g v =>
        obtain ⟨h1, h2⟩ := h
        refine ⟨v, hva.symm, h2, fun hG => ?_⟩
        cases he with
        | opt he _ => exact he (h1 hG)
      | _ => exact ⟨_, hva.symm, h, fun _ => he⟩
    obtain ⟨v0, rfl, hld, hrel⟩ := hx
    obtain ⟨v, hk, hr⟩ := loadL_sound hC.seen hld
    refine ⟨_, hk, fun hG => ?_⟩
    obtain ⟨u, h1, h2⟩ := hr _ (hrel hG)
    obtain ⟨ad, h3, h4⟩ := loadW_src hC.seen hld (hrel hG)
    refine ⟨u, ad, coerce_sound h1, h4, fun w' hw => ?_⟩
    have := h2 w' (by rw [h3]; exact hw)
    simp [execOp, ho, this]
  unfold stepV at h
  split at h
  case h_1 hg =>
    have hw : Region.wanted o (yielded ops a.tmps) = true := by simp [Region.wanted, hg]
    unfold step0 at h
    rw [hnc] at h
    simp only [Bool.not_true, Bool.false_and, cond_false] at h
    obtain ⟨v, hK, hv⟩ := core h
    exact ⟨v, hK, .inl ⟨hw, hv rfl⟩⟩
  case h_2 g hg =>
    have h := gW_sound hC.seen (o := o) (by rw [hg]; exact h)
    rw [hnc] at h
    simp only [cond_true] at h
    rcases h.same with h | ⟨hw, hK⟩
    case inr => exact ⟨_, hK, .inr ⟨hw, .opt (fun h => by cases h) (fun _ => rfl)⟩⟩
    obtain ⟨v, hK, hv⟩ := core h
    cases hw : Region.wanted o (yielded ops a.tmps) with
    | false =>
      rw [hw] at hK
      exact ⟨_, hK, .inr ⟨rfl, .opt (fun h => by cases h) (fun _ => rfl)⟩⟩
    | true =>
      rw [hw] at hK
      obtain ⟨u, ad, h1, h2, h3⟩ := hv hw
      exact ⟨_, hK, .inl ⟨rfl, u, ad, .opt (fun _ => h1) (fun h => by cases h), h2, h3⟩⟩
structure HInv (tch : List (Nat × List Nat)) (own1 : Nat → Nat → Prop) (w1 : World) (L1 : Nat) (listed : Array Bool) (pl : Nat → Pl) (h : List OB) (w : World) : Prop where
  len : L1 ≤ h.length
  old : ∀ k b, k < L1 → owns pl h k b → own1 k b
  size : w1.heap.size ≤ w.heap.size
  same : SH tch own1 w1 listed w
  own : ∀ k b, owns pl h k b → w1.heap.size ≤ b ∨ (∃ p ∈ tch, listed.getD p.1 false = true ∧ ∃ k1 ∈ p.2, own1 k1 b) ∨ own1 k b
theorem listed_set {listed : Array Bool} {i j : Nat} (h : listed.getD j false = true) : (listed.setIfInBounds i true).getD j false = true := getD_set_true h
theorem unT_mono {tch : List (Nat × List Nat)} {own1 : Nat → Nat → Prop} {listed : Array Bool} {i b : Nat} (h : unT tch own1 (listed.setIfInBounds i true) b) : unT tch own1 listed b := fun p hp hl => h p hp (getD_set_true hl)
theorem HInv.ext {tch : List (Nat × List Nat)} {own1 : Nat → Nat → Prop} {w1 : World} {L1 : Nat} {listed : Array Bool} {h : List OB} (hi : HInv tch own1 w1 L1 listed pl h w) {w' : World} (hx : Ext w w') (i : Nat) : HInv tch own1 w1 L1 (listed.setIfInBounds i true) pl h w' where
  len := hi.len
  old := hi.old
  size := Nat.le_trans hi.size hx.size
  same := fun b hb hu => (hx.block b (Nat.lt_of_lt_of_le hb hi.size)).trans (hi.same b hb (unT_mono hu))
  own := fun k b hk => by
    rcases hi.own k b hk with h | ⟨p, hp, hl, h⟩ | h
    · exact .inl h
    · exact .inr (.inl ⟨p, hp, getD_set_true hl, h⟩)
    · exact .inr (.inr h)
theorem wpAnyS_mono {ops : Array Oper} {Q : Exit → Act → World → Prop} {S S' : Array Bool → World → Prop} {L0 : Array Bool} (hS : ∀ L w, (∀ j, L0.getD j false = true → L.getD j false = true) → S' L w → S L w) : ∀ (f : Nat) (listed : Array Bool) (a : Act) (w : World), (∀ j, L0.getD j false = true → listed.getD j false = true) → wpAnyS P ops Q S' f listed a w → wpAnyS P ops Q S f listed a w
  | 0, _, _, _, _, h => h
  | f + 1, _, _, _, hl, h => ⟨h.1, fun i hi => wpOp_mono (fun a' w' h' => ⟨hS _ _ (fun j hj => getD_set_true (hl j hj)) h'.1, wpAnyS_mono hS f _ a' w' (fun j hj => getD_set_true (hl j hj)) h'.2⟩) (h.2 i hi)⟩
theorem head_key (hF : HF P F A w0) {zs : TypeId → List PV} {ops : Array Oper} {tch : List (Nat × List Nat)} {h : List OB} {e : En} {o : Oper} {deps : List Nat} (hp : ConcP N m F A w0 ⟨lk e, h⟩ pl a w) (hnc : isCall o.op = none) (hkind : (wfree2 o || isLd o) = true)
    (hlo : ldOk tch deps o (ldA e o) = true) {K : AV → List OB → Prop} (hst : stepV true P zs m ⟨lk e, h⟩ ops o K) :
    ∃ v, K v h ∧ ∃ u, RelA pl h.length (Sany A w0.heap.size pl h w) (Fresh w0.heap.size pl h w) w v u ∧ YieldsIf P ops (fun w' => ∃ L, unl deps L ∧ SH tch (owns pl h) w L w') o u a := by
  cases hl : isLd o with
  | false =>
    obtain ⟨v, hr, hv⟩ := quietV_sound hp hF hst
    rw [hl] at hkind
    have hwf : wfree2 o = true := by simpa using hkind
    rcases hv with ⟨hw, u, hrel, _, hrun⟩ | ⟨hw, hrel⟩
    · exact ⟨v, hr, u, hrel, .inl ⟨hw, fun w' _ => (hrun hnc).2 hwf w'⟩⟩
    · exact ⟨v, hr, _, hrel, .inr ⟨hw, rfl⟩⟩
  | true =>
    have hj : ldA e o ≠ .junk := fun hj => by rw [hj] at hlo; simp [ldOk, hl] at hlo
    obtain ⟨v, hr, hv⟩ := loadV_sound hp hl hst (va := ldA e o) rfl hj
    rcases hv with ⟨hw, u, ad, hrel, hsrc, hrun⟩ | ⟨hw, hrel⟩
    · refine ⟨v, hr, u, hrel, .inl ⟨hw, fun w' hw' => hrun w' ?_⟩⟩
      obtain ⟨L, hL, hS⟩ := hw'
      have own : ∀ {k : Nat}, ldK tch deps k = true → owns pl h k ad.block → SameAt (.pointer (some ad)) w w' := fun {k} hk hk' => by
        refine SameAt.of_block (hS _ (hp.ownlt k _ hk') fun p hp1 hl1 k1 hk1 ho1 => ?_)
        have e1 := hp.disj k k1 _ hk' ho1
        subst e1
        have := List.all_eq_true.1 hk p hp1
        simp only [Bool.or_eq_true, Bool.not_eq_true'] at this
        rcases this with h6 | h6
        · have h7 : p.2.any (Nat.beq k) = true := List.any_eq_true.2 ⟨k, hk1, Nat.beq_refl k⟩
          rw [h6] at h7; cases h7
        · obtain ⟨j, hj1, hj2⟩ := List.any_eq_true.1 h6
          have := Nat.eq_of_beq_eq_true hj2
          rw [this, hL j hj1] at hl1
          cases hl1
      simp only [ldOk, hl] at hlo
      revert hsrc hlo
      generalize ldA e o = va
      intro hsrc hlo
      cases va with
      | own k off => exact own hlo hsrc
      | orow k i j => exact own hlo hsrc
      | p fl v =>
        have hs : Sany A w0.heap.size pl h w ad.block := hsrc
        exact SameAt.of_block (hS _ hs.1.1 fun p _ _ k1 _ ho1 => hs.1.2 k1 ho1)
      | _ => cases hlo
    · exact ⟨v, hr, _, hrel, .inr ⟨hw, rfl⟩⟩
theorem hdB_spec {ops : Array Oper} {listed : Array Bool} {tch : List (Nat × List Nat)} {i : Nat} {deps : List Nat} {o : Oper} (ho : ops[i]? = some o) (hb : hdB ops listed tch i deps = true) :
    Region.noSelect ops = true ∧ Region.free .any ops listed i = true ∧ i ∈ Region.ready .any ops listed ∧ noT tch i = true ∧ unl deps listed ∧ i ∉ deps ∧ (∀ j ∈ deps, ∃ oj, ops[j]? = some oj ∧ ∃ e ∈ oj.after, Region.binds .any e = true ∧ (e.on = i ∨ e.on ∈ deps)) ∧ isCall o.op = none ∧ (wfree2 o || isLd o) = true := by
  simp only [hdB, ho, Bool.and_eq_true, Bool.not_eq_true'] at hb
  obtain ⟨⟨⟨⟨⟨⟨⟨hsel, hfree⟩, hready⟩, hnt⟩, hun⟩, hid⟩, hdp⟩, ⟨hnc, hnh⟩, hkind⟩ := hb
  refine ⟨hsel, hfree, by simpa using hready, hnt, fun j hj => by have := List.all_eq_true.1 hun j hj; simpa using this, by simpa using hid, fun j hj => ?_, by simpa using hnc, hkind⟩
  have := List.all_eq_true.1 hdp j hj
  cases hoj : ops[j]? with
  | none => rw [hoj] at this; cases this
  | some oj =>
    rw [hoj] at this
    obtain ⟨e', he', hb'⟩ := Array.any_eq_true'.1 this
    simp only [Bool.and_eq_true, Bool.or_eq_true, beq_iff_eq, List.contains_iff_mem] at hb'
    exact ⟨oj, rfl, e', he', hb'.1, hb'.2⟩
theorem heldF_sound {pl0 : Nat → Pl} (hF : HF P F A w0) (_hA : ∀ b, A b → F b) {zs : TypeId → List PV} {ops : Array Oper} (hd : ops.toList.all (okDst N) = true) {K : En → List OB → Prop} {Q' : Exit → Act → World → Prop} (hQ' : LetsNo Q')
    (hK : ∀ e h a w, Conc N m F A w0 pl0 ⟨lk e, h⟩ a w → K e h → Q' .normal a w) {tch : List (Nat × List Nat)} :
    ∀ {f : Nat} {own1 : Nat → Nat → Prop} {w1 : World} {L1 : Nat} (_ : ∀ k b, own1 k b → k < L1) {listed : Array Bool} {e : En} {h : List OB} {pl : Nat → Pl} {a : Act} {w : World}, ops.size ≤ listed.size → ConcP N m F A w0 ⟨lk e, h⟩ pl a w → (∀ k, k < m → k < h.length ∧ pl k = pl0 k) → HInv tch own1 w1 L1 listed pl h w → heldF P zs m ops tch K f L1 listed e h → wpAnyS P ops Q' (SH tch own1 w1) f listed a w := by
  intro f
  have hdi : ∀ {i : Nat} {o : Oper}, ops[i]? = some o → okDst N o = true := fun {i o} h => by
    simp only [List.all_eq_true] at hd
    exact hd o (List.mem_of_getElem? (i := i) (by rw [Array.getElem?_toList]; exact h))
  induction f with
  | zero =>
    intro own1 w1 L1 hL1 listed e h pl a w _ hp hio hinv hh
    rcases hh with ⟨h1, h2⟩ | ⟨rs, h1, h2⟩ | ⟨i, h1, h2⟩
    · exact ⟨h1, hK _ _ _ _ ⟨pl, hp, hio⟩ h2⟩
    · obtain ⟨h3, h4⟩ := h2.out
      cases rs with
      | nil => exact absurd rfl h3
      | cons i r => exact (h4 i (by simp)).elim
    · exact h2.elim
  | succ f ih =>
    intro own1 w1 L1 hL1 listed e h pl a w hls hp hio hinv hh
    have hls' : ∀ i, ops.size ≤ (listed.setIfInBounds i true).size := fun i => by simpa using hls
    have hFw : ∀ b, F b → b < w.heap.size := fun b hb => Nat.lt_of_lt_of_le (hF b hb) hp.hsize
    rcases hh with hh | ⟨i, deps, hh⟩
    case ld =>
      simp only [getO_arr] at hh
      cases ho : ops[i]? with
      | none => rw [ho] at hh; exact hh.elim
      | some o =>
        rw [ho] at hh
        simp only at hh
        obtain ⟨htc, hb, hlo, hst⟩ := hh
        obtain ⟨hsel, hfree, hrd, hnt, hu, hid, hdep, hnc, hkind⟩ := hdB_spec ho hb
        obtain ⟨v, hr, u, hrel, hy⟩ := head_key hF hp hnc hkind hlo hst
        have hr := heldF_put (fV_eq _ _ _ hr)
        have put : ConcP N m F A w0 ⟨lk (putF e o.dst v), h⟩ pl (a.put o.dst u) w := by
          rw [← updO_lk]; exact hp.put o.dst (okDst_spec (hdi ho)) hrel
        have hpan : ∀ (u : Value) (c : List PanicEntry) (a : Act) (w : World), Q' (.panic c) (a.put o.dst u) w → Q' (.panic c) a w := fun u c a w h => by cases hQ' _ _ _ h
        refine wpAnyS_mono (S' := SH tch (owns pl h) w) (L0 := listed) (fun L w' hl hs b hb hu => ?_) _ _ _ _ (fun _ hj => hj) (wpAnyS_first ho hsel (fun c => hpan u c) hdep hid (SH_set hnt) f listed a w (Region.free_spec ho hfree) hrd hu (fun b _ _ => rfl) hy
          (ih (fun k b hk => by obtain ⟨ob, h1, _⟩ := owns_out hk; exact (List.getElem?_eq_some_iff.1 h1).1) (hls' i) put hio ⟨Nat.le_refl _, fun k b _ hk => hk, Nat.le_refl _, fun b _ _ => rfl, fun k b hk => .inr (.inr hk)⟩ hr))
        refine (hs b (Nat.lt_of_lt_of_le hb hinv.size) fun p hp1 hl1 k hk ho1 => ?_).trans (hinv.same b hb fun p hp1 hl1 k hk => hu p hp1 (hl _ hl1) k hk)
        have h7 : k < L1 := Nat.le_of_ble_eq_true (List.all_eq_true.1 (List.all_eq_true.1 htc p hp1) k hk)
        exact hu p hp1 hl1 k hk (hinv.old k b h7 ho1)
    rcases hh with ⟨h1, h2⟩ | ⟨rs, h1, h2⟩ | ⟨i, h1, h2⟩
    · exact ⟨fun _ => hK _ _ _ _ ⟨pl, hp, hio⟩ h2, fun i hi => by rw [h1] at hi; cases hi⟩
    · obtain ⟨h3, h4⟩ := h2.out
      refine ⟨fun h => absurd (h1.symm.trans h) h3, fun i hi => ?_⟩
      rw [h1] at hi
      have h5 := h4 i hi
      simp only [getO_arr] at h5
      cases ho : ops[i]? with
      | none => rw [ho] at h5; exact h5.elim
      | some o =>
        rw [ho] at h5
        simp only at h5
        have hilt : i < listed.size := Nat.lt_of_lt_of_le (Array.getElem?_eq_some_iff.1 ho).1 hls
        rcases h5 with ⟨_, h5⟩ | h5
        · -- a quiet one
          obtain ⟨v, hr, hv⟩ := quietV_sound hp hF h5
          have hr := heldF_put (fV_eq _ _ _ hr)
          unfold wpOp
          simp only [ho]
          have nx : ∀ {u : Value} {w' : World}, Ext w w' → RelA pl h.length (Sany A w0.heap.size pl h w) (Fresh w0.heap.size pl h w) w v u → SH tch own1 w1 (listed.setIfInBounds i true) w' ∧ wpAnyS P ops Q' (SH tch own1 w1) f (listed.setIfInBounds i true) (a.put o.dst u) w' := fun {u w'} hx hu => by
            have hp2 := (hp.put o.dst (okDst_spec (hdi ho)) hu).ext hFw hx
            have : ConcP N m F A w0 ⟨lk (putF e o.dst v), h⟩ pl (a.put o.dst u) w' := by rw [← updO_lk]; exact hp2
            have hinv' := hinv.ext hx i
            exact ⟨hinv'.same, ih hL1 (hls' i) this hio hinv' hr⟩
          rcases hv with ⟨hw, u, hrel, hq, _⟩ | ⟨hw, hrel⟩
          · rw [if_pos hw]
            exact .inl (wp_of_quiet (C := Ext w) (hq w (Ext.refl w)) (Ext.refl w) fun w' hx => nx hx hrel)
          · rw [if_neg (by simp [hw])]
            exact nx (Ext.refl w) hrel
        · -- one that may turn blocks of its own
          have h5 := fH_eq (fE_eq h5)
          have hred := hp.reduce L1 (tOf tch i)
          have e1 : (fun s => renA some fmW ((⟨lk e, h⟩ : St).env s)) = lk (redE e) := funext fun s => (lk_redE e s).symm
          rw [e1] at hred
          have hrl : ∀ k, k < h.length → k < (⟨lk (redE e), redH L1 (tOf tch i) 0 h⟩ : St).heap.length ∧ pl k = pl k := fun k hk => ⟨by simpa [redH_len] using hk, rfl⟩
          refine step_wpOp (m := h.length) (F := stayF pl h w L1 (tOf tch i)) (A := Sany A w0.heap.size pl h w) (w0 := w) (pl0 := pl) ho (hdi ho) h5 ⟨fun b hb => hb.1, fun b hb => ⟨hb.1.1, fun k _ hk => hb.1.2 k hk⟩, hF.any hp⟩ (fun b hb => ⟨hb.1.1, fun k _ hk => hb.1.2 k hk⟩) ⟨pl, hred, hrl⟩ ?_
          rintro v h' a' w' hr ⟨pl2, hp2, hio2⟩
          have hr := heldF_put (fH_eq (fV_eq _ _ _ hr))
          rw [updO_lk] at hp2
          obtain ⟨hm1, hm2⟩ := hp.mergeH hF hp2 hio2
          have hlen : h.length ≤ h'.length := by
            rcases Nat.eq_zero_or_pos h.length with h0 | h0
            · omega
            · have := (hio2 (h.length - 1) (by omega)).1; simp only at this; omega
          have tch1 : ∀ {k b : Nat}, aliveB L1 (tOf tch i) k = true → owns pl h k b → w1.heap.size ≤ b ∨ ∃ p ∈ tch, (listed.setIfInBounds i true).getD p.1 false = true ∧ ∃ k1 ∈ p.2, own1 k1 b := fun {k b} ha hk => by
            rcases hinv.own k b hk with h6 | ⟨p, h6, h7, h8⟩ | h6
            · exact .inl h6
            · exact .inr ⟨p, h6, getD_set_true h7, h8⟩
            · right
              simp only [aliveB, Bool.or_eq_true] at ha
              rcases ha with ha | ha
              · have := Nat.le_of_ble_eq_true ha
                have := hL1 k b h6
                omega
              · obtain ⟨k', hk', hkb⟩ := List.any_eq_true.1 ha
                have := Nat.eq_of_beq_eq_true hkb
                subst this
                obtain ⟨p, h7, h8, h9⟩ := tOf_mem hk'
                exact ⟨p, h7, by rw [h8]; simp [hilt], k, h9, h6⟩
          have hinv' : HInv tch own1 w1 L1 (listed.setIfInBounds i true) pl2 (mrgH L1 (tOf tch i) 0 h h') w' := by
            refine ⟨by rw [mrgH_len hlen]; exact Nat.le_trans hinv.len hlen, fun k b hk1 hk => ?_, Nat.le_trans hinv.size hp2.hsize, fun b hb hu => ?_, fun k b hk => ?_⟩
            · rcases hm2 k b hk with ⟨h6, h7⟩ | ⟨h6, h7⟩
              · exact hinv.old k b hk1 h7
              · have := hinv.len; simp only at h6; omega
            · refine (hp2.frame b ⟨Nat.lt_of_lt_of_le hb hinv.size, fun k ha hk => ?_⟩).trans (hinv.same b hb (unT_mono hu))
              rcases tch1 ha hk with h6 | ⟨p, h6, h7, k1, h8, h9⟩
              · omega
              · exact hu p h6 h7 k1 h8 h9
            · rcases hm2 k b hk with ⟨h6, h7⟩ | ⟨h6, h7⟩
              · rcases hinv.own k b h7 with h8 | ⟨p, h8, h9, h10⟩ | h8
                · exact .inl h8
                · exact .inr (.inl ⟨p, h8, getD_set_true h9, h10⟩)
                · exact .inr (.inr h8)
              · rcases Nat.lt_or_ge b w.heap.size with h8 | h8
                · have : ∃ k2, aliveB L1 (tOf tch i) k2 = true ∧ owns pl h k2 b := by
                    refine Classical.byContradiction fun hn => h7 ⟨h8, fun k2 ha hk2 => hn ⟨k2, ha, hk2⟩⟩
                  obtain ⟨k2, h9, h10⟩ := this
                  rcases tch1 h9 h10 with h11 | h11
                  · exact .inl h11
                  · exact .inr (.inl h11)
                · exact .inl (Nat.le_trans hinv.size h8)
          refine ⟨hinv'.same, ih hL1 (hls' i) hm1 (fun k hk => ?_) hinv' hr⟩
          have := hio k hk
          have h6 := hio2 k this.1
          refine ⟨by rw [mrgH_len hlen]; exact h6.1, h6.2.trans this.2⟩
    · simp only [takeB, Bool.and_eq_true] at h1
      obtain ⟨⟨⟨hsel, hfree⟩, hready⟩, hwf⟩ := h1
      simp only [getO_arr] at h2
      cases ho : ops[i]? with
      | none => rw [ho] at h2; exact h2.elim
      | some o =>
        rw [ho] at h2 hwf
        simp only [Bool.and_eq_true, Bool.not_eq_true'] at hwf
        obtain ⟨hnt, h2⟩ := h2
        obtain ⟨v, hr, hv⟩ := quietV_sound hp hF h2
        have hr := heldF_put (fV_eq _ _ _ hr)
        have hnc : isCall o.op = none := by simpa using hwf.1.2
        have put : ∀ {u : Value}, RelA pl h.length (Sany A w0.heap.size pl h w) (Fresh w0.heap.size pl h w) w v u → ConcP N m F A w0 ⟨lk (putF e o.dst v), h⟩ pl (a.put o.dst u) w := fun hu => by
          rw [← updO_lk]; exact hp.put o.dst (okDst_spec (hdi ho)) hu
        have hpan : ∀ (u : Value) (c : List PanicEntry) (a : Act) (w : World), Q' (.panic c) (a.put o.dst u) w → Q' (.panic c) a w := fun u c a w h => by cases hQ' _ _ _ h
        have hrd : i ∈ Region.ready .any ops listed := by simpa using hready
        have hinv' := hinv.ext (Ext.refl w) i
        have go : ∀ {u : Value}, YieldsIf P ops (fun w => ∃ L, unl [] L ∧ SH tch own1 w1 L w) o u a → RelA pl h.length (Sany A w0.heap.size pl h w) (Fresh w0.heap.size pl h w) w v u → wpAnyS P ops Q' (SH tch own1 w1) (f + 1) listed a w := fun {u} hy hu =>
          wpAnyS_first ho hsel (fun c => hpan u c) (fun j hj => by cases hj) (by simp) (SH_set hnt) f listed a w (Region.free_spec ho hfree) hrd (fun j hj => by cases hj) hinv.same hy (ih hL1 (hls' i) (put hu) hio hinv' hr)
        rcases hv with ⟨hw, u, hrel, hq, hrun⟩ | ⟨hw, hrel⟩
        · exact go (.inl ⟨hw, fun w' _ => (hrun hnc).2 hwf.1.1 w'⟩) hrel
        · exact go (.inr ⟨hw, rfl⟩) hrel
theorem headF_sound {pl0 : Nat → Pl} (hF : HF P F A w0) (hA : ∀ b, A b → F b) {zs : TypeId → List PV} {ops : Array Oper} (hd : ops.toList.all (okDst N) = true) {Q' : Exit → Act → World → Prop} (hQ' : LetsNo Q')
    {tch : List (Nat × List Nat)} {h : List OB} {pl : Nat → Pl} {w : World} {K2 : Nat → Array Bool → En → Prop}
    (hK2 : ∀ (f : Nat) (listed : Array Bool) (e : En) (a : Act), ops.size ≤ listed.size → ConcP N m F A w0 ⟨lk e, h⟩ pl a w → K2 f listed e → wpAnyS P ops Q' (SH tch (owns pl h) w) f listed a w) :
    ∀ {f : Nat} {listed : Array Bool} {e : En} {a : Act}, ops.size ≤ listed.size → ConcP N m F A w0 ⟨lk e, h⟩ pl a w → headF P zs m ops tch h K2 f listed e → wpAnyS P ops Q' (SH tch (owns pl h) w) f listed a w := by
  intro f
  have hdi : ∀ {i : Nat} {o : Oper}, ops[i]? = some o → okDst N o = true := fun {i o} h => by
    simp only [List.all_eq_true] at hd
    exact hd o (List.mem_of_getElem? (i := i) (by rw [Array.getElem?_toList]; exact h))
  induction f with
  | zero => intro listed e a hls hp hh; exact hK2 _ _ _ _ hls hp hh
  | succ f ih =>
    intro listed e a hls hp hh
    rcases hh with ⟨i, deps, hh⟩ | hh
    case go => exact hK2 _ _ _ _ hls hp hh
    have hls' : ops.size ≤ (listed.setIfInBounds i true).size := by simpa using hls
    simp only [getO_arr] at hh
    cases ho : ops[i]? with
    | none => rw [ho] at hh; exact hh.elim
    | some o =>
      rw [ho] at hh
      simp only at hh
      obtain ⟨hb, hlo, hst⟩ := hh
      obtain ⟨hsel, hfree, hrd, hnt, hu, hid, hdep, hnc, hkind⟩ := hdB_spec ho hb
      have hpan : ∀ (u : Value) (c : List PanicEntry) (a : Act) (w : World), Q' (.panic c) (a.put o.dst u) w → Q' (.panic c) a w := fun u c a w h => by cases hQ' _ _ _ h
      have hS0 : SH tch (owns pl h) w listed w := fun b _ _ => rfl
      obtain ⟨v, hr, u, hrel, hy⟩ := head_key hF hp hnc hkind hlo hst
      have hr := headF_put (fV_eq _ _ _ hr)
      have put : ConcP N m F A w0 ⟨lk (putF e o.dst v), h⟩ pl (a.put o.dst u) w := by
        rw [← updO_lk]; exact hp.put o.dst (okDst_spec (hdi ho)) hrel
      exact wpAnyS_first ho hsel (fun c => hpan u c) hdep hid (SH_set hnt) f listed a w (Region.free_spec ho hfree) hrd hu hS0 hy (ih hls' put hr)
theorem AW.drawnG {zs : TypeId → List PV} {id : Nat} {ops : Array Oper} {K : En → List OB → Prop} {e : En} {h : List OB} (hm : P.follows .mixedOrders = true) (hd : okReg N ops true = true) (hk : drawG P zs m ops K e h) :
    AW P N m (.region id ops true) (fun x st => x = .normal ∧ ∃ e h, st = ⟨lk e, h⟩ ∧ K e h) ⟨lk e, h⟩ := by
  rcases hk with hk | ⟨tch, hk⟩
  · exact AW.drawn hm hd hk
  rintro F A w0 pl0 a w hF hA ⟨pl, hp, hio⟩
  have hFw : ∀ b, F b → b < w.heap.size := fun b hb => Nat.lt_of_lt_of_le (hF b hb) hp.hsize
  have hp1 := hp.ext hFw (Ext.drew w)
  refine wp_mono (Q := fun e a' w' => e = .normal ∧ ∃ st', Conc N m F A w0 pl0 st' a' w' ∧ ∃ e h, st' = ⟨lk e, h⟩ ∧ K e h) ?_ (fun e a' w' ⟨he, st', hc, hq⟩ => by subst he; exact ⟨st', hc, rfl, hq⟩)
  refine wp_region_any hm (wpAny_of_S (S := SH tch (owns pl h) { w with drawn := w.drawn + 1 }) _ _ _ _ (headF_sound (pl0 := pl0) hF hA hd (fun e a w h => h.1) ?_ (by simp) hp1 hk))
  intro f listed e a hls hc hh
  exact heldF_sound hF hA hd (fun e a w h => h.1) (fun e h a w hc hk => ⟨rfl, _, hc, e, h, rfl, hk⟩) (fun k b hk => by obtain ⟨ob, h1, _⟩ := owns_out hk; exact (List.getElem?_eq_some_iff.1 h1).1) hls hc hio
    ⟨Nat.le_refl _, fun k b _ hk => hk, Nat.le_refl _, fun b _ _ => rfl, fun k b hk => .inr (.inr hk)⟩ hh
end
end Go.Av
namespace Go.Av
open Go.RowKit
inductive CondF (b : Bool) (A B : Prop) : Prop
  | mk (t : b = true → A) (f : b = false → B)
def condF (v : AV) (A B : Prop) : Prop := match v with
  | .p _ (.c (.bool b)) => CondF b A B
  | _ => False
def nodupB : List Nat → Bool
  | [] => true
  | a :: r => !(r.any (Nat.beq a)) && nodupB r
def prefB : Nat → Nat → List Nat → Bool
  | 0, _, _ => true
  | _ + 1, _, [] => false
  | m + 1, i, a :: r => Nat.beq a i && prefB m (i + 1) r
def okKeep (m : Nat) (keep : List Nat) (n : Nat) : Bool := prefB m 0 keep && nodupB keep && keep.all (fun k => Nat.blt k n)
def fitsF (keep : List Nat) (e : En) : En → Prop
  | [] => True
  | (s, v) :: r => renA (expG keep) some (lk e s) = v ∧ fitsF keep e r
def wkOB : OB → OB
  | .row nw .flat z es => .row nw .fresh z es
  | ob => ob
def wkL : List Nat → List OB → List OB
  | [], h => h
  | k :: r, h => wkL r (bif Nat.ble 1000 k then oldH h (k - 1000) else match h[k]? with
    | some ob => h.set k (wkOB ob)
    | none => h)
def fitF (m : Nat) (e : En) (h : List OB) (e' : En) (h' : List OB) : Prop :=
  ∃ keep ws : List Nat, okKeep m keep h.length = true ∧ wkL ws (renHeap keep h) = h' ∧ fitsF keep e e'
def thenF (K : En → List OB → Prop) (Q : Exit → En → List OB → Prop) : Exit → En → List OB → Prop
  | .normal, e, h => K e h
  | x, e, h => Q x e h
def blockF (id : Nat) (Q : Exit → En → List OB → Prop) : Exit → En → List OB → Prop
  | .exit id', e, h => bif Nat.beq id' id then Q .normal e h else Q (.exit id') e h
  | x, e, h => Q x e h
inductive FitF {T : Type} (m : Nat) (Pre : T → Prop) (sl : T → En) (hp : T → List OB) (e : En) (h : List OB) : Prop
  | mk (t : T) (p : Pre t) (f : fitF m e h (sl t) (hp t))
inductive BackF {T : Type} (m : Nat) (Pre : T → Prop) (sl : T → En) (hp : T → List OB) (μ : T → Nat) (n : Nat) (e : En) (h : List OB) : Prop
  | mk (t : T) (p : Pre t) (l : μ t < n) (f : fitF m e h (sl t) (hp t))
def BackU {T : Type} (m : Nat) (Pre : T → Prop) (sl : T → En) (hp : T → List OB) (μ : T → Nat) (n : Nat) (e : En) (h : List OB) : Prop := unholeW 4 h fun h => BackF m Pre sl hp μ n e h
def FitU {T : Type} (m : Nat) (Pre : T → Prop) (sl : T → En) (hp : T → List OB) (e : En) (h : List OB) : Prop := unholeW 4 h fun h => FitF m Pre sl hp e h
inductive LoopF (m : Nat) (body : (Exit → En → List OB → Prop) → En → List OB → Prop) (Q : Exit → En → List OB → Prop) (e : En) (h : List OB) : Prop
  | mk (T : Type) (Pre : T → Prop) (sl : T → En) (hp : T → List OB) (μ : T → Nat)
    (entry : FitF m Pre sl hp e h)
    (round : ∀ t, Pre t → fE (sl t) fun e => fH (hp t) fun h => body (thenF (fun e' h' => BackU m Pre sl hp μ (μ t) e' h') Q) e h)
inductive SeqF (m : Nat) (a b : (Exit → En → List OB → Prop) → En → List OB → Prop) (Q : Exit → En → List OB → Prop) (e : En) (h : List OB) : Prop
  | run (x : a (thenF (fun e h => b Q e h) Q) e h)
  | cut (T : Type) (Pre : T → Prop) (sl : T → En) (hp : T → List OB)
    (x : a (thenF (fun e h => FitU m Pre sl hp e h) Q) e h)
    (y : ∀ t, Pre t → fE (sl t) fun e => fH (hp t) fun h => b Q e h)
def regB (P : Program) [Kn P] (zs : TypeId → List PV) (m : Nat) (ops : Array Oper) (K : En → List OB → Prop) (d : Bool) (e : En) (h : List OB) : Prop := match d with
  | true => drawG P zs m ops K e h
  | false => regF false P zs m ops K ops.toList e h
theorem GhF.held {P : Program} [Kn P] {zs : TypeId → List PV} {m : Nat} {ops : Array Oper} {K : En → List OB → Prop} {e : En} {h : List OB} {id : Nat} (i : Nat) (_ : Nat.beq id i = true) (tch : List (Nat × List Nat)) (k : regH P zs m ops tch K e h) : GhF id (regB P zs m ops K true) e h := .go (.held tch k)
def codeF (P : Program) [Kn P] (zs : TypeId → List PV) (m : Nat) : Code → (Exit → En → List OB → Prop) → En → List OB → Prop
  | .skip, Q, e, h => Q .normal e h
  | .ret, Q, e, h => Q .ret e h
  | .exit id, Q, e, h => Q (.exit id) e h
  | .seq a b, Q, e, h => SeqF m (codeF P zs m a) (codeF P zs m b) Q e h
  | .cond c a b, Q, e, h => withV ⟨lk e, h⟩ true c fun v => condF v (codeF P zs m a Q e h) (codeF P zs m b Q e h)
  | .block id c, Q, e, h => codeF P zs m c (blockF id Q) e h
  | .loop c, Q, e, h => unholeW 4 h fun h => LoopF m (codeF P zs m c) Q e h
  | .region id ops d, Q, e, h => GhF id (regB P zs m ops (Q .normal) d) e h
  | _, _, _, _ => False
inductive RetF (m : Nat) (vs : List AV) (h : List OB) (R : List AV → List OB → Prop) : Prop
  | mk (keep : List Nat) (hk : okKeep m keep h.length = true) (k : seqW (fV 4) (renL (expG keep) some vs) fun vs => fH (renHeap keep h) fun ho => R vs ho)
def retF (P : Program) [Kn P] (rs : List ResultVar) (m : Nat) (R : List AV → List OB → Prop) : Exit → En → List OB → Prop
  | .normal, e, h | .ret, e, h => unholeW 4 h fun h => resW P ⟨lk e, h⟩ rs fun vs => RetF m vs h R
  | _, _, _ => False
def codeId : Code → Nat
  | .region id _ _ => id
  | .seq a _ => codeId a
  | .cond _ a _ => codeId a
  | .block _ c => codeId c
  | .loop c => codeId c
  | _ => 0
theorem LoopF.at {P : Program} [Kn P] {zs : TypeId → List PV} {m : Nat} {c : Code} {Q : Exit → En → List OB → Prop} {e : En} {h : List OB} (id : Nat) (hid : Nat.beq (codeId c) id = true) (hl : LoopF m (codeF P zs m c) Q e h) : LoopF m (codeF P zs m c) Q e h := hl
section
variable {N m : Nat} {P : Program} [Kn P]
theorem nodupB_spec : ∀ {l : List Nat}, nodupB l = true → l.Nodup
  | [], _ => List.nodup_nil
  | a :: r, h => by
    simp only [nodupB, Bool.and_eq_true, Bool.not_eq_true', List.any_eq_false] at h
    refine List.nodup_cons.2 ⟨fun hm => ?_, nodupB_spec h.2⟩
    have := h.1 a hm
    simp at this
theorem prefB_spec : ∀ {m i : Nat} {l : List Nat}, prefB m i l = true → l.take m = List.range' i m ∧ m ≤ l.length
  | 0, _, _, _ => by simp
  | m + 1, i, [], h => by simp [prefB] at h
  | m + 1, i, a :: r, h => by
    simp only [prefB, Bool.and_eq_true] at h
    have h1 := Nat.eq_of_beq_eq_true h.1
    obtain ⟨h2, h3⟩ := prefB_spec h.2
    subst h1
    simp [List.range'_succ, h2, h3]
theorem okKeep_spec {keep : List Nat} {n : Nat} (h : okKeep m keep n = true) : keep.take m = List.range m ∧ m ≤ keep.length ∧ keep.Nodup ∧ ∀ k ∈ keep, k < n := by
  simp only [okKeep, Bool.and_eq_true, List.all_eq_true] at h
  obtain ⟨h1, h2⟩ := prefB_spec h.1.1
  exact ⟨by rw [h1, List.range_eq_range'], h2, nodupB_spec h.1.2, fun k hk => by simpa using h.2 k hk⟩
theorem ConcP.weak {F A : Nat → Prop} {w0 : World} {pl : Nat → Pl} {a : Act} {w : World} {f g : Nat → AV} {h : List OB} (hC : ConcP N m F A w0 ⟨f, h⟩ pl a w) (hg : ∀ s, g s = f s ∨ g s = .junk) : ConcP N m F A w0 ⟨g, h⟩ pl a w :=
  { hC with
    ownlt := hC.ownlt, ownF := hC.ownF, newb := hC.newb, disj := hC.disj, heap := hC.heap
    env := fun s => by
      rcases hg s with e | e
      · show RelA _ _ _ _ _ (g s) _
        rw [e]; exact hC.env s
      · show RelA _ _ _ _ _ (g s) _
        rw [e]; exact .junk }
theorem AW.weak {c : Code} {Q : Exit → St → Prop} {f g : Nat → AV} {h : List OB} (hg : ∀ s, g s = f s ∨ g s = .junk) (hc : AW P N m c Q ⟨g, h⟩) : AW P N m c Q ⟨f, h⟩ := by
  rintro F A w0 pl0 a w hF hA ⟨pl, hp, hio⟩
  exact hc F A w0 pl0 a w hF hA ⟨pl, hp.weak hg, hio⟩
theorem fitsF_spec {keep : List Nat} {e : En} : ∀ {e' : En}, fitsF keep e e' → ∀ s, lk e' s = renA (expG keep) some (lk e s) ∨ lk e' s = .junk
  | [], _, s => .inr rfl
  | (t, v) :: r, h, s => by
    simp only [lk]
    cases hb : Nat.beq t s with
    | true =>
      have := Nat.eq_of_beq_eq_true hb
      subst this
      exact .inl h.1.symm
    | false => exact fitsF_spec h.2 s
theorem ConcP.wk1 {F A : Nat → Prop} {w0 : World} {st : St} {pl : Nat → Pl} {a : Act} {w : World} (hC : ConcP N m F A w0 st pl a w) {k : Nat} {ob : OB} (hk : st.heap[k]? = some ob) : ConcP N m F A w0 ⟨st.env, st.heap.set k (wkOB ob)⟩ pl a w := by
  have triv : wkOB ob = ob → ConcP N m F A w0 ⟨st.env, st.heap.set k (wkOB ob)⟩ pl a w := fun e => by
    rw [e]
    have hs : st.heap.set k ob = st.heap := by
      apply List.ext_getElem?
      intro j
      by_cases hj : k = j
      · subst hj; rw [List.getElem?_set_self (List.getElem?_eq_some_iff.1 hk).1, hk]
      · rw [List.getElem?_set_ne hj]
    rw [hs]; exact hC
  cases ob with
  | dead => exact triv rfl
  | fix cells => exact triv rfl
  | mp nw ks f => exact triv rfl
  | rows nw fl z es ho => exact triv rfl
  | row nw fl z es =>
    cases fl with
    | fresh => exact triv rfl
    | any => exact triv rfl
    | flat =>
      obtain ⟨hN, hmk⟩ := hC.write' hk (ob' := .row nw .fresh z es) (w' := w) rfl rfl rfl rfl rfl rfl (fun _ _ => rfl)
      refine hmk ?_
      obtain ⟨g1, g2, g3, g4, g5, g6⟩ := hC.heap k _ hk
      refine ⟨g1, g2, g3, g4, g5, fun hcap => ?_⟩
      obtain ⟨ty, arr, q1, q2, q3⟩ := g6 hcap
      refine ⟨ty, arr, q1, q2, fun i j e p he hp => ?_⟩
      obtain ⟨x, r1, r2, r3⟩ := q3 i j e p he hp
      exact ⟨x, r1, r2, r3.mono (fun b hb => hb.elim) (fun _ _ => rfl)⟩
theorem AW.wk {c : Code} {Q : Exit → St → Prop} {e : Nat → AV} : ∀ {ws : List Nat} {h : List OB}, AW P N m c Q ⟨e, wkL ws h⟩ → AW P N m c Q ⟨e, h⟩
  | [], _, hc => hc
  | k :: r, h, hc => by
    have hc := AW.wk (ws := r) hc
    cases hb : Nat.ble 1000 k with
    | true =>
      rw [hb] at hc
      simp only [cond_true] at hc
      intro F A w0 pl0 a w hF hA hcc
      obtain ⟨pl, hC, hio⟩ := hcc
      cases hk : h[k - 1000]? with
      | none => exact hc F A w0 pl0 a w hF hA ⟨pl, by unfold oldH; simp only [hk]; exact hC, fun k' hk' => by unfold oldH; simp only [hk]; exact hio k' hk'⟩
      | some ob => exact hc F A w0 pl0 a w hF hA ⟨pl, by unfold oldH; simp only [hk]; exact hC.oldK hk, fun k' hk' => by have := hio k' hk'; unfold oldH; simp only [hk, List.length_set]; exact this⟩
    | false =>
    rw [hb] at hc
    simp only [cond_false] at hc
    cases hk : h[k]? with
    | none => simpa [hk] using hc
    | some ob =>
      simp only [hk] at hc
      intro F A w0 pl0 a w hF hA hcc
      obtain ⟨pl, hC, hio⟩ := hcc
      exact hc F A w0 pl0 a w hF hA ⟨pl, hC.wk1 hk, fun k' hk' => ⟨by have := (hio k' hk').1; simpa using this, (hio k' hk').2⟩⟩
theorem AW.fit {c : Code} {Q : Exit → St → Prop} {e e' : En} {h h' : List OB} (hf : fitF m e h e' h') (hc : AW P N m c Q ⟨lk e', h'⟩) : AW P N m c Q ⟨lk e, h⟩ := by
  obtain ⟨keep, ws, hk, rfl, hs⟩ := hf
  obtain ⟨h1, h2, h3, h4⟩ := okKeep_spec hk
  exact AW.rename keep h1 h3 h4 (AW.weak (fitsF_spec hs) (AW.wk hc))
theorem AW.conv {c : Code} {Q Q' : Exit → St → Prop} {st : St} (hq : ∀ (x : Exit) (s : St), Q x s → ∀ (F A : Nat → Prop) (w0 : World) (pl0 : Nat → Pl) (a : Act) (w : World), HF P F A w0 → Conc N m F A w0 pl0 s a w → ∃ s', Conc N m F A w0 pl0 s' a w ∧ Q' x s') (h : AW P N m c Q st) : AW P N m c Q' st :=
  fun F A w0 pl0 a w hF hA hc => wp_mono (h F A w0 pl0 a w hF hA hc) fun _ _ _ ⟨st', hc', h'⟩ => hq _ _ h' F A w0 pl0 _ _ hF hc'
theorem Conc.unhole {F A : Nat → Prop} {w0 : World} {pl0 : Nat → Pl} {a : Act} {w : World} (hF : ∀ b, F b → b < w0.heap.size) {e : Nat → AV} {n : Nat} {h : List OB} {K : List OB → Prop} (hk : unholeW n h K) (hC : Conc N m F A w0 pl0 ⟨e, h⟩ a w) : ∃ h', K h' ∧ Conc N m F A w0 pl0 ⟨e, h'⟩ a w := by
  obtain ⟨pl, hp, hio⟩ := hC
  obtain ⟨h', h1, h2, h3⟩ := unholeW_sound hF hk hp
  exact ⟨h', h1, pl, h3, fun k hk => ⟨by have := (hio k hk).1; show k < h'.length; rw [h2]; exact this, (hio k hk).2⟩⟩
theorem AW.unhole {c : Code} {Q : Exit → St → Prop} {e : Nat → AV} {n : Nat} {h : List OB} {K : List OB → Prop} (hk : unholeW n h K) (hc : ∀ h', K h' → AW P N m c Q ⟨e, h'⟩) : AW P N m c Q ⟨e, h⟩ := by
  intro F A w0 pl0 a w hF hA hC
  obtain ⟨h', h1, h2⟩ := hC.unhole hF hk
  exact hc h' h1 F A w0 pl0 a w hF hA h2
def asQ (Q : Exit → En → List OB → Prop) : Exit → St → Prop := fun x st => ∃ e h, st = ⟨lk e, h⟩ ∧ Q x e h
theorem codeF_sound {zs : TypeId → List PV} (hm : P.follows .mixedOrders = true) : ∀ (c : Code) (Q : Exit → En → List OB → Prop) (e : En) (h : List OB), okCode N c = true → codeF P zs m c Q e h → AW P N m c (asQ Q) ⟨lk e, h⟩ := by
  intro c
  induction c with
  | skip => intro Q e h _ hc; exact AW.skip ⟨e, h, rfl, hc⟩
  | ret => intro Q e h _ hc; exact AW.ret ⟨e, h, rfl, hc⟩
  | exit id => intro Q e h _ hc; exact AW.exit ⟨e, h, rfl, hc⟩
  | seq a b iha ihb =>
    intro Q e h hok hc
    simp only [okCode, Bool.and_eq_true] at hok
    rcases hc with hc | ⟨T, Pre, sl, hp, hc, hc2⟩
    · refine AW.seq (AW.mono (fun x s hs => ?_) (iha _ e h hok.1 hc))
      obtain ⟨e', h', rfl, hq⟩ := hs
      cases x with
      | normal => exact ihb Q e' h' hok.2 hq
      | _ => exact ⟨e', h', rfl, hq⟩
    · refine AW.seq (AW.mono (fun x s hs => ?_) (iha _ e h hok.1 hc))
      obtain ⟨e', h', rfl, hq⟩ := hs
      cases x with
      | normal =>
        refine AW.unhole hq fun h'' hq => ?_
        obtain ⟨t, hpt, hf⟩ := hq
        exact AW.fit hf (ihb Q (sl t) (hp t) hok.2 (fH_eq (fE_eq (hc2 t hpt))))
      | _ => exact ⟨e', h', rfl, hq⟩
  | cond c a b iha ihb =>
    intro Q e h hok hc
    simp only [okCode, Bool.and_eq_true] at hok
    refine AW.cond ?_
    have mono : ∀ {K K' : AV → Prop}, (∀ v, K v → K' v) → withV ⟨lk e, h⟩ true c K → withV ⟨lk e, h⟩ true c K' := by
      intro K K' hk h
      unfold withV at h ⊢
      split at h
      · split at h
        · exact let ⟨h1, h2⟩ := h; ⟨h1, hk _ h2⟩
        · exact hk _ h
      · exact ⟨h.1, hk _ h.2⟩
      · exact hk _ h
      · exact h.elim
    refine mono (fun v hv => ?_) hc
    unfold condF at hv
    split at hv
    · obtain ⟨h1, h2⟩ := hv
      exact ⟨fun hb => iha Q e h hok.1 (h1 hb), fun hb => ihb Q e h hok.2 (h2 hb)⟩
    · exact hv.elim
  | block id c ih =>
    intro Q e h hok hc
    refine AW.block (AW.mono (fun x s hs => ?_) (ih _ e h hok hc))
    obtain ⟨e', h', rfl, hq⟩ := hs
    cases x with
    | exit id' =>
      simp only [blockF] at hq
      simp only [blockQ]
      by_cases hid : id' = id
      · subst hid
        rw [if_pos rfl]
        simp only [Nat.beq_refl, cond_true] at hq
        exact ⟨e', h', rfl, hq⟩
      · rw [if_neg hid]
        have : Nat.beq id' id = false := by
          cases hb : Nat.beq id' id with
          | false => rfl
          | true => exact absurd (Nat.eq_of_beq_eq_true hb) hid
        rw [this] at hq
        exact ⟨e', h', rfl, hq⟩
    | _ => exact ⟨e', h', rfl, hq⟩
  | loop c ih =>
    intro Q e h hok hc
    refine AW.unhole hc fun h hc => ?_
    obtain ⟨T, Pre, sl, hp, μ, ⟨t0, hp0, hf0⟩, hc⟩ := hc
    refine AW.loop (T := T) (fun t st => Pre t ∧ ∃ e h, st = ⟨lk e, h⟩ ∧ fitF m e h (sl t) (hp t)) μ t0 ⟨hp0, e, h, rfl, hf0⟩ ?_
    rintro t s ⟨hpt, e, h, rfl, hf⟩
    refine AW.fit hf (AW.conv (fun x s hs F A w0 pl0 a w hF hC => ?_) (ih _ (sl t) (hp t) hok (fH_eq (fE_eq (hc t hpt)))))
    obtain ⟨e', h', rfl, hq⟩ := hs
    cases x with
    | normal =>
      obtain ⟨h'', hq, hC⟩ := hC.unhole hF hq
      obtain ⟨t', h1, h2, h3⟩ := hq
      exact ⟨_, hC, t', ⟨h1, e', h'', rfl, h3⟩, h2⟩
    | _ => exact ⟨_, hC, e', h', rfl, hq⟩
  | region id ops d =>
    intro Q e h hok hc
    have hc' : ∃ l, ghW l (regB P zs m ops (Q .normal) d) e h := by
      rcases hc with hc | ⟨l, hc⟩
      · exact ⟨[], hc⟩
      · exact ⟨l, hc⟩
    obtain ⟨l, hc⟩ := hc'
    refine AW.gh (fun e h hc => ?_) hc
    cases d with
    | false =>
      simp only [okCode, okReg, Bool.and_eq_true] at hok
      exact AW.region (P := P) (Q := asQ Q) (regF_sound hok hc)
    | true =>
      refine AW.mono (fun x s ⟨hx, e, h, hs, hk⟩ => ?_) (AW.drawnG hm hok hc)
      subst hx
      exact ⟨e, h, hs, hk⟩
  | _ => intro Q e h hok; simp [okCode] at hok
def argE : Nat → List AV → En
  | _, [] => []
  | i, a :: r => (i, a) :: argE (i + 1) r
theorem argE_spec : ∀ {l : List AV} {i s : Nat}, lk (argE i l) (i + s) = (l[s]?).getD .junk
  | [], i, s => by simp [argE, lk]
  | a :: r, i, s => by
    simp only [argE, lk]
    cases s with
    | zero => simp
    | succ s =>
      have : Nat.beq i (i + (s + 1)) = false := by
        cases hb : Nat.beq i (i + (s + 1)) with
        | false => rfl
        | true => have := Nat.eq_of_beq_eq_true hb; omega
      rw [this]
      have := argE_spec (l := r) (i := i + 1) (s := s)
      have e : i + 1 + s = i + (s + 1) := by omega
      rw [e] at this
      simpa using this
theorem FnSem.of_codeF {zs : TypeId → List PV} {f : FuncId} {fn : Func} {c : Code} {args : List AV} {hin : List OB} {R : List AV → List OB → Prop} (hm : P.follows .mixedOrders = true) (hf : P.funcs[f]? = some fn) (hb : fn.body = some c) (hc : callable P f = true) (hN : Nat.ble args.length fn.ntmps = true) (hok : okCode fn.ntmps c = true)
    (h : codeF P zs hin.length c (retF P fn.results.toList hin.length R) (argE 0 args) hin) : FnSem P f args hin R := by
  refine FnSem.of_AW hf hb hc (Nat.le_of_ble_eq_true hN) ?_
  have e0 : envOf args = lk (argE 0 args) := by
    funext s
    have := argE_spec (l := args) (i := 0) (s := s)
    simp only [Nat.zero_add] at this
    rw [this]; rfl
  rw [e0]
  refine AW.conv (fun x s hs F A w0 pl0 a w hF hC => ?_) (codeF_sound hm c _ _ _ hok h)
  obtain ⟨e, h, rfl, hq⟩ := hs
  have key : ∀ h : List OB, ∀ {rs : List ResultVar}, resW P ⟨lk e, h⟩ rs (fun vs => RetF hin.length vs h R) → resW P ⟨lk e, h⟩ rs (fun vs => exportW hin.length ⟨lk e, h⟩ vs R) := by
    intro h rs
    have fin : ∀ vs, RetF hin.length vs h R → exportW hin.length ⟨lk e, h⟩ vs R := by
      rintro vs ⟨keep, hk, hr⟩
      obtain ⟨h1, h2, h3, h4⟩ := okKeep_spec hk
      exact ⟨keep, h1, h2, h3, h4, fH_eq (seqW_id (fV_eq 4) (K := fun vs => fH (renHeap keep h) fun ho => R vs ho) hr)⟩
    have mono : ∀ {st : St} {G : Bool} {x : Operand} {K K' : AV → Prop}, (∀ v, K v → K' v) → withV st G x K → withV st G x K' := by
      intro st G x K K' hk h
      unfold withV at h ⊢
      split at h
      · split at h
        · exact let ⟨h1, h2⟩ := h; ⟨h1, hk _ h2⟩
        · exact hk _ h
      · exact ⟨h.1, hk _ h.2⟩
      · exact hk _ h
      · exact h.elim
    have loadm : ∀ {st : St} {t : TypeId} {a : AV} {K K' : AV → Prop}, (∀ v, K v → K' v) → loadW P st t a K → loadW P st t a K' := by
      intro st t a K K' hk h
      unfold loadW at h ⊢
      split at h
      case h_2 => exact h.elim
      split at h
      · rename_i hagg
        rw [if_pos hagg]
        split at h
        · exact ⟨h.1, h.2.1, hk _ h.2.2⟩
        · split at h
          · exact ⟨h.1, h.2.1, hk _ h.2.2⟩
          · exact h.elim
        · split at h
          · exact ⟨h.1, h.2.1, let ⟨a, e, b, c⟩ := h.2.2; ⟨a, e, b, hk _ c⟩⟩
          · exact h.elim
        · exact h.elim
      · rename_i hagg
        rw [if_neg hagg]
        split at h
        · split at h
          · exact hk _ h
          · exact h.elim
        · split at h
          · split at h
            · exact hk _ h
            · exact h.elim
          · exact h.elim
        · split at h
          · obtain ⟨h1, e, h2, h⟩ := h
            refine ⟨h1, e, h2, ?_⟩
            split at h
            · exact hk _ h
            · exact h.elim
          · exact h.elim
        · exact h.elim
    have gen : ∀ (rs : List ResultVar) {K K' : List AV → Prop}, (∀ vs, K vs → K' vs) → resW P ⟨lk e, h⟩ rs K → resW P ⟨lk e, h⟩ rs K' := by
      intro rs
      induction rs with
      | nil => intro K K' hk hr; exact hk _ hr
      | cons r rs ih =>
        intro K K' hk hr
        cases r with
        | tmp t => exact mono (fun v hv => ih (fun vs h => hk _ h) hv) hr
        | cell a ty => exact mono (fun v hv => loadm (fun v' hv' => ih (fun vs h => hk _ h) hv') hv) hr
    exact gen rs fin
  cases x with
  | normal =>
    obtain ⟨h', hq, hC⟩ := hC.unhole hF hq
    exact ⟨_, hC, key h' hq⟩
  | ret =>
    obtain ⟨h', hq, hC⟩ := hC.unhole hF hq
    exact ⟨_, hC, key h' hq⟩
  | _ => exact ⟨_, hC, hq⟩
end
end Go.Av
namespace Go.Av
open Go.RowKit
structure Is (vs : List AV) (hs : List OB) (rs : List AV) (ho : List OB) : Prop where
  res : rs = vs
  heap : ho = hs
section
variable {P : Program} [Kn P] {st : St} {f : FuncId} {vs : List AV}
theorem seqW_mono {α β : Type} {f : α → (β → Prop) → Prop} (hf : ∀ (a : α) (K K' : β → Prop), (∀ b, K b → K' b) → f a K → f a K') : ∀ {l : List α} {K K' : List β → Prop}, (∀ b, K b → K' b) → seqW f l K → seqW f l K'
  | [], _, _, hk, h => hk _ h
  | a :: r, _, _, hk, h => hf a _ _ (fun b hb => seqW_mono hf (l := r) (fun bs => hk (b :: bs)) hb) h
theorem pvW_mono {heap : List OB} {ids : List Nat} : ∀ (d : Nat) (a : AV) (K K' : PV → Prop), (∀ p, K p → K' p) → pvW heap ids d a K → pvW heap ids d a K'
  | 0, _, _, _, _, h => h.elim
  | d + 1, a, K, K', hk, h => by
    unfold pvW at h ⊢
    split at h
    · exact hk _ h
    · refine ⟨h.1, ?_⟩
      have h := h.2
      split at h
      · exact seqW_mono (pvW_mono d) (fun b => hk _) h
      · exact h.elim
    · refine ⟨h.1, ?_⟩
      have h := h.2
      split at h
      · exact let ⟨a, e, b, c⟩ := h; ⟨a, e, b, hk _ c⟩
      · exact h.elim
    · refine ⟨h.1, ?_⟩
      have h := h.2
      split at h
      · exact let ⟨a, e, b, c⟩ := h; ⟨a, e, b, hk _ c⟩
      · exact let ⟨a, e, b, c⟩ := h; ⟨a, e, b, hk _ c⟩
      · exact h.elim
    · exact ⟨h.1, hk _ h.2⟩
    · exact seqW_mono (pvW_mono d) (fun b => hk _) h
    · exact seqW_mono (pvW_mono d) (fun b => hk _) h
    · exact h.elim
theorem convW1_mono {heap : List OB} {ids : List Nat} {lend : Bool} (a : AV) (K K' : AV → Prop) (hk : ∀ v, K v → K' v) (h : convW1 heap ids lend a K) : convW1 heap ids lend a K' := by
  unfold convW1 at h ⊢
  split at h
  · exact hk _ h
  · exact hk _ h
  · split at h
    · exact hk _ h
    · exact ⟨h.1, pvW_mono _ _ _ _ (fun p => hk _) h.2⟩
  · split at h
    · exact hk _ h
    · exact ⟨h.1, pvW_mono _ _ _ _ (fun p => hk _) h.2⟩
  · split at h
    · exact hk _ h
    · exact ⟨h.1, pvW_mono _ _ _ _ (fun p => hk _) h.2⟩
  · split at h
    · exact hk _ h
    · exact ⟨h.1, pvW_mono _ _ _ _ (fun p => hk _) h.2⟩
  · exact ⟨h.1, pvW_mono _ _ _ _ (fun p => hk _) h.2⟩
  · exact ⟨h.1, pvW_mono _ _ _ _ (fun p => hk _) h.2⟩
  · exact hk _ h
  · exact h.elim
theorem convW_mono {heap : List OB} {ids : List Nat} {lend : Bool} (a : AV) (K K' : AV → Prop) (hk : ∀ v, K v → K' v) (h : convW heap ids lend a K) : convW heap ids lend a K' := by
  unfold convW at h ⊢
  split at h
  · split at h
    · exact seqW_mono convW1_mono (fun b => hk _) h
    · exact convW1_mono _ _ _ hk h
  · split at h
    · exact seqW_mono convW1_mono (fun b => hk _) h
    · exact convW1_mono _ _ _ hk h
  · exact convW1_mono _ _ _ hk h
theorem convOB_mono {heap : List OB} {ids : List Nat} {lend : Bool} (a : OB) (K K' : OB → Prop) (hk : ∀ v, K v → K' v) (h : convOB heap ids lend a K) : convOB heap ids lend a K' := by
  unfold convOB at h ⊢
  split at h
  · exact h.elim
  · exact seqW_mono convW_mono (fun b => hk _) h
  · exact hk _ h
  · exact hk _ h
  · exact hk _ h
  · exact hk _ h
  · exact hk _ h
  · exact h.elim
def memB : List Nat → Nat → Bool
  | [], _ => true
  | k :: r, n => Nat.blt k n && memB r n
theorem memB_spec : ∀ {l : List Nat} {n : Nat}, memB l n = true → ∀ k ∈ l, k < n
  | [], _, _ => fun k hk => absurd hk List.not_mem_nil
  | a :: r, n, h => by
    simp only [memB, Bool.and_eq_true] at h
    intro k hk
    rcases List.mem_cons.1 hk with rfl | hk
    · simpa using h.1
    · exact memB_spec h.2 k hk
inductive ArgF (n : Nat) (P : Program) [Kn P] (f : FuncId) (args : List AV) (hin : List OB) (K : List AV → List OB → Prop) : Prop
  | mk (R : List AV → List OB → Prop) (h : FnSem P f args hin R) (k : ∀ rs ho, R rs ho → n ≤ ho.length → K rs ho)
theorem ArgF.is {n : Nat} {P : Program} [Kn P] {f : FuncId} {args : List AV} {hin : List OB} {K : List AV → List OB → Prop} {rs : List AV} {ho : List OB} (h : FnSem P f args hin (Is rs ho)) (k : K rs ho) : ArgF n P f args hin K :=
  ⟨_, h, fun rs' ho' hR _ => by obtain ⟨rfl, rfl⟩ := hR; exact k⟩
theorem ArgQ.is {G : Bool} {P : Program} [Kn P] {f : FuncId} {args : List AV} {K : AV → Prop} {rs : List AV} {v : AV} {u : Value} {ho : List OB} (h : G = true → FnSem P f args [] (Is rs ho)) (hr : retAV rs = v) (hv : exactV v = some u) (k : K v) : ArgQ G P f args K :=
  ⟨rs, v, u, fun hG => (h hG).mono fun _ _ hR => hR.res, hr, hv, k⟩
theorem CallW.is {K : AV → List OB → Prop} (ids : List Nat) (lend : Bool) (hn : (nodupB ids && memB ids st.heap.length) = true)
    (h : seqW (convW st.heap ids lend) vs fun args => seqW (convOB st.heap ids lend) (ids.map fun k => st.heap.getD k .dead) fun hin => ArgF ids.length P f args hin fun rs ho => K (renA (impG ids st.heap.length) (impF lend) (retAV rs)) (heapBack lend ids st.heap ho)) : CallW P st f vs K := by
  simp only [Bool.and_eq_true] at hn
  refine ⟨ids, lend, false, nodupB_spec hn.1, memB_spec hn.2, seqW_mono convW_mono (fun args => seqW_mono convOB_mono fun hin ha => ?_) h⟩
  obtain ⟨R, h1, h2⟩ := ha
  exact ⟨R, h1, h2⟩
theorem CallW.isN {K : AV → List OB → Prop} (ids : List Nat) (lend : Bool) (hn : (nodupB ids && memB ids st.heap.length) = true)
    (h : seqW (convW st.heap ids lend) vs fun args => seqW (convOB st.heap ids lend) (ids.map fun k => st.heap.getD k .dead) fun hin => ArgF ids.length P f args hin fun rs ho => K (renA (impG ids st.heap.length) (impF lend) (retAV rs)) (heapBackN true lend ids st.heap ho)) : CallW P st f vs K := by
  simp only [Bool.and_eq_true] at hn
  refine ⟨ids, lend, true, nodupB_spec hn.1, memB_spec hn.2, seqW_mono convW_mono (fun args => seqW_mono convOB_mono fun hin ha => ?_) h⟩
  obtain ⟨R, h1, h2⟩ := ha
  exact ⟨R, h1, h2⟩
def wfN : Nat → PV → Prop
  | 0, _ => True
  | _ + 1, .c v => wfV v
  | d + 1, .lst _ es => es.length ≤ maxLen ∧ ∀ e ∈ es, ∀ p ∈ e, wfN d p
  | d + 1, .agg cs => ∀ p ∈ cs, wfN d p
  | d + 1, .ref cs => ∀ p ∈ cs, wfN d p
  | d + 1, .fn _ cs => ∀ p ∈ cs, wfN d p
  | _ + 1, .junk => True
theorem wfN_of_rel {S : Nat → Prop} {w : World} {p : PV} {u : Value} (h : Rel S w p u) : ∀ d, wfN d p := by
  induction h with
  | c hv h1 => intro d; cases d <;> trivial
  | junk h1 => intro d; cases d <;> trivial
  | @lst z es a n cap hn hc hm ad ha hSS hl f hc1 h1 hr ih =>
    intro d
    cases d with
    | zero => trivial
    | succ d =>
      refine ⟨by omega, fun e he p hp => ?_⟩
      obtain ⟨i, hi⟩ := List.getElem?_of_mem he
      obtain ⟨j, hj⟩ := List.getElem?_of_mem hp
      exact ih i j e p hi hj d
  | @agg cells arr hs h1 hr ih =>
    intro d
    cases d with
    | zero => trivial
    | succ d =>
      intro p hp
      obtain ⟨j, hj⟩ := List.getElem?_of_mem hp
      have hlt : j < arr.size := by rw [hs]; exact (List.getElem?_eq_some_iff.1 hj).1
      exact ih j p _ hj (Array.getElem?_eq_getElem hlt) d
  | @ref cells ad hSS f hc1 h1 hr ih =>
    intro d
    cases d with
    | zero => trivial
    | succ d =>
      intro p hp
      obtain ⟨j, hj⟩ := List.getElem?_of_mem hp
      exact ih j p hj d
  | @fn f caps arr hs hr ih =>
    intro d
    cases d with
    | zero => trivial
    | succ d =>
      intro p hp
      obtain ⟨j, hj⟩ := List.getElem?_of_mem hp
      have hlt : j < arr.size := by rw [hs]; exact (List.getElem?_eq_some_iff.1 hj).1
      exact ih j p _ hj (Array.getElem?_eq_getElem hlt) d
def wfA : AV → Prop
  | .p _ v => wfN 4 v
  | _ => True
def wfO : OB → Prop
  | .row _ _ _ es => es.length ≤ maxLen ∧ ∀ e ∈ es, ∀ p ∈ e, wfN 4 p
  | .rows _ _ _ es none => es.length ≤ maxLen ∧ ∀ e ∈ es, e.length ≤ maxLen ∧ ∀ c ∈ e, ∀ p ∈ c, wfN 4 p
  | _ => True
def wfAs : List AV → Prop
  | [] => True
  | a :: r => wfA a ∧ wfAs r
theorem wfAs_of : ∀ {l : List AV}, (∀ a ∈ l, wfA a) → wfAs l
  | [], _ => trivial
  | a :: _, h => ⟨h a (List.mem_cons_self ..), wfAs_of fun b hb => h b (List.mem_cons_of_mem _ hb)⟩
def wfOs : List OB → Prop
  | [] => True
  | a :: r => wfO a ∧ wfOs r
theorem wfOs_of : ∀ {l : List OB}, (∀ a ∈ l, wfO a) → wfOs l
  | [], _ => trivial
  | a :: _, h => ⟨h a (List.mem_cons_self ..), wfOs_of fun b hb => h b (List.mem_cons_of_mem _ hb)⟩
theorem FnSem.of_wf {args : List AV} {hin : List OB} {R : List AV → List OB → Prop} (hc : callable P f = true) (h : (∀ a ∈ args, wfA a) → (∀ ob ∈ hin, wfO ob) → FnSem P f args hin R) : FnSem P f args hin R := by
  refine ⟨hc, fun w vals pl A hA hkn he => (h (fun a ha => ?_) (fun ob ho => ?_)).2 w vals pl A hA hkn he⟩
  · obtain ⟨j, hj⟩ := List.getElem?_of_mem ha
    have hlt : j < vals.size := by rw [he.size]; exact (List.getElem?_eq_some_iff.1 hj).1
    have := he.args j a _ hj (Array.getElem?_eq_getElem hlt)
    cases a with
    | p fl v => exact wfN_of_rel this.pinv 4
    | _ => trivial
  · obtain ⟨k, hk⟩ := List.getElem?_of_mem ho
    have := he.heap k ob hk
    cases ob with
    | row nw fl z es =>
      obtain ⟨g1, g2, g3, g4, g5, g6⟩ := this
      refine ⟨by omega, fun e hm p hp => ?_⟩
      obtain ⟨i, hi⟩ := List.getElem?_of_mem hm
      obtain ⟨j, hj⟩ := List.getElem?_of_mem hp
      have hlt := (List.getElem?_eq_some_iff.1 hi).1
      obtain ⟨ty, arr, q1, q2, q3⟩ := g6 (by omega)
      obtain ⟨u, r1, r2, r3⟩ := q3 i j e p hi hj
      exact wfN_of_rel r3 4
    | rows nw fl z es hole =>
      cases hole with
      | some q => trivial
      | none =>
        have this : RowsRel pl hin.length (Sany A w.heap.size pl hin w) (Fresh w.heap.size pl hin w) w (pl k) fl z es none := this
        refine ⟨Nat.le_trans this.len this.cap, fun e hm => ?_⟩
        obtain ⟨i, hi⟩ := List.getElem?_of_mem hm
        have hlt := (List.getElem?_eq_some_iff.1 hi).1
        have hlt2 : i < (pl k).inn.length := by rw [this.inn]; exact hlt
        have hq := List.getElem?_eq_getElem hlt2
        obtain ⟨g1, g2, g3, g4, g5, g6⟩ := this.row i e _ hi hq (by simp)
        refine ⟨by omega, fun c hc p hp => ?_⟩
        obtain ⟨i', hi'⟩ := List.getElem?_of_mem hc
        obtain ⟨j, hj⟩ := List.getElem?_of_mem hp
        have hlt' := (List.getElem?_eq_some_iff.1 hi').1
        obtain ⟨ty, arr, q1, q2, q3⟩ := g6 (by omega)
        obtain ⟨u, r1, r2, r3⟩ := q3 i' j c p hi' hj
        exact wfN_of_rel r3 4
    | _ => trivial
theorem FnSem.walk {zs : TypeId → List PV} {fn : Func} {c : Code} {res : Array ResultVar} {args : List AV} {hin : List OB} {R : List AV → List OB → Prop} (hm : P.follows .mixedOrders = true) (hf : P.funcs[f]? = some fn) (hb : fn.body = some c) (hres : fn.results = res) (hc : callable P f = true) (hN : Nat.ble args.length fn.ntmps = true) (hok : okCode fn.ntmps c = true)
    (h : wfAs args → wfOs hin → codeF P zs hin.length c (retF P res.toList hin.length R) (argE 0 args) hin) : FnSem P f args hin R :=
  FnSem.of_wf hc fun h1 h2 => FnSem.of_codeF (zs := zs) hm hf hb hc hN hok (by rw [hres]; exact h (wfAs_of h1) (wfOs_of h2))
theorem CallQ.is {rs : List AV} {v : AV} {u : Value} (h : seqW (convW st.heap [] true) vs fun args => FnSem P f args [] (Is rs [])) (hr : retAV rs = v) (hv : exactV v = some u) : CallQ P st f vs v := by
  exact ⟨u, hv, seqW_mono convW_mono (fun args ha => ha.mono fun rs' ho' hR => by obtain ⟨rfl, rfl⟩ := hR; exact hr) h⟩
end
def hasId : List Nat → Nat → Bool
  | [], _ => false
  | a :: r, k => Nat.beq a k || hasId r k
def snocId : List Nat → Nat → List Nat
  | [], k => [k]
  | a :: r, k => a :: snocId r k
def foldIds (f : AV → List Nat → List Nat) : List AV → List Nat → List Nat
  | [], acc => acc
  | v :: r, acc => foldIds f r (f v acc)
def idsA (h : List OB) : Nat → AV → List Nat → List Nat
  | 0, _, acc => acc
  | d + 1, v, acc => match v with
    | .own k _ => bif hasId acc k then acc else (match h[k]? with
      | some (.fix cells) => foldIds (idsA h d) cells (snocId acc k)
      | _ => snocId acc k)
    | .orow k _ _ => bif hasId acc k then acc else snocId acc k
    | .osl k _ _ => bif hasId acc k then acc else snocId acc k
    | .amap k => bif hasId acc k then acc else snocId acc k
    | .afn _ caps => foldIds (idsA h d) caps acc
    | .aagg cells => foldIds (idsA h d) cells acc
    | .tup vs => foldIds (idsA h d) vs acc
    | .opt _ v => idsA h d v acc
    | _ => acc
def rangeI : Nat → Nat → List Nat
  | 0, _ => []
  | n + 1, i => i :: rangeI n (i + 1)
def preIds (h : List OB) : List OB → Nat → List Nat → List Nat
  | _, 0, acc => acc
  | [], _, acc => acc
  | .fix cells :: r, n + 1, acc => preIds h r n (foldIds (idsA h 5) cells acc)
  | _ :: r, n + 1, acc => preIds h r n acc
def keepIds (m : Nat) (h : List OB) (vs : List AV) : List Nat := preIds h h m (foldIds (idsA h 6) vs (rangeI m 0))
def fKeep : List Nat → (List Nat → Prop) → Prop
  | [], K => K []
  | a :: r, K => fN a fun a => fKeep r fun r => K (a :: r)
theorem fKeep_eq : ∀ {l : List Nat} {K : List Nat → Prop}, fKeep l K → K l
  | [], _, h => h
  | a :: r, K, h => fKeep_eq (l := r) (K := fun r => K (a :: r)) (fNs_eq (K := fun a => fKeep r fun r => K (a :: r)) h)
def pickAt : List Nat → List AV → List AV
  | [], _ => []
  | i :: r, vs => (match vs[i]? with
    | some v => v :: pickAt r vs
    | none => pickAt r vs)
theorem CallF.own {P : Program} [Kn P] {st : St} {f : FuncId} {vs : List AV} {K : AV → List OB → Prop} (pos : List Nat) (lend : Bool)
    (h : fKeep (keepIds 0 st.heap (pickAt pos vs)) fun ids => (nodupB ids && memB ids st.heap.length) = true ∧
      seqW (convW st.heap ids lend) vs fun args => seqW (convOB st.heap ids lend) (ids.map fun k => st.heap.getD k .dead) fun hin => ArgF ids.length P f args hin fun rs ho => K (renA (impG ids st.heap.length) (impF lend) (retAV rs)) (heapBack lend ids st.heap ho)) : CallF P st f vs K := by
  obtain ⟨h1, h2⟩ := fKeep_eq h
  exact ⟨CallW.is _ lend h1 h2⟩
theorem CallF.ownN {P : Program} [Kn P] {st : St} {f : FuncId} {vs : List AV} {K : AV → List OB → Prop} (pos : List Nat) (lend : Bool)
    (h : fKeep (keepIds 0 st.heap (pickAt pos vs)) fun ids => (nodupB ids && memB ids st.heap.length) = true ∧
      seqW (convW st.heap ids lend) vs fun args => seqW (convOB st.heap ids lend) (ids.map fun k => st.heap.getD k .dead) fun hin => ArgF ids.length P f args hin fun rs ho => K (renA (impG ids st.heap.length) (impF lend) (retAV rs)) (heapBackN true lend ids st.heap ho)) : CallF P st f vs K := by
  obtain ⟨h1, h2⟩ := fKeep_eq h
  exact ⟨CallW.isN _ lend h1 h2⟩
def slotVals (e : En) : En → List AV
  | [] => []
  | (s, _) :: r => lk e s :: slotVals e r
def fitsK (keep : List Nat) (e : En) : En → Prop → Prop
  | [], K => K
  | (s, v) :: r, K => renA (expG keep) some (lk e s) = v ∧ fitsK keep e r K
theorem fitsK_eq {keep : List Nat} {e : En} : ∀ {e' : En} {K : Prop}, fitsK keep e e' K → fitsF keep e e' ∧ K
  | [], _, h => ⟨trivial, h⟩
  | (_, _) :: _, _, h => ⟨⟨h.1, (fitsK_eq h.2).1⟩, (fitsK_eq h.2).2⟩
def fitK (m : Nat) (e : En) (h : List OB) (e' : En) (h' : List OB) (K : Prop) : Prop :=
  fKeep (keepIds m h (slotVals e e')) fun keep => okKeep m keep h.length = true ∧ renHeap keep h = h' ∧ fitsK keep e e' K
theorem fitK.fit {m : Nat} {e : En} {h : List OB} {e' : En} {h' : List OB} {K : Prop} (f : fitK m e h e' h' K) : fitF m e h e' h' ∧ K := by
  obtain ⟨h1, h2, h3⟩ := fKeep_eq f
  obtain ⟨h4, h5⟩ := fitsK_eq h3
  exact ⟨⟨_, [], h1, h2, h4⟩, h5⟩
def fixVals (e : En) : List Nat → List AV → List AV
  | [], l => l
  | s :: r, l => lk e s :: fixVals e r l
def fixE (keep : List Nat) (e : En) : List Nat → En
  | [] => []
  | s :: r => (s, renA (expG keep) some (lk e s)) :: fixE keep e r
def appE : En → En → En
  | [], b => b
  | x :: r, b => x :: appE r b
theorem fitsF_fix {keep : List Nat} {e e' : En} (h : fitsF keep e e') : ∀ fix : List Nat, fitsF keep e (appE (fixE keep e fix) e')
  | [] => h
  | _ :: r => ⟨rfl, fitsF_fix h r⟩
inductive LoopB (p r : Prop) : Prop
  | mk (h : p) (k : r)
theorem LoopB.of {T : Type} {p : Prop} {r : T → Prop} (h : p) (k : ∀ t, r t) : LoopB p (∀ t, r t) := ⟨h, k⟩
inductive BackB (p l : Prop) : Prop
  | mk (h : p) (k : l)
def setOB : List OB → Nat → OB → List OB
  | [], _, _ => []
  | _ :: r, 0, ob => ob :: r
  | a :: r, n + 1, ob => a :: setOB r n ob
def ovr : List OB → List (Nat × OB) → List OB
  | h, [] => h
  | h, (i, ob) :: r => ovr (setOB h i ob) r
theorem LoopF.fix {m : Nat} {body : (Exit → En → List OB → Prop) → En → List OB → Prop} {Q : Exit → En → List OB → Prop} {e : En} {h : List OB} (fix : List Nat) (T : Type) (Pre : T → Prop) (sl : T → En) (mods : T → List (Nat × OB)) (μ : T → Nat) (t : T)
    (f : fKeep (keepIds m h (fixVals e fix (slotVals e (sl t)))) fun keep => okKeep m keep h.length = true ∧ renHeap keep h = ovr (renHeap keep h) (mods t) ∧ fitsK keep e (sl t) (LoopB (Pre t)
      (∀ t, Pre t → fE (appE (fixE keep e fix) (sl t)) fun e' => fH (ovr (renHeap keep h) (mods t)) fun h' => body (thenF (fun e' h' => BackU m Pre (fun t => appE (fixE keep e fix) (sl t)) (fun t => ovr (renHeap keep h) (mods t)) μ (μ t) e' h') Q) e' h'))) : LoopF m body Q e h := by
  obtain ⟨h1, h2, h3⟩ := fKeep_eq f
  obtain ⟨h4, h5, h6⟩ := fitsK_eq h3
  exact LoopF.mk T Pre _ (fun t => ovr (renHeap _ h) (mods t)) μ (FitF.mk t h5 ⟨_, [], h1, h2, fitsF_fix h4 fix⟩) h6
theorem LoopF.fixw {m : Nat} {body : (Exit → En → List OB → Prop) → En → List OB → Prop} {Q : Exit → En → List OB → Prop} {e : En} {h : List OB} (ws fix : List Nat) (T : Type) (Pre : T → Prop) (sl : T → En) (mods : T → List (Nat × OB)) (μ : T → Nat) (t : T)
    (f : fKeep (keepIds m h (fixVals e fix (slotVals e (sl t)))) fun keep => okKeep m keep h.length = true ∧ wkL ws (renHeap keep h) = ovr (wkL ws (renHeap keep h)) (mods t) ∧ fitsK keep e (sl t) (LoopB (Pre t)
      (∀ t, Pre t → fE (appE (fixE keep e fix) (sl t)) fun e' => fH (ovr (wkL ws (renHeap keep h)) (mods t)) fun h' => body (thenF (fun e' h' => BackU m Pre (fun t => appE (fixE keep e fix) (sl t)) (fun t => ovr (wkL ws (renHeap keep h)) (mods t)) μ (μ t) e' h') Q) e' h'))) : LoopF m body Q e h := by
  obtain ⟨h1, h2, h3⟩ := fKeep_eq f
  obtain ⟨h4, h5, h6⟩ := fitsK_eq h3
  exact LoopF.mk T Pre _ (fun t => ovr (wkL ws (renHeap _ h)) (mods t)) μ (FitF.mk t h5 ⟨_, ws, h1, h2, fitsF_fix h4 fix⟩) h6
theorem BackF.auto {T : Type} {m : Nat} {Pre : T → Prop} {sl : T → En} {hp : T → List OB} {μ : T → Nat} {n : Nat} {e : En} {h : List OB} (t : T) (f : fitK m e h (sl t) (hp t) (BackB (Pre t) (μ t < n))) : BackF m Pre sl hp μ n e h := by
  obtain ⟨h1, h2, h3⟩ := f.fit
  exact BackF.mk t h2 h3 h1
theorem BackF.auto2 {A B : Type} {m : Nat} {Pre : A × B → Prop} {sl : A × B → En} {hp : A × B → List OB} {μ : A × B → Nat} {n : Nat} {e : En} {h : List OB} (x0 : A) (x1 : B) (f : fitK m e h (sl (x0, x1)) (hp (x0, x1)) (BackB (Pre (x0, x1)) (μ (x0, x1) < n))) : BackF m Pre sl hp μ n e h := BackF.auto (x0, x1) f
theorem BackF.auto3 {A B C : Type} {m : Nat} {Pre : A × B × C → Prop} {sl : A × B × C → En} {hp : A × B × C → List OB} {μ : A × B × C → Nat} {n : Nat} {e : En} {h : List OB} (x0 : A) (x1 : B) (x2 : C) (f : fitK m e h (sl (x0, x1, x2)) (hp (x0, x1, x2)) (BackB (Pre (x0, x1, x2)) (μ (x0, x1, x2) < n))) : BackF m Pre sl hp μ n e h := BackF.auto (x0, x1, x2) f
theorem BackF.auto4 {A B C D : Type} {m : Nat} {Pre : A × B × C × D → Prop} {sl : A × B × C × D → En} {hp : A × B × C × D → List OB} {μ : A × B × C × D → Nat} {n : Nat} {e : En} {h : List OB} (x0 : A) (x1 : B) (x2 : C) (x3 : D) (f : fitK m e h (sl (x0, x1, x2, x3)) (hp (x0, x1, x2, x3)) (BackB (Pre (x0, x1, x2, x3)) (μ (x0, x1, x2, x3) < n))) : BackF m Pre sl hp μ n e h := BackF.auto (x0, x1, x2, x3) f
theorem BackF.auto5 {A B C D E : Type} {m : Nat} {Pre : A × B × C × D × E → Prop} {sl : A × B × C × D × E → En} {hp : A × B × C × D × E → List OB} {μ : A × B × C × D × E → Nat} {n : Nat} {e : En} {h : List OB} (x0 : A) (x1 : B) (x2 : C) (x3 : D) (x4 : E) (f : fitK m e h (sl (x0, x1, x2, x3, x4)) (hp (x0, x1, x2, x3, x4)) (BackB (Pre (x0, x1, x2, x3, x4)) (μ (x0, x1, x2, x3, x4) < n))) : BackF m Pre sl hp μ n e h := BackF.auto (x0, x1, x2, x3, x4) f
theorem BackF.auto6 {A B C D E G : Type} {m : Nat} {Pre : A × B × C × D × E × G → Prop} {sl : A × B × C × D × E × G → En} {hp : A × B × C × D × E × G → List OB} {μ : A × B × C × D × E × G → Nat} {n : Nat} {e : En} {h : List OB} (x0 : A) (x1 : B) (x2 : C) (x3 : D) (x4 : E) (x5 : G) (f : fitK m e h (sl (x0, x1, x2, x3, x4, x5)) (hp (x0, x1, x2, x3, x4, x5)) (BackB (Pre (x0, x1, x2, x3, x4, x5)) (μ (x0, x1, x2, x3, x4, x5) < n))) : BackF m Pre sl hp μ n e h := BackF.auto (x0, x1, x2, x3, x4, x5) f
theorem BackF.auto7 {A B C D E G H : Type} {m : Nat} {Pre : A × B × C × D × E × G × H → Prop} {sl : A × B × C × D × E × G × H → En} {hp : A × B × C × D × E × G × H → List OB} {μ : A × B × C × D × E × G × H → Nat} {n : Nat} {e : En} {h : List OB} (x0 : A) (x1 : B) (x2 : C) (x3 : D) (x4 : E) (x5 : G) (x6 : H) (f : fitK m e h (sl (x0, x1, x2, x3, x4, x5, x6)) (hp (x0, x1, x2, x3, x4, x5, x6)) (BackB (Pre (x0, x1, x2, x3, x4, x5, x6)) (μ (x0, x1, x2, x3, x4, x5, x6) < n))) : BackF m Pre sl hp μ n e h := BackF.auto (x0, x1, x2, x3, x4, x5, x6) f
theorem BackF.auto8 {A B C D E G H I : Type} {m : Nat} {Pre : A × B × C × D × E × G × H × I → Prop} {sl : A × B × C × D × E × G × H × I → En} {hp : A × B × C × D × E × G × H × I → List OB} {μ : A × B × C × D × E × G × H × I → Nat} {n : Nat} {e : En} {h : List OB} (x0 : A) (x1 : B) (x2 : C) (x3 : D) (x4 : E) (x5 : G) (x6 : H) (x7 : I) (f : fitK m e h (sl (x0, x1, x2, x3, x4, x5, x6, x7)) (hp (x0, x1, x2, x3, x4, x5, x6, x7)) (BackB (Pre (x0, x1, x2, x3, x4, x5, x6, x7)) (μ (x0, x1, x2, x3, x4, x5, x6, x7) < n))) : BackF m Pre sl hp μ n e h := BackF.auto (x0, x1, x2, x3, x4, x5, x6, x7) f
theorem SeqF.cutfix {m : Nat} {a b : (Exit → En → List OB → Prop) → En → List OB → Prop} {Q : Exit → En → List OB → Prop} {e : En} {h : List OB} (fix keep : List Nat) (T : Type) (Pre : T → Prop) (sl : T → En) (hp : T → List OB)
    (x : a (thenF (fun e' h' => FitU m Pre (fun t => appE (fixE keep e fix) (sl t)) hp e' h') Q) e h)
    (y : ∀ t, Pre t → fE (appE (fixE keep e fix) (sl t)) fun e => fH (hp t) fun h => b Q e h) : SeqF m a b Q e h :=
  SeqF.cut T Pre _ hp x y
theorem FitF.auto {T : Type} {m : Nat} {Pre : T → Prop} {sl : T → En} {hp : T → List OB} {e : En} {h : List OB} (t : T) (f : fitK m e h (sl t) (hp t) (BackB (Pre t) True)) : FitF m Pre sl hp e h := by
  obtain ⟨h1, h2, _⟩ := f.fit
  exact FitF.mk t h2 h1
theorem FitF.auto2 {A B : Type} {m : Nat} {Pre : A × B → Prop} {sl : A × B → En} {hp : A × B → List OB} {e : En} {h : List OB} (x0 : A) (x1 : B) (f : fitK m e h (sl (x0, x1)) (hp (x0, x1)) (BackB (Pre (x0, x1)) True)) : FitF m Pre sl hp e h := FitF.auto (x0, x1) f
theorem FitF.auto3 {A B C : Type} {m : Nat} {Pre : A × B × C → Prop} {sl : A × B × C → En} {hp : A × B × C → List OB} {e : En} {h : List OB} (x0 : A) (x1 : B) (x2 : C) (f : fitK m e h (sl (x0, x1, x2)) (hp (x0, x1, x2)) (BackB (Pre (x0, x1, x2)) True)) : FitF m Pre sl hp e h := FitF.auto (x0, x1, x2) f
theorem FitF.auto4 {A B C D : Type} {m : Nat} {Pre : A × B × C × D → Prop} {sl : A × B × C × D → En} {hp : A × B × C × D → List OB} {e : En} {h : List OB} (x0 : A) (x1 : B) (x2 : C) (x3 : D) (f : fitK m e h (sl (x0, x1, x2, x3)) (hp (x0, x1, x2, x3)) (BackB (Pre (x0, x1, x2, x3)) True)) : FitF m Pre sl hp e h := FitF.auto (x0, x1, x2, x3) f
theorem FitF.auto5 {A B C D E : Type} {m : Nat} {Pre : A × B × C × D × E → Prop} {sl : A × B × C × D × E → En} {hp : A × B × C × D × E → List OB} {e : En} {h : List OB} (x0 : A) (x1 : B) (x2 : C) (x3 : D) (x4 : E) (f : fitK m e h (sl (x0, x1, x2, x3, x4)) (hp (x0, x1, x2, x3, x4)) (BackB (Pre (x0, x1, x2, x3, x4)) True)) : FitF m Pre sl hp e h := FitF.auto (x0, x1, x2, x3, x4) f
theorem FitF.auto6 {A B C D E G : Type} {m : Nat} {Pre : A × B × C × D × E × G → Prop} {sl : A × B × C × D × E × G → En} {hp : A × B × C × D × E × G → List OB} {e : En} {h : List OB} (x0 : A) (x1 : B) (x2 : C) (x3 : D) (x4 : E) (x5 : G) (f : fitK m e h (sl (x0, x1, x2, x3, x4, x5)) (hp (x0, x1, x2, x3, x4, x5)) (BackB (Pre (x0, x1, x2, x3, x4, x5)) True)) : FitF m Pre sl hp e h := FitF.auto (x0, x1, x2, x3, x4, x5) f
theorem FitF.auto7 {A B C D E G H : Type} {m : Nat} {Pre : A × B × C × D × E × G × H → Prop} {sl : A × B × C × D × E × G × H → En} {hp : A × B × C × D × E × G × H → List OB} {e : En} {h : List OB} (x0 : A) (x1 : B) (x2 : C) (x3 : D) (x4 : E) (x5 : G) (x6 : H) (f : fitK m e h (sl (x0, x1, x2, x3, x4, x5, x6)) (hp (x0, x1, x2, x3, x4, x5, x6)) (BackB (Pre (x0, x1, x2, x3, x4, x5, x6)) True)) : FitF m Pre sl hp e h := FitF.auto (x0, x1, x2, x3, x4, x5, x6) f
theorem FitF.auto8 {A B C D E G H I : Type} {m : Nat} {Pre : A × B × C × D × E × G × H × I → Prop} {sl : A × B × C × D × E × G × H × I → En} {hp : A × B × C × D × E × G × H × I → List OB} {e : En} {h : List OB} (x0 : A) (x1 : B) (x2 : C) (x3 : D) (x4 : E) (x5 : G) (x6 : H) (x7 : I) (f : fitK m e h (sl (x0, x1, x2, x3, x4, x5, x6, x7)) (hp (x0, x1, x2, x3, x4, x5, x6, x7)) (BackB (Pre (x0, x1, x2, x3, x4, x5, x6, x7)) True)) : FitF m Pre sl hp e h := FitF.auto (x0, x1, x2, x3, x4, x5, x6, x7) f
theorem RetF.auto {m : Nat} {vs : List AV} {h : List OB} {R : List AV → List OB → Prop} (k : fKeep (keepIds m h vs) fun keep => okKeep m keep h.length = true ∧ seqW (fV 4) (renL (expG keep) some vs) fun vs => fH (renHeap keep h) fun ho => R vs ho) : RetF m vs h R := by
  obtain ⟨h1, h2⟩ := fKeep_eq k
  exact ⟨_, h1, h2⟩
def oldO : OB → OB
  | .row _ fl z es => .row false fl z es
  | .rows _ fl z es ho => .rows false fl z es ho
  | ob => ob
def oldL : List OB → List OB
  | [] => []
  | ob :: r => oldO ob :: oldL r
theorem oldL_eq (h : List OB) : oldL h = h.map oldO := by
  induction h with
  | nil => rfl
  | cons a r ih => simp [oldL, ih]
theorem owns_old {pl : Nat → Pl} {h : List OB} {k b : Nat} : owns pl (h.map oldO) k b ↔ owns pl h k b := by
  unfold owns
  rw [List.getElem?_map]
  cases h[k]? with
  | none => exact Iff.rfl
  | some ob => cases ob <;> exact Iff.rfl
theorem FnSem.old {P : Program} [Kn P] {f : FuncId} {args : List AV} {hin : List OB} {R : List AV → List OB → Prop} (h : FnSem P f args hin fun vs ho => R vs (oldL ho)) : FnSem P f args hin R := by
  refine ⟨h.1, fun w vals pl A hA hkn he => (h.2 w vals pl A hA hkn he).mono ?_⟩
  rintro e w' ⟨v, vs, ho, pl', rfl, hR, hB⟩
  rw [oldL_eq] at hR
  have hSt : ∀ w', Stab pl' (ho.map oldO) w' = Stab pl' ho w' := fun w' => funext fun b => propext ⟨fun h => ⟨h.1, fun k hk => h.2 k (owns_old.2 hk)⟩, fun h => ⟨h.1, fun k hk => h.2 k (owns_old.1 hk)⟩⟩
  have hS : ∀ B, Sany A B pl' (ho.map oldO) w' = Sany A B pl' ho w' := fun B => by unfold Sany; rw [hSt]
  have hFr : ∀ B, Fresh B pl' (ho.map oldO) w' = Fresh B pl' ho w' := fun B => by unfold Fresh; rw [hSt]
  have hl : (ho.map oldO).length = ho.length := List.length_map _
  refine ⟨v, vs, _, pl', rfl, hR, { os := hB.os, tape := hB.tape, output := hB.output, size := hB.size, frame := hB.frame, len := by rw [hl]; exact hB.len, io := hB.io, own := fun k b hk => hB.own k b (owns_old.1 hk), newb := fun k b hn hk => hB.newb k b ?_ (owns_old.1 hk), disj := fun k k' b h1 h2 => hB.disj k k' b (owns_old.1 h1) (owns_old.1 h2), heap := fun k ob hk => ?_, res := by rw [hS, hFr, hl]; exact hB.res }⟩
  · unfold isnew at hn ⊢
    rw [List.getElem?_map] at hn
    cases h : ho[k]? with
    | none => rw [h] at hn; exact hn
    | some ob => rw [h] at hn; cases ob <;> first | exact hn | cases hn
  · rw [hS, hFr, hl]
    rw [List.getElem?_map] at hk
    cases h : ho[k]? with
    | none => rw [h] at hk; cases hk
    | some ob =>
      rw [h] at hk
      cases hk
      have := hB.heap k ob h
      cases ob <;> exact this
def aggV : AV → AV
  | .aagg cs => mkAgg cs
  | v => v
def frzR (m : Nat) (R : List AV → List OB → Prop) (vs : List AV) (ho : List OB) : Prop :=
  ∃ v k ob, vs = [v] ∧ ho.length = k + 1 ∧ m ≤ k ∧ ho[k]? = some ob ∧ fzOk ob = true ∧ fzV k ob 4 v fun v' => R [renA (expG (List.range k)) some (aggV v')] (renHeap (List.range k) (ho.set k .dead))
theorem FnSem.frz {P : Program} [Kn P] {f : FuncId} {args : List AV} {hin : List OB} {R : List AV → List OB → Prop} (h : FnSem P f args hin (frzR hin.length R)) : FnSem P f args hin R := by
  refine ⟨h.1, fun w vals pl A hA hkn he => (h.2 w vals pl A hA hkn he).mono ?_⟩
  rintro e w' ⟨u, vs, ho, pl', rfl, ⟨v, k, ob, rfl, hl, hm, hk, hob, hfz⟩, hB⟩
  have hC : ConcP 1 hin.length (Stab pl hin w) A w ⟨fun s => if s = 0 then v else .junk, ho⟩ pl' { tmps := #[u], defers := [] } w' :=
    { defers := rfl, size := rfl, os := hB.os, tape := hB.tape, output := hB.output, hsize := hB.size, frame := hB.frame, ownlt := fun k b hk => (hB.own k b hk).1, ownF := fun k b hk => (hB.own k b hk).2, newb := hB.newb, disj := hB.disj, heap := hB.heap
      env := fun s => by
        show RelA _ _ _ _ _ (if s = 0 then v else AV.junk) _
        by_cases hs : s = 0
        · subst hs; exact hB.res
        · rw [if_neg hs]; exact .junk }
  obtain ⟨hS, hFr, hFS, hown⟩ := frz1 hC hk hob
  obtain ⟨v', hR, hv⟩ := fzV_sound hC hk hob hS hFr hFS hown 4 v _ hfz
  have hagg : ∀ u, RelA pl' ho.length (Sany A w.heap.size pl' (ho.set k .dead) w') (Fresh w.heap.size pl' (ho.set k .dead) w') w' v' u → RelA pl' ho.length (Sany A w.heap.size pl' (ho.set k .dead) w') (Fresh w.heap.size pl' (ho.set k .dead) w') w' (aggV v') u := by
    intro u hu
    cases v' with
    | aagg cs =>
      cases hu with
      | @aagg _ arr hs h1 hr => exact relA_mkAgg hFS hs h1 hr
    | _ => exact hu
  have hC2 := hC.freeze (env' := fun s => if s = 0 then aggV v' else .junk) (h' := ho.set k .dead) hk hob (by simp) (R := fun a b => ∀ u, RelA pl' ho.length (Sany A w.heap.size pl' ho w') (Fresh w.heap.size pl' ho w') w' a u → RelA pl' ho.length (Sany A w.heap.size pl' (ho.set k .dead) w') (Fresh w.heap.size pl' (ho.set k .dead) w') w' b u)
    (fun a b hab => hab) (fun i o o' h1 h2 => by
      rw [h1] at h2
      cases h2
      cases o with
      | fix cs =>
        refine ⟨cs, rfl, rfl, fun j c c' hj hj' u hu => ?_⟩
        rw [hj] at hj'
        cases hj'
        exact hu.mono (Nat.le_refl _) (fun _ _ => Pl.Base.refl _) hS hFr (fun _ _ => rfl) (fun _ _ => rfl)
      | _ => rfl) (fun s u hu => by
      by_cases hs : s = 0
      · subst hs; exact hagg u (hv u hu)
      · simp only [if_neg hs]; exact .junk)
  have hkl : k < ho.length := by omega
  have hC3 := hC2.rename (List.range k) (by rw [List.take_range, Nat.min_eq_left hm]) List.nodup_range (fun i hi => by simp only [List.length_set]; have := List.mem_range.1 hi; omega)
  refine ⟨u, _, _, _, rfl, hR, { os := hC3.os, tape := hC3.tape, output := hC3.output, size := hC3.hsize, frame := hC3.frame, len := by simp [renHeap]; exact hm, io := fun i hi => ?_, own := fun i b hi => ⟨hC3.ownlt i b hi, hC3.ownF i b hi⟩, newb := hC3.newb, disj := hC3.disj, heap := hC3.heap, res := hC3.env 0 }⟩
  rw [renPl_get (k := i) (by rw [List.getElem?_range (by omega)])]
  exact hB.io i hi
end Go.Av
namespace Go.Av
open Go.RowKit
inductive Sh where
  | ik (k : IntKind)
  | bb
  | ss
  | sl (e : List Sh)
def zSh : Sh → PV
  | .ik k => .c (.int k 0)
  | .bb => .c (.bool false)
  | .ss => .c (.string ⟨#[]⟩)
  | .sl _ => .c (.slice none 0 0)
inductive Fit : Sh → PV → Prop
  | ik (k : IntKind) (n : Int) : Fit (.ik k) (.c (.int k n))
  | bb (x : Bool) : Fit .bb (.c (.bool x))
  | ss (x : ByteArray) : Fit .ss (.c (.string x))
  | sl {l : List Sh} {es : List (List PV)} (hl : ∀ e ∈ es, e.length = l.length) (h : ∀ e ∈ es, ∀ (j : Nat) (p : PV) (s : Sh), e[j]? = some p → l[j]? = some s → Fit s p) : Fit (.sl l) (.lst (l.map zSh) es)
def shMap (f : TypeId → Option (List Sh)) : List Field → Option (List Sh)
  | [] => some []
  | x :: r => match f x.type with
    | some a => (match shMap f r with
      | some b => some (a ++ b)
      | none => none)
    | none => none
def shOf (P : Program) [Kn P] : Nat → TypeId → Option (List Sh)
  | 0, _ => none
  | n + 1, t => match P.underlying t with
    | some (.int k) => some [.ik k]
    | some .bool => some [.bb]
    | some .string => some [.ss]
    | some (.slice e) => (match shOf P n e with
      | some l => some [.sl l]
      | none => none)
    | some (.struct fs) => shMap (shOf P n) fs.toList
    | _ => none
inductive RdL (w : World) : List Sh → List PV → List Value → Prop
  | nil : RdL w [] [] []
  | cons {s : Sh} {p : PV} {c : Value} {ss : List Sh} {ps : List PV} {cs : List Value} (hf : Fit s p) (hr : Rel (fun b => b < w.heap.size) w p c) (h1 : c.oneCell' = true) (h : RdL w ss ps cs) : RdL w (s :: ss) (p :: ps) (c :: cs)
theorem RdL.append {w : World} {ss ss' : List Sh} {ps ps' : List PV} {cs cs' : List Value} (h : RdL w ss ps cs) (h' : RdL w ss' ps' cs') : RdL w (ss ++ ss') (ps ++ ps') (cs ++ cs') := by
  induction h with
  | nil => exact h'
  | cons hf hr h1 _ ih => exact .cons hf hr h1 ih
theorem RdL.len {w : World} {ss : List Sh} {ps : List PV} {cs : List Value} (h : RdL w ss ps cs) : ps.length = ss.length ∧ cs.length = ss.length := by
  induction h with
  | nil => exact ⟨rfl, rfl⟩
  | cons _ _ _ _ ih => simp [ih.1, ih.2]
theorem RdL.fit {w : World} {ss : List Sh} {ps : List PV} {cs : List Value} (h : RdL w ss ps cs) : ∀ (j : Nat) (p : PV) (s : Sh), ps[j]? = some p → ss[j]? = some s → Fit s p := by
  induction h with
  | nil => intro j p s h; simp at h
  | cons hf _ _ _ ih =>
    intro j p s hp hs
    cases j with
    | zero => simp at hp hs; subst hp hs; exact hf
    | succ j => exact ih j p s (by simpa using hp) (by simpa using hs)
theorem RdL.rel {w : World} {ss : List Sh} {ps : List PV} {cs : List Value} (h : RdL w ss ps cs) : ∀ (j : Nat) (p : PV) (c : Value), ps[j]? = some p → cs[j]? = some c → Rel (fun b => b < w.heap.size) w p c ∧ c.oneCell' = true := by
  induction h with
  | nil => intro j p s h; simp at h
  | cons _ hr h1 _ ih =>
    intro j p s hp hs
    cases j with
    | zero => simp at hp hs; subst hp hs; exact ⟨hr, h1⟩
    | succ j => exact ih j p s (by simpa using hp) (by simpa using hs)
theorem wf_lit {k : IntKind} {n : Int} (h : (Lit.int k n).wf = true) : wfV (.int k n) := by
  refine (wrap_eq_iff k n).2 ?_
  simp only [Lit.wf, Bool.and_eq_true, decide_eq_true_eq] at h
  cases k <;> simpa [kmin, kmax, IntKind.min, IntKind.max, IntKind.signed, IntKind.bits] using h
theorem pick_list {α : Type} {Q : Nat → α → Prop} : ∀ (n : Nat), (∀ i, i < n → ∃ e, Q i e) → ∃ es : List α, es.length = n ∧ ∀ i e, es[i]? = some e → Q i e
  | 0, _ => ⟨[], rfl, fun i e h => by simp at h⟩
  | n + 1, h => by
    obtain ⟨es, hl, hq⟩ := pick_list n (fun i hi => h i (by omega))
    obtain ⟨e, he⟩ := h n (by omega)
    refine ⟨es ++ [e], by simp [hl], fun i x hx => ?_⟩
    rw [List.getElem?_append] at hx
    split at hx
    · exact hq i x hx
    · have : i = n := by
        have := (List.getElem?_eq_some_iff.1 hx).1
        simp at this; omega
      subst this
      rw [hl] at hx
      simp at hx
      subst hx
      exact he
section
variable {H : Type} {enc : TypeId × Value → H} {P : Program} [Kn P] {w : World} {spare : Nat → Bool} {held : Bool}
theorem read_struct {n : Nat} (ih : ∀ (t : TypeId) (l : List Sh), t < P.types.size → shOf P n t = some l → ∀ (fuel : Nat) (cs : List Value) (x : DataW H × List MemPlace), DataW.trod enc P w 0 spare held fuel t cs = some x → ∃ ps, RdL w l ps cs) :
    ∀ (fl : List Field) (l : List Sh) (o : Nat) (cs : List Value), shMap (shOf P n) fl = some l → (∀ f ∈ fl, f.type < P.types.size) →
      (∀ (j : Nat) f, fl[j]? = some f → f.offset = o + ((fl.take j).map fun f => P.cellsOf f.type).sum) → cs.length = (fl.map fun f => P.cellsOf f.type).sum →
      (∀ f ∈ fl, ∃ fuel x, DataW.trod enc P w 0 spare held fuel f.type ((cs.drop (f.offset - o)).take (P.cellsOf f.type)) = some x) → ∃ ps, RdL w l ps cs
  | [], l, o, cs, hs, _, _, hl, _ => by
    simp [shMap] at hs
    subst hs
    have : cs = [] := by simpa using hl
    subst this
    exact ⟨[], .nil⟩
  | f :: r, l, o, cs, hs, ht, ho, hl, hr => by
    simp only [shMap] at hs
    split at hs
    case h_2 => cases hs
    rename_i a ha
    split at hs
    case h_2 => cases hs
    rename_i b hb
    cases hs
    have ho0 : f.offset = o := by simpa using ho 0 f rfl
    obtain ⟨fuel, x, hx⟩ := hr f (by simp)
    rw [ho0] at hx
    simp only [Nat.sub_self, List.drop_zero] at hx
    obtain ⟨ps, h1⟩ := ih f.type a (ht f (by simp)) ha fuel _ x hx
    have hl' : cs.length = P.cellsOf f.type + (r.map fun f => P.cellsOf f.type).sum := by simpa using hl
    obtain ⟨ps', h2⟩ := read_struct ih r b (o + P.cellsOf f.type) (cs.drop (P.cellsOf f.type)) hb (fun g hg => ht g (by simp [hg]))
      (fun j g hg => by
        have := ho (j + 1) g (by simpa using hg)
        simp only [List.take_succ_cons, List.map_cons, List.sum_cons] at this
        omega) (by rw [List.length_drop]; omega)
      (fun g hg => by
        obtain ⟨fuel, x, hx⟩ := hr g (by simp [hg])
        obtain ⟨j, hj⟩ := List.getElem?_of_mem hg
        have := ho (j + 1) g (by simpa using hj)
        simp only [List.take_succ_cons, List.map_cons, List.sum_cons] at this
        refine ⟨fuel, x, ?_⟩
        rw [List.drop_drop]
        have e : P.cellsOf f.type + (g.offset - (o + P.cellsOf f.type)) = g.offset - o := by omega
        rw [e]; exact hx)
    have := h1.append h2
    rw [List.take_append_drop] at this
    exact ⟨_, this⟩
theorem read_cells (hK : Kids P (· < P.types.size)) : ∀ (n : Nat) (t : TypeId) (l : List Sh), t < P.types.size → shOf P n t = some l → ∀ (fuel : Nat) (cs : List Value) (x : DataW H × List MemPlace), DataW.trod enc P w 0 spare held fuel t cs = some x → ∃ ps, RdL w l ps cs := by
  intro n
  induction n with
  | zero => intro t l _ h; simp [shOf] at h
  | succ n ih =>
    intro t l ht hs fuel cs x hx
    simp only [shOf] at hs
    split at hs
    case h_1 k hu =>
      cases hs
      obtain ⟨m, rfl, _, hw⟩ := DataW.trod_int hu hx
      exact ⟨[.c (.int k m)], .cons (.ik k m) (.c (wf_lit hw) rfl) rfl .nil⟩
    case h_2 hu =>
      cases hs
      obtain ⟨m, rfl, _⟩ := DataW.trod_bool hu hx
      exact ⟨[.c (.bool m)], .cons (.bb m) (.c trivial rfl) rfl .nil⟩
    case h_3 hu =>
      cases hs
      obtain ⟨m, rfl, _, hw⟩ := DataW.trod_string hu hx
      exact ⟨[.c (.string m)], .cons (.ss m) (.c hw rfl) rfl .nil⟩
    case h_4 e hu =>
      split at hs
      case h_2 => cases hs
      rename_i le he
      cases hs
      have hte := hK.slice ht hu
      rcases DataW.trod_slice hu hx with ⟨rfl, _⟩ | ⟨a, len, cap, elems, rest, m, _, rfl, _, _, hlc, hcm, hel, hget, _⟩
      · refine ⟨[.lst (le.map zSh) []], .cons (.sl (by simp) (by simp)) (.lst (es := []) rfl (Nat.zero_le _) (by simp [maxLen]) ⟨0, 0, none⟩ (by simp) (by simp) (by simp) (fun _ _ => undef) (by simp) (by simp) (by simp)) rfl .nil⟩
      · have key : ∀ i, i < len → ∃ y : List PV × List Value, RdL w le y.1 y.2 ∧ w.cells? 0 (a.add (i * P.cellsOf e)) (P.cellsOf e) = some y.2 := by
          intro i hi
          have h1 := hget i hi
          rw [List.getElem?_eq_getElem (by omega), Option.bind_eq_some_iff] at h1
          obtain ⟨cs', hc, ht'⟩ := h1
          obtain ⟨ps, hp⟩ := ih e le hte he m cs' _ ht'
          exact ⟨(ps, cs'), hp, hc⟩
        obtain ⟨ys, hyl, hys⟩ := pick_list len key
        have hle : ∀ i y, ys[i]? = some y → le.length = P.cellsOf e := fun i y hy => by
          obtain ⟨h1, h2⟩ := hys i y hy
          have := (World.cells?_some h2).2.1
          have := h1.len.2
          omega
        have hes : ∀ {i : Nat} {q : List PV}, (ys.map (·.1))[i]? = some q → ∃ y : List PV × List Value, ys[i]? = some y ∧ y.1 = q := fun {i q} hq => by
          rw [List.getElem?_map] at hq
          cases hy : ys[i]? with
          | none => rw [hy] at hq; simp at hq
          | some y => rw [hy] at hq; simp at hq; exact ⟨y, rfl, hq⟩
        have hcell : ∀ (i j : Nat) (y : List PV × List Value), ys[i]? = some y → j < le.length → w.cell? (a.add (i * (le.map zSh).length + j)) = some (y.2.getD j undef) := fun i j y hy hj => by
          obtain ⟨h1, h2⟩ := hys i y hy
          have e0 := hle i y hy
          have h3 := (World.cells?_some h2).2.2 j (by omega)
          rw [add_of_add] at h3
          rw [List.length_map, e0, h3, List.getD_eq_getElem?_getD, List.getElem?_eq_getElem (by have := h1.len.2; omega)]
          rfl
        have hmem : ∀ e ∈ ys.map (·.1), ∃ (y : List PV × List Value) (i : Nat), ys[i]? = some y ∧ y.1 = e := fun e he => by
          obtain ⟨i, hi⟩ := List.getElem?_of_mem he
          obtain ⟨y, h1, h2⟩ := hes hi
          exact ⟨y, i, h1, h2⟩
        refine ⟨[.lst (le.map zSh) (ys.map (·.1))], .cons (.sl (fun e he => ?_) (fun e he => ?_)) (.lst (es := ys.map (·.1)) (by simp [hyl]) hlc hcm a (fun _ => rfl) ?_ ?_ (fun i j => ((ys[i]?.map (·.2)).getD []).getD j undef) ?_ ?_ ?_) rfl .nil⟩
        · obtain ⟨y, i, hy, rfl⟩ := hmem e he
          exact (hys i y hy).1.len.1
        · obtain ⟨y, i, hy, rfl⟩ := hmem e he
          exact (hys i y hy).1.fit
        · intro h0 hz
          obtain ⟨y, hy⟩ : ∃ y, ys[0]? = some y := ⟨_, List.getElem?_eq_getElem (by omega)⟩
          have h3 := hcell 0 0 y hy (by simpa using hz)
          have := World.block_lt_of_cell? w _ h3
          rwa [block_of_add] at this
        · intro i q hq
          obtain ⟨y, hy, rfl⟩ := hes hq
          simpa using (hys i y hy).1.len.1
        · intro i j q p hq hp
          obtain ⟨y, hy, rfl⟩ := hes hq
          have hj : j < le.length := by rw [← (hys i y hy).1.len.1]; exact (List.getElem?_eq_some_iff.1 hp).1
          rw [hcell i j y hy hj, hy]; rfl
        · intro i j q p hq hp
          obtain ⟨y, hy, rfl⟩ := hes hq
          have hj : j < y.2.length := by rw [(hys i y hy).1.len.2, ← (hys i y hy).1.len.1]; exact (List.getElem?_eq_some_iff.1 hp).1
          have := ((hys i y hy).1.rel j p _ hp (List.getElem?_eq_getElem hj)).2
          simpa [hy, List.getD_eq_getElem?_getD, List.getElem?_eq_getElem hj] using this
        · intro i j q p hq hp
          obtain ⟨y, hy, rfl⟩ := hes hq
          have hj : j < y.2.length := by rw [(hys i y hy).1.len.2, ← (hys i y hy).1.len.1]; exact (List.getElem?_eq_some_iff.1 hp).1
          have := ((hys i y hy).1.rel j p _ hp (List.getElem?_eq_getElem hj)).1
          simpa [flagS, hy, List.getD_eq_getElem?_getD, List.getElem?_eq_getElem hj] using this
    case h_5 fs hu =>
      obtain ⟨xs, m, _, _, hlen, hxs, hget⟩ := DataW.trod_struct hu hx
      obtain ⟨k1, k2, k3⟩ := hK.struct ht hu
      refine read_struct ih fs.toList l 0 cs hs k1 (fun j f hf => by rw [k3 j f hf]; simp) (by rw [hlen, k2]) fun f hf => ?_
      obtain ⟨j, hj⟩ := List.getElem?_of_mem hf
      have hj' : fs[j]? = some f := by rw [← Array.getElem?_toList]; exact hj
      have := hget j f hj'
      have hlt : j < xs.length := by rw [hxs]; exact (Array.getElem?_eq_some_iff.1 hj').1
      rw [List.getElem?_eq_getElem hlt] at this
      exact ⟨m, _, by simpa using this⟩
    case h_6 => cases hs
def argAV (P : Program) [Kn P] (t : TypeId) (ps : List PV) : AV := match P.underlying t with
  | some (.struct _) => .p .any (.agg ps)
  | _ => (match ps with
    | [.c v] => .p .flat (.c v)
    | [p] => .p .any p
    | _ => .junk)
def ArgsOf (P : Program) [Kn P] (n : Nat) : List TypeId → List AV → Prop
  | [], as => as = []
  | t :: ts, as => ∃ l ps r, shOf P n t = some l ∧ ps.length = l.length ∧ (∀ (j : Nat) (p : PV) (s : Sh), ps[j]? = some p → l[j]? = some s → Fit s p) ∧ as = argAV P t ps :: r ∧ ArgsOf P n ts r
theorem args_read (hK : Kids P (· < P.types.size)) (n : Nat) {base : Nat} : ∀ {ts : List TypeId} {vs : List Value} {ds : List (DataW H)} {pl : List MemPlace}, (∀ t ∈ ts, t < P.types.size ∧ (shOf P n t).isSome = true) →
    (∀ (j : Nat) t v, ts[j]? = some t → vs[j]? = some v → Value.okWide P w .any base t v) → DataW.TrodAll enc P w 0 spare held ts vs ds pl →
    ∃ as, ArgsOf P n ts as ∧ as.length = vs.length ∧ ∀ (j : Nat) (a : AV) (u : Value), as[j]? = some a → vs[j]? = some u → ∀ (plc : Nat → Pl) (L : Nat) (Fr : Nat → Prop), RelA plc L (fun b => b < w.heap.size) Fr w a u
  | [], [], _, _, _, _, _ => ⟨[], rfl, rfl, fun j a u h => by simp at h⟩
  | [], _ :: _, [], _, _, _, h => by cases h
  | [], _ :: _, _ :: _, _, _, _, h => by cases h
  | _ :: _, [], _, _, _, _, h => by cases h
  | _ :: _, _ :: _, [], _, _, _, h => by cases h
  | t :: ts, v :: vs, d :: ds, pl, ht, hv, ⟨p, q, h1, h2, _⟩ => by
    obtain ⟨as, hA, hl, hr⟩ := args_read hK n (fun t h => ht t (by simp [h])) (fun j t v h h' => hv (j + 1) t v (by simpa using h) (by simpa using h')) h2
    obtain ⟨ht1, hsh⟩ := ht t (by simp)
    obtain ⟨l, hl1⟩ := Option.isSome_iff_exists.1 hsh
    obtain ⟨fuel, hf⟩ := h1
    obtain ⟨ps, hps⟩ := read_cells hK n t l ht1 hl1 fuel _ _ hf
    refine ⟨argAV P t ps :: as, ⟨l, ps, as, hl1, hps.len.1, hps.fit, rfl, hA⟩, by simp [hl], fun j a u ha hu plc L Fr => ?_⟩
    cases j with
    | succ j => exact hr j a u (by simpa using ha) (by simpa using hu) plc L Fr
    | zero =>
      simp at ha hu
      subst ha hu
      have hval := hv 0 t v rfl rfl
      have hstruct : ∀ fs, P.underlying t = some (.struct fs) → ∃ arr, v = .agg arr := fun fs hu => by
        unfold Value.okWide at hval
        rw [hu] at hval
        obtain ⟨arr, rfl, _⟩ := hval
        exact ⟨arr, rfl⟩
      unfold argAV
      split
      · rename_i fs hu
        obtain ⟨arr, rfl⟩ := hstruct fs hu
        have hc : (Value.agg arr).cells.toList = arr.toList := rfl
        rw [hc] at hps
        refine .p (.agg (by have := hps.len; simp at this; omega) (fun j u hu => ?_) (fun j p u hp hu => ?_))
        · have hu' : arr.toList[j]? = some u := by rw [Array.getElem?_toList]; exact hu
          have hlt : j < ps.length := by have := hps.len; have := (List.getElem?_eq_some_iff.1 hu').1; omega
          exact (hps.rel j _ u (List.getElem?_eq_getElem hlt) hu').2
        · have hu' : arr.toList[j]? = some u := by rw [Array.getElem?_toList]; exact hu
          exact (hps.rel j p u hp hu').1
      · rename_i hns
        have hone : v.cells = #[v] := by
          cases v with
          | agg arr =>
            exfalso
            unfold Value.okWide at hval
            split at hval
            · rename_i fs hu; exact hns fs hu
            · rename_i m e hu
              obtain ⟨k, rfl⟩ : ∃ k, n = k + 1 := by cases n with | zero => simp [shOf] at hl1 | succ k => exact ⟨k, rfl⟩
              simp [shOf, hu] at hl1
            · simp only [Cell.okWide] at hval
              split at hval <;> first | (simp_all; done) | skip
              all_goals (simp only [Cell.ok] at hval; split at hval <;> simp_all)
          | _ => rfl
        rw [hone] at hps
        have hlen := hps.len
        have h1 : ps.length = 1 := by simp at hlen; omega
        obtain ⟨p0, rfl⟩ := List.length_eq_one_iff.1 h1
        obtain ⟨hr0, h10⟩ := hps.rel 0 p0 v rfl rfl
        cases p0 with
        | c x => exact .p hr0.scalar
        | _ => exact .p hr0
open Go.ChangeShapes Go.WideShapes Go.ChangeAt in
theorem post_true {f : Func} {s : ChangeSpec} {W W' : World} {args : Array Value} {ds gs : List (DataW H)} {before : List MemPlace} {tb : TypeId} (hK : Kids P (· < P.types.size)) (hz : ∀ t e, t < P.types.size → P.underlying t = some (.slice e) → 0 < P.cellsOf e)
    (hts : ∀ t ∈ f.params.toList, t < P.types.size) (hres : f.resultTypes = #[tb]) (htb : P.underlying tb = some .bool) (hvars : s.vars = [])
    (hW : DataW.Whole enc P f.params.toList s.vars false W args.toList ds gs before) (hfn : s.fn H (ds ++ gs) = { results := [.lit (.bool true)], args := ds })
    (hos : W'.os = W.os) (hout : W'.output = W.output) (hheap : ∀ b, b < W.heap.size → W'.heap[b]? = W.heap[b]?) :
    s.post enc P f false true false false W args (.bool true) W' := by
  have _k : Kn P := inferInstance
  have hW' := hW
  have hlt := hW.lt
  obtain ⟨pa, pv, hA, hV, hps, hz', hn⟩ := hW
  rw [hvars] at hV
  obtain ⟨hg, rfl⟩ := trodVars_none hV
  have hcell : ∀ a : Addr, a.block < W.heap.size → W'.cell? a = W.cell? a := fun a ha => World.cell?_of_block (hheap _ ha)
  have hsame : ∀ p ∈ pa, W.sameAt W' p := by
    intro p hp
    have hb := hlt p (by rw [hps]; simpa using hp)
    cases p with
    | cell b off => exact hcell ⟨b, off, none⟩ hb
    | map b => exact hheap _ hb
  have hargs : ∀ sp : Nat → Bool, (∀ p ∈ before, sp p.block = true) → DataW.TrodAll enc P W' 0 sp true f.params.toList args.toList ds pa := by
    intro sp hsp
    refine DataW.TrodAll.respare hK hz (fun t ht => hts t ht) ?_ (fun p hp => hsp p (by rw [hps]; simpa using hp))
    have carry : ∀ {ts : List TypeId} {vs : List Value} {ds : List (DataW H)} {pl : List MemPlace}, DataW.TrodAll enc P W 0 (fun _ => true) true ts vs ds pl → (∀ p ∈ pl, W.sameAt W' p) → DataW.TrodAll enc P W' 0 (fun _ => true) true ts vs ds pl := by
      intro ts
      induction ts with
      | nil =>
        intro vs ds pl h _
        match vs, ds, h with
        | [], [], h => exact h
      | cons t ts ih =>
        intro vs ds pl h hs
        match vs, ds, h with
        | v :: vs, d :: ds, ⟨p, q, ⟨n, h1⟩, h2, e⟩ =>
          exact ⟨p, q, ⟨n, DataW.trod_carry n _ _ _ h1 (fun x hx => hs x (by rw [e]; exact List.mem_append_left _ hx))⟩, ih h2 (fun x hx => hs x (by rw [e]; exact List.mem_append_right _ hx)), e⟩
    exact carry hA hsame
  have hold : ∀ p ∈ before, (fun b => decide (b < W.heap.size)) p.block = true := fun p hp => by simpa using hlt p hp
  have hresT : ∀ (b : Nat) (sp : Nat → Bool) (hd : Bool), DataW.TrodAll enc P W' b sp hd f.resultTypes.toList ((Value.bool true).resultList f.resultTypes.size) [.lit (.bool true)] [] := by
    intro b sp hd
    rw [hres]
    exact trodAll_cons_mk (shut_bool htb _) trodAll_mk0
  have hvT : ∀ sp : Nat → Bool, DataW.TrodVars enc P W' sp s.vars (s.fn H (ds ++ gs)).vars [] := by
    intro sp; rw [hvars, hfn]; rfl
  refine ⟨ds, gs, before, [], pa, [], hW', by rw [hfn]; exact hresT _ _ _, by rw [hfn]; exact hargs _ hold, hvT _, ?_, fun _ => ⟨?_, _, _, ([] ++ pa) ++ [], ⟨[] ++ pa, [], trodAll_append (hargs _ (fun _ _ => rfl)) (hresT _ _ _), hvT _, rfl, ?_, ?_⟩, ?_⟩⟩
  · refine ⟨hos, hout, fun i hi => ?_⟩
    rw [hheap i hi]
    split
    · rename_i h1 h2; rw [h1] at h2; cases h2; exact ⟨rfl, rfl, rfl, fun _ _ => rfl⟩
    · rename_i h1 h2; rw [h1] at h2; cases h2; exact .inr ⟨rfl, rfl⟩
    · rfl
  · exact ok_one hres rfl (okWide_bool_mk htb _)
  · intro b off hp
    have hp' : MemPlace.cell b off ∈ before := by rw [hps]; simpa using hp
    have hb := hlt _ hp'
    have := hz' b off hp'
    have e : W'.frozen? ⟨b, off, none⟩ = W.frozen? ⟨b, off, none⟩ := by
      have hh : W'.heap[b]? = W.heap[b]? := hheap b hb
      simp only [World.frozen?, hh]
    rw [e]; exact this
  · intro h; cases h
  · intro p hp _
    rw [hps]; simpa using hp
theorem law_calls {f : FuncId} {fn : Func} {s : ChangeSpec} {tb : TypeId} {W : World} {base : Nat} {args : Array Value} {ds gs : List (DataW H)} {before : List MemPlace} (hlaid : laidOutB P = true) (hm : mapsRowed P = true)
    (hz : ((List.range P.types.size).all fun t => match P.underlying t with | some (.slice e) => decide (0 < P.cellsOf e) | _ => true) = true)
    (hsh : (fn.params.toList.all fun t => decide (t < P.types.size) && (shOf P 6 t).isSome) = true) (hres : fn.resultTypes = #[tb]) (htb : P.underlying tb = some .bool) (hvars : s.vars = [])
    (hkn : Kn.K P W (fun b => b < W.heap.size)) (hsem : ∀ as, ArgsOf P 6 fn.params.toList as → FnSem P f as [] (Is [Bo true] []))
    (hval : ∀ (j : Nat) t v, fn.params[j]? = some t → args[j]? = some v → Value.okWide P W .any base t v)
    (hW : DataW.Whole enc P fn.params.toList s.vars false W args.toList ds gs before) (hfn : s.fn H (ds ++ gs) = { results := [.lit (.bool true)], args := ds }) :
    Calls P f args W fun e W' => ∃ v, e = .returned v ∧ s.post enc P fn false true false false W args v W' := by
  have hK := kids_rows hlaid hm
  have hts : ∀ t ∈ fn.params.toList, t < P.types.size ∧ (shOf P 6 t).isSome = true := fun t ht => by
    have := List.all_eq_true.1 hsh t ht
    simpa using this
  obtain ⟨pa, pv, hA, hV, hps, _⟩ := id hW
  obtain ⟨as, h1, h2, h3⟩ := args_read hK 6 hts (fun j t v ht hv => hval j t v (by rw [← Array.getElem?_toList]; exact ht) (by rw [← Array.getElem?_toList]; exact hv)) hA
  have hst : ∀ b, b < W.heap.size → Sany (fun b => b < W.heap.size) W.heap.size (fun _ => mkPl 0 0 0 0) [] W b := fun b hb => ⟨⟨hb, fun k hk => (live_nil hk).elim⟩, .inl hb⟩
  refine ((hsem as h1).2 W args (fun _ => mkPl 0 0 0 0) (fun b => b < W.heap.size) (fun b hb => ⟨hb, fun k hk => (live_nil hk).elim⟩) hkn ?_).mono ?_
  · refine ⟨fun k b hk => (live_nil hk).elim, fun k hk => by simp [isnew] at hk, fun k k' b hk => (live_nil hk).elim, fun k ob hk => by simp at hk, by simpa using h2.symm, fun j a u ha hu => ?_⟩
    refine (h3 j a u ha (by rw [Array.getElem?_toList]; exact hu) (fun _ => mkPl 0 0 0 0) 0 (Fresh W.heap.size (fun _ => mkPl 0 0 0 0) [] W)).mono (Nat.le_refl _) (fun _ _ => rfl) hst (fun _ h => h) (fun _ _ => rfl) (fun _ _ => rfl)
  · rintro e W' ⟨v, vs, hout, pl', rfl, ⟨rfl, rfl⟩, hB⟩
    have hv : v = .bool true := hB.res.cinv.1
    subst hv
    exact ⟨_, rfl, post_true hK (slices_full_of P hz) (fun t ht => (hts t ht).1) hres htb hvars hW hfn hB.os hB.output fun b hb => hB.frame b ⟨hb, fun k hk => (live_nil hk).elim⟩⟩
end
end Go.Av
namespace Go.Av
open Go.RowKit
abbrev In (x : Int) : AV := .p .flat (.c (.int .i64 x))
abbrev By (x : Int) : AV := .p .flat (.c (.int .u8 x))
abbrev Str (s : ByteArray) : AV := .p .flat (.c (.string s))
def eI (x : Int) : List PV := [.c (.int .i64 x)]
def eY (x : Int) : List PV := [.c (.int .u8 x)]
def eB (b : Bool) : List PV := [.c (.bool b)]
def eS (s : ByteArray) : List PV := [.c (.string s)]
def eLI (xs : List Int) : List PV := [.lst (eI 0) (xs.map eI)]
def eLB (xs : List Bool) : List PV := [.lst (eB false) (xs.map eB)]
def eLS (xs : List ByteArray) : List PV := [.lst (eS ⟨#[]⟩) (xs.map eS)]
def zL : List PV := [.c (.slice none 0 0)]
abbrev LI (xs : List Int) : PV := .lst (eI 0) (xs.map eI)
abbrev LY (xs : List Int) : PV := .lst (eY 0) (xs.map eY)
abbrev LB (xs : List Bool) : PV := .lst (eB false) (xs.map eB)
abbrev LS (xs : List ByteArray) : PV := .lst (eS ⟨#[]⟩) (xs.map eS)
abbrev LLI (xs : List (List Int)) : PV := .lst zL (xs.map eLI)
abbrev LLB (xs : List (List Bool)) : PV := .lst zL (xs.map eLB)
abbrev LLS (xs : List (List ByteArray)) : PV := .lst zL (xs.map eLS)
abbrev Lx (v : PV) : AV := .p .any v
abbrev Rw (fl : Fl) (z : List PV) (es : List (List PV)) : OB := .row true fl z es
def zs0 : TypeId → List PV := fun _ => []
section
variable {α : Type} (f : α → List PV)
theorem gm {xs : List α} {n : Nat} {z : List PV} (d : α) (h : z = f d) : (xs.map f).getD n z = f (xs.getD n d) := by
  simp only [List.getD_eq_getElem?_getD, List.getElem?_map, h]
  cases xs[n]? <;> rfl
theorem gmb {xs : List α} {n : Nat} {z : List PV} (d : α) (h : n < xs.length) : (xs.map f).getD n z = f (xs.getD n d) := by
  simp [List.getD_eq_getElem?_getD, h]
theorem sn {xs : List α} {n : Nat} {v : α} (h : n = xs.length) : ((xs.map f).drop 0).take n ++ [f v] = (xs ++ [v]).map f := by
  subst h
  rw [List.drop_zero, List.take_of_length_le (by simp)]; simp
theorem sn0 {n : Nat} {v : α} : (([] : List (List PV)).drop 0).take n ++ [f v] = [v].map f := by simp
theorem tk {xs : List α} {n : Nat} (h : n = xs.length) : ((xs.map f).drop 0).take n = xs.map f := by
  subst h
  rw [List.drop_zero, List.take_of_length_le (by simp)]
theorem tk0 {n : Nat} : (([] : List (List PV)).drop 0).take n = ([] : List α).map f := by simp
theorem dt {xs : List α} {l n : Nat} : ((xs.map f).drop l).take n = ((xs.drop l).take n).map f := by
  rw [List.map_take, List.map_drop]
theorem ap {xs ys : List α} {n : Nat} (h : n = xs.length) : ((xs.map f).drop 0).take n ++ ys.map f = (xs ++ ys).map f := by
  rw [tk f h, List.map_append]
theorem ap0 {ys : List α} {n : Nat} : (([] : List (List PV)).drop 0).take n ++ ys.map f = ys.map f := by simp
theorem st {xs : List α} {i : Nat} {v : α} : (xs.map f).set i (f v) = (xs.set i v).map f := by
  rw [List.map_set]
theorem rp {n : Nat} (d : α) : List.replicate n (f d) = (List.replicate n d).map f := by simp
theorem ln {xs : List α} : (xs.map f).length = xs.length := List.length_map f
end
theorem bytes_nil {s : ByteArray} : s = ⟨#[]⟩ ↔ s.size = 0 := by
  constructor
  · rintro rfl; rfl
  · intro h; cases s with | mk d => congr; exact Array.eq_empty_of_size_eq_zero h
theorem wrapI {n : Int} (h1 : -9223372036854775808 ≤ n) (h2 : n ≤ 9223372036854775807) : IntKind.i64.wrap n = n := (wrap_eq_iff .i64 n).2 ⟨h1, h2⟩
theorem wrapD {a b : Int} (h0 : 0 ≤ a) (h1 : 0 < b) (h2 : a ≤ 9223372036854775807) : IntKind.i64.wrap (a.tdiv b) = a / b := by
  rw [Int.tdiv_eq_ediv_of_nonneg h0]
  exact wrapI (by have := Int.ediv_nonneg h0 (Int.le_of_lt h1); omega) (Int.le_trans (Int.ediv_le_self _ h0) h2)
theorem modE {a b : Int} (h0 : 0 ≤ a) : a.tmod b = a % b := Int.tmod_eq_emod_of_nonneg h0
theorem wrapY {n : Int} (h1 : 0 ≤ n) (h2 : n ≤ 255) : IntKind.u8.wrap n = n := (wrap_eq_iff .u8 n).2 ⟨h1, h2⟩
theorem wf_I {fl : Fl} {x : Int} (h : wfA (.p fl (.c (.int .i64 x)))) : -9223372036854775808 ≤ x ∧ x ≤ 9223372036854775807 := (wrap_eq_iff .i64 x).1 h
theorem wf_Y {fl : Fl} {x : Int} (h : wfA (.p fl (.c (.int .u8 x)))) : 0 ≤ x ∧ x ≤ 255 := (wrap_eq_iff .u8 x).1 h
theorem wf_S {fl : Fl} {s : ByteArray} (h : wfA (.p fl (.c (.string s)))) : s.size ≤ 9223372036854775807 := h
theorem wf_LI {fl : Fl} {z : List PV} {xs : List Int} (h : wfA (.p fl (.lst z (xs.map eI)))) : xs.length ≤ 9223372036854775807 ∧ ∀ x ∈ xs, -9223372036854775808 ≤ x ∧ x ≤ 9223372036854775807 := by
  refine ⟨by simpa [maxLen] using h.1, fun x hx => (wrap_eq_iff .i64 x).1 (h.2 (eI x) (List.mem_map_of_mem hx) (.c (.int .i64 x)) (by simp [eI]))⟩
theorem wf_LY {fl : Fl} {z : List PV} {xs : List Int} (h : wfA (.p fl (.lst z (xs.map eY)))) : xs.length ≤ 9223372036854775807 ∧ ∀ x ∈ xs, 0 ≤ x ∧ x ≤ 255 := by
  refine ⟨by simpa [maxLen] using h.1, fun x hx => (wrap_eq_iff .u8 x).1 (h.2 (eY x) (List.mem_map_of_mem hx) (.c (.int .u8 x)) (by simp [eY]))⟩
theorem wf_LLI {fl : Fl} {z : List PV} {xs : List (List Int)} (h : wfA (.p fl (.lst z (xs.map eLI)))) : xs.length ≤ 9223372036854775807 ∧ ∀ ys ∈ xs, ys.length ≤ 9223372036854775807 ∧ ∀ x ∈ ys, -9223372036854775808 ≤ x ∧ x ≤ 9223372036854775807 := by
  refine ⟨by simpa [maxLen] using h.1, fun ys hy => ?_⟩
  have h1 := h.2 (eLI ys) (List.mem_map_of_mem hy) (.lst (eI 0) (ys.map eI)) (by simp [eLI])
  exact ⟨by simpa [maxLen] using h1.1, fun x hx => (wrap_eq_iff .i64 x).1 (h1.2 (eI x) (List.mem_map_of_mem hx) (.c (.int .i64 x)) (by simp [eI]))⟩
theorem wf_Ls {α : Type} {f : α → List PV} {fl : Fl} {z : List PV} {xs : List α} (h : wfA (.p fl (.lst z (xs.map f)))) : xs.length ≤ 9223372036854775807 := by
  simpa [maxLen] using h.1
theorem ite_and_p (p : Prop) [Decidable p] (b : Bool) : (if p then b else false) = (decide p && b) := by by_cases h : p <;> simp [h]
theorem ite_or_p (p : Prop) [Decidable p] (b : Bool) : (if p then true else b) = (decide p || b) := by by_cases h : p <;> simp [h]
def FitL (l : List Sh) (ps : List PV) : Prop := ps.length = l.length ∧ ∀ (j : Nat) (p : PV) (s : Sh), ps[j]? = some p → l[j]? = some s → Fit s p
theorem FitL.cons {s : Sh} {l : List Sh} {ps : List PV} (h : FitL (s :: l) ps) : ∃ p r, ps = p :: r ∧ Fit s p ∧ FitL l r := by
  obtain ⟨h1, h2⟩ := h
  cases ps with
  | nil => simp at h1
  | cons p r => exact ⟨p, r, rfl, h2 0 p s rfl rfl, by simpa using h1, fun j q t hq ht => h2 (j + 1) q t (by simpa using hq) (by simpa using ht)⟩
theorem FitL.nil {ps : List PV} (h : FitL [] ps) : ps = [] := by simpa [FitL] using h.1
theorem fit_i {k : IntKind} {p : PV} (h : Fit (.ik k) p) : ∃ n, p = .c (.int k n) := by cases h; exact ⟨_, rfl⟩
theorem fit_b {p : PV} (h : Fit .bb p) : ∃ n, p = .c (.bool n) := by cases h; exact ⟨_, rfl⟩
theorem fit_s {p : PV} (h : Fit .ss p) : ∃ n, p = .c (.string n) := by cases h; exact ⟨_, rfl⟩
theorem map_of {α : Type} {f : α → List PV} : ∀ {es : List (List PV)}, (∀ e ∈ es, ∃ x, e = f x) → ∃ xs : List α, es = xs.map f
  | [], _ => ⟨[], rfl⟩
  | e :: r, h => by
    obtain ⟨x, hx⟩ := h e (by simp)
    obtain ⟨xs, hxs⟩ := map_of (es := r) fun e he => h e (by simp [he])
    exact ⟨x :: xs, by simp [hx, hxs]⟩
theorem fit_sl {α : Type} (f : α → List PV) {l : List Sh} (hf : ∀ e, FitL l e → ∃ x, e = f x) {p : PV} (h : Fit (.sl l) p) : ∃ xs : List α, p = .lst (l.map zSh) (xs.map f) := by
  cases h with
  | sl h1 h2 =>
    obtain ⟨xs, hxs⟩ := map_of (f := f) fun e he => hf e ⟨h1 e he, h2 e he⟩
    exact ⟨xs, by rw [hxs]⟩
theorem fit_LI {p : PV} (h : Fit (.sl [.ik .i64]) p) : ∃ xs, p = LI xs := by
  refine fit_sl eI (fun e he => ?_) h
  obtain ⟨p0, r, rfl, hf, he⟩ := he.cons
  obtain rfl := he.nil
  obtain ⟨n, rfl⟩ := fit_i hf
  exact ⟨n, rfl⟩
theorem fit_LY {p : PV} (h : Fit (.sl [.ik .u8]) p) : ∃ xs, p = LY xs := by
  refine fit_sl eY (fun e he => ?_) h
  obtain ⟨p0, r, rfl, hf, he⟩ := he.cons
  obtain rfl := he.nil
  obtain ⟨n, rfl⟩ := fit_i hf
  exact ⟨n, rfl⟩
theorem fit_LB {p : PV} (h : Fit (.sl [.bb]) p) : ∃ xs, p = LB xs := by
  refine fit_sl eB (fun e he => ?_) h
  obtain ⟨p0, r, rfl, hf, he⟩ := he.cons
  obtain rfl := he.nil
  obtain ⟨n, rfl⟩ := fit_b hf
  exact ⟨n, rfl⟩
theorem fit_LS {p : PV} (h : Fit (.sl [.ss]) p) : ∃ xs, p = LS xs := by
  refine fit_sl eS (fun e he => ?_) h
  obtain ⟨p0, r, rfl, hf, he⟩ := he.cons
  obtain rfl := he.nil
  obtain ⟨n, rfl⟩ := fit_s hf
  exact ⟨n, rfl⟩
theorem fit_LLI {p : PV} (h : Fit (.sl [.sl [.ik .i64]]) p) : ∃ xs, p = LLI xs := by
  refine fit_sl eLI (fun e he => ?_) h
  obtain ⟨p0, r, rfl, hf, he⟩ := he.cons
  obtain rfl := he.nil
  obtain ⟨n, rfl⟩ := fit_LI hf
  exact ⟨n, rfl⟩
theorem ArgsOf.cons {P : Program} [Kn P] {n : Nat} {t : TypeId} {ts : List TypeId} {as : List AV} {l : List Sh} (hl : shOf P n t = some l) (h : ArgsOf P n (t :: ts) as) : ∃ ps r, FitL l ps ∧ as = argAV P t ps :: r ∧ ArgsOf P n ts r := by
  obtain ⟨l', ps, r, h1, h2, h3, h4, h5⟩ := h
  rw [hl] at h1; cases h1
  exact ⟨ps, r, ⟨h2, h3⟩, h4, h5⟩
theorem argAV_struct {P : Program} [Kn P] {t : TypeId} {fs : Array Field} {ps : List PV} (h : P.underlying t = some (.struct fs)) : argAV P t ps = .p .any (.agg ps) := by unfold argAV; rw [h]
theorem argAV_c {P : Program} [Kn P] {t : TypeId} {v : Value} (h : ∀ fs, P.underlying t ≠ some (.struct fs)) : argAV P t [.c v] = .p .flat (.c v) := by
  unfold argAV; split
  · rename_i fs hh; exact absurd hh (h fs)
  · rfl
theorem argAV_l {P : Program} [Kn P] {t : TypeId} {z : List PV} {es : List (List PV)} (h : ∀ fs, P.underlying t ≠ some (.struct fs)) : argAV P t [.lst z es] = .p .any (.lst z es) := by
  unfold argAV; split
  · rename_i fs hh; exact absurd hh (h fs)
  · rfl
theorem trodAll_len {H : Type} {enc : TypeId × Value → H} {P : Program} [Kn P] {w : World} {b : Nat} {sp : Nat → Bool} {hd : Bool} : ∀ {ts : List TypeId} {vs : List Value} {ds : List (DataW H)} {ps : List MemPlace}, DataW.TrodAll enc P w b sp hd ts vs ds ps → ds.length = ts.length
  | [], [], [], _, _ => rfl
  | _ :: _, _ :: _, _ :: _, _, ⟨_, _, _, h, _⟩ => by simp [trodAll_len h]
instance knNone (P : Program) : Inhabited (KnT P) := ⟨⟨fun _ _ => True, fun _ _ _ _ => trivial⟩⟩
end Go.Av
namespace Go.Av
open Go.RowKit
structure GAir where
  temperature : Int
  pressure : Int
  humidity : Int
deriving DecidableEq
instance : Inhabited GAir := ⟨⟨0, 0, 0⟩⟩
def GAir.cells (x : GAir) : List PV := [.c (.int .i64 x.temperature), .c (.int .i64 x.pressure), .c (.int .i64 x.humidity)]
def GAir.z : List PV := [.c (.int .i64 0), .c (.int .i64 0), .c (.int .i64 0)]
theorem eta_Air (x : GAir) : (⟨x.temperature, x.pressure, x.humidity⟩ : GAir) = x := rfl
def GAir.sz (x : GAir) : Nat := 0
def GAir.wf (x : GAir) : Prop := (-9223372036854775808 ≤ x.temperature ∧ x.temperature ≤ 9223372036854775807) ∧ (-9223372036854775808 ≤ x.pressure ∧ x.pressure ≤ 9223372036854775807) ∧ (-9223372036854775808 ≤ x.humidity ∧ x.humidity ≤ 9223372036854775807)
theorem wf_cells_Air {d : Nat} {x : GAir} (h : ∀ p ∈ x.cells, wfN (d + 2) p) : x.wf := by
  refine ⟨(wrap_eq_iff .i64 _).1 (h (.c (.int .i64 x.temperature)) (by simp [GAir.cells])), (wrap_eq_iff .i64 _).1 (h (.c (.int .i64 x.pressure)) (by simp [GAir.cells])), (wrap_eq_iff .i64 _).1 (h (.c (.int .i64 x.humidity)) (by simp [GAir.cells]))⟩
theorem wf_Air {fl : Fl} {x : GAir} (h : wfA (.p fl (.agg x.cells))) : x.wf := wf_cells_Air (d := 1) h
theorem wfr_Air {fl : Fl} {x : GAir} (h : wfA (.p fl (.ref x.cells))) : x.wf := wf_cells_Air (d := 1) h
theorem wf_LAir {fl : Fl} {z : List PV} {xs : List GAir} (h : wfA (.p fl (.lst z (xs.map GAir.cells)))) : xs.length ≤ 9223372036854775807 ∧ ∀ x ∈ xs, x.wf :=
  ⟨by simpa [maxLen] using h.1, fun x hx => wf_cells_Air (d := 1) (h.2 _ (List.mem_map_of_mem hx))⟩
structure GAirway where
  id : ByteArray
  from_ : Int
  to : Int
  length : Int
  section_ : Int
  friction : Int
  shock : Int
deriving DecidableEq
instance : Inhabited GAirway := ⟨⟨⟨#[]⟩, 0, 0, 0, 0, 0, 0⟩⟩
def GAirway.cells (x : GAirway) : List PV := [.c (.string x.id), .c (.int .i64 x.from_), .c (.int .i64 x.to), .c (.int .i64 x.length), .c (.int .i64 x.section_), .c (.int .i64 x.friction), .c (.int .i64 x.shock)]
def GAirway.z : List PV := [.c (.string ⟨#[]⟩), .c (.int .i64 0), .c (.int .i64 0), .c (.int .i64 0), .c (.int .i64 0), .c (.int .i64 0), .c (.int .i64 0)]
theorem eta_Airway (x : GAirway) : (⟨x.id, x.from_, x.to, x.length, x.section_, x.friction, x.shock⟩ : GAirway) = x := rfl
def GAirway.sz (x : GAirway) : Nat := x.id.size
def GAirway.wf (x : GAirway) : Prop := x.id.size ≤ 9223372036854775807 ∧ (-9223372036854775808 ≤ x.from_ ∧ x.from_ ≤ 9223372036854775807) ∧ (-9223372036854775808 ≤ x.to ∧ x.to ≤ 9223372036854775807) ∧ (-9223372036854775808 ≤ x.length ∧ x.length ≤ 9223372036854775807) ∧ (-9223372036854775808 ≤ x.section_ ∧ x.section_ ≤ 9223372036854775807) ∧ (-9223372036854775808 ≤ x.friction ∧ x.friction ≤ 9223372036854775807) ∧ (-9223372036854775808 ≤ x.shock ∧ x.shock ≤ 9223372036854775807)
theorem wf_cells_Airway {d : Nat} {x : GAirway} (h : ∀ p ∈ x.cells, wfN (d + 2) p) : x.wf := by
  refine ⟨(h (.c (.string x.id)) (by simp [GAirway.cells])), (wrap_eq_iff .i64 _).1 (h (.c (.int .i64 x.from_)) (by simp [GAirway.cells])), (wrap_eq_iff .i64 _).1 (h (.c (.int .i64 x.to)) (by simp [GAirway.cells])), (wrap_eq_iff .i64 _).1 (h (.c (.int .i64 x.length)) (by simp [GAirway.cells])), (wrap_eq_iff .i64 _).1 (h (.c (.int .i64 x.section_)) (by simp [GAirway.cells])), (wrap_eq_iff .i64 _).1 (h (.c (.int .i64 x.friction)) (by simp [GAirway.cells])), (wrap_eq_iff .i64 _).1 (h (.c (.int .i64 x.shock)) (by simp [GAirway.cells]))⟩
theorem wf_Airway {fl : Fl} {x : GAirway} (h : wfA (.p fl (.agg x.cells))) : x.wf := wf_cells_Airway (d := 1) h
theorem wfr_Airway {fl : Fl} {x : GAirway} (h : wfA (.p fl (.ref x.cells))) : x.wf := wf_cells_Airway (d := 1) h
theorem wf_LAirway {fl : Fl} {z : List PV} {xs : List GAirway} (h : wfA (.p fl (.lst z (xs.map GAirway.cells)))) : xs.length ≤ 9223372036854775807 ∧ ∀ x ∈ xs, x.wf :=
  ⟨by simpa [maxLen] using h.1, fun x hx => wf_cells_Airway (d := 1) (h.2 _ (List.mem_map_of_mem hx))⟩
structure GMine where
  junctions : Int
  airways : List GAirway
deriving DecidableEq
instance : Inhabited GMine := ⟨⟨0, []⟩⟩
def GMine.cells (x : GMine) : List PV := [.c (.int .i64 x.junctions), .lst (GAirway.cells default) (x.airways.map GAirway.cells)]
def GMine.z : List PV := [.c (.int .i64 0), .c (.slice none 0 0)]
theorem eta_Mine (x : GMine) : (⟨x.junctions, x.airways⟩ : GMine) = x := rfl
def GMine.sz (x : GMine) : Nat := 0
def GMine.wf (x : GMine) : Prop := (-9223372036854775808 ≤ x.junctions ∧ x.junctions ≤ 9223372036854775807) ∧ (x.airways.length ≤ 9223372036854775807 ∧ ∀ y ∈ x.airways, y.wf)
theorem wf_cells_Mine {d : Nat} {x : GMine} (h : ∀ p ∈ x.cells, wfN (d + 3) p) : x.wf := by
  refine ⟨(wrap_eq_iff .i64 _).1 (h (.c (.int .i64 x.junctions)) (by simp [GMine.cells])), (by have h1 := (h (.lst (GAirway.cells default) (x.airways.map GAirway.cells)) (by simp [GMine.cells])); exact ⟨by simpa [maxLen] using h1.1, fun y hy => wf_cells_Airway (d := d) (h1.2 _ (List.mem_map_of_mem hy))⟩)⟩
theorem wf_Mine {fl : Fl} {x : GMine} (h : wfA (.p fl (.agg x.cells))) : x.wf := wf_cells_Mine (d := 0) h
theorem wfr_Mine {fl : Fl} {x : GMine} (h : wfA (.p fl (.ref x.cells))) : x.wf := wf_cells_Mine (d := 0) h
theorem wf_LMine {fl : Fl} {z : List PV} {xs : List GMine} (h : wfA (.p fl (.lst z (xs.map GMine.cells)))) : xs.length ≤ 9223372036854775807 ∧ ∀ x ∈ xs, x.wf :=
  ⟨by simpa [maxLen] using h.1, fun x hx => wf_cells_Mine (d := 0) (h.2 _ (List.mem_map_of_mem hx))⟩
structure GSurvey where
  airway : ByteArray
  drop : Int
  dropError : Int
  flow : Int
  flowError : Int
deriving DecidableEq
instance : Inhabited GSurvey := ⟨⟨⟨#[]⟩, 0, 0, 0, 0⟩⟩
def GSurvey.cells (x : GSurvey) : List PV := [.c (.string x.airway), .c (.int .i64 x.drop), .c (.int .i64 x.dropError), .c (.int .i64 x.flow), .c (.int .i64 x.flowError)]
def GSurvey.z : List PV := [.c (.string ⟨#[]⟩), .c (.int .i64 0), .c (.int .i64 0), .c (.int .i64 0), .c (.int .i64 0)]
theorem eta_Survey (x : GSurvey) : (⟨x.airway, x.drop, x.dropError, x.flow, x.flowError⟩ : GSurvey) = x := rfl
def GSurvey.sz (x : GSurvey) : Nat := x.airway.size
def GSurvey.wf (x : GSurvey) : Prop := x.airway.size ≤ 9223372036854775807 ∧ (-9223372036854775808 ≤ x.drop ∧ x.drop ≤ 9223372036854775807) ∧ (-9223372036854775808 ≤ x.dropError ∧ x.dropError ≤ 9223372036854775807) ∧ (-9223372036854775808 ≤ x.flow ∧ x.flow ≤ 9223372036854775807) ∧ (-9223372036854775808 ≤ x.flowError ∧ x.flowError ≤ 9223372036854775807)
theorem wf_cells_Survey {d : Nat} {x : GSurvey} (h : ∀ p ∈ x.cells, wfN (d + 2) p) : x.wf := by
  refine ⟨(h (.c (.string x.airway)) (by simp [GSurvey.cells])), (wrap_eq_iff .i64 _).1 (h (.c (.int .i64 x.drop)) (by simp [GSurvey.cells])), (wrap_eq_iff .i64 _).1 (h (.c (.int .i64 x.dropError)) (by simp [GSurvey.cells])), (wrap_eq_iff .i64 _).1 (h (.c (.int .i64 x.flow)) (by simp [GSurvey.cells])), (wrap_eq_iff .i64 _).1 (h (.c (.int .i64 x.flowError)) (by simp [GSurvey.cells]))⟩
theorem wf_Survey {fl : Fl} {x : GSurvey} (h : wfA (.p fl (.agg x.cells))) : x.wf := wf_cells_Survey (d := 1) h
theorem wfr_Survey {fl : Fl} {x : GSurvey} (h : wfA (.p fl (.ref x.cells))) : x.wf := wf_cells_Survey (d := 1) h
theorem wf_LSurvey {fl : Fl} {z : List PV} {xs : List GSurvey} (h : wfA (.p fl (.lst z (xs.map GSurvey.cells)))) : xs.length ≤ 9223372036854775807 ∧ ∀ x ∈ xs, x.wf :=
  ⟨by simpa [maxLen] using h.1, fun x hx => wf_cells_Survey (d := 1) (h.2 _ (List.mem_map_of_mem hx))⟩
structure GFan where
  id : ByteArray
  airway : Int
  curve : List (List Int)
deriving DecidableEq
instance : Inhabited GFan := ⟨⟨⟨#[]⟩, 0, []⟩⟩
def GFan.cells (x : GFan) : List PV := [.c (.string x.id), .c (.int .i64 x.airway), LLI x.curve]
def GFan.z : List PV := [.c (.string ⟨#[]⟩), .c (.int .i64 0), .c (.slice none 0 0)]
theorem eta_Fan (x : GFan) : (⟨x.id, x.airway, x.curve⟩ : GFan) = x := rfl
def GFan.sz (x : GFan) : Nat := x.id.size
def GFan.wf (x : GFan) : Prop := x.id.size ≤ 9223372036854775807 ∧ (-9223372036854775808 ≤ x.airway ∧ x.airway ≤ 9223372036854775807) ∧ (x.curve.length ≤ 9223372036854775807)
theorem wf_cells_Fan {d : Nat} {x : GFan} (h : ∀ p ∈ x.cells, wfN (d + 2) p) : x.wf := by
  refine ⟨(h (.c (.string x.id)) (by simp [GFan.cells])), (wrap_eq_iff .i64 _).1 (h (.c (.int .i64 x.airway)) (by simp [GFan.cells])), (by have h1 := (h (LLI x.curve) (by simp [GFan.cells])); simpa [maxLen] using h1.1)⟩
theorem wf_Fan {fl : Fl} {x : GFan} (h : wfA (.p fl (.agg x.cells))) : x.wf := wf_cells_Fan (d := 1) h
theorem wfr_Fan {fl : Fl} {x : GFan} (h : wfA (.p fl (.ref x.cells))) : x.wf := wf_cells_Fan (d := 1) h
theorem wf_LFan {fl : Fl} {z : List PV} {xs : List GFan} (h : wfA (.p fl (.lst z (xs.map GFan.cells)))) : xs.length ≤ 9223372036854775807 ∧ ∀ x ∈ xs, x.wf :=
  ⟨by simpa [maxLen] using h.1, fun x hx => wf_cells_Fan (d := 1) (h.2 _ (List.mem_map_of_mem hx))⟩
structure GDoor where
  id : ByteArray
  airway : Int
  open_ : Int
  shut : Int
deriving DecidableEq
instance : Inhabited GDoor := ⟨⟨⟨#[]⟩, 0, 0, 0⟩⟩
def GDoor.cells (x : GDoor) : List PV := [.c (.string x.id), .c (.int .i64 x.airway), .c (.int .i64 x.open_), .c (.int .i64 x.shut)]
def GDoor.z : List PV := [.c (.string ⟨#[]⟩), .c (.int .i64 0), .c (.int .i64 0), .c (.int .i64 0)]
theorem eta_Door (x : GDoor) : (⟨x.id, x.airway, x.open_, x.shut⟩ : GDoor) = x := rfl
def GDoor.sz (x : GDoor) : Nat := x.id.size
def GDoor.wf (x : GDoor) : Prop := x.id.size ≤ 9223372036854775807 ∧ (-9223372036854775808 ≤ x.airway ∧ x.airway ≤ 9223372036854775807) ∧ (-9223372036854775808 ≤ x.open_ ∧ x.open_ ≤ 9223372036854775807) ∧ (-9223372036854775808 ≤ x.shut ∧ x.shut ≤ 9223372036854775807)
theorem wf_cells_Door {d : Nat} {x : GDoor} (h : ∀ p ∈ x.cells, wfN (d + 2) p) : x.wf := by
  refine ⟨(h (.c (.string x.id)) (by simp [GDoor.cells])), (wrap_eq_iff .i64 _).1 (h (.c (.int .i64 x.airway)) (by simp [GDoor.cells])), (wrap_eq_iff .i64 _).1 (h (.c (.int .i64 x.open_)) (by simp [GDoor.cells])), (wrap_eq_iff .i64 _).1 (h (.c (.int .i64 x.shut)) (by simp [GDoor.cells]))⟩
theorem wf_Door {fl : Fl} {x : GDoor} (h : wfA (.p fl (.agg x.cells))) : x.wf := wf_cells_Door (d := 1) h
theorem wfr_Door {fl : Fl} {x : GDoor} (h : wfA (.p fl (.ref x.cells))) : x.wf := wf_cells_Door (d := 1) h
theorem wf_LDoor {fl : Fl} {z : List PV} {xs : List GDoor} (h : wfA (.p fl (.lst z (xs.map GDoor.cells)))) : xs.length ≤ 9223372036854775807 ∧ ∀ x ∈ xs, x.wf :=
  ⟨by simpa [maxLen] using h.1, fun x hx => wf_cells_Door (d := 1) (h.2 _ (List.mem_map_of_mem hx))⟩
structure GDuct where
  id : ByteArray
  length : Int
  joint : Int
  loss : Int
deriving DecidableEq
instance : Inhabited GDuct := ⟨⟨⟨#[]⟩, 0, 0, 0⟩⟩
def GDuct.cells (x : GDuct) : List PV := [.c (.string x.id), .c (.int .i64 x.length), .c (.int .i64 x.joint), .c (.int .i64 x.loss)]
def GDuct.z : List PV := [.c (.string ⟨#[]⟩), .c (.int .i64 0), .c (.int .i64 0), .c (.int .i64 0)]
theorem eta_Duct (x : GDuct) : (⟨x.id, x.length, x.joint, x.loss⟩ : GDuct) = x := rfl
def GDuct.sz (x : GDuct) : Nat := x.id.size
def GDuct.wf (x : GDuct) : Prop := x.id.size ≤ 9223372036854775807 ∧ (-9223372036854775808 ≤ x.length ∧ x.length ≤ 9223372036854775807) ∧ (-9223372036854775808 ≤ x.joint ∧ x.joint ≤ 9223372036854775807) ∧ (-9223372036854775808 ≤ x.loss ∧ x.loss ≤ 9223372036854775807)
theorem wf_cells_Duct {d : Nat} {x : GDuct} (h : ∀ p ∈ x.cells, wfN (d + 2) p) : x.wf := by
  refine ⟨(h (.c (.string x.id)) (by simp [GDuct.cells])), (wrap_eq_iff .i64 _).1 (h (.c (.int .i64 x.length)) (by simp [GDuct.cells])), (wrap_eq_iff .i64 _).1 (h (.c (.int .i64 x.joint)) (by simp [GDuct.cells])), (wrap_eq_iff .i64 _).1 (h (.c (.int .i64 x.loss)) (by simp [GDuct.cells]))⟩
theorem wf_Duct {fl : Fl} {x : GDuct} (h : wfA (.p fl (.agg x.cells))) : x.wf := wf_cells_Duct (d := 1) h
theorem wfr_Duct {fl : Fl} {x : GDuct} (h : wfA (.p fl (.ref x.cells))) : x.wf := wf_cells_Duct (d := 1) h
theorem wf_LDuct {fl : Fl} {z : List PV} {xs : List GDuct} (h : wfA (.p fl (.lst z (xs.map GDuct.cells)))) : xs.length ≤ 9223372036854775807 ∧ ∀ x ∈ xs, x.wf :=
  ⟨by simpa [maxLen] using h.1, fun x hx => wf_cells_Duct (d := 1) (h.2 _ (List.mem_map_of_mem hx))⟩
structure GDusting where
  airway : Int
  from_ : Int
  until_ : Int
  dust : Int
deriving DecidableEq
instance : Inhabited GDusting := ⟨⟨0, 0, 0, 0⟩⟩
def GDusting.cells (x : GDusting) : List PV := [.c (.int .i64 x.airway), .c (.int .i64 x.from_), .c (.int .i64 x.until_), .c (.int .i64 x.dust)]
def GDusting.z : List PV := [.c (.int .i64 0), .c (.int .i64 0), .c (.int .i64 0), .c (.int .i64 0)]
theorem eta_Dusting (x : GDusting) : (⟨x.airway, x.from_, x.until_, x.dust⟩ : GDusting) = x := rfl
def GDusting.sz (x : GDusting) : Nat := 0
def GDusting.wf (x : GDusting) : Prop := (-9223372036854775808 ≤ x.airway ∧ x.airway ≤ 9223372036854775807) ∧ (-9223372036854775808 ≤ x.from_ ∧ x.from_ ≤ 9223372036854775807) ∧ (-9223372036854775808 ≤ x.until_ ∧ x.until_ ≤ 9223372036854775807) ∧ (-9223372036854775808 ≤ x.dust ∧ x.dust ≤ 9223372036854775807)
theorem wf_cells_Dusting {d : Nat} {x : GDusting} (h : ∀ p ∈ x.cells, wfN (d + 2) p) : x.wf := by
  refine ⟨(wrap_eq_iff .i64 _).1 (h (.c (.int .i64 x.airway)) (by simp [GDusting.cells])), (wrap_eq_iff .i64 _).1 (h (.c (.int .i64 x.from_)) (by simp [GDusting.cells])), (wrap_eq_iff .i64 _).1 (h (.c (.int .i64 x.until_)) (by simp [GDusting.cells])), (wrap_eq_iff .i64 _).1 (h (.c (.int .i64 x.dust)) (by simp [GDusting.cells]))⟩
theorem wf_Dusting {fl : Fl} {x : GDusting} (h : wfA (.p fl (.agg x.cells))) : x.wf := wf_cells_Dusting (d := 1) h
theorem wfr_Dusting {fl : Fl} {x : GDusting} (h : wfA (.p fl (.ref x.cells))) : x.wf := wf_cells_Dusting (d := 1) h
theorem wf_LDusting {fl : Fl} {z : List PV} {xs : List GDusting} (h : wfA (.p fl (.lst z (xs.map GDusting.cells)))) : xs.length ≤ 9223372036854775807 ∧ ∀ x ∈ xs, x.wf :=
  ⟨by simpa [maxLen] using h.1, fun x hx => wf_cells_Dusting (d := 1) (h.2 _ (List.mem_map_of_mem hx))⟩
structure GHeading where
  id : ByteArray
  volume : Int
  rate : Int
deriving DecidableEq
instance : Inhabited GHeading := ⟨⟨⟨#[]⟩, 0, 0⟩⟩
def GHeading.cells (x : GHeading) : List PV := [.c (.string x.id), .c (.int .i64 x.volume), .c (.int .i64 x.rate)]
def GHeading.z : List PV := [.c (.string ⟨#[]⟩), .c (.int .i64 0), .c (.int .i64 0)]
theorem eta_Heading (x : GHeading) : (⟨x.id, x.volume, x.rate⟩ : GHeading) = x := rfl
def GHeading.sz (x : GHeading) : Nat := x.id.size
def GHeading.wf (x : GHeading) : Prop := x.id.size ≤ 9223372036854775807 ∧ (-9223372036854775808 ≤ x.volume ∧ x.volume ≤ 9223372036854775807) ∧ (-9223372036854775808 ≤ x.rate ∧ x.rate ≤ 9223372036854775807)
theorem wf_cells_Heading {d : Nat} {x : GHeading} (h : ∀ p ∈ x.cells, wfN (d + 2) p) : x.wf := by
  refine ⟨(h (.c (.string x.id)) (by simp [GHeading.cells])), (wrap_eq_iff .i64 _).1 (h (.c (.int .i64 x.volume)) (by simp [GHeading.cells])), (wrap_eq_iff .i64 _).1 (h (.c (.int .i64 x.rate)) (by simp [GHeading.cells]))⟩
theorem wf_Heading {fl : Fl} {x : GHeading} (h : wfA (.p fl (.agg x.cells))) : x.wf := wf_cells_Heading (d := 1) h
theorem wfr_Heading {fl : Fl} {x : GHeading} (h : wfA (.p fl (.ref x.cells))) : x.wf := wf_cells_Heading (d := 1) h
theorem wf_LHeading {fl : Fl} {z : List PV} {xs : List GHeading} (h : wfA (.p fl (.lst z (xs.map GHeading.cells)))) : xs.length ≤ 9223372036854775807 ∧ ∀ x ∈ xs, x.wf :=
  ⟨by simpa [maxLen] using h.1, fun x hx => wf_cells_Heading (d := 1) (h.2 _ (List.mem_map_of_mem hx))⟩
structure GFire where
  airway : Int
  at_ : Int
  start : Int
deriving DecidableEq
instance : Inhabited GFire := ⟨⟨0, 0, 0⟩⟩
def GFire.cells (x : GFire) : List PV := [.c (.int .i64 x.airway), .c (.int .i64 x.at_), .c (.int .i64 x.start)]
def GFire.z : List PV := [.c (.int .i64 0), .c (.int .i64 0), .c (.int .i64 0)]
theorem eta_Fire (x : GFire) : (⟨x.airway, x.at_, x.start⟩ : GFire) = x := rfl
def GFire.sz (x : GFire) : Nat := 0
def GFire.wf (x : GFire) : Prop := (-9223372036854775808 ≤ x.airway ∧ x.airway ≤ 9223372036854775807) ∧ (-9223372036854775808 ≤ x.at_ ∧ x.at_ ≤ 9223372036854775807) ∧ (-9223372036854775808 ≤ x.start ∧ x.start ≤ 9223372036854775807)
theorem wf_cells_Fire {d : Nat} {x : GFire} (h : ∀ p ∈ x.cells, wfN (d + 2) p) : x.wf := by
  refine ⟨(wrap_eq_iff .i64 _).1 (h (.c (.int .i64 x.airway)) (by simp [GFire.cells])), (wrap_eq_iff .i64 _).1 (h (.c (.int .i64 x.at_)) (by simp [GFire.cells])), (wrap_eq_iff .i64 _).1 (h (.c (.int .i64 x.start)) (by simp [GFire.cells]))⟩
theorem wf_Fire {fl : Fl} {x : GFire} (h : wfA (.p fl (.agg x.cells))) : x.wf := wf_cells_Fire (d := 1) h
theorem wfr_Fire {fl : Fl} {x : GFire} (h : wfA (.p fl (.ref x.cells))) : x.wf := wf_cells_Fire (d := 1) h
theorem wf_LFire {fl : Fl} {z : List PV} {xs : List GFire} (h : wfA (.p fl (.lst z (xs.map GFire.cells)))) : xs.length ≤ 9223372036854775807 ∧ ∀ x ∈ xs, x.wf :=
  ⟨by simpa [maxLen] using h.1, fun x hx => wf_cells_Fire (d := 1) (h.2 _ (List.mem_map_of_mem hx))⟩
structure GMode where
  name : ByteArray
  flow : Int
  power : Int
deriving DecidableEq
instance : Inhabited GMode := ⟨⟨⟨#[]⟩, 0, 0⟩⟩
def GMode.cells (x : GMode) : List PV := [.c (.string x.name), .c (.int .i64 x.flow), .c (.int .i64 x.power)]
def GMode.z : List PV := [.c (.string ⟨#[]⟩), .c (.int .i64 0), .c (.int .i64 0)]
theorem eta_Mode (x : GMode) : (⟨x.name, x.flow, x.power⟩ : GMode) = x := rfl
def GMode.sz (x : GMode) : Nat := x.name.size
def GMode.wf (x : GMode) : Prop := x.name.size ≤ 9223372036854775807 ∧ (-9223372036854775808 ≤ x.flow ∧ x.flow ≤ 9223372036854775807) ∧ (-9223372036854775808 ≤ x.power ∧ x.power ≤ 9223372036854775807)
theorem wf_cells_Mode {d : Nat} {x : GMode} (h : ∀ p ∈ x.cells, wfN (d + 2) p) : x.wf := by
  refine ⟨(h (.c (.string x.name)) (by simp [GMode.cells])), (wrap_eq_iff .i64 _).1 (h (.c (.int .i64 x.flow)) (by simp [GMode.cells])), (wrap_eq_iff .i64 _).1 (h (.c (.int .i64 x.power)) (by simp [GMode.cells]))⟩
theorem wf_Mode {fl : Fl} {x : GMode} (h : wfA (.p fl (.agg x.cells))) : x.wf := wf_cells_Mode (d := 1) h
theorem wfr_Mode {fl : Fl} {x : GMode} (h : wfA (.p fl (.ref x.cells))) : x.wf := wf_cells_Mode (d := 1) h
theorem wf_LMode {fl : Fl} {z : List PV} {xs : List GMode} (h : wfA (.p fl (.lst z (xs.map GMode.cells)))) : xs.length ≤ 9223372036854775807 ∧ ∀ x ∈ xs, x.wf :=
  ⟨by simpa [maxLen] using h.1, fun x hx => wf_cells_Mode (d := 1) (h.2 _ (List.mem_map_of_mem hx))⟩
structure GSensor where
  id : ByteArray
  junction : Int
  limit : Int
  delay : Int
  release : Int
deriving DecidableEq
instance : Inhabited GSensor := ⟨⟨⟨#[]⟩, 0, 0, 0, 0⟩⟩
def GSensor.cells (x : GSensor) : List PV := [.c (.string x.id), .c (.int .i64 x.junction), .c (.int .i64 x.limit), .c (.int .i64 x.delay), .c (.int .i64 x.release)]
def GSensor.z : List PV := [.c (.string ⟨#[]⟩), .c (.int .i64 0), .c (.int .i64 0), .c (.int .i64 0), .c (.int .i64 0)]
theorem eta_Sensor (x : GSensor) : (⟨x.id, x.junction, x.limit, x.delay, x.release⟩ : GSensor) = x := rfl
def GSensor.sz (x : GSensor) : Nat := x.id.size
def GSensor.wf (x : GSensor) : Prop := x.id.size ≤ 9223372036854775807 ∧ (-9223372036854775808 ≤ x.junction ∧ x.junction ≤ 9223372036854775807) ∧ (-9223372036854775808 ≤ x.limit ∧ x.limit ≤ 9223372036854775807) ∧ (-9223372036854775808 ≤ x.delay ∧ x.delay ≤ 9223372036854775807) ∧ (-9223372036854775808 ≤ x.release ∧ x.release ≤ 9223372036854775807)
theorem wf_cells_Sensor {d : Nat} {x : GSensor} (h : ∀ p ∈ x.cells, wfN (d + 2) p) : x.wf := by
  refine ⟨(h (.c (.string x.id)) (by simp [GSensor.cells])), (wrap_eq_iff .i64 _).1 (h (.c (.int .i64 x.junction)) (by simp [GSensor.cells])), (wrap_eq_iff .i64 _).1 (h (.c (.int .i64 x.limit)) (by simp [GSensor.cells])), (wrap_eq_iff .i64 _).1 (h (.c (.int .i64 x.delay)) (by simp [GSensor.cells])), (wrap_eq_iff .i64 _).1 (h (.c (.int .i64 x.release)) (by simp [GSensor.cells]))⟩
theorem wf_Sensor {fl : Fl} {x : GSensor} (h : wfA (.p fl (.agg x.cells))) : x.wf := wf_cells_Sensor (d := 1) h
theorem wfr_Sensor {fl : Fl} {x : GSensor} (h : wfA (.p fl (.ref x.cells))) : x.wf := wf_cells_Sensor (d := 1) h
theorem wf_LSensor {fl : Fl} {z : List PV} {xs : List GSensor} (h : wfA (.p fl (.lst z (xs.map GSensor.cells)))) : xs.length ≤ 9223372036854775807 ∧ ∀ x ∈ xs, x.wf :=
  ⟨by simpa [maxLen] using h.1, fun x hx => wf_cells_Sensor (d := 1) (h.2 _ (List.mem_map_of_mem hx))⟩
structure GEdge where
  a : Int
  b : Int
  resistance : Int
deriving DecidableEq
instance : Inhabited GEdge := ⟨⟨0, 0, 0⟩⟩
def GEdge.cells (x : GEdge) : List PV := [.c (.int .i64 x.a), .c (.int .i64 x.b), .c (.int .i64 x.resistance)]
def GEdge.z : List PV := [.c (.int .i64 0), .c (.int .i64 0), .c (.int .i64 0)]
theorem eta_Edge (x : GEdge) : (⟨x.a, x.b, x.resistance⟩ : GEdge) = x := rfl
def GEdge.sz (x : GEdge) : Nat := 0
def GEdge.wf (x : GEdge) : Prop := (-9223372036854775808 ≤ x.a ∧ x.a ≤ 9223372036854775807) ∧ (-9223372036854775808 ≤ x.b ∧ x.b ≤ 9223372036854775807) ∧ (-9223372036854775808 ≤ x.resistance ∧ x.resistance ≤ 9223372036854775807)
theorem wf_cells_Edge {d : Nat} {x : GEdge} (h : ∀ p ∈ x.cells, wfN (d + 2) p) : x.wf := by
  refine ⟨(wrap_eq_iff .i64 _).1 (h (.c (.int .i64 x.a)) (by simp [GEdge.cells])), (wrap_eq_iff .i64 _).1 (h (.c (.int .i64 x.b)) (by simp [GEdge.cells])), (wrap_eq_iff .i64 _).1 (h (.c (.int .i64 x.resistance)) (by simp [GEdge.cells]))⟩
theorem wf_Edge {fl : Fl} {x : GEdge} (h : wfA (.p fl (.agg x.cells))) : x.wf := wf_cells_Edge (d := 1) h
theorem wfr_Edge {fl : Fl} {x : GEdge} (h : wfA (.p fl (.ref x.cells))) : x.wf := wf_cells_Edge (d := 1) h
theorem wf_LEdge {fl : Fl} {z : List PV} {xs : List GEdge} (h : wfA (.p fl (.lst z (xs.map GEdge.cells)))) : xs.length ≤ 9223372036854775807 ∧ ∀ x ∈ xs, x.wf :=
  ⟨by simpa [maxLen] using h.1, fun x hx => wf_cells_Edge (d := 1) (h.2 _ (List.mem_map_of_mem hx))⟩
theorem fitL_Air {e : List PV} (h : FitL [.ik .i64, .ik .i64, .ik .i64] e) : ∃ x : GAir, e = x.cells := by
  obtain ⟨p0, e0, rfl, f0, h⟩ := h.cons
  obtain ⟨p1, e1, rfl, f1, h⟩ := h.cons
  obtain ⟨p2, e2, rfl, f2, h⟩ := h.cons
  obtain rfl := h.nil
  obtain ⟨x0, rfl⟩ := fit_i f0
  obtain ⟨x1, rfl⟩ := fit_i f1
  obtain ⟨x2, rfl⟩ := fit_i f2
  exact ⟨⟨x0, x1, x2⟩, rfl⟩
theorem fitL_Airway {e : List PV} (h : FitL [.ss, .ik .i64, .ik .i64, .ik .i64, .ik .i64, .ik .i64, .ik .i64] e) : ∃ x : GAirway, e = x.cells := by
  obtain ⟨p0, e0, rfl, f0, h⟩ := h.cons
  obtain ⟨p1, e1, rfl, f1, h⟩ := h.cons
  obtain ⟨p2, e2, rfl, f2, h⟩ := h.cons
  obtain ⟨p3, e3, rfl, f3, h⟩ := h.cons
  obtain ⟨p4, e4, rfl, f4, h⟩ := h.cons
  obtain ⟨p5, e5, rfl, f5, h⟩ := h.cons
  obtain ⟨p6, e6, rfl, f6, h⟩ := h.cons
  obtain rfl := h.nil
  obtain ⟨x0, rfl⟩ := fit_s f0
  obtain ⟨x1, rfl⟩ := fit_i f1
  obtain ⟨x2, rfl⟩ := fit_i f2
  obtain ⟨x3, rfl⟩ := fit_i f3
  obtain ⟨x4, rfl⟩ := fit_i f4
  obtain ⟨x5, rfl⟩ := fit_i f5
  obtain ⟨x6, rfl⟩ := fit_i f6
  exact ⟨⟨x0, x1, x2, x3, x4, x5, x6⟩, rfl⟩
theorem fitL_Mine {e : List PV} (h : FitL [.ik .i64, .sl [.ss, .ik .i64, .ik .i64, .ik .i64, .ik .i64, .ik .i64, .ik .i64]] e) : ∃ x : GMine, e = x.cells := by
  obtain ⟨p0, e0, rfl, f0, h⟩ := h.cons
  obtain ⟨p1, e1, rfl, f1, h⟩ := h.cons
  obtain rfl := h.nil
  obtain ⟨x0, rfl⟩ := fit_i f0
  obtain ⟨x1, rfl⟩ := fit_sl GAirway.cells (fun e => fitL_Airway) f1
  exact ⟨⟨x0, x1⟩, rfl⟩
theorem fitL_Survey {e : List PV} (h : FitL [.ss, .ik .i64, .ik .i64, .ik .i64, .ik .i64] e) : ∃ x : GSurvey, e = x.cells := by
  obtain ⟨p0, e0, rfl, f0, h⟩ := h.cons
  obtain ⟨p1, e1, rfl, f1, h⟩ := h.cons
  obtain ⟨p2, e2, rfl, f2, h⟩ := h.cons
  obtain ⟨p3, e3, rfl, f3, h⟩ := h.cons
  obtain ⟨p4, e4, rfl, f4, h⟩ := h.cons
  obtain rfl := h.nil
  obtain ⟨x0, rfl⟩ := fit_s f0
  obtain ⟨x1, rfl⟩ := fit_i f1
  obtain ⟨x2, rfl⟩ := fit_i f2
  obtain ⟨x3, rfl⟩ := fit_i f3
  obtain ⟨x4, rfl⟩ := fit_i f4
  exact ⟨⟨x0, x1, x2, x3, x4⟩, rfl⟩
theorem fitL_Fan {e : List PV} (h : FitL [.ss, .ik .i64, .sl [.sl [.ik .i64]]] e) : ∃ x : GFan, e = x.cells := by
  obtain ⟨p0, e0, rfl, f0, h⟩ := h.cons
  obtain ⟨p1, e1, rfl, f1, h⟩ := h.cons
  obtain ⟨p2, e2, rfl, f2, h⟩ := h.cons
  obtain rfl := h.nil
  obtain ⟨x0, rfl⟩ := fit_s f0
  obtain ⟨x1, rfl⟩ := fit_i f1
  obtain ⟨x2, rfl⟩ := fit_LLI f2
  exact ⟨⟨x0, x1, x2⟩, rfl⟩
theorem fitL_Door {e : List PV} (h : FitL [.ss, .ik .i64, .ik .i64, .ik .i64] e) : ∃ x : GDoor, e = x.cells := by
  obtain ⟨p0, e0, rfl, f0, h⟩ := h.cons
  obtain ⟨p1, e1, rfl, f1, h⟩ := h.cons
  obtain ⟨p2, e2, rfl, f2, h⟩ := h.cons
  obtain ⟨p3, e3, rfl, f3, h⟩ := h.cons
  obtain rfl := h.nil
  obtain ⟨x0, rfl⟩ := fit_s f0
  obtain ⟨x1, rfl⟩ := fit_i f1
  obtain ⟨x2, rfl⟩ := fit_i f2
  obtain ⟨x3, rfl⟩ := fit_i f3
  exact ⟨⟨x0, x1, x2, x3⟩, rfl⟩
theorem fitL_Duct {e : List PV} (h : FitL [.ss, .ik .i64, .ik .i64, .ik .i64] e) : ∃ x : GDuct, e = x.cells := by
  obtain ⟨p0, e0, rfl, f0, h⟩ := h.cons
  obtain ⟨p1, e1, rfl, f1, h⟩ := h.cons
  obtain ⟨p2, e2, rfl, f2, h⟩ := h.cons
  obtain ⟨p3, e3, rfl, f3, h⟩ := h.cons
  obtain rfl := h.nil
  obtain ⟨x0, rfl⟩ := fit_s f0
  obtain ⟨x1, rfl⟩ := fit_i f1
  obtain ⟨x2, rfl⟩ := fit_i f2
  obtain ⟨x3, rfl⟩ := fit_i f3
  exact ⟨⟨x0, x1, x2, x3⟩, rfl⟩
theorem fitL_Dusting {e : List PV} (h : FitL [.ik .i64, .ik .i64, .ik .i64, .ik .i64] e) : ∃ x : GDusting, e = x.cells := by
  obtain ⟨p0, e0, rfl, f0, h⟩ := h.cons
  obtain ⟨p1, e1, rfl, f1, h⟩ := h.cons
  obtain ⟨p2, e2, rfl, f2, h⟩ := h.cons
  obtain ⟨p3, e3, rfl, f3, h⟩ := h.cons
  obtain rfl := h.nil
  obtain ⟨x0, rfl⟩ := fit_i f0
  obtain ⟨x1, rfl⟩ := fit_i f1
  obtain ⟨x2, rfl⟩ := fit_i f2
  obtain ⟨x3, rfl⟩ := fit_i f3
  exact ⟨⟨x0, x1, x2, x3⟩, rfl⟩
theorem fitL_Heading {e : List PV} (h : FitL [.ss, .ik .i64, .ik .i64] e) : ∃ x : GHeading, e = x.cells := by
  obtain ⟨p0, e0, rfl, f0, h⟩ := h.cons
  obtain ⟨p1, e1, rfl, f1, h⟩ := h.cons
  obtain ⟨p2, e2, rfl, f2, h⟩ := h.cons
  obtain rfl := h.nil
  obtain ⟨x0, rfl⟩ := fit_s f0
  obtain ⟨x1, rfl⟩ := fit_i f1
  obtain ⟨x2, rfl⟩ := fit_i f2
  exact ⟨⟨x0, x1, x2⟩, rfl⟩
theorem fitL_Fire {e : List PV} (h : FitL [.ik .i64, .ik .i64, .ik .i64] e) : ∃ x : GFire, e = x.cells := by
  obtain ⟨p0, e0, rfl, f0, h⟩ := h.cons
  obtain ⟨p1, e1, rfl, f1, h⟩ := h.cons
  obtain ⟨p2, e2, rfl, f2, h⟩ := h.cons
  obtain rfl := h.nil
  obtain ⟨x0, rfl⟩ := fit_i f0
  obtain ⟨x1, rfl⟩ := fit_i f1
  obtain ⟨x2, rfl⟩ := fit_i f2
  exact ⟨⟨x0, x1, x2⟩, rfl⟩
theorem fitL_Mode {e : List PV} (h : FitL [.ss, .ik .i64, .ik .i64] e) : ∃ x : GMode, e = x.cells := by
  obtain ⟨p0, e0, rfl, f0, h⟩ := h.cons
  obtain ⟨p1, e1, rfl, f1, h⟩ := h.cons
  obtain ⟨p2, e2, rfl, f2, h⟩ := h.cons
  obtain rfl := h.nil
  obtain ⟨x0, rfl⟩ := fit_s f0
  obtain ⟨x1, rfl⟩ := fit_i f1
  obtain ⟨x2, rfl⟩ := fit_i f2
  exact ⟨⟨x0, x1, x2⟩, rfl⟩
theorem fitL_Sensor {e : List PV} (h : FitL [.ss, .ik .i64, .ik .i64, .ik .i64, .ik .i64] e) : ∃ x : GSensor, e = x.cells := by
  obtain ⟨p0, e0, rfl, f0, h⟩ := h.cons
  obtain ⟨p1, e1, rfl, f1, h⟩ := h.cons
  obtain ⟨p2, e2, rfl, f2, h⟩ := h.cons
  obtain ⟨p3, e3, rfl, f3, h⟩ := h.cons
  obtain ⟨p4, e4, rfl, f4, h⟩ := h.cons
  obtain rfl := h.nil
  obtain ⟨x0, rfl⟩ := fit_s f0
  obtain ⟨x1, rfl⟩ := fit_i f1
  obtain ⟨x2, rfl⟩ := fit_i f2
  obtain ⟨x3, rfl⟩ := fit_i f3
  obtain ⟨x4, rfl⟩ := fit_i f4
  exact ⟨⟨x0, x1, x2, x3, x4⟩, rfl⟩
theorem fitL_Edge {e : List PV} (h : FitL [.ik .i64, .ik .i64, .ik .i64] e) : ∃ x : GEdge, e = x.cells := by
  obtain ⟨p0, e0, rfl, f0, h⟩ := h.cons
  obtain ⟨p1, e1, rfl, f1, h⟩ := h.cons
  obtain ⟨p2, e2, rfl, f2, h⟩ := h.cons
  obtain rfl := h.nil
  obtain ⟨x0, rfl⟩ := fit_i f0
  obtain ⟨x1, rfl⟩ := fit_i f1
  obtain ⟨x2, rfl⟩ := fit_i f2
  exact ⟨⟨x0, x1, x2⟩, rfl⟩
end Go.Av
