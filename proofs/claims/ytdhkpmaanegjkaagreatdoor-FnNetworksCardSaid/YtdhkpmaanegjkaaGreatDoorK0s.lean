/- Contracts of functions of the program, and what they compute. Conditions: those that each theorem states. -/
import Derived.Test.YtdhkpmaanegjkaaGreatDoorProg
import Derived.Test.YtdhkpmaanegjkaaGreatDoorM1
import Derived.Handed
import Derived.Shelf.Vars
import Derived.Lib.LaidTab
import Derived.LaidSub
import Derived.MakeChecks
set_option linter.unusedVariables false
set_option linter.unusedSimpArgs false
namespace Go.Av
open Go Go.RowKit
theorem returns_knowing {H : Type} {enc : TypeId × Value → H} {C : Checked} {os : Os} {f : FuncId} {fn : Func} {s : ChangeSpec} {X : World → Array Value → Prop}
    (hX : ∀ (w w' : World) (args : Array Value), w.heap = w'.heap → X w args → X w' args)
    (own : ownKnob C.prog.godebug = none) (started : os.Started) (noInit : C.prog.inits.idxOf? f = none) (hfn : C.prog.funcs[f]? = some fn)
    (witness : ∃ (w : World) (tape : Tape) (i : Input), w.os = os ∧ (w.forCall tape i).Shaped C.prog ∧ i.vars = [] ∧ Input.okWide C.prog (w.forCall tape i) .any w.heap.size f i ∧
      ((s.pre enc C.prog fn [] false (w.forCall tape i).memory i.args ∧ X (w.forCall tape i).memory i.args) ∧ sizedMet enc C.prog fn (OpenSpec.ofChange s) false (w.forCall tape i).memory i.args) ∧ ({} : Assume).holds C.prog (lone (Frame.enter C.prog f i.args .normal) [] (w.forCall tape i)))
    (contract : ∀ (W : World) (base : Nat) (args : Array Value) (ds gs : List (DataW H)) (before : List MemPlace),
      (∀ (j : Nat) t v, fn.params[j]? = some t → args[j]? = some v → Value.okWide C.prog W .any base t v) →
      DataW.Whole enc C.prog fn.params.toList s.vars false W args.toList ds gs before → X W args → W.ShapedOpen C.prog →
      Calls C.prog f args W fun e W' => ∃ v, e = .returned v ∧ s.post enc C.prog fn false true false false W args v W') :
    ReturnsInHanded {} C os f .any (fun w args => (s.pre enc C.prog fn [] false w args ∧ X w args) ∧ sizedMet enc C.prog fn (OpenSpec.ofChange s) false w args) (s.post enc C.prog fn false true false false) := by
  refine returnsInHanded_of_calls own started noInit witness fun w tape i _ hsh _ hok hpre _ => ?_
  obtain ⟨⟨⟨ds, gs, before, hw, _⟩, hx⟩, _⟩ := hpre
  obtain ⟨_, _, _, fn', hfn', _, _, _, _, hval⟩ := hok
  cases Option.some.inj (hfn'.symm.trans hfn)
  have hall := contract (w.forCall tape i) w.heap.size i.args ds gs before hval (DataW.Whole.of_heap (w' := w.forCall tape i) (by rfl) hw) (hX _ _ _ (by rfl) hx) hsh
  refine hall.mono fun e W' ⟨v, he, hp⟩ => ?_
  rw [he]
  exact ChangeSpec.post_blind hp
theorem tabK_of {P : Program} {W : World} {l : List (String × DataW Unit)} (h : laidMetH P l W) (hsh : W.ShapedOpen P) (hl : (l.filter fun x => x.1 == p10N) = [(p10N, Lib.tabData .u64 Lib.pow10Tab)])
    {g : Nat} {t e : TypeId} {n : Nat} (hg : P.globalNamed p10N = some g) (hty : (P.globals[g]?).map (·.type) = some t) (ht : P.underlying t = some (.array n e)) (he : P.underlying e = some (.int .u64)) (hce : P.cellsOf e = 1) (hct : P.cellsOf t = n)
    {g3 : Nat} {t3 : TypeId} {zero : Array Value} (hg3 : P.globalNamed mlN = some g3) (h3 : g3 < P.globals.size) (h30 : ((begin P (fun _ _ => 0) default).world.heap[g3]?).bind Obj.row? = some (zero, t3)) (hz3 : zero.size = 1) (hb3 : P.buildable t3 = true) (hc3 : P.cellTypes P.depth t3 = some [t3]) (hu3 : P.underlying t3 = some (.int .i64)) :
    TabK P W (fun b => b < W.heap.size) := by
  have h1 := h.filter fun x => x.1 == p10N
  rw [hl, MakeChecks.laidMetH_plain _ _ _ (by rfl)] at h1
  have h2 : Lib.TabIs P W p10N .u64 Lib.pow10Tab := Lib.tabIs_of_head hg hty ht he hce hct h1
  obtain ⟨m, hm⟩ := Go.Proofs.cell_of_shapedOpen_int hsh h3 h30 hz3 hb3 hc3 hu3
  refine ⟨fun g' hg' => ?_, h2, fun g' hg' => ?_, fun g' hg' => ?_⟩
  · obtain rfl := Option.some.inj (hg.symm.trans hg')
    apply Nat.lt_of_not_le
    intro hle
    unfold Lib.TabIs World.var? at h2
    rw [hg] at h2
    simp only [Option.bind_some] at h2
    rw [Array.getElem?_eq_none hle] at h2
    cases h2
  · obtain rfl := Option.some.inj (hg3.symm.trans hg')
    apply Nat.lt_of_not_le
    intro hle
    unfold World.cell? at hm
    simp only [Array.getElem?_eq_none hle] at hm
    cases hm
  · obtain rfl := Option.some.inj (hg3.symm.trans hg')
    exact ⟨m, hm⟩
end Go.Av
