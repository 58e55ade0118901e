/- A small language, its meaning on data, a check, and why the check is sound: part 5. -/
import Derived.Test.YtioopdicoidmcaaOD
import Derived.SizedLaws
import Derived.KernelRfl
set_option linter.all false
/- A law's lifted form, out of what its data say. -/
set_option linter.unusedVariables false
namespace Go.Opt
open Go.RowKit Go.ChangeShapes

/-- The types that lead on from a list. -/
def stepTs (P : Program) (ts : List TypeId) : List TypeId := ts.flatMap fun t => match P.underlying t with
  | some (.slice e) => [e]
  | some (.struct fs) => fs.toList.map (·.type)
  | _ => []
def addTs : List TypeId → List TypeId → List TypeId
  | ts, [] => ts
  | ts, t :: r => if ts.contains t then addTs ts r else addTs (ts ++ [t]) r
def reachTs (P : Program) : Nat → List TypeId → List TypeId
  | 0, ts => ts
  | n + 1, ts => reachTs P n (addTs ts (stepTs P ts))

/-- What is asked of a law, all in one. -/
def lawOk (P : Program) (fn : Func) (sg : Sg) : Bool :=
  (match sg.res with | [.v false [.sc]] => true | _ => false) &&
  closedOk P (reachTs P 10 fn.params.toList) && fn.params.toList.all (fun t => (reachTs P 10 fn.params.toList).contains t) && fitsArgs P fn.params.toList sg.args sg.aggs &&
  laidOutB P && fn.params.toList.all (fun t => P.readableRec t && decide (t < P.types.size)) &&
  (match fn.resultTypes.toList with | [tb] => (match P.underlying tb with | some .bool => true | _ => false) | _ => false)

def lawOkG (P : Program) (fn : Func) : Option Sg → Bool
  | some sg => lawOk P fn sg
  | none => false

/-- A type's zero value. -/
def zeroOf (P : Program) (t : TypeId) : Value := match P.types[t]? with
  | some i => match i.zero with
    | some z => z
    | none => .int .i64 0
  | none => .int .i64 0

theorem law_lifted {H : Type} {enc : TypeId × Value → H} {C : Checked} {os : Os} (own : ownKnob C.prog.godebug = none) (started : os.Started) {N : Names} {D : Table} {G : Nat → Option Sg} (hG : Ground C.prog N D G)
    {f : Nat} {fid : FuncId} {fn : Func} (noInit : C.prog.inits.idxOf? fid = none) (hfn : C.prog.funcs[fid]? = some fn) (hN : N fid = some f) (hok : lawOkG C.prog fn (G f) = true)
    (hdata : ∀ as, ArgTys C.prog fn.params.toList as → Cal D f as = some ⟨.c (.bool true), []⟩)
    {s : ChangeSpec} (hv0 : s.vars = []) (hs : ∀ ds : List (DataW H), ds.length = fn.params.size → s.fn H ds = { results := [.lit (.bool true)], args := ds })
    (witness : ∃ (w : World) (tape : Tape) (i : Input), w.os = os ∧ (w.forCall tape i).Shaped C.prog ∧ i.vars = [] ∧ Input.okWide C.prog (w.forCall tape i) .any w.heap.size fid i ∧
      s.pre6 enc C.prog fn [] false (w.forCall tape i).memory i.args ∧ ({} : Assume).holds C.prog (lone (Frame.enter C.prog fid i.args .normal) [] (w.forCall tape i))) :
    ReturnsInHanded {} C os fid .any (s.pre6 enc C.prog fn [] false) (s.post enc C.prog fn false true false false) := by
  refine returnsInHanded_of_change_sized (C := C) own started noInit hfn witness ?_
  intro W base args ds gs before hval hW _ _ _
  obtain ⟨sg, hg, hok⟩ : ∃ sg, G f = some sg ∧ lawOk C.prog fn sg = true := by
    cases hg : G f with
    | none => rw [hg] at hok; cases hok
    | some sg => rw [hg] at hok; exact ⟨sg, rfl, hok⟩
  simp only [lawOk, Bool.and_eq_true, List.all_eq_true, decide_eq_true_eq] at hok
  obtain ⟨⟨⟨⟨⟨⟨h1, h2⟩, h3⟩, h4⟩, h5⟩, h6⟩, h7⟩ := hok
  have hres : sg.res = [.v false [.sc]] := by
    split at h1
    · rename_i h; exact h
    · cases h1
  obtain ⟨tb, hrt, htb⟩ : ∃ tb, fn.resultTypes = #[tb] ∧ C.prog.underlying tb = some .bool := by
    split at h7
    · rename_i tb h
      refine ⟨tb, by rw [← Array.toList_inj]; simp [h], ?_⟩
      split at h7
      · rename_i h; exact h
      · cases h7
    · cases h7
  exact law_calls hG hN hg hres h2 h3 h4 hdata h5 h6 hrt htb hv0 hs hval hW
end Go.Opt
