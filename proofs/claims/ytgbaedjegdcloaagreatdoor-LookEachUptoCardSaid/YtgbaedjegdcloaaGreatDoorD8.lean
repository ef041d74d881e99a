/- A part of the proof: see the last text. -/
import Derived.Test.YtgbaedjegdcloaaGreatDoorD7
set_option linter.unusedVariables false
set_option linter.unusedSimpArgs false
set_option linter.unusedSectionVars false
set_option linter.defProp false
set_option maxRecDepth 100000
set_option maxHeartbeats 4000000
namespace Go.PM
variable [AA]
theorem Aa.laxCell {P:Program} {rd:Option Nat} {c:Code} {s:St} {Φ:AX -> St -> Prop} (id j:Nat) {cs:List AV} {x:AV} (hh:s.h[id]? = some (.cells cs)) (hx:cs[j]? = some x) (h1:x.lax.single = true)
  (h:Aa P rd c ⟨s.t,s.h.set id (.cells (cs.set j x.lax)),s.d⟩ Φ):Aa P rd c s Φ:=by
 intro F M hb a ro hs hr;exact h F M hb a ro ⟨hs.tm,hs.df,cells_retell hs.hp hh hx h1 (fun v hv=>hv.lax),hs.ok⟩ hr
end Go.PM
