import Derived.Test.YtfkggoohajdabaaDoorWB
import Derived.Test.YtfkggoohajdabaaDoorWE
import Derived.Test.YtfkggoohajdabaaDoorPA
import Derived.Test.YtfkggoohajdabaaDoorWC
set_option linter.unusedVariables false
set_option linter.unusedSimpArgs false
/- Hunks as text: the reference's way. -/
namespace Go.Hk
open Go Go.Ev Go.Proofs
set_option linter.unusedVariables false
set_option linter.unusedSimpArgs false
set_option maxHeartbeats 4000000
attribute [local go_sem] eqs implies_true List.map_cons List.map_nil kl klL roD roL Option.map_some Option.map_none Option.getD_some Option.getD_none binVal binObl unVal if_true if_false eq_self passA frnD resD content getH getR getW viaNot viaSlot viaBox viaDeep viaMem List.contains_cons List.contains_nil grabs peeks okCells isCell place cellsOf chunk elt List.headD_cons List.length_cons List.length_nil List.take_succ_cons List.take_zero List.drop_succ_cons List.drop_zero List.nil_append List.cons_append List.append_nil List.all_cons List.all_nil plainC takeR setW over reCell List.getElem?_cons_zero List.getElem?_cons_succ List.set_cons_zero List.take_length outV resG plainV pack outVG outBx List.set_cons_succ Ref.idx Ref.addOff beq_self_eq_true bxL Option.bind_some writeR isLit viaBoxes capsPA boxPA nsOf noDup boxesAt argG passG passD rhoIn rhoOut idxIn tr trL List.getD_cons_zero gives pasOf isPtr Ins.d List.getD_cons_succ resL frnL partB_f partB_t partB_p partB_s St.setP mixR v_slcT List.getLast?_nil List.getLast?_singleton List.dropLast_singleton List.nil_append frnL_fs roL_fs resL_fs passL_fs klL_fs trL_fs map_roD_fs fs_length hS_length frnL_hS roL_hS_own roL_hS_frn roL_hS_ro resL_hS_own resL_hS_ro klL_hS klL_hS_own klL_hS_frn passL_hS_own passL_hS_frn trL_hS_own trL_hS_frn
variable {m : Int × Bool}
open Go.Ob (dec dec_small dec_step)
end Go.Hk
namespace Go.Hk
open Go Go.Ev Go.Proofs
set_option linter.unusedVariables false
set_option linter.unusedSimpArgs false
set_option maxHeartbeats 4000000
attribute [local go_sem] eqs implies_true List.map_cons List.map_nil kl klL roD roL Option.map_some Option.map_none Option.getD_some Option.getD_none binVal binObl unVal if_true if_false eq_self passA frnD resD content getH getR getW viaNot viaSlot viaBox viaDeep viaMem List.contains_cons List.contains_nil grabs peeks okCells isCell place cellsOf chunk elt List.headD_cons List.length_cons List.length_nil List.take_succ_cons List.take_zero List.drop_succ_cons List.drop_zero List.nil_append List.cons_append List.append_nil List.all_cons List.all_nil plainC takeR setW over reCell List.getElem?_cons_zero List.getElem?_cons_succ List.set_cons_zero List.take_length outV resG plainV pack outVG outBx List.set_cons_succ Ref.idx Ref.addOff beq_self_eq_true bxL Option.bind_some writeR isLit viaBoxes capsPA boxPA nsOf noDup boxesAt argG passG passD rhoIn rhoOut idxIn tr trL List.getD_cons_zero gives pasOf isPtr Ins.d List.getD_cons_succ resL frnL partB_f partB_t partB_p partB_s St.setP mixR v_slcT List.getLast?_nil List.getLast?_singleton List.dropLast_singleton List.nil_append frnL_fs roL_fs resL_fs passL_fs klL_fs trL_fs map_roD_fs fs_length hS_length frnL_hS roL_hS_own roL_hS_frn roL_hS_ro resL_hS_own resL_hS_ro klL_hS klL_hS_own klL_hS_frn passL_hS_own passL_hS_frn trL_hS_own trL_hS_frn
variable {m : Int × Bool}
open Go.Ob (dec dec_small dec_step)
end Go.Hk
namespace Go.Hk
open Go Go.Ev Go.Proofs
set_option linter.unusedVariables false
set_option linter.unusedSimpArgs false
set_option maxHeartbeats 4000000
attribute [local go_sem] eqs implies_true List.map_cons List.map_nil kl klL roD roL Option.map_some Option.map_none Option.getD_some Option.getD_none binVal binObl unVal if_true if_false eq_self passA frnD resD content getH getR getW viaNot viaSlot viaBox viaDeep viaMem List.contains_cons List.contains_nil grabs peeks okCells isCell place cellsOf chunk elt List.headD_cons List.length_cons List.length_nil List.take_succ_cons List.take_zero List.drop_succ_cons List.drop_zero List.nil_append List.cons_append List.append_nil List.all_cons List.all_nil plainC takeR setW over reCell List.getElem?_cons_zero List.getElem?_cons_succ List.set_cons_zero List.take_length outV resG plainV pack outVG outBx List.set_cons_succ Ref.idx Ref.addOff beq_self_eq_true bxL Option.bind_some writeR isLit viaBoxes capsPA boxPA nsOf noDup boxesAt argG passG passD rhoIn rhoOut idxIn tr trL List.getD_cons_zero gives pasOf isPtr Ins.d List.getD_cons_succ resL frnL partB_f partB_t partB_p partB_s St.setP mixR v_slcT List.getLast?_nil List.getLast?_singleton List.dropLast_singleton List.nil_append frnL_fs roL_fs resL_fs passL_fs klL_fs trL_fs map_roD_fs fs_length hS_length frnL_hS roL_hS_own roL_hS_frn roL_hS_ro resL_hS_own resL_hS_ro klL_hS klL_hS_own klL_hS_frn passL_hS_own passL_hS_frn trL_hS_own trL_hS_frn
variable {m : Int × Bool}
end Go.Hk

