import Derived.Test.YtcahaecjjochbaaDoorAtB
set_option linter.unusedVariables false
set_option linter.unusedSimpArgs false
/- Ignore: texts of rules; what has a path; the last that has it. -/
namespace Go.At
open Go Go.Ev Go.Proofs
open Go.Ln (u8b_t u8b_f lines lines_len line_len lf crlf binary idx idx_eq unfeed unfeed_len psplit_snd rsplit_snd)
open Go.Gb (isPath isPat matchF pis_snd ris_snd gis_snd r7is_snd gmatch_snd r7match_snd gPart_snd r7part_snd)
set_option linter.unusedVariables false
set_option linter.unusedSimpArgs false
attribute [local go_sem] eqs implies_true List.map_cons List.map_nil kl klL roD roL Option.map_some Option.map_none Option.getD_some Option.getD_none binVal binObl unVal if_true if_false eq_self passA frnD resD content getH getR getW viaNot viaSlot viaBox viaDeep viaMem List.contains_cons List.contains_nil grabs peeks okCells isCell place cellsOf chunk elt List.headD_cons List.length_cons List.length_nil List.take_succ_cons List.take_zero List.drop_succ_cons List.drop_zero List.nil_append List.cons_append List.append_nil List.all_cons List.all_nil plainC takeR setW over reCell List.getElem?_cons_zero List.getElem?_cons_succ List.set_cons_zero List.take_length outV resG plainV pack outVG outBx List.set_cons_succ Ref.idx Ref.addOff beq_self_eq_true bxL Option.bind_some writeR isLit viaBoxes capsPA boxPA nsOf noDup boxesAt argG passG passD rhoIn rhoOut idxIn tr trL List.getD_cons_zero gives pasOf isPtr Ins.d List.getD_cons_succ resL frnL List.getLast?_nil frnL_fs roL_fs resL_fs passL_fs klL_fs trL_fs map_roD_fs fs_length ruleT
variable {m : Int}
theorem name_len (p : Bs) : (name p).length ≤ p.length := by
  unfold name; split
  · simp
  · exact Nat.le_refl _
abbrev hst (pat dir p : Bs) (nt fo an b : Bool) : St := mkS [(1, S p), (3, .ptr ⟨.box 3 0, []⟩), (7, B b)] [(3, some [S pat, S dir, B nt, B fo, B an])]
end Go.At

