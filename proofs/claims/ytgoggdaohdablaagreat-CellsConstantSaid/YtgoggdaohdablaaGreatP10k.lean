import Derived.Test.YtgoggdaohdablaaGreatP10j
import Derived.Test.YtgoggdaohdablaaGreatSame
namespace Go.Proofs.YtgoggdaohdablaaGreat
open Go.Eng
set_option maxRecDepth 100000
set_option maxHeartbeats 4000000
set_option linter.unusedVariables false
set_option linter.unusedSimpArgs false

theorem rstarts_ok (e : List TNode) : Ct Tryz.prog 25 [.tv (rSlice rNode) e] (sv2 ((structF e).1, (structF e).2.2)) := by
  refine ct_intro Tryz.func25 rfl rfl Tryz.ntmps25 rfl rfl ?_
  intro w0 ok0
  refine j_seq ?_
  refine j_region ?_
  refine jg_adr _ rfl _ rfl rfl (op_assign (.base rfl)) ?_
  refine jg_adr _ rfl _ rfl rfl (op_assign (.base rfl)) ?_
  refine jg_nil ?_
  refine jn_keep [0] [] (.cons rfl .nil) .nil ?_
  refine jn_seq (j_seq ?_)
  refine j_region ?_
  refine jg_adr _ rfl _ rfl rfl (op_move (.base rfl)) ?_
  refine jg_adr _ rfl _ rfl rfl (op_call (rstructure_ok e) (.cons (.base rfl) .nil) rfl rfl) ?_
  refine jg_adr _ rfl _ rfl rfl (op_move (.base rfl)) ?_
  refine jg_adr _ rfl _ rfl rfl (op_ext30 (.base rfl)) ?_
  refine jg_adr _ rfl _ rfl rfl (op_ext31 (.base rfl)) ?_
  refine jg_adr _ rfl _ rfl rfl (op_ext32 (.base rfl)) ?_
  refine jg_adr _ rfl _ rfl rfl (op_assign (.base rfl)) ?_
  refine jg_adr _ rfl _ rfl rfl (op_assign (.base rfl)) ?_
  refine jg_adr _ rfl _ rfl rfl (op_assign (.base rfl)) ?_
  refine jg_nil ?_
  refine jn_keep [4, 6] [] (.cons rfl (.cons rfl .nil)) .nil ?_
  refine jn_seq (j_seq ?_)
  refine j_region ?_
  refine jg_adr _ rfl _ rfl rfl (op_move (.base rfl)) ?_
  refine jg_adr _ rfl _ rfl rfl (op_move (.base rfl)) ?_
  refine jg_adr _ rfl _ rfl rfl (op_assign (.base rfl)) ?_
  refine jg_adr _ rfl _ rfl rfl (op_assign (.base rfl)) ?_
  refine jg_nil ?_
  refine jn_keep [2, 3] [] (.cons rfl (.cons rfl .nil)) .nil ?_
  refine jn_seq (j_ret ?_)
  exact jr_fin2 Tryz.results25 (res_tmp rfl) (res_tmp rfl) ⟨rfl, rfl⟩ rfl

end Go.Proofs.YtgoggdaohdablaaGreat
