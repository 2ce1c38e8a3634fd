/- What is known beforehand of functions of the program, each entry from a run of the executor. -/
import Derived.Test.YthfkajaeikhloaaGreatDoorXgD
import Derived.Test.YthfkajaeikhloaaGreatDoorRows
import Derived.Test.YthfkajaeikhloaaGreatDoorOe
import Derived.Test.YthfkajaeikhloaaGreatDoorOc
import Derived.Test.YthfkajaeikhloaaGreatDoorOg
set_option maxRecDepth 1000000
namespace Go.Proofs.YthfkajaeikhloaaGreatDoor
open Go Go.Proofs.YthfkajaeikhloaaGreatDoor.Xq
noncomputable def xsT : Tr (List AV → Option AV) := (.node none .leaf (.node none .leaf (.node none .leaf (.node none .leaf .leaf .leaf (.node (some idxX) .leaf .leaf .leaf .leaf)) .leaf .leaf) (.node none .leaf .leaf .leaf (.node none .leaf .leaf (.node (some cntX) .leaf .leaf .leaf .leaf) .leaf)) .leaf) .leaf .leaf)
theorem xsT_eq : xsT = trL [(270, cntX), (298, idxX)] := by kernel_rfl
theorem xsOk : ∀ x ∈ ([(270, cntX), (298, idxX)] : List (Nat × (List AV → Option AV))), ExtOk Tryz.prog x.1 x.2 := by
  refine List.forall_mem_cons.2 ⟨ext_count Tryz.func270 (by kernel_rfl) (by kernel_rfl) (by kernel_rfl) (by kernel_rfl), ?_⟩
  refine List.forall_mem_cons.2 ⟨ext_index Tryz.func298 (by kernel_rfl) (by kernel_rfl) (by kernel_rfl) (by kernel_rfl), ?_⟩
  exact fun x h => nomatch h
noncomputable def wsT : Tr (St → List AV → Option (AV × St)) := (.node none .leaf .leaf (.node none .leaf .leaf .leaf (.node none .leaf .leaf (.node none .leaf (.node (some (sortedX 219 9)) .leaf .leaf .leaf .leaf) .leaf .leaf) .leaf)) .leaf)
theorem wsT_eq : wsT = trL [(195, sortedX 219 9)] := by kernel_rfl
theorem wsOk : ∀ x ∈ ([(195, sortedX 219 9)] : List (Nat × (St → List AV → Option (AV × St)))), WsOk Tryz.prog x.1 x.2 := by
  refine List.forall_mem_cons.2 ⟨sortedX_ok sortC, ?_⟩
  exact fun x h => nomatch h
noncomputable def bsT : Tr (St → List AV → Bool) := (.node none .leaf .leaf (.node none (.node none (.node none (.node (some (strsX)) .leaf .leaf .leaf .leaf) .leaf .leaf .leaf) .leaf .leaf .leaf) .leaf .leaf .leaf) .leaf)
theorem bsT_eq : bsT = trL [(87, strsX)] := by kernel_rfl
theorem bsOk : ∀ x ∈ ([(87, strsX)] : List (Nat × (St → List AV → Bool))), BoolOk Tryz.prog x.1 x.2 := by
  refine List.forall_mem_cons.2 ⟨strsX_ok (by kernel_rfl) keyC, ?_⟩
  exact fun x h => nomatch h
noncomputable def onT : Option Nat := some 150
theorem onOk : ∀ f, onT = some f → OnceOk Tryz.prog f := fun f h => by
  cases h
  exact onceOk_of onceC
noncomputable def smX : Sm := ⟨.leaf, xsT, .leaf, wsT, onT, bsT⟩
theorem smXok : SmOk Tryz.prog smX := by
  have h : smX = ⟨trL [], xsT, trL [], wsT, onT, bsT⟩ := rfl
  rw [h, xsT_eq, wsT_eq, bsT_eq]
  exact smOk_list (l := []) (hl := []) (by kernel_rfl) (fun x h => nomatch h) xsOk (fun x h => nomatch h) wsOk onOk bsOk
noncomputable def e142_y1_credit_joint : Ent := ⟨[], [(.str 15 629265433226081058099649014913396340)], (.bool true), [], 1001⟩
theorem e142_y1_credit_joint_ok : EntAt Tryz.prog 142 e142_y1_credit_joint := entOk_run (by kernel_rfl) smXok (fuel := 60) (by kernel_rfl) (by kernel_rfl) (fun t => by kernel_rfl) (by kernel_rfl)
noncomputable def e142_y1_credit_single : Ent := ⟨[], [(.str 16 161091950905876750873510157687747734629)], (.bool true), [], 1001⟩
theorem e142_y1_credit_single_ok : EntAt Tryz.prog 142 e142_y1_credit_single := entOk_run (by kernel_rfl) smXok (fuel := 60) (by kernel_rfl) (by kernel_rfl) (fun t => by kernel_rfl) (by kernel_rfl)
noncomputable def e142_y1_line_credit : Ent := ⟨[], [(.str 14 2458068109377376287516423803398516)], (.bool true), [], 1001⟩
theorem e142_y1_line_credit_ok : EntAt Tryz.prog 142 e142_y1_line_credit := entOk_run (by kernel_rfl) smXok (fuel := 60) (by kernel_rfl) (by kernel_rfl) (fun t => by kernel_rfl) (by kernel_rfl)
noncomputable def e142_y1_line_deduct : Ent := ⟨[], [(.str 14 2458068109377376287517467464786804)], (.bool true), [], 1001⟩
theorem e142_y1_line_deduct_ok : EntAt Tryz.prog 142 e142_y1_line_deduct := entOk_run (by kernel_rfl) smXok (fuel := 60) (by kernel_rfl) (by kernel_rfl) (fun t => by kernel_rfl) (by kernel_rfl)
noncomputable def e142_y1_line_due : Ent := ⟨[], [(.str 11 146512276493154542894216549)], (.bool true), [], 1001⟩
theorem e142_y1_line_due_ok : EntAt Tryz.prog 142 e142_y1_line_due := entOk_run (by kernel_rfl) smXok (fuel := 60) (by kernel_rfl) (by kernel_rfl) (fun t => by kernel_rfl) (by kernel_rfl)
noncomputable def e142_y1_line_income : Ent := ⟨[], [(.str 14 2458068109377376287523003660463461)], (.bool true), [], 1001⟩
theorem e142_y1_line_income_ok : EntAt Tryz.prog 142 e142_y1_line_income := entOk_run (by kernel_rfl) smXok (fuel := 60) (by kernel_rfl) (by kernel_rfl) (fun t => by kernel_rfl) (by kernel_rfl)
noncomputable def e142_y1_line_tax : Ent := ⟨[], [(.str 11 146512276493154542895260024)], (.bool true), [], 1001⟩
theorem e142_y1_line_tax_ok : EntAt Tryz.prog 142 e142_y1_line_tax := entOk_run (by kernel_rfl) smXok (fuel := 60) (by kernel_rfl) (by kernel_rfl) (fun t => by kernel_rfl) (by kernel_rfl)
noncomputable def e142_y1_line_taxable : Ent := ⟨[], [(.str 15 629265436000608329608970958130015333)], (.bool true), [], 1001⟩
theorem e142_y1_line_taxable_ok : EntAt Tryz.prog 142 e142_y1_line_taxable := entOk_run (by kernel_rfl) smXok (fuel := 60) (by kernel_rfl) (by kernel_rfl) (fun t => by kernel_rfl) (by kernel_rfl)
noncomputable def e142_y1_phase : Ent := ⟨[], [(.str 8 8732812212770534245)], (.bool true), [], 1001⟩
theorem e142_y1_phase_ok : EntAt Tryz.prog 142 e142_y1_phase := entOk_run (by kernel_rfl) smXok (fuel := 60) (by kernel_rfl) (by kernel_rfl) (fun t => by kernel_rfl) (by kernel_rfl)
noncomputable def e142_y1_scale_joint : Ent := ⟨[], [(.str 14 2458068117811283538074625607560820)], (.bool true), [], 1001⟩
theorem e142_y1_scale_joint_ok : EntAt Tryz.prog 142 e142_y1_scale_joint := entOk_run (by kernel_rfl) smXok (fuel := 60) (by kernel_rfl) (by kernel_rfl) (fun t => by kernel_rfl) (by kernel_rfl)
noncomputable def e142_y1_scale_single : Ent := ⟨[], [(.str 15 629265438159688585747114025453841509)], (.bool true), [], 1001⟩
theorem e142_y1_scale_single_ok : EntAt Tryz.prog 142 e142_y1_scale_single := entOk_run (by kernel_rfl) smXok (fuel := 60) (by kernel_rfl) (by kernel_rfl) (fun t => by kernel_rfl) (by kernel_rfl)
noncomputable def e142_y1_standard_joint : Ent := ⟨[], [(.str 17 41239539756580232332335341670056365485684)], (.bool true), [], 1001⟩
theorem e142_y1_standard_joint_ok : EntAt Tryz.prog 142 e142_y1_standard_joint := entOk_run (by kernel_rfl) smXok (fuel := 60) (by kernel_rfl) (by kernel_rfl) (fun t => by kernel_rfl) (by kernel_rfl)
noncomputable def e142_y1_standard_single : Ent := ⟨[], [(.str 18 10557322177684539477077847467544299482606693)], (.bool true), [], 1001⟩
theorem e142_y1_standard_single_ok : EntAt Tryz.prog 142 e142_y1_standard_single := entOk_run (by kernel_rfl) smXok (fuel := 60) (by kernel_rfl) (by kernel_rfl) (fun t => by kernel_rfl) (by kernel_rfl)
noncomputable def e142_y2_credit_joint : Ent := ⟨[], [(.str 15 629285715635684709770072962164682356)], (.bool true), [], 1001⟩
theorem e142_y2_credit_joint_ok : EntAt Tryz.prog 142 e142_y2_credit_joint := entOk_run (by kernel_rfl) smXok (fuel := 60) (by kernel_rfl) (by kernel_rfl) (fun t => by kernel_rfl) (by kernel_rfl)
noncomputable def e142_y2_credit_single : Ent := ⟨[], [(.str 16 161097143202735285701138688184076954725)], (.bool true), [], 1001⟩
theorem e142_y2_credit_single_ok : EntAt Tryz.prog 142 e142_y2_credit_single := entOk_run (by kernel_rfl) smXok (fuel := 60) (by kernel_rfl) (by kernel_rfl) (fun t => by kernel_rfl) (by kernel_rfl)
noncomputable def e142_y2_line_income : Ent := ⟨[], [(.str 14 2458147337539890551860597204413797)], (.bool true), [], 1001⟩
theorem e142_y2_line_income_ok : EntAt Tryz.prog 142 e142_y2_line_income := entOk_run (by kernel_rfl) smXok (fuel := 60) (by kernel_rfl) (by kernel_rfl) (fun t => by kernel_rfl) (by kernel_rfl)
noncomputable def e142_y2_line_loss : Ent := ⟨[], [(.str 12 37508351708067177610227970931)], (.bool true), [], 1001⟩
theorem e142_y2_line_loss_ok : EntAt Tryz.prog 142 e142_y2_line_loss := entOk_run (by kernel_rfl) smXok (fuel := 60) (by kernel_rfl) (by kernel_rfl) (fun t => by kernel_rfl) (by kernel_rfl)
noncomputable def e142_y2_line_used : Ent := ⟨[], [(.str 12 37508351708067177610379224420)], (.bool true), [], 1001⟩
theorem e142_y2_line_used_ok : EntAt Tryz.prog 142 e142_y2_line_used := entOk_run (by kernel_rfl) smXok (fuel := 60) (by kernel_rfl) (by kernel_rfl) (fun t => by kernel_rfl) (by kernel_rfl)
noncomputable def e142_y2_phase : Ent := ⟨[], [(.str 8 8733093687747244901)], (.bool true), [], 1001⟩
theorem e142_y2_phase_ok : EntAt Tryz.prog 142 e142_y2_phase := entOk_run (by kernel_rfl) smXok (fuel := 60) (by kernel_rfl) (by kernel_rfl) (fun t => by kernel_rfl) (by kernel_rfl)
noncomputable def e142_y2_scale_joint : Ent := ⟨[], [(.str 14 2458147345973797802412219151511156)], (.bool true), [], 1001⟩
theorem e142_y2_scale_joint_ok : EntAt Tryz.prog 142 e142_y2_scale_joint := entOk_run (by kernel_rfl) smXok (fuel := 60) (by kernel_rfl) (by kernel_rfl) (fun t => by kernel_rfl) (by kernel_rfl)
noncomputable def e142_y2_scale_single : Ent := ⟨[], [(.str 15 629285720569292237417537972705127525)], (.bool true), [], 1001⟩
theorem e142_y2_scale_single_ok : EntAt Tryz.prog 142 e142_y2_scale_single := entOk_run (by kernel_rfl) smXok (fuel := 60) (by kernel_rfl) (by kernel_rfl) (fun t => by kernel_rfl) (by kernel_rfl)
noncomputable def e142_y2_standard_joint : Ent := ⟨[], [(.str 17 41240868984576017248208245477116645830260)], (.bool true), [], 1001⟩
theorem e142_y2_standard_joint_ok : EntAt Tryz.prog 142 e142_y2_standard_joint := entOk_run (by kernel_rfl) smXok (fuel := 60) (by kernel_rfl) (by kernel_rfl) (fun t => by kernel_rfl) (by kernel_rfl)
noncomputable def e142_y2_standard_single : Ent := ⟨[], [(.str 18 10557662460051460415541310842151731250818149)], (.bool true), [], 1001⟩
theorem e142_y2_standard_single_ok : EntAt Tryz.prog 142 e142_y2_standard_single := entOk_run (by kernel_rfl) smXok (fuel := 60) (by kernel_rfl) (by kernel_rfl) (fun t => by kernel_rfl) (by kernel_rfl)
noncomputable def e142_y3_back_joint : Ent := ⟨[], [(.str 13 9602447474902989087307809255028)], (.bool true), [], 1001⟩
theorem e142_y3_back_joint_ok : EntAt Tryz.prog 142 e142_y3_back_joint := entOk_run (by kernel_rfl) smXok (fuel := 60) (by kernel_rfl) (by kernel_rfl) (fun t => by kernel_rfl) (by kernel_rfl)
noncomputable def e142_y3_back_single : Ent := ⟨[], [(.str 14 2458226553575165206360669087558757)], (.bool true), [], 1001⟩
theorem e142_y3_back_single_ok : EntAt Tryz.prog 142 e142_y3_back_single := entOk_run (by kernel_rfl) smXok (fuel := 60) (by kernel_rfl) (by kernel_rfl) (fun t => by kernel_rfl) (by kernel_rfl)
noncomputable def e142_y3_credit_joint : Ent := ⟨[], [(.str 15 629305998045288361440496909415968372)], (.bool true), [], 1001⟩
theorem e142_y3_credit_joint_ok : EntAt Tryz.prog 142 e142_y3_credit_joint := entOk_run (by kernel_rfl) smXok (fuel := 60) (by kernel_rfl) (by kernel_rfl) (fun t => by kernel_rfl) (by kernel_rfl)
noncomputable def e142_y3_credit_single : Ent := ⟨[], [(.str 16 161102335499593820528767218680406174821)], (.bool true), [], 1001⟩
theorem e142_y3_credit_single_ok : EntAt Tryz.prog 142 e142_y3_credit_single := entOk_run (by kernel_rfl) smXok (fuel := 60) (by kernel_rfl) (by kernel_rfl) (fun t => by kernel_rfl) (by kernel_rfl)
noncomputable def e142_y3_line_due : Ent := ⟨[], [(.str 11 146521721226120282184643941)], (.bool true), [], 1001⟩
theorem e142_y3_line_due_ok : EntAt Tryz.prog 142 e142_y3_line_due := entOk_run (by kernel_rfl) smXok (fuel := 60) (by kernel_rfl) (by kernel_rfl) (fun t => by kernel_rfl) (by kernel_rfl)
noncomputable def e142_y3_line_surtax : Ent := ⟨[], [(.str 14 2458226565702404816209216181395832)], (.bool true), [], 1001⟩
theorem e142_y3_line_surtax_ok : EntAt Tryz.prog 142 e142_y3_line_surtax := entOk_run (by kernel_rfl) smXok (fuel := 60) (by kernel_rfl) (by kernel_rfl) (fun t => by kernel_rfl) (by kernel_rfl)
noncomputable def e142_y3_phase : Ent := ⟨[], [(.str 8 8733375162723955557)], (.bool true), [], 1001⟩
theorem e142_y3_phase_ok : EntAt Tryz.prog 142 e142_y3_phase := entOk_run (by kernel_rfl) smXok (fuel := 60) (by kernel_rfl) (by kernel_rfl) (fun t => by kernel_rfl) (by kernel_rfl)
noncomputable def e142_y3_scale_joint : Ent := ⟨[], [(.str 14 2458226574136312066749812695461492)], (.bool true), [], 1001⟩
theorem e142_y3_scale_joint_ok : EntAt Tryz.prog 142 e142_y3_scale_joint := entOk_run (by kernel_rfl) smXok (fuel := 60) (by kernel_rfl) (by kernel_rfl) (fun t => by kernel_rfl) (by kernel_rfl)
noncomputable def e142_y3_scale_single : Ent := ⟨[], [(.str 15 629306002978895889087961919956413541)], (.bool true), [], 1001⟩
theorem e142_y3_scale_single_ok : EntAt Tryz.prog 142 e142_y3_scale_single := entOk_run (by kernel_rfl) smXok (fuel := 60) (by kernel_rfl) (by kernel_rfl) (fun t => by kernel_rfl) (by kernel_rfl)
noncomputable def e142_y3_standard_joint : Ent := ⟨[], [(.str 17 41242198212571802164081149284176926174836)], (.bool true), [], 1001⟩
theorem e142_y3_standard_joint_ok : EntAt Tryz.prog 142 e142_y3_standard_joint := entOk_run (by kernel_rfl) smXok (fuel := 60) (by kernel_rfl) (by kernel_rfl) (fun t => by kernel_rfl) (by kernel_rfl)
noncomputable def e142_y3_standard_single : Ent := ⟨[], [(.str 18 10558002742418381354004774216759163019029605)], (.bool true), [], 1001⟩
theorem e142_y3_standard_single_ok : EntAt Tryz.prog 142 e142_y3_standard_single := entOk_run (by kernel_rfl) smXok (fuel := 60) (by kernel_rfl) (by kernel_rfl) (fun t => by kernel_rfl) (by kernel_rfl)
noncomputable def e142_y4_credit_joint : Ent := ⟨[], [(.str 15 629326280454892013110920856667254388)], (.bool true), [], 1001⟩
theorem e142_y4_credit_joint_ok : EntAt Tryz.prog 142 e142_y4_credit_joint := entOk_run (by kernel_rfl) smXok (fuel := 60) (by kernel_rfl) (by kernel_rfl) (fun t => by kernel_rfl) (by kernel_rfl)
noncomputable def e142_y4_credit_single : Ent := ⟨[], [(.str 16 161107527796452355356395749176735394917)], (.bool true), [], 1001⟩
theorem e142_y4_credit_single_ok : EntAt Tryz.prog 142 e142_y4_credit_single := entOk_run (by kernel_rfl) smXok (fuel := 60) (by kernel_rfl) (by kernel_rfl) (fun t => by kernel_rfl) (by kernel_rfl)
noncomputable def e142_y4_phase : Ent := ⟨[], [(.str 8 8733656637700666213)], (.bool true), [], 1001⟩
theorem e142_y4_phase_ok : EntAt Tryz.prog 142 e142_y4_phase := entOk_run (by kernel_rfl) smXok (fuel := 60) (by kernel_rfl) (by kernel_rfl) (fun t => by kernel_rfl) (by kernel_rfl)
noncomputable def e142_y4_redo_joint : Ent := ⟨[], [(.str 13 9602757035544534318079640432244)], (.bool true), [], 1001⟩
theorem e142_y4_redo_joint_ok : EntAt Tryz.prog 142 e142_y4_redo_joint := entOk_run (by kernel_rfl) smXok (fuel := 60) (by kernel_rfl) (by kernel_rfl) (fun t => by kernel_rfl) (by kernel_rfl)
noncomputable def e142_y4_scale_joint : Ent := ⟨[], [(.str 14 2458305802298826331087406239411828)], (.bool true), [], 1001⟩
theorem e142_y4_scale_joint_ok : EntAt Tryz.prog 142 e142_y4_scale_joint := entOk_run (by kernel_rfl) smXok (fuel := 60) (by kernel_rfl) (by kernel_rfl) (fun t => by kernel_rfl) (by kernel_rfl)
noncomputable def e142_y4_scale_single : Ent := ⟨[], [(.str 15 629326285388499540758385867207699557)], (.bool true), [], 1001⟩
theorem e142_y4_scale_single_ok : EntAt Tryz.prog 142 e142_y4_scale_single := entOk_run (by kernel_rfl) smXok (fuel := 60) (by kernel_rfl) (by kernel_rfl) (fun t => by kernel_rfl) (by kernel_rfl)
noncomputable def e142_y4_standard_joint : Ent := ⟨[], [(.str 17 41243527440567587079954053091237206519412)], (.bool true), [], 1001⟩
theorem e142_y4_standard_joint_ok : EntAt Tryz.prog 142 e142_y4_standard_joint := entOk_run (by kernel_rfl) smXok (fuel := 60) (by kernel_rfl) (by kernel_rfl) (fun t => by kernel_rfl) (by kernel_rfl)
noncomputable def e142_y4_standard_single : Ent := ⟨[], [(.str 18 10558343024785302292468237591366594787241061)], (.bool true), [], 1001⟩
theorem e142_y4_standard_single_ok : EntAt Tryz.prog 142 e142_y4_standard_single := entOk_run (by kernel_rfl) smXok (fuel := 60) (by kernel_rfl) (by kernel_rfl) (fun t => by kernel_rfl) (by kernel_rfl)
noncomputable def e142_y4_undo_due : Ent := ⟨[], [(.str 11 146526444242517920888157541)], (.bool true), [], 1001⟩
theorem e142_y4_undo_due_ok : EntAt Tryz.prog 142 e142_y4_undo_due := entOk_run (by kernel_rfl) smXok (fuel := 60) (by kernel_rfl) (by kernel_rfl) (fun t => by kernel_rfl) (by kernel_rfl)
noncomputable def e142_y4_undo_joint : Ent := ⟨[], [(.str 13 9602757049877654463351962037876)], (.bool true), [], 1001⟩
theorem e142_y4_undo_joint_ok : EntAt Tryz.prog 142 e142_y4_undo_joint := entOk_run (by kernel_rfl) smXok (fuel := 60) (by kernel_rfl) (by kernel_rfl) (fun t => by kernel_rfl) (by kernel_rfl)
noncomputable def e142_y4_undo_single : Ent := ⟨[], [(.str 14 2458305804768679542627972199967845)], (.bool true), [], 1001⟩
theorem e142_y4_undo_single_ok : EntAt Tryz.prog 142 e142_y4_undo_single := entOk_run (by kernel_rfl) smXok (fuel := 60) (by kernel_rfl) (by kernel_rfl) (fun t => by kernel_rfl) (by kernel_rfl)
noncomputable def e142_y4_undo_surtax : Ent := ⟨[], [(.str 14 2458305804768679542628023807533432)], (.bool true), [], 1001⟩
theorem e142_y4_undo_surtax_ok : EntAt Tryz.prog 142 e142_y4_undo_surtax := entOk_run (by kernel_rfl) smXok (fuel := 60) (by kernel_rfl) (by kernel_rfl) (fun t => by kernel_rfl) (by kernel_rfl)
noncomputable def e87_line_credit : Ent := ⟨[], [(.str 11 131061873431803561404295540)], (.bool true), [], 1003⟩
theorem e87_line_credit_ok : EntAt Tryz.prog 87 e87_line_credit := entOk_run (by kernel_rfl) smXok (fuel := 60) (by kernel_rfl) (by kernel_rfl) (fun t => by kernel_rfl) (by kernel_rfl)
noncomputable def e87_line_deduct : Ent := ⟨[], [(.str 11 131061873431804605065683828)], (.bool true), [], 1003⟩
theorem e87_line_deduct_ok : EntAt Tryz.prog 87 e87_line_deduct := entOk_run (by kernel_rfl) smXok (fuel := 60) (by kernel_rfl) (by kernel_rfl) (fun t => by kernel_rfl) (by kernel_rfl)
noncomputable def e87_line_due : Ent := ⟨[], [(.str 8 7811896409499923813)], (.bool true), [], 1003⟩
theorem e87_line_due_ok : EntAt Tryz.prog 87 e87_line_due := entOk_run (by kernel_rfl) smXok (fuel := 60) (by kernel_rfl) (by kernel_rfl) (fun t => by kernel_rfl) (by kernel_rfl)
noncomputable def e87_line_income : Ent := ⟨[], [(.str 11 131061873431810141261360485)], (.bool true), [], 1003⟩
theorem e87_line_income_ok : EntAt Tryz.prog 87 e87_line_income := entOk_run (by kernel_rfl) smXok (fuel := 60) (by kernel_rfl) (by kernel_rfl) (fun t => by kernel_rfl) (by kernel_rfl)
noncomputable def e87_line_loss : Ent := ⟨[], [(.str 9 1999845480832114324339)], (.bool true), [], 1003⟩
theorem e87_line_loss_ok : EntAt Tryz.prog 87 e87_line_loss := entOk_run (by kernel_rfl) smXok (fuel := 60) (by kernel_rfl) (by kernel_rfl) (fun t => by kernel_rfl) (by kernel_rfl)
noncomputable def e87_line_surtax : Ent := ⟨[], [(.str 11 131061873431821166694392184)], (.bool true), [], 1003⟩
theorem e87_line_surtax_ok : EntAt Tryz.prog 87 e87_line_surtax := entOk_run (by kernel_rfl) smXok (fuel := 60) (by kernel_rfl) (by kernel_rfl) (fun t => by kernel_rfl) (by kernel_rfl)
noncomputable def e87_line_tax : Ent := ⟨[], [(.str 8 7811896409500967288)], (.bool true), [], 1003⟩
theorem e87_line_tax_ok : EntAt Tryz.prog 87 e87_line_tax := entOk_run (by kernel_rfl) smXok (fuel := 60) (by kernel_rfl) (by kernel_rfl) (fun t => by kernel_rfl) (by kernel_rfl)
noncomputable def e87_line_taxable : Ent := ⟨[], [(.str 12 33551839598546478183959653477)], (.bool true), [], 1003⟩
theorem e87_line_taxable_ok : EntAt Tryz.prog 87 e87_line_taxable := entOk_run (by kernel_rfl) smXok (fuel := 60) (by kernel_rfl) (by kernel_rfl) (fun t => by kernel_rfl) (by kernel_rfl)
noncomputable def e87_line_used : Ent := ⟨[], [(.str 9 1999845480832265577828)], (.bool true), [], 1003⟩
theorem e87_line_used_ok : EntAt Tryz.prog 87 e87_line_used := entOk_run (by kernel_rfl) smXok (fuel := 60) (by kernel_rfl) (by kernel_rfl) (fun t => by kernel_rfl) (by kernel_rfl)
noncomputable def e87_p_credit_joint : Ent := ⟨[], [(.str 14 2275305148396970284167635908783732)], (.bool true), [], 1003⟩
theorem e87_p_credit_joint_ok : EntAt Tryz.prog 87 e87_p_credit_joint := entOk_run (by kernel_rfl) smXok (fuel := 60) (by kernel_rfl) (by kernel_rfl) (fun t => by kernel_rfl) (by kernel_rfl)
noncomputable def e87_p_credit_single : Ent := ⟨[], [(.str 15 582478117989624392746924662566906981)], (.bool true), [], 1003⟩
theorem e87_p_credit_single_ok : EntAt Tryz.prog 87 e87_p_credit_single := entOk_run (by kernel_rfl) smXok (fuel := 60) (by kernel_rfl) (by kernel_rfl) (fun t => by kernel_rfl) (by kernel_rfl)
noncomputable def e87_p_phase : Ent := ⟨[], [(.str 7 31576257714025317)], (.bool true), [], 1003⟩
theorem e87_p_phase_ok : EntAt Tryz.prog 87 e87_p_phase := entOk_run (by kernel_rfl) smXok (fuel := 60) (by kernel_rfl) (by kernel_rfl) (fun t => by kernel_rfl) (by kernel_rfl)
noncomputable def e87_p_standard_joint : Ent := ⟨[], [(.str 16 149114722881127953259954015610073607796)], (.bool true), [], 1003⟩
theorem e87_p_standard_joint_ok : EntAt Tryz.prog 87 e87_p_standard_joint := entOk_run (by kernel_rfl) smXok (fuel := 60) (by kernel_rfl) (by kernel_rfl) (fun t => by kernel_rfl) (by kernel_rfl)
noncomputable def e87_p_standard_single : Ent := ⟨[], [(.str 17 38173369057568756034548228006048761867365)], (.bool true), [], 1003⟩
theorem e87_p_standard_single_ok : EntAt Tryz.prog 87 e87_p_standard_single := entOk_run (by kernel_rfl) smXok (fuel := 60) (by kernel_rfl) (by kernel_rfl) (fun t => by kernel_rfl) (by kernel_rfl)
noncomputable def e87_s_joint : Ent := ⟨[], [(.str 7 32420656992317044)], (.bool true), [], 1003⟩
theorem e87_s_joint_ok : EntAt Tryz.prog 87 e87_s_joint := entOk_run (by kernel_rfl) smXok (fuel := 60) (by kernel_rfl) (by kernel_rfl) (fun t => by kernel_rfl) (by kernel_rfl)
noncomputable def e87_s_single : Ent := ⟨[], [(.str 8 8299698059951434853)], (.bool true), [], 1003⟩
theorem e87_s_single_ok : EntAt Tryz.prog 87 e87_s_single := entOk_run (by kernel_rfl) smXok (fuel := 60) (by kernel_rfl) (by kernel_rfl) (fun t => by kernel_rfl) (by kernel_rfl)
noncomputable def e194_line_credit : Ent := ⟨[], [(.str 11 131061873431803561404295540)], (.int .i64 3), [], 1001⟩
theorem e194_line_credit_ok : EntAt Tryz.prog 194 e194_line_credit := entOk_run (by kernel_rfl) smXok (fuel := 60) (by kernel_rfl) (by kernel_rfl) (fun t => by kernel_rfl) (by kernel_rfl)
noncomputable def e194_line_deduct : Ent := ⟨[], [(.str 11 131061873431804605065683828)], (.int .i64 3), [], 1001⟩
theorem e194_line_deduct_ok : EntAt Tryz.prog 194 e194_line_deduct := entOk_run (by kernel_rfl) smXok (fuel := 60) (by kernel_rfl) (by kernel_rfl) (fun t => by kernel_rfl) (by kernel_rfl)
noncomputable def e194_line_due : Ent := ⟨[], [(.str 8 7811896409499923813)], (.int .i64 3), [], 1001⟩
theorem e194_line_due_ok : EntAt Tryz.prog 194 e194_line_due := entOk_run (by kernel_rfl) smXok (fuel := 60) (by kernel_rfl) (by kernel_rfl) (fun t => by kernel_rfl) (by kernel_rfl)
noncomputable def e194_line_income : Ent := ⟨[], [(.str 11 131061873431810141261360485)], (.int .i64 3), [], 1001⟩
theorem e194_line_income_ok : EntAt Tryz.prog 194 e194_line_income := entOk_run (by kernel_rfl) smXok (fuel := 60) (by kernel_rfl) (by kernel_rfl) (fun t => by kernel_rfl) (by kernel_rfl)
noncomputable def e194_line_loss : Ent := ⟨[], [(.str 9 1999845480832114324339)], (.int .i64 3), [], 1001⟩
theorem e194_line_loss_ok : EntAt Tryz.prog 194 e194_line_loss := entOk_run (by kernel_rfl) smXok (fuel := 60) (by kernel_rfl) (by kernel_rfl) (fun t => by kernel_rfl) (by kernel_rfl)
noncomputable def e194_line_surtax : Ent := ⟨[], [(.str 11 131061873431821166694392184)], (.int .i64 3), [], 1001⟩
theorem e194_line_surtax_ok : EntAt Tryz.prog 194 e194_line_surtax := entOk_run (by kernel_rfl) smXok (fuel := 60) (by kernel_rfl) (by kernel_rfl) (fun t => by kernel_rfl) (by kernel_rfl)
noncomputable def e194_line_tax : Ent := ⟨[], [(.str 8 7811896409500967288)], (.int .i64 3), [], 1001⟩
theorem e194_line_tax_ok : EntAt Tryz.prog 194 e194_line_tax := entOk_run (by kernel_rfl) smXok (fuel := 60) (by kernel_rfl) (by kernel_rfl) (fun t => by kernel_rfl) (by kernel_rfl)
noncomputable def e194_line_taxable : Ent := ⟨[], [(.str 12 33551839598546478183959653477)], (.int .i64 3), [], 1001⟩
theorem e194_line_taxable_ok : EntAt Tryz.prog 194 e194_line_taxable := entOk_run (by kernel_rfl) smXok (fuel := 60) (by kernel_rfl) (by kernel_rfl) (fun t => by kernel_rfl) (by kernel_rfl)
noncomputable def e194_line_used : Ent := ⟨[], [(.str 9 1999845480832265577828)], (.int .i64 3), [], 1001⟩
theorem e194_line_used_ok : EntAt Tryz.prog 194 e194_line_used := entOk_run (by kernel_rfl) smXok (fuel := 60) (by kernel_rfl) (by kernel_rfl) (fun t => by kernel_rfl) (by kernel_rfl)
noncomputable def e194_p_credit_joint : Ent := ⟨[], [(.str 14 2275305148396970284167635908783732)], (.int .i64 1), [], 1001⟩
theorem e194_p_credit_joint_ok : EntAt Tryz.prog 194 e194_p_credit_joint := entOk_run (by kernel_rfl) smXok (fuel := 60) (by kernel_rfl) (by kernel_rfl) (fun t => by kernel_rfl) (by kernel_rfl)
noncomputable def e194_p_credit_single : Ent := ⟨[], [(.str 15 582478117989624392746924662566906981)], (.int .i64 1), [], 1001⟩
theorem e194_p_credit_single_ok : EntAt Tryz.prog 194 e194_p_credit_single := entOk_run (by kernel_rfl) smXok (fuel := 60) (by kernel_rfl) (by kernel_rfl) (fun t => by kernel_rfl) (by kernel_rfl)
noncomputable def e194_p_phase : Ent := ⟨[], [(.str 7 31576257714025317)], (.int .i64 1), [], 1001⟩
theorem e194_p_phase_ok : EntAt Tryz.prog 194 e194_p_phase := entOk_run (by kernel_rfl) smXok (fuel := 60) (by kernel_rfl) (by kernel_rfl) (fun t => by kernel_rfl) (by kernel_rfl)
noncomputable def e194_p_standard_joint : Ent := ⟨[], [(.str 16 149114722881127953259954015610073607796)], (.int .i64 1), [], 1001⟩
theorem e194_p_standard_joint_ok : EntAt Tryz.prog 194 e194_p_standard_joint := entOk_run (by kernel_rfl) smXok (fuel := 60) (by kernel_rfl) (by kernel_rfl) (fun t => by kernel_rfl) (by kernel_rfl)
noncomputable def e194_p_standard_single : Ent := ⟨[], [(.str 17 38173369057568756034548228006048761867365)], (.int .i64 1), [], 1001⟩
theorem e194_p_standard_single_ok : EntAt Tryz.prog 194 e194_p_standard_single := entOk_run (by kernel_rfl) smXok (fuel := 60) (by kernel_rfl) (by kernel_rfl) (fun t => by kernel_rfl) (by kernel_rfl)
noncomputable def e194_s_joint : Ent := ⟨[], [(.str 7 32420656992317044)], (.int .i64 2), [], 1001⟩
theorem e194_s_joint_ok : EntAt Tryz.prog 194 e194_s_joint := entOk_run (by kernel_rfl) smXok (fuel := 60) (by kernel_rfl) (by kernel_rfl) (fun t => by kernel_rfl) (by kernel_rfl)
noncomputable def e194_s_single : Ent := ⟨[], [(.str 8 8299698059951434853)], (.int .i64 2), [], 1001⟩
theorem e194_s_single_ok : EntAt Tryz.prog 194 e194_s_single := entOk_run (by kernel_rfl) smXok (fuel := 60) (by kernel_rfl) (by kernel_rfl) (fun t => by kernel_rfl) (by kernel_rfl)
noncomputable def smSt : Sm := ⟨(.node none .leaf (.node none .leaf .leaf (.node none .leaf .leaf .leaf (.node none (.node (some [e142_y1_credit_joint, e142_y1_credit_single, e142_y1_line_credit, e142_y1_line_deduct, e142_y1_line_due, e142_y1_line_income, e142_y1_line_tax, e142_y1_line_taxable, e142_y1_phase, e142_y1_scale_joint, e142_y1_scale_single, e142_y1_standard_joint, e142_y1_standard_single, e142_y2_credit_joint, e142_y2_credit_single, e142_y2_line_income, e142_y2_line_loss, e142_y2_line_used, e142_y2_phase, e142_y2_scale_joint, e142_y2_scale_single, e142_y2_standard_joint, e142_y2_standard_single, e142_y3_back_joint, e142_y3_back_single, e142_y3_credit_joint, e142_y3_credit_single, e142_y3_line_due, e142_y3_line_surtax, e142_y3_phase, e142_y3_scale_joint, e142_y3_scale_single, e142_y3_standard_joint, e142_y3_standard_single, e142_y4_credit_joint, e142_y4_credit_single, e142_y4_phase, e142_y4_redo_joint, e142_y4_scale_joint, e142_y4_scale_single, e142_y4_standard_joint, e142_y4_standard_single, e142_y4_undo_due, e142_y4_undo_joint, e142_y4_undo_single, e142_y4_undo_surtax]) .leaf .leaf .leaf .leaf) .leaf .leaf .leaf)) (.node none .leaf .leaf (.node none .leaf (.node (some [e194_line_credit, e194_line_deduct, e194_line_due, e194_line_income, e194_line_loss, e194_line_surtax, e194_line_tax, e194_line_taxable, e194_line_used, e194_p_credit_joint, e194_p_credit_single, e194_p_phase, e194_p_standard_joint, e194_p_standard_single, e194_s_joint, e194_s_single]) .leaf .leaf .leaf .leaf) .leaf .leaf) .leaf)) (.node none (.node none (.node none (.node (some [e87_line_credit, e87_line_deduct, e87_line_due, e87_line_income, e87_line_loss, e87_line_surtax, e87_line_tax, e87_line_taxable, e87_line_used, e87_p_credit_joint, e87_p_credit_single, e87_p_phase, e87_p_standard_joint, e87_p_standard_single, e87_s_joint, e87_s_single]) .leaf .leaf .leaf .leaf) .leaf .leaf .leaf) .leaf .leaf .leaf) .leaf .leaf .leaf) .leaf), xsT, .leaf, wsT, onT, bsT⟩
theorem smStok : SmOk Tryz.prog smSt := by
  have h : smSt = ⟨trL [(142, [e142_y1_credit_joint, e142_y1_credit_single, e142_y1_line_credit, e142_y1_line_deduct, e142_y1_line_due, e142_y1_line_income, e142_y1_line_tax, e142_y1_line_taxable, e142_y1_phase, e142_y1_scale_joint, e142_y1_scale_single, e142_y1_standard_joint, e142_y1_standard_single, e142_y2_credit_joint, e142_y2_credit_single, e142_y2_line_income, e142_y2_line_loss, e142_y2_line_used, e142_y2_phase, e142_y2_scale_joint, e142_y2_scale_single, e142_y2_standard_joint, e142_y2_standard_single, e142_y3_back_joint, e142_y3_back_single, e142_y3_credit_joint, e142_y3_credit_single, e142_y3_line_due, e142_y3_line_surtax, e142_y3_phase, e142_y3_scale_joint, e142_y3_scale_single, e142_y3_standard_joint, e142_y3_standard_single, e142_y4_credit_joint, e142_y4_credit_single, e142_y4_phase, e142_y4_redo_joint, e142_y4_scale_joint, e142_y4_scale_single, e142_y4_standard_joint, e142_y4_standard_single, e142_y4_undo_due, e142_y4_undo_joint, e142_y4_undo_single, e142_y4_undo_surtax]), (87, [e87_line_credit, e87_line_deduct, e87_line_due, e87_line_income, e87_line_loss, e87_line_surtax, e87_line_tax, e87_line_taxable, e87_line_used, e87_p_credit_joint, e87_p_credit_single, e87_p_phase, e87_p_standard_joint, e87_p_standard_single, e87_s_joint, e87_s_single]), (194, [e194_line_credit, e194_line_deduct, e194_line_due, e194_line_income, e194_line_loss, e194_line_surtax, e194_line_tax, e194_line_taxable, e194_line_used, e194_p_credit_joint, e194_p_credit_single, e194_p_phase, e194_p_standard_joint, e194_p_standard_single, e194_s_joint, e194_s_single])], xsT, trL [], wsT, onT, bsT⟩ := by kernel_rfl
  rw [h, xsT_eq, wsT_eq, bsT_eq]
  refine smOk_list (by kernel_rfl) ?_ xsOk ?_ wsOk onOk bsOk
  rotate_left
  · exact fun x h => nomatch h
  refine List.forall_mem_cons.2 ⟨List.forall_mem_cons.2 ⟨e142_y1_credit_joint_ok, List.forall_mem_cons.2 ⟨e142_y1_credit_single_ok, List.forall_mem_cons.2 ⟨e142_y1_line_credit_ok, List.forall_mem_cons.2 ⟨e142_y1_line_deduct_ok, List.forall_mem_cons.2 ⟨e142_y1_line_due_ok, List.forall_mem_cons.2 ⟨e142_y1_line_income_ok, List.forall_mem_cons.2 ⟨e142_y1_line_tax_ok, List.forall_mem_cons.2 ⟨e142_y1_line_taxable_ok, List.forall_mem_cons.2 ⟨e142_y1_phase_ok, List.forall_mem_cons.2 ⟨e142_y1_scale_joint_ok, List.forall_mem_cons.2 ⟨e142_y1_scale_single_ok, List.forall_mem_cons.2 ⟨e142_y1_standard_joint_ok, List.forall_mem_cons.2 ⟨e142_y1_standard_single_ok, List.forall_mem_cons.2 ⟨e142_y2_credit_joint_ok, List.forall_mem_cons.2 ⟨e142_y2_credit_single_ok, List.forall_mem_cons.2 ⟨e142_y2_line_income_ok, List.forall_mem_cons.2 ⟨e142_y2_line_loss_ok, List.forall_mem_cons.2 ⟨e142_y2_line_used_ok, List.forall_mem_cons.2 ⟨e142_y2_phase_ok, List.forall_mem_cons.2 ⟨e142_y2_scale_joint_ok, List.forall_mem_cons.2 ⟨e142_y2_scale_single_ok, List.forall_mem_cons.2 ⟨e142_y2_standard_joint_ok, List.forall_mem_cons.2 ⟨e142_y2_standard_single_ok, List.forall_mem_cons.2 ⟨e142_y3_back_joint_ok, List.forall_mem_cons.2 ⟨e142_y3_back_single_ok, List.forall_mem_cons.2 ⟨e142_y3_credit_joint_ok, List.forall_mem_cons.2 ⟨e142_y3_credit_single_ok, List.forall_mem_cons.2 ⟨e142_y3_line_due_ok, List.forall_mem_cons.2 ⟨e142_y3_line_surtax_ok, List.forall_mem_cons.2 ⟨e142_y3_phase_ok, List.forall_mem_cons.2 ⟨e142_y3_scale_joint_ok, List.forall_mem_cons.2 ⟨e142_y3_scale_single_ok, List.forall_mem_cons.2 ⟨e142_y3_standard_joint_ok, List.forall_mem_cons.2 ⟨e142_y3_standard_single_ok, List.forall_mem_cons.2 ⟨e142_y4_credit_joint_ok, List.forall_mem_cons.2 ⟨e142_y4_credit_single_ok, List.forall_mem_cons.2 ⟨e142_y4_phase_ok, List.forall_mem_cons.2 ⟨e142_y4_redo_joint_ok, List.forall_mem_cons.2 ⟨e142_y4_scale_joint_ok, List.forall_mem_cons.2 ⟨e142_y4_scale_single_ok, List.forall_mem_cons.2 ⟨e142_y4_standard_joint_ok, List.forall_mem_cons.2 ⟨e142_y4_standard_single_ok, List.forall_mem_cons.2 ⟨e142_y4_undo_due_ok, List.forall_mem_cons.2 ⟨e142_y4_undo_joint_ok, List.forall_mem_cons.2 ⟨e142_y4_undo_single_ok, List.forall_mem_cons.2 ⟨e142_y4_undo_surtax_ok, fun e h => nomatch h⟩⟩⟩⟩⟩⟩⟩⟩⟩⟩⟩⟩⟩⟩⟩⟩⟩⟩⟩⟩⟩⟩⟩⟩⟩⟩⟩⟩⟩⟩⟩⟩⟩⟩⟩⟩⟩⟩⟩⟩⟩⟩⟩⟩⟩⟩, ?_⟩
  refine List.forall_mem_cons.2 ⟨List.forall_mem_cons.2 ⟨e87_line_credit_ok, List.forall_mem_cons.2 ⟨e87_line_deduct_ok, List.forall_mem_cons.2 ⟨e87_line_due_ok, List.forall_mem_cons.2 ⟨e87_line_income_ok, List.forall_mem_cons.2 ⟨e87_line_loss_ok, List.forall_mem_cons.2 ⟨e87_line_surtax_ok, List.forall_mem_cons.2 ⟨e87_line_tax_ok, List.forall_mem_cons.2 ⟨e87_line_taxable_ok, List.forall_mem_cons.2 ⟨e87_line_used_ok, List.forall_mem_cons.2 ⟨e87_p_credit_joint_ok, List.forall_mem_cons.2 ⟨e87_p_credit_single_ok, List.forall_mem_cons.2 ⟨e87_p_phase_ok, List.forall_mem_cons.2 ⟨e87_p_standard_joint_ok, List.forall_mem_cons.2 ⟨e87_p_standard_single_ok, List.forall_mem_cons.2 ⟨e87_s_joint_ok, List.forall_mem_cons.2 ⟨e87_s_single_ok, fun e h => nomatch h⟩⟩⟩⟩⟩⟩⟩⟩⟩⟩⟩⟩⟩⟩⟩⟩, ?_⟩
  refine List.forall_mem_cons.2 ⟨List.forall_mem_cons.2 ⟨e194_line_credit_ok, List.forall_mem_cons.2 ⟨e194_line_deduct_ok, List.forall_mem_cons.2 ⟨e194_line_due_ok, List.forall_mem_cons.2 ⟨e194_line_income_ok, List.forall_mem_cons.2 ⟨e194_line_loss_ok, List.forall_mem_cons.2 ⟨e194_line_surtax_ok, List.forall_mem_cons.2 ⟨e194_line_tax_ok, List.forall_mem_cons.2 ⟨e194_line_taxable_ok, List.forall_mem_cons.2 ⟨e194_line_used_ok, List.forall_mem_cons.2 ⟨e194_p_credit_joint_ok, List.forall_mem_cons.2 ⟨e194_p_credit_single_ok, List.forall_mem_cons.2 ⟨e194_p_phase_ok, List.forall_mem_cons.2 ⟨e194_p_standard_joint_ok, List.forall_mem_cons.2 ⟨e194_p_standard_single_ok, List.forall_mem_cons.2 ⟨e194_s_joint_ok, List.forall_mem_cons.2 ⟨e194_s_single_ok, fun e h => nomatch h⟩⟩⟩⟩⟩⟩⟩⟩⟩⟩⟩⟩⟩⟩⟩⟩, ?_⟩
  exact fun x h => nomatch h
end Go.Proofs.YthfkajaeikhloaaGreatDoor
