import PyProof.Rows.All
import Wide.All
import OpenK.AllK
import Wide.FinOn
import PySem.Challenge.RW_ok0042_01
open PySem PySem.W PyProof.Rows PySem.Spec PySem.Calls
set_option Elab.async false
set_option compiler.extract_closed false
set_option linter.all false
set_option maxRecDepth 100000
set_option maxHeartbeats 8000000
set_option rowWalk.seconds 0
namespace Mine
theorem and8 {a b c d e f g h r P : Prop} (x : a ∧ b ∧ c ∧ d ∧ e ∧ f ∧ g ∧ h ∧ r) (k : a → b → c → d → e → f → g → h → r → P) : P :=
  k x.1 x.2.1 x.2.2.1 x.2.2.2.1 x.2.2.2.2.1 x.2.2.2.2.2.1 x.2.2.2.2.2.2.1 x.2.2.2.2.2.2.2.1 x.2.2.2.2.2.2.2.2
theorem and4 {a b c d r P : Prop} (x : a ∧ b ∧ c ∧ d ∧ r) (k : a → b → c → d → r → P) : P := k x.1 x.2.1 x.2.2.1 x.2.2.2.1 x.2.2.2.2
theorem len63 {n : Nat} (h : n < 1000) : (n : Int) < 2 ^ 63 := by omega
theorem small_len {n : Nat} (h : n < 1000) : Builtin.Range.small 0 (n : Int) 1 = true := small_one (by decide) (by decide) (by omega) (by omega)
theorem small_len2 {n : Nat} (h : n < 1000) : Builtin.Range.small 0 ((n : Int) + 2) 1 = true := small_one (by decide) (by decide) (by omega) (by omega)
theorem size_len {n : Nat} (h : n < 1000) : ((n : Int) - 0).toNat ≤ sizeLine := by rw [Int.sub_zero, Int.toNat_natCast]; simp only [sizeLine]; omega
theorem size_len2 {n : Nat} (h : n < 1000) : ((n : Int) + 2 - 0).toNat ≤ sizeLine := by rw [Int.sub_zero]; show ((n + 2 : Nat) : Int).toNat ≤ _; rw [Int.toNat_natCast]; simp only [sizeLine]; omega
theorem size_ys {us : List Value} (h : us.length < 1000) : us.toArray.size ≤ sizeLine := by rw [List.size_toArray]; simp only [sizeLine]; omega
open Lean in
def spl (x : TSyntax `ident) : MacroM (TSyntax `tactic) := `(tactic| (repeat (first | (refine and8 $x ?_; clear $x; intro q9 q9 q9 q9 q9 q9 q9 q9 $x) | (refine and4 $x ?_; clear $x; intro q9 q9 q9 q9 $x) | (have q9 := And.left $x; replace $x := And.right $x))))
open Lean in
def tl : Char → MacroM (TSyntax `tactic)
  | 'a' => `(tactic| k_extra "ta")
  | 'b' => `(tactic| k_extra "tb")
  | 'c' => `(tactic| k_extra "tc")
  | 'd' => `(tactic| (try dsimp only at N'))
  | 'e' => `(tactic| (try k_lt l1))
  | 'f' => `(tactic| (k_cells Y'))
  | 'g' => `(tactic| (try simp only [List.cons_append, List.nil_append] at N'))
  | 'h' => `(tactic| (try k_lift B'))
  | 'i' => `(tactic| (try simp only [LCg.Off1, and_true] at o1'))
  | 'j' => do spl (mkIdent (← Macro.addMacroScope `o1'))
  | 'k' => `(tactic| (have o2' := o1'))
  | 'l' => `(tactic| (try simp only [List.cons_append, List.append_assoc] at N'))
  | 'm' => `(tactic| (try k_lt l1'))
  | _ => Macro.throwUnsupported
open Lean in
def it (s t : String) : MacroM (TSyntax `tactic) := do
  let ns ← (s.splitOn " ").toArray.mapM fun x => do return mkIdent (← Macro.addMacroScope (.mkSimple x))
  let ts ← t.toList.toArray.mapM tl
  `(tactic| (intro $[$ns:ident]*; $[$ts:tactic];*))
open Lean in
def mw (k s t : String) : MacroM (TSyntax `tactic) := do
  `(tactic| (k_extra $(Syntax.mkStrLit k):str; $(← it s t):tactic))
open Lean in
def cea : MacroM (TSyntax `tactic) := do `(tactic| first | ($(← mw "w4" "g' L' h' FG' F' N' B' X' T'" "ahc"):tactic) | ($(← mw "w5" "g' L' h' tk' cells' FG' F' N' Y' B' X' T' l1" "efgahc"):tactic))
open_top hd for PySem.Challenge.rw_ok0042_01
theorem rz : True := by w_top off; trivial
local macro_rules | `(tactic| walk_at $s:str) => `(tactic| k_extra $s)
theorem kwadi : True := by
  k_with_none
  k_with "ta" => (try dsimp only)
  k_with "tb" => (try k_sweep)
  k_with "tc" => (try k_fold)
  k_with "w0" => (have hcL9 := cLine_is; (try simp only [units_in1, units_deeper, Around.mark_units, units_caller]); (try dsimp only [ktrTop]); omega)
  k_with "w1" => (k_here; (with_reducible show wpAny _ _ (call (Value.ref 126) _) _ _ _); k_dflt (refine' draw_use ?k1_2753 ?k2_2753 ?k3_2753 ?k4_2753 ?k5_2753 ?kK_2753 ?U_2753 ?hi_2753 ?hl_2753 ?hm_2753 ?hm2_2753 ?hd_2753 ?hu_2753 ?_; (case k1_2753 => k_asm); (case k2_2753 => k_asm); (case k3_2753 => k_asm); (case k4_2753 => k_asm); (case k5_2753 => k_asm); (case kK_2753 => first | exact rfl | assumption); (case U_2753 => (intro _ _; k_upd)); (case hi_2753 => with_reducible assumption); (case hl_2753 => assumption); (case hm_2753 => omega); (case hm2_2753 => omega); (case hd_2753 => ktr_room); (case hu_2753 => ke_room)))
  k_with "w2" => (k_here; (with_reducible show wpAny _ _ (call (Value.ref 114) _) _ _ _); k_dflt (refine' moved_ok ?k1_267c ?k2_267c ?k3_267c ?k4_267c ?k5_267c ?kK_267c ?hm_267c ?hd_267c ?hu_267c ?_; (case k1_267c => k_asm); (case k2_267c => k_asm); (case k3_267c => k_asm); (case k4_267c => k_asm); (case k5_267c => k_asm); (case kK_267c => first | exact rfl | assumption); (case hm_267c => k_mem); (case hd_267c => ktr_room); (case hu_267c => ke_room)))
  k_with "w3" => (refine' code_defC ?k1_73de ?k2_73de ?k3_73de ?k4_73de ?k5_73de ?kA_73de ?kF_73de ?kK_73de ?k6_73de ?k7_73de ?k8_73de ?k9_73de ?kB_73de ?kD_73de ?_ ?c2_73de ?c3_73de ?c4_73de; (case kA_73de => exact rfl); (case kF_73de => exact rfl); (case kK_73de => assumption); (case k1_73de => k_asm); (case k2_73de => k_asm); (case k3_73de => k_asm); (case k4_73de => k_asm); (case k5_73de => k_asm); (case k6_73de => k_is); (case k7_73de => k_is); (case k8_73de => ktr_room); (case k9_73de => exact BindsTo.of_eq rfl); (case kB_73de => exact rfl); (case kD_73de => decide +kernel); (case c2_73de => exact rfl); (case c3_73de => exact rfl); (case c4_73de => exact rfl); k_whole)
  k_with "w4" => (refine' code_def ?k1_91da ?k2_91da ?k3_91da ?k4_91da ?k5_91da ?kA_91da ?kF_91da ?kK_91da ?k6_91da ?k7_91da ?k8_91da ?k9_91da ?kB_91da ?_ ?c2_91da ?c3_91da ?c4_91da ?c5_91da; (case kA_91da => exact rfl); (case kF_91da => exact rfl); (case kK_91da => first | exact rfl | assumption); (case k1_91da => k_asm); (case k2_91da => k_asm); (case k3_91da => k_asm); (case k4_91da => k_asm); (case k5_91da => k_asm); (case k6_91da => k_is); (case k7_91da => k_is); (case k8_91da => ktr_room); (case k9_91da => exact BindsTo.of_eq rfl); (case c5_91da => decide); (case kB_91da => exact locs rfl); (case c2_91da => exact rfl); (case c3_91da => exact rfl); (case c4_91da => exact rfl); k_whole)
  k_with "w5" => (refine' code_defC ?k1_e452 ?k2_e452 ?k3_e452 ?k4_e452 ?k5_e452 ?kA_e452 ?kF_e452 ?kK_e452 ?k6_e452 ?k7_e452 ?k8_e452 ?k9_e452 ?kB_e452 ?kD_e452 ?_ ?c2_e452 ?c3_e452 ?c4_e452; (case kA_e452 => exact rfl); (case kF_e452 => exact rfl); (case kK_e452 => first | exact rfl | assumption); (case k1_e452 => k_asm); (case k2_e452 => k_asm); (case k3_e452 => k_asm); (case k4_e452 => k_asm); (case k5_e452 => k_asm); (case k6_e452 => k_is); (case k7_e452 => k_is); (case k8_e452 => ktr_room); (case k9_e452 => exact BindsTo.of_eq rfl); (case kB_e452 => exact rfl); (case kD_e452 => decide +kernel); (case c2_e452 => exact rfl); (case c3_e452 => exact rfl); (case c4_e452 => exact rfl); k_whole)
  k_with "w6" => (k_here; (with_reducible show wpAny _ _ (subscriptTail _ (PySem.Expr.Slice _ _ none _) (Value.ref _) (Value.ref _)) _ _ _); k_dflt (refine' slice_to ?F_7f9f ?N_7f9f ?l_7f9f ?p_7f9f ?q_7f9f ?e_7f9f ?z_7f9f ?_ ?s_7f9f ?t_7f9f; (case F_7f9f => k_asm); (case N_7f9f => k_asm); (case l_7f9f => k_mem); (case p_7f9f => kmk_part); (case q_7f9f => kmk_part); (case e_7f9f => first | exact pick_upto (by omega) | exact pick_from (by omega) | exact pick_part (by omega) (by omega) | exact pick_less (by omega)); (case s_7f9f => with_unfolding_all rfl); (case t_7f9f => kmk_pure); (case z_7f9f => omega)))
  k_with "w7" => (k_here; (with_reducible show wpAny _ _ (call (Value.type _) [Value.ref _]) _ _ _); k_dflt (first | (refine' copyL ?F_06eb ?N_06eb ?m_06eb ?z_06eb ?_; (case F_06eb => k_asm); (case N_06eb => k_asm); (case m_06eb => k_mem); (case z_06eb => omega)) | (refine' copyT ?F_06eb ?N_06eb ?m_06eb ?_; (case F_06eb => k_asm); (case N_06eb => k_asm); (case m_06eb => k_mem))))
  k_with "w8" => (k_here; (with_reducible show wpAny _ _ (binaryOp _ (Value.ref _) (Value.ref _)) _ _ _); k_dflt (refine' addL ?F_f34b ?N_f34b ?a_f34b ?b_f34b ?z_f34b ?_; (case F_f34b => k_asm); (case N_f34b => k_asm); (case a_f34b => k_mem); (case b_f34b => k_mem); (case z_f34b => first | omega | (simp only [List.length_cons, List.length_nil]; omega))))
  k_with "w9" => (refine neN ?_; (try dsimp only); first | with_reducible assumption | (with_reducible refine Ne.symm ?_; with_reducible assumption) | (with_reducible refine Nat.ne_of_lt ?_; with_reducible assumption) | (with_reducible refine Nat.ne_of_gt ?_; with_reducible assumption))
  k_with "w10" => first | with_reducible assumption | exact in_of_fr (by with_reducible assumption) (by with_reducible assumption)
  k_with "w11" => (k_here; (with_reducible show wpAny _ _ (call (Value.ref 119) _) _ _ _); k_dflt (refine' ldeck_ok ?k1_e407 ?k2_e407 ?k3_e407 ?k4_e407 ?k5_e407 ?kK_e407 ?hl_e407 ?hi_e407 ?hn_e407 ?hd_e407 ?hu_e407 ?_; (case k1_e407 => k_asm); (case k2_e407 => k_asm); (case k3_e407 => k_asm); (case k4_e407 => k_asm); (case k5_e407 => k_asm); (case kK_e407 => first | exact rfl | assumption); (case hl_e407 => assumption); (case hi_e407 => assumption); (case hn_e407 => omega); (case hd_e407 => ktr_room); (case hu_e407 => ke_room)))
  k_with "w12" => (k_here; (with_reducible show wpAny _ _ (call (Value.ref 133) _) _ _ _); k_dflt (refine' lspan_use ?k1_0801 ?k2_0801 ?k3_0801 ?k4_0801 ?k5_0801 ?kK_0801 ?U_0801 ?hi_0801 ?hl_0801 ?h0_0801 ?h1_0801 ?hd_0801 ?hu_0801 ?_; (case k1_0801 => k_asm); (case k2_0801 => k_asm); (case k3_0801 => k_asm); (case k4_0801 => k_asm); (case k5_0801 => k_asm); (case kK_0801 => first | exact rfl | assumption); (case U_0801 => (intro _ _; k_upd)); (case hi_0801 => with_reducible assumption); (case hl_0801 => assumption); (case h0_0801 => omega); (case h1_0801 => first | with_reducible assumption | omega); (case hd_0801 => ktr_room); (case hu_0801 => ke_room)))
  k_with "w13" => (k_here; (with_reducible show wpAny _ _ (call (Value.ref 100) _) _ _ _); k_dflt (refine' mrepl_use ?k1_76bf ?k2_76bf ?k3_76bf ?k4_76bf ?k5_76bf ?kK_76bf ?hx_76bf ?hsp_76bf ?D_76bf ?sub_76bf ?TL_76bf ?hl_76bf ?U_76bf ?hd_76bf ?hu_76bf ?_; (case k1_76bf => k_asm); (case k2_76bf => k_asm); (case k3_76bf => k_asm); (case k4_76bf => k_asm); (case k5_76bf => k_asm); (case kK_76bf => first | exact rfl | assumption); (case hx_76bf => k_mem); (case U_76bf => (intro _; k_upd)); (case hsp_76bf => k_mem); (case D_76bf => with_reducible assumption); (case sub_76bf => kqd_sub); (case TL_76bf => with_reducible assumption); (case hl_76bf => first | with_reducible assumption | omega); (case hd_76bf => ktr_room); (case hu_76bf => ke_room)))
  k_with "w14" => (k_here; (with_reducible show wpAny _ _ (call (Value.ref 83) _) _ _ _); k_dflt (refine' mlist_ok ?k1_935b ?k2_935b ?k3_935b ?k4_935b ?k5_935b ?kK_935b ?hx_935b ?hdx_935b ?hsp_935b ?D_935b ?sub_935b ?hl_935b ?hd_935b ?hu_935b ?_; (case k1_935b => k_asm); (case k2_935b => k_asm); (case k3_935b => k_asm); (case k4_935b => k_asm); (case k5_935b => k_asm); (case kK_935b => first | exact rfl | assumption); (case hx_935b => k_mem); (case hdx_935b => k_mem); (case hsp_935b => k_mem); (case D_935b => with_reducible assumption); (case sub_935b => kqd_sub); (case hl_935b => first | with_reducible assumption | omega); (case hd_935b => ktr_room); (case hu_935b => ke_room)))
  k_with "w15" => (k_here; (with_reducible show wpAny _ _ (call (Value.ref 90) _) _ _ _); k_dflt (refine' mrest_use ?k1_53a1 ?k2_53a1 ?k3_53a1 ?k4_53a1 ?k5_53a1 ?kK_53a1 ?hx_53a1 ?hpl_53a1 ?D_53a1 ?hl_53a1 ?U_53a1 ?hd_53a1 ?hu_53a1 ?_; (case k1_53a1 => k_asm); (case k2_53a1 => k_asm); (case k3_53a1 => k_asm); (case k4_53a1 => k_asm); (case k5_53a1 => k_asm); (case kK_53a1 => first | exact rfl | assumption); (case hx_53a1 => k_mem); (case U_53a1 => (intro _; k_upd)); (case hpl_53a1 => k_mem); (case D_53a1 => first | with_reducible assumption | exact (by with_reducible assumption : ∀ t : Tok, DatAll [] (_ ++ [Value.int 1 t]) _) _); (case hl_53a1 => first | with_reducible assumption | omega); (case hd_53a1 => ktr_room); (case hu_53a1 => ke_room)))
  k_with "w16" => (k_here; (with_reducible show wpAny _ _ (call (Value.ref 95) _) _ _ _); k_dflt (refine' mtran_use ?k1_e468 ?k2_e468 ?k3_e468 ?k4_e468 ?k5_e468 ?kK_e468 ?hx_e468 ?hsp_e468 ?D_e468 ?sub_e468 ?TL_e468 ?hl_e468 ?U_e468 ?hd_e468 ?hu_e468 ?_; (case k1_e468 => k_asm); (case k2_e468 => k_asm); (case k3_e468 => k_asm); (case k4_e468 => k_asm); (case k5_e468 => k_asm); (case kK_e468 => first | exact rfl | assumption); (case hx_e468 => k_mem); (case U_e468 => (intro _; k_upd)); (case hsp_e468 => k_mem); (case D_e468 => with_reducible assumption); (case sub_e468 => kqd_sub); (case TL_e468 => with_reducible assumption); (case hl_e468 => first | with_reducible assumption | omega); (case hd_e468 => ktr_room); (case hu_e468 => ke_room)))
  k_with "w17" => (k_here; (with_reducible show wpAny _ _ (call (Value.ref 157) _) _ _ _); k_dflt (refine' llist_ok ?k1_8c8e ?k2_8c8e ?k3_8c8e ?k4_8c8e ?k5_8c8e ?kK_8c8e ?hsp_8c8e ?D_8c8e ?sub_8c8e ?hl_8c8e ?hd_8c8e ?hu_8c8e ?_; (case k1_8c8e => k_asm); (case k2_8c8e => k_asm); (case k3_8c8e => k_asm); (case k4_8c8e => k_asm); (case k5_8c8e => k_asm); (case kK_8c8e => first | exact rfl | assumption); (case hsp_8c8e => k_mem); (case D_8c8e => with_reducible assumption); (case sub_8c8e => kqd_sub); (case hl_8c8e => first | with_reducible assumption | omega); (case hd_8c8e => ktr_room); (case hu_8c8e => ke_room)))
  k_with "w18" => (k_here; (with_reducible show wpAny _ _ (binaryOp _ (Value.ref _) (Value.ref _)) _ _ _); k_dflt (refine' addL ?F_261b ?N_261b ?a_261b ?b_261b ?z_261b ?_; (case F_261b => k_asm); (case N_261b => k_asm); (case a_261b => k_mem); (case b_261b => k_mem); (case z_261b => first | omega | (simp only [List.length_cons, List.length_nil, List.length_replicate]; omega))))
  k_with "w19" => (k_here; (with_reducible show wpAny _ _ (binaryOp Operator.Mult (Value.ref _) (Value.int _ _)) _ _ _); k_dflt (refine' mulN ?F_1ba3 ?N_1ba3 ?l_1ba3 ?e_1ba3 ?z_1ba3 ?_; (case F_1ba3 => k_asm); (case N_1ba3 => k_asm); (case l_1ba3 => k_mem); (case e_1ba3 => with_reducible assumption); (case z_1ba3 => omega)))
  trivial
section
local macro_rules | `(tactic| ke_room) => `(tactic| k_extra "w0")
def Keep (_ : OpenLaw) (_ : Params → Frag) (P : Prop) : Prop := P

section
variable {prog : Program} {w : World} {A : Around} {E : Value → Shared → Prop} {env : Env} {test : PySem.Expr} {body orelse : List Stmt} {pos : Pos} {s₀ : Shared} {Q : Flow → Shared → Prop}
/-- a while's turn, its end handed to a letter R -/
def WPost (R : Shared → Prop) (Q : Flow → Shared → Prop) (f : Flow) (s : Shared) : Prop := match f with
  | .next => R s
  | .cont => R s
  | .brk => Q .next s
  | .ret v => Q (.ret v) s
theorem whl_inv (I : Nat → Shared → Prop) (n₀ : Nat) (h0 : I n₀ s₀) (hE : PassesOwn (model prog w) A env E)
    (turn : ∀ (R : Shared → Prop) n s, I n s → (∀ m s', m < n → I m s' → R s') →
      wpAny (model prog w) A (isTrue test env (eval test env)) (fun b s₂ => WhlIf b (wpAny (model prog w) A (execs body env) (WPost R Q) E s₂) (wpAny (model prog w) A (execs orelse env) Q E s₂)) E s) :
    wpAny (model prog w) A (exec (.While test body orelse pos) env) Q E s₀ := by
  refine whl_start 0 ?_
  have all : ∀ n m, m < n → ∀ s, I m s → WhlRest prog w A E env test body orelse Q 0 s := by
    intro n
    induction n with
    | zero => intro m h; exact absurd h (Nat.not_lt_zero _)
    | succ n ih =>
      intro m h s hI
      refine whl_turn (k := 0) hE (wpAny_mono (turn (WhlRest prog w A E env test body orelse Q 0) m s hI fun m' s' h' hI' => ih m' (Nat.lt_of_lt_of_le h' (Nat.le_of_lt_succ h)) s' hI') (fun b s₂ p => ?_) fun _ _ x => x)
      cases b with
      | false => exact p
      | true =>
        refine wpAny_mono (p : wpAny (model prog w) A (execs body env) (WPost _ Q) E s₂) (fun f s₃ q => ?_) fun _ _ x => x
        cases f <;> exact q
  exact all _ _ (Nat.lt_succ_self _) _ h0
end

theorem kwaab : True := by
  k_with "WPost" => (dsimp only [WPost])
  trivial
theorem upd_mem {d : Addr} {o o' : Obj} {l l' : List (Addr × Obj)} (U : Upd d o o' l l') : (d, o) ∈ l ∧ ∀ p ∈ l', p = (d, o') ∨ (p ∈ l ∧ p.1 ≠ d) := by
  obtain ⟨pre, post, rfl, rfl, a, b⟩ := U.split
  refine ⟨by simp, fun p hp => ?_⟩
  rcases List.mem_append.mp hp with hp | hp
  · exact .inr ⟨List.mem_append.mpr (.inl hp), a p hp⟩
  · rcases List.mem_cons.mp hp with hp | hp
    · exact .inl hp
    · exact .inr ⟨List.mem_append.mpr (.inr (List.mem_cons_of_mem _ hp)), b p hp⟩

/-- a span as data -/
def enc : Option (Int × Int) → Dat
  | none => .none
  | some (a, b) => .tuple [.int a, .int b]
def encI : Option Int → Dat
  | none => .none
  | some a => .int a
theorem getD_enc (os : List (Option (Int × Int))) (k : Nat) : (os.map enc).getD k .none = enc (os.getD k none) := by
  rw [List.getD_eq_getElem?_getD, List.getD_eq_getElem?_getD, List.getElem?_map]
  cases os[k]? <;> rfl
abbrev tupO (a b : Int) (t u : Tok) (n : Nat) : Obj := { cls := .type "tuple", data := .seq [Value.int a t, Value.int b u].toArray n }
theorem datIn_enc {news : List (Addr × Obj)} {v : Value} {o : Option (Int × Int)} (h : DatIn news v (enc o)) :
    (o = none ∧ v = .none) ∨ ∃ a b t u ad n, o = some (a, b) ∧ v = .ref ad ∧ (ad, tupO a b t u n) ∈ news := by
  cases o with
  | none => cases h; exact .inl ⟨rfl, rfl⟩
  | some p =>
    obtain ⟨a, b⟩ := p
    cases h with
    | tuple hm hr =>
      cases hr with
      | cons h1 hr =>
        cases hr with
        | cons h2 hr =>
          cases hr
          cases h1
          cases h2
          exact .inr ⟨_, _, _, _, _, _, rfl, rfl, hm⟩
theorem enc_ok (o : Option (Int × Int)) (n : Nat) : kqdOk (n + 1) (enc o) = true := by
  cases o with
  | none => rfl
  | some p => obtain ⟨a, b⟩ := p; cases n <;> rfl
theorem encs_ok (os : List (Option (Int × Int))) : ∀ d ∈ os.map enc, kqdOk 8 d = true := fun d hd => by
  obtain ⟨o, _, rfl⟩ := List.mem_map.mp hd
  exact enc_ok o 7
theorem encI_ok (o : Option Int) (n : Nat) : kqdOk n (encI o) = true := by
  cases o <;> cases n <;> rfl
theorem encIs_ok (os : List (Option Int)) : ∀ d ∈ os.map encI, kqdOk 8 d = true := fun d hd => by
  obtain ⟨o, _, rfl⟩ := List.mem_map.mp hd
  exact encI_ok o 8
def Tups (tl : List (Addr × Obj)) : Prop := ∀ p ∈ tl, p.2.cls = .type "tuple" ∧ ∀ v, p.2.data ≠ Data.cell v
theorem allLt_all {d : Addr} : ∀ {l : List (Addr × Obj)}, AllLt d l → ∀ p ∈ l, p.1 < d
  | [], _, _, h => nomatch h
  | _ :: _, x, p, h => by
    rcases List.mem_cons.mp h with rfl | h
    · exact x.1
    · exact allLt_all x.2 p h
theorem upd_news {h₀ h : Heap} {L d : Addr} {news : List (Addr × Obj)} {o : Obj} (N : News h₀ L h news) (hm : (d, o) ∈ news) : News h₀ L h ((d, o) :: news.filter fun q => decide (q.1 ≠ d)) := fun q hq => by
  rcases List.mem_cons.mp hq with rfl | hq
  · exact N _ hm
  · exact N _ (List.mem_filter.mp hq).1

end
theorem kwaac : True := by
  k_with_none
  k_with "ta" => (try dsimp only)
  k_with "tb" => (try k_sweep)
  k_with "tc" => (try k_fold)
  k_with "w0" => (have hcL9 := cLine_is; (try simp only [units_in1, units_deeper, Around.mark_units, units_caller]); (try dsimp only [ktrTop]); omega)
  k_with "w1" => (k_here; (with_reducible show wpAny _ _ (call (Value.ref 126) _) _ _ _); k_dflt (refine' draw_use ?k1_2753 ?k2_2753 ?k3_2753 ?k4_2753 ?k5_2753 ?kK_2753 ?U_2753 ?hi_2753 ?hl_2753 ?hm_2753 ?hm2_2753 ?hd_2753 ?hu_2753 ?_; (case k1_2753 => k_asm); (case k2_2753 => k_asm); (case k3_2753 => k_asm); (case k4_2753 => k_asm); (case k5_2753 => k_asm); (case kK_2753 => first | exact rfl | assumption); (case U_2753 => (intro _ _; k_upd)); (case hi_2753 => with_reducible assumption); (case hl_2753 => assumption); (case hm_2753 => omega); (case hm2_2753 => omega); (case hd_2753 => ktr_room); (case hu_2753 => ke_room)))
  k_with "w2" => (k_here; (with_reducible show wpAny _ _ (call (Value.ref 114) _) _ _ _); k_dflt (refine' moved_ok ?k1_267c ?k2_267c ?k3_267c ?k4_267c ?k5_267c ?kK_267c ?hm_267c ?hd_267c ?hu_267c ?_; (case k1_267c => k_asm); (case k2_267c => k_asm); (case k3_267c => k_asm); (case k4_267c => k_asm); (case k5_267c => k_asm); (case kK_267c => first | exact rfl | assumption); (case hm_267c => k_mem); (case hd_267c => ktr_room); (case hu_267c => ke_room)))
  k_with "w3" => (refine' code_defC ?k1_73de ?k2_73de ?k3_73de ?k4_73de ?k5_73de ?kA_73de ?kF_73de ?kK_73de ?k6_73de ?k7_73de ?k8_73de ?k9_73de ?kB_73de ?kD_73de ?_ ?c2_73de ?c3_73de ?c4_73de; (case kA_73de => exact rfl); (case kF_73de => exact rfl); (case kK_73de => assumption); (case k1_73de => k_asm); (case k2_73de => k_asm); (case k3_73de => k_asm); (case k4_73de => k_asm); (case k5_73de => k_asm); (case k6_73de => k_is); (case k7_73de => k_is); (case k8_73de => ktr_room); (case k9_73de => exact BindsTo.of_eq rfl); (case kB_73de => exact rfl); (case kD_73de => decide +kernel); (case c2_73de => exact rfl); (case c3_73de => exact rfl); (case c4_73de => exact rfl); k_whole)
  k_with "w4" => (refine' code_def ?k1_91da ?k2_91da ?k3_91da ?k4_91da ?k5_91da ?kA_91da ?kF_91da ?kK_91da ?k6_91da ?k7_91da ?k8_91da ?k9_91da ?kB_91da ?_ ?c2_91da ?c3_91da ?c4_91da ?c5_91da; (case kA_91da => exact rfl); (case kF_91da => exact rfl); (case kK_91da => first | exact rfl | assumption); (case k1_91da => k_asm); (case k2_91da => k_asm); (case k3_91da => k_asm); (case k4_91da => k_asm); (case k5_91da => k_asm); (case k6_91da => k_is); (case k7_91da => k_is); (case k8_91da => ktr_room); (case k9_91da => exact BindsTo.of_eq rfl); (case c5_91da => decide); (case kB_91da => exact locs rfl); (case c2_91da => exact rfl); (case c3_91da => exact rfl); (case c4_91da => exact rfl); k_whole)
  k_with "w5" => (refine' code_defC ?k1_e452 ?k2_e452 ?k3_e452 ?k4_e452 ?k5_e452 ?kA_e452 ?kF_e452 ?kK_e452 ?k6_e452 ?k7_e452 ?k8_e452 ?k9_e452 ?kB_e452 ?kD_e452 ?_ ?c2_e452 ?c3_e452 ?c4_e452; (case kA_e452 => exact rfl); (case kF_e452 => exact rfl); (case kK_e452 => first | exact rfl | assumption); (case k1_e452 => k_asm); (case k2_e452 => k_asm); (case k3_e452 => k_asm); (case k4_e452 => k_asm); (case k5_e452 => k_asm); (case k6_e452 => k_is); (case k7_e452 => k_is); (case k8_e452 => ktr_room); (case k9_e452 => exact BindsTo.of_eq rfl); (case kB_e452 => exact rfl); (case kD_e452 => decide +kernel); (case c2_e452 => exact rfl); (case c3_e452 => exact rfl); (case c4_e452 => exact rfl); k_whole)
  k_with "w6" => (k_here; (with_reducible show wpAny _ _ (subscriptTail _ (PySem.Expr.Slice _ _ none _) (Value.ref _) (Value.ref _)) _ _ _); k_dflt (refine' slice_to ?F_7f9f ?N_7f9f ?l_7f9f ?p_7f9f ?q_7f9f ?e_7f9f ?z_7f9f ?_ ?s_7f9f ?t_7f9f; (case F_7f9f => k_asm); (case N_7f9f => k_asm); (case l_7f9f => k_mem); (case p_7f9f => kmk_part); (case q_7f9f => kmk_part); (case e_7f9f => first | exact pick_upto (by omega) | exact pick_from (by omega) | exact pick_part (by omega) (by omega) | exact pick_less (by omega)); (case s_7f9f => with_unfolding_all rfl); (case t_7f9f => kmk_pure); (case z_7f9f => omega)))
  k_with "w7" => (k_here; (with_reducible show wpAny _ _ (call (Value.type _) [Value.ref _]) _ _ _); k_dflt (first | (refine' copyL ?F_06eb ?N_06eb ?m_06eb ?z_06eb ?_; (case F_06eb => k_asm); (case N_06eb => k_asm); (case m_06eb => k_mem); (case z_06eb => omega)) | (refine' copyT ?F_06eb ?N_06eb ?m_06eb ?_; (case F_06eb => k_asm); (case N_06eb => k_asm); (case m_06eb => k_mem))))
  k_with "w8" => (k_here; (with_reducible show wpAny _ _ (binaryOp _ (Value.ref _) (Value.ref _)) _ _ _); k_dflt (refine' addL ?F_f34b ?N_f34b ?a_f34b ?b_f34b ?z_f34b ?_; (case F_f34b => k_asm); (case N_f34b => k_asm); (case a_f34b => k_mem); (case b_f34b => k_mem); (case z_f34b => first | omega | (simp only [List.length_cons, List.length_nil]; omega))))
  k_with "w9" => (refine neN ?_; (try dsimp only); first | with_reducible assumption | (with_reducible refine Ne.symm ?_; with_reducible assumption) | (with_reducible refine Nat.ne_of_lt ?_; with_reducible assumption) | (with_reducible refine Nat.ne_of_gt ?_; with_reducible assumption))
  k_with "w10" => first | with_reducible assumption | exact in_of_fr (by with_reducible assumption) (by with_reducible assumption)
  k_with "w11" => (k_here; (with_reducible show wpAny _ _ (call (Value.ref 119) _) _ _ _); k_dflt (refine' ldeck_ok ?k1_e407 ?k2_e407 ?k3_e407 ?k4_e407 ?k5_e407 ?kK_e407 ?hl_e407 ?hi_e407 ?hn_e407 ?hd_e407 ?hu_e407 ?_; (case k1_e407 => k_asm); (case k2_e407 => k_asm); (case k3_e407 => k_asm); (case k4_e407 => k_asm); (case k5_e407 => k_asm); (case kK_e407 => first | exact rfl | assumption); (case hl_e407 => assumption); (case hi_e407 => assumption); (case hn_e407 => omega); (case hd_e407 => ktr_room); (case hu_e407 => ke_room)))
  k_with "w12" => (k_here; (with_reducible show wpAny _ _ (call (Value.ref 133) _) _ _ _); k_dflt (refine' lspan_use ?k1_0801 ?k2_0801 ?k3_0801 ?k4_0801 ?k5_0801 ?kK_0801 ?U_0801 ?hi_0801 ?hl_0801 ?h0_0801 ?h1_0801 ?hd_0801 ?hu_0801 ?_; (case k1_0801 => k_asm); (case k2_0801 => k_asm); (case k3_0801 => k_asm); (case k4_0801 => k_asm); (case k5_0801 => k_asm); (case kK_0801 => first | exact rfl | assumption); (case U_0801 => (intro _ _; k_upd)); (case hi_0801 => with_reducible assumption); (case hl_0801 => assumption); (case h0_0801 => omega); (case h1_0801 => first | with_reducible assumption | omega); (case hd_0801 => ktr_room); (case hu_0801 => ke_room)))
  k_with "w13" => (k_here; (with_reducible show wpAny _ _ (call (Value.ref 100) _) _ _ _); k_dflt (refine' mrepl_use ?k1_76bf ?k2_76bf ?k3_76bf ?k4_76bf ?k5_76bf ?kK_76bf ?hx_76bf ?hsp_76bf ?D_76bf ?sub_76bf ?TL_76bf ?hl_76bf ?U_76bf ?hd_76bf ?hu_76bf ?_; (case k1_76bf => k_asm); (case k2_76bf => k_asm); (case k3_76bf => k_asm); (case k4_76bf => k_asm); (case k5_76bf => k_asm); (case kK_76bf => first | exact rfl | assumption); (case hx_76bf => k_mem); (case U_76bf => (intro _; k_upd)); (case hsp_76bf => k_mem); (case D_76bf => with_reducible assumption); (case sub_76bf => kqd_sub); (case TL_76bf => with_reducible assumption); (case hl_76bf => first | with_reducible assumption | omega); (case hd_76bf => ktr_room); (case hu_76bf => ke_room)))
  k_with "w14" => (k_here; (with_reducible show wpAny _ _ (call (Value.ref 83) _) _ _ _); k_dflt (refine' mlist_ok ?k1_935b ?k2_935b ?k3_935b ?k4_935b ?k5_935b ?kK_935b ?hx_935b ?hdx_935b ?hsp_935b ?D_935b ?sub_935b ?hl_935b ?hd_935b ?hu_935b ?_; (case k1_935b => k_asm); (case k2_935b => k_asm); (case k3_935b => k_asm); (case k4_935b => k_asm); (case k5_935b => k_asm); (case kK_935b => first | exact rfl | assumption); (case hx_935b => k_mem); (case hdx_935b => k_mem); (case hsp_935b => k_mem); (case D_935b => with_reducible assumption); (case sub_935b => kqd_sub); (case hl_935b => first | with_reducible assumption | omega); (case hd_935b => ktr_room); (case hu_935b => ke_room)))
  k_with "w15" => (k_here; (with_reducible show wpAny _ _ (call (Value.ref 90) _) _ _ _); k_dflt (refine' mrest_use ?k1_53a1 ?k2_53a1 ?k3_53a1 ?k4_53a1 ?k5_53a1 ?kK_53a1 ?hx_53a1 ?hpl_53a1 ?D_53a1 ?hl_53a1 ?U_53a1 ?hd_53a1 ?hu_53a1 ?_; (case k1_53a1 => k_asm); (case k2_53a1 => k_asm); (case k3_53a1 => k_asm); (case k4_53a1 => k_asm); (case k5_53a1 => k_asm); (case kK_53a1 => first | exact rfl | assumption); (case hx_53a1 => k_mem); (case U_53a1 => (intro _; k_upd)); (case hpl_53a1 => k_mem); (case D_53a1 => first | with_reducible assumption | exact (by with_reducible assumption : ∀ t : Tok, DatAll [] (_ ++ [Value.int 1 t]) _) _); (case hl_53a1 => first | with_reducible assumption | omega); (case hd_53a1 => ktr_room); (case hu_53a1 => ke_room)))
  k_with "w16" => (k_here; (with_reducible show wpAny _ _ (call (Value.ref 95) _) _ _ _); k_dflt (refine' mtran_use ?k1_e468 ?k2_e468 ?k3_e468 ?k4_e468 ?k5_e468 ?kK_e468 ?hx_e468 ?hsp_e468 ?D_e468 ?sub_e468 ?TL_e468 ?hl_e468 ?U_e468 ?hd_e468 ?hu_e468 ?_; (case k1_e468 => k_asm); (case k2_e468 => k_asm); (case k3_e468 => k_asm); (case k4_e468 => k_asm); (case k5_e468 => k_asm); (case kK_e468 => first | exact rfl | assumption); (case hx_e468 => k_mem); (case U_e468 => (intro _; k_upd)); (case hsp_e468 => k_mem); (case D_e468 => with_reducible assumption); (case sub_e468 => kqd_sub); (case TL_e468 => with_reducible assumption); (case hl_e468 => first | with_reducible assumption | omega); (case hd_e468 => ktr_room); (case hu_e468 => ke_room)))
  k_with "w17" => (k_here; (with_reducible show wpAny _ _ (call (Value.ref 157) _) _ _ _); k_dflt (refine' llist_ok ?k1_8c8e ?k2_8c8e ?k3_8c8e ?k4_8c8e ?k5_8c8e ?kK_8c8e ?hsp_8c8e ?D_8c8e ?sub_8c8e ?hl_8c8e ?hd_8c8e ?hu_8c8e ?_; (case k1_8c8e => k_asm); (case k2_8c8e => k_asm); (case k3_8c8e => k_asm); (case k4_8c8e => k_asm); (case k5_8c8e => k_asm); (case kK_8c8e => first | exact rfl | assumption); (case hsp_8c8e => k_mem); (case D_8c8e => with_reducible assumption); (case sub_8c8e => kqd_sub); (case hl_8c8e => first | with_reducible assumption | omega); (case hd_8c8e => ktr_room); (case hu_8c8e => ke_room)))
  k_with "w18" => (k_here; (with_reducible show wpAny _ _ (binaryOp _ (Value.ref _) (Value.ref _)) _ _ _); k_dflt (refine' addL ?F_261b ?N_261b ?a_261b ?b_261b ?z_261b ?_; (case F_261b => k_asm); (case N_261b => k_asm); (case a_261b => k_mem); (case b_261b => k_mem); (case z_261b => first | omega | (simp only [List.length_cons, List.length_nil, List.length_replicate]; omega))))
  k_with "w19" => (k_here; (with_reducible show wpAny _ _ (binaryOp Operator.Mult (Value.ref _) (Value.int _ _)) _ _ _); k_dflt (refine' mulN ?F_1ba3 ?N_1ba3 ?l_1ba3 ?e_1ba3 ?z_1ba3 ?_; (case F_1ba3 => k_asm); (case N_1ba3 => k_asm); (case l_1ba3 => k_mem); (case e_1ba3 => with_reducible assumption); (case z_1ba3 => omega)))
  trivial
section
/-- trees that let every object's dict be -/
def Tame {α : Type} : Sem α → Prop
  | .pure _ => True
  | .raise _ => True
  | .unsupported _ => True
  | .finish _ => True
  | .rule _ k => Tame (k ())
  | .at _ k => Tame (k ())
  | .load _ _ k => ∀ o, Tame (k o)
  | .update _ _ f k => (∀ o : Obj, (f o).dict = o.dict ∧ (o.isFreed = false → (f o).isFreed = false)) ∧ Tame (k ())
  | .alloc _ k => ∀ a, Tame (k a)
  | .loadIfAlive _ k => ∀ o, Tame (k o)
  | .point _ k => Tame (k ())
  | .register _ _ => True
  | .fresh k => ∀ t, Tame (k t)
  | .ask k => ∀ x, Tame (k x)
  | .handled _ k => ∀ x, Tame (k x)
  | .stack k => ∀ x, Tame (k x)
  | _ => False
def DictsKept (h h' : Heap) : Prop := ∀ b o, h.get? b = some o → ∃ o', h'.get? b = some o' ∧ o'.dict = o.dict
theorem DictsKept.refl (h : Heap) : DictsKept h h := fun _ o e => ⟨o, e, rfl⟩
theorem DictsKept.trans {a b c : Heap} (x : DictsKept a b) (y : DictsKept b c) : DictsKept a c := fun d o e => by
  obtain ⟨o1, e1, q1⟩ := x d o e
  obtain ⟨o2, e2, q2⟩ := y d o1 e1
  exact ⟨o2, e2, q2.trans q1⟩
theorem DictsKept.push (h : Heap) (o : Obj) : DictsKept h (h.push o) := fun _ o' e => ⟨o', Heap.get?_push_of_some _ e, rfl⟩
theorem DictsKept.update (h : Heap) (a : Addr) {f : Obj → Obj} (hf : ∀ o : Obj, (f o).dict = o.dict ∧ (o.isFreed = false → (f o).isFreed = false)) : DictsKept h (h.update a f) := fun b o e => by
  by_cases q : a = b
  · subst q
    exact ⟨f o, Heap.get?_update_self f e ((hf o).2 (Heap.get?_some_iff.mp e).2), (hf o).1⟩
  · exact ⟨o, (Heap.get?_update_other h f q).trans e, rfl⟩
theorem tame_wp {α : Type} {M : Model} {Γ : PySem.Ctx} : ∀ (t : Sem α) (_ : Tame t) {Q : α → Pos → Shared → Prop} {E : Value → Pos → Shared → Prop} {p : Pos} {s : Shared}, Sem.wp M Γ t Q E p s →
    Sem.wp M Γ t (fun a p' s' => Q a p' s' ∧ DictsKept s.heap s'.heap) (fun e p' s' => E e p' s' ∧ DictsKept s.heap s'.heap) p s := by
  intro t
  induction t with
  | pure a => intro T Q E p s h; simp only [Sem.wp_pure] at h ⊢; exact ⟨h, .refl _⟩
  | raise e => intro T Q E p s h; simp only [Sem.wp_raise] at h ⊢; exact ⟨h, .refl _⟩
  | unsupported w => intro T Q E p s h; simp only [Sem.wp_unsupported] at h
  | finish e => intro T Q E p s h; simp only [Sem.wp_finish] at h
  | rule t k ih => intro T Q E p s h; simp only [Sem.wp_rule] at h ⊢; exact ih () T h
  | «at» q k ih => intro T Q E p s h; simp only [Sem.wp_at] at h ⊢; exact ih () T h
  | load a part k ih =>
    intro T Q E p s h
    rw [Sem.wp_load] at h ⊢
    obtain ⟨o, ho, h⟩ := h
    exact ⟨o, ho, ih o (T o) h⟩
  | update a part f k ih =>
    intro T Q E p s h
    rw [Sem.wp_update] at h ⊢
    refine ⟨h.1, Sem.wp_mono M Γ _ (fun x p' s' q => ⟨q.1, (DictsKept.update s.heap a T.1).trans q.2⟩) (fun x p' s' q => ⟨q.1, (DictsKept.update s.heap a T.1).trans q.2⟩) _ _ (ih () T.2 h.2)⟩
  | alloc o k ih =>
    intro T Q E p s h
    rw [Sem.wp_alloc] at h ⊢
    exact Sem.wp_mono M Γ _ (fun x p' s' q => ⟨q.1, (DictsKept.push s.heap o).trans q.2⟩) (fun x p' s' q => ⟨q.1, (DictsKept.push s.heap o).trans q.2⟩) _ _ (ih _ (T _) h)
  | loadIfAlive a k ih => intro T Q E p s h; simp only [Sem.wp_loadIfAlive] at h ⊢; exact ih _ (T _) h
  | point l k ih => intro T Q E p s h; simp only [Sem.wp_point] at h ⊢; exact ih () T h
  | register a k ih => intro T Q E p s h; simp only [Sem.wp_register] at h
  | fresh k ih => intro T Q E p s h; simp only [Sem.wp_fresh] at h ⊢; exact ih _ (T _) h
  | ask k ih => intro T Q E p s h; simp only [Sem.wp_ask] at h ⊢; exact ih _ (T _) h
  | handled own k ih => intro T Q E p s h; simp only [Sem.wp_handled] at h ⊢; exact ih _ (T _) h
  | stack k ih => intro T Q E p s h; simp only [Sem.wp_stack] at h ⊢; exact ih _ (T _) h
  | _ => intro T; exact T.elim
theorem wpAny_tame {α : Type} {M : Model} {A : Around} {t : Sem α} {Q : α → Shared → Prop} {E : Value → Shared → Prop} {s : Shared} (T : Tame t) (h : wpAny M A t Q E s) :
    wpAny M A t (fun a s' => Q a s' ∧ DictsKept s.heap s'.heap) (fun e s' => E e s' ∧ DictsKept s.heap s'.heap) s := fun Γ p hΓ => tame_wp t T (h Γ p hΓ)
theorem tame_bind {α β : Type} {m : Sem α} {f : α → Sem β} (h : Tame m) (k : ∀ a, Tame (f a)) : Tame (m >>= f) := by
  show Tame (m.bind f)
  induction m with
  | pure a => exact k a
  | raise e => exact trivial
  | unsupported w => exact trivial
  | finish e => exact trivial
  | rule t g ih => exact ih () h
  | «at» q g ih => exact ih () h
  | load a part g ih => exact fun o => ih o (h o)
  | update a part u g ih => exact ⟨h.1, ih () h.2⟩
  | alloc o g ih => exact fun a => ih a (h a)
  | loadIfAlive a g ih => exact fun o => ih o (h o)
  | point l g ih => exact ih () h
  | register a g ih => exact trivial
  | fresh g ih => exact fun t => ih t (h t)
  | ask g ih => exact fun x => ih x (h x)
  | handled o g ih => exact fun x => ih x (h x)
  | stack g ih => exact fun x => ih x (h x)
  | _ => exact h.elim
theorem tame_pure {α : Type} (a : α) : Tame (pure a : Sem α) := trivial
theorem tame_uns {α : Type} (w : String) : Tame (unsupported w : Sem α) := trivial
theorem tame_load (a : Addr) : Tame (load a) := fun _ => trivial
theorem tame_stack : Tame stack := fun _ => trivial
theorem tame_mapFields (f : Array Value → Array Value) (o : Obj) : (Obj.mapFields f o).dict = o.dict ∧ (o.isFreed = false → (Obj.mapFields f o).isFreed = false) := by
  obtain ⟨c, d, dt, sl⟩ := o
  cases dt <;> exact ⟨rfl, id⟩
theorem tame_updateField (a : Addr) (i : Nat) (v : Value) : Tame (updateField a i v) := by
  unfold updateField
  refine tame_bind (tame_load a) fun o => ?_
  split
  · split
    · exact ⟨tame_mapFields _, trivial⟩
    · exact tame_uns _
  · exact tame_uns _
theorem tame_setField (v : Value) (i : Nat) (x : Value) : Tame (setField v i x) := by
  unfold setField
  split
  · exact tame_updateField _ _ _
  · exact tame_uns _
theorem tame_fieldsOf (v : Value) : Tame (fieldsOf v) := by
  unfold fieldsOf
  split
  · refine tame_bind (tame_load _) fun o => ?_
    split
    · exact tame_pure _
    · exact tame_uns _
  · exact tame_uns _
theorem tame_field (v : Value) (i : Nat) : Tame (field v i) := by
  unfold field
  refine tame_bind (tame_fieldsOf v) fun o => ?_
  split
  · exact tame_pure _
  · exact tame_uns _
theorem tame_setFlight (e : Value) (f : Option Addr) : Tame (setFlight e f) := by
  unfold setFlight
  refine tame_bind (tame_field _ _) fun o => ?_
  split
  · exact tame_setField _ _ _
  · exact tame_pure _
theorem tame_frameEnvs : Tame frameEnvs := by
  unfold frameEnvs
  exact tame_bind tame_stack fun _ => tame_pure _
theorem tame_newEntry (a b c d e : Value) (pl : List Value) : Tame (EntryCells.newEntry a b c d e pl) := by
  unfold EntryCells.newEntry newFields newObj newObjAsIs
  have fin : ∀ o : Obj, Tame (do let a ← alloc o; pure (Value.ref a)) := fun o => tame_bind (fun _ => trivial) fun a => tame_pure _
  dsimp only
  generalize ([a, b, c, d, e] ++ if pl.isEmpty = true then List.replicate 6 Value.none else pl).toArray = vs
  split
  · exact tame_bind (tame_uns _) fun _ => fin _
  · exact fin _
theorem tame_entryPlaceOf (f : Addr) (b : Bool) : Tame (entryPlaceOf f b) := by
  unfold entryPlaceOf
  refine tame_bind tame_stack fun acts => ?_
  split
  · exact tame_pure _
  · exact tame_pure _
theorem tame_readyFrames : ∀ l : List Env, Tame (readyFrames l)
  | [] => trivial
  | env :: outer => by
    unfold readyFrames
    split
    · refine tame_bind (tame_load _) fun o => ?_
      split
      · exact tame_pure _
      · refine tame_bind ?_ fun imp => ?_
        · unfold behindIsImport
          split
          · exact tame_pure _
          · split
            · exact tame_pure _
            · exact tame_bind (tame_field _ _) fun _ => tame_pure _
        · refine tame_bind ?_ fun back => ?_
          · unfold keptBack
            split
            · split
              · exact tame_pure _
              · unfold underTheClaimsCaller
                repeat (first | exact tame_pure _ | exact tame_stack | (refine tame_bind ?_ fun _ => ?_) | split)
            · exact tame_pure _
          · refine tame_bind ⟨fun o => ⟨rfl, ?_⟩, trivial⟩ fun _ => tame_readyFrames outer
            obtain ⟨c, d, dt, sl⟩ := o
            cases dt <;> exact id
    · exact tame_uns _
theorem tame_frameOf (env : Env) : Tame (PySem.frameOf env) := by
  unfold PySem.frameOf frameObject
  refine tame_bind (tame_frameEnvs) fun l => ?_
  refine tame_bind ?_ fun x => ?_
  · split
    · exact tame_pure _
    · exact tame_bind (tame_readyFrames _) fun _ => tame_pure _
  · split
    · exact tame_pure _
    · exact tame_uns _
theorem tame_noteFrame (e : Value) (env : Env) : Tame (noteFrame e env) := by
  unfold noteFrame
  split
  · refine tame_bind (tame_field _ _) fun head => ?_
    have fin : ∀ (f : Addr), Tame (do setField e 1 (← EntryCells.newEntry head (← PySem.frameOf env) .none (rawInt f) .none (← entryPlaceOf f (head != .none))) : Sem Unit) := fun f =>
      tame_bind (tame_frameOf _) fun _ => tame_bind (tame_entryPlaceOf _ _) fun _ => tame_bind (tame_newEntry _ _ _ _ _ _) fun _ => tame_setField _ _ _
    split
    · refine tame_bind (tame_field _ _) fun y => ?_
      split
      · exact tame_pure _
      · exact tame_bind (tame_setField _ _ _) fun _ => fin _
    · exact fin _
  · exact tame_uns _
theorem tame_leaving (env : Env) (e : Value) : Tame (leaving env e) := by
  unfold leaving
  exact tame_bind (tame_noteFrame _ _) fun _ => tame_setFlight _ _

end
section
section
open Builtin Builtin.ObjectAttr
variable {prog : Program} {w : World} {A : Around} {E : Value → Shared → Prop} {h : Heap} {g : Array GenState} {d : Drawn} {t : Nat} {os : OsState}
variable {nm q : Str} {C N x : Addr} {bs bm : List Value} {sn : List Str} {sub : List Value} {ab : Bool} {col : Option Bool} {dd : Option Addr} {k0 k1 k2 k3 k5 : Option Value} {B newId sa owner : String}
  {mN mA : Str → Option Value} {name : Str} {v : Value} {o : Obj}
/-- an exception's first attribute: its dict is made -/
theorem set_first {Q : Unit → Shared → Prop} (SF : StoreFacts B bm sa owner)
    (hC : h.get? C = some (excClassObj nm q C N bs bm true sn sub ab col dd k0 k1 k2 k3 k5 newId)) (hn : h.Ns N mN) (hns : mN "__setattr__" = none) (hna : mN name = none)
    (hB : typeLookup (.type B) name = pure none) (hx : h.get? x = some o) (hc : o.cls = .ref C) (hnc : ∀ c, o.data ≠ .cls c) (hdn : o.dict = none)
    (hq : ∀ h' tk', (∀ b ob, b ≠ x → h.get? b = some ob → h'.get? b = some ob) → h'.get? x = some { cls := o.cls, dict := some h.objs.size, data := o.data, slots := o.slots } →
      h'.Ns1 h.objs.size (fun y => if y = name then some v else none) → Q () ⟨h', g, d, tk', os⟩) :
    wpAny (model prog w) A (setAttr (.ref x) name v) Q E ⟨h, g, d, t, os⟩ := by
  have f3 := SF.slot.bind (.ref x)
  have hpass := SF.passes (.ref x)
  unfold setAttr callSpecial? specialOf
  repeat (any_goals (first | assumption | (with_reducible refine wpAny_loadPart_at hx ?_; rw [hc]) | (with_reducible refine wpAny_typeLookup_exc hC hn SF.mro SF.slot.lookup ?_; rw [hns]) | wp_step))
  refine codeAny_call_builtin SF.slot.plain SF.entry (wpAny_check_sa SF hC hx hc ?_)
  unfold Builtin.«object.__setattr__»
  repeat (first | rw [refuse_eq] | (rw [refuseLoop_ref, hpass]) | (with_reducible refine wpAny_loadPart_at hx ?_; rw [hc]) | with_reducible refine wpAny_mroOf_exc hC ?_ | (with_reducible refine wpAny_typeLookup_exc hC hn SF.mro hB ?_; rw [hna]) | wp_step)
  rw [hdn, if_neg (by simp [typeHasDict])]
  split
  · rename_i hcd
    cases hcd
  split
  · rename_i c hcd
    exact absurd hcd (hnc c)
  have hxs : x ≠ h.objs.size := Nat.ne_of_lt (Heap.lt_size hx)
  have hx1 := Heap.get?_push_of_some { cls := .type "dict", data := .dict #[] } hx
  refine wpAny_bind (wpAny_alloc' (wpAny_bind (wpAny_update' hx1 (wpAny_pure ?_))))
  have hgd : ((h.push { cls := .type "dict", data := .dict #[] }).update x fun o => { cls := o.cls, dict := some h.objs.size, data := o.data, slots := o.slots }).get? h.objs.size
      = some { cls := .type "dict", data := .dict #[] } :=
    (Heap.get?_update_ne _ _ _ _ hxs.symm).trans (Heap.get?_push_at rfl rfl)
  have hnd : ((h.push { cls := .type "dict", data := .dict #[] }).update x fun o => { cls := o.cls, dict := some h.objs.size, data := o.data, slots := o.slots }).Ns h.objs.size (fun _ => none) :=
    ⟨_, #[], _, hgd, rfl, fun e he => absurd he (by simp), fun _ => rfl⟩
  show wpAny _ _ (storeInDict h.objs.size _ name v) _ _ _
  unfold storeInDict newKeyGuard
  refine wpAny_bind (wpAny_pure (wpAny_bind (wpAny_nsSet1 (Heap.Ns1.of_empty hnd) fun h' hn' hs => ?_)))
  obtain ⟨oD, esD, epD, hoD, hdD, hcD⟩ := hn'.count (Within.cons name v Within.nil)
  refine wpAny_bind (wpAny_lookBehind hoD (by rw [hdD]; exact pastItsLine_dict (Nat.le_trans hcD (by rw [List.length_cons, List.length_nil, sizeLine_eq]; omega))) ?_)
  repeat (any_goals (first | assumption | wp_step))
  refine hq h' _ (fun b ob hbx hb => ?_) ?_ hn'
  · exact (hs.2 b (Nat.ne_of_lt (Heap.lt_size hb))).trans ((Heap.get?_update_ne _ _ _ _ hbx).trans (Heap.get?_push_of_some _ hb))
  · refine (hs.2 x hxs).trans (Heap.get?_update_self _ hx1 ?_)
    have hfr := (Heap.get?_some_iff.mp hx).2
    obtain ⟨oc, od, odt, osl⟩ := o
    cases odt <;> first | rfl | exact hfr
/-- an exception's attribute out of its dict -/
theorem get_own {expr : Bool} {D : Addr} {Q : Value → Shared → Prop} (FB : ExcAttrBase B bm)
    (hC : h.get? C = some (excClassObj nm q C N bs bm true sn sub ab col dd k0 k1 k2 k3 k5 newId)) (hn : h.Ns N mN) (hng : mN "__getattribute__" = none) (hnh : mN "__getattr__" = none) (hna : mN name = none)
    (hB : typeLookup (.type B) name = pure none) (hx : h.get? x = some o) (hc : o.cls = .ref C) (hnc : ∀ c, o.data ≠ .cls c) (hd : o.dict = some D) (hD : h.Ns D mA) (hv : mA name = some v) (hh : handedOut v = pure v) (hq : Q v ⟨h, g, d, t + 1, os⟩) :
    wpAny (model prog w) A (getAttr (.ref x) name expr) Q E ⟨h, g, d, t, os⟩ := by
  have f3 := FB.ga.bind (.ref x)
  have hx0 : (expr && onTheHeap (Value.builtin "BaseException.__getattribute__")) = false := by cases expr <;> rfl
  have hx2 : (Value.builtin "BaseException.__getattribute__" == Value.builtin "object.__getattribute__") = false := by decide +kernel
  have hx1 : (onTheHeap (Value.ref C) && Value.builtin "BaseException.__getattribute__" == Value.builtin "object.__getattribute__") = false := by rw [hx2]; rfl
  unfold getAttr
  repeat (any_goals (first | assumption | (with_reducible refine wpAny_loadPart_at hx ?_; rw [hc]) | (with_reducible refine wpAny_typeLookup_exc hC hn FB.mro FB.ga.lookup ?_; rw [hng]) | (with_reducible refine wpAny_typeLookup_exc hC hn FB.mro FB.noGetattr ?_; rw [hnh]) | wp_step))
  refine codeAny_call_builtin FB.ga.plain F.entry_bexc_ga (wpAny_check_ga_own FB hC .base hx hc ?_)
  unfold Builtin.«object.__getattribute__»
  repeat (any_goals (first | assumption | (with_reducible refine wpAny_loadPart_at hx ?_; rw [hc]) | (with_reducible refine wpAny_typeLookup_exc hC hn FB.mro hB ?_; rw [hna]) | wp_step))
  split
  · rename_i c hcd
    exact absurd hcd (hnc c)
  unfold instanceDict
  repeat (first | (with_reducible refine wpAny_loadPart_at hx ?_; rw [hc]) | with_reducible refine wpAny_loadPart_at hC ?_ | wp_step)
  rw [hd]
  repeat (first | (with_reducible refine wpAny_nsGet hD ?_; rw [hv]) | wp_step)
  exact hq
end

def HasDict (h : Heap) (e D : Addr) : Prop := ∃ oe, h.get? e = some oe ∧ oe.dict = some D
theorem HasDict.on {h h' : Heap} {e D : Addr} (x : HasDict h e D) (k : DictsKept h h') : HasDict h' e D := by
  obtain ⟨oe, he, hd⟩ := x
  obtain ⟨o', h1, h2⟩ := k e oe he
  exact ⟨o', h1, h2.trans hd⟩
/-- an exception that has an own dict, flying: the ledger ahead of it stays -/
def RaisedD (base G : Heap) (l : List Env) (e : Addr) (cls a0 : Value) (D : Addr) (keep : List (Addr × Obj)) (h : Heap) : Prop :=
  (∃ B, base.StaysIn B ∧ (∀ b o, G.get? b = some o → b ∉ l.filterMap (·.frame) → B.get? b = some o) ∧ (∀ q ∈ keep, B.get? q.1 = some q.2 ∧ G.get? q.1 = none ∧ base.get? q.1 = none) ∧ Heap.FlyingW B l e cls a0 h) ∧ HasDict h e D
section
variable {M : Model} {A : Around} {E : Value → Shared → Prop} {s : Shared} {base : Heap} {env : Env} {outer l : List Env} {L e D : Addr} {cls a0 : Value} {Q : Unit → Shared → Prop}
theorem tame_use {t : Sem Unit} {P : Heap → Prop} (T : Tame t) (hd : HasDict s.heap e D) (h : wpAny M A t (fun _ s' => ∃ h', s' = { s with heap := h' } ∧ P h') E s)
    (hQ : ∀ h', P h' → HasDict h' e D → Q () { s with heap := h' }) : wpAny M A t Q E s :=
  wpAny_mono (wpAny_tame T h) (fun _ s' ⟨⟨h', e1, a⟩, k⟩ => by subst e1; exact hQ h' a (hd.on k)) fun _ _ x => x.1
theorem looks_D (hfr : A.frames = some (env :: outer)) (hf : env.frame = some L) (hfl : Heap.FlyingW base (env :: outer) e cls a0 s.heap) (hd : HasDict s.heap e D)
    (hQ : ∀ h', Heap.HeldW base (env :: outer) e cls a0 L h' ∧ s.heap.UpToSlots h' → HasDict h' e D → Q () { s with heap := h' }) : wpAny M A (noteFrame (.ref e) env) Q E s :=
  tame_use (tame_noteFrame _ _) hd (wpAny_looks_onW hfr hf hfl fun h' a b => ⟨h', rfl, a, b⟩) hQ
theorem lands_D (hh : Heap.HeldW base l e cls a0 L s.heap) (hd : HasDict s.heap e D)
    (hQ : ∀ h', Heap.FlyingW base l e cls a0 h' ∧ s.heap.UpToSlots h' → HasDict h' e D → Q () { s with heap := h' }) : wpAny M A (setFlight (.ref e) none) Q E s :=
  tame_use (tame_setFlight _ _) hd (wpAny_landsW hh fun h' a b => ⟨h', rfl, a, b⟩) hQ
theorem lands2_D (hh : Heap.FlyingW base l e cls a0 s.heap) (hd : HasDict s.heap e D)
    (hQ : ∀ h', Heap.FlyingW base l e cls a0 h' ∧ s.heap.UpToSlots h' → HasDict h' e D → Q () { s with heap := h' }) : wpAny M A (setFlight (.ref e) none) Q E s :=
  tame_use (tame_setFlight _ _) hd (lands_againW hh fun h' a b => ⟨h', rfl, a, b⟩) hQ
theorem leaves_D {oe : Obj} {vs : Array Value} (hfr : A.frames = some (env :: outer)) (hl : s.heap.FunFrames base (env :: outer)) (hf : env.frame = some L)
    (he : s.heap.get? e = some oe) (hkb : base.StaysIn s.heap) (hen : base.get? e = none) (hv : oe.data = .fields vs) (h1 : vs[1]? = some .none) (h0 : vs[0]? = some a0) (hdd : oe.dict = some D)
    (hQ : ∀ h', Heap.LeftW base (env :: outer) e oe.cls a0 s.heap h' → HasDict h' e D → Q () { s with heap := h' }) : wpAny M A (leaving env (.ref e)) Q E s :=
  tame_use (tame_leaving _ _) ⟨oe, he, hdd⟩ (wpAny_leaving_firstW hfr hl hf he hkb hen hv h1 h0 fun h' a => ⟨h', rfl, a⟩) hQ
end
section
variable {M : Model} {A : Around} {E : Value → Shared → Prop} {s' : Shared} {base g : Heap} {outer : List Env} {L a e D : Addr} {m : Str → Option Value} {name : Str} {scope : Scope} {cd : Value} {cl : List (Str × Addr)} {Q : Unit → Shared → Prop} {news keep : List (Addr × Obj)} {oe : Obj} {vs : Array Value} {a0 : Value}
/-- a frame is left by an exception that was made in it -/
theorem leave_exc (K : Below A base outer g) (F : Fr g L s'.heap m) (N : News g L s'.heap news) (he : (e, oe) ∈ news) (hv : oe.data = .fields vs) (h1 : vs[1]? = some .none) (h0 : vs[0]? = some a0) (hdd : oe.dict = some D)
    (hk : ∀ q ∈ keep, q ∈ news ∧ q.1 ≠ e) (hks : scope.kind = .function)
    (hQ : ∀ h', RaisedD base g outer e oe.cls a0 D keep h' → g.UpToSlots h' → Q () { s' with heap := h' }) :
    wpAny M (A.deeper (envX name scope L a cd cl)) (leaving (envX name scope L a cd cl) (.ref e)) Q E s' := by
  have K' := pushX (env := envX name scope L a cd cl) K F rfl hks
  have hin : ∀ env ∈ (envX name scope L a cd cl :: outer), ∀ b, env.frame = some b → b ∈ e :: (envX name scope L a cd cl :: outer).filterMap (·.frame) := fun env he b hb => .tail _ (List.mem_filterMap.mpr ⟨env, he, hb⟩)
  have hfm : ∀ b, b ∈ (envX name scope L a cd cl :: outer).filterMap (·.frame) → b = L ∨ b ∈ outer.filterMap (·.frame) := fun b hb => by
    rcases List.mem_cons.mp (show b ∈ L :: outer.filterMap (·.frame) from hb) with h | h
    · exact .inl h
    · exact .inr h
  have ne := (N _ he).2.2
  have nL : g.get? L = none := kts_self F
  have bs : ∀ {b}, g.get? b = none → base.get? b = none := fun h => fresh_of_stays K.stays h
  have sg : ∀ b o, g.get? b = some o → b ∉ outer.filterMap (·.frame) → (hideAll s'.heap (e :: (envX name scope L a cd cl :: outer).filterMap (·.frame))).get? b = some o := fun b o q nm => hideAll_get _ (F.keep b o q) fun hm => by
    rcases List.mem_cons.mp hm with z | hm
    · rw [z, ne] at q; cases q
    · rcases hfm b hm with z | z
      · rw [z, nL] at q; cases q
      · exact nm z
  have sf : ∀ b, b ∈ outer.filterMap (·.frame) → base.get? b = none ∧ ∃ o, g.get? b = some o := fun b hb => by
    obtain ⟨x1, o, x2, _⟩ := K.frames.mem hb
    exact ⟨x1, o, x2⟩
  have st : base.StaysIn (hideAll s'.heap (e :: (envX name scope L a cd cl :: outer).filterMap (·.frame))) := fun b o q => sg b o (K.stays b o q) fun hb => by
    rw [(sf b hb).1] at q; cases q
  have hl : ∀ q ∈ keep, (hideAll s'.heap (e :: (envX name scope L a cd cl :: outer).filterMap (·.frame))).get? q.1 = some q.2 ∧ g.get? q.1 = none ∧ base.get? q.1 = none := fun q hq => by
    obtain ⟨x1, x2, x3⟩ := N q (hk q hq).1
    refine ⟨hideAll_get _ x1 fun hm => ?_, x3, bs x3⟩
    rcases List.mem_cons.mp hm with z | hm
    · exact (hk q hq).2 z
    · rcases hfm _ hm with z | z
      · exact x2 z
      · obtain ⟨_, o, ho⟩ := sf _ z
        rw [x3] at ho; cases ho
  have hbe : (hideAll s'.heap (e :: (envX name scope L a cd cl :: outer).filterMap (·.frame))).get? e = none := hideAll_none _ (.head _)
  exact leaves_D K'.stack (funFrames_hide K'.frames hin) rfl (N _ he).1 (fun b o q => of_hideAll _ q) hbe hv h1 h0 hdd fun h' ⟨k1, ⟨_, _, k2⟩, k3, k4⟩ hD =>
    hQ h' ⟨⟨_, st, sg, hl, k1, hbe, k2, k3⟩, hD⟩ ((Heap.UpToSlots.of_keeps F.keep).trans k4)
end

end
section
section
variable {prog : Program} {w : World} {A₀ : Around} {E : Value → Shared → Prop} {s' : Shared} {base g G : Heap} {outer : List Env} {L a e C D : Addr} {m : Str → Option Value} {name : Str} {scope : Scope} {cd : Value} {cl : List (Str × Addr)}
  {n : Str} {b₀ : Stmt} {suite : List Stmt} {pos np : Pos} {rest : List ExceptHandler} {Q : Flow → Shared → Prop} {keep : List (Addr × Obj)} {KF : Frag} {a0 : Value}
  {p : Program} {loose : List Str} {mean : ExcName → Option Value} {mg mb : Str → Option Value} {x : Str}
/-- the clause that catches an exception that has an own dict -/
theorem caughtD (R : RaisedD base G (envX name scope L a cd cl :: outer) e (.ref C) a0 D keep s'.heap) (F : Fr g L G m) (K : Below A₀ base outer g) (hsm : G.UpToSlots s'.heap) (XB : KF.In base) (TB : Top p loose mean mg mb base)
    (ex : nsIn KF mainGlobals x = some (some (.ref C))) (q : ktsIn KF C "BaseException" = true)
    (k : ∀ h' g' tk oe, KtsTurn (outer.filterMap (·.frame)) g g' → Fr g' L h' (fun y => if y = n then some (.ref e) else m y) → News g' L h' ((e, oe) :: keep) → oe.cls = .ref C → oe.dict = some D → (∀ c, oe.data ≠ .cls c) → Below A₀ base outer g' → KF.In g' → Top p loose mean mg mb g' →
      wpAny (model prog w) ((A₀.deeper (envX name scope L a cd cl)).mark (some (.ref e))) (execs (b₀ :: suite) (envX name scope L a cd cl))
        (fun f s₄ => wpAny (model prog w) (A₀.deeper (envX name scope L a cd cl)) (do bindName (envX name scope L a cd cl) n .none; unbindBehindTheSuite (envX name scope L a cd cl) n pos) (fun _ s₅ => Q f s₅) E s₄)
        (AsSuiteRaised (model prog w) ((A₀.deeper (envX name scope L a cd cl)).mark (some (.ref e))) (envX name scope L a cd cl) n pos (notedBy (model prog w) ((A₀.deeper (envX name scope L a cd cl)).mark (some (.ref e))) (envX name scope L a cd cl) (cameBackBy (model prog w) (A₀.deeper (envX name scope L a cd cl)) (envX name scope L a cd cl) E)))
        { s' with heap := h', toks := tk })
    (hk : scope.kind = .function := by rfl) (hlo : (envX name scope L a cd cl).kindOf n = some .local := by rfl) (hx : (envX name scope L a cd cl).kindOf x = some .globalImplicit := by rfl) (hd : (x == ("__debug__" : Str)) = false := by decide) :
    wpAny (model prog w) (A₀.deeper (envX name scope L a cd cl)) (noteFrame (.ref e) (envX name scope L a cd cl))
      (fun _ s₂ => wpAny (model prog w) (A₀.deeper (envX name scope L a cd cl)) (setFlight (.ref e) none) (fun _ s₃ =>
        wpAny (model prog w) (A₀.deeper (envX name scope L a cd cl)) (handleBy (.ref e) (envX name scope L a cd cl) (.ExceptHandler (some (.Name x np)) (some n) (b₀ :: suite) pos :: rest)) Q E s₃) E s₂) E s' := by
  obtain ⟨⟨B, hB, hBG, hl, hfl⟩, hD⟩ := R
  have hL : B.get? L = none := by
    obtain ⟨_, ⟨L', _, hf, hn', _⟩, _⟩ := hfl.2.2.1
    obtain rfl : L = L' := Option.some.inj hf
    exact hn'
  have ground : ∀ h₅, B.StaysIn h₅ → G.UpToSlots h₅ → ∃ g', KtsTurn (outer.filterMap (·.frame)) g g' ∧ Fr g' L h₅ m ∧ Below A₀ base outer g' := fun h₅ x1 x2 =>
    kts_ground (name := name) (scope := scope) (a := a) (cd := cd) K F hBG x1 x2
  refine looks_D (Around.frames_deeper K.stack) rfl hfl hD fun h₄ ⟨held4, sm4⟩ hD4 => ?_
  refine lands_D held4 hD4 fun h₅ ⟨fl5, sm5⟩ hD5 => ?_
  have up5 := hsm.trans (sm4.trans sm5)
  obtain ⟨g5, T5, F5, K5⟩ := ground h₅ fl5.1 up5
  have X5 : KF.In g5 := XB.keeps K5.stays
  have P5 : TopRead p loose mg mb g5 := topRead_of (TB.keeps K5.stays)
  obtain ⟨ob, hob, hobc⟩ := fl5.there
  obtain ⟨nm, q', N, bs, bm, hdct, sn, sub, ab, col, dd, k0, k1, k2, k3, k5, newId, hC, hbase, hbT⟩ := kts_cls X5 q
  have hC5 := F5.keep _ _ hC
  refine wpAny_handleBy_cons (codeAny_handlers_test (nameX_K F5 X5 P5 ex ?_ hk hx hd)) (by intro q; cases q)
  refine wpAny_excMatches_sub_self hC5 hob hobc hbase (codeAny_handlers_suite_as ?_)
  refine lands2_D fl5 hD5 fun h₆ ⟨fl6, sm6⟩ hD6 => ?_
  have up6 := up5.trans sm6
  obtain ⟨g6, T6, F6, K6⟩ := ground h₆ fl6.1 up6
  obtain ⟨oe, ws, hoe, hoec, hoed, hoe0⟩ := fl6.first
  obtain ⟨oe', hoe', hdd⟩ := hD6
  obtain rfl : oe = oe' := Option.some.inj (hoe.symm.trans hoe')
  have ne6 : g6.get? e = none := T6.none_ _ (by
    cases hq : g.get? e with
    | none => rfl
    | some o =>
      by_cases hm : e ∈ outer.filterMap (·.frame)
      · obtain ⟨_, o', ho', hd'⟩ := K.frames.mem hm
        rw [hq] at ho'
        cases ho'
        obtain ⟨sl, hs⟩ := up6 _ _ (F.keep _ _ hq) hd'
        rw [hoe] at hs
        cases hs
        exact absurd hoed (hd' _)
      · have hb := hBG e o (F.keep _ _ hq) (fun hm' => by
          rcases List.mem_cons.mp (show e ∈ L :: outer.filterMap (·.frame) from hm') with z | z
          · rw [z, kts_self F] at hq; cases hq
          · exact hm z)
        rw [hfl.2.1] at hb; cases hb)
  have N6 : News g6 L h₆ ((e, oe) :: keep) := fun r hr => by
    rcases List.mem_cons.mp hr with rfl | hr
    · refine ⟨hoe, fun z => ?_, ne6⟩
      obtain ⟨oL, es, ep, ho, hd', _⟩ := F6.ns
      dsimp only at z
      rw [← z, hoe] at ho
      cases ho
      rw [hoed] at hd'
      cases hd'
    · exact ⟨fl6.1 _ _ (hl r hr).1, (fun z => by have := (hl r hr).1; rw [z, hL] at this; cases this), T6.none_ _ (kts_none F.keep (hl r hr).2.1)⟩
  refine storeX_L F6 N6 (fun h₇ F7 N7 => ?_) hk hlo
  exact k h₇ g6 _ oe T6 F7 N7 hoec hdd (fun c => by rw [hoed]; intro z; cases z) K6 (XB.keeps K6.stays) (TB.keeps K6.stays)
end

end
section
theorem ns_some_of {K : Frag} {h : Heap} {N : Addr} {mg : Str → Option Value} {n : Str} {v : Value} (X : K.In h) (G : h.Ns N mg) (e : nsIn K N n = some (some v)) : mg n = some v := by
  obtain ⟨o, es, ep, ho, hd, _, hf⟩ := G
  unfold nsIn at e
  split at e
  · rename_i c d es' n' sl q
    have := X _ _ q
    rw [ho] at this
    cases this
    cases hd
    split at e
    · rename_i en he
      cases e
      rw [← hf]
      unfold nsFind findBy
      rw [← Array.find?_toList, he]
      rfl
    · split at e <;> cases e
  · cases e
/-- the text's own exception class stands in the heap -/
def ExcC (h : Heap) : Prop := ∃ (k2 k3 : Option Value) (mN : Str → Option Value),
  h.get? 31 = some (excClassObj (Str.ofString "LispSignal") (Str.ofString "LispSignal") 31 30 [.type "Exception"] [.type "Exception", .type "BaseException", .type "object"] true [] [] false none none (some (.ref 15)) none k2 k3 (some (.bool true)) "Exception.__new__") ∧ h.Ns 30 mN ∧
    mN "__init__" = some (.ref 28) ∧ mN "__setattr__" = none ∧ mN "__getattribute__" = none ∧ mN "__getattr__" = none ∧ mN "symbol" = none ∧ mN "data" = none
theorem excC_of {P : Params} {h : Heap} (X : (Mine.hd.heap_39 P).In h) : ExcC h := by
  have ok : nsOkIn (Mine.hd.heap_39 P) 30 = true := by kernel_rfl
  have G := Heap.Ns.of_isNs (isNs_of_in X ok)
  exact ⟨some (.str (Str.ofString "LispSignal") 189), some (.str (Str.ofString "LispSignal") 197), _, X 31 _ (by kernel_rfl), G, ns_some_of X G (by kernel_rfl), ns_none_of X G (by kernel_rfl), ns_none_of X G (by kernel_rfl), ns_none_of X G (by kernel_rfl), ns_none_of X G (by kernel_rfl), ns_none_of X G (by kernel_rfl)⟩
theorem ExcC.keeps {h h' : Heap} (x : ExcC h) (k : ∀ b o, h.get? b = some o → h'.get? b = some o) : ExcC h' := by
  obtain ⟨k2, k3, mN, hC, ⟨o, es, ep, ho, r⟩, y⟩ := x
  exact ⟨k2, k3, mN, k _ _ hC, ⟨o, es, ep, k _ _ ho, r⟩, y⟩

end
local macro_rules | `(tactic| ke_room) => `(tactic| k_extra "w0")
local macro_rules | `(tactic| k_mem) => `(tactic| assumption)

theorem kwaad : True := by
  k_with "WPost" => (dsimp only [WPost])
  trivial
section
abbrev excO (t D : Addr) : Obj := { cls := .ref 31, dict := some D, data := .fields #[.ref t, .none, .none, .none, .bool false, .none] }
def ExcGoes (E : Value → Shared → Prop) (v : Value) (s : Shared) : Prop := ∃ e t D, v = .ref e ∧ ExcC s.heap ∧ s.heap.get? e = some (excO t D) ∧ E (.ref e) s
section
variable {prog : Program} {w : World} {A : Around} {E : Value → Shared → Prop} {env : Env} {s : Shared}
theorem raise_exc {x : PySem.Expr} {pos : Pos} {Q : Flow → Shared → Prop} (hh : A.handled = none)
    (h : wpAny (model prog w) A (eval x env) (ExcGoes E) E s) :
    wpAny (model prog w) A (exec (.Raise (some x) none pos) env) Q E s := by
  have go : ∀ v s₁, (∃ e t D, v = .ref e ∧ ExcC s₁.heap ∧ s₁.heap.get? e = some (excO t D) ∧ E (.ref e) s₁) → wpAny (model prog w) A (do
      let e ← holding ([] : List Value) (excFromValue v "exceptions must derive from BaseException")
      let e ← if ← isType v then holding [e] (raisedFor v e) else raisedInstance e
      setFlight e none
      raiseNew e : Sem Flow) Q E s₁ := by
    rintro v s₁ ⟨e, t, D, rfl, ⟨k2, k3, mN, hC, _⟩, he, hE⟩
    obtain ⟨hp, g, d, tk, os⟩ := s₁
    have hcB : (Value.ref 31 :: [Value.type "Exception", .type "BaseException", .type "object"]).contains (.type "BaseException") = true := by rfl
    repeat (first | with_reducible refine wpAny_loadPart_at he ?_ | with_reducible refine wpAny_loadPart_at hC ?_ | (with_reducible refine wpAny_isSubtype_exc hC ?_; rw [hcB]) | wp_step)
    exact wpAny_raiseNew_none hh hE
  rw [arm_exec_Raise]
  refine wpAny_bind (wpAny_standAt ?_)
  unfold raiseStmt
  refine wpAny_bind (wpAny_bind (wpAny_mono h (fun v s₁ h₁ => wpAny_bind (wpAny_standAt (wpAny_pure ?_))) fun _ _ x => x))
  exact go v s₁ h₁
end
theorem sig_ok {w : World} {p : Program} {loose : List Str} {mean : ExcName → Option Value} {mg mb : Str → Option Value} {dp un : Nat} {gd : Option (List Code)} {cn : Str} {cs : Scope} {a : Addr} {ccd : Value} {cl : List (Str × Addr)} {outer : List Env} {A₀ : Around} {base h₀ : Heap} {L : Addr} {m : Str → Option Value} {s : Shared} {Q E : Value → Shared → Prop} {news : List (Addr × Obj)} {v1 v2 : Value}
  (B : Below A₀ base outer h₀) (F : Fr h₀ L s.heap m) (X : (Mine.hd.heap_39 w.params).In h₀) (N : News h₀ L s.heap news) (T : Top p loose mean mg mb h₀) (hk : cs.kind = .function) (hd : dp + 3 < recursionLimit) (hu : un + 300 < cLine)
  (ret : ∀ (e D t : Addr) (oD oT : Obj) (h' : Heap) (tk' : Nat), (∀ q ∈ news, q.1 ≠ e ∧ q.1 ≠ D ∧ q.1 ≠ t) → @Ne Nat e D → @Ne Nat e t → @Ne Nat D t → (∀ hh : Heap, hh.get? D = some oD → hh.Ns D (fun y => if y = "data" then some v2 else if y = "symbol" then some v1 else none)) → Fr h₀ L h' m → News h₀ L h' ((e, excO t D) :: (D, oD) :: (t, oT) :: news) → Q (.ref e) { s with heap := h', toks := tk' }) :
  wpAny (model PySem.Challenge.pw_ok0042_01 w) (ktrTop dp un gd cn cs L a ccd cl outer) (call (.ref 31) [v1, v2]) Q E s := by
  show Keep PySem.Challenge.rw_ok0042_01 Mine.hd.heap_39 (wpAny _ _ _ _ _ _)
  k_fill
  unfold Keep
  have XC := excC_of X
  obtain ⟨k2, k3, mN, hC, hN, m1, m2, m3, m4, m5, m6⟩ := id XC
  obtain ⟨oI, hI, hIc⟩ : ∃ o, (Mine.hd.heap_39 w.params).lookup 28 = some o ∧ o.cls = .type "function" := by
    have q : ((Mine.hd.heap_39 w.params).lookup 28).map (·.cls) = some (.type "function") := by kernel_rfl
    cases r : (Mine.hd.heap_39 w.params).lookup 28 with
    | none => rw [r] at q; cases q
    | some o => rw [r] at q; exact ⟨o, rfl, Option.some.inj q⟩
  obtain ⟨hp, g, d, tk, os⟩ := s
  obtain ⟨oN, nes, nep, hNo, hNr⟩ := hN
  refine wpAny_call_exc_init PySem.F.excBase_Exception (F.keep _ _ hC) ⟨oN, nes, nep, F.keep _ _ hNo, hNr⟩ m1 (X.keeps F.keep 28 _ hI) hIc (fun h' e hm => ?_) (by simp [sizeLine])
  obtain ⟨t, he, htn, ht⟩ := hm.there
  have nb : ∀ {b}, hp.get? b = none → h₀.get? b = none := fun hb => kts_none F.keep hb
  have F' : Fr h₀ L h' m := ⟨F.ns.keeps hm.keeps, fun b o q => hm.keeps b o (F.keep b o q), F.above⟩
  have hLe : ∀ {b}, hp.get? b = none → b ≠ L := fun hb z => by
    obtain ⟨oL, _, _, ho, _⟩ := F.ns
    rw [z] at hb; rw [hb] at ho; cases ho
  have N' : News h₀ L h' ((e, { cls := .ref 31, data := .fields #[.ref t, .none, .none, .none, .bool false, .none] }) :: (t, { cls := .type "tuple", data := .seq [v1, v2].toArray }) :: news) := fun q hq => by
    rcases List.mem_cons.mp hq with rfl | hq
    · exact ⟨he, hLe hm.new, nb hm.new⟩
    · rcases List.mem_cons.mp hq with rfl | hq
      · exact ⟨ht, hLe htn, nb htn⟩
      · exact ⟨hm.keeps _ _ (N q hq).1, (N q hq).2.1, (N q hq).2.2⟩
  refine wpAny_call ?_
  k_dflt cell_enter
  w_strict k_steps
  rename_i g1 L1 h1 FG1 F1 N1 B1 X1 T1
  have hLk : ∀ b o, h₀.get? b = some o → h1.get? b = some o := fun b o q => F1.keep _ _ (FG1.keep _ _ q)
  have tl1 : typeLookup (.type "Exception") "symbol" = pure none := by rw [typeLookup_type, builtinLookup_eq_fast]; kernel_rfl
  have tl2 : typeLookup (.type "Exception") "data" = pure none := by rw [typeLookup_type, builtinLookup_eq_fast]; kernel_rfl
  have ne1 := N1 _ (.head _)
  have N1k := fun (q : Addr × Obj) hq => (N1 q hq).1
  refine set_first PySem.F.store_Exception (hLk _ _ hC) ⟨oN, nes, nep, hLk _ _ hNo, hNr⟩ m2 m5 tl1 ne1.1 rfl (fun c z => by cases z) rfl (fun h2 tk2 k2' x2 n2 => ?_)
  obtain ⟨oD, es, ep, hoD, hdD, sk, uk, fD⟩ := n2
  have hne : ∀ b o, g1.get? b = some o → b ≠ e := fun b o q z => by rw [z, ne1.2.2] at q; cases q
  have F2 : Fr g1 L1 h2 _ := ⟨by
    obtain ⟨oL, ls, lp, ho, r⟩ := F1.ns
    exact ⟨oL, ls, lp, k2' _ _ (Ne.symm ne1.2.1) ho, r⟩, fun b o q => k2' b o (hne b o q) (F1.keep b o q), F1.above⟩
  have nDt : ∀ b o, h1.get? b = some o → b ≠ h1.objs.size := fun b o q => Nat.ne_of_lt (Heap.lt_size q)
  have nD : ∀ q ∈ news, q.1 ≠ e := fun q hq z => by have := (N q hq).1; rw [z, hm.new] at this; cases this
  have nt : ∀ q ∈ news, q.1 ≠ t := fun q hq z => by have := (N q hq).1; rw [z, htn] at this; cases this
  have net : @Ne Nat e t := fun z => by rw [z, ht] at he; cases he
  generalize hDD : h1.objs.size = D at *
  have heD : @Ne Nat e D := nDt _ _ ne1.1
  have N2 : News g1 L1 h2 ((e, excO t D) :: (D, oD) :: (t, { cls := .type "tuple", data := .seq [v1, v2].toArray }) :: news) := fun q hq => by
    rcases List.mem_cons.mp hq with rfl | hq
    · exact ⟨x2, ne1.2⟩
    · rcases List.mem_cons.mp hq with rfl | hq
      · refine ⟨hoD, fun z => ?_, ?_⟩
        · obtain ⟨oL, _, _, ho, _⟩ := F1.ns
          exact nDt _ _ ho (Eq.symm z)
        · cases r : g1.get? D with
          | none => rfl
          | some o => exact absurd rfl (nDt _ _ (F1.keep _ _ r))
      · obtain ⟨y1, y2⟩ := N1 q (.tail _ hq)
        refine ⟨k2' _ _ ?_ y1, y2⟩
        rcases List.mem_cons.mp hq with rfl | hq
        · exact Ne.symm net
        · exact nD q hq
  clear N1 F1
  w_strict k_steps
  have ne3 := N2 _ (.head _)
  have I3 : h2.Inst e 31 (fun y => if y = "symbol" then some v1 else none) := ⟨_, ne3.1, rfl, (fun c z => by cases z), .inr ⟨D, rfl, Ne.symm heD, oD, es, ep, hoD, hdD, sk, uk, fD⟩⟩
  have hLk2 : ∀ b o, h₀.get? b = some o → h2.get? b = some o := fun b o q => F2.keep _ _ (FG1.keep _ _ q)
  refine store_attr PySem.F.store_Exception (hLk2 _ _ hC) ⟨oN, nes, nep, hLk2 _ _ hNo, hNr⟩ m2 m6 tl2 (fun z => by rw [z] at ne3; have := hLk2 _ _ hC; rw [ne3.1] at this; cases this) I3 (fun h4 tk4 I4 k4 s4 => ?_) (Within.cons _ _ Within.nil) (by simp [sizeLine])
  obtain ⟨o1, y1, y2, y3, y4, y5⟩ := s4 _ ne3.1
  have y6 := y5 D rfl
  obtain rfl : o1 = excO t D := by
    obtain ⟨oc, od, odt, osl⟩ := o1
    dsimp only at y2 y3 y4 y6
    subst y2 y3 y4 y6
    rfl
  obtain ⟨o2, z1, z2, z3, z4⟩ := I4
  obtain rfl : excO t D = o2 := Option.some.inj (y1.symm.trans z1)
  rcases z4 with ⟨z5, _⟩ | ⟨D2, z5, z6, z7⟩
  · cases z5
  cases z5
  obtain ⟨oD2, es2, ep2, w1, w2, w3, w4, w5⟩ := z7
  have k5 : ∀ b o, b ≠ e → b ≠ D → h2.get? b = some o → h4.get? b = some o := fun b o q1 q2 q3 => k4 b o q1 (fun o₀ dx q4 q5 => by
    rw [ne3.1] at q4; cases q4; cases q5; exact q2) q3
  have F4 : Fr g1 L1 h4 _ := ⟨by
    obtain ⟨oL, ls, lp, ho, r⟩ := F2.ns
    exact ⟨oL, ls, lp, k5 _ _ (Ne.symm ne3.2.1) (Ne.symm (N2 _ (.tail _ (.head _))).2.1) ho, r⟩, fun b o q => k5 b o (hne b o q) (fun z => by have := (N2 _ (.tail _ (.head _))).2.2; rw [z] at q; dsimp only at this; rw [q] at this; cases this) (F2.keep b o q), F2.above⟩
  have nDn : ∀ q ∈ (t, ({ cls := .type "tuple", data := .seq [v1, v2].toArray } : Obj)) :: news, q.1 ≠ D := fun q hq => by
    have hq1 : h1.get? q.1 = some q.2 := by
      rcases List.mem_cons.mp hq with rfl | hq
      · exact N1k _ (.tail _ (.head _))
      · exact N1k _ (.tail _ (.tail _ hq))
    exact nDt _ _ hq1
  have N4 : News g1 L1 h4 ((e, excO t D) :: (D, oD2) :: (t, { cls := .type "tuple", data := .seq [v1, v2].toArray }) :: news) := fun q hq => by
    rcases List.mem_cons.mp hq with rfl | hq
    · exact ⟨y1, ne3.2⟩
    · rcases List.mem_cons.mp hq with rfl | hq
      · exact ⟨w1, (N2 _ (.tail _ (.head _))).2⟩
      · obtain ⟨y7, y8⟩ := N2 q (.tail _ (.tail _ hq))
        refine ⟨k5 _ _ ?_ (nDn q hq) y7, y8⟩
        rcases List.mem_cons.mp hq with rfl | hq
        · exact Ne.symm net
        · exact nD q hq
  have nDn2 : ∀ q ∈ news, q.1 ≠ D := fun q hq => nDn q (.tail _ hq)
  have nDt2 : @Ne Nat D t := Ne.symm (nDn _ (.head _))
  clear N2 F2
  dsimp only
  w_strict k_steps
  exact ret e D t oD2 _ _ _ (fun q hq => ⟨nD q hq, nDn2 q hq, nt q hq⟩) heD net nDt2 (fun hh q => ⟨oD2, es2, ep2, q, w2, w3, w5⟩) (by k_asm) (by k_asm)

end
section
theorem kwaae : True := by
  k_with "exec Raise some none" => (k_here; k_dflt (refine raise_exc (by first | rfl | assumption) ?_))
  k_with "call ref" => (k_here; (with_reducible show wpAny _ _ (call (Value.ref 31) [_, _]) _ _ _); k_dflt (refine' sig_ok ?k1_8961 ?k2_8961 ?k3_8961 ?k4_8961 ?k5_8961 ?kK_8961 ?hd_8961 ?hu_8961 ?_; (case k1_8961 => k_asm); (case k2_8961 => k_asm); (case k3_8961 => k_asm); (case k4_8961 => k_asm); (case k5_8961 => k_asm); (case kK_8961 => first | exact rfl | assumption); (case hd_8961 => ktr_room); (case hu_8961 => ke_room)); intro _ _ _ _ _ _ _ _ _ _ _ _ _ _; (try dsimp only))
  trivial
/-- what an exception of the text's own says of itself -/
def SaysSym (D : Addr) (oD : Obj) : Prop := ∃ (mA : Str → Option Value) (tk : Tok), (∀ hh : Heap, hh.get? D = some oD → hh.Ns D mA) ∧ mA "symbol" = some (.str (Str.ofString "args-out-of-range") tk)
theorem mspan_raise {w : World} {p : Program} {loose : List Str} {mean : ExcName → Option Value} {mg mb : Str → Option Value} {dp un : Nat} {gd : Option (List Code)} {cn : Str} {cs : Scope} {a : Addr} {ccd : Value} {cl : List (Str × Addr)} {outer : List Env} {A₀ : Around} {base h₀ : Heap} {L : Addr} {m : Str → Option Value} {s : Shared} {Q E : Value → Shared → Prop} {news : List (Addr × Obj)} {x dx : Addr} {i : Int} {tk : Tok}
  (B : Below A₀ base outer h₀) (F : Fr h₀ L s.heap m) (X : (Mine.hd.heap_39 w.params).In h₀) (N : News h₀ L s.heap news) (T : Top p loose mean mg mb h₀) (hk : cs.kind = .function) (hx : (x, instObj 103 dx) ∈ news) (h0 : i < 0)
  (hd : dp + 5 < recursionLimit) (hu : un + 500 < cLine)
  (ret : ∀ (g : Heap) (e D t : Addr) (oD : Obj) (h' : Heap) (tk' : Nat), Fr h₀ L g m → RaisedD base g (envX cn cs L a ccd cl :: outer) e (.ref 31) (.ref t) D ((D, oD) :: news) h' → g.UpToSlots h' → SaysSym D oD → E (.ref e) { s with heap := h', toks := tk' }) :
  wpAny (model PySem.Challenge.pw_ok0042_01 w) (ktrTop dp un gd cn cs L a ccd cl outer) (call (.ref 62) [.ref x, .int i tk]) Q E s := by
  show Keep PySem.Challenge.rw_ok0042_01 Mine.hd.heap_39 (wpAny _ _ _ _ _ _)
  k_fill
  unfold Keep
  refine wpAny_call ?_
  k_dflt cell_enter
  w_strict k_steps
  rename_i g1 L1 h0' FG1 B1 X1 T1 tk0 lD hD FD ND ltD e D t1 oD oT h1 tk1 nn1 n1 n2 n3 nD F1 N1
  unfold ExcGoes
  refine ⟨e, t1, D, rfl, (excC_of X1).keeps F1.keep, (N1 _ (.head _)).1, ?_⟩
  refine leave_exc (keep := (D, oD) :: news) B1 F1 N1 (.head _) rfl rfl rfl rfl (fun q hq => ?_) rfl (fun h' R U => ?_)
  · rcases List.mem_cons.mp hq with rfl | hq
    · exact ⟨.tail _ (.head _), Ne.symm n1⟩
    · exact ⟨.tail _ (.tail _ (.tail _ (.tail _ hq))), (nn1 q (.tail _ hq)).1⟩
  · exact ret g1 e D t1 oD h' _ FG1 R U ⟨_, _, nD, by rw [if_neg (by decide), if_pos rfl]⟩

section
variable {prog : Program} {w : World} {A₀ A : Around} {s : Shared} {h₀ : Heap} {env : Env} {L : Addr} {m : Str → Option Value} {news : List (Addr × Obj)} {K : Frag} {p : Program} {loose : List Str} {mean : ExcName → Option Value} {mg mb : Str → Option Value}
    {R : Result → Shared → Prop} {name qual : Str} {params : Arguments} {body : List Stmt} {scope : Scope} {dV kV doc pm cdv ct oc : Value} {an od : Option Addr} {osl : Array (Option Value)} {f : Addr} {args : Args} {binds : List (Str × Value)}
/-- a def that catches, called out of the law's own frame -/
theorem code_defX (B : Below A₀ h₀ [] h₀) (F : Fr h₀ L s.heap m) (X₀ : K.In h₀) (N : News h₀ L s.heap news) (T : Top p loose mean mg mb h₀) (hA : A.frames = some [env]) (hf : env.frame = some L) (hke : env.scope.kind = .function)
    (ho : K.lookup f = some ⟨oc, od, .func (fnOf name qual params body scope dV kV doc pm an cdv ct), osl⟩) (hcd : codeIn K cdv qual = true) (hroom : A.depth < recursionLimit)
    (hbind : BindsTo s (fnOf name qual params body scope dV kV doc pm an cdv ct) args binds) (hloc : ∀ y ∈ binds, scope.names.lookup y.1 = some .local)
    (h : ∀ g L' h₁, Fr h₀ L g m → Fr g L' h₁ (fun y => binds.reverse.lookup y) → News g L' h₁ news → Below A h₀ [env] g → K.In g → Top p loose mean mg mb g →
      wpAny (model prog w) (A.deeper (envOf qual scope L' f cdv)) (execs body (envOf qual scope L' f cdv))
        (fun fl s' => LeaveS0 ([env].filterMap (·.frame)) h₀ L m g R (match fl with | .ret v => v | _ => .none) s')
        (fun e s' => wpAny (model prog w) (A.deeper (envOf qual scope L' f cdv)) (leaving (envOf qual scope L' f cdv) e) (fun _ s'' => R (.error e) s'') (fun e' s'' => R (.error e') s'') s')
        { s with heap := h₁, toks := s.toks + binds.length })
    (hco : scope.isCoroutine = false) (hgen : scope.isGenerator = false) (hk : scope.kind = .function)
    (hcell : ∀ x ∈ scope.names, x.2 ≠ .cell) : codeAny (model prog w) A (.call (.ref f) args) R s := by
  have X := X₀.keeps F.keep
  obtain ⟨FG, BG, st, _⟩ := groundX (R := R) B F N hA hf hke
  refine codeAny_call_def (fd := fnOf name qual params body scope dV kV doc pm an cdv ct) (body := body) (binds := binds) hroom (X _ _ ho) rfl (T.nolimit.keeps F.keep) (codeRec_of X hcd) rfl hbind hcell hloc (fun h₁ hns hk₁ => ?_) hco hgen hk
  refine wpAny_mono (h _ s.heap.objs.size h₁ FG ⟨hns, fun b o e => hk₁ b o (of_hideAll _ e), Nat.le_of_eq (hideAll_size _ _)⟩
    (fun p hp => ⟨hk₁ _ _ (N p hp).1, Nat.ne_of_lt (Heap.lt_size (N p hp).1), hideAll_none _ (List.mem_map_of_mem hp)⟩) BG (X₀.keeps st) (T.keeps st)) (fun fl s' hl => ?_) fun _ _ y => y
  obtain ⟨g', L', m', news', T', F', N', k⟩ := hl
  have hfl : ∀ b, b ∈ [env].filterMap (·.frame) → b = L := fun b hb => by
    simp only [List.filterMap_cons, hf, List.filterMap_nil, List.mem_singleton] at hb
    exact hb
  obtain ⟨oL, es, ep, hLg, hLd, hLk, hLf⟩ := FG.ns
  obtain ⟨sl, hs⟩ := T'.up hLg
  have nL : h₀.get? L = none := kts_self F
  refine k ⟨⟨_, es, ep, F'.keep _ _ hs, hLd, hLk, hLf⟩, fun b o e => F'.keep b o (T'.other b o (st b o e) (fun q => by rw [hfl b q, nL] at e; cases e)), F.above⟩ fun q hq => ⟨(N' q hq).1, fun z => ?_, ?_⟩
  · have := (N' q hq).2.2; rw [z, hs] at this; cases this
  · cases r : h₀.get? q.1 with
    | none => rfl
    | some o =>
      obtain ⟨sl', hs'⟩ := T'.up (st _ _ r)
      have := (N' q hq).2.2
      rw [hs'] at this; cases this
end
theorem get_sym {prog : Program} {w : World} {A : Around} {E : Value → Shared → Prop} {s : Shared} {x D : Addr} {o oD : Obj} {expr : Bool} {Q : Value → Shared → Prop} (XC : ExcC s.heap) (hx : s.heap.get? x = some o) (hc : o.cls = .ref 31) (hnc : ∀ c, o.data ≠ .cls c) (hd : o.dict = some D) (hD : s.heap.get? D = some oD) (S : SaysSym D oD)
    (hq : ∀ tk tk', Q (.str (Str.ofString "args-out-of-range") tk) { s with toks := tk' }) :
    wpAny (model prog w) A (getAttr (.ref x) (Str.ofString "symbol") expr) Q E s := by
  obtain ⟨k2, k3, mN, hC, hN, m1, m2, m3, m4, m5, m6⟩ := XC
  obtain ⟨mA, tk, hm, hv⟩ := S
  obtain ⟨hp, g, d, tk0, os⟩ := s
  exact get_own PySem.F.attrBase_Exception hC hN m3 m4 m5 (by rw [typeLookup_type, builtinLookup_eq_fast]; kernel_rfl) hx hc hnc hd (hm _ hD) hv (by rfl) (hq tk _)

end
theorem kwaaf : True := by
  k_with_none
  k_with "ta" => (try dsimp only)
  k_with "tb" => (try k_sweep)
  k_with "tc" => (try k_fold)
  k_with "w0" => (have hcL9 := cLine_is; (try simp only [units_in1, units_deeper, Around.mark_units, units_caller]); (try dsimp only [ktrTop]); omega)
  k_with "w1" => (k_here; (with_reducible show wpAny _ _ (call (Value.ref 126) _) _ _ _); k_dflt (refine' draw_use ?k1_2753 ?k2_2753 ?k3_2753 ?k4_2753 ?k5_2753 ?kK_2753 ?U_2753 ?hi_2753 ?hl_2753 ?hm_2753 ?hm2_2753 ?hd_2753 ?hu_2753 ?_; (case k1_2753 => k_asm); (case k2_2753 => k_asm); (case k3_2753 => k_asm); (case k4_2753 => k_asm); (case k5_2753 => k_asm); (case kK_2753 => first | exact rfl | assumption); (case U_2753 => (intro _ _; k_upd)); (case hi_2753 => with_reducible assumption); (case hl_2753 => assumption); (case hm_2753 => omega); (case hm2_2753 => omega); (case hd_2753 => ktr_room); (case hu_2753 => ke_room)))
  k_with "w2" => (k_here; (with_reducible show wpAny _ _ (call (Value.ref 114) _) _ _ _); k_dflt (refine' moved_ok ?k1_267c ?k2_267c ?k3_267c ?k4_267c ?k5_267c ?kK_267c ?hm_267c ?hd_267c ?hu_267c ?_; (case k1_267c => k_asm); (case k2_267c => k_asm); (case k3_267c => k_asm); (case k4_267c => k_asm); (case k5_267c => k_asm); (case kK_267c => first | exact rfl | assumption); (case hm_267c => k_mem); (case hd_267c => ktr_room); (case hu_267c => ke_room)))
  k_with "w3" => (refine' code_defC ?k1_73de ?k2_73de ?k3_73de ?k4_73de ?k5_73de ?kA_73de ?kF_73de ?kK_73de ?k6_73de ?k7_73de ?k8_73de ?k9_73de ?kB_73de ?kD_73de ?_ ?c2_73de ?c3_73de ?c4_73de; (case kA_73de => exact rfl); (case kF_73de => exact rfl); (case kK_73de => assumption); (case k1_73de => k_asm); (case k2_73de => k_asm); (case k3_73de => k_asm); (case k4_73de => k_asm); (case k5_73de => k_asm); (case k6_73de => k_is); (case k7_73de => k_is); (case k8_73de => ktr_room); (case k9_73de => exact BindsTo.of_eq rfl); (case kB_73de => exact rfl); (case kD_73de => decide +kernel); (case c2_73de => exact rfl); (case c3_73de => exact rfl); (case c4_73de => exact rfl); k_whole)
  k_with "w4" => (refine' code_def ?k1_91da ?k2_91da ?k3_91da ?k4_91da ?k5_91da ?kA_91da ?kF_91da ?kK_91da ?k6_91da ?k7_91da ?k8_91da ?k9_91da ?kB_91da ?_ ?c2_91da ?c3_91da ?c4_91da ?c5_91da; (case kA_91da => exact rfl); (case kF_91da => exact rfl); (case kK_91da => first | exact rfl | assumption); (case k1_91da => k_asm); (case k2_91da => k_asm); (case k3_91da => k_asm); (case k4_91da => k_asm); (case k5_91da => k_asm); (case k6_91da => k_is); (case k7_91da => k_is); (case k8_91da => ktr_room); (case k9_91da => exact BindsTo.of_eq rfl); (case c5_91da => decide); (case kB_91da => exact locs rfl); (case c2_91da => exact rfl); (case c3_91da => exact rfl); (case c4_91da => exact rfl); k_whole)
  k_with "w5" => (refine' code_defC ?k1_e452 ?k2_e452 ?k3_e452 ?k4_e452 ?k5_e452 ?kA_e452 ?kF_e452 ?kK_e452 ?k6_e452 ?k7_e452 ?k8_e452 ?k9_e452 ?kB_e452 ?kD_e452 ?_ ?c2_e452 ?c3_e452 ?c4_e452; (case kA_e452 => exact rfl); (case kF_e452 => exact rfl); (case kK_e452 => first | exact rfl | assumption); (case k1_e452 => k_asm); (case k2_e452 => k_asm); (case k3_e452 => k_asm); (case k4_e452 => k_asm); (case k5_e452 => k_asm); (case k6_e452 => k_is); (case k7_e452 => k_is); (case k8_e452 => ktr_room); (case k9_e452 => exact BindsTo.of_eq rfl); (case kB_e452 => exact rfl); (case kD_e452 => decide +kernel); (case c2_e452 => exact rfl); (case c3_e452 => exact rfl); (case c4_e452 => exact rfl); k_whole)
  k_with "w6" => (k_here; (with_reducible show wpAny _ _ (subscriptTail _ (PySem.Expr.Slice _ _ none _) (Value.ref _) (Value.ref _)) _ _ _); k_dflt (refine' slice_to ?F_7f9f ?N_7f9f ?l_7f9f ?p_7f9f ?q_7f9f ?e_7f9f ?z_7f9f ?_ ?s_7f9f ?t_7f9f; (case F_7f9f => k_asm); (case N_7f9f => k_asm); (case l_7f9f => k_mem); (case p_7f9f => kmk_part); (case q_7f9f => kmk_part); (case e_7f9f => first | exact pick_upto (by omega) | exact pick_from (by omega) | exact pick_part (by omega) (by omega) | exact pick_less (by omega)); (case s_7f9f => with_unfolding_all rfl); (case t_7f9f => kmk_pure); (case z_7f9f => omega)))
  k_with "w7" => (k_here; (with_reducible show wpAny _ _ (call (Value.type _) [Value.ref _]) _ _ _); k_dflt (first | (refine' copyL ?F_06eb ?N_06eb ?m_06eb ?z_06eb ?_; (case F_06eb => k_asm); (case N_06eb => k_asm); (case m_06eb => k_mem); (case z_06eb => omega)) | (refine' copyT ?F_06eb ?N_06eb ?m_06eb ?_; (case F_06eb => k_asm); (case N_06eb => k_asm); (case m_06eb => k_mem))))
  k_with "w8" => (k_here; (with_reducible show wpAny _ _ (binaryOp _ (Value.ref _) (Value.ref _)) _ _ _); k_dflt (refine' addL ?F_f34b ?N_f34b ?a_f34b ?b_f34b ?z_f34b ?_; (case F_f34b => k_asm); (case N_f34b => k_asm); (case a_f34b => k_mem); (case b_f34b => k_mem); (case z_f34b => first | omega | (simp only [List.length_cons, List.length_nil]; omega))))
  k_with "w9" => (refine neN ?_; (try dsimp only); first | with_reducible assumption | (with_reducible refine Ne.symm ?_; with_reducible assumption) | (with_reducible refine Nat.ne_of_lt ?_; with_reducible assumption) | (with_reducible refine Nat.ne_of_gt ?_; with_reducible assumption))
  k_with "w10" => first | with_reducible assumption | exact in_of_fr (by with_reducible assumption) (by with_reducible assumption)
  k_with "w11" => (k_here; (with_reducible show wpAny _ _ (call (Value.ref 119) _) _ _ _); k_dflt (refine' ldeck_ok ?k1_e407 ?k2_e407 ?k3_e407 ?k4_e407 ?k5_e407 ?kK_e407 ?hl_e407 ?hi_e407 ?hn_e407 ?hd_e407 ?hu_e407 ?_; (case k1_e407 => k_asm); (case k2_e407 => k_asm); (case k3_e407 => k_asm); (case k4_e407 => k_asm); (case k5_e407 => k_asm); (case kK_e407 => first | exact rfl | assumption); (case hl_e407 => assumption); (case hi_e407 => assumption); (case hn_e407 => omega); (case hd_e407 => ktr_room); (case hu_e407 => ke_room)))
  k_with "w12" => (k_here; (with_reducible show wpAny _ _ (call (Value.ref 133) _) _ _ _); k_dflt (refine' lspan_use ?k1_0801 ?k2_0801 ?k3_0801 ?k4_0801 ?k5_0801 ?kK_0801 ?U_0801 ?hi_0801 ?hl_0801 ?h0_0801 ?h1_0801 ?hd_0801 ?hu_0801 ?_; (case k1_0801 => k_asm); (case k2_0801 => k_asm); (case k3_0801 => k_asm); (case k4_0801 => k_asm); (case k5_0801 => k_asm); (case kK_0801 => first | exact rfl | assumption); (case U_0801 => (intro _ _; k_upd)); (case hi_0801 => with_reducible assumption); (case hl_0801 => assumption); (case h0_0801 => omega); (case h1_0801 => first | with_reducible assumption | omega); (case hd_0801 => ktr_room); (case hu_0801 => ke_room)))
  k_with "w13" => (k_here; (with_reducible show wpAny _ _ (call (Value.ref 100) _) _ _ _); k_dflt (refine' mrepl_use ?k1_76bf ?k2_76bf ?k3_76bf ?k4_76bf ?k5_76bf ?kK_76bf ?hx_76bf ?hsp_76bf ?D_76bf ?sub_76bf ?TL_76bf ?hl_76bf ?U_76bf ?hd_76bf ?hu_76bf ?_; (case k1_76bf => k_asm); (case k2_76bf => k_asm); (case k3_76bf => k_asm); (case k4_76bf => k_asm); (case k5_76bf => k_asm); (case kK_76bf => first | exact rfl | assumption); (case hx_76bf => k_mem); (case U_76bf => (intro _; k_upd)); (case hsp_76bf => k_mem); (case D_76bf => with_reducible assumption); (case sub_76bf => kqd_sub); (case TL_76bf => with_reducible assumption); (case hl_76bf => first | with_reducible assumption | omega); (case hd_76bf => ktr_room); (case hu_76bf => ke_room)))
  k_with "w14" => (k_here; (with_reducible show wpAny _ _ (call (Value.ref 83) _) _ _ _); k_dflt (refine' mlist_ok ?k1_935b ?k2_935b ?k3_935b ?k4_935b ?k5_935b ?kK_935b ?hx_935b ?hdx_935b ?hsp_935b ?D_935b ?sub_935b ?hl_935b ?hd_935b ?hu_935b ?_; (case k1_935b => k_asm); (case k2_935b => k_asm); (case k3_935b => k_asm); (case k4_935b => k_asm); (case k5_935b => k_asm); (case kK_935b => first | exact rfl | assumption); (case hx_935b => k_mem); (case hdx_935b => k_mem); (case hsp_935b => k_mem); (case D_935b => with_reducible assumption); (case sub_935b => kqd_sub); (case hl_935b => first | with_reducible assumption | omega); (case hd_935b => ktr_room); (case hu_935b => ke_room)))
  k_with "w15" => (k_here; (with_reducible show wpAny _ _ (call (Value.ref 90) _) _ _ _); k_dflt (refine' mrest_use ?k1_53a1 ?k2_53a1 ?k3_53a1 ?k4_53a1 ?k5_53a1 ?kK_53a1 ?hx_53a1 ?hpl_53a1 ?D_53a1 ?hl_53a1 ?U_53a1 ?hd_53a1 ?hu_53a1 ?_; (case k1_53a1 => k_asm); (case k2_53a1 => k_asm); (case k3_53a1 => k_asm); (case k4_53a1 => k_asm); (case k5_53a1 => k_asm); (case kK_53a1 => first | exact rfl | assumption); (case hx_53a1 => k_mem); (case U_53a1 => (intro _; k_upd)); (case hpl_53a1 => k_mem); (case D_53a1 => first | with_reducible assumption | exact (by with_reducible assumption : ∀ t : Tok, DatAll [] (_ ++ [Value.int 1 t]) _) _); (case hl_53a1 => first | with_reducible assumption | omega); (case hd_53a1 => ktr_room); (case hu_53a1 => ke_room)))
  k_with "w16" => (k_here; (with_reducible show wpAny _ _ (call (Value.ref 95) _) _ _ _); k_dflt (refine' mtran_use ?k1_e468 ?k2_e468 ?k3_e468 ?k4_e468 ?k5_e468 ?kK_e468 ?hx_e468 ?hsp_e468 ?D_e468 ?sub_e468 ?TL_e468 ?hl_e468 ?U_e468 ?hd_e468 ?hu_e468 ?_; (case k1_e468 => k_asm); (case k2_e468 => k_asm); (case k3_e468 => k_asm); (case k4_e468 => k_asm); (case k5_e468 => k_asm); (case kK_e468 => first | exact rfl | assumption); (case hx_e468 => k_mem); (case U_e468 => (intro _; k_upd)); (case hsp_e468 => k_mem); (case D_e468 => with_reducible assumption); (case sub_e468 => kqd_sub); (case TL_e468 => with_reducible assumption); (case hl_e468 => first | with_reducible assumption | omega); (case hd_e468 => ktr_room); (case hu_e468 => ke_room)))
  k_with "w17" => (k_here; (with_reducible show wpAny _ _ (call (Value.ref 157) _) _ _ _); k_dflt (refine' llist_ok ?k1_8c8e ?k2_8c8e ?k3_8c8e ?k4_8c8e ?k5_8c8e ?kK_8c8e ?hsp_8c8e ?D_8c8e ?sub_8c8e ?hl_8c8e ?hd_8c8e ?hu_8c8e ?_; (case k1_8c8e => k_asm); (case k2_8c8e => k_asm); (case k3_8c8e => k_asm); (case k4_8c8e => k_asm); (case k5_8c8e => k_asm); (case kK_8c8e => first | exact rfl | assumption); (case hsp_8c8e => k_mem); (case D_8c8e => with_reducible assumption); (case sub_8c8e => kqd_sub); (case hl_8c8e => first | with_reducible assumption | omega); (case hd_8c8e => ktr_room); (case hu_8c8e => ke_room)))
  k_with "w18" => (k_here; (with_reducible show wpAny _ _ (binaryOp _ (Value.ref _) (Value.ref _)) _ _ _); k_dflt (refine' addL ?F_261b ?N_261b ?a_261b ?b_261b ?z_261b ?_; (case F_261b => k_asm); (case N_261b => k_asm); (case a_261b => k_mem); (case b_261b => k_mem); (case z_261b => first | omega | (simp only [List.length_cons, List.length_nil, List.length_replicate]; omega))))
  k_with "w19" => (k_here; (with_reducible show wpAny _ _ (binaryOp Operator.Mult (Value.ref _) (Value.int _ _)) _ _ _); k_dflt (refine' mulN ?F_1ba3 ?N_1ba3 ?l_1ba3 ?e_1ba3 ?z_1ba3 ?_; (case F_1ba3 => k_asm); (case N_1ba3 => k_asm); (case l_1ba3 => k_mem); (case e_1ba3 => with_reducible assumption); (case z_1ba3 => omega)))
  k_with "WPost" => (dsimp only [WPost])
  trivial
section
theorem pop0 {prog : Program} {w : World} {A : Around} {E : Value → Shared → Prop} {s : Shared} {h₀ : Heap} {L D : Addr} {m : Str → Option Value} {news news' : List (Addr × Obj)} {n : Nat} {u : Tok} {q : List Value} {y : Value} {Q : Value → Shared → Prop} (F : Fr h₀ L s.heap m) (N : News h₀ L s.heap news) (U : Upd D (listOf (y :: q).toArray n) (listOf q.toArray (n + 1)) news news')
    (hz : q.length < 1000) (h : ∀ h', Fr h₀ L h' m → News h₀ L h' news' → Q y { s with heap := h' }) : wpAny (model prog w) A (call (.builtin "list.pop") [.ref D, .int 0 u]) Q E s :=
  kl_popAt (k := 0) (p := []) (q := q) F N (by rfl) (by simp [seqIndex?]) (by rfl) U (by simp [sizeLine]; omega) h

theorem kwaag : True := by
  k_with "call builtin:list.pop" => (k_here; (with_reducible show wpAny _ _ (call (Value.builtin _) [Value.ref _, Value.int 0 _]) _ _ _); k_dflt (refine' pop0 ?F_0012 ?N_0012 ?U_0012 ?z_0012 ?_; (case F_0012 => k_asm); (case N_0012 => k_asm); (case U_0012 => k_upd); (case z_0012 => first | omega | (simp only [List.length_cons] at *; omega))); intro _ _ _)
  trivial
theorem draw_ok {w : World} {p : Program} {loose : List Str} {mean : ExcName → Option Value} {mg mb : Str → Option Value}
  (dp un : Nat) (gd : Option (List Code)) (cn : Str) (cs : Scope) (a : Addr) (ccd : Value) (cl : List (Str × Addr)) (outer : List Env) (A₀ : Around) (base h₀ : Heap) (L : Addr) (m : Str → Option Value) (s : Shared) (Q E : Value → Shared → Prop)
  (dk : Addr) (vs : List Value) (ds : List Int) (n : Nat) (rest : List (Addr × Obj)) (many : Int) (tk : Tok)
  (B : Below A₀ base outer h₀) (F : Fr h₀ L s.heap m) (X : (Mine.hd.heap_39 w.params).In h₀) (N : News h₀ L s.heap ((dk, listOf vs.toArray n) :: rest)) (T : Top p loose mean mg mb h₀) (hk : cs.kind = .function)
  (off : ∀ q ∈ rest, q.1 ≠ dk) (hi : IntsAre vs ds) (hl : ds.length < 1000) (hm : 0 < many) (hm2 : many < 1000000) (hd : dp + 1 < recursionLimit) (hu : un + 100 < cLine)
  (ret : ∀ (r : Int) (t : Tok) (h' : Heap) (tk' : Nat) (vs' : List Value) (ds' : List Int) (n' : Nat), 0 ≤ r → r < many → IntsAre vs' ds' → ds'.length ≤ ds.length → Fr h₀ L h' m → News h₀ L h' ((dk, listOf vs'.toArray n') :: rest) → Q (.int r t) { s with heap := h', toks := tk' }) :
  wpAny (model PySem.Challenge.pw_ok0042_01 w) (ktrTop dp un gd cn cs L a ccd cl outer) (call (.ref 126) [.ref dk, .int many tk]) Q E s := by
  show Keep PySem.Challenge.rw_ok0042_01 Mine.hd.heap_39 (wpAny _ _ _ _ _ _)
  k_fill
  unfold Keep
  refine wpAny_call ?_
  k_dflt cell_enter
  rename_i g L' h1 FG F1 N1 B1 X1 T1
  replace F1 : Fr g L' h1 (fun y => List.lookup y [(Str.ofString "many", .int many tk), (Str.ofString "deck", .ref dk)]) := F1
  refine wpAny_execs_cons ?_
  refine whl_inv (fun k s' => ∃ vs' ds' n' h' t', s' = { s with heap := h', toks := t' } ∧ ds'.length = k ∧ k ≤ ds.length ∧ IntsAre vs' ds' ∧ Fr g L' h' (fun y => List.lookup y [(Str.ofString "many", .int many tk), (Str.ofString "deck", .ref dk)]) ∧ News g L' h' ((dk, listOf vs'.toArray n') :: rest))
    _ ⟨vs, ds, n, h1, _, rfl, rfl, Nat.le_refl _, hi, F1, N1⟩ (by with_unfolding_all passes_own) ?_
  clear F1 N1
  rintro R k _ ⟨vs1, ds1, n1, h2, t2, rfl, hk1, hk2, hi1, F2, N2⟩ IH
  have off0 : OwnOff rest [dk] := fun q hq b hb => by rw [List.mem_singleton.mp hb]; exact off q hq
  have hlen := hi1.length
  cases hi1 with
  | nil =>
    w_strict k_steps
    exact ret 0 _ _ _ [] [] _ (by omega) (by omega) .nil (by simp) (by k_asm) (cb_drop (by assumption) (by kqd_sub))
  | cons i t hi1 =>
    have hlen1 := hi1.length
    simp only [List.length_cons] at hk1 hlen
    have hq : vs.length < 1000 := by have := hi.length; omega
    w_strict k_steps
    all_goals first
      | (exfalso; rename (decide (_ :: _ = []) = true) => hb; simp at hb; done)
      | (refine IH _ _ ?_ ⟨_, _, _, _, _, rfl, rfl, ?_, hi1, by k_asm, cb_drop (by assumption) (by kqd_sub)⟩ <;> omega)
      | exact ret _ _ _ _ (_ :: _) (_ :: _) _ (Int.fmod_nonneg_of_pos _ hm) (Int.fmod_lt_of_pos _ hm) (.cons _ _ hi1) (by simp only [List.length_cons]; omega) (by k_asm) (cb_drop (by assumption) (by kqd_sub))

theorem draw_use {w : World} {p : Program} {loose : List Str} {mean : ExcName → Option Value} {mg mb : Str → Option Value}
  {dp un : Nat} {gd : Option (List Code)} {cn : Str} {cs : Scope} {a : Addr} {ccd : Value} {cl : List (Str × Addr)} {outer : List Env} {A₀ : Around} {base h₀ : Heap} {L : Addr} {m : Str → Option Value} {s : Shared} {Q E : Value → Shared → Prop}
  {dk : Addr} {vs : List Value} {ds : List Int} {n : Nat} {news : List (Addr × Obj)} {many : Int} {tk : Tok} {G : List Value → Nat → List (Addr × Obj)}
  (B : Below A₀ base outer h₀) (F : Fr h₀ L s.heap m) (X : (Mine.hd.heap_39 w.params).In h₀) (N : News h₀ L s.heap news) (T : Top p loose mean mg mb h₀) (hk : cs.kind = .function)
  (U : ∀ vs' n', Upd dk (listOf vs.toArray n) (listOf vs'.toArray n') news (G vs' n')) (hi : IntsAre vs ds) (hl : ds.length < 1000) (hm : 0 < many) (hm2 : many < 1000000) (hd : dp + 1 < recursionLimit) (hu : un + 100 < cLine)
  (ret : ∀ (r : Int) (t : Tok) (h' : Heap) (tk' : Nat) (vs' : List Value) (ds' : List Int) (n' : Nat), 0 ≤ r → r < many → IntsAre vs' ds' → ds'.length < 1000 → Fr h₀ L h' m → News h₀ L h' (G vs' n') → Q (.int r t) { s with heap := h', toks := tk' }) :
  wpAny (model PySem.Challenge.pw_ok0042_01 w) (ktrTop dp un gd cn cs L a ccd cl outer) (call (.ref 126) [.ref dk, .int many tk]) Q E s := by
  have hm0 := (upd_mem (U vs n)).1
  refine draw_ok dp un gd cn cs a ccd cl outer A₀ base h₀ L m s Q E dk vs ds n (news.filter fun q => decide (q.1 ≠ dk)) many tk B F X (fun q hq => ?_) T hk (fun q hq => by simpa using (List.mem_filter.mp hq).2) hi hl hm hm2 hd hu
    (fun r t h' tk' vs' ds' n' h1 h2 h3 h4 F' N' => ret r t h' tk' vs' ds' n' h1 h2 h3 (by omega) F' fun q hq => ?_)
  · rcases List.mem_cons.mp hq with rfl | hq
    · exact N _ hm0
    · exact N _ (List.mem_filter.mp hq).1
  · rcases (upd_mem (U vs' n')).2 q hq with rfl | ⟨h5, h6⟩
    · exact N' _ (.head _)
    · exact N' _ (.tail _ (List.mem_filter.mpr ⟨h5, by simpa using h6⟩))

end
theorem kwaah : True := by
  k_with_none
  k_with "ta" => (try dsimp only)
  k_with "tb" => (try k_sweep)
  k_with "tc" => (try k_fold)
  k_with "w0" => (have hcL9 := cLine_is; (try simp only [units_in1, units_deeper, Around.mark_units, units_caller]); (try dsimp only [ktrTop]); omega)
  k_with "w1" => (k_here; (with_reducible show wpAny _ _ (call (Value.ref 126) _) _ _ _); k_dflt (refine' draw_use ?k1_2753 ?k2_2753 ?k3_2753 ?k4_2753 ?k5_2753 ?kK_2753 ?U_2753 ?hi_2753 ?hl_2753 ?hm_2753 ?hm2_2753 ?hd_2753 ?hu_2753 ?_; (case k1_2753 => k_asm); (case k2_2753 => k_asm); (case k3_2753 => k_asm); (case k4_2753 => k_asm); (case k5_2753 => k_asm); (case kK_2753 => first | exact rfl | assumption); (case U_2753 => (intro _ _; k_upd)); (case hi_2753 => with_reducible assumption); (case hl_2753 => assumption); (case hm_2753 => omega); (case hm2_2753 => omega); (case hd_2753 => ktr_room); (case hu_2753 => ke_room)))
  k_with "w2" => (k_here; (with_reducible show wpAny _ _ (call (Value.ref 114) _) _ _ _); k_dflt (refine' moved_ok ?k1_267c ?k2_267c ?k3_267c ?k4_267c ?k5_267c ?kK_267c ?hm_267c ?hd_267c ?hu_267c ?_; (case k1_267c => k_asm); (case k2_267c => k_asm); (case k3_267c => k_asm); (case k4_267c => k_asm); (case k5_267c => k_asm); (case kK_267c => first | exact rfl | assumption); (case hm_267c => k_mem); (case hd_267c => ktr_room); (case hu_267c => ke_room)))
  k_with "w3" => (refine' code_defC ?k1_73de ?k2_73de ?k3_73de ?k4_73de ?k5_73de ?kA_73de ?kF_73de ?kK_73de ?k6_73de ?k7_73de ?k8_73de ?k9_73de ?kB_73de ?kD_73de ?_ ?c2_73de ?c3_73de ?c4_73de; (case kA_73de => exact rfl); (case kF_73de => exact rfl); (case kK_73de => assumption); (case k1_73de => k_asm); (case k2_73de => k_asm); (case k3_73de => k_asm); (case k4_73de => k_asm); (case k5_73de => k_asm); (case k6_73de => k_is); (case k7_73de => k_is); (case k8_73de => ktr_room); (case k9_73de => exact BindsTo.of_eq rfl); (case kB_73de => exact rfl); (case kD_73de => decide +kernel); (case c2_73de => exact rfl); (case c3_73de => exact rfl); (case c4_73de => exact rfl); k_whole)
  k_with "w4" => (refine' code_def ?k1_91da ?k2_91da ?k3_91da ?k4_91da ?k5_91da ?kA_91da ?kF_91da ?kK_91da ?k6_91da ?k7_91da ?k8_91da ?k9_91da ?kB_91da ?_ ?c2_91da ?c3_91da ?c4_91da ?c5_91da; (case kA_91da => exact rfl); (case kF_91da => exact rfl); (case kK_91da => first | exact rfl | assumption); (case k1_91da => k_asm); (case k2_91da => k_asm); (case k3_91da => k_asm); (case k4_91da => k_asm); (case k5_91da => k_asm); (case k6_91da => k_is); (case k7_91da => k_is); (case k8_91da => ktr_room); (case k9_91da => exact BindsTo.of_eq rfl); (case c5_91da => decide); (case kB_91da => exact locs rfl); (case c2_91da => exact rfl); (case c3_91da => exact rfl); (case c4_91da => exact rfl); k_whole)
  k_with "w5" => (refine' code_defC ?k1_e452 ?k2_e452 ?k3_e452 ?k4_e452 ?k5_e452 ?kA_e452 ?kF_e452 ?kK_e452 ?k6_e452 ?k7_e452 ?k8_e452 ?k9_e452 ?kB_e452 ?kD_e452 ?_ ?c2_e452 ?c3_e452 ?c4_e452; (case kA_e452 => exact rfl); (case kF_e452 => exact rfl); (case kK_e452 => first | exact rfl | assumption); (case k1_e452 => k_asm); (case k2_e452 => k_asm); (case k3_e452 => k_asm); (case k4_e452 => k_asm); (case k5_e452 => k_asm); (case k6_e452 => k_is); (case k7_e452 => k_is); (case k8_e452 => ktr_room); (case k9_e452 => exact BindsTo.of_eq rfl); (case kB_e452 => exact rfl); (case kD_e452 => decide +kernel); (case c2_e452 => exact rfl); (case c3_e452 => exact rfl); (case c4_e452 => exact rfl); k_whole)
  k_with "w6" => (k_here; (with_reducible show wpAny _ _ (subscriptTail _ (PySem.Expr.Slice _ _ none _) (Value.ref _) (Value.ref _)) _ _ _); k_dflt (refine' slice_to ?F_7f9f ?N_7f9f ?l_7f9f ?p_7f9f ?q_7f9f ?e_7f9f ?z_7f9f ?_ ?s_7f9f ?t_7f9f; (case F_7f9f => k_asm); (case N_7f9f => k_asm); (case l_7f9f => k_mem); (case p_7f9f => kmk_part); (case q_7f9f => kmk_part); (case e_7f9f => first | exact pick_upto (by omega) | exact pick_from (by omega) | exact pick_part (by omega) (by omega) | exact pick_less (by omega)); (case s_7f9f => with_unfolding_all rfl); (case t_7f9f => kmk_pure); (case z_7f9f => omega)))
  k_with "w7" => (k_here; (with_reducible show wpAny _ _ (call (Value.type _) [Value.ref _]) _ _ _); k_dflt (first | (refine' copyL ?F_06eb ?N_06eb ?m_06eb ?z_06eb ?_; (case F_06eb => k_asm); (case N_06eb => k_asm); (case m_06eb => k_mem); (case z_06eb => omega)) | (refine' copyT ?F_06eb ?N_06eb ?m_06eb ?_; (case F_06eb => k_asm); (case N_06eb => k_asm); (case m_06eb => k_mem))))
  k_with "w8" => (k_here; (with_reducible show wpAny _ _ (binaryOp _ (Value.ref _) (Value.ref _)) _ _ _); k_dflt (refine' addL ?F_f34b ?N_f34b ?a_f34b ?b_f34b ?z_f34b ?_; (case F_f34b => k_asm); (case N_f34b => k_asm); (case a_f34b => k_mem); (case b_f34b => k_mem); (case z_f34b => first | omega | (simp only [List.length_cons, List.length_nil]; omega))))
  k_with "w9" => (refine neN ?_; (try dsimp only); first | with_reducible assumption | (with_reducible refine Ne.symm ?_; with_reducible assumption) | (with_reducible refine Nat.ne_of_lt ?_; with_reducible assumption) | (with_reducible refine Nat.ne_of_gt ?_; with_reducible assumption))
  k_with "w10" => first | with_reducible assumption | exact in_of_fr (by with_reducible assumption) (by with_reducible assumption)
  k_with "w11" => (k_here; (with_reducible show wpAny _ _ (call (Value.ref 119) _) _ _ _); k_dflt (refine' ldeck_ok ?k1_e407 ?k2_e407 ?k3_e407 ?k4_e407 ?k5_e407 ?kK_e407 ?hl_e407 ?hi_e407 ?hn_e407 ?hd_e407 ?hu_e407 ?_; (case k1_e407 => k_asm); (case k2_e407 => k_asm); (case k3_e407 => k_asm); (case k4_e407 => k_asm); (case k5_e407 => k_asm); (case kK_e407 => first | exact rfl | assumption); (case hl_e407 => assumption); (case hi_e407 => assumption); (case hn_e407 => omega); (case hd_e407 => ktr_room); (case hu_e407 => ke_room)))
  k_with "w12" => (k_here; (with_reducible show wpAny _ _ (call (Value.ref 133) _) _ _ _); k_dflt (refine' lspan_use ?k1_0801 ?k2_0801 ?k3_0801 ?k4_0801 ?k5_0801 ?kK_0801 ?U_0801 ?hi_0801 ?hl_0801 ?h0_0801 ?h1_0801 ?hd_0801 ?hu_0801 ?_; (case k1_0801 => k_asm); (case k2_0801 => k_asm); (case k3_0801 => k_asm); (case k4_0801 => k_asm); (case k5_0801 => k_asm); (case kK_0801 => first | exact rfl | assumption); (case U_0801 => (intro _ _; k_upd)); (case hi_0801 => with_reducible assumption); (case hl_0801 => assumption); (case h0_0801 => omega); (case h1_0801 => first | with_reducible assumption | omega); (case hd_0801 => ktr_room); (case hu_0801 => ke_room)))
  k_with "w13" => (k_here; (with_reducible show wpAny _ _ (call (Value.ref 100) _) _ _ _); k_dflt (refine' mrepl_use ?k1_76bf ?k2_76bf ?k3_76bf ?k4_76bf ?k5_76bf ?kK_76bf ?hx_76bf ?hsp_76bf ?D_76bf ?sub_76bf ?TL_76bf ?hl_76bf ?U_76bf ?hd_76bf ?hu_76bf ?_; (case k1_76bf => k_asm); (case k2_76bf => k_asm); (case k3_76bf => k_asm); (case k4_76bf => k_asm); (case k5_76bf => k_asm); (case kK_76bf => first | exact rfl | assumption); (case hx_76bf => k_mem); (case U_76bf => (intro _; k_upd)); (case hsp_76bf => k_mem); (case D_76bf => with_reducible assumption); (case sub_76bf => kqd_sub); (case TL_76bf => with_reducible assumption); (case hl_76bf => first | with_reducible assumption | omega); (case hd_76bf => ktr_room); (case hu_76bf => ke_room)))
  k_with "w14" => (k_here; (with_reducible show wpAny _ _ (call (Value.ref 83) _) _ _ _); k_dflt (refine' mlist_ok ?k1_935b ?k2_935b ?k3_935b ?k4_935b ?k5_935b ?kK_935b ?hx_935b ?hdx_935b ?hsp_935b ?D_935b ?sub_935b ?hl_935b ?hd_935b ?hu_935b ?_; (case k1_935b => k_asm); (case k2_935b => k_asm); (case k3_935b => k_asm); (case k4_935b => k_asm); (case k5_935b => k_asm); (case kK_935b => first | exact rfl | assumption); (case hx_935b => k_mem); (case hdx_935b => k_mem); (case hsp_935b => k_mem); (case D_935b => with_reducible assumption); (case sub_935b => kqd_sub); (case hl_935b => first | with_reducible assumption | omega); (case hd_935b => ktr_room); (case hu_935b => ke_room)))
  k_with "w15" => (k_here; (with_reducible show wpAny _ _ (call (Value.ref 90) _) _ _ _); k_dflt (refine' mrest_use ?k1_53a1 ?k2_53a1 ?k3_53a1 ?k4_53a1 ?k5_53a1 ?kK_53a1 ?hx_53a1 ?hpl_53a1 ?D_53a1 ?hl_53a1 ?U_53a1 ?hd_53a1 ?hu_53a1 ?_; (case k1_53a1 => k_asm); (case k2_53a1 => k_asm); (case k3_53a1 => k_asm); (case k4_53a1 => k_asm); (case k5_53a1 => k_asm); (case kK_53a1 => first | exact rfl | assumption); (case hx_53a1 => k_mem); (case U_53a1 => (intro _; k_upd)); (case hpl_53a1 => k_mem); (case D_53a1 => first | with_reducible assumption | exact (by with_reducible assumption : ∀ t : Tok, DatAll [] (_ ++ [Value.int 1 t]) _) _); (case hl_53a1 => first | with_reducible assumption | omega); (case hd_53a1 => ktr_room); (case hu_53a1 => ke_room)))
  k_with "w16" => (k_here; (with_reducible show wpAny _ _ (call (Value.ref 95) _) _ _ _); k_dflt (refine' mtran_use ?k1_e468 ?k2_e468 ?k3_e468 ?k4_e468 ?k5_e468 ?kK_e468 ?hx_e468 ?hsp_e468 ?D_e468 ?sub_e468 ?TL_e468 ?hl_e468 ?U_e468 ?hd_e468 ?hu_e468 ?_; (case k1_e468 => k_asm); (case k2_e468 => k_asm); (case k3_e468 => k_asm); (case k4_e468 => k_asm); (case k5_e468 => k_asm); (case kK_e468 => first | exact rfl | assumption); (case hx_e468 => k_mem); (case U_e468 => (intro _; k_upd)); (case hsp_e468 => k_mem); (case D_e468 => with_reducible assumption); (case sub_e468 => kqd_sub); (case TL_e468 => with_reducible assumption); (case hl_e468 => first | with_reducible assumption | omega); (case hd_e468 => ktr_room); (case hu_e468 => ke_room)))
  k_with "w17" => (k_here; (with_reducible show wpAny _ _ (call (Value.ref 157) _) _ _ _); k_dflt (refine' llist_ok ?k1_8c8e ?k2_8c8e ?k3_8c8e ?k4_8c8e ?k5_8c8e ?kK_8c8e ?hsp_8c8e ?D_8c8e ?sub_8c8e ?hl_8c8e ?hd_8c8e ?hu_8c8e ?_; (case k1_8c8e => k_asm); (case k2_8c8e => k_asm); (case k3_8c8e => k_asm); (case k4_8c8e => k_asm); (case k5_8c8e => k_asm); (case kK_8c8e => first | exact rfl | assumption); (case hsp_8c8e => k_mem); (case D_8c8e => with_reducible assumption); (case sub_8c8e => kqd_sub); (case hl_8c8e => first | with_reducible assumption | omega); (case hd_8c8e => ktr_room); (case hu_8c8e => ke_room)))
  k_with "w18" => (k_here; (with_reducible show wpAny _ _ (binaryOp _ (Value.ref _) (Value.ref _)) _ _ _); k_dflt (refine' addL ?F_261b ?N_261b ?a_261b ?b_261b ?z_261b ?_; (case F_261b => k_asm); (case N_261b => k_asm); (case a_261b => k_mem); (case b_261b => k_mem); (case z_261b => first | omega | (simp only [List.length_cons, List.length_nil, List.length_replicate]; omega))))
  k_with "w19" => (k_here; (with_reducible show wpAny _ _ (binaryOp Operator.Mult (Value.ref _) (Value.int _ _)) _ _ _); k_dflt (refine' mulN ?F_1ba3 ?N_1ba3 ?l_1ba3 ?e_1ba3 ?z_1ba3 ?_; (case F_1ba3 => k_asm); (case N_1ba3 => k_asm); (case l_1ba3 => k_mem); (case e_1ba3 => with_reducible assumption); (case z_1ba3 => omega)))
  k_with "WPost" => (dsimp only [WPost])
  trivial
local macro_rules | `(tactic| walk_at "call ref") => mw "w1" "r t h' tk' vs' ds' n' r0 r1 hi' hl' F' N'" "dabc"
section

def InSize (size : Int) (o : Option (Int × Int)) : Prop := ∀ a b, o = some (a, b) → 1 ≤ a ∧ a ≤ b ∧ b ≤ size + 1

theorem lspan_ok {w : World} {p : Program} {loose : List Str} {mean : ExcName → Option Value} {mg mb : Str → Option Value}
  (dp un : Nat) (gd : Option (List Code)) (cn : Str) (cs : Scope) (a : Addr) (ccd : Value) (cl : List (Str × Addr)) (outer : List Env) (A₀ : Around) (base h₀ : Heap) (L : Addr) (m : Str → Option Value) (s : Shared) (Q E : Value → Shared → Prop)
  (dk : Addr) (vs : List Value) (ds : List Int) (n : Nat) (rest : List (Addr × Obj)) (size : Int) (tk : Tok)
  (B : Below A₀ base outer h₀) (F : Fr h₀ L s.heap m) (X : (Mine.hd.heap_39 w.params).In h₀) (N : News h₀ L s.heap ((dk, listOf vs.toArray n) :: rest)) (T : Top p loose mean mg mb h₀) (hk : cs.kind = .function)
  (off : ∀ q ∈ rest, q.1 ≠ dk) (hi : IntsAre vs ds) (hl : ds.length < 1000) (hs0 : 0 ≤ size) (hs1 : size < 1000) (hd : dp + 2 < recursionLimit) (hu : un + 200 < cLine)
  (ret : ∀ (o : Option (Int × Int)) (v : Value) (tl : List (Addr × Obj)) (h' : Heap) (tk' : Nat) (vs' : List Value) (ds' : List Int) (n' : Nat), InSize size o → DatIn tl v (enc o) → Tups tl → (∀ q ∈ tl, ∀ p ∈ (dk, listOf vs.toArray n) :: rest, q.1 ≠ p.1) → IntsAre vs' ds' → ds'.length < 1000 → Fr h₀ L h' m → News h₀ L h' ((dk, listOf vs'.toArray n') :: (tl ++ rest)) → Q v { s with heap := h', toks := tk' }) :
  wpAny (model PySem.Challenge.pw_ok0042_01 w) (ktrTop dp un gd cn cs L a ccd cl outer) (call (.ref 133) [.ref dk, .int size tk]) Q E s := by
  show Keep PySem.Challenge.rw_ok0042_01 Mine.hd.heap_39 (wpAny _ _ _ _ _ _)
  k_fill
  unfold Keep
  have off0 : OwnOff rest [dk] := fun q hq b hb => by rw [List.mem_singleton.mp hb]; exact off q hq
  refine wpAny_call ?_
  k_dflt cell_enter
  w_strict k_steps
  · exact ret none _ [] _ _ _ _ _ (fun _ _ h => by cases h) DatIn.none (fun _ h => nomatch h) (fun _ h => nomatch h) (by assumption) (by assumption) (by k_asm) (cb_drop (by assumption) (by kqd_sub))
  · have fin : ∀ (D : Addr) (h' : Heap) (tk' : Nat) (x y : Int) (t u : Tok) (vs' : List Value) (ds' : List Int) (n' : Nat), News h₀ L h' ((D, { cls := .type "tuple", data := .seq #[.int x t, .int y u] }) :: (dk, listOf vs'.toArray n') :: rest) → Fr h₀ L h' m → IntsAre vs' ds' → ds'.length < 1000 →
        1 ≤ x ∧ x ≤ y ∧ y ≤ size + 1 → (∀ p ∈ (dk, listOf vs'.toArray n') :: rest, p.1 < D) → Q (.ref D) { s with heap := h', toks := tk' } := fun D h' tk' x y t u vs' ds' n' N9 F9 i9 l9 b9 lt9 =>
      ret (some (x, y)) _ [(D, { cls := .type "tuple", data := .seq #[.int x t, .int y u] })] _ _ _ _ _ (fun _ _ h => by cases h; exact b9) (DatIn.tuple (vs := [_, _]) (.head _) (.cons (.int _ _) (.cons (.int _ _) .nil))) (fun _ h => by rw [List.mem_singleton.mp h]; exact ⟨rfl, fun _ e => nomatch e⟩) (fun q hq p hp => by rw [List.mem_singleton.mp hq]; rcases List.mem_cons.mp hp with rfl | hp; exact Nat.ne_of_gt (lt9 (dk, listOf vs'.toArray n') (.head _)); exact Nat.ne_of_gt (lt9 _ (.tail _ hp))) i9 l9 F9 (cb_drop N9 (by kqd_sub))
    rename ((_ : Nat) < _ ∧ _) => l9
    exact fin _ _ _ _ _ _ _ _ _ _ (by k_asm) (by k_asm) (by k_asm) (by k_asm) (by omega) (allLt_all l9)

theorem lspan_use {w : World} {p : Program} {loose : List Str} {mean : ExcName → Option Value} {mg mb : Str → Option Value} {dp un : Nat} {gd : Option (List Code)} {cn : Str} {cs : Scope} {a : Addr} {ccd : Value} {cl : List (Str × Addr)} {outer : List Env} {A₀ : Around} {base h₀ : Heap} {L : Addr} {m : Str → Option Value} {s : Shared} {Q E : Value → Shared → Prop} {news : List (Addr × Obj)} {dk : Addr} {vs : List Value} {ds : List Int} {n : Nat} {size : Int} {tk : Tok} {G : List Value → Nat → List (Addr × Obj)}
  (B : Below A₀ base outer h₀) (F : Fr h₀ L s.heap m) (X : (Mine.hd.heap_39 w.params).In h₀) (N : News h₀ L s.heap news) (T : Top p loose mean mg mb h₀) (hk : cs.kind = .function) (U : ∀ vs' n', Upd dk (listOf vs.toArray n) (listOf vs'.toArray n') news (G vs' n')) (hi : IntsAre vs ds) (hl : ds.length < 1000) (hs0 : 0 ≤ size) (hs1 : size < 1000) (hd : dp + 2 < recursionLimit) (hu : un + 200 < cLine)
  (ret : ∀ (o : Option (Int × Int)) (v : Value) (tl : List (Addr × Obj)) (h' : Heap) (tk' : Nat) (vs' : List Value) (ds' : List Int) (n' : Nat), InSize size o → DatIn tl v (enc o) → Tups tl → (∀ q ∈ tl, ∀ p ∈ news, q.1 ≠ p.1) → IntsAre vs' ds' → ds'.length < 1000 → Fr h₀ L h' m → News h₀ L h' (tl ++ G vs' n') → Q v { s with heap := h', toks := tk' }) :
  wpAny (model PySem.Challenge.pw_ok0042_01 w) (ktrTop dp un gd cn cs L a ccd cl outer) (call (.ref 133) [.ref dk, .int size tk]) Q E s := by
  have hm0 := (upd_mem (U vs n)).1
  refine lspan_ok dp un gd cn cs a ccd cl outer A₀ base h₀ L m s Q E dk vs ds n (news.filter fun q => decide (q.1 ≠ dk)) size tk B F X (upd_news N hm0) T hk (fun q hq => by simpa using (List.mem_filter.mp hq).2) hi hl hs0 hs1 hd hu
    (fun o v tl h' tk' vs' ds' n' h1 h2 h3 h3' h4 h5 F' N' => ret o v tl h' tk' vs' ds' n' h1 h2 h3 (fun q hq p hp => ?_) h4 h5 F' fun q hq => ?_)
  · by_cases e : p.1 = dk
    · rw [e]; exact h3' q hq _ (.head _)
    · exact h3' q hq p (.tail _ (List.mem_filter.mpr ⟨hp, by simpa using e⟩))
  · rcases List.mem_append.mp hq with hq | hq
    · exact N' _ (.tail _ (List.mem_append_left _ hq))
    · rcases (upd_mem (U vs' n')).2 q hq with rfl | ⟨h5, h6⟩
      · exact N' _ (.head _)
      · exact N' _ (.tail _ (List.mem_append_right _ (List.mem_filter.mpr ⟨h5, by simpa using h6⟩)))

end
section
theorem item_dat {prog : Program} {w : World} {A : Around} {E : Value → Shared → Prop} {s : Shared} {h₀ : Heap} {L l : Addr} {value slice : PySem.Expr} {news L9 : List (Addr × Obj)} {us : List Value} {ds : List Dat} {n : Nat} {k : Int} {u : Tok} {Q : Value → Shared → Prop} (N : News h₀ L s.heap news) (hm : (l, listOf us.toArray n) ∈ news) (hd : DatAll L9 us ds)
    (h0 : 0 ≤ k) (h1 : k < (ds.length : Int)) (hfit : k < 2 ^ 63) (h : ∀ v, DatIn L9 v (ds.getD k.toNat .none) → Q v s)
    (hs : subscripted slice false (.ref l) (.int k u) = operate [.ref l, .int k u] (getItem (.ref l) (.int k u)) := by with_unfolding_all rfl) :
    wpAny (model prog w) A (subscriptTail value slice (.ref l) (.int k u)) Q E s :=
  kd_item N hm hd h0 h1 hfit (fun v d e _ hD => h v (by rw [List.getD_eq_getElem?_getD, e]; exact hD)) hs

end
section

theorem kwaai : True := by
  k_with "call builtin:len" => (k_here; (with_reducible show wpAny _ _ (call (Value.builtin "len") [Value.ref _]) _ _ _); k_dflt (refine' kd_len ?k1_b0c9 ?k2_b0c9 ?k3_b0c9 ?k4_b0c9 ?_; (case k1_b0c9 => k_asm); (case k2_b0c9 => k_mem); (case k3_b0c9 => with_reducible assumption); (case k4_b0c9 => first | with_reducible exact len63 (by assumption) | omega); k_whole))
  k_with "subscriptTail" => (k_here; (with_reducible show wpAny _ _ (subscriptTail _ _ (Value.ref _) (Value.int _ _)) _ _ _); k_dflt (refine' item_dat ?k1_b351 ?k2_b351 ?k3_b351 ?k4_b351 ?k5_b351 ?k6_b351 ?_ ?k7_b351; (case k1_b351 => k_asm); (case k2_b351 => k_mem); (case k3_b351 => with_reducible assumption); (case k4_b351 => omega); (case k5_b351 => omega); (case k6_b351 => omega); (case k7_b351 => with_unfolding_all rfl); k_whole); intro _ _)
  trivial
abbrev spansDict (P : Params) (tk : Tok) (sp : Addr) : Obj := dictOf [⟨PyData.keyHash P (Str.ofString "spans"), .str (Str.ofString "spans") tk, .ref sp⟩] 1

theorem mspan_ok {w : World} {p : Program} {loose : List Str} {mean : ExcName → Option Value} {mg mb : Str → Option Value} {dp un : Nat} {gd : Option (List Code)} {cn : Str} {cs : Scope} {a : Addr} {ccd : Value} {cl : List (Str × Addr)} {outer : List Env} {A₀ : Around} {base h₀ : Heap} {L : Addr} {m : Str → Option Value} {s : Shared} {Q E : Value → Shared → Prop} {news : List (Addr × Obj)} {x dx sp : Addr} {t0 : Tok} {vs : List Value} {k : Nat} {os : List (Option (Int × Int))} {i : Int} {tk : Tok} {L9 : List (Addr × Obj)}
  (B : Below A₀ base outer h₀) (F : Fr h₀ L s.heap m) (X : (Mine.hd.heap_39 w.params).In h₀) (N : News h₀ L s.heap news) (T : Top p loose mean mg mb h₀) (hk : cs.kind = .function) (hx : (x, instObj 103 dx) ∈ news) (hdx : (dx, spansDict w.params t0 sp) ∈ news) (hsp : (sp, listOf vs.toArray k) ∈ news) (D : DatAll L9 vs (os.map enc)) (hl : os.length < 1000) (h0 : 0 ≤ i) (h1 : i < 1000)
  (hd : dp + 1 < recursionLimit) (hu : un + 100 < cLine)
  (ret : ∀ (v : Value) (h' : Heap) (tk' : Nat), DatIn L9 v (enc (os.getD i.toNat none)) → Fr h₀ L h' m → News h₀ L h' news → Q v { s with heap := h', toks := tk' }) :
  wpAny (model PySem.Challenge.pw_ok0042_01 w) (ktrTop dp un gd cn cs L a ccd cl outer) (call (.ref 62) [.ref x, .int i tk]) Q E s := by
  show Keep PySem.Challenge.rw_ok0042_01 Mine.hd.heap_39 (wpAny _ _ _ _ _ _)
  k_fill
  unfold Keep
  refine wpAny_call ?_
  k_dflt cell_enter
  have hlen : ((os.map enc).length : Int) < 1000 := by rw [List.length_map]; omega
  w_strict k_steps
  · rename_i hD _ _ _ _
    rw [getD_enc] at hD
    exact ret _ _ _ hD (by k_asm) (by k_asm)
  · have e : os.getD i.toNat none = none := by
      rw [List.length_map] at *
      rw [List.getD_eq_getElem?_getD, List.getElem?_eq_none (by omega)]; rfl
    exact ret _ _ _ (by rw [e]; exact DatIn.none) (by k_asm) (by k_asm)


theorem kwaaj : True := by
  k_with "call ref" => (k_here; (with_reducible show wpAny _ _ (call (Value.ref 62) _) _ _ _); k_dflt (refine' mspan_ok ?k1_1572 ?k2_1572 ?k3_1572 ?k4_1572 ?k5_1572 ?kK_1572 ?hx_1572 ?hdx_1572 ?hsp_1572 ?D_1572 ?hl_1572 ?h0_1572 ?h1_1572 ?hd_1572 ?hu_1572 ?_; (case k1_1572 => k_asm); (case k2_1572 => k_asm); (case k3_1572 => k_asm); (case k4_1572 => k_asm); (case k5_1572 => k_asm); (case kK_1572 => first | exact rfl | assumption); (case hx_1572 => k_mem); (case hdx_1572 => k_mem); (case hsp_1572 => k_mem); (case D_1572 => with_reducible assumption); (case hl_1572 => assumption); (case h0_1572 => omega); (case h1_1572 => first | with_reducible assumption | omega); (case hd_1572 => ktr_room); (case hu_1572 => ke_room)); intro _ _ _ _ _ _; (try dsimp only); (try k_sweep); (try k_fold))
  trivial
theorem mbeg_ok {w : World} {p : Program} {loose : List Str} {mean : ExcName → Option Value} {mg mb : Str → Option Value} {dp un : Nat} {gd : Option (List Code)} {cn : Str} {cs : Scope} {a : Addr} {ccd : Value} {cl : List (Str × Addr)} {outer : List Env} {A₀ : Around} {base h₀ : Heap} {L : Addr} {m : Str → Option Value} {s : Shared} {Q E : Value → Shared → Prop} {news : List (Addr × Obj)} {x dx sp : Addr} {t0 : Tok} {vs : List Value} {k : Nat} {os : List (Option (Int × Int))} {i : Int} {tk : Tok} {L9 : List (Addr × Obj)}
  (B : Below A₀ base outer h₀) (F : Fr h₀ L s.heap m) (X : (Mine.hd.heap_39 w.params).In h₀) (N : News h₀ L s.heap news) (T : Top p loose mean mg mb h₀) (hk : cs.kind = .function) (hx : (x, instObj 103 dx) ∈ news) (hdx : (dx, spansDict w.params t0 sp) ∈ news) (hsp : (sp, listOf vs.toArray k) ∈ news) (D : DatAll L9 vs (os.map enc)) (sub : ∀ p ∈ L9, p ∈ news) (hl : os.length < 1000) (h0 : 0 ≤ i) (h1 : i < 1000)
  (hd : dp + 2 < recursionLimit) (hu : un + 200 < cLine)
  (ret : ∀ (v : Value) (h' : Heap) (tk' : Nat), DatIn L9 v (encI ((os.getD i.toNat none).map Prod.fst)) → Fr h₀ L h' m → News h₀ L h' news → Q v { s with heap := h', toks := tk' }) :
  wpAny (model PySem.Challenge.pw_ok0042_01 w) (ktrTop dp un gd cn cs L a ccd cl outer) (call (.ref 69) [.ref x, .int i tk]) Q E s := by
  show Keep PySem.Challenge.rw_ok0042_01 Mine.hd.heap_39 (wpAny _ _ _ _ _ _)
  k_fill
  unfold Keep
  refine wpAny_call ?_
  k_dflt cell_enter
  w_strict k_steps
  rename DatIn _ _ (enc _) => hD
  generalize os.getD i.toNat none = o at *
  rcases datIn_enc hD with ⟨rfl, rfl⟩ | ⟨a9, b9, t9, u9, ad, n9, rfl, rfl, hm⟩
  · w_strict k_steps
    exact ret _ _ _ DatIn.none (by k_asm) (by k_asm)
  · have hm9 := sub _ hm
    w_strict k_steps
    exact ret _ _ _ (DatIn.int _ _) (by k_asm) (by k_asm)

theorem mend_ok {w : World} {p : Program} {loose : List Str} {mean : ExcName → Option Value} {mg mb : Str → Option Value} {dp un : Nat} {gd : Option (List Code)} {cn : Str} {cs : Scope} {a : Addr} {ccd : Value} {cl : List (Str × Addr)} {outer : List Env} {A₀ : Around} {base h₀ : Heap} {L : Addr} {m : Str → Option Value} {s : Shared} {Q E : Value → Shared → Prop} {news : List (Addr × Obj)} {x dx sp : Addr} {t0 : Tok} {vs : List Value} {k : Nat} {os : List (Option (Int × Int))} {i : Int} {tk : Tok} {L9 : List (Addr × Obj)}
  (B : Below A₀ base outer h₀) (F : Fr h₀ L s.heap m) (X : (Mine.hd.heap_39 w.params).In h₀) (N : News h₀ L s.heap news) (T : Top p loose mean mg mb h₀) (hk : cs.kind = .function) (hx : (x, instObj 103 dx) ∈ news) (hdx : (dx, spansDict w.params t0 sp) ∈ news) (hsp : (sp, listOf vs.toArray k) ∈ news) (D : DatAll L9 vs (os.map enc)) (sub : ∀ p ∈ L9, p ∈ news) (hl : os.length < 1000) (h0 : 0 ≤ i) (h1 : i < 1000)
  (hd : dp + 2 < recursionLimit) (hu : un + 200 < cLine)
  (ret : ∀ (v : Value) (h' : Heap) (tk' : Nat), DatIn L9 v (encI ((os.getD i.toNat none).map Prod.snd)) → Fr h₀ L h' m → News h₀ L h' news → Q v { s with heap := h', toks := tk' }) :
  wpAny (model PySem.Challenge.pw_ok0042_01 w) (ktrTop dp un gd cn cs L a ccd cl outer) (call (.ref 76) [.ref x, .int i tk]) Q E s := by
  show Keep PySem.Challenge.rw_ok0042_01 Mine.hd.heap_39 (wpAny _ _ _ _ _ _)
  k_fill
  unfold Keep
  refine wpAny_call ?_
  k_dflt cell_enter
  w_strict k_steps
  rename DatIn _ _ (enc _) => hD
  generalize os.getD i.toNat none = o at *
  rcases datIn_enc hD with ⟨rfl, rfl⟩ | ⟨a9, b9, t9, u9, ad, n9, rfl, rfl, hm⟩
  · w_strict k_steps
    exact ret _ _ _ DatIn.none (by k_asm) (by k_asm)
  · have hm9 := sub _ hm
    w_strict k_steps
    exact ret _ _ _ (DatIn.int _ _) (by k_asm) (by k_asm)

/-- where a place goes behind a replacement: a beginning, an end -/
def mvF (st oe ne a : Int) : Int := if a > st then (if a ≥ oe then a + ne - oe else st) else a
def mvL (st oe ne b : Int) : Int := if b ≥ oe then b + ne - oe else if b > st then st else b
def mv (st oe ne : Int) (q : Int × Int) : Int × Int := (mvF st oe ne q.1, mvL st oe ne q.2)

theorem moved_ok {w : World} {p : Program} {loose : List Str} {mean : ExcName → Option Value} {mg mb : Str → Option Value} {dp un : Nat} {gd : Option (List Code)} {cn : Str} {cs : Scope} {a : Addr} {ccd : Value} {cl : List (Str × Addr)} {outer : List Env} {A₀ : Around} {base h₀ : Heap} {L : Addr} {m : Str → Option Value} {s : Shared} {Q E : Value → Shared → Prop} {news : List (Addr × Obj)} {ad : Addr} {x y st oe ne : Int} {t u tk tk2 tk3 : Tok} {n : Nat}
  (B : Below A₀ base outer h₀) (F : Fr h₀ L s.heap m) (X : (Mine.hd.heap_39 w.params).In h₀) (N : News h₀ L s.heap news) (T : Top p loose mean mg mb h₀) (hk : cs.kind = .function) (hm : (ad, tupO x y t u n) ∈ news)
  (hd : dp + 1 < recursionLimit) (hu : un + 100 < cLine)
  (ret : ∀ (D : Addr) (t' u' : Tok) (h' : Heap) (tk' : Nat), (∀ q ∈ news, q.1 < D) → Fr h₀ L h' m → News h₀ L h' ((D, tupO (mvF st oe ne x) (mvL st oe ne y) t' u' 0) :: news) → Q (.ref D) { s with heap := h', toks := tk' }) :
  wpAny (model PySem.Challenge.pw_ok0042_01 w) (ktrTop dp un gd cn cs L a ccd cl outer) (call (.ref 114) [.ref ad, .int st tk, .int oe tk2, .int ne tk3]) Q E s := by
  show Keep PySem.Challenge.rw_ok0042_01 Mine.hd.heap_39 (wpAny _ _ _ _ _ _)
  k_fill
  unfold Keep
  refine wpAny_call ?_
  k_dflt cell_enter
  w_strict k_steps
  all_goals
    have fin : ∀ (D : Addr) (X Y : Int) (t' u' : Tok) (h' : Heap) (tk' : Nat), News h₀ L h' ((D, { cls := .type "tuple", data := .seq #[.int X t', .int Y u'] }) :: news) → Fr h₀ L h' m → (∀ q ∈ news, q.1 < D) → X = mvF st oe ne x → Y = mvL st oe ne y → Q (.ref D) { s with heap := h', toks := tk' } :=
      fun D X Y t' u' h' tk' N9 F9 l9 eX eY => by subst eX; subst eY; exact ret D t' u' h' tk' l9 F9 N9
    exact fin _ _ _ _ _ _ _ (by k_asm) (by k_asm) (by k_asm) (by unfold mvF; (repeat' split) <;> omega) (by unfold mvL; (repeat' split) <;> omega)

end
theorem kwaba : True := by
  k_with_none
  k_with "ta" => (try dsimp only)
  k_with "tb" => (try k_sweep)
  k_with "tc" => (try k_fold)
  k_with "w0" => (have hcL9 := cLine_is; (try simp only [units_in1, units_deeper, Around.mark_units, units_caller]); (try dsimp only [ktrTop]); omega)
  k_with "w1" => (k_here; (with_reducible show wpAny _ _ (call (Value.ref 126) _) _ _ _); k_dflt (refine' draw_use ?k1_2753 ?k2_2753 ?k3_2753 ?k4_2753 ?k5_2753 ?kK_2753 ?U_2753 ?hi_2753 ?hl_2753 ?hm_2753 ?hm2_2753 ?hd_2753 ?hu_2753 ?_; (case k1_2753 => k_asm); (case k2_2753 => k_asm); (case k3_2753 => k_asm); (case k4_2753 => k_asm); (case k5_2753 => k_asm); (case kK_2753 => first | exact rfl | assumption); (case U_2753 => (intro _ _; k_upd)); (case hi_2753 => with_reducible assumption); (case hl_2753 => assumption); (case hm_2753 => omega); (case hm2_2753 => omega); (case hd_2753 => ktr_room); (case hu_2753 => ke_room)))
  k_with "w2" => (k_here; (with_reducible show wpAny _ _ (call (Value.ref 114) _) _ _ _); k_dflt (refine' moved_ok ?k1_267c ?k2_267c ?k3_267c ?k4_267c ?k5_267c ?kK_267c ?hm_267c ?hd_267c ?hu_267c ?_; (case k1_267c => k_asm); (case k2_267c => k_asm); (case k3_267c => k_asm); (case k4_267c => k_asm); (case k5_267c => k_asm); (case kK_267c => first | exact rfl | assumption); (case hm_267c => k_mem); (case hd_267c => ktr_room); (case hu_267c => ke_room)))
  k_with "w3" => (refine' code_defC ?k1_73de ?k2_73de ?k3_73de ?k4_73de ?k5_73de ?kA_73de ?kF_73de ?kK_73de ?k6_73de ?k7_73de ?k8_73de ?k9_73de ?kB_73de ?kD_73de ?_ ?c2_73de ?c3_73de ?c4_73de; (case kA_73de => exact rfl); (case kF_73de => exact rfl); (case kK_73de => assumption); (case k1_73de => k_asm); (case k2_73de => k_asm); (case k3_73de => k_asm); (case k4_73de => k_asm); (case k5_73de => k_asm); (case k6_73de => k_is); (case k7_73de => k_is); (case k8_73de => ktr_room); (case k9_73de => exact BindsTo.of_eq rfl); (case kB_73de => exact rfl); (case kD_73de => decide +kernel); (case c2_73de => exact rfl); (case c3_73de => exact rfl); (case c4_73de => exact rfl); k_whole)
  k_with "w4" => (refine' code_def ?k1_91da ?k2_91da ?k3_91da ?k4_91da ?k5_91da ?kA_91da ?kF_91da ?kK_91da ?k6_91da ?k7_91da ?k8_91da ?k9_91da ?kB_91da ?_ ?c2_91da ?c3_91da ?c4_91da ?c5_91da; (case kA_91da => exact rfl); (case kF_91da => exact rfl); (case kK_91da => first | exact rfl | assumption); (case k1_91da => k_asm); (case k2_91da => k_asm); (case k3_91da => k_asm); (case k4_91da => k_asm); (case k5_91da => k_asm); (case k6_91da => k_is); (case k7_91da => k_is); (case k8_91da => ktr_room); (case k9_91da => exact BindsTo.of_eq rfl); (case c5_91da => decide); (case kB_91da => exact locs rfl); (case c2_91da => exact rfl); (case c3_91da => exact rfl); (case c4_91da => exact rfl); k_whole)
  k_with "w5" => (refine' code_defC ?k1_e452 ?k2_e452 ?k3_e452 ?k4_e452 ?k5_e452 ?kA_e452 ?kF_e452 ?kK_e452 ?k6_e452 ?k7_e452 ?k8_e452 ?k9_e452 ?kB_e452 ?kD_e452 ?_ ?c2_e452 ?c3_e452 ?c4_e452; (case kA_e452 => exact rfl); (case kF_e452 => exact rfl); (case kK_e452 => first | exact rfl | assumption); (case k1_e452 => k_asm); (case k2_e452 => k_asm); (case k3_e452 => k_asm); (case k4_e452 => k_asm); (case k5_e452 => k_asm); (case k6_e452 => k_is); (case k7_e452 => k_is); (case k8_e452 => ktr_room); (case k9_e452 => exact BindsTo.of_eq rfl); (case kB_e452 => exact rfl); (case kD_e452 => decide +kernel); (case c2_e452 => exact rfl); (case c3_e452 => exact rfl); (case c4_e452 => exact rfl); k_whole)
  k_with "w6" => (k_here; (with_reducible show wpAny _ _ (subscriptTail _ (PySem.Expr.Slice _ _ none _) (Value.ref _) (Value.ref _)) _ _ _); k_dflt (refine' slice_to ?F_7f9f ?N_7f9f ?l_7f9f ?p_7f9f ?q_7f9f ?e_7f9f ?z_7f9f ?_ ?s_7f9f ?t_7f9f; (case F_7f9f => k_asm); (case N_7f9f => k_asm); (case l_7f9f => k_mem); (case p_7f9f => kmk_part); (case q_7f9f => kmk_part); (case e_7f9f => first | exact pick_upto (by omega) | exact pick_from (by omega) | exact pick_part (by omega) (by omega) | exact pick_less (by omega)); (case s_7f9f => with_unfolding_all rfl); (case t_7f9f => kmk_pure); (case z_7f9f => omega)))
  k_with "w7" => (k_here; (with_reducible show wpAny _ _ (call (Value.type _) [Value.ref _]) _ _ _); k_dflt (first | (refine' copyL ?F_06eb ?N_06eb ?m_06eb ?z_06eb ?_; (case F_06eb => k_asm); (case N_06eb => k_asm); (case m_06eb => k_mem); (case z_06eb => omega)) | (refine' copyT ?F_06eb ?N_06eb ?m_06eb ?_; (case F_06eb => k_asm); (case N_06eb => k_asm); (case m_06eb => k_mem))))
  k_with "w8" => (k_here; (with_reducible show wpAny _ _ (binaryOp _ (Value.ref _) (Value.ref _)) _ _ _); k_dflt (refine' addL ?F_f34b ?N_f34b ?a_f34b ?b_f34b ?z_f34b ?_; (case F_f34b => k_asm); (case N_f34b => k_asm); (case a_f34b => k_mem); (case b_f34b => k_mem); (case z_f34b => first | omega | (simp only [List.length_cons, List.length_nil]; omega))))
  k_with "w9" => (refine neN ?_; (try dsimp only); first | with_reducible assumption | (with_reducible refine Ne.symm ?_; with_reducible assumption) | (with_reducible refine Nat.ne_of_lt ?_; with_reducible assumption) | (with_reducible refine Nat.ne_of_gt ?_; with_reducible assumption))
  k_with "w10" => first | with_reducible assumption | exact in_of_fr (by with_reducible assumption) (by with_reducible assumption)
  k_with "w11" => (k_here; (with_reducible show wpAny _ _ (call (Value.ref 119) _) _ _ _); k_dflt (refine' ldeck_ok ?k1_e407 ?k2_e407 ?k3_e407 ?k4_e407 ?k5_e407 ?kK_e407 ?hl_e407 ?hi_e407 ?hn_e407 ?hd_e407 ?hu_e407 ?_; (case k1_e407 => k_asm); (case k2_e407 => k_asm); (case k3_e407 => k_asm); (case k4_e407 => k_asm); (case k5_e407 => k_asm); (case kK_e407 => first | exact rfl | assumption); (case hl_e407 => assumption); (case hi_e407 => assumption); (case hn_e407 => omega); (case hd_e407 => ktr_room); (case hu_e407 => ke_room)))
  k_with "w12" => (k_here; (with_reducible show wpAny _ _ (call (Value.ref 133) _) _ _ _); k_dflt (refine' lspan_use ?k1_0801 ?k2_0801 ?k3_0801 ?k4_0801 ?k5_0801 ?kK_0801 ?U_0801 ?hi_0801 ?hl_0801 ?h0_0801 ?h1_0801 ?hd_0801 ?hu_0801 ?_; (case k1_0801 => k_asm); (case k2_0801 => k_asm); (case k3_0801 => k_asm); (case k4_0801 => k_asm); (case k5_0801 => k_asm); (case kK_0801 => first | exact rfl | assumption); (case U_0801 => (intro _ _; k_upd)); (case hi_0801 => with_reducible assumption); (case hl_0801 => assumption); (case h0_0801 => omega); (case h1_0801 => first | with_reducible assumption | omega); (case hd_0801 => ktr_room); (case hu_0801 => ke_room)))
  k_with "w13" => (k_here; (with_reducible show wpAny _ _ (call (Value.ref 100) _) _ _ _); k_dflt (refine' mrepl_use ?k1_76bf ?k2_76bf ?k3_76bf ?k4_76bf ?k5_76bf ?kK_76bf ?hx_76bf ?hsp_76bf ?D_76bf ?sub_76bf ?TL_76bf ?hl_76bf ?U_76bf ?hd_76bf ?hu_76bf ?_; (case k1_76bf => k_asm); (case k2_76bf => k_asm); (case k3_76bf => k_asm); (case k4_76bf => k_asm); (case k5_76bf => k_asm); (case kK_76bf => first | exact rfl | assumption); (case hx_76bf => k_mem); (case U_76bf => (intro _; k_upd)); (case hsp_76bf => k_mem); (case D_76bf => with_reducible assumption); (case sub_76bf => kqd_sub); (case TL_76bf => with_reducible assumption); (case hl_76bf => first | with_reducible assumption | omega); (case hd_76bf => ktr_room); (case hu_76bf => ke_room)))
  k_with "w14" => (k_here; (with_reducible show wpAny _ _ (call (Value.ref 83) _) _ _ _); k_dflt (refine' mlist_ok ?k1_935b ?k2_935b ?k3_935b ?k4_935b ?k5_935b ?kK_935b ?hx_935b ?hdx_935b ?hsp_935b ?D_935b ?sub_935b ?hl_935b ?hd_935b ?hu_935b ?_; (case k1_935b => k_asm); (case k2_935b => k_asm); (case k3_935b => k_asm); (case k4_935b => k_asm); (case k5_935b => k_asm); (case kK_935b => first | exact rfl | assumption); (case hx_935b => k_mem); (case hdx_935b => k_mem); (case hsp_935b => k_mem); (case D_935b => with_reducible assumption); (case sub_935b => kqd_sub); (case hl_935b => first | with_reducible assumption | omega); (case hd_935b => ktr_room); (case hu_935b => ke_room)))
  k_with "w15" => (k_here; (with_reducible show wpAny _ _ (call (Value.ref 90) _) _ _ _); k_dflt (refine' mrest_use ?k1_53a1 ?k2_53a1 ?k3_53a1 ?k4_53a1 ?k5_53a1 ?kK_53a1 ?hx_53a1 ?hpl_53a1 ?D_53a1 ?hl_53a1 ?U_53a1 ?hd_53a1 ?hu_53a1 ?_; (case k1_53a1 => k_asm); (case k2_53a1 => k_asm); (case k3_53a1 => k_asm); (case k4_53a1 => k_asm); (case k5_53a1 => k_asm); (case kK_53a1 => first | exact rfl | assumption); (case hx_53a1 => k_mem); (case U_53a1 => (intro _; k_upd)); (case hpl_53a1 => k_mem); (case D_53a1 => first | with_reducible assumption | exact (by with_reducible assumption : ∀ t : Tok, DatAll [] (_ ++ [Value.int 1 t]) _) _); (case hl_53a1 => first | with_reducible assumption | omega); (case hd_53a1 => ktr_room); (case hu_53a1 => ke_room)))
  k_with "w16" => (k_here; (with_reducible show wpAny _ _ (call (Value.ref 95) _) _ _ _); k_dflt (refine' mtran_use ?k1_e468 ?k2_e468 ?k3_e468 ?k4_e468 ?k5_e468 ?kK_e468 ?hx_e468 ?hsp_e468 ?D_e468 ?sub_e468 ?TL_e468 ?hl_e468 ?U_e468 ?hd_e468 ?hu_e468 ?_; (case k1_e468 => k_asm); (case k2_e468 => k_asm); (case k3_e468 => k_asm); (case k4_e468 => k_asm); (case k5_e468 => k_asm); (case kK_e468 => first | exact rfl | assumption); (case hx_e468 => k_mem); (case U_e468 => (intro _; k_upd)); (case hsp_e468 => k_mem); (case D_e468 => with_reducible assumption); (case sub_e468 => kqd_sub); (case TL_e468 => with_reducible assumption); (case hl_e468 => first | with_reducible assumption | omega); (case hd_e468 => ktr_room); (case hu_e468 => ke_room)))
  k_with "w17" => (k_here; (with_reducible show wpAny _ _ (call (Value.ref 157) _) _ _ _); k_dflt (refine' llist_ok ?k1_8c8e ?k2_8c8e ?k3_8c8e ?k4_8c8e ?k5_8c8e ?kK_8c8e ?hsp_8c8e ?D_8c8e ?sub_8c8e ?hl_8c8e ?hd_8c8e ?hu_8c8e ?_; (case k1_8c8e => k_asm); (case k2_8c8e => k_asm); (case k3_8c8e => k_asm); (case k4_8c8e => k_asm); (case k5_8c8e => k_asm); (case kK_8c8e => first | exact rfl | assumption); (case hsp_8c8e => k_mem); (case D_8c8e => with_reducible assumption); (case sub_8c8e => kqd_sub); (case hl_8c8e => first | with_reducible assumption | omega); (case hd_8c8e => ktr_room); (case hu_8c8e => ke_room)))
  k_with "w18" => (k_here; (with_reducible show wpAny _ _ (binaryOp _ (Value.ref _) (Value.ref _)) _ _ _); k_dflt (refine' addL ?F_261b ?N_261b ?a_261b ?b_261b ?z_261b ?_; (case F_261b => k_asm); (case N_261b => k_asm); (case a_261b => k_mem); (case b_261b => k_mem); (case z_261b => first | omega | (simp only [List.length_cons, List.length_nil, List.length_replicate]; omega))))
  k_with "w19" => (k_here; (with_reducible show wpAny _ _ (binaryOp Operator.Mult (Value.ref _) (Value.int _ _)) _ _ _); k_dflt (refine' mulN ?F_1ba3 ?N_1ba3 ?l_1ba3 ?e_1ba3 ?z_1ba3 ?_; (case F_1ba3 => k_asm); (case N_1ba3 => k_asm); (case l_1ba3 => k_mem); (case e_1ba3 => with_reducible assumption); (case z_1ba3 => omega)))
  k_with "WPost" => (dsimp only [WPost])
  trivial
local macro_rules | `(tactic| walk_at "call ref") => mw "w2" "D' t' u' h' tk' l1 F' N'" "eabc"
section


theorem kwabb : True := by
  k_with "call builtin:len" => (k_here; (with_reducible show wpAny _ _ (call (Value.builtin "len") [Value.ref _]) _ _ _); k_dflt (refine' kd_len ?k1_b0c9 ?k2_b0c9 ?k3_b0c9 ?k4_b0c9 ?_; (case k1_b0c9 => k_asm); (case k2_b0c9 => k_mem); (case k3_b0c9 => with_reducible assumption); (case k4_b0c9 => first | with_reducible exact len63 (by assumption) | omega); k_whole))
  k_with "subscriptTail" => (k_here; (with_reducible show wpAny _ _ (subscriptTail _ _ (Value.ref _) (Value.int _ _)) _ _ _); k_dflt (refine' item_dat ?k1_b351 ?k2_b351 ?k3_b351 ?k4_b351 ?k5_b351 ?k6_b351 ?_ ?k7_b351; (case k1_b351 => k_asm); (case k2_b351 => k_mem); (case k3_b351 => with_reducible assumption); (case k4_b351 => omega); (case k5_b351 => omega); (case k6_b351 => omega); (case k7_b351 => with_unfolding_all rfl); k_whole); intro _ _)
  trivial
section
variable {prog : Program} {w : World} {A : Around} {h₀ : Heap} {L : Addr} {m : Str → Option Value} {env : Env}
theorem compEnd_mono {s₁ : Shared} {I C D : Addr} {oI oC oD : Obj} {S : List (Addr × Obj) → Prop} {r r' : Value → List (Addr × Obj) → Prop} (hr : ∀ y nw, r y nw → r' y nw) {y : Value} {s₂ : Shared}
    (h : LCg.CompEnd h₀ L m s₁ I oI C oC D oD S r y s₂) : LCg.CompEnd h₀ L m s₁ I oI C oC D oD S r' y s₂ := by
  obtain ⟨h', tk, nw, a, b, c, d, e, f⟩ := h
  exact ⟨h', tk, nw, a, b, c, d, e, hr _ _ f⟩
/-- a comprehension's turns by an invariant of the number, the items made and the ledger -/
theorem rest_ind {elt : PySem.Expr} {x : Str} {scope : Scope} {cl : List (Str × Addr)} {s : Shared} {S : List (Addr × Obj) → Prop} {P : Nat → Value → Prop} {Fin : List Value → List (Addr × Obj) → Prop} {n : Nat} {news : List (Addr × Obj)}
    (J : Nat → List Value → List (Addr × Obj) → Prop) (h0 : J 0 [] news)
    (turn : ∀ i ys nw, i < n → J i ys nw → ∀ v I oI C oC D m₂ h tk (E' : Value → Shared → Prop), P i v → LCg.NsObj oC m₂ → m₂ x = some v → Fr h₀ L h m → News h₀ L h ((I, oI) :: (C, oC) :: (D, LCg.lst ys) :: nw) → LCg.Off3 I C D nw → ((@Ne Nat I C) ∧ (@Ne Nat I D) ∧ (@Ne Nat C D)) →
      wpAny (model prog w) A (eval elt (compEnvC scope cl C env)) (LCg.CompEnd h₀ L m { s with heap := h, toks := tk } I oI C oC D (LCg.lst ys) S (fun y nw' => J (i + 1) (ys ++ [y]) nw')) E' { s with heap := h, toks := tk })
    (fin : ∀ ys nw, J n ys nw → Fin ys nw) : LCg.CompRest prog w A h₀ L m env elt x scope cl s S P Fin n 0 [] news := by
  have all : ∀ k i ys nw, i + k = n → J i ys nw → LCg.CompRest prog w A h₀ L m env elt x scope cl s S P Fin k i ys nw := by
    intro k
    induction k with
    | zero => intro i ys nw e hj; exact LCg.CompRest.zero (fin _ _ (by rw [← e]; exact hj))
    | succ k ih =>
      intro i ys nw e hj
      refine LCg.CompRest.succ fun v I oI C oC D m₂ h tk E' hP hC hx F N off ne => ?_
      exact wpAny_mono (turn i ys nw (by omega) hj v I oI C oC D m₂ h tk E' hP hC hx F N off ne) (fun y s₂ q => compEnd_mono (fun y nw' q => ih (i + 1) _ _ (by omega) q) q) fun _ _ x => x
  exact all n 0 [] news (by omega) h0
theorem off3_app {I C D : Addr} : ∀ {l r : List (Addr × Obj)}, LCg.Off3 I C D (l ++ r) ↔ LCg.Off3 I C D l ∧ LCg.Off3 I C D r
  | [], _ => ⟨fun h => ⟨trivial, h⟩, fun h => h.2⟩
  | _ :: _, _ => ⟨fun h => ⟨⟨h.1, (off3_app.mp h.2).1⟩, (off3_app.mp h.2).2⟩, fun h => ⟨h.1.1, off3_app.mpr ⟨h.1.2, h.2⟩⟩⟩
theorem off3_cons {I C D b : Addr} {o : Obj} {l r : List (Addr × Obj)} (h : LCg.Off3 I C D (l ++ r)) (h1 : b ≠ I) (h2 : b ≠ C) (h3 : b ≠ D) : LCg.Off3 I C D (l ++ (b, o) :: r) :=
  off3_app.mpr ⟨(off3_app.mp h).1, ⟨h1, h2, h3⟩, (off3_app.mp h).2⟩
theorem off1_mem {D : Addr} : ∀ {l : List (Addr × Obj)}, LCg.Off1 D l → ∀ p ∈ l, p.1 ≠ D
  | [], _, _, h => nomatch h
  | _ :: _, x, p, h => by
    rcases List.mem_cons.mp h with rfl | h
    · exact x.1
    · exact off1_mem x.2 p h
/-- the same, what is made standing behind the ledger -/
theorem rest_tl {elt : PySem.Expr} {x : Str} {scope : Scope} {cl : List (Str × Addr)} {s : Shared} {S : List (Addr × Obj) → Prop} {P : Nat → Value → Prop} {Fin : List Value → List (Addr × Obj) → Prop} {n : Nat} {news : List (Addr × Obj)}
    (J : Nat → List Value → List (Addr × Obj) → Prop) (h0 : J 0 [] [])
    (turn : ∀ i ys tl, i < n → J i ys tl → ∀ v I oI C oC D m₂ h tk (E' : Value → Shared → Prop), P i v → LCg.NsObj oC m₂ → m₂ x = some v → Fr h₀ L h m → News h₀ L h ((I, oI) :: (C, oC) :: (D, LCg.lst ys) :: (news ++ tl)) → LCg.Off3 I C D (news ++ tl) → ((@Ne Nat I C) ∧ (@Ne Nat I D) ∧ (@Ne Nat C D)) →
      wpAny (model prog w) A (eval elt (compEnvC scope cl C env)) (LCg.CompEnd h₀ L m { s with heap := h, toks := tk } I oI C oC D (LCg.lst ys) S (fun y nw' => ∃ tl', nw' = news ++ tl' ∧ J (i + 1) (ys ++ [y]) tl')) E' { s with heap := h, toks := tk })
    (fin : ∀ ys tl, J n ys tl → Fin ys (news ++ tl)) : LCg.CompRest prog w A h₀ L m env elt x scope cl s S P Fin n 0 [] news :=
  rest_ind (fun i ys nw => ∃ tl, nw = news ++ tl ∧ J i ys tl) ⟨[], (List.append_nil _).symm, h0⟩
    (fun i ys nw hi hj v I oI C oC D m₂ h tk E' hP hC hx F N off ne => by obtain ⟨tl, rfl, hj⟩ := hj; exact turn i ys tl hi hj v I oI C oC D m₂ h tk E' hP hC hx F N off ne)
    (fun ys nw hj => by obtain ⟨tl, rfl, hj⟩ := hj; exact fin ys tl hj)
theorem end_tl {s₁ : Shared} {I C D : Addr} {oI oC oD : Obj} {S : List (Addr × Obj) → Prop} {J : Value → List (Addr × Obj) → Prop} {y : Value} {h' : Heap} {tk : Nat} {all news : List (Addr × Obj)} (tl' : List (Addr × Obj))
    (F : Fr h₀ L h' m) (N : News h₀ L h' all) (sub : ∀ p ∈ (I, oI) :: (C, oC) :: (D, oD) :: (news ++ tl'), p ∈ all) (off : LCg.Off3 I C D (news ++ tl')) (hS : S (news ++ tl')) (r : J y tl') :
    LCg.CompEnd h₀ L m s₁ I oI C oC D oD S (fun y nw' => ∃ tl', nw' = news ++ tl' ∧ J y tl') y { s₁ with heap := h', toks := tk } := LCg.CompEnd.intro F N (news ++ tl') sub off hS ⟨tl', rfl, r⟩
theorem dat_at {L9 : List (Addr × Obj)} {vs : List Value} {ds : List Dat} (D : DatAll L9 vs ds) {i : Nat} {v : Value} (h : vs.toArray[i]? = some v) : ∃ d, ds[i]? = some d ∧ DatIn L9 v d := by
  have h' : vs[i]? = some v := by simpa using h
  have hi : i < ds.length := by rw [← D.length]; exact (List.getElem?_eq_some_iff.mp h').1
  obtain ⟨v', e, q⟩ := D.get hi
  rw [h'] at e
  cases e
  exact ⟨_, List.getElem?_eq_getElem hi, q⟩
theorem dat_at_enc {L9 : List (Addr × Obj)} {vs : List Value} {os : List (Option (Int × Int))} (D : DatAll L9 vs (os.map enc)) {i : Nat} {v : Value} (h : vs.toArray[i]? = some v) : ∃ o, os[i]? = some o ∧ DatIn L9 v (enc o) := by
  obtain ⟨d, e, q⟩ := dat_at D h
  rw [List.getElem?_map] at e
  cases ho : os[i]? with
  | none => rw [ho] at e; cases e
  | some o => rw [ho] at e; cases e; exact ⟨o, rfl, q⟩
theorem take_more {α : Type} {os : List α} {i : Nat} {o : α} (h : os[i]? = some o) : os.take (i + 1) = os.take i ++ [o] := by
  rw [List.take_add_one, h]; rfl
end
local macro_rules | `(tactic| cell_enter) => mw "w3" "g' L' h' tk' cells' FG' F' N' Y' B' X' T' l1" "efgahc"

theorem kwabc : True := by
  k_with "eval ListComp" => (k_here; k_dflt (refine LCg.ListComp_U (F₀ := by k_asm) (by with_unfolding_all rfl) (by decide) (by rfl) (by decide) (by rfl) ?_))
  k_with "exec Assign cons ListComp" => (k_here; k_dflt (refine LCg.Assign_ListComp_U (F₀ := by k_asm) (by rfl) (by with_unfolding_all rfl) (by with_unfolding_all rfl) (by decide) (by rfl) (by decide) (by rfl) (by rfl) (by rfl) ?_))
  k_with "CompSrc" => (k_here; k_dflt (refine' LCg.CompSrc.ledger ?hh_afc6 ?F_afc6 ?N_afc6 ?m_afc6 ?z_afc6 ?_; (case hh_afc6 => rfl); (case F_afc6 => k_asm); (case N_afc6 => k_asm); (case m_afc6 => k_mem); (case z_afc6 => (simp only [List.size_toArray, sizeLine]; omega))); intro _)
  trivial
theorem tups_off {h₀ h : Heap} {L d : Addr} {news tl : List (Addr × Obj)} {o : Obj} (N : News h₀ L h news) (ht : ∀ p ∈ tl, p ∈ news) (T : Tups tl) (hm : (d, o) ∈ news) (hc : o.cls ≠ .type "tuple") : ∀ q ∈ tl, q.1 ≠ d := fun q hq e => by
  have h1 := (N _ (ht q hq)).1
  have h2 := (N _ hm).1
  rw [e, h2] at h1
  exact hc ((congrArg Obj.cls (Option.some.inj h1)).trans (T q hq).1)

theorem tups_offC {h₀ h : Heap} {L d : Addr} {news tl : List (Addr × Obj)} {o : Obj} {v : Option Value} (N : News h₀ L h news) (ht : ∀ p ∈ tl, p ∈ news) (T : Tups tl) (hm : (d, o) ∈ news) (hc : o.data = Data.cell v) : ∀ q ∈ tl, q.1 ≠ d := fun q hq e => by
  have h1 := (N _ (ht q hq)).1
  have h2 := (N _ hm).1
  rw [e, h2] at h1
  exact (T q hq).2 v ((congrArg Obj.data (Option.some.inj h1)).symm.trans hc)
theorem off1_of {D : Addr} : ∀ {l : List (Addr × Obj)}, (∀ p ∈ l, p.1 ≠ D) → LCg.Off1 D l
  | [], _ => trivial
  | _ :: _, h => ⟨h _ (.head _), off1_of fun p hp => h p (.tail _ hp)⟩
theorem in_rest {h₀ h : Heap} {L d : Addr} {news : List (Addr × Obj)} {o : Obj} {q : Addr × Obj} (N : News h₀ L h news) (hq : q ∈ news) (hm : (d, o) ∈ news) (hc : q.2.cls ≠ o.cls) : q ∈ news.filter fun q => decide (q.1 ≠ d) :=
  List.mem_filter.mpr ⟨hq, by
    have h1 := (N _ hq).1
    have h2 := (N _ hm).1
    simp only [decide_eq_true_eq]
    intro e
    rw [e, h2] at h1
    exact hc (congrArg Obj.cls (Option.some.inj h1)).symm⟩
theorem upd_back {h₀ h : Heap} {L d : Addr} {news G tl : List (Addr × Obj)} {o o' : Obj} (A : List (Addr × Obj)) (U : Upd d o o' news G) (N : News h₀ L h (A ++ (d, o') :: (tl ++ news.filter fun q => decide (q.1 ≠ d)))) : News h₀ L h (A ++ (G ++ tl)) := fun q hq => by
  rcases List.mem_append.mp hq with hq | hq
  · exact N q (List.mem_append_left _ hq)
  · rcases List.mem_append.mp hq with hq | hq
    · rcases (upd_mem U).2 q hq with rfl | ⟨h5, h6⟩
      · exact N _ (List.mem_append_right _ (.head _))
      · exact N q (List.mem_append_right _ (.tail _ (List.mem_append_right _ (List.mem_filter.mpr ⟨h5, by simpa using h6⟩))))
    · exact N q (List.mem_append_right _ (.tail _ (List.mem_append_left _ hq)))

theorem mrepl_ok {w : World} {p : Program} {loose : List Str} {mean : ExcName → Option Value} {mg mb : Str → Option Value} {dp un : Nat} {gd : Option (List Code)} {cn : Str} {cs : Scope} {a : Addr} {ccd : Value} {cl : List (Str × Addr)} {outer : List Env} {A₀ : Around} {base h₀ : Heap} {L : Addr} {m : Str → Option Value} {s : Shared} {Q E : Value → Shared → Prop} {news : List (Addr × Obj)} {x dx sp : Addr} {t0 : Tok} {vs : List Value} {k : Nat} {os : List (Option (Int × Int))} {st oe ne : Int} {tk tk2 tk3 : Tok} {L9 rest : List (Addr × Obj)}
  (B : Below A₀ base outer h₀) (F : Fr h₀ L s.heap m) (X : (Mine.hd.heap_39 w.params).In h₀) (N : News h₀ L s.heap news) (T : Top p loose mean mg mb h₀) (hk : cs.kind = .function) (hnews : news = (dx, spansDict w.params t0 sp) :: rest) (hoff : ∀ q ∈ rest, q.1 ≠ dx)
  (hx : (x, instObj 103 dx) ∈ rest) (hsp : (sp, listOf vs.toArray k) ∈ rest) (D : DatAll L9 vs (os.map enc)) (sub : ∀ p ∈ L9, p ∈ rest) (hl : os.length < 1000)
  (hd : dp + 3 < recursionLimit) (hu : un + 300 < cLine)
  (ret : ∀ (D : Addr) (vs' : List Value) (tl : List (Addr × Obj)) (h' : Heap) (tk' : Nat), Tups tl → DatAll tl vs' ((os.map (Option.map (mv st oe ne))).map enc) → LCg.Off1 D ((dx, spansDict w.params t0 D) :: rest) → (∀ q ∈ tl, ∀ p ∈ rest, q.1 ≠ p.1) → Fr h₀ L h' m →
    News h₀ L h' ((D, listOf vs'.toArray vs'.length) :: (dx, spansDict w.params t0 D) :: (tl ++ rest)) → Q .none { s with heap := h', toks := tk' }) :
  wpAny (model PySem.Challenge.pw_ok0042_01 w) (ktrTop dp un gd cn cs L a ccd cl outer) (call (.ref 100) [.ref x, .int st tk, .int oe tk2, .int ne tk3]) Q E s := by
  subst hnews
  have hvl : vs.length < 1000 := by have := D.length; rw [List.length_map] at this; omega
  have hoff1 : OwnOff rest [dx] := fun q hq b hb => by rw [List.mem_singleton.mp hb]; exact hoff q hq
  show Keep PySem.Challenge.rw_ok0042_01 Mine.hd.heap_39 (wpAny _ _ _ _ _ _)
  k_fill
  unfold Keep
  refine wpAny_call ?_
  k_dflt cell_enter
  w_strict k_steps
  refine rest_tl (fun i ys tl => Tups tl ∧ (∀ q ∈ tl, ∀ p ∈ rest, q.1 ≠ p.1) ∧ DatAll tl ys (((os.take i).map (Option.map (mv st oe ne))).map enc)) ⟨(fun _ h => nomatch h), (fun _ h => nomatch h), .nil⟩ ?_ ?_
  · rintro i ys tl hi ⟨hT, hFr, hY⟩ v I oI C oC DD m₂ h tk E' hP hC hx' F' N' off ⟨ne1, ne2, ne3⟩
    obtain ⟨o, ho, hDo⟩ := dat_at_enc D hP
    simp only [List.cons_append] at N'
    rcases datIn_enc hDo with ⟨rfl, rfl⟩ | ⟨a9, b9, t9, u9, ad, n9, rfl, rfl, hm⟩
    · w_strict k_steps
      refine end_tl tl (by k_asm) (by k_asm) (by kqd_sub) off (Or.inr ⟨_, by k_mem, rfl, _, rfl⟩) ⟨hT, hFr, ?_⟩
      rw [take_more ho, List.map_append, List.map_append]
      exact hY.append (.cons .none .nil)
    · have hm9 := List.mem_append_left tl (sub _ hm)
      w_strict k_steps
      rename ((_ : Nat) < _ ∧ _) => l9
      rename News _ _ _ ((_, tupO (mvF st oe ne a9) (mvL st oe ne b9) _ _ _) :: _) => N9
      refine end_tl ((_, tupO (mvF st oe ne a9) (mvL st oe ne b9) _ _ _) :: tl) (by k_asm) N9 (by kqd_sub) (off3_cons off (by k_ne) (by k_ne) (by k_ne)) (Or.inr ⟨_, by k_mem, rfl, _, rfl⟩) ⟨?_, ?_, ?_⟩
      · intro p hp
        rcases List.mem_cons.mp hp with rfl | hp
        · exact ⟨rfl, fun _ e => nomatch e⟩
        · exact hT p hp
      · intro q hq p hp
        rcases List.mem_cons.mp hq with rfl | hq
        · repeat (replace l9 := And.right l9)
          exact Nat.ne_of_gt (allLt_all l9 p (List.mem_append_left _ hp))
        · exact hFr q hq p hp
      · rw [take_more ho, List.map_append, List.map_append]
        exact (hY.mono fun p hp => List.mem_cons_of_mem _ hp).append (.cons (DatIn.tuple (vs := [_, _]) (.head _) (.cons (.int _ _) (.cons (.int _ _) .nil))) .nil)
  · intro ys tl ⟨hT, hFr, hY⟩
    have hsz : vs.toArray.size = os.length := by have := D.length; simpa using this
    rw [hsz, List.take_length] at hY
    unfold LCg.FinE
    intro D1 h1 tk1 F1 N1 o1
    have o2 := off1_mem o1
    simp only [List.cons_append, LCg.Off1] at N1 o1
    have hoff2 : OwnOff (rest ++ tl) [dx] := fun q hq b hb => by
      rw [List.mem_singleton.mp hb]
      rcases List.mem_append.mp hq with hq | hq
      · exact hoff q hq
      · exact tups_off N1 (by kqd_sub) hT (by k_mem) (show Value.type "dict" ≠ Value.type "tuple" by decide) q hq
    have hx2 := List.mem_append_left tl hx
    dsimp only
    w_strict k_steps
    exact ret D1 ys tl _ _ hT hY (off1_of fun q hq => by
      rcases List.mem_cons.mp hq with rfl | hq
      · exact o1.2.2.2.1
      · exact o2 q (by simp [hq])) hFr (by k_asm) (cb_drop (by assumption) (by kqd_sub))

theorem mrepl_use {w : World} {p : Program} {loose : List Str} {mean : ExcName → Option Value} {mg mb : Str → Option Value} {dp un : Nat} {gd : Option (List Code)} {cn : Str} {cs : Scope} {a : Addr} {ccd : Value} {cl : List (Str × Addr)} {outer : List Env} {A₀ : Around} {base h₀ : Heap} {L : Addr} {m : Str → Option Value} {s : Shared} {Q E : Value → Shared → Prop} {news : List (Addr × Obj)} {x dx sp : Addr} {t0 : Tok} {vs : List Value} {k : Nat} {os : List (Option (Int × Int))} {st oe ne : Int} {tk tk2 tk3 : Tok} {L9 : List (Addr × Obj)} {G : Addr → List (Addr × Obj)}
  (B : Below A₀ base outer h₀) (F : Fr h₀ L s.heap m) (X : (Mine.hd.heap_39 w.params).In h₀) (N : News h₀ L s.heap news) (T : Top p loose mean mg mb h₀) (hk : cs.kind = .function) (hx : (x, instObj 103 dx) ∈ news) (hsp : (sp, listOf vs.toArray k) ∈ news) (D : DatAll L9 vs (os.map enc)) (sub : ∀ p ∈ L9, p ∈ news) (TL : Tups L9) (hl : os.length < 1000)
  (U : ∀ D, Upd dx (spansDict w.params t0 sp) (spansDict w.params t0 D) news (G D))
  (hd : dp + 3 < recursionLimit) (hu : un + 300 < cLine)
  (ret : ∀ (D : Addr) (vs' : List Value) (tl : List (Addr × Obj)) (h' : Heap) (tk' : Nat), Tups tl → DatAll tl vs' ((os.map (Option.map (mv st oe ne))).map enc) → LCg.Off1 D (G D) → (∀ q ∈ tl, ∀ p ∈ news, q.1 ≠ p.1) → Fr h₀ L h' m →
    News h₀ L h' ((D, listOf vs'.toArray vs'.length) :: (G D ++ tl)) → Q .none { s with heap := h', toks := tk' }) :
  wpAny (model PySem.Challenge.pw_ok0042_01 w) (ktrTop dp un gd cn cs L a ccd cl outer) (call (.ref 100) [.ref x, .int st tk, .int oe tk2, .int ne tk3]) Q E s := by
  have hm0 := (upd_mem (U sp)).1
  refine mrepl_ok (rest := news.filter fun q => decide (q.1 ≠ dx)) (news := (dx, spansDict w.params t0 sp) :: news.filter fun q => decide (q.1 ≠ dx)) B F X (upd_news N hm0) T hk rfl (fun q hq => by simpa using (List.mem_filter.mp hq).2) (in_rest N hx hm0 (show Value.ref 103 ≠ Value.type "dict" by decide)) (in_rest N hsp hm0 (show Value.type "list" ≠ Value.type "dict" by decide)) D (fun q hq => in_rest N (sub q hq) hm0 (by rw [(TL q hq).1]; show Value.type "tuple" ≠ Value.type "dict"; decide)) hl hd hu
    (fun D vs' tl h' tk' hT hY o1 hFr F' N' => ret D vs' tl h' tk' hT hY (off1_of fun q hq => ?_) (fun q hq p hp => ?_) F' (upd_back [(D, listOf vs'.toArray vs'.length)] (U D) N'))
  · rcases (upd_mem (U D)).2 q hq with rfl | ⟨h5, h6⟩
    · exact off1_mem o1 _ (.head _)
    · exact off1_mem o1 _ (.tail _ (List.mem_filter.mpr ⟨h5, by simpa using h6⟩))
  · by_cases e : p.1 = dx
    · rw [e]
      exact tups_off N' (by kqd_sub) hT (o := spansDict w.params t0 D) (by k_mem) (show Value.type "dict" ≠ Value.type "tuple" by decide) q hq
    · exact hFr q hq p (List.mem_filter.mpr ⟨hp, by simpa using e⟩)

end
theorem kwabd : True := by
  k_with_none
  k_with "ta" => (try dsimp only)
  k_with "tb" => (try k_sweep)
  k_with "tc" => (try k_fold)
  k_with "w0" => (have hcL9 := cLine_is; (try simp only [units_in1, units_deeper, Around.mark_units, units_caller]); (try dsimp only [ktrTop]); omega)
  k_with "w1" => (k_here; (with_reducible show wpAny _ _ (call (Value.ref 126) _) _ _ _); k_dflt (refine' draw_use ?k1_2753 ?k2_2753 ?k3_2753 ?k4_2753 ?k5_2753 ?kK_2753 ?U_2753 ?hi_2753 ?hl_2753 ?hm_2753 ?hm2_2753 ?hd_2753 ?hu_2753 ?_; (case k1_2753 => k_asm); (case k2_2753 => k_asm); (case k3_2753 => k_asm); (case k4_2753 => k_asm); (case k5_2753 => k_asm); (case kK_2753 => first | exact rfl | assumption); (case U_2753 => (intro _ _; k_upd)); (case hi_2753 => with_reducible assumption); (case hl_2753 => assumption); (case hm_2753 => omega); (case hm2_2753 => omega); (case hd_2753 => ktr_room); (case hu_2753 => ke_room)))
  k_with "w2" => (k_here; (with_reducible show wpAny _ _ (call (Value.ref 114) _) _ _ _); k_dflt (refine' moved_ok ?k1_267c ?k2_267c ?k3_267c ?k4_267c ?k5_267c ?kK_267c ?hm_267c ?hd_267c ?hu_267c ?_; (case k1_267c => k_asm); (case k2_267c => k_asm); (case k3_267c => k_asm); (case k4_267c => k_asm); (case k5_267c => k_asm); (case kK_267c => first | exact rfl | assumption); (case hm_267c => k_mem); (case hd_267c => ktr_room); (case hu_267c => ke_room)))
  k_with "w3" => (refine' code_defC ?k1_73de ?k2_73de ?k3_73de ?k4_73de ?k5_73de ?kA_73de ?kF_73de ?kK_73de ?k6_73de ?k7_73de ?k8_73de ?k9_73de ?kB_73de ?kD_73de ?_ ?c2_73de ?c3_73de ?c4_73de; (case kA_73de => exact rfl); (case kF_73de => exact rfl); (case kK_73de => assumption); (case k1_73de => k_asm); (case k2_73de => k_asm); (case k3_73de => k_asm); (case k4_73de => k_asm); (case k5_73de => k_asm); (case k6_73de => k_is); (case k7_73de => k_is); (case k8_73de => ktr_room); (case k9_73de => exact BindsTo.of_eq rfl); (case kB_73de => exact rfl); (case kD_73de => decide +kernel); (case c2_73de => exact rfl); (case c3_73de => exact rfl); (case c4_73de => exact rfl); k_whole)
  k_with "w4" => (refine' code_def ?k1_91da ?k2_91da ?k3_91da ?k4_91da ?k5_91da ?kA_91da ?kF_91da ?kK_91da ?k6_91da ?k7_91da ?k8_91da ?k9_91da ?kB_91da ?_ ?c2_91da ?c3_91da ?c4_91da ?c5_91da; (case kA_91da => exact rfl); (case kF_91da => exact rfl); (case kK_91da => first | exact rfl | assumption); (case k1_91da => k_asm); (case k2_91da => k_asm); (case k3_91da => k_asm); (case k4_91da => k_asm); (case k5_91da => k_asm); (case k6_91da => k_is); (case k7_91da => k_is); (case k8_91da => ktr_room); (case k9_91da => exact BindsTo.of_eq rfl); (case c5_91da => decide); (case kB_91da => exact locs rfl); (case c2_91da => exact rfl); (case c3_91da => exact rfl); (case c4_91da => exact rfl); k_whole)
  k_with "w5" => (refine' code_defC ?k1_e452 ?k2_e452 ?k3_e452 ?k4_e452 ?k5_e452 ?kA_e452 ?kF_e452 ?kK_e452 ?k6_e452 ?k7_e452 ?k8_e452 ?k9_e452 ?kB_e452 ?kD_e452 ?_ ?c2_e452 ?c3_e452 ?c4_e452; (case kA_e452 => exact rfl); (case kF_e452 => exact rfl); (case kK_e452 => first | exact rfl | assumption); (case k1_e452 => k_asm); (case k2_e452 => k_asm); (case k3_e452 => k_asm); (case k4_e452 => k_asm); (case k5_e452 => k_asm); (case k6_e452 => k_is); (case k7_e452 => k_is); (case k8_e452 => ktr_room); (case k9_e452 => exact BindsTo.of_eq rfl); (case kB_e452 => exact rfl); (case kD_e452 => decide +kernel); (case c2_e452 => exact rfl); (case c3_e452 => exact rfl); (case c4_e452 => exact rfl); k_whole)
  k_with "w6" => (k_here; (with_reducible show wpAny _ _ (subscriptTail _ (PySem.Expr.Slice _ _ none _) (Value.ref _) (Value.ref _)) _ _ _); k_dflt (refine' slice_to ?F_7f9f ?N_7f9f ?l_7f9f ?p_7f9f ?q_7f9f ?e_7f9f ?z_7f9f ?_ ?s_7f9f ?t_7f9f; (case F_7f9f => k_asm); (case N_7f9f => k_asm); (case l_7f9f => k_mem); (case p_7f9f => kmk_part); (case q_7f9f => kmk_part); (case e_7f9f => first | exact pick_upto (by omega) | exact pick_from (by omega) | exact pick_part (by omega) (by omega) | exact pick_less (by omega)); (case s_7f9f => with_unfolding_all rfl); (case t_7f9f => kmk_pure); (case z_7f9f => omega)))
  k_with "w7" => (k_here; (with_reducible show wpAny _ _ (call (Value.type _) [Value.ref _]) _ _ _); k_dflt (first | (refine' copyL ?F_06eb ?N_06eb ?m_06eb ?z_06eb ?_; (case F_06eb => k_asm); (case N_06eb => k_asm); (case m_06eb => k_mem); (case z_06eb => omega)) | (refine' copyT ?F_06eb ?N_06eb ?m_06eb ?_; (case F_06eb => k_asm); (case N_06eb => k_asm); (case m_06eb => k_mem))))
  k_with "w8" => (k_here; (with_reducible show wpAny _ _ (binaryOp _ (Value.ref _) (Value.ref _)) _ _ _); k_dflt (refine' addL ?F_f34b ?N_f34b ?a_f34b ?b_f34b ?z_f34b ?_; (case F_f34b => k_asm); (case N_f34b => k_asm); (case a_f34b => k_mem); (case b_f34b => k_mem); (case z_f34b => first | omega | (simp only [List.length_cons, List.length_nil]; omega))))
  k_with "w9" => (refine neN ?_; (try dsimp only); first | with_reducible assumption | (with_reducible refine Ne.symm ?_; with_reducible assumption) | (with_reducible refine Nat.ne_of_lt ?_; with_reducible assumption) | (with_reducible refine Nat.ne_of_gt ?_; with_reducible assumption))
  k_with "w10" => first | with_reducible assumption | exact in_of_fr (by with_reducible assumption) (by with_reducible assumption)
  k_with "w11" => (k_here; (with_reducible show wpAny _ _ (call (Value.ref 119) _) _ _ _); k_dflt (refine' ldeck_ok ?k1_e407 ?k2_e407 ?k3_e407 ?k4_e407 ?k5_e407 ?kK_e407 ?hl_e407 ?hi_e407 ?hn_e407 ?hd_e407 ?hu_e407 ?_; (case k1_e407 => k_asm); (case k2_e407 => k_asm); (case k3_e407 => k_asm); (case k4_e407 => k_asm); (case k5_e407 => k_asm); (case kK_e407 => first | exact rfl | assumption); (case hl_e407 => assumption); (case hi_e407 => assumption); (case hn_e407 => omega); (case hd_e407 => ktr_room); (case hu_e407 => ke_room)))
  k_with "w12" => (k_here; (with_reducible show wpAny _ _ (call (Value.ref 133) _) _ _ _); k_dflt (refine' lspan_use ?k1_0801 ?k2_0801 ?k3_0801 ?k4_0801 ?k5_0801 ?kK_0801 ?U_0801 ?hi_0801 ?hl_0801 ?h0_0801 ?h1_0801 ?hd_0801 ?hu_0801 ?_; (case k1_0801 => k_asm); (case k2_0801 => k_asm); (case k3_0801 => k_asm); (case k4_0801 => k_asm); (case k5_0801 => k_asm); (case kK_0801 => first | exact rfl | assumption); (case U_0801 => (intro _ _; k_upd)); (case hi_0801 => with_reducible assumption); (case hl_0801 => assumption); (case h0_0801 => omega); (case h1_0801 => first | with_reducible assumption | omega); (case hd_0801 => ktr_room); (case hu_0801 => ke_room)))
  k_with "w13" => (k_here; (with_reducible show wpAny _ _ (call (Value.ref 100) _) _ _ _); k_dflt (refine' mrepl_use ?k1_76bf ?k2_76bf ?k3_76bf ?k4_76bf ?k5_76bf ?kK_76bf ?hx_76bf ?hsp_76bf ?D_76bf ?sub_76bf ?TL_76bf ?hl_76bf ?U_76bf ?hd_76bf ?hu_76bf ?_; (case k1_76bf => k_asm); (case k2_76bf => k_asm); (case k3_76bf => k_asm); (case k4_76bf => k_asm); (case k5_76bf => k_asm); (case kK_76bf => first | exact rfl | assumption); (case hx_76bf => k_mem); (case U_76bf => (intro _; k_upd)); (case hsp_76bf => k_mem); (case D_76bf => with_reducible assumption); (case sub_76bf => kqd_sub); (case TL_76bf => with_reducible assumption); (case hl_76bf => first | with_reducible assumption | omega); (case hd_76bf => ktr_room); (case hu_76bf => ke_room)))
  k_with "w14" => (k_here; (with_reducible show wpAny _ _ (call (Value.ref 83) _) _ _ _); k_dflt (refine' mlist_ok ?k1_935b ?k2_935b ?k3_935b ?k4_935b ?k5_935b ?kK_935b ?hx_935b ?hdx_935b ?hsp_935b ?D_935b ?sub_935b ?hl_935b ?hd_935b ?hu_935b ?_; (case k1_935b => k_asm); (case k2_935b => k_asm); (case k3_935b => k_asm); (case k4_935b => k_asm); (case k5_935b => k_asm); (case kK_935b => first | exact rfl | assumption); (case hx_935b => k_mem); (case hdx_935b => k_mem); (case hsp_935b => k_mem); (case D_935b => with_reducible assumption); (case sub_935b => kqd_sub); (case hl_935b => first | with_reducible assumption | omega); (case hd_935b => ktr_room); (case hu_935b => ke_room)))
  k_with "w15" => (k_here; (with_reducible show wpAny _ _ (call (Value.ref 90) _) _ _ _); k_dflt (refine' mrest_use ?k1_53a1 ?k2_53a1 ?k3_53a1 ?k4_53a1 ?k5_53a1 ?kK_53a1 ?hx_53a1 ?hpl_53a1 ?D_53a1 ?hl_53a1 ?U_53a1 ?hd_53a1 ?hu_53a1 ?_; (case k1_53a1 => k_asm); (case k2_53a1 => k_asm); (case k3_53a1 => k_asm); (case k4_53a1 => k_asm); (case k5_53a1 => k_asm); (case kK_53a1 => first | exact rfl | assumption); (case hx_53a1 => k_mem); (case U_53a1 => (intro _; k_upd)); (case hpl_53a1 => k_mem); (case D_53a1 => first | with_reducible assumption | exact (by with_reducible assumption : ∀ t : Tok, DatAll [] (_ ++ [Value.int 1 t]) _) _); (case hl_53a1 => first | with_reducible assumption | omega); (case hd_53a1 => ktr_room); (case hu_53a1 => ke_room)))
  k_with "w16" => (k_here; (with_reducible show wpAny _ _ (call (Value.ref 95) _) _ _ _); k_dflt (refine' mtran_use ?k1_e468 ?k2_e468 ?k3_e468 ?k4_e468 ?k5_e468 ?kK_e468 ?hx_e468 ?hsp_e468 ?D_e468 ?sub_e468 ?TL_e468 ?hl_e468 ?U_e468 ?hd_e468 ?hu_e468 ?_; (case k1_e468 => k_asm); (case k2_e468 => k_asm); (case k3_e468 => k_asm); (case k4_e468 => k_asm); (case k5_e468 => k_asm); (case kK_e468 => first | exact rfl | assumption); (case hx_e468 => k_mem); (case U_e468 => (intro _; k_upd)); (case hsp_e468 => k_mem); (case D_e468 => with_reducible assumption); (case sub_e468 => kqd_sub); (case TL_e468 => with_reducible assumption); (case hl_e468 => first | with_reducible assumption | omega); (case hd_e468 => ktr_room); (case hu_e468 => ke_room)))
  k_with "w17" => (k_here; (with_reducible show wpAny _ _ (call (Value.ref 157) _) _ _ _); k_dflt (refine' llist_ok ?k1_8c8e ?k2_8c8e ?k3_8c8e ?k4_8c8e ?k5_8c8e ?kK_8c8e ?hsp_8c8e ?D_8c8e ?sub_8c8e ?hl_8c8e ?hd_8c8e ?hu_8c8e ?_; (case k1_8c8e => k_asm); (case k2_8c8e => k_asm); (case k3_8c8e => k_asm); (case k4_8c8e => k_asm); (case k5_8c8e => k_asm); (case kK_8c8e => first | exact rfl | assumption); (case hsp_8c8e => k_mem); (case D_8c8e => with_reducible assumption); (case sub_8c8e => kqd_sub); (case hl_8c8e => first | with_reducible assumption | omega); (case hd_8c8e => ktr_room); (case hu_8c8e => ke_room)))
  k_with "w18" => (k_here; (with_reducible show wpAny _ _ (binaryOp _ (Value.ref _) (Value.ref _)) _ _ _); k_dflt (refine' addL ?F_261b ?N_261b ?a_261b ?b_261b ?z_261b ?_; (case F_261b => k_asm); (case N_261b => k_asm); (case a_261b => k_mem); (case b_261b => k_mem); (case z_261b => first | omega | (simp only [List.length_cons, List.length_nil, List.length_replicate]; omega))))
  k_with "w19" => (k_here; (with_reducible show wpAny _ _ (binaryOp Operator.Mult (Value.ref _) (Value.int _ _)) _ _ _); k_dflt (refine' mulN ?F_1ba3 ?N_1ba3 ?l_1ba3 ?e_1ba3 ?z_1ba3 ?_; (case F_1ba3 => k_asm); (case N_1ba3 => k_asm); (case l_1ba3 => k_mem); (case e_1ba3 => with_reducible assumption); (case z_1ba3 => omega)))
  k_with "WPost" => (dsimp only [WPost])
  trivial
section

local macro_rules | `(tactic| cell_enter) => mw "w3" "g' L' h' tk' cells' FG' F' N' Y' B' X' T' l1" "efgahc"

theorem kwabe : True := by
  k_with "call builtin:len" => (k_here; (with_reducible show wpAny _ _ (call (Value.builtin "len") [Value.ref _]) _ _ _); k_dflt (refine' kd_len ?k1_b0c9 ?k2_b0c9 ?k3_b0c9 ?k4_b0c9 ?_; (case k1_b0c9 => k_asm); (case k2_b0c9 => k_mem); (case k3_b0c9 => with_reducible assumption); (case k4_b0c9 => first | with_reducible exact len63 (by assumption) | omega); k_whole))
  k_with "subscriptTail" => (k_here; (with_reducible show wpAny _ _ (subscriptTail _ _ (Value.ref _) (Value.int _ _)) _ _ _); k_dflt (refine' item_dat ?k1_b351 ?k2_b351 ?k3_b351 ?k4_b351 ?k5_b351 ?k6_b351 ?_ ?k7_b351; (case k1_b351 => k_asm); (case k2_b351 => k_mem); (case k3_b351 => with_reducible assumption); (case k4_b351 => omega); (case k5_b351 => omega); (case k6_b351 => omega); (case k7_b351 => with_unfolding_all rfl); k_whole); intro _ _)
  k_with "eval ListComp" => (k_here; k_dflt (refine LCg.ListComp_U (F₀ := by k_asm) (by with_unfolding_all rfl) (by decide) (by rfl) (by decide) (by rfl) ?_))
  k_with "exec Assign cons ListComp" => (k_here; k_dflt (refine LCg.Assign_ListComp_U (F₀ := by k_asm) (by rfl) (by with_unfolding_all rfl) (by with_unfolding_all rfl) (by decide) (by rfl) (by decide) (by rfl) (by rfl) (by rfl) ?_))
  k_with "CompSrc" => (k_here; k_dflt (refine' LCg.CompSrc.ledger ?hh_afc6 ?F_afc6 ?N_afc6 ?m_afc6 ?z_afc6 ?_; (case hh_afc6 => rfl); (case F_afc6 => k_asm); (case N_afc6 => k_asm); (case m_afc6 => k_mem); (case z_afc6 => (simp only [List.size_toArray, sizeLine]; omega))); intro _)
  trivial
/-- a span moved by a number -/
def shift (bb : Int) (q : Int × Int) : Int × Int := (q.1 + bb, q.2 + bb)
theorem mtran_ok {w : World} {p : Program} {loose : List Str} {mean : ExcName → Option Value} {mg mb : Str → Option Value} {dp un : Nat} {gd : Option (List Code)} {cn : Str} {cs : Scope} {a : Addr} {ccd : Value} {cl : List (Str × Addr)} {outer : List Env} {A₀ : Around} {base h₀ : Heap} {L : Addr} {m : Str → Option Value} {s : Shared} {Q E : Value → Shared → Prop} {news : List (Addr × Obj)} {x dx sp : Addr} {t0 : Tok} {vs : List Value} {k : Nat} {os : List (Option (Int × Int))} {bb : Int} {tk : Tok} {L9 rest : List (Addr × Obj)}
  (B : Below A₀ base outer h₀) (F : Fr h₀ L s.heap m) (X : (Mine.hd.heap_39 w.params).In h₀) (N : News h₀ L s.heap news) (T : Top p loose mean mg mb h₀) (hk : cs.kind = .function) (hnews : news = (dx, spansDict w.params t0 sp) :: rest) (hoff : ∀ q ∈ rest, q.1 ≠ dx)
  (hx : (x, instObj 103 dx) ∈ rest) (hsp : (sp, listOf vs.toArray k) ∈ rest) (D : DatAll L9 vs (os.map enc)) (sub : ∀ p ∈ L9, p ∈ rest) (hl : os.length < 1000)
  (hd : dp + 3 < recursionLimit) (hu : un + 300 < cLine)
  (ret : ∀ (D : Addr) (vs' : List Value) (tl : List (Addr × Obj)) (h' : Heap) (tk' : Nat), Tups tl → DatAll tl vs' ((os.map (Option.map (shift bb))).map enc) → LCg.Off1 D ((dx, spansDict w.params t0 D) :: rest) → Fr h₀ L h' m →
    News h₀ L h' ((D, listOf vs'.toArray vs'.length) :: (dx, spansDict w.params t0 D) :: (tl ++ rest)) → Q .none { s with heap := h', toks := tk' }) :
  wpAny (model PySem.Challenge.pw_ok0042_01 w) (ktrTop dp un gd cn cs L a ccd cl outer) (call (.ref 95) [.ref x, .int bb tk]) Q E s := by
  subst hnews
  have hvl : vs.length < 1000 := by have := D.length; rw [List.length_map] at this; omega
  have hoff1 : OwnOff rest [dx] := fun q hq b hb => by rw [List.mem_singleton.mp hb]; exact hoff q hq
  show Keep PySem.Challenge.rw_ok0042_01 Mine.hd.heap_39 (wpAny _ _ _ _ _ _)
  k_fill
  unfold Keep
  refine wpAny_call ?_
  k_dflt cell_enter
  w_strict k_steps
  refine rest_tl (fun i ys tl => Tups tl ∧ DatAll tl ys (((os.take i).map (Option.map (shift bb))).map enc)) ⟨(fun _ h => nomatch h), .nil⟩ ?_ ?_
  · rintro i ys tl hi ⟨hT, hY⟩ v I oI C oC DD m₂ h tk E' hP hC hx' F' N' off ⟨ne1, ne2, ne3⟩
    obtain ⟨o, ho, hDo⟩ := dat_at_enc D hP
    simp only [List.cons_append] at N'
    rcases datIn_enc hDo with ⟨rfl, rfl⟩ | ⟨a9, b9, t9, u9, ad, n9, rfl, rfl, hm⟩
    · w_strict k_steps
      refine end_tl tl (by k_asm) (by k_asm) (by kqd_sub) off (Or.inr ⟨_, by k_mem, rfl, _, rfl⟩) ⟨hT, ?_⟩
      rw [take_more ho, List.map_append, List.map_append]
      exact hY.append (.cons .none .nil)
    · have hm9 := List.mem_append_left tl (sub _ hm)
      w_strict k_steps
      rename ((_ : Nat) < _ ∧ _) => l9
      rename News _ _ _ ((_, { cls := Value.type "tuple", dict := none, data := Data.seq _ _, slots := _ }) :: _) => N9
      refine end_tl ((_, _) :: tl) (by k_asm) N9 (by kqd_sub) (off3_cons off (by k_ne) (by k_ne) (by k_ne)) (Or.inr ⟨_, by k_mem, rfl, _, rfl⟩) ⟨?_, ?_⟩
      · intro p hp
        rcases List.mem_cons.mp hp with rfl | hp
        · exact ⟨rfl, fun _ e => nomatch e⟩
        · exact hT p hp
      · rw [take_more ho, List.map_append, List.map_append]
        exact (hY.mono fun p hp => List.mem_cons_of_mem _ hp).append (.cons (DatIn.tuple (vs := [_, _]) (.head _) (.cons (.int _ _) (.cons (.int _ _) .nil))) .nil)
  · intro ys tl ⟨hT, hY⟩
    have hsz : vs.toArray.size = os.length := by have := D.length; simpa using this
    rw [hsz, List.take_length] at hY
    unfold LCg.FinE
    intro D1 h1 tk1 F1 N1 o1
    have o2 := off1_mem o1
    simp only [List.cons_append, LCg.Off1] at N1 o1
    have hoff2 : OwnOff (rest ++ tl) [dx] := fun q hq b hb => by
      rw [List.mem_singleton.mp hb]
      rcases List.mem_append.mp hq with hq | hq
      · exact hoff q hq
      · exact tups_off N1 (by kqd_sub) hT (by k_mem) (show Value.type "dict" ≠ Value.type "tuple" by decide) q hq
    have hx2 := List.mem_append_left tl hx
    dsimp only
    w_strict k_steps
    exact ret D1 ys tl _ _ hT hY (off1_of fun q hq => by
      rcases List.mem_cons.mp hq with rfl | hq
      · exact o1.2.1
      · exact o2 q (by simp [hq])) (by k_asm) (cb_drop (by assumption) (by kqd_sub))

theorem mtran_use {w : World} {p : Program} {loose : List Str} {mean : ExcName → Option Value} {mg mb : Str → Option Value} {dp un : Nat} {gd : Option (List Code)} {cn : Str} {cs : Scope} {a : Addr} {ccd : Value} {cl : List (Str × Addr)} {outer : List Env} {A₀ : Around} {base h₀ : Heap} {L : Addr} {m : Str → Option Value} {s : Shared} {Q E : Value → Shared → Prop} {news : List (Addr × Obj)} {x dx sp : Addr} {t0 : Tok} {vs : List Value} {k : Nat} {os : List (Option (Int × Int))} {bb : Int} {tk : Tok} {L9 : List (Addr × Obj)} {G : Addr → List (Addr × Obj)}
  (B : Below A₀ base outer h₀) (F : Fr h₀ L s.heap m) (X : (Mine.hd.heap_39 w.params).In h₀) (N : News h₀ L s.heap news) (T : Top p loose mean mg mb h₀) (hk : cs.kind = .function) (hx : (x, instObj 103 dx) ∈ news) (hsp : (sp, listOf vs.toArray k) ∈ news) (D : DatAll L9 vs (os.map enc)) (sub : ∀ p ∈ L9, p ∈ news) (TL : Tups L9) (hl : os.length < 1000)
  (U : ∀ D, Upd dx (spansDict w.params t0 sp) (spansDict w.params t0 D) news (G D))
  (hd : dp + 3 < recursionLimit) (hu : un + 300 < cLine)
  (ret : ∀ (D : Addr) (vs' : List Value) (tl : List (Addr × Obj)) (h' : Heap) (tk' : Nat), Tups tl → DatAll tl vs' ((os.map (Option.map (shift bb))).map enc) → LCg.Off1 D (G D) → Fr h₀ L h' m →
    News h₀ L h' ((D, listOf vs'.toArray vs'.length) :: (G D ++ tl)) → Q .none { s with heap := h', toks := tk' }) :
  wpAny (model PySem.Challenge.pw_ok0042_01 w) (ktrTop dp un gd cn cs L a ccd cl outer) (call (.ref 95) [.ref x, .int bb tk]) Q E s := by
  have hm0 := (upd_mem (U sp)).1
  refine mtran_ok (rest := news.filter fun q => decide (q.1 ≠ dx)) (news := (dx, spansDict w.params t0 sp) :: news.filter fun q => decide (q.1 ≠ dx)) B F X (upd_news N hm0) T hk rfl (fun q hq => by simpa using (List.mem_filter.mp hq).2) (in_rest N hx hm0 (show Value.ref 103 ≠ Value.type "dict" by decide)) (in_rest N hsp hm0 (show Value.type "list" ≠ Value.type "dict" by decide)) D (fun q hq => in_rest N (sub q hq) hm0 (by rw [(TL q hq).1]; show Value.type "tuple" ≠ Value.type "dict"; decide)) hl hd hu
    (fun D vs' tl h' tk' hT hY o1 F' N' => ret D vs' tl h' tk' hT hY (off1_of fun q hq => ?_) F' (upd_back [(D, listOf vs'.toArray vs'.length)] (U D) N'))
  rcases (upd_mem (U D)).2 q hq with rfl | ⟨h5, h6⟩
  · exact off1_mem o1 _ (.head _)
  · exact off1_mem o1 _ (.tail _ (List.mem_filter.mpr ⟨h5, by simpa using h6⟩))

end
theorem kwabf : True := by
  k_with_none
  k_with "ta" => (try dsimp only)
  k_with "tb" => (try k_sweep)
  k_with "tc" => (try k_fold)
  k_with "w0" => (have hcL9 := cLine_is; (try simp only [units_in1, units_deeper, Around.mark_units, units_caller]); (try dsimp only [ktrTop]); omega)
  k_with "w1" => (k_here; (with_reducible show wpAny _ _ (call (Value.ref 126) _) _ _ _); k_dflt (refine' draw_use ?k1_2753 ?k2_2753 ?k3_2753 ?k4_2753 ?k5_2753 ?kK_2753 ?U_2753 ?hi_2753 ?hl_2753 ?hm_2753 ?hm2_2753 ?hd_2753 ?hu_2753 ?_; (case k1_2753 => k_asm); (case k2_2753 => k_asm); (case k3_2753 => k_asm); (case k4_2753 => k_asm); (case k5_2753 => k_asm); (case kK_2753 => first | exact rfl | assumption); (case U_2753 => (intro _ _; k_upd)); (case hi_2753 => with_reducible assumption); (case hl_2753 => assumption); (case hm_2753 => omega); (case hm2_2753 => omega); (case hd_2753 => ktr_room); (case hu_2753 => ke_room)))
  k_with "w2" => (k_here; (with_reducible show wpAny _ _ (call (Value.ref 114) _) _ _ _); k_dflt (refine' moved_ok ?k1_267c ?k2_267c ?k3_267c ?k4_267c ?k5_267c ?kK_267c ?hm_267c ?hd_267c ?hu_267c ?_; (case k1_267c => k_asm); (case k2_267c => k_asm); (case k3_267c => k_asm); (case k4_267c => k_asm); (case k5_267c => k_asm); (case kK_267c => first | exact rfl | assumption); (case hm_267c => k_mem); (case hd_267c => ktr_room); (case hu_267c => ke_room)))
  k_with "w3" => (refine' code_defC ?k1_73de ?k2_73de ?k3_73de ?k4_73de ?k5_73de ?kA_73de ?kF_73de ?kK_73de ?k6_73de ?k7_73de ?k8_73de ?k9_73de ?kB_73de ?kD_73de ?_ ?c2_73de ?c3_73de ?c4_73de; (case kA_73de => exact rfl); (case kF_73de => exact rfl); (case kK_73de => assumption); (case k1_73de => k_asm); (case k2_73de => k_asm); (case k3_73de => k_asm); (case k4_73de => k_asm); (case k5_73de => k_asm); (case k6_73de => k_is); (case k7_73de => k_is); (case k8_73de => ktr_room); (case k9_73de => exact BindsTo.of_eq rfl); (case kB_73de => exact rfl); (case kD_73de => decide +kernel); (case c2_73de => exact rfl); (case c3_73de => exact rfl); (case c4_73de => exact rfl); k_whole)
  k_with "w4" => (refine' code_def ?k1_91da ?k2_91da ?k3_91da ?k4_91da ?k5_91da ?kA_91da ?kF_91da ?kK_91da ?k6_91da ?k7_91da ?k8_91da ?k9_91da ?kB_91da ?_ ?c2_91da ?c3_91da ?c4_91da ?c5_91da; (case kA_91da => exact rfl); (case kF_91da => exact rfl); (case kK_91da => first | exact rfl | assumption); (case k1_91da => k_asm); (case k2_91da => k_asm); (case k3_91da => k_asm); (case k4_91da => k_asm); (case k5_91da => k_asm); (case k6_91da => k_is); (case k7_91da => k_is); (case k8_91da => ktr_room); (case k9_91da => exact BindsTo.of_eq rfl); (case c5_91da => decide); (case kB_91da => exact locs rfl); (case c2_91da => exact rfl); (case c3_91da => exact rfl); (case c4_91da => exact rfl); k_whole)
  k_with "w5" => (refine' code_defC ?k1_e452 ?k2_e452 ?k3_e452 ?k4_e452 ?k5_e452 ?kA_e452 ?kF_e452 ?kK_e452 ?k6_e452 ?k7_e452 ?k8_e452 ?k9_e452 ?kB_e452 ?kD_e452 ?_ ?c2_e452 ?c3_e452 ?c4_e452; (case kA_e452 => exact rfl); (case kF_e452 => exact rfl); (case kK_e452 => first | exact rfl | assumption); (case k1_e452 => k_asm); (case k2_e452 => k_asm); (case k3_e452 => k_asm); (case k4_e452 => k_asm); (case k5_e452 => k_asm); (case k6_e452 => k_is); (case k7_e452 => k_is); (case k8_e452 => ktr_room); (case k9_e452 => exact BindsTo.of_eq rfl); (case kB_e452 => exact rfl); (case kD_e452 => decide +kernel); (case c2_e452 => exact rfl); (case c3_e452 => exact rfl); (case c4_e452 => exact rfl); k_whole)
  k_with "w6" => (k_here; (with_reducible show wpAny _ _ (subscriptTail _ (PySem.Expr.Slice _ _ none _) (Value.ref _) (Value.ref _)) _ _ _); k_dflt (refine' slice_to ?F_7f9f ?N_7f9f ?l_7f9f ?p_7f9f ?q_7f9f ?e_7f9f ?z_7f9f ?_ ?s_7f9f ?t_7f9f; (case F_7f9f => k_asm); (case N_7f9f => k_asm); (case l_7f9f => k_mem); (case p_7f9f => kmk_part); (case q_7f9f => kmk_part); (case e_7f9f => first | exact pick_upto (by omega) | exact pick_from (by omega) | exact pick_part (by omega) (by omega) | exact pick_less (by omega)); (case s_7f9f => with_unfolding_all rfl); (case t_7f9f => kmk_pure); (case z_7f9f => omega)))
  k_with "w7" => (k_here; (with_reducible show wpAny _ _ (call (Value.type _) [Value.ref _]) _ _ _); k_dflt (first | (refine' copyL ?F_06eb ?N_06eb ?m_06eb ?z_06eb ?_; (case F_06eb => k_asm); (case N_06eb => k_asm); (case m_06eb => k_mem); (case z_06eb => omega)) | (refine' copyT ?F_06eb ?N_06eb ?m_06eb ?_; (case F_06eb => k_asm); (case N_06eb => k_asm); (case m_06eb => k_mem))))
  k_with "w8" => (k_here; (with_reducible show wpAny _ _ (binaryOp _ (Value.ref _) (Value.ref _)) _ _ _); k_dflt (refine' addL ?F_f34b ?N_f34b ?a_f34b ?b_f34b ?z_f34b ?_; (case F_f34b => k_asm); (case N_f34b => k_asm); (case a_f34b => k_mem); (case b_f34b => k_mem); (case z_f34b => first | omega | (simp only [List.length_cons, List.length_nil]; omega))))
  k_with "w9" => (refine neN ?_; (try dsimp only); first | with_reducible assumption | (with_reducible refine Ne.symm ?_; with_reducible assumption) | (with_reducible refine Nat.ne_of_lt ?_; with_reducible assumption) | (with_reducible refine Nat.ne_of_gt ?_; with_reducible assumption))
  k_with "w10" => first | with_reducible assumption | exact in_of_fr (by with_reducible assumption) (by with_reducible assumption)
  k_with "w11" => (k_here; (with_reducible show wpAny _ _ (call (Value.ref 119) _) _ _ _); k_dflt (refine' ldeck_ok ?k1_e407 ?k2_e407 ?k3_e407 ?k4_e407 ?k5_e407 ?kK_e407 ?hl_e407 ?hi_e407 ?hn_e407 ?hd_e407 ?hu_e407 ?_; (case k1_e407 => k_asm); (case k2_e407 => k_asm); (case k3_e407 => k_asm); (case k4_e407 => k_asm); (case k5_e407 => k_asm); (case kK_e407 => first | exact rfl | assumption); (case hl_e407 => assumption); (case hi_e407 => assumption); (case hn_e407 => omega); (case hd_e407 => ktr_room); (case hu_e407 => ke_room)))
  k_with "w12" => (k_here; (with_reducible show wpAny _ _ (call (Value.ref 133) _) _ _ _); k_dflt (refine' lspan_use ?k1_0801 ?k2_0801 ?k3_0801 ?k4_0801 ?k5_0801 ?kK_0801 ?U_0801 ?hi_0801 ?hl_0801 ?h0_0801 ?h1_0801 ?hd_0801 ?hu_0801 ?_; (case k1_0801 => k_asm); (case k2_0801 => k_asm); (case k3_0801 => k_asm); (case k4_0801 => k_asm); (case k5_0801 => k_asm); (case kK_0801 => first | exact rfl | assumption); (case U_0801 => (intro _ _; k_upd)); (case hi_0801 => with_reducible assumption); (case hl_0801 => assumption); (case h0_0801 => omega); (case h1_0801 => first | with_reducible assumption | omega); (case hd_0801 => ktr_room); (case hu_0801 => ke_room)))
  k_with "w13" => (k_here; (with_reducible show wpAny _ _ (call (Value.ref 100) _) _ _ _); k_dflt (refine' mrepl_use ?k1_76bf ?k2_76bf ?k3_76bf ?k4_76bf ?k5_76bf ?kK_76bf ?hx_76bf ?hsp_76bf ?D_76bf ?sub_76bf ?TL_76bf ?hl_76bf ?U_76bf ?hd_76bf ?hu_76bf ?_; (case k1_76bf => k_asm); (case k2_76bf => k_asm); (case k3_76bf => k_asm); (case k4_76bf => k_asm); (case k5_76bf => k_asm); (case kK_76bf => first | exact rfl | assumption); (case hx_76bf => k_mem); (case U_76bf => (intro _; k_upd)); (case hsp_76bf => k_mem); (case D_76bf => with_reducible assumption); (case sub_76bf => kqd_sub); (case TL_76bf => with_reducible assumption); (case hl_76bf => first | with_reducible assumption | omega); (case hd_76bf => ktr_room); (case hu_76bf => ke_room)))
  k_with "w14" => (k_here; (with_reducible show wpAny _ _ (call (Value.ref 83) _) _ _ _); k_dflt (refine' mlist_ok ?k1_935b ?k2_935b ?k3_935b ?k4_935b ?k5_935b ?kK_935b ?hx_935b ?hdx_935b ?hsp_935b ?D_935b ?sub_935b ?hl_935b ?hd_935b ?hu_935b ?_; (case k1_935b => k_asm); (case k2_935b => k_asm); (case k3_935b => k_asm); (case k4_935b => k_asm); (case k5_935b => k_asm); (case kK_935b => first | exact rfl | assumption); (case hx_935b => k_mem); (case hdx_935b => k_mem); (case hsp_935b => k_mem); (case D_935b => with_reducible assumption); (case sub_935b => kqd_sub); (case hl_935b => first | with_reducible assumption | omega); (case hd_935b => ktr_room); (case hu_935b => ke_room)))
  k_with "w15" => (k_here; (with_reducible show wpAny _ _ (call (Value.ref 90) _) _ _ _); k_dflt (refine' mrest_use ?k1_53a1 ?k2_53a1 ?k3_53a1 ?k4_53a1 ?k5_53a1 ?kK_53a1 ?hx_53a1 ?hpl_53a1 ?D_53a1 ?hl_53a1 ?U_53a1 ?hd_53a1 ?hu_53a1 ?_; (case k1_53a1 => k_asm); (case k2_53a1 => k_asm); (case k3_53a1 => k_asm); (case k4_53a1 => k_asm); (case k5_53a1 => k_asm); (case kK_53a1 => first | exact rfl | assumption); (case hx_53a1 => k_mem); (case U_53a1 => (intro _; k_upd)); (case hpl_53a1 => k_mem); (case D_53a1 => first | with_reducible assumption | exact (by with_reducible assumption : ∀ t : Tok, DatAll [] (_ ++ [Value.int 1 t]) _) _); (case hl_53a1 => first | with_reducible assumption | omega); (case hd_53a1 => ktr_room); (case hu_53a1 => ke_room)))
  k_with "w16" => (k_here; (with_reducible show wpAny _ _ (call (Value.ref 95) _) _ _ _); k_dflt (refine' mtran_use ?k1_e468 ?k2_e468 ?k3_e468 ?k4_e468 ?k5_e468 ?kK_e468 ?hx_e468 ?hsp_e468 ?D_e468 ?sub_e468 ?TL_e468 ?hl_e468 ?U_e468 ?hd_e468 ?hu_e468 ?_; (case k1_e468 => k_asm); (case k2_e468 => k_asm); (case k3_e468 => k_asm); (case k4_e468 => k_asm); (case k5_e468 => k_asm); (case kK_e468 => first | exact rfl | assumption); (case hx_e468 => k_mem); (case U_e468 => (intro _; k_upd)); (case hsp_e468 => k_mem); (case D_e468 => with_reducible assumption); (case sub_e468 => kqd_sub); (case TL_e468 => with_reducible assumption); (case hl_e468 => first | with_reducible assumption | omega); (case hd_e468 => ktr_room); (case hu_e468 => ke_room)))
  k_with "w17" => (k_here; (with_reducible show wpAny _ _ (call (Value.ref 157) _) _ _ _); k_dflt (refine' llist_ok ?k1_8c8e ?k2_8c8e ?k3_8c8e ?k4_8c8e ?k5_8c8e ?kK_8c8e ?hsp_8c8e ?D_8c8e ?sub_8c8e ?hl_8c8e ?hd_8c8e ?hu_8c8e ?_; (case k1_8c8e => k_asm); (case k2_8c8e => k_asm); (case k3_8c8e => k_asm); (case k4_8c8e => k_asm); (case k5_8c8e => k_asm); (case kK_8c8e => first | exact rfl | assumption); (case hsp_8c8e => k_mem); (case D_8c8e => with_reducible assumption); (case sub_8c8e => kqd_sub); (case hl_8c8e => first | with_reducible assumption | omega); (case hd_8c8e => ktr_room); (case hu_8c8e => ke_room)))
  k_with "w18" => (k_here; (with_reducible show wpAny _ _ (binaryOp _ (Value.ref _) (Value.ref _)) _ _ _); k_dflt (refine' addL ?F_261b ?N_261b ?a_261b ?b_261b ?z_261b ?_; (case F_261b => k_asm); (case N_261b => k_asm); (case a_261b => k_mem); (case b_261b => k_mem); (case z_261b => first | omega | (simp only [List.length_cons, List.length_nil, List.length_replicate]; omega))))
  k_with "w19" => (k_here; (with_reducible show wpAny _ _ (binaryOp Operator.Mult (Value.ref _) (Value.int _ _)) _ _ _); k_dflt (refine' mulN ?F_1ba3 ?N_1ba3 ?l_1ba3 ?e_1ba3 ?z_1ba3 ?_; (case F_1ba3 => k_asm); (case N_1ba3 => k_asm); (case l_1ba3 => k_mem); (case e_1ba3 => with_reducible assumption); (case z_1ba3 => omega)))
  k_with "WPost" => (dsimp only [WPost])
  trivial
section
section
variable {prog : Program} {w : World} {A : Around} {h₀ : Heap} {L : Addr} {m : Str → Option Value} {env : Env}
/-- a tested comprehension's turns by an invariant -/
theorem restT_ind {ct elt : PySem.Expr} {x : Str} {scope : Scope} {cl : List (Str × Addr)} {s : Shared} {S : List (Addr × Obj) → Prop} {P : Nat → Value → Prop} {Fin : List Value → List (Addr × Obj) → Prop} {n : Nat} {news : List (Addr × Obj)}
    (J : Nat → List Value → List (Addr × Obj) → Prop) (h0 : J 0 [] news)
    (turn : ∀ i ys nw, i < n → J i ys nw → ∀ v I oI C oC D m₂ h tk (E' : Value → Shared → Prop), P i v → LCg.NsObj oC m₂ → m₂ x = some v → Fr h₀ L h m → News h₀ L h ((I, oI) :: (C, oC) :: (D, LCg.lst ys) :: nw) → LCg.Off3 I C D nw → ((@Ne Nat I C) ∧ (@Ne Nat I D) ∧ (@Ne Nat C D)) →
      wpAny (model prog w) A (isTrue ct (compEnvC scope cl C env) (eval ct (compEnvC scope cl C env))) (fun ok s' => if ok = true then
        wpAny (model prog w) A (eval elt (compEnvC scope cl C env)) (LCg.CompEnd h₀ L m { s with heap := h, toks := tk } I oI C oC D (LCg.lst ys) S (fun y nw' => J (i + 1) (ys ++ [y]) nw')) E' s'
        else LCg.CompEnd h₀ L m { s with heap := h, toks := tk } I oI C oC D (LCg.lst ys) S (fun _ nw' => J (i + 1) ys nw') Value.none s') E' { s with heap := h, toks := tk })
    (fin : ∀ ys nw, J n ys nw → Fin ys nw) : LCt.CompRestT prog w A h₀ L m env ct elt x scope cl s S P Fin n 0 [] news := by
  have all : ∀ k i ys nw, i + k = n → J i ys nw → LCt.CompRestT prog w A h₀ L m env ct elt x scope cl s S P Fin k i ys nw := by
    intro k
    induction k with
    | zero => intro i ys nw e hj; exact LCt.CompRestT.zero (fin _ _ (by rw [← e]; exact hj))
    | succ k ih =>
      intro i ys nw e hj
      refine LCt.CompRestT.succ fun v I oI C oC D m₂ h tk E' hP hC hx F N off ne => ?_
      refine wpAny_mono (turn i ys nw (by omega) hj v I oI C oC D m₂ h tk E' hP hC hx F N off ne) (fun ok s₂ q => ?_) fun _ _ x => x
      cases ok with
      | true =>
        simp only [if_true] at q ⊢
        exact wpAny_mono q (fun y s₃ q => compEnd_mono (fun y nw' q => ih (i + 1) _ _ (by omega) q) q) fun _ _ x => x
      | false =>
        simp only [Bool.false_eq_true, if_false] at q ⊢
        exact compEnd_mono (fun y nw' q => ih (i + 1) _ _ (by omega) q) q
  exact all n 0 [] news (by omega) h0
end
theorem len_led {prog : Program} {w : World} {A : Around} {E : Value → Shared → Prop} {s : Shared} {h₀ : Heap} {L l : Addr} {news : List (Addr × Obj)} {us : List Value} {n : Nat} {Q : Value → Shared → Prop} (N : News h₀ L s.heap news) (hm : (l, listOf us.toArray n) ∈ news) (hz : us.length < 100000)
    (h : Q (.int (us.length : Int) (s.toks + 1)) { s with toks := s.toks + 1 + 1 }) : wpAny (model prog w) A (call (.builtin "len") [.ref l]) Q E s := by
  have hl : s.heap.IsList l us.toArray := ⟨_, (N _ hm).1, rfl, n, rfl⟩
  exact len_list hl (by rw [List.size_toArray]; omega) (by rw [List.size_toArray]; exact h)

section
variable {prog : Program} {w : World} {A : Around} {h₀ : Heap} {L : Addr} {m : Str → Option Value} {env : Env}
/-- a comprehension whose turns change one list of the ledger, and make things that stand behind it -/
theorem rest_dk {elt : PySem.Expr} {x : Str} {scope : Scope} {cl : List (Str × Addr)} {s : Shared} {S : List (Addr × Obj) → Prop} {P : Nat → Value → Prop} {Fin : List Value → List (Addr × Obj) → Prop} {n : Nat} {dk : Addr} {vs : List Value} {k : Nat} {rest : List (Addr × Obj)}
    (J : Nat → List Value → List Value → Nat → List (Addr × Obj) → Prop) (h0 : J 0 [] vs k [])
    (turn : ∀ i ys vs' k' tl, i < n → OwnOff tl (dk :: rest.map (·.1)) → J i ys vs' k' tl → ∀ v I oI C oC D m₂ h tk (E' : Value → Shared → Prop), P i v → LCg.NsObj oC m₂ → m₂ x = some v → Fr h₀ L h m → News h₀ L h ((I, oI) :: (C, oC) :: (D, LCg.lst ys) :: (dk, listOf vs'.toArray k') :: (rest ++ tl)) → LCg.Off3 I C D ((dk, listOf vs'.toArray k') :: (rest ++ tl)) → ((@Ne Nat I C) ∧ (@Ne Nat I D) ∧ (@Ne Nat C D)) →
      wpAny (model prog w) A (eval elt (compEnvC scope cl C env)) (LCg.CompEnd h₀ L m { s with heap := h, toks := tk } I oI C oC D (LCg.lst ys) S (fun y nw' => ∃ vs' k' tl', nw' = (dk, listOf vs'.toArray k') :: (rest ++ tl') ∧ OwnOff tl' (dk :: rest.map (·.1)) ∧ J (i + 1) (ys ++ [y]) vs' k' tl')) E' { s with heap := h, toks := tk })
    (fin : ∀ ys vs' k' tl, OwnOff tl (dk :: rest.map (·.1)) → J n ys vs' k' tl → Fin ys ((dk, listOf vs'.toArray k') :: (rest ++ tl))) : LCg.CompRest prog w A h₀ L m env elt x scope cl s S P Fin n 0 [] ((dk, listOf vs.toArray k) :: rest) :=
  rest_ind (fun i ys nw => ∃ vs' k' tl, nw = (dk, listOf vs'.toArray k') :: (rest ++ tl) ∧ OwnOff tl (dk :: rest.map (·.1)) ∧ J i ys vs' k' tl) ⟨vs, k, [], by rw [List.append_nil], (fun _ h => nomatch h), h0⟩
    (fun i ys nw hi hj v I oI C oC D m₂ h tk E' hP hC hx F N off ne => by obtain ⟨vs', k', tl, rfl, ho, hj⟩ := hj; exact turn i ys vs' k' tl hi ho hj v I oI C oC D m₂ h tk E' hP hC hx F N off ne)
    (fun ys nw hj => by obtain ⟨vs', k', tl, rfl, ho, hj⟩ := hj; exact fin ys vs' k' tl ho hj)
theorem end_dk {s₁ : Shared} {I C D dk : Addr} {oI oC oD x9 : Obj} {S : List (Addr × Obj) → Prop} {J : Value → List Value → Nat → List (Addr × Obj) → Prop} {y : Value} {h' : Heap} {tk : Nat} {all rest tl : List (Addr × Obj)} (vs' : List Value) (k' : Nat) (tl' : List (Addr × Obj))
    (F : Fr h₀ L h' m) (N : News h₀ L h' all) (sub : ∀ p ∈ (I, oI) :: (C, oC) :: (D, oD) :: (dk, listOf vs'.toArray k') :: (rest ++ tl'), p ∈ all) (off : LCg.Off3 I C D ((dk, x9) :: (rest ++ tl))) (off' : LCg.Off3 I C D tl') (hS : S ((dk, listOf vs'.toArray k') :: (rest ++ tl'))) (ow : OwnOff tl' (dk :: rest.map (·.1))) (r : J y vs' k' tl') :
    LCg.CompEnd h₀ L m s₁ I oI C oC D oD S (fun y nw' => ∃ vs' k' tl', nw' = (dk, listOf vs'.toArray k') :: (rest ++ tl') ∧ OwnOff tl' (dk :: rest.map (·.1)) ∧ J y vs' k' tl') y { s₁ with heap := h', toks := tk } :=
  LCg.CompEnd.intro F N ((dk, listOf vs'.toArray k') :: (rest ++ tl')) sub ⟨off.1, off3_app.mpr ⟨(off3_app.mp off.2).1, off'⟩⟩ hS ⟨vs', k', tl', rfl, ow, r⟩
theorem off3_new {I C D : Addr} {oI oC oD : Obj} {l r : List (Addr × Obj)} (h : ∀ q ∈ l, ∀ p ∈ (I, oI) :: (C, oC) :: (D, oD) :: r, q.1 ≠ p.1) : LCg.Off3 I C D l :=
  LCg.Off3.of fun q hq => ⟨h q hq _ (.head _), h q hq _ (.tail _ (.head _)), h q hq _ (.tail _ (.tail _ (.head _)))⟩
end
theorem tups_app {a b : List (Addr × Obj)} (h1 : Tups a) (h2 : Tups b) : Tups (a ++ b) := fun p hp => by
  rcases List.mem_append.mp hp with hp | hp
  · exact h1 p hp
  · exact h2 p hp
theorem own_two {a b : List (Addr × Obj)} {adr : List Addr} (h1 : OwnOff a adr) (h2 : OwnOff b adr) : OwnOff (a ++ b) adr := fun p hp => by
  rcases List.mem_append.mp hp with hp | hp
  · exact h1 p hp
  · exact h2 p hp
theorem own_new {l news : List (Addr × Obj)} {adr : List Addr} (h : ∀ q ∈ l, ∀ p ∈ news, q.1 ≠ p.1) (s : ∀ b ∈ adr, ∃ o, (b, o) ∈ news) : OwnOff l adr := fun q hq b hb => by
  obtain ⟨o, ho⟩ := s b hb
  exact h q hq _ ho
theorem allLt_off {D : Addr} {l tl : List (Addr × Obj)} (h : AllLt D l) (s : ∀ p ∈ tl, p ∈ l) : ∀ p ∈ tl, p.1 ≠ D := fun p hp => Nat.ne_of_lt (allLt_all h p (s p hp))
theorem off1_off {D : Addr} {l tl : List (Addr × Obj)} (h : LCg.Off1 D l) (s : ∀ p ∈ tl, p ∈ l) : ∀ p ∈ tl, p.1 ≠ D := fun p hp => off1_mem h p (s p hp)
theorem lt_copy {D : Addr} {l : List (Addr × Obj)} (h : ∀ p ∈ l, p.1 < D) : AllLt D l ∧ AllLt D l := ⟨allLt_of h, allLt_of h⟩
theorem in_of_fr {h₀ h : Heap} {L : Addr} {m : Str → Option Value} {K : Frag} (F : Fr h₀ L h m) (X : K.In h₀) : K.In h := Frag.In.keeps X (Fr.keep F)
theorem sub_trans {A B C : List (Addr × Obj)} (h1 : ∀ p ∈ A, p ∈ B) (h2 : ∀ p ∈ B, p ∈ C) : ∀ p ∈ A, p ∈ C := fun p hp => h2 p (h1 p hp)

end
section
theorem kwabg : True := by
  k_with "call ref" => (k_here; (with_reducible show wpAny _ _ (call (Value.ref 62) _) _ _ _); k_dflt (refine' mspan_raise ?k1_7583 ?k2_7583 ?k3_7583 ?k4_7583 ?k5_7583 ?kK_7583 ?hx_7583 ?h0_7583 ?hd_7583 ?hu_7583 ?_; (case k1_7583 => k_asm); (case k2_7583 => k_asm); (case k3_7583 => k_asm); (case k4_7583 => k_asm); (case k5_7583 => k_asm); (case kK_7583 => first | exact rfl | assumption); (case hx_7583 => k_mem); (case h0_7583 => assumption); (case hd_7583 => ktr_room); (case hu_7583 => ke_room)); intro _ _ _ _ _ _ _ _ _ _ _; (try dsimp only))
  trivial
theorem lref_ok {w : World} {p : Program} {loose : List Str} {mean : ExcName → Option Value} {mg mb : Str → Option Value} {dp un : Nat} {gd : Option (List Code)} {cn : Str} {cs : Scope} {a : Addr} {ccd : Value} {cl : List (Str × Addr)} {A₀ : Around} {h₀ : Heap} {L : Addr} {m : Str → Option Value} {s : Shared} {Q E : Value → Shared → Prop} {news : List (Addr × Obj)} {x dx sp : Addr} {t0 : Tok} {i : Int} {tk : Tok}
  (B : Below A₀ h₀ [] h₀) (F : Fr h₀ L s.heap m) (X : (Mine.hd.heap_39 w.params).In h₀) (N : News h₀ L s.heap news) (T : Top p loose mean mg mb h₀) (hk : cs.kind = .function) (hx : (x, instObj 103 dx) ∈ news) (hdx : (dx, spansDict w.params t0 sp) ∈ news) (h0 : i < 0)
  (hd : dp + 6 < recursionLimit) (hu : un + 600 < cLine)
  (ret : ∀ (h' : Heap) (tk' : Nat), Fr h₀ L h' m → News h₀ L h' news → Q (.bool true) { s with heap := h', toks := tk' }) :
  wpAny (model PySem.Challenge.pw_ok0042_01 w) (ktrTop dp un gd cn cs L a ccd cl []) (call (.ref 150) [.ref x, .int i tk]) Q E s := by
  show Keep PySem.Challenge.rw_ok0042_01 Mine.hd.heap_39 (wpAny _ _ _ _ _ _)
  k_fill
  unfold Keep
  refine wpAny_call ?_
  k_dflt (refine' code_defX ?k1 ?k2 ?k3 ?k4 ?k5 ?kA ?kF ?kK ?k6 ?k7 ?k8 ?k9 ?kB ?_ ?c2 ?c3 ?c4 ?c5; (case kA => exact rfl); (case kF => exact rfl); (case kK => assumption); (case k1 => k_asm); (case k2 => k_asm); (case k3 => k_asm); (case k4 => k_asm); (case k5 => k_asm); (case k6 => k_is); (case k7 => k_is); (case k8 => ktr_room); (case k9 => exact BindsTo.of_eq rfl); (case kB => exact locs rfl); (case c2 => exact rfl); (case c3 => exact rfl); (case c4 => exact rfl); (case c5 => decide); k_whole; intro g' L' h' FG' F' N' B' X' T'; (try dsimp only); (try k_lift B'); (try k_fold))
  w_strict k_steps
  rename_i g2 e D t1 oD h2 tk2 FG2 R2 U2 S2
  refine caughtD R2 FG2 B' U2 X T (by k_is) (by kts_isx) (fun h5 g5 tk5 oe T5 F5 N5 c5 d5 nc5 B5 X5 TT5 => ?_)
  clear F' N' R2 FG2 U2 X' T'
  w_strict k_steps
  refine get_sym ((excC_of X5).keeps F5.keep) (N5 _ (.head _)).1 c5 nc5 d5 (N5 _ (.tail _ (.head _))).1 S2 (fun tk6 tk7 => ?_)
  dsimp only
  w_strict k_steps
  refine wpAny_nameGoes (by rfl) F5.ns (by rfl) (fun h6 m6 n6 s6 => ?_)
  have F6 := F5.set n6 s6
  have N6 : News _ _ h6 _ := N5.set s6
  refine leaveS0_ F6 N6 T5 (fun kF kN => ?_)
  have e1 : (Str.ofString "args-out-of-range" == Str.ofString "args-out-of-range") = true := by decide
  show Q (Value.bool (Str.ofString "args-out-of-range" == Str.ofString "args-out-of-range")) _
  rw [e1]
  exact ret _ _ kF (fun q hq => kN q (.tail _ (.tail _ hq)))

end
theorem kwabh : True := by
  k_with_none
  k_with "ta" => (try dsimp only)
  k_with "tb" => (try k_sweep)
  k_with "tc" => (try k_fold)
  k_with "w0" => (have hcL9 := cLine_is; (try simp only [units_in1, units_deeper, Around.mark_units, units_caller]); (try dsimp only [ktrTop]); omega)
  k_with "w1" => (k_here; (with_reducible show wpAny _ _ (call (Value.ref 126) _) _ _ _); k_dflt (refine' draw_use ?k1_2753 ?k2_2753 ?k3_2753 ?k4_2753 ?k5_2753 ?kK_2753 ?U_2753 ?hi_2753 ?hl_2753 ?hm_2753 ?hm2_2753 ?hd_2753 ?hu_2753 ?_; (case k1_2753 => k_asm); (case k2_2753 => k_asm); (case k3_2753 => k_asm); (case k4_2753 => k_asm); (case k5_2753 => k_asm); (case kK_2753 => first | exact rfl | assumption); (case U_2753 => (intro _ _; k_upd)); (case hi_2753 => with_reducible assumption); (case hl_2753 => assumption); (case hm_2753 => omega); (case hm2_2753 => omega); (case hd_2753 => ktr_room); (case hu_2753 => ke_room)))
  k_with "w2" => (k_here; (with_reducible show wpAny _ _ (call (Value.ref 114) _) _ _ _); k_dflt (refine' moved_ok ?k1_267c ?k2_267c ?k3_267c ?k4_267c ?k5_267c ?kK_267c ?hm_267c ?hd_267c ?hu_267c ?_; (case k1_267c => k_asm); (case k2_267c => k_asm); (case k3_267c => k_asm); (case k4_267c => k_asm); (case k5_267c => k_asm); (case kK_267c => first | exact rfl | assumption); (case hm_267c => k_mem); (case hd_267c => ktr_room); (case hu_267c => ke_room)))
  k_with "w3" => (refine' code_defC ?k1_73de ?k2_73de ?k3_73de ?k4_73de ?k5_73de ?kA_73de ?kF_73de ?kK_73de ?k6_73de ?k7_73de ?k8_73de ?k9_73de ?kB_73de ?kD_73de ?_ ?c2_73de ?c3_73de ?c4_73de; (case kA_73de => exact rfl); (case kF_73de => exact rfl); (case kK_73de => assumption); (case k1_73de => k_asm); (case k2_73de => k_asm); (case k3_73de => k_asm); (case k4_73de => k_asm); (case k5_73de => k_asm); (case k6_73de => k_is); (case k7_73de => k_is); (case k8_73de => ktr_room); (case k9_73de => exact BindsTo.of_eq rfl); (case kB_73de => exact rfl); (case kD_73de => decide +kernel); (case c2_73de => exact rfl); (case c3_73de => exact rfl); (case c4_73de => exact rfl); k_whole)
  k_with "w4" => (refine' code_def ?k1_91da ?k2_91da ?k3_91da ?k4_91da ?k5_91da ?kA_91da ?kF_91da ?kK_91da ?k6_91da ?k7_91da ?k8_91da ?k9_91da ?kB_91da ?_ ?c2_91da ?c3_91da ?c4_91da ?c5_91da; (case kA_91da => exact rfl); (case kF_91da => exact rfl); (case kK_91da => first | exact rfl | assumption); (case k1_91da => k_asm); (case k2_91da => k_asm); (case k3_91da => k_asm); (case k4_91da => k_asm); (case k5_91da => k_asm); (case k6_91da => k_is); (case k7_91da => k_is); (case k8_91da => ktr_room); (case k9_91da => exact BindsTo.of_eq rfl); (case c5_91da => decide); (case kB_91da => exact locs rfl); (case c2_91da => exact rfl); (case c3_91da => exact rfl); (case c4_91da => exact rfl); k_whole)
  k_with "w5" => (refine' code_defC ?k1_e452 ?k2_e452 ?k3_e452 ?k4_e452 ?k5_e452 ?kA_e452 ?kF_e452 ?kK_e452 ?k6_e452 ?k7_e452 ?k8_e452 ?k9_e452 ?kB_e452 ?kD_e452 ?_ ?c2_e452 ?c3_e452 ?c4_e452; (case kA_e452 => exact rfl); (case kF_e452 => exact rfl); (case kK_e452 => first | exact rfl | assumption); (case k1_e452 => k_asm); (case k2_e452 => k_asm); (case k3_e452 => k_asm); (case k4_e452 => k_asm); (case k5_e452 => k_asm); (case k6_e452 => k_is); (case k7_e452 => k_is); (case k8_e452 => ktr_room); (case k9_e452 => exact BindsTo.of_eq rfl); (case kB_e452 => exact rfl); (case kD_e452 => decide +kernel); (case c2_e452 => exact rfl); (case c3_e452 => exact rfl); (case c4_e452 => exact rfl); k_whole)
  k_with "w6" => (k_here; (with_reducible show wpAny _ _ (subscriptTail _ (PySem.Expr.Slice _ _ none _) (Value.ref _) (Value.ref _)) _ _ _); k_dflt (refine' slice_to ?F_7f9f ?N_7f9f ?l_7f9f ?p_7f9f ?q_7f9f ?e_7f9f ?z_7f9f ?_ ?s_7f9f ?t_7f9f; (case F_7f9f => k_asm); (case N_7f9f => k_asm); (case l_7f9f => k_mem); (case p_7f9f => kmk_part); (case q_7f9f => kmk_part); (case e_7f9f => first | exact pick_upto (by omega) | exact pick_from (by omega) | exact pick_part (by omega) (by omega) | exact pick_less (by omega)); (case s_7f9f => with_unfolding_all rfl); (case t_7f9f => kmk_pure); (case z_7f9f => omega)))
  k_with "w7" => (k_here; (with_reducible show wpAny _ _ (call (Value.type _) [Value.ref _]) _ _ _); k_dflt (first | (refine' copyL ?F_06eb ?N_06eb ?m_06eb ?z_06eb ?_; (case F_06eb => k_asm); (case N_06eb => k_asm); (case m_06eb => k_mem); (case z_06eb => omega)) | (refine' copyT ?F_06eb ?N_06eb ?m_06eb ?_; (case F_06eb => k_asm); (case N_06eb => k_asm); (case m_06eb => k_mem))))
  k_with "w8" => (k_here; (with_reducible show wpAny _ _ (binaryOp _ (Value.ref _) (Value.ref _)) _ _ _); k_dflt (refine' addL ?F_f34b ?N_f34b ?a_f34b ?b_f34b ?z_f34b ?_; (case F_f34b => k_asm); (case N_f34b => k_asm); (case a_f34b => k_mem); (case b_f34b => k_mem); (case z_f34b => first | omega | (simp only [List.length_cons, List.length_nil]; omega))))
  k_with "w9" => (refine neN ?_; (try dsimp only); first | with_reducible assumption | (with_reducible refine Ne.symm ?_; with_reducible assumption) | (with_reducible refine Nat.ne_of_lt ?_; with_reducible assumption) | (with_reducible refine Nat.ne_of_gt ?_; with_reducible assumption))
  k_with "w10" => first | with_reducible assumption | exact in_of_fr (by with_reducible assumption) (by with_reducible assumption)
  k_with "w11" => (k_here; (with_reducible show wpAny _ _ (call (Value.ref 119) _) _ _ _); k_dflt (refine' ldeck_ok ?k1_e407 ?k2_e407 ?k3_e407 ?k4_e407 ?k5_e407 ?kK_e407 ?hl_e407 ?hi_e407 ?hn_e407 ?hd_e407 ?hu_e407 ?_; (case k1_e407 => k_asm); (case k2_e407 => k_asm); (case k3_e407 => k_asm); (case k4_e407 => k_asm); (case k5_e407 => k_asm); (case kK_e407 => first | exact rfl | assumption); (case hl_e407 => assumption); (case hi_e407 => assumption); (case hn_e407 => omega); (case hd_e407 => ktr_room); (case hu_e407 => ke_room)))
  k_with "w12" => (k_here; (with_reducible show wpAny _ _ (call (Value.ref 133) _) _ _ _); k_dflt (refine' lspan_use ?k1_0801 ?k2_0801 ?k3_0801 ?k4_0801 ?k5_0801 ?kK_0801 ?U_0801 ?hi_0801 ?hl_0801 ?h0_0801 ?h1_0801 ?hd_0801 ?hu_0801 ?_; (case k1_0801 => k_asm); (case k2_0801 => k_asm); (case k3_0801 => k_asm); (case k4_0801 => k_asm); (case k5_0801 => k_asm); (case kK_0801 => first | exact rfl | assumption); (case U_0801 => (intro _ _; k_upd)); (case hi_0801 => with_reducible assumption); (case hl_0801 => assumption); (case h0_0801 => omega); (case h1_0801 => first | with_reducible assumption | omega); (case hd_0801 => ktr_room); (case hu_0801 => ke_room)))
  k_with "w13" => (k_here; (with_reducible show wpAny _ _ (call (Value.ref 100) _) _ _ _); k_dflt (refine' mrepl_use ?k1_76bf ?k2_76bf ?k3_76bf ?k4_76bf ?k5_76bf ?kK_76bf ?hx_76bf ?hsp_76bf ?D_76bf ?sub_76bf ?TL_76bf ?hl_76bf ?U_76bf ?hd_76bf ?hu_76bf ?_; (case k1_76bf => k_asm); (case k2_76bf => k_asm); (case k3_76bf => k_asm); (case k4_76bf => k_asm); (case k5_76bf => k_asm); (case kK_76bf => first | exact rfl | assumption); (case hx_76bf => k_mem); (case U_76bf => (intro _; k_upd)); (case hsp_76bf => k_mem); (case D_76bf => with_reducible assumption); (case sub_76bf => kqd_sub); (case TL_76bf => with_reducible assumption); (case hl_76bf => first | with_reducible assumption | omega); (case hd_76bf => ktr_room); (case hu_76bf => ke_room)))
  k_with "w14" => (k_here; (with_reducible show wpAny _ _ (call (Value.ref 83) _) _ _ _); k_dflt (refine' mlist_ok ?k1_935b ?k2_935b ?k3_935b ?k4_935b ?k5_935b ?kK_935b ?hx_935b ?hdx_935b ?hsp_935b ?D_935b ?sub_935b ?hl_935b ?hd_935b ?hu_935b ?_; (case k1_935b => k_asm); (case k2_935b => k_asm); (case k3_935b => k_asm); (case k4_935b => k_asm); (case k5_935b => k_asm); (case kK_935b => first | exact rfl | assumption); (case hx_935b => k_mem); (case hdx_935b => k_mem); (case hsp_935b => k_mem); (case D_935b => with_reducible assumption); (case sub_935b => kqd_sub); (case hl_935b => first | with_reducible assumption | omega); (case hd_935b => ktr_room); (case hu_935b => ke_room)))
  k_with "w15" => (k_here; (with_reducible show wpAny _ _ (call (Value.ref 90) _) _ _ _); k_dflt (refine' mrest_use ?k1_53a1 ?k2_53a1 ?k3_53a1 ?k4_53a1 ?k5_53a1 ?kK_53a1 ?hx_53a1 ?hpl_53a1 ?D_53a1 ?hl_53a1 ?U_53a1 ?hd_53a1 ?hu_53a1 ?_; (case k1_53a1 => k_asm); (case k2_53a1 => k_asm); (case k3_53a1 => k_asm); (case k4_53a1 => k_asm); (case k5_53a1 => k_asm); (case kK_53a1 => first | exact rfl | assumption); (case hx_53a1 => k_mem); (case U_53a1 => (intro _; k_upd)); (case hpl_53a1 => k_mem); (case D_53a1 => first | with_reducible assumption | exact (by with_reducible assumption : ∀ t : Tok, DatAll [] (_ ++ [Value.int 1 t]) _) _); (case hl_53a1 => first | with_reducible assumption | omega); (case hd_53a1 => ktr_room); (case hu_53a1 => ke_room)))
  k_with "w16" => (k_here; (with_reducible show wpAny _ _ (call (Value.ref 95) _) _ _ _); k_dflt (refine' mtran_use ?k1_e468 ?k2_e468 ?k3_e468 ?k4_e468 ?k5_e468 ?kK_e468 ?hx_e468 ?hsp_e468 ?D_e468 ?sub_e468 ?TL_e468 ?hl_e468 ?U_e468 ?hd_e468 ?hu_e468 ?_; (case k1_e468 => k_asm); (case k2_e468 => k_asm); (case k3_e468 => k_asm); (case k4_e468 => k_asm); (case k5_e468 => k_asm); (case kK_e468 => first | exact rfl | assumption); (case hx_e468 => k_mem); (case U_e468 => (intro _; k_upd)); (case hsp_e468 => k_mem); (case D_e468 => with_reducible assumption); (case sub_e468 => kqd_sub); (case TL_e468 => with_reducible assumption); (case hl_e468 => first | with_reducible assumption | omega); (case hd_e468 => ktr_room); (case hu_e468 => ke_room)))
  k_with "w17" => (k_here; (with_reducible show wpAny _ _ (call (Value.ref 157) _) _ _ _); k_dflt (refine' llist_ok ?k1_8c8e ?k2_8c8e ?k3_8c8e ?k4_8c8e ?k5_8c8e ?kK_8c8e ?hsp_8c8e ?D_8c8e ?sub_8c8e ?hl_8c8e ?hd_8c8e ?hu_8c8e ?_; (case k1_8c8e => k_asm); (case k2_8c8e => k_asm); (case k3_8c8e => k_asm); (case k4_8c8e => k_asm); (case k5_8c8e => k_asm); (case kK_8c8e => first | exact rfl | assumption); (case hsp_8c8e => k_mem); (case D_8c8e => with_reducible assumption); (case sub_8c8e => kqd_sub); (case hl_8c8e => first | with_reducible assumption | omega); (case hd_8c8e => ktr_room); (case hu_8c8e => ke_room)))
  k_with "w18" => (k_here; (with_reducible show wpAny _ _ (binaryOp _ (Value.ref _) (Value.ref _)) _ _ _); k_dflt (refine' addL ?F_261b ?N_261b ?a_261b ?b_261b ?z_261b ?_; (case F_261b => k_asm); (case N_261b => k_asm); (case a_261b => k_mem); (case b_261b => k_mem); (case z_261b => first | omega | (simp only [List.length_cons, List.length_nil, List.length_replicate]; omega))))
  k_with "w19" => (k_here; (with_reducible show wpAny _ _ (binaryOp Operator.Mult (Value.ref _) (Value.int _ _)) _ _ _); k_dflt (refine' mulN ?F_1ba3 ?N_1ba3 ?l_1ba3 ?e_1ba3 ?z_1ba3 ?_; (case F_1ba3 => k_asm); (case N_1ba3 => k_asm); (case l_1ba3 => k_mem); (case e_1ba3 => with_reducible assumption); (case z_1ba3 => omega)))
  k_with "WPost" => (dsimp only [WPost])
  trivial
section
local macro_rules | `(tactic| cell_enter) => cea

theorem kwabi : True := by
  k_with "eval ListComp" => (k_here; lct_look; k_dflt (refine LCt.ListComp_T (F₀ := by k_asm) (by with_unfolding_all rfl) (by decide) (by rfl) (by decide) (by rfl) ?_))
  k_with "eval ListComp" => (k_here; (fail_if_success lct_look); k_dflt (refine LCg.ListComp_U (F₀ := by k_asm) (by with_unfolding_all rfl) (by decide) (by rfl) (by decide) (by rfl) ?_))
  k_with "exec Assign cons ListComp" => (k_here; lct_look; k_dflt (refine LCt.Assign_ListComp_T (F₀ := by k_asm) (by rfl) (by with_unfolding_all rfl) (by with_unfolding_all rfl) (by decide) (by rfl) (by decide) (by rfl) (by rfl) (by rfl) ?_))
  k_with "exec Assign cons ListComp" => (k_here; (fail_if_success lct_look); k_dflt (refine LCg.Assign_ListComp_U (F₀ := by k_asm) (by rfl) (by with_unfolding_all rfl) (by with_unfolding_all rfl) (by decide) (by rfl) (by decide) (by rfl) (by rfl) (by rfl) ?_))
  k_with "CompSrc" => (k_here; k_dflt (first | (refine' LCg.CompSrc.ledger ?hh_1a6a ?F_1a6a ?N_1a6a ?m_1a6a ?z_1a6a ?_; (case hh_1a6a => rfl); (case F_1a6a => k_asm); (case N_1a6a => k_asm); (case m_1a6a => k_mem); (case z_1a6a => first | with_reducible exact size_ys (by assumption) | (simp only [List.size_toArray, sizeLine]; omega) | ((have hz9 := IntsAre.length (by with_reducible assumption)); simp only [List.size_toArray, sizeLine]; omega))) | (refine' LCg.CompSrc.range ?hh_1a6a ?F_1a6a ?N_1a6a ?r_1a6a ?s_1a6a ?n_1a6a ?z_1a6a ?_; (case hh_1a6a => rfl); (case F_1a6a => k_asm); (case N_1a6a => k_asm); (case r_1a6a => with_reducible assumption); (case s_1a6a => first | with_reducible exact small_len (by assumption) | with_reducible exact small_len2 (by assumption) | exact small_one (by omega) (by omega) (by omega) (by omega)); (case n_1a6a => exact rangeSize_nat _ _); (case z_1a6a => first | with_reducible exact size_len (by assumption) | with_reducible exact size_len2 (by assumption) | (simp only [sizeLine]; omega)))); intro _)
  k_with "CompSrcT" => (k_here; k_dflt (first | (refine' LCt.CompSrcT.ledger ?hh_4c92 ?F_4c92 ?N_4c92 ?m_4c92 ?z_4c92 ?_; (case hh_4c92 => rfl); (case F_4c92 => k_asm); (case N_4c92 => k_asm); (case m_4c92 => k_mem); (case z_4c92 => first | with_reducible exact size_ys (by assumption) | (simp only [List.size_toArray, sizeLine]; omega))) | (refine' LCt.CompSrcT.range ?hh_4c92 ?F_4c92 ?N_4c92 ?r_4c92 ?s_4c92 ?n_4c92 ?z_4c92 ?_; (case hh_4c92 => rfl); (case F_4c92 => k_asm); (case N_4c92 => k_asm); (case r_4c92 => with_reducible assumption); (case s_4c92 => first | with_reducible exact small_len (by assumption) | with_reducible exact small_len2 (by assumption) | exact small_one (by omega) (by omega) (by omega) (by omega)); (case n_4c92 => exact rangeSize_nat _ _); (case z_4c92 => first | with_reducible exact size_len (by assumption) | with_reducible exact size_len2 (by assumption) | (simp only [sizeLine]; omega)))); intro _)
  trivial
theorem intsAre_at {vs : List Value} {ns : List Int} (h : IntsAre vs ns) {i : Nat} {v : Value} (e : vs[i]? = some v) : ∃ n t, v = .int n t := by
  induction h generalizing i with
  | nil => simp at e
  | cons n t r ih =>
    cases i with
    | zero => simp at e; exact ⟨_, _, e.symm⟩
    | succ i => exact ih (by simpa using e)
theorem intsAre_add {vs : List Value} {ns : List Int} (h : IntsAre vs ns) (n : Int) (t : Tok) : IntsAre (vs ++ [.int n t]) (ns ++ [n]) := by
  induction h with
  | nil => exact .cons _ _ .nil
  | cons n t r ih => exact .cons _ _ ih
theorem ldeck_ok {w : World} {p : Program} {loose : List Str} {mean : ExcName → Option Value} {mg mb : Str → Option Value} {dp un : Nat} {gd : Option (List Code)} {cn : Str} {cs : Scope} {a : Addr} {ccd : Value} {cl : List (Str × Addr)} {outer : List Env} {A₀ : Around} {base h₀ : Heap} {L : Addr} {m : Str → Option Value} {s : Shared} {Q E : Value → Shared → Prop} {news : List (Addr × Obj)} {l : Addr} {vs : List Value} {ns : List Int}
  (B : Below A₀ base outer h₀) (F : Fr h₀ L s.heap m) (X : (Mine.hd.heap_39 w.params).In h₀) (N : News h₀ L s.heap news) (T : Top p loose mean mg mb h₀) (hk : cs.kind = .function) (hl : base.IsList l vs.toArray) (hi : IntsAre vs ns) (hn : ns.length < 1000)
  (hd : dp + 4 < recursionLimit) (hu : un + 400 < cLine)
  (ret : ∀ (D : Addr) (vs' : List Value) (ds : List Int) (n' : Nat) (h' : Heap) (tk' : Nat), IntsAre vs' ds → ds.length < 1000 → LCg.Off1 D news → Fr h₀ L h' m → News h₀ L h' ((D, listOf vs'.toArray n') :: news) → Q (.ref D) { s with heap := h', toks := tk' }) :
  wpAny (model PySem.Challenge.pw_ok0042_01 w) (ktrTop dp un gd cn cs L a ccd cl outer) (call (.ref 119) [.ref l]) Q E s := by
  show Keep PySem.Challenge.rw_ok0042_01 Mine.hd.heap_39 (wpAny _ _ _ _ _ _)
  k_fill
  unfold Keep
  refine wpAny_call ?_
  k_dflt cell_enter
  w_strict k_steps
  rename_i g LL h1' FG B1 X1 T1 DW ws h2' F2 N2 l1 hI hC hL g2
  have hwl := hI.length
  refine rest_ind (fun i ys nw => nw = (DW, listOf ws.toArray 0) :: news ∧ ∃ ds, IntsAre ys ds ∧ ds.length = i) ⟨rfl, [], .nil, rfl⟩ ?_ ?_
  · rintro i ys nw hi' ⟨rfl, ds, hY, hdl⟩ v I oI C oC DD m₂ h tk E' hP hC hx F' N' off ⟨ne1, ne2, ne3⟩
    have hP2 : ws[i]? = some v := by simpa using hP
    obtain ⟨n9, t9, rfl⟩ := intsAre_at hI hP2
    clear F2 N2
    w_strict k_steps
    refine LCg.CompEnd.intro (by k_asm) (by k_asm) ((DW, listOf ws.toArray 0) :: news) (by kqd_sub) off (Or.inr ⟨_, by k_mem, rfl, _, rfl⟩) ⟨rfl, ds ++ [_], intsAre_add hY _ _, by rw [List.length_append, List.length_singleton, hdl]⟩
  · rintro ys nw ⟨rfl, ds, hY, hdl⟩
    unfold LCg.FinE
    intro D1 h3' tk3' F3 N3 o3
    have o4 := off1_mem o3
    dsimp only
    w_strict k_steps
    exact ret D1 ys ds _ _ _ hY (by rw [hdl, List.size_toArray]; omega) (off1_of fun q hq => o4 q (.tail _ hq)) (by k_asm) (cb_drop (by assumption) (by kqd_sub))

end
theorem kwabj : True := by
  k_with_none
  k_with "ta" => (try dsimp only)
  k_with "tb" => (try k_sweep)
  k_with "tc" => (try k_fold)
  k_with "w0" => (have hcL9 := cLine_is; (try simp only [units_in1, units_deeper, Around.mark_units, units_caller]); (try dsimp only [ktrTop]); omega)
  k_with "w1" => (k_here; (with_reducible show wpAny _ _ (call (Value.ref 126) _) _ _ _); k_dflt (refine' draw_use ?k1_2753 ?k2_2753 ?k3_2753 ?k4_2753 ?k5_2753 ?kK_2753 ?U_2753 ?hi_2753 ?hl_2753 ?hm_2753 ?hm2_2753 ?hd_2753 ?hu_2753 ?_; (case k1_2753 => k_asm); (case k2_2753 => k_asm); (case k3_2753 => k_asm); (case k4_2753 => k_asm); (case k5_2753 => k_asm); (case kK_2753 => first | exact rfl | assumption); (case U_2753 => (intro _ _; k_upd)); (case hi_2753 => with_reducible assumption); (case hl_2753 => assumption); (case hm_2753 => omega); (case hm2_2753 => omega); (case hd_2753 => ktr_room); (case hu_2753 => ke_room)))
  k_with "w2" => (k_here; (with_reducible show wpAny _ _ (call (Value.ref 114) _) _ _ _); k_dflt (refine' moved_ok ?k1_267c ?k2_267c ?k3_267c ?k4_267c ?k5_267c ?kK_267c ?hm_267c ?hd_267c ?hu_267c ?_; (case k1_267c => k_asm); (case k2_267c => k_asm); (case k3_267c => k_asm); (case k4_267c => k_asm); (case k5_267c => k_asm); (case kK_267c => first | exact rfl | assumption); (case hm_267c => k_mem); (case hd_267c => ktr_room); (case hu_267c => ke_room)))
  k_with "w3" => (refine' code_defC ?k1_73de ?k2_73de ?k3_73de ?k4_73de ?k5_73de ?kA_73de ?kF_73de ?kK_73de ?k6_73de ?k7_73de ?k8_73de ?k9_73de ?kB_73de ?kD_73de ?_ ?c2_73de ?c3_73de ?c4_73de; (case kA_73de => exact rfl); (case kF_73de => exact rfl); (case kK_73de => assumption); (case k1_73de => k_asm); (case k2_73de => k_asm); (case k3_73de => k_asm); (case k4_73de => k_asm); (case k5_73de => k_asm); (case k6_73de => k_is); (case k7_73de => k_is); (case k8_73de => ktr_room); (case k9_73de => exact BindsTo.of_eq rfl); (case kB_73de => exact rfl); (case kD_73de => decide +kernel); (case c2_73de => exact rfl); (case c3_73de => exact rfl); (case c4_73de => exact rfl); k_whole)
  k_with "w4" => (refine' code_def ?k1_91da ?k2_91da ?k3_91da ?k4_91da ?k5_91da ?kA_91da ?kF_91da ?kK_91da ?k6_91da ?k7_91da ?k8_91da ?k9_91da ?kB_91da ?_ ?c2_91da ?c3_91da ?c4_91da ?c5_91da; (case kA_91da => exact rfl); (case kF_91da => exact rfl); (case kK_91da => first | exact rfl | assumption); (case k1_91da => k_asm); (case k2_91da => k_asm); (case k3_91da => k_asm); (case k4_91da => k_asm); (case k5_91da => k_asm); (case k6_91da => k_is); (case k7_91da => k_is); (case k8_91da => ktr_room); (case k9_91da => exact BindsTo.of_eq rfl); (case c5_91da => decide); (case kB_91da => exact locs rfl); (case c2_91da => exact rfl); (case c3_91da => exact rfl); (case c4_91da => exact rfl); k_whole)
  k_with "w5" => (refine' code_defC ?k1_e452 ?k2_e452 ?k3_e452 ?k4_e452 ?k5_e452 ?kA_e452 ?kF_e452 ?kK_e452 ?k6_e452 ?k7_e452 ?k8_e452 ?k9_e452 ?kB_e452 ?kD_e452 ?_ ?c2_e452 ?c3_e452 ?c4_e452; (case kA_e452 => exact rfl); (case kF_e452 => exact rfl); (case kK_e452 => first | exact rfl | assumption); (case k1_e452 => k_asm); (case k2_e452 => k_asm); (case k3_e452 => k_asm); (case k4_e452 => k_asm); (case k5_e452 => k_asm); (case k6_e452 => k_is); (case k7_e452 => k_is); (case k8_e452 => ktr_room); (case k9_e452 => exact BindsTo.of_eq rfl); (case kB_e452 => exact rfl); (case kD_e452 => decide +kernel); (case c2_e452 => exact rfl); (case c3_e452 => exact rfl); (case c4_e452 => exact rfl); k_whole)
  k_with "w6" => (k_here; (with_reducible show wpAny _ _ (subscriptTail _ (PySem.Expr.Slice _ _ none _) (Value.ref _) (Value.ref _)) _ _ _); k_dflt (refine' slice_to ?F_7f9f ?N_7f9f ?l_7f9f ?p_7f9f ?q_7f9f ?e_7f9f ?z_7f9f ?_ ?s_7f9f ?t_7f9f; (case F_7f9f => k_asm); (case N_7f9f => k_asm); (case l_7f9f => k_mem); (case p_7f9f => kmk_part); (case q_7f9f => kmk_part); (case e_7f9f => first | exact pick_upto (by omega) | exact pick_from (by omega) | exact pick_part (by omega) (by omega) | exact pick_less (by omega)); (case s_7f9f => with_unfolding_all rfl); (case t_7f9f => kmk_pure); (case z_7f9f => omega)))
  k_with "w7" => (k_here; (with_reducible show wpAny _ _ (call (Value.type _) [Value.ref _]) _ _ _); k_dflt (first | (refine' copyL ?F_06eb ?N_06eb ?m_06eb ?z_06eb ?_; (case F_06eb => k_asm); (case N_06eb => k_asm); (case m_06eb => k_mem); (case z_06eb => omega)) | (refine' copyT ?F_06eb ?N_06eb ?m_06eb ?_; (case F_06eb => k_asm); (case N_06eb => k_asm); (case m_06eb => k_mem))))
  k_with "w8" => (k_here; (with_reducible show wpAny _ _ (binaryOp _ (Value.ref _) (Value.ref _)) _ _ _); k_dflt (refine' addL ?F_f34b ?N_f34b ?a_f34b ?b_f34b ?z_f34b ?_; (case F_f34b => k_asm); (case N_f34b => k_asm); (case a_f34b => k_mem); (case b_f34b => k_mem); (case z_f34b => first | omega | (simp only [List.length_cons, List.length_nil]; omega))))
  k_with "w9" => (refine neN ?_; (try dsimp only); first | with_reducible assumption | (with_reducible refine Ne.symm ?_; with_reducible assumption) | (with_reducible refine Nat.ne_of_lt ?_; with_reducible assumption) | (with_reducible refine Nat.ne_of_gt ?_; with_reducible assumption))
  k_with "w10" => first | with_reducible assumption | exact in_of_fr (by with_reducible assumption) (by with_reducible assumption)
  k_with "w11" => (k_here; (with_reducible show wpAny _ _ (call (Value.ref 119) _) _ _ _); k_dflt (refine' ldeck_ok ?k1_e407 ?k2_e407 ?k3_e407 ?k4_e407 ?k5_e407 ?kK_e407 ?hl_e407 ?hi_e407 ?hn_e407 ?hd_e407 ?hu_e407 ?_; (case k1_e407 => k_asm); (case k2_e407 => k_asm); (case k3_e407 => k_asm); (case k4_e407 => k_asm); (case k5_e407 => k_asm); (case kK_e407 => first | exact rfl | assumption); (case hl_e407 => assumption); (case hi_e407 => assumption); (case hn_e407 => omega); (case hd_e407 => ktr_room); (case hu_e407 => ke_room)))
  k_with "w12" => (k_here; (with_reducible show wpAny _ _ (call (Value.ref 133) _) _ _ _); k_dflt (refine' lspan_use ?k1_0801 ?k2_0801 ?k3_0801 ?k4_0801 ?k5_0801 ?kK_0801 ?U_0801 ?hi_0801 ?hl_0801 ?h0_0801 ?h1_0801 ?hd_0801 ?hu_0801 ?_; (case k1_0801 => k_asm); (case k2_0801 => k_asm); (case k3_0801 => k_asm); (case k4_0801 => k_asm); (case k5_0801 => k_asm); (case kK_0801 => first | exact rfl | assumption); (case U_0801 => (intro _ _; k_upd)); (case hi_0801 => with_reducible assumption); (case hl_0801 => assumption); (case h0_0801 => omega); (case h1_0801 => first | with_reducible assumption | omega); (case hd_0801 => ktr_room); (case hu_0801 => ke_room)))
  k_with "w13" => (k_here; (with_reducible show wpAny _ _ (call (Value.ref 100) _) _ _ _); k_dflt (refine' mrepl_use ?k1_76bf ?k2_76bf ?k3_76bf ?k4_76bf ?k5_76bf ?kK_76bf ?hx_76bf ?hsp_76bf ?D_76bf ?sub_76bf ?TL_76bf ?hl_76bf ?U_76bf ?hd_76bf ?hu_76bf ?_; (case k1_76bf => k_asm); (case k2_76bf => k_asm); (case k3_76bf => k_asm); (case k4_76bf => k_asm); (case k5_76bf => k_asm); (case kK_76bf => first | exact rfl | assumption); (case hx_76bf => k_mem); (case U_76bf => (intro _; k_upd)); (case hsp_76bf => k_mem); (case D_76bf => with_reducible assumption); (case sub_76bf => kqd_sub); (case TL_76bf => with_reducible assumption); (case hl_76bf => first | with_reducible assumption | omega); (case hd_76bf => ktr_room); (case hu_76bf => ke_room)))
  k_with "w14" => (k_here; (with_reducible show wpAny _ _ (call (Value.ref 83) _) _ _ _); k_dflt (refine' mlist_ok ?k1_935b ?k2_935b ?k3_935b ?k4_935b ?k5_935b ?kK_935b ?hx_935b ?hdx_935b ?hsp_935b ?D_935b ?sub_935b ?hl_935b ?hd_935b ?hu_935b ?_; (case k1_935b => k_asm); (case k2_935b => k_asm); (case k3_935b => k_asm); (case k4_935b => k_asm); (case k5_935b => k_asm); (case kK_935b => first | exact rfl | assumption); (case hx_935b => k_mem); (case hdx_935b => k_mem); (case hsp_935b => k_mem); (case D_935b => with_reducible assumption); (case sub_935b => kqd_sub); (case hl_935b => first | with_reducible assumption | omega); (case hd_935b => ktr_room); (case hu_935b => ke_room)))
  k_with "w15" => (k_here; (with_reducible show wpAny _ _ (call (Value.ref 90) _) _ _ _); k_dflt (refine' mrest_use ?k1_53a1 ?k2_53a1 ?k3_53a1 ?k4_53a1 ?k5_53a1 ?kK_53a1 ?hx_53a1 ?hpl_53a1 ?D_53a1 ?hl_53a1 ?U_53a1 ?hd_53a1 ?hu_53a1 ?_; (case k1_53a1 => k_asm); (case k2_53a1 => k_asm); (case k3_53a1 => k_asm); (case k4_53a1 => k_asm); (case k5_53a1 => k_asm); (case kK_53a1 => first | exact rfl | assumption); (case hx_53a1 => k_mem); (case U_53a1 => (intro _; k_upd)); (case hpl_53a1 => k_mem); (case D_53a1 => first | with_reducible assumption | exact (by with_reducible assumption : ∀ t : Tok, DatAll [] (_ ++ [Value.int 1 t]) _) _); (case hl_53a1 => first | with_reducible assumption | omega); (case hd_53a1 => ktr_room); (case hu_53a1 => ke_room)))
  k_with "w16" => (k_here; (with_reducible show wpAny _ _ (call (Value.ref 95) _) _ _ _); k_dflt (refine' mtran_use ?k1_e468 ?k2_e468 ?k3_e468 ?k4_e468 ?k5_e468 ?kK_e468 ?hx_e468 ?hsp_e468 ?D_e468 ?sub_e468 ?TL_e468 ?hl_e468 ?U_e468 ?hd_e468 ?hu_e468 ?_; (case k1_e468 => k_asm); (case k2_e468 => k_asm); (case k3_e468 => k_asm); (case k4_e468 => k_asm); (case k5_e468 => k_asm); (case kK_e468 => first | exact rfl | assumption); (case hx_e468 => k_mem); (case U_e468 => (intro _; k_upd)); (case hsp_e468 => k_mem); (case D_e468 => with_reducible assumption); (case sub_e468 => kqd_sub); (case TL_e468 => with_reducible assumption); (case hl_e468 => first | with_reducible assumption | omega); (case hd_e468 => ktr_room); (case hu_e468 => ke_room)))
  k_with "w17" => (k_here; (with_reducible show wpAny _ _ (call (Value.ref 157) _) _ _ _); k_dflt (refine' llist_ok ?k1_8c8e ?k2_8c8e ?k3_8c8e ?k4_8c8e ?k5_8c8e ?kK_8c8e ?hsp_8c8e ?D_8c8e ?sub_8c8e ?hl_8c8e ?hd_8c8e ?hu_8c8e ?_; (case k1_8c8e => k_asm); (case k2_8c8e => k_asm); (case k3_8c8e => k_asm); (case k4_8c8e => k_asm); (case k5_8c8e => k_asm); (case kK_8c8e => first | exact rfl | assumption); (case hsp_8c8e => k_mem); (case D_8c8e => with_reducible assumption); (case sub_8c8e => kqd_sub); (case hl_8c8e => first | with_reducible assumption | omega); (case hd_8c8e => ktr_room); (case hu_8c8e => ke_room)))
  k_with "w18" => (k_here; (with_reducible show wpAny _ _ (binaryOp _ (Value.ref _) (Value.ref _)) _ _ _); k_dflt (refine' addL ?F_261b ?N_261b ?a_261b ?b_261b ?z_261b ?_; (case F_261b => k_asm); (case N_261b => k_asm); (case a_261b => k_mem); (case b_261b => k_mem); (case z_261b => first | omega | (simp only [List.length_cons, List.length_nil, List.length_replicate]; omega))))
  k_with "w19" => (k_here; (with_reducible show wpAny _ _ (binaryOp Operator.Mult (Value.ref _) (Value.int _ _)) _ _ _); k_dflt (refine' mulN ?F_1ba3 ?N_1ba3 ?l_1ba3 ?e_1ba3 ?z_1ba3 ?_; (case F_1ba3 => k_asm); (case N_1ba3 => k_asm); (case l_1ba3 => k_mem); (case e_1ba3 => with_reducible assumption); (case z_1ba3 => omega)))
  k_with "WPost" => (dsimp only [WPost])
  trivial
section
local macro_rules | `(tactic| cell_enter) => cea

theorem kwaca : True := by
  k_with "eval ListComp" => (k_here; lct_look; k_dflt (refine LCt.ListComp_T (F₀ := by k_asm) (by with_unfolding_all rfl) (by decide) (by rfl) (by decide) (by rfl) ?_))
  k_with "eval ListComp" => (k_here; (fail_if_success lct_look); k_dflt (refine LCg.ListComp_U (F₀ := by k_asm) (by with_unfolding_all rfl) (by decide) (by rfl) (by decide) (by rfl) ?_))
  k_with "exec Assign cons ListComp" => (k_here; lct_look; k_dflt (refine LCt.Assign_ListComp_T (F₀ := by k_asm) (by rfl) (by with_unfolding_all rfl) (by with_unfolding_all rfl) (by decide) (by rfl) (by decide) (by rfl) (by rfl) (by rfl) ?_))
  k_with "exec Assign cons ListComp" => (k_here; (fail_if_success lct_look); k_dflt (refine LCg.Assign_ListComp_U (F₀ := by k_asm) (by rfl) (by with_unfolding_all rfl) (by with_unfolding_all rfl) (by decide) (by rfl) (by decide) (by rfl) (by rfl) (by rfl) ?_))
  k_with "CompSrc" => (k_here; k_dflt (first | (refine' LCg.CompSrc.ledger ?hh_1a6a ?F_1a6a ?N_1a6a ?m_1a6a ?z_1a6a ?_; (case hh_1a6a => rfl); (case F_1a6a => k_asm); (case N_1a6a => k_asm); (case m_1a6a => k_mem); (case z_1a6a => first | with_reducible exact size_ys (by assumption) | (simp only [List.size_toArray, sizeLine]; omega) | ((have hz9 := IntsAre.length (by with_reducible assumption)); simp only [List.size_toArray, sizeLine]; omega))) | (refine' LCg.CompSrc.range ?hh_1a6a ?F_1a6a ?N_1a6a ?r_1a6a ?s_1a6a ?n_1a6a ?z_1a6a ?_; (case hh_1a6a => rfl); (case F_1a6a => k_asm); (case N_1a6a => k_asm); (case r_1a6a => with_reducible assumption); (case s_1a6a => first | with_reducible exact small_len (by assumption) | with_reducible exact small_len2 (by assumption) | exact small_one (by omega) (by omega) (by omega) (by omega)); (case n_1a6a => exact rangeSize_nat _ _); (case z_1a6a => first | with_reducible exact size_len (by assumption) | with_reducible exact size_len2 (by assumption) | (simp only [sizeLine]; omega)))); intro _)
  k_with "CompSrcT" => (k_here; k_dflt (first | (refine' LCt.CompSrcT.ledger ?hh_4c92 ?F_4c92 ?N_4c92 ?m_4c92 ?z_4c92 ?_; (case hh_4c92 => rfl); (case F_4c92 => k_asm); (case N_4c92 => k_asm); (case m_4c92 => k_mem); (case z_4c92 => first | with_reducible exact size_ys (by assumption) | (simp only [List.size_toArray, sizeLine]; omega))) | (refine' LCt.CompSrcT.range ?hh_4c92 ?F_4c92 ?N_4c92 ?r_4c92 ?s_4c92 ?n_4c92 ?z_4c92 ?_; (case hh_4c92 => rfl); (case F_4c92 => k_asm); (case N_4c92 => k_asm); (case r_4c92 => with_reducible assumption); (case s_4c92 => first | with_reducible exact small_len (by assumption) | with_reducible exact small_len2 (by assumption) | exact small_one (by omega) (by omega) (by omega) (by omega)); (case n_4c92 => exact rangeSize_nat _ _); (case z_4c92 => first | with_reducible exact size_len (by assumption) | with_reducible exact size_len2 (by assumption) | (simp only [sizeLine]; omega)))); intro _)
  trivial
/-- how many of the first i signs lie outside the stretch -/
def cnt (st en : Int) : Nat → Nat
  | 0 => 0
  | i + 1 => cnt st en i + (if st ≤ (i : Int) + 1 ∧ (i : Int) + 1 < en then 0 else 1)
theorem cnt_is {st en : Int} (h1 : 1 ≤ st) (h2 : st ≤ en) : ∀ i : Nat, ((cnt st en i : Nat) : Int) = if (i : Int) < st then (i : Int) else if (i : Int) < en then st - 1 else (i : Int) - (en - st)
  | 0 => by rw [cnt]; split <;> omega
  | i + 1 => by
    have ih := cnt_is h1 h2 i
    rw [cnt]
    (repeat' split at ih) <;> (repeat' split) <;> omega
theorem cnt_le (st en : Int) : ∀ i : Nat, cnt st en i ≤ i
  | 0 => Nat.le_refl _
  | i + 1 => by have := cnt_le st en i; rw [cnt]; split <;> omega

theorem kwacb : True := by
  k_with "call builtin:len" => (k_here; (with_reducible show wpAny _ _ (call (Value.builtin "len") [Value.ref _]) _ _ _); k_dflt (refine' len_led ?k1_f453 ?k2_f453 ?k3_f453 ?_; (case k1_f453 => k_asm); (case k2_f453 => k_mem); (case k3_f453 => omega)))
  trivial
theorem lbegin_ok {w : World} {p : Program} {loose : List Str} {mean : ExcName → Option Value} {mg mb : Str → Option Value} {dp un : Nat} {gd : Option (List Code)} {cn : Str} {cs : Scope} {a : Addr} {ccd : Value} {cl : List (Str × Addr)} {outer : List Env} {A₀ : Around} {base h₀ : Heap} {L : Addr} {m : Str → Option Value} {s : Shared} {Q E : Value → Shared → Prop} {news : List (Addr × Obj)} {x y z u : Int} {tk tk2 tk3 tk4 : Tok}
  (B : Below A₀ base outer h₀) (F : Fr h₀ L s.heap m) (X : (Mine.hd.heap_39 w.params).In h₀) (N : News h₀ L s.heap news) (T : Top p loose mean mg mb h₀) (hk : cs.kind = .function) (h1 : 1 ≤ x ∧ x < 1000) (h2 : 1 ≤ y ∧ y ≤ z) (h3 : z < 1000) (h4 : 0 ≤ u ∧ u < 1000)
  (hd : dp + 4 < recursionLimit) (hu : un + 400 < cLine)
  (ret : ∀ (t : Tok) (h' : Heap) (tk' : Nat), Fr h₀ L h' m → News h₀ L h' news → Q (.int (mvF y z (y + u) x) t) { s with heap := h', toks := tk' }) :
  wpAny (model PySem.Challenge.pw_ok0042_01 w) (ktrTop dp un gd cn cs L a ccd cl outer) (call (.ref 138) [.int x tk, .int y tk2, .int z tk3, .int u tk4]) Q E s := by
  show Keep PySem.Challenge.rw_ok0042_01 Mine.hd.heap_39 (wpAny _ _ _ _ _ _)
  k_fill
  unfold Keep
  refine wpAny_call ?_
  k_dflt cell_enter
  w_strict k_steps
  rename_i g LL h1' tk1 FG F1 B1 X1 T1 l1 o1 o2 d1 d2 N1 h2' tk2' _ _ _ R1 F2 N2 K2 g2
  clear N1
  refine restT_ind (fun i ys nw => nw = (LL + 1 + 1, o1) :: (LL + 1, o2) :: news ∧ ys.length = cnt y z i) ⟨rfl, rfl⟩ ?_ ?_
  · rintro i ys nw hi ⟨rfl, hy⟩ v I oI C oC DD m₂ h tk E' ⟨t9, rfl⟩ hC hx F' N' off ⟨ne1, ne2, ne3⟩
    clear F1 F2 N2
    w_strict k_steps
    all_goals
      refine LCg.CompEnd.intro (by k_asm) (by k_asm) ((LL + 1 + 1, o1) :: (LL + 1, o2) :: news) (by kqd_sub) off trivial ⟨rfl, ?_⟩
      first | rw [List.length_append, List.length_singleton, cnt, hy] | rw [cnt, hy]
      split <;> omega
  · rintro ys nw ⟨rfl, hy⟩
    unfold LCg.FinA
    intro D1 h3' tk3' F3 N3 o3
    have hc := cnt_is h2.1 h2.2 (x - 1).toNat
    have hc2 := cnt_le y z (x - 1).toNat
    dsimp only
    have fin : ∀ (X : Int) (t : Tok) (h' : Heap) (tk' : Nat), Fr h₀ L h' m → News h₀ L h' news → X = mvF y z (y + u) x → Q (.int X t) { s with heap := h', toks := tk' } := fun X t h' tk' F9 N9 e9 => by rw [e9]; exact ret t h' tk' F9 N9
    w_strict k_steps
    all_goals
      refine fin _ _ _ _ (by k_asm) (cb_drop (by assumption) (by kqd_sub)) ?_
      unfold mvF
      (repeat' split at hc) <;> (repeat' split) <;> omega
theorem lend_ok {w : World} {p : Program} {loose : List Str} {mean : ExcName → Option Value} {mg mb : Str → Option Value} {dp un : Nat} {gd : Option (List Code)} {cn : Str} {cs : Scope} {a : Addr} {ccd : Value} {cl : List (Str × Addr)} {outer : List Env} {A₀ : Around} {base h₀ : Heap} {L : Addr} {m : Str → Option Value} {s : Shared} {Q E : Value → Shared → Prop} {news : List (Addr × Obj)} {x y z u : Int} {tk tk2 tk3 tk4 : Tok}
  (B : Below A₀ base outer h₀) (F : Fr h₀ L s.heap m) (X : (Mine.hd.heap_39 w.params).In h₀) (N : News h₀ L s.heap news) (T : Top p loose mean mg mb h₀) (hk : cs.kind = .function) (h1 : 1 ≤ x ∧ x < 1000) (h2 : 1 ≤ y ∧ y ≤ z) (h3 : z < 1000) (h4 : 0 ≤ u ∧ u < 1000)
  (hd : dp + 4 < recursionLimit) (hu : un + 400 < cLine)
  (ret : ∀ (t : Tok) (h' : Heap) (tk' : Nat), Fr h₀ L h' m → News h₀ L h' news → Q (.int (mvL y z (y + u) x) t) { s with heap := h', toks := tk' }) :
  wpAny (model PySem.Challenge.pw_ok0042_01 w) (ktrTop dp un gd cn cs L a ccd cl outer) (call (.ref 143) [.int x tk, .int y tk2, .int z tk3, .int u tk4]) Q E s := by
  show Keep PySem.Challenge.rw_ok0042_01 Mine.hd.heap_39 (wpAny _ _ _ _ _ _)
  k_fill
  unfold Keep
  refine wpAny_call ?_
  k_dflt cell_enter
  w_strict k_steps
  rename_i g LL h1' tk1 FG F1 B1 X1 T1 l1 o1 o2 d1 d2 N1 h2' tk2' _ _ _ R1 F2 N2 K2 g2
  clear N1
  refine restT_ind (fun i ys nw => nw = (LL + 1 + 1, o1) :: (LL + 1, o2) :: news ∧ ys.length = cnt y z i) ⟨rfl, rfl⟩ ?_ ?_
  · rintro i ys nw hi ⟨rfl, hy⟩ v I oI C oC DD m₂ h tk E' ⟨t9, rfl⟩ hC hx F' N' off ⟨ne1, ne2, ne3⟩
    clear F1 F2 N2
    w_strict k_steps
    all_goals
      refine LCg.CompEnd.intro (by k_asm) (by k_asm) ((LL + 1 + 1, o1) :: (LL + 1, o2) :: news) (by kqd_sub) off trivial ⟨rfl, ?_⟩
      first | rw [List.length_append, List.length_singleton, cnt, hy] | rw [cnt, hy]
      split <;> omega
  · rintro ys nw ⟨rfl, hy⟩
    unfold LCg.FinA
    intro D1 h3' tk3' F3 N3 o3
    have hc := cnt_is h2.1 h2.2 (x - 1).toNat
    have hc2 := cnt_le y z (x - 1).toNat
    dsimp only
    have fin : ∀ (X : Int) (t : Tok) (h' : Heap) (tk' : Nat), Fr h₀ L h' m → News h₀ L h' news → X = mvL y z (y + u) x → Q (.int X t) { s with heap := h', toks := tk' } := fun X t h' tk' F9 N9 e9 => by rw [e9]; exact ret t h' tk' F9 N9
    w_strict k_steps
    all_goals
      refine fin _ _ _ _ (by k_asm) (cb_drop (by assumption) (by kqd_sub)) ?_
      unfold mvL
      (repeat' split at hc) <;> (repeat' split) <;> omega

end
theorem kwacc : True := by
  k_with_none
  k_with "ta" => (try dsimp only)
  k_with "tb" => (try k_sweep)
  k_with "tc" => (try k_fold)
  k_with "w0" => (have hcL9 := cLine_is; (try simp only [units_in1, units_deeper, Around.mark_units, units_caller]); (try dsimp only [ktrTop]); omega)
  k_with "w1" => (k_here; (with_reducible show wpAny _ _ (call (Value.ref 126) _) _ _ _); k_dflt (refine' draw_use ?k1_2753 ?k2_2753 ?k3_2753 ?k4_2753 ?k5_2753 ?kK_2753 ?U_2753 ?hi_2753 ?hl_2753 ?hm_2753 ?hm2_2753 ?hd_2753 ?hu_2753 ?_; (case k1_2753 => k_asm); (case k2_2753 => k_asm); (case k3_2753 => k_asm); (case k4_2753 => k_asm); (case k5_2753 => k_asm); (case kK_2753 => first | exact rfl | assumption); (case U_2753 => (intro _ _; k_upd)); (case hi_2753 => with_reducible assumption); (case hl_2753 => assumption); (case hm_2753 => omega); (case hm2_2753 => omega); (case hd_2753 => ktr_room); (case hu_2753 => ke_room)))
  k_with "w2" => (k_here; (with_reducible show wpAny _ _ (call (Value.ref 114) _) _ _ _); k_dflt (refine' moved_ok ?k1_267c ?k2_267c ?k3_267c ?k4_267c ?k5_267c ?kK_267c ?hm_267c ?hd_267c ?hu_267c ?_; (case k1_267c => k_asm); (case k2_267c => k_asm); (case k3_267c => k_asm); (case k4_267c => k_asm); (case k5_267c => k_asm); (case kK_267c => first | exact rfl | assumption); (case hm_267c => k_mem); (case hd_267c => ktr_room); (case hu_267c => ke_room)))
  k_with "w3" => (refine' code_defC ?k1_73de ?k2_73de ?k3_73de ?k4_73de ?k5_73de ?kA_73de ?kF_73de ?kK_73de ?k6_73de ?k7_73de ?k8_73de ?k9_73de ?kB_73de ?kD_73de ?_ ?c2_73de ?c3_73de ?c4_73de; (case kA_73de => exact rfl); (case kF_73de => exact rfl); (case kK_73de => assumption); (case k1_73de => k_asm); (case k2_73de => k_asm); (case k3_73de => k_asm); (case k4_73de => k_asm); (case k5_73de => k_asm); (case k6_73de => k_is); (case k7_73de => k_is); (case k8_73de => ktr_room); (case k9_73de => exact BindsTo.of_eq rfl); (case kB_73de => exact rfl); (case kD_73de => decide +kernel); (case c2_73de => exact rfl); (case c3_73de => exact rfl); (case c4_73de => exact rfl); k_whole)
  k_with "w4" => (refine' code_def ?k1_91da ?k2_91da ?k3_91da ?k4_91da ?k5_91da ?kA_91da ?kF_91da ?kK_91da ?k6_91da ?k7_91da ?k8_91da ?k9_91da ?kB_91da ?_ ?c2_91da ?c3_91da ?c4_91da ?c5_91da; (case kA_91da => exact rfl); (case kF_91da => exact rfl); (case kK_91da => first | exact rfl | assumption); (case k1_91da => k_asm); (case k2_91da => k_asm); (case k3_91da => k_asm); (case k4_91da => k_asm); (case k5_91da => k_asm); (case k6_91da => k_is); (case k7_91da => k_is); (case k8_91da => ktr_room); (case k9_91da => exact BindsTo.of_eq rfl); (case c5_91da => decide); (case kB_91da => exact locs rfl); (case c2_91da => exact rfl); (case c3_91da => exact rfl); (case c4_91da => exact rfl); k_whole)
  k_with "w5" => (refine' code_defC ?k1_e452 ?k2_e452 ?k3_e452 ?k4_e452 ?k5_e452 ?kA_e452 ?kF_e452 ?kK_e452 ?k6_e452 ?k7_e452 ?k8_e452 ?k9_e452 ?kB_e452 ?kD_e452 ?_ ?c2_e452 ?c3_e452 ?c4_e452; (case kA_e452 => exact rfl); (case kF_e452 => exact rfl); (case kK_e452 => first | exact rfl | assumption); (case k1_e452 => k_asm); (case k2_e452 => k_asm); (case k3_e452 => k_asm); (case k4_e452 => k_asm); (case k5_e452 => k_asm); (case k6_e452 => k_is); (case k7_e452 => k_is); (case k8_e452 => ktr_room); (case k9_e452 => exact BindsTo.of_eq rfl); (case kB_e452 => exact rfl); (case kD_e452 => decide +kernel); (case c2_e452 => exact rfl); (case c3_e452 => exact rfl); (case c4_e452 => exact rfl); k_whole)
  k_with "w6" => (k_here; (with_reducible show wpAny _ _ (subscriptTail _ (PySem.Expr.Slice _ _ none _) (Value.ref _) (Value.ref _)) _ _ _); k_dflt (refine' slice_to ?F_7f9f ?N_7f9f ?l_7f9f ?p_7f9f ?q_7f9f ?e_7f9f ?z_7f9f ?_ ?s_7f9f ?t_7f9f; (case F_7f9f => k_asm); (case N_7f9f => k_asm); (case l_7f9f => k_mem); (case p_7f9f => kmk_part); (case q_7f9f => kmk_part); (case e_7f9f => first | exact pick_upto (by omega) | exact pick_from (by omega) | exact pick_part (by omega) (by omega) | exact pick_less (by omega)); (case s_7f9f => with_unfolding_all rfl); (case t_7f9f => kmk_pure); (case z_7f9f => omega)))
  k_with "w7" => (k_here; (with_reducible show wpAny _ _ (call (Value.type _) [Value.ref _]) _ _ _); k_dflt (first | (refine' copyL ?F_06eb ?N_06eb ?m_06eb ?z_06eb ?_; (case F_06eb => k_asm); (case N_06eb => k_asm); (case m_06eb => k_mem); (case z_06eb => omega)) | (refine' copyT ?F_06eb ?N_06eb ?m_06eb ?_; (case F_06eb => k_asm); (case N_06eb => k_asm); (case m_06eb => k_mem))))
  k_with "w8" => (k_here; (with_reducible show wpAny _ _ (binaryOp _ (Value.ref _) (Value.ref _)) _ _ _); k_dflt (refine' addL ?F_f34b ?N_f34b ?a_f34b ?b_f34b ?z_f34b ?_; (case F_f34b => k_asm); (case N_f34b => k_asm); (case a_f34b => k_mem); (case b_f34b => k_mem); (case z_f34b => first | omega | (simp only [List.length_cons, List.length_nil]; omega))))
  k_with "w9" => (refine neN ?_; (try dsimp only); first | with_reducible assumption | (with_reducible refine Ne.symm ?_; with_reducible assumption) | (with_reducible refine Nat.ne_of_lt ?_; with_reducible assumption) | (with_reducible refine Nat.ne_of_gt ?_; with_reducible assumption))
  k_with "w10" => first | with_reducible assumption | exact in_of_fr (by with_reducible assumption) (by with_reducible assumption)
  k_with "w11" => (k_here; (with_reducible show wpAny _ _ (call (Value.ref 119) _) _ _ _); k_dflt (refine' ldeck_ok ?k1_e407 ?k2_e407 ?k3_e407 ?k4_e407 ?k5_e407 ?kK_e407 ?hl_e407 ?hi_e407 ?hn_e407 ?hd_e407 ?hu_e407 ?_; (case k1_e407 => k_asm); (case k2_e407 => k_asm); (case k3_e407 => k_asm); (case k4_e407 => k_asm); (case k5_e407 => k_asm); (case kK_e407 => first | exact rfl | assumption); (case hl_e407 => assumption); (case hi_e407 => assumption); (case hn_e407 => omega); (case hd_e407 => ktr_room); (case hu_e407 => ke_room)))
  k_with "w12" => (k_here; (with_reducible show wpAny _ _ (call (Value.ref 133) _) _ _ _); k_dflt (refine' lspan_use ?k1_0801 ?k2_0801 ?k3_0801 ?k4_0801 ?k5_0801 ?kK_0801 ?U_0801 ?hi_0801 ?hl_0801 ?h0_0801 ?h1_0801 ?hd_0801 ?hu_0801 ?_; (case k1_0801 => k_asm); (case k2_0801 => k_asm); (case k3_0801 => k_asm); (case k4_0801 => k_asm); (case k5_0801 => k_asm); (case kK_0801 => first | exact rfl | assumption); (case U_0801 => (intro _ _; k_upd)); (case hi_0801 => with_reducible assumption); (case hl_0801 => assumption); (case h0_0801 => omega); (case h1_0801 => first | with_reducible assumption | omega); (case hd_0801 => ktr_room); (case hu_0801 => ke_room)))
  k_with "w13" => (k_here; (with_reducible show wpAny _ _ (call (Value.ref 100) _) _ _ _); k_dflt (refine' mrepl_use ?k1_76bf ?k2_76bf ?k3_76bf ?k4_76bf ?k5_76bf ?kK_76bf ?hx_76bf ?hsp_76bf ?D_76bf ?sub_76bf ?TL_76bf ?hl_76bf ?U_76bf ?hd_76bf ?hu_76bf ?_; (case k1_76bf => k_asm); (case k2_76bf => k_asm); (case k3_76bf => k_asm); (case k4_76bf => k_asm); (case k5_76bf => k_asm); (case kK_76bf => first | exact rfl | assumption); (case hx_76bf => k_mem); (case U_76bf => (intro _; k_upd)); (case hsp_76bf => k_mem); (case D_76bf => with_reducible assumption); (case sub_76bf => kqd_sub); (case TL_76bf => with_reducible assumption); (case hl_76bf => first | with_reducible assumption | omega); (case hd_76bf => ktr_room); (case hu_76bf => ke_room)))
  k_with "w14" => (k_here; (with_reducible show wpAny _ _ (call (Value.ref 83) _) _ _ _); k_dflt (refine' mlist_ok ?k1_935b ?k2_935b ?k3_935b ?k4_935b ?k5_935b ?kK_935b ?hx_935b ?hdx_935b ?hsp_935b ?D_935b ?sub_935b ?hl_935b ?hd_935b ?hu_935b ?_; (case k1_935b => k_asm); (case k2_935b => k_asm); (case k3_935b => k_asm); (case k4_935b => k_asm); (case k5_935b => k_asm); (case kK_935b => first | exact rfl | assumption); (case hx_935b => k_mem); (case hdx_935b => k_mem); (case hsp_935b => k_mem); (case D_935b => with_reducible assumption); (case sub_935b => kqd_sub); (case hl_935b => first | with_reducible assumption | omega); (case hd_935b => ktr_room); (case hu_935b => ke_room)))
  k_with "w15" => (k_here; (with_reducible show wpAny _ _ (call (Value.ref 90) _) _ _ _); k_dflt (refine' mrest_use ?k1_53a1 ?k2_53a1 ?k3_53a1 ?k4_53a1 ?k5_53a1 ?kK_53a1 ?hx_53a1 ?hpl_53a1 ?D_53a1 ?hl_53a1 ?U_53a1 ?hd_53a1 ?hu_53a1 ?_; (case k1_53a1 => k_asm); (case k2_53a1 => k_asm); (case k3_53a1 => k_asm); (case k4_53a1 => k_asm); (case k5_53a1 => k_asm); (case kK_53a1 => first | exact rfl | assumption); (case hx_53a1 => k_mem); (case U_53a1 => (intro _; k_upd)); (case hpl_53a1 => k_mem); (case D_53a1 => first | with_reducible assumption | exact (by with_reducible assumption : ∀ t : Tok, DatAll [] (_ ++ [Value.int 1 t]) _) _); (case hl_53a1 => first | with_reducible assumption | omega); (case hd_53a1 => ktr_room); (case hu_53a1 => ke_room)))
  k_with "w16" => (k_here; (with_reducible show wpAny _ _ (call (Value.ref 95) _) _ _ _); k_dflt (refine' mtran_use ?k1_e468 ?k2_e468 ?k3_e468 ?k4_e468 ?k5_e468 ?kK_e468 ?hx_e468 ?hsp_e468 ?D_e468 ?sub_e468 ?TL_e468 ?hl_e468 ?U_e468 ?hd_e468 ?hu_e468 ?_; (case k1_e468 => k_asm); (case k2_e468 => k_asm); (case k3_e468 => k_asm); (case k4_e468 => k_asm); (case k5_e468 => k_asm); (case kK_e468 => first | exact rfl | assumption); (case hx_e468 => k_mem); (case U_e468 => (intro _; k_upd)); (case hsp_e468 => k_mem); (case D_e468 => with_reducible assumption); (case sub_e468 => kqd_sub); (case TL_e468 => with_reducible assumption); (case hl_e468 => first | with_reducible assumption | omega); (case hd_e468 => ktr_room); (case hu_e468 => ke_room)))
  k_with "w17" => (k_here; (with_reducible show wpAny _ _ (call (Value.ref 157) _) _ _ _); k_dflt (refine' llist_ok ?k1_8c8e ?k2_8c8e ?k3_8c8e ?k4_8c8e ?k5_8c8e ?kK_8c8e ?hsp_8c8e ?D_8c8e ?sub_8c8e ?hl_8c8e ?hd_8c8e ?hu_8c8e ?_; (case k1_8c8e => k_asm); (case k2_8c8e => k_asm); (case k3_8c8e => k_asm); (case k4_8c8e => k_asm); (case k5_8c8e => k_asm); (case kK_8c8e => first | exact rfl | assumption); (case hsp_8c8e => k_mem); (case D_8c8e => with_reducible assumption); (case sub_8c8e => kqd_sub); (case hl_8c8e => first | with_reducible assumption | omega); (case hd_8c8e => ktr_room); (case hu_8c8e => ke_room)))
  k_with "w18" => (k_here; (with_reducible show wpAny _ _ (binaryOp _ (Value.ref _) (Value.ref _)) _ _ _); k_dflt (refine' addL ?F_261b ?N_261b ?a_261b ?b_261b ?z_261b ?_; (case F_261b => k_asm); (case N_261b => k_asm); (case a_261b => k_mem); (case b_261b => k_mem); (case z_261b => first | omega | (simp only [List.length_cons, List.length_nil, List.length_replicate]; omega))))
  k_with "w19" => (k_here; (with_reducible show wpAny _ _ (binaryOp Operator.Mult (Value.ref _) (Value.int _ _)) _ _ _); k_dflt (refine' mulN ?F_1ba3 ?N_1ba3 ?l_1ba3 ?e_1ba3 ?z_1ba3 ?_; (case F_1ba3 => k_asm); (case N_1ba3 => k_asm); (case l_1ba3 => k_mem); (case e_1ba3 => with_reducible assumption); (case z_1ba3 => omega)))
  k_with "WPost" => (dsimp only [WPost])
  trivial

theorem kwacd : True := by
  k_with "call builtin:len" => (k_here; (with_reducible show wpAny _ _ (call (Value.builtin "len") [Value.ref _]) _ _ _); k_dflt (refine' kd_len ?k1_b0c9 ?k2_b0c9 ?k3_b0c9 ?k4_b0c9 ?_; (case k1_b0c9 => k_asm); (case k2_b0c9 => k_mem); (case k3_b0c9 => with_reducible assumption); (case k4_b0c9 => first | with_reducible exact len63 (by assumption) | omega); k_whole))
  k_with "subscriptTail" => (k_here; (with_reducible show wpAny _ _ (subscriptTail _ _ (Value.ref _) (Value.int _ _)) _ _ _); k_dflt (refine' item_dat ?k1_b351 ?k2_b351 ?k3_b351 ?k4_b351 ?k5_b351 ?k6_b351 ?_ ?k7_b351; (case k1_b351 => k_asm); (case k2_b351 => k_mem); (case k3_b351 => with_reducible assumption); (case k4_b351 => omega); (case k5_b351 => omega); (case k6_b351 => omega); (case k7_b351 => with_unfolding_all rfl); k_whole); intro _ _)
  trivial
section
def Halt (P : Prop) : Prop := P
theorem halt_in {P : Prop} (h : Halt P) : P := h
section
variable {prog : Program} {w : World} {A : Around} {E : Value → Shared → Prop} {s : Shared} {env : Env} {h₀ : Heap} {x : Str} {body : List Stmt} {Q : Flow → Shared → Prop}
/-- a for over a range, any step, by an invariant of the frame and the ledger -/
theorem loop_range {r : Addr} {a b c : Int} {t u v : Tok} {n : Nat} {m₀ : Str → Option Value} {news : List (Addr × Obj)} (J : Nat → (Str → Option Value) → List (Addr × Obj) → Prop)
    (hh : A.handled = none) (hr : IsRange s.heap r a b c t u v) (hsmall : Builtin.Range.small a b c = true) (hsz : Builtin.Range.rangeSize a b c = (n : Int)) (F : Fr h₀ env.locals s.heap m₀) (N : News h₀ env.locals s.heap news) (hj : J 0 m₀ news)
    (turn : ∀ i t m₁ nx h tk own, i < n → OwnOff own (nx.map (·.1)) → J i m₁ nx → Fr h₀ env.locals h (fun y => if y = x then some (.int (a + i * c) t) else m₁ y) → News h₀ env.locals h (nx ++ own) →
      wpAny (model prog w) A (execs body env) (InvPostG h₀ env.locals (J (i + 1)) own { s with heap := h, toks := tk } Q) E { s with heap := h, toks := tk })
    (done : ∀ m₁ nx h tk, J n m₁ nx → Fr h₀ env.locals h m₁ → News h₀ env.locals h nx → Q .next { s with heap := h, toks := tk }) :
    wpAny (model prog w) A (pyIter (.ref r)) (fun it s₂ => LoopAtV prog w A h₀ env x body Q E it s₂) E s := by
  refine wpAny_pyIter_range hr hsmall ?_
  have W : Walks prog w A s.heap.objs.size [s.heap.objs.size] [s.heap.objs.size] n (fun i v => i < n ∧ ∃ t, v = .int (a + i * c) t)
      (fun i h => IsRangeIter h s.heap.objs.size (a + (i : Nat) * c) ((n : Int) - (i : Nat)) c) := (Walks.range hh _ a c n).bound
  refine kdr_loop J W (fun _ h => h) (fun _ h => h) ?_ ?_ ?_ ?_ (by show IsRangeIter _ _ _ _ _; rw [hsz]; simpa using Heap.get?_push_size _ rfl) (F.push _) (fun p hp => ⟨Heap.get?_push_of_some _ (N p hp).1, (N p hp).2⟩) hj ?_ ?_
  · intro i h hi b hb
    rw [List.mem_singleton.mp hb]
    exact ⟨_, hi⟩
  · intro hm
    exact absurd F.ns.lt ((List.mem_singleton.mp hm) ▸ Nat.lt_irrefl _)
  · intro b hb
    rw [List.mem_singleton.mp hb]
    exact next_is_new F
  · intro p hp hI
    exact absurd (Heap.lt_size (N p hp).1) ((List.mem_singleton.mp hI) ▸ Nat.lt_irrefl _)
  · rintro i v m₁ nx h tk own hi ⟨_, t, rfl⟩ hoff hJ F₁ N₁
    exact turn i t m₁ nx h tk own hi hoff hJ F₁ N₁
  · exact fun m₁ nx h tk hJ F₁ N₁ => done m₁ nx h tk hJ F₁ N₁
end
theorem own_app {own l r : List (Addr × Obj)} (h1 : OwnOff own (l.map (·.1))) (h2 : OwnOff own (r.map (·.1))) : OwnOff own ((l ++ r).map (·.1)) := fun p hp b hb => by
  rw [List.map_append] at hb
  rcases List.mem_append.mp hb with hb | hb
  · exact h1 p hp b hb
  · exact h2 p hp b hb
theorem own_cons {own r : List (Addr × Obj)} {q : Addr × Obj} (h1 : ∀ p ∈ own, p.1 ≠ q.1) (h2 : OwnOff own (r.map (·.1))) : OwnOff own ((q :: r).map (·.1)) := fun p hp b hb => by
  rw [List.map_cons] at hb
  rcases List.mem_cons.mp hb with rfl | hb
  · exact h1 p hp
  · exact h2 p hp b hb
theorem own_nil {own : List (Addr × Obj)} : OwnOff own (([] : List (Addr × Obj)).map (·.1)) := fun _ _ _ h => nomatch h
theorem range_half (n : Nat) : Builtin.Range.rangeSize 0 ((n : Int) - 1) 2 = ((n / 2 : Nat) : Int) := by
  unfold Builtin.Range.rangeSize
  rw [if_pos (by decide)]
  split <;> omega
theorem small_two {n : Nat} (h : n < 100000) : Builtin.Range.small 0 ((n : Int) - 1) 2 = true := by
  unfold Builtin.Range.small
  rw [range_half]
  simp only [Builtin.Range.rangeFitsLong, Bool.and_eq_true, Bool.or_eq_true, decide_eq_true_eq, beq_iff_eq, show (2 : Int) > 0 by decide, if_true]
  omega
theorem small_ofN {a b : Int} (ha : -1000000 < a) (ha' : a < 1000000) (hb : -1000000 < b) (hb' : b < 1000000) : Builtin.Range.small a b 1 = true := small_one (by omega) (by omega) (by omega) (by omega)
theorem fr_know {h₀ h : Heap} {L : Addr} {m : Str → Option Value} {x : Str} {v : Value} (F : Fr h₀ L h m) (hx : m x = some v) : Fr h₀ L h (fun y => if y = x then some v else m y) := by
  have e : (fun y => if y = x then some v else m y) = m := funext fun y => by
    by_cases hy : y = x
    · rw [if_pos hy, hy, hx]
    · rw [if_neg hy]
  rw [e]; exact F
theorem item_at {prog : Program} {w : World} {A : Around} {E : Value → Shared → Prop} {s : Shared} {h₀ : Heap} {L l : Addr} {value slice : PySem.Expr} {news : List (Addr × Obj)} {us : List Value} {n : Nat} {k : Int} {u : Tok} {v : Value} {Q : Value → Shared → Prop} (N : News h₀ L s.heap news) (hm : (l, listOf us.toArray n) ∈ news) (hx : us[k.toNat]? = some v)
    (h0 : 0 ≤ k) (hfit : k < 2 ^ 63) (h : Q v s)
    (hs : subscripted slice false (.ref l) (.int k u) = operate [.ref l, .int k u] (getItem (.ref l) (.int k u)) := by with_unfolding_all rfl) :
    wpAny (model prog w) A (subscriptTail value slice (.ref l) (.int k u)) Q E s := by
  have hl : s.heap.IsList l us.toArray := ⟨_, (N _ hm).1, rfl, n, rfl⟩
  exact tail_any hl.typeIs slot_list_getitem.lookup (wpAny_getItem_list hl h0 hfit (by simpa using hx) h) hs
theorem kwace : True := by
  k_with "subscriptTail" => (k_here; (with_reducible show wpAny _ _ (subscriptTail _ _ (Value.ref _) (Value.int _ _)) _ _ _); k_dflt (refine' item_at ?k1_c249 ?k2_c249 ?k3_c249 ?k5_c249 ?k6_c249 ?_ ?k7_c249; (case k1_c249 => k_asm); (case k2_c249 => k_mem); (case k3_c249 => with_reducible assumption); (case k5_c249 => omega); (case k6_c249 => omega); (case k7_c249 => with_unfolding_all rfl); k_whole))
  k_with "exec For Name Call cons nil" => (k_here; refine halt_in ?_)
  k_with "exec For Name Subscript cons nil" => (k_here; refine halt_in ?_)
  k_with "exec For Name Name cons nil" => (k_here; refine halt_in ?_)
  k_with "pyIter ref" => (k_here; (with_reducible show wpAny _ _ (pyIter (Value.ref _)) (fun it s₂ => LoopAtV _ _ _ _ _ _ _ _ _ it s₂) _ _); refine halt_in ?_)
  k_with "call type:range" => (k_here; k_dflt (first | (refine' range1_rows ?F_0dec ?N_0dec ?_; (case F_0dec => k_asm); (case N_0dec => k_asm); k_whole) | (refine' range2_rows ?F_0dec ?N_0dec ?_; (case F_0dec => k_asm); (case N_0dec => k_asm); k_whole) | (refine' range3_rows ?F_0dec ?N_0dec ?c_0dec ?_ ?p_0dec; (case F_0dec => k_asm); (case N_0dec => k_asm); (case c_0dec => decide); (case p_0dec => exact Or.inl (PyProof.noPylong_small (by omega))); k_whole)); intro _ _ _ _ _ _ _ _ _; (try dsimp only))
  k_with "call builtin:list.append" => (k_here; (with_reducible show wpAny _ _ (call (Value.builtin _) [Value.ref _, _]) _ _ _); k_dflt (refine' append_K ?k1_2bc2 ?k2_2bc2 ?k3_2bc2 ?_ ?z_2bc2; (case k1_2bc2 => k_asm); (case k2_2bc2 => k_asm); (case k3_2bc2 => k_upd); (case z_2bc2 => (simp only [List.size_toArray, sizeLine]; omega)); k_whole); intro _ _ _)
  k_with "exec While" => (k_here; refine halt_in ?_)
  trivial
/-- a loop's end, left standing -/
def Exit (P : Shared → Prop) (f : Flow) (s : Shared) : Prop := match f with
  | .next => P s
  | _ => False
theorem fr_same {h₀ h : Heap} {L : Addr} {m : Str → Option Value} {x : Str} {v v' : Option Value} (F : Fr h₀ L h (fun y => if y = x then v else if y = x then v' else m y)) : Fr h₀ L h (fun y => if y = x then v else m y) := by
  have e : (fun y => if y = x then v else if y = x then v' else m y) = (fun y => if y = x then v else m y) := funext fun y => by
    by_cases hy : y = x
    · rw [if_pos hy, if_pos hy]
    · rw [if_neg hy, if_neg hy, if_neg hy]
  rw [← e]; exact F

/-- the pairs that restore reads -/
def pairs : List (Option Int) → List (Option (Int × Int))
  | x :: y :: r => (x.bind fun a => y.map fun b => (a, b)) :: pairs r
  | _ => []
theorem datIn_encI {news : List (Addr × Obj)} {v : Value} {o : Option Int} (h : DatIn news v (encI o)) : (o = none ∧ v = .none) ∨ ∃ i t, o = some i ∧ v = .int i t := by
  cases o with
  | none => cases h; exact .inl ⟨rfl, rfl⟩
  | some i => cases h; exact .inr ⟨_, _, rfl, rfl⟩
theorem encI_at {L9 : List (Addr × Obj)} {vs : List Value} {ps : List (Option Int)} (D : DatAll L9 vs (ps.map encI)) {i : Nat} (h : i < ps.length) : ∃ v, vs[i]? = some v ∧ ((ps.getD i none = none ∧ v = .none) ∨ ∃ n t, ps.getD i none = some n ∧ v = .int n t) := by
  obtain ⟨v, e, q⟩ := D.get (k := i) (by simpa using h)
  refine ⟨v, e, ?_⟩
  have e2 : ps.getD i none = ps[i] := by rw [List.getD_eq_getElem?_getD, List.getElem?_eq_getElem h]; rfl
  rw [e2]
  refine datIn_encI (news := L9) ?_
  simpa using q
theorem pairs_length : ∀ ps : List (Option Int), (pairs ps).length = ps.length / 2
  | [] => rfl
  | [_] => by simp [pairs]
  | _ :: _ :: r => by rw [pairs, List.length_cons, pairs_length r, List.length_cons, List.length_cons]; omega
theorem pairs_get : ∀ (ps : List (Option Int)) (i : Nat), i < ps.length / 2 → (pairs ps)[i]? = some ((ps.getD (2 * i) none).bind fun a => (ps.getD (2 * i + 1) none).map fun b => (a, b))
  | [], i, h => by simp at h
  | [_], i, h => by simp at h
  | x :: y :: r, 0, _ => rfl
  | x :: y :: r, i + 1, h => by
    rw [pairs, List.getElem?_cons_succ, pairs_get r i (by simp only [List.length_cons] at h; omega)]
    have e1 : 2 * (i + 1) = 2 * i + 1 + 1 := by omega
    rw [e1]
    simp only [List.getD_cons_succ]
theorem mrest_ok {w : World} {p : Program} {loose : List Str} {mean : ExcName → Option Value} {mg mb : Str → Option Value} {dp un : Nat} {gd : Option (List Code)} {cn : Str} {cs : Scope} {a : Addr} {ccd : Value} {cl : List (Str × Addr)} {outer : List Env} {A₀ : Around} {base h₀ : Heap} {L : Addr} {m : Str → Option Value} {s : Shared} {Q E : Value → Shared → Prop} {news : List (Addr × Obj)} {x dx sp0 pl : Addr} {t0 : Tok} {vs : List Value} {k : Nat} {ps : List (Option Int)} {L9 rest : List (Addr × Obj)}
  (B : Below A₀ base outer h₀) (F : Fr h₀ L s.heap m) (X : (Mine.hd.heap_39 w.params).In h₀) (N : News h₀ L s.heap news) (T : Top p loose mean mg mb h₀) (hk : cs.kind = .function) (hnews : news = (dx, spansDict w.params t0 sp0) :: rest) (hoff : ∀ q ∈ rest, q.1 ≠ dx)
  (hx : (x, instObj 103 dx) ∈ rest) (hpl : (pl, listOf vs.toArray k) ∈ rest) (D : DatAll L9 vs (ps.map encI)) (hl : ps.length < 1000)
  (hd : dp + 3 < recursionLimit) (hu : un + 300 < cLine)
  (ret : ∀ (D : Addr) (vs' : List Value) (n' : Nat) (tl : List (Addr × Obj)) (h' : Heap) (tk' : Nat), Tups tl → DatAll tl vs' ((pairs ps).map enc) → LCg.Off1 D ((dx, spansDict w.params t0 D) :: rest) → Fr h₀ L h' m →
    News h₀ L h' ((D, listOf vs'.toArray n') :: (dx, spansDict w.params t0 D) :: (tl ++ rest)) → Q .none { s with heap := h', toks := tk' }) :
  wpAny (model PySem.Challenge.pw_ok0042_01 w) (ktrTop dp un gd cn cs L a ccd cl outer) (call (.ref 90) [.ref x, .ref pl]) Q E s := by
  subst hnews
  have hvl : vs.length < 1000 := by have := D.length; rw [List.length_map] at this; omega
  have hpl2 : ((ps.map encI).length : Int) < 1000 := by rw [List.length_map]; omega
  have hoff1 : OwnOff rest [dx] := fun q hq b hb => by rw [List.mem_singleton.mp hb]; exact hoff q hq
  show Keep PySem.Challenge.rw_ok0042_01 Mine.hd.heap_39 (wpAny _ _ _ _ _ _)
  k_fill
  unfold Keep
  refine wpAny_call ?_
  k_dflt cell_enter
  w_strict k_steps
  unfold Halt
  with_unfolding_all refine For_invVF (by k_asm) (by rfl) (by rfl) ?_
  w_strict k_steps
  unfold Halt
  rename_i fd _ l1 _ _ _ _ _ _ _ _ R1 F1 N1 _
  rw [List.length_map] at R1
  have offR := allLt_all l1.2
  refine loop_range (fun i m nx => (m (Str.ofString "self") = some (.ref x) ∧ m (Str.ofString "places") = some (.ref pl) ∧ m (Str.ofString "found") = some (.ref fd)) ∧ ∃ vs' n' tl, nx = (fd, listOf vs'.toArray n') :: (dx, spansDict w.params t0 sp0) :: (tl ++ rest) ∧ Tups tl ∧ DatAll tl vs' (((pairs ps).take i).map enc))
    (by rfl) R1 (small_two (by omega)) (range_half _) F1 N1 ⟨⟨by rfl, by rfl, by rfl⟩, [], 0, [], rfl, (fun _ h => nomatch h), .nil⟩ ?_ ?_
  · rintro i t m₁ nx h tk own hi offO ⟨⟨e1, e2, e3⟩, vs', n', tl, rfl, hT, hY⟩ F2 N2
    simp only [List.cons_append, List.append_assoc] at N2
    simp only [List.map_cons] at offO
    have F3 := fr_know (x := Str.ofString "self") F2 (by rw [if_neg (by decide)]; exact e1)
    have F4 := fr_know (x := Str.ofString "places") F3 (by rw [if_neg (by decide), if_neg (by decide)]; exact e2)
    have F5 := fr_know (x := Str.ofString "found") F4 (by rw [if_neg (by decide), if_neg (by decide), if_neg (by decide)]; exact e3)
    clear F2 F3 F4 F1 N1
    obtain ⟨v0, hv0, hs0⟩ := encI_at D (i := 2 * i) (by omega)
    obtain ⟨v1, hv1, hs1⟩ := encI_at D (i := 2 * i + 1) (by omega)
    have ei0 : ((0 : Int) + (i : Int) * 2).toNat = 2 * i := by omega
    have ei1 : ((0 : Int) + (i : Int) * 2 + 1).toNat = 2 * i + 1 := by omega
    rw [← ei0] at hv0
    rw [← ei1] at hv1
    have hpl3 : (pl, listOf vs.toArray k) ∈ tl ++ (rest ++ own) := List.mem_append_right _ (List.mem_append_left _ hpl)
    have hfdl : ∀ q ∈ tl ++ (rest ++ own), q.1 ≠ fd := fun q hq => by
      rcases List.mem_append.mp hq with hq | hq
      · exact tups_off N2 (by kqd_sub) hT (by k_mem) (show Value.type "list" ≠ Value.type "tuple" by decide) q hq
      · rcases List.mem_append.mp hq with hq | hq
        · exact Nat.ne_of_lt (offR q hq)
        · exact offO q hq fd (.head _)
    have offF : OwnOff (tl ++ (rest ++ own)) [fd] := fun q hq b hb => by rw [List.mem_singleton.mp hb]; exact hfdl q hq
    have hpg := pairs_get ps i hi
    have hvs : vs'.length < 1000 := by have h9 := hY.length; rw [List.length_map, List.length_take, pairs_length] at h9; omega
    rcases hs0 with ⟨q0, rfl⟩ | ⟨a0, u0, q0, rfl⟩ <;> rcases hs1 with ⟨q1, rfl⟩ | ⟨a1, u1, q1, rfl⟩ <;> rw [q0, q1] at hpg
    all_goals w_strict k_steps
    all_goals
      rename News _ _ _ _ => N9
      simp only [List.push_toArray] at N9
    iterate 3
      · refine InvEndG.intro (nx := (fd, listOf (vs' ++ [Value.none]).toArray (n' + 1)) :: (dx, spansDict w.params t0 sp0) :: (tl ++ rest)) (by k_asm) N9 ⟨⟨by rfl, by rfl, by rfl⟩, _, _, tl, rfl, hT, ?_⟩ offO (by kqd_sub) (by kqd_sub)
        rw [take_more hpg, List.map_append]
        exact hY.append (.cons .none .nil)
    · rename ((_ : Nat) < _ ∧ _ ∧ AllLt _ (tl ++ _)) => l9
      have l10 := allLt_all l9.2.2
      rename_i DD _ _ _ _ _ _ _ _ _
      refine InvEndG.intro (nx := (fd, listOf (vs' ++ [Value.ref DD]).toArray (n' + 1)) :: (dx, spansDict w.params t0 sp0) :: (((DD, tupO a0 a1 u0 u1 0) :: tl) ++ rest)) (by k_asm) N9 ⟨⟨by rfl, by rfl, by rfl⟩, _, _, _, rfl, ?_, ?_⟩ ?_ (by kqd_sub) (by kqd_sub)
      · intro p hp
        rcases List.mem_cons.mp hp with rfl | hp
        · exact ⟨rfl, fun _ e => nomatch e⟩
        · exact hT p hp
      · rw [take_more hpg, List.map_append]
        exact (hY.mono fun p hp => List.mem_cons_of_mem _ hp).append (.cons (DatIn.tuple (vs := [_, _]) (.head _) (.cons (.int _ _) (.cons (.int _ _) .nil))) .nil)
      · intro p hp b hb
        simp only [List.cons_append, List.map_cons, List.mem_cons] at hb
        rcases hb with rfl | rfl | rfl | hb
        · exact offO p hp _ (.head _)
        · exact offO p hp _ (.tail _ (.head _))
        · exact Nat.ne_of_lt (l10 p (List.mem_append_right _ (List.mem_append_right _ hp)))
        · exact offO p hp _ (.tail _ (.tail _ hb))
  · rintro m₁ nx h tk ⟨⟨e1, e2, e3⟩, vs', n', tl, rfl, hT, hY⟩ F2 N2
    have F3 := fr_know (x := Str.ofString "self") F2 e1
    have F5 := fr_know (x := Str.ofString "found") F3 (by rw [if_neg (by decide)]; exact e3)
    clear F2 F3 F1 N1
    rw [← pairs_length, List.take_length] at hY
    have hoff2 : OwnOff (tl ++ rest) [dx] := fun q hq b hb => by
      rw [List.mem_singleton.mp hb]
      rcases List.mem_append.mp hq with hq | hq
      · exact tups_off N2 (by kqd_sub) hT (by k_mem) (show Value.type "dict" ≠ Value.type "tuple" by decide) q hq
      · exact hoff q hq
    have hx2 := List.mem_append_right tl hx
    w_strict k_steps
    exact ret fd vs' n' tl _ _ hT hY (off1_of fun q hq => by
      rcases List.mem_cons.mp hq with rfl | hq
      · exact Nat.ne_of_lt l1.1
      · exact Nat.ne_of_lt (offR q hq)) (by k_asm) (by k_asm)

theorem mrest_use {w : World} {p : Program} {loose : List Str} {mean : ExcName → Option Value} {mg mb : Str → Option Value} {dp un : Nat} {gd : Option (List Code)} {cn : Str} {cs : Scope} {a : Addr} {ccd : Value} {cl : List (Str × Addr)} {outer : List Env} {A₀ : Around} {base h₀ : Heap} {L : Addr} {m : Str → Option Value} {s : Shared} {Q E : Value → Shared → Prop} {news : List (Addr × Obj)} {x dx sp0 pl : Addr} {t0 : Tok} {vs : List Value} {k : Nat} {ps : List (Option Int)} {L9 : List (Addr × Obj)} {G : Addr → List (Addr × Obj)}
  (B : Below A₀ base outer h₀) (F : Fr h₀ L s.heap m) (X : (Mine.hd.heap_39 w.params).In h₀) (N : News h₀ L s.heap news) (T : Top p loose mean mg mb h₀) (hk : cs.kind = .function) (hx : (x, instObj 103 dx) ∈ news) (hpl : (pl, listOf vs.toArray k) ∈ news) (D : DatAll L9 vs (ps.map encI)) (hl : ps.length < 1000)
  (U : ∀ D, Upd dx (spansDict w.params t0 sp0) (spansDict w.params t0 D) news (G D))
  (hd : dp + 3 < recursionLimit) (hu : un + 300 < cLine)
  (ret : ∀ (D : Addr) (vs' : List Value) (n' : Nat) (tl : List (Addr × Obj)) (h' : Heap) (tk' : Nat), Tups tl → DatAll tl vs' ((pairs ps).map enc) → LCg.Off1 D (G D) → Fr h₀ L h' m →
    News h₀ L h' ((D, listOf vs'.toArray n') :: (G D ++ tl)) → Q .none { s with heap := h', toks := tk' }) :
  wpAny (model PySem.Challenge.pw_ok0042_01 w) (ktrTop dp un gd cn cs L a ccd cl outer) (call (.ref 90) [.ref x, .ref pl]) Q E s := by
  have hm0 := (upd_mem (U sp0)).1
  refine mrest_ok (rest := news.filter fun q => decide (q.1 ≠ dx)) (news := (dx, spansDict w.params t0 sp0) :: news.filter fun q => decide (q.1 ≠ dx)) B F X (upd_news N hm0) T hk rfl (fun q hq => by simpa using (List.mem_filter.mp hq).2) (in_rest N hx hm0 (show Value.ref 103 ≠ Value.type "dict" by decide)) (in_rest N hpl hm0 (show Value.type "list" ≠ Value.type "dict" by decide)) D hl hd hu
    (fun D vs' n' tl h' tk' hT hY o1 F' N' => ret D vs' n' tl h' tk' hT hY (off1_of fun q hq => ?_) F' (upd_back [(D, listOf vs'.toArray n')] (U D) N'))
  rcases (upd_mem (U D)).2 q hq with rfl | ⟨h5, h6⟩
  · exact off1_mem o1 _ (.head _)
  · exact off1_mem o1 _ (.tail _ (List.mem_filter.mpr ⟨h5, by simpa using h6⟩))

end
theorem kwacf : True := by
  k_with_none
  k_with "ta" => (try dsimp only)
  k_with "tb" => (try k_sweep)
  k_with "tc" => (try k_fold)
  k_with "w0" => (have hcL9 := cLine_is; (try simp only [units_in1, units_deeper, Around.mark_units, units_caller]); (try dsimp only [ktrTop]); omega)
  k_with "w1" => (k_here; (with_reducible show wpAny _ _ (call (Value.ref 126) _) _ _ _); k_dflt (refine' draw_use ?k1_2753 ?k2_2753 ?k3_2753 ?k4_2753 ?k5_2753 ?kK_2753 ?U_2753 ?hi_2753 ?hl_2753 ?hm_2753 ?hm2_2753 ?hd_2753 ?hu_2753 ?_; (case k1_2753 => k_asm); (case k2_2753 => k_asm); (case k3_2753 => k_asm); (case k4_2753 => k_asm); (case k5_2753 => k_asm); (case kK_2753 => first | exact rfl | assumption); (case U_2753 => (intro _ _; k_upd)); (case hi_2753 => with_reducible assumption); (case hl_2753 => assumption); (case hm_2753 => omega); (case hm2_2753 => omega); (case hd_2753 => ktr_room); (case hu_2753 => ke_room)))
  k_with "w2" => (k_here; (with_reducible show wpAny _ _ (call (Value.ref 114) _) _ _ _); k_dflt (refine' moved_ok ?k1_267c ?k2_267c ?k3_267c ?k4_267c ?k5_267c ?kK_267c ?hm_267c ?hd_267c ?hu_267c ?_; (case k1_267c => k_asm); (case k2_267c => k_asm); (case k3_267c => k_asm); (case k4_267c => k_asm); (case k5_267c => k_asm); (case kK_267c => first | exact rfl | assumption); (case hm_267c => k_mem); (case hd_267c => ktr_room); (case hu_267c => ke_room)))
  k_with "w3" => (refine' code_defC ?k1_73de ?k2_73de ?k3_73de ?k4_73de ?k5_73de ?kA_73de ?kF_73de ?kK_73de ?k6_73de ?k7_73de ?k8_73de ?k9_73de ?kB_73de ?kD_73de ?_ ?c2_73de ?c3_73de ?c4_73de; (case kA_73de => exact rfl); (case kF_73de => exact rfl); (case kK_73de => assumption); (case k1_73de => k_asm); (case k2_73de => k_asm); (case k3_73de => k_asm); (case k4_73de => k_asm); (case k5_73de => k_asm); (case k6_73de => k_is); (case k7_73de => k_is); (case k8_73de => ktr_room); (case k9_73de => exact BindsTo.of_eq rfl); (case kB_73de => exact rfl); (case kD_73de => decide +kernel); (case c2_73de => exact rfl); (case c3_73de => exact rfl); (case c4_73de => exact rfl); k_whole)
  k_with "w4" => (refine' code_def ?k1_91da ?k2_91da ?k3_91da ?k4_91da ?k5_91da ?kA_91da ?kF_91da ?kK_91da ?k6_91da ?k7_91da ?k8_91da ?k9_91da ?kB_91da ?_ ?c2_91da ?c3_91da ?c4_91da ?c5_91da; (case kA_91da => exact rfl); (case kF_91da => exact rfl); (case kK_91da => first | exact rfl | assumption); (case k1_91da => k_asm); (case k2_91da => k_asm); (case k3_91da => k_asm); (case k4_91da => k_asm); (case k5_91da => k_asm); (case k6_91da => k_is); (case k7_91da => k_is); (case k8_91da => ktr_room); (case k9_91da => exact BindsTo.of_eq rfl); (case c5_91da => decide); (case kB_91da => exact locs rfl); (case c2_91da => exact rfl); (case c3_91da => exact rfl); (case c4_91da => exact rfl); k_whole)
  k_with "w5" => (refine' code_defC ?k1_e452 ?k2_e452 ?k3_e452 ?k4_e452 ?k5_e452 ?kA_e452 ?kF_e452 ?kK_e452 ?k6_e452 ?k7_e452 ?k8_e452 ?k9_e452 ?kB_e452 ?kD_e452 ?_ ?c2_e452 ?c3_e452 ?c4_e452; (case kA_e452 => exact rfl); (case kF_e452 => exact rfl); (case kK_e452 => first | exact rfl | assumption); (case k1_e452 => k_asm); (case k2_e452 => k_asm); (case k3_e452 => k_asm); (case k4_e452 => k_asm); (case k5_e452 => k_asm); (case k6_e452 => k_is); (case k7_e452 => k_is); (case k8_e452 => ktr_room); (case k9_e452 => exact BindsTo.of_eq rfl); (case kB_e452 => exact rfl); (case kD_e452 => decide +kernel); (case c2_e452 => exact rfl); (case c3_e452 => exact rfl); (case c4_e452 => exact rfl); k_whole)
  k_with "w6" => (k_here; (with_reducible show wpAny _ _ (subscriptTail _ (PySem.Expr.Slice _ _ none _) (Value.ref _) (Value.ref _)) _ _ _); k_dflt (refine' slice_to ?F_7f9f ?N_7f9f ?l_7f9f ?p_7f9f ?q_7f9f ?e_7f9f ?z_7f9f ?_ ?s_7f9f ?t_7f9f; (case F_7f9f => k_asm); (case N_7f9f => k_asm); (case l_7f9f => k_mem); (case p_7f9f => kmk_part); (case q_7f9f => kmk_part); (case e_7f9f => first | exact pick_upto (by omega) | exact pick_from (by omega) | exact pick_part (by omega) (by omega) | exact pick_less (by omega)); (case s_7f9f => with_unfolding_all rfl); (case t_7f9f => kmk_pure); (case z_7f9f => omega)))
  k_with "w7" => (k_here; (with_reducible show wpAny _ _ (call (Value.type _) [Value.ref _]) _ _ _); k_dflt (first | (refine' copyL ?F_06eb ?N_06eb ?m_06eb ?z_06eb ?_; (case F_06eb => k_asm); (case N_06eb => k_asm); (case m_06eb => k_mem); (case z_06eb => omega)) | (refine' copyT ?F_06eb ?N_06eb ?m_06eb ?_; (case F_06eb => k_asm); (case N_06eb => k_asm); (case m_06eb => k_mem))))
  k_with "w8" => (k_here; (with_reducible show wpAny _ _ (binaryOp _ (Value.ref _) (Value.ref _)) _ _ _); k_dflt (refine' addL ?F_f34b ?N_f34b ?a_f34b ?b_f34b ?z_f34b ?_; (case F_f34b => k_asm); (case N_f34b => k_asm); (case a_f34b => k_mem); (case b_f34b => k_mem); (case z_f34b => first | omega | (simp only [List.length_cons, List.length_nil]; omega))))
  k_with "w9" => (refine neN ?_; (try dsimp only); first | with_reducible assumption | (with_reducible refine Ne.symm ?_; with_reducible assumption) | (with_reducible refine Nat.ne_of_lt ?_; with_reducible assumption) | (with_reducible refine Nat.ne_of_gt ?_; with_reducible assumption))
  k_with "w10" => first | with_reducible assumption | exact in_of_fr (by with_reducible assumption) (by with_reducible assumption)
  k_with "w11" => (k_here; (with_reducible show wpAny _ _ (call (Value.ref 119) _) _ _ _); k_dflt (refine' ldeck_ok ?k1_e407 ?k2_e407 ?k3_e407 ?k4_e407 ?k5_e407 ?kK_e407 ?hl_e407 ?hi_e407 ?hn_e407 ?hd_e407 ?hu_e407 ?_; (case k1_e407 => k_asm); (case k2_e407 => k_asm); (case k3_e407 => k_asm); (case k4_e407 => k_asm); (case k5_e407 => k_asm); (case kK_e407 => first | exact rfl | assumption); (case hl_e407 => assumption); (case hi_e407 => assumption); (case hn_e407 => omega); (case hd_e407 => ktr_room); (case hu_e407 => ke_room)))
  k_with "w12" => (k_here; (with_reducible show wpAny _ _ (call (Value.ref 133) _) _ _ _); k_dflt (refine' lspan_use ?k1_0801 ?k2_0801 ?k3_0801 ?k4_0801 ?k5_0801 ?kK_0801 ?U_0801 ?hi_0801 ?hl_0801 ?h0_0801 ?h1_0801 ?hd_0801 ?hu_0801 ?_; (case k1_0801 => k_asm); (case k2_0801 => k_asm); (case k3_0801 => k_asm); (case k4_0801 => k_asm); (case k5_0801 => k_asm); (case kK_0801 => first | exact rfl | assumption); (case U_0801 => (intro _ _; k_upd)); (case hi_0801 => with_reducible assumption); (case hl_0801 => assumption); (case h0_0801 => omega); (case h1_0801 => first | with_reducible assumption | omega); (case hd_0801 => ktr_room); (case hu_0801 => ke_room)))
  k_with "w13" => (k_here; (with_reducible show wpAny _ _ (call (Value.ref 100) _) _ _ _); k_dflt (refine' mrepl_use ?k1_76bf ?k2_76bf ?k3_76bf ?k4_76bf ?k5_76bf ?kK_76bf ?hx_76bf ?hsp_76bf ?D_76bf ?sub_76bf ?TL_76bf ?hl_76bf ?U_76bf ?hd_76bf ?hu_76bf ?_; (case k1_76bf => k_asm); (case k2_76bf => k_asm); (case k3_76bf => k_asm); (case k4_76bf => k_asm); (case k5_76bf => k_asm); (case kK_76bf => first | exact rfl | assumption); (case hx_76bf => k_mem); (case U_76bf => (intro _; k_upd)); (case hsp_76bf => k_mem); (case D_76bf => with_reducible assumption); (case sub_76bf => kqd_sub); (case TL_76bf => with_reducible assumption); (case hl_76bf => first | with_reducible assumption | omega); (case hd_76bf => ktr_room); (case hu_76bf => ke_room)))
  k_with "w14" => (k_here; (with_reducible show wpAny _ _ (call (Value.ref 83) _) _ _ _); k_dflt (refine' mlist_ok ?k1_935b ?k2_935b ?k3_935b ?k4_935b ?k5_935b ?kK_935b ?hx_935b ?hdx_935b ?hsp_935b ?D_935b ?sub_935b ?hl_935b ?hd_935b ?hu_935b ?_; (case k1_935b => k_asm); (case k2_935b => k_asm); (case k3_935b => k_asm); (case k4_935b => k_asm); (case k5_935b => k_asm); (case kK_935b => first | exact rfl | assumption); (case hx_935b => k_mem); (case hdx_935b => k_mem); (case hsp_935b => k_mem); (case D_935b => with_reducible assumption); (case sub_935b => kqd_sub); (case hl_935b => first | with_reducible assumption | omega); (case hd_935b => ktr_room); (case hu_935b => ke_room)))
  k_with "w15" => (k_here; (with_reducible show wpAny _ _ (call (Value.ref 90) _) _ _ _); k_dflt (refine' mrest_use ?k1_53a1 ?k2_53a1 ?k3_53a1 ?k4_53a1 ?k5_53a1 ?kK_53a1 ?hx_53a1 ?hpl_53a1 ?D_53a1 ?hl_53a1 ?U_53a1 ?hd_53a1 ?hu_53a1 ?_; (case k1_53a1 => k_asm); (case k2_53a1 => k_asm); (case k3_53a1 => k_asm); (case k4_53a1 => k_asm); (case k5_53a1 => k_asm); (case kK_53a1 => first | exact rfl | assumption); (case hx_53a1 => k_mem); (case U_53a1 => (intro _; k_upd)); (case hpl_53a1 => k_mem); (case D_53a1 => first | with_reducible assumption | exact (by with_reducible assumption : ∀ t : Tok, DatAll [] (_ ++ [Value.int 1 t]) _) _); (case hl_53a1 => first | with_reducible assumption | omega); (case hd_53a1 => ktr_room); (case hu_53a1 => ke_room)))
  k_with "w16" => (k_here; (with_reducible show wpAny _ _ (call (Value.ref 95) _) _ _ _); k_dflt (refine' mtran_use ?k1_e468 ?k2_e468 ?k3_e468 ?k4_e468 ?k5_e468 ?kK_e468 ?hx_e468 ?hsp_e468 ?D_e468 ?sub_e468 ?TL_e468 ?hl_e468 ?U_e468 ?hd_e468 ?hu_e468 ?_; (case k1_e468 => k_asm); (case k2_e468 => k_asm); (case k3_e468 => k_asm); (case k4_e468 => k_asm); (case k5_e468 => k_asm); (case kK_e468 => first | exact rfl | assumption); (case hx_e468 => k_mem); (case U_e468 => (intro _; k_upd)); (case hsp_e468 => k_mem); (case D_e468 => with_reducible assumption); (case sub_e468 => kqd_sub); (case TL_e468 => with_reducible assumption); (case hl_e468 => first | with_reducible assumption | omega); (case hd_e468 => ktr_room); (case hu_e468 => ke_room)))
  k_with "w17" => (k_here; (with_reducible show wpAny _ _ (call (Value.ref 157) _) _ _ _); k_dflt (refine' llist_ok ?k1_8c8e ?k2_8c8e ?k3_8c8e ?k4_8c8e ?k5_8c8e ?kK_8c8e ?hsp_8c8e ?D_8c8e ?sub_8c8e ?hl_8c8e ?hd_8c8e ?hu_8c8e ?_; (case k1_8c8e => k_asm); (case k2_8c8e => k_asm); (case k3_8c8e => k_asm); (case k4_8c8e => k_asm); (case k5_8c8e => k_asm); (case kK_8c8e => first | exact rfl | assumption); (case hsp_8c8e => k_mem); (case D_8c8e => with_reducible assumption); (case sub_8c8e => kqd_sub); (case hl_8c8e => first | with_reducible assumption | omega); (case hd_8c8e => ktr_room); (case hu_8c8e => ke_room)))
  k_with "w18" => (k_here; (with_reducible show wpAny _ _ (binaryOp _ (Value.ref _) (Value.ref _)) _ _ _); k_dflt (refine' addL ?F_261b ?N_261b ?a_261b ?b_261b ?z_261b ?_; (case F_261b => k_asm); (case N_261b => k_asm); (case a_261b => k_mem); (case b_261b => k_mem); (case z_261b => first | omega | (simp only [List.length_cons, List.length_nil, List.length_replicate]; omega))))
  k_with "w19" => (k_here; (with_reducible show wpAny _ _ (binaryOp Operator.Mult (Value.ref _) (Value.int _ _)) _ _ _); k_dflt (refine' mulN ?F_1ba3 ?N_1ba3 ?l_1ba3 ?e_1ba3 ?z_1ba3 ?_; (case F_1ba3 => k_asm); (case N_1ba3 => k_asm); (case l_1ba3 => k_mem); (case e_1ba3 => with_reducible assumption); (case z_1ba3 => omega)))
  k_with "WPost" => (dsimp only [WPost])
  k_with "call builtin:len" => (k_here; (with_reducible show wpAny _ _ (call (Value.builtin "len") [Value.ref _]) _ _ _); k_dflt (refine' kd_len ?k1_b0c9 ?k2_b0c9 ?k3_b0c9 ?k4_b0c9 ?_; (case k1_b0c9 => k_asm); (case k2_b0c9 => k_mem); (case k3_b0c9 => with_reducible assumption); (case k4_b0c9 => first | with_reducible exact len63 (by assumption) | omega); k_whole))
  k_with "subscriptTail" => (k_here; (with_reducible show wpAny _ _ (subscriptTail _ _ (Value.ref _) (Value.int _ _)) _ _ _); k_dflt (refine' item_dat ?k1_b351 ?k2_b351 ?k3_b351 ?k4_b351 ?k5_b351 ?k6_b351 ?_ ?k7_b351; (case k1_b351 => k_asm); (case k2_b351 => k_mem); (case k3_b351 => with_reducible assumption); (case k4_b351 => omega); (case k5_b351 => omega); (case k6_b351 => omega); (case k7_b351 => with_unfolding_all rfl); k_whole); intro _ _)
  trivial

theorem kwacg : True := by
  k_with "subscriptTail" => (k_here; (with_reducible show wpAny _ _ (subscriptTail _ _ (Value.ref _) (Value.int _ _)) _ _ _); k_dflt (refine' item_at ?k1_c249 ?k2_c249 ?k3_c249 ?k5_c249 ?k6_c249 ?_ ?k7_c249; (case k1_c249 => k_asm); (case k2_c249 => k_mem); (case k3_c249 => with_reducible assumption); (case k5_c249 => omega); (case k6_c249 => omega); (case k7_c249 => with_unfolding_all rfl); k_whole))
  k_with "exec For Name Call cons nil" => (k_here; refine halt_in ?_)
  k_with "exec For Name Subscript cons nil" => (k_here; refine halt_in ?_)
  k_with "exec For Name Name cons nil" => (k_here; refine halt_in ?_)
  k_with "pyIter ref" => (k_here; (with_reducible show wpAny _ _ (pyIter (Value.ref _)) (fun it s₂ => LoopAtV _ _ _ _ _ _ _ _ _ it s₂) _ _); refine halt_in ?_)
  k_with "call type:range" => (k_here; k_dflt (first | (refine' range1_rows ?F_0dec ?N_0dec ?_; (case F_0dec => k_asm); (case N_0dec => k_asm); k_whole) | (refine' range2_rows ?F_0dec ?N_0dec ?_; (case F_0dec => k_asm); (case N_0dec => k_asm); k_whole) | (refine' range3_rows ?F_0dec ?N_0dec ?c_0dec ?_ ?p_0dec; (case F_0dec => k_asm); (case N_0dec => k_asm); (case c_0dec => decide); (case p_0dec => exact Or.inl (PyProof.noPylong_small (by omega))); k_whole)); intro _ _ _ _ _ _ _ _ _; (try dsimp only))
  k_with "call builtin:list.append" => (k_here; (with_reducible show wpAny _ _ (call (Value.builtin _) [Value.ref _, _]) _ _ _); k_dflt (refine' append_K ?k1_2bc2 ?k2_2bc2 ?k3_2bc2 ?_ ?z_2bc2; (case k1_2bc2 => k_asm); (case k2_2bc2 => k_asm); (case k3_2bc2 => k_upd); (case z_2bc2 => (simp only [List.size_toArray, sizeLine]; omega)); k_whole); intro _ _ _)
  k_with "exec While" => (k_here; refine halt_in ?_)
  trivial
local macro_rules | `(tactic| walk_at "subscriptTail Name Slice ref ref") => mw "w6" "D' h' F' N' l1" "eb"
section
theorem clampN {y : Int} {n : Nat} (h : 0 ≤ y) : max 0 (min y (n : Int)) = ((min y.toNat n : Nat) : Int) := by
  obtain ⟨k, rfl⟩ := Int.eq_ofNat_of_zero_le h
  rw [Int.toNat_natCast]
  omega
theorem pick_upto {vs : List Value} {y : Int} (h : 0 ≤ y) : slicePick vs.toArray none (some y) none = (vs.take y.toNat).toArray := by
  have e : sliceBounds none (some y) none vs.toArray.size = (((0 : Nat) : Int), ((min y.toNat vs.toArray.size : Nat) : Int), 1) := by
    simp only [sliceBounds, Option.getD_none, show (1 : Int) > 0 by decide, if_true, if_neg (show ¬ (y < 0) by omega)]
    congr 1
    congr 1
    exact clampN h
  rw [kmk_pick_nat _ e]
  show ((vs.drop 0).take (min y.toNat vs.toArray.size - 0)).toArray = _
  rw [List.drop_zero, Nat.sub_zero, List.size_toArray, kmk_take_min]
theorem pick_from {vs : List Value} {x : Int} (h : 0 ≤ x) : slicePick vs.toArray (some x) none none = (vs.drop x.toNat).toArray := by
  have e : sliceBounds (some x) none none vs.toArray.size = (((min x.toNat vs.toArray.size : Nat) : Int), ((vs.toArray.size : Nat) : Int), 1) := by
    simp only [sliceBounds, Option.getD_none, show (1 : Int) > 0 by decide, if_true, if_neg (show ¬ (x < 0) by omega)]
    congr 1
    exact clampN h
  rw [kmk_pick_nat _ e]
  show ((vs.drop (min x.toNat vs.toArray.size)).take (vs.toArray.size - min x.toNat vs.toArray.size)).toArray = _
  rw [List.size_toArray, kmk_drop_min, List.take_of_length_le (by rw [List.length_drop]; omega)]
theorem pick_part {vs : List Value} {x y : Int} (h : 0 ≤ x) (h2 : 0 ≤ y) : slicePick vs.toArray (some x) (some y) none = ((vs.drop x.toNat).take (y.toNat - x.toNat)).toArray := by
  have e : sliceBounds (some x) (some y) none vs.toArray.size = (((min x.toNat vs.toArray.size : Nat) : Int), ((min y.toNat vs.toArray.size : Nat) : Int), 1) := by
    simp only [sliceBounds, Option.getD_none, show (1 : Int) > 0 by decide, if_true, if_neg (show ¬ (x < 0) by omega), if_neg (show ¬ (y < 0) by omega)]
    congr 1
    · exact clampN h
    · congr 1
      exact clampN h2
  rw [kmk_pick_nat _ e]
  show ((vs.drop (min x.toNat vs.toArray.size)).take (min y.toNat vs.toArray.size - min x.toNat vs.toArray.size)).toArray = _
  rw [List.size_toArray, kmk_drop_min]
  congr 1
  by_cases hx : x.toNat ≤ vs.length
  · by_cases hy : y.toNat ≤ vs.length
    · rw [Nat.min_eq_left hx, Nat.min_eq_left hy]
    · rw [Nat.min_eq_left hx, Nat.min_eq_right (by omega), List.take_of_length_le (by rw [List.length_drop]; omega), List.take_of_length_le (by rw [List.length_drop]; omega)]
  · rw [List.drop_of_length_le (by omega), List.take_nil, List.take_nil]
theorem pick_less {vs : List Value} {y : Int} (h : y < 0) : slicePick vs.toArray none (some y) none = (vs.take (vs.length - (-y).toNat)).toArray := by
  have e : sliceBounds none (some y) none vs.toArray.size = (((0 : Nat) : Int), ((vs.toArray.size - (-y).toNat : Nat) : Int), 1) := by
    simp only [sliceBounds, Option.getD_none, show (1 : Int) > 0 by decide, if_true, if_pos h]
    congr 1
    congr 1
    omega
  rw [kmk_pick_nat _ e]
  show ((vs.drop 0).take (vs.toArray.size - (-y).toNat - 0)).toArray = _
  rw [List.drop_zero, Nat.sub_zero, List.size_toArray]
section
variable {prog : Program} {w : World} {A : Around} {E : Value → Shared → Prop} {s : Shared} {h₀ : Heap} {L l : Addr} {m : Str → Option Value} {news : List (Addr × Obj)} {value slice : PySem.Expr} {vs zs : List Value} {n : Nat} {vl vu : Value} {lo hi : Option Int} {Q : Value → Shared → Prop}
theorem slice_to (F : Fr h₀ L s.heap m) (N : News h₀ L s.heap news) (hm : (l, listOf vs.toArray n) ∈ news) (pl : IsPart vl lo) (pu : IsPart vu hi) (e : slicePick vs.toArray lo hi none = zs.toArray) (hz : vs.length < 100000)
    (h : ∀ D h', Fr h₀ L h' m → News h₀ L h' ((D, listOf zs.toArray 0) :: news) → (∀ p ∈ news, p.1 < D) → Q (.ref D) { s with heap := h' })
    (hs : subscripted slice false (.ref l) (.ref s.heap.objs.size) = operate [.ref s.heap.objs.size, .ref l] (getItem (.ref l) (.ref s.heap.objs.size))) (ht : ∀ r, letTemporaryGo value (.ref l) r = pure ()) :
    wpAny (model prog w) A (subscriptTail value slice (.ref l) (.ref s.heap.objs.size)) Q E { s with heap := s.heap.push { cls := .type "slice", data := .fields #[vl, vu, .none] } } := by
  refine kmk_slice F N ⟨_, (N _ hm).1, rfl, n, rfl⟩ pl pu (fun D h' F' N' l1 => h D h' F' ?_ l1) hs ht (by rw [List.size_toArray]; simp only [sizeLine]; omega)
  rw [← e]; exact N'
end

theorem ext2 {prog : Program} {w : World} {A : Around} {E : Value → Shared → Prop} {s : Shared} {h₀ : Heap} {L D b : Addr} {m : Str → Option Value} {news news' : List (Addr × Obj)} {us : List Value} {x y : Value} {n n2 : Nat} {Q : Value → Shared → Prop} (F : Fr h₀ L s.heap m) (N : News h₀ L s.heap news) (hb : (b, listOf [x, y].toArray n2) ∈ news)
    (U : Upd D (listOf us.toArray n) (listOf (us ++ [x, y]).toArray (n + 1)) news news') (hz : us.length < 10000) (h : ∀ h', Fr h₀ L h' m → News h₀ L h' news' → Q .none { s with heap := h' }) :
    wpAny (model prog w) A (call (.builtin "list.extend") [.ref D, .ref b]) Q E s :=
  kl_extend F N hb (by simp) (by simp) U (by simp [Builtin.List.listTooLong, sizeLine]; omega) (by simp [sizeLine]; omega) (by simp [sizeLine]; omega) h

theorem kwach : True := by
  k_with "call builtin:list.extend" => (k_here; (with_reducible show wpAny _ _ (call (Value.builtin _) [Value.ref _, Value.ref _]) _ _ _); k_dflt (refine' ext2 ?F_5b0c ?N_5b0c ?b_5b0c ?U_5b0c ?z_5b0c ?_; (case F_5b0c => k_asm); (case N_5b0c => k_asm); (case b_5b0c => k_mem); (case U_5b0c => k_upd); (case z_5b0c => omega)); intro _ _ _)
  trivial
/-- a list of groups without those at its end that took no part; its places in a row -/
def strip {α : Type} : List (Option α) → List (Option α)
  | [] => []
  | none :: r => (match strip r with
    | [] => []
    | r' => none :: r')
  | some x :: r => some x :: strip r
def flat : List (Option (Int × Int)) → List (Option Int)
  | [] => []
  | o :: r => o.map Prod.fst :: o.map Prod.snd :: flat r
theorem strip_none {α : Type} : ∀ l : List (Option α), strip (l ++ [none]) = strip l
  | [] => rfl
  | none :: r => by rw [List.cons_append, strip, strip, strip_none r]
  | some x :: r => by rw [List.cons_append, strip, strip, strip_none r]
theorem strip_some {α : Type} (x : α) : ∀ l : List (Option α), strip (l ++ [some x]) = l ++ [some x]
  | [] => rfl
  | none :: r => by
    rw [List.cons_append, strip, strip_some x r]
    cases r <;> rfl
  | some y :: r => by rw [List.cons_append, strip, strip_some x r]
theorem flat_app : ∀ l r : List (Option (Int × Int)), flat (l ++ r) = flat l ++ flat r
  | [], _ => rfl
  | o :: l, r => by rw [List.cons_append, flat, flat, flat_app l r]; rfl

theorem datAll_take {news : List (Addr × Obj)} : ∀ {vs : List Value} {ds : List Dat} (k : Nat), DatAll news vs ds → DatAll news (vs.take k) (ds.take k)
  | _, _, 0, _ => by rw [List.take_zero, List.take_zero]; exact .nil
  | _, _, _ + 1, .nil => .nil
  | _, _, k + 1, .cons h r => .cons h (datAll_take k r)
theorem flat_length : ∀ os : List (Option (Int × Int)), (flat os).length = 2 * os.length
  | [] => rfl
  | _ :: r => by rw [flat, List.length_cons, List.length_cons, flat_length r, List.length_cons]; omega
theorem mlist_ok {w : World} {p : Program} {loose : List Str} {mean : ExcName → Option Value} {mg mb : Str → Option Value} {dp un : Nat} {gd : Option (List Code)} {cn : Str} {cs : Scope} {a : Addr} {ccd : Value} {cl : List (Str × Addr)} {outer : List Env} {A₀ : Around} {base h₀ : Heap} {L : Addr} {m : Str → Option Value} {s : Shared} {Q E : Value → Shared → Prop} {news : List (Addr × Obj)} {x dx sp : Addr} {t0 : Tok} {vs : List Value} {k : Nat} {os : List (Option (Int × Int))} {L9 : List (Addr × Obj)}
  (B : Below A₀ base outer h₀) (F : Fr h₀ L s.heap m) (X : (Mine.hd.heap_39 w.params).In h₀) (N : News h₀ L s.heap news) (T : Top p loose mean mg mb h₀) (hk : cs.kind = .function) (hx : (x, instObj 103 dx) ∈ news) (hdx : (dx, spansDict w.params t0 sp) ∈ news) (hsp : (sp, listOf vs.toArray k) ∈ news) (D : DatAll L9 vs (os.map enc)) (sub : ∀ p ∈ L9, p ∈ news) (hl : os.length < 1000)
  (hd : dp + 2 < recursionLimit) (hu : un + 200 < cLine)
  (ret : ∀ (D : Addr) (vs' : List Value) (n' : Nat) (h' : Heap) (tk' : Nat), DatAll [] vs' ((flat (strip os)).map encI) → (∀ q ∈ news, q.1 < D) → Fr h₀ L h' m → News h₀ L h' ((D, listOf vs'.toArray n') :: news) → Q (.ref D) { s with heap := h', toks := tk' }) :
  wpAny (model PySem.Challenge.pw_ok0042_01 w) (ktrTop dp un gd cn cs L a ccd cl outer) (call (.ref 83) [.ref x]) Q E s := by
  have hlen : ((os.map enc).length : Int) < 1000 := by rw [List.length_map]; omega
  show Keep PySem.Challenge.rw_ok0042_01 Mine.hd.heap_39 (wpAny _ _ _ _ _ _)
  k_fill
  unfold Keep
  refine wpAny_call ?_
  k_dflt cell_enter
  rename_i g LL h1 FG F0 N0 B0 X0 T0
  w_strict k_steps
  unfold Halt
  rename Fr _ _ _ _ => F1
  rename News _ _ _ _ => N1
  rw [List.length_map] at F1
  have hvl := D.length
  rw [List.length_map] at hvl
  refine wpAny_mono (Q := Exit fun s' => ∃ (j : Nat) (t : Tok) (h' : Heap) (tk' : Nat), s' = { s with heap := h', toks := tk' } ∧ j ≤ os.length ∧ os.take j = strip os ∧ Fr g LL h' (fun y => if y = Str.ofString "many" then some (.int (j : Int) t) else List.lookup y [(Str.ofString "self", .ref x)]) ∧ News g LL h' news) ?_ ?_ (fun _ _ e => e)
  · refine whl_inv (fun j s' => ∃ (t : Tok) (h' : Heap) (tk' : Nat), s' = { s with heap := h', toks := tk' } ∧ j ≤ os.length ∧ strip (os.take j) = strip os ∧ Fr g LL h' (fun y => if y = Str.ofString "many" then some (.int (j : Int) t) else List.lookup y [(Str.ofString "self", .ref x)]) ∧ News g LL h' news)
      os.length ⟨_, _, _, rfl, Nat.le_refl _, by rw [List.take_length], F1, N1⟩ (by with_unfolding_all passes_own) ?_
    clear F1 N1
    rintro R j _ ⟨t, h1, tk1, rfl, hj, hs, F2, N2⟩ IH
    by_cases h0 : j = 0
    · subst h0
      w_strict k_steps
      exact ⟨0, _, _, _, rfl, by omega, by simpa [strip] using hs, by k_asm, by k_asm⟩
    · obtain ⟨v, hv, hv2⟩ := D.get (k := j - 1) (by rw [List.length_map]; omega)
      have hv3 : DatIn L9 v (enc (os.getD (j - 1) none)) := by
        rw [← getD_enc, List.getD_eq_getElem?_getD, List.getElem?_eq_getElem (by rw [List.length_map]; omega)]; exact hv2
      clear hv2
      have ej : ((j : Int) - 1).toNat = j - 1 := by omega
      have et : os.take j = os.take (j - 1) ++ [os.getD (j - 1) none] := by
        have e1 : j = (j - 1) + 1 := by omega
        rw [e1, take_more (o := os.getD (j - 1) none) (by rw [List.getD_eq_getElem?_getD, List.getElem?_eq_getElem (by omega)]; rfl)]
        rfl
      rw [← ej] at hv
      rcases datIn_enc hv3 with ⟨e3, rfl⟩ | ⟨a9, b9, t9, u9, ad, n9, e3, rfl, hm⟩
      · w_strict k_steps
        rename Fr g LL _ _ => F9
        have F10 := fr_same F9
        have ec : (j : Int) - 1 = ((j - 1 : Nat) : Int) := by omega
        rw [ec] at F10
        exact IH (j - 1) _ (by omega) ⟨_, _, _, rfl, by omega, by rw [et, e3, strip_none] at hs; exact hs, F10, by k_asm⟩
      · have hm9 := sub _ hm
        w_strict k_steps
        exact ⟨j, _, _, _, rfl, by omega, by rw [et, e3, strip_some] at hs; rw [et, e3]; exact hs, by k_asm, by k_asm⟩
  · rintro f s' hq
    cases f <;> try exact hq.elim
    obtain ⟨j, t, h1, tk1, rfl, hj, hs, F2, N2⟩ := hq
    clear F1 N1
    dsimp only
    w_strict k_steps
    unfold Halt
    with_unfolding_all refine For_invVF (by k_asm) (by rfl) (by rfl) ?_
    w_strict k_steps
    rename_i fd _ lfd _ DL _ F3 N3 l3
    unfold Halt
    have hjn : ((j : Int)).toNat = j := by omega
    rw [hjn] at N3
    have D2 := datAll_take j D
    rw [← List.map_take] at D2
    have hvl2 : (vs.take j).length = j := by rw [List.length_take]; omega
    refine kdl_iter (nn := 0) (vs := vs.take j) (fun i m nx => m (Str.ofString "found") = some (.ref fd) ∧ ∃ vs' n', nx = (fd, listOf vs'.toArray n') :: (DL, listOf (vs.take j).toArray 0) :: news ∧ DatAll [] vs' ((flat ((os.take j).take i)).map encI))
      (news := (fd, listOf #[] 0) :: (DL, listOf (vs.take j).toArray 0) :: news) (by rfl) (.tail _ (.head _)) F3 (fun q hq => N3 q (by rcases List.mem_cons.mp hq with rfl | hq; exact .tail _ (.head _); rcases List.mem_cons.mp hq with rfl | hq; exact .head _; exact .tail _ (.tail _ hq))) ⟨by rfl, [], 0, rfl, .nil⟩ ?_ ?_
    · rintro i v m₁ nx h tk own hvi offO hDLm ⟨e1, vs', n', rfl, hY⟩ F4 N4
      simp only [List.cons_append] at N4
      simp only [List.map_cons] at offO
      have F5 := fr_know (x := Str.ofString "found") F4 (by rw [if_neg (by decide)]; exact e1)
      clear F4 F3 N3
      obtain ⟨o, ho, hDo⟩ := dat_at_enc D2 (by simpa using hvi)
      have hvs : vs'.length < 3000 := by have h9 := hY.length; rw [List.length_map, flat_length, List.length_take, List.length_take] at h9; omega
      have offF : OwnOff (news ++ own) [fd] := fun q hq b hb => by
        rw [List.mem_singleton.mp hb]
        rcases List.mem_append.mp hq with hq | hq
        · exact Nat.ne_of_lt (lfd q hq)
        · exact offO q hq fd (.head _)
      rcases datIn_enc hDo with ⟨rfl, rfl⟩ | ⟨a9, b9, t9, u9, ad, n9, rfl, rfl, hm⟩
      · w_strict k_steps
        refine InvEndG.intro (by k_asm) (by k_asm) ⟨.tail _ (.head _), by rfl, vs' ++ [_, _], _, rfl, ?_⟩ offO (by kqd_sub) (by kqd_sub)
        rw [take_more ho, flat_app, List.map_append]
        exact hY.append (.cons .none (.cons .none .nil))
      · have hm9 := List.mem_append_left own (sub _ hm)
        w_strict k_steps
        refine InvEndG.intro (by k_asm) (by k_asm) ⟨.tail _ (.head _), by rfl, vs' ++ [_, _], _, rfl, ?_⟩ offO (by kqd_sub) (by kqd_sub)
        rw [take_more ho, flat_app, List.map_append]
        exact hY.append (.cons (.int _ _) (.cons (.int _ _) .nil))
    · rintro m₁ nx h tk ⟨e1, vs', n', rfl, hY⟩ F4 N4
      have F5 := fr_know (x := Str.ofString "found") F4 e1
      clear F4 F3 N3
      rw [hvl2, List.take_take, Nat.min_self, hs] at hY
      w_strict k_steps
      exact ret fd vs' n' _ _ hY lfd (by k_asm) (cb_drop (by assumption) (by kqd_sub))

end
theorem kwaci : True := by
  k_with_none
  k_with "ta" => (try dsimp only)
  k_with "tb" => (try k_sweep)
  k_with "tc" => (try k_fold)
  k_with "w0" => (have hcL9 := cLine_is; (try simp only [units_in1, units_deeper, Around.mark_units, units_caller]); (try dsimp only [ktrTop]); omega)
  k_with "w1" => (k_here; (with_reducible show wpAny _ _ (call (Value.ref 126) _) _ _ _); k_dflt (refine' draw_use ?k1_2753 ?k2_2753 ?k3_2753 ?k4_2753 ?k5_2753 ?kK_2753 ?U_2753 ?hi_2753 ?hl_2753 ?hm_2753 ?hm2_2753 ?hd_2753 ?hu_2753 ?_; (case k1_2753 => k_asm); (case k2_2753 => k_asm); (case k3_2753 => k_asm); (case k4_2753 => k_asm); (case k5_2753 => k_asm); (case kK_2753 => first | exact rfl | assumption); (case U_2753 => (intro _ _; k_upd)); (case hi_2753 => with_reducible assumption); (case hl_2753 => assumption); (case hm_2753 => omega); (case hm2_2753 => omega); (case hd_2753 => ktr_room); (case hu_2753 => ke_room)))
  k_with "w2" => (k_here; (with_reducible show wpAny _ _ (call (Value.ref 114) _) _ _ _); k_dflt (refine' moved_ok ?k1_267c ?k2_267c ?k3_267c ?k4_267c ?k5_267c ?kK_267c ?hm_267c ?hd_267c ?hu_267c ?_; (case k1_267c => k_asm); (case k2_267c => k_asm); (case k3_267c => k_asm); (case k4_267c => k_asm); (case k5_267c => k_asm); (case kK_267c => first | exact rfl | assumption); (case hm_267c => k_mem); (case hd_267c => ktr_room); (case hu_267c => ke_room)))
  k_with "w3" => (refine' code_defC ?k1_73de ?k2_73de ?k3_73de ?k4_73de ?k5_73de ?kA_73de ?kF_73de ?kK_73de ?k6_73de ?k7_73de ?k8_73de ?k9_73de ?kB_73de ?kD_73de ?_ ?c2_73de ?c3_73de ?c4_73de; (case kA_73de => exact rfl); (case kF_73de => exact rfl); (case kK_73de => assumption); (case k1_73de => k_asm); (case k2_73de => k_asm); (case k3_73de => k_asm); (case k4_73de => k_asm); (case k5_73de => k_asm); (case k6_73de => k_is); (case k7_73de => k_is); (case k8_73de => ktr_room); (case k9_73de => exact BindsTo.of_eq rfl); (case kB_73de => exact rfl); (case kD_73de => decide +kernel); (case c2_73de => exact rfl); (case c3_73de => exact rfl); (case c4_73de => exact rfl); k_whole)
  k_with "w4" => (refine' code_def ?k1_91da ?k2_91da ?k3_91da ?k4_91da ?k5_91da ?kA_91da ?kF_91da ?kK_91da ?k6_91da ?k7_91da ?k8_91da ?k9_91da ?kB_91da ?_ ?c2_91da ?c3_91da ?c4_91da ?c5_91da; (case kA_91da => exact rfl); (case kF_91da => exact rfl); (case kK_91da => first | exact rfl | assumption); (case k1_91da => k_asm); (case k2_91da => k_asm); (case k3_91da => k_asm); (case k4_91da => k_asm); (case k5_91da => k_asm); (case k6_91da => k_is); (case k7_91da => k_is); (case k8_91da => ktr_room); (case k9_91da => exact BindsTo.of_eq rfl); (case c5_91da => decide); (case kB_91da => exact locs rfl); (case c2_91da => exact rfl); (case c3_91da => exact rfl); (case c4_91da => exact rfl); k_whole)
  k_with "w5" => (refine' code_defC ?k1_e452 ?k2_e452 ?k3_e452 ?k4_e452 ?k5_e452 ?kA_e452 ?kF_e452 ?kK_e452 ?k6_e452 ?k7_e452 ?k8_e452 ?k9_e452 ?kB_e452 ?kD_e452 ?_ ?c2_e452 ?c3_e452 ?c4_e452; (case kA_e452 => exact rfl); (case kF_e452 => exact rfl); (case kK_e452 => first | exact rfl | assumption); (case k1_e452 => k_asm); (case k2_e452 => k_asm); (case k3_e452 => k_asm); (case k4_e452 => k_asm); (case k5_e452 => k_asm); (case k6_e452 => k_is); (case k7_e452 => k_is); (case k8_e452 => ktr_room); (case k9_e452 => exact BindsTo.of_eq rfl); (case kB_e452 => exact rfl); (case kD_e452 => decide +kernel); (case c2_e452 => exact rfl); (case c3_e452 => exact rfl); (case c4_e452 => exact rfl); k_whole)
  k_with "w6" => (k_here; (with_reducible show wpAny _ _ (subscriptTail _ (PySem.Expr.Slice _ _ none _) (Value.ref _) (Value.ref _)) _ _ _); k_dflt (refine' slice_to ?F_7f9f ?N_7f9f ?l_7f9f ?p_7f9f ?q_7f9f ?e_7f9f ?z_7f9f ?_ ?s_7f9f ?t_7f9f; (case F_7f9f => k_asm); (case N_7f9f => k_asm); (case l_7f9f => k_mem); (case p_7f9f => kmk_part); (case q_7f9f => kmk_part); (case e_7f9f => first | exact pick_upto (by omega) | exact pick_from (by omega) | exact pick_part (by omega) (by omega) | exact pick_less (by omega)); (case s_7f9f => with_unfolding_all rfl); (case t_7f9f => kmk_pure); (case z_7f9f => omega)))
  k_with "w7" => (k_here; (with_reducible show wpAny _ _ (call (Value.type _) [Value.ref _]) _ _ _); k_dflt (first | (refine' copyL ?F_06eb ?N_06eb ?m_06eb ?z_06eb ?_; (case F_06eb => k_asm); (case N_06eb => k_asm); (case m_06eb => k_mem); (case z_06eb => omega)) | (refine' copyT ?F_06eb ?N_06eb ?m_06eb ?_; (case F_06eb => k_asm); (case N_06eb => k_asm); (case m_06eb => k_mem))))
  k_with "w8" => (k_here; (with_reducible show wpAny _ _ (binaryOp _ (Value.ref _) (Value.ref _)) _ _ _); k_dflt (refine' addL ?F_f34b ?N_f34b ?a_f34b ?b_f34b ?z_f34b ?_; (case F_f34b => k_asm); (case N_f34b => k_asm); (case a_f34b => k_mem); (case b_f34b => k_mem); (case z_f34b => first | omega | (simp only [List.length_cons, List.length_nil]; omega))))
  k_with "w9" => (refine neN ?_; (try dsimp only); first | with_reducible assumption | (with_reducible refine Ne.symm ?_; with_reducible assumption) | (with_reducible refine Nat.ne_of_lt ?_; with_reducible assumption) | (with_reducible refine Nat.ne_of_gt ?_; with_reducible assumption))
  k_with "w10" => first | with_reducible assumption | exact in_of_fr (by with_reducible assumption) (by with_reducible assumption)
  k_with "w11" => (k_here; (with_reducible show wpAny _ _ (call (Value.ref 119) _) _ _ _); k_dflt (refine' ldeck_ok ?k1_e407 ?k2_e407 ?k3_e407 ?k4_e407 ?k5_e407 ?kK_e407 ?hl_e407 ?hi_e407 ?hn_e407 ?hd_e407 ?hu_e407 ?_; (case k1_e407 => k_asm); (case k2_e407 => k_asm); (case k3_e407 => k_asm); (case k4_e407 => k_asm); (case k5_e407 => k_asm); (case kK_e407 => first | exact rfl | assumption); (case hl_e407 => assumption); (case hi_e407 => assumption); (case hn_e407 => omega); (case hd_e407 => ktr_room); (case hu_e407 => ke_room)))
  k_with "w12" => (k_here; (with_reducible show wpAny _ _ (call (Value.ref 133) _) _ _ _); k_dflt (refine' lspan_use ?k1_0801 ?k2_0801 ?k3_0801 ?k4_0801 ?k5_0801 ?kK_0801 ?U_0801 ?hi_0801 ?hl_0801 ?h0_0801 ?h1_0801 ?hd_0801 ?hu_0801 ?_; (case k1_0801 => k_asm); (case k2_0801 => k_asm); (case k3_0801 => k_asm); (case k4_0801 => k_asm); (case k5_0801 => k_asm); (case kK_0801 => first | exact rfl | assumption); (case U_0801 => (intro _ _; k_upd)); (case hi_0801 => with_reducible assumption); (case hl_0801 => assumption); (case h0_0801 => omega); (case h1_0801 => first | with_reducible assumption | omega); (case hd_0801 => ktr_room); (case hu_0801 => ke_room)))
  k_with "w13" => (k_here; (with_reducible show wpAny _ _ (call (Value.ref 100) _) _ _ _); k_dflt (refine' mrepl_use ?k1_76bf ?k2_76bf ?k3_76bf ?k4_76bf ?k5_76bf ?kK_76bf ?hx_76bf ?hsp_76bf ?D_76bf ?sub_76bf ?TL_76bf ?hl_76bf ?U_76bf ?hd_76bf ?hu_76bf ?_; (case k1_76bf => k_asm); (case k2_76bf => k_asm); (case k3_76bf => k_asm); (case k4_76bf => k_asm); (case k5_76bf => k_asm); (case kK_76bf => first | exact rfl | assumption); (case hx_76bf => k_mem); (case U_76bf => (intro _; k_upd)); (case hsp_76bf => k_mem); (case D_76bf => with_reducible assumption); (case sub_76bf => kqd_sub); (case TL_76bf => with_reducible assumption); (case hl_76bf => first | with_reducible assumption | omega); (case hd_76bf => ktr_room); (case hu_76bf => ke_room)))
  k_with "w14" => (k_here; (with_reducible show wpAny _ _ (call (Value.ref 83) _) _ _ _); k_dflt (refine' mlist_ok ?k1_935b ?k2_935b ?k3_935b ?k4_935b ?k5_935b ?kK_935b ?hx_935b ?hdx_935b ?hsp_935b ?D_935b ?sub_935b ?hl_935b ?hd_935b ?hu_935b ?_; (case k1_935b => k_asm); (case k2_935b => k_asm); (case k3_935b => k_asm); (case k4_935b => k_asm); (case k5_935b => k_asm); (case kK_935b => first | exact rfl | assumption); (case hx_935b => k_mem); (case hdx_935b => k_mem); (case hsp_935b => k_mem); (case D_935b => with_reducible assumption); (case sub_935b => kqd_sub); (case hl_935b => first | with_reducible assumption | omega); (case hd_935b => ktr_room); (case hu_935b => ke_room)))
  k_with "w15" => (k_here; (with_reducible show wpAny _ _ (call (Value.ref 90) _) _ _ _); k_dflt (refine' mrest_use ?k1_53a1 ?k2_53a1 ?k3_53a1 ?k4_53a1 ?k5_53a1 ?kK_53a1 ?hx_53a1 ?hpl_53a1 ?D_53a1 ?hl_53a1 ?U_53a1 ?hd_53a1 ?hu_53a1 ?_; (case k1_53a1 => k_asm); (case k2_53a1 => k_asm); (case k3_53a1 => k_asm); (case k4_53a1 => k_asm); (case k5_53a1 => k_asm); (case kK_53a1 => first | exact rfl | assumption); (case hx_53a1 => k_mem); (case U_53a1 => (intro _; k_upd)); (case hpl_53a1 => k_mem); (case D_53a1 => first | with_reducible assumption | exact (by with_reducible assumption : ∀ t : Tok, DatAll [] (_ ++ [Value.int 1 t]) _) _); (case hl_53a1 => first | with_reducible assumption | omega); (case hd_53a1 => ktr_room); (case hu_53a1 => ke_room)))
  k_with "w16" => (k_here; (with_reducible show wpAny _ _ (call (Value.ref 95) _) _ _ _); k_dflt (refine' mtran_use ?k1_e468 ?k2_e468 ?k3_e468 ?k4_e468 ?k5_e468 ?kK_e468 ?hx_e468 ?hsp_e468 ?D_e468 ?sub_e468 ?TL_e468 ?hl_e468 ?U_e468 ?hd_e468 ?hu_e468 ?_; (case k1_e468 => k_asm); (case k2_e468 => k_asm); (case k3_e468 => k_asm); (case k4_e468 => k_asm); (case k5_e468 => k_asm); (case kK_e468 => first | exact rfl | assumption); (case hx_e468 => k_mem); (case U_e468 => (intro _; k_upd)); (case hsp_e468 => k_mem); (case D_e468 => with_reducible assumption); (case sub_e468 => kqd_sub); (case TL_e468 => with_reducible assumption); (case hl_e468 => first | with_reducible assumption | omega); (case hd_e468 => ktr_room); (case hu_e468 => ke_room)))
  k_with "w17" => (k_here; (with_reducible show wpAny _ _ (call (Value.ref 157) _) _ _ _); k_dflt (refine' llist_ok ?k1_8c8e ?k2_8c8e ?k3_8c8e ?k4_8c8e ?k5_8c8e ?kK_8c8e ?hsp_8c8e ?D_8c8e ?sub_8c8e ?hl_8c8e ?hd_8c8e ?hu_8c8e ?_; (case k1_8c8e => k_asm); (case k2_8c8e => k_asm); (case k3_8c8e => k_asm); (case k4_8c8e => k_asm); (case k5_8c8e => k_asm); (case kK_8c8e => first | exact rfl | assumption); (case hsp_8c8e => k_mem); (case D_8c8e => with_reducible assumption); (case sub_8c8e => kqd_sub); (case hl_8c8e => first | with_reducible assumption | omega); (case hd_8c8e => ktr_room); (case hu_8c8e => ke_room)))
  k_with "w18" => (k_here; (with_reducible show wpAny _ _ (binaryOp _ (Value.ref _) (Value.ref _)) _ _ _); k_dflt (refine' addL ?F_261b ?N_261b ?a_261b ?b_261b ?z_261b ?_; (case F_261b => k_asm); (case N_261b => k_asm); (case a_261b => k_mem); (case b_261b => k_mem); (case z_261b => first | omega | (simp only [List.length_cons, List.length_nil, List.length_replicate]; omega))))
  k_with "w19" => (k_here; (with_reducible show wpAny _ _ (binaryOp Operator.Mult (Value.ref _) (Value.int _ _)) _ _ _); k_dflt (refine' mulN ?F_1ba3 ?N_1ba3 ?l_1ba3 ?e_1ba3 ?z_1ba3 ?_; (case F_1ba3 => k_asm); (case N_1ba3 => k_asm); (case l_1ba3 => k_mem); (case e_1ba3 => with_reducible assumption); (case z_1ba3 => omega)))
  k_with "WPost" => (dsimp only [WPost])
  k_with "call builtin:len" => (k_here; (with_reducible show wpAny _ _ (call (Value.builtin "len") [Value.ref _]) _ _ _); k_dflt (refine' kd_len ?k1_b0c9 ?k2_b0c9 ?k3_b0c9 ?k4_b0c9 ?_; (case k1_b0c9 => k_asm); (case k2_b0c9 => k_mem); (case k3_b0c9 => with_reducible assumption); (case k4_b0c9 => first | with_reducible exact len63 (by assumption) | omega); k_whole))
  k_with "subscriptTail" => (k_here; (with_reducible show wpAny _ _ (subscriptTail _ _ (Value.ref _) (Value.int _ _)) _ _ _); k_dflt (refine' item_dat ?k1_b351 ?k2_b351 ?k3_b351 ?k4_b351 ?k5_b351 ?k6_b351 ?_ ?k7_b351; (case k1_b351 => k_asm); (case k2_b351 => k_mem); (case k3_b351 => with_reducible assumption); (case k4_b351 => omega); (case k5_b351 => omega); (case k6_b351 => omega); (case k7_b351 => with_unfolding_all rfl); k_whole); intro _ _)
  k_with "subscriptTail" => (k_here; (with_reducible show wpAny _ _ (subscriptTail _ _ (Value.ref _) (Value.int _ _)) _ _ _); k_dflt (refine' item_at ?k1_c249 ?k2_c249 ?k3_c249 ?k5_c249 ?k6_c249 ?_ ?k7_c249; (case k1_c249 => k_asm); (case k2_c249 => k_mem); (case k3_c249 => with_reducible assumption); (case k5_c249 => omega); (case k6_c249 => omega); (case k7_c249 => with_unfolding_all rfl); k_whole))
  k_with "exec For Name Call cons nil" => (k_here; refine halt_in ?_)
  k_with "exec For Name Subscript cons nil" => (k_here; refine halt_in ?_)
  k_with "exec For Name Name cons nil" => (k_here; refine halt_in ?_)
  k_with "pyIter ref" => (k_here; (with_reducible show wpAny _ _ (pyIter (Value.ref _)) (fun it s₂ => LoopAtV _ _ _ _ _ _ _ _ _ it s₂) _ _); refine halt_in ?_)
  k_with "call type:range" => (k_here; k_dflt (first | (refine' range1_rows ?F_0dec ?N_0dec ?_; (case F_0dec => k_asm); (case N_0dec => k_asm); k_whole) | (refine' range2_rows ?F_0dec ?N_0dec ?_; (case F_0dec => k_asm); (case N_0dec => k_asm); k_whole) | (refine' range3_rows ?F_0dec ?N_0dec ?c_0dec ?_ ?p_0dec; (case F_0dec => k_asm); (case N_0dec => k_asm); (case c_0dec => decide); (case p_0dec => exact Or.inl (PyProof.noPylong_small (by omega))); k_whole)); intro _ _ _ _ _ _ _ _ _; (try dsimp only))
  k_with "call builtin:list.append" => (k_here; (with_reducible show wpAny _ _ (call (Value.builtin _) [Value.ref _, _]) _ _ _); k_dflt (refine' append_K ?k1_2bc2 ?k2_2bc2 ?k3_2bc2 ?_ ?z_2bc2; (case k1_2bc2 => k_asm); (case k2_2bc2 => k_asm); (case k3_2bc2 => k_upd); (case z_2bc2 => (simp only [List.size_toArray, sizeLine]; omega)); k_whole); intro _ _ _)
  k_with "exec While" => (k_here; refine halt_in ?_)
  trivial

local macro_rules | `(tactic| walk_at "call type:list") => mw "w7" "D' c' h' F' N' l1" "eb"
local macro_rules | `(tactic| walk_at "binaryOp Add ref ref") => mw "w8" "D' h' F' N' l1" "eb"
section

theorem kwacj : True := by
  k_with "call builtin:list.extend" => (k_here; (with_reducible show wpAny _ _ (call (Value.builtin _) [Value.ref _, Value.ref _]) _ _ _); k_dflt (refine' ext2 ?F_5b0c ?N_5b0c ?b_5b0c ?U_5b0c ?z_5b0c ?_; (case F_5b0c => k_asm); (case N_5b0c => k_asm); (case b_5b0c => k_mem); (case U_5b0c => k_upd); (case z_5b0c => omega)); intro _ _ _)
  trivial
section
variable {prog : Program} {w : World} {A : Around} {E : Value → Shared → Prop} {s : Shared} {h₀ : Heap} {L l a b D : Addr} {m : Str → Option Value} {news news' : List (Addr × Obj)} {us ws : List Value} {n n2 : Nat} {y : Value} {u : Tok} {Q : Value → Shared → Prop}
theorem isL_of (N : News h₀ L s.heap news) (hm : (l, listOf us.toArray n) ∈ news) : s.heap.IsList l us.toArray := ⟨_, (N _ hm).1, rfl, n, rfl⟩
theorem item_last {value slice : PySem.Expr} (N : News h₀ L s.heap news) (hm : (l, listOf (us ++ [y]).toArray n) ∈ news) (h : Q y s)
    (hs : subscripted slice false (.ref l) (.int (-1) u) = operate [.ref l, .int (-1) u] (getItem (.ref l) (.int (-1) u)) := by with_unfolding_all rfl) :
    wpAny (model prog w) A (subscriptTail value slice (.ref l) (.int (-1) u)) Q E s := by
  have hl := isL_of N hm
  refine tail_any hl.typeIs slot_list_getitem.lookup (wpAny_getItem_list_neg hl (by decide) (by rw [List.size_toArray, List.length_append, List.length_singleton]; omega) (by decide) ?_ h) hs
  have e : ((-1 : Int) + ((us ++ [y]).toArray.size : Nat)).toNat = us.length := by rw [List.size_toArray, List.length_append, List.length_singleton]; omega
  rw [e]
  simp
theorem pop_last (F : Fr h₀ L s.heap m) (N : News h₀ L s.heap news) (U : Upd D (listOf (us ++ [y]).toArray n) (listOf us.toArray (n + 1)) news news') (hz : us.length < 10000)
    (h : ∀ h', Fr h₀ L h' m → News h₀ L h' news' → Q y { s with heap := h' }) : wpAny (model prog w) A (call (.builtin "list.pop") [.ref D]) Q E s :=
  kl_pop F N (kpa_last y us) U (by simp [sizeLine]; omega) h
theorem copyL (F : Fr h₀ L s.heap m) (N : News h₀ L s.heap news) (hm : (l, listOf us.toArray n) ∈ news) (hz : us.length < 10000)
    (h : ∀ D c h', Fr h₀ L h' m → News h₀ L h' ((D, listOf us.toArray c) :: news) → (∀ q ∈ news, q.1 < D) → Q (.ref D) { s with heap := h' }) : wpAny (model prog w) A (call (.type "list") [.ref l]) Q E s :=
  list_copyK F N (isL_of N hm) h (by simp [sizeLine]; omega)
theorem copyT {x z : Int} {t v : Tok} (F : Fr h₀ L s.heap m) (N : News h₀ L s.heap news) (hm : (l, tupO x z t v n) ∈ news)
    (h : ∀ D c h', Fr h₀ L h' m → News h₀ L h' ((D, listOf [Value.int x t, Value.int z v].toArray c) :: news) → (∀ q ∈ news, q.1 < D) → Q (.ref D) { s with heap := h' }) : wpAny (model prog w) A (call (.type "list") [.ref l]) Q E s :=
  list_copyKT F N ⟨_, (N _ hm).1, rfl, n, rfl⟩ h (by simp [sizeLine])
theorem addL (F : Fr h₀ L s.heap m) (N : News h₀ L s.heap news) (ha : (a, listOf us.toArray n) ∈ news) (hb : (b, listOf ws.toArray n2) ∈ news) (hz : us.length + ws.length < 10000)
    (h : ∀ D h', Fr h₀ L h' m → News h₀ L h' ((D, listOf (us ++ ws).toArray 0) :: news) → (∀ p ∈ news, p.1 < D) → Q (.ref D) { s with heap := h' }) : wpAny (model prog w) A (binaryOp .Add (.ref a) (.ref b)) Q E s :=
  kmk_add_lit F N (isL_of N ha) (isL_of N hb) (by simp) h (by simp [sizeLine]; omega)
end

theorem kwada : True := by
  k_with "subscriptTail" => (k_here; (with_reducible show wpAny _ _ (subscriptTail _ _ (Value.ref _) (Value.int (-1) _)) _ _ _); k_dflt (refine' item_last ?k1_063f ?k2_063f ?_ ?k7_063f; (case k1_063f => k_asm); (case k2_063f => k_mem); (case k7_063f => with_unfolding_all rfl); k_whole))
  k_with "call builtin:list.pop" => (k_here; (with_reducible show wpAny _ _ (call (Value.builtin _) [Value.ref _]) _ _ _); k_dflt (refine' pop_last ?F_dea1 ?N_dea1 ?U_dea1 ?z_dea1 ?_; (case F_dea1 => k_asm); (case N_dea1 => k_asm); (case U_dea1 => k_upd); (case z_dea1 => omega)); intro _ _ _)
  trivial
theorem llist_ok {w : World} {p : Program} {loose : List Str} {mean : ExcName → Option Value} {mg mb : Str → Option Value} {dp un : Nat} {gd : Option (List Code)} {cn : Str} {cs : Scope} {a : Addr} {ccd : Value} {cl : List (Str × Addr)} {outer : List Env} {A₀ : Around} {base h₀ : Heap} {L : Addr} {m : Str → Option Value} {s : Shared} {Q E : Value → Shared → Prop} {news : List (Addr × Obj)} {sp : Addr} {vs : List Value} {k : Nat} {os : List (Option (Int × Int))} {L9 : List (Addr × Obj)}
  (B : Below A₀ base outer h₀) (F : Fr h₀ L s.heap m) (X : (Mine.hd.heap_39 w.params).In h₀) (N : News h₀ L s.heap news) (T : Top p loose mean mg mb h₀) (hk : cs.kind = .function) (hsp : (sp, listOf vs.toArray k) ∈ news) (D : DatAll L9 vs (os.map enc)) (sub : ∀ p ∈ L9, p ∈ news) (hl : os.length < 1000)
  (hd : dp + 2 < recursionLimit) (hu : un + 200 < cLine)
  (ret : ∀ (D : Addr) (vs' : List Value) (n' : Nat) (h' : Heap) (tk' : Nat), DatAll [] vs' ((flat (strip os)).map encI) → (∀ q ∈ news, q.1 < D) → Fr h₀ L h' m → News h₀ L h' ((D, listOf vs'.toArray n') :: news) → Q (.ref D) { s with heap := h', toks := tk' }) :
  wpAny (model PySem.Challenge.pw_ok0042_01 w) (ktrTop dp un gd cn cs L a ccd cl outer) (call (.ref 157) [.ref sp]) Q E s := by
  show Keep PySem.Challenge.rw_ok0042_01 Mine.hd.heap_39 (wpAny _ _ _ _ _ _)
  k_fill
  unfold Keep
  refine wpAny_call ?_
  k_dflt cell_enter
  rename_i g LL h1 FG F0 N0 B0 X0 T0
  have hvl := D.length
  rw [List.length_map] at hvl
  have hvb : vs.length < 1000 := by omega
  w_strict k_steps
  rename_i rk c2 _ lrk _ F1 N1
  unfold Halt
  refine wpAny_mono (Q := Exit fun s' => ∃ (j n' : Nat) (h' : Heap) (tk' : Nat), s' = { s with heap := h', toks := tk' } ∧ j ≤ os.length ∧ os.take j = strip os ∧ Fr g LL h' (fun y => if y = Str.ofString "rows" then some (.ref rk) else List.lookup y [(Str.ofString "spans", .ref sp)]) ∧ News g LL h' ((rk, listOf (vs.take j).toArray n') :: news)) ?_ ?_ (fun _ _ e => e)
  · refine whl_inv (fun j s' => ∃ (n' : Nat) (h' : Heap) (tk' : Nat), s' = { s with heap := h', toks := tk' } ∧ j ≤ os.length ∧ strip (os.take j) = strip os ∧ Fr g LL h' (fun y => if y = Str.ofString "rows" then some (.ref rk) else List.lookup y [(Str.ofString "spans", .ref sp)]) ∧ News g LL h' ((rk, listOf (vs.take j).toArray n') :: news))
      os.length ⟨c2, _, _, rfl, Nat.le_refl _, by rw [List.take_length], F1, by rw [← hvl, List.take_length]; exact N1⟩ (by with_unfolding_all passes_own) ?_
    clear F1 N1
    rintro R j _ ⟨n1, h1, tk1, rfl, hj, hs, F2, N2⟩ IH
    have offN : OwnOff news [rk] := fun q hq b hb => by rw [List.mem_singleton.mp hb]; exact Nat.ne_of_lt (lrk q hq)
    by_cases h0 : j = 0
    · subst h0
      rw [List.take_zero] at N2
      w_strict k_steps
      exact ⟨0, _, _, _, rfl, by omega, by simpa [strip] using hs, by k_asm, cb_drop (by assumption) (by kqd_sub)⟩
    · obtain ⟨v, hv, hv2⟩ := D.get (k := j - 1) (by rw [List.length_map]; omega)
      have hv3 : DatIn L9 v (enc (os.getD (j - 1) none)) := by
        rw [← getD_enc, List.getD_eq_getElem?_getD, List.getElem?_eq_getElem (by rw [List.length_map]; omega)]; exact hv2
      clear hv2
      have et : os.take j = os.take (j - 1) ++ [os.getD (j - 1) none] := by
        have e1 : j = (j - 1) + 1 := by omega
        rw [e1, take_more (o := os.getD (j - 1) none) (by rw [List.getD_eq_getElem?_getD, List.getElem?_eq_getElem (by omega)]; rfl)]
        rfl
      have ev : vs.take j = vs.take (j - 1) ++ [v] := by
        have e1 : j = (j - 1) + 1 := by omega
        rw [e1, take_more hv]
        rfl
      have hvj : (vs.take (j - 1)).length < 1000 := by rw [List.length_take]; omega
      have D3 := datAll_take j (D.mono sub)
      rw [ev] at N2 D3
      have hok : ∀ d ∈ (os.map enc).take j, kqdOk 8 d = true := fun d hd => encs_ok os d (List.mem_of_mem_take hd)
      have hne : (os.map enc).take j ≠ [] := by
        intro e
        have := congrArg List.length e
        rw [List.length_take, List.length_map, List.length_nil] at this
        omega
      rcases datIn_enc hv3 with ⟨e3, rfl⟩ | ⟨a9, b9, t9, u9, ad, n9, e3, rfl, hm⟩
      · w_strict k_steps
        exact IH (j - 1) _ (by omega) ⟨_, _, _, rfl, by omega, by rw [et, e3, strip_none] at hs; exact hs, by k_asm, cb_drop (by assumption) (by kqd_sub)⟩
      · have hm9 := sub _ hm
        w_strict k_steps
        exact ⟨j, n1, _, _, rfl, hj, by rw [et, e3, strip_some] at hs; rw [et, e3]; exact hs, by k_asm, by rw [ev]; exact cb_drop (by assumption) (by kqd_sub)⟩
  · rintro f s' hq
    cases f <;> try exact hq.elim
    obtain ⟨j, n1, h1, tk1, rfl, hj, hs, F2, N2⟩ := hq
    clear F1 N1
    dsimp only
    w_strict k_steps
    unfold Halt
    with_unfolding_all refine For_invVF (by k_asm) (by rfl) (by rfl) ?_
    w_strict k_steps
    rename_i fl _ lfl _ F3 N3
    unfold Halt
    have D2 := datAll_take j D
    rw [← List.map_take] at D2
    have hvl2 : (vs.take j).length = j := by rw [List.length_take]; omega
    refine kdl_iter (nn := n1) (vs := vs.take j) (fun i m nx => ∃ fl vs' n', m (Str.ofString "flat") = some (.ref fl) ∧ nx = (fl, listOf vs'.toArray n') :: (rk, listOf (vs.take j).toArray n1) :: news ∧ (∀ q ∈ news, q.1 < fl) ∧ DatAll [] vs' ((flat ((os.take j).take i)).map encI))
      (by rfl) (.tail _ (.head _)) F3 N3 ⟨fl, [], 0, by rfl, rfl, allLt_all lfl.2, .nil⟩ ?_ ?_
    · rintro i v m₁ nx h tk own hvi offO hDLm ⟨fl, vs', n', e1, rfl, hfl, hY⟩ F4 N4
      simp only [List.cons_append] at N4
      simp only [List.map_cons] at offO
      have F5 := fr_know (x := Str.ofString "flat") F4 (by rw [if_neg (by decide)]; exact e1)
      clear F4 F3 N3
      obtain ⟨o, ho, hDo⟩ := dat_at_enc D2 (by simpa using hvi)
      have hvs : vs'.length < 3000 := by have h9 := hY.length; rw [List.length_map, flat_length, List.length_take, List.length_take] at h9; omega
      rcases datIn_enc hDo with ⟨rfl, rfl⟩ | ⟨a9, b9, t9, u9, ad, n9, rfl, rfl, hm⟩
      · w_strict k_steps
        rename_i DD _ _ _ l9 _ F9 N9
        have l10 := allLt_all l9.2.2.2
        refine InvEndG.intro (nx := (DD, listOf (vs' ++ [_, _]).toArray 0) :: (rk, listOf (vs.take j).toArray n1) :: news) F9 N9 ⟨.tail _ (.head _), DD, _, _, by rfl, rfl, fun q hq => l10 q (List.mem_append_left _ hq), ?_⟩ (fun p hp b hb => ?_) (by kqd_sub) (by kqd_sub)
        · rw [take_more ho, flat_app, List.map_append]
          exact hY.append (.cons .none (.cons .none .nil))
        · rcases List.mem_cons.mp hb with rfl | hb
          · exact Nat.ne_of_lt (l10 p (List.mem_append_right _ hp))
          · exact offO p hp b (.tail _ hb)
      · have hm9 := List.mem_append_left own (sub _ hm)
        w_strict k_steps
        rename_i DD _ _ _ l9 _ F9 N9
        have l10 := allLt_all l9.2.2.2
        refine InvEndG.intro (nx := (DD, listOf (vs' ++ [_, _]).toArray 0) :: (rk, listOf (vs.take j).toArray n1) :: news) F9 N9 ⟨.tail _ (.head _), DD, _, _, by rfl, rfl, fun q hq => l10 q (List.mem_append_left _ hq), ?_⟩ (fun p hp b hb => ?_) (by kqd_sub) (by kqd_sub)
        · rw [take_more ho, flat_app, List.map_append]
          exact hY.append (.cons (.int _ _) (.cons (.int _ _) .nil))
        · rcases List.mem_cons.mp hb with rfl | hb
          · exact Nat.ne_of_lt (l10 p (List.mem_append_right _ hp))
          · exact offO p hp b (.tail _ hb)
    · rintro m₁ nx h tk ⟨fl, vs', n', e1, rfl, hfl, hY⟩ F4 N4
      have F5 := fr_know (x := Str.ofString "flat") F4 e1
      clear F4 F3 N3
      rw [hvl2, List.take_take, Nat.min_self, hs] at hY
      w_strict k_steps
      exact ret fl vs' n' _ _ hY hfl (by k_asm) (cb_drop (by assumption) (by kqd_sub))

end
theorem kwadb : True := by
  k_with_none
  k_with "ta" => (try dsimp only)
  k_with "tb" => (try k_sweep)
  k_with "tc" => (try k_fold)
  k_with "w0" => (have hcL9 := cLine_is; (try simp only [units_in1, units_deeper, Around.mark_units, units_caller]); (try dsimp only [ktrTop]); omega)
  k_with "w1" => (k_here; (with_reducible show wpAny _ _ (call (Value.ref 126) _) _ _ _); k_dflt (refine' draw_use ?k1_2753 ?k2_2753 ?k3_2753 ?k4_2753 ?k5_2753 ?kK_2753 ?U_2753 ?hi_2753 ?hl_2753 ?hm_2753 ?hm2_2753 ?hd_2753 ?hu_2753 ?_; (case k1_2753 => k_asm); (case k2_2753 => k_asm); (case k3_2753 => k_asm); (case k4_2753 => k_asm); (case k5_2753 => k_asm); (case kK_2753 => first | exact rfl | assumption); (case U_2753 => (intro _ _; k_upd)); (case hi_2753 => with_reducible assumption); (case hl_2753 => assumption); (case hm_2753 => omega); (case hm2_2753 => omega); (case hd_2753 => ktr_room); (case hu_2753 => ke_room)))
  k_with "w2" => (k_here; (with_reducible show wpAny _ _ (call (Value.ref 114) _) _ _ _); k_dflt (refine' moved_ok ?k1_267c ?k2_267c ?k3_267c ?k4_267c ?k5_267c ?kK_267c ?hm_267c ?hd_267c ?hu_267c ?_; (case k1_267c => k_asm); (case k2_267c => k_asm); (case k3_267c => k_asm); (case k4_267c => k_asm); (case k5_267c => k_asm); (case kK_267c => first | exact rfl | assumption); (case hm_267c => k_mem); (case hd_267c => ktr_room); (case hu_267c => ke_room)))
  k_with "w3" => (refine' code_defC ?k1_73de ?k2_73de ?k3_73de ?k4_73de ?k5_73de ?kA_73de ?kF_73de ?kK_73de ?k6_73de ?k7_73de ?k8_73de ?k9_73de ?kB_73de ?kD_73de ?_ ?c2_73de ?c3_73de ?c4_73de; (case kA_73de => exact rfl); (case kF_73de => exact rfl); (case kK_73de => assumption); (case k1_73de => k_asm); (case k2_73de => k_asm); (case k3_73de => k_asm); (case k4_73de => k_asm); (case k5_73de => k_asm); (case k6_73de => k_is); (case k7_73de => k_is); (case k8_73de => ktr_room); (case k9_73de => exact BindsTo.of_eq rfl); (case kB_73de => exact rfl); (case kD_73de => decide +kernel); (case c2_73de => exact rfl); (case c3_73de => exact rfl); (case c4_73de => exact rfl); k_whole)
  k_with "w4" => (refine' code_def ?k1_91da ?k2_91da ?k3_91da ?k4_91da ?k5_91da ?kA_91da ?kF_91da ?kK_91da ?k6_91da ?k7_91da ?k8_91da ?k9_91da ?kB_91da ?_ ?c2_91da ?c3_91da ?c4_91da ?c5_91da; (case kA_91da => exact rfl); (case kF_91da => exact rfl); (case kK_91da => first | exact rfl | assumption); (case k1_91da => k_asm); (case k2_91da => k_asm); (case k3_91da => k_asm); (case k4_91da => k_asm); (case k5_91da => k_asm); (case k6_91da => k_is); (case k7_91da => k_is); (case k8_91da => ktr_room); (case k9_91da => exact BindsTo.of_eq rfl); (case c5_91da => decide); (case kB_91da => exact locs rfl); (case c2_91da => exact rfl); (case c3_91da => exact rfl); (case c4_91da => exact rfl); k_whole)
  k_with "w5" => (refine' code_defC ?k1_e452 ?k2_e452 ?k3_e452 ?k4_e452 ?k5_e452 ?kA_e452 ?kF_e452 ?kK_e452 ?k6_e452 ?k7_e452 ?k8_e452 ?k9_e452 ?kB_e452 ?kD_e452 ?_ ?c2_e452 ?c3_e452 ?c4_e452; (case kA_e452 => exact rfl); (case kF_e452 => exact rfl); (case kK_e452 => first | exact rfl | assumption); (case k1_e452 => k_asm); (case k2_e452 => k_asm); (case k3_e452 => k_asm); (case k4_e452 => k_asm); (case k5_e452 => k_asm); (case k6_e452 => k_is); (case k7_e452 => k_is); (case k8_e452 => ktr_room); (case k9_e452 => exact BindsTo.of_eq rfl); (case kB_e452 => exact rfl); (case kD_e452 => decide +kernel); (case c2_e452 => exact rfl); (case c3_e452 => exact rfl); (case c4_e452 => exact rfl); k_whole)
  k_with "w6" => (k_here; (with_reducible show wpAny _ _ (subscriptTail _ (PySem.Expr.Slice _ _ none _) (Value.ref _) (Value.ref _)) _ _ _); k_dflt (refine' slice_to ?F_7f9f ?N_7f9f ?l_7f9f ?p_7f9f ?q_7f9f ?e_7f9f ?z_7f9f ?_ ?s_7f9f ?t_7f9f; (case F_7f9f => k_asm); (case N_7f9f => k_asm); (case l_7f9f => k_mem); (case p_7f9f => kmk_part); (case q_7f9f => kmk_part); (case e_7f9f => first | exact pick_upto (by omega) | exact pick_from (by omega) | exact pick_part (by omega) (by omega) | exact pick_less (by omega)); (case s_7f9f => with_unfolding_all rfl); (case t_7f9f => kmk_pure); (case z_7f9f => omega)))
  k_with "w7" => (k_here; (with_reducible show wpAny _ _ (call (Value.type _) [Value.ref _]) _ _ _); k_dflt (first | (refine' copyL ?F_06eb ?N_06eb ?m_06eb ?z_06eb ?_; (case F_06eb => k_asm); (case N_06eb => k_asm); (case m_06eb => k_mem); (case z_06eb => omega)) | (refine' copyT ?F_06eb ?N_06eb ?m_06eb ?_; (case F_06eb => k_asm); (case N_06eb => k_asm); (case m_06eb => k_mem))))
  k_with "w8" => (k_here; (with_reducible show wpAny _ _ (binaryOp _ (Value.ref _) (Value.ref _)) _ _ _); k_dflt (refine' addL ?F_f34b ?N_f34b ?a_f34b ?b_f34b ?z_f34b ?_; (case F_f34b => k_asm); (case N_f34b => k_asm); (case a_f34b => k_mem); (case b_f34b => k_mem); (case z_f34b => first | omega | (simp only [List.length_cons, List.length_nil]; omega))))
  k_with "w9" => (refine neN ?_; (try dsimp only); first | with_reducible assumption | (with_reducible refine Ne.symm ?_; with_reducible assumption) | (with_reducible refine Nat.ne_of_lt ?_; with_reducible assumption) | (with_reducible refine Nat.ne_of_gt ?_; with_reducible assumption))
  k_with "w10" => first | with_reducible assumption | exact in_of_fr (by with_reducible assumption) (by with_reducible assumption)
  k_with "w11" => (k_here; (with_reducible show wpAny _ _ (call (Value.ref 119) _) _ _ _); k_dflt (refine' ldeck_ok ?k1_e407 ?k2_e407 ?k3_e407 ?k4_e407 ?k5_e407 ?kK_e407 ?hl_e407 ?hi_e407 ?hn_e407 ?hd_e407 ?hu_e407 ?_; (case k1_e407 => k_asm); (case k2_e407 => k_asm); (case k3_e407 => k_asm); (case k4_e407 => k_asm); (case k5_e407 => k_asm); (case kK_e407 => first | exact rfl | assumption); (case hl_e407 => assumption); (case hi_e407 => assumption); (case hn_e407 => omega); (case hd_e407 => ktr_room); (case hu_e407 => ke_room)))
  k_with "w12" => (k_here; (with_reducible show wpAny _ _ (call (Value.ref 133) _) _ _ _); k_dflt (refine' lspan_use ?k1_0801 ?k2_0801 ?k3_0801 ?k4_0801 ?k5_0801 ?kK_0801 ?U_0801 ?hi_0801 ?hl_0801 ?h0_0801 ?h1_0801 ?hd_0801 ?hu_0801 ?_; (case k1_0801 => k_asm); (case k2_0801 => k_asm); (case k3_0801 => k_asm); (case k4_0801 => k_asm); (case k5_0801 => k_asm); (case kK_0801 => first | exact rfl | assumption); (case U_0801 => (intro _ _; k_upd)); (case hi_0801 => with_reducible assumption); (case hl_0801 => assumption); (case h0_0801 => omega); (case h1_0801 => first | with_reducible assumption | omega); (case hd_0801 => ktr_room); (case hu_0801 => ke_room)))
  k_with "w13" => (k_here; (with_reducible show wpAny _ _ (call (Value.ref 100) _) _ _ _); k_dflt (refine' mrepl_use ?k1_76bf ?k2_76bf ?k3_76bf ?k4_76bf ?k5_76bf ?kK_76bf ?hx_76bf ?hsp_76bf ?D_76bf ?sub_76bf ?TL_76bf ?hl_76bf ?U_76bf ?hd_76bf ?hu_76bf ?_; (case k1_76bf => k_asm); (case k2_76bf => k_asm); (case k3_76bf => k_asm); (case k4_76bf => k_asm); (case k5_76bf => k_asm); (case kK_76bf => first | exact rfl | assumption); (case hx_76bf => k_mem); (case U_76bf => (intro _; k_upd)); (case hsp_76bf => k_mem); (case D_76bf => with_reducible assumption); (case sub_76bf => kqd_sub); (case TL_76bf => with_reducible assumption); (case hl_76bf => first | with_reducible assumption | omega); (case hd_76bf => ktr_room); (case hu_76bf => ke_room)))
  k_with "w14" => (k_here; (with_reducible show wpAny _ _ (call (Value.ref 83) _) _ _ _); k_dflt (refine' mlist_ok ?k1_935b ?k2_935b ?k3_935b ?k4_935b ?k5_935b ?kK_935b ?hx_935b ?hdx_935b ?hsp_935b ?D_935b ?sub_935b ?hl_935b ?hd_935b ?hu_935b ?_; (case k1_935b => k_asm); (case k2_935b => k_asm); (case k3_935b => k_asm); (case k4_935b => k_asm); (case k5_935b => k_asm); (case kK_935b => first | exact rfl | assumption); (case hx_935b => k_mem); (case hdx_935b => k_mem); (case hsp_935b => k_mem); (case D_935b => with_reducible assumption); (case sub_935b => kqd_sub); (case hl_935b => first | with_reducible assumption | omega); (case hd_935b => ktr_room); (case hu_935b => ke_room)))
  k_with "w15" => (k_here; (with_reducible show wpAny _ _ (call (Value.ref 90) _) _ _ _); k_dflt (refine' mrest_use ?k1_53a1 ?k2_53a1 ?k3_53a1 ?k4_53a1 ?k5_53a1 ?kK_53a1 ?hx_53a1 ?hpl_53a1 ?D_53a1 ?hl_53a1 ?U_53a1 ?hd_53a1 ?hu_53a1 ?_; (case k1_53a1 => k_asm); (case k2_53a1 => k_asm); (case k3_53a1 => k_asm); (case k4_53a1 => k_asm); (case k5_53a1 => k_asm); (case kK_53a1 => first | exact rfl | assumption); (case hx_53a1 => k_mem); (case U_53a1 => (intro _; k_upd)); (case hpl_53a1 => k_mem); (case D_53a1 => first | with_reducible assumption | exact (by with_reducible assumption : ∀ t : Tok, DatAll [] (_ ++ [Value.int 1 t]) _) _); (case hl_53a1 => first | with_reducible assumption | omega); (case hd_53a1 => ktr_room); (case hu_53a1 => ke_room)))
  k_with "w16" => (k_here; (with_reducible show wpAny _ _ (call (Value.ref 95) _) _ _ _); k_dflt (refine' mtran_use ?k1_e468 ?k2_e468 ?k3_e468 ?k4_e468 ?k5_e468 ?kK_e468 ?hx_e468 ?hsp_e468 ?D_e468 ?sub_e468 ?TL_e468 ?hl_e468 ?U_e468 ?hd_e468 ?hu_e468 ?_; (case k1_e468 => k_asm); (case k2_e468 => k_asm); (case k3_e468 => k_asm); (case k4_e468 => k_asm); (case k5_e468 => k_asm); (case kK_e468 => first | exact rfl | assumption); (case hx_e468 => k_mem); (case U_e468 => (intro _; k_upd)); (case hsp_e468 => k_mem); (case D_e468 => with_reducible assumption); (case sub_e468 => kqd_sub); (case TL_e468 => with_reducible assumption); (case hl_e468 => first | with_reducible assumption | omega); (case hd_e468 => ktr_room); (case hu_e468 => ke_room)))
  k_with "w17" => (k_here; (with_reducible show wpAny _ _ (call (Value.ref 157) _) _ _ _); k_dflt (refine' llist_ok ?k1_8c8e ?k2_8c8e ?k3_8c8e ?k4_8c8e ?k5_8c8e ?kK_8c8e ?hsp_8c8e ?D_8c8e ?sub_8c8e ?hl_8c8e ?hd_8c8e ?hu_8c8e ?_; (case k1_8c8e => k_asm); (case k2_8c8e => k_asm); (case k3_8c8e => k_asm); (case k4_8c8e => k_asm); (case k5_8c8e => k_asm); (case kK_8c8e => first | exact rfl | assumption); (case hsp_8c8e => k_mem); (case D_8c8e => with_reducible assumption); (case sub_8c8e => kqd_sub); (case hl_8c8e => first | with_reducible assumption | omega); (case hd_8c8e => ktr_room); (case hu_8c8e => ke_room)))
  k_with "w18" => (k_here; (with_reducible show wpAny _ _ (binaryOp _ (Value.ref _) (Value.ref _)) _ _ _); k_dflt (refine' addL ?F_261b ?N_261b ?a_261b ?b_261b ?z_261b ?_; (case F_261b => k_asm); (case N_261b => k_asm); (case a_261b => k_mem); (case b_261b => k_mem); (case z_261b => first | omega | (simp only [List.length_cons, List.length_nil, List.length_replicate]; omega))))
  k_with "w19" => (k_here; (with_reducible show wpAny _ _ (binaryOp Operator.Mult (Value.ref _) (Value.int _ _)) _ _ _); k_dflt (refine' mulN ?F_1ba3 ?N_1ba3 ?l_1ba3 ?e_1ba3 ?z_1ba3 ?_; (case F_1ba3 => k_asm); (case N_1ba3 => k_asm); (case l_1ba3 => k_mem); (case e_1ba3 => with_reducible assumption); (case z_1ba3 => omega)))
  k_with "WPost" => (dsimp only [WPost])
  k_with "call builtin:len" => (k_here; (with_reducible show wpAny _ _ (call (Value.builtin "len") [Value.ref _]) _ _ _); k_dflt (refine' kd_len ?k1_b0c9 ?k2_b0c9 ?k3_b0c9 ?k4_b0c9 ?_; (case k1_b0c9 => k_asm); (case k2_b0c9 => k_mem); (case k3_b0c9 => with_reducible assumption); (case k4_b0c9 => first | with_reducible exact len63 (by assumption) | omega); k_whole))
  k_with "subscriptTail" => (k_here; (with_reducible show wpAny _ _ (subscriptTail _ _ (Value.ref _) (Value.int _ _)) _ _ _); k_dflt (refine' item_dat ?k1_b351 ?k2_b351 ?k3_b351 ?k4_b351 ?k5_b351 ?k6_b351 ?_ ?k7_b351; (case k1_b351 => k_asm); (case k2_b351 => k_mem); (case k3_b351 => with_reducible assumption); (case k4_b351 => omega); (case k5_b351 => omega); (case k6_b351 => omega); (case k7_b351 => with_unfolding_all rfl); k_whole); intro _ _)
  k_with "subscriptTail" => (k_here; (with_reducible show wpAny _ _ (subscriptTail _ _ (Value.ref _) (Value.int _ _)) _ _ _); k_dflt (refine' item_at ?k1_c249 ?k2_c249 ?k3_c249 ?k5_c249 ?k6_c249 ?_ ?k7_c249; (case k1_c249 => k_asm); (case k2_c249 => k_mem); (case k3_c249 => with_reducible assumption); (case k5_c249 => omega); (case k6_c249 => omega); (case k7_c249 => with_unfolding_all rfl); k_whole))
  k_with "exec For Name Call cons nil" => (k_here; refine halt_in ?_)
  k_with "exec For Name Subscript cons nil" => (k_here; refine halt_in ?_)
  k_with "exec For Name Name cons nil" => (k_here; refine halt_in ?_)
  k_with "pyIter ref" => (k_here; (with_reducible show wpAny _ _ (pyIter (Value.ref _)) (fun it s₂ => LoopAtV _ _ _ _ _ _ _ _ _ it s₂) _ _); refine halt_in ?_)
  k_with "call type:range" => (k_here; k_dflt (first | (refine' range1_rows ?F_0dec ?N_0dec ?_; (case F_0dec => k_asm); (case N_0dec => k_asm); k_whole) | (refine' range2_rows ?F_0dec ?N_0dec ?_; (case F_0dec => k_asm); (case N_0dec => k_asm); k_whole) | (refine' range3_rows ?F_0dec ?N_0dec ?c_0dec ?_ ?p_0dec; (case F_0dec => k_asm); (case N_0dec => k_asm); (case c_0dec => decide); (case p_0dec => exact Or.inl (PyProof.noPylong_small (by omega))); k_whole)); intro _ _ _ _ _ _ _ _ _; (try dsimp only))
  k_with "call builtin:list.append" => (k_here; (with_reducible show wpAny _ _ (call (Value.builtin _) [Value.ref _, _]) _ _ _); k_dflt (refine' append_K ?k1_2bc2 ?k2_2bc2 ?k3_2bc2 ?_ ?z_2bc2; (case k1_2bc2 => k_asm); (case k2_2bc2 => k_asm); (case k3_2bc2 => k_upd); (case z_2bc2 => (simp only [List.size_toArray, sizeLine]; omega)); k_whole); intro _ _ _)
  k_with "exec While" => (k_here; refine halt_in ?_)
  trivial
section
theorem own_adr {l : List (Addr × Obj)} {b : Addr} {adr : List Addr} (h : ∀ p ∈ l, p.1 ≠ b) (r : OwnOff l adr) : OwnOff l (b :: adr) := fun p hp c hc => by
  rcases List.mem_cons.mp hc with rfl | hc
  · exact h p hp
  · exact r p hp c hc
theorem own_adr0 {l : List (Addr × Obj)} : OwnOff l [] := fun _ _ _ h => nomatch h
theorem own_hd {a : Addr} {o : Obj} {l : List (Addr × Obj)} {adr : List Addr} (h : ∀ b ∈ adr, @Ne Nat a b) (r : OwnOff l adr) : OwnOff ((a, o) :: l) adr := fun p hp c hc => by
  rcases List.mem_cons.mp hp with rfl | hp
  · exact h c hc
  · exact r p hp c hc
theorem own_pre {own : List (Addr × Obj)} {A B : List Addr} (h : OwnOff own (A ++ B)) : OwnOff own A := fun p hp b hb => h p hp b (List.mem_append_left _ hb)
theorem own_flip {l r : List (Addr × Obj)} {adr : List Addr} (h : ∀ b ∈ adr, ∀ a ∈ l.map (·.1), @Ne Nat a b) (k : OwnOff r adr) : OwnOff (l ++ r) adr := fun p hp b hb => by
  rcases List.mem_append.mp hp with hp | hp
  · exact h b hb _ (List.mem_map_of_mem hp)
  · exact k p hp b hb
theorem six_of {x a b c d e f : Addr} (h : x ∈ [a, b, c, d, e, f]) : x = a ∨ x = b ∨ x = c ∨ x = d ∨ x = e ∨ x = f := by simpa using h
abbrev lapNx (P : Params) (b dk xd dxd xo dxo spo : Addr) (t0 t1 : Tok) (ok oda oot ocz q5 q6 q7 q8 : Obj) (vsd : List Value) (kd : Nat) (spd : Addr) (tl : List (Addr × Obj)) : List (Addr × Obj) :=
  (dk, listOf vsd.toArray kd) :: (b + 1 + 1 + 1 + 1 + 1 + 1 + 1 + 1, q8) :: (b + 1 + 1 + 1 + 1 + 1 + 1 + 1, q7) :: (b + 1 + 1 + 1 + 1 + 1 + 1, q6) :: (b + 1 + 1 + 1 + 1 + 1, q5) :: (b + 1 + 1 + 1 + 1, oot) :: (b + 1 + 1 + 1, oda) :: (b + 1 + 1, ocz) :: (b + 1, ok) ::
      (xd, instObj 103 dxd) :: (dxd, spansDict P t0 spd) :: (xo, instObj 103 dxo) :: (dxo, spansDict P t1 spo) :: (spo, listOf #[] 0) :: tl
abbrev lapAd (b dk xd dxd xo dxo spo : Addr) : List Addr := [dk, b + 1 + 1 + 1 + 1 + 1 + 1 + 1 + 1, b + 1 + 1 + 1 + 1 + 1 + 1 + 1, b + 1 + 1 + 1 + 1 + 1 + 1, b + 1 + 1 + 1 + 1 + 1, b + 1 + 1 + 1 + 1, b + 1 + 1 + 1, b + 1 + 1, b + 1, xd, dxd, xo, dxo, spo]
/-- the fixed addresses differ -/
def Dist : List Addr → Prop
  | [] => True
  | a :: r => (∀ b ∈ r, @Ne Nat a b) ∧ Dist r
/-- what holds between the laps -/
def lapJ (P : Params) (b dk xd dxd xo dxo spo : Addr) (t0 t1 : Tok) (ok oda oot : Obj) (i : Nat) (m : Str → Option Value) (nx : List (Addr × Obj)) : Prop :=
  ∃ (sp : Addr) (vss : List Value) (ks : Nat) (spd : Addr) (vsp : List Value) (kp : Nat) (L9 L8 : List (Addr × Obj)) (os : List (Option (Int × Int))) (vsd : List Value) (ds : List Int) (kd : Nat) (ocz q5 q6 q7 q8 : Obj) (sz : Int) (tz : Tok) (tl : List (Addr × Obj)) (v5 v6 v7 v8 : Option Value),
    m (Str.ofString "spans") = some (.ref sp) ∧
    nx = lapNx P b dk xd dxd xo dxo spo t0 t1 ok oda oot ocz q5 q6 q7 q8 vsd kd spd tl ∧
    OwnOff tl (lapAd b dk xd dxd xo dxo spo) ∧
    (sp, listOf vss.toArray ks) ∈ tl ∧ (spd, listOf vsp.toArray kp) ∈ tl ∧
    DatAll L9 vss (os.map enc) ∧ Tups L9 ∧ (∀ p ∈ L9, p ∈ tl) ∧ DatAll L8 vsp (os.map enc) ∧ Tups L8 ∧ (∀ p ∈ L8, p ∈ tl) ∧
    IntsAre vsd ds ∧ ds.length < 1000 ∧ ocz.data = Data.cell (some (.int sz tz)) ∧ q5.data = Data.cell v5 ∧ q6.data = Data.cell v6 ∧ q7.data = Data.cell v7 ∧ q8.data = Data.cell v8 ∧
    0 ≤ sz ∧ sz < 10 + 4 * (i : Int) ∧ (∀ o ∈ os, InSize sz o) ∧ os.length < 6
theorem own_lap {X : List (Addr × Obj)} {dk c8 c7 c6 c5 c4 c3 c2 c1 xd dxd xo dxo spo : Addr} (h6 : OwnOff X [dk, c7, c6, c5, c2, dxd]) (h8 : OwnOff X [c8, c4, c3, c1, xd, xo, dxo, spo]) : OwnOff X [dk, c8, c7, c6, c5, c4, c3, c2, c1, xd, dxd, xo, dxo, spo] := fun p hp b hb => by
  simp only [List.mem_cons, List.not_mem_nil, or_false] at hb
  rcases hb with rfl | rfl | rfl | rfl | rfl | rfl | rfl | rfl | rfl | rfl | rfl | rfl | rfl | rfl
  all_goals first | (refine h6 p hp _ ?_; k_memK) | (refine h8 p hp _ ?_; k_memK)
theorem getD_in {os : List (Option (Int × Int))} {j : Nat} (h : j < os.length) : os.getD j none = os[j] := by
  rw [List.getD_eq_getElem?_getD, List.getElem?_eq_getElem h]; rfl
theorem range_span (os : List (Option (Int × Int))) : (List.range (os.length + 2)).map (fun j => enc (os.getD j none)) = os.map enc ++ [Dat.none, Dat.none] := by
  apply List.ext_getElem
  · simp
  · intro i h1 h2
    simp only [List.getElem_map, List.getElem_range]
    by_cases h : i < os.length
    · rw [getD_in h, List.getElem_append_left (by simpa using h), List.getElem_map]
    · have h3 : i = os.length ∨ i = os.length + 1 := by simp at h1; omega
      rw [List.getD_eq_getElem?_getD, List.getElem?_eq_none (by omega)]
      rcases h3 with rfl | rfl
      · simp [enc]
      · simp [enc, List.getElem_append_right]
theorem range_map {α : Type} (os : List (Option (Int × Int))) (f : Option (Int × Int) → α) : (List.range os.length).map (fun j => f (os.getD j none)) = os.map f := by
  apply List.ext_getElem
  · simp
  · intro i h1 h2
    simp only [List.getElem_map, List.getElem_range]
    rw [getD_in (by simpa using h1)]
theorem ok_app {a b : List Dat} (ha : ∀ d ∈ a, kqdOk 8 d = true) (hb : ∀ d ∈ b, kqdOk 8 d = true) : ∀ d ∈ a ++ b, kqdOk 8 d = true := fun d hd => by
  rcases List.mem_append.mp hd with h | h
  · exact ha d h
  · exact hb d h
theorem ok_firsts (os : List (Option (Int × Int))) (f : Int × Int → Int) : ∀ d ∈ os.map (fun o => encI (o.map f)), kqdOk 8 d = true := fun d hd => by
  obtain ⟨o, _, rfl⟩ := List.mem_map.mp hd
  exact encI_ok _ 8
section
variable {prog : Program} {w : World} {A : Around} {E : Value → Shared → Prop} {s : Shared} {h₀ : Heap} {L a b : Addr} {news n₁ n₂ : List (Addr × Obj)} {oa ob : Obj} {xs ys : List Value} {ka kb : Nat} {ds es : List Dat} {Q : Value → Shared → Prop}
/-- two lists that bear the same data -/
theorem ne_same (N : News h₀ L s.heap news) (ma : (a, oa) ∈ news) (mb : (b, ob) ∈ news) (ca : oa.cls = .type "list") (da : oa.data = .seq xs.toArray ka) (cb : ob.cls = .type "list") (db : ob.data = .seq ys.toArray kb)
    (Da : DatAll n₁ xs ds) (Db : DatAll n₂ ys es) (sa : ∀ p ∈ n₁, p ∈ news) (sb : ∀ p ∈ n₂, p ∈ news) (e : ds = es) (hb : ∀ d ∈ es, kqdOk 8 d = true) (hu : A.units + 64 < cLine) (h : Q (.bool false) s) : wpAny (model prog w) A (compareOp .NotEq (.ref a) (.ref b)) Q E s := by
  subst e
  exact kqd_ne N ma ca da Da sa mb cb db Db sb hb hb hu (by simpa using h)
theorem eq_same (N : News h₀ L s.heap news) (ma : (a, oa) ∈ news) (mb : (b, ob) ∈ news) (ca : oa.cls = .type "list") (da : oa.data = .seq xs.toArray ka) (cb : ob.cls = .type "list") (db : ob.data = .seq ys.toArray kb)
    (Da : DatAll n₁ xs ds) (Db : DatAll n₂ ys es) (sa : ∀ p ∈ n₁, p ∈ news) (sb : ∀ p ∈ n₂, p ∈ news) (e : ds = es) (hb : ∀ d ∈ es, kqdOk 8 d = true) (hu : A.units + 64 < cLine) (h : Q (.bool true) s) : wpAny (model prog w) A (compareOp .Eq (.ref a) (.ref b)) Q E s := by
  subst e
  exact kqd_eq N ma ca da Da sa mb cb db Db sb hb hb hu (by simpa using h)
end
theorem mv_size {sz st en f : Int} {o : Option (Int × Int)} (h : InSize sz o) (h1 : 1 ≤ st) (h2 : st ≤ en) (h3 : en ≤ sz + 1) (h4 : 0 ≤ f) : InSize (sz - (en - st) + f) (o.map (mv st en (st + f))) := by
  intro a b e
  cases o with
  | none => cases e
  | some p =>
    obtain ⟨x, y⟩ := p
    have hb := h x y rfl
    simp only [Option.map_some, mv, Option.some.injEq, Prod.mk.injEq] at e
    obtain ⟨rfl, rfl⟩ := e
    unfold mvF mvL
    refine ⟨?_, ?_, ?_⟩ <;> (repeat' split) <;> omega
theorem strip_le {α : Type} : ∀ l : List (Option α), (strip l).length ≤ l.length
  | [] => Nat.le_refl _
  | none :: r => by
    have ih := strip_le r
    rw [strip]
    cases h : strip r with
    | nil => simp
    | cons a b => rw [h] at ih; simp only [List.length_cons] at ih ⊢; omega
  | some x :: r => by rw [strip, List.length_cons, List.length_cons]; exact Nat.succ_le_succ (strip_le r)
theorem strip_idem {α : Type} : ∀ l : List (Option α), strip (strip l) = strip l
  | [] => rfl
  | none :: r => by
    have ih := strip_idem r
    rw [strip]
    cases h : strip r with
    | nil => rfl
    | cons a b =>
      rw [h] at ih
      show strip (none :: a :: b) = none :: a :: b
      rw [strip, ih]
  | some x :: r => by rw [strip, strip, strip_idem r]
theorem strip_getD {α : Type} : ∀ (l : List (Option α)) (j : Nat), (strip l).getD j none = l.getD j none
  | [], _ => rfl
  | none :: r, j => by
    have ih := strip_getD r
    rw [strip]
    cases h : strip r with
    | nil =>
      cases j with
      | zero => rfl
      | succ j => have := ih j; rw [h] at this; simpa using this
    | cons a b =>
      rw [h] at ih
      cases j with
      | zero => rfl
      | succ j => simpa using ih j
  | some x :: r, j => by
    rw [strip]
    cases j with
    | zero => rfl
    | succ j => simpa using strip_getD r j
theorem pairs_flat : ∀ l : List (Option (Int × Int)), pairs (flat l) = l
  | [] => rfl
  | o :: r => by
    rw [flat, pairs, pairs_flat r]
    cases o with
    | none => rfl
    | some p => rfl
theorem pairs_flat1 (x : Option Int) : ∀ l : List (Option (Int × Int)), pairs (flat l ++ [x]) = l
  | [] => rfl
  | o :: r => by
    rw [flat, List.cons_append, List.cons_append, pairs, pairs_flat1 x r]
    cases o with
    | none => rfl
    | some p => rfl
theorem shift_back (x : Int) (os : List (Option (Int × Int))) : (os.map (Option.map (shift x))).map (Option.map (shift (0 - x))) = os := by
  rw [List.map_map]
  have e : (Option.map (shift (0 - x)) ∘ Option.map (shift x)) = id := by
    funext o
    cases o with
    | none => rfl
    | some p =>
      obtain ⟨a, b⟩ := p
      simp only [Function.comp, Option.map_some, shift, id]
      congr 2
      · omega
      · omega
  rw [e, List.map_id]
/-- the groups asked one behind another, where those at the end that took no part are left out -/
theorem range_strip (os : List (Option (Int × Int))) : (List.range os.length).map (fun j => enc ((strip os).getD j none)) = (strip os).map enc ++ List.replicate (os.length - (strip os).length) Dat.none := by
  have hl := strip_le os
  apply List.ext_getElem
  · simp; omega
  · intro i h1 h2
    simp only [List.getElem_map, List.getElem_range]
    by_cases h : i < (strip os).length
    · rw [getD_in h, List.getElem_append_left (by simpa using h), List.getElem_map]
    · rw [List.getElem_append_right (by simpa using h), List.getD_eq_getElem?_getD, List.getElem?_eq_none (by omega), List.getElem_replicate]
      rfl
theorem datAll_none (L9 : List (Addr × Obj)) : ∀ n : Nat, DatAll L9 (List.replicate n Value.none) (List.replicate n Dat.none)
  | 0 => .nil
  | n + 1 => .cons .none (datAll_none L9 n)
theorem ok_nones (n : Nat) : ∀ d ∈ List.replicate n Dat.none, kqdOk 8 d = true := fun d hd => by
  rw [List.eq_of_mem_replicate hd]; rfl
theorem mulN {prog : Program} {w : World} {A : Around} {E : Value → Shared → Prop} {s : Shared} {h₀ : Heap} {L l : Addr} {m : Str → Option Value} {news : List (Addr × Obj)} {k n : Nat} {x : Int} {u : Tok} {Q : Value → Shared → Prop} (F : Fr h₀ L s.heap m) (N : News h₀ L s.heap news) (hm : (l, listOf [Value.none].toArray k) ∈ news) (hx : x = (n : Int)) (hn : n < 200)
    (h : ∀ D h', Fr h₀ L h' m → News h₀ L h' ((D, listOf (List.replicate n Value.none).toArray 0) :: news) → (∀ p ∈ news, p.1 < D) → Q (.ref D) { s with heap := h' }) : wpAny (model prog w) A (binaryOp .Mult (.ref l) (.int x u)) Q E s := by
  subst hx
  refine KMa.mul F N (isL_of N hm) (by omega) (by omega) (by simp; omega) ?_ h
  simp
theorem tups_offD {h₀ h : Heap} {L d : Addr} {news tl : List (Addr × Obj)} {es : List DictEntry} {n : Nat} (N : News h₀ L h news) (T : Tups tl) (ht : ∀ p ∈ tl, p ∈ news) (hm : (d, dictOf es n) ∈ news) : ∀ q ∈ tl, q.1 ≠ d :=
  tups_off N ht T hm (show Value.type "dict" ≠ Value.type "tuple" by decide)
theorem tups_offL {h₀ h : Heap} {L d : Addr} {news tl : List (Addr × Obj)} {vs : List Value} {n : Nat} (N : News h₀ L h news) (T : Tups tl) (ht : ∀ p ∈ tl, p ∈ news) (hm : (d, listOf vs.toArray n) ∈ news) : ∀ q ∈ tl, q.1 ≠ d :=
  tups_off N ht T hm (show Value.type "list" ≠ Value.type "tuple" by decide)

end

theorem kwadc : True := by
  k_with "subscriptTail" => (k_here; (with_reducible show wpAny _ _ (subscriptTail _ _ (Value.ref _) (Value.int (-1) _)) _ _ _); k_dflt (refine' item_last ?k1_063f ?k2_063f ?_ ?k7_063f; (case k1_063f => k_asm); (case k2_063f => k_mem); (case k7_063f => with_unfolding_all rfl); k_whole))
  k_with "call builtin:list.pop" => (k_here; (with_reducible show wpAny _ _ (call (Value.builtin _) [Value.ref _]) _ _ _); k_dflt (refine' pop_last ?F_dea1 ?N_dea1 ?U_dea1 ?z_dea1 ?_; (case F_dea1 => k_asm); (case N_dea1 => k_asm); (case U_dea1 => k_upd); (case z_dea1 => omega)); intro _ _ _)
  trivial
local macro_rules | `(tactic| cell_enter) => cea

theorem kwadd : True := by
  k_with "eval ListComp" => (k_here; lct_look; k_dflt (refine LCt.ListComp_T (F₀ := by k_asm) (by with_unfolding_all rfl) (by decide) (by rfl) (by decide) (by rfl) ?_))
  k_with "eval ListComp" => (k_here; (fail_if_success lct_look); k_dflt (refine LCg.ListComp_U (F₀ := by k_asm) (by with_unfolding_all rfl) (by decide) (by rfl) (by decide) (by rfl) ?_))
  k_with "exec Assign cons ListComp" => (k_here; lct_look; k_dflt (refine LCt.Assign_ListComp_T (F₀ := by k_asm) (by rfl) (by with_unfolding_all rfl) (by with_unfolding_all rfl) (by decide) (by rfl) (by decide) (by rfl) (by rfl) (by rfl) ?_))
  k_with "exec Assign cons ListComp" => (k_here; (fail_if_success lct_look); k_dflt (refine LCg.Assign_ListComp_U (F₀ := by k_asm) (by rfl) (by with_unfolding_all rfl) (by with_unfolding_all rfl) (by decide) (by rfl) (by decide) (by rfl) (by rfl) (by rfl) ?_))
  k_with "CompSrc" => (k_here; k_dflt (first | (refine' LCg.CompSrc.ledger ?hh_1a6a ?F_1a6a ?N_1a6a ?m_1a6a ?z_1a6a ?_; (case hh_1a6a => rfl); (case F_1a6a => k_asm); (case N_1a6a => k_asm); (case m_1a6a => k_mem); (case z_1a6a => first | with_reducible exact size_ys (by assumption) | (simp only [List.size_toArray, sizeLine]; omega) | ((have hz9 := IntsAre.length (by with_reducible assumption)); simp only [List.size_toArray, sizeLine]; omega))) | (refine' LCg.CompSrc.range ?hh_1a6a ?F_1a6a ?N_1a6a ?r_1a6a ?s_1a6a ?n_1a6a ?z_1a6a ?_; (case hh_1a6a => rfl); (case F_1a6a => k_asm); (case N_1a6a => k_asm); (case r_1a6a => with_reducible assumption); (case s_1a6a => first | with_reducible exact small_len (by assumption) | with_reducible exact small_len2 (by assumption) | exact small_one (by omega) (by omega) (by omega) (by omega)); (case n_1a6a => exact rangeSize_nat _ _); (case z_1a6a => first | with_reducible exact size_len (by assumption) | with_reducible exact size_len2 (by assumption) | (simp only [sizeLine]; omega)))); intro _)
  k_with "CompSrcT" => (k_here; k_dflt (first | (refine' LCt.CompSrcT.ledger ?hh_4c92 ?F_4c92 ?N_4c92 ?m_4c92 ?z_4c92 ?_; (case hh_4c92 => rfl); (case F_4c92 => k_asm); (case N_4c92 => k_asm); (case m_4c92 => k_mem); (case z_4c92 => first | with_reducible exact size_ys (by assumption) | (simp only [List.size_toArray, sizeLine]; omega))) | (refine' LCt.CompSrcT.range ?hh_4c92 ?F_4c92 ?N_4c92 ?r_4c92 ?s_4c92 ?n_4c92 ?z_4c92 ?_; (case hh_4c92 => rfl); (case F_4c92 => k_asm); (case N_4c92 => k_asm); (case r_4c92 => with_reducible assumption); (case s_4c92 => first | with_reducible exact small_len (by assumption) | with_reducible exact small_len2 (by assumption) | exact small_one (by omega) (by omega) (by omega) (by omega)); (case n_4c92 => exact rangeSize_nat _ _); (case z_4c92 => first | with_reducible exact size_len (by assumption) | with_reducible exact size_len2 (by assumption) | (simp only [sizeLine]; omega)))); intro _)
  trivial
local macro_rules | `(tactic| k_lt $h:ident) => do `(tactic| (replace $h := lt_copy $h; obtain ⟨$h:ident, hlt9⟩ := $h; simp only [AllLt, and_true] at $h:ident; $(← spl h):tactic))
local macro_rules | `(tactic| k_ne) => `(tactic| k_extra "w9")
local macro_rules | `(tactic| k_mem) => `(tactic| k_extra "own mem")
local macro_rules | `(tactic| kqd_sub) => `(tactic| k_extra "own sub")
local macro_rules | `(tactic| k_all) => `(tactic| k_extra "own all")
local macro_rules | `(tactic| k_in) => `(tactic| k_extra "w10")

theorem kwade : True := by
  k_with "own mem" => first | with_reducible exact List.mem_cons_self | (with_reducible refine List.mem_cons_of_mem _ ?_; k_extra "own mem") | (with_reducible refine List.mem_append_left _ ?_; k_extra "own mem") | (with_reducible refine List.mem_append_right _ ?_; k_extra "own mem") | with_reducible assumption
  k_with "own sub" => first | with_reducible exact fun _ h => h | with_reducible exact List.forall_mem_nil _ | (with_reducible refine List.forall_mem_cons.mpr ⟨?_, ?_⟩; (k_extra "own mem"); (k_extra "own sub")) | (with_reducible refine List.forall_mem_append.mpr ⟨?_, ?_⟩; (k_extra "own sub"); (k_extra "own sub")) | (intro _ _; k_extra "own mem") | ((with_reducible show ∀ p ∈ (_ : List (Addr × Obj)), p ∈ _); refine sub_trans (by with_reducible assumption) ?_; k_extra "own sub")
  k_with "own all" => first | with_reducible exact List.forall_mem_nil _ | (with_reducible refine List.forall_mem_cons.mpr ⟨?_, ?_⟩; k_ne; (k_extra "own all")) | (with_reducible refine List.forall_mem_append.mpr ⟨?_, ?_⟩; (k_extra "own all"); (k_extra "own all")) | exact OwnOff.ne (by with_reducible assumption) (by k_memK) | exact allLt_off (by with_reducible assumption) (by k_extra "own sub") | exact off1_off (by with_reducible assumption) (by k_extra "own sub") | exact tups_offD (by with_reducible assumption) (by with_reducible assumption) (by k_extra "own sub") (by k_extra "own mem") | exact tups_offL (by with_reducible assumption) (by with_reducible assumption) (by k_extra "own sub") (by k_extra "own mem")
  k_with "CompRest" => refine halt_in ?_
  k_with "CompRestT" => refine halt_in ?_
  trivial

theorem kwadf : True := by
  k_with "call ref" => (k_here; (with_reducible show wpAny _ _ (call (Value.ref 119) _) _ _ _); refine halt_in ?_)
  k_with "call ref" => (k_here; (with_reducible show wpAny _ _ (call (Value.ref 126) _) _ _ _); refine halt_in ?_)
  k_with "call ref" => (k_here; (with_reducible show wpAny _ _ (call (Value.ref 133) _) _ _ _); refine halt_in ?_)
  k_with "call ref" => (k_here; (with_reducible show wpAny _ _ (call (Value.ref 138) _) _ _ _); refine halt_in ?_)
  k_with "call ref" => (k_here; (with_reducible show wpAny _ _ (call (Value.ref 143) _) _ _ _); refine halt_in ?_)
  k_with "call ref" => (k_here; (with_reducible show wpAny _ _ (call (Value.ref 150) _) _ _ _); refine halt_in ?_)
  k_with "call ref" => (k_here; (with_reducible show wpAny _ _ (call (Value.ref 157) _) _ _ _); refine halt_in ?_)
  k_with "call ref" => (k_here; (with_reducible show wpAny _ _ (call (Value.ref 62) _) _ _ _); refine halt_in ?_)
  k_with "call ref" => (k_here; (with_reducible show wpAny _ _ (call (Value.ref 69) _) _ _ _); refine halt_in ?_)
  k_with "call ref" => (k_here; (with_reducible show wpAny _ _ (call (Value.ref 76) _) _ _ _); refine halt_in ?_)
  k_with "call ref" => (k_here; (with_reducible show wpAny _ _ (call (Value.ref 83) _) _ _ _); refine halt_in ?_)
  k_with "call ref" => (k_here; (with_reducible show wpAny _ _ (call (Value.ref 90) _) _ _ _); refine halt_in ?_)
  k_with "call ref" => (k_here; (with_reducible show wpAny _ _ (call (Value.ref 95) _) _ _ _); refine halt_in ?_)
  k_with "call ref" => (k_here; (with_reducible show wpAny _ _ (call (Value.ref 100) _) _ _ _); refine halt_in ?_)
  trivial

theorem kwadg : True := by
  k_with "execs cons" => (k_here; (with_reducible show wpAny _ _ (execs (Stmt.Expr (PySem.Expr.Call (PySem.Expr.Attribute _ _ _) [PySem.Expr.BinOp _ _ _ _] [] _) _ :: _) _) _ _ _); refine halt_in ?_)
  trivial

local macro_rules | `(tactic| walk_at "call ref") => mw "w11" "D' vs' ds' n' h' tk' hi' hl' o1' F' N'" "ijabc"
local macro_rules | `(tactic| walk_at "call ref") => mw "w12" "o' v' tl' h' tk' vs' ds' n' io' hD' hT' ho' hi' hl' F' N'" "dabc"
local macro_rules | `(tactic| walk_at "call ref") => mw "w13" "D' vs' tl' h' tk' hT' hY' o1' hfr' F' N'" "kijlabc"
local macro_rules | `(tactic| walk_at "call ref") => mw "w14" "D' vs' n' h' tk' hY' l1' F' N'" "mabc"
local macro_rules | `(tactic| walk_at "call ref") => mw "w15" "D' vs' n' tl' h' tk' hT' hY' o1' F' N'" "kijlabc"
local macro_rules | `(tactic| walk_at "call ref") => mw "w16" "D' vs' tl' h' tk' hT' hY' o1' F' N'" "kijlabc"
local macro_rules | `(tactic| walk_at "call ref") => mw "w17" "D' vs' n' h' tk' hY' l1' F' N'" "mabc"
local macro_rules | `(tactic| walk_at "binaryOp Add ref ref") => mw "w18" "D' h' F' N' l1" "eb"
local macro_rules | `(tactic| walk_at "binaryOp Mult ref int") => mw "w19" "D' h' F' N' l1" "eb"

theorem kwadh : True := by
  k_with "call ref" => (k_here; (with_reducible show wpAny _ _ (call (Value.ref 62) _) _ _ _); k_dflt (refine' mspan_ok ?k1_7094 ?k2_7094 ?k3_7094 ?k4_7094 ?k5_7094 ?kK_7094 ?hx_7094 ?hdx_7094 ?hsp_7094 ?D_7094 ?hl_7094 ?h0_7094 ?h1_7094 ?hd_7094 ?hu_7094 ?_; (case k1_7094 => k_asm); (case k2_7094 => k_asm); (case k3_7094 => k_asm); (case k4_7094 => k_asm); (case k5_7094 => k_asm); (case kK_7094 => first | exact rfl | assumption); (case hx_7094 => k_mem); (case hdx_7094 => k_mem); (case hsp_7094 => k_mem); (case D_7094 => with_reducible assumption); (case hl_7094 => first | with_reducible assumption | omega); (case h0_7094 => omega); (case h1_7094 => first | with_reducible assumption | omega); (case hd_7094 => ktr_room); (case hu_7094 => ke_room)); intro _ _ _ _ _ _; (try dsimp only); (try k_sweep); (try k_fold))
  k_with "call ref" => (k_here; (with_reducible show wpAny _ _ (call (Value.ref 69) _) _ _ _); k_dflt (refine' mbeg_ok ?k1_4d1c ?k2_4d1c ?k3_4d1c ?k4_4d1c ?k5_4d1c ?kK_4d1c ?hx_4d1c ?hdx_4d1c ?hsp_4d1c ?D_4d1c ?sub_4d1c ?hl_4d1c ?h0_4d1c ?h1_4d1c ?hd_4d1c ?hu_4d1c ?_; (case k1_4d1c => k_asm); (case k2_4d1c => k_asm); (case k3_4d1c => k_asm); (case k4_4d1c => k_asm); (case k5_4d1c => k_asm); (case kK_4d1c => first | exact rfl | assumption); (case hx_4d1c => k_mem); (case hdx_4d1c => k_mem); (case hsp_4d1c => k_mem); (case D_4d1c => with_reducible assumption); (case sub_4d1c => kqd_sub); (case hl_4d1c => first | with_reducible assumption | omega); (case h0_4d1c => omega); (case h1_4d1c => first | with_reducible assumption | omega); (case hd_4d1c => ktr_room); (case hu_4d1c => ke_room)); intro _ _ _ _ _ _; (try dsimp only); (try k_sweep); (try k_fold))
  k_with "call ref" => (k_here; (with_reducible show wpAny _ _ (call (Value.ref 76) _) _ _ _); k_dflt (refine' mend_ok ?k1_d2c8 ?k2_d2c8 ?k3_d2c8 ?k4_d2c8 ?k5_d2c8 ?kK_d2c8 ?hx_d2c8 ?hdx_d2c8 ?hsp_d2c8 ?D_d2c8 ?sub_d2c8 ?hl_d2c8 ?h0_d2c8 ?h1_d2c8 ?hd_d2c8 ?hu_d2c8 ?_; (case k1_d2c8 => k_asm); (case k2_d2c8 => k_asm); (case k3_d2c8 => k_asm); (case k4_d2c8 => k_asm); (case k5_d2c8 => k_asm); (case kK_d2c8 => first | exact rfl | assumption); (case hx_d2c8 => k_mem); (case hdx_d2c8 => k_mem); (case hsp_d2c8 => k_mem); (case D_d2c8 => with_reducible assumption); (case sub_d2c8 => kqd_sub); (case hl_d2c8 => first | with_reducible assumption | omega); (case h0_d2c8 => omega); (case h1_d2c8 => first | with_reducible assumption | omega); (case hd_d2c8 => ktr_room); (case hu_d2c8 => ke_room)); intro _ _ _ _ _ _; (try dsimp only); (try k_sweep); (try k_fold))
  k_with "call ref" => (k_here; (with_reducible show wpAny _ _ (call (Value.ref 138) _) _ _ _); k_dflt (refine' lbegin_ok ?k1_b1d3 ?k2_b1d3 ?k3_b1d3 ?k4_b1d3 ?k5_b1d3 ?kK_b1d3 ?h1_b1d3 ?h2_b1d3 ?h3_b1d3 ?h4_b1d3 ?hd_b1d3 ?hu_b1d3 ?_; (case k1_b1d3 => k_asm); (case k2_b1d3 => k_asm); (case k3_b1d3 => k_asm); (case k4_b1d3 => k_asm); (case k5_b1d3 => k_asm); (case kK_b1d3 => first | exact rfl | assumption); (case h1_b1d3 => first | with_reducible assumption | omega); (case h2_b1d3 => omega); (case h3_b1d3 => omega); (case h4_b1d3 => omega); (case hd_b1d3 => ktr_room); (case hu_b1d3 => ke_room)); intro _ _ _ _ _; (try dsimp only); (try k_sweep); (try k_fold))
  k_with "call ref" => (k_here; (with_reducible show wpAny _ _ (call (Value.ref 143) _) _ _ _); k_dflt (refine' lend_ok ?k1_67c3 ?k2_67c3 ?k3_67c3 ?k4_67c3 ?k5_67c3 ?kK_67c3 ?h1_67c3 ?h2_67c3 ?h3_67c3 ?h4_67c3 ?hd_67c3 ?hu_67c3 ?_; (case k1_67c3 => k_asm); (case k2_67c3 => k_asm); (case k3_67c3 => k_asm); (case k4_67c3 => k_asm); (case k5_67c3 => k_asm); (case kK_67c3 => first | exact rfl | assumption); (case h1_67c3 => first | with_reducible assumption | omega); (case h2_67c3 => omega); (case h3_67c3 => omega); (case h4_67c3 => omega); (case hd_67c3 => ktr_room); (case hu_67c3 => ke_room)); intro _ _ _ _ _; (try dsimp only); (try k_sweep); (try k_fold))
  k_with "compareOp NotEq ref ref" => (k_here; (with_reducible show wpAny _ _ (compareOp CmpOp.NotEq (Value.ref _) (Value.ref _)) _ _ _); k_dflt (refine' ne_same ?N_50c9 ?a_50c9 ?f_50c9 ?b_50c9 ?c_50c9 ?g_50c9 ?i_50c9 ?d_50c9 ?j_50c9 ?e_50c9 ?k_50c9 ?q_50c9 ?m_50c9 ?n_50c9 ?_; (case N_50c9 => k_asm); (case a_50c9 => k_mem); (case f_50c9 => k_mem); (case b_50c9 => rfl); (case c_50c9 => rfl); (case g_50c9 => rfl); (case i_50c9 => rfl); (case d_50c9 => with_reducible assumption); (case j_50c9 => with_reducible assumption); (case e_50c9 => kqd_sub); (case k_50c9 => kqd_sub); (case q_50c9 => with_reducible assumption); (case m_50c9 => with_reducible assumption); (case n_50c9 => ke_room); k_whole))
  k_with "compareOp Eq ref ref" => (k_here; (with_reducible show wpAny _ _ (compareOp CmpOp.Eq (Value.ref _) (Value.ref _)) _ _ _); k_dflt (refine' eq_same ?N_ec8a ?a_ec8a ?f_ec8a ?b_ec8a ?c_ec8a ?g_ec8a ?i_ec8a ?d_ec8a ?j_ec8a ?e_ec8a ?k_ec8a ?q_ec8a ?m_ec8a ?n_ec8a ?_; (case N_ec8a => k_asm); (case a_ec8a => k_mem); (case f_ec8a => k_mem); (case b_ec8a => rfl); (case c_ec8a => rfl); (case g_ec8a => rfl); (case i_ec8a => rfl); (case d_ec8a => with_reducible assumption); (case j_ec8a => with_reducible assumption); (case e_ec8a => kqd_sub); (case k_ec8a => kqd_sub); (case q_ec8a => with_reducible assumption); (case m_ec8a => with_reducible assumption); (case n_ec8a => ke_room); k_whole))
  k_with "call ref" => (k_here; (with_reducible show wpAny _ _ (call (Value.ref 150) _) _ _ _); k_dflt (refine' lref_ok ?k1_620f ?k2_620f ?k3_620f ?k4_620f ?k5_620f ?kK_620f ?hx_620f ?hdx_620f ?h0_620f ?hd_620f ?hu_620f ?_; (case k1_620f => k_asm); (case k2_620f => k_asm); (case k3_620f => k_asm); (case k4_620f => k_asm); (case k5_620f => k_asm); (case kK_620f => first | exact rfl | assumption); (case hx_620f => k_mem); (case hdx_620f => k_mem); (case h0_620f => omega); (case hd_620f => ktr_room); (case hu_620f => ke_room)); intro _ _ _ _; (try dsimp only); (try k_sweep); (try k_fold))
  trivial
section
/-- the law's scope, its body, the turn's statements: read off the heap -/
noncomputable def lawFd (P : Params) : Option FuncData := match (Mine.hd.heap_39 P).lookup 162 with
  | some ⟨_, _, .func fd, _⟩ => some fd
  | _ => none
noncomputable def lawSc (P : Params) : Scope := match lawFd P with
  | some fd => fd.scope
  | none => { kind := .function, names := [], isGenerator := false, isCoroutine := false }
noncomputable def lawBody (P : Params) : List Stmt := match lawFd P with
  | some fd => (match fd.body with
    | .stmts b => b
    | _ => [])
  | none => []
def nth (l : List Stmt) (n : Nat) : Stmt := match l, n with
  | a :: _, 0 => a
  | _ :: r, n + 1 => nth r n
  | [], _ => .Pass ⟨0, 0, 0, 0⟩
theorem fr_forget {h₀ h : Heap} {L : Addr} {m : Str → Option Value} {x : Str} {v : Option Value} (F : Fr h₀ L h (fun y => if y = x then v else m y)) (e : m x = v) : Fr h₀ L h m := by
  have q : (fun y => if y = x then v else m y) = m := funext fun y => by
    by_cases h1 : y = x
    · rw [if_pos h1, h1, e]
    · rw [if_neg h1]
  rw [← q]; exact F

end
section
abbrev canE (P : Params) (dk : Addr) (vsd : List Value) (kd : Nat) (dxd : Addr) (t0 : Tok) (sp dxo : Addr) (t1 : Tok) (so : Addr) (R : List (Addr × Obj)) : List (Addr × Obj) := (dk, listOf vsd.toArray kd) :: (dxd, spansDict P t0 sp) :: (dxo, spansDict P t1 so) :: R
theorem tr14_ok {w : World} {p : Program} {loose : List Str} {mean : ExcName → Option Value} {mg mb : Str → Option Value} {dp un : Nat} {gd : Option (List Code)} {a : Addr} {ccd : Value} {outer : List Env} {A₀ : Around} {base h₀ : Heap} {L : Addr} {m : Str → Option Value} {s : Shared} {Q : Flow → Shared → Prop} {E : Value → Shared → Prop} {news : List (Addr × Obj)} {sc : Scope} {st : Stmt} {cl : List (Str × Addr)} {dk xd dxd dxo sp so : Addr} {t0 t1 tv : Tok} {vsd vs : List Value} {kd k : Nat} {qb od : Obj} {v : Int} {os : List (Option (Int × Int))} {R L9 : List (Addr × Obj)} (hst : st = nth (lawBody w.params) 14)
  (hsc : sc = lawSc w.params) (hcl : cl = cellsFrom (L + 1) sc.names []) (B : Below A₀ base outer h₀) (F : Fr h₀ L s.heap m) (X : (Mine.hd.heap_39 w.params).In h₀) (N : News h₀ L s.heap news) (T : Top p loose mean mg mb h₀) (hnews : news = canE w.params dk vsd kd dxd t0 sp dxo t1 so R) (offR : OwnOff R [dk, dxd, dxo]) (ne1 : @Ne Nat dk dxd) (ne2 : @Ne Nat dk dxo) (ne3 : @Ne Nat dxd dxo) (hqb : qb.data = Data.cell (some (.int v tv))) (hcb : (L + 1 + 1 + 1 + 1 + 1 + 1 + 1 + 1, qb) ∈ R) (hv1 : -40 ≤ v) (hv2 : v ≤ 40) (hod : od.data = Data.cell (some (.ref xd))) (hc : (L + 1 + 1 + 1, od) ∈ R) (hx : (xd, instObj 103 dxd) ∈ R) (hsp : (sp, listOf vs.toArray k) ∈ R) (D : DatAll L9 vs (os.map enc)) (sub : ∀ p ∈ L9, p ∈ R) (TL : Tups L9) (hl : os.length < 200)
  (hd : dp + 4 < recursionLimit) (hu : un + 400 < cLine)
  (ret : ∀ (D2 : Addr) (vs2 : List Value) (tl R' : List (Addr × Obj)) (h' : Heap) (tk' : Nat), (∀ p ∈ R, p ∈ R') → OwnOff R' [dk, dxd, dxo] → (D2, listOf vs2.toArray vs2.length) ∈ R' → (∀ p ∈ tl, p ∈ R') → Tups tl → DatAll tl vs2 ((os.map (Option.map (shift (0 - v)))).map enc) → Fr h₀ L h' m → News h₀ L h' (canE w.params dk vsd kd dxd t0 D2 dxo t1 so R') → Q .next { s with heap := h', toks := tk' }) :
  wpAny (model PySem.Challenge.pw_ok0042_01 w) (ktrTop dp un gd (Str.ofString "law") sc L a ccd cl outer) (exec st (envX (Str.ofString "law") sc L a ccd cl)) Q E s := by
  subst hnews
  conv at hst => rhs; whnf
  conv at hsc => rhs; whnf
  subst hsc
  conv at hcl => rhs; whnf
  subst hst hcl
  show Keep PySem.Challenge.rw_ok0042_01 Mine.hd.heap_39 (wpAny _ _ _ _ _ _)
  k_fill
  unfold Keep
  dsimp only [canE] at N
  w_strict k_steps
  rename_i D2 v2 tl2 h2 tk2 hT2 hY2 F2 N2 _ _ _ _ _
  refine ret D2 v2 tl2 ((D2, listOf v2.toArray v2.length) :: (tl2 ++ R)) _ _ (fun p hp => .tail _ (List.mem_append_right _ hp)) ?_ (.head _) (fun p hp => .tail _ (List.mem_append_left _ hp)) hT2 hY2 F2 (cb_drop N2 (by kqd_sub))
  refine own_hd ?_ (own_two ?_ offR)
  · repeat' (first | exact List.forall_mem_nil _ | refine List.forall_mem_cons.mpr ⟨?_, ?_⟩)
    all_goals k_ne
  · exact own_adr (tups_offL (vs := vsd) (n := kd) N2 hT2 (by kqd_sub) (by k_mem)) (own_adr (tups_offD (es := [_]) (n := 1) N2 hT2 (by kqd_sub) (by k_mem)) (own_adr (tups_offD (es := [_]) (n := 1) N2 hT2 (by kqd_sub) (by k_mem)) own_adr0))

end
section
theorem rs15_ok {w : World} {p : Program} {loose : List Str} {mean : ExcName → Option Value} {mg mb : Str → Option Value} {dp un : Nat} {gd : Option (List Code)} {a : Addr} {ccd : Value} {outer : List Env} {A₀ : Around} {base h₀ : Heap} {L : Addr} {m : Str → Option Value} {s : Shared} {Q : Flow → Shared → Prop} {E : Value → Shared → Prop} {news : List (Addr × Obj)} {sc : Scope} {st : Stmt} {cl : List (Str × Addr)} {dk xo dxd dxo sp so DF : Addr} {t0 t1 : Tok} {vsd vF : List Value} {kd kF : Nat} {od : Obj} {os : List (Option (Int × Int))} {R : List (Addr × Obj)} (hst : st = nth (lawBody w.params) 15)
  (hsc : sc = lawSc w.params) (hcl : cl = cellsFrom (L + 1) sc.names []) (B : Below A₀ base outer h₀) (F : Fr h₀ L s.heap m) (X : (Mine.hd.heap_39 w.params).In h₀) (N : News h₀ L s.heap news) (T : Top p loose mean mg mb h₀) (hnews : news = canE w.params dk vsd kd dxd t0 sp dxo t1 so R) (offR : OwnOff R [dk, dxd, dxo]) (ne1 : @Ne Nat dk dxd) (ne2 : @Ne Nat dk dxo) (ne3 : @Ne Nat dxd dxo) (hm : m (Str.ofString "flat") = some (.ref DF)) (hF : (DF, listOf vF.toArray kF) ∈ R) (hYF : DatAll [] vF ((flat (strip os)).map encI)) (hod : od.data = Data.cell (some (.ref xo))) (hc : (L + 1 + 1 + 1 + 1, od) ∈ R) (hx : (xo, instObj 103 dxo) ∈ R) (hl : os.length < 200)
  (hd : dp + 4 < recursionLimit) (hu : un + 400 < cLine)
  (ret : ∀ (D2 : Addr) (vs2 : List Value) (n2 : Nat) (tl R' : List (Addr × Obj)) (h' : Heap) (tk' : Nat), (∀ p ∈ R, p ∈ R') → OwnOff R' [dk, dxd, dxo] → (D2, listOf vs2.toArray n2) ∈ R' → (∀ p ∈ tl, p ∈ R') → Tups tl → DatAll tl vs2 ((strip os).map enc) → Fr h₀ L h' m → News h₀ L h' (canE w.params dk vsd kd dxd t0 sp dxo t1 D2 R') → Q .next { s with heap := h', toks := tk' }) :
  wpAny (model PySem.Challenge.pw_ok0042_01 w) (ktrTop dp un gd (Str.ofString "law") sc L a ccd cl outer) (exec st (envX (Str.ofString "law") sc L a ccd cl)) Q E s := by
  subst hnews
  conv at hst => rhs; whnf
  conv at hsc => rhs; whnf
  subst hsc
  conv at hcl => rhs; whnf
  subst hst hcl
  show Keep PySem.Challenge.rw_ok0042_01 Mine.hd.heap_39 (wpAny _ _ _ _ _ _)
  k_fill
  unfold Keep
  dsimp only [canE] at N
  have F1 := fr_know F hm
  clear F
  have hfl := flat_length (strip os)
  have hsl := strip_le os
  have hvF := hYF.length
  rw [List.length_map] at hvF
  have hYF1 : ∀ t : Tok, DatAll [] (vF ++ [Value.int 1 t]) ((flat (strip os) ++ [some 1]).map encI) := fun t => by
    rw [List.map_append]; exact hYF.append (.cons (.int _ _) .nil)
  have hps : (flat (strip os) ++ [some (1 : Int)]).length = 2 * (strip os).length + 1 := by rw [List.length_append, List.length_singleton, hfl]
  w_strict k_steps
  rename_i D2 v2 n2 tl2 h2 tk2 hT2 hY2 F2 N2 _ _ _ _ _ _ _
  rw [pairs_flat1] at hY2
  refine ret D2 v2 n2 tl2 ((D2, listOf v2.toArray n2) :: (tl2 ++ R)) _ _ (fun p hp => .tail _ (List.mem_append_right _ hp)) ?_ (.head _) (fun p hp => .tail _ (List.mem_append_left _ hp)) hT2 hY2 (fr_forget F2 hm) (cb_drop N2 (by kqd_sub))
  refine own_hd ?_ (own_two ?_ offR)
  · repeat' (first | exact List.forall_mem_nil _ | refine List.forall_mem_cons.mpr ⟨?_, ?_⟩)
    all_goals k_ne
  · exact own_adr (tups_offL (vs := vsd) (n := kd) N2 hT2 (by kqd_sub) (by k_mem)) (own_adr (tups_offD (es := [_]) (n := 1) N2 hT2 (by kqd_sub) (by k_mem)) (own_adr (tups_offD (es := [_]) (n := 1) N2 hT2 (by kqd_sub) (by k_mem)) own_adr0))

end
section
theorem ret16_ok {w : World} {p : Program} {loose : List Str} {mean : ExcName → Option Value} {mg mb : Str → Option Value} {dp un : Nat} {gd : Option (List Code)} {a : Addr} {ccd : Value} {A₀ : Around} {h₀ : Heap} {L : Addr} {m : Str → Option Value} {s : Shared} {Q : Flow → Shared → Prop} {E : Value → Shared → Prop} {news : List (Addr × Obj)} {sc : Scope} {st : Stmt} {cl : List (Str × Addr)} {dk xd xo dxd dxo sp so DF : Addr} {t0 t1 : Tok} {vsd vF vs vz : List Value} {ds : List Int} {kd kF k kz : Nat} {ok od oo : Obj} {os oz : List (Option (Int × Int))} {fd : List Dat} {R L9 L8 : List (Addr × Obj)} (hst : st = nth (lawBody w.params) 16)
  (hsc : sc = lawSc w.params) (hcl : cl = cellsFrom (L + 1) sc.names []) (B : Below A₀ h₀ [] h₀) (F : Fr h₀ L s.heap m) (X : (Mine.hd.heap_39 w.params).In h₀) (N : News h₀ L s.heap news) (T : Top p loose mean mg mb h₀)
  (hnews : news = canE w.params dk vsd kd dxd t0 sp dxo t1 so R) (offR : OwnOff R [dk, dxd, dxo]) (ne1 : @Ne Nat dk dxd) (ne2 : @Ne Nat dk dxo) (ne3 : @Ne Nat dxd dxo) (hm : m (Str.ofString "flat") = some (.ref DF)) (hF : (DF, listOf vF.toArray kF) ∈ R) (hYF : DatAll [] vF fd) (hKf : ∀ d ∈ fd, kqdOk 8 d = true)
  (hid : IntsAre vsd ds) (hld : ds.length < 1000) (hok : ok.data = Data.cell (some (.ref dk))) (hck : (L + 1, ok) ∈ R) (hod : od.data = Data.cell (some (.ref xd))) (hcd : (L + 1 + 1 + 1, od) ∈ R) (hoo : oo.data = Data.cell (some (.ref xo))) (hco : (L + 1 + 1 + 1 + 1, oo) ∈ R) (hx : (xd, instObj 103 dxd) ∈ R) (hxo : (xo, instObj 103 dxo) ∈ R)
  (hsp : (sp, listOf vs.toArray k) ∈ R) (D : DatAll L9 vs (os.map enc)) (sub : ∀ p ∈ L9, p ∈ R) (hl : os.length < 200) (hso : (so, listOf vz.toArray kz) ∈ R) (DZ : DatAll L8 vz (oz.map enc)) (s8 : ∀ p ∈ L8, p ∈ R) (hlz : oz.length < 200) (hE1 : (flat (strip os)).map encI = fd) (hE2 : (flat (strip oz)).map encI = fd)
  (hd : dp + 8 < recursionLimit) (hu : un + 900 < cLine)
  (ret : ∀ (h' : Heap) (tk' : Nat), Fr h₀ L h' m → Q (.ret (.bool true)) { s with heap := h', toks := tk' }) :
  wpAny (model PySem.Challenge.pw_ok0042_01 w) (ktrTop dp un gd (Str.ofString "law") sc L a ccd cl []) (exec st (envX (Str.ofString "law") sc L a ccd cl)) Q E s := by
  subst hnews
  conv at hst => rhs; whnf
  conv at hsc => rhs; whnf
  subst hsc
  conv at hcl => rhs; whnf
  subst hst hcl
  show Keep PySem.Challenge.rw_ok0042_01 Mine.hd.heap_39 (wpAny _ _ _ _ _ _)
  k_fill
  unfold Keep
  dsimp only [canE] at N
  have F1 := fr_know F hm
  clear F
  w_strict k_steps
  exact ret _ _ (fr_forget (by assumption) hm)

end
section
theorem tail_use {M : Model} {A : Around} {env : Env} {w : World} {p : Program} {loose : List Str} {mean : ExcName → Option Value} {mg mb : Str → Option Value} {dp un : Nat} {gd : Option (List Code)} {a : Addr} {ccd : Value} {A₀ : Around} {h₀ : Heap} {L : Addr} {m : Str → Option Value} {s : Shared} {Q : Flow → Shared → Prop} {E : Value → Shared → Prop} {news : List (Addr × Obj)} {sc : Scope} {body : List Stmt} {cl : List (Str × Addr)} {dk xd xo dxd dxo sp so DF : Addr} {t0 t1 tv : Tok} {vsd vF vs : List Value} {ds : List Int} {kd kF k : Nat} {v : Int} {qb ok od oo : Obj} {os o0 : List (Option (Int × Int))} {R L9 : List (Addr × Obj)}
  (hM : M = model PySem.Challenge.pw_ok0042_01 w) (hA : A = ktrTop dp un gd (Str.ofString "law") sc L a ccd cl []) (he : env = envX (Str.ofString "law") sc L a ccd cl) (hbody : body = [nth (lawBody w.params) 14, nth (lawBody w.params) 15, nth (lawBody w.params) 16])
  (hsc : sc = lawSc w.params) (hcl : cl = cellsFrom (L + 1) sc.names []) (B : Below A₀ h₀ [] h₀) (F : Fr h₀ L s.heap m) (X : (Mine.hd.heap_39 w.params).In h₀) (N : News h₀ L s.heap news) (T : Top p loose mean mg mb h₀)
  (hnews : news = canE w.params dk vsd kd dxd t0 sp dxo t1 so R) (offR : OwnOff R [dk, dxd, dxo]) (ne1 : @Ne Nat dk dxd) (ne2 : @Ne Nat dk dxo) (ne3 : @Ne Nat dxd dxo) (hm : m (Str.ofString "flat") = some (.ref DF)) (hF : (DF, listOf vF.toArray kF) ∈ R) (hYF : DatAll [] vF ((flat (strip o0)).map encI))
  (hid : IntsAre vsd ds) (hld : ds.length < 1000) (hqb : qb.data = Data.cell (some (.int v tv))) (hcb : (L + 1 + 1 + 1 + 1 + 1 + 1 + 1 + 1, qb) ∈ R) (hv1 : -40 ≤ v) (hv2 : v ≤ 40) (hok : ok.data = Data.cell (some (.ref dk))) (hck : (L + 1, ok) ∈ R) (hod : od.data = Data.cell (some (.ref xd))) (hcd : (L + 1 + 1 + 1, od) ∈ R) (hoo : oo.data = Data.cell (some (.ref xo))) (hco : (L + 1 + 1 + 1 + 1, oo) ∈ R) (hx : (xd, instObj 103 dxd) ∈ R) (hxo : (xo, instObj 103 dxo) ∈ R)
  (hsp : (sp, listOf vs.toArray k) ∈ R) (D : DatAll L9 vs (os.map enc)) (sub : ∀ p ∈ L9, p ∈ R) (TL : Tups L9) (hl : os.length < 200) (hl0 : o0.length < 200) (hE1 : (flat (strip (os.map (Option.map (shift (0 - v)))))).map encI = (flat (strip o0)).map encI) (hd : dp + 8 < recursionLimit) (hu : un + 900 < cLine)
  (ret : ∀ (h' : Heap) (tk' : Nat), Fr h₀ L h' m → Q (.ret (.bool true)) { s with heap := h', toks := tk' }) :
  wpAny M A (execs body env) Q E s := by
  subst hM hA he hbody
  refine wpAny_execs_cons ?_
  refine tr14_ok (os := os) rfl hsc hcl B F X N T hnews offR ne1 ne2 ne3 hqb hcb hv1 hv2 hod hcd hx hsp D sub TL hl (by omega) (by omega) (fun D2 vs2 tl R1 h1 tk1 sR1 off1 hD2 sT hT hY F1 N1 => ?_)
  dsimp only
  refine wpAny_execs_cons ?_
  refine rs15_ok (os := o0) rfl hsc hcl B F1 X N1 T rfl off1 ne1 ne2 ne3 hm (sR1 _ hF) hYF hoo (sR1 _ hco) (sR1 _ hxo) hl0 (by omega) (by omega) (fun D3 vs3 n3 tl3 R2 h2 tk2 sR2 off2 hD3 sT3 hT3 hY3 F2 N2 => ?_)
  dsimp only
  refine wpAny_execs_cons ?_
  have hs0 := strip_le o0
  refine ret16_ok (os := os.map (Option.map (shift (0 - v)))) (oz := strip o0) (fd := (flat (strip o0)).map encI) rfl hsc hcl B F2 X N2 T rfl off2 ne1 ne2 ne3 hm (sR2 _ (sR1 _ hF)) hYF (encIs_ok _) hid hld hok (sR2 _ (sR1 _ hck)) hod (sR2 _ (sR1 _ hcd)) hoo (sR2 _ (sR1 _ hco)) (sR2 _ (sR1 _ hx)) (sR2 _ (sR1 _ hxo)) (sR2 _ hD2) hY (fun p hp => sR2 _ (sT p hp)) (by rw [List.length_map]; exact hl) hD3 hY3 sT3 (by omega) hE1 (by rw [strip_idem]) hd hu (fun h3 tk3 F3 => ?_)
  exact ret _ _ F3

end
section
theorem vbound {r : Int} (h0 : 0 ≤ r) (h1 : r < 40) : -40 ≤ r - 20 ∧ r - 20 ≤ 40 := by omega
theorem ne1 (a : Nat) : @Ne Nat a (a + 1) := by omega
theorem ne2 (a : Nat) : @Ne Nat a (a + 1 + 1) := by omega
theorem ne3 (a : Nat) : @Ne Nat a (a + 1 + 1 + 1) := by omega
theorem ne4 (a : Nat) : @Ne Nat a (a + 1 + 1 + 1 + 1) := by omega
theorem ne5 (a : Nat) : @Ne Nat a (a + 1 + 1 + 1 + 1 + 1) := by omega
theorem ne6 (a : Nat) : @Ne Nat a (a + 1 + 1 + 1 + 1 + 1 + 1) := by omega
theorem ne7 (a : Nat) : @Ne Nat a (a + 1 + 1 + 1 + 1 + 1 + 1 + 1) := by omega
theorem zn (j : Nat) : ((0 : Int) + (j : Int)).toNat = j := by rw [Int.zero_add, Int.toNat_natCast]
theorem tn0 (n : Nat) : ((n : Int) - 0).toNat = n := by rw [Int.sub_zero, Int.toNat_natCast]
theorem tn2 (n : Nat) : ((n : Int) + 2 - 0).toNat = n + 2 := by rw [Int.sub_zero]; exact Int.toNat_natCast (n + 2)
theorem jb0 {j n : Nat} (h : j < ((n : Int) - 0).toNat) (hn : n < 6) : (0 : Int) + (j : Int) < 1000 := by rw [tn0] at h; omega
theorem jb2 {j n : Nat} (h : j < ((n : Int) + 2 - 0).toNat) (hn : n < 6) : (0 : Int) + (j : Int) < 1000 := by rw [tn2] at h; omega
theorem lap_six {b dk xd dxd xo dxo spo x : Addr} (h : x ∈ [dk, b + 1 + 1 + 1 + 1 + 1 + 1 + 1, b + 1 + 1 + 1 + 1 + 1 + 1, b + 1 + 1 + 1 + 1 + 1, b + 1 + 1, dxd]) : x ∈ lapAd b dk xd dxd xo dxo spo := by rcases six_of h with rfl | rfl | rfl | rfl | rfl | rfl <;> simp [lapAd]
theorem lap_four {b dk xd dxd xo dxo spo x : Addr} (h : x ∈ [dk, b + 1 + 1 + 1 + 1 + 1 + 1 + 1 + 1, dxd, dxo]) : x ∈ lapAd b dk xd dxd xo dxo spo := by
  simp only [List.mem_cons, List.not_mem_nil, or_false] at h
  rcases h with rfl | rfl | rfl | rfl <;> simp [lapAd]
theorem three_of {x a b c d e : Addr} (h : x ∈ [a, b, c]) : x ∈ [d, a, e, b, c] := by
  simp only [List.mem_cons, List.not_mem_nil, or_false] at h
  rcases h with rfl | rfl | rfl <;> simp
theorem good_end {s0 s1 : Shared} {ns : List Int} {L : Addr} {h : Heap} {m : Str → Option Value} {tk : Nat} (FE : Fr s1.heap L h m) (hg : s1.gens = #[]) : GoodW PySem.Challenge.rw_ok0042_01.row.claim (classAt s0.heap) (ExcName.means s0.heap) [ofPy (PyData.list (ns.map PyData.int))] s1 (.ok (.ret (.bool true))) { s1 with heap := h, toks := tk } := by
  refine goodW_bool FE hg (raisesW_false ?_) ?_
  · wrow_none_raised
  · first | wrow_post | kc_post
theorem main1 : PySem.Challenge.rw_ok0042_01.Holds := hd (by
  k_go0
  all_goals try k_fold
  rename_i w s0 s1 mg mb G0 Y0 fa o pm doc ho hg KX X V GL T Bt TE TW am om M a1 a2 hcd ns hs hlay hL1 hr1 hl2 as1 as2 la vs as3 hL ra w1 r0 hI hr hlen _ K0 hD h1 tk1 F q8 q7 q6 q5 q4 q3 q2 q1 d8 d7 d6 d5 d4 d3 d2 d1 N0 X0
  clear X0 hr r0 w1 ra hr1 hl2 hlay hL1 hs TE TW M Bt GL V X G0 Y0 ho hcd hD
  replace F : Fr s1.heap s1.heap.objs.size h1 (fun y => if y = Str.ofString "script" then some (Value.ref la) else none) := by with_unfolding_all exact F
  replace d1 : q1.data = Data.cell none := by with_unfolding_all exact d1
  replace d2 : q2.data = Data.cell none := by with_unfolding_all exact d2
  replace d3 : q3.data = Data.cell none := by with_unfolding_all exact d3
  replace d4 : q4.data = Data.cell none := by with_unfolding_all exact d4
  replace d5 : q5.data = Data.cell none := by with_unfolding_all exact d5
  replace d6 : q6.data = Data.cell none := by with_unfolding_all exact d6
  replace d7 : q7.data = Data.cell none := by with_unfolding_all exact d7
  replace d8 : q8.data = Data.cell none := by with_unfolding_all exact d8
  have n01 : @Ne Nat (s1.heap.objs.size + 1) (s1.heap.objs.size + 1 + 1) := ne1 _
  have n02 : @Ne Nat (s1.heap.objs.size + 1) (s1.heap.objs.size + 1 + 1 + 1) := ne2 _
  have n03 : @Ne Nat (s1.heap.objs.size + 1) (s1.heap.objs.size + 1 + 1 + 1 + 1) := ne3 _
  have n04 : @Ne Nat (s1.heap.objs.size + 1) (s1.heap.objs.size + 1 + 1 + 1 + 1 + 1) := ne4 _
  have n05 : @Ne Nat (s1.heap.objs.size + 1) (s1.heap.objs.size + 1 + 1 + 1 + 1 + 1 + 1) := ne5 _
  have n06 : @Ne Nat (s1.heap.objs.size + 1) (s1.heap.objs.size + 1 + 1 + 1 + 1 + 1 + 1 + 1) := ne6 _
  have n07 : @Ne Nat (s1.heap.objs.size + 1) (s1.heap.objs.size + 1 + 1 + 1 + 1 + 1 + 1 + 1 + 1) := ne7 _
  have n12 : @Ne Nat (s1.heap.objs.size + 1 + 1) (s1.heap.objs.size + 1 + 1 + 1) := ne1 _
  have n13 : @Ne Nat (s1.heap.objs.size + 1 + 1) (s1.heap.objs.size + 1 + 1 + 1 + 1) := ne2 _
  have n14 : @Ne Nat (s1.heap.objs.size + 1 + 1) (s1.heap.objs.size + 1 + 1 + 1 + 1 + 1) := ne3 _
  have n15 : @Ne Nat (s1.heap.objs.size + 1 + 1) (s1.heap.objs.size + 1 + 1 + 1 + 1 + 1 + 1) := ne4 _
  have n16 : @Ne Nat (s1.heap.objs.size + 1 + 1) (s1.heap.objs.size + 1 + 1 + 1 + 1 + 1 + 1 + 1) := ne5 _
  have n17 : @Ne Nat (s1.heap.objs.size + 1 + 1) (s1.heap.objs.size + 1 + 1 + 1 + 1 + 1 + 1 + 1 + 1) := ne6 _
  have n23 : @Ne Nat (s1.heap.objs.size + 1 + 1 + 1) (s1.heap.objs.size + 1 + 1 + 1 + 1) := ne1 _
  have n24 : @Ne Nat (s1.heap.objs.size + 1 + 1 + 1) (s1.heap.objs.size + 1 + 1 + 1 + 1 + 1) := ne2 _
  have n25 : @Ne Nat (s1.heap.objs.size + 1 + 1 + 1) (s1.heap.objs.size + 1 + 1 + 1 + 1 + 1 + 1) := ne3 _
  have n26 : @Ne Nat (s1.heap.objs.size + 1 + 1 + 1) (s1.heap.objs.size + 1 + 1 + 1 + 1 + 1 + 1 + 1) := ne4 _
  have n27 : @Ne Nat (s1.heap.objs.size + 1 + 1 + 1) (s1.heap.objs.size + 1 + 1 + 1 + 1 + 1 + 1 + 1 + 1) := ne5 _
  have n34 : @Ne Nat (s1.heap.objs.size + 1 + 1 + 1 + 1) (s1.heap.objs.size + 1 + 1 + 1 + 1 + 1) := ne1 _
  have n35 : @Ne Nat (s1.heap.objs.size + 1 + 1 + 1 + 1) (s1.heap.objs.size + 1 + 1 + 1 + 1 + 1 + 1) := ne2 _
  have n36 : @Ne Nat (s1.heap.objs.size + 1 + 1 + 1 + 1) (s1.heap.objs.size + 1 + 1 + 1 + 1 + 1 + 1 + 1) := ne3 _
  have n37 : @Ne Nat (s1.heap.objs.size + 1 + 1 + 1 + 1) (s1.heap.objs.size + 1 + 1 + 1 + 1 + 1 + 1 + 1 + 1) := ne4 _
  have n45 : @Ne Nat (s1.heap.objs.size + 1 + 1 + 1 + 1 + 1) (s1.heap.objs.size + 1 + 1 + 1 + 1 + 1 + 1) := ne1 _
  have n46 : @Ne Nat (s1.heap.objs.size + 1 + 1 + 1 + 1 + 1) (s1.heap.objs.size + 1 + 1 + 1 + 1 + 1 + 1 + 1) := ne2 _
  have n47 : @Ne Nat (s1.heap.objs.size + 1 + 1 + 1 + 1 + 1) (s1.heap.objs.size + 1 + 1 + 1 + 1 + 1 + 1 + 1 + 1) := ne3 _
  have n56 : @Ne Nat (s1.heap.objs.size + 1 + 1 + 1 + 1 + 1 + 1) (s1.heap.objs.size + 1 + 1 + 1 + 1 + 1 + 1 + 1) := ne1 _
  have n57 : @Ne Nat (s1.heap.objs.size + 1 + 1 + 1 + 1 + 1 + 1) (s1.heap.objs.size + 1 + 1 + 1 + 1 + 1 + 1 + 1 + 1) := ne2 _
  have n67 : @Ne Nat (s1.heap.objs.size + 1 + 1 + 1 + 1 + 1 + 1 + 1) (s1.heap.objs.size + 1 + 1 + 1 + 1 + 1 + 1 + 1 + 1) := ne1 _
  have hlen2 : ns.length < 1000 := by omega
  clear hlen
  w_strict k_steps
  rename_i dk vsk dsk nk hk1 tk2 hik hlk _ _ _ _ _ _ _ _ hk2 ok2 dck sz tz hz tkz vsz dsz nz sz0 sz1 hiz hlz qz ez h5 oc5 dcz r6 t6 h6 tk6 vs6 ds6 n6 r60 r61 hi6 hl6 F6 N6 h7 tk7 t7 u7 v7 R7 F7 N7 K7 g7
  have hr6N : (((r6 - 0).toNat : Nat) : Int) = r6 := by rw [Int.sub_zero]; exact Int.toNat_of_nonneg r60
  unfold Halt
  refine rest_dk (fun i ys vs' k' tl => ∃ ds os, IntsAre vs' ds ∧ ds.length < 1000 ∧ Tups tl ∧ DatAll tl ys (os.map enc) ∧ os.length = i ∧ ∀ o ∈ os, InSize sz o) ⟨_, [], hi6, hl6, (fun _ h => nomatch h), .nil, rfl, (fun _ h => nomatch h)⟩ ?_ ?_
  · clear F6 N6 F7 N7 F N0
    rintro i ys vs8 k8 tl hi8 hOff ⟨ds8, os, hY1, hY2, hT, hY, hol, hIn⟩ v I oI C oC DD m₂ h tk E' ⟨t9, rfl⟩ hC hx F' N' off ⟨ne1, ne2, ne3⟩
    have offt := (off3_app.mp off.2).2
    simp only [List.cons_append, List.nil_append] at N' off
    have off2 := off
    simp only [LCg.Off3, and_true] at off2
    repeat (have q9 := And.left off2; have qa := And.left q9; have qb := And.left (And.right q9); have qc := And.right (And.right q9); replace off2 := And.right off2)
    have hOff2 := hOff
    simp only [List.map_cons, List.map_nil] at hOff2
    dsimp only
    clear qk ek qz ez R7 K7 h7 hk1 hik hlk hk2 hz hiz hlz h5 h6 hi6 hl6
    w_strict k_steps
    rename_i o9 v9 tl9 h9 tk9 vs9 ds9 n9 io9 hD9 hT9 ho9 hi9 hl9 F9 N9
    refine end_dk vs9 n9 (tl9 ++ tl) F9 N9 (by kqd_sub) off (off3_app.mpr ⟨off3_new ho9, offt⟩) trivial (own_two (own_new ho9 fun b hb => by
      rcases List.mem_cons.mp hb with rfl | hb
      · exact ⟨_, .tail _ (.tail _ (.tail _ (.head _)))⟩
      · obtain ⟨p, hp, rfl⟩ := List.mem_map.mp hb
        exact ⟨p.2, .tail _ (.tail _ (.tail _ (.tail _ (List.mem_append_left tl hp))))⟩) hOff) ⟨ds9, os ++ [o9], hi9, hl9, tups_app hT9 hT, ?_, ?_, ?_⟩
    · rw [List.map_append]
      exact (hY.mono fun p hp => List.mem_append_right _ hp).append (.cons (hD9.mono fun p hp => List.mem_append_left _ hp) .nil)
    · rw [List.length_append, List.length_singleton, hol]
    · intro o ho
      rcases List.mem_append.mp ho with ho | ho
      · exact hIn o ho
      · rw [List.mem_singleton.mp ho]; exact io9
  · clear F6 N6 F7 N7 F N0
    rintro ys vs8 k8 tl hOff ⟨ds8, os, hY1, hY2, hT, hY, hol, hIn⟩
    unfold LCg.FinA
    intro DS h9 tk9 F9 N9 o9
    simp only [List.cons_append, List.nil_append] at N9 o9
    have o92 := o9
    simp only [LCg.Off1, and_true] at o9
    repeat (first | (refine and8 o9 ?_; clear o9; intro q9 q9 q9 q9 q9 q9 q9 q9 o9) | (refine and4 o9 ?_; clear o9; intro q9 q9 q9 q9 o9) | (have q9 := And.left o9; replace o9 := And.right o9))
    simp only [List.map_cons, List.map_nil] at hOff
    dsimp only
    have hys := hY.length
    rw [List.length_map] at hys
    w_strict k_steps
    unfold Halt
    with_unfolding_all refine For_invVF (by k_asm) (by rfl) (by rfl) ?_
    w_strict k_steps
    unfold Halt
    rename_i xd dxd z3 z4 z5 z6 z7 z8 z9 z10 z11 z12 z13 z14 tA l2a z17 z18 z19 z20 z21 z22 z23 z24 z25 tkA spx z28 z29 z30 z31 z32 z33 z34 z35 z36 z37 z38 z39 z40 z41 z42 z43 z44 z45 z46 z47 z48 xo dxo z51 z52 z53 z54 z55 z56 z57 z58 z59 z60 z61 z62 z63 z64 z65 tC l2c z68 z69 z70 z71 z72 z73 z74 z75 z76 tkB spo z79 z80 z81 z82 z83 z84 z85 z86 z87 z88 z89 z90 z91 z92 z93 z94 z95 tD z97 z98 z99 z100 z101 z102 DP z104 z105 z106 z107 z108 z109 z110 z111 z112 z113 z114 z115 z116 z117 z118 z119 z120 z121 z122 z123 z124 oda dda z127 oot ddo z130 z131 z132 z133 z134 z135 z136 z137 z138 z139 spd cD z142 z143 z144 z145 z146 z147 z148 z149 z150 z151 z152 z153 z154 z155 z156 z157 z158 z159 z160 z161 z162 z163 z164 z165 z166 rL tL z169 z170 vsL dsL nL rL0 rL1 hiL hlL z178 z179 hL5 tkL z182 z183 z184 RL FL NL KL
    have hrLN : (((1 + rL - 0).toNat : Nat) : Int) = 1 + rL := by rw [Int.sub_zero]; exact Int.toNat_of_nonneg (Int.add_nonneg (by decide) rL0)
    clear z20 z21 z22 z23 z24 z25 z44 z45 z47 z48 z71 z72 z73 z74 z75 z76 z98 z99 z101 z102 z134 z135 z136 z137 z138 z163 z164 z165 z166 z178 z179
    have NJ : News s1.heap s1.heap.objs.size hL5 (lapNx w.params s1.heap.objs.size dk xd dxd xo dxo spo (tkA + 1) (tkB + 1) ok2 oda oot oc5 q5 q6 q7 q8 vsL nL spd ((DS, listOf ys.toArray ys.length) :: (spd, listOf ys.toArray cD) :: tl)) := cb_drop NL (by kqd_sub)
    have oJ : OwnOff ((DS, listOf ys.toArray ys.length) :: (spd, listOf ys.toArray cD) :: tl) (lapAd s1.heap.objs.size dk xd dxd xo dxo spo) := by
      refine own_hd ?_ (own_hd ?_ ?_)
      · repeat' (first | exact List.forall_mem_nil _ | refine List.forall_mem_cons.mpr ⟨by k_ne, ?_⟩)
      · repeat' (first | exact List.forall_mem_nil _ | refine List.forall_mem_cons.mpr ⟨by k_ne, ?_⟩)
      · iterate 9 (refine own_adr (hOff.ne (by k_memK)) ?_)
        exact own_adr (fun p hp => Nat.ne_of_lt (Nat.lt_trans (allLt_all tA p hp) l2a)) (own_adr (fun p hp => Nat.ne_of_lt (allLt_all tA p hp)) (own_adr (fun p hp => Nat.ne_of_lt (Nat.lt_trans (allLt_all tC p hp) l2c)) (own_adr (fun p hp => Nat.ne_of_lt (allLt_all tC p hp)) (own_adr (fun p hp => Nat.ne_of_lt (allLt_all tD p hp)) own_adr0))))
    refine loop_range (lapJ w.params s1.heap.objs.size dk xd dxd xo dxo spo (tkA + 1) (tkB + 1) ok2 oda oot) (by rfl) RL (small_ofN (by omega) (by omega) (by omega) (by omega)) (rangeSize_nat _ _) FL NJ
      ⟨DS, ys, _, spd, ys, _, tl, tl, os, _, _, _, _, _, _, _, _, sz, tz, _, _, _, _, _, by rfl, rfl, oJ, .head _, .tail _ (.head _), hY, hT, (fun p hp => .tail _ (.tail _ hp)), hY, hT, (fun p hp => .tail _ (.tail _ hp)), hiL, hlL, dcz, d5, d6, d7, d8, sz0, by omega, hIn, by omega⟩ ?_ ?_
    · clear NL KL RL FL NJ oJ hY hT hOff hIn hiL hlL dcz d5 d6 d7 d8
      have m01 : @Ne Nat dk (s1.heap.objs.size + 1 + 1 + 1 + 1 + 1 + 1 + 1) := by k_ne
      have m02 : @Ne Nat dk (s1.heap.objs.size + 1 + 1 + 1 + 1 + 1 + 1) := by k_ne
      have m03 : @Ne Nat dk (s1.heap.objs.size + 1 + 1 + 1 + 1 + 1) := by k_ne
      have m04 : @Ne Nat dk (s1.heap.objs.size + 1 + 1) := by k_ne
      have m05 : @Ne Nat dk dxd := by k_ne
      have m12 : @Ne Nat (s1.heap.objs.size + 1 + 1 + 1 + 1 + 1 + 1 + 1) (s1.heap.objs.size + 1 + 1 + 1 + 1 + 1 + 1) := by k_ne
      have m13 : @Ne Nat (s1.heap.objs.size + 1 + 1 + 1 + 1 + 1 + 1 + 1) (s1.heap.objs.size + 1 + 1 + 1 + 1 + 1) := by k_ne
      have m14 : @Ne Nat (s1.heap.objs.size + 1 + 1 + 1 + 1 + 1 + 1 + 1) (s1.heap.objs.size + 1 + 1) := by k_ne
      have m15 : @Ne Nat (s1.heap.objs.size + 1 + 1 + 1 + 1 + 1 + 1 + 1) dxd := by k_ne
      have m23 : @Ne Nat (s1.heap.objs.size + 1 + 1 + 1 + 1 + 1 + 1) (s1.heap.objs.size + 1 + 1 + 1 + 1 + 1) := by k_ne
      have m24 : @Ne Nat (s1.heap.objs.size + 1 + 1 + 1 + 1 + 1 + 1) (s1.heap.objs.size + 1 + 1) := by k_ne
      have m25 : @Ne Nat (s1.heap.objs.size + 1 + 1 + 1 + 1 + 1 + 1) dxd := by k_ne
      have m34 : @Ne Nat (s1.heap.objs.size + 1 + 1 + 1 + 1 + 1) (s1.heap.objs.size + 1 + 1) := by k_ne
      have m35 : @Ne Nat (s1.heap.objs.size + 1 + 1 + 1 + 1 + 1) dxd := by k_ne
      have m45 : @Ne Nat (s1.heap.objs.size + 1 + 1) dxd := by k_ne
      have oFx : ∀ b ∈ [dk, s1.heap.objs.size + 1 + 1 + 1 + 1 + 1 + 1 + 1, s1.heap.objs.size + 1 + 1 + 1 + 1 + 1 + 1, s1.heap.objs.size + 1 + 1 + 1 + 1 + 1, s1.heap.objs.size + 1 + 1, dxd], ∀ a ∈ [s1.heap.objs.size + 1 + 1 + 1 + 1 + 1 + 1 + 1 + 1, s1.heap.objs.size + 1 + 1 + 1 + 1, s1.heap.objs.size + 1 + 1 + 1, s1.heap.objs.size + 1, xd, xo, dxo, spo], @Ne Nat a b := by
        repeat' (first | exact List.forall_mem_nil _ | refine List.forall_mem_cons.mpr ⟨?_, ?_⟩)
        all_goals k_ne
      clear z4 z5 z6 z7 z8 z9 z10 z11 z12 z13 z14 z29 z30 z31 z32 z33 z34 z35 z36 z37 z38 z39 z40 z41 z42 z52 z53 z54 z55 z56 z57 z58 z59 z60 z61 z62 z63 z64 z65 z80 z81 z82 z83 z84 z85 z86 z87 z88 z89 z90 z91 z92 z93 z94 z95 z105 z106 z107 z108 z109 z110 z111 z112 z113 z114 z115 z116 z117 z118 z119 z120 z121 z122 z143 z144 z145 z146 z147 z148 z149 z150 z151 z152 z153 z154 z155 z156 z157 z158 z159 z160 z161 n01 n02 n03 n04 n05 n06 n07 n12 n13 n14 n15 n16 n17 n23 n24 n25 n26 n27 n34 n35 n36 n37 n45 n46 n47 n56 n57 n67 o9 o92 l2a l2c tA tC tD
      rintro i t m₁ nx h tk own hi offO ⟨sp, vss, ks, spd, vsp, kp, L9, L8, os, vsd, ds, kd, ocz, q5, q6, q7, q8, sz, tz, tl, v5, v6, v7, v8, e1, rfl, hOff, hsp, hspd, hY9, hT9, hs9, hY8, hT8, hs8, hi9, hl9, dz, e5, e6, e7, e8, z0, z1, hIn, hol⟩ F2 N2
      have hOL : OwnOff own (lapAd s1.heap.objs.size dk xd dxd xo dxo spo) := own_pre (B := tl.map Prod.fst) offO
      have F3 := fr_know (x := Str.ofString "spans") F2 (by rw [if_neg (by decide)]; exact e1)
      clear F2
      have hvss := hY9.length
      rw [List.length_map] at hvss
      have hvsp := hY8.length
      rw [List.length_map] at hvsp
      have bnd1 : os.length < 1000 := Nat.lt_trans hol (by decide)
      have bnd5 : vss.length < 1000 := by rw [hvss]; exact bnd1
      have bnd6 : vsp.length < 1000 := by rw [hvsp]; exact bnd1
      obtain ⟨RO, hRO⟩ : ∃ R, R = (s1.heap.objs.size + 1 + 1 + 1 + 1 + 1 + 1 + 1 + 1, q8) :: (s1.heap.objs.size + 1 + 1 + 1 + 1, oot) :: (s1.heap.objs.size + 1 + 1 + 1, oda) :: (s1.heap.objs.size + 1, ok2) :: (xd, instObj 103 dxd) :: (xo, instObj 103 dxo) :: (dxo, spansDict w.params (tkB + 1) spo) :: (spo, listOf #[] 0) :: (tl ++ own) := ⟨_, rfl⟩
      have sT : ∀ p ∈ tl, p ∈ RO := by rw [hRO]; exact fun p hp => .tail _ (.tail _ (.tail _ (.tail _ (.tail _ (.tail _ (.tail _ (.tail _ (List.mem_append_left _ hp))))))))
      have sO : ∀ p ∈ own, p ∈ RO := by rw [hRO]; exact fun p hp => .tail _ (.tail _ (.tail _ (.tail _ (.tail _ (.tail _ (.tail _ (.tail _ (List.mem_append_right _ hp))))))))
      have N3 : News s1.heap s1.heap.objs.size h ((dk, listOf vsd.toArray kd) :: (s1.heap.objs.size + 1 + 1 + 1 + 1 + 1 + 1 + 1, q7) :: (s1.heap.objs.size + 1 + 1 + 1 + 1 + 1 + 1, q6) :: (s1.heap.objs.size + 1 + 1 + 1 + 1 + 1, q5) :: (s1.heap.objs.size + 1 + 1, ocz) :: (dxd, spansDict w.params (tkA + 1) spd) :: RO) := by
        rw [hRO]; exact cb_drop N2 (by kqd_sub)
      have oRO : OwnOff RO [dk, s1.heap.objs.size + 1 + 1 + 1 + 1 + 1 + 1 + 1, s1.heap.objs.size + 1 + 1 + 1 + 1 + 1 + 1, s1.heap.objs.size + 1 + 1 + 1 + 1 + 1, s1.heap.objs.size + 1 + 1, dxd] := by
        rw [hRO]
        refine own_flip (l := [(s1.heap.objs.size + 1 + 1 + 1 + 1 + 1 + 1 + 1 + 1, q8), (s1.heap.objs.size + 1 + 1 + 1 + 1, oot), (s1.heap.objs.size + 1 + 1 + 1, oda), (s1.heap.objs.size + 1, ok2), (xd, instObj 103 dxd), (xo, instObj 103 dxo), (dxo, spansDict w.params (tkB + 1) spo), (spo, listOf #[] 0)]) oFx (own_two ?_ ?_)
        · exact fun p hp b hb => hOff p hp b (lap_six hb)
        · exact fun p hp b hb => hOL p hp b (lap_six hb)
      have r8 : (s1.heap.objs.size + 1 + 1 + 1 + 1 + 1 + 1 + 1 + 1, q8) ∈ RO := by rw [hRO]; exact .head _
      have r4 : (s1.heap.objs.size + 1 + 1 + 1 + 1, oot) ∈ RO := by rw [hRO]; exact .tail _ (.head _)
      have r3 : (s1.heap.objs.size + 1 + 1 + 1, oda) ∈ RO := by rw [hRO]; exact .tail _ (.tail _ (.head _))
      have r1 : (s1.heap.objs.size + 1, ok2) ∈ RO := by rw [hRO]; exact .tail _ (.tail _ (.tail _ (.head _)))
      have rxd : (xd, instObj 103 dxd) ∈ RO := by rw [hRO]; exact .tail _ (.tail _ (.tail _ (.tail _ (.head _))))
      have rxo : (xo, instObj 103 dxo) ∈ RO := by rw [hRO]; exact .tail _ (.tail _ (.tail _ (.tail _ (.tail _ (.head _)))))
      have rdxo : (dxo, spansDict w.params (tkB + 1) spo) ∈ RO := by rw [hRO]; exact .tail _ (.tail _ (.tail _ (.tail _ (.tail _ (.tail _ (.head _))))))
      have rspo : (spo, listOf #[] 0) ∈ RO := by rw [hRO]; exact .tail _ (.tail _ (.tail _ (.tail _ (.tail _ (.tail _ (.tail _ (.head _)))))))
      have rsp := sT _ hsp
      have rspd := sT _ hspd
      have hs9R := sub_trans hs9 sT
      have hs8R := sub_trans hs8 sT
      clear hs9 hs8 hsp hspd hOff N2 hRO oFx e1
      w_strict k_steps
      rename_i ra ta _ tka _ _ _ ra0 ra1 _ _ _ _ _ o5 do5 _ rb tb _ tkb _ _ _ rb0 rb1 _ _ _ _ rc tc _ _ vsd2 ds2 kd2 rc0 rc1 hid hld DT _ ltT _ _ _ _ _ _ _ _ _ o6 do6 _ o7 do7 DR vsR tR _ _ hTR hYR hfR FR NR oRq _ _ _ _ _ _ _ oR _
      unfold Halt
      refine rest_tl (fun i ys tl => Tups tl ∧ (∀ q ∈ tl, ∀ p ∈ RO, q.1 ≠ p.1) ∧ DatAll tl ys (((os.take i).map (Option.map (mv (1 + ra) (1 + ra + rb) (1 + ra + rc)))).map enc)) ⟨(fun _ h => nomatch h), (fun _ h => nomatch h), .nil⟩ ?_ ?_
      · clear FR NR hi9 hl9
        rintro j ys tl9 hj ⟨hT, hFr, hY⟩ v I oI C oC DD m₂ h tk E' hP hC hx F' N' off ⟨ne1, ne2, ne3⟩
        dsimp only
        obtain ⟨o, ho, hDo⟩ := dat_at_enc hY9 hP
        simp only [List.cons_append, List.append_assoc] at N'
        rcases datIn_enc hDo with ⟨rfl, rfl⟩ | ⟨a9, b9, t9, u9, ad, n9, rfl, rfl, hm⟩
        · w_strict k_steps
          refine end_tl tl9 (by k_asm) (by k_asm) (by kqd_sub) off (Or.inr ⟨_, by k_mem, rfl, _, rfl⟩) ⟨hT, hFr, ?_⟩
          rw [take_more ho, List.map_append, List.map_append]
          exact hY.append (.cons .none .nil)
        · have hb := hIn _ (List.mem_of_getElem? ho) a9 b9 rfl
          have hm9 := hs9R _ hm
          w_strict k_steps
          rename News _ _ _ ((_, { cls := Value.type "tuple", dict := none, data := Data.seq _ _, slots := _ }) :: _) => NN
          refine end_tl ((_, _) :: tl9) (by k_asm) NN (by kqd_sub) (off3_cons off (by k_ne) (by k_ne) (by k_ne)) (Or.inr ⟨_, by k_mem, rfl, _, rfl⟩) ⟨?_, ?_, ?_⟩
          · intro p hp
            rcases List.mem_cons.mp hp with rfl | hp
            · exact ⟨rfl, fun _ e => nomatch e⟩
            · exact hT p hp
          · intro q hq p hp
            rcases List.mem_cons.mp hq with rfl | hq
            · exact Ne.symm ((show ∀ p ∈ RO, p.1 ≠ _ from by k_all) p hp)
            · exact hFr q hq p hp
          · rw [take_more ho, List.map_append, List.map_append]
            exact (hY.mono fun p hp => List.mem_cons_of_mem _ hp).append (.cons (DatIn.tuple (vs := [_, _]) (.head _) (.cons (.int _ _) (.cons (.int _ _) .nil))) .nil)
      · clear FR hi9 hl9
        rintro ys2 tl9 ⟨hT9b, hFr9, hY9b⟩
        unfold LCg.FinA
        intro DS2 h9 tk9 F9 N9 o9
        simp only [List.cons_append, List.append_assoc] at N9 o9
        have o92 := o9
        simp only [LCg.Off1, and_true] at o9
        repeat (first | (refine and8 o9 ?_; clear o9; intro q9 q9 q9 q9 q9 q9 q9 q9 o9) | (refine and4 o9 ?_; clear o9; intro q9 q9 q9 q9 o9) | (have q9 := And.left o9; replace o9 := And.right o9))
        have hsz : vss.toArray.size = os.length := by rw [List.size_toArray]; exact hvss
        rw [hsz, List.take_length] at hY9b
        obtain ⟨os2, hos2⟩ : ∃ os2, os2 = os.map (Option.map (mv (1 + ra) (1 + ra + rb) (1 + ra + rc))) := ⟨_, rfl⟩
        rw [← hos2] at hYR hY9b
        have hl2 : os2.length = os.length := by rw [hos2, List.length_map]
        have he2 : (os2.map enc).length = os.length := by rw [List.length_map, hl2]
        obtain ⟨R2, hR2⟩ : ∃ R, R = (DS2, LCg.lst ys2) :: (DR, listOf vsR.toArray vsR.length) :: (RO ++ (tR ++ tl9)) := ⟨_, rfl⟩
        have oR2 : OwnOff R2 [dk, (s1.heap.objs.size + 1 + 1 + 1 + 1 + 1 + 1 + 1), (s1.heap.objs.size + 1 + 1 + 1 + 1 + 1 + 1), (s1.heap.objs.size + 1 + 1 + 1 + 1 + 1), (s1.heap.objs.size + 1 + 1), dxd] := by
          rw [hR2]
          refine own_hd ?_ (own_hd ?_ (own_two oRO (own_two ?_ ?_)))
          · repeat' (first | exact List.forall_mem_nil _ | refine List.forall_mem_cons.mpr ⟨?_, ?_⟩)
            all_goals k_ne
          · repeat' (first | exact List.forall_mem_nil _ | refine List.forall_mem_cons.mpr ⟨?_, ?_⟩)
            all_goals k_ne
          · exact own_adr (tups_off N9 (by kqd_sub) hTR (o := listOf vsd2.toArray kd2) (by k_mem) (show Value.type "list" ≠ Value.type "tuple" by decide)) (own_adr (tups_offC N9 (by kqd_sub) hTR (by k_mem) do7) (own_adr (tups_offC N9 (by kqd_sub) hTR (by k_mem) do6) (own_adr (tups_offC N9 (by kqd_sub) hTR (by k_mem) do5) (own_adr (tups_offC N9 (by kqd_sub) hTR (by k_mem) dz) (own_adr (tups_off N9 (by kqd_sub) hTR (o := spansDict w.params (tkA + 1) DR) (by k_mem) (show Value.type "dict" ≠ Value.type "tuple" by decide)) own_adr0)))))
          · exact own_adr (tups_off N9 (by kqd_sub) hT9b (o := listOf vsd2.toArray kd2) (by k_mem) (show Value.type "list" ≠ Value.type "tuple" by decide)) (own_adr (tups_offC N9 (by kqd_sub) hT9b (by k_mem) do7) (own_adr (tups_offC N9 (by kqd_sub) hT9b (by k_mem) do6) (own_adr (tups_offC N9 (by kqd_sub) hT9b (by k_mem) do5) (own_adr (tups_offC N9 (by kqd_sub) hT9b (by k_mem) dz) (own_adr (tups_off N9 (by kqd_sub) hT9b (o := spansDict w.params (tkA + 1) DR) (by k_mem) (show Value.type "dict" ≠ Value.type "tuple" by decide)) own_adr0)))))
        have N4 : News s1.heap s1.heap.objs.size h9 ((dk, listOf vsd2.toArray kd2) :: (s1.heap.objs.size + 1 + 1 + 1 + 1 + 1 + 1 + 1, o7) :: (s1.heap.objs.size + 1 + 1 + 1 + 1 + 1 + 1, o6) :: (s1.heap.objs.size + 1 + 1 + 1 + 1 + 1, o5) :: (s1.heap.objs.size + 1 + 1, ocz) :: (dxd, spansDict w.params (tkA + 1) DR) :: R2) := by
          rw [hR2]; exact cb_drop N9 (by kqd_sub)
        have sR : ∀ p ∈ RO, p ∈ R2 := by rw [hR2]; exact fun p hp => .tail _ (.tail _ (List.mem_append_left _ hp))
        have sTR : ∀ p ∈ tR, p ∈ R2 := by rw [hR2]; exact fun p hp => .tail _ (.tail _ (List.mem_append_right _ (List.mem_append_left _ hp)))
        have sT9 : ∀ p ∈ tl9, p ∈ R2 := by rw [hR2]; exact fun p hp => .tail _ (.tail _ (List.mem_append_right _ (List.mem_append_right _ hp)))
        have rDS : (DS2, listOf ys2.toArray ys2.length) ∈ R2 := by rw [hR2]; exact .head _
        have rDR : (DR, listOf vsR.toArray vsR.length) ∈ R2 := by rw [hR2]; exact .tail _ (.head _)
        have hO8 : ∀ b ∈ [s1.heap.objs.size + 1 + 1 + 1 + 1 + 1 + 1 + 1 + 1, s1.heap.objs.size + 1 + 1 + 1 + 1, s1.heap.objs.size + 1 + 1 + 1, s1.heap.objs.size + 1, xd, xo, dxo, spo], ∃ o, (b, o) ∈ RO := by
          repeat' (first | exact List.forall_mem_nil _ | refine List.forall_mem_cons.mpr ⟨⟨_, by with_reducible assumption⟩, ?_⟩)
        have oAll : OwnOff ((DS2, LCg.lst ys2) :: (DR, listOf vsR.toArray vsR.length) :: (tR ++ tl9)) (lapAd s1.heap.objs.size dk xd dxd xo dxo spo) := by
          refine own_lap (fun p hp => oR2 p (by rw [hR2]; rcases List.mem_cons.mp hp with rfl | hp; exact .head _; rcases List.mem_cons.mp hp with rfl | hp; exact .tail _ (.head _); exact .tail _ (.tail _ (List.mem_append_right _ hp)))) (own_hd (fun b hb => ?_) (own_hd (fun b hb => ?_) (own_two (fun q hq b hb => ?_) (fun q hq b hb => ?_))))
          · obtain ⟨o, ho⟩ := hO8 b hb
            exact (off1_mem o9 (b, o) (List.mem_append_left _ ho)).symm
          · obtain ⟨o, ho⟩ := hO8 b hb
            exact (off1_mem oR (b, o) ho).symm
          · obtain ⟨o, ho⟩ := hO8 b hb
            exact hfR q hq (b, o) (by k_mem)
          · obtain ⟨o, ho⟩ := hO8 b hb
            exact hFr9 q hq (b, o) ho
        have hOwn : OwnOff own ((lapNx w.params s1.heap.objs.size dk xd dxd xo dxo spo (tkA + 1) (tkB + 1) ok2 oda oot ocz o5 o6 o7 q8 vsd2 kd2 DR ((DS2, LCg.lst ys2) :: (DR, listOf vsR.toArray vsR.length) :: (tR ++ tl9))).map (·.1)) := by
          intro p hp b hb
          rcases List.mem_append.mp (show b ∈ lapAd s1.heap.objs.size dk xd dxd xo dxo spo ++ (DS2 :: DR :: (tR ++ tl9).map (·.1)) from hb) with hb | hb
          · exact hOL p hp b hb
          · have hq := sO p hp
            rcases List.mem_cons.mp hb with rfl | hb
            · exact off1_mem o9 p (List.mem_append_left _ hq)
            · rcases List.mem_cons.mp hb with rfl | hb
              · exact off1_mem oR p hq
              · obtain ⟨r, hr, rfl⟩ := List.mem_map.mp hb
                rcases List.mem_append.mp hr with hr | hr
                · exact (hfR r hr p (by k_mem)).symm
                · exact (hFr9 r hr p hq).symm
        have R8 := sR _ r8
        have R4 := sR _ r4
        have RXO := sR _ rxo
        have RDXO := sR _ rdxo
        have RSPO := sR _ rspo
        have R3 := sR _ r3
        have R1 := sR _ r1
        have RXD := sR _ rxd
        have hysl : ys2.length = os.length := by rw [hY9b.length, he2]
        have hvsR : vsR.length = os.length := by rw [hYR.length, he2]
        have bnd2 : os2.length < 1000 := by rw [hl2]; exact bnd1
        have bnd3 : (os2.map enc).length < 1000 := by rw [he2]; exact bnd1
        have bnd4 : ys2.length < 1000 := by rw [hysl]; exact bnd1
        have bnd7 : vsR.length < 1000 := by rw [hvsR]; exact bnd1
        have sOwn : ∀ p ∈ own, p ∈ R2 := sub_trans sO sR
        clear hR2 N9 hO8 hfR hFr9 o92 o9 oRq oR hOL
        w_strict k_steps
        rename_i _ oz2 _ _ dz2 _ _ _ _ _ _ _ _ _ g6
        unfold Halt
        refine rest_tl (fun i ys tl => tl = [] ∧ DatAll tR ys ((List.range i).map fun j => enc (os2.getD j none))) ⟨rfl, .nil⟩ ?_ ?_
        · rintro j ys6 tl6 hj ⟨rfl, hY⟩ v I oI C oC DD m₂ h tk E' ⟨t9, rfl⟩ hC hx F' N' off ⟨ne1, ne2, ne3⟩
          have jB := jb2 hj (by rw [he2]; exact hol)
          dsimp only
          simp only [List.cons_append, List.append_nil] at N'
          w_strict k_steps
          rename DatIn tR _ _ => hD
          have e0 : ((0 : Int) + (j : Int)).toNat = j := zn j
          rw [e0] at hD
          refine end_tl [] (by k_asm) (by k_asm) (by kqd_sub) off trivial ⟨rfl, ?_⟩
          rw [List.range_succ, List.map_append]
          exact hY.append (.cons hD .nil)
        · rintro ys6 tl6 ⟨rfl, hY6⟩
          unfold LCg.FinE
          intro D6 h6 tk6 F6 N6 p6
          simp only [List.cons_append, List.append_nil] at N6 p6
          have p6b := p6
          simp only [LCg.Off1, and_true] at p6
          repeat (first | (refine and8 p6 ?_; clear p6; intro q9 q9 q9 q9 q9 q9 q9 q9 p6) | (refine and4 p6 ?_; clear p6; intro q9 q9 q9 q9 p6) | (have q9 := And.left p6; replace p6 := And.right p6))
          dsimp only
          have en : (((os2.map enc).length : Int) + 2 - 0).toNat = os2.length + 2 := by rw [List.length_map]; exact tn2 _
          rw [en] at hY6
          have hYa : DatAll tl9 (ys2 ++ [Value.none, Value.none]) (os2.map enc ++ [Dat.none, Dat.none]) := hY9b.append (.cons .none (.cons .none .nil))
          have hE6 := range_span os2
          have hK6 : ∀ d ∈ os2.map enc ++ [Dat.none, Dat.none], kqdOk 8 d = true := ok_app (encs_ok os2) (by intro d hd; simp at hd; rw [hd]; rfl)
          w_strict k_steps
          unfold Halt
          refine rest_tl (fun i ys tl => tl = [] ∧ DatAll tR ys ((List.range i).map fun j => encI ((os2.getD j none).map Prod.fst))) ⟨rfl, .nil⟩ ?_ ?_
          · rintro j ys6 tl6 hj ⟨rfl, hY⟩ v I oI C oC DD m₂ h tk E' ⟨t9, rfl⟩ hC hx F' N' off ⟨ne1, ne2, ne3⟩
            have jB := jb0 hj (by rw [he2]; exact hol)
            dsimp only
            simp only [List.cons_append, List.append_nil] at N'
            w_strict k_steps
            rename DatIn tR _ _ => hD
            have e0 : ((0 : Int) + (j : Int)).toNat = j := zn j
            rw [e0] at hD
            refine end_tl [] (by k_asm) (by k_asm) (by kqd_sub) off trivial ⟨rfl, ?_⟩
            rw [List.range_succ, List.map_append]
            exact hY.append (.cons hD .nil)
          rintro ys7 tl7 ⟨rfl, hY7⟩
          unfold LCg.FinE
          intro D7 h7 tk7 F7 N7 p7
          simp only [List.cons_append, List.append_nil] at N7 p7
          have p7b := p7
          simp only [LCg.Off1, and_true] at p7
          repeat (first | (refine and8 p7 ?_; clear p7; intro q9 q9 q9 q9 q9 q9 q9 q9 p7) | (refine and4 p7 ?_; clear p7; intro q9 q9 q9 q9 p7) | (have q9 := And.left p7; replace p7 := And.right p7))
          dsimp only
          have en7 : (((os2.map enc).length : Int) - 0).toNat = os2.length := by rw [List.length_map]; exact tn0 _
          rw [en7] at hY7
          w_strict k_steps
          unfold Halt
          refine rest_tl (fun i ys tl => tl = [] ∧ DatAll [] ys ((os2.take i).map fun o => encI (o.map Prod.fst))) ⟨rfl, .nil⟩ ?_ ?_
          · rintro j ys6 tl6 hj ⟨rfl, hY⟩ v I oI C oC DD m₂ h tk E' hP hC hx F' N' off ⟨ne1, ne2, ne3⟩
            dsimp only
            simp only [List.cons_append, List.append_nil] at N'
            obtain ⟨o, ho, hDo⟩ := dat_at_enc hY9b hP
            rcases datIn_enc hDo with ⟨rfl, rfl⟩ | ⟨a9, b9, t9, u9, ad, n9, rfl, rfl, hm⟩
            · w_strict k_steps
              refine end_tl [] (by k_asm) (by k_asm) (by kqd_sub) off (Or.inr ⟨_, by k_mem, rfl, _, rfl⟩) ⟨rfl, ?_⟩
              rw [take_more ho, List.map_append]
              exact hY.append (.cons .none .nil)
            · have hm9 := sT9 _ hm
              w_strict k_steps
              refine end_tl [] (by k_asm) (by k_asm) (by kqd_sub) off (Or.inr ⟨_, by k_mem, rfl, _, rfl⟩) ⟨rfl, ?_⟩
              rw [take_more ho, List.map_append]
              exact hY.append (.cons (.int _ _) .nil)
          rintro zs7 tz7 ⟨rfl, hZ7⟩
          unfold LCg.FinE
          intro G7 g7 tg7 FG7 NG7 r7
          simp only [List.cons_append, List.append_nil] at NG7 r7
          have r7b := r7
          simp only [LCg.Off1, and_true] at r7
          repeat (first | (refine and8 r7 ?_; clear r7; intro q9 q9 q9 q9 q9 q9 q9 q9 r7) | (refine and4 r7 ?_; clear r7; intro q9 q9 q9 q9 r7) | (have q9 := And.left r7; replace r7 := And.right r7))
          dsimp only
          have ez7 : ys2.toArray.size = os2.length := by rw [List.size_toArray]; omega
          rw [ez7, List.take_length] at hZ7
          have hE7 := range_map os2 (fun o => encI (o.map Prod.fst))
          have hK7 := ok_firsts os2 Prod.fst
          w_strict k_steps
          unfold Halt
          refine rest_tl (fun i ys tl => tl = [] ∧ DatAll tR ys ((List.range i).map fun j => encI ((os2.getD j none).map Prod.snd))) ⟨rfl, .nil⟩ ?_ ?_
          · rintro j ys6 tl6 hj ⟨rfl, hY⟩ v I oI C oC DD m₂ h tk E' ⟨t9, rfl⟩ hC hx F' N' off ⟨ne1, ne2, ne3⟩
            have jB := jb0 hj (by rw [he2]; exact hol)
            dsimp only
            simp only [List.cons_append, List.append_nil] at N'
            w_strict k_steps
            rename DatIn tR _ _ => hD
            have e0 : ((0 : Int) + (j : Int)).toNat = j := zn j
            rw [e0] at hD
            refine end_tl [] (by k_asm) (by k_asm) (by kqd_sub) off trivial ⟨rfl, ?_⟩
            rw [List.range_succ, List.map_append]
            exact hY.append (.cons hD .nil)
          rintro ys8 tl8 ⟨rfl, hY8⟩
          unfold LCg.FinE
          intro D8 h8 tk8 F8 N8 p8
          simp only [List.cons_append, List.append_nil] at N8 p8
          have p8b := p8
          simp only [LCg.Off1, and_true] at p8
          repeat (first | (refine and8 p8 ?_; clear p8; intro q9 q9 q9 q9 q9 q9 q9 q9 p8) | (refine and4 p8 ?_; clear p8; intro q9 q9 q9 q9 p8) | (have q9 := And.left p8; replace p8 := And.right p8))
          dsimp only
          have en8 : (((os2.map enc).length : Int) - 0).toNat = os2.length := by rw [List.length_map]; exact tn0 _
          rw [en8] at hY8
          w_strict k_steps
          unfold Halt
          refine rest_tl (fun i ys tl => tl = [] ∧ DatAll [] ys ((os2.take i).map fun o => encI (o.map Prod.snd))) ⟨rfl, .nil⟩ ?_ ?_
          · rintro j ys6 tl6 hj ⟨rfl, hY⟩ v I oI C oC DD m₂ h tk E' hP hC hx F' N' off ⟨ne1, ne2, ne3⟩
            dsimp only
            simp only [List.cons_append, List.append_nil] at N'
            obtain ⟨o, ho, hDo⟩ := dat_at_enc hY9b hP
            rcases datIn_enc hDo with ⟨rfl, rfl⟩ | ⟨a9, b9, t9, u9, ad, n9, rfl, rfl, hm⟩
            · w_strict k_steps
              refine end_tl [] (by k_asm) (by k_asm) (by kqd_sub) off (Or.inr ⟨_, by k_mem, rfl, _, rfl⟩) ⟨rfl, ?_⟩
              rw [take_more ho, List.map_append]
              exact hY.append (.cons .none .nil)
            · have hm9 := sT9 _ hm
              w_strict k_steps
              refine end_tl [] (by k_asm) (by k_asm) (by kqd_sub) off (Or.inr ⟨_, by k_mem, rfl, _, rfl⟩) ⟨rfl, ?_⟩
              rw [take_more ho, List.map_append]
              exact hY.append (.cons (.int _ _) .nil)
          rintro zs8 tz8 ⟨rfl, hZ8⟩
          unfold LCg.FinE
          intro G8 g8 tg8 FG8 NG8 r8
          simp only [List.cons_append, List.append_nil] at NG8 r8
          have r8b := r8
          simp only [LCg.Off1, and_true] at r8
          repeat (first | (refine and8 r8 ?_; clear r8; intro q9 q9 q9 q9 q9 q9 q9 q9 r8) | (refine and4 r8 ?_; clear r8; intro q9 q9 q9 q9 r8) | (have q9 := And.left r8; replace r8 := And.right r8))
          dsimp only
          have ez8 : ys2.toArray.size = os2.length := by rw [List.size_toArray]; omega
          rw [ez8, List.take_length] at hZ8
          have hE8 := range_map os2 (fun o => encI (o.map Prod.snd))
          have hK8 := ok_firsts os2 Prod.snd
          w_strict k_steps
          refine InvEndG.intro (nx := lapNx w.params s1.heap.objs.size dk xd dxd xo dxo spo (tkA + 1) (tkB + 1) ok2 oda oot oz2 o5 o6 o7 q8 vsd2 kd2 DR ((DS2, LCg.lst ys2) :: (DR, listOf vsR.toArray vsR.length) :: (tR ++ tl9))) (by k_asm) (by k_asm)
            ⟨DS2, ys2, _, DR, vsR, _, tl9, tR, os2, vsd2, ds2, kd2, oz2, o5, o6, o7, q8, _, _, _, _, _, _, v8, by rfl, rfl, oAll, .head _, .tail _ (.head _), hY9b, hT9b, (fun p hp => .tail _ (.tail _ (List.mem_append_right _ hp))), hYR, hTR, (fun p hp => .tail _ (.tail _ (List.mem_append_left _ hp))), hid, hld, dz2, do5, do6, do7, e8, by omega, by omega, ?_, by omega⟩ hOwn (by kqd_sub) (by kqd_sub)
          intro o ho
          rw [hos2] at ho
          obtain ⟨o', ho', rfl⟩ := List.mem_map.mp ho
          have hq := mv_size (f := rc) (hIn o' ho') (st := 1 + ra) (en := 1 + ra + rb) (by omega) (by omega) (by omega) (by omega)
          exact hq
    · clear NL KL RL FL NJ oJ hY hT hOff hIn hiL hlL dcz d5 d6 d7 d8
      have m01 : @Ne Nat dk (s1.heap.objs.size + 1 + 1 + 1 + 1 + 1 + 1 + 1 + 1) := by k_ne
      have m02 : @Ne Nat dk dxd := by k_ne
      have m03 : @Ne Nat dk dxo := by k_ne
      have m12 : @Ne Nat (s1.heap.objs.size + 1 + 1 + 1 + 1 + 1 + 1 + 1 + 1) dxd := by k_ne
      have m13 : @Ne Nat (s1.heap.objs.size + 1 + 1 + 1 + 1 + 1 + 1 + 1 + 1) dxo := by k_ne
      have m23 : @Ne Nat dxd dxo := by k_ne
      have oFx : ∀ b ∈ [dk, s1.heap.objs.size + 1 + 1 + 1 + 1 + 1 + 1 + 1 + 1, dxd, dxo], ∀ a ∈ [s1.heap.objs.size + 1 + 1 + 1 + 1 + 1 + 1 + 1, s1.heap.objs.size + 1 + 1 + 1 + 1 + 1 + 1, s1.heap.objs.size + 1 + 1 + 1 + 1 + 1, s1.heap.objs.size + 1 + 1 + 1 + 1, s1.heap.objs.size + 1 + 1 + 1, s1.heap.objs.size + 1 + 1, s1.heap.objs.size + 1, xd, xo, spo], @Ne Nat a b := by
        repeat' (first | exact List.forall_mem_nil _ | refine List.forall_mem_cons.mpr ⟨?_, ?_⟩)
        all_goals k_ne
      clear z4 z5 z6 z7 z8 z9 z10 z11 z12 z13 z14 z29 z30 z31 z32 z33 z34 z35 z36 z37 z38 z39 z40 z41 z42 z52 z53 z54 z55 z56 z57 z58 z59 z60 z61 z62 z63 z64 z65 z80 z81 z82 z83 z84 z85 z86 z87 z88 z89 z90 z91 z92 z93 z94 z95 z105 z106 z107 z108 z109 z110 z111 z112 z113 z114 z115 z116 z117 z118 z119 z120 z121 z122 z143 z144 z145 z146 z147 z148 z149 z150 z151 z152 z153 z154 z155 z156 z157 z158 z159 z160 z161 n01 n02 n03 n04 n05 n06 n07 n12 n13 n14 n15 n16 n17 n23 n24 n25 n26 n27 n34 n35 n36 n37 n45 n46 n47 n56 n57 n67 o9 o92 l2a l2c tA tC tD
      rintro m₁ nx h tk ⟨sp, vss, ks, spd, vsp, kp, L9, L8, os, vsd, ds, kd, ocz, q5, q6, q7, q8, sz, tz, tl, v5, v6, v7, v8, e1, rfl, hOff, hsp, hspd, hY9, hT9, hs9, hY8, hT8, hs8, hi9, hl9, dz, e5, e6, e7, e8, z0, z1, hIn, hol⟩ F2 N2
      have F3 := fr_know (x := Str.ofString "spans") F2 e1
      clear F2
      have hvss := hY9.length
      rw [List.length_map] at hvss
      have hvsp := hY8.length
      rw [List.length_map] at hvsp
      have bnd1 : os.length < 1000 := Nat.lt_trans hol (by decide)
      have bnd5 : vss.length < 1000 := by rw [hvss]; exact bnd1
      have bnd6 : vsp.length < 1000 := by rw [hvsp]; exact bnd1
      obtain ⟨RO, hRO⟩ : ∃ R, R = (s1.heap.objs.size + 1 + 1 + 1 + 1 + 1 + 1 + 1, q7) :: (s1.heap.objs.size + 1 + 1 + 1 + 1 + 1 + 1, q6) :: (s1.heap.objs.size + 1 + 1 + 1 + 1 + 1, q5) :: (s1.heap.objs.size + 1 + 1 + 1 + 1, oot) :: (s1.heap.objs.size + 1 + 1 + 1, oda) :: (s1.heap.objs.size + 1 + 1, ocz) :: (s1.heap.objs.size + 1, ok2) :: (xd, instObj 103 dxd) :: (xo, instObj 103 dxo) :: (spo, listOf #[] 0) :: tl := ⟨_, rfl⟩
      have N3 : News s1.heap s1.heap.objs.size h ((dk, listOf vsd.toArray kd) :: (s1.heap.objs.size + 1 + 1 + 1 + 1 + 1 + 1 + 1 + 1, q8) :: (dxd, spansDict w.params (tkA + 1) spd) :: (dxo, spansDict w.params (tkB + 1) spo) :: RO) := by
        rw [hRO]; exact cb_drop N2 (by kqd_sub)
      have oRO : OwnOff RO [dk, s1.heap.objs.size + 1 + 1 + 1 + 1 + 1 + 1 + 1 + 1, dxd, dxo] := by
        rw [hRO]
        refine own_flip (l := [(s1.heap.objs.size + 1 + 1 + 1 + 1 + 1 + 1 + 1, q7), (s1.heap.objs.size + 1 + 1 + 1 + 1 + 1 + 1, q6), (s1.heap.objs.size + 1 + 1 + 1 + 1 + 1, q5), (s1.heap.objs.size + 1 + 1 + 1 + 1, oot), (s1.heap.objs.size + 1 + 1 + 1, oda), (s1.heap.objs.size + 1 + 1, ocz), (s1.heap.objs.size + 1, ok2), (xd, instObj 103 dxd), (xo, instObj 103 dxo), (spo, listOf #[] 0)]) oFx ?_
        exact fun p hp b hb => hOff p hp b (lap_four hb)
      have sT : ∀ p ∈ tl, p ∈ RO := by rw [hRO]; exact fun p hp => List.mem_append_right [_, _, _, _, _, _, _, _, _, _] hp
      have r4 : (s1.heap.objs.size + 1 + 1 + 1 + 1, oot) ∈ RO := by rw [hRO]; k_mem
      have r3 : (s1.heap.objs.size + 1 + 1 + 1, oda) ∈ RO := by rw [hRO]; k_mem
      have r1 : (s1.heap.objs.size + 1, ok2) ∈ RO := by rw [hRO]; k_mem
      have rxd : (xd, instObj 103 dxd) ∈ RO := by rw [hRO]; k_mem
      have rxo : (xo, instObj 103 dxo) ∈ RO := by rw [hRO]; k_mem
      have rsp := sT _ hsp
      have rspd := sT _ hspd
      have hs9R := sub_trans hs9 sT
      have hs8R := sub_trans hs8 sT
      have hsl := strip_le os
      have hfl := flat_length (strip os)
      have hfe : ((flat (strip os)).map encI).length = 2 * (strip os).length := by rw [List.length_map, hfl]
      clear hs9 hs8 hsp hspd hOff N2 hRO oFx e1
      w_strict k_steps
      rename_i DF vF nF _ _ hYF _ _ _ _ _ lF _ DO vO nO tO _ _ hTO hYO FO NO oOq _ _ _ _ _ oO _
      rw [pairs_flat] at hYO
      have hvO : vO.length = (strip os).length := by rw [hYO.length, List.length_map]
      have hvF : vF.length = 2 * (strip os).length := by rw [hYF.length, hfe]
      unfold Halt
      refine rest_tl (fun i ys tl => tl = [] ∧ DatAll L9 ys ((os.take i).map enc)) ⟨rfl, .nil⟩ ?_ ?_
      · clear FO NO
        rintro j ys6 tl6 hj ⟨rfl, hY⟩ v I oI C oC DD m₂ h tk E' hP hC hx F' N' off ⟨ne1, ne2, ne3⟩
        dsimp only
        simp only [List.cons_append, List.append_nil] at N'
        obtain ⟨o, ho, hDo⟩ := dat_at_enc hY9 hP
        w_strict k_steps
        refine end_tl [] (by k_asm) (by k_asm) (by kqd_sub) off (Or.inr ⟨_, by k_mem, rfl, _, rfl⟩) ⟨rfl, ?_⟩
        rw [take_more ho, List.map_append]
        exact hY.append (.cons hDo .nil)
      clear FO NO
      rintro ysK tlK ⟨rfl, hYK⟩
      unfold LCg.FinA
      intro DK hK tkK FK NK pK
      simp only [List.cons_append, List.append_nil] at NK pK
      have pKb := pK
      simp only [LCg.Off1, and_true] at pK
      repeat (first | (refine and8 pK ?_; clear pK; intro q9 q9 q9 q9 q9 q9 q9 q9 pK) | (refine and4 pK ?_; clear pK; intro q9 q9 q9 q9 pK) | (have q9 := And.left pK; replace pK := And.right pK))
      dsimp only
      have ezK : vss.toArray.size = os.length := by rw [List.size_toArray]; exact hvss
      rw [ezK, List.take_length] at hYK
      have hyl : ysK.length = os.length := by rw [hYK.length, List.length_map]
      obtain ⟨R2, hR2⟩ : ∃ R, R = (DO, listOf vO.toArray nO) :: (DF, listOf vF.toArray nF) :: (RO ++ tO) := ⟨_, rfl⟩
      have oR2 : OwnOff R2 [DK, dk, s1.heap.objs.size + 1 + 1 + 1 + 1 + 1 + 1 + 1 + 1, dxd, dxo] := by
        rw [hR2]
        refine own_hd ?_ (own_hd ?_ (own_two (own_adr (fun p hp => off1_mem pK p (List.mem_append_left _ hp)) oRO) ?_))
        · repeat' (first | exact List.forall_mem_nil _ | refine List.forall_mem_cons.mpr ⟨?_, ?_⟩)
          all_goals k_ne
        · repeat' (first | exact List.forall_mem_nil _ | refine List.forall_mem_cons.mpr ⟨?_, ?_⟩)
          all_goals k_ne
        · exact own_adr (fun p hp => off1_mem pK p (List.mem_append_right _ hp)) (own_adr (tups_off NK (by kqd_sub) hTO (o := listOf vsd.toArray kd) (by k_mem) (show Value.type "list" ≠ Value.type "tuple" by decide)) (own_adr (tups_offC NK (by kqd_sub) hTO (by k_mem) e8) (own_adr (tups_off NK (by kqd_sub) hTO (o := spansDict w.params (tkA + 1) spd) (by k_mem) (show Value.type "dict" ≠ Value.type "tuple" by decide)) (own_adr (tups_off NK (by kqd_sub) hTO (o := spansDict w.params (tkB + 1) DO) (by k_mem) (show Value.type "dict" ≠ Value.type "tuple" by decide)) own_adr0))))
      have N4 : News s1.heap s1.heap.objs.size hK ((DK, LCg.lst ysK) :: (dk, listOf vsd.toArray kd) :: (s1.heap.objs.size + 1 + 1 + 1 + 1 + 1 + 1 + 1 + 1, q8) :: (dxd, spansDict w.params (tkA + 1) spd) :: (dxo, spansDict w.params (tkB + 1) DO) :: R2) := by
        rw [hR2]; exact cb_drop NK (by kqd_sub)
      have sR : ∀ p ∈ RO, p ∈ R2 := by rw [hR2]; exact fun p hp => .tail _ (.tail _ (List.mem_append_left _ hp))
      have sTO : ∀ p ∈ tO, p ∈ R2 := by rw [hR2]; exact fun p hp => .tail _ (.tail _ (List.mem_append_right _ hp))
      have rDO : (DO, listOf vO.toArray nO) ∈ R2 := by rw [hR2]; exact .head _
      have rDF : (DF, listOf vF.toArray nF) ∈ R2 := by rw [hR2]; exact .tail _ (.head _)
      have R3 := sR _ r3
      have R4 := sR _ r4
      have R1 := sR _ r1
      have RXD := sR _ rxd
      have RXO := sR _ rxo
      have RSP := sR _ rsp
      have RSPD := sR _ rspd
      have hs9Q := sub_trans hs9R sR
      have hs8Q := sub_trans hs8R sR
      have mK0 : @Ne Nat DK dk := by k_ne
      have mK1 : @Ne Nat DK (s1.heap.objs.size + 1 + 1 + 1 + 1 + 1 + 1 + 1 + 1) := by k_ne
      have mK2 : @Ne Nat DK dxd := by k_ne
      have mK3 : @Ne Nat DK dxo := by k_ne
      clear NK hR2 oRO rsp rspd r3 r4 r1 rxd rxo hs9R hs8R sR oOq
      w_strict k_steps
      unfold Halt
      refine wpAny_mono (Q := Exit fun s' => ∃ (j n' : Nat) (h' : Heap) (tk' : Nat), s' = { s1 with heap := h', toks := tk' } ∧ j ≤ os.length ∧ os.take j = strip os ∧ Fr s1.heap s1.heap.objs.size h' (fun z => if z = Str.ofString "kept" then some (Value.ref DK) else if z = Str.ofString "flat" then some (Value.ref DF) else if z = Str.ofString "spans" then some (Value.ref sp) else m₁ z) ∧ News s1.heap s1.heap.objs.size h' ((DK, listOf (ysK.take j).toArray n') :: (dk, listOf vsd.toArray kd) :: (s1.heap.objs.size + 1 + 1 + 1 + 1 + 1 + 1 + 1 + 1, q8) :: (dxd, spansDict w.params (tkA + 1) spd) :: (dxo, spansDict w.params (tkB + 1) DO) :: R2)) ?_ ?_ (fun _ _ e => e)
      · refine whl_inv (fun j s' => ∃ (n' : Nat) (h' : Heap) (tk' : Nat), s' = { s1 with heap := h', toks := tk' } ∧ j ≤ os.length ∧ strip (os.take j) = strip os ∧ Fr s1.heap s1.heap.objs.size h' (fun z => if z = Str.ofString "kept" then some (Value.ref DK) else if z = Str.ofString "flat" then some (Value.ref DF) else if z = Str.ofString "spans" then some (Value.ref sp) else m₁ z) ∧ News s1.heap s1.heap.objs.size h' ((DK, listOf (ysK.take j).toArray n') :: (dk, listOf vsd.toArray kd) :: (s1.heap.objs.size + 1 + 1 + 1 + 1 + 1 + 1 + 1 + 1, q8) :: (dxd, spansDict w.params (tkA + 1) spd) :: (dxo, spansDict w.params (tkB + 1) DO) :: R2))
          os.length ⟨_, _, _, rfl, Nat.le_refl _, by rw [List.take_length], FK, by rw [← hyl, List.take_length]; exact N4⟩ (by with_unfolding_all passes_own) ?_
        clear FK N4
        rintro R j _ ⟨n1, h1, tk1, rfl, hj, hs, F2, N2⟩ IH
        by_cases h0 : j = 0
        · subst h0
          rw [List.take_zero] at N2
          w_strict k_steps
          exact ⟨0, _, _, _, rfl, by omega, by simpa [strip] using hs, by k_asm, by rw [List.take_zero]; exact cb_drop (by assumption) (by kqd_sub)⟩
        · have hj1 : j - 1 < os.length := by omega
          have hj2 : j = (j - 1) + 1 := by omega
          obtain ⟨v, hv, hv2⟩ := hYK.get (k := j - 1) (by rw [List.length_map]; exact hj1)
          have hv3 : DatIn L9 v (enc (os.getD (j - 1) none)) := by
            rw [← getD_enc, List.getD_eq_getElem?_getD, List.getElem?_eq_getElem (by rw [List.length_map]; exact hj1)]; exact hv2
          clear hv2
          have et : os.take j = os.take (j - 1) ++ [os.getD (j - 1) none] := by
            have e1 := hj2
            rw [e1, take_more (o := os.getD (j - 1) none) (by rw [List.getD_eq_getElem?_getD, List.getElem?_eq_getElem hj1]; rfl)]
            rfl
          have ev : ysK.take j = ysK.take (j - 1) ++ [v] := by
            have e1 := hj2
            rw [e1, take_more hv]
            rfl
          have hvj : (ysK.take (j - 1)).length < 1000 := by rw [List.length_take]; omega
          have D3 := datAll_take j (hYK.mono hs9Q)
          rw [ev] at N2 D3
          have hok : ∀ d ∈ (os.map enc).take j, kqdOk 8 d = true := fun d hd => encs_ok os d (List.mem_of_mem_take hd)
          have hne : (os.map enc).take j ≠ [] := by
            intro e
            have := congrArg List.length e
            rw [List.length_take, List.length_map, List.length_nil] at this
            omega
          rcases datIn_enc hv3 with ⟨e3, rfl⟩ | ⟨a9, b9, t9, u9, ad, n9, e3, rfl, hm⟩
          · w_strict k_steps
            exact IH (j - 1) _ (by omega) ⟨_, _, _, rfl, by omega, by rw [et, e3, strip_none] at hs; exact hs, by k_asm, cb_drop (by assumption) (by kqd_sub)⟩
          · have hm9 := hs9Q _ hm
            w_strict k_steps
            exact ⟨j, n1, _, _, rfl, hj, by rw [et, e3, strip_some] at hs; rw [et, e3]; exact hs, by k_asm, by rw [ev]; exact cb_drop (by assumption) (by kqd_sub)⟩
      rintro f s' hq
      cases f <;> try exact hq.elim
      obtain ⟨j, n1, h1, tk1, rfl, hj, hs, F2, N2⟩ := hq
      clear FK N4
      dsimp only
      have hYk := datAll_take j hYK
      rw [← List.map_take, hs] at hYk
      have hjl : (ysK.take j).length = (strip os).length := by rw [hYk.length, List.length_map]
      have hKf := encIs_ok (flat (strip os))
      have hle : (List.map enc os).length = os.length := List.length_map _
      have hls : (List.map enc (strip os)).length = (strip os).length := List.length_map _
      have bnd8 : (List.map enc os).length < 1000 := by rw [hle]; exact bnd1
      have bnd9 : (strip os).length < 1000 := Nat.lt_of_le_of_lt hsl bnd1
      have bnd10 : (List.map enc (strip os)).length < 1000 := by rw [hls]; exact bnd9
      have hmul : ((List.map enc os).length : Int) - ((List.map enc (strip os)).length : Int) = ((os.length - (strip os).length : Nat) : Int) := by rw [hle, hls]; exact (Int.ofNat_sub hsl).symm
      w_strict k_steps
      unfold Halt
      refine rest_tl (fun i ys tl => tl = [] ∧ DatAll tO ys ((List.range i).map fun j => enc ((strip os).getD j none))) ⟨rfl, .nil⟩ ?_ ?_
      · rintro j9 ys6 tl6 hj9 ⟨rfl, hY⟩ v I oI C oC DD m₂ h tk E' ⟨t9, rfl⟩ hC hx F' N' off ⟨ne1, ne2, ne3⟩
        have jB := jb0 hj9 (by rw [hle]; exact hol)
        dsimp only
        simp only [List.cons_append, List.append_nil] at N'
        w_strict k_steps
        rename DatIn tO _ _ => hD
        have e0 : ((0 : Int) + (j9 : Int)).toNat = j9 := zn j9
        rw [e0] at hD
        refine end_tl [] (by k_asm) (by k_asm) (by kqd_sub) off trivial ⟨rfl, ?_⟩
        rw [List.range_succ, List.map_append]
        exact hY.append (.cons hD .nil)
      rintro ysA tlA ⟨rfl, hYA⟩
      unfold LCg.FinE
      intro DA hA tkA9 FA NA pA
      simp only [List.cons_append, List.append_nil] at NA pA
      have pAb := pA
      simp only [LCg.Off1, and_true] at pA
      repeat (first | (refine and8 pA ?_; clear pA; intro q9 q9 q9 q9 q9 q9 q9 q9 pA) | (refine and4 pA ?_; clear pA; intro q9 q9 q9 q9 pA) | (have q9 := And.left pA; replace pA := And.right pA))
      dsimp only
      have enA : (((List.map enc os).length : Int) - 0).toNat = os.length := by rw [hle]; exact tn0 _
      rw [enA] at hYA
      have hEA := range_strip os
      have hKA : ∀ d ∈ (strip os).map enc ++ List.replicate (os.length - (strip os).length) Dat.none, kqdOk 8 d = true := ok_app (encs_ok _) (ok_nones _)
      have hYr : DatAll L9 (ysK.take j ++ List.replicate (os.length - (strip os).length) Value.none) ((strip os).map enc ++ List.replicate (os.length - (strip os).length) Dat.none) := hYk.append (datAll_none L9 _)
      w_strict k_steps
      rename_i _ _ _ _ _ _ _ _ _ _ _ _ _ _ _ _ _ _ _ _ _ _ _ _ _ _ _ _ _ _ _ _ _ _ _ _ _ rb _ _ _ vsB dsB nB rB0 rB1 hiB hlB _ oB dB DT vT tT _ _ hTT hYT _ _ _ _ _ _ _ _ _ _ _ _ _ _ _ _ _ _ _ _ _ _ _ _
      have hlm3 : (List.map (Option.map (shift (rb - 20))) os).length = os.length := List.length_map _
      have hle3 : (List.map enc (List.map (Option.map (shift (rb - 20))) os)).length = os.length := by rw [List.length_map, hlm3]
      have hlm4 : (List.map (Option.map (shift (0 - (rb - 20)))) (List.map (Option.map (shift (rb - 20))) os)).length = os.length := by rw [List.length_map, hlm3]
      have bnd11 : (List.map (Option.map (shift (rb - 20))) os).length < 1000 := by rw [hlm3]; exact bnd1
      have bnd12 : (List.map enc (List.map (Option.map (shift (rb - 20))) os)).length < 1000 := by rw [hle3]; exact bnd1
      unfold Halt
      refine rest_tl (fun i ys tl => tl = [] ∧ DatAll tT ys ((List.range i).map fun j => enc ((List.map (Option.map (shift (rb - 20))) os).getD j none))) ⟨rfl, .nil⟩ ?_ ?_
      · rintro j9 ys6 tl6 hj9 ⟨rfl, hY⟩ v I oI C oC DD m₂ h tk E' ⟨t9, rfl⟩ hC hx F' N' off ⟨ne1, ne2, ne3⟩
        have jB := jb0 hj9 (by rw [hle]; exact hol)
        dsimp only
        simp only [List.cons_append, List.append_nil] at N'
        w_strict k_steps
        rename DatIn tT _ _ => hD
        have e0 : ((0 : Int) + (j9 : Int)).toNat = j9 := zn j9
        rw [e0] at hD
        refine end_tl [] (by k_asm) (by k_asm) (by kqd_sub) off trivial ⟨rfl, ?_⟩
        rw [List.range_succ, List.map_append]
        exact hY.append (.cons hD .nil)
      rintro ysB tlB ⟨rfl, hYB⟩
      unfold LCg.FinE
      intro DB hB tkB9 FB NB pB
      simp only [List.cons_append, List.append_nil, List.append_assoc] at NB pB
      have pBb := pB
      simp only [LCg.Off1, and_true] at pB
      repeat (first | (refine and8 pB ?_; clear pB; intro q9 q9 q9 q9 q9 q9 q9 q9 pB) | (refine and4 pB ?_; clear pB; intro q9 q9 q9 q9 pB) | (have q9 := And.left pB; replace pB := And.right pB))
      dsimp only
      rw [enA] at hYB
      have hEB : (List.range os.length).map (fun j => enc ((List.map (Option.map (shift (rb - 20))) os).getD j none)) = (List.map (Option.map (shift (rb - 20))) os).map enc := by
        have := range_map (List.map (Option.map (shift (rb - 20))) os) enc
        rwa [hlm3] at this
      have hKB := encs_ok (List.map (Option.map (shift (rb - 20))) os)
      w_strict k_steps
      unfold Halt
      refine rest_tl (fun i ys tl => Tups tl ∧ DatAll tl ys (((os.take i).map (Option.map (shift (rb - 20)))).map enc)) ⟨(fun _ h => nomatch h), .nil⟩ ?_ ?_
      · rintro j9 ys6 tl9 hj9 ⟨hT, hY⟩ v I oI C oC DD m₂ h tk E' hP hC hx F' N' off ⟨ne1, ne2, ne3⟩
        dsimp only
        obtain ⟨o, ho, hDo⟩ := dat_at_enc hY9 hP
        simp only [List.cons_append, List.append_assoc] at N'
        rcases datIn_enc hDo with ⟨rfl, rfl⟩ | ⟨a9, b9, t9, u9, ad, n9, rfl, rfl, hm⟩
        · w_strict k_steps
          refine end_tl tl9 (by k_asm) (by k_asm) (by kqd_sub) off (Or.inr ⟨_, by k_mem, rfl, _, rfl⟩) ⟨hT, ?_⟩
          rw [take_more ho, List.map_append, List.map_append]
          exact hY.append (.cons .none .nil)
        · have hm9 := hs9Q _ hm
          w_strict k_steps
          rename News _ _ _ ((_, { cls := Value.type "tuple", dict := none, data := Data.seq _ _, slots := _ }) :: _) => NN
          refine end_tl ((_, _) :: tl9) (by k_asm) NN (by kqd_sub) (off3_cons off (by k_ne) (by k_ne) (by k_ne)) (Or.inr ⟨_, by k_mem, rfl, _, rfl⟩) ⟨?_, ?_⟩
          · intro p hp
            rcases List.mem_cons.mp hp with rfl | hp
            · exact ⟨rfl, fun _ e => nomatch e⟩
            · exact hT p hp
          · rw [take_more ho, List.map_append, List.map_append]
            exact (hY.mono fun p hp => List.mem_cons_of_mem _ hp).append (.cons (DatIn.tuple (vs := [_, _]) (.head _) (.cons (.int _ _) (.cons (.int _ _) .nil))) .nil)
      rintro zsC tC ⟨hTC, hYC⟩
      unfold LCg.FinE
      intro DC hC9 tkC FC NC pC
      simp only [List.cons_append, List.append_assoc] at NC pC
      have pCb := pC
      simp only [LCg.Off1, and_true] at pC
      repeat (first | (refine and8 pC ?_; clear pC; intro q9 q9 q9 q9 q9 q9 q9 q9 pC) | (refine and4 pC ?_; clear pC; intro q9 q9 q9 q9 pC) | (have q9 := And.left pC; replace pC := And.right pC))
      dsimp only
      rw [ezK, List.take_length] at hYC
      have hYF1 : ∀ t : Tok, DatAll [] (vF ++ [Value.int 1 t]) ((flat (strip os) ++ [some 1]).map encI) := fun t => by
        rw [List.map_append]; exact hYF.append (.cons (.int _ _) .nil)
      have hps : (flat (strip os) ++ [some (1 : Int)]).length = 2 * (strip os).length + 1 := by rw [List.length_append, List.length_singleton, hfl]
      have hpp : (pairs (flat (strip os) ++ [some (1 : Int)])).length = (strip os).length := by rw [pairs_flat1]
      have hEa : (flat (strip (List.map (Option.map (shift (0 - (rb - 20)))) (List.map (Option.map (shift (rb - 20))) os)))).map encI = (flat (strip os)).map encI := by rw [shift_back]
      have hEb : (flat (strip (pairs (flat (strip os) ++ [some (1 : Int)])))).map encI = (flat (strip os)).map encI := by rw [pairs_flat1, strip_idem]
      w_strict k_steps
      unfold Halt
      obtain ⟨R6, hR6⟩ : ∃ R, R = (s1.heap.objs.size + 1 + 1 + 1 + 1 + 1 + 1 + 1 + 1, oB) :: (DT, listOf vT.toArray vT.length) :: (tT ++ R2) := ⟨_, rfl⟩
      have N7 : News s1.heap s1.heap.objs.size hC9 (canE w.params dk vsB nB dxd (tkA + 1) DT dxo (tkB + 1) DO R6) := by
        rw [hR6]; exact cb_drop NC (by kqd_sub)
      have oR6 : OwnOff R6 [dk, dxd, dxo] := by
        rw [hR6]
        refine own_hd ?_ (own_hd ?_ (own_two ?_ (fun p hp b hb => oR2 p hp b ?_)))
        · repeat' (first | exact List.forall_mem_nil _ | refine List.forall_mem_cons.mpr ⟨?_, ?_⟩)
          all_goals k_ne
        · repeat' (first | exact List.forall_mem_nil _ | refine List.forall_mem_cons.mpr ⟨?_, ?_⟩)
          all_goals k_ne
        · exact own_adr (tups_offL (vs := vsB) (n := nB) NC hTT (by kqd_sub) (by k_mem)) (own_adr (tups_offD (es := [_]) (n := 1) N7 hTT (by rw [hR6]; exact fun p hp => .tail _ (.tail _ (.tail _ (.tail _ (.tail _ (List.mem_append_left _ hp)))))) (.tail _ (.head _))) (own_adr (tups_offD (es := [_]) (n := 1) N7 hTT (by rw [hR6]; exact fun p hp => .tail _ (.tail _ (.tail _ (.tail _ (.tail _ (List.mem_append_left _ hp)))))) (.tail _ (.tail _ (.head _)))) own_adr0))
        · exact three_of hb
      have s6 : ∀ p ∈ R2, p ∈ R6 := by rw [hR6]; exact fun p hp => .tail _ (.tail _ (List.mem_append_right _ hp))
      have sT6 : ∀ p ∈ tT, p ∈ R6 := by rw [hR6]; exact fun p hp => .tail _ (.tail _ (List.mem_append_left _ hp))
      have b6 : (s1.heap.objs.size + 1 + 1 + 1 + 1 + 1 + 1 + 1 + 1, oB) ∈ R6 := by rw [hR6]; exact .head _
      have d6 : (DT, listOf vT.toArray vT.length) ∈ R6 := by rw [hR6]; exact .tail _ (.head _)
      have hv12 := vbound rB0 rB1
      have hos2 : (List.map (Option.map (shift (rb - 20))) os).length < 200 := by rw [hlm3]; exact Nat.lt_trans hol (by decide)
      have hos3 : os.length < 200 := Nat.lt_trans hol (by decide)
      have hdd : callerA.depth + 1 + 8 < recursionLimit := by decide
      have huu : callerA.units + 3 + 900 < cLine := by decide
      refine' tail_use (L := s1.heap.objs.size) (h₀ := s1.heap) (sc := lawSc w.params) (cl := cellsFrom (s1.heap.objs.size + 1) (lawSc w.params).names []) (a := fa) (ccd := .ref a1) (dp := callerA.depth + 1) (un := callerA.units + 3) (gd := callerA.guards) (A₀ := callerA) (news := canE w.params dk vsB nB dxd (tkA + 1) DT dxo (tkB + 1) DO R6) (os := List.map (Option.map (shift (rb - 20))) os) (o0 := os) (R := R6) ?hM ?hA ?he ?hbody rfl rfl ?B ?F ?X N7 ?T rfl oR6 m02 m03 m23 ?hm (s6 _ rDF) hYF hiB hlB dB b6 hv12.1 hv12.2 ?hok (s6 _ R1) ?hod (s6 _ R3) ?hoo (s6 _ R4) (s6 _ RXD) (s6 _ RXO) d6 hYT sT6 hTT hos2 hos3 hEa hdd huu (fun hE tkE FE => ?_)
      case hM => with_unfolding_all rfl
      case hA => with_unfolding_all rfl
      case he => with_unfolding_all rfl
      case hbody => with_unfolding_all rfl
      case B => with_unfolding_all assumption
      case X => assumption
      case T => assumption
      case F => with_unfolding_all exact FC
      case hm => first | rfl | exact if_pos rfl | (repeat (first | exact if_pos rfl | refine (if_neg (by decide)).trans ?_))
      case hok => assumption
      case hod => assumption
      case hoo => assumption
      exact good_end FE hg)

end
end Mine

theorem PySem.Challenge.cw_ok0042_01_holds : PySem.Challenge.rw_ok0042_01.Holds :=
  Mine.main1
