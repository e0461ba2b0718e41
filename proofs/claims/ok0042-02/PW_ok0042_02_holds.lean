import PyProof.Rows.All
import Wide.All
import OpenK.AllK
import Wide.FinOn
import PySem.Challenge.RW_ok0042_02
open PySem PySem.W PyProof.Rows PySem.Spec PySem.Calls
set_option Elab.async false
set_option compiler.extract_closed false
set_option maxRecDepth 100000
set_option maxHeartbeats 8000000
set_option rowWalk.seconds 0
namespace Mine
open Lean in
def tl : Char → MacroM (TSyntax `tactic)
  | 'a' => `(tactic| k_extra "ta")
  | 'b' => `(tactic| k_extra "tb")
  | 'c' => `(tactic| k_extra "tc")
  | 'd' => `(tactic| (try k_lt l1))
  | 'e' => `(tactic| (k_cells Y'))
  | 'f' => `(tactic| (try simp only [List.cons_append, List.nil_append] at N'))
  | 'g' => `(tactic| (try k_lift B'))
  | 'h' => `(tactic| (try dsimp only at N'))
  | 'i' => `(tactic| (have o2' := o1'))
  | 'j' => `(tactic| (try simp only [LCg.Off1, and_true] at o1'))
  | 'k' => `(tactic| (repeat (have q9 := And.left o1'; replace o1' := And.right o1')))
  | 'l' => `(tactic| (try simp only [List.cons_append, List.append_assoc] at N'))
  | 'm' => `(tactic| (have hz9 := hY'.length))
  | 'n' => `(tactic| (rw [List.length_map] at hz9))
  | 'o' => `(tactic| (try k_lt l1'))
  | _ => Macro.throwUnsupported
open Lean in
def it (s t : String) : MacroM (TSyntax `tactic) := do
  let ns ← (s.splitOn " ").toArray.mapM fun x => do return mkIdent (← Macro.addMacroScope (.mkSimple x))
  let ts ← t.toList.toArray.mapM tl
  `(tactic| (intro $[$ns:ident]*; $[$ts:tactic];*))
open Lean in
def mw (k s t : String) : MacroM (TSyntax `tactic) := do
  `(tactic| (k_extra $(Syntax.mkStrLit k):str; $(← it s t):tactic))
open_top hd for PySem.Challenge.rw_ok0042_02
theorem rz : True := by w_top off; trivial
local macro_rules | `(tactic| walk_at $s:str) => `(tactic| k_extra $s)
theorem kwadh : True := by
  k_with_none
  k_with "ta" => (try dsimp only)
  k_with "tb" => (try k_sweep)
  k_with "tc" => (try k_fold)
  k_with "w0" => (have hcL9 := cLine_is; (try simp only [units_in1, units_deeper, Around.mark_units, units_caller]); (try dsimp only [ktrTop]); omega)
  k_with "w1" => (k_here; (with_reducible show wpAny _ _ (call (Value.ref 114) _) _ _ _); k_dflt (refine' moved_ok ?k1_267c ?k2_267c ?k3_267c ?k4_267c ?k5_267c ?kK_267c ?hm_267c ?hd_267c ?hu_267c ?_; (case k1_267c => k_asm); (case k2_267c => k_asm); (case k3_267c => k_asm); (case k4_267c => k_asm); (case k5_267c => k_asm); (case kK_267c => first | exact rfl | assumption); (case hm_267c => k_mem); (case hd_267c => ktr_room); (case hu_267c => ke_room)))
  k_with "w2" => (refine' code_defC ?k1_73de ?k2_73de ?k3_73de ?k4_73de ?k5_73de ?kA_73de ?kF_73de ?kK_73de ?k6_73de ?k7_73de ?k8_73de ?k9_73de ?kB_73de ?kD_73de ?_ ?c2_73de ?c3_73de ?c4_73de; (case kA_73de => exact rfl); (case kF_73de => exact rfl); (case kK_73de => assumption); (case k1_73de => k_asm); (case k2_73de => k_asm); (case k3_73de => k_asm); (case k4_73de => k_asm); (case k5_73de => k_asm); (case k6_73de => k_is); (case k7_73de => k_is); (case k8_73de => ktr_room); (case k9_73de => exact BindsTo.of_eq rfl); (case kB_73de => exact rfl); (case kD_73de => decide +kernel); (case c2_73de => exact rfl); (case c3_73de => exact rfl); (case c4_73de => exact rfl); k_whole)
  k_with "w3" => (k_here; (with_reducible show wpAny _ _ (subscriptTail _ (PySem.Expr.Slice _ _ none _) (Value.ref _) (Value.ref _)) _ _ _); k_dflt (refine' slice_to ?F_7f9f ?N_7f9f ?l_7f9f ?p_7f9f ?q_7f9f ?e_7f9f ?z_7f9f ?_ ?s_7f9f ?t_7f9f; (case F_7f9f => k_asm); (case N_7f9f => k_asm); (case l_7f9f => k_mem); (case p_7f9f => kmk_part); (case q_7f9f => kmk_part); (case e_7f9f => first | exact pick_upto (by omega) | exact pick_from (by omega) | exact pick_part (by omega) (by omega) | exact pick_less (by omega)); (case s_7f9f => with_unfolding_all rfl); (case t_7f9f => kmk_pure); (case z_7f9f => omega)))
  k_with "w4" => (k_here; (with_reducible show wpAny _ _ (call (Value.type _) [Value.ref _]) _ _ _); k_dflt (first | (refine' copyL ?F_06eb ?N_06eb ?m_06eb ?z_06eb ?_; (case F_06eb => k_asm); (case N_06eb => k_asm); (case m_06eb => k_mem); (case z_06eb => omega)) | (refine' copyT ?F_06eb ?N_06eb ?m_06eb ?_; (case F_06eb => k_asm); (case N_06eb => k_asm); (case m_06eb => k_mem))))
  k_with "w5" => (k_here; (with_reducible show wpAny _ _ (binaryOp _ (Value.ref _) (Value.ref _)) _ _ _); k_dflt (refine' addL ?F_f34b ?N_f34b ?a_f34b ?b_f34b ?z_f34b ?_; (case F_f34b => k_asm); (case N_f34b => k_asm); (case a_f34b => k_mem); (case b_f34b => k_mem); (case z_f34b => first | omega | (simp only [List.length_cons, List.length_nil]; omega))))
  k_with "w6" => (refine' code_def ?k1_91da ?k2_91da ?k3_91da ?k4_91da ?k5_91da ?kA_91da ?kF_91da ?kK_91da ?k6_91da ?k7_91da ?k8_91da ?k9_91da ?kB_91da ?_ ?c2_91da ?c3_91da ?c4_91da ?c5_91da; (case kA_91da => exact rfl); (case kF_91da => exact rfl); (case kK_91da => first | exact rfl | assumption); (case k1_91da => k_asm); (case k2_91da => k_asm); (case k3_91da => k_asm); (case k4_91da => k_asm); (case k5_91da => k_asm); (case k6_91da => k_is); (case k7_91da => k_is); (case k8_91da => ktr_room); (case k9_91da => exact BindsTo.of_eq rfl); (case c5_91da => decide); (case kB_91da => exact locs rfl); (case c2_91da => exact rfl); (case c3_91da => exact rfl); (case c4_91da => exact rfl); k_whole)
  k_with "w7" => (refine' code_defC ?k1_e452 ?k2_e452 ?k3_e452 ?k4_e452 ?k5_e452 ?kA_e452 ?kF_e452 ?kK_e452 ?k6_e452 ?k7_e452 ?k8_e452 ?k9_e452 ?kB_e452 ?kD_e452 ?_ ?c2_e452 ?c3_e452 ?c4_e452; (case kA_e452 => exact rfl); (case kF_e452 => exact rfl); (case kK_e452 => first | exact rfl | assumption); (case k1_e452 => k_asm); (case k2_e452 => k_asm); (case k3_e452 => k_asm); (case k4_e452 => k_asm); (case k5_e452 => k_asm); (case k6_e452 => k_is); (case k7_e452 => k_is); (case k8_e452 => ktr_room); (case k9_e452 => exact BindsTo.of_eq rfl); (case kB_e452 => exact rfl); (case kD_e452 => decide +kernel); (case c2_e452 => exact rfl); (case c3_e452 => exact rfl); (case c4_e452 => exact rfl); k_whole)
  k_with "w8" => (refine neN ?_; (try dsimp only); first | with_reducible assumption | (with_reducible refine Ne.symm ?_; with_reducible assumption) | (with_reducible refine Nat.ne_of_lt ?_; with_reducible assumption) | (with_reducible refine Nat.ne_of_gt ?_; with_reducible assumption))
  k_with "w9" => first | with_reducible assumption | exact in_of_fr (by with_reducible assumption) (by with_reducible assumption)
  k_with "w10" => (k_here; (with_reducible show wpAny _ _ (call (Value.ref 121) _) _ _ _); k_dflt (refine' draw2_use ?k1_44b5 ?k2_44b5 ?k3_44b5 ?k4_44b5 ?k5_44b5 ?kK_44b5 ?U_44b5 ?hl0_44b5 ?hne_44b5 ?hi_44b5 ?hl_44b5 ?hc0_44b5 ?hc1_44b5 ?hm_44b5 ?hm2_44b5 ?hd_44b5 ?hu_44b5 ?_; (case k1_44b5 => k_asm); (case k2_44b5 => k_asm); (case k3_44b5 => k_asm); (case k4_44b5 => k_asm); (case k5_44b5 => k_asm); (case kK_44b5 => first | exact rfl | assumption); (case U_44b5 => (intro _; k_upd)); (case hl0_44b5 => k_mem); (case hne_44b5 => k_ne); (case hi_44b5 => with_reducible assumption); (case hl_44b5 => assumption); (case hc0_44b5 => omega); (case hc1_44b5 => omega); (case hm_44b5 => omega); (case hm2_44b5 => omega); (case hd_44b5 => ktr_room); (case hu_44b5 => ke_room)))
  k_with "w11" => (k_here; (with_reducible show wpAny _ _ (call (Value.ref 100) _) _ _ _); k_dflt (refine' mrepl_use ?k1_f4fd ?k2_f4fd ?k3_f4fd ?k4_f4fd ?k5_f4fd ?kK_f4fd ?hx_f4fd ?hsp_f4fd ?D_f4fd ?sub_f4fd ?TL_f4fd ?hl_f4fd ?U_f4fd ?hd_f4fd ?hu_f4fd ?_; (case k1_f4fd => k_asm); (case k2_f4fd => k_asm); (case k3_f4fd => k_asm); (case k4_f4fd => k_asm); (case k5_f4fd => k_asm); (case kK_f4fd => first | exact rfl | assumption); (case hx_f4fd => k_mem); (case U_f4fd => (intro _; k_upd)); (case hsp_f4fd => k_mem); (case D_f4fd => with_reducible assumption); (case sub_f4fd => kqd_sub); (case TL_f4fd => with_reducible assumption); (case hl_f4fd => omega); (case hd_f4fd => ktr_room); (case hu_f4fd => ke_room)))
  k_with "w12" => (k_here; (with_reducible show wpAny _ _ (call (Value.ref 83) _) _ _ _); k_dflt (refine' mlist_ok ?k1_04f8 ?k2_04f8 ?k3_04f8 ?k4_04f8 ?k5_04f8 ?kK_04f8 ?hx_04f8 ?hdx_04f8 ?hsp_04f8 ?D_04f8 ?sub_04f8 ?hl_04f8 ?hd_04f8 ?hu_04f8 ?_; (case k1_04f8 => k_asm); (case k2_04f8 => k_asm); (case k3_04f8 => k_asm); (case k4_04f8 => k_asm); (case k5_04f8 => k_asm); (case kK_04f8 => first | exact rfl | assumption); (case hx_04f8 => k_mem); (case hdx_04f8 => k_mem); (case hsp_04f8 => k_mem); (case D_04f8 => with_reducible assumption); (case sub_04f8 => kqd_sub); (case hl_04f8 => omega); (case hd_04f8 => ktr_room); (case hu_04f8 => ke_room)))
  k_with "w13" => (k_here; (with_reducible show wpAny _ _ (call (Value.ref 90) _) _ _ _); k_dflt (refine' mrest_use ?k1_b474 ?k2_b474 ?k3_b474 ?k4_b474 ?k5_b474 ?kK_b474 ?hx_b474 ?hpl_b474 ?D_b474 ?hl_b474 ?U_b474 ?hd_b474 ?hu_b474 ?_; (case k1_b474 => k_asm); (case k2_b474 => k_asm); (case k3_b474 => k_asm); (case k4_b474 => k_asm); (case k5_b474 => k_asm); (case kK_b474 => first | exact rfl | assumption); (case hx_b474 => k_mem); (case U_b474 => (intro _; k_upd)); (case hpl_b474 => k_mem); (case D_b474 => first | with_reducible assumption | exact (by with_reducible assumption : ∀ t : Tok, DatAll [] (_ ++ [Value.int 1 t]) _) _); (case hl_b474 => omega); (case hd_b474 => ktr_room); (case hu_b474 => ke_room)))
  k_with "w14" => (k_here; (with_reducible show wpAny _ _ (call (Value.ref 95) _) _ _ _); k_dflt (refine' mtran_use ?k1_20f7 ?k2_20f7 ?k3_20f7 ?k4_20f7 ?k5_20f7 ?kK_20f7 ?hx_20f7 ?hsp_20f7 ?D_20f7 ?sub_20f7 ?TL_20f7 ?hl_20f7 ?U_20f7 ?hd_20f7 ?hu_20f7 ?_; (case k1_20f7 => k_asm); (case k2_20f7 => k_asm); (case k3_20f7 => k_asm); (case k4_20f7 => k_asm); (case k5_20f7 => k_asm); (case kK_20f7 => first | exact rfl | assumption); (case hx_20f7 => k_mem); (case U_20f7 => (intro _; k_upd)); (case hsp_20f7 => k_mem); (case D_20f7 => with_reducible assumption); (case sub_20f7 => kqd_sub); (case TL_20f7 => with_reducible assumption); (case hl_20f7 => omega); (case hd_20f7 => ktr_room); (case hu_20f7 => ke_room)))
  k_with "w15" => (k_here; (with_reducible show wpAny _ _ (call (Value.ref 140) _) _ _ _); k_dflt (refine' llisted_ok ?k1_aa7c ?k2_aa7c ?k3_aa7c ?k4_aa7c ?k5_aa7c ?kK_aa7c ?hsp_aa7c ?D_aa7c ?sub_aa7c ?hl_aa7c ?hd_aa7c ?hu_aa7c ?_; (case k1_aa7c => k_asm); (case k2_aa7c => k_asm); (case k3_aa7c => k_asm); (case k4_aa7c => k_asm); (case k5_aa7c => k_asm); (case kK_aa7c => first | exact rfl | assumption); (case hsp_aa7c => k_mem); (case D_aa7c => with_reducible assumption); (case sub_aa7c => kqd_sub); (case hl_aa7c => omega); (case hd_aa7c => ktr_room); (case hu_aa7c => ke_room)))
  k_with "w16" => (k_here; (with_reducible show wpAny _ _ (binaryOp _ (Value.ref _) (Value.ref _)) _ _ _); k_dflt (refine' addL ?F_261b ?N_261b ?a_261b ?b_261b ?z_261b ?_; (case F_261b => k_asm); (case N_261b => k_asm); (case a_261b => k_mem); (case b_261b => k_mem); (case z_261b => first | omega | (simp only [List.length_cons, List.length_nil, List.length_replicate]; omega))))
  k_with "w17" => (k_here; (with_reducible show wpAny _ _ (binaryOp Operator.Mult (Value.ref _) (Value.int _ _)) _ _ _); k_dflt (refine' mul2 ?F_452d ?N_452d ?l_452d ?e_452d ?z_452d ?_; (case F_452d => k_asm); (case N_452d => k_asm); (case l_452d => k_mem); (case e_452d => omega); (case z_452d => omega)))
  trivial
section
local macro_rules | `(tactic| ke_room) => `(tactic| k_extra "w0")
def Keep (_ : OpenLaw) (_ : Params → Frag) (P : Prop) : Prop := P

section
variable {prog : Program} {w : World} {A : Around} {E : Value → Shared → Prop} {env : Env} {test : PySem.Expr} {body orelse : List Stmt} {pos : Pos} {s₀ : Shared} {Q : Flow → Shared → Prop}
/-- a while's turn, its end handed to a letter R -/
def WPost (R : Shared → Prop) (Q : Flow → Shared → Prop) (f : Flow) (s : Shared) : Prop := match f with
  | .next => R s
  | .cont => R s
  | .brk => Q .next s
  | .ret v => Q (.ret v) s
theorem whl_inv (I : Nat → Shared → Prop) (n₀ : Nat) (h0 : I n₀ s₀) (hE : PassesOwn (model prog w) A env E)
    (turn : ∀ (R : Shared → Prop) n s, I n s → (∀ m s', m < n → I m s' → R s') →
      wpAny (model prog w) A (isTrue test env (eval test env)) (fun b s₂ => WhlIf b (wpAny (model prog w) A (execs body env) (WPost R Q) E s₂) (wpAny (model prog w) A (execs orelse env) Q E s₂)) E s) :
    wpAny (model prog w) A (exec (.While test body orelse pos) env) Q E s₀ := by
  refine whl_start 0 ?_
  have all : ∀ n m, m < n → ∀ s, I m s → WhlRest prog w A E env test body orelse Q 0 s := by
    intro n
    induction n with
    | zero => intro m h; exact absurd h (Nat.not_lt_zero _)
    | succ n ih =>
      intro m h s hI
      refine whl_turn (k := 0) hE (wpAny_mono (turn (WhlRest prog w A E env test body orelse Q 0) m s hI fun m' s' h' hI' => ih m' (Nat.lt_of_lt_of_le h' (Nat.le_of_lt_succ h)) s' hI') (fun b s₂ p => ?_) fun _ _ x => x)
      cases b with
      | false => exact p
      | true =>
        refine wpAny_mono (p : wpAny (model prog w) A (execs body env) (WPost _ Q) E s₂) (fun f s₃ q => ?_) fun _ _ x => x
        cases f <;> exact q
  exact all _ _ (Nat.lt_succ_self _) _ h0
end

theorem kwaab : True := by
  k_with "WPost" => (dsimp only [WPost])
  trivial
theorem upd_mem {d : Addr} {o o' : Obj} {l l' : List (Addr × Obj)} (U : Upd d o o' l l') : (d, o) ∈ l ∧ ∀ p ∈ l', p = (d, o') ∨ (p ∈ l ∧ p.1 ≠ d) := by
  obtain ⟨pre, post, rfl, rfl, a, b⟩ := U.split
  refine ⟨by simp, fun p hp => ?_⟩
  rcases List.mem_append.mp hp with hp | hp
  · exact .inr ⟨List.mem_append.mpr (.inl hp), a p hp⟩
  · rcases List.mem_cons.mp hp with hp | hp
    · exact .inl hp
    · exact .inr ⟨List.mem_append.mpr (.inr (List.mem_cons_of_mem _ hp)), b p hp⟩

/-- a span as data -/
def enc : Option (Int × Int) → Dat
  | none => .none
  | some (a, b) => .tuple [.int a, .int b]
def encI : Option Int → Dat
  | none => .none
  | some a => .int a
theorem getD_enc (os : List (Option (Int × Int))) (k : Nat) : (os.map enc).getD k .none = enc (os.getD k none) := by
  rw [List.getD_eq_getElem?_getD, List.getD_eq_getElem?_getD, List.getElem?_map]
  cases os[k]? <;> rfl
abbrev tupO (a b : Int) (t u : Tok) (n : Nat) : Obj := { cls := .type "tuple", data := .seq [Value.int a t, Value.int b u].toArray n }
theorem datIn_enc {news : List (Addr × Obj)} {v : Value} {o : Option (Int × Int)} (h : DatIn news v (enc o)) :
    (o = none ∧ v = .none) ∨ ∃ a b t u ad n, o = some (a, b) ∧ v = .ref ad ∧ (ad, tupO a b t u n) ∈ news := by
  cases o with
  | none => cases h; exact .inl ⟨rfl, rfl⟩
  | some p =>
    obtain ⟨a, b⟩ := p
    cases h with
    | tuple hm hr =>
      cases hr with
      | cons h1 hr =>
        cases hr with
        | cons h2 hr =>
          cases hr
          cases h1
          cases h2
          exact .inr ⟨_, _, _, _, _, _, rfl, rfl, hm⟩
theorem enc_ok (o : Option (Int × Int)) (n : Nat) : kqdOk (n + 1) (enc o) = true := by
  cases o with
  | none => rfl
  | some p => obtain ⟨a, b⟩ := p; cases n <;> rfl
theorem encs_ok (os : List (Option (Int × Int))) : ∀ d ∈ os.map enc, kqdOk 8 d = true := fun d hd => by
  obtain ⟨o, _, rfl⟩ := List.mem_map.mp hd
  exact enc_ok o 7
theorem encI_ok (o : Option Int) (n : Nat) : kqdOk n (encI o) = true := by
  cases o <;> cases n <;> rfl
theorem encIs_ok (os : List (Option Int)) : ∀ d ∈ os.map encI, kqdOk 8 d = true := fun d hd => by
  obtain ⟨o, _, rfl⟩ := List.mem_map.mp hd
  exact encI_ok o 8
def Tups (tl : List (Addr × Obj)) : Prop := ∀ p ∈ tl, p.2.cls = .type "tuple" ∧ ∀ v, p.2.data ≠ Data.cell v
theorem allLt_all {d : Addr} : ∀ {l : List (Addr × Obj)}, AllLt d l → ∀ p ∈ l, p.1 < d
  | [], _, _, h => nomatch h
  | _ :: _, x, p, h => by
    rcases List.mem_cons.mp h with rfl | h
    · exact x.1
    · exact allLt_all x.2 p h
theorem upd_news {h₀ h : Heap} {L d : Addr} {news : List (Addr × Obj)} {o : Obj} (N : News h₀ L h news) (hm : (d, o) ∈ news) : News h₀ L h ((d, o) :: news.filter fun q => decide (q.1 ≠ d)) := fun q hq => by
  rcases List.mem_cons.mp hq with rfl | hq
  · exact N _ hm
  · exact N _ (List.mem_filter.mp hq).1

end
theorem kwaac : True := by
  k_with_none
  k_with "ta" => (try dsimp only)
  k_with "tb" => (try k_sweep)
  k_with "tc" => (try k_fold)
  k_with "w0" => (have hcL9 := cLine_is; (try simp only [units_in1, units_deeper, Around.mark_units, units_caller]); (try dsimp only [ktrTop]); omega)
  k_with "w1" => (k_here; (with_reducible show wpAny _ _ (call (Value.ref 114) _) _ _ _); k_dflt (refine' moved_ok ?k1_267c ?k2_267c ?k3_267c ?k4_267c ?k5_267c ?kK_267c ?hm_267c ?hd_267c ?hu_267c ?_; (case k1_267c => k_asm); (case k2_267c => k_asm); (case k3_267c => k_asm); (case k4_267c => k_asm); (case k5_267c => k_asm); (case kK_267c => first | exact rfl | assumption); (case hm_267c => k_mem); (case hd_267c => ktr_room); (case hu_267c => ke_room)))
  k_with "w2" => (refine' code_defC ?k1_73de ?k2_73de ?k3_73de ?k4_73de ?k5_73de ?kA_73de ?kF_73de ?kK_73de ?k6_73de ?k7_73de ?k8_73de ?k9_73de ?kB_73de ?kD_73de ?_ ?c2_73de ?c3_73de ?c4_73de; (case kA_73de => exact rfl); (case kF_73de => exact rfl); (case kK_73de => assumption); (case k1_73de => k_asm); (case k2_73de => k_asm); (case k3_73de => k_asm); (case k4_73de => k_asm); (case k5_73de => k_asm); (case k6_73de => k_is); (case k7_73de => k_is); (case k8_73de => ktr_room); (case k9_73de => exact BindsTo.of_eq rfl); (case kB_73de => exact rfl); (case kD_73de => decide +kernel); (case c2_73de => exact rfl); (case c3_73de => exact rfl); (case c4_73de => exact rfl); k_whole)
  k_with "w3" => (k_here; (with_reducible show wpAny _ _ (subscriptTail _ (PySem.Expr.Slice _ _ none _) (Value.ref _) (Value.ref _)) _ _ _); k_dflt (refine' slice_to ?F_7f9f ?N_7f9f ?l_7f9f ?p_7f9f ?q_7f9f ?e_7f9f ?z_7f9f ?_ ?s_7f9f ?t_7f9f; (case F_7f9f => k_asm); (case N_7f9f => k_asm); (case l_7f9f => k_mem); (case p_7f9f => kmk_part); (case q_7f9f => kmk_part); (case e_7f9f => first | exact pick_upto (by omega) | exact pick_from (by omega) | exact pick_part (by omega) (by omega) | exact pick_less (by omega)); (case s_7f9f => with_unfolding_all rfl); (case t_7f9f => kmk_pure); (case z_7f9f => omega)))
  k_with "w4" => (k_here; (with_reducible show wpAny _ _ (call (Value.type _) [Value.ref _]) _ _ _); k_dflt (first | (refine' copyL ?F_06eb ?N_06eb ?m_06eb ?z_06eb ?_; (case F_06eb => k_asm); (case N_06eb => k_asm); (case m_06eb => k_mem); (case z_06eb => omega)) | (refine' copyT ?F_06eb ?N_06eb ?m_06eb ?_; (case F_06eb => k_asm); (case N_06eb => k_asm); (case m_06eb => k_mem))))
  k_with "w5" => (k_here; (with_reducible show wpAny _ _ (binaryOp _ (Value.ref _) (Value.ref _)) _ _ _); k_dflt (refine' addL ?F_f34b ?N_f34b ?a_f34b ?b_f34b ?z_f34b ?_; (case F_f34b => k_asm); (case N_f34b => k_asm); (case a_f34b => k_mem); (case b_f34b => k_mem); (case z_f34b => first | omega | (simp only [List.length_cons, List.length_nil]; omega))))
  k_with "w6" => (refine' code_def ?k1_91da ?k2_91da ?k3_91da ?k4_91da ?k5_91da ?kA_91da ?kF_91da ?kK_91da ?k6_91da ?k7_91da ?k8_91da ?k9_91da ?kB_91da ?_ ?c2_91da ?c3_91da ?c4_91da ?c5_91da; (case kA_91da => exact rfl); (case kF_91da => exact rfl); (case kK_91da => first | exact rfl | assumption); (case k1_91da => k_asm); (case k2_91da => k_asm); (case k3_91da => k_asm); (case k4_91da => k_asm); (case k5_91da => k_asm); (case k6_91da => k_is); (case k7_91da => k_is); (case k8_91da => ktr_room); (case k9_91da => exact BindsTo.of_eq rfl); (case c5_91da => decide); (case kB_91da => exact locs rfl); (case c2_91da => exact rfl); (case c3_91da => exact rfl); (case c4_91da => exact rfl); k_whole)
  k_with "w7" => (refine' code_defC ?k1_e452 ?k2_e452 ?k3_e452 ?k4_e452 ?k5_e452 ?kA_e452 ?kF_e452 ?kK_e452 ?k6_e452 ?k7_e452 ?k8_e452 ?k9_e452 ?kB_e452 ?kD_e452 ?_ ?c2_e452 ?c3_e452 ?c4_e452; (case kA_e452 => exact rfl); (case kF_e452 => exact rfl); (case kK_e452 => first | exact rfl | assumption); (case k1_e452 => k_asm); (case k2_e452 => k_asm); (case k3_e452 => k_asm); (case k4_e452 => k_asm); (case k5_e452 => k_asm); (case k6_e452 => k_is); (case k7_e452 => k_is); (case k8_e452 => ktr_room); (case k9_e452 => exact BindsTo.of_eq rfl); (case kB_e452 => exact rfl); (case kD_e452 => decide +kernel); (case c2_e452 => exact rfl); (case c3_e452 => exact rfl); (case c4_e452 => exact rfl); k_whole)
  k_with "w8" => (refine neN ?_; (try dsimp only); first | with_reducible assumption | (with_reducible refine Ne.symm ?_; with_reducible assumption) | (with_reducible refine Nat.ne_of_lt ?_; with_reducible assumption) | (with_reducible refine Nat.ne_of_gt ?_; with_reducible assumption))
  k_with "w9" => first | with_reducible assumption | exact in_of_fr (by with_reducible assumption) (by with_reducible assumption)
  k_with "w10" => (k_here; (with_reducible show wpAny _ _ (call (Value.ref 121) _) _ _ _); k_dflt (refine' draw2_use ?k1_44b5 ?k2_44b5 ?k3_44b5 ?k4_44b5 ?k5_44b5 ?kK_44b5 ?U_44b5 ?hl0_44b5 ?hne_44b5 ?hi_44b5 ?hl_44b5 ?hc0_44b5 ?hc1_44b5 ?hm_44b5 ?hm2_44b5 ?hd_44b5 ?hu_44b5 ?_; (case k1_44b5 => k_asm); (case k2_44b5 => k_asm); (case k3_44b5 => k_asm); (case k4_44b5 => k_asm); (case k5_44b5 => k_asm); (case kK_44b5 => first | exact rfl | assumption); (case U_44b5 => (intro _; k_upd)); (case hl0_44b5 => k_mem); (case hne_44b5 => k_ne); (case hi_44b5 => with_reducible assumption); (case hl_44b5 => assumption); (case hc0_44b5 => omega); (case hc1_44b5 => omega); (case hm_44b5 => omega); (case hm2_44b5 => omega); (case hd_44b5 => ktr_room); (case hu_44b5 => ke_room)))
  k_with "w11" => (k_here; (with_reducible show wpAny _ _ (call (Value.ref 100) _) _ _ _); k_dflt (refine' mrepl_use ?k1_f4fd ?k2_f4fd ?k3_f4fd ?k4_f4fd ?k5_f4fd ?kK_f4fd ?hx_f4fd ?hsp_f4fd ?D_f4fd ?sub_f4fd ?TL_f4fd ?hl_f4fd ?U_f4fd ?hd_f4fd ?hu_f4fd ?_; (case k1_f4fd => k_asm); (case k2_f4fd => k_asm); (case k3_f4fd => k_asm); (case k4_f4fd => k_asm); (case k5_f4fd => k_asm); (case kK_f4fd => first | exact rfl | assumption); (case hx_f4fd => k_mem); (case U_f4fd => (intro _; k_upd)); (case hsp_f4fd => k_mem); (case D_f4fd => with_reducible assumption); (case sub_f4fd => kqd_sub); (case TL_f4fd => with_reducible assumption); (case hl_f4fd => omega); (case hd_f4fd => ktr_room); (case hu_f4fd => ke_room)))
  k_with "w12" => (k_here; (with_reducible show wpAny _ _ (call (Value.ref 83) _) _ _ _); k_dflt (refine' mlist_ok ?k1_04f8 ?k2_04f8 ?k3_04f8 ?k4_04f8 ?k5_04f8 ?kK_04f8 ?hx_04f8 ?hdx_04f8 ?hsp_04f8 ?D_04f8 ?sub_04f8 ?hl_04f8 ?hd_04f8 ?hu_04f8 ?_; (case k1_04f8 => k_asm); (case k2_04f8 => k_asm); (case k3_04f8 => k_asm); (case k4_04f8 => k_asm); (case k5_04f8 => k_asm); (case kK_04f8 => first | exact rfl | assumption); (case hx_04f8 => k_mem); (case hdx_04f8 => k_mem); (case hsp_04f8 => k_mem); (case D_04f8 => with_reducible assumption); (case sub_04f8 => kqd_sub); (case hl_04f8 => omega); (case hd_04f8 => ktr_room); (case hu_04f8 => ke_room)))
  k_with "w13" => (k_here; (with_reducible show wpAny _ _ (call (Value.ref 90) _) _ _ _); k_dflt (refine' mrest_use ?k1_b474 ?k2_b474 ?k3_b474 ?k4_b474 ?k5_b474 ?kK_b474 ?hx_b474 ?hpl_b474 ?D_b474 ?hl_b474 ?U_b474 ?hd_b474 ?hu_b474 ?_; (case k1_b474 => k_asm); (case k2_b474 => k_asm); (case k3_b474 => k_asm); (case k4_b474 => k_asm); (case k5_b474 => k_asm); (case kK_b474 => first | exact rfl | assumption); (case hx_b474 => k_mem); (case U_b474 => (intro _; k_upd)); (case hpl_b474 => k_mem); (case D_b474 => first | with_reducible assumption | exact (by with_reducible assumption : ∀ t : Tok, DatAll [] (_ ++ [Value.int 1 t]) _) _); (case hl_b474 => omega); (case hd_b474 => ktr_room); (case hu_b474 => ke_room)))
  k_with "w14" => (k_here; (with_reducible show wpAny _ _ (call (Value.ref 95) _) _ _ _); k_dflt (refine' mtran_use ?k1_20f7 ?k2_20f7 ?k3_20f7 ?k4_20f7 ?k5_20f7 ?kK_20f7 ?hx_20f7 ?hsp_20f7 ?D_20f7 ?sub_20f7 ?TL_20f7 ?hl_20f7 ?U_20f7 ?hd_20f7 ?hu_20f7 ?_; (case k1_20f7 => k_asm); (case k2_20f7 => k_asm); (case k3_20f7 => k_asm); (case k4_20f7 => k_asm); (case k5_20f7 => k_asm); (case kK_20f7 => first | exact rfl | assumption); (case hx_20f7 => k_mem); (case U_20f7 => (intro _; k_upd)); (case hsp_20f7 => k_mem); (case D_20f7 => with_reducible assumption); (case sub_20f7 => kqd_sub); (case TL_20f7 => with_reducible assumption); (case hl_20f7 => omega); (case hd_20f7 => ktr_room); (case hu_20f7 => ke_room)))
  k_with "w15" => (k_here; (with_reducible show wpAny _ _ (call (Value.ref 140) _) _ _ _); k_dflt (refine' llisted_ok ?k1_aa7c ?k2_aa7c ?k3_aa7c ?k4_aa7c ?k5_aa7c ?kK_aa7c ?hsp_aa7c ?D_aa7c ?sub_aa7c ?hl_aa7c ?hd_aa7c ?hu_aa7c ?_; (case k1_aa7c => k_asm); (case k2_aa7c => k_asm); (case k3_aa7c => k_asm); (case k4_aa7c => k_asm); (case k5_aa7c => k_asm); (case kK_aa7c => first | exact rfl | assumption); (case hsp_aa7c => k_mem); (case D_aa7c => with_reducible assumption); (case sub_aa7c => kqd_sub); (case hl_aa7c => omega); (case hd_aa7c => ktr_room); (case hu_aa7c => ke_room)))
  k_with "w16" => (k_here; (with_reducible show wpAny _ _ (binaryOp _ (Value.ref _) (Value.ref _)) _ _ _); k_dflt (refine' addL ?F_261b ?N_261b ?a_261b ?b_261b ?z_261b ?_; (case F_261b => k_asm); (case N_261b => k_asm); (case a_261b => k_mem); (case b_261b => k_mem); (case z_261b => first | omega | (simp only [List.length_cons, List.length_nil, List.length_replicate]; omega))))
  k_with "w17" => (k_here; (with_reducible show wpAny _ _ (binaryOp Operator.Mult (Value.ref _) (Value.int _ _)) _ _ _); k_dflt (refine' mul2 ?F_452d ?N_452d ?l_452d ?e_452d ?z_452d ?_; (case F_452d => k_asm); (case N_452d => k_asm); (case l_452d => k_mem); (case e_452d => omega); (case z_452d => omega)))
  trivial
section
/-- trees that let every object's dict be -/
def Tame {α : Type} : Sem α → Prop
  | .pure _ => True
  | .raise _ => True
  | .unsupported _ => True
  | .finish _ => True
  | .rule _ k => Tame (k ())
  | .at _ k => Tame (k ())
  | .load _ _ k => ∀ o, Tame (k o)
  | .update _ _ f k => (∀ o : Obj, (f o).dict = o.dict ∧ (o.isFreed = false → (f o).isFreed = false)) ∧ Tame (k ())
  | .alloc _ k => ∀ a, Tame (k a)
  | .loadIfAlive _ k => ∀ o, Tame (k o)
  | .point _ k => Tame (k ())
  | .register _ _ => True
  | .fresh k => ∀ t, Tame (k t)
  | .ask k => ∀ x, Tame (k x)
  | .handled _ k => ∀ x, Tame (k x)
  | .stack k => ∀ x, Tame (k x)
  | _ => False
def DictsKept (h h' : Heap) : Prop := ∀ b o, h.get? b = some o → ∃ o', h'.get? b = some o' ∧ o'.dict = o.dict
theorem DictsKept.refl (h : Heap) : DictsKept h h := fun _ o e => ⟨o, e, rfl⟩
theorem DictsKept.trans {a b c : Heap} (x : DictsKept a b) (y : DictsKept b c) : DictsKept a c := fun d o e => by
  obtain ⟨o1, e1, q1⟩ := x d o e
  obtain ⟨o2, e2, q2⟩ := y d o1 e1
  exact ⟨o2, e2, q2.trans q1⟩
theorem DictsKept.push (h : Heap) (o : Obj) : DictsKept h (h.push o) := fun _ o' e => ⟨o', Heap.get?_push_of_some _ e, rfl⟩
theorem DictsKept.update (h : Heap) (a : Addr) {f : Obj → Obj} (hf : ∀ o : Obj, (f o).dict = o.dict ∧ (o.isFreed = false → (f o).isFreed = false)) : DictsKept h (h.update a f) := fun b o e => by
  by_cases q : a = b
  · subst q
    exact ⟨f o, Heap.get?_update_self f e ((hf o).2 (Heap.get?_some_iff.mp e).2), (hf o).1⟩
  · exact ⟨o, (Heap.get?_update_other h f q).trans e, rfl⟩
theorem tame_wp {α : Type} {M : Model} {Γ : PySem.Ctx} : ∀ (t : Sem α) (_ : Tame t) {Q : α → Pos → Shared → Prop} {E : Value → Pos → Shared → Prop} {p : Pos} {s : Shared}, Sem.wp M Γ t Q E p s →
    Sem.wp M Γ t (fun a p' s' => Q a p' s' ∧ DictsKept s.heap s'.heap) (fun e p' s' => E e p' s' ∧ DictsKept s.heap s'.heap) p s := by
  intro t
  induction t with
  | pure a => intro T Q E p s h; simp only [Sem.wp_pure] at h ⊢; exact ⟨h, .refl _⟩
  | raise e => intro T Q E p s h; simp only [Sem.wp_raise] at h ⊢; exact ⟨h, .refl _⟩
  | unsupported w => intro T Q E p s h; simp only [Sem.wp_unsupported] at h
  | finish e => intro T Q E p s h; simp only [Sem.wp_finish] at h
  | rule t k ih => intro T Q E p s h; simp only [Sem.wp_rule] at h ⊢; exact ih () T h
  | «at» q k ih => intro T Q E p s h; simp only [Sem.wp_at] at h ⊢; exact ih () T h
  | load a part k ih =>
    intro T Q E p s h
    rw [Sem.wp_load] at h ⊢
    obtain ⟨o, ho, h⟩ := h
    exact ⟨o, ho, ih o (T o) h⟩
  | update a part f k ih =>
    intro T Q E p s h
    rw [Sem.wp_update] at h ⊢
    refine ⟨h.1, Sem.wp_mono M Γ _ (fun x p' s' q => ⟨q.1, (DictsKept.update s.heap a T.1).trans q.2⟩) (fun x p' s' q => ⟨q.1, (DictsKept.update s.heap a T.1).trans q.2⟩) _ _ (ih () T.2 h.2)⟩
  | alloc o k ih =>
    intro T Q E p s h
    rw [Sem.wp_alloc] at h ⊢
    exact Sem.wp_mono M Γ _ (fun x p' s' q => ⟨q.1, (DictsKept.push s.heap o).trans q.2⟩) (fun x p' s' q => ⟨q.1, (DictsKept.push s.heap o).trans q.2⟩) _ _ (ih _ (T _) h)
  | loadIfAlive a k ih => intro T Q E p s h; simp only [Sem.wp_loadIfAlive] at h ⊢; exact ih _ (T _) h
  | point l k ih => intro T Q E p s h; simp only [Sem.wp_point] at h ⊢; exact ih () T h
  | register a k ih => intro T Q E p s h; simp only [Sem.wp_register] at h
  | fresh k ih => intro T Q E p s h; simp only [Sem.wp_fresh] at h ⊢; exact ih _ (T _) h
  | ask k ih => intro T Q E p s h; simp only [Sem.wp_ask] at h ⊢; exact ih _ (T _) h
  | handled own k ih => intro T Q E p s h; simp only [Sem.wp_handled] at h ⊢; exact ih _ (T _) h
  | stack k ih => intro T Q E p s h; simp only [Sem.wp_stack] at h ⊢; exact ih _ (T _) h
  | _ => intro T; exact T.elim
theorem wpAny_tame {α : Type} {M : Model} {A : Around} {t : Sem α} {Q : α → Shared → Prop} {E : Value → Shared → Prop} {s : Shared} (T : Tame t) (h : wpAny M A t Q E s) :
    wpAny M A t (fun a s' => Q a s' ∧ DictsKept s.heap s'.heap) (fun e s' => E e s' ∧ DictsKept s.heap s'.heap) s := fun Γ p hΓ => tame_wp t T (h Γ p hΓ)
theorem tame_bind {α β : Type} {m : Sem α} {f : α → Sem β} (h : Tame m) (k : ∀ a, Tame (f a)) : Tame (m >>= f) := by
  show Tame (m.bind f)
  induction m with
  | pure a => exact k a
  | raise e => exact trivial
  | unsupported w => exact trivial
  | finish e => exact trivial
  | rule t g ih => exact ih () h
  | «at» q g ih => exact ih () h
  | load a part g ih => exact fun o => ih o (h o)
  | update a part u g ih => exact ⟨h.1, ih () h.2⟩
  | alloc o g ih => exact fun a => ih a (h a)
  | loadIfAlive a g ih => exact fun o => ih o (h o)
  | point l g ih => exact ih () h
  | register a g ih => exact trivial
  | fresh g ih => exact fun t => ih t (h t)
  | ask g ih => exact fun x => ih x (h x)
  | handled o g ih => exact fun x => ih x (h x)
  | stack g ih => exact fun x => ih x (h x)
  | _ => exact h.elim
theorem tame_pure {α : Type} (a : α) : Tame (pure a : Sem α) := trivial
theorem tame_uns {α : Type} (w : String) : Tame (unsupported w : Sem α) := trivial
theorem tame_load (a : Addr) : Tame (load a) := fun _ => trivial
theorem tame_stack : Tame stack := fun _ => trivial
theorem tame_mapFields (f : Array Value → Array Value) (o : Obj) : (Obj.mapFields f o).dict = o.dict ∧ (o.isFreed = false → (Obj.mapFields f o).isFreed = false) := by
  obtain ⟨c, d, dt, sl⟩ := o
  cases dt <;> exact ⟨rfl, id⟩
theorem tame_updateField (a : Addr) (i : Nat) (v : Value) : Tame (updateField a i v) := by
  unfold updateField
  refine tame_bind (tame_load a) fun o => ?_
  split
  · split
    · exact ⟨tame_mapFields _, trivial⟩
    · exact tame_uns _
  · exact tame_uns _
theorem tame_setField (v : Value) (i : Nat) (x : Value) : Tame (setField v i x) := by
  unfold setField
  split
  · exact tame_updateField _ _ _
  · exact tame_uns _
theorem tame_fieldsOf (v : Value) : Tame (fieldsOf v) := by
  unfold fieldsOf
  split
  · refine tame_bind (tame_load _) fun o => ?_
    split
    · exact tame_pure _
    · exact tame_uns _
  · exact tame_uns _
theorem tame_field (v : Value) (i : Nat) : Tame (field v i) := by
  unfold field
  refine tame_bind (tame_fieldsOf v) fun o => ?_
  split
  · exact tame_pure _
  · exact tame_uns _
theorem tame_setFlight (e : Value) (f : Option Addr) : Tame (setFlight e f) := by
  unfold setFlight
  refine tame_bind (tame_field _ _) fun o => ?_
  split
  · exact tame_setField _ _ _
  · exact tame_pure _
theorem tame_frameEnvs : Tame frameEnvs := by
  unfold frameEnvs
  exact tame_bind tame_stack fun _ => tame_pure _
theorem tame_newEntry (a b c d e : Value) (pl : List Value) : Tame (EntryCells.newEntry a b c d e pl) := by
  unfold EntryCells.newEntry newFields newObj newObjAsIs
  have fin : ∀ o : Obj, Tame (do let a ← alloc o; pure (Value.ref a)) := fun o => tame_bind (fun _ => trivial) fun a => tame_pure _
  dsimp only
  generalize ([a, b, c, d, e] ++ if pl.isEmpty = true then List.replicate 6 Value.none else pl).toArray = vs
  split
  · exact tame_bind (tame_uns _) fun _ => fin _
  · exact fin _
theorem tame_entryPlaceOf (f : Addr) (b : Bool) : Tame (entryPlaceOf f b) := by
  unfold entryPlaceOf
  refine tame_bind tame_stack fun acts => ?_
  split
  · exact tame_pure _
  · exact tame_pure _
theorem tame_readyFrames : ∀ l : List Env, Tame (readyFrames l)
  | [] => trivial
  | env :: outer => by
    unfold readyFrames
    split
    · refine tame_bind (tame_load _) fun o => ?_
      split
      · exact tame_pure _
      · refine tame_bind ?_ fun imp => ?_
        · unfold behindIsImport
          split
          · exact tame_pure _
          · split
            · exact tame_pure _
            · exact tame_bind (tame_field _ _) fun _ => tame_pure _
        · refine tame_bind ?_ fun back => ?_
          · unfold keptBack
            split
            · split
              · exact tame_pure _
              · unfold underTheClaimsCaller
                repeat (first | exact tame_pure _ | exact tame_stack | (refine tame_bind ?_ fun _ => ?_) | split)
            · exact tame_pure _
          · refine tame_bind ⟨fun o => ⟨rfl, ?_⟩, trivial⟩ fun _ => tame_readyFrames outer
            obtain ⟨c, d, dt, sl⟩ := o
            cases dt <;> exact id
    · exact tame_uns _
theorem tame_frameOf (env : Env) : Tame (PySem.frameOf env) := by
  unfold PySem.frameOf frameObject
  refine tame_bind (tame_frameEnvs) fun l => ?_
  refine tame_bind ?_ fun x => ?_
  · split
    · exact tame_pure _
    · exact tame_bind (tame_readyFrames _) fun _ => tame_pure _
  · split
    · exact tame_pure _
    · exact tame_uns _
theorem tame_noteFrame (e : Value) (env : Env) : Tame (noteFrame e env) := by
  unfold noteFrame
  split
  · refine tame_bind (tame_field _ _) fun head => ?_
    have fin : ∀ (f : Addr), Tame (do setField e 1 (← EntryCells.newEntry head (← PySem.frameOf env) .none (rawInt f) .none (← entryPlaceOf f (head != .none))) : Sem Unit) := fun f =>
      tame_bind (tame_frameOf _) fun _ => tame_bind (tame_entryPlaceOf _ _) fun _ => tame_bind (tame_newEntry _ _ _ _ _ _) fun _ => tame_setField _ _ _
    split
    · refine tame_bind (tame_field _ _) fun y => ?_
      split
      · exact tame_pure _
      · exact tame_bind (tame_setField _ _ _) fun _ => fin _
    · exact fin _
  · exact tame_uns _
theorem tame_leaving (env : Env) (e : Value) : Tame (leaving env e) := by
  unfold leaving
  exact tame_bind (tame_noteFrame _ _) fun _ => tame_setFlight _ _

end
section
section
open Builtin Builtin.ObjectAttr
variable {prog : Program} {w : World} {A : Around} {E : Value → Shared → Prop} {h : Heap} {g : Array GenState} {d : Drawn} {t : Nat} {os : OsState}
variable {nm q : Str} {C N x : Addr} {bs bm : List Value} {sn : List Str} {sub : List Value} {ab : Bool} {col : Option Bool} {dd : Option Addr} {k0 k1 k2 k3 k5 : Option Value} {B newId sa owner : String}
  {mN mA : Str → Option Value} {name : Str} {v : Value} {o : Obj}
/-- an exception's first attribute: its dict is made -/
theorem set_first {Q : Unit → Shared → Prop} (SF : StoreFacts B bm sa owner)
    (hC : h.get? C = some (excClassObj nm q C N bs bm true sn sub ab col dd k0 k1 k2 k3 k5 newId)) (hn : h.Ns N mN) (hns : mN "__setattr__" = none) (hna : mN name = none)
    (hB : typeLookup (.type B) name = pure none) (hx : h.get? x = some o) (hc : o.cls = .ref C) (hnc : ∀ c, o.data ≠ .cls c) (hdn : o.dict = none)
    (hq : ∀ h' tk', (∀ b ob, b ≠ x → h.get? b = some ob → h'.get? b = some ob) → h'.get? x = some { cls := o.cls, dict := some h.objs.size, data := o.data, slots := o.slots } →
      h'.Ns1 h.objs.size (fun y => if y = name then some v else none) → Q () ⟨h', g, d, tk', os⟩) :
    wpAny (model prog w) A (setAttr (.ref x) name v) Q E ⟨h, g, d, t, os⟩ := by
  have f3 := SF.slot.bind (.ref x)
  have hpass := SF.passes (.ref x)
  unfold setAttr callSpecial? specialOf
  repeat (any_goals (first | assumption | (with_reducible refine wpAny_loadPart_at hx ?_; rw [hc]) | (with_reducible refine wpAny_typeLookup_exc hC hn SF.mro SF.slot.lookup ?_; rw [hns]) | wp_step))
  refine codeAny_call_builtin SF.slot.plain SF.entry (wpAny_check_sa SF hC hx hc ?_)
  unfold Builtin.«object.__setattr__»
  repeat (first | rw [refuse_eq] | (rw [refuseLoop_ref, hpass]) | (with_reducible refine wpAny_loadPart_at hx ?_; rw [hc]) | with_reducible refine wpAny_mroOf_exc hC ?_ | (with_reducible refine wpAny_typeLookup_exc hC hn SF.mro hB ?_; rw [hna]) | wp_step)
  rw [hdn, if_neg (by simp [typeHasDict])]
  split
  · rename_i hcd
    cases hcd
  split
  · rename_i c hcd
    exact absurd hcd (hnc c)
  have hxs : x ≠ h.objs.size := Nat.ne_of_lt (Heap.lt_size hx)
  have hx1 := Heap.get?_push_of_some { cls := .type "dict", data := .dict #[] } hx
  refine wpAny_bind (wpAny_alloc' (wpAny_bind (wpAny_update' hx1 (wpAny_pure ?_))))
  have hgd : ((h.push { cls := .type "dict", data := .dict #[] }).update x fun o => { cls := o.cls, dict := some h.objs.size, data := o.data, slots := o.slots }).get? h.objs.size
      = some { cls := .type "dict", data := .dict #[] } :=
    (Heap.get?_update_ne _ _ _ _ hxs.symm).trans (Heap.get?_push_at rfl rfl)
  have hnd : ((h.push { cls := .type "dict", data := .dict #[] }).update x fun o => { cls := o.cls, dict := some h.objs.size, data := o.data, slots := o.slots }).Ns h.objs.size (fun _ => none) :=
    ⟨_, #[], _, hgd, rfl, fun e he => absurd he (by simp), fun _ => rfl⟩
  show wpAny _ _ (storeInDict h.objs.size _ name v) _ _ _
  unfold storeInDict newKeyGuard
  refine wpAny_bind (wpAny_pure (wpAny_bind (wpAny_nsSet1 (Heap.Ns1.of_empty hnd) fun h' hn' hs => ?_)))
  obtain ⟨oD, esD, epD, hoD, hdD, hcD⟩ := hn'.count (Within.cons name v Within.nil)
  refine wpAny_bind (wpAny_lookBehind hoD (by rw [hdD]; exact pastItsLine_dict (Nat.le_trans hcD (by rw [List.length_cons, List.length_nil, sizeLine_eq]; omega))) ?_)
  repeat (any_goals (first | assumption | wp_step))
  refine hq h' _ (fun b ob hbx hb => ?_) ?_ hn'
  · exact (hs.2 b (Nat.ne_of_lt (Heap.lt_size hb))).trans ((Heap.get?_update_ne _ _ _ _ hbx).trans (Heap.get?_push_of_some _ hb))
  · refine (hs.2 x hxs).trans (Heap.get?_update_self _ hx1 ?_)
    have hfr := (Heap.get?_some_iff.mp hx).2
    obtain ⟨oc, od, odt, osl⟩ := o
    cases odt <;> first | rfl | exact hfr
/-- an exception's attribute out of its dict -/
theorem get_own {expr : Bool} {D : Addr} {Q : Value → Shared → Prop} (FB : ExcAttrBase B bm)
    (hC : h.get? C = some (excClassObj nm q C N bs bm true sn sub ab col dd k0 k1 k2 k3 k5 newId)) (hn : h.Ns N mN) (hng : mN "__getattribute__" = none) (hnh : mN "__getattr__" = none) (hna : mN name = none)
    (hB : typeLookup (.type B) name = pure none) (hx : h.get? x = some o) (hc : o.cls = .ref C) (hnc : ∀ c, o.data ≠ .cls c) (hd : o.dict = some D) (hD : h.Ns D mA) (hv : mA name = some v) (hh : handedOut v = pure v) (hq : Q v ⟨h, g, d, t + 1, os⟩) :
    wpAny (model prog w) A (getAttr (.ref x) name expr) Q E ⟨h, g, d, t, os⟩ := by
  have f3 := FB.ga.bind (.ref x)
  have hx0 : (expr && onTheHeap (Value.builtin "BaseException.__getattribute__")) = false := by cases expr <;> rfl
  have hx2 : (Value.builtin "BaseException.__getattribute__" == Value.builtin "object.__getattribute__") = false := by decide +kernel
  have hx1 : (onTheHeap (Value.ref C) && Value.builtin "BaseException.__getattribute__" == Value.builtin "object.__getattribute__") = false := by rw [hx2]; rfl
  unfold getAttr
  repeat (any_goals (first | assumption | (with_reducible refine wpAny_loadPart_at hx ?_; rw [hc]) | (with_reducible refine wpAny_typeLookup_exc hC hn FB.mro FB.ga.lookup ?_; rw [hng]) | (with_reducible refine wpAny_typeLookup_exc hC hn FB.mro FB.noGetattr ?_; rw [hnh]) | wp_step))
  refine codeAny_call_builtin FB.ga.plain F.entry_bexc_ga (wpAny_check_ga_own FB hC .base hx hc ?_)
  unfold Builtin.«object.__getattribute__»
  repeat (any_goals (first | assumption | (with_reducible refine wpAny_loadPart_at hx ?_; rw [hc]) | (with_reducible refine wpAny_typeLookup_exc hC hn FB.mro hB ?_; rw [hna]) | wp_step))
  split
  · rename_i c hcd
    exact absurd hcd (hnc c)
  unfold instanceDict
  repeat (first | (with_reducible refine wpAny_loadPart_at hx ?_; rw [hc]) | with_reducible refine wpAny_loadPart_at hC ?_ | wp_step)
  rw [hd]
  repeat (first | (with_reducible refine wpAny_nsGet hD ?_; rw [hv]) | wp_step)
  exact hq
end

def HasDict (h : Heap) (e D : Addr) : Prop := ∃ oe, h.get? e = some oe ∧ oe.dict = some D
theorem HasDict.on {h h' : Heap} {e D : Addr} (x : HasDict h e D) (k : DictsKept h h') : HasDict h' e D := by
  obtain ⟨oe, he, hd⟩ := x
  obtain ⟨o', h1, h2⟩ := k e oe he
  exact ⟨o', h1, h2.trans hd⟩
/-- an exception that has an own dict, flying: the ledger ahead of it stays -/
def RaisedD (base G : Heap) (l : List Env) (e : Addr) (cls a0 : Value) (D : Addr) (keep : List (Addr × Obj)) (h : Heap) : Prop :=
  (∃ B, base.StaysIn B ∧ (∀ b o, G.get? b = some o → b ∉ l.filterMap (·.frame) → B.get? b = some o) ∧ (∀ q ∈ keep, B.get? q.1 = some q.2 ∧ G.get? q.1 = none ∧ base.get? q.1 = none) ∧ Heap.FlyingW B l e cls a0 h) ∧ HasDict h e D
section
variable {M : Model} {A : Around} {E : Value → Shared → Prop} {s : Shared} {base : Heap} {env : Env} {outer l : List Env} {L e D : Addr} {cls a0 : Value} {Q : Unit → Shared → Prop}
theorem tame_use {t : Sem Unit} {P : Heap → Prop} (T : Tame t) (hd : HasDict s.heap e D) (h : wpAny M A t (fun _ s' => ∃ h', s' = { s with heap := h' } ∧ P h') E s)
    (hQ : ∀ h', P h' → HasDict h' e D → Q () { s with heap := h' }) : wpAny M A t Q E s :=
  wpAny_mono (wpAny_tame T h) (fun _ s' ⟨⟨h', e1, a⟩, k⟩ => by subst e1; exact hQ h' a (hd.on k)) fun _ _ x => x.1
theorem looks_D (hfr : A.frames = some (env :: outer)) (hf : env.frame = some L) (hfl : Heap.FlyingW base (env :: outer) e cls a0 s.heap) (hd : HasDict s.heap e D)
    (hQ : ∀ h', Heap.HeldW base (env :: outer) e cls a0 L h' ∧ s.heap.UpToSlots h' → HasDict h' e D → Q () { s with heap := h' }) : wpAny M A (noteFrame (.ref e) env) Q E s :=
  tame_use (tame_noteFrame _ _) hd (wpAny_looks_onW hfr hf hfl fun h' a b => ⟨h', rfl, a, b⟩) hQ
theorem lands_D (hh : Heap.HeldW base l e cls a0 L s.heap) (hd : HasDict s.heap e D)
    (hQ : ∀ h', Heap.FlyingW base l e cls a0 h' ∧ s.heap.UpToSlots h' → HasDict h' e D → Q () { s with heap := h' }) : wpAny M A (setFlight (.ref e) none) Q E s :=
  tame_use (tame_setFlight _ _) hd (wpAny_landsW hh fun h' a b => ⟨h', rfl, a, b⟩) hQ
theorem lands2_D (hh : Heap.FlyingW base l e cls a0 s.heap) (hd : HasDict s.heap e D)
    (hQ : ∀ h', Heap.FlyingW base l e cls a0 h' ∧ s.heap.UpToSlots h' → HasDict h' e D → Q () { s with heap := h' }) : wpAny M A (setFlight (.ref e) none) Q E s :=
  tame_use (tame_setFlight _ _) hd (lands_againW hh fun h' a b => ⟨h', rfl, a, b⟩) hQ
theorem leaves_D {oe : Obj} {vs : Array Value} (hfr : A.frames = some (env :: outer)) (hl : s.heap.FunFrames base (env :: outer)) (hf : env.frame = some L)
    (he : s.heap.get? e = some oe) (hkb : base.StaysIn s.heap) (hen : base.get? e = none) (hv : oe.data = .fields vs) (h1 : vs[1]? = some .none) (h0 : vs[0]? = some a0) (hdd : oe.dict = some D)
    (hQ : ∀ h', Heap.LeftW base (env :: outer) e oe.cls a0 s.heap h' → HasDict h' e D → Q () { s with heap := h' }) : wpAny M A (leaving env (.ref e)) Q E s :=
  tame_use (tame_leaving _ _) ⟨oe, he, hdd⟩ (wpAny_leaving_firstW hfr hl hf he hkb hen hv h1 h0 fun h' a => ⟨h', rfl, a⟩) hQ
end
section
variable {M : Model} {A : Around} {E : Value → Shared → Prop} {s' : Shared} {base g : Heap} {outer : List Env} {L a e D : Addr} {m : Str → Option Value} {name : Str} {scope : Scope} {cd : Value} {cl : List (Str × Addr)} {Q : Unit → Shared → Prop} {news keep : List (Addr × Obj)} {oe : Obj} {vs : Array Value} {a0 : Value}
/-- a frame is left by an exception that was made in it -/
theorem leave_exc (K : Below A base outer g) (F : Fr g L s'.heap m) (N : News g L s'.heap news) (he : (e, oe) ∈ news) (hv : oe.data = .fields vs) (h1 : vs[1]? = some .none) (h0 : vs[0]? = some a0) (hdd : oe.dict = some D)
    (hk : ∀ q ∈ keep, q ∈ news ∧ q.1 ≠ e) (hks : scope.kind = .function)
    (hQ : ∀ h', RaisedD base g outer e oe.cls a0 D keep h' → g.UpToSlots h' → Q () { s' with heap := h' }) :
    wpAny M (A.deeper (envX name scope L a cd cl)) (leaving (envX name scope L a cd cl) (.ref e)) Q E s' := by
  have K' := pushX (env := envX name scope L a cd cl) K F rfl hks
  have hin : ∀ env ∈ (envX name scope L a cd cl :: outer), ∀ b, env.frame = some b → b ∈ e :: (envX name scope L a cd cl :: outer).filterMap (·.frame) := fun env he b hb => .tail _ (List.mem_filterMap.mpr ⟨env, he, hb⟩)
  have hfm : ∀ b, b ∈ (envX name scope L a cd cl :: outer).filterMap (·.frame) → b = L ∨ b ∈ outer.filterMap (·.frame) := fun b hb => by
    rcases List.mem_cons.mp (show b ∈ L :: outer.filterMap (·.frame) from hb) with h | h
    · exact .inl h
    · exact .inr h
  have ne := (N _ he).2.2
  have nL : g.get? L = none := kts_self F
  have bs : ∀ {b}, g.get? b = none → base.get? b = none := fun h => fresh_of_stays K.stays h
  have sg : ∀ b o, g.get? b = some o → b ∉ outer.filterMap (·.frame) → (hideAll s'.heap (e :: (envX name scope L a cd cl :: outer).filterMap (·.frame))).get? b = some o := fun b o q nm => hideAll_get _ (F.keep b o q) fun hm => by
    rcases List.mem_cons.mp hm with z | hm
    · rw [z, ne] at q; cases q
    · rcases hfm b hm with z | z
      · rw [z, nL] at q; cases q
      · exact nm z
  have sf : ∀ b, b ∈ outer.filterMap (·.frame) → base.get? b = none ∧ ∃ o, g.get? b = some o := fun b hb => by
    obtain ⟨x1, o, x2, _⟩ := K.frames.mem hb
    exact ⟨x1, o, x2⟩
  have st : base.StaysIn (hideAll s'.heap (e :: (envX name scope L a cd cl :: outer).filterMap (·.frame))) := fun b o q => sg b o (K.stays b o q) fun hb => by
    rw [(sf b hb).1] at q; cases q
  have hl : ∀ q ∈ keep, (hideAll s'.heap (e :: (envX name scope L a cd cl :: outer).filterMap (·.frame))).get? q.1 = some q.2 ∧ g.get? q.1 = none ∧ base.get? q.1 = none := fun q hq => by
    obtain ⟨x1, x2, x3⟩ := N q (hk q hq).1
    refine ⟨hideAll_get _ x1 fun hm => ?_, x3, bs x3⟩
    rcases List.mem_cons.mp hm with z | hm
    · exact (hk q hq).2 z
    · rcases hfm _ hm with z | z
      · exact x2 z
      · obtain ⟨_, o, ho⟩ := sf _ z
        rw [x3] at ho; cases ho
  have hbe : (hideAll s'.heap (e :: (envX name scope L a cd cl :: outer).filterMap (·.frame))).get? e = none := hideAll_none _ (.head _)
  exact leaves_D K'.stack (funFrames_hide K'.frames hin) rfl (N _ he).1 (fun b o q => of_hideAll _ q) hbe hv h1 h0 hdd fun h' ⟨k1, ⟨_, _, k2⟩, k3, k4⟩ hD =>
    hQ h' ⟨⟨_, st, sg, hl, k1, hbe, k2, k3⟩, hD⟩ ((Heap.UpToSlots.of_keeps F.keep).trans k4)
end

end
section
section
variable {prog : Program} {w : World} {A₀ : Around} {E : Value → Shared → Prop} {s' : Shared} {base g G : Heap} {outer : List Env} {L a e C D : Addr} {m : Str → Option Value} {name : Str} {scope : Scope} {cd : Value} {cl : List (Str × Addr)}
  {n : Str} {b₀ : Stmt} {suite : List Stmt} {pos np : Pos} {rest : List ExceptHandler} {Q : Flow → Shared → Prop} {keep : List (Addr × Obj)} {KF : Frag} {a0 : Value}
  {p : Program} {loose : List Str} {mean : ExcName → Option Value} {mg mb : Str → Option Value} {x : Str}
/-- the clause that catches an exception that has an own dict -/
theorem caughtD (R : RaisedD base G (envX name scope L a cd cl :: outer) e (.ref C) a0 D keep s'.heap) (F : Fr g L G m) (K : Below A₀ base outer g) (hsm : G.UpToSlots s'.heap) (XB : KF.In base) (TB : Top p loose mean mg mb base)
    (ex : nsIn KF mainGlobals x = some (some (.ref C))) (q : ktsIn KF C "BaseException" = true)
    (k : ∀ h' g' tk oe, KtsTurn (outer.filterMap (·.frame)) g g' → Fr g' L h' (fun y => if y = n then some (.ref e) else m y) → News g' L h' ((e, oe) :: keep) → oe.cls = .ref C → oe.dict = some D → (∀ c, oe.data ≠ .cls c) → Below A₀ base outer g' → KF.In g' → Top p loose mean mg mb g' →
      wpAny (model prog w) ((A₀.deeper (envX name scope L a cd cl)).mark (some (.ref e))) (execs (b₀ :: suite) (envX name scope L a cd cl))
        (fun f s₄ => wpAny (model prog w) (A₀.deeper (envX name scope L a cd cl)) (do bindName (envX name scope L a cd cl) n .none; unbindBehindTheSuite (envX name scope L a cd cl) n pos) (fun _ s₅ => Q f s₅) E s₄)
        (AsSuiteRaised (model prog w) ((A₀.deeper (envX name scope L a cd cl)).mark (some (.ref e))) (envX name scope L a cd cl) n pos (notedBy (model prog w) ((A₀.deeper (envX name scope L a cd cl)).mark (some (.ref e))) (envX name scope L a cd cl) (cameBackBy (model prog w) (A₀.deeper (envX name scope L a cd cl)) (envX name scope L a cd cl) E)))
        { s' with heap := h', toks := tk })
    (hk : scope.kind = .function := by rfl) (hlo : (envX name scope L a cd cl).kindOf n = some .local := by rfl) (hx : (envX name scope L a cd cl).kindOf x = some .globalImplicit := by rfl) (hd : (x == ("__debug__" : Str)) = false := by decide) :
    wpAny (model prog w) (A₀.deeper (envX name scope L a cd cl)) (noteFrame (.ref e) (envX name scope L a cd cl))
      (fun _ s₂ => wpAny (model prog w) (A₀.deeper (envX name scope L a cd cl)) (setFlight (.ref e) none) (fun _ s₃ =>
        wpAny (model prog w) (A₀.deeper (envX name scope L a cd cl)) (handleBy (.ref e) (envX name scope L a cd cl) (.ExceptHandler (some (.Name x np)) (some n) (b₀ :: suite) pos :: rest)) Q E s₃) E s₂) E s' := by
  obtain ⟨⟨B, hB, hBG, hl, hfl⟩, hD⟩ := R
  have hL : B.get? L = none := by
    obtain ⟨_, ⟨L', _, hf, hn', _⟩, _⟩ := hfl.2.2.1
    obtain rfl : L = L' := Option.some.inj hf
    exact hn'
  have ground : ∀ h₅, B.StaysIn h₅ → G.UpToSlots h₅ → ∃ g', KtsTurn (outer.filterMap (·.frame)) g g' ∧ Fr g' L h₅ m ∧ Below A₀ base outer g' := fun h₅ x1 x2 =>
    kts_ground (name := name) (scope := scope) (a := a) (cd := cd) K F hBG x1 x2
  refine looks_D (Around.frames_deeper K.stack) rfl hfl hD fun h₄ ⟨held4, sm4⟩ hD4 => ?_
  refine lands_D held4 hD4 fun h₅ ⟨fl5, sm5⟩ hD5 => ?_
  have up5 := hsm.trans (sm4.trans sm5)
  obtain ⟨g5, T5, F5, K5⟩ := ground h₅ fl5.1 up5
  have X5 : KF.In g5 := XB.keeps K5.stays
  have P5 : TopRead p loose mg mb g5 := topRead_of (TB.keeps K5.stays)
  obtain ⟨ob, hob, hobc⟩ := fl5.there
  obtain ⟨nm, q', N, bs, bm, hdct, sn, sub, ab, col, dd, k0, k1, k2, k3, k5, newId, hC, hbase, hbT⟩ := kts_cls X5 q
  have hC5 := F5.keep _ _ hC
  refine wpAny_handleBy_cons (codeAny_handlers_test (nameX_K F5 X5 P5 ex ?_ hk hx hd)) (by intro q; cases q)
  refine wpAny_excMatches_sub_self hC5 hob hobc hbase (codeAny_handlers_suite_as ?_)
  refine lands2_D fl5 hD5 fun h₆ ⟨fl6, sm6⟩ hD6 => ?_
  have up6 := up5.trans sm6
  obtain ⟨g6, T6, F6, K6⟩ := ground h₆ fl6.1 up6
  obtain ⟨oe, ws, hoe, hoec, hoed, hoe0⟩ := fl6.first
  obtain ⟨oe', hoe', hdd⟩ := hD6
  obtain rfl : oe = oe' := Option.some.inj (hoe.symm.trans hoe')
  have ne6 : g6.get? e = none := T6.none_ _ (by
    cases hq : g.get? e with
    | none => rfl
    | some o =>
      by_cases hm : e ∈ outer.filterMap (·.frame)
      · obtain ⟨_, o', ho', hd'⟩ := K.frames.mem hm
        rw [hq] at ho'
        cases ho'
        obtain ⟨sl, hs⟩ := up6 _ _ (F.keep _ _ hq) hd'
        rw [hoe] at hs
        cases hs
        exact absurd hoed (hd' _)
      · have hb := hBG e o (F.keep _ _ hq) (fun hm' => by
          rcases List.mem_cons.mp (show e ∈ L :: outer.filterMap (·.frame) from hm') with z | z
          · rw [z, kts_self F] at hq; cases hq
          · exact hm z)
        rw [hfl.2.1] at hb; cases hb)
  have N6 : News g6 L h₆ ((e, oe) :: keep) := fun r hr => by
    rcases List.mem_cons.mp hr with rfl | hr
    · refine ⟨hoe, fun z => ?_, ne6⟩
      obtain ⟨oL, es, ep, ho, hd', _⟩ := F6.ns
      dsimp only at z
      rw [← z, hoe] at ho
      cases ho
      rw [hoed] at hd'
      cases hd'
    · exact ⟨fl6.1 _ _ (hl r hr).1, (fun z => by have := (hl r hr).1; rw [z, hL] at this; cases this), T6.none_ _ (kts_none F.keep (hl r hr).2.1)⟩
  refine storeX_L F6 N6 (fun h₇ F7 N7 => ?_) hk hlo
  exact k h₇ g6 _ oe T6 F7 N7 hoec hdd (fun c => by rw [hoed]; intro z; cases z) K6 (XB.keeps K6.stays) (TB.keeps K6.stays)
end

end
section
theorem ns_some_of {K : Frag} {h : Heap} {N : Addr} {mg : Str → Option Value} {n : Str} {v : Value} (X : K.In h) (G : h.Ns N mg) (e : nsIn K N n = some (some v)) : mg n = some v := by
  obtain ⟨o, es, ep, ho, hd, _, hf⟩ := G
  unfold nsIn at e
  split at e
  · rename_i c d es' n' sl q
    have := X _ _ q
    rw [ho] at this
    cases this
    cases hd
    split at e
    · rename_i en he
      cases e
      rw [← hf]
      unfold nsFind findBy
      rw [← Array.find?_toList, he]
      rfl
    · split at e <;> cases e
  · cases e
/-- the text's own exception class stands in the heap -/
def ExcC (h : Heap) : Prop := ∃ (k2 k3 : Option Value) (mN : Str → Option Value),
  h.get? 31 = some (excClassObj (Str.ofString "LispSignal") (Str.ofString "LispSignal") 31 30 [.type "Exception"] [.type "Exception", .type "BaseException", .type "object"] true [] [] false none none (some (.ref 15)) none k2 k3 (some (.bool true)) "Exception.__new__") ∧ h.Ns 30 mN ∧
    mN "__init__" = some (.ref 28) ∧ mN "__setattr__" = none ∧ mN "__getattribute__" = none ∧ mN "__getattr__" = none ∧ mN "symbol" = none ∧ mN "data" = none
theorem excC_of {P : Params} {h : Heap} (X : (Mine.hd.heap_39 P).In h) : ExcC h := by
  have ok : nsOkIn (Mine.hd.heap_39 P) 30 = true := by kernel_rfl
  have G := Heap.Ns.of_isNs (isNs_of_in X ok)
  exact ⟨some (.str (Str.ofString "LispSignal") 189), some (.str (Str.ofString "LispSignal") 197), _, X 31 _ (by kernel_rfl), G, ns_some_of X G (by kernel_rfl), ns_none_of X G (by kernel_rfl), ns_none_of X G (by kernel_rfl), ns_none_of X G (by kernel_rfl), ns_none_of X G (by kernel_rfl), ns_none_of X G (by kernel_rfl)⟩
theorem ExcC.keeps {h h' : Heap} (x : ExcC h) (k : ∀ b o, h.get? b = some o → h'.get? b = some o) : ExcC h' := by
  obtain ⟨k2, k3, mN, hC, ⟨o, es, ep, ho, r⟩, y⟩ := x
  exact ⟨k2, k3, mN, k _ _ hC, ⟨o, es, ep, k _ _ ho, r⟩, y⟩

end
local macro_rules | `(tactic| ke_room) => `(tactic| k_extra "w0")
local macro_rules | `(tactic| k_mem) => `(tactic| assumption)

theorem kwaad : True := by
  k_with "WPost" => (dsimp only [WPost])
  trivial
section
abbrev excO (t D : Addr) : Obj := { cls := .ref 31, dict := some D, data := .fields #[.ref t, .none, .none, .none, .bool false, .none] }
def ExcGoes (E : Value → Shared → Prop) (v : Value) (s : Shared) : Prop := ∃ e t D, v = .ref e ∧ ExcC s.heap ∧ s.heap.get? e = some (excO t D) ∧ E (.ref e) s
section
variable {prog : Program} {w : World} {A : Around} {E : Value → Shared → Prop} {env : Env} {s : Shared}
theorem raise_exc {x : PySem.Expr} {pos : Pos} {Q : Flow → Shared → Prop} (hh : A.handled = none)
    (h : wpAny (model prog w) A (eval x env) (ExcGoes E) E s) :
    wpAny (model prog w) A (exec (.Raise (some x) none pos) env) Q E s := by
  have go : ∀ v s₁, (∃ e t D, v = .ref e ∧ ExcC s₁.heap ∧ s₁.heap.get? e = some (excO t D) ∧ E (.ref e) s₁) → wpAny (model prog w) A (do
      let e ← holding ([] : List Value) (excFromValue v "exceptions must derive from BaseException")
      let e ← if ← isType v then holding [e] (raisedFor v e) else raisedInstance e
      setFlight e none
      raiseNew e : Sem Flow) Q E s₁ := by
    rintro v s₁ ⟨e, t, D, rfl, ⟨k2, k3, mN, hC, _⟩, he, hE⟩
    obtain ⟨hp, g, d, tk, os⟩ := s₁
    have hcB : (Value.ref 31 :: [Value.type "Exception", .type "BaseException", .type "object"]).contains (.type "BaseException") = true := by rfl
    repeat (first | with_reducible refine wpAny_loadPart_at he ?_ | with_reducible refine wpAny_loadPart_at hC ?_ | (with_reducible refine wpAny_isSubtype_exc hC ?_; rw [hcB]) | wp_step)
    exact wpAny_raiseNew_none hh hE
  rw [arm_exec_Raise]
  refine wpAny_bind (wpAny_standAt ?_)
  unfold raiseStmt
  refine wpAny_bind (wpAny_bind (wpAny_mono h (fun v s₁ h₁ => wpAny_bind (wpAny_standAt (wpAny_pure ?_))) fun _ _ x => x))
  exact go v s₁ h₁
end
theorem sig_ok {w : World} {p : Program} {loose : List Str} {mean : ExcName → Option Value} {mg mb : Str → Option Value} {dp un : Nat} {gd : Option (List Code)} {cn : Str} {cs : Scope} {a : Addr} {ccd : Value} {cl : List (Str × Addr)} {outer : List Env} {A₀ : Around} {base h₀ : Heap} {L : Addr} {m : Str → Option Value} {s : Shared} {Q E : Value → Shared → Prop} {news : List (Addr × Obj)} {v1 v2 : Value}
  (B : Below A₀ base outer h₀) (F : Fr h₀ L s.heap m) (X : (Mine.hd.heap_39 w.params).In h₀) (N : News h₀ L s.heap news) (T : Top p loose mean mg mb h₀) (hk : cs.kind = .function) (hd : dp + 3 < recursionLimit) (hu : un + 300 < cLine)
  (ret : ∀ (e D t : Addr) (oD oT : Obj) (h' : Heap) (tk' : Nat), (∀ q ∈ news, q.1 ≠ e ∧ q.1 ≠ D ∧ q.1 ≠ t) → @Ne Nat e D → @Ne Nat e t → @Ne Nat D t → (∀ hh : Heap, hh.get? D = some oD → hh.Ns D (fun y => if y = "data" then some v2 else if y = "symbol" then some v1 else none)) → Fr h₀ L h' m → News h₀ L h' ((e, excO t D) :: (D, oD) :: (t, oT) :: news) → Q (.ref e) { s with heap := h', toks := tk' }) :
  wpAny (model PySem.Challenge.pw_ok0042_02 w) (ktrTop dp un gd cn cs L a ccd cl outer) (call (.ref 31) [v1, v2]) Q E s := by
  show Keep PySem.Challenge.rw_ok0042_02 Mine.hd.heap_39 (wpAny _ _ _ _ _ _)
  k_fill
  unfold Keep
  have XC := excC_of X
  obtain ⟨k2, k3, mN, hC, hN, m1, m2, m3, m4, m5, m6⟩ := id XC
  obtain ⟨oI, hI, hIc⟩ : ∃ o, (Mine.hd.heap_39 w.params).lookup 28 = some o ∧ o.cls = .type "function" := by
    have q : ((Mine.hd.heap_39 w.params).lookup 28).map (·.cls) = some (.type "function") := by kernel_rfl
    cases r : (Mine.hd.heap_39 w.params).lookup 28 with
    | none => rw [r] at q; cases q
    | some o => rw [r] at q; exact ⟨o, rfl, Option.some.inj q⟩
  obtain ⟨hp, g, d, tk, os⟩ := s
  obtain ⟨oN, nes, nep, hNo, hNr⟩ := hN
  refine wpAny_call_exc_init PySem.F.excBase_Exception (F.keep _ _ hC) ⟨oN, nes, nep, F.keep _ _ hNo, hNr⟩ m1 (X.keeps F.keep 28 _ hI) hIc (fun h' e hm => ?_) (by simp [sizeLine])
  obtain ⟨t, he, htn, ht⟩ := hm.there
  have nb : ∀ {b}, hp.get? b = none → h₀.get? b = none := fun hb => kts_none F.keep hb
  have F' : Fr h₀ L h' m := ⟨F.ns.keeps hm.keeps, fun b o q => hm.keeps b o (F.keep b o q), F.above⟩
  have hLe : ∀ {b}, hp.get? b = none → b ≠ L := fun hb z => by
    obtain ⟨oL, _, _, ho, _⟩ := F.ns
    rw [z] at hb; rw [hb] at ho; cases ho
  have N' : News h₀ L h' ((e, { cls := .ref 31, data := .fields #[.ref t, .none, .none, .none, .bool false, .none] }) :: (t, { cls := .type "tuple", data := .seq [v1, v2].toArray }) :: news) := fun q hq => by
    rcases List.mem_cons.mp hq with rfl | hq
    · exact ⟨he, hLe hm.new, nb hm.new⟩
    · rcases List.mem_cons.mp hq with rfl | hq
      · exact ⟨ht, hLe htn, nb htn⟩
      · exact ⟨hm.keeps _ _ (N q hq).1, (N q hq).2.1, (N q hq).2.2⟩
  refine wpAny_call ?_
  k_dflt cell_enter
  w_strict k_steps
  rename_i g1 L1 h1 FG1 F1 N1 B1 X1 T1
  have hLk : ∀ b o, h₀.get? b = some o → h1.get? b = some o := fun b o q => F1.keep _ _ (FG1.keep _ _ q)
  have tl1 : typeLookup (.type "Exception") "symbol" = pure none := by rw [typeLookup_type, builtinLookup_eq_fast]; kernel_rfl
  have tl2 : typeLookup (.type "Exception") "data" = pure none := by rw [typeLookup_type, builtinLookup_eq_fast]; kernel_rfl
  have ne1 := N1 _ (.head _)
  have N1k := fun (q : Addr × Obj) hq => (N1 q hq).1
  refine set_first PySem.F.store_Exception (hLk _ _ hC) ⟨oN, nes, nep, hLk _ _ hNo, hNr⟩ m2 m5 tl1 ne1.1 rfl (fun c z => by cases z) rfl (fun h2 tk2 k2' x2 n2 => ?_)
  obtain ⟨oD, es, ep, hoD, hdD, sk, uk, fD⟩ := n2
  have hne : ∀ b o, g1.get? b = some o → b ≠ e := fun b o q z => by rw [z, ne1.2.2] at q; cases q
  have F2 : Fr g1 L1 h2 _ := ⟨by
    obtain ⟨oL, ls, lp, ho, r⟩ := F1.ns
    exact ⟨oL, ls, lp, k2' _ _ (Ne.symm ne1.2.1) ho, r⟩, fun b o q => k2' b o (hne b o q) (F1.keep b o q), F1.above⟩
  have nDt : ∀ b o, h1.get? b = some o → b ≠ h1.objs.size := fun b o q => Nat.ne_of_lt (Heap.lt_size q)
  have nD : ∀ q ∈ news, q.1 ≠ e := fun q hq z => by have := (N q hq).1; rw [z, hm.new] at this; cases this
  have nt : ∀ q ∈ news, q.1 ≠ t := fun q hq z => by have := (N q hq).1; rw [z, htn] at this; cases this
  have net : @Ne Nat e t := fun z => by rw [z, ht] at he; cases he
  generalize hDD : h1.objs.size = D at *
  have heD : @Ne Nat e D := nDt _ _ ne1.1
  have N2 : News g1 L1 h2 ((e, excO t D) :: (D, oD) :: (t, { cls := .type "tuple", data := .seq [v1, v2].toArray }) :: news) := fun q hq => by
    rcases List.mem_cons.mp hq with rfl | hq
    · exact ⟨x2, ne1.2⟩
    · rcases List.mem_cons.mp hq with rfl | hq
      · refine ⟨hoD, fun z => ?_, ?_⟩
        · obtain ⟨oL, _, _, ho, _⟩ := F1.ns
          exact nDt _ _ ho (Eq.symm z)
        · cases r : g1.get? D with
          | none => rfl
          | some o => exact absurd rfl (nDt _ _ (F1.keep _ _ r))
      · obtain ⟨y1, y2⟩ := N1 q (.tail _ hq)
        refine ⟨k2' _ _ ?_ y1, y2⟩
        rcases List.mem_cons.mp hq with rfl | hq
        · exact Ne.symm net
        · exact nD q hq
  clear N1 F1
  w_strict k_steps
  have ne3 := N2 _ (.head _)
  have I3 : h2.Inst e 31 (fun y => if y = "symbol" then some v1 else none) := ⟨_, ne3.1, rfl, (fun c z => by cases z), .inr ⟨D, rfl, Ne.symm heD, oD, es, ep, hoD, hdD, sk, uk, fD⟩⟩
  have hLk2 : ∀ b o, h₀.get? b = some o → h2.get? b = some o := fun b o q => F2.keep _ _ (FG1.keep _ _ q)
  refine store_attr PySem.F.store_Exception (hLk2 _ _ hC) ⟨oN, nes, nep, hLk2 _ _ hNo, hNr⟩ m2 m6 tl2 (fun z => by rw [z] at ne3; have := hLk2 _ _ hC; rw [ne3.1] at this; cases this) I3 (fun h4 tk4 I4 k4 s4 => ?_) (Within.cons _ _ Within.nil) (by simp [sizeLine])
  obtain ⟨o1, y1, y2, y3, y4, y5⟩ := s4 _ ne3.1
  have y6 := y5 D rfl
  obtain rfl : o1 = excO t D := by
    obtain ⟨oc, od, odt, osl⟩ := o1
    dsimp only at y2 y3 y4 y6
    subst y2 y3 y4 y6
    rfl
  obtain ⟨o2, z1, z2, z3, z4⟩ := I4
  obtain rfl : excO t D = o2 := Option.some.inj (y1.symm.trans z1)
  rcases z4 with ⟨z5, _⟩ | ⟨D2, z5, z6, z7⟩
  · cases z5
  cases z5
  obtain ⟨oD2, es2, ep2, w1, w2, w3, w4, w5⟩ := z7
  have k5 : ∀ b o, b ≠ e → b ≠ D → h2.get? b = some o → h4.get? b = some o := fun b o q1 q2 q3 => k4 b o q1 (fun o₀ dx q4 q5 => by
    rw [ne3.1] at q4; cases q4; cases q5; exact q2) q3
  have F4 : Fr g1 L1 h4 _ := ⟨by
    obtain ⟨oL, ls, lp, ho, r⟩ := F2.ns
    exact ⟨oL, ls, lp, k5 _ _ (Ne.symm ne3.2.1) (Ne.symm (N2 _ (.tail _ (.head _))).2.1) ho, r⟩, fun b o q => k5 b o (hne b o q) (fun z => by have := (N2 _ (.tail _ (.head _))).2.2; rw [z] at q; dsimp only at this; rw [q] at this; cases this) (F2.keep b o q), F2.above⟩
  have nDn : ∀ q ∈ (t, ({ cls := .type "tuple", data := .seq [v1, v2].toArray } : Obj)) :: news, q.1 ≠ D := fun q hq => by
    have hq1 : h1.get? q.1 = some q.2 := by
      rcases List.mem_cons.mp hq with rfl | hq
      · exact N1k _ (.tail _ (.head _))
      · exact N1k _ (.tail _ (.tail _ hq))
    exact nDt _ _ hq1
  have N4 : News g1 L1 h4 ((e, excO t D) :: (D, oD2) :: (t, { cls := .type "tuple", data := .seq [v1, v2].toArray }) :: news) := fun q hq => by
    rcases List.mem_cons.mp hq with rfl | hq
    · exact ⟨y1, ne3.2⟩
    · rcases List.mem_cons.mp hq with rfl | hq
      · exact ⟨w1, (N2 _ (.tail _ (.head _))).2⟩
      · obtain ⟨y7, y8⟩ := N2 q (.tail _ (.tail _ hq))
        refine ⟨k5 _ _ ?_ (nDn q hq) y7, y8⟩
        rcases List.mem_cons.mp hq with rfl | hq
        · exact Ne.symm net
        · exact nD q hq
  have nDn2 : ∀ q ∈ news, q.1 ≠ D := fun q hq => nDn q (.tail _ hq)
  have nDt2 : @Ne Nat D t := Ne.symm (nDn _ (.head _))
  clear N2 F2
  dsimp only
  w_strict k_steps
  exact ret e D t oD2 _ _ _ (fun q hq => ⟨nD q hq, nDn2 q hq, nt q hq⟩) heD net nDt2 (fun hh q => ⟨oD2, es2, ep2, q, w2, w3, w5⟩) (by k_asm) (by k_asm)

end
section
theorem kwaae : True := by
  k_with "exec Raise some none" => (k_here; k_dflt (refine raise_exc (by first | rfl | assumption) ?_))
  k_with "call ref" => (k_here; (with_reducible show wpAny _ _ (call (Value.ref 31) [_, _]) _ _ _); k_dflt (refine' sig_ok ?k1_8961 ?k2_8961 ?k3_8961 ?k4_8961 ?k5_8961 ?kK_8961 ?hd_8961 ?hu_8961 ?_; (case k1_8961 => k_asm); (case k2_8961 => k_asm); (case k3_8961 => k_asm); (case k4_8961 => k_asm); (case k5_8961 => k_asm); (case kK_8961 => first | exact rfl | assumption); (case hd_8961 => ktr_room); (case hu_8961 => ke_room)); intro _ _ _ _ _ _ _ _ _ _ _ _ _ _; (try dsimp only))
  trivial
/-- what an exception of the text's own says of itself -/
def SaysSym (D : Addr) (oD : Obj) : Prop := ∃ (mA : Str → Option Value) (tk : Tok), (∀ hh : Heap, hh.get? D = some oD → hh.Ns D mA) ∧ mA "symbol" = some (.str (Str.ofString "args-out-of-range") tk)
theorem mspan_raise {w : World} {p : Program} {loose : List Str} {mean : ExcName → Option Value} {mg mb : Str → Option Value} {dp un : Nat} {gd : Option (List Code)} {cn : Str} {cs : Scope} {a : Addr} {ccd : Value} {cl : List (Str × Addr)} {outer : List Env} {A₀ : Around} {base h₀ : Heap} {L : Addr} {m : Str → Option Value} {s : Shared} {Q E : Value → Shared → Prop} {news : List (Addr × Obj)} {x dx : Addr} {i : Int} {tk : Tok}
  (B : Below A₀ base outer h₀) (F : Fr h₀ L s.heap m) (X : (Mine.hd.heap_39 w.params).In h₀) (N : News h₀ L s.heap news) (T : Top p loose mean mg mb h₀) (hk : cs.kind = .function) (hx : (x, instObj 103 dx) ∈ news) (h0 : i < 0)
  (hd : dp + 5 < recursionLimit) (hu : un + 500 < cLine)
  (ret : ∀ (g : Heap) (e D t : Addr) (oD : Obj) (h' : Heap) (tk' : Nat), Fr h₀ L g m → RaisedD base g (envX cn cs L a ccd cl :: outer) e (.ref 31) (.ref t) D ((D, oD) :: news) h' → g.UpToSlots h' → SaysSym D oD → E (.ref e) { s with heap := h', toks := tk' }) :
  wpAny (model PySem.Challenge.pw_ok0042_02 w) (ktrTop dp un gd cn cs L a ccd cl outer) (call (.ref 62) [.ref x, .int i tk]) Q E s := by
  show Keep PySem.Challenge.rw_ok0042_02 Mine.hd.heap_39 (wpAny _ _ _ _ _ _)
  k_fill
  unfold Keep
  refine wpAny_call ?_
  k_dflt cell_enter
  w_strict k_steps
  rename_i g1 L1 h0' FG1 B1 X1 T1 tk0 lD hD FD ND ltD e D t1 oD oT h1 tk1 nn1 n1 n2 n3 nD F1 N1
  unfold ExcGoes
  refine ⟨e, t1, D, rfl, (excC_of X1).keeps F1.keep, (N1 _ (.head _)).1, ?_⟩
  refine leave_exc (keep := (D, oD) :: news) B1 F1 N1 (.head _) rfl rfl rfl rfl (fun q hq => ?_) rfl (fun h' R U => ?_)
  · rcases List.mem_cons.mp hq with rfl | hq
    · exact ⟨.tail _ (.head _), Ne.symm n1⟩
    · exact ⟨.tail _ (.tail _ (.tail _ (.tail _ hq))), (nn1 q (.tail _ hq)).1⟩
  · exact ret g1 e D t1 oD h' _ FG1 R U ⟨_, _, nD, by rw [if_neg (by decide), if_pos rfl]⟩

section
variable {prog : Program} {w : World} {A₀ A : Around} {s : Shared} {h₀ : Heap} {env : Env} {L : Addr} {m : Str → Option Value} {news : List (Addr × Obj)} {K : Frag} {p : Program} {loose : List Str} {mean : ExcName → Option Value} {mg mb : Str → Option Value}
    {R : Result → Shared → Prop} {name qual : Str} {params : Arguments} {body : List Stmt} {scope : Scope} {dV kV doc pm cdv ct oc : Value} {an od : Option Addr} {osl : Array (Option Value)} {f : Addr} {args : Args} {binds : List (Str × Value)}
/-- a def that catches, called out of the law's own frame -/
theorem code_defX (B : Below A₀ h₀ [] h₀) (F : Fr h₀ L s.heap m) (X₀ : K.In h₀) (N : News h₀ L s.heap news) (T : Top p loose mean mg mb h₀) (hA : A.frames = some [env]) (hf : env.frame = some L) (hke : env.scope.kind = .function)
    (ho : K.lookup f = some ⟨oc, od, .func (fnOf name qual params body scope dV kV doc pm an cdv ct), osl⟩) (hcd : codeIn K cdv qual = true) (hroom : A.depth < recursionLimit)
    (hbind : BindsTo s (fnOf name qual params body scope dV kV doc pm an cdv ct) args binds) (hloc : ∀ y ∈ binds, scope.names.lookup y.1 = some .local)
    (h : ∀ g L' h₁, Fr h₀ L g m → Fr g L' h₁ (fun y => binds.reverse.lookup y) → News g L' h₁ news → Below A h₀ [env] g → K.In g → Top p loose mean mg mb g →
      wpAny (model prog w) (A.deeper (envOf qual scope L' f cdv)) (execs body (envOf qual scope L' f cdv))
        (fun fl s' => LeaveS0 ([env].filterMap (·.frame)) h₀ L m g R (match fl with | .ret v => v | _ => .none) s')
        (fun e s' => wpAny (model prog w) (A.deeper (envOf qual scope L' f cdv)) (leaving (envOf qual scope L' f cdv) e) (fun _ s'' => R (.error e) s'') (fun e' s'' => R (.error e') s'') s')
        { s with heap := h₁, toks := s.toks + binds.length })
    (hco : scope.isCoroutine = false) (hgen : scope.isGenerator = false) (hk : scope.kind = .function)
    (hcell : ∀ x ∈ scope.names, x.2 ≠ .cell) : codeAny (model prog w) A (.call (.ref f) args) R s := by
  have X := X₀.keeps F.keep
  obtain ⟨FG, BG, st, _⟩ := groundX (R := R) B F N hA hf hke
  refine codeAny_call_def (fd := fnOf name qual params body scope dV kV doc pm an cdv ct) (body := body) (binds := binds) hroom (X _ _ ho) rfl (T.nolimit.keeps F.keep) (codeRec_of X hcd) rfl hbind hcell hloc (fun h₁ hns hk₁ => ?_) hco hgen hk
  refine wpAny_mono (h _ s.heap.objs.size h₁ FG ⟨hns, fun b o e => hk₁ b o (of_hideAll _ e), Nat.le_of_eq (hideAll_size _ _)⟩
    (fun p hp => ⟨hk₁ _ _ (N p hp).1, Nat.ne_of_lt (Heap.lt_size (N p hp).1), hideAll_none _ (List.mem_map_of_mem hp)⟩) BG (X₀.keeps st) (T.keeps st)) (fun fl s' hl => ?_) fun _ _ y => y
  obtain ⟨g', L', m', news', T', F', N', k⟩ := hl
  have hfl : ∀ b, b ∈ [env].filterMap (·.frame) → b = L := fun b hb => by
    simp only [List.filterMap_cons, hf, List.filterMap_nil, List.mem_singleton] at hb
    exact hb
  obtain ⟨oL, es, ep, hLg, hLd, hLk, hLf⟩ := FG.ns
  obtain ⟨sl, hs⟩ := T'.up hLg
  have nL : h₀.get? L = none := kts_self F
  refine k ⟨⟨_, es, ep, F'.keep _ _ hs, hLd, hLk, hLf⟩, fun b o e => F'.keep b o (T'.other b o (st b o e) (fun q => by rw [hfl b q, nL] at e; cases e)), F.above⟩ fun q hq => ⟨(N' q hq).1, fun z => ?_, ?_⟩
  · have := (N' q hq).2.2; rw [z, hs] at this; cases this
  · cases r : h₀.get? q.1 with
    | none => rfl
    | some o =>
      obtain ⟨sl', hs'⟩ := T'.up (st _ _ r)
      have := (N' q hq).2.2
      rw [hs'] at this; cases this
end
theorem get_sym {prog : Program} {w : World} {A : Around} {E : Value → Shared → Prop} {s : Shared} {x D : Addr} {o oD : Obj} {expr : Bool} {Q : Value → Shared → Prop} (XC : ExcC s.heap) (hx : s.heap.get? x = some o) (hc : o.cls = .ref 31) (hnc : ∀ c, o.data ≠ .cls c) (hd : o.dict = some D) (hD : s.heap.get? D = some oD) (S : SaysSym D oD)
    (hq : ∀ tk tk', Q (.str (Str.ofString "args-out-of-range") tk) { s with toks := tk' }) :
    wpAny (model prog w) A (getAttr (.ref x) (Str.ofString "symbol") expr) Q E s := by
  obtain ⟨k2, k3, mN, hC, hN, m1, m2, m3, m4, m5, m6⟩ := XC
  obtain ⟨mA, tk, hm, hv⟩ := S
  obtain ⟨hp, g, d, tk0, os⟩ := s
  exact get_own PySem.F.attrBase_Exception hC hN m3 m4 m5 (by rw [typeLookup_type, builtinLookup_eq_fast]; kernel_rfl) hx hc hnc hd (hm _ hD) hv (by rfl) (hq tk _)

end
theorem kwaaf : True := by
  k_with_none
  k_with "ta" => (try dsimp only)
  k_with "tb" => (try k_sweep)
  k_with "tc" => (try k_fold)
  k_with "w0" => (have hcL9 := cLine_is; (try simp only [units_in1, units_deeper, Around.mark_units, units_caller]); (try dsimp only [ktrTop]); omega)
  k_with "w1" => (k_here; (with_reducible show wpAny _ _ (call (Value.ref 114) _) _ _ _); k_dflt (refine' moved_ok ?k1_267c ?k2_267c ?k3_267c ?k4_267c ?k5_267c ?kK_267c ?hm_267c ?hd_267c ?hu_267c ?_; (case k1_267c => k_asm); (case k2_267c => k_asm); (case k3_267c => k_asm); (case k4_267c => k_asm); (case k5_267c => k_asm); (case kK_267c => first | exact rfl | assumption); (case hm_267c => k_mem); (case hd_267c => ktr_room); (case hu_267c => ke_room)))
  k_with "w2" => (refine' code_defC ?k1_73de ?k2_73de ?k3_73de ?k4_73de ?k5_73de ?kA_73de ?kF_73de ?kK_73de ?k6_73de ?k7_73de ?k8_73de ?k9_73de ?kB_73de ?kD_73de ?_ ?c2_73de ?c3_73de ?c4_73de; (case kA_73de => exact rfl); (case kF_73de => exact rfl); (case kK_73de => assumption); (case k1_73de => k_asm); (case k2_73de => k_asm); (case k3_73de => k_asm); (case k4_73de => k_asm); (case k5_73de => k_asm); (case k6_73de => k_is); (case k7_73de => k_is); (case k8_73de => ktr_room); (case k9_73de => exact BindsTo.of_eq rfl); (case kB_73de => exact rfl); (case kD_73de => decide +kernel); (case c2_73de => exact rfl); (case c3_73de => exact rfl); (case c4_73de => exact rfl); k_whole)
  k_with "w3" => (k_here; (with_reducible show wpAny _ _ (subscriptTail _ (PySem.Expr.Slice _ _ none _) (Value.ref _) (Value.ref _)) _ _ _); k_dflt (refine' slice_to ?F_7f9f ?N_7f9f ?l_7f9f ?p_7f9f ?q_7f9f ?e_7f9f ?z_7f9f ?_ ?s_7f9f ?t_7f9f; (case F_7f9f => k_asm); (case N_7f9f => k_asm); (case l_7f9f => k_mem); (case p_7f9f => kmk_part); (case q_7f9f => kmk_part); (case e_7f9f => first | exact pick_upto (by omega) | exact pick_from (by omega) | exact pick_part (by omega) (by omega) | exact pick_less (by omega)); (case s_7f9f => with_unfolding_all rfl); (case t_7f9f => kmk_pure); (case z_7f9f => omega)))
  k_with "w4" => (k_here; (with_reducible show wpAny _ _ (call (Value.type _) [Value.ref _]) _ _ _); k_dflt (first | (refine' copyL ?F_06eb ?N_06eb ?m_06eb ?z_06eb ?_; (case F_06eb => k_asm); (case N_06eb => k_asm); (case m_06eb => k_mem); (case z_06eb => omega)) | (refine' copyT ?F_06eb ?N_06eb ?m_06eb ?_; (case F_06eb => k_asm); (case N_06eb => k_asm); (case m_06eb => k_mem))))
  k_with "w5" => (k_here; (with_reducible show wpAny _ _ (binaryOp _ (Value.ref _) (Value.ref _)) _ _ _); k_dflt (refine' addL ?F_f34b ?N_f34b ?a_f34b ?b_f34b ?z_f34b ?_; (case F_f34b => k_asm); (case N_f34b => k_asm); (case a_f34b => k_mem); (case b_f34b => k_mem); (case z_f34b => first | omega | (simp only [List.length_cons, List.length_nil]; omega))))
  k_with "w6" => (refine' code_def ?k1_91da ?k2_91da ?k3_91da ?k4_91da ?k5_91da ?kA_91da ?kF_91da ?kK_91da ?k6_91da ?k7_91da ?k8_91da ?k9_91da ?kB_91da ?_ ?c2_91da ?c3_91da ?c4_91da ?c5_91da; (case kA_91da => exact rfl); (case kF_91da => exact rfl); (case kK_91da => first | exact rfl | assumption); (case k1_91da => k_asm); (case k2_91da => k_asm); (case k3_91da => k_asm); (case k4_91da => k_asm); (case k5_91da => k_asm); (case k6_91da => k_is); (case k7_91da => k_is); (case k8_91da => ktr_room); (case k9_91da => exact BindsTo.of_eq rfl); (case c5_91da => decide); (case kB_91da => exact locs rfl); (case c2_91da => exact rfl); (case c3_91da => exact rfl); (case c4_91da => exact rfl); k_whole)
  k_with "w7" => (refine' code_defC ?k1_e452 ?k2_e452 ?k3_e452 ?k4_e452 ?k5_e452 ?kA_e452 ?kF_e452 ?kK_e452 ?k6_e452 ?k7_e452 ?k8_e452 ?k9_e452 ?kB_e452 ?kD_e452 ?_ ?c2_e452 ?c3_e452 ?c4_e452; (case kA_e452 => exact rfl); (case kF_e452 => exact rfl); (case kK_e452 => first | exact rfl | assumption); (case k1_e452 => k_asm); (case k2_e452 => k_asm); (case k3_e452 => k_asm); (case k4_e452 => k_asm); (case k5_e452 => k_asm); (case k6_e452 => k_is); (case k7_e452 => k_is); (case k8_e452 => ktr_room); (case k9_e452 => exact BindsTo.of_eq rfl); (case kB_e452 => exact rfl); (case kD_e452 => decide +kernel); (case c2_e452 => exact rfl); (case c3_e452 => exact rfl); (case c4_e452 => exact rfl); k_whole)
  k_with "w8" => (refine neN ?_; (try dsimp only); first | with_reducible assumption | (with_reducible refine Ne.symm ?_; with_reducible assumption) | (with_reducible refine Nat.ne_of_lt ?_; with_reducible assumption) | (with_reducible refine Nat.ne_of_gt ?_; with_reducible assumption))
  k_with "w9" => first | with_reducible assumption | exact in_of_fr (by with_reducible assumption) (by with_reducible assumption)
  k_with "w10" => (k_here; (with_reducible show wpAny _ _ (call (Value.ref 121) _) _ _ _); k_dflt (refine' draw2_use ?k1_44b5 ?k2_44b5 ?k3_44b5 ?k4_44b5 ?k5_44b5 ?kK_44b5 ?U_44b5 ?hl0_44b5 ?hne_44b5 ?hi_44b5 ?hl_44b5 ?hc0_44b5 ?hc1_44b5 ?hm_44b5 ?hm2_44b5 ?hd_44b5 ?hu_44b5 ?_; (case k1_44b5 => k_asm); (case k2_44b5 => k_asm); (case k3_44b5 => k_asm); (case k4_44b5 => k_asm); (case k5_44b5 => k_asm); (case kK_44b5 => first | exact rfl | assumption); (case U_44b5 => (intro _; k_upd)); (case hl0_44b5 => k_mem); (case hne_44b5 => k_ne); (case hi_44b5 => with_reducible assumption); (case hl_44b5 => assumption); (case hc0_44b5 => omega); (case hc1_44b5 => omega); (case hm_44b5 => omega); (case hm2_44b5 => omega); (case hd_44b5 => ktr_room); (case hu_44b5 => ke_room)))
  k_with "w11" => (k_here; (with_reducible show wpAny _ _ (call (Value.ref 100) _) _ _ _); k_dflt (refine' mrepl_use ?k1_f4fd ?k2_f4fd ?k3_f4fd ?k4_f4fd ?k5_f4fd ?kK_f4fd ?hx_f4fd ?hsp_f4fd ?D_f4fd ?sub_f4fd ?TL_f4fd ?hl_f4fd ?U_f4fd ?hd_f4fd ?hu_f4fd ?_; (case k1_f4fd => k_asm); (case k2_f4fd => k_asm); (case k3_f4fd => k_asm); (case k4_f4fd => k_asm); (case k5_f4fd => k_asm); (case kK_f4fd => first | exact rfl | assumption); (case hx_f4fd => k_mem); (case U_f4fd => (intro _; k_upd)); (case hsp_f4fd => k_mem); (case D_f4fd => with_reducible assumption); (case sub_f4fd => kqd_sub); (case TL_f4fd => with_reducible assumption); (case hl_f4fd => omega); (case hd_f4fd => ktr_room); (case hu_f4fd => ke_room)))
  k_with "w12" => (k_here; (with_reducible show wpAny _ _ (call (Value.ref 83) _) _ _ _); k_dflt (refine' mlist_ok ?k1_04f8 ?k2_04f8 ?k3_04f8 ?k4_04f8 ?k5_04f8 ?kK_04f8 ?hx_04f8 ?hdx_04f8 ?hsp_04f8 ?D_04f8 ?sub_04f8 ?hl_04f8 ?hd_04f8 ?hu_04f8 ?_; (case k1_04f8 => k_asm); (case k2_04f8 => k_asm); (case k3_04f8 => k_asm); (case k4_04f8 => k_asm); (case k5_04f8 => k_asm); (case kK_04f8 => first | exact rfl | assumption); (case hx_04f8 => k_mem); (case hdx_04f8 => k_mem); (case hsp_04f8 => k_mem); (case D_04f8 => with_reducible assumption); (case sub_04f8 => kqd_sub); (case hl_04f8 => omega); (case hd_04f8 => ktr_room); (case hu_04f8 => ke_room)))
  k_with "w13" => (k_here; (with_reducible show wpAny _ _ (call (Value.ref 90) _) _ _ _); k_dflt (refine' mrest_use ?k1_b474 ?k2_b474 ?k3_b474 ?k4_b474 ?k5_b474 ?kK_b474 ?hx_b474 ?hpl_b474 ?D_b474 ?hl_b474 ?U_b474 ?hd_b474 ?hu_b474 ?_; (case k1_b474 => k_asm); (case k2_b474 => k_asm); (case k3_b474 => k_asm); (case k4_b474 => k_asm); (case k5_b474 => k_asm); (case kK_b474 => first | exact rfl | assumption); (case hx_b474 => k_mem); (case U_b474 => (intro _; k_upd)); (case hpl_b474 => k_mem); (case D_b474 => first | with_reducible assumption | exact (by with_reducible assumption : ∀ t : Tok, DatAll [] (_ ++ [Value.int 1 t]) _) _); (case hl_b474 => omega); (case hd_b474 => ktr_room); (case hu_b474 => ke_room)))
  k_with "w14" => (k_here; (with_reducible show wpAny _ _ (call (Value.ref 95) _) _ _ _); k_dflt (refine' mtran_use ?k1_20f7 ?k2_20f7 ?k3_20f7 ?k4_20f7 ?k5_20f7 ?kK_20f7 ?hx_20f7 ?hsp_20f7 ?D_20f7 ?sub_20f7 ?TL_20f7 ?hl_20f7 ?U_20f7 ?hd_20f7 ?hu_20f7 ?_; (case k1_20f7 => k_asm); (case k2_20f7 => k_asm); (case k3_20f7 => k_asm); (case k4_20f7 => k_asm); (case k5_20f7 => k_asm); (case kK_20f7 => first | exact rfl | assumption); (case hx_20f7 => k_mem); (case U_20f7 => (intro _; k_upd)); (case hsp_20f7 => k_mem); (case D_20f7 => with_reducible assumption); (case sub_20f7 => kqd_sub); (case TL_20f7 => with_reducible assumption); (case hl_20f7 => omega); (case hd_20f7 => ktr_room); (case hu_20f7 => ke_room)))
  k_with "w15" => (k_here; (with_reducible show wpAny _ _ (call (Value.ref 140) _) _ _ _); k_dflt (refine' llisted_ok ?k1_aa7c ?k2_aa7c ?k3_aa7c ?k4_aa7c ?k5_aa7c ?kK_aa7c ?hsp_aa7c ?D_aa7c ?sub_aa7c ?hl_aa7c ?hd_aa7c ?hu_aa7c ?_; (case k1_aa7c => k_asm); (case k2_aa7c => k_asm); (case k3_aa7c => k_asm); (case k4_aa7c => k_asm); (case k5_aa7c => k_asm); (case kK_aa7c => first | exact rfl | assumption); (case hsp_aa7c => k_mem); (case D_aa7c => with_reducible assumption); (case sub_aa7c => kqd_sub); (case hl_aa7c => omega); (case hd_aa7c => ktr_room); (case hu_aa7c => ke_room)))
  k_with "w16" => (k_here; (with_reducible show wpAny _ _ (binaryOp _ (Value.ref _) (Value.ref _)) _ _ _); k_dflt (refine' addL ?F_261b ?N_261b ?a_261b ?b_261b ?z_261b ?_; (case F_261b => k_asm); (case N_261b => k_asm); (case a_261b => k_mem); (case b_261b => k_mem); (case z_261b => first | omega | (simp only [List.length_cons, List.length_nil, List.length_replicate]; omega))))
  k_with "w17" => (k_here; (with_reducible show wpAny _ _ (binaryOp Operator.Mult (Value.ref _) (Value.int _ _)) _ _ _); k_dflt (refine' mul2 ?F_452d ?N_452d ?l_452d ?e_452d ?z_452d ?_; (case F_452d => k_asm); (case N_452d => k_asm); (case l_452d => k_mem); (case e_452d => omega); (case z_452d => omega)))
  k_with "WPost" => (dsimp only [WPost])
  trivial
section
theorem item_dat {prog : Program} {w : World} {A : Around} {E : Value → Shared → Prop} {s : Shared} {h₀ : Heap} {L l : Addr} {value slice : PySem.Expr} {news L9 : List (Addr × Obj)} {us : List Value} {ds : List Dat} {n : Nat} {k : Int} {u : Tok} {Q : Value → Shared → Prop} (N : News h₀ L s.heap news) (hm : (l, listOf us.toArray n) ∈ news) (hd : DatAll L9 us ds)
    (h0 : 0 ≤ k) (h1 : k < (ds.length : Int)) (hfit : k < 2 ^ 63) (h : ∀ v, DatIn L9 v (ds.getD k.toNat .none) → Q v s)
    (hs : subscripted slice false (.ref l) (.int k u) = operate [.ref l, .int k u] (getItem (.ref l) (.int k u)) := by with_unfolding_all rfl) :
    wpAny (model prog w) A (subscriptTail value slice (.ref l) (.int k u)) Q E s :=
  kd_item N hm hd h0 h1 hfit (fun v d e _ hD => h v (by rw [List.getD_eq_getElem?_getD, e]; exact hD)) hs

end

theorem kwaag : True := by
  k_with "call builtin:len" => (k_here; (with_reducible show wpAny _ _ (call (Value.builtin "len") [Value.ref _]) _ _ _); k_dflt (refine' kd_len ?k1_eae0 ?k2_eae0 ?k3_eae0 ?k4_eae0 ?_; (case k1_eae0 => k_asm); (case k2_eae0 => k_mem); (case k3_eae0 => with_reducible assumption); (case k4_eae0 => omega); k_whole))
  k_with "subscriptTail" => (k_here; (with_reducible show wpAny _ _ (subscriptTail _ _ (Value.ref _) (Value.int _ _)) _ _ _); k_dflt (refine' item_dat ?k1_b351 ?k2_b351 ?k3_b351 ?k4_b351 ?k5_b351 ?k6_b351 ?_ ?k7_b351; (case k1_b351 => k_asm); (case k2_b351 => k_mem); (case k3_b351 => with_reducible assumption); (case k4_b351 => omega); (case k5_b351 => omega); (case k6_b351 => omega); (case k7_b351 => with_unfolding_all rfl); k_whole); intro _ _)
  trivial
section
abbrev spansDict (P : Params) (tk : Tok) (sp : Addr) : Obj := dictOf [⟨PyData.keyHash P (Str.ofString "spans"), .str (Str.ofString "spans") tk, .ref sp⟩] 1

theorem mspan_ok {w : World} {p : Program} {loose : List Str} {mean : ExcName → Option Value} {mg mb : Str → Option Value} {dp un : Nat} {gd : Option (List Code)} {cn : Str} {cs : Scope} {a : Addr} {ccd : Value} {cl : List (Str × Addr)} {outer : List Env} {A₀ : Around} {base h₀ : Heap} {L : Addr} {m : Str → Option Value} {s : Shared} {Q E : Value → Shared → Prop} {news : List (Addr × Obj)} {x dx sp : Addr} {t0 : Tok} {vs : List Value} {k : Nat} {os : List (Option (Int × Int))} {i : Int} {tk : Tok} {L9 : List (Addr × Obj)}
  (B : Below A₀ base outer h₀) (F : Fr h₀ L s.heap m) (X : (Mine.hd.heap_39 w.params).In h₀) (N : News h₀ L s.heap news) (T : Top p loose mean mg mb h₀) (hk : cs.kind = .function) (hx : (x, instObj 103 dx) ∈ news) (hdx : (dx, spansDict w.params t0 sp) ∈ news) (hsp : (sp, listOf vs.toArray k) ∈ news) (D : DatAll L9 vs (os.map enc)) (hl : os.length < 1000) (h0 : 0 ≤ i) (h1 : i < 1000)
  (hd : dp + 1 < recursionLimit) (hu : un + 100 < cLine)
  (ret : ∀ (v : Value) (h' : Heap) (tk' : Nat), DatIn L9 v (enc (os.getD i.toNat none)) → Fr h₀ L h' m → News h₀ L h' news → Q v { s with heap := h', toks := tk' }) :
  wpAny (model PySem.Challenge.pw_ok0042_02 w) (ktrTop dp un gd cn cs L a ccd cl outer) (call (.ref 62) [.ref x, .int i tk]) Q E s := by
  show Keep PySem.Challenge.rw_ok0042_02 Mine.hd.heap_39 (wpAny _ _ _ _ _ _)
  k_fill
  unfold Keep
  refine wpAny_call ?_
  k_dflt cell_enter
  have hlen : ((os.map enc).length : Int) < 1000 := by rw [List.length_map]; omega
  w_strict k_steps
  · rename_i hD _ _ _ _
    rw [getD_enc] at hD
    exact ret _ _ _ hD (by k_asm) (by k_asm)
  · have e : os.getD i.toNat none = none := by
      rw [List.length_map] at *
      rw [List.getD_eq_getElem?_getD, List.getElem?_eq_none (by omega)]; rfl
    exact ret _ _ _ (by rw [e]; exact DatIn.none) (by k_asm) (by k_asm)


theorem kwaah : True := by
  k_with "call ref" => (k_here; (with_reducible show wpAny _ _ (call (Value.ref 62) _) _ _ _); k_dflt (refine' mspan_ok ?k1_f2d9 ?k2_f2d9 ?k3_f2d9 ?k4_f2d9 ?k5_f2d9 ?kK_f2d9 ?hx_f2d9 ?hdx_f2d9 ?hsp_f2d9 ?D_f2d9 ?hl_f2d9 ?h0_f2d9 ?h1_f2d9 ?hd_f2d9 ?hu_f2d9 ?_; (case k1_f2d9 => k_asm); (case k2_f2d9 => k_asm); (case k3_f2d9 => k_asm); (case k4_f2d9 => k_asm); (case k5_f2d9 => k_asm); (case kK_f2d9 => first | exact rfl | assumption); (case hx_f2d9 => k_mem); (case hdx_f2d9 => k_mem); (case hsp_f2d9 => k_mem); (case D_f2d9 => with_reducible assumption); (case hl_f2d9 => assumption); (case h0_f2d9 => omega); (case h1_f2d9 => omega); (case hd_f2d9 => ktr_room); (case hu_f2d9 => ke_room)); intro _ _ _ _ _ _; (try dsimp only); (try k_sweep); (try k_fold))
  trivial
theorem mbeg_ok {w : World} {p : Program} {loose : List Str} {mean : ExcName → Option Value} {mg mb : Str → Option Value} {dp un : Nat} {gd : Option (List Code)} {cn : Str} {cs : Scope} {a : Addr} {ccd : Value} {cl : List (Str × Addr)} {outer : List Env} {A₀ : Around} {base h₀ : Heap} {L : Addr} {m : Str → Option Value} {s : Shared} {Q E : Value → Shared → Prop} {news : List (Addr × Obj)} {x dx sp : Addr} {t0 : Tok} {vs : List Value} {k : Nat} {os : List (Option (Int × Int))} {i : Int} {tk : Tok} {L9 : List (Addr × Obj)}
  (B : Below A₀ base outer h₀) (F : Fr h₀ L s.heap m) (X : (Mine.hd.heap_39 w.params).In h₀) (N : News h₀ L s.heap news) (T : Top p loose mean mg mb h₀) (hk : cs.kind = .function) (hx : (x, instObj 103 dx) ∈ news) (hdx : (dx, spansDict w.params t0 sp) ∈ news) (hsp : (sp, listOf vs.toArray k) ∈ news) (D : DatAll L9 vs (os.map enc)) (sub : ∀ p ∈ L9, p ∈ news) (hl : os.length < 1000) (h0 : 0 ≤ i) (h1 : i < 1000)
  (hd : dp + 2 < recursionLimit) (hu : un + 200 < cLine)
  (ret : ∀ (v : Value) (h' : Heap) (tk' : Nat), DatIn L9 v (encI ((os.getD i.toNat none).map Prod.fst)) → Fr h₀ L h' m → News h₀ L h' news → Q v { s with heap := h', toks := tk' }) :
  wpAny (model PySem.Challenge.pw_ok0042_02 w) (ktrTop dp un gd cn cs L a ccd cl outer) (call (.ref 69) [.ref x, .int i tk]) Q E s := by
  show Keep PySem.Challenge.rw_ok0042_02 Mine.hd.heap_39 (wpAny _ _ _ _ _ _)
  k_fill
  unfold Keep
  refine wpAny_call ?_
  k_dflt cell_enter
  w_strict k_steps
  rename DatIn _ _ (enc _) => hD
  generalize os.getD i.toNat none = o at *
  rcases datIn_enc hD with ⟨rfl, rfl⟩ | ⟨a9, b9, t9, u9, ad, n9, rfl, rfl, hm⟩
  · w_strict k_steps
    exact ret _ _ _ DatIn.none (by k_asm) (by k_asm)
  · have hm9 := sub _ hm
    w_strict k_steps
    exact ret _ _ _ (DatIn.int _ _) (by k_asm) (by k_asm)

theorem mend_ok {w : World} {p : Program} {loose : List Str} {mean : ExcName → Option Value} {mg mb : Str → Option Value} {dp un : Nat} {gd : Option (List Code)} {cn : Str} {cs : Scope} {a : Addr} {ccd : Value} {cl : List (Str × Addr)} {outer : List Env} {A₀ : Around} {base h₀ : Heap} {L : Addr} {m : Str → Option Value} {s : Shared} {Q E : Value → Shared → Prop} {news : List (Addr × Obj)} {x dx sp : Addr} {t0 : Tok} {vs : List Value} {k : Nat} {os : List (Option (Int × Int))} {i : Int} {tk : Tok} {L9 : List (Addr × Obj)}
  (B : Below A₀ base outer h₀) (F : Fr h₀ L s.heap m) (X : (Mine.hd.heap_39 w.params).In h₀) (N : News h₀ L s.heap news) (T : Top p loose mean mg mb h₀) (hk : cs.kind = .function) (hx : (x, instObj 103 dx) ∈ news) (hdx : (dx, spansDict w.params t0 sp) ∈ news) (hsp : (sp, listOf vs.toArray k) ∈ news) (D : DatAll L9 vs (os.map enc)) (sub : ∀ p ∈ L9, p ∈ news) (hl : os.length < 1000) (h0 : 0 ≤ i) (h1 : i < 1000)
  (hd : dp + 2 < recursionLimit) (hu : un + 200 < cLine)
  (ret : ∀ (v : Value) (h' : Heap) (tk' : Nat), DatIn L9 v (encI ((os.getD i.toNat none).map Prod.snd)) → Fr h₀ L h' m → News h₀ L h' news → Q v { s with heap := h', toks := tk' }) :
  wpAny (model PySem.Challenge.pw_ok0042_02 w) (ktrTop dp un gd cn cs L a ccd cl outer) (call (.ref 76) [.ref x, .int i tk]) Q E s := by
  show Keep PySem.Challenge.rw_ok0042_02 Mine.hd.heap_39 (wpAny _ _ _ _ _ _)
  k_fill
  unfold Keep
  refine wpAny_call ?_
  k_dflt cell_enter
  w_strict k_steps
  rename DatIn _ _ (enc _) => hD
  generalize os.getD i.toNat none = o at *
  rcases datIn_enc hD with ⟨rfl, rfl⟩ | ⟨a9, b9, t9, u9, ad, n9, rfl, rfl, hm⟩
  · w_strict k_steps
    exact ret _ _ _ DatIn.none (by k_asm) (by k_asm)
  · have hm9 := sub _ hm
    w_strict k_steps
    exact ret _ _ _ (DatIn.int _ _) (by k_asm) (by k_asm)

/-- where a place goes behind a replacement: a beginning, an end -/
def mvF (st oe ne a : Int) : Int := if a > st then (if a ≥ oe then a + ne - oe else st) else a
def mvL (st oe ne b : Int) : Int := if b ≥ oe then b + ne - oe else if b > st then st else b
def mv (st oe ne : Int) (q : Int × Int) : Int × Int := (mvF st oe ne q.1, mvL st oe ne q.2)

theorem moved_ok {w : World} {p : Program} {loose : List Str} {mean : ExcName → Option Value} {mg mb : Str → Option Value} {dp un : Nat} {gd : Option (List Code)} {cn : Str} {cs : Scope} {a : Addr} {ccd : Value} {cl : List (Str × Addr)} {outer : List Env} {A₀ : Around} {base h₀ : Heap} {L : Addr} {m : Str → Option Value} {s : Shared} {Q E : Value → Shared → Prop} {news : List (Addr × Obj)} {ad : Addr} {x y st oe ne : Int} {t u tk tk2 tk3 : Tok} {n : Nat}
  (B : Below A₀ base outer h₀) (F : Fr h₀ L s.heap m) (X : (Mine.hd.heap_39 w.params).In h₀) (N : News h₀ L s.heap news) (T : Top p loose mean mg mb h₀) (hk : cs.kind = .function) (hm : (ad, tupO x y t u n) ∈ news)
  (hd : dp + 1 < recursionLimit) (hu : un + 100 < cLine)
  (ret : ∀ (D : Addr) (t' u' : Tok) (h' : Heap) (tk' : Nat), (∀ q ∈ news, q.1 < D) → Fr h₀ L h' m → News h₀ L h' ((D, tupO (mvF st oe ne x) (mvL st oe ne y) t' u' 0) :: news) → Q (.ref D) { s with heap := h', toks := tk' }) :
  wpAny (model PySem.Challenge.pw_ok0042_02 w) (ktrTop dp un gd cn cs L a ccd cl outer) (call (.ref 114) [.ref ad, .int st tk, .int oe tk2, .int ne tk3]) Q E s := by
  show Keep PySem.Challenge.rw_ok0042_02 Mine.hd.heap_39 (wpAny _ _ _ _ _ _)
  k_fill
  unfold Keep
  refine wpAny_call ?_
  k_dflt cell_enter
  w_strict k_steps
  all_goals
    have fin : ∀ (D : Addr) (X Y : Int) (t' u' : Tok) (h' : Heap) (tk' : Nat), News h₀ L h' ((D, { cls := .type "tuple", data := .seq #[.int X t', .int Y u'] }) :: news) → Fr h₀ L h' m → (∀ q ∈ news, q.1 < D) → X = mvF st oe ne x → Y = mvL st oe ne y → Q (.ref D) { s with heap := h', toks := tk' } :=
      fun D X Y t' u' h' tk' N9 F9 l9 eX eY => by subst eX; subst eY; exact ret D t' u' h' tk' l9 F9 N9
    exact fin _ _ _ _ _ _ _ (by k_asm) (by k_asm) (by k_asm) (by unfold mvF; (repeat' split) <;> omega) (by unfold mvL; (repeat' split) <;> omega)

end
theorem kwaai : True := by
  k_with_none
  k_with "ta" => (try dsimp only)
  k_with "tb" => (try k_sweep)
  k_with "tc" => (try k_fold)
  k_with "w0" => (have hcL9 := cLine_is; (try simp only [units_in1, units_deeper, Around.mark_units, units_caller]); (try dsimp only [ktrTop]); omega)
  k_with "w1" => (k_here; (with_reducible show wpAny _ _ (call (Value.ref 114) _) _ _ _); k_dflt (refine' moved_ok ?k1_267c ?k2_267c ?k3_267c ?k4_267c ?k5_267c ?kK_267c ?hm_267c ?hd_267c ?hu_267c ?_; (case k1_267c => k_asm); (case k2_267c => k_asm); (case k3_267c => k_asm); (case k4_267c => k_asm); (case k5_267c => k_asm); (case kK_267c => first | exact rfl | assumption); (case hm_267c => k_mem); (case hd_267c => ktr_room); (case hu_267c => ke_room)))
  k_with "w2" => (refine' code_defC ?k1_73de ?k2_73de ?k3_73de ?k4_73de ?k5_73de ?kA_73de ?kF_73de ?kK_73de ?k6_73de ?k7_73de ?k8_73de ?k9_73de ?kB_73de ?kD_73de ?_ ?c2_73de ?c3_73de ?c4_73de; (case kA_73de => exact rfl); (case kF_73de => exact rfl); (case kK_73de => assumption); (case k1_73de => k_asm); (case k2_73de => k_asm); (case k3_73de => k_asm); (case k4_73de => k_asm); (case k5_73de => k_asm); (case k6_73de => k_is); (case k7_73de => k_is); (case k8_73de => ktr_room); (case k9_73de => exact BindsTo.of_eq rfl); (case kB_73de => exact rfl); (case kD_73de => decide +kernel); (case c2_73de => exact rfl); (case c3_73de => exact rfl); (case c4_73de => exact rfl); k_whole)
  k_with "w3" => (k_here; (with_reducible show wpAny _ _ (subscriptTail _ (PySem.Expr.Slice _ _ none _) (Value.ref _) (Value.ref _)) _ _ _); k_dflt (refine' slice_to ?F_7f9f ?N_7f9f ?l_7f9f ?p_7f9f ?q_7f9f ?e_7f9f ?z_7f9f ?_ ?s_7f9f ?t_7f9f; (case F_7f9f => k_asm); (case N_7f9f => k_asm); (case l_7f9f => k_mem); (case p_7f9f => kmk_part); (case q_7f9f => kmk_part); (case e_7f9f => first | exact pick_upto (by omega) | exact pick_from (by omega) | exact pick_part (by omega) (by omega) | exact pick_less (by omega)); (case s_7f9f => with_unfolding_all rfl); (case t_7f9f => kmk_pure); (case z_7f9f => omega)))
  k_with "w4" => (k_here; (with_reducible show wpAny _ _ (call (Value.type _) [Value.ref _]) _ _ _); k_dflt (first | (refine' copyL ?F_06eb ?N_06eb ?m_06eb ?z_06eb ?_; (case F_06eb => k_asm); (case N_06eb => k_asm); (case m_06eb => k_mem); (case z_06eb => omega)) | (refine' copyT ?F_06eb ?N_06eb ?m_06eb ?_; (case F_06eb => k_asm); (case N_06eb => k_asm); (case m_06eb => k_mem))))
  k_with "w5" => (k_here; (with_reducible show wpAny _ _ (binaryOp _ (Value.ref _) (Value.ref _)) _ _ _); k_dflt (refine' addL ?F_f34b ?N_f34b ?a_f34b ?b_f34b ?z_f34b ?_; (case F_f34b => k_asm); (case N_f34b => k_asm); (case a_f34b => k_mem); (case b_f34b => k_mem); (case z_f34b => first | omega | (simp only [List.length_cons, List.length_nil]; omega))))
  k_with "w6" => (refine' code_def ?k1_91da ?k2_91da ?k3_91da ?k4_91da ?k5_91da ?kA_91da ?kF_91da ?kK_91da ?k6_91da ?k7_91da ?k8_91da ?k9_91da ?kB_91da ?_ ?c2_91da ?c3_91da ?c4_91da ?c5_91da; (case kA_91da => exact rfl); (case kF_91da => exact rfl); (case kK_91da => first | exact rfl | assumption); (case k1_91da => k_asm); (case k2_91da => k_asm); (case k3_91da => k_asm); (case k4_91da => k_asm); (case k5_91da => k_asm); (case k6_91da => k_is); (case k7_91da => k_is); (case k8_91da => ktr_room); (case k9_91da => exact BindsTo.of_eq rfl); (case c5_91da => decide); (case kB_91da => exact locs rfl); (case c2_91da => exact rfl); (case c3_91da => exact rfl); (case c4_91da => exact rfl); k_whole)
  k_with "w7" => (refine' code_defC ?k1_e452 ?k2_e452 ?k3_e452 ?k4_e452 ?k5_e452 ?kA_e452 ?kF_e452 ?kK_e452 ?k6_e452 ?k7_e452 ?k8_e452 ?k9_e452 ?kB_e452 ?kD_e452 ?_ ?c2_e452 ?c3_e452 ?c4_e452; (case kA_e452 => exact rfl); (case kF_e452 => exact rfl); (case kK_e452 => first | exact rfl | assumption); (case k1_e452 => k_asm); (case k2_e452 => k_asm); (case k3_e452 => k_asm); (case k4_e452 => k_asm); (case k5_e452 => k_asm); (case k6_e452 => k_is); (case k7_e452 => k_is); (case k8_e452 => ktr_room); (case k9_e452 => exact BindsTo.of_eq rfl); (case kB_e452 => exact rfl); (case kD_e452 => decide +kernel); (case c2_e452 => exact rfl); (case c3_e452 => exact rfl); (case c4_e452 => exact rfl); k_whole)
  k_with "w8" => (refine neN ?_; (try dsimp only); first | with_reducible assumption | (with_reducible refine Ne.symm ?_; with_reducible assumption) | (with_reducible refine Nat.ne_of_lt ?_; with_reducible assumption) | (with_reducible refine Nat.ne_of_gt ?_; with_reducible assumption))
  k_with "w9" => first | with_reducible assumption | exact in_of_fr (by with_reducible assumption) (by with_reducible assumption)
  k_with "w10" => (k_here; (with_reducible show wpAny _ _ (call (Value.ref 121) _) _ _ _); k_dflt (refine' draw2_use ?k1_44b5 ?k2_44b5 ?k3_44b5 ?k4_44b5 ?k5_44b5 ?kK_44b5 ?U_44b5 ?hl0_44b5 ?hne_44b5 ?hi_44b5 ?hl_44b5 ?hc0_44b5 ?hc1_44b5 ?hm_44b5 ?hm2_44b5 ?hd_44b5 ?hu_44b5 ?_; (case k1_44b5 => k_asm); (case k2_44b5 => k_asm); (case k3_44b5 => k_asm); (case k4_44b5 => k_asm); (case k5_44b5 => k_asm); (case kK_44b5 => first | exact rfl | assumption); (case U_44b5 => (intro _; k_upd)); (case hl0_44b5 => k_mem); (case hne_44b5 => k_ne); (case hi_44b5 => with_reducible assumption); (case hl_44b5 => assumption); (case hc0_44b5 => omega); (case hc1_44b5 => omega); (case hm_44b5 => omega); (case hm2_44b5 => omega); (case hd_44b5 => ktr_room); (case hu_44b5 => ke_room)))
  k_with "w11" => (k_here; (with_reducible show wpAny _ _ (call (Value.ref 100) _) _ _ _); k_dflt (refine' mrepl_use ?k1_f4fd ?k2_f4fd ?k3_f4fd ?k4_f4fd ?k5_f4fd ?kK_f4fd ?hx_f4fd ?hsp_f4fd ?D_f4fd ?sub_f4fd ?TL_f4fd ?hl_f4fd ?U_f4fd ?hd_f4fd ?hu_f4fd ?_; (case k1_f4fd => k_asm); (case k2_f4fd => k_asm); (case k3_f4fd => k_asm); (case k4_f4fd => k_asm); (case k5_f4fd => k_asm); (case kK_f4fd => first | exact rfl | assumption); (case hx_f4fd => k_mem); (case U_f4fd => (intro _; k_upd)); (case hsp_f4fd => k_mem); (case D_f4fd => with_reducible assumption); (case sub_f4fd => kqd_sub); (case TL_f4fd => with_reducible assumption); (case hl_f4fd => omega); (case hd_f4fd => ktr_room); (case hu_f4fd => ke_room)))
  k_with "w12" => (k_here; (with_reducible show wpAny _ _ (call (Value.ref 83) _) _ _ _); k_dflt (refine' mlist_ok ?k1_04f8 ?k2_04f8 ?k3_04f8 ?k4_04f8 ?k5_04f8 ?kK_04f8 ?hx_04f8 ?hdx_04f8 ?hsp_04f8 ?D_04f8 ?sub_04f8 ?hl_04f8 ?hd_04f8 ?hu_04f8 ?_; (case k1_04f8 => k_asm); (case k2_04f8 => k_asm); (case k3_04f8 => k_asm); (case k4_04f8 => k_asm); (case k5_04f8 => k_asm); (case kK_04f8 => first | exact rfl | assumption); (case hx_04f8 => k_mem); (case hdx_04f8 => k_mem); (case hsp_04f8 => k_mem); (case D_04f8 => with_reducible assumption); (case sub_04f8 => kqd_sub); (case hl_04f8 => omega); (case hd_04f8 => ktr_room); (case hu_04f8 => ke_room)))
  k_with "w13" => (k_here; (with_reducible show wpAny _ _ (call (Value.ref 90) _) _ _ _); k_dflt (refine' mrest_use ?k1_b474 ?k2_b474 ?k3_b474 ?k4_b474 ?k5_b474 ?kK_b474 ?hx_b474 ?hpl_b474 ?D_b474 ?hl_b474 ?U_b474 ?hd_b474 ?hu_b474 ?_; (case k1_b474 => k_asm); (case k2_b474 => k_asm); (case k3_b474 => k_asm); (case k4_b474 => k_asm); (case k5_b474 => k_asm); (case kK_b474 => first | exact rfl | assumption); (case hx_b474 => k_mem); (case U_b474 => (intro _; k_upd)); (case hpl_b474 => k_mem); (case D_b474 => first | with_reducible assumption | exact (by with_reducible assumption : ∀ t : Tok, DatAll [] (_ ++ [Value.int 1 t]) _) _); (case hl_b474 => omega); (case hd_b474 => ktr_room); (case hu_b474 => ke_room)))
  k_with "w14" => (k_here; (with_reducible show wpAny _ _ (call (Value.ref 95) _) _ _ _); k_dflt (refine' mtran_use ?k1_20f7 ?k2_20f7 ?k3_20f7 ?k4_20f7 ?k5_20f7 ?kK_20f7 ?hx_20f7 ?hsp_20f7 ?D_20f7 ?sub_20f7 ?TL_20f7 ?hl_20f7 ?U_20f7 ?hd_20f7 ?hu_20f7 ?_; (case k1_20f7 => k_asm); (case k2_20f7 => k_asm); (case k3_20f7 => k_asm); (case k4_20f7 => k_asm); (case k5_20f7 => k_asm); (case kK_20f7 => first | exact rfl | assumption); (case hx_20f7 => k_mem); (case U_20f7 => (intro _; k_upd)); (case hsp_20f7 => k_mem); (case D_20f7 => with_reducible assumption); (case sub_20f7 => kqd_sub); (case TL_20f7 => with_reducible assumption); (case hl_20f7 => omega); (case hd_20f7 => ktr_room); (case hu_20f7 => ke_room)))
  k_with "w15" => (k_here; (with_reducible show wpAny _ _ (call (Value.ref 140) _) _ _ _); k_dflt (refine' llisted_ok ?k1_aa7c ?k2_aa7c ?k3_aa7c ?k4_aa7c ?k5_aa7c ?kK_aa7c ?hsp_aa7c ?D_aa7c ?sub_aa7c ?hl_aa7c ?hd_aa7c ?hu_aa7c ?_; (case k1_aa7c => k_asm); (case k2_aa7c => k_asm); (case k3_aa7c => k_asm); (case k4_aa7c => k_asm); (case k5_aa7c => k_asm); (case kK_aa7c => first | exact rfl | assumption); (case hsp_aa7c => k_mem); (case D_aa7c => with_reducible assumption); (case sub_aa7c => kqd_sub); (case hl_aa7c => omega); (case hd_aa7c => ktr_room); (case hu_aa7c => ke_room)))
  k_with "w16" => (k_here; (with_reducible show wpAny _ _ (binaryOp _ (Value.ref _) (Value.ref _)) _ _ _); k_dflt (refine' addL ?F_261b ?N_261b ?a_261b ?b_261b ?z_261b ?_; (case F_261b => k_asm); (case N_261b => k_asm); (case a_261b => k_mem); (case b_261b => k_mem); (case z_261b => first | omega | (simp only [List.length_cons, List.length_nil, List.length_replicate]; omega))))
  k_with "w17" => (k_here; (with_reducible show wpAny _ _ (binaryOp Operator.Mult (Value.ref _) (Value.int _ _)) _ _ _); k_dflt (refine' mul2 ?F_452d ?N_452d ?l_452d ?e_452d ?z_452d ?_; (case F_452d => k_asm); (case N_452d => k_asm); (case l_452d => k_mem); (case e_452d => omega); (case z_452d => omega)))
  k_with "WPost" => (dsimp only [WPost])
  k_with "call builtin:len" => (k_here; (with_reducible show wpAny _ _ (call (Value.builtin "len") [Value.ref _]) _ _ _); k_dflt (refine' kd_len ?k1_eae0 ?k2_eae0 ?k3_eae0 ?k4_eae0 ?_; (case k1_eae0 => k_asm); (case k2_eae0 => k_mem); (case k3_eae0 => with_reducible assumption); (case k4_eae0 => omega); k_whole))
  k_with "subscriptTail" => (k_here; (with_reducible show wpAny _ _ (subscriptTail _ _ (Value.ref _) (Value.int _ _)) _ _ _); k_dflt (refine' item_dat ?k1_b351 ?k2_b351 ?k3_b351 ?k4_b351 ?k5_b351 ?k6_b351 ?_ ?k7_b351; (case k1_b351 => k_asm); (case k2_b351 => k_mem); (case k3_b351 => with_reducible assumption); (case k4_b351 => omega); (case k5_b351 => omega); (case k6_b351 => omega); (case k7_b351 => with_unfolding_all rfl); k_whole); intro _ _)
  trivial
local macro_rules | `(tactic| walk_at "call ref") => mw "w1" "D' t' u' h' tk' l1 F' N'" "dabc"
section

section
variable {prog : Program} {w : World} {A : Around} {h₀ : Heap} {L : Addr} {m : Str → Option Value} {env : Env}
theorem compEnd_mono {s₁ : Shared} {I C D : Addr} {oI oC oD : Obj} {S : List (Addr × Obj) → Prop} {r r' : Value → List (Addr × Obj) → Prop} (hr : ∀ y nw, r y nw → r' y nw) {y : Value} {s₂ : Shared}
    (h : LCg.CompEnd h₀ L m s₁ I oI C oC D oD S r y s₂) : LCg.CompEnd h₀ L m s₁ I oI C oC D oD S r' y s₂ := by
  obtain ⟨h', tk, nw, a, b, c, d, e, f⟩ := h
  exact ⟨h', tk, nw, a, b, c, d, e, hr _ _ f⟩
/-- a comprehension's turns by an invariant of the number, the items made and the ledger -/
theorem rest_ind {elt : PySem.Expr} {x : Str} {scope : Scope} {cl : List (Str × Addr)} {s : Shared} {S : List (Addr × Obj) → Prop} {P : Nat → Value → Prop} {Fin : List Value → List (Addr × Obj) → Prop} {n : Nat} {news : List (Addr × Obj)}
    (J : Nat → List Value → List (Addr × Obj) → Prop) (h0 : J 0 [] news)
    (turn : ∀ i ys nw, i < n → J i ys nw → ∀ v I oI C oC D m₂ h tk (E' : Value → Shared → Prop), P i v → LCg.NsObj oC m₂ → m₂ x = some v → Fr h₀ L h m → News h₀ L h ((I, oI) :: (C, oC) :: (D, LCg.lst ys) :: nw) → LCg.Off3 I C D nw → ((@Ne Nat I C) ∧ (@Ne Nat I D) ∧ (@Ne Nat C D)) →
      wpAny (model prog w) A (eval elt (compEnvC scope cl C env)) (LCg.CompEnd h₀ L m { s with heap := h, toks := tk } I oI C oC D (LCg.lst ys) S (fun y nw' => J (i + 1) (ys ++ [y]) nw')) E' { s with heap := h, toks := tk })
    (fin : ∀ ys nw, J n ys nw → Fin ys nw) : LCg.CompRest prog w A h₀ L m env elt x scope cl s S P Fin n 0 [] news := by
  have all : ∀ k i ys nw, i + k = n → J i ys nw → LCg.CompRest prog w A h₀ L m env elt x scope cl s S P Fin k i ys nw := by
    intro k
    induction k with
    | zero => intro i ys nw e hj; exact LCg.CompRest.zero (fin _ _ (by rw [← e]; exact hj))
    | succ k ih =>
      intro i ys nw e hj
      refine LCg.CompRest.succ fun v I oI C oC D m₂ h tk E' hP hC hx F N off ne => ?_
      exact wpAny_mono (turn i ys nw (by omega) hj v I oI C oC D m₂ h tk E' hP hC hx F N off ne) (fun y s₂ q => compEnd_mono (fun y nw' q => ih (i + 1) _ _ (by omega) q) q) fun _ _ x => x
  exact all n 0 [] news (by omega) h0
theorem off3_app {I C D : Addr} : ∀ {l r : List (Addr × Obj)}, LCg.Off3 I C D (l ++ r) ↔ LCg.Off3 I C D l ∧ LCg.Off3 I C D r
  | [], _ => ⟨fun h => ⟨trivial, h⟩, fun h => h.2⟩
  | _ :: _, _ => ⟨fun h => ⟨⟨h.1, (off3_app.mp h.2).1⟩, (off3_app.mp h.2).2⟩, fun h => ⟨h.1.1, off3_app.mpr ⟨h.1.2, h.2⟩⟩⟩
theorem off3_cons {I C D b : Addr} {o : Obj} {l r : List (Addr × Obj)} (h : LCg.Off3 I C D (l ++ r)) (h1 : b ≠ I) (h2 : b ≠ C) (h3 : b ≠ D) : LCg.Off3 I C D (l ++ (b, o) :: r) :=
  off3_app.mpr ⟨(off3_app.mp h).1, ⟨h1, h2, h3⟩, (off3_app.mp h).2⟩
theorem off1_mem {D : Addr} : ∀ {l : List (Addr × Obj)}, LCg.Off1 D l → ∀ p ∈ l, p.1 ≠ D
  | [], _, _, h => nomatch h
  | _ :: _, x, p, h => by
    rcases List.mem_cons.mp h with rfl | h
    · exact x.1
    · exact off1_mem x.2 p h
/-- the same, what is made standing behind the ledger -/
theorem rest_tl {elt : PySem.Expr} {x : Str} {scope : Scope} {cl : List (Str × Addr)} {s : Shared} {S : List (Addr × Obj) → Prop} {P : Nat → Value → Prop} {Fin : List Value → List (Addr × Obj) → Prop} {n : Nat} {news : List (Addr × Obj)}
    (J : Nat → List Value → List (Addr × Obj) → Prop) (h0 : J 0 [] [])
    (turn : ∀ i ys tl, i < n → J i ys tl → ∀ v I oI C oC D m₂ h tk (E' : Value → Shared → Prop), P i v → LCg.NsObj oC m₂ → m₂ x = some v → Fr h₀ L h m → News h₀ L h ((I, oI) :: (C, oC) :: (D, LCg.lst ys) :: (news ++ tl)) → LCg.Off3 I C D (news ++ tl) → ((@Ne Nat I C) ∧ (@Ne Nat I D) ∧ (@Ne Nat C D)) →
      wpAny (model prog w) A (eval elt (compEnvC scope cl C env)) (LCg.CompEnd h₀ L m { s with heap := h, toks := tk } I oI C oC D (LCg.lst ys) S (fun y nw' => ∃ tl', nw' = news ++ tl' ∧ J (i + 1) (ys ++ [y]) tl')) E' { s with heap := h, toks := tk })
    (fin : ∀ ys tl, J n ys tl → Fin ys (news ++ tl)) : LCg.CompRest prog w A h₀ L m env elt x scope cl s S P Fin n 0 [] news :=
  rest_ind (fun i ys nw => ∃ tl, nw = news ++ tl ∧ J i ys tl) ⟨[], (List.append_nil _).symm, h0⟩
    (fun i ys nw hi hj v I oI C oC D m₂ h tk E' hP hC hx F N off ne => by obtain ⟨tl, rfl, hj⟩ := hj; exact turn i ys tl hi hj v I oI C oC D m₂ h tk E' hP hC hx F N off ne)
    (fun ys nw hj => by obtain ⟨tl, rfl, hj⟩ := hj; exact fin ys tl hj)
theorem end_tl {s₁ : Shared} {I C D : Addr} {oI oC oD : Obj} {S : List (Addr × Obj) → Prop} {J : Value → List (Addr × Obj) → Prop} {y : Value} {h' : Heap} {tk : Nat} {all news : List (Addr × Obj)} (tl' : List (Addr × Obj))
    (F : Fr h₀ L h' m) (N : News h₀ L h' all) (sub : ∀ p ∈ (I, oI) :: (C, oC) :: (D, oD) :: (news ++ tl'), p ∈ all) (off : LCg.Off3 I C D (news ++ tl')) (hS : S (news ++ tl')) (r : J y tl') :
    LCg.CompEnd h₀ L m s₁ I oI C oC D oD S (fun y nw' => ∃ tl', nw' = news ++ tl' ∧ J y tl') y { s₁ with heap := h', toks := tk } := LCg.CompEnd.intro F N (news ++ tl') sub off hS ⟨tl', rfl, r⟩
theorem dat_at {L9 : List (Addr × Obj)} {vs : List Value} {ds : List Dat} (D : DatAll L9 vs ds) {i : Nat} {v : Value} (h : vs.toArray[i]? = some v) : ∃ d, ds[i]? = some d ∧ DatIn L9 v d := by
  have h' : vs[i]? = some v := by simpa using h
  have hi : i < ds.length := by rw [← D.length]; exact (List.getElem?_eq_some_iff.mp h').1
  obtain ⟨v', e, q⟩ := D.get hi
  rw [h'] at e
  cases e
  exact ⟨_, List.getElem?_eq_getElem hi, q⟩
theorem dat_at_enc {L9 : List (Addr × Obj)} {vs : List Value} {os : List (Option (Int × Int))} (D : DatAll L9 vs (os.map enc)) {i : Nat} {v : Value} (h : vs.toArray[i]? = some v) : ∃ o, os[i]? = some o ∧ DatIn L9 v (enc o) := by
  obtain ⟨d, e, q⟩ := dat_at D h
  rw [List.getElem?_map] at e
  cases ho : os[i]? with
  | none => rw [ho] at e; cases e
  | some o => rw [ho] at e; cases e; exact ⟨o, rfl, q⟩
theorem take_more {α : Type} {os : List α} {i : Nat} {o : α} (h : os[i]? = some o) : os.take (i + 1) = os.take i ++ [o] := by
  rw [List.take_add_one, h]; rfl
end
local macro_rules | `(tactic| cell_enter) => mw "w2" "g' L' h' tk' cells' FG' F' N' Y' B' X' T' l1" "defagc"

theorem kwaaj : True := by
  k_with "eval ListComp" => (k_here; k_dflt (refine LCg.ListComp_U (F₀ := by k_asm) (by with_unfolding_all rfl) (by decide) (by rfl) (by decide) (by rfl) ?_))
  k_with "exec Assign cons ListComp" => (k_here; k_dflt (refine LCg.Assign_ListComp_U (F₀ := by k_asm) (by rfl) (by with_unfolding_all rfl) (by with_unfolding_all rfl) (by decide) (by rfl) (by decide) (by rfl) (by rfl) (by rfl) ?_))
  k_with "CompSrc" => (k_here; k_dflt (refine' LCg.CompSrc.ledger ?hh_afc6 ?F_afc6 ?N_afc6 ?m_afc6 ?z_afc6 ?_; (case hh_afc6 => rfl); (case F_afc6 => k_asm); (case N_afc6 => k_asm); (case m_afc6 => k_mem); (case z_afc6 => (simp only [List.size_toArray, sizeLine]; omega))); intro _)
  trivial
theorem tups_off {h₀ h : Heap} {L d : Addr} {news tl : List (Addr × Obj)} {o : Obj} (N : News h₀ L h news) (ht : ∀ p ∈ tl, p ∈ news) (T : Tups tl) (hm : (d, o) ∈ news) (hc : o.cls ≠ .type "tuple") : ∀ q ∈ tl, q.1 ≠ d := fun q hq e => by
  have h1 := (N _ (ht q hq)).1
  have h2 := (N _ hm).1
  rw [e, h2] at h1
  exact hc ((congrArg Obj.cls (Option.some.inj h1)).trans (T q hq).1)

theorem tups_offC {h₀ h : Heap} {L d : Addr} {news tl : List (Addr × Obj)} {o : Obj} {v : Option Value} (N : News h₀ L h news) (ht : ∀ p ∈ tl, p ∈ news) (T : Tups tl) (hm : (d, o) ∈ news) (hc : o.data = Data.cell v) : ∀ q ∈ tl, q.1 ≠ d := fun q hq e => by
  have h1 := (N _ (ht q hq)).1
  have h2 := (N _ hm).1
  rw [e, h2] at h1
  exact (T q hq).2 v ((congrArg Obj.data (Option.some.inj h1)).symm.trans hc)
theorem off1_of {D : Addr} : ∀ {l : List (Addr × Obj)}, (∀ p ∈ l, p.1 ≠ D) → LCg.Off1 D l
  | [], _ => trivial
  | _ :: _, h => ⟨h _ (.head _), off1_of fun p hp => h p (.tail _ hp)⟩
theorem in_rest {h₀ h : Heap} {L d : Addr} {news : List (Addr × Obj)} {o : Obj} {q : Addr × Obj} (N : News h₀ L h news) (hq : q ∈ news) (hm : (d, o) ∈ news) (hc : q.2.cls ≠ o.cls) : q ∈ news.filter fun q => decide (q.1 ≠ d) :=
  List.mem_filter.mpr ⟨hq, by
    have h1 := (N _ hq).1
    have h2 := (N _ hm).1
    simp only [decide_eq_true_eq]
    intro e
    rw [e, h2] at h1
    exact hc (congrArg Obj.cls (Option.some.inj h1)).symm⟩
theorem upd_back {h₀ h : Heap} {L d : Addr} {news G tl : List (Addr × Obj)} {o o' : Obj} (A : List (Addr × Obj)) (U : Upd d o o' news G) (N : News h₀ L h (A ++ (d, o') :: (tl ++ news.filter fun q => decide (q.1 ≠ d)))) : News h₀ L h (A ++ (G ++ tl)) := fun q hq => by
  rcases List.mem_append.mp hq with hq | hq
  · exact N q (List.mem_append_left _ hq)
  · rcases List.mem_append.mp hq with hq | hq
    · rcases (upd_mem U).2 q hq with rfl | ⟨h5, h6⟩
      · exact N _ (List.mem_append_right _ (.head _))
      · exact N q (List.mem_append_right _ (.tail _ (List.mem_append_right _ (List.mem_filter.mpr ⟨h5, by simpa using h6⟩))))
    · exact N q (List.mem_append_right _ (.tail _ (List.mem_append_left _ hq)))

theorem mrepl_ok {w : World} {p : Program} {loose : List Str} {mean : ExcName → Option Value} {mg mb : Str → Option Value} {dp un : Nat} {gd : Option (List Code)} {cn : Str} {cs : Scope} {a : Addr} {ccd : Value} {cl : List (Str × Addr)} {outer : List Env} {A₀ : Around} {base h₀ : Heap} {L : Addr} {m : Str → Option Value} {s : Shared} {Q E : Value → Shared → Prop} {news : List (Addr × Obj)} {x dx sp : Addr} {t0 : Tok} {vs : List Value} {k : Nat} {os : List (Option (Int × Int))} {st oe ne : Int} {tk tk2 tk3 : Tok} {L9 rest : List (Addr × Obj)}
  (B : Below A₀ base outer h₀) (F : Fr h₀ L s.heap m) (X : (Mine.hd.heap_39 w.params).In h₀) (N : News h₀ L s.heap news) (T : Top p loose mean mg mb h₀) (hk : cs.kind = .function) (hnews : news = (dx, spansDict w.params t0 sp) :: rest) (hoff : ∀ q ∈ rest, q.1 ≠ dx)
  (hx : (x, instObj 103 dx) ∈ rest) (hsp : (sp, listOf vs.toArray k) ∈ rest) (D : DatAll L9 vs (os.map enc)) (sub : ∀ p ∈ L9, p ∈ rest) (hl : os.length < 1000)
  (hd : dp + 3 < recursionLimit) (hu : un + 300 < cLine)
  (ret : ∀ (D : Addr) (vs' : List Value) (tl : List (Addr × Obj)) (h' : Heap) (tk' : Nat), Tups tl → DatAll tl vs' ((os.map (Option.map (mv st oe ne))).map enc) → LCg.Off1 D ((dx, spansDict w.params t0 D) :: rest) → (∀ q ∈ tl, ∀ p ∈ rest, q.1 ≠ p.1) → Fr h₀ L h' m →
    News h₀ L h' ((D, listOf vs'.toArray vs'.length) :: (dx, spansDict w.params t0 D) :: (tl ++ rest)) → Q .none { s with heap := h', toks := tk' }) :
  wpAny (model PySem.Challenge.pw_ok0042_02 w) (ktrTop dp un gd cn cs L a ccd cl outer) (call (.ref 100) [.ref x, .int st tk, .int oe tk2, .int ne tk3]) Q E s := by
  subst hnews
  have hvl : vs.length < 1000 := by have := D.length; rw [List.length_map] at this; omega
  have hoff1 : OwnOff rest [dx] := fun q hq b hb => by rw [List.mem_singleton.mp hb]; exact hoff q hq
  show Keep PySem.Challenge.rw_ok0042_02 Mine.hd.heap_39 (wpAny _ _ _ _ _ _)
  k_fill
  unfold Keep
  refine wpAny_call ?_
  k_dflt cell_enter
  w_strict k_steps
  refine rest_tl (fun i ys tl => Tups tl ∧ (∀ q ∈ tl, ∀ p ∈ rest, q.1 ≠ p.1) ∧ DatAll tl ys (((os.take i).map (Option.map (mv st oe ne))).map enc)) ⟨(fun _ h => nomatch h), (fun _ h => nomatch h), .nil⟩ ?_ ?_
  · rintro i ys tl hi ⟨hT, hFr, hY⟩ v I oI C oC DD m₂ h tk E' hP hC hx' F' N' off ⟨ne1, ne2, ne3⟩
    obtain ⟨o, ho, hDo⟩ := dat_at_enc D hP
    simp only [List.cons_append] at N'
    rcases datIn_enc hDo with ⟨rfl, rfl⟩ | ⟨a9, b9, t9, u9, ad, n9, rfl, rfl, hm⟩
    · w_strict k_steps
      refine end_tl tl (by k_asm) (by k_asm) (by kqd_sub) off (Or.inr ⟨_, by k_mem, rfl, _, rfl⟩) ⟨hT, hFr, ?_⟩
      rw [take_more ho, List.map_append, List.map_append]
      exact hY.append (.cons .none .nil)
    · have hm9 := List.mem_append_left tl (sub _ hm)
      w_strict k_steps
      rename ((_ : Nat) < _ ∧ _) => l9
      rename News _ _ _ ((_, tupO (mvF st oe ne a9) (mvL st oe ne b9) _ _ _) :: _) => N9
      refine end_tl ((_, tupO (mvF st oe ne a9) (mvL st oe ne b9) _ _ _) :: tl) (by k_asm) N9 (by kqd_sub) (off3_cons off (by k_ne) (by k_ne) (by k_ne)) (Or.inr ⟨_, by k_mem, rfl, _, rfl⟩) ⟨?_, ?_, ?_⟩
      · intro p hp
        rcases List.mem_cons.mp hp with rfl | hp
        · exact ⟨rfl, fun _ e => nomatch e⟩
        · exact hT p hp
      · intro q hq p hp
        rcases List.mem_cons.mp hq with rfl | hq
        · repeat (replace l9 := And.right l9)
          exact Nat.ne_of_gt (allLt_all l9 p (List.mem_append_left _ hp))
        · exact hFr q hq p hp
      · rw [take_more ho, List.map_append, List.map_append]
        exact (hY.mono fun p hp => List.mem_cons_of_mem _ hp).append (.cons (DatIn.tuple (vs := [_, _]) (.head _) (.cons (.int _ _) (.cons (.int _ _) .nil))) .nil)
  · intro ys tl ⟨hT, hFr, hY⟩
    have hsz : vs.toArray.size = os.length := by have := D.length; simpa using this
    rw [hsz, List.take_length] at hY
    unfold LCg.FinE
    intro D1 h1 tk1 F1 N1 o1
    have o2 := off1_mem o1
    simp only [List.cons_append, LCg.Off1] at N1 o1
    have hoff2 : OwnOff (rest ++ tl) [dx] := fun q hq b hb => by
      rw [List.mem_singleton.mp hb]
      rcases List.mem_append.mp hq with hq | hq
      · exact hoff q hq
      · exact tups_off N1 (by kqd_sub) hT (by k_mem) (show Value.type "dict" ≠ Value.type "tuple" by decide) q hq
    have hx2 := List.mem_append_left tl hx
    dsimp only
    w_strict k_steps
    exact ret D1 ys tl _ _ hT hY (off1_of fun q hq => by
      rcases List.mem_cons.mp hq with rfl | hq
      · exact o1.2.2.2.1
      · exact o2 q (by simp [hq])) hFr (by k_asm) (cb_drop (by assumption) (by kqd_sub))

theorem mrepl_use {w : World} {p : Program} {loose : List Str} {mean : ExcName → Option Value} {mg mb : Str → Option Value} {dp un : Nat} {gd : Option (List Code)} {cn : Str} {cs : Scope} {a : Addr} {ccd : Value} {cl : List (Str × Addr)} {outer : List Env} {A₀ : Around} {base h₀ : Heap} {L : Addr} {m : Str → Option Value} {s : Shared} {Q E : Value → Shared → Prop} {news : List (Addr × Obj)} {x dx sp : Addr} {t0 : Tok} {vs : List Value} {k : Nat} {os : List (Option (Int × Int))} {st oe ne : Int} {tk tk2 tk3 : Tok} {L9 : List (Addr × Obj)} {G : Addr → List (Addr × Obj)}
  (B : Below A₀ base outer h₀) (F : Fr h₀ L s.heap m) (X : (Mine.hd.heap_39 w.params).In h₀) (N : News h₀ L s.heap news) (T : Top p loose mean mg mb h₀) (hk : cs.kind = .function) (hx : (x, instObj 103 dx) ∈ news) (hsp : (sp, listOf vs.toArray k) ∈ news) (D : DatAll L9 vs (os.map enc)) (sub : ∀ p ∈ L9, p ∈ news) (TL : Tups L9) (hl : os.length < 1000)
  (U : ∀ D, Upd dx (spansDict w.params t0 sp) (spansDict w.params t0 D) news (G D))
  (hd : dp + 3 < recursionLimit) (hu : un + 300 < cLine)
  (ret : ∀ (D : Addr) (vs' : List Value) (tl : List (Addr × Obj)) (h' : Heap) (tk' : Nat), Tups tl → DatAll tl vs' ((os.map (Option.map (mv st oe ne))).map enc) → LCg.Off1 D (G D) → (∀ q ∈ tl, ∀ p ∈ news, q.1 ≠ p.1) → Fr h₀ L h' m →
    News h₀ L h' ((D, listOf vs'.toArray vs'.length) :: (G D ++ tl)) → Q .none { s with heap := h', toks := tk' }) :
  wpAny (model PySem.Challenge.pw_ok0042_02 w) (ktrTop dp un gd cn cs L a ccd cl outer) (call (.ref 100) [.ref x, .int st tk, .int oe tk2, .int ne tk3]) Q E s := by
  have hm0 := (upd_mem (U sp)).1
  refine mrepl_ok (rest := news.filter fun q => decide (q.1 ≠ dx)) (news := (dx, spansDict w.params t0 sp) :: news.filter fun q => decide (q.1 ≠ dx)) B F X (upd_news N hm0) T hk rfl (fun q hq => by simpa using (List.mem_filter.mp hq).2) (in_rest N hx hm0 (show Value.ref 103 ≠ Value.type "dict" by decide)) (in_rest N hsp hm0 (show Value.type "list" ≠ Value.type "dict" by decide)) D (fun q hq => in_rest N (sub q hq) hm0 (by rw [(TL q hq).1]; show Value.type "tuple" ≠ Value.type "dict"; decide)) hl hd hu
    (fun D vs' tl h' tk' hT hY o1 hFr F' N' => ret D vs' tl h' tk' hT hY (off1_of fun q hq => ?_) (fun q hq p hp => ?_) F' (upd_back [(D, listOf vs'.toArray vs'.length)] (U D) N'))
  · rcases (upd_mem (U D)).2 q hq with rfl | ⟨h5, h6⟩
    · exact off1_mem o1 _ (.head _)
    · exact off1_mem o1 _ (.tail _ (List.mem_filter.mpr ⟨h5, by simpa using h6⟩))
  · by_cases e : p.1 = dx
    · rw [e]
      exact tups_off N' (by kqd_sub) hT (o := spansDict w.params t0 D) (by k_mem) (show Value.type "dict" ≠ Value.type "tuple" by decide) q hq
    · exact hFr q hq p (List.mem_filter.mpr ⟨hp, by simpa using e⟩)

end
theorem kwaba : True := by
  k_with_none
  k_with "ta" => (try dsimp only)
  k_with "tb" => (try k_sweep)
  k_with "tc" => (try k_fold)
  k_with "w0" => (have hcL9 := cLine_is; (try simp only [units_in1, units_deeper, Around.mark_units, units_caller]); (try dsimp only [ktrTop]); omega)
  k_with "w1" => (k_here; (with_reducible show wpAny _ _ (call (Value.ref 114) _) _ _ _); k_dflt (refine' moved_ok ?k1_267c ?k2_267c ?k3_267c ?k4_267c ?k5_267c ?kK_267c ?hm_267c ?hd_267c ?hu_267c ?_; (case k1_267c => k_asm); (case k2_267c => k_asm); (case k3_267c => k_asm); (case k4_267c => k_asm); (case k5_267c => k_asm); (case kK_267c => first | exact rfl | assumption); (case hm_267c => k_mem); (case hd_267c => ktr_room); (case hu_267c => ke_room)))
  k_with "w2" => (refine' code_defC ?k1_73de ?k2_73de ?k3_73de ?k4_73de ?k5_73de ?kA_73de ?kF_73de ?kK_73de ?k6_73de ?k7_73de ?k8_73de ?k9_73de ?kB_73de ?kD_73de ?_ ?c2_73de ?c3_73de ?c4_73de; (case kA_73de => exact rfl); (case kF_73de => exact rfl); (case kK_73de => assumption); (case k1_73de => k_asm); (case k2_73de => k_asm); (case k3_73de => k_asm); (case k4_73de => k_asm); (case k5_73de => k_asm); (case k6_73de => k_is); (case k7_73de => k_is); (case k8_73de => ktr_room); (case k9_73de => exact BindsTo.of_eq rfl); (case kB_73de => exact rfl); (case kD_73de => decide +kernel); (case c2_73de => exact rfl); (case c3_73de => exact rfl); (case c4_73de => exact rfl); k_whole)
  k_with "w3" => (k_here; (with_reducible show wpAny _ _ (subscriptTail _ (PySem.Expr.Slice _ _ none _) (Value.ref _) (Value.ref _)) _ _ _); k_dflt (refine' slice_to ?F_7f9f ?N_7f9f ?l_7f9f ?p_7f9f ?q_7f9f ?e_7f9f ?z_7f9f ?_ ?s_7f9f ?t_7f9f; (case F_7f9f => k_asm); (case N_7f9f => k_asm); (case l_7f9f => k_mem); (case p_7f9f => kmk_part); (case q_7f9f => kmk_part); (case e_7f9f => first | exact pick_upto (by omega) | exact pick_from (by omega) | exact pick_part (by omega) (by omega) | exact pick_less (by omega)); (case s_7f9f => with_unfolding_all rfl); (case t_7f9f => kmk_pure); (case z_7f9f => omega)))
  k_with "w4" => (k_here; (with_reducible show wpAny _ _ (call (Value.type _) [Value.ref _]) _ _ _); k_dflt (first | (refine' copyL ?F_06eb ?N_06eb ?m_06eb ?z_06eb ?_; (case F_06eb => k_asm); (case N_06eb => k_asm); (case m_06eb => k_mem); (case z_06eb => omega)) | (refine' copyT ?F_06eb ?N_06eb ?m_06eb ?_; (case F_06eb => k_asm); (case N_06eb => k_asm); (case m_06eb => k_mem))))
  k_with "w5" => (k_here; (with_reducible show wpAny _ _ (binaryOp _ (Value.ref _) (Value.ref _)) _ _ _); k_dflt (refine' addL ?F_f34b ?N_f34b ?a_f34b ?b_f34b ?z_f34b ?_; (case F_f34b => k_asm); (case N_f34b => k_asm); (case a_f34b => k_mem); (case b_f34b => k_mem); (case z_f34b => first | omega | (simp only [List.length_cons, List.length_nil]; omega))))
  k_with "w6" => (refine' code_def ?k1_91da ?k2_91da ?k3_91da ?k4_91da ?k5_91da ?kA_91da ?kF_91da ?kK_91da ?k6_91da ?k7_91da ?k8_91da ?k9_91da ?kB_91da ?_ ?c2_91da ?c3_91da ?c4_91da ?c5_91da; (case kA_91da => exact rfl); (case kF_91da => exact rfl); (case kK_91da => first | exact rfl | assumption); (case k1_91da => k_asm); (case k2_91da => k_asm); (case k3_91da => k_asm); (case k4_91da => k_asm); (case k5_91da => k_asm); (case k6_91da => k_is); (case k7_91da => k_is); (case k8_91da => ktr_room); (case k9_91da => exact BindsTo.of_eq rfl); (case c5_91da => decide); (case kB_91da => exact locs rfl); (case c2_91da => exact rfl); (case c3_91da => exact rfl); (case c4_91da => exact rfl); k_whole)
  k_with "w7" => (refine' code_defC ?k1_e452 ?k2_e452 ?k3_e452 ?k4_e452 ?k5_e452 ?kA_e452 ?kF_e452 ?kK_e452 ?k6_e452 ?k7_e452 ?k8_e452 ?k9_e452 ?kB_e452 ?kD_e452 ?_ ?c2_e452 ?c3_e452 ?c4_e452; (case kA_e452 => exact rfl); (case kF_e452 => exact rfl); (case kK_e452 => first | exact rfl | assumption); (case k1_e452 => k_asm); (case k2_e452 => k_asm); (case k3_e452 => k_asm); (case k4_e452 => k_asm); (case k5_e452 => k_asm); (case k6_e452 => k_is); (case k7_e452 => k_is); (case k8_e452 => ktr_room); (case k9_e452 => exact BindsTo.of_eq rfl); (case kB_e452 => exact rfl); (case kD_e452 => decide +kernel); (case c2_e452 => exact rfl); (case c3_e452 => exact rfl); (case c4_e452 => exact rfl); k_whole)
  k_with "w8" => (refine neN ?_; (try dsimp only); first | with_reducible assumption | (with_reducible refine Ne.symm ?_; with_reducible assumption) | (with_reducible refine Nat.ne_of_lt ?_; with_reducible assumption) | (with_reducible refine Nat.ne_of_gt ?_; with_reducible assumption))
  k_with "w9" => first | with_reducible assumption | exact in_of_fr (by with_reducible assumption) (by with_reducible assumption)
  k_with "w10" => (k_here; (with_reducible show wpAny _ _ (call (Value.ref 121) _) _ _ _); k_dflt (refine' draw2_use ?k1_44b5 ?k2_44b5 ?k3_44b5 ?k4_44b5 ?k5_44b5 ?kK_44b5 ?U_44b5 ?hl0_44b5 ?hne_44b5 ?hi_44b5 ?hl_44b5 ?hc0_44b5 ?hc1_44b5 ?hm_44b5 ?hm2_44b5 ?hd_44b5 ?hu_44b5 ?_; (case k1_44b5 => k_asm); (case k2_44b5 => k_asm); (case k3_44b5 => k_asm); (case k4_44b5 => k_asm); (case k5_44b5 => k_asm); (case kK_44b5 => first | exact rfl | assumption); (case U_44b5 => (intro _; k_upd)); (case hl0_44b5 => k_mem); (case hne_44b5 => k_ne); (case hi_44b5 => with_reducible assumption); (case hl_44b5 => assumption); (case hc0_44b5 => omega); (case hc1_44b5 => omega); (case hm_44b5 => omega); (case hm2_44b5 => omega); (case hd_44b5 => ktr_room); (case hu_44b5 => ke_room)))
  k_with "w11" => (k_here; (with_reducible show wpAny _ _ (call (Value.ref 100) _) _ _ _); k_dflt (refine' mrepl_use ?k1_f4fd ?k2_f4fd ?k3_f4fd ?k4_f4fd ?k5_f4fd ?kK_f4fd ?hx_f4fd ?hsp_f4fd ?D_f4fd ?sub_f4fd ?TL_f4fd ?hl_f4fd ?U_f4fd ?hd_f4fd ?hu_f4fd ?_; (case k1_f4fd => k_asm); (case k2_f4fd => k_asm); (case k3_f4fd => k_asm); (case k4_f4fd => k_asm); (case k5_f4fd => k_asm); (case kK_f4fd => first | exact rfl | assumption); (case hx_f4fd => k_mem); (case U_f4fd => (intro _; k_upd)); (case hsp_f4fd => k_mem); (case D_f4fd => with_reducible assumption); (case sub_f4fd => kqd_sub); (case TL_f4fd => with_reducible assumption); (case hl_f4fd => omega); (case hd_f4fd => ktr_room); (case hu_f4fd => ke_room)))
  k_with "w12" => (k_here; (with_reducible show wpAny _ _ (call (Value.ref 83) _) _ _ _); k_dflt (refine' mlist_ok ?k1_04f8 ?k2_04f8 ?k3_04f8 ?k4_04f8 ?k5_04f8 ?kK_04f8 ?hx_04f8 ?hdx_04f8 ?hsp_04f8 ?D_04f8 ?sub_04f8 ?hl_04f8 ?hd_04f8 ?hu_04f8 ?_; (case k1_04f8 => k_asm); (case k2_04f8 => k_asm); (case k3_04f8 => k_asm); (case k4_04f8 => k_asm); (case k5_04f8 => k_asm); (case kK_04f8 => first | exact rfl | assumption); (case hx_04f8 => k_mem); (case hdx_04f8 => k_mem); (case hsp_04f8 => k_mem); (case D_04f8 => with_reducible assumption); (case sub_04f8 => kqd_sub); (case hl_04f8 => omega); (case hd_04f8 => ktr_room); (case hu_04f8 => ke_room)))
  k_with "w13" => (k_here; (with_reducible show wpAny _ _ (call (Value.ref 90) _) _ _ _); k_dflt (refine' mrest_use ?k1_b474 ?k2_b474 ?k3_b474 ?k4_b474 ?k5_b474 ?kK_b474 ?hx_b474 ?hpl_b474 ?D_b474 ?hl_b474 ?U_b474 ?hd_b474 ?hu_b474 ?_; (case k1_b474 => k_asm); (case k2_b474 => k_asm); (case k3_b474 => k_asm); (case k4_b474 => k_asm); (case k5_b474 => k_asm); (case kK_b474 => first | exact rfl | assumption); (case hx_b474 => k_mem); (case U_b474 => (intro _; k_upd)); (case hpl_b474 => k_mem); (case D_b474 => first | with_reducible assumption | exact (by with_reducible assumption : ∀ t : Tok, DatAll [] (_ ++ [Value.int 1 t]) _) _); (case hl_b474 => omega); (case hd_b474 => ktr_room); (case hu_b474 => ke_room)))
  k_with "w14" => (k_here; (with_reducible show wpAny _ _ (call (Value.ref 95) _) _ _ _); k_dflt (refine' mtran_use ?k1_20f7 ?k2_20f7 ?k3_20f7 ?k4_20f7 ?k5_20f7 ?kK_20f7 ?hx_20f7 ?hsp_20f7 ?D_20f7 ?sub_20f7 ?TL_20f7 ?hl_20f7 ?U_20f7 ?hd_20f7 ?hu_20f7 ?_; (case k1_20f7 => k_asm); (case k2_20f7 => k_asm); (case k3_20f7 => k_asm); (case k4_20f7 => k_asm); (case k5_20f7 => k_asm); (case kK_20f7 => first | exact rfl | assumption); (case hx_20f7 => k_mem); (case U_20f7 => (intro _; k_upd)); (case hsp_20f7 => k_mem); (case D_20f7 => with_reducible assumption); (case sub_20f7 => kqd_sub); (case TL_20f7 => with_reducible assumption); (case hl_20f7 => omega); (case hd_20f7 => ktr_room); (case hu_20f7 => ke_room)))
  k_with "w15" => (k_here; (with_reducible show wpAny _ _ (call (Value.ref 140) _) _ _ _); k_dflt (refine' llisted_ok ?k1_aa7c ?k2_aa7c ?k3_aa7c ?k4_aa7c ?k5_aa7c ?kK_aa7c ?hsp_aa7c ?D_aa7c ?sub_aa7c ?hl_aa7c ?hd_aa7c ?hu_aa7c ?_; (case k1_aa7c => k_asm); (case k2_aa7c => k_asm); (case k3_aa7c => k_asm); (case k4_aa7c => k_asm); (case k5_aa7c => k_asm); (case kK_aa7c => first | exact rfl | assumption); (case hsp_aa7c => k_mem); (case D_aa7c => with_reducible assumption); (case sub_aa7c => kqd_sub); (case hl_aa7c => omega); (case hd_aa7c => ktr_room); (case hu_aa7c => ke_room)))
  k_with "w16" => (k_here; (with_reducible show wpAny _ _ (binaryOp _ (Value.ref _) (Value.ref _)) _ _ _); k_dflt (refine' addL ?F_261b ?N_261b ?a_261b ?b_261b ?z_261b ?_; (case F_261b => k_asm); (case N_261b => k_asm); (case a_261b => k_mem); (case b_261b => k_mem); (case z_261b => first | omega | (simp only [List.length_cons, List.length_nil, List.length_replicate]; omega))))
  k_with "w17" => (k_here; (with_reducible show wpAny _ _ (binaryOp Operator.Mult (Value.ref _) (Value.int _ _)) _ _ _); k_dflt (refine' mul2 ?F_452d ?N_452d ?l_452d ?e_452d ?z_452d ?_; (case F_452d => k_asm); (case N_452d => k_asm); (case l_452d => k_mem); (case e_452d => omega); (case z_452d => omega)))
  k_with "WPost" => (dsimp only [WPost])
  k_with "call builtin:len" => (k_here; (with_reducible show wpAny _ _ (call (Value.builtin "len") [Value.ref _]) _ _ _); k_dflt (refine' kd_len ?k1_eae0 ?k2_eae0 ?k3_eae0 ?k4_eae0 ?_; (case k1_eae0 => k_asm); (case k2_eae0 => k_mem); (case k3_eae0 => with_reducible assumption); (case k4_eae0 => omega); k_whole))
  k_with "subscriptTail" => (k_here; (with_reducible show wpAny _ _ (subscriptTail _ _ (Value.ref _) (Value.int _ _)) _ _ _); k_dflt (refine' item_dat ?k1_b351 ?k2_b351 ?k3_b351 ?k4_b351 ?k5_b351 ?k6_b351 ?_ ?k7_b351; (case k1_b351 => k_asm); (case k2_b351 => k_mem); (case k3_b351 => with_reducible assumption); (case k4_b351 => omega); (case k5_b351 => omega); (case k6_b351 => omega); (case k7_b351 => with_unfolding_all rfl); k_whole); intro _ _)
  trivial
section
local macro_rules | `(tactic| cell_enter) => mw "w2" "g' L' h' tk' cells' FG' F' N' Y' B' X' T' l1" "defagc"

theorem kwabb : True := by
  k_with "eval ListComp" => (k_here; k_dflt (refine LCg.ListComp_U (F₀ := by k_asm) (by with_unfolding_all rfl) (by decide) (by rfl) (by decide) (by rfl) ?_))
  k_with "exec Assign cons ListComp" => (k_here; k_dflt (refine LCg.Assign_ListComp_U (F₀ := by k_asm) (by rfl) (by with_unfolding_all rfl) (by with_unfolding_all rfl) (by decide) (by rfl) (by decide) (by rfl) (by rfl) (by rfl) ?_))
  k_with "CompSrc" => (k_here; k_dflt (refine' LCg.CompSrc.ledger ?hh_afc6 ?F_afc6 ?N_afc6 ?m_afc6 ?z_afc6 ?_; (case hh_afc6 => rfl); (case F_afc6 => k_asm); (case N_afc6 => k_asm); (case m_afc6 => k_mem); (case z_afc6 => (simp only [List.size_toArray, sizeLine]; omega))); intro _)
  trivial
/-- a span moved by a number -/
def shift (bb : Int) (q : Int × Int) : Int × Int := (q.1 + bb, q.2 + bb)
theorem mtran_ok {w : World} {p : Program} {loose : List Str} {mean : ExcName → Option Value} {mg mb : Str → Option Value} {dp un : Nat} {gd : Option (List Code)} {cn : Str} {cs : Scope} {a : Addr} {ccd : Value} {cl : List (Str × Addr)} {outer : List Env} {A₀ : Around} {base h₀ : Heap} {L : Addr} {m : Str → Option Value} {s : Shared} {Q E : Value → Shared → Prop} {news : List (Addr × Obj)} {x dx sp : Addr} {t0 : Tok} {vs : List Value} {k : Nat} {os : List (Option (Int × Int))} {bb : Int} {tk : Tok} {L9 rest : List (Addr × Obj)}
  (B : Below A₀ base outer h₀) (F : Fr h₀ L s.heap m) (X : (Mine.hd.heap_39 w.params).In h₀) (N : News h₀ L s.heap news) (T : Top p loose mean mg mb h₀) (hk : cs.kind = .function) (hnews : news = (dx, spansDict w.params t0 sp) :: rest) (hoff : ∀ q ∈ rest, q.1 ≠ dx)
  (hx : (x, instObj 103 dx) ∈ rest) (hsp : (sp, listOf vs.toArray k) ∈ rest) (D : DatAll L9 vs (os.map enc)) (sub : ∀ p ∈ L9, p ∈ rest) (hl : os.length < 1000)
  (hd : dp + 3 < recursionLimit) (hu : un + 300 < cLine)
  (ret : ∀ (D : Addr) (vs' : List Value) (tl : List (Addr × Obj)) (h' : Heap) (tk' : Nat), Tups tl → DatAll tl vs' ((os.map (Option.map (shift bb))).map enc) → LCg.Off1 D ((dx, spansDict w.params t0 D) :: rest) → Fr h₀ L h' m →
    News h₀ L h' ((D, listOf vs'.toArray vs'.length) :: (dx, spansDict w.params t0 D) :: (tl ++ rest)) → Q .none { s with heap := h', toks := tk' }) :
  wpAny (model PySem.Challenge.pw_ok0042_02 w) (ktrTop dp un gd cn cs L a ccd cl outer) (call (.ref 95) [.ref x, .int bb tk]) Q E s := by
  subst hnews
  have hvl : vs.length < 1000 := by have := D.length; rw [List.length_map] at this; omega
  have hoff1 : OwnOff rest [dx] := fun q hq b hb => by rw [List.mem_singleton.mp hb]; exact hoff q hq
  show Keep PySem.Challenge.rw_ok0042_02 Mine.hd.heap_39 (wpAny _ _ _ _ _ _)
  k_fill
  unfold Keep
  refine wpAny_call ?_
  k_dflt cell_enter
  w_strict k_steps
  refine rest_tl (fun i ys tl => Tups tl ∧ DatAll tl ys (((os.take i).map (Option.map (shift bb))).map enc)) ⟨(fun _ h => nomatch h), .nil⟩ ?_ ?_
  · rintro i ys tl hi ⟨hT, hY⟩ v I oI C oC DD m₂ h tk E' hP hC hx' F' N' off ⟨ne1, ne2, ne3⟩
    obtain ⟨o, ho, hDo⟩ := dat_at_enc D hP
    simp only [List.cons_append] at N'
    rcases datIn_enc hDo with ⟨rfl, rfl⟩ | ⟨a9, b9, t9, u9, ad, n9, rfl, rfl, hm⟩
    · w_strict k_steps
      refine end_tl tl (by k_asm) (by k_asm) (by kqd_sub) off (Or.inr ⟨_, by k_mem, rfl, _, rfl⟩) ⟨hT, ?_⟩
      rw [take_more ho, List.map_append, List.map_append]
      exact hY.append (.cons .none .nil)
    · have hm9 := List.mem_append_left tl (sub _ hm)
      w_strict k_steps
      rename ((_ : Nat) < _ ∧ _) => l9
      rename News _ _ _ ((_, { cls := Value.type "tuple", dict := none, data := Data.seq _ _, slots := _ }) :: _) => N9
      refine end_tl ((_, _) :: tl) (by k_asm) N9 (by kqd_sub) (off3_cons off (by k_ne) (by k_ne) (by k_ne)) (Or.inr ⟨_, by k_mem, rfl, _, rfl⟩) ⟨?_, ?_⟩
      · intro p hp
        rcases List.mem_cons.mp hp with rfl | hp
        · exact ⟨rfl, fun _ e => nomatch e⟩
        · exact hT p hp
      · rw [take_more ho, List.map_append, List.map_append]
        exact (hY.mono fun p hp => List.mem_cons_of_mem _ hp).append (.cons (DatIn.tuple (vs := [_, _]) (.head _) (.cons (.int _ _) (.cons (.int _ _) .nil))) .nil)
  · intro ys tl ⟨hT, hY⟩
    have hsz : vs.toArray.size = os.length := by have := D.length; simpa using this
    rw [hsz, List.take_length] at hY
    unfold LCg.FinE
    intro D1 h1 tk1 F1 N1 o1
    have o2 := off1_mem o1
    simp only [List.cons_append, LCg.Off1] at N1 o1
    have hoff2 : OwnOff (rest ++ tl) [dx] := fun q hq b hb => by
      rw [List.mem_singleton.mp hb]
      rcases List.mem_append.mp hq with hq | hq
      · exact hoff q hq
      · exact tups_off N1 (by kqd_sub) hT (by k_mem) (show Value.type "dict" ≠ Value.type "tuple" by decide) q hq
    have hx2 := List.mem_append_left tl hx
    dsimp only
    w_strict k_steps
    exact ret D1 ys tl _ _ hT hY (off1_of fun q hq => by
      rcases List.mem_cons.mp hq with rfl | hq
      · exact o1.2.1
      · exact o2 q (by simp [hq])) (by k_asm) (cb_drop (by assumption) (by kqd_sub))

theorem mtran_use {w : World} {p : Program} {loose : List Str} {mean : ExcName → Option Value} {mg mb : Str → Option Value} {dp un : Nat} {gd : Option (List Code)} {cn : Str} {cs : Scope} {a : Addr} {ccd : Value} {cl : List (Str × Addr)} {outer : List Env} {A₀ : Around} {base h₀ : Heap} {L : Addr} {m : Str → Option Value} {s : Shared} {Q E : Value → Shared → Prop} {news : List (Addr × Obj)} {x dx sp : Addr} {t0 : Tok} {vs : List Value} {k : Nat} {os : List (Option (Int × Int))} {bb : Int} {tk : Tok} {L9 : List (Addr × Obj)} {G : Addr → List (Addr × Obj)}
  (B : Below A₀ base outer h₀) (F : Fr h₀ L s.heap m) (X : (Mine.hd.heap_39 w.params).In h₀) (N : News h₀ L s.heap news) (T : Top p loose mean mg mb h₀) (hk : cs.kind = .function) (hx : (x, instObj 103 dx) ∈ news) (hsp : (sp, listOf vs.toArray k) ∈ news) (D : DatAll L9 vs (os.map enc)) (sub : ∀ p ∈ L9, p ∈ news) (TL : Tups L9) (hl : os.length < 1000)
  (U : ∀ D, Upd dx (spansDict w.params t0 sp) (spansDict w.params t0 D) news (G D))
  (hd : dp + 3 < recursionLimit) (hu : un + 300 < cLine)
  (ret : ∀ (D : Addr) (vs' : List Value) (tl : List (Addr × Obj)) (h' : Heap) (tk' : Nat), Tups tl → DatAll tl vs' ((os.map (Option.map (shift bb))).map enc) → LCg.Off1 D (G D) → Fr h₀ L h' m →
    News h₀ L h' ((D, listOf vs'.toArray vs'.length) :: (G D ++ tl)) → Q .none { s with heap := h', toks := tk' }) :
  wpAny (model PySem.Challenge.pw_ok0042_02 w) (ktrTop dp un gd cn cs L a ccd cl outer) (call (.ref 95) [.ref x, .int bb tk]) Q E s := by
  have hm0 := (upd_mem (U sp)).1
  refine mtran_ok (rest := news.filter fun q => decide (q.1 ≠ dx)) (news := (dx, spansDict w.params t0 sp) :: news.filter fun q => decide (q.1 ≠ dx)) B F X (upd_news N hm0) T hk rfl (fun q hq => by simpa using (List.mem_filter.mp hq).2) (in_rest N hx hm0 (show Value.ref 103 ≠ Value.type "dict" by decide)) (in_rest N hsp hm0 (show Value.type "list" ≠ Value.type "dict" by decide)) D (fun q hq => in_rest N (sub q hq) hm0 (by rw [(TL q hq).1]; show Value.type "tuple" ≠ Value.type "dict"; decide)) hl hd hu
    (fun D vs' tl h' tk' hT hY o1 F' N' => ret D vs' tl h' tk' hT hY (off1_of fun q hq => ?_) F' (upd_back [(D, listOf vs'.toArray vs'.length)] (U D) N'))
  rcases (upd_mem (U D)).2 q hq with rfl | ⟨h5, h6⟩
  · exact off1_mem o1 _ (.head _)
  · exact off1_mem o1 _ (.tail _ (List.mem_filter.mpr ⟨h5, by simpa using h6⟩))

end
theorem kwabc : True := by
  k_with_none
  k_with "ta" => (try dsimp only)
  k_with "tb" => (try k_sweep)
  k_with "tc" => (try k_fold)
  k_with "w0" => (have hcL9 := cLine_is; (try simp only [units_in1, units_deeper, Around.mark_units, units_caller]); (try dsimp only [ktrTop]); omega)
  k_with "w1" => (k_here; (with_reducible show wpAny _ _ (call (Value.ref 114) _) _ _ _); k_dflt (refine' moved_ok ?k1_267c ?k2_267c ?k3_267c ?k4_267c ?k5_267c ?kK_267c ?hm_267c ?hd_267c ?hu_267c ?_; (case k1_267c => k_asm); (case k2_267c => k_asm); (case k3_267c => k_asm); (case k4_267c => k_asm); (case k5_267c => k_asm); (case kK_267c => first | exact rfl | assumption); (case hm_267c => k_mem); (case hd_267c => ktr_room); (case hu_267c => ke_room)))
  k_with "w2" => (refine' code_defC ?k1_73de ?k2_73de ?k3_73de ?k4_73de ?k5_73de ?kA_73de ?kF_73de ?kK_73de ?k6_73de ?k7_73de ?k8_73de ?k9_73de ?kB_73de ?kD_73de ?_ ?c2_73de ?c3_73de ?c4_73de; (case kA_73de => exact rfl); (case kF_73de => exact rfl); (case kK_73de => assumption); (case k1_73de => k_asm); (case k2_73de => k_asm); (case k3_73de => k_asm); (case k4_73de => k_asm); (case k5_73de => k_asm); (case k6_73de => k_is); (case k7_73de => k_is); (case k8_73de => ktr_room); (case k9_73de => exact BindsTo.of_eq rfl); (case kB_73de => exact rfl); (case kD_73de => decide +kernel); (case c2_73de => exact rfl); (case c3_73de => exact rfl); (case c4_73de => exact rfl); k_whole)
  k_with "w3" => (k_here; (with_reducible show wpAny _ _ (subscriptTail _ (PySem.Expr.Slice _ _ none _) (Value.ref _) (Value.ref _)) _ _ _); k_dflt (refine' slice_to ?F_7f9f ?N_7f9f ?l_7f9f ?p_7f9f ?q_7f9f ?e_7f9f ?z_7f9f ?_ ?s_7f9f ?t_7f9f; (case F_7f9f => k_asm); (case N_7f9f => k_asm); (case l_7f9f => k_mem); (case p_7f9f => kmk_part); (case q_7f9f => kmk_part); (case e_7f9f => first | exact pick_upto (by omega) | exact pick_from (by omega) | exact pick_part (by omega) (by omega) | exact pick_less (by omega)); (case s_7f9f => with_unfolding_all rfl); (case t_7f9f => kmk_pure); (case z_7f9f => omega)))
  k_with "w4" => (k_here; (with_reducible show wpAny _ _ (call (Value.type _) [Value.ref _]) _ _ _); k_dflt (first | (refine' copyL ?F_06eb ?N_06eb ?m_06eb ?z_06eb ?_; (case F_06eb => k_asm); (case N_06eb => k_asm); (case m_06eb => k_mem); (case z_06eb => omega)) | (refine' copyT ?F_06eb ?N_06eb ?m_06eb ?_; (case F_06eb => k_asm); (case N_06eb => k_asm); (case m_06eb => k_mem))))
  k_with "w5" => (k_here; (with_reducible show wpAny _ _ (binaryOp _ (Value.ref _) (Value.ref _)) _ _ _); k_dflt (refine' addL ?F_f34b ?N_f34b ?a_f34b ?b_f34b ?z_f34b ?_; (case F_f34b => k_asm); (case N_f34b => k_asm); (case a_f34b => k_mem); (case b_f34b => k_mem); (case z_f34b => first | omega | (simp only [List.length_cons, List.length_nil]; omega))))
  k_with "w6" => (refine' code_def ?k1_91da ?k2_91da ?k3_91da ?k4_91da ?k5_91da ?kA_91da ?kF_91da ?kK_91da ?k6_91da ?k7_91da ?k8_91da ?k9_91da ?kB_91da ?_ ?c2_91da ?c3_91da ?c4_91da ?c5_91da; (case kA_91da => exact rfl); (case kF_91da => exact rfl); (case kK_91da => first | exact rfl | assumption); (case k1_91da => k_asm); (case k2_91da => k_asm); (case k3_91da => k_asm); (case k4_91da => k_asm); (case k5_91da => k_asm); (case k6_91da => k_is); (case k7_91da => k_is); (case k8_91da => ktr_room); (case k9_91da => exact BindsTo.of_eq rfl); (case c5_91da => decide); (case kB_91da => exact locs rfl); (case c2_91da => exact rfl); (case c3_91da => exact rfl); (case c4_91da => exact rfl); k_whole)
  k_with "w7" => (refine' code_defC ?k1_e452 ?k2_e452 ?k3_e452 ?k4_e452 ?k5_e452 ?kA_e452 ?kF_e452 ?kK_e452 ?k6_e452 ?k7_e452 ?k8_e452 ?k9_e452 ?kB_e452 ?kD_e452 ?_ ?c2_e452 ?c3_e452 ?c4_e452; (case kA_e452 => exact rfl); (case kF_e452 => exact rfl); (case kK_e452 => first | exact rfl | assumption); (case k1_e452 => k_asm); (case k2_e452 => k_asm); (case k3_e452 => k_asm); (case k4_e452 => k_asm); (case k5_e452 => k_asm); (case k6_e452 => k_is); (case k7_e452 => k_is); (case k8_e452 => ktr_room); (case k9_e452 => exact BindsTo.of_eq rfl); (case kB_e452 => exact rfl); (case kD_e452 => decide +kernel); (case c2_e452 => exact rfl); (case c3_e452 => exact rfl); (case c4_e452 => exact rfl); k_whole)
  k_with "w8" => (refine neN ?_; (try dsimp only); first | with_reducible assumption | (with_reducible refine Ne.symm ?_; with_reducible assumption) | (with_reducible refine Nat.ne_of_lt ?_; with_reducible assumption) | (with_reducible refine Nat.ne_of_gt ?_; with_reducible assumption))
  k_with "w9" => first | with_reducible assumption | exact in_of_fr (by with_reducible assumption) (by with_reducible assumption)
  k_with "w10" => (k_here; (with_reducible show wpAny _ _ (call (Value.ref 121) _) _ _ _); k_dflt (refine' draw2_use ?k1_44b5 ?k2_44b5 ?k3_44b5 ?k4_44b5 ?k5_44b5 ?kK_44b5 ?U_44b5 ?hl0_44b5 ?hne_44b5 ?hi_44b5 ?hl_44b5 ?hc0_44b5 ?hc1_44b5 ?hm_44b5 ?hm2_44b5 ?hd_44b5 ?hu_44b5 ?_; (case k1_44b5 => k_asm); (case k2_44b5 => k_asm); (case k3_44b5 => k_asm); (case k4_44b5 => k_asm); (case k5_44b5 => k_asm); (case kK_44b5 => first | exact rfl | assumption); (case U_44b5 => (intro _; k_upd)); (case hl0_44b5 => k_mem); (case hne_44b5 => k_ne); (case hi_44b5 => with_reducible assumption); (case hl_44b5 => assumption); (case hc0_44b5 => omega); (case hc1_44b5 => omega); (case hm_44b5 => omega); (case hm2_44b5 => omega); (case hd_44b5 => ktr_room); (case hu_44b5 => ke_room)))
  k_with "w11" => (k_here; (with_reducible show wpAny _ _ (call (Value.ref 100) _) _ _ _); k_dflt (refine' mrepl_use ?k1_f4fd ?k2_f4fd ?k3_f4fd ?k4_f4fd ?k5_f4fd ?kK_f4fd ?hx_f4fd ?hsp_f4fd ?D_f4fd ?sub_f4fd ?TL_f4fd ?hl_f4fd ?U_f4fd ?hd_f4fd ?hu_f4fd ?_; (case k1_f4fd => k_asm); (case k2_f4fd => k_asm); (case k3_f4fd => k_asm); (case k4_f4fd => k_asm); (case k5_f4fd => k_asm); (case kK_f4fd => first | exact rfl | assumption); (case hx_f4fd => k_mem); (case U_f4fd => (intro _; k_upd)); (case hsp_f4fd => k_mem); (case D_f4fd => with_reducible assumption); (case sub_f4fd => kqd_sub); (case TL_f4fd => with_reducible assumption); (case hl_f4fd => omega); (case hd_f4fd => ktr_room); (case hu_f4fd => ke_room)))
  k_with "w12" => (k_here; (with_reducible show wpAny _ _ (call (Value.ref 83) _) _ _ _); k_dflt (refine' mlist_ok ?k1_04f8 ?k2_04f8 ?k3_04f8 ?k4_04f8 ?k5_04f8 ?kK_04f8 ?hx_04f8 ?hdx_04f8 ?hsp_04f8 ?D_04f8 ?sub_04f8 ?hl_04f8 ?hd_04f8 ?hu_04f8 ?_; (case k1_04f8 => k_asm); (case k2_04f8 => k_asm); (case k3_04f8 => k_asm); (case k4_04f8 => k_asm); (case k5_04f8 => k_asm); (case kK_04f8 => first | exact rfl | assumption); (case hx_04f8 => k_mem); (case hdx_04f8 => k_mem); (case hsp_04f8 => k_mem); (case D_04f8 => with_reducible assumption); (case sub_04f8 => kqd_sub); (case hl_04f8 => omega); (case hd_04f8 => ktr_room); (case hu_04f8 => ke_room)))
  k_with "w13" => (k_here; (with_reducible show wpAny _ _ (call (Value.ref 90) _) _ _ _); k_dflt (refine' mrest_use ?k1_b474 ?k2_b474 ?k3_b474 ?k4_b474 ?k5_b474 ?kK_b474 ?hx_b474 ?hpl_b474 ?D_b474 ?hl_b474 ?U_b474 ?hd_b474 ?hu_b474 ?_; (case k1_b474 => k_asm); (case k2_b474 => k_asm); (case k3_b474 => k_asm); (case k4_b474 => k_asm); (case k5_b474 => k_asm); (case kK_b474 => first | exact rfl | assumption); (case hx_b474 => k_mem); (case U_b474 => (intro _; k_upd)); (case hpl_b474 => k_mem); (case D_b474 => first | with_reducible assumption | exact (by with_reducible assumption : ∀ t : Tok, DatAll [] (_ ++ [Value.int 1 t]) _) _); (case hl_b474 => omega); (case hd_b474 => ktr_room); (case hu_b474 => ke_room)))
  k_with "w14" => (k_here; (with_reducible show wpAny _ _ (call (Value.ref 95) _) _ _ _); k_dflt (refine' mtran_use ?k1_20f7 ?k2_20f7 ?k3_20f7 ?k4_20f7 ?k5_20f7 ?kK_20f7 ?hx_20f7 ?hsp_20f7 ?D_20f7 ?sub_20f7 ?TL_20f7 ?hl_20f7 ?U_20f7 ?hd_20f7 ?hu_20f7 ?_; (case k1_20f7 => k_asm); (case k2_20f7 => k_asm); (case k3_20f7 => k_asm); (case k4_20f7 => k_asm); (case k5_20f7 => k_asm); (case kK_20f7 => first | exact rfl | assumption); (case hx_20f7 => k_mem); (case U_20f7 => (intro _; k_upd)); (case hsp_20f7 => k_mem); (case D_20f7 => with_reducible assumption); (case sub_20f7 => kqd_sub); (case TL_20f7 => with_reducible assumption); (case hl_20f7 => omega); (case hd_20f7 => ktr_room); (case hu_20f7 => ke_room)))
  k_with "w15" => (k_here; (with_reducible show wpAny _ _ (call (Value.ref 140) _) _ _ _); k_dflt (refine' llisted_ok ?k1_aa7c ?k2_aa7c ?k3_aa7c ?k4_aa7c ?k5_aa7c ?kK_aa7c ?hsp_aa7c ?D_aa7c ?sub_aa7c ?hl_aa7c ?hd_aa7c ?hu_aa7c ?_; (case k1_aa7c => k_asm); (case k2_aa7c => k_asm); (case k3_aa7c => k_asm); (case k4_aa7c => k_asm); (case k5_aa7c => k_asm); (case kK_aa7c => first | exact rfl | assumption); (case hsp_aa7c => k_mem); (case D_aa7c => with_reducible assumption); (case sub_aa7c => kqd_sub); (case hl_aa7c => omega); (case hd_aa7c => ktr_room); (case hu_aa7c => ke_room)))
  k_with "w16" => (k_here; (with_reducible show wpAny _ _ (binaryOp _ (Value.ref _) (Value.ref _)) _ _ _); k_dflt (refine' addL ?F_261b ?N_261b ?a_261b ?b_261b ?z_261b ?_; (case F_261b => k_asm); (case N_261b => k_asm); (case a_261b => k_mem); (case b_261b => k_mem); (case z_261b => first | omega | (simp only [List.length_cons, List.length_nil, List.length_replicate]; omega))))
  k_with "w17" => (k_here; (with_reducible show wpAny _ _ (binaryOp Operator.Mult (Value.ref _) (Value.int _ _)) _ _ _); k_dflt (refine' mul2 ?F_452d ?N_452d ?l_452d ?e_452d ?z_452d ?_; (case F_452d => k_asm); (case N_452d => k_asm); (case l_452d => k_mem); (case e_452d => omega); (case z_452d => omega)))
  k_with "WPost" => (dsimp only [WPost])
  k_with "call builtin:len" => (k_here; (with_reducible show wpAny _ _ (call (Value.builtin "len") [Value.ref _]) _ _ _); k_dflt (refine' kd_len ?k1_eae0 ?k2_eae0 ?k3_eae0 ?k4_eae0 ?_; (case k1_eae0 => k_asm); (case k2_eae0 => k_mem); (case k3_eae0 => with_reducible assumption); (case k4_eae0 => omega); k_whole))
  k_with "subscriptTail" => (k_here; (with_reducible show wpAny _ _ (subscriptTail _ _ (Value.ref _) (Value.int _ _)) _ _ _); k_dflt (refine' item_dat ?k1_b351 ?k2_b351 ?k3_b351 ?k4_b351 ?k5_b351 ?k6_b351 ?_ ?k7_b351; (case k1_b351 => k_asm); (case k2_b351 => k_mem); (case k3_b351 => with_reducible assumption); (case k4_b351 => omega); (case k5_b351 => omega); (case k6_b351 => omega); (case k7_b351 => with_unfolding_all rfl); k_whole); intro _ _)
  trivial
section
section
variable {prog : Program} {w : World} {A : Around} {h₀ : Heap} {L : Addr} {m : Str → Option Value} {env : Env}
/-- a tested comprehension's turns by an invariant -/
theorem restT_ind {ct elt : PySem.Expr} {x : Str} {scope : Scope} {cl : List (Str × Addr)} {s : Shared} {S : List (Addr × Obj) → Prop} {P : Nat → Value → Prop} {Fin : List Value → List (Addr × Obj) → Prop} {n : Nat} {news : List (Addr × Obj)}
    (J : Nat → List Value → List (Addr × Obj) → Prop) (h0 : J 0 [] news)
    (turn : ∀ i ys nw, i < n → J i ys nw → ∀ v I oI C oC D m₂ h tk (E' : Value → Shared → Prop), P i v → LCg.NsObj oC m₂ → m₂ x = some v → Fr h₀ L h m → News h₀ L h ((I, oI) :: (C, oC) :: (D, LCg.lst ys) :: nw) → LCg.Off3 I C D nw → ((@Ne Nat I C) ∧ (@Ne Nat I D) ∧ (@Ne Nat C D)) →
      wpAny (model prog w) A (isTrue ct (compEnvC scope cl C env) (eval ct (compEnvC scope cl C env))) (fun ok s' => if ok = true then
        wpAny (model prog w) A (eval elt (compEnvC scope cl C env)) (LCg.CompEnd h₀ L m { s with heap := h, toks := tk } I oI C oC D (LCg.lst ys) S (fun y nw' => J (i + 1) (ys ++ [y]) nw')) E' s'
        else LCg.CompEnd h₀ L m { s with heap := h, toks := tk } I oI C oC D (LCg.lst ys) S (fun _ nw' => J (i + 1) ys nw') Value.none s') E' { s with heap := h, toks := tk })
    (fin : ∀ ys nw, J n ys nw → Fin ys nw) : LCt.CompRestT prog w A h₀ L m env ct elt x scope cl s S P Fin n 0 [] news := by
  have all : ∀ k i ys nw, i + k = n → J i ys nw → LCt.CompRestT prog w A h₀ L m env ct elt x scope cl s S P Fin k i ys nw := by
    intro k
    induction k with
    | zero => intro i ys nw e hj; exact LCt.CompRestT.zero (fin _ _ (by rw [← e]; exact hj))
    | succ k ih =>
      intro i ys nw e hj
      refine LCt.CompRestT.succ fun v I oI C oC D m₂ h tk E' hP hC hx F N off ne => ?_
      refine wpAny_mono (turn i ys nw (by omega) hj v I oI C oC D m₂ h tk E' hP hC hx F N off ne) (fun ok s₂ q => ?_) fun _ _ x => x
      cases ok with
      | true =>
        simp only [if_true] at q ⊢
        exact wpAny_mono q (fun y s₃ q => compEnd_mono (fun y nw' q => ih (i + 1) _ _ (by omega) q) q) fun _ _ x => x
      | false =>
        simp only [Bool.false_eq_true, if_false] at q ⊢
        exact compEnd_mono (fun y nw' q => ih (i + 1) _ _ (by omega) q) q
  exact all n 0 [] news (by omega) h0
end
theorem len_led {prog : Program} {w : World} {A : Around} {E : Value → Shared → Prop} {s : Shared} {h₀ : Heap} {L l : Addr} {news : List (Addr × Obj)} {us : List Value} {n : Nat} {Q : Value → Shared → Prop} (N : News h₀ L s.heap news) (hm : (l, listOf us.toArray n) ∈ news) (hz : us.length < 100000)
    (h : Q (.int (us.length : Int) (s.toks + 1)) { s with toks := s.toks + 1 + 1 }) : wpAny (model prog w) A (call (.builtin "len") [.ref l]) Q E s := by
  have hl : s.heap.IsList l us.toArray := ⟨_, (N _ hm).1, rfl, n, rfl⟩
  exact len_list hl (by rw [List.size_toArray]; omega) (by rw [List.size_toArray]; exact h)

section
variable {prog : Program} {w : World} {A : Around} {h₀ : Heap} {L : Addr} {m : Str → Option Value} {env : Env}
/-- a comprehension whose turns change one list of the ledger, and make things that stand behind it -/
theorem rest_dk {elt : PySem.Expr} {x : Str} {scope : Scope} {cl : List (Str × Addr)} {s : Shared} {S : List (Addr × Obj) → Prop} {P : Nat → Value → Prop} {Fin : List Value → List (Addr × Obj) → Prop} {n : Nat} {dk : Addr} {vs : List Value} {k : Nat} {rest : List (Addr × Obj)}
    (J : Nat → List Value → List Value → Nat → List (Addr × Obj) → Prop) (h0 : J 0 [] vs k [])
    (turn : ∀ i ys vs' k' tl, i < n → OwnOff tl (dk :: rest.map (·.1)) → J i ys vs' k' tl → ∀ v I oI C oC D m₂ h tk (E' : Value → Shared → Prop), P i v → LCg.NsObj oC m₂ → m₂ x = some v → Fr h₀ L h m → News h₀ L h ((I, oI) :: (C, oC) :: (D, LCg.lst ys) :: (dk, listOf vs'.toArray k') :: (rest ++ tl)) → LCg.Off3 I C D ((dk, listOf vs'.toArray k') :: (rest ++ tl)) → ((@Ne Nat I C) ∧ (@Ne Nat I D) ∧ (@Ne Nat C D)) →
      wpAny (model prog w) A (eval elt (compEnvC scope cl C env)) (LCg.CompEnd h₀ L m { s with heap := h, toks := tk } I oI C oC D (LCg.lst ys) S (fun y nw' => ∃ vs' k' tl', nw' = (dk, listOf vs'.toArray k') :: (rest ++ tl') ∧ OwnOff tl' (dk :: rest.map (·.1)) ∧ J (i + 1) (ys ++ [y]) vs' k' tl')) E' { s with heap := h, toks := tk })
    (fin : ∀ ys vs' k' tl, OwnOff tl (dk :: rest.map (·.1)) → J n ys vs' k' tl → Fin ys ((dk, listOf vs'.toArray k') :: (rest ++ tl))) : LCg.CompRest prog w A h₀ L m env elt x scope cl s S P Fin n 0 [] ((dk, listOf vs.toArray k) :: rest) :=
  rest_ind (fun i ys nw => ∃ vs' k' tl, nw = (dk, listOf vs'.toArray k') :: (rest ++ tl) ∧ OwnOff tl (dk :: rest.map (·.1)) ∧ J i ys vs' k' tl) ⟨vs, k, [], by rw [List.append_nil], (fun _ h => nomatch h), h0⟩
    (fun i ys nw hi hj v I oI C oC D m₂ h tk E' hP hC hx F N off ne => by obtain ⟨vs', k', tl, rfl, ho, hj⟩ := hj; exact turn i ys vs' k' tl hi ho hj v I oI C oC D m₂ h tk E' hP hC hx F N off ne)
    (fun ys nw hj => by obtain ⟨vs', k', tl, rfl, ho, hj⟩ := hj; exact fin ys vs' k' tl ho hj)
theorem end_dk {s₁ : Shared} {I C D dk : Addr} {oI oC oD x9 : Obj} {S : List (Addr × Obj) → Prop} {J : Value → List Value → Nat → List (Addr × Obj) → Prop} {y : Value} {h' : Heap} {tk : Nat} {all rest tl : List (Addr × Obj)} (vs' : List Value) (k' : Nat) (tl' : List (Addr × Obj))
    (F : Fr h₀ L h' m) (N : News h₀ L h' all) (sub : ∀ p ∈ (I, oI) :: (C, oC) :: (D, oD) :: (dk, listOf vs'.toArray k') :: (rest ++ tl'), p ∈ all) (off : LCg.Off3 I C D ((dk, x9) :: (rest ++ tl))) (off' : LCg.Off3 I C D tl') (hS : S ((dk, listOf vs'.toArray k') :: (rest ++ tl'))) (ow : OwnOff tl' (dk :: rest.map (·.1))) (r : J y vs' k' tl') :
    LCg.CompEnd h₀ L m s₁ I oI C oC D oD S (fun y nw' => ∃ vs' k' tl', nw' = (dk, listOf vs'.toArray k') :: (rest ++ tl') ∧ OwnOff tl' (dk :: rest.map (·.1)) ∧ J y vs' k' tl') y { s₁ with heap := h', toks := tk } :=
  LCg.CompEnd.intro F N ((dk, listOf vs'.toArray k') :: (rest ++ tl')) sub ⟨off.1, off3_app.mpr ⟨(off3_app.mp off.2).1, off'⟩⟩ hS ⟨vs', k', tl', rfl, ow, r⟩
theorem off3_new {I C D : Addr} {oI oC oD : Obj} {l r : List (Addr × Obj)} (h : ∀ q ∈ l, ∀ p ∈ (I, oI) :: (C, oC) :: (D, oD) :: r, q.1 ≠ p.1) : LCg.Off3 I C D l :=
  LCg.Off3.of fun q hq => ⟨h q hq _ (.head _), h q hq _ (.tail _ (.head _)), h q hq _ (.tail _ (.tail _ (.head _)))⟩
end
theorem tups_app {a b : List (Addr × Obj)} (h1 : Tups a) (h2 : Tups b) : Tups (a ++ b) := fun p hp => by
  rcases List.mem_append.mp hp with hp | hp
  · exact h1 p hp
  · exact h2 p hp
theorem own_two {a b : List (Addr × Obj)} {adr : List Addr} (h1 : OwnOff a adr) (h2 : OwnOff b adr) : OwnOff (a ++ b) adr := fun p hp => by
  rcases List.mem_append.mp hp with hp | hp
  · exact h1 p hp
  · exact h2 p hp
theorem own_new {l news : List (Addr × Obj)} {adr : List Addr} (h : ∀ q ∈ l, ∀ p ∈ news, q.1 ≠ p.1) (s : ∀ b ∈ adr, ∃ o, (b, o) ∈ news) : OwnOff l adr := fun q hq b hb => by
  obtain ⟨o, ho⟩ := s b hb
  exact h q hq _ ho
theorem allLt_off {D : Addr} {l tl : List (Addr × Obj)} (h : AllLt D l) (s : ∀ p ∈ tl, p ∈ l) : ∀ p ∈ tl, p.1 ≠ D := fun p hp => Nat.ne_of_lt (allLt_all h p (s p hp))
theorem off1_off {D : Addr} {l tl : List (Addr × Obj)} (h : LCg.Off1 D l) (s : ∀ p ∈ tl, p ∈ l) : ∀ p ∈ tl, p.1 ≠ D := fun p hp => off1_mem h p (s p hp)
theorem lt_copy {D : Addr} {l : List (Addr × Obj)} (h : ∀ p ∈ l, p.1 < D) : AllLt D l ∧ AllLt D l := ⟨allLt_of h, allLt_of h⟩
theorem in_of_fr {h₀ h : Heap} {L : Addr} {m : Str → Option Value} {K : Frag} (F : Fr h₀ L h m) (X : K.In h₀) : K.In h := Frag.In.keeps X (Fr.keep F)
theorem sub_trans {A B C : List (Addr × Obj)} (h1 : ∀ p ∈ A, p ∈ B) (h2 : ∀ p ∈ B, p ∈ C) : ∀ p ∈ A, p ∈ C := fun p hp => h2 p (h1 p hp)

end
section
theorem kwabd : True := by
  k_with "call builtin:len" => (k_here; (with_reducible show wpAny _ _ (call (Value.builtin "len") [Value.ref _]) _ _ _); k_dflt (refine' len_led ?k1_f453 ?k2_f453 ?k3_f453 ?_; (case k1_f453 => k_asm); (case k2_f453 => k_mem); (case k3_f453 => omega)))
  trivial
theorem draw2_ok {w : World} {p : Program} {loose : List Str} {mean : ExcName → Option Value} {mg mb : Str → Option Value} {dp un : Nat} {gd : Option (List Code)} {cn : Str} {cs : Scope} {a : Addr} {ccd : Value} {cl : List (Str × Addr)} {outer : List Env} {A₀ : Around} {base h₀ : Heap} {L : Addr} {m : Str → Option Value} {s : Shared} {Q E : Value → Shared → Prop} {news : List (Addr × Obj)} {dk l0 : Addr} {vs : List Value} {ns : List Int} {k0 n : Nat} {c : Int} {tc : Tok} {rest : List (Addr × Obj)} {many : Int} {tk : Tok}
  (B : Below A₀ base outer h₀) (F : Fr h₀ L s.heap m) (X : (Mine.hd.heap_39 w.params).In h₀) (N : News h₀ L s.heap news) (T : Top p loose mean mg mb h₀) (hk : cs.kind = .function) (hnews : news = (dk, listOf [Value.ref l0, Value.int c tc].toArray n) :: rest) (off : ∀ q ∈ rest, q.1 ≠ dk) (hl0 : (l0, listOf vs.toArray k0) ∈ rest) (hi : IntsAre vs ns) (hl : ns.length < 1000) (hc0 : 0 ≤ c) (hc1 : c < 1000) (hm : 0 < many) (hm2 : many < 1000)
  (hd : dp + 1 < recursionLimit) (hu : un + 100 < cLine)
  (ret : ∀ (r : Int) (t tc' : Tok) (h' : Heap) (tk' : Nat), 0 ≤ r → r < many → Fr h₀ L h' m → News h₀ L h' ((dk, listOf [Value.ref l0, Value.int (c + 1) tc'].toArray n) :: rest) → Q (.int r t) { s with heap := h', toks := tk' }) :
  wpAny (model PySem.Challenge.pw_ok0042_02 w) (ktrTop dp un gd cn cs L a ccd cl outer) (call (.ref 121) [.ref dk, .int many tk]) Q E s := by
  subst hnews
  have off0 : OwnOff rest [dk] := fun q hq b hb => by rw [List.mem_singleton.mp hb]; exact off q hq
  have hvl := hi.length
  show Keep PySem.Challenge.rw_ok0042_02 Mine.hd.heap_39 (wpAny _ _ _ _ _ _)
  k_fill
  unfold Keep
  refine wpAny_call ?_
  k_dflt cell_enter
  w_strict k_steps
  all_goals exact ret _ _ _ _ _ (Int.fmod_nonneg_of_pos _ hm) (Int.fmod_lt_of_pos _ hm) (by k_asm) (cb_drop (by assumption) (by kqd_sub))
theorem draw2_use {w : World} {p : Program} {loose : List Str} {mean : ExcName → Option Value} {mg mb : Str → Option Value} {dp un : Nat} {gd : Option (List Code)} {cn : Str} {cs : Scope} {a : Addr} {ccd : Value} {cl : List (Str × Addr)} {outer : List Env} {A₀ : Around} {base h₀ : Heap} {L : Addr} {m : Str → Option Value} {s : Shared} {Q E : Value → Shared → Prop} {news : List (Addr × Obj)} {dk l0 : Addr} {vs : List Value} {ns : List Int} {k0 n : Nat} {c : Int} {tc : Tok} {many : Int} {tk : Tok} {G : Tok → List (Addr × Obj)}
  (B : Below A₀ base outer h₀) (F : Fr h₀ L s.heap m) (X : (Mine.hd.heap_39 w.params).In h₀) (N : News h₀ L s.heap news) (T : Top p loose mean mg mb h₀) (hk : cs.kind = .function) (U : ∀ tc', Upd dk (listOf [Value.ref l0, Value.int c tc].toArray n) (listOf [Value.ref l0, Value.int (c + 1) tc'].toArray n) news (G tc')) (hl0 : (l0, listOf vs.toArray k0) ∈ news) (hne : @Ne Nat l0 dk) (hi : IntsAre vs ns) (hl : ns.length < 1000) (hc0 : 0 ≤ c) (hc1 : c < 1000) (hm : 0 < many) (hm2 : many < 1000)
  (hd : dp + 1 < recursionLimit) (hu : un + 100 < cLine)
  (ret : ∀ (r : Int) (t tc' : Tok) (h' : Heap) (tk' : Nat), 0 ≤ r → r < many → Fr h₀ L h' m → News h₀ L h' (G tc') → Q (.int r t) { s with heap := h', toks := tk' }) :
  wpAny (model PySem.Challenge.pw_ok0042_02 w) (ktrTop dp un gd cn cs L a ccd cl outer) (call (.ref 121) [.ref dk, .int many tk]) Q E s := by
  have hm0 := (upd_mem (U tc)).1
  refine draw2_ok (rest := news.filter fun q => decide (q.1 ≠ dk)) B F X (upd_news N hm0) T hk rfl (fun q hq => by simpa using (List.mem_filter.mp hq).2) (List.mem_filter.mpr ⟨hl0, by simpa using hne⟩) hi hl hc0 hc1 hm hm2 hd hu
    (fun r t tc' h' tk' h1 h2 F' N' => ret r t tc' h' tk' h1 h2 F' fun q hq => ?_)
  rcases (upd_mem (U tc')).2 q hq with rfl | ⟨h5, h6⟩
  · exact N' _ (.head _)
  · exact N' _ (.tail _ (List.mem_filter.mpr ⟨h5, by simpa using h6⟩))

end
theorem kwabe : True := by
  k_with_none
  k_with "ta" => (try dsimp only)
  k_with "tb" => (try k_sweep)
  k_with "tc" => (try k_fold)
  k_with "w0" => (have hcL9 := cLine_is; (try simp only [units_in1, units_deeper, Around.mark_units, units_caller]); (try dsimp only [ktrTop]); omega)
  k_with "w1" => (k_here; (with_reducible show wpAny _ _ (call (Value.ref 114) _) _ _ _); k_dflt (refine' moved_ok ?k1_267c ?k2_267c ?k3_267c ?k4_267c ?k5_267c ?kK_267c ?hm_267c ?hd_267c ?hu_267c ?_; (case k1_267c => k_asm); (case k2_267c => k_asm); (case k3_267c => k_asm); (case k4_267c => k_asm); (case k5_267c => k_asm); (case kK_267c => first | exact rfl | assumption); (case hm_267c => k_mem); (case hd_267c => ktr_room); (case hu_267c => ke_room)))
  k_with "w2" => (refine' code_defC ?k1_73de ?k2_73de ?k3_73de ?k4_73de ?k5_73de ?kA_73de ?kF_73de ?kK_73de ?k6_73de ?k7_73de ?k8_73de ?k9_73de ?kB_73de ?kD_73de ?_ ?c2_73de ?c3_73de ?c4_73de; (case kA_73de => exact rfl); (case kF_73de => exact rfl); (case kK_73de => assumption); (case k1_73de => k_asm); (case k2_73de => k_asm); (case k3_73de => k_asm); (case k4_73de => k_asm); (case k5_73de => k_asm); (case k6_73de => k_is); (case k7_73de => k_is); (case k8_73de => ktr_room); (case k9_73de => exact BindsTo.of_eq rfl); (case kB_73de => exact rfl); (case kD_73de => decide +kernel); (case c2_73de => exact rfl); (case c3_73de => exact rfl); (case c4_73de => exact rfl); k_whole)
  k_with "w3" => (k_here; (with_reducible show wpAny _ _ (subscriptTail _ (PySem.Expr.Slice _ _ none _) (Value.ref _) (Value.ref _)) _ _ _); k_dflt (refine' slice_to ?F_7f9f ?N_7f9f ?l_7f9f ?p_7f9f ?q_7f9f ?e_7f9f ?z_7f9f ?_ ?s_7f9f ?t_7f9f; (case F_7f9f => k_asm); (case N_7f9f => k_asm); (case l_7f9f => k_mem); (case p_7f9f => kmk_part); (case q_7f9f => kmk_part); (case e_7f9f => first | exact pick_upto (by omega) | exact pick_from (by omega) | exact pick_part (by omega) (by omega) | exact pick_less (by omega)); (case s_7f9f => with_unfolding_all rfl); (case t_7f9f => kmk_pure); (case z_7f9f => omega)))
  k_with "w4" => (k_here; (with_reducible show wpAny _ _ (call (Value.type _) [Value.ref _]) _ _ _); k_dflt (first | (refine' copyL ?F_06eb ?N_06eb ?m_06eb ?z_06eb ?_; (case F_06eb => k_asm); (case N_06eb => k_asm); (case m_06eb => k_mem); (case z_06eb => omega)) | (refine' copyT ?F_06eb ?N_06eb ?m_06eb ?_; (case F_06eb => k_asm); (case N_06eb => k_asm); (case m_06eb => k_mem))))
  k_with "w5" => (k_here; (with_reducible show wpAny _ _ (binaryOp _ (Value.ref _) (Value.ref _)) _ _ _); k_dflt (refine' addL ?F_f34b ?N_f34b ?a_f34b ?b_f34b ?z_f34b ?_; (case F_f34b => k_asm); (case N_f34b => k_asm); (case a_f34b => k_mem); (case b_f34b => k_mem); (case z_f34b => first | omega | (simp only [List.length_cons, List.length_nil]; omega))))
  k_with "w6" => (refine' code_def ?k1_91da ?k2_91da ?k3_91da ?k4_91da ?k5_91da ?kA_91da ?kF_91da ?kK_91da ?k6_91da ?k7_91da ?k8_91da ?k9_91da ?kB_91da ?_ ?c2_91da ?c3_91da ?c4_91da ?c5_91da; (case kA_91da => exact rfl); (case kF_91da => exact rfl); (case kK_91da => first | exact rfl | assumption); (case k1_91da => k_asm); (case k2_91da => k_asm); (case k3_91da => k_asm); (case k4_91da => k_asm); (case k5_91da => k_asm); (case k6_91da => k_is); (case k7_91da => k_is); (case k8_91da => ktr_room); (case k9_91da => exact BindsTo.of_eq rfl); (case c5_91da => decide); (case kB_91da => exact locs rfl); (case c2_91da => exact rfl); (case c3_91da => exact rfl); (case c4_91da => exact rfl); k_whole)
  k_with "w7" => (refine' code_defC ?k1_e452 ?k2_e452 ?k3_e452 ?k4_e452 ?k5_e452 ?kA_e452 ?kF_e452 ?kK_e452 ?k6_e452 ?k7_e452 ?k8_e452 ?k9_e452 ?kB_e452 ?kD_e452 ?_ ?c2_e452 ?c3_e452 ?c4_e452; (case kA_e452 => exact rfl); (case kF_e452 => exact rfl); (case kK_e452 => first | exact rfl | assumption); (case k1_e452 => k_asm); (case k2_e452 => k_asm); (case k3_e452 => k_asm); (case k4_e452 => k_asm); (case k5_e452 => k_asm); (case k6_e452 => k_is); (case k7_e452 => k_is); (case k8_e452 => ktr_room); (case k9_e452 => exact BindsTo.of_eq rfl); (case kB_e452 => exact rfl); (case kD_e452 => decide +kernel); (case c2_e452 => exact rfl); (case c3_e452 => exact rfl); (case c4_e452 => exact rfl); k_whole)
  k_with "w8" => (refine neN ?_; (try dsimp only); first | with_reducible assumption | (with_reducible refine Ne.symm ?_; with_reducible assumption) | (with_reducible refine Nat.ne_of_lt ?_; with_reducible assumption) | (with_reducible refine Nat.ne_of_gt ?_; with_reducible assumption))
  k_with "w9" => first | with_reducible assumption | exact in_of_fr (by with_reducible assumption) (by with_reducible assumption)
  k_with "w10" => (k_here; (with_reducible show wpAny _ _ (call (Value.ref 121) _) _ _ _); k_dflt (refine' draw2_use ?k1_44b5 ?k2_44b5 ?k3_44b5 ?k4_44b5 ?k5_44b5 ?kK_44b5 ?U_44b5 ?hl0_44b5 ?hne_44b5 ?hi_44b5 ?hl_44b5 ?hc0_44b5 ?hc1_44b5 ?hm_44b5 ?hm2_44b5 ?hd_44b5 ?hu_44b5 ?_; (case k1_44b5 => k_asm); (case k2_44b5 => k_asm); (case k3_44b5 => k_asm); (case k4_44b5 => k_asm); (case k5_44b5 => k_asm); (case kK_44b5 => first | exact rfl | assumption); (case U_44b5 => (intro _; k_upd)); (case hl0_44b5 => k_mem); (case hne_44b5 => k_ne); (case hi_44b5 => with_reducible assumption); (case hl_44b5 => assumption); (case hc0_44b5 => omega); (case hc1_44b5 => omega); (case hm_44b5 => omega); (case hm2_44b5 => omega); (case hd_44b5 => ktr_room); (case hu_44b5 => ke_room)))
  k_with "w11" => (k_here; (with_reducible show wpAny _ _ (call (Value.ref 100) _) _ _ _); k_dflt (refine' mrepl_use ?k1_f4fd ?k2_f4fd ?k3_f4fd ?k4_f4fd ?k5_f4fd ?kK_f4fd ?hx_f4fd ?hsp_f4fd ?D_f4fd ?sub_f4fd ?TL_f4fd ?hl_f4fd ?U_f4fd ?hd_f4fd ?hu_f4fd ?_; (case k1_f4fd => k_asm); (case k2_f4fd => k_asm); (case k3_f4fd => k_asm); (case k4_f4fd => k_asm); (case k5_f4fd => k_asm); (case kK_f4fd => first | exact rfl | assumption); (case hx_f4fd => k_mem); (case U_f4fd => (intro _; k_upd)); (case hsp_f4fd => k_mem); (case D_f4fd => with_reducible assumption); (case sub_f4fd => kqd_sub); (case TL_f4fd => with_reducible assumption); (case hl_f4fd => omega); (case hd_f4fd => ktr_room); (case hu_f4fd => ke_room)))
  k_with "w12" => (k_here; (with_reducible show wpAny _ _ (call (Value.ref 83) _) _ _ _); k_dflt (refine' mlist_ok ?k1_04f8 ?k2_04f8 ?k3_04f8 ?k4_04f8 ?k5_04f8 ?kK_04f8 ?hx_04f8 ?hdx_04f8 ?hsp_04f8 ?D_04f8 ?sub_04f8 ?hl_04f8 ?hd_04f8 ?hu_04f8 ?_; (case k1_04f8 => k_asm); (case k2_04f8 => k_asm); (case k3_04f8 => k_asm); (case k4_04f8 => k_asm); (case k5_04f8 => k_asm); (case kK_04f8 => first | exact rfl | assumption); (case hx_04f8 => k_mem); (case hdx_04f8 => k_mem); (case hsp_04f8 => k_mem); (case D_04f8 => with_reducible assumption); (case sub_04f8 => kqd_sub); (case hl_04f8 => omega); (case hd_04f8 => ktr_room); (case hu_04f8 => ke_room)))
  k_with "w13" => (k_here; (with_reducible show wpAny _ _ (call (Value.ref 90) _) _ _ _); k_dflt (refine' mrest_use ?k1_b474 ?k2_b474 ?k3_b474 ?k4_b474 ?k5_b474 ?kK_b474 ?hx_b474 ?hpl_b474 ?D_b474 ?hl_b474 ?U_b474 ?hd_b474 ?hu_b474 ?_; (case k1_b474 => k_asm); (case k2_b474 => k_asm); (case k3_b474 => k_asm); (case k4_b474 => k_asm); (case k5_b474 => k_asm); (case kK_b474 => first | exact rfl | assumption); (case hx_b474 => k_mem); (case U_b474 => (intro _; k_upd)); (case hpl_b474 => k_mem); (case D_b474 => first | with_reducible assumption | exact (by with_reducible assumption : ∀ t : Tok, DatAll [] (_ ++ [Value.int 1 t]) _) _); (case hl_b474 => omega); (case hd_b474 => ktr_room); (case hu_b474 => ke_room)))
  k_with "w14" => (k_here; (with_reducible show wpAny _ _ (call (Value.ref 95) _) _ _ _); k_dflt (refine' mtran_use ?k1_20f7 ?k2_20f7 ?k3_20f7 ?k4_20f7 ?k5_20f7 ?kK_20f7 ?hx_20f7 ?hsp_20f7 ?D_20f7 ?sub_20f7 ?TL_20f7 ?hl_20f7 ?U_20f7 ?hd_20f7 ?hu_20f7 ?_; (case k1_20f7 => k_asm); (case k2_20f7 => k_asm); (case k3_20f7 => k_asm); (case k4_20f7 => k_asm); (case k5_20f7 => k_asm); (case kK_20f7 => first | exact rfl | assumption); (case hx_20f7 => k_mem); (case U_20f7 => (intro _; k_upd)); (case hsp_20f7 => k_mem); (case D_20f7 => with_reducible assumption); (case sub_20f7 => kqd_sub); (case TL_20f7 => with_reducible assumption); (case hl_20f7 => omega); (case hd_20f7 => ktr_room); (case hu_20f7 => ke_room)))
  k_with "w15" => (k_here; (with_reducible show wpAny _ _ (call (Value.ref 140) _) _ _ _); k_dflt (refine' llisted_ok ?k1_aa7c ?k2_aa7c ?k3_aa7c ?k4_aa7c ?k5_aa7c ?kK_aa7c ?hsp_aa7c ?D_aa7c ?sub_aa7c ?hl_aa7c ?hd_aa7c ?hu_aa7c ?_; (case k1_aa7c => k_asm); (case k2_aa7c => k_asm); (case k3_aa7c => k_asm); (case k4_aa7c => k_asm); (case k5_aa7c => k_asm); (case kK_aa7c => first | exact rfl | assumption); (case hsp_aa7c => k_mem); (case D_aa7c => with_reducible assumption); (case sub_aa7c => kqd_sub); (case hl_aa7c => omega); (case hd_aa7c => ktr_room); (case hu_aa7c => ke_room)))
  k_with "w16" => (k_here; (with_reducible show wpAny _ _ (binaryOp _ (Value.ref _) (Value.ref _)) _ _ _); k_dflt (refine' addL ?F_261b ?N_261b ?a_261b ?b_261b ?z_261b ?_; (case F_261b => k_asm); (case N_261b => k_asm); (case a_261b => k_mem); (case b_261b => k_mem); (case z_261b => first | omega | (simp only [List.length_cons, List.length_nil, List.length_replicate]; omega))))
  k_with "w17" => (k_here; (with_reducible show wpAny _ _ (binaryOp Operator.Mult (Value.ref _) (Value.int _ _)) _ _ _); k_dflt (refine' mul2 ?F_452d ?N_452d ?l_452d ?e_452d ?z_452d ?_; (case F_452d => k_asm); (case N_452d => k_asm); (case l_452d => k_mem); (case e_452d => omega); (case z_452d => omega)))
  k_with "WPost" => (dsimp only [WPost])
  k_with "call builtin:len" => (k_here; (with_reducible show wpAny _ _ (call (Value.builtin "len") [Value.ref _]) _ _ _); k_dflt (refine' kd_len ?k1_eae0 ?k2_eae0 ?k3_eae0 ?k4_eae0 ?_; (case k1_eae0 => k_asm); (case k2_eae0 => k_mem); (case k3_eae0 => with_reducible assumption); (case k4_eae0 => omega); k_whole))
  k_with "subscriptTail" => (k_here; (with_reducible show wpAny _ _ (subscriptTail _ _ (Value.ref _) (Value.int _ _)) _ _ _); k_dflt (refine' item_dat ?k1_b351 ?k2_b351 ?k3_b351 ?k4_b351 ?k5_b351 ?k6_b351 ?_ ?k7_b351; (case k1_b351 => k_asm); (case k2_b351 => k_mem); (case k3_b351 => with_reducible assumption); (case k4_b351 => omega); (case k5_b351 => omega); (case k6_b351 => omega); (case k7_b351 => with_unfolding_all rfl); k_whole); intro _ _)
  trivial
section
def Halt (P : Prop) : Prop := P
theorem halt_in {P : Prop} (h : Halt P) : P := h
section
variable {prog : Program} {w : World} {A : Around} {E : Value → Shared → Prop} {s : Shared} {env : Env} {h₀ : Heap} {x : Str} {body : List Stmt} {Q : Flow → Shared → Prop}
/-- a for over a range, any step, by an invariant of the frame and the ledger -/
theorem loop_range {r : Addr} {a b c : Int} {t u v : Tok} {n : Nat} {m₀ : Str → Option Value} {news : List (Addr × Obj)} (J : Nat → (Str → Option Value) → List (Addr × Obj) → Prop)
    (hh : A.handled = none) (hr : IsRange s.heap r a b c t u v) (hsmall : Builtin.Range.small a b c = true) (hsz : Builtin.Range.rangeSize a b c = (n : Int)) (F : Fr h₀ env.locals s.heap m₀) (N : News h₀ env.locals s.heap news) (hj : J 0 m₀ news)
    (turn : ∀ i t m₁ nx h tk own, i < n → OwnOff own (nx.map (·.1)) → J i m₁ nx → Fr h₀ env.locals h (fun y => if y = x then some (.int (a + i * c) t) else m₁ y) → News h₀ env.locals h (nx ++ own) →
      wpAny (model prog w) A (execs body env) (InvPostG h₀ env.locals (J (i + 1)) own { s with heap := h, toks := tk } Q) E { s with heap := h, toks := tk })
    (done : ∀ m₁ nx h tk, J n m₁ nx → Fr h₀ env.locals h m₁ → News h₀ env.locals h nx → Q .next { s with heap := h, toks := tk }) :
    wpAny (model prog w) A (pyIter (.ref r)) (fun it s₂ => LoopAtV prog w A h₀ env x body Q E it s₂) E s := by
  refine wpAny_pyIter_range hr hsmall ?_
  have W : Walks prog w A s.heap.objs.size [s.heap.objs.size] [s.heap.objs.size] n (fun i v => i < n ∧ ∃ t, v = .int (a + i * c) t)
      (fun i h => IsRangeIter h s.heap.objs.size (a + (i : Nat) * c) ((n : Int) - (i : Nat)) c) := (Walks.range hh _ a c n).bound
  refine kdr_loop J W (fun _ h => h) (fun _ h => h) ?_ ?_ ?_ ?_ (by show IsRangeIter _ _ _ _ _; rw [hsz]; simpa using Heap.get?_push_size _ rfl) (F.push _) (fun p hp => ⟨Heap.get?_push_of_some _ (N p hp).1, (N p hp).2⟩) hj ?_ ?_
  · intro i h hi b hb
    rw [List.mem_singleton.mp hb]
    exact ⟨_, hi⟩
  · intro hm
    exact absurd F.ns.lt ((List.mem_singleton.mp hm) ▸ Nat.lt_irrefl _)
  · intro b hb
    rw [List.mem_singleton.mp hb]
    exact next_is_new F
  · intro p hp hI
    exact absurd (Heap.lt_size (N p hp).1) ((List.mem_singleton.mp hI) ▸ Nat.lt_irrefl _)
  · rintro i v m₁ nx h tk own hi ⟨_, t, rfl⟩ hoff hJ F₁ N₁
    exact turn i t m₁ nx h tk own hi hoff hJ F₁ N₁
  · exact fun m₁ nx h tk hJ F₁ N₁ => done m₁ nx h tk hJ F₁ N₁
end
theorem own_app {own l r : List (Addr × Obj)} (h1 : OwnOff own (l.map (·.1))) (h2 : OwnOff own (r.map (·.1))) : OwnOff own ((l ++ r).map (·.1)) := fun p hp b hb => by
  rw [List.map_append] at hb
  rcases List.mem_append.mp hb with hb | hb
  · exact h1 p hp b hb
  · exact h2 p hp b hb
theorem own_cons {own r : List (Addr × Obj)} {q : Addr × Obj} (h1 : ∀ p ∈ own, p.1 ≠ q.1) (h2 : OwnOff own (r.map (·.1))) : OwnOff own ((q :: r).map (·.1)) := fun p hp b hb => by
  rw [List.map_cons] at hb
  rcases List.mem_cons.mp hb with rfl | hb
  · exact h1 p hp
  · exact h2 p hp b hb
theorem own_nil {own : List (Addr × Obj)} : OwnOff own (([] : List (Addr × Obj)).map (·.1)) := fun _ _ _ h => nomatch h
theorem range_half (n : Nat) : Builtin.Range.rangeSize 0 ((n : Int) - 1) 2 = ((n / 2 : Nat) : Int) := by
  unfold Builtin.Range.rangeSize
  rw [if_pos (by decide)]
  split <;> omega
theorem small_two {n : Nat} (h : n < 100000) : Builtin.Range.small 0 ((n : Int) - 1) 2 = true := by
  unfold Builtin.Range.small
  rw [range_half]
  simp only [Builtin.Range.rangeFitsLong, Bool.and_eq_true, Bool.or_eq_true, decide_eq_true_eq, beq_iff_eq, show (2 : Int) > 0 by decide, if_true]
  omega
theorem small_ofN {a b : Int} (ha : -1000000 < a) (ha' : a < 1000000) (hb : -1000000 < b) (hb' : b < 1000000) : Builtin.Range.small a b 1 = true := small_one (by omega) (by omega) (by omega) (by omega)
theorem fr_know {h₀ h : Heap} {L : Addr} {m : Str → Option Value} {x : Str} {v : Value} (F : Fr h₀ L h m) (hx : m x = some v) : Fr h₀ L h (fun y => if y = x then some v else m y) := by
  have e : (fun y => if y = x then some v else m y) = m := funext fun y => by
    by_cases hy : y = x
    · rw [if_pos hy, hy, hx]
    · rw [if_neg hy]
  rw [e]; exact F
theorem item_at {prog : Program} {w : World} {A : Around} {E : Value → Shared → Prop} {s : Shared} {h₀ : Heap} {L l : Addr} {value slice : PySem.Expr} {news : List (Addr × Obj)} {us : List Value} {n : Nat} {k : Int} {u : Tok} {v : Value} {Q : Value → Shared → Prop} (N : News h₀ L s.heap news) (hm : (l, listOf us.toArray n) ∈ news) (hx : us[k.toNat]? = some v)
    (h0 : 0 ≤ k) (hfit : k < 2 ^ 63) (h : Q v s)
    (hs : subscripted slice false (.ref l) (.int k u) = operate [.ref l, .int k u] (getItem (.ref l) (.int k u)) := by with_unfolding_all rfl) :
    wpAny (model prog w) A (subscriptTail value slice (.ref l) (.int k u)) Q E s := by
  have hl : s.heap.IsList l us.toArray := ⟨_, (N _ hm).1, rfl, n, rfl⟩
  exact tail_any hl.typeIs slot_list_getitem.lookup (wpAny_getItem_list hl h0 hfit (by simpa using hx) h) hs
theorem kwabf : True := by
  k_with "subscriptTail" => (k_here; (with_reducible show wpAny _ _ (subscriptTail _ _ (Value.ref _) (Value.int _ _)) _ _ _); k_dflt (refine' item_at ?k1_c249 ?k2_c249 ?k3_c249 ?k5_c249 ?k6_c249 ?_ ?k7_c249; (case k1_c249 => k_asm); (case k2_c249 => k_mem); (case k3_c249 => with_reducible assumption); (case k5_c249 => omega); (case k6_c249 => omega); (case k7_c249 => with_unfolding_all rfl); k_whole))
  k_with "exec For Name Call cons nil" => (k_here; refine halt_in ?_)
  k_with "exec For Name Subscript cons nil" => (k_here; refine halt_in ?_)
  k_with "exec For Name Name cons nil" => (k_here; refine halt_in ?_)
  k_with "pyIter ref" => (k_here; (with_reducible show wpAny _ _ (pyIter (Value.ref _)) (fun it s₂ => LoopAtV _ _ _ _ _ _ _ _ _ it s₂) _ _); refine halt_in ?_)
  k_with "call type:range" => (k_here; k_dflt (first | (refine' range1_rows ?F_0dec ?N_0dec ?_; (case F_0dec => k_asm); (case N_0dec => k_asm); k_whole) | (refine' range2_rows ?F_0dec ?N_0dec ?_; (case F_0dec => k_asm); (case N_0dec => k_asm); k_whole) | (refine' range3_rows ?F_0dec ?N_0dec ?c_0dec ?_ ?p_0dec; (case F_0dec => k_asm); (case N_0dec => k_asm); (case c_0dec => decide); (case p_0dec => exact Or.inl (PyProof.noPylong_small (by omega))); k_whole)); intro _ _ _ _ _ _ _ _ _; (try dsimp only))
  k_with "call builtin:list.append" => (k_here; (with_reducible show wpAny _ _ (call (Value.builtin _) [Value.ref _, _]) _ _ _); k_dflt (refine' append_K ?k1_2bc2 ?k2_2bc2 ?k3_2bc2 ?_ ?z_2bc2; (case k1_2bc2 => k_asm); (case k2_2bc2 => k_asm); (case k3_2bc2 => k_upd); (case z_2bc2 => (simp only [List.size_toArray, sizeLine]; omega)); k_whole); intro _ _ _)
  k_with "exec While" => (k_here; refine halt_in ?_)
  trivial
/-- a loop's end, left standing -/
def Exit (P : Shared → Prop) (f : Flow) (s : Shared) : Prop := match f with
  | .next => P s
  | _ => False
theorem fr_same {h₀ h : Heap} {L : Addr} {m : Str → Option Value} {x : Str} {v v' : Option Value} (F : Fr h₀ L h (fun y => if y = x then v else if y = x then v' else m y)) : Fr h₀ L h (fun y => if y = x then v else m y) := by
  have e : (fun y => if y = x then v else if y = x then v' else m y) = (fun y => if y = x then v else m y) := funext fun y => by
    by_cases hy : y = x
    · rw [if_pos hy, if_pos hy]
    · rw [if_neg hy, if_neg hy, if_neg hy]
  rw [← e]; exact F

/-- the pairs that restore reads -/
def pairs : List (Option Int) → List (Option (Int × Int))
  | x :: y :: r => (x.bind fun a => y.map fun b => (a, b)) :: pairs r
  | _ => []
theorem datIn_encI {news : List (Addr × Obj)} {v : Value} {o : Option Int} (h : DatIn news v (encI o)) : (o = none ∧ v = .none) ∨ ∃ i t, o = some i ∧ v = .int i t := by
  cases o with
  | none => cases h; exact .inl ⟨rfl, rfl⟩
  | some i => cases h; exact .inr ⟨_, _, rfl, rfl⟩
theorem encI_at {L9 : List (Addr × Obj)} {vs : List Value} {ps : List (Option Int)} (D : DatAll L9 vs (ps.map encI)) {i : Nat} (h : i < ps.length) : ∃ v, vs[i]? = some v ∧ ((ps.getD i none = none ∧ v = .none) ∨ ∃ n t, ps.getD i none = some n ∧ v = .int n t) := by
  obtain ⟨v, e, q⟩ := D.get (k := i) (by simpa using h)
  refine ⟨v, e, ?_⟩
  have e2 : ps.getD i none = ps[i] := by rw [List.getD_eq_getElem?_getD, List.getElem?_eq_getElem h]; rfl
  rw [e2]
  refine datIn_encI (news := L9) ?_
  simpa using q
theorem pairs_length : ∀ ps : List (Option Int), (pairs ps).length = ps.length / 2
  | [] => rfl
  | [_] => by simp [pairs]
  | _ :: _ :: r => by rw [pairs, List.length_cons, pairs_length r, List.length_cons, List.length_cons]; omega
theorem pairs_get : ∀ (ps : List (Option Int)) (i : Nat), i < ps.length / 2 → (pairs ps)[i]? = some ((ps.getD (2 * i) none).bind fun a => (ps.getD (2 * i + 1) none).map fun b => (a, b))
  | [], i, h => by simp at h
  | [_], i, h => by simp at h
  | x :: y :: r, 0, _ => rfl
  | x :: y :: r, i + 1, h => by
    rw [pairs, List.getElem?_cons_succ, pairs_get r i (by simp only [List.length_cons] at h; omega)]
    have e1 : 2 * (i + 1) = 2 * i + 1 + 1 := by omega
    rw [e1]
    simp only [List.getD_cons_succ]
theorem mrest_ok {w : World} {p : Program} {loose : List Str} {mean : ExcName → Option Value} {mg mb : Str → Option Value} {dp un : Nat} {gd : Option (List Code)} {cn : Str} {cs : Scope} {a : Addr} {ccd : Value} {cl : List (Str × Addr)} {outer : List Env} {A₀ : Around} {base h₀ : Heap} {L : Addr} {m : Str → Option Value} {s : Shared} {Q E : Value → Shared → Prop} {news : List (Addr × Obj)} {x dx sp0 pl : Addr} {t0 : Tok} {vs : List Value} {k : Nat} {ps : List (Option Int)} {L9 rest : List (Addr × Obj)}
  (B : Below A₀ base outer h₀) (F : Fr h₀ L s.heap m) (X : (Mine.hd.heap_39 w.params).In h₀) (N : News h₀ L s.heap news) (T : Top p loose mean mg mb h₀) (hk : cs.kind = .function) (hnews : news = (dx, spansDict w.params t0 sp0) :: rest) (hoff : ∀ q ∈ rest, q.1 ≠ dx)
  (hx : (x, instObj 103 dx) ∈ rest) (hpl : (pl, listOf vs.toArray k) ∈ rest) (D : DatAll L9 vs (ps.map encI)) (hl : ps.length < 1000)
  (hd : dp + 3 < recursionLimit) (hu : un + 300 < cLine)
  (ret : ∀ (D : Addr) (vs' : List Value) (n' : Nat) (tl : List (Addr × Obj)) (h' : Heap) (tk' : Nat), Tups tl → DatAll tl vs' ((pairs ps).map enc) → LCg.Off1 D ((dx, spansDict w.params t0 D) :: rest) → Fr h₀ L h' m →
    News h₀ L h' ((D, listOf vs'.toArray n') :: (dx, spansDict w.params t0 D) :: (tl ++ rest)) → Q .none { s with heap := h', toks := tk' }) :
  wpAny (model PySem.Challenge.pw_ok0042_02 w) (ktrTop dp un gd cn cs L a ccd cl outer) (call (.ref 90) [.ref x, .ref pl]) Q E s := by
  subst hnews
  have hvl : vs.length < 1000 := by have := D.length; rw [List.length_map] at this; omega
  have hpl2 : ((ps.map encI).length : Int) < 1000 := by rw [List.length_map]; omega
  have hoff1 : OwnOff rest [dx] := fun q hq b hb => by rw [List.mem_singleton.mp hb]; exact hoff q hq
  show Keep PySem.Challenge.rw_ok0042_02 Mine.hd.heap_39 (wpAny _ _ _ _ _ _)
  k_fill
  unfold Keep
  refine wpAny_call ?_
  k_dflt cell_enter
  w_strict k_steps
  unfold Halt
  with_unfolding_all refine For_invVF (by k_asm) (by rfl) (by rfl) ?_
  w_strict k_steps
  unfold Halt
  rename_i fd _ l1 _ _ _ _ _ _ _ _ R1 F1 N1 _
  rw [List.length_map] at R1
  have offR := allLt_all l1.2
  refine loop_range (fun i m nx => (m (Str.ofString "self") = some (.ref x) ∧ m (Str.ofString "places") = some (.ref pl) ∧ m (Str.ofString "found") = some (.ref fd)) ∧ ∃ vs' n' tl, nx = (fd, listOf vs'.toArray n') :: (dx, spansDict w.params t0 sp0) :: (tl ++ rest) ∧ Tups tl ∧ DatAll tl vs' (((pairs ps).take i).map enc))
    (by rfl) R1 (small_two (by omega)) (range_half _) F1 N1 ⟨⟨by rfl, by rfl, by rfl⟩, [], 0, [], rfl, (fun _ h => nomatch h), .nil⟩ ?_ ?_
  · rintro i t m₁ nx h tk own hi offO ⟨⟨e1, e2, e3⟩, vs', n', tl, rfl, hT, hY⟩ F2 N2
    simp only [List.cons_append, List.append_assoc] at N2
    simp only [List.map_cons] at offO
    have F3 := fr_know (x := Str.ofString "self") F2 (by rw [if_neg (by decide)]; exact e1)
    have F4 := fr_know (x := Str.ofString "places") F3 (by rw [if_neg (by decide), if_neg (by decide)]; exact e2)
    have F5 := fr_know (x := Str.ofString "found") F4 (by rw [if_neg (by decide), if_neg (by decide), if_neg (by decide)]; exact e3)
    clear F2 F3 F4 F1 N1
    obtain ⟨v0, hv0, hs0⟩ := encI_at D (i := 2 * i) (by omega)
    obtain ⟨v1, hv1, hs1⟩ := encI_at D (i := 2 * i + 1) (by omega)
    have ei0 : ((0 : Int) + (i : Int) * 2).toNat = 2 * i := by omega
    have ei1 : ((0 : Int) + (i : Int) * 2 + 1).toNat = 2 * i + 1 := by omega
    rw [← ei0] at hv0
    rw [← ei1] at hv1
    have hpl3 : (pl, listOf vs.toArray k) ∈ tl ++ (rest ++ own) := List.mem_append_right _ (List.mem_append_left _ hpl)
    have hfdl : ∀ q ∈ tl ++ (rest ++ own), q.1 ≠ fd := fun q hq => by
      rcases List.mem_append.mp hq with hq | hq
      · exact tups_off N2 (by kqd_sub) hT (by k_mem) (show Value.type "list" ≠ Value.type "tuple" by decide) q hq
      · rcases List.mem_append.mp hq with hq | hq
        · exact Nat.ne_of_lt (offR q hq)
        · exact offO q hq fd (.head _)
    have offF : OwnOff (tl ++ (rest ++ own)) [fd] := fun q hq b hb => by rw [List.mem_singleton.mp hb]; exact hfdl q hq
    have hpg := pairs_get ps i hi
    have hvs : vs'.length < 1000 := by have h9 := hY.length; rw [List.length_map, List.length_take, pairs_length] at h9; omega
    rcases hs0 with ⟨q0, rfl⟩ | ⟨a0, u0, q0, rfl⟩ <;> rcases hs1 with ⟨q1, rfl⟩ | ⟨a1, u1, q1, rfl⟩ <;> rw [q0, q1] at hpg
    all_goals w_strict k_steps
    all_goals
      rename News _ _ _ _ => N9
      simp only [List.push_toArray] at N9
    iterate 3
      · refine InvEndG.intro (nx := (fd, listOf (vs' ++ [Value.none]).toArray (n' + 1)) :: (dx, spansDict w.params t0 sp0) :: (tl ++ rest)) (by k_asm) N9 ⟨⟨by rfl, by rfl, by rfl⟩, _, _, tl, rfl, hT, ?_⟩ offO (by kqd_sub) (by kqd_sub)
        rw [take_more hpg, List.map_append]
        exact hY.append (.cons .none .nil)
    · rename ((_ : Nat) < _ ∧ _ ∧ AllLt _ (tl ++ _)) => l9
      have l10 := allLt_all l9.2.2
      rename_i DD _ _ _ _ _ _ _ _ _
      refine InvEndG.intro (nx := (fd, listOf (vs' ++ [Value.ref DD]).toArray (n' + 1)) :: (dx, spansDict w.params t0 sp0) :: (((DD, tupO a0 a1 u0 u1 0) :: tl) ++ rest)) (by k_asm) N9 ⟨⟨by rfl, by rfl, by rfl⟩, _, _, _, rfl, ?_, ?_⟩ ?_ (by kqd_sub) (by kqd_sub)
      · intro p hp
        rcases List.mem_cons.mp hp with rfl | hp
        · exact ⟨rfl, fun _ e => nomatch e⟩
        · exact hT p hp
      · rw [take_more hpg, List.map_append]
        exact (hY.mono fun p hp => List.mem_cons_of_mem _ hp).append (.cons (DatIn.tuple (vs := [_, _]) (.head _) (.cons (.int _ _) (.cons (.int _ _) .nil))) .nil)
      · intro p hp b hb
        simp only [List.cons_append, List.map_cons, List.mem_cons] at hb
        rcases hb with rfl | rfl | rfl | hb
        · exact offO p hp _ (.head _)
        · exact offO p hp _ (.tail _ (.head _))
        · exact Nat.ne_of_lt (l10 p (List.mem_append_right _ (List.mem_append_right _ hp)))
        · exact offO p hp _ (.tail _ (.tail _ hb))
  · rintro m₁ nx h tk ⟨⟨e1, e2, e3⟩, vs', n', tl, rfl, hT, hY⟩ F2 N2
    have F3 := fr_know (x := Str.ofString "self") F2 e1
    have F5 := fr_know (x := Str.ofString "found") F3 (by rw [if_neg (by decide)]; exact e3)
    clear F2 F3 F1 N1
    rw [← pairs_length, List.take_length] at hY
    have hoff2 : OwnOff (tl ++ rest) [dx] := fun q hq b hb => by
      rw [List.mem_singleton.mp hb]
      rcases List.mem_append.mp hq with hq | hq
      · exact tups_off N2 (by kqd_sub) hT (by k_mem) (show Value.type "dict" ≠ Value.type "tuple" by decide) q hq
      · exact hoff q hq
    have hx2 := List.mem_append_right tl hx
    w_strict k_steps
    exact ret fd vs' n' tl _ _ hT hY (off1_of fun q hq => by
      rcases List.mem_cons.mp hq with rfl | hq
      · exact Nat.ne_of_lt l1.1
      · exact Nat.ne_of_lt (offR q hq)) (by k_asm) (by k_asm)

theorem mrest_use {w : World} {p : Program} {loose : List Str} {mean : ExcName → Option Value} {mg mb : Str → Option Value} {dp un : Nat} {gd : Option (List Code)} {cn : Str} {cs : Scope} {a : Addr} {ccd : Value} {cl : List (Str × Addr)} {outer : List Env} {A₀ : Around} {base h₀ : Heap} {L : Addr} {m : Str → Option Value} {s : Shared} {Q E : Value → Shared → Prop} {news : List (Addr × Obj)} {x dx sp0 pl : Addr} {t0 : Tok} {vs : List Value} {k : Nat} {ps : List (Option Int)} {L9 : List (Addr × Obj)} {G : Addr → List (Addr × Obj)}
  (B : Below A₀ base outer h₀) (F : Fr h₀ L s.heap m) (X : (Mine.hd.heap_39 w.params).In h₀) (N : News h₀ L s.heap news) (T : Top p loose mean mg mb h₀) (hk : cs.kind = .function) (hx : (x, instObj 103 dx) ∈ news) (hpl : (pl, listOf vs.toArray k) ∈ news) (D : DatAll L9 vs (ps.map encI)) (hl : ps.length < 1000)
  (U : ∀ D, Upd dx (spansDict w.params t0 sp0) (spansDict w.params t0 D) news (G D))
  (hd : dp + 3 < recursionLimit) (hu : un + 300 < cLine)
  (ret : ∀ (D : Addr) (vs' : List Value) (n' : Nat) (tl : List (Addr × Obj)) (h' : Heap) (tk' : Nat), Tups tl → DatAll tl vs' ((pairs ps).map enc) → LCg.Off1 D (G D) → Fr h₀ L h' m →
    News h₀ L h' ((D, listOf vs'.toArray n') :: (G D ++ tl)) → Q .none { s with heap := h', toks := tk' }) :
  wpAny (model PySem.Challenge.pw_ok0042_02 w) (ktrTop dp un gd cn cs L a ccd cl outer) (call (.ref 90) [.ref x, .ref pl]) Q E s := by
  have hm0 := (upd_mem (U sp0)).1
  refine mrest_ok (rest := news.filter fun q => decide (q.1 ≠ dx)) (news := (dx, spansDict w.params t0 sp0) :: news.filter fun q => decide (q.1 ≠ dx)) B F X (upd_news N hm0) T hk rfl (fun q hq => by simpa using (List.mem_filter.mp hq).2) (in_rest N hx hm0 (show Value.ref 103 ≠ Value.type "dict" by decide)) (in_rest N hpl hm0 (show Value.type "list" ≠ Value.type "dict" by decide)) D hl hd hu
    (fun D vs' n' tl h' tk' hT hY o1 F' N' => ret D vs' n' tl h' tk' hT hY (off1_of fun q hq => ?_) F' (upd_back [(D, listOf vs'.toArray n')] (U D) N'))
  rcases (upd_mem (U D)).2 q hq with rfl | ⟨h5, h6⟩
  · exact off1_mem o1 _ (.head _)
  · exact off1_mem o1 _ (.tail _ (List.mem_filter.mpr ⟨h5, by simpa using h6⟩))

end
theorem kwabg : True := by
  k_with_none
  k_with "ta" => (try dsimp only)
  k_with "tb" => (try k_sweep)
  k_with "tc" => (try k_fold)
  k_with "w0" => (have hcL9 := cLine_is; (try simp only [units_in1, units_deeper, Around.mark_units, units_caller]); (try dsimp only [ktrTop]); omega)
  k_with "w1" => (k_here; (with_reducible show wpAny _ _ (call (Value.ref 114) _) _ _ _); k_dflt (refine' moved_ok ?k1_267c ?k2_267c ?k3_267c ?k4_267c ?k5_267c ?kK_267c ?hm_267c ?hd_267c ?hu_267c ?_; (case k1_267c => k_asm); (case k2_267c => k_asm); (case k3_267c => k_asm); (case k4_267c => k_asm); (case k5_267c => k_asm); (case kK_267c => first | exact rfl | assumption); (case hm_267c => k_mem); (case hd_267c => ktr_room); (case hu_267c => ke_room)))
  k_with "w2" => (refine' code_defC ?k1_73de ?k2_73de ?k3_73de ?k4_73de ?k5_73de ?kA_73de ?kF_73de ?kK_73de ?k6_73de ?k7_73de ?k8_73de ?k9_73de ?kB_73de ?kD_73de ?_ ?c2_73de ?c3_73de ?c4_73de; (case kA_73de => exact rfl); (case kF_73de => exact rfl); (case kK_73de => assumption); (case k1_73de => k_asm); (case k2_73de => k_asm); (case k3_73de => k_asm); (case k4_73de => k_asm); (case k5_73de => k_asm); (case k6_73de => k_is); (case k7_73de => k_is); (case k8_73de => ktr_room); (case k9_73de => exact BindsTo.of_eq rfl); (case kB_73de => exact rfl); (case kD_73de => decide +kernel); (case c2_73de => exact rfl); (case c3_73de => exact rfl); (case c4_73de => exact rfl); k_whole)
  k_with "w3" => (k_here; (with_reducible show wpAny _ _ (subscriptTail _ (PySem.Expr.Slice _ _ none _) (Value.ref _) (Value.ref _)) _ _ _); k_dflt (refine' slice_to ?F_7f9f ?N_7f9f ?l_7f9f ?p_7f9f ?q_7f9f ?e_7f9f ?z_7f9f ?_ ?s_7f9f ?t_7f9f; (case F_7f9f => k_asm); (case N_7f9f => k_asm); (case l_7f9f => k_mem); (case p_7f9f => kmk_part); (case q_7f9f => kmk_part); (case e_7f9f => first | exact pick_upto (by omega) | exact pick_from (by omega) | exact pick_part (by omega) (by omega) | exact pick_less (by omega)); (case s_7f9f => with_unfolding_all rfl); (case t_7f9f => kmk_pure); (case z_7f9f => omega)))
  k_with "w4" => (k_here; (with_reducible show wpAny _ _ (call (Value.type _) [Value.ref _]) _ _ _); k_dflt (first | (refine' copyL ?F_06eb ?N_06eb ?m_06eb ?z_06eb ?_; (case F_06eb => k_asm); (case N_06eb => k_asm); (case m_06eb => k_mem); (case z_06eb => omega)) | (refine' copyT ?F_06eb ?N_06eb ?m_06eb ?_; (case F_06eb => k_asm); (case N_06eb => k_asm); (case m_06eb => k_mem))))
  k_with "w5" => (k_here; (with_reducible show wpAny _ _ (binaryOp _ (Value.ref _) (Value.ref _)) _ _ _); k_dflt (refine' addL ?F_f34b ?N_f34b ?a_f34b ?b_f34b ?z_f34b ?_; (case F_f34b => k_asm); (case N_f34b => k_asm); (case a_f34b => k_mem); (case b_f34b => k_mem); (case z_f34b => first | omega | (simp only [List.length_cons, List.length_nil]; omega))))
  k_with "w6" => (refine' code_def ?k1_91da ?k2_91da ?k3_91da ?k4_91da ?k5_91da ?kA_91da ?kF_91da ?kK_91da ?k6_91da ?k7_91da ?k8_91da ?k9_91da ?kB_91da ?_ ?c2_91da ?c3_91da ?c4_91da ?c5_91da; (case kA_91da => exact rfl); (case kF_91da => exact rfl); (case kK_91da => first | exact rfl | assumption); (case k1_91da => k_asm); (case k2_91da => k_asm); (case k3_91da => k_asm); (case k4_91da => k_asm); (case k5_91da => k_asm); (case k6_91da => k_is); (case k7_91da => k_is); (case k8_91da => ktr_room); (case k9_91da => exact BindsTo.of_eq rfl); (case c5_91da => decide); (case kB_91da => exact locs rfl); (case c2_91da => exact rfl); (case c3_91da => exact rfl); (case c4_91da => exact rfl); k_whole)
  k_with "w7" => (refine' code_defC ?k1_e452 ?k2_e452 ?k3_e452 ?k4_e452 ?k5_e452 ?kA_e452 ?kF_e452 ?kK_e452 ?k6_e452 ?k7_e452 ?k8_e452 ?k9_e452 ?kB_e452 ?kD_e452 ?_ ?c2_e452 ?c3_e452 ?c4_e452; (case kA_e452 => exact rfl); (case kF_e452 => exact rfl); (case kK_e452 => first | exact rfl | assumption); (case k1_e452 => k_asm); (case k2_e452 => k_asm); (case k3_e452 => k_asm); (case k4_e452 => k_asm); (case k5_e452 => k_asm); (case k6_e452 => k_is); (case k7_e452 => k_is); (case k8_e452 => ktr_room); (case k9_e452 => exact BindsTo.of_eq rfl); (case kB_e452 => exact rfl); (case kD_e452 => decide +kernel); (case c2_e452 => exact rfl); (case c3_e452 => exact rfl); (case c4_e452 => exact rfl); k_whole)
  k_with "w8" => (refine neN ?_; (try dsimp only); first | with_reducible assumption | (with_reducible refine Ne.symm ?_; with_reducible assumption) | (with_reducible refine Nat.ne_of_lt ?_; with_reducible assumption) | (with_reducible refine Nat.ne_of_gt ?_; with_reducible assumption))
  k_with "w9" => first | with_reducible assumption | exact in_of_fr (by with_reducible assumption) (by with_reducible assumption)
  k_with "w10" => (k_here; (with_reducible show wpAny _ _ (call (Value.ref 121) _) _ _ _); k_dflt (refine' draw2_use ?k1_44b5 ?k2_44b5 ?k3_44b5 ?k4_44b5 ?k5_44b5 ?kK_44b5 ?U_44b5 ?hl0_44b5 ?hne_44b5 ?hi_44b5 ?hl_44b5 ?hc0_44b5 ?hc1_44b5 ?hm_44b5 ?hm2_44b5 ?hd_44b5 ?hu_44b5 ?_; (case k1_44b5 => k_asm); (case k2_44b5 => k_asm); (case k3_44b5 => k_asm); (case k4_44b5 => k_asm); (case k5_44b5 => k_asm); (case kK_44b5 => first | exact rfl | assumption); (case U_44b5 => (intro _; k_upd)); (case hl0_44b5 => k_mem); (case hne_44b5 => k_ne); (case hi_44b5 => with_reducible assumption); (case hl_44b5 => assumption); (case hc0_44b5 => omega); (case hc1_44b5 => omega); (case hm_44b5 => omega); (case hm2_44b5 => omega); (case hd_44b5 => ktr_room); (case hu_44b5 => ke_room)))
  k_with "w11" => (k_here; (with_reducible show wpAny _ _ (call (Value.ref 100) _) _ _ _); k_dflt (refine' mrepl_use ?k1_f4fd ?k2_f4fd ?k3_f4fd ?k4_f4fd ?k5_f4fd ?kK_f4fd ?hx_f4fd ?hsp_f4fd ?D_f4fd ?sub_f4fd ?TL_f4fd ?hl_f4fd ?U_f4fd ?hd_f4fd ?hu_f4fd ?_; (case k1_f4fd => k_asm); (case k2_f4fd => k_asm); (case k3_f4fd => k_asm); (case k4_f4fd => k_asm); (case k5_f4fd => k_asm); (case kK_f4fd => first | exact rfl | assumption); (case hx_f4fd => k_mem); (case U_f4fd => (intro _; k_upd)); (case hsp_f4fd => k_mem); (case D_f4fd => with_reducible assumption); (case sub_f4fd => kqd_sub); (case TL_f4fd => with_reducible assumption); (case hl_f4fd => omega); (case hd_f4fd => ktr_room); (case hu_f4fd => ke_room)))
  k_with "w12" => (k_here; (with_reducible show wpAny _ _ (call (Value.ref 83) _) _ _ _); k_dflt (refine' mlist_ok ?k1_04f8 ?k2_04f8 ?k3_04f8 ?k4_04f8 ?k5_04f8 ?kK_04f8 ?hx_04f8 ?hdx_04f8 ?hsp_04f8 ?D_04f8 ?sub_04f8 ?hl_04f8 ?hd_04f8 ?hu_04f8 ?_; (case k1_04f8 => k_asm); (case k2_04f8 => k_asm); (case k3_04f8 => k_asm); (case k4_04f8 => k_asm); (case k5_04f8 => k_asm); (case kK_04f8 => first | exact rfl | assumption); (case hx_04f8 => k_mem); (case hdx_04f8 => k_mem); (case hsp_04f8 => k_mem); (case D_04f8 => with_reducible assumption); (case sub_04f8 => kqd_sub); (case hl_04f8 => omega); (case hd_04f8 => ktr_room); (case hu_04f8 => ke_room)))
  k_with "w13" => (k_here; (with_reducible show wpAny _ _ (call (Value.ref 90) _) _ _ _); k_dflt (refine' mrest_use ?k1_b474 ?k2_b474 ?k3_b474 ?k4_b474 ?k5_b474 ?kK_b474 ?hx_b474 ?hpl_b474 ?D_b474 ?hl_b474 ?U_b474 ?hd_b474 ?hu_b474 ?_; (case k1_b474 => k_asm); (case k2_b474 => k_asm); (case k3_b474 => k_asm); (case k4_b474 => k_asm); (case k5_b474 => k_asm); (case kK_b474 => first | exact rfl | assumption); (case hx_b474 => k_mem); (case U_b474 => (intro _; k_upd)); (case hpl_b474 => k_mem); (case D_b474 => first | with_reducible assumption | exact (by with_reducible assumption : ∀ t : Tok, DatAll [] (_ ++ [Value.int 1 t]) _) _); (case hl_b474 => omega); (case hd_b474 => ktr_room); (case hu_b474 => ke_room)))
  k_with "w14" => (k_here; (with_reducible show wpAny _ _ (call (Value.ref 95) _) _ _ _); k_dflt (refine' mtran_use ?k1_20f7 ?k2_20f7 ?k3_20f7 ?k4_20f7 ?k5_20f7 ?kK_20f7 ?hx_20f7 ?hsp_20f7 ?D_20f7 ?sub_20f7 ?TL_20f7 ?hl_20f7 ?U_20f7 ?hd_20f7 ?hu_20f7 ?_; (case k1_20f7 => k_asm); (case k2_20f7 => k_asm); (case k3_20f7 => k_asm); (case k4_20f7 => k_asm); (case k5_20f7 => k_asm); (case kK_20f7 => first | exact rfl | assumption); (case hx_20f7 => k_mem); (case U_20f7 => (intro _; k_upd)); (case hsp_20f7 => k_mem); (case D_20f7 => with_reducible assumption); (case sub_20f7 => kqd_sub); (case TL_20f7 => with_reducible assumption); (case hl_20f7 => omega); (case hd_20f7 => ktr_room); (case hu_20f7 => ke_room)))
  k_with "w15" => (k_here; (with_reducible show wpAny _ _ (call (Value.ref 140) _) _ _ _); k_dflt (refine' llisted_ok ?k1_aa7c ?k2_aa7c ?k3_aa7c ?k4_aa7c ?k5_aa7c ?kK_aa7c ?hsp_aa7c ?D_aa7c ?sub_aa7c ?hl_aa7c ?hd_aa7c ?hu_aa7c ?_; (case k1_aa7c => k_asm); (case k2_aa7c => k_asm); (case k3_aa7c => k_asm); (case k4_aa7c => k_asm); (case k5_aa7c => k_asm); (case kK_aa7c => first | exact rfl | assumption); (case hsp_aa7c => k_mem); (case D_aa7c => with_reducible assumption); (case sub_aa7c => kqd_sub); (case hl_aa7c => omega); (case hd_aa7c => ktr_room); (case hu_aa7c => ke_room)))
  k_with "w16" => (k_here; (with_reducible show wpAny _ _ (binaryOp _ (Value.ref _) (Value.ref _)) _ _ _); k_dflt (refine' addL ?F_261b ?N_261b ?a_261b ?b_261b ?z_261b ?_; (case F_261b => k_asm); (case N_261b => k_asm); (case a_261b => k_mem); (case b_261b => k_mem); (case z_261b => first | omega | (simp only [List.length_cons, List.length_nil, List.length_replicate]; omega))))
  k_with "w17" => (k_here; (with_reducible show wpAny _ _ (binaryOp Operator.Mult (Value.ref _) (Value.int _ _)) _ _ _); k_dflt (refine' mul2 ?F_452d ?N_452d ?l_452d ?e_452d ?z_452d ?_; (case F_452d => k_asm); (case N_452d => k_asm); (case l_452d => k_mem); (case e_452d => omega); (case z_452d => omega)))
  k_with "WPost" => (dsimp only [WPost])
  k_with "call builtin:len" => (k_here; (with_reducible show wpAny _ _ (call (Value.builtin "len") [Value.ref _]) _ _ _); k_dflt (refine' kd_len ?k1_eae0 ?k2_eae0 ?k3_eae0 ?k4_eae0 ?_; (case k1_eae0 => k_asm); (case k2_eae0 => k_mem); (case k3_eae0 => with_reducible assumption); (case k4_eae0 => omega); k_whole))
  k_with "subscriptTail" => (k_here; (with_reducible show wpAny _ _ (subscriptTail _ _ (Value.ref _) (Value.int _ _)) _ _ _); k_dflt (refine' item_dat ?k1_b351 ?k2_b351 ?k3_b351 ?k4_b351 ?k5_b351 ?k6_b351 ?_ ?k7_b351; (case k1_b351 => k_asm); (case k2_b351 => k_mem); (case k3_b351 => with_reducible assumption); (case k4_b351 => omega); (case k5_b351 => omega); (case k6_b351 => omega); (case k7_b351 => with_unfolding_all rfl); k_whole); intro _ _)
  trivial

theorem kwabh : True := by
  k_with "subscriptTail" => (k_here; (with_reducible show wpAny _ _ (subscriptTail _ _ (Value.ref _) (Value.int _ _)) _ _ _); k_dflt (refine' item_at ?k1_c249 ?k2_c249 ?k3_c249 ?k5_c249 ?k6_c249 ?_ ?k7_c249; (case k1_c249 => k_asm); (case k2_c249 => k_mem); (case k3_c249 => with_reducible assumption); (case k5_c249 => omega); (case k6_c249 => omega); (case k7_c249 => with_unfolding_all rfl); k_whole))
  k_with "exec For Name Call cons nil" => (k_here; refine halt_in ?_)
  k_with "exec For Name Subscript cons nil" => (k_here; refine halt_in ?_)
  k_with "exec For Name Name cons nil" => (k_here; refine halt_in ?_)
  k_with "pyIter ref" => (k_here; (with_reducible show wpAny _ _ (pyIter (Value.ref _)) (fun it s₂ => LoopAtV _ _ _ _ _ _ _ _ _ it s₂) _ _); refine halt_in ?_)
  k_with "call type:range" => (k_here; k_dflt (first | (refine' range1_rows ?F_0dec ?N_0dec ?_; (case F_0dec => k_asm); (case N_0dec => k_asm); k_whole) | (refine' range2_rows ?F_0dec ?N_0dec ?_; (case F_0dec => k_asm); (case N_0dec => k_asm); k_whole) | (refine' range3_rows ?F_0dec ?N_0dec ?c_0dec ?_ ?p_0dec; (case F_0dec => k_asm); (case N_0dec => k_asm); (case c_0dec => decide); (case p_0dec => exact Or.inl (PyProof.noPylong_small (by omega))); k_whole)); intro _ _ _ _ _ _ _ _ _; (try dsimp only))
  k_with "call builtin:list.append" => (k_here; (with_reducible show wpAny _ _ (call (Value.builtin _) [Value.ref _, _]) _ _ _); k_dflt (refine' append_K ?k1_2bc2 ?k2_2bc2 ?k3_2bc2 ?_ ?z_2bc2; (case k1_2bc2 => k_asm); (case k2_2bc2 => k_asm); (case k3_2bc2 => k_upd); (case z_2bc2 => (simp only [List.size_toArray, sizeLine]; omega)); k_whole); intro _ _ _)
  k_with "exec While" => (k_here; refine halt_in ?_)
  trivial
local macro_rules | `(tactic| walk_at "subscriptTail Name Slice ref ref") => mw "w3" "D' h' F' N' l1" "db"
section
theorem pick_upto {vs : List Value} {y : Int} (h : 0 ≤ y) : slicePick vs.toArray none (some y) none = (vs.take y.toNat).toArray := by
  have e : sliceBounds none (some y) none vs.toArray.size = (((0 : Nat) : Int), ((min y.toNat vs.toArray.size : Nat) : Int), 1) := by
    simp only [sliceBounds, Option.getD_none, show (1 : Int) > 0 by decide, if_true, if_neg (show ¬ (y < 0) by omega)]
    congr 1
    congr 1
    omega
  rw [kmk_pick_nat _ e]
  show ((vs.drop 0).take (min y.toNat vs.toArray.size - 0)).toArray = _
  rw [List.drop_zero, Nat.sub_zero, List.size_toArray, kmk_take_min]
theorem pick_from {vs : List Value} {x : Int} (h : 0 ≤ x) : slicePick vs.toArray (some x) none none = (vs.drop x.toNat).toArray := by
  have e : sliceBounds (some x) none none vs.toArray.size = (((min x.toNat vs.toArray.size : Nat) : Int), ((vs.toArray.size : Nat) : Int), 1) := by
    simp only [sliceBounds, Option.getD_none, show (1 : Int) > 0 by decide, if_true, if_neg (show ¬ (x < 0) by omega)]
    congr 1
    omega
  rw [kmk_pick_nat _ e]
  show ((vs.drop (min x.toNat vs.toArray.size)).take (vs.toArray.size - min x.toNat vs.toArray.size)).toArray = _
  rw [List.size_toArray, kmk_drop_min, List.take_of_length_le (by rw [List.length_drop]; omega)]
theorem pick_part {vs : List Value} {x y : Int} (h : 0 ≤ x) (h2 : 0 ≤ y) : slicePick vs.toArray (some x) (some y) none = ((vs.drop x.toNat).take (y.toNat - x.toNat)).toArray := by
  have e : sliceBounds (some x) (some y) none vs.toArray.size = (((min x.toNat vs.toArray.size : Nat) : Int), ((min y.toNat vs.toArray.size : Nat) : Int), 1) := by
    simp only [sliceBounds, Option.getD_none, show (1 : Int) > 0 by decide, if_true, if_neg (show ¬ (x < 0) by omega), if_neg (show ¬ (y < 0) by omega)]
    congr 1
    · omega
    · congr 1
      omega
  rw [kmk_pick_nat _ e]
  show ((vs.drop (min x.toNat vs.toArray.size)).take (min y.toNat vs.toArray.size - min x.toNat vs.toArray.size)).toArray = _
  rw [List.size_toArray, kmk_drop_min]
  congr 1
  by_cases hx : x.toNat ≤ vs.length
  · by_cases hy : y.toNat ≤ vs.length
    · rw [Nat.min_eq_left hx, Nat.min_eq_left hy]
    · rw [Nat.min_eq_left hx, Nat.min_eq_right (by omega), List.take_of_length_le (by rw [List.length_drop]; omega), List.take_of_length_le (by rw [List.length_drop]; omega)]
  · rw [List.drop_of_length_le (by omega), List.take_nil, List.take_nil]
theorem pick_less {vs : List Value} {y : Int} (h : y < 0) : slicePick vs.toArray none (some y) none = (vs.take (vs.length - (-y).toNat)).toArray := by
  have e : sliceBounds none (some y) none vs.toArray.size = (((0 : Nat) : Int), ((vs.toArray.size - (-y).toNat : Nat) : Int), 1) := by
    simp only [sliceBounds, Option.getD_none, show (1 : Int) > 0 by decide, if_true, if_pos h]
    congr 1
    congr 1
    omega
  rw [kmk_pick_nat _ e]
  show ((vs.drop 0).take (vs.toArray.size - (-y).toNat - 0)).toArray = _
  rw [List.drop_zero, Nat.sub_zero, List.size_toArray]
section
variable {prog : Program} {w : World} {A : Around} {E : Value → Shared → Prop} {s : Shared} {h₀ : Heap} {L l : Addr} {m : Str → Option Value} {news : List (Addr × Obj)} {value slice : PySem.Expr} {vs zs : List Value} {n : Nat} {vl vu : Value} {lo hi : Option Int} {Q : Value → Shared → Prop}
theorem slice_to (F : Fr h₀ L s.heap m) (N : News h₀ L s.heap news) (hm : (l, listOf vs.toArray n) ∈ news) (pl : IsPart vl lo) (pu : IsPart vu hi) (e : slicePick vs.toArray lo hi none = zs.toArray) (hz : vs.length < 100000)
    (h : ∀ D h', Fr h₀ L h' m → News h₀ L h' ((D, listOf zs.toArray 0) :: news) → (∀ p ∈ news, p.1 < D) → Q (.ref D) { s with heap := h' })
    (hs : subscripted slice false (.ref l) (.ref s.heap.objs.size) = operate [.ref s.heap.objs.size, .ref l] (getItem (.ref l) (.ref s.heap.objs.size))) (ht : ∀ r, letTemporaryGo value (.ref l) r = pure ()) :
    wpAny (model prog w) A (subscriptTail value slice (.ref l) (.ref s.heap.objs.size)) Q E { s with heap := s.heap.push { cls := .type "slice", data := .fields #[vl, vu, .none] } } := by
  refine kmk_slice F N ⟨_, (N _ hm).1, rfl, n, rfl⟩ pl pu (fun D h' F' N' l1 => h D h' F' ?_ l1) hs ht (by rw [List.size_toArray]; simp only [sizeLine]; omega)
  rw [← e]; exact N'
end

theorem ext2 {prog : Program} {w : World} {A : Around} {E : Value → Shared → Prop} {s : Shared} {h₀ : Heap} {L D b : Addr} {m : Str → Option Value} {news news' : List (Addr × Obj)} {us : List Value} {x y : Value} {n n2 : Nat} {Q : Value → Shared → Prop} (F : Fr h₀ L s.heap m) (N : News h₀ L s.heap news) (hb : (b, listOf [x, y].toArray n2) ∈ news)
    (U : Upd D (listOf us.toArray n) (listOf (us ++ [x, y]).toArray (n + 1)) news news') (hz : us.length < 10000) (h : ∀ h', Fr h₀ L h' m → News h₀ L h' news' → Q .none { s with heap := h' }) :
    wpAny (model prog w) A (call (.builtin "list.extend") [.ref D, .ref b]) Q E s :=
  kl_extend F N hb (by simp) (by simp) U (by simp [Builtin.List.listTooLong, sizeLine]; omega) (by simp [sizeLine]; omega) (by simp [sizeLine]; omega) h

theorem kwabi : True := by
  k_with "call builtin:list.extend" => (k_here; (with_reducible show wpAny _ _ (call (Value.builtin _) [Value.ref _, Value.ref _]) _ _ _); k_dflt (refine' ext2 ?F_5b0c ?N_5b0c ?b_5b0c ?U_5b0c ?z_5b0c ?_; (case F_5b0c => k_asm); (case N_5b0c => k_asm); (case b_5b0c => k_mem); (case U_5b0c => k_upd); (case z_5b0c => omega)); intro _ _ _)
  trivial
/-- a list of groups without those at its end that took no part; its places in a row -/
def strip {α : Type} : List (Option α) → List (Option α)
  | [] => []
  | none :: r => (match strip r with
    | [] => []
    | r' => none :: r')
  | some x :: r => some x :: strip r
def flat : List (Option (Int × Int)) → List (Option Int)
  | [] => []
  | o :: r => o.map Prod.fst :: o.map Prod.snd :: flat r
theorem strip_none {α : Type} : ∀ l : List (Option α), strip (l ++ [none]) = strip l
  | [] => rfl
  | none :: r => by rw [List.cons_append, strip, strip, strip_none r]
  | some x :: r => by rw [List.cons_append, strip, strip, strip_none r]
theorem strip_some {α : Type} (x : α) : ∀ l : List (Option α), strip (l ++ [some x]) = l ++ [some x]
  | [] => rfl
  | none :: r => by
    rw [List.cons_append, strip, strip_some x r]
    cases r <;> rfl
  | some y :: r => by rw [List.cons_append, strip, strip_some x r]
theorem flat_app : ∀ l r : List (Option (Int × Int)), flat (l ++ r) = flat l ++ flat r
  | [], _ => rfl
  | o :: l, r => by rw [List.cons_append, flat, flat, flat_app l r]; rfl

theorem datAll_take {news : List (Addr × Obj)} : ∀ {vs : List Value} {ds : List Dat} (k : Nat), DatAll news vs ds → DatAll news (vs.take k) (ds.take k)
  | _, _, 0, _ => by rw [List.take_zero, List.take_zero]; exact .nil
  | _, _, _ + 1, .nil => .nil
  | _, _, k + 1, .cons h r => .cons h (datAll_take k r)
theorem flat_length : ∀ os : List (Option (Int × Int)), (flat os).length = 2 * os.length
  | [] => rfl
  | _ :: r => by rw [flat, List.length_cons, List.length_cons, flat_length r, List.length_cons]; omega
theorem mlist_ok {w : World} {p : Program} {loose : List Str} {mean : ExcName → Option Value} {mg mb : Str → Option Value} {dp un : Nat} {gd : Option (List Code)} {cn : Str} {cs : Scope} {a : Addr} {ccd : Value} {cl : List (Str × Addr)} {outer : List Env} {A₀ : Around} {base h₀ : Heap} {L : Addr} {m : Str → Option Value} {s : Shared} {Q E : Value → Shared → Prop} {news : List (Addr × Obj)} {x dx sp : Addr} {t0 : Tok} {vs : List Value} {k : Nat} {os : List (Option (Int × Int))} {L9 : List (Addr × Obj)}
  (B : Below A₀ base outer h₀) (F : Fr h₀ L s.heap m) (X : (Mine.hd.heap_39 w.params).In h₀) (N : News h₀ L s.heap news) (T : Top p loose mean mg mb h₀) (hk : cs.kind = .function) (hx : (x, instObj 103 dx) ∈ news) (hdx : (dx, spansDict w.params t0 sp) ∈ news) (hsp : (sp, listOf vs.toArray k) ∈ news) (D : DatAll L9 vs (os.map enc)) (sub : ∀ p ∈ L9, p ∈ news) (hl : os.length < 1000)
  (hd : dp + 2 < recursionLimit) (hu : un + 200 < cLine)
  (ret : ∀ (D : Addr) (vs' : List Value) (n' : Nat) (h' : Heap) (tk' : Nat), DatAll [] vs' ((flat (strip os)).map encI) → (∀ q ∈ news, q.1 < D) → Fr h₀ L h' m → News h₀ L h' ((D, listOf vs'.toArray n') :: news) → Q (.ref D) { s with heap := h', toks := tk' }) :
  wpAny (model PySem.Challenge.pw_ok0042_02 w) (ktrTop dp un gd cn cs L a ccd cl outer) (call (.ref 83) [.ref x]) Q E s := by
  have hlen : ((os.map enc).length : Int) < 1000 := by rw [List.length_map]; omega
  show Keep PySem.Challenge.rw_ok0042_02 Mine.hd.heap_39 (wpAny _ _ _ _ _ _)
  k_fill
  unfold Keep
  refine wpAny_call ?_
  k_dflt cell_enter
  rename_i g LL h1 FG F0 N0 B0 X0 T0
  w_strict k_steps
  unfold Halt
  rename Fr _ _ _ _ => F1
  rename News _ _ _ _ => N1
  rw [List.length_map] at F1
  have hvl := D.length
  rw [List.length_map] at hvl
  refine wpAny_mono (Q := Exit fun s' => ∃ (j : Nat) (t : Tok) (h' : Heap) (tk' : Nat), s' = { s with heap := h', toks := tk' } ∧ j ≤ os.length ∧ os.take j = strip os ∧ Fr g LL h' (fun y => if y = Str.ofString "many" then some (.int (j : Int) t) else List.lookup y [(Str.ofString "self", .ref x)]) ∧ News g LL h' news) ?_ ?_ (fun _ _ e => e)
  · refine whl_inv (fun j s' => ∃ (t : Tok) (h' : Heap) (tk' : Nat), s' = { s with heap := h', toks := tk' } ∧ j ≤ os.length ∧ strip (os.take j) = strip os ∧ Fr g LL h' (fun y => if y = Str.ofString "many" then some (.int (j : Int) t) else List.lookup y [(Str.ofString "self", .ref x)]) ∧ News g LL h' news)
      os.length ⟨_, _, _, rfl, Nat.le_refl _, by rw [List.take_length], F1, N1⟩ (by with_unfolding_all passes_own) ?_
    clear F1 N1
    rintro R j _ ⟨t, h1, tk1, rfl, hj, hs, F2, N2⟩ IH
    by_cases h0 : j = 0
    · subst h0
      w_strict k_steps
      exact ⟨0, _, _, _, rfl, by omega, by simpa [strip] using hs, by k_asm, by k_asm⟩
    · obtain ⟨v, hv, hv2⟩ := D.get (k := j - 1) (by rw [List.length_map]; omega)
      have hv3 : DatIn L9 v (enc (os.getD (j - 1) none)) := by
        rw [← getD_enc, List.getD_eq_getElem?_getD, List.getElem?_eq_getElem (by rw [List.length_map]; omega)]; exact hv2
      clear hv2
      have ej : ((j : Int) - 1).toNat = j - 1 := by omega
      have et : os.take j = os.take (j - 1) ++ [os.getD (j - 1) none] := by
        have e1 : j = (j - 1) + 1 := by omega
        rw [e1, take_more (o := os.getD (j - 1) none) (by rw [List.getD_eq_getElem?_getD, List.getElem?_eq_getElem (by omega)]; rfl)]
        rfl
      rw [← ej] at hv
      rcases datIn_enc hv3 with ⟨e3, rfl⟩ | ⟨a9, b9, t9, u9, ad, n9, e3, rfl, hm⟩
      · w_strict k_steps
        rename Fr g LL _ _ => F9
        have F10 := fr_same F9
        have ec : (j : Int) - 1 = ((j - 1 : Nat) : Int) := by omega
        rw [ec] at F10
        exact IH (j - 1) _ (by omega) ⟨_, _, _, rfl, by omega, by rw [et, e3, strip_none] at hs; exact hs, F10, by k_asm⟩
      · have hm9 := sub _ hm
        w_strict k_steps
        exact ⟨j, _, _, _, rfl, by omega, by rw [et, e3, strip_some] at hs; rw [et, e3]; exact hs, by k_asm, by k_asm⟩
  · rintro f s' hq
    cases f <;> try exact hq.elim
    obtain ⟨j, t, h1, tk1, rfl, hj, hs, F2, N2⟩ := hq
    clear F1 N1
    dsimp only
    w_strict k_steps
    unfold Halt
    with_unfolding_all refine For_invVF (by k_asm) (by rfl) (by rfl) ?_
    w_strict k_steps
    rename_i fd _ lfd _ DL _ F3 N3 l3
    unfold Halt
    have hjn : ((j : Int)).toNat = j := by omega
    rw [hjn] at N3
    have D2 := datAll_take j D
    rw [← List.map_take] at D2
    have hvl2 : (vs.take j).length = j := by rw [List.length_take]; omega
    refine kdl_iter (nn := 0) (vs := vs.take j) (fun i m nx => m (Str.ofString "found") = some (.ref fd) ∧ ∃ vs' n', nx = (fd, listOf vs'.toArray n') :: (DL, listOf (vs.take j).toArray 0) :: news ∧ DatAll [] vs' ((flat ((os.take j).take i)).map encI))
      (news := (fd, listOf #[] 0) :: (DL, listOf (vs.take j).toArray 0) :: news) (by rfl) (.tail _ (.head _)) F3 (fun q hq => N3 q (by rcases List.mem_cons.mp hq with rfl | hq; exact .tail _ (.head _); rcases List.mem_cons.mp hq with rfl | hq; exact .head _; exact .tail _ (.tail _ hq))) ⟨by rfl, [], 0, rfl, .nil⟩ ?_ ?_
    · rintro i v m₁ nx h tk own hvi offO hDLm ⟨e1, vs', n', rfl, hY⟩ F4 N4
      simp only [List.cons_append] at N4
      simp only [List.map_cons] at offO
      have F5 := fr_know (x := Str.ofString "found") F4 (by rw [if_neg (by decide)]; exact e1)
      clear F4 F3 N3
      obtain ⟨o, ho, hDo⟩ := dat_at_enc D2 (by simpa using hvi)
      have hvs : vs'.length < 3000 := by have h9 := hY.length; rw [List.length_map, flat_length, List.length_take, List.length_take] at h9; omega
      have offF : OwnOff (news ++ own) [fd] := fun q hq b hb => by
        rw [List.mem_singleton.mp hb]
        rcases List.mem_append.mp hq with hq | hq
        · exact Nat.ne_of_lt (lfd q hq)
        · exact offO q hq fd (.head _)
      rcases datIn_enc hDo with ⟨rfl, rfl⟩ | ⟨a9, b9, t9, u9, ad, n9, rfl, rfl, hm⟩
      · w_strict k_steps
        refine InvEndG.intro (by k_asm) (by k_asm) ⟨.tail _ (.head _), by rfl, vs' ++ [_, _], _, rfl, ?_⟩ offO (by kqd_sub) (by kqd_sub)
        rw [take_more ho, flat_app, List.map_append]
        exact hY.append (.cons .none (.cons .none .nil))
      · have hm9 := List.mem_append_left own (sub _ hm)
        w_strict k_steps
        refine InvEndG.intro (by k_asm) (by k_asm) ⟨.tail _ (.head _), by rfl, vs' ++ [_, _], _, rfl, ?_⟩ offO (by kqd_sub) (by kqd_sub)
        rw [take_more ho, flat_app, List.map_append]
        exact hY.append (.cons (.int _ _) (.cons (.int _ _) .nil))
    · rintro m₁ nx h tk ⟨e1, vs', n', rfl, hY⟩ F4 N4
      have F5 := fr_know (x := Str.ofString "found") F4 e1
      clear F4 F3 N3
      rw [hvl2, List.take_take, Nat.min_self, hs] at hY
      w_strict k_steps
      exact ret fd vs' n' _ _ hY lfd (by k_asm) (cb_drop (by assumption) (by kqd_sub))

end
theorem kwabj : True := by
  k_with_none
  k_with "ta" => (try dsimp only)
  k_with "tb" => (try k_sweep)
  k_with "tc" => (try k_fold)
  k_with "w0" => (have hcL9 := cLine_is; (try simp only [units_in1, units_deeper, Around.mark_units, units_caller]); (try dsimp only [ktrTop]); omega)
  k_with "w1" => (k_here; (with_reducible show wpAny _ _ (call (Value.ref 114) _) _ _ _); k_dflt (refine' moved_ok ?k1_267c ?k2_267c ?k3_267c ?k4_267c ?k5_267c ?kK_267c ?hm_267c ?hd_267c ?hu_267c ?_; (case k1_267c => k_asm); (case k2_267c => k_asm); (case k3_267c => k_asm); (case k4_267c => k_asm); (case k5_267c => k_asm); (case kK_267c => first | exact rfl | assumption); (case hm_267c => k_mem); (case hd_267c => ktr_room); (case hu_267c => ke_room)))
  k_with "w2" => (refine' code_defC ?k1_73de ?k2_73de ?k3_73de ?k4_73de ?k5_73de ?kA_73de ?kF_73de ?kK_73de ?k6_73de ?k7_73de ?k8_73de ?k9_73de ?kB_73de ?kD_73de ?_ ?c2_73de ?c3_73de ?c4_73de; (case kA_73de => exact rfl); (case kF_73de => exact rfl); (case kK_73de => assumption); (case k1_73de => k_asm); (case k2_73de => k_asm); (case k3_73de => k_asm); (case k4_73de => k_asm); (case k5_73de => k_asm); (case k6_73de => k_is); (case k7_73de => k_is); (case k8_73de => ktr_room); (case k9_73de => exact BindsTo.of_eq rfl); (case kB_73de => exact rfl); (case kD_73de => decide +kernel); (case c2_73de => exact rfl); (case c3_73de => exact rfl); (case c4_73de => exact rfl); k_whole)
  k_with "w3" => (k_here; (with_reducible show wpAny _ _ (subscriptTail _ (PySem.Expr.Slice _ _ none _) (Value.ref _) (Value.ref _)) _ _ _); k_dflt (refine' slice_to ?F_7f9f ?N_7f9f ?l_7f9f ?p_7f9f ?q_7f9f ?e_7f9f ?z_7f9f ?_ ?s_7f9f ?t_7f9f; (case F_7f9f => k_asm); (case N_7f9f => k_asm); (case l_7f9f => k_mem); (case p_7f9f => kmk_part); (case q_7f9f => kmk_part); (case e_7f9f => first | exact pick_upto (by omega) | exact pick_from (by omega) | exact pick_part (by omega) (by omega) | exact pick_less (by omega)); (case s_7f9f => with_unfolding_all rfl); (case t_7f9f => kmk_pure); (case z_7f9f => omega)))
  k_with "w4" => (k_here; (with_reducible show wpAny _ _ (call (Value.type _) [Value.ref _]) _ _ _); k_dflt (first | (refine' copyL ?F_06eb ?N_06eb ?m_06eb ?z_06eb ?_; (case F_06eb => k_asm); (case N_06eb => k_asm); (case m_06eb => k_mem); (case z_06eb => omega)) | (refine' copyT ?F_06eb ?N_06eb ?m_06eb ?_; (case F_06eb => k_asm); (case N_06eb => k_asm); (case m_06eb => k_mem))))
  k_with "w5" => (k_here; (with_reducible show wpAny _ _ (binaryOp _ (Value.ref _) (Value.ref _)) _ _ _); k_dflt (refine' addL ?F_f34b ?N_f34b ?a_f34b ?b_f34b ?z_f34b ?_; (case F_f34b => k_asm); (case N_f34b => k_asm); (case a_f34b => k_mem); (case b_f34b => k_mem); (case z_f34b => first | omega | (simp only [List.length_cons, List.length_nil]; omega))))
  k_with "w6" => (refine' code_def ?k1_91da ?k2_91da ?k3_91da ?k4_91da ?k5_91da ?kA_91da ?kF_91da ?kK_91da ?k6_91da ?k7_91da ?k8_91da ?k9_91da ?kB_91da ?_ ?c2_91da ?c3_91da ?c4_91da ?c5_91da; (case kA_91da => exact rfl); (case kF_91da => exact rfl); (case kK_91da => first | exact rfl | assumption); (case k1_91da => k_asm); (case k2_91da => k_asm); (case k3_91da => k_asm); (case k4_91da => k_asm); (case k5_91da => k_asm); (case k6_91da => k_is); (case k7_91da => k_is); (case k8_91da => ktr_room); (case k9_91da => exact BindsTo.of_eq rfl); (case c5_91da => decide); (case kB_91da => exact locs rfl); (case c2_91da => exact rfl); (case c3_91da => exact rfl); (case c4_91da => exact rfl); k_whole)
  k_with "w7" => (refine' code_defC ?k1_e452 ?k2_e452 ?k3_e452 ?k4_e452 ?k5_e452 ?kA_e452 ?kF_e452 ?kK_e452 ?k6_e452 ?k7_e452 ?k8_e452 ?k9_e452 ?kB_e452 ?kD_e452 ?_ ?c2_e452 ?c3_e452 ?c4_e452; (case kA_e452 => exact rfl); (case kF_e452 => exact rfl); (case kK_e452 => first | exact rfl | assumption); (case k1_e452 => k_asm); (case k2_e452 => k_asm); (case k3_e452 => k_asm); (case k4_e452 => k_asm); (case k5_e452 => k_asm); (case k6_e452 => k_is); (case k7_e452 => k_is); (case k8_e452 => ktr_room); (case k9_e452 => exact BindsTo.of_eq rfl); (case kB_e452 => exact rfl); (case kD_e452 => decide +kernel); (case c2_e452 => exact rfl); (case c3_e452 => exact rfl); (case c4_e452 => exact rfl); k_whole)
  k_with "w8" => (refine neN ?_; (try dsimp only); first | with_reducible assumption | (with_reducible refine Ne.symm ?_; with_reducible assumption) | (with_reducible refine Nat.ne_of_lt ?_; with_reducible assumption) | (with_reducible refine Nat.ne_of_gt ?_; with_reducible assumption))
  k_with "w9" => first | with_reducible assumption | exact in_of_fr (by with_reducible assumption) (by with_reducible assumption)
  k_with "w10" => (k_here; (with_reducible show wpAny _ _ (call (Value.ref 121) _) _ _ _); k_dflt (refine' draw2_use ?k1_44b5 ?k2_44b5 ?k3_44b5 ?k4_44b5 ?k5_44b5 ?kK_44b5 ?U_44b5 ?hl0_44b5 ?hne_44b5 ?hi_44b5 ?hl_44b5 ?hc0_44b5 ?hc1_44b5 ?hm_44b5 ?hm2_44b5 ?hd_44b5 ?hu_44b5 ?_; (case k1_44b5 => k_asm); (case k2_44b5 => k_asm); (case k3_44b5 => k_asm); (case k4_44b5 => k_asm); (case k5_44b5 => k_asm); (case kK_44b5 => first | exact rfl | assumption); (case U_44b5 => (intro _; k_upd)); (case hl0_44b5 => k_mem); (case hne_44b5 => k_ne); (case hi_44b5 => with_reducible assumption); (case hl_44b5 => assumption); (case hc0_44b5 => omega); (case hc1_44b5 => omega); (case hm_44b5 => omega); (case hm2_44b5 => omega); (case hd_44b5 => ktr_room); (case hu_44b5 => ke_room)))
  k_with "w11" => (k_here; (with_reducible show wpAny _ _ (call (Value.ref 100) _) _ _ _); k_dflt (refine' mrepl_use ?k1_f4fd ?k2_f4fd ?k3_f4fd ?k4_f4fd ?k5_f4fd ?kK_f4fd ?hx_f4fd ?hsp_f4fd ?D_f4fd ?sub_f4fd ?TL_f4fd ?hl_f4fd ?U_f4fd ?hd_f4fd ?hu_f4fd ?_; (case k1_f4fd => k_asm); (case k2_f4fd => k_asm); (case k3_f4fd => k_asm); (case k4_f4fd => k_asm); (case k5_f4fd => k_asm); (case kK_f4fd => first | exact rfl | assumption); (case hx_f4fd => k_mem); (case U_f4fd => (intro _; k_upd)); (case hsp_f4fd => k_mem); (case D_f4fd => with_reducible assumption); (case sub_f4fd => kqd_sub); (case TL_f4fd => with_reducible assumption); (case hl_f4fd => omega); (case hd_f4fd => ktr_room); (case hu_f4fd => ke_room)))
  k_with "w12" => (k_here; (with_reducible show wpAny _ _ (call (Value.ref 83) _) _ _ _); k_dflt (refine' mlist_ok ?k1_04f8 ?k2_04f8 ?k3_04f8 ?k4_04f8 ?k5_04f8 ?kK_04f8 ?hx_04f8 ?hdx_04f8 ?hsp_04f8 ?D_04f8 ?sub_04f8 ?hl_04f8 ?hd_04f8 ?hu_04f8 ?_; (case k1_04f8 => k_asm); (case k2_04f8 => k_asm); (case k3_04f8 => k_asm); (case k4_04f8 => k_asm); (case k5_04f8 => k_asm); (case kK_04f8 => first | exact rfl | assumption); (case hx_04f8 => k_mem); (case hdx_04f8 => k_mem); (case hsp_04f8 => k_mem); (case D_04f8 => with_reducible assumption); (case sub_04f8 => kqd_sub); (case hl_04f8 => omega); (case hd_04f8 => ktr_room); (case hu_04f8 => ke_room)))
  k_with "w13" => (k_here; (with_reducible show wpAny _ _ (call (Value.ref 90) _) _ _ _); k_dflt (refine' mrest_use ?k1_b474 ?k2_b474 ?k3_b474 ?k4_b474 ?k5_b474 ?kK_b474 ?hx_b474 ?hpl_b474 ?D_b474 ?hl_b474 ?U_b474 ?hd_b474 ?hu_b474 ?_; (case k1_b474 => k_asm); (case k2_b474 => k_asm); (case k3_b474 => k_asm); (case k4_b474 => k_asm); (case k5_b474 => k_asm); (case kK_b474 => first | exact rfl | assumption); (case hx_b474 => k_mem); (case U_b474 => (intro _; k_upd)); (case hpl_b474 => k_mem); (case D_b474 => first | with_reducible assumption | exact (by with_reducible assumption : ∀ t : Tok, DatAll [] (_ ++ [Value.int 1 t]) _) _); (case hl_b474 => omega); (case hd_b474 => ktr_room); (case hu_b474 => ke_room)))
  k_with "w14" => (k_here; (with_reducible show wpAny _ _ (call (Value.ref 95) _) _ _ _); k_dflt (refine' mtran_use ?k1_20f7 ?k2_20f7 ?k3_20f7 ?k4_20f7 ?k5_20f7 ?kK_20f7 ?hx_20f7 ?hsp_20f7 ?D_20f7 ?sub_20f7 ?TL_20f7 ?hl_20f7 ?U_20f7 ?hd_20f7 ?hu_20f7 ?_; (case k1_20f7 => k_asm); (case k2_20f7 => k_asm); (case k3_20f7 => k_asm); (case k4_20f7 => k_asm); (case k5_20f7 => k_asm); (case kK_20f7 => first | exact rfl | assumption); (case hx_20f7 => k_mem); (case U_20f7 => (intro _; k_upd)); (case hsp_20f7 => k_mem); (case D_20f7 => with_reducible assumption); (case sub_20f7 => kqd_sub); (case TL_20f7 => with_reducible assumption); (case hl_20f7 => omega); (case hd_20f7 => ktr_room); (case hu_20f7 => ke_room)))
  k_with "w15" => (k_here; (with_reducible show wpAny _ _ (call (Value.ref 140) _) _ _ _); k_dflt (refine' llisted_ok ?k1_aa7c ?k2_aa7c ?k3_aa7c ?k4_aa7c ?k5_aa7c ?kK_aa7c ?hsp_aa7c ?D_aa7c ?sub_aa7c ?hl_aa7c ?hd_aa7c ?hu_aa7c ?_; (case k1_aa7c => k_asm); (case k2_aa7c => k_asm); (case k3_aa7c => k_asm); (case k4_aa7c => k_asm); (case k5_aa7c => k_asm); (case kK_aa7c => first | exact rfl | assumption); (case hsp_aa7c => k_mem); (case D_aa7c => with_reducible assumption); (case sub_aa7c => kqd_sub); (case hl_aa7c => omega); (case hd_aa7c => ktr_room); (case hu_aa7c => ke_room)))
  k_with "w16" => (k_here; (with_reducible show wpAny _ _ (binaryOp _ (Value.ref _) (Value.ref _)) _ _ _); k_dflt (refine' addL ?F_261b ?N_261b ?a_261b ?b_261b ?z_261b ?_; (case F_261b => k_asm); (case N_261b => k_asm); (case a_261b => k_mem); (case b_261b => k_mem); (case z_261b => first | omega | (simp only [List.length_cons, List.length_nil, List.length_replicate]; omega))))
  k_with "w17" => (k_here; (with_reducible show wpAny _ _ (binaryOp Operator.Mult (Value.ref _) (Value.int _ _)) _ _ _); k_dflt (refine' mul2 ?F_452d ?N_452d ?l_452d ?e_452d ?z_452d ?_; (case F_452d => k_asm); (case N_452d => k_asm); (case l_452d => k_mem); (case e_452d => omega); (case z_452d => omega)))
  k_with "WPost" => (dsimp only [WPost])
  k_with "call builtin:len" => (k_here; (with_reducible show wpAny _ _ (call (Value.builtin "len") [Value.ref _]) _ _ _); k_dflt (refine' kd_len ?k1_eae0 ?k2_eae0 ?k3_eae0 ?k4_eae0 ?_; (case k1_eae0 => k_asm); (case k2_eae0 => k_mem); (case k3_eae0 => with_reducible assumption); (case k4_eae0 => omega); k_whole))
  k_with "subscriptTail" => (k_here; (with_reducible show wpAny _ _ (subscriptTail _ _ (Value.ref _) (Value.int _ _)) _ _ _); k_dflt (refine' item_dat ?k1_b351 ?k2_b351 ?k3_b351 ?k4_b351 ?k5_b351 ?k6_b351 ?_ ?k7_b351; (case k1_b351 => k_asm); (case k2_b351 => k_mem); (case k3_b351 => with_reducible assumption); (case k4_b351 => omega); (case k5_b351 => omega); (case k6_b351 => omega); (case k7_b351 => with_unfolding_all rfl); k_whole); intro _ _)
  k_with "subscriptTail" => (k_here; (with_reducible show wpAny _ _ (subscriptTail _ _ (Value.ref _) (Value.int _ _)) _ _ _); k_dflt (refine' item_at ?k1_c249 ?k2_c249 ?k3_c249 ?k5_c249 ?k6_c249 ?_ ?k7_c249; (case k1_c249 => k_asm); (case k2_c249 => k_mem); (case k3_c249 => with_reducible assumption); (case k5_c249 => omega); (case k6_c249 => omega); (case k7_c249 => with_unfolding_all rfl); k_whole))
  k_with "exec For Name Call cons nil" => (k_here; refine halt_in ?_)
  k_with "exec For Name Subscript cons nil" => (k_here; refine halt_in ?_)
  k_with "exec For Name Name cons nil" => (k_here; refine halt_in ?_)
  k_with "pyIter ref" => (k_here; (with_reducible show wpAny _ _ (pyIter (Value.ref _)) (fun it s₂ => LoopAtV _ _ _ _ _ _ _ _ _ it s₂) _ _); refine halt_in ?_)
  k_with "call type:range" => (k_here; k_dflt (first | (refine' range1_rows ?F_0dec ?N_0dec ?_; (case F_0dec => k_asm); (case N_0dec => k_asm); k_whole) | (refine' range2_rows ?F_0dec ?N_0dec ?_; (case F_0dec => k_asm); (case N_0dec => k_asm); k_whole) | (refine' range3_rows ?F_0dec ?N_0dec ?c_0dec ?_ ?p_0dec; (case F_0dec => k_asm); (case N_0dec => k_asm); (case c_0dec => decide); (case p_0dec => exact Or.inl (PyProof.noPylong_small (by omega))); k_whole)); intro _ _ _ _ _ _ _ _ _; (try dsimp only))
  k_with "call builtin:list.append" => (k_here; (with_reducible show wpAny _ _ (call (Value.builtin _) [Value.ref _, _]) _ _ _); k_dflt (refine' append_K ?k1_2bc2 ?k2_2bc2 ?k3_2bc2 ?_ ?z_2bc2; (case k1_2bc2 => k_asm); (case k2_2bc2 => k_asm); (case k3_2bc2 => k_upd); (case z_2bc2 => (simp only [List.size_toArray, sizeLine]; omega)); k_whole); intro _ _ _)
  k_with "exec While" => (k_here; refine halt_in ?_)
  trivial


theorem kwaca : True := by
  k_with "call builtin:list.extend" => (k_here; (with_reducible show wpAny _ _ (call (Value.builtin _) [Value.ref _, Value.ref _]) _ _ _); k_dflt (refine' ext2 ?F_5b0c ?N_5b0c ?b_5b0c ?U_5b0c ?z_5b0c ?_; (case F_5b0c => k_asm); (case N_5b0c => k_asm); (case b_5b0c => k_mem); (case U_5b0c => k_upd); (case z_5b0c => omega)); intro _ _ _)
  trivial
local macro_rules | `(tactic| walk_at "call type:list") => mw "w4" "D' c' h' F' N' l1" "db"
local macro_rules | `(tactic| walk_at "binaryOp Add ref ref") => mw "w5" "D' h' F' N' l1" "db"
section
section
variable {prog : Program} {w : World} {A : Around} {E : Value → Shared → Prop} {s : Shared} {h₀ : Heap} {L l a b D : Addr} {m : Str → Option Value} {news news' : List (Addr × Obj)} {us ws : List Value} {n n2 : Nat} {y : Value} {u : Tok} {Q : Value → Shared → Prop}
theorem isL_of (N : News h₀ L s.heap news) (hm : (l, listOf us.toArray n) ∈ news) : s.heap.IsList l us.toArray := ⟨_, (N _ hm).1, rfl, n, rfl⟩
theorem item_last {value slice : PySem.Expr} (N : News h₀ L s.heap news) (hm : (l, listOf (us ++ [y]).toArray n) ∈ news) (h : Q y s)
    (hs : subscripted slice false (.ref l) (.int (-1) u) = operate [.ref l, .int (-1) u] (getItem (.ref l) (.int (-1) u)) := by with_unfolding_all rfl) :
    wpAny (model prog w) A (subscriptTail value slice (.ref l) (.int (-1) u)) Q E s := by
  have hl := isL_of N hm
  refine tail_any hl.typeIs slot_list_getitem.lookup (wpAny_getItem_list_neg hl (by decide) (by rw [List.size_toArray, List.length_append, List.length_singleton]; omega) (by decide) ?_ h) hs
  have e : ((-1 : Int) + ((us ++ [y]).toArray.size : Nat)).toNat = us.length := by rw [List.size_toArray, List.length_append, List.length_singleton]; omega
  rw [e]
  simp
theorem pop_last (F : Fr h₀ L s.heap m) (N : News h₀ L s.heap news) (U : Upd D (listOf (us ++ [y]).toArray n) (listOf us.toArray (n + 1)) news news') (hz : us.length < 10000)
    (h : ∀ h', Fr h₀ L h' m → News h₀ L h' news' → Q y { s with heap := h' }) : wpAny (model prog w) A (call (.builtin "list.pop") [.ref D]) Q E s :=
  kl_pop F N (kpa_last y us) U (by simp [sizeLine]; omega) h
theorem copyL (F : Fr h₀ L s.heap m) (N : News h₀ L s.heap news) (hm : (l, listOf us.toArray n) ∈ news) (hz : us.length < 10000)
    (h : ∀ D c h', Fr h₀ L h' m → News h₀ L h' ((D, listOf us.toArray c) :: news) → (∀ q ∈ news, q.1 < D) → Q (.ref D) { s with heap := h' }) : wpAny (model prog w) A (call (.type "list") [.ref l]) Q E s :=
  list_copyK F N (isL_of N hm) h (by simp [sizeLine]; omega)
theorem copyT {x z : Int} {t v : Tok} (F : Fr h₀ L s.heap m) (N : News h₀ L s.heap news) (hm : (l, tupO x z t v n) ∈ news)
    (h : ∀ D c h', Fr h₀ L h' m → News h₀ L h' ((D, listOf [Value.int x t, Value.int z v].toArray c) :: news) → (∀ q ∈ news, q.1 < D) → Q (.ref D) { s with heap := h' }) : wpAny (model prog w) A (call (.type "list") [.ref l]) Q E s :=
  list_copyKT F N ⟨_, (N _ hm).1, rfl, n, rfl⟩ h (by simp [sizeLine])
theorem addL (F : Fr h₀ L s.heap m) (N : News h₀ L s.heap news) (ha : (a, listOf us.toArray n) ∈ news) (hb : (b, listOf ws.toArray n2) ∈ news) (hz : us.length + ws.length < 10000)
    (h : ∀ D h', Fr h₀ L h' m → News h₀ L h' ((D, listOf (us ++ ws).toArray 0) :: news) → (∀ p ∈ news, p.1 < D) → Q (.ref D) { s with heap := h' }) : wpAny (model prog w) A (binaryOp .Add (.ref a) (.ref b)) Q E s :=
  kmk_add_lit F N (isL_of N ha) (isL_of N hb) (by simp) h (by simp [sizeLine]; omega)
end

theorem kwacb : True := by
  k_with "subscriptTail" => (k_here; (with_reducible show wpAny _ _ (subscriptTail _ _ (Value.ref _) (Value.int (-1) _)) _ _ _); k_dflt (refine' item_last ?k1_063f ?k2_063f ?_ ?k7_063f; (case k1_063f => k_asm); (case k2_063f => k_mem); (case k7_063f => with_unfolding_all rfl); k_whole))
  k_with "call builtin:list.pop" => (k_here; (with_reducible show wpAny _ _ (call (Value.builtin _) [Value.ref _]) _ _ _); k_dflt (refine' pop_last ?F_dea1 ?N_dea1 ?U_dea1 ?z_dea1 ?_; (case F_dea1 => k_asm); (case N_dea1 => k_asm); (case U_dea1 => k_upd); (case z_dea1 => omega)); intro _ _ _)
  trivial
end
theorem kwacc : True := by
  k_with_none
  k_with "ta" => (try dsimp only)
  k_with "tb" => (try k_sweep)
  k_with "tc" => (try k_fold)
  k_with "w0" => (have hcL9 := cLine_is; (try simp only [units_in1, units_deeper, Around.mark_units, units_caller]); (try dsimp only [ktrTop]); omega)
  k_with "w1" => (k_here; (with_reducible show wpAny _ _ (call (Value.ref 114) _) _ _ _); k_dflt (refine' moved_ok ?k1_267c ?k2_267c ?k3_267c ?k4_267c ?k5_267c ?kK_267c ?hm_267c ?hd_267c ?hu_267c ?_; (case k1_267c => k_asm); (case k2_267c => k_asm); (case k3_267c => k_asm); (case k4_267c => k_asm); (case k5_267c => k_asm); (case kK_267c => first | exact rfl | assumption); (case hm_267c => k_mem); (case hd_267c => ktr_room); (case hu_267c => ke_room)))
  k_with "w2" => (refine' code_defC ?k1_73de ?k2_73de ?k3_73de ?k4_73de ?k5_73de ?kA_73de ?kF_73de ?kK_73de ?k6_73de ?k7_73de ?k8_73de ?k9_73de ?kB_73de ?kD_73de ?_ ?c2_73de ?c3_73de ?c4_73de; (case kA_73de => exact rfl); (case kF_73de => exact rfl); (case kK_73de => assumption); (case k1_73de => k_asm); (case k2_73de => k_asm); (case k3_73de => k_asm); (case k4_73de => k_asm); (case k5_73de => k_asm); (case k6_73de => k_is); (case k7_73de => k_is); (case k8_73de => ktr_room); (case k9_73de => exact BindsTo.of_eq rfl); (case kB_73de => exact rfl); (case kD_73de => decide +kernel); (case c2_73de => exact rfl); (case c3_73de => exact rfl); (case c4_73de => exact rfl); k_whole)
  k_with "w3" => (k_here; (with_reducible show wpAny _ _ (subscriptTail _ (PySem.Expr.Slice _ _ none _) (Value.ref _) (Value.ref _)) _ _ _); k_dflt (refine' slice_to ?F_7f9f ?N_7f9f ?l_7f9f ?p_7f9f ?q_7f9f ?e_7f9f ?z_7f9f ?_ ?s_7f9f ?t_7f9f; (case F_7f9f => k_asm); (case N_7f9f => k_asm); (case l_7f9f => k_mem); (case p_7f9f => kmk_part); (case q_7f9f => kmk_part); (case e_7f9f => first | exact pick_upto (by omega) | exact pick_from (by omega) | exact pick_part (by omega) (by omega) | exact pick_less (by omega)); (case s_7f9f => with_unfolding_all rfl); (case t_7f9f => kmk_pure); (case z_7f9f => omega)))
  k_with "w4" => (k_here; (with_reducible show wpAny _ _ (call (Value.type _) [Value.ref _]) _ _ _); k_dflt (first | (refine' copyL ?F_06eb ?N_06eb ?m_06eb ?z_06eb ?_; (case F_06eb => k_asm); (case N_06eb => k_asm); (case m_06eb => k_mem); (case z_06eb => omega)) | (refine' copyT ?F_06eb ?N_06eb ?m_06eb ?_; (case F_06eb => k_asm); (case N_06eb => k_asm); (case m_06eb => k_mem))))
  k_with "w5" => (k_here; (with_reducible show wpAny _ _ (binaryOp _ (Value.ref _) (Value.ref _)) _ _ _); k_dflt (refine' addL ?F_f34b ?N_f34b ?a_f34b ?b_f34b ?z_f34b ?_; (case F_f34b => k_asm); (case N_f34b => k_asm); (case a_f34b => k_mem); (case b_f34b => k_mem); (case z_f34b => first | omega | (simp only [List.length_cons, List.length_nil]; omega))))
  k_with "w6" => (refine' code_def ?k1_91da ?k2_91da ?k3_91da ?k4_91da ?k5_91da ?kA_91da ?kF_91da ?kK_91da ?k6_91da ?k7_91da ?k8_91da ?k9_91da ?kB_91da ?_ ?c2_91da ?c3_91da ?c4_91da ?c5_91da; (case kA_91da => exact rfl); (case kF_91da => exact rfl); (case kK_91da => first | exact rfl | assumption); (case k1_91da => k_asm); (case k2_91da => k_asm); (case k3_91da => k_asm); (case k4_91da => k_asm); (case k5_91da => k_asm); (case k6_91da => k_is); (case k7_91da => k_is); (case k8_91da => ktr_room); (case k9_91da => exact BindsTo.of_eq rfl); (case c5_91da => decide); (case kB_91da => exact locs rfl); (case c2_91da => exact rfl); (case c3_91da => exact rfl); (case c4_91da => exact rfl); k_whole)
  k_with "w7" => (refine' code_defC ?k1_e452 ?k2_e452 ?k3_e452 ?k4_e452 ?k5_e452 ?kA_e452 ?kF_e452 ?kK_e452 ?k6_e452 ?k7_e452 ?k8_e452 ?k9_e452 ?kB_e452 ?kD_e452 ?_ ?c2_e452 ?c3_e452 ?c4_e452; (case kA_e452 => exact rfl); (case kF_e452 => exact rfl); (case kK_e452 => first | exact rfl | assumption); (case k1_e452 => k_asm); (case k2_e452 => k_asm); (case k3_e452 => k_asm); (case k4_e452 => k_asm); (case k5_e452 => k_asm); (case k6_e452 => k_is); (case k7_e452 => k_is); (case k8_e452 => ktr_room); (case k9_e452 => exact BindsTo.of_eq rfl); (case kB_e452 => exact rfl); (case kD_e452 => decide +kernel); (case c2_e452 => exact rfl); (case c3_e452 => exact rfl); (case c4_e452 => exact rfl); k_whole)
  k_with "w8" => (refine neN ?_; (try dsimp only); first | with_reducible assumption | (with_reducible refine Ne.symm ?_; with_reducible assumption) | (with_reducible refine Nat.ne_of_lt ?_; with_reducible assumption) | (with_reducible refine Nat.ne_of_gt ?_; with_reducible assumption))
  k_with "w9" => first | with_reducible assumption | exact in_of_fr (by with_reducible assumption) (by with_reducible assumption)
  k_with "w10" => (k_here; (with_reducible show wpAny _ _ (call (Value.ref 121) _) _ _ _); k_dflt (refine' draw2_use ?k1_44b5 ?k2_44b5 ?k3_44b5 ?k4_44b5 ?k5_44b5 ?kK_44b5 ?U_44b5 ?hl0_44b5 ?hne_44b5 ?hi_44b5 ?hl_44b5 ?hc0_44b5 ?hc1_44b5 ?hm_44b5 ?hm2_44b5 ?hd_44b5 ?hu_44b5 ?_; (case k1_44b5 => k_asm); (case k2_44b5 => k_asm); (case k3_44b5 => k_asm); (case k4_44b5 => k_asm); (case k5_44b5 => k_asm); (case kK_44b5 => first | exact rfl | assumption); (case U_44b5 => (intro _; k_upd)); (case hl0_44b5 => k_mem); (case hne_44b5 => k_ne); (case hi_44b5 => with_reducible assumption); (case hl_44b5 => assumption); (case hc0_44b5 => omega); (case hc1_44b5 => omega); (case hm_44b5 => omega); (case hm2_44b5 => omega); (case hd_44b5 => ktr_room); (case hu_44b5 => ke_room)))
  k_with "w11" => (k_here; (with_reducible show wpAny _ _ (call (Value.ref 100) _) _ _ _); k_dflt (refine' mrepl_use ?k1_f4fd ?k2_f4fd ?k3_f4fd ?k4_f4fd ?k5_f4fd ?kK_f4fd ?hx_f4fd ?hsp_f4fd ?D_f4fd ?sub_f4fd ?TL_f4fd ?hl_f4fd ?U_f4fd ?hd_f4fd ?hu_f4fd ?_; (case k1_f4fd => k_asm); (case k2_f4fd => k_asm); (case k3_f4fd => k_asm); (case k4_f4fd => k_asm); (case k5_f4fd => k_asm); (case kK_f4fd => first | exact rfl | assumption); (case hx_f4fd => k_mem); (case U_f4fd => (intro _; k_upd)); (case hsp_f4fd => k_mem); (case D_f4fd => with_reducible assumption); (case sub_f4fd => kqd_sub); (case TL_f4fd => with_reducible assumption); (case hl_f4fd => omega); (case hd_f4fd => ktr_room); (case hu_f4fd => ke_room)))
  k_with "w12" => (k_here; (with_reducible show wpAny _ _ (call (Value.ref 83) _) _ _ _); k_dflt (refine' mlist_ok ?k1_04f8 ?k2_04f8 ?k3_04f8 ?k4_04f8 ?k5_04f8 ?kK_04f8 ?hx_04f8 ?hdx_04f8 ?hsp_04f8 ?D_04f8 ?sub_04f8 ?hl_04f8 ?hd_04f8 ?hu_04f8 ?_; (case k1_04f8 => k_asm); (case k2_04f8 => k_asm); (case k3_04f8 => k_asm); (case k4_04f8 => k_asm); (case k5_04f8 => k_asm); (case kK_04f8 => first | exact rfl | assumption); (case hx_04f8 => k_mem); (case hdx_04f8 => k_mem); (case hsp_04f8 => k_mem); (case D_04f8 => with_reducible assumption); (case sub_04f8 => kqd_sub); (case hl_04f8 => omega); (case hd_04f8 => ktr_room); (case hu_04f8 => ke_room)))
  k_with "w13" => (k_here; (with_reducible show wpAny _ _ (call (Value.ref 90) _) _ _ _); k_dflt (refine' mrest_use ?k1_b474 ?k2_b474 ?k3_b474 ?k4_b474 ?k5_b474 ?kK_b474 ?hx_b474 ?hpl_b474 ?D_b474 ?hl_b474 ?U_b474 ?hd_b474 ?hu_b474 ?_; (case k1_b474 => k_asm); (case k2_b474 => k_asm); (case k3_b474 => k_asm); (case k4_b474 => k_asm); (case k5_b474 => k_asm); (case kK_b474 => first | exact rfl | assumption); (case hx_b474 => k_mem); (case U_b474 => (intro _; k_upd)); (case hpl_b474 => k_mem); (case D_b474 => first | with_reducible assumption | exact (by with_reducible assumption : ∀ t : Tok, DatAll [] (_ ++ [Value.int 1 t]) _) _); (case hl_b474 => omega); (case hd_b474 => ktr_room); (case hu_b474 => ke_room)))
  k_with "w14" => (k_here; (with_reducible show wpAny _ _ (call (Value.ref 95) _) _ _ _); k_dflt (refine' mtran_use ?k1_20f7 ?k2_20f7 ?k3_20f7 ?k4_20f7 ?k5_20f7 ?kK_20f7 ?hx_20f7 ?hsp_20f7 ?D_20f7 ?sub_20f7 ?TL_20f7 ?hl_20f7 ?U_20f7 ?hd_20f7 ?hu_20f7 ?_; (case k1_20f7 => k_asm); (case k2_20f7 => k_asm); (case k3_20f7 => k_asm); (case k4_20f7 => k_asm); (case k5_20f7 => k_asm); (case kK_20f7 => first | exact rfl | assumption); (case hx_20f7 => k_mem); (case U_20f7 => (intro _; k_upd)); (case hsp_20f7 => k_mem); (case D_20f7 => with_reducible assumption); (case sub_20f7 => kqd_sub); (case TL_20f7 => with_reducible assumption); (case hl_20f7 => omega); (case hd_20f7 => ktr_room); (case hu_20f7 => ke_room)))
  k_with "w15" => (k_here; (with_reducible show wpAny _ _ (call (Value.ref 140) _) _ _ _); k_dflt (refine' llisted_ok ?k1_aa7c ?k2_aa7c ?k3_aa7c ?k4_aa7c ?k5_aa7c ?kK_aa7c ?hsp_aa7c ?D_aa7c ?sub_aa7c ?hl_aa7c ?hd_aa7c ?hu_aa7c ?_; (case k1_aa7c => k_asm); (case k2_aa7c => k_asm); (case k3_aa7c => k_asm); (case k4_aa7c => k_asm); (case k5_aa7c => k_asm); (case kK_aa7c => first | exact rfl | assumption); (case hsp_aa7c => k_mem); (case D_aa7c => with_reducible assumption); (case sub_aa7c => kqd_sub); (case hl_aa7c => omega); (case hd_aa7c => ktr_room); (case hu_aa7c => ke_room)))
  k_with "w16" => (k_here; (with_reducible show wpAny _ _ (binaryOp _ (Value.ref _) (Value.ref _)) _ _ _); k_dflt (refine' addL ?F_261b ?N_261b ?a_261b ?b_261b ?z_261b ?_; (case F_261b => k_asm); (case N_261b => k_asm); (case a_261b => k_mem); (case b_261b => k_mem); (case z_261b => first | omega | (simp only [List.length_cons, List.length_nil, List.length_replicate]; omega))))
  k_with "w17" => (k_here; (with_reducible show wpAny _ _ (binaryOp Operator.Mult (Value.ref _) (Value.int _ _)) _ _ _); k_dflt (refine' mul2 ?F_452d ?N_452d ?l_452d ?e_452d ?z_452d ?_; (case F_452d => k_asm); (case N_452d => k_asm); (case l_452d => k_mem); (case e_452d => omega); (case z_452d => omega)))
  k_with "WPost" => (dsimp only [WPost])
  k_with "call builtin:len" => (k_here; (with_reducible show wpAny _ _ (call (Value.builtin "len") [Value.ref _]) _ _ _); k_dflt (refine' kd_len ?k1_eae0 ?k2_eae0 ?k3_eae0 ?k4_eae0 ?_; (case k1_eae0 => k_asm); (case k2_eae0 => k_mem); (case k3_eae0 => with_reducible assumption); (case k4_eae0 => omega); k_whole))
  k_with "subscriptTail" => (k_here; (with_reducible show wpAny _ _ (subscriptTail _ _ (Value.ref _) (Value.int _ _)) _ _ _); k_dflt (refine' item_dat ?k1_b351 ?k2_b351 ?k3_b351 ?k4_b351 ?k5_b351 ?k6_b351 ?_ ?k7_b351; (case k1_b351 => k_asm); (case k2_b351 => k_mem); (case k3_b351 => with_reducible assumption); (case k4_b351 => omega); (case k5_b351 => omega); (case k6_b351 => omega); (case k7_b351 => with_unfolding_all rfl); k_whole); intro _ _)
  k_with "subscriptTail" => (k_here; (with_reducible show wpAny _ _ (subscriptTail _ _ (Value.ref _) (Value.int _ _)) _ _ _); k_dflt (refine' item_at ?k1_c249 ?k2_c249 ?k3_c249 ?k5_c249 ?k6_c249 ?_ ?k7_c249; (case k1_c249 => k_asm); (case k2_c249 => k_mem); (case k3_c249 => with_reducible assumption); (case k5_c249 => omega); (case k6_c249 => omega); (case k7_c249 => with_unfolding_all rfl); k_whole))
  k_with "exec For Name Call cons nil" => (k_here; refine halt_in ?_)
  k_with "exec For Name Subscript cons nil" => (k_here; refine halt_in ?_)
  k_with "exec For Name Name cons nil" => (k_here; refine halt_in ?_)
  k_with "pyIter ref" => (k_here; (with_reducible show wpAny _ _ (pyIter (Value.ref _)) (fun it s₂ => LoopAtV _ _ _ _ _ _ _ _ _ it s₂) _ _); refine halt_in ?_)
  k_with "call type:range" => (k_here; k_dflt (first | (refine' range1_rows ?F_0dec ?N_0dec ?_; (case F_0dec => k_asm); (case N_0dec => k_asm); k_whole) | (refine' range2_rows ?F_0dec ?N_0dec ?_; (case F_0dec => k_asm); (case N_0dec => k_asm); k_whole) | (refine' range3_rows ?F_0dec ?N_0dec ?c_0dec ?_ ?p_0dec; (case F_0dec => k_asm); (case N_0dec => k_asm); (case c_0dec => decide); (case p_0dec => exact Or.inl (PyProof.noPylong_small (by omega))); k_whole)); intro _ _ _ _ _ _ _ _ _; (try dsimp only))
  k_with "call builtin:list.append" => (k_here; (with_reducible show wpAny _ _ (call (Value.builtin _) [Value.ref _, _]) _ _ _); k_dflt (refine' append_K ?k1_2bc2 ?k2_2bc2 ?k3_2bc2 ?_ ?z_2bc2; (case k1_2bc2 => k_asm); (case k2_2bc2 => k_asm); (case k3_2bc2 => k_upd); (case z_2bc2 => (simp only [List.size_toArray, sizeLine]; omega)); k_whole); intro _ _ _)
  k_with "exec While" => (k_here; refine halt_in ?_)
  k_with "call builtin:list.extend" => (k_here; (with_reducible show wpAny _ _ (call (Value.builtin _) [Value.ref _, Value.ref _]) _ _ _); k_dflt (refine' ext2 ?F_5b0c ?N_5b0c ?b_5b0c ?U_5b0c ?z_5b0c ?_; (case F_5b0c => k_asm); (case N_5b0c => k_asm); (case b_5b0c => k_mem); (case U_5b0c => k_upd); (case z_5b0c => omega)); intro _ _ _)
  trivial

theorem kwacd : True := by
  k_with "subscriptTail" => (k_here; (with_reducible show wpAny _ _ (subscriptTail _ _ (Value.ref _) (Value.int (-1) _)) _ _ _); k_dflt (refine' item_last ?k1_063f ?k2_063f ?_ ?k7_063f; (case k1_063f => k_asm); (case k2_063f => k_mem); (case k7_063f => with_unfolding_all rfl); k_whole))
  k_with "call builtin:list.pop" => (k_here; (with_reducible show wpAny _ _ (call (Value.builtin _) [Value.ref _]) _ _ _); k_dflt (refine' pop_last ?F_dea1 ?N_dea1 ?U_dea1 ?z_dea1 ?_; (case F_dea1 => k_asm); (case N_dea1 => k_asm); (case U_dea1 => k_upd); (case z_dea1 => omega)); intro _ _ _)
  trivial

local macro_rules | `(tactic| cell_enter) => do `(tactic| first | ($(← mw "w6" "g' L' h' FG' F' N' B' X' T'" "agc"):tactic) | ($(← mw "w7" "g' L' h' tk' cells' FG' F' N' Y' B' X' T' l1" "defagc"):tactic))

theorem kwace : True := by
  k_with "eval ListComp" => (k_here; lct_look; k_dflt (refine LCt.ListComp_T (F₀ := by k_asm) (by with_unfolding_all rfl) (by decide) (by rfl) (by decide) (by rfl) ?_))
  k_with "eval ListComp" => (k_here; (fail_if_success lct_look); k_dflt (refine LCg.ListComp_U (F₀ := by k_asm) (by with_unfolding_all rfl) (by decide) (by rfl) (by decide) (by rfl) ?_))
  k_with "exec Assign cons ListComp" => (k_here; lct_look; k_dflt (refine LCt.Assign_ListComp_T (F₀ := by k_asm) (by rfl) (by with_unfolding_all rfl) (by with_unfolding_all rfl) (by decide) (by rfl) (by decide) (by rfl) (by rfl) (by rfl) ?_))
  k_with "exec Assign cons ListComp" => (k_here; (fail_if_success lct_look); k_dflt (refine LCg.Assign_ListComp_U (F₀ := by k_asm) (by rfl) (by with_unfolding_all rfl) (by with_unfolding_all rfl) (by decide) (by rfl) (by decide) (by rfl) (by rfl) (by rfl) ?_))
  k_with "CompSrc" => (k_here; k_dflt (first | (refine' LCg.CompSrc.ledger ?hh_f88f ?F_f88f ?N_f88f ?m_f88f ?z_f88f ?_; (case hh_f88f => rfl); (case F_f88f => k_asm); (case N_f88f => k_asm); (case m_f88f => k_mem); (case z_f88f => first | (simp only [List.size_toArray, sizeLine]; omega) | ((have hz9 := IntsAre.length (by with_reducible assumption)); simp only [List.size_toArray, sizeLine]; omega))) | (refine' LCg.CompSrc.range ?hh_f88f ?F_f88f ?N_f88f ?r_f88f ?s_f88f ?n_f88f ?z_f88f ?_; (case hh_f88f => rfl); (case F_f88f => k_asm); (case N_f88f => k_asm); (case r_f88f => with_reducible assumption); (case s_f88f => exact small_one (by omega) (by omega) (by omega) (by omega)); (case n_f88f => exact rangeSize_nat _ _); (case z_f88f => (simp only [sizeLine]; omega)))); intro _)
  k_with "CompSrcT" => (k_here; k_dflt (first | (refine' LCt.CompSrcT.ledger ?hh_7a1e ?F_7a1e ?N_7a1e ?m_7a1e ?z_7a1e ?_; (case hh_7a1e => rfl); (case F_7a1e => k_asm); (case N_7a1e => k_asm); (case m_7a1e => k_mem); (case z_7a1e => first | (simp only [List.size_toArray, sizeLine]; omega))) | (refine' LCt.CompSrcT.range ?hh_7a1e ?F_7a1e ?N_7a1e ?r_7a1e ?s_7a1e ?n_7a1e ?z_7a1e ?_; (case hh_7a1e => rfl); (case F_7a1e => k_asm); (case N_7a1e => k_asm); (case r_7a1e => with_reducible assumption); (case s_7a1e => exact small_one (by omega) (by omega) (by omega) (by omega)); (case n_7a1e => exact rangeSize_nat _ _); (case z_7a1e => (simp only [sizeLine]; omega)))); intro _)
  trivial
local macro_rules | `(tactic| k_lt $h:ident) => `(tactic| (replace $h := lt_copy $h; obtain ⟨$h:ident, hlt9⟩ := $h; simp only [AllLt, and_true] at $h:ident; repeat (have q9 := And.left $h; replace $h := And.right $h)))
local macro_rules | `(tactic| k_ne) => `(tactic| k_extra "w8")
local macro_rules | `(tactic| k_mem) => `(tactic| k_extra "own mem")
local macro_rules | `(tactic| kqd_sub) => `(tactic| k_extra "own sub")
local macro_rules | `(tactic| k_all) => `(tactic| k_extra "own all")
local macro_rules | `(tactic| k_in) => `(tactic| k_extra "w9")

theorem kwacf : True := by
  k_with "own mem" => first | with_reducible exact List.mem_cons_self | (with_reducible refine List.mem_cons_of_mem _ ?_; k_extra "own mem") | (with_reducible refine List.mem_append_left _ ?_; k_extra "own mem") | (with_reducible refine List.mem_append_right _ ?_; k_extra "own mem") | with_reducible assumption
  k_with "own sub" => first | with_reducible exact fun _ h => h | with_reducible exact List.forall_mem_nil _ | (with_reducible refine List.forall_mem_cons.mpr ⟨?_, ?_⟩; (k_extra "own mem"); (k_extra "own sub")) | (with_reducible refine List.forall_mem_append.mpr ⟨?_, ?_⟩; (k_extra "own sub"); (k_extra "own sub")) | (intro _ _; k_extra "own mem") | ((with_reducible show ∀ p ∈ (_ : List (Addr × Obj)), p ∈ _); refine sub_trans (by with_reducible assumption) ?_; k_extra "own sub")
  k_with "own all" => first | with_reducible exact List.forall_mem_nil _ | (with_reducible refine List.forall_mem_cons.mpr ⟨?_, ?_⟩; k_ne; (k_extra "own all")) | (with_reducible refine List.forall_mem_append.mpr ⟨?_, ?_⟩; (k_extra "own all"); (k_extra "own all")) | exact OwnOff.ne (by with_reducible assumption) (by k_memK) | exact allLt_off (by with_reducible assumption) (by k_extra "own sub") | exact off1_off (by with_reducible assumption) (by k_extra "own sub") | exact tups_offD (by with_reducible assumption) (by with_reducible assumption) (by k_extra "own sub") (by k_extra "own mem") | exact tups_offL (by with_reducible assumption) (by with_reducible assumption) (by k_extra "own sub") (by k_extra "own mem")
  k_with "CompRest" => refine halt_in ?_
  k_with "CompRestT" => refine halt_in ?_
  trivial
local macro_rules | `(tactic| walk_at "call ref") => mw "w10" "r t tc' h' tk' r0 r1 F' N'" "habc"
section
abbrev deckO (l0 : Addr) (c : Int) (tc : Tok) (n : Nat) : Obj := listOf [Value.ref l0, Value.int c tc].toArray n
def InRow (o : Option (Int × Int)) : Prop := ∀ a b, o = some (a, b) → 0 ≤ a ∧ a ≤ b ∧ b ≤ 20
theorem lspans_ok {w : World} {p : Program} {loose : List Str} {mean : ExcName → Option Value} {mg mb : Str → Option Value} {dp un : Nat} {gd : Option (List Code)} {cn : Str} {cs : Scope} {a : Addr} {ccd : Value} {cl : List (Str × Addr)} {outer : List Env} {A₀ : Around} {base h₀ : Heap} {L : Addr} {m : Str → Option Value} {s : Shared} {Q E : Value → Shared → Prop} {news : List (Addr × Obj)} {dk l0 : Addr} {vs : List Value} {ns : List Int} {k0 n : Nat} {c : Int} {tc : Tok} {rest : List (Addr × Obj)}
  (B : Below A₀ base outer h₀) (F : Fr h₀ L s.heap m) (X : (Mine.hd.heap_39 w.params).In h₀) (N : News h₀ L s.heap news) (T : Top p loose mean mg mb h₀) (hk : cs.kind = .function) (hnews : news = (dk, deckO l0 c tc n) :: rest) (off : ∀ q ∈ rest, q.1 ≠ dk) (hl0 : (l0, listOf vs.toArray k0) ∈ rest) (hi : IntsAre vs ns) (hl : ns.length < 1000) (hc0 : 0 ≤ c) (hc1 : c < 900)
  (hd : dp + 3 < recursionLimit) (hu : un + 300 < cLine)
  (ret : ∀ (D : Addr) (vs' : List Value) (n' : Nat) (o : Int × Int) (os : List (Option (Int × Int))) (tl : List (Addr × Obj)) (c' : Int) (tc' : Tok) (h' : Heap) (tk' : Nat), c ≤ c' → c' ≤ c + 30 → Tups tl → DatAll tl vs' ((some o :: os).map enc) → (∀ q ∈ some o :: os, InRow q) → os.length < 5 → LCg.Off1 D ((dk, deckO l0 c tc n) :: (tl ++ rest)) → OwnOff tl ((dk, deckO l0 c tc n) :: rest |>.map (·.1)) → Fr h₀ L h' m → News h₀ L h' ((D, listOf vs'.toArray n') :: (dk, deckO l0 c' tc' n) :: (tl ++ rest)) → Q (.ref D) { s with heap := h', toks := tk' }) :
  wpAny (model PySem.Challenge.pw_ok0042_02 w) (ktrTop dp un gd cn cs L a ccd cl outer) (call (.ref 133) [.ref dk]) Q E s := by
  subst hnews
  have hne0 : @Ne Nat l0 dk := off _ hl0
  have off0 : OwnOff rest [dk] := fun q hq b hb => by rw [List.mem_singleton.mp hb]; exact off q hq
  show Keep PySem.Challenge.rw_ok0042_02 Mine.hd.heap_39 (wpAny _ _ _ _ _ _)
  k_fill
  unfold Keep
  refine wpAny_call ?_
  k_dflt cell_enter
  w_strict k_steps
  unfold Halt
  with_unfolding_all refine For_invVF (by k_asm) (by rfl) (by rfl) ?_
  w_strict k_steps
  unfold Halt
  rename_i g1 LL h00 tk00 FG B1 X1 T1 ltA lt1a lt1b oc dcl fd h01 ltB lt2a lt2b lt2c h02 r0 tr tcd h03 tk03 r00 r01 F00 N00 h04 tk04 ta ub vc R1 F1 N1 K1
  have hrN : (((1 + r0 - 0).toNat : Nat) : Int) = 1 + r0 := by omega
  have lfr := allLt_all lt2c
  have nfd : @Ne Nat dk fd := Nat.ne_of_lt lt2b
  have nfc : @Ne Nat (LL + 1) fd := Nat.ne_of_lt lt2a
  have ndc : @Ne Nat dk (LL + 1) := Nat.ne_of_lt (Nat.lt_succ_of_lt lt1a)
  have lLr : ∀ p ∈ rest, p.1 < LL := allLt_all lt1b
  refine loop_range (fun i m nx => m (Str.ofString "found") = some (.ref fd) ∧ ∃ (vs' : List Value) (n' : Nat) (os : List (Int × Int)) (tl : List (Addr × Obj)) (c' : Int) (tc' : Tok), nx = (fd, listOf vs'.toArray n') :: (LL + 1, oc) :: (dk, deckO l0 c' tc' n) :: (tl ++ rest) ∧ Tups tl ∧ DatAll tl vs' ((os.map some).map enc) ∧ (∀ q ∈ os, InRow (some q)) ∧ os.length = i ∧ c + 1 ≤ c' ∧ c' ≤ c + 1 + 2 * (i : Int) ∧ OwnOff tl (fd :: (LL + 1) :: dk :: rest.map (·.1)))
    (by rfl) R1 (small_ofN (by omega) (by omega) (by omega) (by omega)) (rangeSize_nat _ _) F1 N1 ⟨by rfl, [], 0, [], [], c + 1, tcd, rfl, (fun _ h => nomatch h), .nil, (fun _ h => nomatch h), rfl, by omega, by omega, fun _ h => nomatch h⟩ ?_ ?_
  · clear F00 N00 F1 N1
    rintro i t m₁ nx h tk own hi' offO ⟨e1, vs', n', os, tl, c', tc', rfl, hT, hY, hIn, hol, hc2, hc3, hO⟩ F2 N2
    simp only [List.cons_append, List.append_assoc] at N2
    simp only [List.map_cons] at offO
    have F3 := fr_know (x := Str.ofString "found") F2 (by rw [if_neg (by decide)]; exact e1)
    clear F2
    have hvs : vs'.length < 1000 := by have h9 := hY.length; rw [List.length_map, List.length_map] at h9; omega
    have hl0' : (l0, listOf vs.toArray k0) ∈ tl ++ (rest ++ own) := List.mem_append_right _ (List.mem_append_left _ hl0)
    have offF : OwnOff (tl ++ (rest ++ own)) [fd, LL + 1, dk] := fun q hq b hb => by
      rcases List.mem_append.mp hq with hq | hq
      · exact hO q hq b (by simp only [List.mem_cons, List.not_mem_nil, or_false] at hb ⊢; rcases hb with rfl | rfl | rfl <;> simp)
      · rcases List.mem_append.mp hq with hq | hq
        · simp only [List.mem_cons, List.not_mem_nil, or_false] at hb
          rcases hb with rfl | rfl | rfl
          · exact Nat.ne_of_lt (lfr q hq)
          · exact Nat.ne_of_lt (Nat.lt_succ_of_lt (lLr q hq))
          · exact off q hq
        · exact offO q hq b (by simp only [List.mem_cons, List.not_mem_nil, or_false] at hb ⊢; rcases hb with rfl | rfl | rfl <;> simp)
    w_strict k_steps
    rename_i ra tA tcA hA tkA ra0 ra1 qa ea hB tkB rb tB tcB hC tkC rb0 rb1 DD hD FD ND lD lDa lDb lDc lDd hE FE NE
    simp only [List.push_toArray] at NE
    have lD2 := allLt_all lDd
    refine InvEndG.intro (nx := (fd, listOf (vs' ++ [Value.ref DD]).toArray (n' + 1)) :: (LL + 1, oc) :: (dk, deckO l0 (c' + 1 + 1) tcB n) :: (((DD, tupO ra (ra + rb) tA tkC 0) :: tl) ++ rest)) (by k_asm) NE ⟨by rfl, _, _, os ++ [(ra, ra + rb)], _, c' + 1 + 1, tcB, rfl, ?_, ?_, ?_, ?_, by omega, by omega, ?_⟩ ?_ (by kqd_sub) (by kqd_sub)
    · intro p hp
      rcases List.mem_cons.mp hp with rfl | hp
      · exact ⟨rfl, fun _ e => nomatch e⟩
      · exact hT p hp
    · rw [List.map_append, List.map_append]
      exact (hY.mono fun p hp => List.mem_cons_of_mem _ hp).append (.cons (DatIn.tuple (vs := [_, _]) (.head _) (.cons (.int _ _) (.cons (.int _ _) .nil))) .nil)
    · intro q hq
      rcases List.mem_append.mp hq with hq | hq
      · exact hIn q hq
      · rw [List.mem_singleton.mp hq]
        intro a b e
        cases e
        omega
    · rw [List.length_append, List.length_singleton, hol]
    · intro p hp b hb
      rcases List.mem_cons.mp hp with rfl | hp
      · simp only [List.mem_cons] at hb
        rcases hb with rfl | rfl | rfl | hb
        · exact Nat.ne_of_gt lDa
        · exact Nat.ne_of_gt lDb
        · exact Nat.ne_of_gt lDc
        · obtain ⟨q, hq, rfl⟩ := List.mem_map.mp hb
          exact Nat.ne_of_gt (lD2 q (List.mem_append_right _ (List.mem_append_left _ hq)))
      · exact hO p hp b hb
    · intro p hp b hb
      simp only [List.cons_append, List.map_cons, List.mem_cons] at hb
      rcases hb with rfl | rfl | rfl | rfl | hb
      · exact offO p hp _ (.head _)
      · exact offO p hp _ (.tail _ (.head _))
      · exact offO p hp _ (.tail _ (.tail _ (.head _)))
      · exact Nat.ne_of_lt (lD2 p (List.mem_append_right _ (List.mem_append_right _ hp)))
      · exact offO p hp _ (.tail _ (.tail _ (.tail _ hb)))
  · clear F00 N00 F1 N1
    rintro m₁ nx h tk ⟨e1, vs', n', os, tl, c', tc', rfl, hT, hY, hIn, hol, hc2, hc3, hO⟩ F2 N2
    have F3 := fr_know (x := Str.ofString "found") F2 e1
    clear F2
    obtain ⟨⟨pa, pb⟩, os, rfl⟩ : ∃ p r, os = p :: r := by
      cases os with
      | nil => simp at hol; omega
      | cons p r => exact ⟨p, r, rfl⟩
    simp only [List.map_cons] at hY
    obtain ⟨v0, vs', rfl⟩ : ∃ p r, vs' = p :: r := by
      cases hY with
      | cons h r => exact ⟨_, _, rfl⟩
    have hvs : (v0 :: vs').length < 1000 := by have h9 := hY.length; simp only [List.length_cons, List.length_map] at h9 hol ⊢; omega
    have hvs1 := hvs
    simp only [List.length_cons] at hvs
    have hl0' : (l0, listOf vs.toArray k0) ∈ tl ++ rest := List.mem_append_right _ hl0
    have hv0 : (v0 :: vs')[(0 : Int).toNat]? = some v0 := rfl
    have hdl : ((v0 :: vs').drop (1 : Int).toNat).length < 1000 := by rw [List.length_drop]; omega
    w_strict k_steps
    rename_i l1 h1a hltA qa1 qa2 qa3 la D1 h2a FA NA hltB qb1 qb2 qb3 qb4 lb g2
    unfold Halt
    have hYt : DatAll tl ((v0 :: vs').drop (1 : Int).toNat) ((os.map some).map enc) := by
      cases hY with
      | cons _ r => exact r
    have offT : OwnOff (tl ++ rest) [dk, LL + 1, fd] := fun q hq b hb => by
      simp only [List.mem_cons, List.not_mem_nil, or_false] at hb
      rcases List.mem_append.mp hq with hq | hq
      · rcases hb with rfl | rfl | rfl
        · exact hO q hq _ (.tail _ (.tail _ (.head _)))
        · exact hO q hq _ (.tail _ (.head _))
        · exact hO q hq _ (.head _)
      · rcases hb with rfl | rfl | rfl
        · exact off q hq
        · exact Nat.ne_of_lt (Nat.lt_succ_of_lt (lLr q hq))
        · exact Nat.ne_of_lt (lfr q hq)
    refine rest_ind (fun i ys nw => ∃ (c2 : Int) (tc2 : Tok) (qs : List (Option (Int × Int))), nw = (D1, listOf ((v0 :: vs').drop (1 : Int).toNat).toArray 0) :: (l1, listOf [v0].toArray 0) :: (fd, listOf (v0 :: vs').toArray n') :: (LL + 1, oc) :: (dk, deckO l0 c2 tc2 n) :: (tl ++ rest) ∧ DatAll tl ys (qs.map enc) ∧ qs.length = i ∧ (∀ q ∈ qs, InRow q) ∧ c' ≤ c2 ∧ c2 ≤ c' + (i : Int))
      ⟨c', tc', [], rfl, .nil, rfl, (fun _ h => nomatch h), by omega, by omega⟩ ?_ ?_
    · clear FA NA
      rintro i ys nw hi9 ⟨c2, tc2, qs, rfl, hYq, hql, hqI, hq1, hq2⟩ v I oI C oC DD m₂ h tk E' hP hC hx F' N' off9 ⟨ne1, ne2, ne3⟩
      have off8 := off9
      simp only [LCg.Off3, and_true] at off8
      repeat (have q9 := And.left off8; have q8 := And.left q9; have q7 := And.left (And.right q9); have q6 := And.right (And.right q9); replace off8 := And.right off8)
      obtain ⟨o, ho, hDo⟩ := dat_at_enc hYt hP
      have hin : InRow o := by
        obtain ⟨q, hq, rfl⟩ := List.mem_map.mp (List.mem_of_getElem? ho)
        exact hIn q (.tail _ hq)
      have hi10 : i < 10 := by
        have := (List.getElem?_eq_some_iff.mp ho).1
        simp only [List.length_cons, List.length_map] at hol this
        omega
      w_strict k_steps
      · rename News _ _ _ _ => N9
        refine LCg.CompEnd.intro (by k_asm) N9 ((D1, listOf ((v0 :: vs').drop (1 : Int).toNat).toArray 0) :: (l1, listOf [v0].toArray 0) :: (fd, listOf (v0 :: vs').toArray n') :: (LL + 1, oc) :: (dk, deckO l0 (c2 + 1) _ n) :: (tl ++ rest)) (by kqd_sub) off9 (Or.inr ⟨_, by k_mem, rfl, _, rfl⟩) ⟨c2 + 1, _, qs ++ [none], rfl, ?_, by rw [List.length_append, List.length_singleton, hql], ?_, by omega, by omega⟩
        · rw [List.map_append]
          exact hYq.append (.cons .none .nil)
        · intro q hq
          rcases List.mem_append.mp hq with hq | hq
          · exact hqI q hq
          · rw [List.mem_singleton.mp hq]
            exact fun _ _ e => by cases e
      · rename News _ _ _ _ => N9
        refine LCg.CompEnd.intro (by k_asm) N9 ((D1, listOf ((v0 :: vs').drop (1 : Int).toNat).toArray 0) :: (l1, listOf [v0].toArray 0) :: (fd, listOf (v0 :: vs').toArray n') :: (LL + 1, oc) :: (dk, deckO l0 (c2 + 1) _ n) :: (tl ++ rest)) (by kqd_sub) off9 (Or.inr ⟨_, by k_mem, rfl, _, rfl⟩) ⟨c2 + 1, _, qs ++ [o], rfl, ?_, by rw [List.length_append, List.length_singleton, hql], ?_, by omega, by omega⟩
        · rw [List.map_append]
          exact hYq.append (.cons hDo .nil)
        · intro q hq
          rcases List.mem_append.mp hq with hq | hq
          · exact hqI q hq
          · rw [List.mem_singleton.mp hq]
            exact hin
    · rintro ys nw ⟨c2, tc2, qs, rfl, hYq, hql, hqI, hq1, hq2⟩
      clear FA NA
      unfold LCg.FinE
      intro DR h9 tk9 F9 N9 o9
      have o92 := o9
      simp only [LCg.Off1, and_true] at o9
      repeat (have q9 := And.left o9; replace o9 := And.right o9)
      dsimp only
      have hyl := hYq.length
      have hz9 : [v0].length + ys.length < 10000 := by
        simp only [List.length_cons, List.length_nil, List.length_map, List.size_toArray] at hol hyl hql hdl ⊢
        omega
      w_strict k_steps
      rename_i DZ hZ FZ NZ hlZ z1 z2 z3 z4 z5 z6 lZ kF kN Tc kX
      have hsz : ((v0 :: vs').drop (1 : Int).toNat).toArray.size = os.length := by
        have h9 := hYt.length
        rw [List.length_map, List.length_map] at h9
        rw [List.size_toArray]; exact h9
      rw [hsz] at hql hq2
      simp only [List.length_cons] at hol
      refine ret DZ ([v0] ++ ys) 0 (pa, pb) qs tl c2 tc2 _ _ (by omega) (by omega) hT ?_ ?_ (by omega) ⟨Nat.ne_of_lt z6, off1_of fun p hp => Nat.ne_of_lt (allLt_all lZ p hp)⟩ (fun p hp b hb => hO p hp b (.tail _ (.tail _ hb))) (by k_asm) (cb_drop (by assumption) (by kqd_sub))
      · cases hY with
        | cons h _ => exact .cons h hYq
      · intro q hq
        rcases List.mem_cons.mp hq with rfl | hq
        · exact hIn _ (.head _)
        · exact hqI q hq

end
section
theorem fr_same2 {h₀ h : Heap} {L : Addr} {x : Str} {v v' : Option Value} (F : Fr h₀ L h (fun y => if y = x then v else if y = x then v' else none)) : Fr h₀ L h (fun y => if y = x then v else none) := fr_same (m := fun _ => none) F
theorem llisted_ok {w : World} {p : Program} {loose : List Str} {mean : ExcName → Option Value} {mg mb : Str → Option Value} {dp un : Nat} {gd : Option (List Code)} {cn : Str} {cs : Scope} {a : Addr} {ccd : Value} {cl : List (Str × Addr)} {outer : List Env} {A₀ : Around} {base h₀ : Heap} {L : Addr} {m : Str → Option Value} {s : Shared} {Q E : Value → Shared → Prop} {news : List (Addr × Obj)} {sp : Addr} {vs : List Value} {k : Nat} {os : List (Option (Int × Int))} {L9 : List (Addr × Obj)}
  (B : Below A₀ base outer h₀) (F : Fr h₀ L s.heap m) (X : (Mine.hd.heap_39 w.params).In h₀) (N : News h₀ L s.heap news) (T : Top p loose mean mg mb h₀) (hk : cs.kind = .function) (hsp : (sp, listOf vs.toArray k) ∈ news) (D : DatAll L9 vs (os.map enc)) (sub : ∀ p ∈ L9, p ∈ news) (hl : os.length < 1000)
  (hd : dp + 2 < recursionLimit) (hu : un + 200 < cLine)
  (ret : ∀ (D : Addr) (vs' : List Value) (n' : Nat) (h' : Heap) (tk' : Nat), DatAll [] vs' ((flat (strip os)).map encI) → (∀ q ∈ news, q.1 < D) → Fr h₀ L h' m → News h₀ L h' ((D, listOf vs'.toArray n') :: news) → Q (.ref D) { s with heap := h', toks := tk' }) :
  wpAny (model PySem.Challenge.pw_ok0042_02 w) (ktrTop dp un gd cn cs L a ccd cl outer) (call (.ref 140) [.ref sp]) Q E s := by
  show Keep PySem.Challenge.rw_ok0042_02 Mine.hd.heap_39 (wpAny _ _ _ _ _ _)
  k_fill
  unfold Keep
  refine wpAny_call ?_
  k_dflt cell_enter
  rename_i g LL h1 FG F0 N0 B0 X0 T0
  have hvl := D.length
  rw [List.length_map] at hvl
  have hvb : vs.length < 1000 := by omega
  w_strict k_steps
  unfold Halt
  refine wpAny_mono (Q := Exit fun s' => ∃ (j n' : Nat) (rk : Addr) (h' : Heap) (tk' : Nat), s' = { s with heap := h', toks := tk' } ∧ j ≤ os.length ∧ os.take j = strip os ∧ Fr g LL h' (fun y => if y = Str.ofString "spans" then some (.ref rk) else none) ∧ News g LL h' ((rk, listOf (vs.take j).toArray n') :: news)) ?_ ?_ (fun _ _ e => e)
  · refine whl_inv (fun j s' => ∃ (n' : Nat) (rk : Addr) (h' : Heap) (tk' : Nat), s' = { s with heap := h', toks := tk' } ∧ j ≤ os.length ∧ strip (os.take j) = strip os ∧ Fr g LL h' (fun y => if y = Str.ofString "spans" then some (.ref rk) else none) ∧ News g LL h' ((rk, listOf (vs.take j).toArray n') :: news))
      os.length ⟨k, sp, _, _, rfl, Nat.le_refl _, by rw [List.take_length], ?_, by rw [← hvl, List.take_length]; exact cb_drop N0 (by kqd_sub)⟩ (by with_unfolding_all passes_own) ?_
    · have e9 : (fun y => if y = Str.ofString "spans" then some (Value.ref sp) else none) = (fun y => List.lookup y [(Str.ofString "spans", Value.ref sp)]) := by
        funext y
        rw [List.lookup_cons]
        by_cases h : y = Str.ofString "spans"
        · rw [if_pos h, h]; rfl
        · rw [if_neg h, (beq_eq_false_iff_ne (a := y)).mpr h]; rfl
      rw [e9]; exact F0
    clear F0 N0
    rintro R j _ ⟨n1, rk, h1, tk1, rfl, hj, hs, F2, N2⟩ IH
    by_cases h0 : j = 0
    · subst h0
      rw [List.take_zero] at N2
      w_strict k_steps
      exact ⟨0, n1, rk, _, _, rfl, by omega, by simpa [strip] using hs, by k_asm, cb_drop (by assumption) (by kqd_sub)⟩
    · obtain ⟨v, hv, hv2⟩ := D.get (k := j - 1) (by rw [List.length_map]; omega)
      have hv3 : DatIn L9 v (enc (os.getD (j - 1) none)) := by
        rw [← getD_enc, List.getD_eq_getElem?_getD, List.getElem?_eq_getElem (by rw [List.length_map]; omega)]; exact hv2
      clear hv2
      have et : os.take j = os.take (j - 1) ++ [os.getD (j - 1) none] := by
        have e1 : j = (j - 1) + 1 := by omega
        rw [e1, take_more (o := os.getD (j - 1) none) (by rw [List.getD_eq_getElem?_getD, List.getElem?_eq_getElem (by omega)]; rfl)]
        rfl
      have ev : vs.take j = vs.take (j - 1) ++ [v] := by
        have e1 : j = (j - 1) + 1 := by omega
        rw [e1, take_more hv]
        rfl
      have hvj : (vs.take (j - 1)).length < 1000 := by rw [List.length_take]; omega
      have hvj2 : (vs.take (j - 1) ++ [v]).length < 1000 := by rw [← ev, List.length_take]; omega
      have D3 := datAll_take j (D.mono sub)
      rw [ev] at N2 D3
      have hok : ∀ d ∈ (os.map enc).take j, kqdOk 8 d = true := fun d hd => encs_ok os d (List.mem_of_mem_take hd)
      have hne : (os.map enc).take j ≠ [] := by
        intro e
        have := congrArg List.length e
        rw [List.length_take, List.length_map, List.length_nil] at this
        omega
      have hcut : (vs.take (j - 1) ++ [v]).take ((vs.take (j - 1) ++ [v]).length - (-(-1 : Int)).toNat) = vs.take (j - 1) := by
        rw [List.length_append, List.length_singleton]
        show ((vs.take (j - 1) ++ [v]).take ((vs.take (j - 1)).length + 1 - 1)) = _
        rw [Nat.add_sub_cancel, List.take_left']
        rfl
      rcases datIn_enc hv3 with ⟨e3, rfl⟩ | ⟨a9, b9, t9, u9, ad, n9, e3, rfl, hm⟩
      · w_strict k_steps
        rename_i rk2 _ _ _ _ _ h3 F3 N3
        rw [hcut] at N3
        exact IH (j - 1) _ (by omega) ⟨0, rk2, _, _, rfl, by omega, by rw [et, e3, strip_none] at hs; exact hs, fr_same2 F3, cb_drop N3 (by kqd_sub)⟩
      · have hm9 := sub _ hm
        w_strict k_steps
        exact ⟨j, n1, rk, _, _, rfl, hj, by rw [et, e3, strip_some] at hs; rw [et, e3]; exact hs, by k_asm, by rw [ev]; exact cb_drop (by assumption) (by kqd_sub)⟩
  · rintro f s' hq
    cases f <;> try exact hq.elim
    obtain ⟨j, n1, rk, h1, tk1, rfl, hj, hs, F2, N2⟩ := hq
    clear F0 N0
    dsimp only
    w_strict k_steps
    unfold Halt
    with_unfolding_all refine For_invVF (by k_asm) (by rfl) (by rfl) ?_
    w_strict k_steps
    rename_i fl _ _ lflr lfl _ F3 N3
    unfold Halt
    have D2 := datAll_take j D
    rw [← List.map_take] at D2
    have hvl2 : (vs.take j).length = j := by rw [List.length_take]; omega
    refine kdl_iter (nn := n1) (vs := vs.take j) (fun i m nx => ∃ fl vs' n', m (Str.ofString "found") = some (.ref fl) ∧ nx = (fl, listOf vs'.toArray n') :: (rk, listOf (vs.take j).toArray n1) :: news ∧ (∀ q ∈ news, q.1 < fl) ∧ DatAll [] vs' ((flat ((os.take j).take i)).map encI))
      (by rfl) (.tail _ (.head _)) F3 N3 ⟨fl, [], 0, by rfl, rfl, allLt_all lfl, .nil⟩ ?_ ?_
    · rintro i v m₁ nx h tk own hvi offO hDLm ⟨fl, vs', n', e1, rfl, hfl, hY⟩ F4 N4
      simp only [List.cons_append] at N4
      simp only [List.map_cons] at offO
      have F5 := fr_know (x := Str.ofString "found") F4 (by rw [if_neg (by decide)]; exact e1)
      clear F4 F3 N3
      obtain ⟨o, ho, hDo⟩ := dat_at_enc D2 (by simpa using hvi)
      have hvs : vs'.length < 3000 := by have h9 := hY.length; rw [List.length_map, flat_length, List.length_take, List.length_take] at h9; omega
      rcases datIn_enc hDo with ⟨rfl, rfl⟩ | ⟨a9, b9, t9, u9, ad, n9, rfl, rfl, hm⟩
      · w_strict k_steps
        rename_i DD _ _ _ _ _ _ _ l9 _ F9 N9
        have l10 := allLt_all l9
        refine InvEndG.intro (nx := (DD, listOf (vs' ++ [_, _]).toArray 0) :: (rk, listOf (vs.take j).toArray n1) :: news) F9 N9 ⟨.tail _ (.head _), DD, _, _, by rfl, rfl, fun q hq => l10 q (List.mem_append_left _ hq), ?_⟩ (fun p hp b hb => ?_) (by kqd_sub) (by kqd_sub)
        · rw [take_more ho, flat_app, List.map_append]
          exact hY.append (.cons .none (.cons .none .nil))
        · rcases List.mem_cons.mp hb with rfl | hb
          · exact Nat.ne_of_lt (l10 p (List.mem_append_right _ hp))
          · exact offO p hp b (.tail _ hb)
      · have hm9 := List.mem_append_left own (sub _ hm)
        w_strict k_steps
        rename_i DD _ _ _ _ _ _ _ l9 _ F9 N9
        have l10 := allLt_all l9
        refine InvEndG.intro (nx := (DD, listOf (vs' ++ [_, _]).toArray 0) :: (rk, listOf (vs.take j).toArray n1) :: news) F9 N9 ⟨.tail _ (.head _), DD, _, _, by rfl, rfl, fun q hq => l10 q (List.mem_append_left _ hq), ?_⟩ (fun p hp b hb => ?_) (by kqd_sub) (by kqd_sub)
        · rw [take_more ho, flat_app, List.map_append]
          exact hY.append (.cons (.int _ _) (.cons (.int _ _) .nil))
        · rcases List.mem_cons.mp hb with rfl | hb
          · exact Nat.ne_of_lt (l10 p (List.mem_append_right _ hp))
          · exact offO p hp b (.tail _ hb)
    · rintro m₁ nx h tk ⟨fl, vs', n', e1, rfl, hfl, hY⟩ F4 N4
      have F5 := fr_know (x := Str.ofString "found") F4 e1
      clear F4 F3 N3
      rw [hvl2, List.take_take, Nat.min_self, hs] at hY
      w_strict k_steps
      exact ret fl vs' n' _ _ hY hfl (by k_asm) (cb_drop (by assumption) (by kqd_sub))

end
section
theorem ints_dat : ∀ {vs : List Value}, (∀ v ∈ vs, ∃ i t, v = Value.int i t) → ∃ ds : List Dat, DatAll [] vs ds ∧ ∀ d ∈ ds, kqdOk 8 d = true
  | [], _ => ⟨[], .nil, fun _ h => nomatch h⟩
  | v :: r, h => by
    obtain ⟨i, t, rfl⟩ := h v (.head _)
    obtain ⟨ds, hD, hk⟩ := ints_dat fun v hv => h v (.tail _ hv)
    refine ⟨.int i :: ds, .cons (.int i t) hD, fun d hd => ?_⟩
    rcases List.mem_cons.mp hd with rfl | hd
    · rfl
    · exact hk d hd
section
variable {α : Type}
theorem cut_ahead {R N : List α} {s e a b : Nat} (h : b ≤ s) (hs : s ≤ R.length) : ((R.take s ++ N ++ R.drop e).drop a).take (b - a) = (R.drop a).take (b - a) := by
  by_cases hab : a ≤ b
  · rw [List.append_assoc, List.drop_append_of_le_length (by rw [List.length_take]; omega), List.take_append_of_le_length (by rw [List.length_drop, List.length_take]; omega), List.drop_take, List.take_take]
    congr 1
    omega
  · have e0 : b - a = 0 := by omega
    rw [e0, List.take_zero, List.take_zero]
theorem cut_behind {R N : List α} {s e a b x y : Nat} (h : e ≤ a) (hs : s ≤ e) (he : e ≤ R.length) (hx : x = a - e + (s + N.length)) (hy : y - x = b - a) : ((R.take s ++ N ++ R.drop e).drop x).take (y - x) = (R.drop a).take (b - a) := by
  have hl : (R.take s ++ N).length = s + N.length := by rw [List.length_append, List.length_take]; omega
  rw [hy, hx, List.drop_append, List.drop_of_length_le (by rw [hl]; omega), List.nil_append, List.drop_drop, hl]
  congr 2
  omega
theorem cut_around {R N : List α} {s e a b y : Nat} (ha : a ≤ s) (hs : s ≤ e) (hb : e ≤ b) (hR : e ≤ R.length) (hy : y = b - e + (s + N.length)) :
    ((R.take s ++ N ++ R.drop e).drop a).take (y - a) = (R.drop a).take (s - a) ++ N ++ (R.drop e).take (b - e) := by
  have h1 : (R.take s ++ N ++ R.drop e).drop a = (R.drop a).take (s - a) ++ (N ++ R.drop e) := by
    rw [List.append_assoc, List.drop_append_of_le_length (by rw [List.length_take]; omega), List.drop_take]
  have h2 : ((R.drop a).take (s - a)).length = s - a := by rw [List.length_take, List.length_drop]; omega
  rw [h1, List.take_append, List.take_of_length_le (by rw [h2]; omega), h2, List.append_assoc, List.take_append, List.take_of_length_le (l := N) (by omega)]
  congr 3
  omega
theorem cut_tail {R N : List α} {s e b y : Nat} (hs : s ≤ e) (hb : e ≤ b) (hR : e ≤ R.length) (hy : y = b - e + (s + N.length)) :
    ((R.take s ++ N ++ R.drop e).drop s).take (y - s) = N ++ (R.drop e).take (b - e) := by
  have := cut_around (R := R) (N := N) (a := s) (Nat.le_refl _) hs hb hR hy
  rw [this, Nat.sub_self, List.take_zero, List.nil_append]
end
section
variable {prog : Program} {w : World} {A : Around} {E : Value → Shared → Prop} {s : Shared} {h₀ : Heap} {L a b : Addr} {news : List (Addr × Obj)} {oa ob : Obj} {xs ys : List Value} {ka kb : Nat} {ds : List Dat} {Q : Value → Shared → Prop}
theorem eq_vals (N : News h₀ L s.heap news) (ma : (a, oa) ∈ news) (mb : (b, ob) ∈ news) (ca : oa.cls = .type "list") (da : oa.data = .seq xs.toArray ka) (cb : ob.cls = .type "list") (db : ob.data = .seq ys.toArray kb)
    (e : xs = ys) (D : DatAll [] ys ds) (hb : ∀ d ∈ ds, kqdOk 8 d = true) (hu : A.units + 64 < cLine) (h : Q (.bool true) s) : wpAny (model prog w) A (compareOp .Eq (.ref a) (.ref b)) Q E s := by
  subst e
  exact kqd_eq N ma ca da D (fun _ h => nomatch h) mb cb db D (fun _ h => nomatch h) hb hb hu (by simpa using h)
end
theorem kwacg : True := by
  k_with "compareOp Eq ref ref" => (k_here; (with_reducible show wpAny _ _ (compareOp CmpOp.Eq (Value.ref _) (Value.ref _)) _ _ _); k_dflt (refine' eq_vals ?N_152d ?a_152d ?f_152d ?b_152d ?c_152d ?g_152d ?i_152d ?d_152d ?j_152d ?e_152d ?n_152d ?_; (case N_152d => k_asm); (case a_152d => k_mem); (case f_152d => k_mem); (case b_152d => rfl); (case c_152d => rfl); (case g_152d => rfl); (case i_152d => rfl); (case d_152d => with_reducible assumption); (case j_152d => with_reducible assumption); (case e_152d => with_reducible assumption); (case n_152d => ke_room); k_whole))
  trivial
theorem nn_sub {a b e : Nat} (h1 : e ≤ a) (h2 : e ≤ b) : b - e - (a - e) = b - a := by omega
theorem tn_shift {a s e x : Int} {n : Nat} (h0 : 0 ≤ s) (he : 0 ≤ e) (ha : e ≤ a) (hx : x = a + (s + n) - e) : x.toNat = a.toNat - e.toNat + (s.toNat + n) := by
  subst hx
  obtain ⟨k, rfl⟩ := Int.le.dest ha
  rw [show e + (k : Int) + (s + n) - e = ((k + (s.toNat + n) : Nat) : Int) by rw [Int.natCast_add, Int.natCast_add, Int.toNat_of_nonneg h0]; omega, Int.toNat_natCast, show (e + (k : Int)).toNat = e.toNat + k by rw [Int.toNat_add he (Int.natCast_nonneg k), Int.toNat_natCast], Nat.add_sub_cancel_left]
theorem tn_len {a b s e x y : Int} {n : Nat} (h0 : 0 ≤ s) (he : 0 ≤ e) (ha : e ≤ a) (hb : e ≤ b) (hx : x = a + (s + n) - e) (hy : y = b + (s + n) - e) : y.toNat - x.toNat = b.toNat - a.toNat := by
  rw [tn_shift h0 he ha hx, tn_shift h0 he hb hy, Nat.add_sub_add_right]
  exact nn_sub (Int.toNat_le_toNat ha) (Int.toNat_le_toNat hb)
theorem lmoved_ok {w : World} {p : Program} {loose : List Str} {mean : ExcName → Option Value} {mg mb : Str → Option Value} {dp un : Nat} {gd : Option (List Code)} {cn : Str} {cs : Scope} {a : Addr} {ccd : Value} {cl : List (Str × Addr)} {outer : List Env} {A₀ : Around} {base h₀ : Heap} {L : Addr} {m : Str → Option Value} {s : Shared} {Q E : Value → Shared → Prop} {news : List (Addr × Obj)} {v1 v2 : Value} {o : Option (Int × Int)} {st en : Int} {t3 t4 : Tok} {nw rw' ch : Addr} {vsR vsN : List Value} {kr kn kc : Nat} {L1 L2 : List (Addr × Obj)}
  (B : Below A₀ base outer h₀) (F : Fr h₀ L s.heap m) (X : (Mine.hd.heap_39 w.params).In h₀) (N : News h₀ L s.heap news) (T : Top p loose mean mg mb h₀) (hk : cs.kind = .function) (D1 : DatIn L1 v1 (enc o)) (D2 : DatIn L2 v2 (enc (o.map (mv st en (st + vsN.length))))) (s1 : ∀ p ∈ L1, p ∈ news) (s2 : ∀ p ∈ L2, p ∈ news) (hnw : (nw, listOf vsN.toArray kn) ∈ news) (hrw : (rw', listOf vsR.toArray kr) ∈ news)
  (hch : (ch, listOf (vsR.take st.toNat ++ vsN ++ vsR.drop en.toNat).toArray kc) ∈ news) (iN : ∀ v ∈ vsN, ∃ i t, v = Value.int i t) (iR : ∀ v ∈ vsR, ∃ i t, v = Value.int i t) (lN : vsN.length < 100) (lR : vsR.length = 20) (hst : 0 ≤ st) (hse : st < en) (hen : en ≤ 20) (hin : InRow o)
  (hd : dp + 2 < recursionLimit) (hu : un + 200 < cLine)
  (ret : ∀ (h' : Heap) (tk' : Nat), Fr h₀ L h' m → News h₀ L h' news → Q (.bool true) { s with heap := h', toks := tk' }) :
  wpAny (model PySem.Challenge.pw_ok0042_02 w) (ktrTop dp un gd cn cs L a ccd cl outer) (call (.ref 147) [v1, v2, .int st t3, .int en t4, .ref nw, .ref rw', .ref ch]) Q E s := by
  show Keep PySem.Challenge.rw_ok0042_02 Mine.hd.heap_39 (wpAny _ _ _ _ _ _)
  k_fill
  unfold Keep
  refine wpAny_call ?_
  k_dflt cell_enter
  rcases datIn_enc D1 with ⟨rfl, rfl⟩ | ⟨a9, b9, t9, u9, ad, n9, rfl, rfl, hm1⟩
  · rcases datIn_enc D2 with ⟨_, rfl⟩ | ⟨x, y, t8, u8, ad2, n8, e8, _, _⟩
    · w_strict k_steps
      exact ret _ _ (by k_asm) (by k_asm)
    · cases e8
  · rcases datIn_enc D2 with ⟨e8, _⟩ | ⟨x, y, t8, u8, ad2, n8, e8, rfl, hm2⟩
    · cases e8
    · simp only [Option.map_some, mv, Option.some.injEq, Prod.mk.injEq] at e8
      obtain ⟨ex, ey⟩ := e8
      have hb := hin a9 b9 rfl
      have hm1' := s1 _ hm1
      have hm2' := s2 _ hm2
      have hlc : (vsR.take st.toNat ++ vsN ++ vsR.drop en.toNat).length < 1000 := by rw [List.length_append, List.length_append, List.length_take, List.length_drop]; omega
      have hlr : vsR.length < 1000 := by omega
      have iT : ∀ {i j : Nat}, ∀ v ∈ (vsR.drop i).take j, ∃ i t, v = Value.int i t := fun v hv => iR v (List.mem_of_mem_drop (List.mem_of_mem_take hv))
      unfold mvF at ex
      unfold mvL at ey
      by_cases c1 : b9 ≤ st
      · have ex' : x = a9 := by rw [← ex, if_neg (by omega)]
        have ey' : y = b9 := by rw [← ey, if_neg (by omega), if_neg (by omega)]
        subst ex' ey'
        have hxy : ((vsR.take st.toNat ++ vsN ++ vsR.drop en.toNat).drop x.toNat).take (y.toNat - x.toNat) = (vsR.drop x.toNat).take (y.toNat - x.toNat) := cut_ahead (by omega) (by omega)
        obtain ⟨ds, hD, hk8⟩ := ints_dat (iT (i := x.toNat) (j := y.toNat - x.toNat))
        clear ex ey
        w_strict k_steps
        exact ret _ _ (by k_asm) (cb_drop (by assumption) (by kqd_sub))
      by_cases c2 : a9 ≥ en
      · have ex' : x = a9 + (st + vsN.length) - en := by rw [← ex, if_pos (by omega), if_pos (by omega)]
        have ey' : y = b9 + (st + vsN.length) - en := by rw [← ey, if_pos (by omega)]
        have hxy : ((vsR.take st.toNat ++ vsN ++ vsR.drop en.toNat).drop x.toNat).take (y.toNat - x.toNat) = (vsR.drop a9.toNat).take (b9.toNat - a9.toNat) := cut_behind (Int.toNat_le_toNat (by omega)) (Int.toNat_le_toNat (by omega)) (Int.toNat_le.mpr (by omega)) (tn_shift hst (by omega) (by omega) ex') (tn_len hst (by omega) (by omega) (by omega) ex' ey')
        obtain ⟨ds, hD, hk8⟩ := ints_dat (iT (i := a9.toNat) (j := b9.toNat - a9.toNat))
        have hx0 : 0 ≤ x := by omega
        have hy0 : 0 ≤ y := by omega
        clear ex ey ex' ey'
        w_strict k_steps
        exact ret _ _ (by k_asm) (cb_drop (by assumption) (by kqd_sub))
      have iB : ∀ {i j : Nat}, ∀ v ∈ vsN ++ (vsR.drop i).take j, ∃ i t, v = Value.int i t := fun v hv => by
        rcases List.mem_append.mp hv with hv | hv
        · exact iN v hv
        · exact iT v hv
      have lT : ∀ i j : Nat, ((vsR.drop i).take j).length ≤ 20 := fun i j => by rw [List.length_take, List.length_drop]; omega
      by_cases c3 : a9 ≤ st
      · have ex' : x = a9 := by rw [← ex, if_neg (by omega)]
        subst ex'
        by_cases c4 : b9 ≥ en
        · have ey' : y = b9 + (st + vsN.length) - en := by rw [← ey, if_pos (by omega)]
          have hxy : ((vsR.take st.toNat ++ vsN ++ vsR.drop en.toNat).drop x.toNat).take (y.toNat - x.toNat) = (vsR.drop x.toNat).take (st.toNat - x.toNat) ++ vsN ++ (vsR.drop en.toNat).take (b9.toNat - en.toNat) := cut_around (Int.toNat_le_toNat (by omega)) (Int.toNat_le_toNat (by omega)) (Int.toNat_le_toNat (by omega)) (Int.toNat_le.mpr (by omega)) (tn_shift hst (by omega) (by omega) ey')
          obtain ⟨ds, hD, hk8⟩ := ints_dat (vs := (vsR.drop x.toNat).take (st.toNat - x.toNat) ++ vsN ++ (vsR.drop en.toNat).take (b9.toNat - en.toNat)) (fun v hv => by
            rw [List.append_assoc] at hv
            rcases List.mem_append.mp hv with hv | hv
            · exact iT v hv
            · exact iB v hv)
          have hy0 : 0 ≤ y := by omega
          have l1 := lT x.toNat (st.toNat - x.toNat)
          have l2 := lT en.toNat (b9.toNat - en.toNat)
          have l3 : ((vsR.drop x.toNat).take (st.toNat - x.toNat) ++ vsN).length < 200 := by rw [List.length_append]; omega
          clear ex ey ey'
          w_strict k_steps
          exact ret _ _ (by k_asm) (cb_drop (by assumption) (by kqd_sub))
        · have ey' : y = st := by rw [← ey, if_neg (by omega), if_pos (by omega)]
          subst ey'
          clear ex ey
          w_strict k_steps
          exact ret _ _ (by k_asm) (cb_drop (by assumption) (by kqd_sub))
      · have ex' : x = st := by rw [← ex, if_pos (by omega), if_neg (by omega)]
        subst ex'
        by_cases c4 : b9 ≥ en
        · have ey' : y = b9 + (x + vsN.length) - en := by rw [← ey, if_pos (by omega)]
          have hxy : ((vsR.take x.toNat ++ vsN ++ vsR.drop en.toNat).drop x.toNat).take (y.toNat - x.toNat) = vsN ++ (vsR.drop en.toNat).take (b9.toNat - en.toNat) := cut_tail (Int.toNat_le_toNat (by omega)) (Int.toNat_le_toNat (by omega)) (Int.toNat_le.mpr (by omega)) (tn_shift (by omega) (by omega) (by omega) ey')
          obtain ⟨ds, hD, hk8⟩ := ints_dat (iB (i := en.toNat) (j := b9.toNat - en.toNat))
          have hy0 : 0 ≤ y := by omega
          have l2 := lT en.toNat (b9.toNat - en.toNat)
          clear ex ey ey'
          w_strict k_steps
          · exact ret _ _ (by k_asm) (cb_drop (by assumption) (by kqd_sub))
          · exact absurd rfl (by assumption : x ≠ x)
        · have ey' : y = x := by rw [← ey, if_neg (by omega), if_pos (by omega)]
          subst ey'
          clear ex ey
          w_strict k_steps
          exact ret _ _ (by k_asm) (cb_drop (by assumption) (by kqd_sub))

end
theorem kwach : True := by
  k_with_none
  k_with "ta" => (try dsimp only)
  k_with "tb" => (try k_sweep)
  k_with "tc" => (try k_fold)
  k_with "w0" => (have hcL9 := cLine_is; (try simp only [units_in1, units_deeper, Around.mark_units, units_caller]); (try dsimp only [ktrTop]); omega)
  k_with "w1" => (k_here; (with_reducible show wpAny _ _ (call (Value.ref 114) _) _ _ _); k_dflt (refine' moved_ok ?k1_267c ?k2_267c ?k3_267c ?k4_267c ?k5_267c ?kK_267c ?hm_267c ?hd_267c ?hu_267c ?_; (case k1_267c => k_asm); (case k2_267c => k_asm); (case k3_267c => k_asm); (case k4_267c => k_asm); (case k5_267c => k_asm); (case kK_267c => first | exact rfl | assumption); (case hm_267c => k_mem); (case hd_267c => ktr_room); (case hu_267c => ke_room)))
  k_with "w2" => (refine' code_defC ?k1_73de ?k2_73de ?k3_73de ?k4_73de ?k5_73de ?kA_73de ?kF_73de ?kK_73de ?k6_73de ?k7_73de ?k8_73de ?k9_73de ?kB_73de ?kD_73de ?_ ?c2_73de ?c3_73de ?c4_73de; (case kA_73de => exact rfl); (case kF_73de => exact rfl); (case kK_73de => assumption); (case k1_73de => k_asm); (case k2_73de => k_asm); (case k3_73de => k_asm); (case k4_73de => k_asm); (case k5_73de => k_asm); (case k6_73de => k_is); (case k7_73de => k_is); (case k8_73de => ktr_room); (case k9_73de => exact BindsTo.of_eq rfl); (case kB_73de => exact rfl); (case kD_73de => decide +kernel); (case c2_73de => exact rfl); (case c3_73de => exact rfl); (case c4_73de => exact rfl); k_whole)
  k_with "w3" => (k_here; (with_reducible show wpAny _ _ (subscriptTail _ (PySem.Expr.Slice _ _ none _) (Value.ref _) (Value.ref _)) _ _ _); k_dflt (refine' slice_to ?F_7f9f ?N_7f9f ?l_7f9f ?p_7f9f ?q_7f9f ?e_7f9f ?z_7f9f ?_ ?s_7f9f ?t_7f9f; (case F_7f9f => k_asm); (case N_7f9f => k_asm); (case l_7f9f => k_mem); (case p_7f9f => kmk_part); (case q_7f9f => kmk_part); (case e_7f9f => first | exact pick_upto (by omega) | exact pick_from (by omega) | exact pick_part (by omega) (by omega) | exact pick_less (by omega)); (case s_7f9f => with_unfolding_all rfl); (case t_7f9f => kmk_pure); (case z_7f9f => omega)))
  k_with "w4" => (k_here; (with_reducible show wpAny _ _ (call (Value.type _) [Value.ref _]) _ _ _); k_dflt (first | (refine' copyL ?F_06eb ?N_06eb ?m_06eb ?z_06eb ?_; (case F_06eb => k_asm); (case N_06eb => k_asm); (case m_06eb => k_mem); (case z_06eb => omega)) | (refine' copyT ?F_06eb ?N_06eb ?m_06eb ?_; (case F_06eb => k_asm); (case N_06eb => k_asm); (case m_06eb => k_mem))))
  k_with "w5" => (k_here; (with_reducible show wpAny _ _ (binaryOp _ (Value.ref _) (Value.ref _)) _ _ _); k_dflt (refine' addL ?F_f34b ?N_f34b ?a_f34b ?b_f34b ?z_f34b ?_; (case F_f34b => k_asm); (case N_f34b => k_asm); (case a_f34b => k_mem); (case b_f34b => k_mem); (case z_f34b => first | omega | (simp only [List.length_cons, List.length_nil]; omega))))
  k_with "w6" => (refine' code_def ?k1_91da ?k2_91da ?k3_91da ?k4_91da ?k5_91da ?kA_91da ?kF_91da ?kK_91da ?k6_91da ?k7_91da ?k8_91da ?k9_91da ?kB_91da ?_ ?c2_91da ?c3_91da ?c4_91da ?c5_91da; (case kA_91da => exact rfl); (case kF_91da => exact rfl); (case kK_91da => first | exact rfl | assumption); (case k1_91da => k_asm); (case k2_91da => k_asm); (case k3_91da => k_asm); (case k4_91da => k_asm); (case k5_91da => k_asm); (case k6_91da => k_is); (case k7_91da => k_is); (case k8_91da => ktr_room); (case k9_91da => exact BindsTo.of_eq rfl); (case c5_91da => decide); (case kB_91da => exact locs rfl); (case c2_91da => exact rfl); (case c3_91da => exact rfl); (case c4_91da => exact rfl); k_whole)
  k_with "w7" => (refine' code_defC ?k1_e452 ?k2_e452 ?k3_e452 ?k4_e452 ?k5_e452 ?kA_e452 ?kF_e452 ?kK_e452 ?k6_e452 ?k7_e452 ?k8_e452 ?k9_e452 ?kB_e452 ?kD_e452 ?_ ?c2_e452 ?c3_e452 ?c4_e452; (case kA_e452 => exact rfl); (case kF_e452 => exact rfl); (case kK_e452 => first | exact rfl | assumption); (case k1_e452 => k_asm); (case k2_e452 => k_asm); (case k3_e452 => k_asm); (case k4_e452 => k_asm); (case k5_e452 => k_asm); (case k6_e452 => k_is); (case k7_e452 => k_is); (case k8_e452 => ktr_room); (case k9_e452 => exact BindsTo.of_eq rfl); (case kB_e452 => exact rfl); (case kD_e452 => decide +kernel); (case c2_e452 => exact rfl); (case c3_e452 => exact rfl); (case c4_e452 => exact rfl); k_whole)
  k_with "w8" => (refine neN ?_; (try dsimp only); first | with_reducible assumption | (with_reducible refine Ne.symm ?_; with_reducible assumption) | (with_reducible refine Nat.ne_of_lt ?_; with_reducible assumption) | (with_reducible refine Nat.ne_of_gt ?_; with_reducible assumption))
  k_with "w9" => first | with_reducible assumption | exact in_of_fr (by with_reducible assumption) (by with_reducible assumption)
  k_with "w10" => (k_here; (with_reducible show wpAny _ _ (call (Value.ref 121) _) _ _ _); k_dflt (refine' draw2_use ?k1_44b5 ?k2_44b5 ?k3_44b5 ?k4_44b5 ?k5_44b5 ?kK_44b5 ?U_44b5 ?hl0_44b5 ?hne_44b5 ?hi_44b5 ?hl_44b5 ?hc0_44b5 ?hc1_44b5 ?hm_44b5 ?hm2_44b5 ?hd_44b5 ?hu_44b5 ?_; (case k1_44b5 => k_asm); (case k2_44b5 => k_asm); (case k3_44b5 => k_asm); (case k4_44b5 => k_asm); (case k5_44b5 => k_asm); (case kK_44b5 => first | exact rfl | assumption); (case U_44b5 => (intro _; k_upd)); (case hl0_44b5 => k_mem); (case hne_44b5 => k_ne); (case hi_44b5 => with_reducible assumption); (case hl_44b5 => assumption); (case hc0_44b5 => omega); (case hc1_44b5 => omega); (case hm_44b5 => omega); (case hm2_44b5 => omega); (case hd_44b5 => ktr_room); (case hu_44b5 => ke_room)))
  k_with "w11" => (k_here; (with_reducible show wpAny _ _ (call (Value.ref 100) _) _ _ _); k_dflt (refine' mrepl_use ?k1_f4fd ?k2_f4fd ?k3_f4fd ?k4_f4fd ?k5_f4fd ?kK_f4fd ?hx_f4fd ?hsp_f4fd ?D_f4fd ?sub_f4fd ?TL_f4fd ?hl_f4fd ?U_f4fd ?hd_f4fd ?hu_f4fd ?_; (case k1_f4fd => k_asm); (case k2_f4fd => k_asm); (case k3_f4fd => k_asm); (case k4_f4fd => k_asm); (case k5_f4fd => k_asm); (case kK_f4fd => first | exact rfl | assumption); (case hx_f4fd => k_mem); (case U_f4fd => (intro _; k_upd)); (case hsp_f4fd => k_mem); (case D_f4fd => with_reducible assumption); (case sub_f4fd => kqd_sub); (case TL_f4fd => with_reducible assumption); (case hl_f4fd => omega); (case hd_f4fd => ktr_room); (case hu_f4fd => ke_room)))
  k_with "w12" => (k_here; (with_reducible show wpAny _ _ (call (Value.ref 83) _) _ _ _); k_dflt (refine' mlist_ok ?k1_04f8 ?k2_04f8 ?k3_04f8 ?k4_04f8 ?k5_04f8 ?kK_04f8 ?hx_04f8 ?hdx_04f8 ?hsp_04f8 ?D_04f8 ?sub_04f8 ?hl_04f8 ?hd_04f8 ?hu_04f8 ?_; (case k1_04f8 => k_asm); (case k2_04f8 => k_asm); (case k3_04f8 => k_asm); (case k4_04f8 => k_asm); (case k5_04f8 => k_asm); (case kK_04f8 => first | exact rfl | assumption); (case hx_04f8 => k_mem); (case hdx_04f8 => k_mem); (case hsp_04f8 => k_mem); (case D_04f8 => with_reducible assumption); (case sub_04f8 => kqd_sub); (case hl_04f8 => omega); (case hd_04f8 => ktr_room); (case hu_04f8 => ke_room)))
  k_with "w13" => (k_here; (with_reducible show wpAny _ _ (call (Value.ref 90) _) _ _ _); k_dflt (refine' mrest_use ?k1_b474 ?k2_b474 ?k3_b474 ?k4_b474 ?k5_b474 ?kK_b474 ?hx_b474 ?hpl_b474 ?D_b474 ?hl_b474 ?U_b474 ?hd_b474 ?hu_b474 ?_; (case k1_b474 => k_asm); (case k2_b474 => k_asm); (case k3_b474 => k_asm); (case k4_b474 => k_asm); (case k5_b474 => k_asm); (case kK_b474 => first | exact rfl | assumption); (case hx_b474 => k_mem); (case U_b474 => (intro _; k_upd)); (case hpl_b474 => k_mem); (case D_b474 => first | with_reducible assumption | exact (by with_reducible assumption : ∀ t : Tok, DatAll [] (_ ++ [Value.int 1 t]) _) _); (case hl_b474 => omega); (case hd_b474 => ktr_room); (case hu_b474 => ke_room)))
  k_with "w14" => (k_here; (with_reducible show wpAny _ _ (call (Value.ref 95) _) _ _ _); k_dflt (refine' mtran_use ?k1_20f7 ?k2_20f7 ?k3_20f7 ?k4_20f7 ?k5_20f7 ?kK_20f7 ?hx_20f7 ?hsp_20f7 ?D_20f7 ?sub_20f7 ?TL_20f7 ?hl_20f7 ?U_20f7 ?hd_20f7 ?hu_20f7 ?_; (case k1_20f7 => k_asm); (case k2_20f7 => k_asm); (case k3_20f7 => k_asm); (case k4_20f7 => k_asm); (case k5_20f7 => k_asm); (case kK_20f7 => first | exact rfl | assumption); (case hx_20f7 => k_mem); (case U_20f7 => (intro _; k_upd)); (case hsp_20f7 => k_mem); (case D_20f7 => with_reducible assumption); (case sub_20f7 => kqd_sub); (case TL_20f7 => with_reducible assumption); (case hl_20f7 => omega); (case hd_20f7 => ktr_room); (case hu_20f7 => ke_room)))
  k_with "w15" => (k_here; (with_reducible show wpAny _ _ (call (Value.ref 140) _) _ _ _); k_dflt (refine' llisted_ok ?k1_aa7c ?k2_aa7c ?k3_aa7c ?k4_aa7c ?k5_aa7c ?kK_aa7c ?hsp_aa7c ?D_aa7c ?sub_aa7c ?hl_aa7c ?hd_aa7c ?hu_aa7c ?_; (case k1_aa7c => k_asm); (case k2_aa7c => k_asm); (case k3_aa7c => k_asm); (case k4_aa7c => k_asm); (case k5_aa7c => k_asm); (case kK_aa7c => first | exact rfl | assumption); (case hsp_aa7c => k_mem); (case D_aa7c => with_reducible assumption); (case sub_aa7c => kqd_sub); (case hl_aa7c => omega); (case hd_aa7c => ktr_room); (case hu_aa7c => ke_room)))
  k_with "w16" => (k_here; (with_reducible show wpAny _ _ (binaryOp _ (Value.ref _) (Value.ref _)) _ _ _); k_dflt (refine' addL ?F_261b ?N_261b ?a_261b ?b_261b ?z_261b ?_; (case F_261b => k_asm); (case N_261b => k_asm); (case a_261b => k_mem); (case b_261b => k_mem); (case z_261b => first | omega | (simp only [List.length_cons, List.length_nil, List.length_replicate]; omega))))
  k_with "w17" => (k_here; (with_reducible show wpAny _ _ (binaryOp Operator.Mult (Value.ref _) (Value.int _ _)) _ _ _); k_dflt (refine' mul2 ?F_452d ?N_452d ?l_452d ?e_452d ?z_452d ?_; (case F_452d => k_asm); (case N_452d => k_asm); (case l_452d => k_mem); (case e_452d => omega); (case z_452d => omega)))
  k_with "WPost" => (dsimp only [WPost])
  k_with "call builtin:len" => (k_here; (with_reducible show wpAny _ _ (call (Value.builtin "len") [Value.ref _]) _ _ _); k_dflt (refine' kd_len ?k1_eae0 ?k2_eae0 ?k3_eae0 ?k4_eae0 ?_; (case k1_eae0 => k_asm); (case k2_eae0 => k_mem); (case k3_eae0 => with_reducible assumption); (case k4_eae0 => omega); k_whole))
  k_with "subscriptTail" => (k_here; (with_reducible show wpAny _ _ (subscriptTail _ _ (Value.ref _) (Value.int _ _)) _ _ _); k_dflt (refine' item_dat ?k1_b351 ?k2_b351 ?k3_b351 ?k4_b351 ?k5_b351 ?k6_b351 ?_ ?k7_b351; (case k1_b351 => k_asm); (case k2_b351 => k_mem); (case k3_b351 => with_reducible assumption); (case k4_b351 => omega); (case k5_b351 => omega); (case k6_b351 => omega); (case k7_b351 => with_unfolding_all rfl); k_whole); intro _ _)
  k_with "subscriptTail" => (k_here; (with_reducible show wpAny _ _ (subscriptTail _ _ (Value.ref _) (Value.int _ _)) _ _ _); k_dflt (refine' item_at ?k1_c249 ?k2_c249 ?k3_c249 ?k5_c249 ?k6_c249 ?_ ?k7_c249; (case k1_c249 => k_asm); (case k2_c249 => k_mem); (case k3_c249 => with_reducible assumption); (case k5_c249 => omega); (case k6_c249 => omega); (case k7_c249 => with_unfolding_all rfl); k_whole))
  k_with "exec For Name Call cons nil" => (k_here; refine halt_in ?_)
  k_with "exec For Name Subscript cons nil" => (k_here; refine halt_in ?_)
  k_with "exec For Name Name cons nil" => (k_here; refine halt_in ?_)
  k_with "pyIter ref" => (k_here; (with_reducible show wpAny _ _ (pyIter (Value.ref _)) (fun it s₂ => LoopAtV _ _ _ _ _ _ _ _ _ it s₂) _ _); refine halt_in ?_)
  k_with "call type:range" => (k_here; k_dflt (first | (refine' range1_rows ?F_0dec ?N_0dec ?_; (case F_0dec => k_asm); (case N_0dec => k_asm); k_whole) | (refine' range2_rows ?F_0dec ?N_0dec ?_; (case F_0dec => k_asm); (case N_0dec => k_asm); k_whole) | (refine' range3_rows ?F_0dec ?N_0dec ?c_0dec ?_ ?p_0dec; (case F_0dec => k_asm); (case N_0dec => k_asm); (case c_0dec => decide); (case p_0dec => exact Or.inl (PyProof.noPylong_small (by omega))); k_whole)); intro _ _ _ _ _ _ _ _ _; (try dsimp only))
  k_with "call builtin:list.append" => (k_here; (with_reducible show wpAny _ _ (call (Value.builtin _) [Value.ref _, _]) _ _ _); k_dflt (refine' append_K ?k1_2bc2 ?k2_2bc2 ?k3_2bc2 ?_ ?z_2bc2; (case k1_2bc2 => k_asm); (case k2_2bc2 => k_asm); (case k3_2bc2 => k_upd); (case z_2bc2 => (simp only [List.size_toArray, sizeLine]; omega)); k_whole); intro _ _ _)
  k_with "exec While" => (k_here; refine halt_in ?_)
  k_with "call builtin:list.extend" => (k_here; (with_reducible show wpAny _ _ (call (Value.builtin _) [Value.ref _, Value.ref _]) _ _ _); k_dflt (refine' ext2 ?F_5b0c ?N_5b0c ?b_5b0c ?U_5b0c ?z_5b0c ?_; (case F_5b0c => k_asm); (case N_5b0c => k_asm); (case b_5b0c => k_mem); (case U_5b0c => k_upd); (case z_5b0c => omega)); intro _ _ _)
  k_with "subscriptTail" => (k_here; (with_reducible show wpAny _ _ (subscriptTail _ _ (Value.ref _) (Value.int (-1) _)) _ _ _); k_dflt (refine' item_last ?k1_063f ?k2_063f ?_ ?k7_063f; (case k1_063f => k_asm); (case k2_063f => k_mem); (case k7_063f => with_unfolding_all rfl); k_whole))
  k_with "call builtin:list.pop" => (k_here; (with_reducible show wpAny _ _ (call (Value.builtin _) [Value.ref _]) _ _ _); k_dflt (refine' pop_last ?F_dea1 ?N_dea1 ?U_dea1 ?z_dea1 ?_; (case F_dea1 => k_asm); (case N_dea1 => k_asm); (case U_dea1 => k_upd); (case z_dea1 => omega)); intro _ _ _)
  k_with "eval ListComp" => (k_here; lct_look; k_dflt (refine LCt.ListComp_T (F₀ := by k_asm) (by with_unfolding_all rfl) (by decide) (by rfl) (by decide) (by rfl) ?_))
  k_with "eval ListComp" => (k_here; (fail_if_success lct_look); k_dflt (refine LCg.ListComp_U (F₀ := by k_asm) (by with_unfolding_all rfl) (by decide) (by rfl) (by decide) (by rfl) ?_))
  k_with "exec Assign cons ListComp" => (k_here; lct_look; k_dflt (refine LCt.Assign_ListComp_T (F₀ := by k_asm) (by rfl) (by with_unfolding_all rfl) (by with_unfolding_all rfl) (by decide) (by rfl) (by decide) (by rfl) (by rfl) (by rfl) ?_))
  k_with "exec Assign cons ListComp" => (k_here; (fail_if_success lct_look); k_dflt (refine LCg.Assign_ListComp_U (F₀ := by k_asm) (by rfl) (by with_unfolding_all rfl) (by with_unfolding_all rfl) (by decide) (by rfl) (by decide) (by rfl) (by rfl) (by rfl) ?_))
  k_with "CompSrc" => (k_here; k_dflt (first | (refine' LCg.CompSrc.ledger ?hh_f88f ?F_f88f ?N_f88f ?m_f88f ?z_f88f ?_; (case hh_f88f => rfl); (case F_f88f => k_asm); (case N_f88f => k_asm); (case m_f88f => k_mem); (case z_f88f => first | (simp only [List.size_toArray, sizeLine]; omega) | ((have hz9 := IntsAre.length (by with_reducible assumption)); simp only [List.size_toArray, sizeLine]; omega))) | (refine' LCg.CompSrc.range ?hh_f88f ?F_f88f ?N_f88f ?r_f88f ?s_f88f ?n_f88f ?z_f88f ?_; (case hh_f88f => rfl); (case F_f88f => k_asm); (case N_f88f => k_asm); (case r_f88f => with_reducible assumption); (case s_f88f => exact small_one (by omega) (by omega) (by omega) (by omega)); (case n_f88f => exact rangeSize_nat _ _); (case z_f88f => (simp only [sizeLine]; omega)))); intro _)
  k_with "CompSrcT" => (k_here; k_dflt (first | (refine' LCt.CompSrcT.ledger ?hh_7a1e ?F_7a1e ?N_7a1e ?m_7a1e ?z_7a1e ?_; (case hh_7a1e => rfl); (case F_7a1e => k_asm); (case N_7a1e => k_asm); (case m_7a1e => k_mem); (case z_7a1e => first | (simp only [List.size_toArray, sizeLine]; omega))) | (refine' LCt.CompSrcT.range ?hh_7a1e ?F_7a1e ?N_7a1e ?r_7a1e ?s_7a1e ?n_7a1e ?z_7a1e ?_; (case hh_7a1e => rfl); (case F_7a1e => k_asm); (case N_7a1e => k_asm); (case r_7a1e => with_reducible assumption); (case s_7a1e => exact small_one (by omega) (by omega) (by omega) (by omega)); (case n_7a1e => exact rangeSize_nat _ _); (case z_7a1e => (simp only [sizeLine]; omega)))); intro _)
  k_with "own mem" => first | with_reducible exact List.mem_cons_self | (with_reducible refine List.mem_cons_of_mem _ ?_; k_extra "own mem") | (with_reducible refine List.mem_append_left _ ?_; k_extra "own mem") | (with_reducible refine List.mem_append_right _ ?_; k_extra "own mem") | with_reducible assumption
  k_with "own sub" => first | with_reducible exact fun _ h => h | with_reducible exact List.forall_mem_nil _ | (with_reducible refine List.forall_mem_cons.mpr ⟨?_, ?_⟩; (k_extra "own mem"); (k_extra "own sub")) | (with_reducible refine List.forall_mem_append.mpr ⟨?_, ?_⟩; (k_extra "own sub"); (k_extra "own sub")) | (intro _ _; k_extra "own mem") | ((with_reducible show ∀ p ∈ (_ : List (Addr × Obj)), p ∈ _); refine sub_trans (by with_reducible assumption) ?_; k_extra "own sub")
  k_with "own all" => first | with_reducible exact List.forall_mem_nil _ | (with_reducible refine List.forall_mem_cons.mpr ⟨?_, ?_⟩; k_ne; (k_extra "own all")) | (with_reducible refine List.forall_mem_append.mpr ⟨?_, ?_⟩; (k_extra "own all"); (k_extra "own all")) | exact OwnOff.ne (by with_reducible assumption) (by k_memK) | exact allLt_off (by with_reducible assumption) (by k_extra "own sub") | exact off1_off (by with_reducible assumption) (by k_extra "own sub") | exact tups_offD (by with_reducible assumption) (by with_reducible assumption) (by k_extra "own sub") (by k_extra "own mem") | exact tups_offL (by with_reducible assumption) (by with_reducible assumption) (by k_extra "own sub") (by k_extra "own mem")
  k_with "CompRest" => refine halt_in ?_
  k_with "CompRestT" => refine halt_in ?_
  trivial
/-- the law's scope, its body, the turn's statements: read off the heap -/
noncomputable def lawFd (P : Params) : Option FuncData := match (Mine.hd.heap_39 P).lookup 152 with
  | some ⟨_, _, .func fd, _⟩ => some fd
  | _ => none
noncomputable def lawSc (P : Params) : Scope := match lawFd P with
  | some fd => fd.scope
  | none => { kind := .function, names := [], isGenerator := false, isCoroutine := false }
noncomputable def lawBody (P : Params) : List Stmt := match lawFd P with
  | some fd => (match fd.body with
    | .stmts b => b
    | _ => [])
  | none => []
noncomputable def lawLb (P : Params) : List Stmt := match lawBody P with
  | _ :: .For _ _ b _ _ :: _ => b
  | _ => []
def nth (l : List Stmt) (n : Nat) : Stmt := match l, n with
  | a :: _, 0 => a
  | _ :: r, n + 1 => nth r n
  | [], _ => .Pass ⟨0, 0, 0, 0⟩

section
theorem fr_know_of {h₀ h : Heap} {L : Addr} {m : Str → Option Value} {x b : Str} {v vb : Option Value} (F : Fr h₀ L h (fun y => if y = x then v else if y = b then vb else m y)) (e : m b = vb) : Fr h₀ L h (fun y => if y = x then v else m y) := by
  have q : (fun y => if y = x then v else if y = b then vb else m y) = (fun y => if y = x then v else m y) := funext fun y => by
    by_cases h1 : y = x
    · rw [if_pos h1, if_pos h1]
    · rw [if_neg h1, if_neg h1]
      by_cases h2 : y = b
      · rw [if_pos h2, h2, e]
      · rw [if_neg h2]
  rw [← q]; exact F
theorem kwaci : True := by
  k_with "call ref" => (k_here; (with_reducible show wpAny _ _ (call (Value.ref 62) _) _ _ _); k_dflt (refine' mspan_ok ?k1_4c7b ?k2_4c7b ?k3_4c7b ?k4_4c7b ?k5_4c7b ?kK_4c7b ?hx_4c7b ?hdx_4c7b ?hsp_4c7b ?D_4c7b ?hl_4c7b ?h0_4c7b ?h1_4c7b ?hd_4c7b ?hu_4c7b ?_; (case k1_4c7b => k_asm); (case k2_4c7b => k_asm); (case k3_4c7b => k_asm); (case k4_4c7b => k_asm); (case k5_4c7b => k_asm); (case kK_4c7b => first | exact rfl | assumption); (case hx_4c7b => k_mem); (case hdx_4c7b => k_mem); (case hsp_4c7b => k_mem); (case D_4c7b => with_reducible assumption); (case hl_4c7b => omega); (case h0_4c7b => omega); (case h1_4c7b => omega); (case hd_4c7b => ktr_room); (case hu_4c7b => ke_room)); intro _ _ _ _ _ _; (try dsimp only); (try k_sweep); (try k_fold))
  k_with "call ref" => (k_here; (with_reducible show wpAny _ _ (call (Value.ref 69) _) _ _ _); k_dflt (refine' mbeg_ok ?k1_64ac ?k2_64ac ?k3_64ac ?k4_64ac ?k5_64ac ?kK_64ac ?hx_64ac ?hdx_64ac ?hsp_64ac ?D_64ac ?sub_64ac ?hl_64ac ?h0_64ac ?h1_64ac ?hd_64ac ?hu_64ac ?_; (case k1_64ac => k_asm); (case k2_64ac => k_asm); (case k3_64ac => k_asm); (case k4_64ac => k_asm); (case k5_64ac => k_asm); (case kK_64ac => first | exact rfl | assumption); (case hx_64ac => k_mem); (case hdx_64ac => k_mem); (case hsp_64ac => k_mem); (case D_64ac => with_reducible assumption); (case sub_64ac => kqd_sub); (case hl_64ac => omega); (case h0_64ac => omega); (case h1_64ac => omega); (case hd_64ac => ktr_room); (case hu_64ac => ke_room)); intro _ _ _ _ _ _; (try dsimp only); (try k_sweep); (try k_fold))
  k_with "call ref" => (k_here; (with_reducible show wpAny _ _ (call (Value.ref 76) _) _ _ _); k_dflt (refine' mend_ok ?k1_59a1 ?k2_59a1 ?k3_59a1 ?k4_59a1 ?k5_59a1 ?kK_59a1 ?hx_59a1 ?hdx_59a1 ?hsp_59a1 ?D_59a1 ?sub_59a1 ?hl_59a1 ?h0_59a1 ?h1_59a1 ?hd_59a1 ?hu_59a1 ?_; (case k1_59a1 => k_asm); (case k2_59a1 => k_asm); (case k3_59a1 => k_asm); (case k4_59a1 => k_asm); (case k5_59a1 => k_asm); (case kK_59a1 => first | exact rfl | assumption); (case hx_59a1 => k_mem); (case hdx_59a1 => k_mem); (case hsp_59a1 => k_mem); (case D_59a1 => with_reducible assumption); (case sub_59a1 => kqd_sub); (case hl_59a1 => omega); (case h0_59a1 => omega); (case h1_59a1 => omega); (case hd_59a1 => ktr_room); (case hu_59a1 => ke_room)); intro _ _ _ _ _ _; (try dsimp only); (try k_sweep); (try k_fold))
  trivial
def toldD (o : Option (Int × Int)) : Dat := .tuple [enc o, encI (o.map Prod.fst), encI (o.map Prod.snd)]
theorem told_ok {w : World} {p : Program} {loose : List Str} {mean : ExcName → Option Value} {mg mb : Str → Option Value} {dp un : Nat} {gd : Option (List Code)} {a : Addr} {ccd : Value} {outer : List Env} {A₀ : Around} {base h₀ : Heap} {L : Addr} {m : Str → Option Value} {s : Shared} {Q : Flow → Shared → Prop} {E : Value → Shared → Prop} {news : List (Addr × Obj)} {sc : Scope} {st : Stmt} {cl : List (Str × Addr)} {x dx sp : Addr} {od : Obj} {t0 tm : Tok} {vs : List Value} {k : Nat} {os : List (Option (Int × Int))} {L9 : List (Addr × Obj)} (hst : st = nth (lawLb w.params) 3)
  (hsc : sc = lawSc w.params) (hcl : cl = cellsFrom (L + 1) sc.names []) (B : Below A₀ base outer h₀) (F : Fr h₀ L s.heap m) (X : (Mine.hd.heap_39 w.params).In h₀) (N : News h₀ L s.heap news) (T : Top p loose mean mg mb h₀) (hm : m (Str.ofString "many") = some (.int (os.length : Int) tm)) (hod : od.data = Data.cell (some (.ref x))) (hc : (L + 1, od) ∈ news) (hx : (x, instObj 103 dx) ∈ news) (hdx : (dx, spansDict w.params t0 sp) ∈ news) (hsp : (sp, listOf vs.toArray k) ∈ news) (D : DatAll L9 vs (os.map enc)) (sub : ∀ p ∈ L9, p ∈ news) (hl : os.length < 100)
  (hd : dp + 4 < recursionLimit) (hu : un + 400 < cLine)
  (ret : ∀ (D : Addr) (ys : List Value) (tl : List (Addr × Obj)) (h' : Heap) (tk' : Nat), DatAll (tl ++ L9) ys ((List.range (os.length + 1)).map fun j => toldD (os.getD j none)) → Tups tl → (∀ q ∈ tl, ∀ p ∈ news, q.1 ≠ p.1) → LCg.Off1 D (news ++ tl) → Fr h₀ L h' (fun y => if y = Str.ofString "told_here" then some (.ref D) else m y) → News h₀ L h' ((D, listOf ys.toArray ys.length) :: (news ++ tl)) → Q .next { s with heap := h', toks := tk' }) :
  wpAny (model PySem.Challenge.pw_ok0042_02 w) (ktrTop dp un gd (Str.ofString "law") sc L a ccd cl outer) (exec st (envX (Str.ofString "law") sc L a ccd cl)) Q E s := by
  conv at hst => rhs; whnf
  conv at hsc => rhs; whnf
  subst hsc
  conv at hcl => rhs; whnf
  subst hst hcl
  show Keep PySem.Challenge.rw_ok0042_02 Mine.hd.heap_39 (wpAny _ _ _ _ _ _)
  k_fill
  unfold Keep
  have F1 := fr_know F hm
  clear F
  w_strict k_steps
  rename_i h1 tk1 ta ub vc R1 F2 N1 K1 g2
  unfold Halt
  refine rest_tl (fun i ys tl => Tups tl ∧ (∀ q ∈ tl, ∀ p ∈ news, q.1 ≠ p.1) ∧ DatAll (tl ++ L9) ys ((List.range i).map fun j => toldD (os.getD j none))) ⟨(fun _ h => nomatch h), (fun _ h => nomatch h), .nil⟩ ?_ ?_
  · clear F1 F2 N N1
    rintro i ys tl hi ⟨hT, hFr, hY⟩ v I oI C oC DD m₂ h tk E' ⟨t9, rfl⟩ hC hx' F' N' off ⟨ne1, ne2, ne3⟩
    dsimp only
    have hi2 : (i : Int) < 101 := by
      have : i < ((os.length : Int) + 1 - 0).toNat := hi
      omega
    w_strict k_steps
    rename_i va _ _ hDa _ _ _ _ _ vb _ _ hDb _ vc _ _ hDc DT hT2 FT NT hltT qz1 qz2 qz3 lT
    have e0 : ((0 : Int) + (i : Int)).toNat = i := by omega
    rw [e0] at hDa hDb hDc
    refine end_tl ((DT, { cls := .type "tuple", data := .seq #[va, vb, vc] }) :: tl) FT NT (by kqd_sub) (off3_cons off (by k_ne) (by k_ne) (by k_ne)) trivial ⟨?_, ?_, ?_⟩
    · intro p hp
      rcases List.mem_cons.mp hp with rfl | hp
      · exact ⟨rfl, fun _ e => nomatch e⟩
      · exact hT p hp
    · intro q hq p hp
      rcases List.mem_cons.mp hq with rfl | hq
      · exact Nat.ne_of_gt (allLt_all lT p (List.mem_append_left _ hp))
      · exact hFr q hq p hp
    · rw [List.range_succ, List.map_append]
      have sb : ∀ p ∈ L9, p ∈ (DT, ({ cls := .type "tuple", data := .seq #[va, vb, vc] } : Obj)) :: tl ++ L9 := fun p hp => List.mem_append_right _ hp
      exact (hY.mono fun p hp => List.mem_cons_of_mem _ hp).append (.cons (DatIn.tuple (vs := [va, vb, vc]) (.head _) (.cons (hDa.mono sb) (.cons (hDb.mono sb) (.cons (hDc.mono sb) .nil)))) .nil)
  · rintro ys tl ⟨hT, hFr, hY⟩
    unfold LCg.FinA
    intro D1 h3 tk3 F3 N3 o3
    have en : ((os.length : Int) + 1 - 0).toNat = os.length + 1 := by omega
    rw [en] at hY
    dsimp only
    exact ret D1 ys tl _ _ hY hT hFr o3 (fr_know_of F3 hm) N3

end
theorem kwacj : True := by
  k_with_none
  k_with "ta" => (try dsimp only)
  k_with "tb" => (try k_sweep)
  k_with "tc" => (try k_fold)
  k_with "w0" => (have hcL9 := cLine_is; (try simp only [units_in1, units_deeper, Around.mark_units, units_caller]); (try dsimp only [ktrTop]); omega)
  k_with "w1" => (k_here; (with_reducible show wpAny _ _ (call (Value.ref 114) _) _ _ _); k_dflt (refine' moved_ok ?k1_267c ?k2_267c ?k3_267c ?k4_267c ?k5_267c ?kK_267c ?hm_267c ?hd_267c ?hu_267c ?_; (case k1_267c => k_asm); (case k2_267c => k_asm); (case k3_267c => k_asm); (case k4_267c => k_asm); (case k5_267c => k_asm); (case kK_267c => first | exact rfl | assumption); (case hm_267c => k_mem); (case hd_267c => ktr_room); (case hu_267c => ke_room)))
  k_with "w2" => (refine' code_defC ?k1_73de ?k2_73de ?k3_73de ?k4_73de ?k5_73de ?kA_73de ?kF_73de ?kK_73de ?k6_73de ?k7_73de ?k8_73de ?k9_73de ?kB_73de ?kD_73de ?_ ?c2_73de ?c3_73de ?c4_73de; (case kA_73de => exact rfl); (case kF_73de => exact rfl); (case kK_73de => assumption); (case k1_73de => k_asm); (case k2_73de => k_asm); (case k3_73de => k_asm); (case k4_73de => k_asm); (case k5_73de => k_asm); (case k6_73de => k_is); (case k7_73de => k_is); (case k8_73de => ktr_room); (case k9_73de => exact BindsTo.of_eq rfl); (case kB_73de => exact rfl); (case kD_73de => decide +kernel); (case c2_73de => exact rfl); (case c3_73de => exact rfl); (case c4_73de => exact rfl); k_whole)
  k_with "w3" => (k_here; (with_reducible show wpAny _ _ (subscriptTail _ (PySem.Expr.Slice _ _ none _) (Value.ref _) (Value.ref _)) _ _ _); k_dflt (refine' slice_to ?F_7f9f ?N_7f9f ?l_7f9f ?p_7f9f ?q_7f9f ?e_7f9f ?z_7f9f ?_ ?s_7f9f ?t_7f9f; (case F_7f9f => k_asm); (case N_7f9f => k_asm); (case l_7f9f => k_mem); (case p_7f9f => kmk_part); (case q_7f9f => kmk_part); (case e_7f9f => first | exact pick_upto (by omega) | exact pick_from (by omega) | exact pick_part (by omega) (by omega) | exact pick_less (by omega)); (case s_7f9f => with_unfolding_all rfl); (case t_7f9f => kmk_pure); (case z_7f9f => omega)))
  k_with "w4" => (k_here; (with_reducible show wpAny _ _ (call (Value.type _) [Value.ref _]) _ _ _); k_dflt (first | (refine' copyL ?F_06eb ?N_06eb ?m_06eb ?z_06eb ?_; (case F_06eb => k_asm); (case N_06eb => k_asm); (case m_06eb => k_mem); (case z_06eb => omega)) | (refine' copyT ?F_06eb ?N_06eb ?m_06eb ?_; (case F_06eb => k_asm); (case N_06eb => k_asm); (case m_06eb => k_mem))))
  k_with "w5" => (k_here; (with_reducible show wpAny _ _ (binaryOp _ (Value.ref _) (Value.ref _)) _ _ _); k_dflt (refine' addL ?F_f34b ?N_f34b ?a_f34b ?b_f34b ?z_f34b ?_; (case F_f34b => k_asm); (case N_f34b => k_asm); (case a_f34b => k_mem); (case b_f34b => k_mem); (case z_f34b => first | omega | (simp only [List.length_cons, List.length_nil]; omega))))
  k_with "w6" => (refine' code_def ?k1_91da ?k2_91da ?k3_91da ?k4_91da ?k5_91da ?kA_91da ?kF_91da ?kK_91da ?k6_91da ?k7_91da ?k8_91da ?k9_91da ?kB_91da ?_ ?c2_91da ?c3_91da ?c4_91da ?c5_91da; (case kA_91da => exact rfl); (case kF_91da => exact rfl); (case kK_91da => first | exact rfl | assumption); (case k1_91da => k_asm); (case k2_91da => k_asm); (case k3_91da => k_asm); (case k4_91da => k_asm); (case k5_91da => k_asm); (case k6_91da => k_is); (case k7_91da => k_is); (case k8_91da => ktr_room); (case k9_91da => exact BindsTo.of_eq rfl); (case c5_91da => decide); (case kB_91da => exact locs rfl); (case c2_91da => exact rfl); (case c3_91da => exact rfl); (case c4_91da => exact rfl); k_whole)
  k_with "w7" => (refine' code_defC ?k1_e452 ?k2_e452 ?k3_e452 ?k4_e452 ?k5_e452 ?kA_e452 ?kF_e452 ?kK_e452 ?k6_e452 ?k7_e452 ?k8_e452 ?k9_e452 ?kB_e452 ?kD_e452 ?_ ?c2_e452 ?c3_e452 ?c4_e452; (case kA_e452 => exact rfl); (case kF_e452 => exact rfl); (case kK_e452 => first | exact rfl | assumption); (case k1_e452 => k_asm); (case k2_e452 => k_asm); (case k3_e452 => k_asm); (case k4_e452 => k_asm); (case k5_e452 => k_asm); (case k6_e452 => k_is); (case k7_e452 => k_is); (case k8_e452 => ktr_room); (case k9_e452 => exact BindsTo.of_eq rfl); (case kB_e452 => exact rfl); (case kD_e452 => decide +kernel); (case c2_e452 => exact rfl); (case c3_e452 => exact rfl); (case c4_e452 => exact rfl); k_whole)
  k_with "w8" => (refine neN ?_; (try dsimp only); first | with_reducible assumption | (with_reducible refine Ne.symm ?_; with_reducible assumption) | (with_reducible refine Nat.ne_of_lt ?_; with_reducible assumption) | (with_reducible refine Nat.ne_of_gt ?_; with_reducible assumption))
  k_with "w9" => first | with_reducible assumption | exact in_of_fr (by with_reducible assumption) (by with_reducible assumption)
  k_with "w10" => (k_here; (with_reducible show wpAny _ _ (call (Value.ref 121) _) _ _ _); k_dflt (refine' draw2_use ?k1_44b5 ?k2_44b5 ?k3_44b5 ?k4_44b5 ?k5_44b5 ?kK_44b5 ?U_44b5 ?hl0_44b5 ?hne_44b5 ?hi_44b5 ?hl_44b5 ?hc0_44b5 ?hc1_44b5 ?hm_44b5 ?hm2_44b5 ?hd_44b5 ?hu_44b5 ?_; (case k1_44b5 => k_asm); (case k2_44b5 => k_asm); (case k3_44b5 => k_asm); (case k4_44b5 => k_asm); (case k5_44b5 => k_asm); (case kK_44b5 => first | exact rfl | assumption); (case U_44b5 => (intro _; k_upd)); (case hl0_44b5 => k_mem); (case hne_44b5 => k_ne); (case hi_44b5 => with_reducible assumption); (case hl_44b5 => assumption); (case hc0_44b5 => omega); (case hc1_44b5 => omega); (case hm_44b5 => omega); (case hm2_44b5 => omega); (case hd_44b5 => ktr_room); (case hu_44b5 => ke_room)))
  k_with "w11" => (k_here; (with_reducible show wpAny _ _ (call (Value.ref 100) _) _ _ _); k_dflt (refine' mrepl_use ?k1_f4fd ?k2_f4fd ?k3_f4fd ?k4_f4fd ?k5_f4fd ?kK_f4fd ?hx_f4fd ?hsp_f4fd ?D_f4fd ?sub_f4fd ?TL_f4fd ?hl_f4fd ?U_f4fd ?hd_f4fd ?hu_f4fd ?_; (case k1_f4fd => k_asm); (case k2_f4fd => k_asm); (case k3_f4fd => k_asm); (case k4_f4fd => k_asm); (case k5_f4fd => k_asm); (case kK_f4fd => first | exact rfl | assumption); (case hx_f4fd => k_mem); (case U_f4fd => (intro _; k_upd)); (case hsp_f4fd => k_mem); (case D_f4fd => with_reducible assumption); (case sub_f4fd => kqd_sub); (case TL_f4fd => with_reducible assumption); (case hl_f4fd => omega); (case hd_f4fd => ktr_room); (case hu_f4fd => ke_room)))
  k_with "w12" => (k_here; (with_reducible show wpAny _ _ (call (Value.ref 83) _) _ _ _); k_dflt (refine' mlist_ok ?k1_04f8 ?k2_04f8 ?k3_04f8 ?k4_04f8 ?k5_04f8 ?kK_04f8 ?hx_04f8 ?hdx_04f8 ?hsp_04f8 ?D_04f8 ?sub_04f8 ?hl_04f8 ?hd_04f8 ?hu_04f8 ?_; (case k1_04f8 => k_asm); (case k2_04f8 => k_asm); (case k3_04f8 => k_asm); (case k4_04f8 => k_asm); (case k5_04f8 => k_asm); (case kK_04f8 => first | exact rfl | assumption); (case hx_04f8 => k_mem); (case hdx_04f8 => k_mem); (case hsp_04f8 => k_mem); (case D_04f8 => with_reducible assumption); (case sub_04f8 => kqd_sub); (case hl_04f8 => omega); (case hd_04f8 => ktr_room); (case hu_04f8 => ke_room)))
  k_with "w13" => (k_here; (with_reducible show wpAny _ _ (call (Value.ref 90) _) _ _ _); k_dflt (refine' mrest_use ?k1_b474 ?k2_b474 ?k3_b474 ?k4_b474 ?k5_b474 ?kK_b474 ?hx_b474 ?hpl_b474 ?D_b474 ?hl_b474 ?U_b474 ?hd_b474 ?hu_b474 ?_; (case k1_b474 => k_asm); (case k2_b474 => k_asm); (case k3_b474 => k_asm); (case k4_b474 => k_asm); (case k5_b474 => k_asm); (case kK_b474 => first | exact rfl | assumption); (case hx_b474 => k_mem); (case U_b474 => (intro _; k_upd)); (case hpl_b474 => k_mem); (case D_b474 => first | with_reducible assumption | exact (by with_reducible assumption : ∀ t : Tok, DatAll [] (_ ++ [Value.int 1 t]) _) _); (case hl_b474 => omega); (case hd_b474 => ktr_room); (case hu_b474 => ke_room)))
  k_with "w14" => (k_here; (with_reducible show wpAny _ _ (call (Value.ref 95) _) _ _ _); k_dflt (refine' mtran_use ?k1_20f7 ?k2_20f7 ?k3_20f7 ?k4_20f7 ?k5_20f7 ?kK_20f7 ?hx_20f7 ?hsp_20f7 ?D_20f7 ?sub_20f7 ?TL_20f7 ?hl_20f7 ?U_20f7 ?hd_20f7 ?hu_20f7 ?_; (case k1_20f7 => k_asm); (case k2_20f7 => k_asm); (case k3_20f7 => k_asm); (case k4_20f7 => k_asm); (case k5_20f7 => k_asm); (case kK_20f7 => first | exact rfl | assumption); (case hx_20f7 => k_mem); (case U_20f7 => (intro _; k_upd)); (case hsp_20f7 => k_mem); (case D_20f7 => with_reducible assumption); (case sub_20f7 => kqd_sub); (case TL_20f7 => with_reducible assumption); (case hl_20f7 => omega); (case hd_20f7 => ktr_room); (case hu_20f7 => ke_room)))
  k_with "w15" => (k_here; (with_reducible show wpAny _ _ (call (Value.ref 140) _) _ _ _); k_dflt (refine' llisted_ok ?k1_aa7c ?k2_aa7c ?k3_aa7c ?k4_aa7c ?k5_aa7c ?kK_aa7c ?hsp_aa7c ?D_aa7c ?sub_aa7c ?hl_aa7c ?hd_aa7c ?hu_aa7c ?_; (case k1_aa7c => k_asm); (case k2_aa7c => k_asm); (case k3_aa7c => k_asm); (case k4_aa7c => k_asm); (case k5_aa7c => k_asm); (case kK_aa7c => first | exact rfl | assumption); (case hsp_aa7c => k_mem); (case D_aa7c => with_reducible assumption); (case sub_aa7c => kqd_sub); (case hl_aa7c => omega); (case hd_aa7c => ktr_room); (case hu_aa7c => ke_room)))
  k_with "w16" => (k_here; (with_reducible show wpAny _ _ (binaryOp _ (Value.ref _) (Value.ref _)) _ _ _); k_dflt (refine' addL ?F_261b ?N_261b ?a_261b ?b_261b ?z_261b ?_; (case F_261b => k_asm); (case N_261b => k_asm); (case a_261b => k_mem); (case b_261b => k_mem); (case z_261b => first | omega | (simp only [List.length_cons, List.length_nil, List.length_replicate]; omega))))
  k_with "w17" => (k_here; (with_reducible show wpAny _ _ (binaryOp Operator.Mult (Value.ref _) (Value.int _ _)) _ _ _); k_dflt (refine' mul2 ?F_452d ?N_452d ?l_452d ?e_452d ?z_452d ?_; (case F_452d => k_asm); (case N_452d => k_asm); (case l_452d => k_mem); (case e_452d => omega); (case z_452d => omega)))
  k_with "WPost" => (dsimp only [WPost])
  k_with "call builtin:len" => (k_here; (with_reducible show wpAny _ _ (call (Value.builtin "len") [Value.ref _]) _ _ _); k_dflt (refine' kd_len ?k1_eae0 ?k2_eae0 ?k3_eae0 ?k4_eae0 ?_; (case k1_eae0 => k_asm); (case k2_eae0 => k_mem); (case k3_eae0 => with_reducible assumption); (case k4_eae0 => omega); k_whole))
  k_with "subscriptTail" => (k_here; (with_reducible show wpAny _ _ (subscriptTail _ _ (Value.ref _) (Value.int _ _)) _ _ _); k_dflt (refine' item_dat ?k1_b351 ?k2_b351 ?k3_b351 ?k4_b351 ?k5_b351 ?k6_b351 ?_ ?k7_b351; (case k1_b351 => k_asm); (case k2_b351 => k_mem); (case k3_b351 => with_reducible assumption); (case k4_b351 => omega); (case k5_b351 => omega); (case k6_b351 => omega); (case k7_b351 => with_unfolding_all rfl); k_whole); intro _ _)
  k_with "subscriptTail" => (k_here; (with_reducible show wpAny _ _ (subscriptTail _ _ (Value.ref _) (Value.int _ _)) _ _ _); k_dflt (refine' item_at ?k1_c249 ?k2_c249 ?k3_c249 ?k5_c249 ?k6_c249 ?_ ?k7_c249; (case k1_c249 => k_asm); (case k2_c249 => k_mem); (case k3_c249 => with_reducible assumption); (case k5_c249 => omega); (case k6_c249 => omega); (case k7_c249 => with_unfolding_all rfl); k_whole))
  k_with "exec For Name Call cons nil" => (k_here; refine halt_in ?_)
  k_with "exec For Name Subscript cons nil" => (k_here; refine halt_in ?_)
  k_with "exec For Name Name cons nil" => (k_here; refine halt_in ?_)
  k_with "pyIter ref" => (k_here; (with_reducible show wpAny _ _ (pyIter (Value.ref _)) (fun it s₂ => LoopAtV _ _ _ _ _ _ _ _ _ it s₂) _ _); refine halt_in ?_)
  k_with "call type:range" => (k_here; k_dflt (first | (refine' range1_rows ?F_0dec ?N_0dec ?_; (case F_0dec => k_asm); (case N_0dec => k_asm); k_whole) | (refine' range2_rows ?F_0dec ?N_0dec ?_; (case F_0dec => k_asm); (case N_0dec => k_asm); k_whole) | (refine' range3_rows ?F_0dec ?N_0dec ?c_0dec ?_ ?p_0dec; (case F_0dec => k_asm); (case N_0dec => k_asm); (case c_0dec => decide); (case p_0dec => exact Or.inl (PyProof.noPylong_small (by omega))); k_whole)); intro _ _ _ _ _ _ _ _ _; (try dsimp only))
  k_with "call builtin:list.append" => (k_here; (with_reducible show wpAny _ _ (call (Value.builtin _) [Value.ref _, _]) _ _ _); k_dflt (refine' append_K ?k1_2bc2 ?k2_2bc2 ?k3_2bc2 ?_ ?z_2bc2; (case k1_2bc2 => k_asm); (case k2_2bc2 => k_asm); (case k3_2bc2 => k_upd); (case z_2bc2 => (simp only [List.size_toArray, sizeLine]; omega)); k_whole); intro _ _ _)
  k_with "exec While" => (k_here; refine halt_in ?_)
  k_with "call builtin:list.extend" => (k_here; (with_reducible show wpAny _ _ (call (Value.builtin _) [Value.ref _, Value.ref _]) _ _ _); k_dflt (refine' ext2 ?F_5b0c ?N_5b0c ?b_5b0c ?U_5b0c ?z_5b0c ?_; (case F_5b0c => k_asm); (case N_5b0c => k_asm); (case b_5b0c => k_mem); (case U_5b0c => k_upd); (case z_5b0c => omega)); intro _ _ _)
  k_with "subscriptTail" => (k_here; (with_reducible show wpAny _ _ (subscriptTail _ _ (Value.ref _) (Value.int (-1) _)) _ _ _); k_dflt (refine' item_last ?k1_063f ?k2_063f ?_ ?k7_063f; (case k1_063f => k_asm); (case k2_063f => k_mem); (case k7_063f => with_unfolding_all rfl); k_whole))
  k_with "call builtin:list.pop" => (k_here; (with_reducible show wpAny _ _ (call (Value.builtin _) [Value.ref _]) _ _ _); k_dflt (refine' pop_last ?F_dea1 ?N_dea1 ?U_dea1 ?z_dea1 ?_; (case F_dea1 => k_asm); (case N_dea1 => k_asm); (case U_dea1 => k_upd); (case z_dea1 => omega)); intro _ _ _)
  k_with "eval ListComp" => (k_here; lct_look; k_dflt (refine LCt.ListComp_T (F₀ := by k_asm) (by with_unfolding_all rfl) (by decide) (by rfl) (by decide) (by rfl) ?_))
  k_with "eval ListComp" => (k_here; (fail_if_success lct_look); k_dflt (refine LCg.ListComp_U (F₀ := by k_asm) (by with_unfolding_all rfl) (by decide) (by rfl) (by decide) (by rfl) ?_))
  k_with "exec Assign cons ListComp" => (k_here; lct_look; k_dflt (refine LCt.Assign_ListComp_T (F₀ := by k_asm) (by rfl) (by with_unfolding_all rfl) (by with_unfolding_all rfl) (by decide) (by rfl) (by decide) (by rfl) (by rfl) (by rfl) ?_))
  k_with "exec Assign cons ListComp" => (k_here; (fail_if_success lct_look); k_dflt (refine LCg.Assign_ListComp_U (F₀ := by k_asm) (by rfl) (by with_unfolding_all rfl) (by with_unfolding_all rfl) (by decide) (by rfl) (by decide) (by rfl) (by rfl) (by rfl) ?_))
  k_with "CompSrc" => (k_here; k_dflt (first | (refine' LCg.CompSrc.ledger ?hh_f88f ?F_f88f ?N_f88f ?m_f88f ?z_f88f ?_; (case hh_f88f => rfl); (case F_f88f => k_asm); (case N_f88f => k_asm); (case m_f88f => k_mem); (case z_f88f => first | (simp only [List.size_toArray, sizeLine]; omega) | ((have hz9 := IntsAre.length (by with_reducible assumption)); simp only [List.size_toArray, sizeLine]; omega))) | (refine' LCg.CompSrc.range ?hh_f88f ?F_f88f ?N_f88f ?r_f88f ?s_f88f ?n_f88f ?z_f88f ?_; (case hh_f88f => rfl); (case F_f88f => k_asm); (case N_f88f => k_asm); (case r_f88f => with_reducible assumption); (case s_f88f => exact small_one (by omega) (by omega) (by omega) (by omega)); (case n_f88f => exact rangeSize_nat _ _); (case z_f88f => (simp only [sizeLine]; omega)))); intro _)
  k_with "CompSrcT" => (k_here; k_dflt (first | (refine' LCt.CompSrcT.ledger ?hh_7a1e ?F_7a1e ?N_7a1e ?m_7a1e ?z_7a1e ?_; (case hh_7a1e => rfl); (case F_7a1e => k_asm); (case N_7a1e => k_asm); (case m_7a1e => k_mem); (case z_7a1e => first | (simp only [List.size_toArray, sizeLine]; omega))) | (refine' LCt.CompSrcT.range ?hh_7a1e ?F_7a1e ?N_7a1e ?r_7a1e ?s_7a1e ?n_7a1e ?z_7a1e ?_; (case hh_7a1e => rfl); (case F_7a1e => k_asm); (case N_7a1e => k_asm); (case r_7a1e => with_reducible assumption); (case s_7a1e => exact small_one (by omega) (by omega) (by omega) (by omega)); (case n_7a1e => exact rangeSize_nat _ _); (case z_7a1e => (simp only [sizeLine]; omega)))); intro _)
  k_with "own mem" => first | with_reducible exact List.mem_cons_self | (with_reducible refine List.mem_cons_of_mem _ ?_; k_extra "own mem") | (with_reducible refine List.mem_append_left _ ?_; k_extra "own mem") | (with_reducible refine List.mem_append_right _ ?_; k_extra "own mem") | with_reducible assumption
  k_with "own sub" => first | with_reducible exact fun _ h => h | with_reducible exact List.forall_mem_nil _ | (with_reducible refine List.forall_mem_cons.mpr ⟨?_, ?_⟩; (k_extra "own mem"); (k_extra "own sub")) | (with_reducible refine List.forall_mem_append.mpr ⟨?_, ?_⟩; (k_extra "own sub"); (k_extra "own sub")) | (intro _ _; k_extra "own mem") | ((with_reducible show ∀ p ∈ (_ : List (Addr × Obj)), p ∈ _); refine sub_trans (by with_reducible assumption) ?_; k_extra "own sub")
  k_with "own all" => first | with_reducible exact List.forall_mem_nil _ | (with_reducible refine List.forall_mem_cons.mpr ⟨?_, ?_⟩; k_ne; (k_extra "own all")) | (with_reducible refine List.forall_mem_append.mpr ⟨?_, ?_⟩; (k_extra "own all"); (k_extra "own all")) | exact OwnOff.ne (by with_reducible assumption) (by k_memK) | exact allLt_off (by with_reducible assumption) (by k_extra "own sub") | exact off1_off (by with_reducible assumption) (by k_extra "own sub") | exact tups_offD (by with_reducible assumption) (by with_reducible assumption) (by k_extra "own sub") (by k_extra "own mem") | exact tups_offL (by with_reducible assumption) (by with_reducible assumption) (by k_extra "own sub") (by k_extra "own mem")
  k_with "CompRest" => refine halt_in ?_
  k_with "CompRestT" => refine halt_in ?_
  trivial
section
theorem due_ok {w : World} {p : Program} {loose : List Str} {mean : ExcName → Option Value} {mg mb : Str → Option Value} {dp un : Nat} {gd : Option (List Code)} {a : Addr} {ccd : Value} {outer : List Env} {A₀ : Around} {base h₀ : Heap} {L : Addr} {m : Str → Option Value} {s : Shared} {Q : Flow → Shared → Prop} {E : Value → Shared → Prop} {news : List (Addr × Obj)} {sc : Scope} {st : Stmt} {cl : List (Str × Addr)} {sp : Addr} {vs : List Value} {k : Nat} {os : List (Option (Int × Int))} {L9 : List (Addr × Obj)} (hst : st = nth (lawLb w.params) 4)
  (hsc : sc = lawSc w.params) (hcl : cl = cellsFrom (L + 1) sc.names []) (B : Below A₀ base outer h₀) (F : Fr h₀ L s.heap m) (X : (Mine.hd.heap_39 w.params).In h₀) (N : News h₀ L s.heap news) (T : Top p loose mean mg mb h₀) (hm : m (Str.ofString "spans") = some (.ref sp)) (hsp : (sp, listOf vs.toArray k) ∈ news) (D : DatAll L9 vs (os.map enc)) (sub : ∀ p ∈ L9, p ∈ news) (hl : os.length < 100)
  (hd : dp + 4 < recursionLimit) (hu : un + 400 < cLine)
  (ret : ∀ (D : Addr) (ys : List Value) (tl : List (Addr × Obj)) (h' : Heap) (tk' : Nat), DatAll (tl ++ L9) ys ((os ++ [none]).map toldD) → Tups tl → (∀ q ∈ tl, ∀ p ∈ news, q.1 ≠ p.1) → LCg.Off1 D (news ++ tl) → Fr h₀ L h' (fun y => if y = Str.ofString "due" then some (.ref D) else m y) → News h₀ L h' ((D, listOf ys.toArray ys.length) :: (news ++ tl)) → Q .next { s with heap := h', toks := tk' }) :
  wpAny (model PySem.Challenge.pw_ok0042_02 w) (ktrTop dp un gd (Str.ofString "law") sc L a ccd cl outer) (exec st (envX (Str.ofString "law") sc L a ccd cl)) Q E s := by
  conv at hst => rhs; whnf
  conv at hsc => rhs; whnf
  subst hsc
  conv at hcl => rhs; whnf
  subst hst hcl
  show Keep PySem.Challenge.rw_ok0042_02 Mine.hd.heap_39 (wpAny _ _ _ _ _ _)
  k_fill
  unfold Keep
  have F1 := fr_know F hm
  clear F
  have hvl := D.length
  rw [List.length_map] at hvl
  have hvl2 : vs.length < 100 := by omega
  have hvl3 : (vs ++ [Value.none]).length < 200 := by rw [List.length_append, List.length_singleton]; omega
  have DY : DatAll L9 (vs ++ [Value.none]) ((os ++ [none]).map enc) := by
    rw [List.map_append]; exact D.append (.cons .none .nil)
  w_strict k_steps
  rename_i l1 h1a ll1 DS h1 F2 N1 hlS qS lS g2
  unfold Halt
  refine rest_tl (fun i ys tl => Tups tl ∧ (∀ q ∈ tl, ∀ p ∈ news, q.1 ≠ p.1) ∧ DatAll (tl ++ L9) ys (((os ++ [none]).take i).map toldD)) ⟨(fun _ h => nomatch h), (fun _ h => nomatch h), .nil⟩ ?_ ?_
  · try clear F2
    try clear N1
    try clear N
    rintro i ys tl hi ⟨hT, hFr, hY⟩ v I oI C oC DD m₂ h tk E' hP hC hx' F' N' off ⟨ne1, ne2, ne3⟩
    dsimp only
    simp only [List.cons_append] at N'
    obtain ⟨o, ho, hDo⟩ := dat_at_enc DY hP
    rcases datIn_enc hDo with ⟨rfl, rfl⟩ | ⟨a9, b9, t9, u9, ad, n9, rfl, rfl, hm9⟩
    · w_strict k_steps
      rename_i DT hT2 FT NT hltT qz1 qz2 qz3 qz4 qz5 lT
      refine end_tl ((DT, { cls := .type "tuple", data := .seq #[Value.none, Value.none, Value.none] }) :: tl) FT NT (by kqd_sub) (off3_cons off (by k_ne) (by k_ne) (by k_ne)) (Or.inr ⟨_, by k_mem, rfl, _, rfl⟩) ⟨?_, ?_, ?_⟩
      · intro p hp
        rcases List.mem_cons.mp hp with rfl | hp
        · exact ⟨rfl, fun _ e => nomatch e⟩
        · exact hT p hp
      · intro q hq p hp
        rcases List.mem_cons.mp hq with rfl | hq
        · exact Nat.ne_of_gt (allLt_all lT p (List.mem_append_left _ hp))
        · exact hFr q hq p hp
      · rw [take_more ho, List.map_append]
        have sb : ∀ p ∈ L9, p ∈ (DT, ({ cls := .type "tuple", data := .seq #[Value.none, Value.none, Value.none] } : Obj)) :: tl ++ L9 := fun p hp => List.mem_append_right _ hp
        exact (hY.mono fun p hp => List.mem_cons_of_mem _ hp).append (.cons (DatIn.tuple (vs := [Value.none, Value.none, Value.none]) (.head _) (.cons .none (.cons .none (.cons .none .nil)))) .nil)
    · have hm8 := sub _ hm9
      w_strict k_steps
      rename_i DT hT2 FT NT hltT qz1 qz2 qz3 qz4 qz5 lT
      refine end_tl ((DT, { cls := .type "tuple", data := .seq #[Value.ref ad, Value.int a9 t9, Value.int b9 u9] }) :: tl) FT NT (by kqd_sub) (off3_cons off (by k_ne) (by k_ne) (by k_ne)) (Or.inr ⟨_, by k_mem, rfl, _, rfl⟩) ⟨?_, ?_, ?_⟩
      · intro p hp
        rcases List.mem_cons.mp hp with rfl | hp
        · exact ⟨rfl, fun _ e => nomatch e⟩
        · exact hT p hp
      · intro q hq p hp
        rcases List.mem_cons.mp hq with rfl | hq
        · exact Nat.ne_of_gt (allLt_all lT p (List.mem_append_left _ hp))
        · exact hFr q hq p hp
      · rw [take_more ho, List.map_append]
        have sb : ∀ p ∈ L9, p ∈ (DT, ({ cls := .type "tuple", data := .seq #[Value.ref ad, Value.int a9 t9, Value.int b9 u9] } : Obj)) :: tl ++ L9 := fun p hp => List.mem_append_right _ hp
        exact (hY.mono fun p hp => List.mem_cons_of_mem _ hp).append (.cons (DatIn.tuple (vs := [Value.ref ad, Value.int a9 t9, Value.int b9 u9]) (.head _) (.cons (hDo.mono sb) (.cons (.int _ _) (.cons (.int _ _) .nil)))) .nil)
  · rintro ys tl ⟨hT, hFr, hY⟩
    unfold LCg.FinA
    intro D1 h3 tk3 F3 N3 o3
    have en : (vs ++ [Value.none]).toArray.size = (os ++ [none]).length := by rw [List.size_toArray, List.length_append, List.length_append, hvl]; rfl
    rw [en, List.take_length] at hY
    simp only [List.cons_append] at N3 o3
    dsimp only
    exact ret D1 ys tl _ _ hY hT hFr o3.2.2 (fr_know_of F3 hm) (cb_drop N3 (by kqd_sub))

end
section
theorem own_adr {l : List (Addr × Obj)} {b : Addr} {adr : List Addr} (h : ∀ p ∈ l, p.1 ≠ b) (r : OwnOff l adr) : OwnOff l (b :: adr) := fun p hp c hc => by
  rcases List.mem_cons.mp hc with rfl | hc
  · exact h p hp
  · exact r p hp c hc
theorem own_adr0 {l : List (Addr × Obj)} : OwnOff l [] := fun _ _ _ h => nomatch h
theorem own_hd {a : Addr} {o : Obj} {l : List (Addr × Obj)} {adr : List Addr} (h : ∀ b ∈ adr, @Ne Nat a b) (r : OwnOff l adr) : OwnOff ((a, o) :: l) adr := fun p hp c hc => by
  rcases List.mem_cons.mp hp with rfl | hp
  · exact h c hc
  · exact r p hp c hc
theorem own_pre {own : List (Addr × Obj)} {A B : List Addr} (h : OwnOff own (A ++ B)) : OwnOff own A := fun p hp b hb => h p hp b (List.mem_append_left _ hb)
theorem own_flip {l r : List (Addr × Obj)} {adr : List Addr} (h : ∀ b ∈ adr, ∀ a ∈ l.map (·.1), @Ne Nat a b) (k : OwnOff r adr) : OwnOff (l ++ r) adr := fun p hp b hb => by
  rcases List.mem_append.mp hp with hp | hp
  · exact h b hb _ (List.mem_map_of_mem hp)
  · exact k p hp b hb
theorem getD_in {os : List (Option (Int × Int))} {j : Nat} (h : j < os.length) : os.getD j none = os[j] := by
  rw [List.getD_eq_getElem?_getD, List.getElem?_eq_getElem h]; rfl
theorem range_map {α : Type} (os : List (Option (Int × Int))) (f : Option (Int × Int) → α) : (List.range os.length).map (fun j => f (os.getD j none)) = os.map f := by
  apply List.ext_getElem
  · simp
  · intro i h1 h2
    simp only [List.getElem_map, List.getElem_range]
    rw [getD_in (by simpa using h1)]
theorem ok_app {a b : List Dat} (ha : ∀ d ∈ a, kqdOk 8 d = true) (hb : ∀ d ∈ b, kqdOk 8 d = true) : ∀ d ∈ a ++ b, kqdOk 8 d = true := fun d hd => by
  rcases List.mem_append.mp hd with h | h
  · exact ha d h
  · exact hb d h
section
variable {prog : Program} {w : World} {A : Around} {E : Value → Shared → Prop} {s : Shared} {h₀ : Heap} {L a b : Addr} {news n₁ n₂ : List (Addr × Obj)} {oa ob : Obj} {xs ys : List Value} {ka kb : Nat} {ds es : List Dat} {Q : Value → Shared → Prop}
/-- two lists that bear the same data -/
theorem ne_same (N : News h₀ L s.heap news) (ma : (a, oa) ∈ news) (mb : (b, ob) ∈ news) (ca : oa.cls = .type "list") (da : oa.data = .seq xs.toArray ka) (cb : ob.cls = .type "list") (db : ob.data = .seq ys.toArray kb)
    (Da : DatAll n₁ xs ds) (Db : DatAll n₂ ys es) (sa : ∀ p ∈ n₁, p ∈ news) (sb : ∀ p ∈ n₂, p ∈ news) (e : ds = es) (hb : ∀ d ∈ es, kqdOk 8 d = true) (hu : A.units + 64 < cLine) (h : Q (.bool false) s) : wpAny (model prog w) A (compareOp .NotEq (.ref a) (.ref b)) Q E s := by
  subst e
  exact kqd_ne N ma ca da Da sa mb cb db Db sb hb hb hu (by simpa using h)
theorem eq_same (N : News h₀ L s.heap news) (ma : (a, oa) ∈ news) (mb : (b, ob) ∈ news) (ca : oa.cls = .type "list") (da : oa.data = .seq xs.toArray ka) (cb : ob.cls = .type "list") (db : ob.data = .seq ys.toArray kb)
    (Da : DatAll n₁ xs ds) (Db : DatAll n₂ ys es) (sa : ∀ p ∈ n₁, p ∈ news) (sb : ∀ p ∈ n₂, p ∈ news) (e : ds = es) (hb : ∀ d ∈ es, kqdOk 8 d = true) (hu : A.units + 64 < cLine) (h : Q (.bool true) s) : wpAny (model prog w) A (compareOp .Eq (.ref a) (.ref b)) Q E s := by
  subst e
  exact kqd_eq N ma ca da Da sa mb cb db Db sb hb hb hu (by simpa using h)
end
theorem strip_le {α : Type} : ∀ l : List (Option α), (strip l).length ≤ l.length
  | [] => Nat.le_refl _
  | none :: r => by
    have ih := strip_le r
    rw [strip]
    cases h : strip r with
    | nil => simp
    | cons a b => rw [h] at ih; simp only [List.length_cons] at ih ⊢; omega
  | some x :: r => by rw [strip, List.length_cons, List.length_cons]; exact Nat.succ_le_succ (strip_le r)
theorem strip_idem {α : Type} : ∀ l : List (Option α), strip (strip l) = strip l
  | [] => rfl
  | none :: r => by
    have ih := strip_idem r
    rw [strip]
    cases h : strip r with
    | nil => rfl
    | cons a b =>
      rw [h] at ih
      show strip (none :: a :: b) = none :: a :: b
      rw [strip, ih]
  | some x :: r => by rw [strip, strip, strip_idem r]
theorem strip_getD {α : Type} : ∀ (l : List (Option α)) (j : Nat), (strip l).getD j none = l.getD j none
  | [], _ => rfl
  | none :: r, j => by
    have ih := strip_getD r
    rw [strip]
    cases h : strip r with
    | nil =>
      cases j with
      | zero => rfl
      | succ j => have := ih j; rw [h] at this; simpa using this
    | cons a b =>
      rw [h] at ih
      cases j with
      | zero => rfl
      | succ j => simpa using ih j
  | some x :: r, j => by
    rw [strip]
    cases j with
    | zero => rfl
    | succ j => simpa using strip_getD r j
theorem pairs_flat : ∀ l : List (Option (Int × Int)), pairs (flat l) = l
  | [] => rfl
  | o :: r => by
    rw [flat, pairs, pairs_flat r]
    cases o with
    | none => rfl
    | some p => rfl
theorem shift_back (x : Int) (os : List (Option (Int × Int))) : (os.map (Option.map (shift x))).map (Option.map (shift (0 - x))) = os := by
  rw [List.map_map]
  have e : (Option.map (shift (0 - x)) ∘ Option.map (shift x)) = id := by
    funext o
    cases o with
    | none => rfl
    | some p =>
      obtain ⟨a, b⟩ := p
      simp only [Function.comp, Option.map_some, shift, id]
      congr 2
      · omega
      · omega
  rw [e, List.map_id]
theorem datAll_none (L9 : List (Addr × Obj)) : ∀ n : Nat, DatAll L9 (List.replicate n Value.none) (List.replicate n Dat.none)
  | 0 => .nil
  | n + 1 => .cons .none (datAll_none L9 n)
theorem ok_nones (n : Nat) : ∀ d ∈ List.replicate n Dat.none, kqdOk 8 d = true := fun d hd => by
  rw [List.eq_of_mem_replicate hd]; rfl
theorem tups_offD {h₀ h : Heap} {L d : Addr} {news tl : List (Addr × Obj)} {es : List DictEntry} {n : Nat} (N : News h₀ L h news) (T : Tups tl) (ht : ∀ p ∈ tl, p ∈ news) (hm : (d, dictOf es n) ∈ news) : ∀ q ∈ tl, q.1 ≠ d :=
  tups_off N ht T hm (show Value.type "dict" ≠ Value.type "tuple" by decide)
theorem tups_offL {h₀ h : Heap} {L d : Addr} {news tl : List (Addr × Obj)} {vs : List Value} {n : Nat} (N : News h₀ L h news) (T : Tups tl) (ht : ∀ p ∈ tl, p ∈ news) (hm : (d, listOf vs.toArray n) ∈ news) : ∀ q ∈ tl, q.1 ≠ d :=
  tups_off N ht T hm (show Value.type "list" ≠ Value.type "tuple" by decide)


end
section
theorem strip_none_app {α : Type} (l : List (Option α)) : ∀ r : Nat, strip (l ++ List.replicate r none) = strip l
  | 0 => by rw [List.replicate_zero, List.append_nil]
  | r + 1 => by
    rw [List.replicate_succ', ← List.append_assoc, strip_none, strip_none_app l r]
theorem getD_app_none {α : Type} (l : List (Option α)) (r j : Nat) : (l ++ List.replicate r none).getD j none = l.getD j none := by
  rw [List.getD_eq_getElem?_getD, List.getD_eq_getElem?_getD]
  by_cases h : j < l.length
  · rw [List.getElem?_append_left h]
  · rw [List.getElem?_append_right (by omega), List.getElem?_eq_none (l := l) (by omega)]
    cases e : (List.replicate r (none : Option α))[j - l.length]? with
    | none => rfl
    | some x =>
      have := List.mem_of_getElem? e
      rw [List.eq_of_mem_replicate this]; rfl
theorem pairs_nones : ∀ (l : List (Option (Int × Int))) (r : Nat), pairs (flat l ++ List.replicate (2 * r) none) = l ++ List.replicate r none
  | [], 0 => rfl
  | [], r + 1 => by
    have e : 2 * (r + 1) = 2 * r + 1 + 1 := by omega
    rw [e, List.replicate_succ, List.replicate_succ, flat, List.nil_append, pairs]
    have := pairs_nones [] r
    rw [flat, List.nil_append, List.nil_append] at this
    rw [this, List.nil_append, List.replicate_succ]; rfl
  | o :: l, r => by
    rw [flat, List.cons_append, List.cons_append, pairs, pairs_nones l r, List.cons_append]
    cases o with
    | none => rfl
    | some p => rfl
theorem strip_map {α β : Type} (f : α → β) : ∀ l : List (Option α), strip (l.map (Option.map f)) = (strip l).map (Option.map f)
  | [] => rfl
  | none :: r => by
    rw [List.map_cons, Option.map_none, strip, strip, strip_map f r]
    cases strip r <;> rfl
  | some x :: r => by
    rw [List.map_cons, Option.map_some, strip, strip, strip_map f r]; rfl
theorem flat_shift (x : Int) : ∀ l : List (Option (Int × Int)), flat (l.map (Option.map (shift x))) = (flat l).map (Option.map (· + x))
  | [] => rfl
  | o :: r => by
    rw [List.map_cons, flat, flat, List.map_cons, List.map_cons, flat_shift x r]
    cases o <;> rfl
theorem told_all (os : List (Option (Int × Int))) (f : Option (Int × Int) → Dat) : (List.range (os.length + 1)).map (fun j => f (os.getD j none)) = (os ++ [none]).map f := by
  rw [List.range_succ, List.map_append, List.map_append, range_map os f]
  congr 1
  rw [List.map_cons, List.map_cons, List.map_nil, List.map_nil, List.getD_eq_getElem?_getD, List.getElem?_eq_none (Nat.le_refl _)]
  rfl
theorem kept_all {os os' : List (Option (Int × Int))} (h : ∀ j, os'.getD j none = os.getD j none) : (List.range os.length).map (fun j => enc (os'.getD j none)) = os.map enc := by
  rw [← range_map os enc]
  exact List.map_congr_left fun j _ => by rw [h j]
theorem kept_of (os : List (Option (Int × Int))) (r j : Nat) : (strip os ++ List.replicate r none).getD j none = os.getD j none := by
  rw [getD_app_none, strip_getD]
theorem toldD_ok (o : Option (Int × Int)) : kqdOk 8 (toldD o) = true := by
  cases o with
  | none => rfl
  | some p => obtain ⟨a, b⟩ := p; rfl
theorem fr_forget {h₀ h : Heap} {L : Addr} {m : Str → Option Value} {x : Str} {v : Option Value} (F : Fr h₀ L h (fun y => if y = x then v else m y)) (e : m x = v) : Fr h₀ L h m := by
  have q : (fun y => if y = x then v else m y) = m := funext fun y => by
    by_cases h1 : y = x
    · rw [if_pos h1, h1, e]
    · rw [if_neg h1]
  rw [← q]; exact F
theorem fr_forget2 {h₀ h : Heap} {L : Addr} {m : Str → Option Value} {a b x : Str} {va vb v : Option Value} (F : Fr h₀ L h (fun y => if y = a then va else if y = b then vb else if y = x then v else m y)) (e : m x = v) : Fr h₀ L h (fun y => if y = a then va else if y = b then vb else m y) := by
  have q : (fun y => if y = a then va else if y = b then vb else if y = x then v else m y) = (fun y => if y = a then va else if y = b then vb else m y) := funext fun y => by
    by_cases h1 : y = a
    · rw [if_pos h1, if_pos h1]
    · rw [if_neg h1, if_neg h1]
      by_cases h2 : y = b
      · rw [if_pos h2, if_pos h2]
      · rw [if_neg h2, if_neg h2]
        by_cases h3 : y = x
        · rw [if_pos h3, h3, e]
        · rw [if_neg h3]
  rw [← q]; exact F

end
local macro_rules | `(tactic| walk_at "call ref") => mw "w11" "D' vs' tl' h' tk' hT' hY' o1' hfr' F' N'" "ijklabc"
local macro_rules | `(tactic| walk_at "call ref") => mw "w12" "D' vs' n' h' tk' hY' l1' F' N'" "mnoabc"
local macro_rules | `(tactic| walk_at "call ref") => mw "w13" "D' vs' n' tl' h' tk' hT' hY' o1' F' N'" "ijklabc"
local macro_rules | `(tactic| walk_at "call ref") => mw "w14" "D' vs' tl' h' tk' hT' hY' o1' F' N'" "ijklabc"
local macro_rules | `(tactic| walk_at "call ref") => mw "w15" "D' vs' n' h' tk' hY' l1' F' N'" "mnoabc"
local macro_rules | `(tactic| walk_at "binaryOp Add ref ref") => mw "w16" "D' h' F' N' l1" "db"

theorem kwada : True := by
  k_with "call ref" => (k_here; (with_reducible show wpAny _ _ (call (Value.ref 62) _) _ _ _); k_dflt (refine' mspan_ok ?k1_4c7b ?k2_4c7b ?k3_4c7b ?k4_4c7b ?k5_4c7b ?kK_4c7b ?hx_4c7b ?hdx_4c7b ?hsp_4c7b ?D_4c7b ?hl_4c7b ?h0_4c7b ?h1_4c7b ?hd_4c7b ?hu_4c7b ?_; (case k1_4c7b => k_asm); (case k2_4c7b => k_asm); (case k3_4c7b => k_asm); (case k4_4c7b => k_asm); (case k5_4c7b => k_asm); (case kK_4c7b => first | exact rfl | assumption); (case hx_4c7b => k_mem); (case hdx_4c7b => k_mem); (case hsp_4c7b => k_mem); (case D_4c7b => with_reducible assumption); (case hl_4c7b => omega); (case h0_4c7b => omega); (case h1_4c7b => omega); (case hd_4c7b => ktr_room); (case hu_4c7b => ke_room)); intro _ _ _ _ _ _; (try dsimp only); (try k_sweep); (try k_fold))
  k_with "call ref" => (k_here; (with_reducible show wpAny _ _ (call (Value.ref 69) _) _ _ _); k_dflt (refine' mbeg_ok ?k1_64ac ?k2_64ac ?k3_64ac ?k4_64ac ?k5_64ac ?kK_64ac ?hx_64ac ?hdx_64ac ?hsp_64ac ?D_64ac ?sub_64ac ?hl_64ac ?h0_64ac ?h1_64ac ?hd_64ac ?hu_64ac ?_; (case k1_64ac => k_asm); (case k2_64ac => k_asm); (case k3_64ac => k_asm); (case k4_64ac => k_asm); (case k5_64ac => k_asm); (case kK_64ac => first | exact rfl | assumption); (case hx_64ac => k_mem); (case hdx_64ac => k_mem); (case hsp_64ac => k_mem); (case D_64ac => with_reducible assumption); (case sub_64ac => kqd_sub); (case hl_64ac => omega); (case h0_64ac => omega); (case h1_64ac => omega); (case hd_64ac => ktr_room); (case hu_64ac => ke_room)); intro _ _ _ _ _ _; (try dsimp only); (try k_sweep); (try k_fold))
  k_with "call ref" => (k_here; (with_reducible show wpAny _ _ (call (Value.ref 76) _) _ _ _); k_dflt (refine' mend_ok ?k1_59a1 ?k2_59a1 ?k3_59a1 ?k4_59a1 ?k5_59a1 ?kK_59a1 ?hx_59a1 ?hdx_59a1 ?hsp_59a1 ?D_59a1 ?sub_59a1 ?hl_59a1 ?h0_59a1 ?h1_59a1 ?hd_59a1 ?hu_59a1 ?_; (case k1_59a1 => k_asm); (case k2_59a1 => k_asm); (case k3_59a1 => k_asm); (case k4_59a1 => k_asm); (case k5_59a1 => k_asm); (case kK_59a1 => first | exact rfl | assumption); (case hx_59a1 => k_mem); (case hdx_59a1 => k_mem); (case hsp_59a1 => k_mem); (case D_59a1 => with_reducible assumption); (case sub_59a1 => kqd_sub); (case hl_59a1 => omega); (case h0_59a1 => omega); (case h1_59a1 => omega); (case hd_59a1 => ktr_room); (case hu_59a1 => ke_room)); intro _ _ _ _ _ _; (try dsimp only); (try k_sweep); (try k_fold))
  k_with "compareOp NotEq ref ref" => (k_here; (with_reducible show wpAny _ _ (compareOp CmpOp.NotEq (Value.ref _) (Value.ref _)) _ _ _); k_dflt (refine' ne_same ?N_50c9 ?a_50c9 ?f_50c9 ?b_50c9 ?c_50c9 ?g_50c9 ?i_50c9 ?d_50c9 ?j_50c9 ?e_50c9 ?k_50c9 ?q_50c9 ?m_50c9 ?n_50c9 ?_; (case N_50c9 => k_asm); (case a_50c9 => k_mem); (case f_50c9 => k_mem); (case b_50c9 => rfl); (case c_50c9 => rfl); (case g_50c9 => rfl); (case i_50c9 => rfl); (case d_50c9 => with_reducible assumption); (case j_50c9 => with_reducible assumption); (case e_50c9 => kqd_sub); (case k_50c9 => kqd_sub); (case q_50c9 => with_reducible assumption); (case m_50c9 => with_reducible assumption); (case n_50c9 => ke_room); k_whole))
  k_with "compareOp Eq ref ref" => (k_here; (with_reducible show wpAny _ _ (compareOp CmpOp.Eq (Value.ref _) (Value.ref _)) _ _ _); k_dflt (refine' eq_same ?N_ec8a ?a_ec8a ?f_ec8a ?b_ec8a ?c_ec8a ?g_ec8a ?i_ec8a ?d_ec8a ?j_ec8a ?e_ec8a ?k_ec8a ?q_ec8a ?m_ec8a ?n_ec8a ?_; (case N_ec8a => k_asm); (case a_ec8a => k_mem); (case f_ec8a => k_mem); (case b_ec8a => rfl); (case c_ec8a => rfl); (case g_ec8a => rfl); (case i_ec8a => rfl); (case d_ec8a => with_reducible assumption); (case j_ec8a => with_reducible assumption); (case e_ec8a => kqd_sub); (case k_ec8a => kqd_sub); (case q_ec8a => with_reducible assumption); (case m_ec8a => with_reducible assumption); (case n_ec8a => ke_room); k_whole))
  k_with "call builtin:len" => (k_here; (with_reducible show wpAny _ _ (call (Value.builtin "len") [Value.ref _]) _ _ _); k_dflt (refine' len_led ?k1_f453 ?k2_f453 ?k3_f453 ?_; (case k1_f453 => k_asm); (case k2_f453 => k_mem); (case k3_f453 => omega)))
  trivial
local macro_rules | `(tactic| walk_at "binaryOp Mult ref int") => mw "w17" "D' h' F' N' l1" "db"
section
theorem rep2 : ∀ n : Nat, (List.replicate n [Value.none, Value.none]).flatten = List.replicate (2 * n) Value.none
  | 0 => rfl
  | n + 1 => by
    have e : 2 * (n + 1) = 2 * n + 1 + 1 := by omega
    rw [List.replicate_succ, List.flatten_cons, rep2 n, e, List.replicate_succ, List.replicate_succ]; rfl
theorem mul2 {prog : Program} {w : World} {A : Around} {E : Value → Shared → Prop} {s : Shared} {h₀ : Heap} {L l : Addr} {m : Str → Option Value} {news : List (Addr × Obj)} {k : Nat} {x : Int} {u : Tok} {Q : Value → Shared → Prop} (F : Fr h₀ L s.heap m) (N : News h₀ L s.heap news) (hm : (l, listOf [Value.none, Value.none].toArray k) ∈ news) (hx : 0 ≤ x) (hn : x < 100)
    (h : ∀ D h', Fr h₀ L h' m → News h₀ L h' ((D, listOf (List.replicate (2 * x.toNat) Value.none).toArray 0) :: news) → (∀ p ∈ news, p.1 < D) → Q (.ref D) { s with heap := h' }) : wpAny (model prog w) A (binaryOp .Mult (.ref l) (.int x u)) Q E s :=
  KMa.mul F N (isL_of N hm) (by omega) (by omega) (by simp only [List.length_cons, List.length_nil]; omega) (rep2 _) h
abbrev canN (P : Params) (l0 : Addr) (c : Int) (tc : Tok) (dk L : Addr) (qb : Obj) (dx : Addr) (t0 : Tok) (sp : Addr) (R : List (Addr × Obj)) : List (Addr × Obj) := (dk, deckO l0 c tc 0) :: (L + 1 + 1, qb) :: (dx, spansDict P t0 sp) :: R
theorem rest6_ok {w : World} {p : Program} {loose : List Str} {mean : ExcName → Option Value} {mg mb : Str → Option Value} {dp un : Nat} {gd : Option (List Code)} {a : Addr} {ccd : Value} {outer : List Env} {A₀ : Around} {base h₀ : Heap} {L : Addr} {m : Str → Option Value} {s : Shared} {Q : Flow → Shared → Prop} {E : Value → Shared → Prop} {news : List (Addr × Obj)} {sc : Scope} {st : Stmt} {cl : List (Str × Addr)} {dk l0 x dx sp : Addr} {c : Int} {tc t0 : Tok} {vsI : List Value} {ns : List Int} {k0 : Nat} {qb od : Obj} {vb : Option Value} {vs : List Value} {k : Nat} {os : List (Option (Int × Int))} {R L9 : List (Addr × Obj)} (hst : st = nth (lawLb w.params) 6)
  (hsc : sc = lawSc w.params) (hcl : cl = cellsFrom (L + 1) sc.names []) (B : Below A₀ base outer h₀) (F : Fr h₀ L s.heap m) (X : (Mine.hd.heap_39 w.params).In h₀) (N : News h₀ L s.heap news) (T : Top p loose mean mg mb h₀) (hnews : news = canN w.params l0 c tc dk L qb dx t0 sp R) (offR : OwnOff R [dk, L + 1 + 1, dx]) (ne1 : @Ne Nat dk (L + 1 + 1)) (ne2 : @Ne Nat dk dx) (ne3 : @Ne Nat (L + 1 + 1) dx) (hl0 : (l0, listOf vsI.toArray k0) ∈ R) (hi : IntsAre vsI ns) (hln : ns.length < 1000) (hc0 : 0 ≤ c) (hc1 : c < 900)
  (hm : m (Str.ofString "deck") = some (.ref dk)) (hqb : qb.data = Data.cell vb) (hod : od.data = Data.cell (some (.ref x))) (hc : (L + 1, od) ∈ R) (hx : (x, instObj 103 dx) ∈ R) (hsp : (sp, listOf vs.toArray k) ∈ R) (D : DatAll L9 vs (os.map enc)) (sub : ∀ p ∈ L9, p ∈ R) (hl : os.length < 100)
  (hd : dp + 4 < recursionLimit) (hu : un + 400 < cLine)
  (ret : ∀ (D2 : Addr) (vs2 : List Value) (n2 r : Nat) (tl R' : List (Addr × Obj)) (tc' : Tok) (h' : Heap) (tk' : Nat), r < 2 → (∀ p ∈ R, p ∈ R') → OwnOff R' [dk, L + 1 + 1, dx] → (D2, listOf vs2.toArray n2) ∈ R' → (∀ p ∈ tl, p ∈ R') → Tups tl → DatAll tl vs2 ((strip os ++ List.replicate r none).map enc) → Fr h₀ L h' m → News h₀ L h' (canN w.params l0 (c + 1) tc' dk L qb dx t0 D2 R') → Q .next { s with heap := h', toks := tk' }) :
  wpAny (model PySem.Challenge.pw_ok0042_02 w) (ktrTop dp un gd (Str.ofString "law") sc L a ccd cl outer) (exec st (envX (Str.ofString "law") sc L a ccd cl)) Q E s := by
  subst hnews
  have hne0 : @Ne Nat l0 dk := offR _ hl0 _ (.head _)
  conv at hst => rhs; whnf
  conv at hsc => rhs; whnf
  subst hsc
  conv at hcl => rhs; whnf
  subst hst hcl
  show Keep PySem.Challenge.rw_ok0042_02 Mine.hd.heap_39 (wpAny _ _ _ _ _ _)
  k_fill
  unfold Keep
  dsimp only [canN] at N
  have F1 := fr_know F hm
  clear F
  have hfl := flat_length (strip os)
  have hsl := strip_le os
  w_strict k_steps
  rename_i DA vA nA _ _ hYA hzA _ _ _ _ lA lN _ _ _ _ _ _ lNN r tr tcr _ _ r0 r1 DM _ _ _ _ _ _ _ lM DS hS FS NS _ _ _ _ _ _ _ lS
  have hYS : DatAll [] (vA ++ List.replicate (2 * r.toNat) Value.none) ((flat (strip os) ++ List.replicate (2 * r.toNat) none).map encI) := by
    rw [List.map_append, List.map_replicate]; exact hYA.append (datAll_none [] _)
  have hps : (flat (strip os) ++ List.replicate (2 * r.toNat) (none : Option Int)).length < 1000 := by rw [List.length_append, List.length_replicate]; omega
  w_strict k_steps
  rename_i D2 v2 n2 tl2 h2 tk2 hT2 hY2 F2 N2 _ _ _ _ _ _ _ _ _
  rw [pairs_nones] at hY2
  refine ret D2 v2 n2 r.toNat tl2 ((D2, listOf v2.toArray n2) :: (tl2 ++ R)) tcr _ _ (by omega) (fun p hp => .tail _ (List.mem_append_right _ hp)) ?_ (.head _) (fun p hp => .tail _ (List.mem_append_left _ hp)) hT2 hY2 (fr_forget F2 hm) (cb_drop N2 (by kqd_sub))
  refine own_hd ?_ (own_two ?_ offR)
  · repeat' (first | exact List.forall_mem_nil _ | refine List.forall_mem_cons.mpr ⟨?_, ?_⟩)
    all_goals k_ne
  · exact own_adr (tups_offL (vs := [Value.ref l0, Value.int (c + 1) tcr]) (n := 0) N2 hT2 (by kqd_sub) (by k_mem)) (own_adr (tups_offC N2 (by kqd_sub) hT2 (by k_mem) hqb) (own_adr (tups_offD (es := [_]) (n := 1) N2 hT2 (by kqd_sub) (by k_mem)) own_adr0))

end
section
theorem cmp1_ok {w : World} {p : Program} {loose : List Str} {mean : ExcName → Option Value} {mg mb : Str → Option Value} {dp un : Nat} {gd : Option (List Code)} {a : Addr} {ccd : Value} {outer : List Env} {A₀ : Around} {base h₀ : Heap} {L : Addr} {m : Str → Option Value} {s : Shared} {Q : Flow → Shared → Prop} {E : Value → Shared → Prop} {news : List (Addr × Obj)} {sc : Scope} {st : Stmt} {cl : List (Str × Addr)} {x dx sp ta du li : Addr} {od : Obj} {t0 : Tok} {vs ys zs us : List Value} {k ky kz ku : Nat} {os : List (Option (Int × Int))} {ds es : List Dat} {L9 L1 L2 : List (Addr × Obj)} (hst : st = nth (lawLb w.params) 5)
  (hsc : sc = lawSc w.params) (hcl : cl = cellsFrom (L + 1) sc.names []) (B : Below A₀ base outer h₀) (F : Fr h₀ L s.heap m) (X : (Mine.hd.heap_39 w.params).In h₀) (N : News h₀ L s.heap news) (T : Top p loose mean mg mb h₀) (hm1 : m (Str.ofString "told_here") = some (.ref ta)) (hm2 : m (Str.ofString "due") = some (.ref du)) (hm3 : m (Str.ofString "listed") = some (.ref li))
  (hod : od.data = Data.cell (some (.ref x))) (hc : (L + 1, od) ∈ news) (hx : (x, instObj 103 dx) ∈ news) (hdx : (dx, spansDict w.params t0 sp) ∈ news) (hsp : (sp, listOf vs.toArray k) ∈ news) (D : DatAll L9 vs (os.map enc)) (sub : ∀ p ∈ L9, p ∈ news) (hl : os.length < 100)
  (ht : (ta, listOf ys.toArray ky) ∈ news) (hu2 : (du, listOf zs.toArray kz) ∈ news) (hli : (li, listOf us.toArray ku) ∈ news) (DY : DatAll L1 ys ds) (DZ : DatAll L2 zs es) (s1 : ∀ p ∈ L1, p ∈ news) (s2 : ∀ p ∈ L2, p ∈ news) (hE : ds = es) (hK : ∀ d ∈ es, kqdOk 8 d = true)
  (DU : DatAll [] us ((flat (strip os)).map encI)) (hd : dp + 4 < recursionLimit) (hu : un + 400 < cLine)
  (ret : ∀ (h' : Heap) (tk' : Nat), Fr h₀ L h' m → News h₀ L h' news → Q .next { s with heap := h', toks := tk' }) :
  wpAny (model PySem.Challenge.pw_ok0042_02 w) (ktrTop dp un gd (Str.ofString "law") sc L a ccd cl outer) (exec st (envX (Str.ofString "law") sc L a ccd cl)) Q E s := by
  conv at hst => rhs; whnf
  conv at hsc => rhs; whnf
  subst hsc
  conv at hcl => rhs; whnf
  subst hst hcl
  show Keep PySem.Challenge.rw_ok0042_02 Mine.hd.heap_39 (wpAny _ _ _ _ _ _)
  k_fill
  unfold Keep
  have hKf := encIs_ok (flat (strip os))
  have e2 : (fun y => if y = Str.ofString "told_here" then some (Value.ref ta) else m y) (Str.ofString "due") = some (.ref du) := (if_neg (by decide)).trans hm2
  have e3 : (fun y => if y = Str.ofString "due" then some (Value.ref du) else if y = Str.ofString "told_here" then some (Value.ref ta) else m y) (Str.ofString "listed") = some (.ref li) := (if_neg (by decide)).trans ((if_neg (by decide)).trans hm3)
  have F1 := fr_know (fr_know (fr_know F hm1) e2) e3
  clear F
  w_strict k_steps
  exact ret _ _ (fr_forget (fr_forget (fr_forget (by assumption) e3) e2) hm1) (cb_drop (by assumption) (by kqd_sub))

end
section
theorem cmp7_ok {w : World} {p : Program} {loose : List Str} {mean : ExcName → Option Value} {mg mb : Str → Option Value} {dp un : Nat} {gd : Option (List Code)} {a : Addr} {ccd : Value} {outer : List Env} {A₀ : Around} {base h₀ : Heap} {L : Addr} {m : Str → Option Value} {s : Shared} {Q : Flow → Shared → Prop} {E : Value → Shared → Prop} {news : List (Addr × Obj)} {sc : Scope} {st : Stmt} {cl : List (Str × Addr)} {x dx sp li S : Addr} {od : Obj} {t0 tm : Tok} {vs us vsS : List Value} {k ku kS : Nat} {os os2 : List (Option (Int × Int))} {L9 L8 : List (Addr × Obj)} (hst : st = nth (lawLb w.params) 7)
  (hsc : sc = lawSc w.params) (hcl : cl = cellsFrom (L + 1) sc.names []) (B : Below A₀ base outer h₀) (F : Fr h₀ L s.heap m) (X : (Mine.hd.heap_39 w.params).In h₀) (N : News h₀ L s.heap news) (T : Top p loose mean mg mb h₀) (hm1 : m (Str.ofString "listed") = some (.ref li)) (hm2 : m (Str.ofString "many") = some (.int (os.length : Int) tm)) (hm3 : m (Str.ofString "spans") = some (.ref S))
  (hod : od.data = Data.cell (some (.ref x))) (hc : (L + 1, od) ∈ news) (hx : (x, instObj 103 dx) ∈ news) (hdx : (dx, spansDict w.params t0 sp) ∈ news) (hsp : (sp, listOf vs.toArray k) ∈ news) (D : DatAll L9 vs (os2.map enc)) (sub : ∀ p ∈ L9, p ∈ news) (hl : os.length < 100) (hl2 : os2.length < 200)
  (hli : (li, listOf us.toArray ku) ∈ news) (DU : DatAll [] us ((flat (strip os)).map encI)) (hS : (S, listOf vsS.toArray kS) ∈ news) (DS : DatAll L8 vsS (os.map enc)) (s8 : ∀ p ∈ L8, p ∈ news) (hE1 : (flat (strip os2)).map encI = (flat (strip os)).map encI) (hget : ∀ j, os2.getD j none = os.getD j none)
  (hd : dp + 4 < recursionLimit) (hu : un + 400 < cLine)
  (ret : ∀ (h' : Heap) (tk' : Nat), Fr h₀ L h' m → News h₀ L h' news → Q .next { s with heap := h', toks := tk' }) :
  wpAny (model PySem.Challenge.pw_ok0042_02 w) (ktrTop dp un gd (Str.ofString "law") sc L a ccd cl outer) (exec st (envX (Str.ofString "law") sc L a ccd cl)) Q E s := by
  conv at hst => rhs; whnf
  conv at hsc => rhs; whnf
  subst hsc
  conv at hcl => rhs; whnf
  subst hst hcl
  show Keep PySem.Challenge.rw_ok0042_02 Mine.hd.heap_39 (wpAny _ _ _ _ _ _)
  k_fill
  unfold Keep
  have hKf := encIs_ok (flat (strip os))
  have e2 : (fun y => if y = Str.ofString "listed" then some (Value.ref li) else m y) (Str.ofString "many") = some (.int (os.length : Int) tm) := (if_neg (by decide)).trans hm2
  have e3 : (fun y => if y = Str.ofString "many" then some (Value.int (os.length : Int) tm) else if y = Str.ofString "listed" then some (Value.ref li) else m y) (Str.ofString "spans") = some (.ref S) := (if_neg (by decide)).trans ((if_neg (by decide)).trans hm3)
  have F1 := fr_know (fr_know (fr_know F hm1) e2) e3
  clear F
  w_strict k_steps
  unfold Halt
  refine rest_tl (fun i ys tl => tl = [] ∧ DatAll L9 ys ((List.range i).map fun j => enc (os2.getD j none))) ⟨rfl, .nil⟩ ?_ ?_
  · rintro j9 ys6 tl6 hj9 ⟨rfl, hY⟩ v I oI C oC DD m₂ h tk E' ⟨t9, rfl⟩ hC hx' F' N' off ⟨ne1, ne2, ne3⟩
    dsimp only
    simp only [List.cons_append, List.append_nil] at N'
    have hj2 : (j9 : Int) < 101 := by
      have : j9 < ((os.length : Int) - 0).toNat := hj9
      omega
    w_strict k_steps
    rename DatIn L9 _ (enc (os2.getD _ none)) => hD
    have e0 : ((0 : Int) + (j9 : Int)).toNat = j9 := by omega
    rw [e0] at hD
    refine end_tl [] (by k_asm) (by k_asm) (by kqd_sub) off trivial ⟨rfl, ?_⟩
    rw [List.range_succ, List.map_append]
    exact hY.append (.cons hD .nil)
  rintro ysB tlB ⟨rfl, hYB⟩
  unfold LCg.FinE
  intro DB hB tkB9 FB NB pB
  simp only [List.cons_append, List.append_nil] at NB pB
  dsimp only
  have enA : ((os.length : Int) - 0).toNat = os.length := by omega
  rw [enA] at hYB
  have hEB := kept_all hget
  have hKB := encs_ok os
  w_strict k_steps
  exact ret _ _ (fr_forget (fr_forget (fr_forget (by assumption) e3) e2) hm1) (cb_drop (by assumption) (by kqd_sub))

end
section
theorem by8_ok {w : World} {p : Program} {loose : List Str} {mean : ExcName → Option Value} {mg mb : Str → Option Value} {dp un : Nat} {gd : Option (List Code)} {a : Addr} {ccd : Value} {outer : List Env} {A₀ : Around} {base h₀ : Heap} {L : Addr} {m : Str → Option Value} {s : Shared} {Q : Flow → Shared → Prop} {E : Value → Shared → Prop} {news : List (Addr × Obj)} {sc : Scope} {st : Stmt} {cl : List (Str × Addr)} {dk l0 x dx sp : Addr} {c : Int} {tc t0 tv : Tok} {vsI : List Value} {ns : List Int} {k0 : Nat} {qb od : Obj} {vb : Option Value} {vs : List Value} {k : Nat} {v : Int} {os : List (Option (Int × Int))} {R L9 : List (Addr × Obj)} (hst : st = nth (lawLb w.params) 8)
  (hsc : sc = lawSc w.params) (hcl : cl = cellsFrom (L + 1) sc.names []) (B : Below A₀ base outer h₀) (F : Fr h₀ L s.heap m) (X : (Mine.hd.heap_39 w.params).In h₀) (N : News h₀ L s.heap news) (T : Top p loose mean mg mb h₀) (hnews : news = canN w.params l0 c tc dk L qb dx t0 sp R) (offR : OwnOff R [dk, L + 1 + 1, dx]) (ne1 : @Ne Nat dk (L + 1 + 1)) (ne2 : @Ne Nat dk dx) (ne3 : @Ne Nat (L + 1 + 1) dx) (hl0 : (l0, listOf vsI.toArray k0) ∈ R) (hi : IntsAre vsI ns) (hln : ns.length < 1000) (hc0 : 0 ≤ c) (hc1 : c < 900) (hm : m (Str.ofString "deck") = some (.ref dk)) (hqb : qb.data = Data.cell vb)
  (hd : dp + 4 < recursionLimit) (hu : un + 400 < cLine)
  (ret : ∀ (v : Int) (tv tc' : Tok) (qb' : Obj) (h' : Heap) (tk' : Nat), qb'.data = Data.cell (some (.int v tv)) → -4 ≤ v → v ≤ 4 → Fr h₀ L h' m → News h₀ L h' (canN w.params l0 (c + 1) tc' dk L qb' dx t0 sp R) → Q .next { s with heap := h', toks := tk' }) :
  wpAny (model PySem.Challenge.pw_ok0042_02 w) (ktrTop dp un gd (Str.ofString "law") sc L a ccd cl outer) (exec st (envX (Str.ofString "law") sc L a ccd cl)) Q E s := by
  subst hnews
  have hne0 : @Ne Nat l0 dk := offR _ hl0 _ (.head _)
  conv at hst => rhs; whnf
  conv at hsc => rhs; whnf
  subst hsc
  conv at hcl => rhs; whnf
  subst hst hcl
  show Keep PySem.Challenge.rw_ok0042_02 Mine.hd.heap_39 (wpAny _ _ _ _ _ _)
  k_fill
  unfold Keep
  dsimp only [canN] at N
  have F1 := fr_know F hm
  clear F
  w_strict k_steps
  rename Obj.data _ = Data.cell (some (Value.int _ _)) => hqn
  exact ret _ _ _ _ _ _ hqn (by omega) (by omega) (fr_forget (by assumption) hm) (cb_drop (by assumption) (by kqd_sub))

end
section
theorem tr9_ok {w : World} {p : Program} {loose : List Str} {mean : ExcName → Option Value} {mg mb : Str → Option Value} {dp un : Nat} {gd : Option (List Code)} {a : Addr} {ccd : Value} {outer : List Env} {A₀ : Around} {base h₀ : Heap} {L : Addr} {m : Str → Option Value} {s : Shared} {Q : Flow → Shared → Prop} {E : Value → Shared → Prop} {news : List (Addr × Obj)} {sc : Scope} {st : Stmt} {cl : List (Str × Addr)} {dk l0 x dx sp : Addr} {c : Int} {tc t0 tv : Tok} {vsI : List Value} {ns : List Int} {k0 : Nat} {qb od : Obj} {vb : Option Value} {vs : List Value} {k : Nat} {v : Int} {os : List (Option (Int × Int))} {R L9 : List (Addr × Obj)} (hst : st = nth (lawLb w.params) 9)
  (hsc : sc = lawSc w.params) (hcl : cl = cellsFrom (L + 1) sc.names []) (B : Below A₀ base outer h₀) (F : Fr h₀ L s.heap m) (X : (Mine.hd.heap_39 w.params).In h₀) (N : News h₀ L s.heap news) (T : Top p loose mean mg mb h₀) (hnews : news = canN w.params l0 c tc dk L qb dx t0 sp R) (offR : OwnOff R [dk, L + 1 + 1, dx]) (ne1 : @Ne Nat dk (L + 1 + 1)) (ne2 : @Ne Nat dk dx) (ne3 : @Ne Nat (L + 1 + 1) dx) (hqb : qb.data = Data.cell (some (.int v tv))) (hv1 : -4 ≤ v) (hv2 : v ≤ 4) (hod : od.data = Data.cell (some (.ref x))) (hc : (L + 1, od) ∈ R) (hx : (x, instObj 103 dx) ∈ R) (hsp : (sp, listOf vs.toArray k) ∈ R) (D : DatAll L9 vs (os.map enc)) (sub : ∀ p ∈ L9, p ∈ R) (TL : Tups L9) (hl : os.length < 200)
  (hd : dp + 4 < recursionLimit) (hu : un + 400 < cLine)
  (ret : ∀ (D2 : Addr) (vs2 : List Value) (tl R' : List (Addr × Obj)) (h' : Heap) (tk' : Nat), (∀ p ∈ R, p ∈ R') → OwnOff R' [dk, L + 1 + 1, dx] → (D2, listOf vs2.toArray vs2.length) ∈ R' → (∀ p ∈ tl, p ∈ R') → Tups tl → DatAll tl vs2 ((os.map (Option.map (shift (v)))).map enc) → Fr h₀ L h' m → News h₀ L h' (canN w.params l0 c tc dk L qb dx t0 D2 R') → Q .next { s with heap := h', toks := tk' }) :
  wpAny (model PySem.Challenge.pw_ok0042_02 w) (ktrTop dp un gd (Str.ofString "law") sc L a ccd cl outer) (exec st (envX (Str.ofString "law") sc L a ccd cl)) Q E s := by
  subst hnews
  conv at hst => rhs; whnf
  conv at hsc => rhs; whnf
  subst hsc
  conv at hcl => rhs; whnf
  subst hst hcl
  show Keep PySem.Challenge.rw_ok0042_02 Mine.hd.heap_39 (wpAny _ _ _ _ _ _)
  k_fill
  unfold Keep
  dsimp only [canN] at N
  w_strict k_steps
  rename_i D2 v2 tl2 h2 tk2 hT2 hY2 F2 N2 _ _ _ _ _
  refine ret D2 v2 tl2 ((D2, listOf v2.toArray v2.length) :: (tl2 ++ R)) _ _ (fun p hp => .tail _ (List.mem_append_right _ hp)) ?_ (.head _) (fun p hp => .tail _ (List.mem_append_left _ hp)) hT2 hY2 F2 (cb_drop N2 (by kqd_sub))
  refine own_hd ?_ (own_two ?_ offR)
  · repeat' (first | exact List.forall_mem_nil _ | refine List.forall_mem_cons.mpr ⟨?_, ?_⟩)
    all_goals k_ne
  · exact own_adr (tups_offL (vs := [Value.ref l0, Value.int c tc]) (n := 0) N2 hT2 (by kqd_sub) (by k_mem)) (own_adr (tups_offC N2 (by kqd_sub) hT2 (by k_mem) hqb) (own_adr (tups_offD (es := [_]) (n := 1) N2 hT2 (by kqd_sub) (by k_mem)) own_adr0))
theorem tr11_ok {w : World} {p : Program} {loose : List Str} {mean : ExcName → Option Value} {mg mb : Str → Option Value} {dp un : Nat} {gd : Option (List Code)} {a : Addr} {ccd : Value} {outer : List Env} {A₀ : Around} {base h₀ : Heap} {L : Addr} {m : Str → Option Value} {s : Shared} {Q : Flow → Shared → Prop} {E : Value → Shared → Prop} {news : List (Addr × Obj)} {sc : Scope} {st : Stmt} {cl : List (Str × Addr)} {dk l0 x dx sp : Addr} {c : Int} {tc t0 tv : Tok} {vsI : List Value} {ns : List Int} {k0 : Nat} {qb od : Obj} {vb : Option Value} {vs : List Value} {k : Nat} {v : Int} {os : List (Option (Int × Int))} {R L9 : List (Addr × Obj)} (hst : st = nth (lawLb w.params) 11)
  (hsc : sc = lawSc w.params) (hcl : cl = cellsFrom (L + 1) sc.names []) (B : Below A₀ base outer h₀) (F : Fr h₀ L s.heap m) (X : (Mine.hd.heap_39 w.params).In h₀) (N : News h₀ L s.heap news) (T : Top p loose mean mg mb h₀) (hnews : news = canN w.params l0 c tc dk L qb dx t0 sp R) (offR : OwnOff R [dk, L + 1 + 1, dx]) (ne1 : @Ne Nat dk (L + 1 + 1)) (ne2 : @Ne Nat dk dx) (ne3 : @Ne Nat (L + 1 + 1) dx) (hqb : qb.data = Data.cell (some (.int v tv))) (hv1 : -4 ≤ v) (hv2 : v ≤ 4) (hod : od.data = Data.cell (some (.ref x))) (hc : (L + 1, od) ∈ R) (hx : (x, instObj 103 dx) ∈ R) (hsp : (sp, listOf vs.toArray k) ∈ R) (D : DatAll L9 vs (os.map enc)) (sub : ∀ p ∈ L9, p ∈ R) (TL : Tups L9) (hl : os.length < 200)
  (hd : dp + 4 < recursionLimit) (hu : un + 400 < cLine)
  (ret : ∀ (D2 : Addr) (vs2 : List Value) (tl R' : List (Addr × Obj)) (h' : Heap) (tk' : Nat), (∀ p ∈ R, p ∈ R') → OwnOff R' [dk, L + 1 + 1, dx] → (D2, listOf vs2.toArray vs2.length) ∈ R' → (∀ p ∈ tl, p ∈ R') → Tups tl → DatAll tl vs2 ((os.map (Option.map (shift (0 - v)))).map enc) → Fr h₀ L h' m → News h₀ L h' (canN w.params l0 c tc dk L qb dx t0 D2 R') → Q .next { s with heap := h', toks := tk' }) :
  wpAny (model PySem.Challenge.pw_ok0042_02 w) (ktrTop dp un gd (Str.ofString "law") sc L a ccd cl outer) (exec st (envX (Str.ofString "law") sc L a ccd cl)) Q E s := by
  subst hnews
  conv at hst => rhs; whnf
  conv at hsc => rhs; whnf
  subst hsc
  conv at hcl => rhs; whnf
  subst hst hcl
  show Keep PySem.Challenge.rw_ok0042_02 Mine.hd.heap_39 (wpAny _ _ _ _ _ _)
  k_fill
  unfold Keep
  dsimp only [canN] at N
  w_strict k_steps
  rename_i D2 v2 tl2 h2 tk2 hT2 hY2 F2 N2 _ _ _ _ _
  refine ret D2 v2 tl2 ((D2, listOf v2.toArray v2.length) :: (tl2 ++ R)) _ _ (fun p hp => .tail _ (List.mem_append_right _ hp)) ?_ (.head _) (fun p hp => .tail _ (List.mem_append_left _ hp)) hT2 hY2 F2 (cb_drop N2 (by kqd_sub))
  refine own_hd ?_ (own_two ?_ offR)
  · repeat' (first | exact List.forall_mem_nil _ | refine List.forall_mem_cons.mpr ⟨?_, ?_⟩)
    all_goals k_ne
  · exact own_adr (tups_offL (vs := [Value.ref l0, Value.int c tc]) (n := 0) N2 hT2 (by kqd_sub) (by k_mem)) (own_adr (tups_offC N2 (by kqd_sub) hT2 (by k_mem) hqb) (own_adr (tups_offD (es := [_]) (n := 1) N2 hT2 (by kqd_sub) (by k_mem)) own_adr0))

end
section
theorem encI_at' {L9 : List (Addr × Obj)} {vs : List Value} {ps : List (Option Int)} (D : DatAll L9 vs (ps.map encI)) {i : Nat} {v : Value} (h : vs.toArray[i]? = some v) : ∃ o, ps[i]? = some o ∧ ((o = none ∧ v = .none) ∨ ∃ n t, o = some n ∧ v = .int n t) := by
  obtain ⟨d, e, q⟩ := dat_at D h
  rw [List.getElem?_map] at e
  cases ho : ps[i]? with
  | none => rw [ho] at e; cases e
  | some o => rw [ho] at e; cases e; exact ⟨o, rfl, datIn_encI q⟩
theorem cmp10_ok {w : World} {p : Program} {loose : List Str} {mean : ExcName → Option Value} {mg mb : Str → Option Value} {dp un : Nat} {gd : Option (List Code)} {a : Addr} {ccd : Value} {outer : List Env} {A₀ : Around} {base h₀ : Heap} {L : Addr} {m : Str → Option Value} {s : Shared} {Q : Flow → Shared → Prop} {E : Value → Shared → Prop} {news : List (Addr × Obj)} {sc : Scope} {st : Stmt} {cl : List (Str × Addr)} {x dx sp li : Addr} {od qb : Obj} {t0 tv : Tok} {vs us : List Value} {k ku : Nat} {v : Int} {os os3 : List (Option (Int × Int))} {L9 : List (Addr × Obj)} (hst : st = nth (lawLb w.params) 10)
  (hsc : sc = lawSc w.params) (hcl : cl = cellsFrom (L + 1) sc.names []) (B : Below A₀ base outer h₀) (F : Fr h₀ L s.heap m) (X : (Mine.hd.heap_39 w.params).In h₀) (N : News h₀ L s.heap news) (T : Top p loose mean mg mb h₀) (hm1 : m (Str.ofString "listed") = some (.ref li))
  (hqb : qb.data = Data.cell (some (.int v tv))) (hcb : (L + 1 + 1, qb) ∈ news) (hv1 : -4 ≤ v) (hv2 : v ≤ 4) (hod : od.data = Data.cell (some (.ref x))) (hc : (L + 1, od) ∈ news) (hx : (x, instObj 103 dx) ∈ news) (hdx : (dx, spansDict w.params t0 sp) ∈ news) (hsp : (sp, listOf vs.toArray k) ∈ news) (D : DatAll L9 vs (os3.map enc)) (sub : ∀ p ∈ L9, p ∈ news) (hl : os.length < 100) (hl3 : os3.length < 200)
  (hli : (li, listOf us.toArray ku) ∈ news) (DU : DatAll [] us ((flat (strip os)).map encI)) (hE1 : (flat (strip os3)).map encI = ((flat (strip os)).map (Option.map (· + v))).map encI)
  (hd : dp + 4 < recursionLimit) (hu : un + 400 < cLine)
  (ret : ∀ (h' : Heap) (tk' : Nat), Fr h₀ L h' m → News h₀ L h' news → Q .next { s with heap := h', toks := tk' }) :
  wpAny (model PySem.Challenge.pw_ok0042_02 w) (ktrTop dp un gd (Str.ofString "law") sc L a ccd cl outer) (exec st (envX (Str.ofString "law") sc L a ccd cl)) Q E s := by
  conv at hst => rhs; whnf
  conv at hsc => rhs; whnf
  subst hsc
  conv at hcl => rhs; whnf
  subst hst hcl
  show Keep PySem.Challenge.rw_ok0042_02 Mine.hd.heap_39 (wpAny _ _ _ _ _ _)
  k_fill
  unfold Keep
  have hKB := encIs_ok ((flat (strip os)).map (Option.map (· + v)))
  have F1 := fr_know F hm1
  clear F
  have hul := DU.length
  rw [List.length_map, flat_length] at hul
  have hsl := strip_le os
  have hul2 : us.length < 300 := by omega
  w_strict k_steps
  unfold Halt
  refine rest_tl (fun i ys tl => tl = [] ∧ DatAll [] ys ((((flat (strip os)).take i).map (Option.map (· + v))).map encI)) ⟨rfl, .nil⟩ ?_ ?_
  · rintro j9 ys6 tl6 hj9 ⟨rfl, hY⟩ v9 I oI C oC DD m₂ h tk E' hP hC hx' F' N' off ⟨ne1, ne2, ne3⟩
    dsimp only
    simp only [List.cons_append, List.append_nil] at N'
    obtain ⟨o, ho, ⟨rfl, rfl⟩ | ⟨n9, t9, rfl, rfl⟩⟩ := encI_at' DU hP
    · w_strict k_steps
      refine end_tl [] (by k_asm) (by k_asm) (by kqd_sub) off (Or.inr ⟨_, by k_mem, rfl, _, rfl⟩) ⟨rfl, ?_⟩
      rw [take_more ho, List.map_append, List.map_append]
      exact hY.append (.cons .none .nil)
    · w_strict k_steps
      refine end_tl [] (by k_asm) (by k_asm) (by kqd_sub) off (Or.inr ⟨_, by k_mem, rfl, _, rfl⟩) ⟨rfl, ?_⟩
      rw [take_more ho, List.map_append, List.map_append]
      exact hY.append (.cons (.int _ _) .nil)
  rintro ysB tlB ⟨rfl, hYB⟩
  unfold LCg.FinE
  intro DB hB tkB9 FB NB pB
  simp only [List.cons_append, List.append_nil] at NB pB
  dsimp only
  have enA : us.toArray.size = (flat (strip os)).length := by rw [List.size_toArray, hul, flat_length]
  rw [enA, List.take_length] at hYB
  w_strict k_steps
  exact ret _ _ (fr_forget (by assumption) hm1) (cb_drop (by assumption) (by kqd_sub))

end
section
theorem row12_ok {w : World} {p : Program} {loose : List Str} {mean : ExcName → Option Value} {mg mb : Str → Option Value} {dp un : Nat} {gd : Option (List Code)} {a : Addr} {ccd : Value} {outer : List Env} {A₀ : Around} {base h₀ : Heap} {L : Addr} {m : Str → Option Value} {s : Shared} {Q : Flow → Shared → Prop} {E : Value → Shared → Prop} {news : List (Addr × Obj)} {sc : Scope} {st : Stmt} {cl : List (Str × Addr)} {dk l0 x dx sp : Addr} {c st0 : Int} {tc t0 tv : Tok} {vsI : List Value} {ns : List Int} {k0 : Nat} {qb od : Obj} {vb : Option Value} {R : List (Addr × Obj)} (hst : st = nth (lawLb w.params) 12)
  (hsc : sc = lawSc w.params) (hcl : cl = cellsFrom (L + 1) sc.names []) (B : Below A₀ base outer h₀) (F : Fr h₀ L s.heap m) (X : (Mine.hd.heap_39 w.params).In h₀) (N : News h₀ L s.heap news) (T : Top p loose mean mg mb h₀) (hnews : news = canN w.params l0 c tc dk L qb dx t0 sp R) (offR : OwnOff R [dk, L + 1 + 1, dx]) (ne1 : @Ne Nat dk (L + 1 + 1)) (ne2 : @Ne Nat dk dx) (ne3 : @Ne Nat (L + 1 + 1) dx) (hl0 : (l0, listOf vsI.toArray k0) ∈ R) (hi : IntsAre vsI ns) (hln : ns.length < 1000) (hc0 : 0 ≤ c) (hc1 : c < 900) (hm : m (Str.ofString "deck") = some (.ref dk))
  (hd : dp + 4 < recursionLimit) (hu : un + 400 < cLine)
  (ret : ∀ (RW : Addr) (vsR : List Value) (kr : Nat) (r : Int) (tr tc' : Tok) (R' : List (Addr × Obj)) (h' : Heap) (tk' : Nat), (∀ v ∈ vsR, ∃ i t, v = Value.int i t) → vsR.length = 20 → 0 ≤ r → r < 19 → (∀ p ∈ R, p ∈ R') → OwnOff R' [dk, L + 1 + 1, dx] → (RW, listOf vsR.toArray kr) ∈ R' → Fr h₀ L h' (fun y => if y = Str.ofString "row" then some (.ref RW) else if y = Str.ofString "start" then some (.int r tr) else m y) → News h₀ L h' (canN w.params l0 (c + 1) tc' dk L qb dx t0 sp R') → Q .next { s with heap := h', toks := tk' }) :
  wpAny (model PySem.Challenge.pw_ok0042_02 w) (ktrTop dp un gd (Str.ofString "law") sc L a ccd cl outer) (exec st (envX (Str.ofString "law") sc L a ccd cl)) Q E s := by
  subst hnews
  have hne0 : @Ne Nat l0 dk := offR _ hl0 _ (.head _)
  conv at hst => rhs; whnf
  conv at hsc => rhs; whnf
  subst hsc
  conv at hcl => rhs; whnf
  subst hst hcl
  show Keep PySem.Challenge.rw_ok0042_02 Mine.hd.heap_39 (wpAny _ _ _ _ _ _)
  k_fill
  unfold Keep
  dsimp only [canN] at N
  have F1 := fr_know F hm
  clear F
  w_strict k_steps
  unfold Halt
  refine rest_tl (fun i ys tl => tl = [] ∧ (∀ v ∈ ys, ∃ i t, v = Value.int i t) ∧ ys.length = i) ⟨rfl, (fun _ h => nomatch h), rfl⟩ ?_ ?_
  · rintro j9 ys6 tl6 hj9 ⟨rfl, hY, hYl⟩ v9 I oI C oC DD m₂ h tk E' ⟨t9, rfl⟩ hC hx' F' N' off ⟨ne7, ne8, ne9⟩
    dsimp only
    simp only [List.cons_append, List.append_nil] at N'
    w_strict k_steps
    refine end_tl [] (by k_asm) (by k_asm) (by kqd_sub) off trivial ⟨rfl, ?_, by rw [List.length_append, List.length_singleton, hYl]⟩
    intro q hq
    rcases List.mem_append.mp hq with hq | hq
    · exact hY q hq
    · rw [List.mem_singleton.mp hq]; exact ⟨_, _, rfl⟩
  rintro ysB tlB ⟨rfl, hYB, hYl⟩
  unfold LCg.FinE
  intro DB hB tkB9 FB NB pB
  simp only [List.cons_append, List.append_nil] at NB pB
  have pB2 := pB
  simp only [LCg.Off1, and_true] at pB
  repeat (have q9 := And.left pB; replace pB := And.right pB)
  dsimp only
  w_strict k_steps
  rename_i r tr tcr _ _ r0 r1 DT _ _ _ _ _ _ _ _ _ _ FN NN
  refine ret DB ysB _ r tr tcr ((DB, LCg.lst ysB) :: R) _ _ hYB hYl r0 r1 (fun p hp => .tail _ hp) (own_hd ?_ offR) (.head _) (fr_forget2 FN hm) (cb_drop NN (by kqd_sub))
  repeat' (first | exact List.forall_mem_nil _ | refine List.forall_mem_cons.mpr ⟨?_, ?_⟩)
  all_goals k_ne

end
section
theorem new13_ok {w : World} {p : Program} {loose : List Str} {mean : ExcName → Option Value} {mg mb : Str → Option Value} {dp un : Nat} {gd : Option (List Code)} {a : Addr} {ccd : Value} {outer : List Env} {A₀ : Around} {base h₀ : Heap} {L : Addr} {m : Str → Option Value} {s : Shared} {Q : Flow → Shared → Prop} {E : Value → Shared → Prop} {news : List (Addr × Obj)} {sc : Scope} {st : Stmt} {cl : List (Str × Addr)} {dk l0 x dx sp : Addr} {c st0 : Int} {tc t0 tv : Tok} {vsI : List Value} {ns : List Int} {k0 : Nat} {qb od : Obj} {vb : Option Value} {R : List (Addr × Obj)} {ts : Tok} (hst : st = nth (lawLb w.params) 13)
  (hsc : sc = lawSc w.params) (hcl : cl = cellsFrom (L + 1) sc.names []) (B : Below A₀ base outer h₀) (F : Fr h₀ L s.heap m) (X : (Mine.hd.heap_39 w.params).In h₀) (N : News h₀ L s.heap news) (T : Top p loose mean mg mb h₀) (hnews : news = canN w.params l0 c tc dk L qb dx t0 sp R) (offR : OwnOff R [dk, L + 1 + 1, dx]) (ne1 : @Ne Nat dk (L + 1 + 1)) (ne2 : @Ne Nat dk dx) (ne3 : @Ne Nat (L + 1 + 1) dx) (hl0 : (l0, listOf vsI.toArray k0) ∈ R) (hi : IntsAre vsI ns) (hln : ns.length < 1000) (hc0 : 0 ≤ c) (hc1 : c < 900) (hm : m (Str.ofString "deck") = some (.ref dk)) (hm2 : m (Str.ofString "start") = some (.int st0 ts)) (hs0 : 0 ≤ st0) (hs1 : st0 < 19)
  (hd : dp + 4 < recursionLimit) (hu : un + 400 < cLine)
  (ret : ∀ (NW : Addr) (vsN : List Value) (kn : Nat) (en : Int) (te tc' : Tok) (R' : List (Addr × Obj)) (h' : Heap) (tk' : Nat), (∀ v ∈ vsN, ∃ i t, v = Value.int i t) → vsN.length < 6 → st0 < en → en ≤ 20 → (∀ p ∈ R, p ∈ R') → OwnOff R' [dk, L + 1 + 1, dx] → (NW, listOf vsN.toArray kn) ∈ R' → Fr h₀ L h' (fun y => if y = Str.ofString "end" then some (.int en te) else if y = Str.ofString "new" then some (.ref NW) else m y) → News h₀ L h' (canN w.params l0 (c + 1 + 1) tc' dk L qb dx t0 sp R') → Q .next { s with heap := h', toks := tk' }) :
  wpAny (model PySem.Challenge.pw_ok0042_02 w) (ktrTop dp un gd (Str.ofString "law") sc L a ccd cl outer) (exec st (envX (Str.ofString "law") sc L a ccd cl)) Q E s := by
  subst hnews
  have hne0 : @Ne Nat l0 dk := offR _ hl0 _ (.head _)
  conv at hst => rhs; whnf
  conv at hsc => rhs; whnf
  subst hsc
  conv at hcl => rhs; whnf
  subst hst hcl
  show Keep PySem.Challenge.rw_ok0042_02 Mine.hd.heap_39 (wpAny _ _ _ _ _ _)
  k_fill
  unfold Keep
  dsimp only [canN] at N
  have e2 : (fun y => if y = Str.ofString "deck" then some (Value.ref dk) else m y) (Str.ofString "start") = some (.int st0 ts) := (if_neg (by decide)).trans hm2
  have F1 := fr_know (fr_know F hm) e2
  clear F
  w_strict k_steps
  unfold Halt
  refine rest_tl (fun i ys tl => tl = [] ∧ (∀ v ∈ ys, ∃ i t, v = Value.int i t) ∧ ys.length = i) ⟨rfl, (fun _ h => nomatch h), rfl⟩ ?_ ?_
  · rintro j9 ys6 tl6 hj9 ⟨rfl, hY, hYl⟩ v9 I oI C oC DD m₂ h tk E' ⟨t9, rfl⟩ hC hx' F' N' off ⟨ne7, ne8, ne9⟩
    dsimp only
    simp only [List.cons_append, List.append_nil] at N'
    w_strict k_steps
    refine end_tl [] (by k_asm) (by k_asm) (by kqd_sub) off trivial ⟨rfl, ?_, by rw [List.length_append, List.length_singleton, hYl]⟩
    intro q hq
    rcases List.mem_append.mp hq with hq | hq
    · exact hY q hq
    · rw [List.mem_singleton.mp hq]; exact ⟨_, _, rfl⟩
  rintro ysB tlB ⟨rfl, hYB, hYl⟩
  unfold LCg.FinE
  intro DB hB tkB9 FB NB pB
  simp only [List.cons_append, List.append_nil] at NB pB
  have pB2 := pB
  simp only [LCg.Off1, and_true] at pB
  repeat (have q9 := And.left pB; replace pB := And.right pB)
  dsimp only
  w_strict k_steps
  rename_i re te tce _ tke re0 re1 _ _ rn tn tcn _ _ rn0 rn1 _ _ _ _ _ _ _ _ _ _ DT _ _ _ _ _ _ _ _ _ _ FN NN
  refine ret DB ysB _ (st0 + 1 + re) _ tcn ((DB, LCg.lst ysB) :: R) _ _ hYB (by omega) (by omega) (by omega) (fun p hp => .tail _ hp) (own_hd ?_ offR) (.head _) (fr_forget2 (fr_forget2 FN e2) hm) (cb_drop NN (by kqd_sub))
  repeat' (first | exact List.forall_mem_nil _ | refine List.forall_mem_cons.mpr ⟨?_, ?_⟩)
  all_goals k_ne

end
section
theorem rep14_ok {w : World} {p : Program} {loose : List Str} {mean : ExcName → Option Value} {mg mb : Str → Option Value} {dp un : Nat} {gd : Option (List Code)} {a : Addr} {ccd : Value} {outer : List Env} {A₀ : Around} {base h₀ : Heap} {L : Addr} {m : Str → Option Value} {s : Shared} {Q : Flow → Shared → Prop} {E : Value → Shared → Prop} {news : List (Addr × Obj)} {sc : Scope} {st : Stmt} {cl : List (Str × Addr)} {dk l0 x dx sp NW : Addr} {c st0 en : Int} {tc t0 ts te : Tok} {qb od : Obj} {vb : Option Value} {vs vsN : List Value} {k kn : Nat} {os : List (Option (Int × Int))} {R L9 : List (Addr × Obj)} (hst : st = nth (lawLb w.params) 14)
  (hsc : sc = lawSc w.params) (hcl : cl = cellsFrom (L + 1) sc.names []) (B : Below A₀ base outer h₀) (F : Fr h₀ L s.heap m) (X : (Mine.hd.heap_39 w.params).In h₀) (N : News h₀ L s.heap news) (T : Top p loose mean mg mb h₀) (hnews : news = canN w.params l0 c tc dk L qb dx t0 sp R) (offR : OwnOff R [dk, L + 1 + 1, dx]) (ne1 : @Ne Nat dk (L + 1 + 1)) (ne2 : @Ne Nat dk dx) (ne3 : @Ne Nat (L + 1 + 1) dx)
  (hm2 : m (Str.ofString "start") = some (.int st0 ts)) (hm3 : m (Str.ofString "new") = some (.ref NW)) (hm4 : m (Str.ofString "end") = some (.int en te)) (hs0 : 0 ≤ st0) (hse : st0 < en) (hen : en ≤ 20)
  (hnw : (NW, listOf vsN.toArray kn) ∈ R) (lN : vsN.length < 100) (hqb : qb.data = Data.cell vb) (hod : od.data = Data.cell (some (.ref x))) (hc : (L + 1, od) ∈ R) (hx : (x, instObj 103 dx) ∈ R) (hsp : (sp, listOf vs.toArray k) ∈ R) (D : DatAll L9 vs (os.map enc)) (sub : ∀ p ∈ L9, p ∈ R) (TL : Tups L9) (hl : os.length < 200)
  (hd : dp + 4 < recursionLimit) (hu : un + 400 < cLine)
  (ret : ∀ (D2 : Addr) (vs2 : List Value) (tl R' : List (Addr × Obj)) (h' : Heap) (tk' : Nat), (∀ p ∈ R, p ∈ R') → OwnOff R' [dk, L + 1 + 1, dx] → (D2, listOf vs2.toArray vs2.length) ∈ R' → (∀ p ∈ tl, p ∈ R') → Tups tl → DatAll tl vs2 ((os.map (Option.map (mv st0 en (st0 + vsN.length)))).map enc) → Fr h₀ L h' m → News h₀ L h' (canN w.params l0 c tc dk L qb dx t0 D2 R') → Q .next { s with heap := h', toks := tk' }) :
  wpAny (model PySem.Challenge.pw_ok0042_02 w) (ktrTop dp un gd (Str.ofString "law") sc L a ccd cl outer) (exec st (envX (Str.ofString "law") sc L a ccd cl)) Q E s := by
  subst hnews
  conv at hst => rhs; whnf
  conv at hsc => rhs; whnf
  subst hsc
  conv at hcl => rhs; whnf
  subst hst hcl
  show Keep PySem.Challenge.rw_ok0042_02 Mine.hd.heap_39 (wpAny _ _ _ _ _ _)
  k_fill
  unfold Keep
  dsimp only [canN] at N
  have e3 : (fun y => if y = Str.ofString "start" then some (Value.int st0 ts) else m y) (Str.ofString "new") = some (.ref NW) := (if_neg (by decide)).trans hm3
  have e4 : (fun y => if y = Str.ofString "new" then some (Value.ref NW) else if y = Str.ofString "start" then some (Value.int st0 ts) else m y) (Str.ofString "end") = some (.int en te) := (if_neg (by decide)).trans ((if_neg (by decide)).trans hm4)
  have F1 := fr_know (fr_know (fr_know F hm2) e3) e4
  clear F
  have lN2 : vsN.length < 1000 := by omega
  w_strict k_steps
  rename_i D2 v2 tl2 h2 tk2 hT2 hY2 hfr2 F2 N2 _ _ _ _ _
  refine ret D2 v2 tl2 ((D2, listOf v2.toArray v2.length) :: (tl2 ++ R)) _ _ (fun p hp => .tail _ (List.mem_append_right _ hp)) ?_ (.head _) (fun p hp => .tail _ (List.mem_append_left _ hp)) hT2 hY2 (fr_forget (fr_forget (fr_forget F2 e4) e3) hm2) (cb_drop N2 (by kqd_sub))
  refine own_hd ?_ (own_two ?_ offR)
  · repeat' (first | exact List.forall_mem_nil _ | refine List.forall_mem_cons.mpr ⟨?_, ?_⟩)
    all_goals k_ne
  · exact own_adr (fun p hp => hfr2 p hp _ (.head _)) (own_adr (fun p hp => hfr2 p hp _ (.tail _ (.head _))) (own_adr (fun p hp => hfr2 p hp _ (.tail _ (.tail _ (.head _)))) own_adr0))

end
section
theorem chg15_ok {w : World} {p : Program} {loose : List Str} {mean : ExcName → Option Value} {mg mb : Str → Option Value} {dp un : Nat} {gd : Option (List Code)} {a : Addr} {ccd : Value} {outer : List Env} {A₀ : Around} {base h₀ : Heap} {L : Addr} {m : Str → Option Value} {s : Shared} {Q : Flow → Shared → Prop} {E : Value → Shared → Prop} {news : List (Addr × Obj)} {sc : Scope} {st : Stmt} {cl : List (Str × Addr)} {RW NW : Addr} {vsR vsN : List Value} {kr kn : Nat} {st0 en : Int} {ts te : Tok} (hst : st = nth (lawLb w.params) 15)
  (hsc : sc = lawSc w.params) (hcl : cl = cellsFrom (L + 1) sc.names []) (B : Below A₀ base outer h₀) (F : Fr h₀ L s.heap m) (X : (Mine.hd.heap_39 w.params).In h₀) (N : News h₀ L s.heap news) (T : Top p loose mean mg mb h₀) (hm1 : m (Str.ofString "row") = some (.ref RW)) (hm2 : m (Str.ofString "start") = some (.int st0 ts)) (hm3 : m (Str.ofString "new") = some (.ref NW)) (hm4 : m (Str.ofString "end") = some (.int en te))
  (hrw : (RW, listOf vsR.toArray kr) ∈ news) (hnw : (NW, listOf vsN.toArray kn) ∈ news) (lR : vsR.length = 20) (lN : vsN.length < 100) (hs0 : 0 ≤ st0) (hse : st0 < en) (hen : en ≤ 20)
  (hd : dp + 4 < recursionLimit) (hu : un + 400 < cLine)
  (ret : ∀ (CH : Addr) (kc : Nat) (h' : Heap) (tk' : Nat), (∀ p ∈ news, p.1 < CH) → Fr h₀ L h' (fun y => if y = Str.ofString "changed" then some (.ref CH) else m y) → News h₀ L h' ((CH, listOf (vsR.take st0.toNat ++ vsN ++ vsR.drop en.toNat).toArray kc) :: news) → Q .next { s with heap := h', toks := tk' }) :
  wpAny (model PySem.Challenge.pw_ok0042_02 w) (ktrTop dp un gd (Str.ofString "law") sc L a ccd cl outer) (exec st (envX (Str.ofString "law") sc L a ccd cl)) Q E s := by
  conv at hst => rhs; whnf
  conv at hsc => rhs; whnf
  subst hsc
  conv at hcl => rhs; whnf
  subst hst hcl
  show Keep PySem.Challenge.rw_ok0042_02 Mine.hd.heap_39 (wpAny _ _ _ _ _ _)
  k_fill
  unfold Keep
  have e2 : (fun y => if y = Str.ofString "row" then some (Value.ref RW) else m y) (Str.ofString "start") = some (.int st0 ts) := (if_neg (by decide)).trans hm2
  have e3 : (fun y => if y = Str.ofString "start" then some (Value.int st0 ts) else if y = Str.ofString "row" then some (Value.ref RW) else m y) (Str.ofString "new") = some (.ref NW) := (if_neg (by decide)).trans ((if_neg (by decide)).trans hm3)
  have e4 : (fun y => if y = Str.ofString "new" then some (Value.ref NW) else if y = Str.ofString "start" then some (Value.int st0 ts) else if y = Str.ofString "row" then some (Value.ref RW) else m y) (Str.ofString "end") = some (.int en te) := (if_neg (by decide)).trans ((if_neg (by decide)).trans ((if_neg (by decide)).trans hm4))
  have F1 := fr_know (fr_know (fr_know (fr_know F hm1) e2) e3) e4
  clear F
  have l1 : (vsR.take st0.toNat).length ≤ 20 := by rw [List.length_take]; omega
  have l2 : (vsR.drop en.toNat).length ≤ 20 := by rw [List.length_drop]; omega
  have l3 : (vsR.take st0.toNat ++ vsN).length ≤ 120 := by rw [List.length_append]; omega
  have l4 : vsR.length < 1000 := by omega
  w_strict k_steps
  rename AllLt _ news => lZ
  rename_i FN NN
  exact ret _ _ _ _ (allLt_all (by assumption)) (fr_know_of (fr_know_of (fr_know_of (fr_know_of FN e4) e3) e2) hm1) (cb_drop NN (by kqd_sub))

end
section
theorem kwadb : True := by
  k_with "call ref" => (k_here; (with_reducible show wpAny _ _ (call (Value.ref 147) _) _ _ _); refine halt_in ?_)
  trivial
theorem for16_ok {w : World} {p : Program} {loose : List Str} {mean : ExcName → Option Value} {mg mb : Str → Option Value} {dp un : Nat} {gd : Option (List Code)} {a : Addr} {ccd : Value} {outer : List Env} {A₀ : Around} {base h₀ : Heap} {L : Addr} {m : Str → Option Value} {s : Shared} {Q : Flow → Shared → Prop} {E : Value → Shared → Prop} {news : List (Addr × Obj)} {sc : Scope} {st : Stmt} {cl : List (Str × Addr)} {x dx sp S RW NW CH : Addr} {od : Obj} {st0 en : Int} {t0 tm ts te : Tok} {vs vsS vsR vsN : List Value} {k kS kr kn kc : Nat} {os os4 : List (Option (Int × Int))} {L9 L8 : List (Addr × Obj)} (hst : st = nth (lawLb w.params) 16)
  (hsc : sc = lawSc w.params) (hcl : cl = cellsFrom (L + 1) sc.names []) (B : Below A₀ base outer h₀) (F : Fr h₀ L s.heap m) (X : (Mine.hd.heap_39 w.params).In h₀) (N : News h₀ L s.heap news) (T : Top p loose mean mg mb h₀) (hm0 : m (Str.ofString "many") = some (.int (os.length : Int) tm)) (hm1 : m (Str.ofString "spans") = some (.ref S)) (hm2 : m (Str.ofString "start") = some (.int st0 ts)) (hm3 : m (Str.ofString "end") = some (.int en te)) (hm4 : m (Str.ofString "new") = some (.ref NW)) (hm5 : m (Str.ofString "row") = some (.ref RW)) (hm6 : m (Str.ofString "changed") = some (.ref CH))
  (hod : od.data = Data.cell (some (.ref x))) (hc : (L + 1, od) ∈ news) (hx : (x, instObj 103 dx) ∈ news) (hdx : (dx, spansDict w.params t0 sp) ∈ news) (hsp : (sp, listOf vs.toArray k) ∈ news) (D : DatAll L9 vs (os4.map enc)) (sub : ∀ p ∈ L9, p ∈ news) (hl : os.length < 100) (hl4 : os4.length < 200)
  (hS : (S, listOf vsS.toArray kS) ∈ news) (DS : DatAll L8 vsS (os.map enc)) (s8 : ∀ p ∈ L8, p ∈ news) (hrw : (RW, listOf vsR.toArray kr) ∈ news) (hnw : (NW, listOf vsN.toArray kn) ∈ news) (hch : (CH, listOf (vsR.take st0.toNat ++ vsN ++ vsR.drop en.toNat).toArray kc) ∈ news)
  (iN : ∀ v ∈ vsN, ∃ i t, v = Value.int i t) (iR : ∀ v ∈ vsR, ∃ i t, v = Value.int i t) (lN : vsN.length < 100) (lR : vsR.length = 20) (hs0 : 0 ≤ st0) (hse : st0 < en) (hen : en ≤ 20) (hIn : ∀ q ∈ os, InRow q) (hget : ∀ j, os4.getD j none = (os.getD j none).map (mv st0 en (st0 + vsN.length)))
  (hE : PassesOwn (model PySem.Challenge.pw_ok0042_02 w) (ktrTop dp un gd (Str.ofString "law") sc L a ccd cl outer) (envX (Str.ofString "law") sc L a ccd cl) E) (hd : dp + 4 < recursionLimit) (hu : un + 400 < cLine)
  (ret : ∀ (m' : Str → Option Value) (h' : Heap) (tk' : Nat), (∀ y, y ≠ Str.ofString "at" → m' y = m y) → Fr h₀ L h' m' → News h₀ L h' news → Q .next { s with heap := h', toks := tk' }) :
  wpAny (model PySem.Challenge.pw_ok0042_02 w) (ktrTop dp un gd (Str.ofString "law") sc L a ccd cl outer) (exec st (envX (Str.ofString "law") sc L a ccd cl)) Q E s := by
  conv at hst => rhs; whnf
  conv at hsc => rhs; whnf
  subst hsc
  conv at hcl => rhs; whnf
  subst hst hcl
  show Keep PySem.Challenge.rw_ok0042_02 Mine.hd.heap_39 (wpAny _ _ _ _ _ _)
  k_fill
  unfold Keep
  have F1 := fr_know F hm0
  clear F
  w_strict k_steps
  unfold Halt
  with_unfolding_all refine For_invVF (hE := hE) (by k_asm) (by rfl) (by rfl) ?_
  w_strict k_steps
  unfold Halt
  rename_i h1 tk1 ta ub vc R1 F2 N2 K2
  have F3 := fr_forget F2 hm0
  clear F2
  refine loop_range (fun i m' nx => (∀ y, y ≠ Str.ofString "at" → m' y = m y) ∧ nx = news) (by rfl) R1 (small_ofN (by omega) (by omega) (by omega) (by omega)) (rangeSize_nat _ _) F3 N2 ⟨(fun _ _ => rfl), rfl⟩ ?_ ?_
  · clear F3 N2
    rintro i t m₁ nx h tk own hi' offO ⟨hJ, rfl⟩ F4 N4
    have e1 : (fun y => if y = Str.ofString "at" then some (Value.int (0 + (i : Int) * 1) t) else m₁ y) (Str.ofString "spans") = some (.ref S) := (if_neg (by decide)).trans ((hJ _ (by decide)).trans hm1)
    have F5 := fr_know F4 e1
    have e2 : (fun y => if y = Str.ofString "spans" then some (Value.ref S) else if y = Str.ofString "at" then some (Value.int (0 + (i : Int) * 1) t) else m₁ y) (Str.ofString "start") = some (.int st0 ts) := (if_neg (by decide)).trans ((if_neg (by decide)).trans ((hJ _ (by decide)).trans hm2))
    have F6 := fr_know F5 e2
    have e3 : (fun y => if y = Str.ofString "start" then some (Value.int st0 ts) else if y = Str.ofString "spans" then some (Value.ref S) else if y = Str.ofString "at" then some (Value.int (0 + (i : Int) * 1) t) else m₁ y) (Str.ofString "end") = some (.int en te) := (if_neg (by decide)).trans ((if_neg (by decide)).trans ((if_neg (by decide)).trans ((hJ _ (by decide)).trans hm3)))
    have F7 := fr_know F6 e3
    have e4 : (fun y => if y = Str.ofString "end" then some (Value.int en te) else if y = Str.ofString "start" then some (Value.int st0 ts) else if y = Str.ofString "spans" then some (Value.ref S) else if y = Str.ofString "at" then some (Value.int (0 + (i : Int) * 1) t) else m₁ y) (Str.ofString "new") = some (.ref NW) := (if_neg (by decide)).trans ((if_neg (by decide)).trans ((if_neg (by decide)).trans ((if_neg (by decide)).trans ((hJ _ (by decide)).trans hm4))))
    have F8 := fr_know F7 e4
    have e5 : (fun y => if y = Str.ofString "new" then some (Value.ref NW) else if y = Str.ofString "end" then some (Value.int en te) else if y = Str.ofString "start" then some (Value.int st0 ts) else if y = Str.ofString "spans" then some (Value.ref S) else if y = Str.ofString "at" then some (Value.int (0 + (i : Int) * 1) t) else m₁ y) (Str.ofString "row") = some (.ref RW) := (if_neg (by decide)).trans ((if_neg (by decide)).trans ((if_neg (by decide)).trans ((if_neg (by decide)).trans ((if_neg (by decide)).trans ((hJ _ (by decide)).trans hm5)))))
    have F9 := fr_know F8 e5
    have e6 : (fun y => if y = Str.ofString "row" then some (Value.ref RW) else if y = Str.ofString "new" then some (Value.ref NW) else if y = Str.ofString "end" then some (Value.int en te) else if y = Str.ofString "start" then some (Value.int st0 ts) else if y = Str.ofString "spans" then some (Value.ref S) else if y = Str.ofString "at" then some (Value.int (0 + (i : Int) * 1) t) else m₁ y) (Str.ofString "changed") = some (.ref CH) := (if_neg (by decide)).trans ((if_neg (by decide)).trans ((if_neg (by decide)).trans ((if_neg (by decide)).trans ((if_neg (by decide)).trans ((if_neg (by decide)).trans ((hJ _ (by decide)).trans hm6))))))
    have FA := fr_know F9 e6
    clear F4 F5 F6 F7 F8 F9
    have hi2 : i < os.length := by
      have : i < ((os.length : Int) - 0).toNat := hi'
      omega
    have hlo : ((os.map enc).length : Int) = os.length := by rw [List.length_map]
    w_strict k_steps
    rename DatIn L8 _ _ => hD1
    rename DatIn L9 _ _ => hD2
    have e0 : ((0 : Int) + (i : Int) * 1).toNat = i := by omega
    rw [e0, getD_enc] at hD1
    rw [e0, hget] at hD2
    have hin : InRow (os.getD i none) := by
      rw [getD_in hi2]; exact hIn _ (List.getElem_mem hi2)
    have s1' : ∀ p ∈ L8, p ∈ nx ++ own := fun p hp => List.mem_append_left _ (s8 p hp)
    have s2' : ∀ p ∈ L9, p ∈ nx ++ own := fun p hp => List.mem_append_left _ (sub p hp)
    unfold Halt
    k_dflt (refine' lmoved_ok (o := os.getD i none) (L1 := L8) (L2 := L9) ?k1 ?k2 ?k3 ?k4 ?k5 ?kK hD1 hD2 s1' s2' (List.mem_append_left _ hnw) (List.mem_append_left _ hrw) (List.mem_append_left _ hch) iN iR lN lR hs0 hse hen hin ?hd ?hu ?_; (case k1 => k_asm); (case k2 => k_asm); (case k3 => k_asm); (case k4 => k_asm); (case k5 => k_asm); (case kK => first | exact rfl | assumption); (case hd => ktr_room); (case hu => ke_room))
    intro h9 tk9 F9 N9
    (try dsimp only)
    (try k_sweep)
    (try k_fold)
    w_strict k_steps
    have FZ := fr_forget (fr_forget (fr_forget (fr_forget (fr_forget (fr_forget F9 e6) e5) e4) e3) e2) e1
    refine InvEndG.intro (nx := nx) FZ N9 ⟨?_, rfl⟩ offO (by kqd_sub) (by kqd_sub)
    intro y hy
    exact (if_neg hy).trans (hJ y hy)
  · rintro m' nx h tk ⟨hJ, rfl⟩ F4 N4
    exact ret m' _ _ hJ F4 N4

end
theorem kwadc : True := by
  k_with_none
  k_with "ta" => (try dsimp only)
  k_with "tb" => (try k_sweep)
  k_with "tc" => (try k_fold)
  k_with "w0" => (have hcL9 := cLine_is; (try simp only [units_in1, units_deeper, Around.mark_units, units_caller]); (try dsimp only [ktrTop]); omega)
  k_with "w1" => (k_here; (with_reducible show wpAny _ _ (call (Value.ref 114) _) _ _ _); k_dflt (refine' moved_ok ?k1_267c ?k2_267c ?k3_267c ?k4_267c ?k5_267c ?kK_267c ?hm_267c ?hd_267c ?hu_267c ?_; (case k1_267c => k_asm); (case k2_267c => k_asm); (case k3_267c => k_asm); (case k4_267c => k_asm); (case k5_267c => k_asm); (case kK_267c => first | exact rfl | assumption); (case hm_267c => k_mem); (case hd_267c => ktr_room); (case hu_267c => ke_room)))
  k_with "w2" => (refine' code_defC ?k1_73de ?k2_73de ?k3_73de ?k4_73de ?k5_73de ?kA_73de ?kF_73de ?kK_73de ?k6_73de ?k7_73de ?k8_73de ?k9_73de ?kB_73de ?kD_73de ?_ ?c2_73de ?c3_73de ?c4_73de; (case kA_73de => exact rfl); (case kF_73de => exact rfl); (case kK_73de => assumption); (case k1_73de => k_asm); (case k2_73de => k_asm); (case k3_73de => k_asm); (case k4_73de => k_asm); (case k5_73de => k_asm); (case k6_73de => k_is); (case k7_73de => k_is); (case k8_73de => ktr_room); (case k9_73de => exact BindsTo.of_eq rfl); (case kB_73de => exact rfl); (case kD_73de => decide +kernel); (case c2_73de => exact rfl); (case c3_73de => exact rfl); (case c4_73de => exact rfl); k_whole)
  k_with "w3" => (k_here; (with_reducible show wpAny _ _ (subscriptTail _ (PySem.Expr.Slice _ _ none _) (Value.ref _) (Value.ref _)) _ _ _); k_dflt (refine' slice_to ?F_7f9f ?N_7f9f ?l_7f9f ?p_7f9f ?q_7f9f ?e_7f9f ?z_7f9f ?_ ?s_7f9f ?t_7f9f; (case F_7f9f => k_asm); (case N_7f9f => k_asm); (case l_7f9f => k_mem); (case p_7f9f => kmk_part); (case q_7f9f => kmk_part); (case e_7f9f => first | exact pick_upto (by omega) | exact pick_from (by omega) | exact pick_part (by omega) (by omega) | exact pick_less (by omega)); (case s_7f9f => with_unfolding_all rfl); (case t_7f9f => kmk_pure); (case z_7f9f => omega)))
  k_with "w4" => (k_here; (with_reducible show wpAny _ _ (call (Value.type _) [Value.ref _]) _ _ _); k_dflt (first | (refine' copyL ?F_06eb ?N_06eb ?m_06eb ?z_06eb ?_; (case F_06eb => k_asm); (case N_06eb => k_asm); (case m_06eb => k_mem); (case z_06eb => omega)) | (refine' copyT ?F_06eb ?N_06eb ?m_06eb ?_; (case F_06eb => k_asm); (case N_06eb => k_asm); (case m_06eb => k_mem))))
  k_with "w5" => (k_here; (with_reducible show wpAny _ _ (binaryOp _ (Value.ref _) (Value.ref _)) _ _ _); k_dflt (refine' addL ?F_f34b ?N_f34b ?a_f34b ?b_f34b ?z_f34b ?_; (case F_f34b => k_asm); (case N_f34b => k_asm); (case a_f34b => k_mem); (case b_f34b => k_mem); (case z_f34b => first | omega | (simp only [List.length_cons, List.length_nil]; omega))))
  k_with "w6" => (refine' code_def ?k1_91da ?k2_91da ?k3_91da ?k4_91da ?k5_91da ?kA_91da ?kF_91da ?kK_91da ?k6_91da ?k7_91da ?k8_91da ?k9_91da ?kB_91da ?_ ?c2_91da ?c3_91da ?c4_91da ?c5_91da; (case kA_91da => exact rfl); (case kF_91da => exact rfl); (case kK_91da => first | exact rfl | assumption); (case k1_91da => k_asm); (case k2_91da => k_asm); (case k3_91da => k_asm); (case k4_91da => k_asm); (case k5_91da => k_asm); (case k6_91da => k_is); (case k7_91da => k_is); (case k8_91da => ktr_room); (case k9_91da => exact BindsTo.of_eq rfl); (case c5_91da => decide); (case kB_91da => exact locs rfl); (case c2_91da => exact rfl); (case c3_91da => exact rfl); (case c4_91da => exact rfl); k_whole)
  k_with "w7" => (refine' code_defC ?k1_e452 ?k2_e452 ?k3_e452 ?k4_e452 ?k5_e452 ?kA_e452 ?kF_e452 ?kK_e452 ?k6_e452 ?k7_e452 ?k8_e452 ?k9_e452 ?kB_e452 ?kD_e452 ?_ ?c2_e452 ?c3_e452 ?c4_e452; (case kA_e452 => exact rfl); (case kF_e452 => exact rfl); (case kK_e452 => first | exact rfl | assumption); (case k1_e452 => k_asm); (case k2_e452 => k_asm); (case k3_e452 => k_asm); (case k4_e452 => k_asm); (case k5_e452 => k_asm); (case k6_e452 => k_is); (case k7_e452 => k_is); (case k8_e452 => ktr_room); (case k9_e452 => exact BindsTo.of_eq rfl); (case kB_e452 => exact rfl); (case kD_e452 => decide +kernel); (case c2_e452 => exact rfl); (case c3_e452 => exact rfl); (case c4_e452 => exact rfl); k_whole)
  k_with "w8" => (refine neN ?_; (try dsimp only); first | with_reducible assumption | (with_reducible refine Ne.symm ?_; with_reducible assumption) | (with_reducible refine Nat.ne_of_lt ?_; with_reducible assumption) | (with_reducible refine Nat.ne_of_gt ?_; with_reducible assumption))
  k_with "w9" => first | with_reducible assumption | exact in_of_fr (by with_reducible assumption) (by with_reducible assumption)
  k_with "w10" => (k_here; (with_reducible show wpAny _ _ (call (Value.ref 121) _) _ _ _); k_dflt (refine' draw2_use ?k1_44b5 ?k2_44b5 ?k3_44b5 ?k4_44b5 ?k5_44b5 ?kK_44b5 ?U_44b5 ?hl0_44b5 ?hne_44b5 ?hi_44b5 ?hl_44b5 ?hc0_44b5 ?hc1_44b5 ?hm_44b5 ?hm2_44b5 ?hd_44b5 ?hu_44b5 ?_; (case k1_44b5 => k_asm); (case k2_44b5 => k_asm); (case k3_44b5 => k_asm); (case k4_44b5 => k_asm); (case k5_44b5 => k_asm); (case kK_44b5 => first | exact rfl | assumption); (case U_44b5 => (intro _; k_upd)); (case hl0_44b5 => k_mem); (case hne_44b5 => k_ne); (case hi_44b5 => with_reducible assumption); (case hl_44b5 => assumption); (case hc0_44b5 => omega); (case hc1_44b5 => omega); (case hm_44b5 => omega); (case hm2_44b5 => omega); (case hd_44b5 => ktr_room); (case hu_44b5 => ke_room)))
  k_with "w11" => (k_here; (with_reducible show wpAny _ _ (call (Value.ref 100) _) _ _ _); k_dflt (refine' mrepl_use ?k1_f4fd ?k2_f4fd ?k3_f4fd ?k4_f4fd ?k5_f4fd ?kK_f4fd ?hx_f4fd ?hsp_f4fd ?D_f4fd ?sub_f4fd ?TL_f4fd ?hl_f4fd ?U_f4fd ?hd_f4fd ?hu_f4fd ?_; (case k1_f4fd => k_asm); (case k2_f4fd => k_asm); (case k3_f4fd => k_asm); (case k4_f4fd => k_asm); (case k5_f4fd => k_asm); (case kK_f4fd => first | exact rfl | assumption); (case hx_f4fd => k_mem); (case U_f4fd => (intro _; k_upd)); (case hsp_f4fd => k_mem); (case D_f4fd => with_reducible assumption); (case sub_f4fd => kqd_sub); (case TL_f4fd => with_reducible assumption); (case hl_f4fd => omega); (case hd_f4fd => ktr_room); (case hu_f4fd => ke_room)))
  k_with "w12" => (k_here; (with_reducible show wpAny _ _ (call (Value.ref 83) _) _ _ _); k_dflt (refine' mlist_ok ?k1_04f8 ?k2_04f8 ?k3_04f8 ?k4_04f8 ?k5_04f8 ?kK_04f8 ?hx_04f8 ?hdx_04f8 ?hsp_04f8 ?D_04f8 ?sub_04f8 ?hl_04f8 ?hd_04f8 ?hu_04f8 ?_; (case k1_04f8 => k_asm); (case k2_04f8 => k_asm); (case k3_04f8 => k_asm); (case k4_04f8 => k_asm); (case k5_04f8 => k_asm); (case kK_04f8 => first | exact rfl | assumption); (case hx_04f8 => k_mem); (case hdx_04f8 => k_mem); (case hsp_04f8 => k_mem); (case D_04f8 => with_reducible assumption); (case sub_04f8 => kqd_sub); (case hl_04f8 => omega); (case hd_04f8 => ktr_room); (case hu_04f8 => ke_room)))
  k_with "w13" => (k_here; (with_reducible show wpAny _ _ (call (Value.ref 90) _) _ _ _); k_dflt (refine' mrest_use ?k1_b474 ?k2_b474 ?k3_b474 ?k4_b474 ?k5_b474 ?kK_b474 ?hx_b474 ?hpl_b474 ?D_b474 ?hl_b474 ?U_b474 ?hd_b474 ?hu_b474 ?_; (case k1_b474 => k_asm); (case k2_b474 => k_asm); (case k3_b474 => k_asm); (case k4_b474 => k_asm); (case k5_b474 => k_asm); (case kK_b474 => first | exact rfl | assumption); (case hx_b474 => k_mem); (case U_b474 => (intro _; k_upd)); (case hpl_b474 => k_mem); (case D_b474 => first | with_reducible assumption | exact (by with_reducible assumption : ∀ t : Tok, DatAll [] (_ ++ [Value.int 1 t]) _) _); (case hl_b474 => omega); (case hd_b474 => ktr_room); (case hu_b474 => ke_room)))
  k_with "w14" => (k_here; (with_reducible show wpAny _ _ (call (Value.ref 95) _) _ _ _); k_dflt (refine' mtran_use ?k1_20f7 ?k2_20f7 ?k3_20f7 ?k4_20f7 ?k5_20f7 ?kK_20f7 ?hx_20f7 ?hsp_20f7 ?D_20f7 ?sub_20f7 ?TL_20f7 ?hl_20f7 ?U_20f7 ?hd_20f7 ?hu_20f7 ?_; (case k1_20f7 => k_asm); (case k2_20f7 => k_asm); (case k3_20f7 => k_asm); (case k4_20f7 => k_asm); (case k5_20f7 => k_asm); (case kK_20f7 => first | exact rfl | assumption); (case hx_20f7 => k_mem); (case U_20f7 => (intro _; k_upd)); (case hsp_20f7 => k_mem); (case D_20f7 => with_reducible assumption); (case sub_20f7 => kqd_sub); (case TL_20f7 => with_reducible assumption); (case hl_20f7 => omega); (case hd_20f7 => ktr_room); (case hu_20f7 => ke_room)))
  k_with "w15" => (k_here; (with_reducible show wpAny _ _ (call (Value.ref 140) _) _ _ _); k_dflt (refine' llisted_ok ?k1_aa7c ?k2_aa7c ?k3_aa7c ?k4_aa7c ?k5_aa7c ?kK_aa7c ?hsp_aa7c ?D_aa7c ?sub_aa7c ?hl_aa7c ?hd_aa7c ?hu_aa7c ?_; (case k1_aa7c => k_asm); (case k2_aa7c => k_asm); (case k3_aa7c => k_asm); (case k4_aa7c => k_asm); (case k5_aa7c => k_asm); (case kK_aa7c => first | exact rfl | assumption); (case hsp_aa7c => k_mem); (case D_aa7c => with_reducible assumption); (case sub_aa7c => kqd_sub); (case hl_aa7c => omega); (case hd_aa7c => ktr_room); (case hu_aa7c => ke_room)))
  k_with "w16" => (k_here; (with_reducible show wpAny _ _ (binaryOp _ (Value.ref _) (Value.ref _)) _ _ _); k_dflt (refine' addL ?F_261b ?N_261b ?a_261b ?b_261b ?z_261b ?_; (case F_261b => k_asm); (case N_261b => k_asm); (case a_261b => k_mem); (case b_261b => k_mem); (case z_261b => first | omega | (simp only [List.length_cons, List.length_nil, List.length_replicate]; omega))))
  k_with "w17" => (k_here; (with_reducible show wpAny _ _ (binaryOp Operator.Mult (Value.ref _) (Value.int _ _)) _ _ _); k_dflt (refine' mul2 ?F_452d ?N_452d ?l_452d ?e_452d ?z_452d ?_; (case F_452d => k_asm); (case N_452d => k_asm); (case l_452d => k_mem); (case e_452d => omega); (case z_452d => omega)))
  k_with "WPost" => (dsimp only [WPost])
  k_with "call builtin:len" => (k_here; (with_reducible show wpAny _ _ (call (Value.builtin "len") [Value.ref _]) _ _ _); k_dflt (refine' kd_len ?k1_eae0 ?k2_eae0 ?k3_eae0 ?k4_eae0 ?_; (case k1_eae0 => k_asm); (case k2_eae0 => k_mem); (case k3_eae0 => with_reducible assumption); (case k4_eae0 => omega); k_whole))
  k_with "subscriptTail" => (k_here; (with_reducible show wpAny _ _ (subscriptTail _ _ (Value.ref _) (Value.int _ _)) _ _ _); k_dflt (refine' item_dat ?k1_b351 ?k2_b351 ?k3_b351 ?k4_b351 ?k5_b351 ?k6_b351 ?_ ?k7_b351; (case k1_b351 => k_asm); (case k2_b351 => k_mem); (case k3_b351 => with_reducible assumption); (case k4_b351 => omega); (case k5_b351 => omega); (case k6_b351 => omega); (case k7_b351 => with_unfolding_all rfl); k_whole); intro _ _)
  k_with "subscriptTail" => (k_here; (with_reducible show wpAny _ _ (subscriptTail _ _ (Value.ref _) (Value.int _ _)) _ _ _); k_dflt (refine' item_at ?k1_c249 ?k2_c249 ?k3_c249 ?k5_c249 ?k6_c249 ?_ ?k7_c249; (case k1_c249 => k_asm); (case k2_c249 => k_mem); (case k3_c249 => with_reducible assumption); (case k5_c249 => omega); (case k6_c249 => omega); (case k7_c249 => with_unfolding_all rfl); k_whole))
  k_with "exec For Name Call cons nil" => (k_here; refine halt_in ?_)
  k_with "exec For Name Subscript cons nil" => (k_here; refine halt_in ?_)
  k_with "exec For Name Name cons nil" => (k_here; refine halt_in ?_)
  k_with "pyIter ref" => (k_here; (with_reducible show wpAny _ _ (pyIter (Value.ref _)) (fun it s₂ => LoopAtV _ _ _ _ _ _ _ _ _ it s₂) _ _); refine halt_in ?_)
  k_with "call type:range" => (k_here; k_dflt (first | (refine' range1_rows ?F_0dec ?N_0dec ?_; (case F_0dec => k_asm); (case N_0dec => k_asm); k_whole) | (refine' range2_rows ?F_0dec ?N_0dec ?_; (case F_0dec => k_asm); (case N_0dec => k_asm); k_whole) | (refine' range3_rows ?F_0dec ?N_0dec ?c_0dec ?_ ?p_0dec; (case F_0dec => k_asm); (case N_0dec => k_asm); (case c_0dec => decide); (case p_0dec => exact Or.inl (PyProof.noPylong_small (by omega))); k_whole)); intro _ _ _ _ _ _ _ _ _; (try dsimp only))
  k_with "call builtin:list.append" => (k_here; (with_reducible show wpAny _ _ (call (Value.builtin _) [Value.ref _, _]) _ _ _); k_dflt (refine' append_K ?k1_2bc2 ?k2_2bc2 ?k3_2bc2 ?_ ?z_2bc2; (case k1_2bc2 => k_asm); (case k2_2bc2 => k_asm); (case k3_2bc2 => k_upd); (case z_2bc2 => (simp only [List.size_toArray, sizeLine]; omega)); k_whole); intro _ _ _)
  k_with "exec While" => (k_here; refine halt_in ?_)
  k_with "call builtin:list.extend" => (k_here; (with_reducible show wpAny _ _ (call (Value.builtin _) [Value.ref _, Value.ref _]) _ _ _); k_dflt (refine' ext2 ?F_5b0c ?N_5b0c ?b_5b0c ?U_5b0c ?z_5b0c ?_; (case F_5b0c => k_asm); (case N_5b0c => k_asm); (case b_5b0c => k_mem); (case U_5b0c => k_upd); (case z_5b0c => omega)); intro _ _ _)
  k_with "subscriptTail" => (k_here; (with_reducible show wpAny _ _ (subscriptTail _ _ (Value.ref _) (Value.int (-1) _)) _ _ _); k_dflt (refine' item_last ?k1_063f ?k2_063f ?_ ?k7_063f; (case k1_063f => k_asm); (case k2_063f => k_mem); (case k7_063f => with_unfolding_all rfl); k_whole))
  k_with "call builtin:list.pop" => (k_here; (with_reducible show wpAny _ _ (call (Value.builtin _) [Value.ref _]) _ _ _); k_dflt (refine' pop_last ?F_dea1 ?N_dea1 ?U_dea1 ?z_dea1 ?_; (case F_dea1 => k_asm); (case N_dea1 => k_asm); (case U_dea1 => k_upd); (case z_dea1 => omega)); intro _ _ _)
  k_with "eval ListComp" => (k_here; lct_look; k_dflt (refine LCt.ListComp_T (F₀ := by k_asm) (by with_unfolding_all rfl) (by decide) (by rfl) (by decide) (by rfl) ?_))
  k_with "eval ListComp" => (k_here; (fail_if_success lct_look); k_dflt (refine LCg.ListComp_U (F₀ := by k_asm) (by with_unfolding_all rfl) (by decide) (by rfl) (by decide) (by rfl) ?_))
  k_with "exec Assign cons ListComp" => (k_here; lct_look; k_dflt (refine LCt.Assign_ListComp_T (F₀ := by k_asm) (by rfl) (by with_unfolding_all rfl) (by with_unfolding_all rfl) (by decide) (by rfl) (by decide) (by rfl) (by rfl) (by rfl) ?_))
  k_with "exec Assign cons ListComp" => (k_here; (fail_if_success lct_look); k_dflt (refine LCg.Assign_ListComp_U (F₀ := by k_asm) (by rfl) (by with_unfolding_all rfl) (by with_unfolding_all rfl) (by decide) (by rfl) (by decide) (by rfl) (by rfl) (by rfl) ?_))
  k_with "CompSrc" => (k_here; k_dflt (first | (refine' LCg.CompSrc.ledger ?hh_f88f ?F_f88f ?N_f88f ?m_f88f ?z_f88f ?_; (case hh_f88f => rfl); (case F_f88f => k_asm); (case N_f88f => k_asm); (case m_f88f => k_mem); (case z_f88f => first | (simp only [List.size_toArray, sizeLine]; omega) | ((have hz9 := IntsAre.length (by with_reducible assumption)); simp only [List.size_toArray, sizeLine]; omega))) | (refine' LCg.CompSrc.range ?hh_f88f ?F_f88f ?N_f88f ?r_f88f ?s_f88f ?n_f88f ?z_f88f ?_; (case hh_f88f => rfl); (case F_f88f => k_asm); (case N_f88f => k_asm); (case r_f88f => with_reducible assumption); (case s_f88f => exact small_one (by omega) (by omega) (by omega) (by omega)); (case n_f88f => exact rangeSize_nat _ _); (case z_f88f => (simp only [sizeLine]; omega)))); intro _)
  k_with "CompSrcT" => (k_here; k_dflt (first | (refine' LCt.CompSrcT.ledger ?hh_7a1e ?F_7a1e ?N_7a1e ?m_7a1e ?z_7a1e ?_; (case hh_7a1e => rfl); (case F_7a1e => k_asm); (case N_7a1e => k_asm); (case m_7a1e => k_mem); (case z_7a1e => first | (simp only [List.size_toArray, sizeLine]; omega))) | (refine' LCt.CompSrcT.range ?hh_7a1e ?F_7a1e ?N_7a1e ?r_7a1e ?s_7a1e ?n_7a1e ?z_7a1e ?_; (case hh_7a1e => rfl); (case F_7a1e => k_asm); (case N_7a1e => k_asm); (case r_7a1e => with_reducible assumption); (case s_7a1e => exact small_one (by omega) (by omega) (by omega) (by omega)); (case n_7a1e => exact rangeSize_nat _ _); (case z_7a1e => (simp only [sizeLine]; omega)))); intro _)
  k_with "own mem" => first | with_reducible exact List.mem_cons_self | (with_reducible refine List.mem_cons_of_mem _ ?_; k_extra "own mem") | (with_reducible refine List.mem_append_left _ ?_; k_extra "own mem") | (with_reducible refine List.mem_append_right _ ?_; k_extra "own mem") | with_reducible assumption
  k_with "own sub" => first | with_reducible exact fun _ h => h | with_reducible exact List.forall_mem_nil _ | (with_reducible refine List.forall_mem_cons.mpr ⟨?_, ?_⟩; (k_extra "own mem"); (k_extra "own sub")) | (with_reducible refine List.forall_mem_append.mpr ⟨?_, ?_⟩; (k_extra "own sub"); (k_extra "own sub")) | (intro _ _; k_extra "own mem") | ((with_reducible show ∀ p ∈ (_ : List (Addr × Obj)), p ∈ _); refine sub_trans (by with_reducible assumption) ?_; k_extra "own sub")
  k_with "own all" => first | with_reducible exact List.forall_mem_nil _ | (with_reducible refine List.forall_mem_cons.mpr ⟨?_, ?_⟩; k_ne; (k_extra "own all")) | (with_reducible refine List.forall_mem_append.mpr ⟨?_, ?_⟩; (k_extra "own all"); (k_extra "own all")) | exact OwnOff.ne (by with_reducible assumption) (by k_memK) | exact allLt_off (by with_reducible assumption) (by k_extra "own sub") | exact off1_off (by with_reducible assumption) (by k_extra "own sub") | exact tups_offD (by with_reducible assumption) (by with_reducible assumption) (by k_extra "own sub") (by k_extra "own mem") | exact tups_offL (by with_reducible assumption) (by with_reducible assumption) (by k_extra "own sub") (by k_extra "own mem")
  k_with "CompRest" => refine halt_in ?_
  k_with "CompRestT" => refine halt_in ?_
  k_with "call ref" => (k_here; (with_reducible show wpAny _ _ (call (Value.ref 62) _) _ _ _); k_dflt (refine' mspan_ok ?k1_4c7b ?k2_4c7b ?k3_4c7b ?k4_4c7b ?k5_4c7b ?kK_4c7b ?hx_4c7b ?hdx_4c7b ?hsp_4c7b ?D_4c7b ?hl_4c7b ?h0_4c7b ?h1_4c7b ?hd_4c7b ?hu_4c7b ?_; (case k1_4c7b => k_asm); (case k2_4c7b => k_asm); (case k3_4c7b => k_asm); (case k4_4c7b => k_asm); (case k5_4c7b => k_asm); (case kK_4c7b => first | exact rfl | assumption); (case hx_4c7b => k_mem); (case hdx_4c7b => k_mem); (case hsp_4c7b => k_mem); (case D_4c7b => with_reducible assumption); (case hl_4c7b => omega); (case h0_4c7b => omega); (case h1_4c7b => omega); (case hd_4c7b => ktr_room); (case hu_4c7b => ke_room)); intro _ _ _ _ _ _; (try dsimp only); (try k_sweep); (try k_fold))
  k_with "call ref" => (k_here; (with_reducible show wpAny _ _ (call (Value.ref 69) _) _ _ _); k_dflt (refine' mbeg_ok ?k1_64ac ?k2_64ac ?k3_64ac ?k4_64ac ?k5_64ac ?kK_64ac ?hx_64ac ?hdx_64ac ?hsp_64ac ?D_64ac ?sub_64ac ?hl_64ac ?h0_64ac ?h1_64ac ?hd_64ac ?hu_64ac ?_; (case k1_64ac => k_asm); (case k2_64ac => k_asm); (case k3_64ac => k_asm); (case k4_64ac => k_asm); (case k5_64ac => k_asm); (case kK_64ac => first | exact rfl | assumption); (case hx_64ac => k_mem); (case hdx_64ac => k_mem); (case hsp_64ac => k_mem); (case D_64ac => with_reducible assumption); (case sub_64ac => kqd_sub); (case hl_64ac => omega); (case h0_64ac => omega); (case h1_64ac => omega); (case hd_64ac => ktr_room); (case hu_64ac => ke_room)); intro _ _ _ _ _ _; (try dsimp only); (try k_sweep); (try k_fold))
  k_with "call ref" => (k_here; (with_reducible show wpAny _ _ (call (Value.ref 76) _) _ _ _); k_dflt (refine' mend_ok ?k1_59a1 ?k2_59a1 ?k3_59a1 ?k4_59a1 ?k5_59a1 ?kK_59a1 ?hx_59a1 ?hdx_59a1 ?hsp_59a1 ?D_59a1 ?sub_59a1 ?hl_59a1 ?h0_59a1 ?h1_59a1 ?hd_59a1 ?hu_59a1 ?_; (case k1_59a1 => k_asm); (case k2_59a1 => k_asm); (case k3_59a1 => k_asm); (case k4_59a1 => k_asm); (case k5_59a1 => k_asm); (case kK_59a1 => first | exact rfl | assumption); (case hx_59a1 => k_mem); (case hdx_59a1 => k_mem); (case hsp_59a1 => k_mem); (case D_59a1 => with_reducible assumption); (case sub_59a1 => kqd_sub); (case hl_59a1 => omega); (case h0_59a1 => omega); (case h1_59a1 => omega); (case hd_59a1 => ktr_room); (case hu_59a1 => ke_room)); intro _ _ _ _ _ _; (try dsimp only); (try k_sweep); (try k_fold))
  k_with "compareOp NotEq ref ref" => (k_here; (with_reducible show wpAny _ _ (compareOp CmpOp.NotEq (Value.ref _) (Value.ref _)) _ _ _); k_dflt (refine' ne_same ?N_50c9 ?a_50c9 ?f_50c9 ?b_50c9 ?c_50c9 ?g_50c9 ?i_50c9 ?d_50c9 ?j_50c9 ?e_50c9 ?k_50c9 ?q_50c9 ?m_50c9 ?n_50c9 ?_; (case N_50c9 => k_asm); (case a_50c9 => k_mem); (case f_50c9 => k_mem); (case b_50c9 => rfl); (case c_50c9 => rfl); (case g_50c9 => rfl); (case i_50c9 => rfl); (case d_50c9 => with_reducible assumption); (case j_50c9 => with_reducible assumption); (case e_50c9 => kqd_sub); (case k_50c9 => kqd_sub); (case q_50c9 => with_reducible assumption); (case m_50c9 => with_reducible assumption); (case n_50c9 => ke_room); k_whole))
  k_with "compareOp Eq ref ref" => (k_here; (with_reducible show wpAny _ _ (compareOp CmpOp.Eq (Value.ref _) (Value.ref _)) _ _ _); k_dflt (refine' eq_same ?N_ec8a ?a_ec8a ?f_ec8a ?b_ec8a ?c_ec8a ?g_ec8a ?i_ec8a ?d_ec8a ?j_ec8a ?e_ec8a ?k_ec8a ?q_ec8a ?m_ec8a ?n_ec8a ?_; (case N_ec8a => k_asm); (case a_ec8a => k_mem); (case f_ec8a => k_mem); (case b_ec8a => rfl); (case c_ec8a => rfl); (case g_ec8a => rfl); (case i_ec8a => rfl); (case d_ec8a => with_reducible assumption); (case j_ec8a => with_reducible assumption); (case e_ec8a => kqd_sub); (case k_ec8a => kqd_sub); (case q_ec8a => with_reducible assumption); (case m_ec8a => with_reducible assumption); (case n_ec8a => ke_room); k_whole))
  k_with "call builtin:len" => (k_here; (with_reducible show wpAny _ _ (call (Value.builtin "len") [Value.ref _]) _ _ _); k_dflt (refine' len_led ?k1_f453 ?k2_f453 ?k3_f453 ?_; (case k1_f453 => k_asm); (case k2_f453 => k_mem); (case k3_f453 => omega)))
  trivial
section
theorem kwadd : True := by
  k_with "call ref" => (k_here; (with_reducible show wpAny _ _ (call (Value.ref 133) _) _ _ _); refine halt_in ?_)
  trivial
theorem spans0_ok {w : World} {p : Program} {loose : List Str} {mean : ExcName → Option Value} {mg mb : Str → Option Value} {dp un : Nat} {gd : Option (List Code)} {a : Addr} {ccd : Value} {outer : List Env} {A₀ : Around} {base h₀ : Heap} {L : Addr} {m : Str → Option Value} {s : Shared} {Q : Flow → Shared → Prop} {E : Value → Shared → Prop} {news : List (Addr × Obj)} {sc : Scope} {st : Stmt} {cl : List (Str × Addr)} {dk l0 x dx sp : Addr} {c : Int} {tc t0 : Tok} {vsI : List Value} {ns : List Int} {k0 : Nat} {qb od : Obj} {vb : Option Value} {R : List (Addr × Obj)} (hst : st = nth (lawLb w.params) 0)
  (hsc : sc = lawSc w.params) (hcl : cl = cellsFrom (L + 1) sc.names []) (B : Below A₀ base outer h₀) (F : Fr h₀ L s.heap m) (X : (Mine.hd.heap_39 w.params).In h₀) (N : News h₀ L s.heap news) (T : Top p loose mean mg mb h₀) (hnews : news = canN w.params l0 c tc dk L qb dx t0 sp R) (offR : OwnOff R [dk, L + 1 + 1, dx]) (ne1 : @Ne Nat dk (L + 1 + 1)) (ne2 : @Ne Nat dk dx) (ne3 : @Ne Nat (L + 1 + 1) dx) (hl0 : (l0, listOf vsI.toArray k0) ∈ R) (hi : IntsAre vsI ns) (hln : ns.length < 1000) (hc0 : 0 ≤ c) (hc1 : c < 500) (hm : m (Str.ofString "deck") = some (.ref dk)) (hqb : qb.data = Data.cell vb)
  (hd : dp + 4 < recursionLimit) (hu : un + 400 < cLine)
  (ret : ∀ (S : Addr) (vsS : List Value) (kS : Nat) (o : Int × Int) (os : List (Option (Int × Int))) (tl R' : List (Addr × Obj)) (c' : Int) (tc' : Tok) (h' : Heap) (tk' : Nat), c ≤ c' → c' ≤ c + 30 → Tups tl → DatAll tl vsS ((some o :: os).map enc) → (∀ q ∈ some o :: os, InRow q) → os.length < 5 → (∀ p ∈ R, p ∈ R') → OwnOff R' [dk, L + 1 + 1, dx] → (S, listOf vsS.toArray kS) ∈ R' → (∀ p ∈ tl, p ∈ R') → Fr h₀ L h' (fun y => if y = Str.ofString "spans" then some (.ref S) else m y) → News h₀ L h' (canN w.params l0 c' tc' dk L qb dx t0 sp R') → Q .next { s with heap := h', toks := tk' }) :
  wpAny (model PySem.Challenge.pw_ok0042_02 w) (ktrTop dp un gd (Str.ofString "law") sc L a ccd cl outer) (exec st (envX (Str.ofString "law") sc L a ccd cl)) Q E s := by
  subst hnews
  have offD : ∀ q ∈ (L + 1 + 1, qb) :: (dx, spansDict w.params t0 sp) :: R, q.1 ≠ dk := fun q hq => by
    rcases List.mem_cons.mp hq with rfl | hq
    · exact Ne.symm ne1
    · rcases List.mem_cons.mp hq with rfl | hq
      · exact Ne.symm ne2
      · exact offR q hq _ (.head _)
  conv at hst => rhs; whnf
  conv at hsc => rhs; whnf
  subst hsc
  conv at hcl => rhs; whnf
  subst hst hcl
  show Keep PySem.Challenge.rw_ok0042_02 Mine.hd.heap_39 (wpAny _ _ _ _ _ _)
  k_fill
  unfold Keep
  dsimp only [canN] at N
  have F1 := fr_know F hm
  clear F
  w_strict k_steps
  unfold Halt
  k_dflt (refine' lspans_ok (rest := (L + 1 + 1, qb) :: (dx, spansDict w.params t0 sp) :: R) ?k1 ?k2 ?k3 ?k4 ?k5 ?kK rfl offD (.tail _ (.tail _ hl0)) hi hln hc0 (by omega) ?hd ?hu ?_; (case k1 => k_asm); (case k2 => k_asm); (case k3 => k_asm); (case k4 => k_asm); (case k5 => k_asm); (case kK => first | exact rfl | assumption); (case hd => ktr_room); (case hu => ke_room))
  intro S vsS kS o os tl c' tc' h9 tk9 hq1 hq2 hT hY hIn hol o1 oT F9 N9
  simp only [LCg.Off1, List.cons_append, and_true] at o1
  (try dsimp only)
  w_strict k_steps
  rename_i hZ FZ NZ
  have z1 : @Ne Nat S dk := Ne.symm o1.1
  have z2 : @Ne Nat S (L + 1 + 1) := Ne.symm (off1_mem o1.2 (L + 1 + 1, qb) (List.mem_append_right _ (.head _)))
  have z3 : @Ne Nat S dx := Ne.symm (off1_mem o1.2 (dx, spansDict w.params t0 sp) (List.mem_append_right _ (.tail _ (.head _))))
  refine ret S vsS kS o os tl ((S, listOf vsS.toArray kS) :: (tl ++ R)) c' tc' _ _ hq1 hq2 hT hY hIn hol (fun p hp => .tail _ (List.mem_append_right _ hp)) ?_ (.head _) (fun p hp => .tail _ (List.mem_append_left _ hp)) (fr_know_of FZ hm) (cb_drop NZ (by kqd_sub))
  refine own_hd ?_ (own_two (fun p hp b hb => oT p hp b ?_) offR)
  · repeat' (first | exact List.forall_mem_nil _ | refine List.forall_mem_cons.mpr ⟨?_, ?_⟩)
    all_goals k_ne
  · simp only [List.mem_cons, List.not_mem_nil, or_false] at hb
    rcases hb with rfl | rfl | rfl
    · exact .head _
    · exact .tail _ (.head _)
    · exact .tail _ (.tail _ (.head _))

end
theorem kwade : True := by
  k_with_none
  k_with "ta" => (try dsimp only)
  k_with "tb" => (try k_sweep)
  k_with "tc" => (try k_fold)
  k_with "w0" => (have hcL9 := cLine_is; (try simp only [units_in1, units_deeper, Around.mark_units, units_caller]); (try dsimp only [ktrTop]); omega)
  k_with "w1" => (k_here; (with_reducible show wpAny _ _ (call (Value.ref 114) _) _ _ _); k_dflt (refine' moved_ok ?k1_267c ?k2_267c ?k3_267c ?k4_267c ?k5_267c ?kK_267c ?hm_267c ?hd_267c ?hu_267c ?_; (case k1_267c => k_asm); (case k2_267c => k_asm); (case k3_267c => k_asm); (case k4_267c => k_asm); (case k5_267c => k_asm); (case kK_267c => first | exact rfl | assumption); (case hm_267c => k_mem); (case hd_267c => ktr_room); (case hu_267c => ke_room)))
  k_with "w2" => (refine' code_defC ?k1_73de ?k2_73de ?k3_73de ?k4_73de ?k5_73de ?kA_73de ?kF_73de ?kK_73de ?k6_73de ?k7_73de ?k8_73de ?k9_73de ?kB_73de ?kD_73de ?_ ?c2_73de ?c3_73de ?c4_73de; (case kA_73de => exact rfl); (case kF_73de => exact rfl); (case kK_73de => assumption); (case k1_73de => k_asm); (case k2_73de => k_asm); (case k3_73de => k_asm); (case k4_73de => k_asm); (case k5_73de => k_asm); (case k6_73de => k_is); (case k7_73de => k_is); (case k8_73de => ktr_room); (case k9_73de => exact BindsTo.of_eq rfl); (case kB_73de => exact rfl); (case kD_73de => decide +kernel); (case c2_73de => exact rfl); (case c3_73de => exact rfl); (case c4_73de => exact rfl); k_whole)
  k_with "w3" => (k_here; (with_reducible show wpAny _ _ (subscriptTail _ (PySem.Expr.Slice _ _ none _) (Value.ref _) (Value.ref _)) _ _ _); k_dflt (refine' slice_to ?F_7f9f ?N_7f9f ?l_7f9f ?p_7f9f ?q_7f9f ?e_7f9f ?z_7f9f ?_ ?s_7f9f ?t_7f9f; (case F_7f9f => k_asm); (case N_7f9f => k_asm); (case l_7f9f => k_mem); (case p_7f9f => kmk_part); (case q_7f9f => kmk_part); (case e_7f9f => first | exact pick_upto (by omega) | exact pick_from (by omega) | exact pick_part (by omega) (by omega) | exact pick_less (by omega)); (case s_7f9f => with_unfolding_all rfl); (case t_7f9f => kmk_pure); (case z_7f9f => omega)))
  k_with "w4" => (k_here; (with_reducible show wpAny _ _ (call (Value.type _) [Value.ref _]) _ _ _); k_dflt (first | (refine' copyL ?F_06eb ?N_06eb ?m_06eb ?z_06eb ?_; (case F_06eb => k_asm); (case N_06eb => k_asm); (case m_06eb => k_mem); (case z_06eb => omega)) | (refine' copyT ?F_06eb ?N_06eb ?m_06eb ?_; (case F_06eb => k_asm); (case N_06eb => k_asm); (case m_06eb => k_mem))))
  k_with "w5" => (k_here; (with_reducible show wpAny _ _ (binaryOp _ (Value.ref _) (Value.ref _)) _ _ _); k_dflt (refine' addL ?F_f34b ?N_f34b ?a_f34b ?b_f34b ?z_f34b ?_; (case F_f34b => k_asm); (case N_f34b => k_asm); (case a_f34b => k_mem); (case b_f34b => k_mem); (case z_f34b => first | omega | (simp only [List.length_cons, List.length_nil]; omega))))
  k_with "w6" => (refine' code_def ?k1_91da ?k2_91da ?k3_91da ?k4_91da ?k5_91da ?kA_91da ?kF_91da ?kK_91da ?k6_91da ?k7_91da ?k8_91da ?k9_91da ?kB_91da ?_ ?c2_91da ?c3_91da ?c4_91da ?c5_91da; (case kA_91da => exact rfl); (case kF_91da => exact rfl); (case kK_91da => first | exact rfl | assumption); (case k1_91da => k_asm); (case k2_91da => k_asm); (case k3_91da => k_asm); (case k4_91da => k_asm); (case k5_91da => k_asm); (case k6_91da => k_is); (case k7_91da => k_is); (case k8_91da => ktr_room); (case k9_91da => exact BindsTo.of_eq rfl); (case c5_91da => decide); (case kB_91da => exact locs rfl); (case c2_91da => exact rfl); (case c3_91da => exact rfl); (case c4_91da => exact rfl); k_whole)
  k_with "w7" => (refine' code_defC ?k1_e452 ?k2_e452 ?k3_e452 ?k4_e452 ?k5_e452 ?kA_e452 ?kF_e452 ?kK_e452 ?k6_e452 ?k7_e452 ?k8_e452 ?k9_e452 ?kB_e452 ?kD_e452 ?_ ?c2_e452 ?c3_e452 ?c4_e452; (case kA_e452 => exact rfl); (case kF_e452 => exact rfl); (case kK_e452 => first | exact rfl | assumption); (case k1_e452 => k_asm); (case k2_e452 => k_asm); (case k3_e452 => k_asm); (case k4_e452 => k_asm); (case k5_e452 => k_asm); (case k6_e452 => k_is); (case k7_e452 => k_is); (case k8_e452 => ktr_room); (case k9_e452 => exact BindsTo.of_eq rfl); (case kB_e452 => exact rfl); (case kD_e452 => decide +kernel); (case c2_e452 => exact rfl); (case c3_e452 => exact rfl); (case c4_e452 => exact rfl); k_whole)
  k_with "w8" => (refine neN ?_; (try dsimp only); first | with_reducible assumption | (with_reducible refine Ne.symm ?_; with_reducible assumption) | (with_reducible refine Nat.ne_of_lt ?_; with_reducible assumption) | (with_reducible refine Nat.ne_of_gt ?_; with_reducible assumption))
  k_with "w9" => first | with_reducible assumption | exact in_of_fr (by with_reducible assumption) (by with_reducible assumption)
  k_with "w10" => (k_here; (with_reducible show wpAny _ _ (call (Value.ref 121) _) _ _ _); k_dflt (refine' draw2_use ?k1_44b5 ?k2_44b5 ?k3_44b5 ?k4_44b5 ?k5_44b5 ?kK_44b5 ?U_44b5 ?hl0_44b5 ?hne_44b5 ?hi_44b5 ?hl_44b5 ?hc0_44b5 ?hc1_44b5 ?hm_44b5 ?hm2_44b5 ?hd_44b5 ?hu_44b5 ?_; (case k1_44b5 => k_asm); (case k2_44b5 => k_asm); (case k3_44b5 => k_asm); (case k4_44b5 => k_asm); (case k5_44b5 => k_asm); (case kK_44b5 => first | exact rfl | assumption); (case U_44b5 => (intro _; k_upd)); (case hl0_44b5 => k_mem); (case hne_44b5 => k_ne); (case hi_44b5 => with_reducible assumption); (case hl_44b5 => assumption); (case hc0_44b5 => omega); (case hc1_44b5 => omega); (case hm_44b5 => omega); (case hm2_44b5 => omega); (case hd_44b5 => ktr_room); (case hu_44b5 => ke_room)))
  k_with "w11" => (k_here; (with_reducible show wpAny _ _ (call (Value.ref 100) _) _ _ _); k_dflt (refine' mrepl_use ?k1_f4fd ?k2_f4fd ?k3_f4fd ?k4_f4fd ?k5_f4fd ?kK_f4fd ?hx_f4fd ?hsp_f4fd ?D_f4fd ?sub_f4fd ?TL_f4fd ?hl_f4fd ?U_f4fd ?hd_f4fd ?hu_f4fd ?_; (case k1_f4fd => k_asm); (case k2_f4fd => k_asm); (case k3_f4fd => k_asm); (case k4_f4fd => k_asm); (case k5_f4fd => k_asm); (case kK_f4fd => first | exact rfl | assumption); (case hx_f4fd => k_mem); (case U_f4fd => (intro _; k_upd)); (case hsp_f4fd => k_mem); (case D_f4fd => with_reducible assumption); (case sub_f4fd => kqd_sub); (case TL_f4fd => with_reducible assumption); (case hl_f4fd => omega); (case hd_f4fd => ktr_room); (case hu_f4fd => ke_room)))
  k_with "w12" => (k_here; (with_reducible show wpAny _ _ (call (Value.ref 83) _) _ _ _); k_dflt (refine' mlist_ok ?k1_04f8 ?k2_04f8 ?k3_04f8 ?k4_04f8 ?k5_04f8 ?kK_04f8 ?hx_04f8 ?hdx_04f8 ?hsp_04f8 ?D_04f8 ?sub_04f8 ?hl_04f8 ?hd_04f8 ?hu_04f8 ?_; (case k1_04f8 => k_asm); (case k2_04f8 => k_asm); (case k3_04f8 => k_asm); (case k4_04f8 => k_asm); (case k5_04f8 => k_asm); (case kK_04f8 => first | exact rfl | assumption); (case hx_04f8 => k_mem); (case hdx_04f8 => k_mem); (case hsp_04f8 => k_mem); (case D_04f8 => with_reducible assumption); (case sub_04f8 => kqd_sub); (case hl_04f8 => omega); (case hd_04f8 => ktr_room); (case hu_04f8 => ke_room)))
  k_with "w13" => (k_here; (with_reducible show wpAny _ _ (call (Value.ref 90) _) _ _ _); k_dflt (refine' mrest_use ?k1_b474 ?k2_b474 ?k3_b474 ?k4_b474 ?k5_b474 ?kK_b474 ?hx_b474 ?hpl_b474 ?D_b474 ?hl_b474 ?U_b474 ?hd_b474 ?hu_b474 ?_; (case k1_b474 => k_asm); (case k2_b474 => k_asm); (case k3_b474 => k_asm); (case k4_b474 => k_asm); (case k5_b474 => k_asm); (case kK_b474 => first | exact rfl | assumption); (case hx_b474 => k_mem); (case U_b474 => (intro _; k_upd)); (case hpl_b474 => k_mem); (case D_b474 => first | with_reducible assumption | exact (by with_reducible assumption : ∀ t : Tok, DatAll [] (_ ++ [Value.int 1 t]) _) _); (case hl_b474 => omega); (case hd_b474 => ktr_room); (case hu_b474 => ke_room)))
  k_with "w14" => (k_here; (with_reducible show wpAny _ _ (call (Value.ref 95) _) _ _ _); k_dflt (refine' mtran_use ?k1_20f7 ?k2_20f7 ?k3_20f7 ?k4_20f7 ?k5_20f7 ?kK_20f7 ?hx_20f7 ?hsp_20f7 ?D_20f7 ?sub_20f7 ?TL_20f7 ?hl_20f7 ?U_20f7 ?hd_20f7 ?hu_20f7 ?_; (case k1_20f7 => k_asm); (case k2_20f7 => k_asm); (case k3_20f7 => k_asm); (case k4_20f7 => k_asm); (case k5_20f7 => k_asm); (case kK_20f7 => first | exact rfl | assumption); (case hx_20f7 => k_mem); (case U_20f7 => (intro _; k_upd)); (case hsp_20f7 => k_mem); (case D_20f7 => with_reducible assumption); (case sub_20f7 => kqd_sub); (case TL_20f7 => with_reducible assumption); (case hl_20f7 => omega); (case hd_20f7 => ktr_room); (case hu_20f7 => ke_room)))
  k_with "w15" => (k_here; (with_reducible show wpAny _ _ (call (Value.ref 140) _) _ _ _); k_dflt (refine' llisted_ok ?k1_aa7c ?k2_aa7c ?k3_aa7c ?k4_aa7c ?k5_aa7c ?kK_aa7c ?hsp_aa7c ?D_aa7c ?sub_aa7c ?hl_aa7c ?hd_aa7c ?hu_aa7c ?_; (case k1_aa7c => k_asm); (case k2_aa7c => k_asm); (case k3_aa7c => k_asm); (case k4_aa7c => k_asm); (case k5_aa7c => k_asm); (case kK_aa7c => first | exact rfl | assumption); (case hsp_aa7c => k_mem); (case D_aa7c => with_reducible assumption); (case sub_aa7c => kqd_sub); (case hl_aa7c => omega); (case hd_aa7c => ktr_room); (case hu_aa7c => ke_room)))
  k_with "w16" => (k_here; (with_reducible show wpAny _ _ (binaryOp _ (Value.ref _) (Value.ref _)) _ _ _); k_dflt (refine' addL ?F_261b ?N_261b ?a_261b ?b_261b ?z_261b ?_; (case F_261b => k_asm); (case N_261b => k_asm); (case a_261b => k_mem); (case b_261b => k_mem); (case z_261b => first | omega | (simp only [List.length_cons, List.length_nil, List.length_replicate]; omega))))
  k_with "w17" => (k_here; (with_reducible show wpAny _ _ (binaryOp Operator.Mult (Value.ref _) (Value.int _ _)) _ _ _); k_dflt (refine' mul2 ?F_452d ?N_452d ?l_452d ?e_452d ?z_452d ?_; (case F_452d => k_asm); (case N_452d => k_asm); (case l_452d => k_mem); (case e_452d => omega); (case z_452d => omega)))
  k_with "WPost" => (dsimp only [WPost])
  k_with "call builtin:len" => (k_here; (with_reducible show wpAny _ _ (call (Value.builtin "len") [Value.ref _]) _ _ _); k_dflt (refine' kd_len ?k1_eae0 ?k2_eae0 ?k3_eae0 ?k4_eae0 ?_; (case k1_eae0 => k_asm); (case k2_eae0 => k_mem); (case k3_eae0 => with_reducible assumption); (case k4_eae0 => omega); k_whole))
  k_with "subscriptTail" => (k_here; (with_reducible show wpAny _ _ (subscriptTail _ _ (Value.ref _) (Value.int _ _)) _ _ _); k_dflt (refine' item_dat ?k1_b351 ?k2_b351 ?k3_b351 ?k4_b351 ?k5_b351 ?k6_b351 ?_ ?k7_b351; (case k1_b351 => k_asm); (case k2_b351 => k_mem); (case k3_b351 => with_reducible assumption); (case k4_b351 => omega); (case k5_b351 => omega); (case k6_b351 => omega); (case k7_b351 => with_unfolding_all rfl); k_whole); intro _ _)
  k_with "subscriptTail" => (k_here; (with_reducible show wpAny _ _ (subscriptTail _ _ (Value.ref _) (Value.int _ _)) _ _ _); k_dflt (refine' item_at ?k1_c249 ?k2_c249 ?k3_c249 ?k5_c249 ?k6_c249 ?_ ?k7_c249; (case k1_c249 => k_asm); (case k2_c249 => k_mem); (case k3_c249 => with_reducible assumption); (case k5_c249 => omega); (case k6_c249 => omega); (case k7_c249 => with_unfolding_all rfl); k_whole))
  k_with "exec For Name Call cons nil" => (k_here; refine halt_in ?_)
  k_with "exec For Name Subscript cons nil" => (k_here; refine halt_in ?_)
  k_with "exec For Name Name cons nil" => (k_here; refine halt_in ?_)
  k_with "pyIter ref" => (k_here; (with_reducible show wpAny _ _ (pyIter (Value.ref _)) (fun it s₂ => LoopAtV _ _ _ _ _ _ _ _ _ it s₂) _ _); refine halt_in ?_)
  k_with "call type:range" => (k_here; k_dflt (first | (refine' range1_rows ?F_0dec ?N_0dec ?_; (case F_0dec => k_asm); (case N_0dec => k_asm); k_whole) | (refine' range2_rows ?F_0dec ?N_0dec ?_; (case F_0dec => k_asm); (case N_0dec => k_asm); k_whole) | (refine' range3_rows ?F_0dec ?N_0dec ?c_0dec ?_ ?p_0dec; (case F_0dec => k_asm); (case N_0dec => k_asm); (case c_0dec => decide); (case p_0dec => exact Or.inl (PyProof.noPylong_small (by omega))); k_whole)); intro _ _ _ _ _ _ _ _ _; (try dsimp only))
  k_with "call builtin:list.append" => (k_here; (with_reducible show wpAny _ _ (call (Value.builtin _) [Value.ref _, _]) _ _ _); k_dflt (refine' append_K ?k1_2bc2 ?k2_2bc2 ?k3_2bc2 ?_ ?z_2bc2; (case k1_2bc2 => k_asm); (case k2_2bc2 => k_asm); (case k3_2bc2 => k_upd); (case z_2bc2 => (simp only [List.size_toArray, sizeLine]; omega)); k_whole); intro _ _ _)
  k_with "exec While" => (k_here; refine halt_in ?_)
  k_with "call builtin:list.extend" => (k_here; (with_reducible show wpAny _ _ (call (Value.builtin _) [Value.ref _, Value.ref _]) _ _ _); k_dflt (refine' ext2 ?F_5b0c ?N_5b0c ?b_5b0c ?U_5b0c ?z_5b0c ?_; (case F_5b0c => k_asm); (case N_5b0c => k_asm); (case b_5b0c => k_mem); (case U_5b0c => k_upd); (case z_5b0c => omega)); intro _ _ _)
  k_with "subscriptTail" => (k_here; (with_reducible show wpAny _ _ (subscriptTail _ _ (Value.ref _) (Value.int (-1) _)) _ _ _); k_dflt (refine' item_last ?k1_063f ?k2_063f ?_ ?k7_063f; (case k1_063f => k_asm); (case k2_063f => k_mem); (case k7_063f => with_unfolding_all rfl); k_whole))
  k_with "call builtin:list.pop" => (k_here; (with_reducible show wpAny _ _ (call (Value.builtin _) [Value.ref _]) _ _ _); k_dflt (refine' pop_last ?F_dea1 ?N_dea1 ?U_dea1 ?z_dea1 ?_; (case F_dea1 => k_asm); (case N_dea1 => k_asm); (case U_dea1 => k_upd); (case z_dea1 => omega)); intro _ _ _)
  k_with "eval ListComp" => (k_here; lct_look; k_dflt (refine LCt.ListComp_T (F₀ := by k_asm) (by with_unfolding_all rfl) (by decide) (by rfl) (by decide) (by rfl) ?_))
  k_with "eval ListComp" => (k_here; (fail_if_success lct_look); k_dflt (refine LCg.ListComp_U (F₀ := by k_asm) (by with_unfolding_all rfl) (by decide) (by rfl) (by decide) (by rfl) ?_))
  k_with "exec Assign cons ListComp" => (k_here; lct_look; k_dflt (refine LCt.Assign_ListComp_T (F₀ := by k_asm) (by rfl) (by with_unfolding_all rfl) (by with_unfolding_all rfl) (by decide) (by rfl) (by decide) (by rfl) (by rfl) (by rfl) ?_))
  k_with "exec Assign cons ListComp" => (k_here; (fail_if_success lct_look); k_dflt (refine LCg.Assign_ListComp_U (F₀ := by k_asm) (by rfl) (by with_unfolding_all rfl) (by with_unfolding_all rfl) (by decide) (by rfl) (by decide) (by rfl) (by rfl) (by rfl) ?_))
  k_with "CompSrc" => (k_here; k_dflt (first | (refine' LCg.CompSrc.ledger ?hh_f88f ?F_f88f ?N_f88f ?m_f88f ?z_f88f ?_; (case hh_f88f => rfl); (case F_f88f => k_asm); (case N_f88f => k_asm); (case m_f88f => k_mem); (case z_f88f => first | (simp only [List.size_toArray, sizeLine]; omega) | ((have hz9 := IntsAre.length (by with_reducible assumption)); simp only [List.size_toArray, sizeLine]; omega))) | (refine' LCg.CompSrc.range ?hh_f88f ?F_f88f ?N_f88f ?r_f88f ?s_f88f ?n_f88f ?z_f88f ?_; (case hh_f88f => rfl); (case F_f88f => k_asm); (case N_f88f => k_asm); (case r_f88f => with_reducible assumption); (case s_f88f => exact small_one (by omega) (by omega) (by omega) (by omega)); (case n_f88f => exact rangeSize_nat _ _); (case z_f88f => (simp only [sizeLine]; omega)))); intro _)
  k_with "CompSrcT" => (k_here; k_dflt (first | (refine' LCt.CompSrcT.ledger ?hh_7a1e ?F_7a1e ?N_7a1e ?m_7a1e ?z_7a1e ?_; (case hh_7a1e => rfl); (case F_7a1e => k_asm); (case N_7a1e => k_asm); (case m_7a1e => k_mem); (case z_7a1e => first | (simp only [List.size_toArray, sizeLine]; omega))) | (refine' LCt.CompSrcT.range ?hh_7a1e ?F_7a1e ?N_7a1e ?r_7a1e ?s_7a1e ?n_7a1e ?z_7a1e ?_; (case hh_7a1e => rfl); (case F_7a1e => k_asm); (case N_7a1e => k_asm); (case r_7a1e => with_reducible assumption); (case s_7a1e => exact small_one (by omega) (by omega) (by omega) (by omega)); (case n_7a1e => exact rangeSize_nat _ _); (case z_7a1e => (simp only [sizeLine]; omega)))); intro _)
  k_with "own mem" => first | with_reducible exact List.mem_cons_self | (with_reducible refine List.mem_cons_of_mem _ ?_; k_extra "own mem") | (with_reducible refine List.mem_append_left _ ?_; k_extra "own mem") | (with_reducible refine List.mem_append_right _ ?_; k_extra "own mem") | with_reducible assumption
  k_with "own sub" => first | with_reducible exact fun _ h => h | with_reducible exact List.forall_mem_nil _ | (with_reducible refine List.forall_mem_cons.mpr ⟨?_, ?_⟩; (k_extra "own mem"); (k_extra "own sub")) | (with_reducible refine List.forall_mem_append.mpr ⟨?_, ?_⟩; (k_extra "own sub"); (k_extra "own sub")) | (intro _ _; k_extra "own mem") | ((with_reducible show ∀ p ∈ (_ : List (Addr × Obj)), p ∈ _); refine sub_trans (by with_reducible assumption) ?_; k_extra "own sub")
  k_with "own all" => first | with_reducible exact List.forall_mem_nil _ | (with_reducible refine List.forall_mem_cons.mpr ⟨?_, ?_⟩; k_ne; (k_extra "own all")) | (with_reducible refine List.forall_mem_append.mpr ⟨?_, ?_⟩; (k_extra "own all"); (k_extra "own all")) | exact OwnOff.ne (by with_reducible assumption) (by k_memK) | exact allLt_off (by with_reducible assumption) (by k_extra "own sub") | exact off1_off (by with_reducible assumption) (by k_extra "own sub") | exact tups_offD (by with_reducible assumption) (by with_reducible assumption) (by k_extra "own sub") (by k_extra "own mem") | exact tups_offL (by with_reducible assumption) (by with_reducible assumption) (by k_extra "own sub") (by k_extra "own mem")
  k_with "CompRest" => refine halt_in ?_
  k_with "CompRestT" => refine halt_in ?_
  k_with "call ref" => (k_here; (with_reducible show wpAny _ _ (call (Value.ref 62) _) _ _ _); k_dflt (refine' mspan_ok ?k1_4c7b ?k2_4c7b ?k3_4c7b ?k4_4c7b ?k5_4c7b ?kK_4c7b ?hx_4c7b ?hdx_4c7b ?hsp_4c7b ?D_4c7b ?hl_4c7b ?h0_4c7b ?h1_4c7b ?hd_4c7b ?hu_4c7b ?_; (case k1_4c7b => k_asm); (case k2_4c7b => k_asm); (case k3_4c7b => k_asm); (case k4_4c7b => k_asm); (case k5_4c7b => k_asm); (case kK_4c7b => first | exact rfl | assumption); (case hx_4c7b => k_mem); (case hdx_4c7b => k_mem); (case hsp_4c7b => k_mem); (case D_4c7b => with_reducible assumption); (case hl_4c7b => omega); (case h0_4c7b => omega); (case h1_4c7b => omega); (case hd_4c7b => ktr_room); (case hu_4c7b => ke_room)); intro _ _ _ _ _ _; (try dsimp only); (try k_sweep); (try k_fold))
  k_with "call ref" => (k_here; (with_reducible show wpAny _ _ (call (Value.ref 69) _) _ _ _); k_dflt (refine' mbeg_ok ?k1_64ac ?k2_64ac ?k3_64ac ?k4_64ac ?k5_64ac ?kK_64ac ?hx_64ac ?hdx_64ac ?hsp_64ac ?D_64ac ?sub_64ac ?hl_64ac ?h0_64ac ?h1_64ac ?hd_64ac ?hu_64ac ?_; (case k1_64ac => k_asm); (case k2_64ac => k_asm); (case k3_64ac => k_asm); (case k4_64ac => k_asm); (case k5_64ac => k_asm); (case kK_64ac => first | exact rfl | assumption); (case hx_64ac => k_mem); (case hdx_64ac => k_mem); (case hsp_64ac => k_mem); (case D_64ac => with_reducible assumption); (case sub_64ac => kqd_sub); (case hl_64ac => omega); (case h0_64ac => omega); (case h1_64ac => omega); (case hd_64ac => ktr_room); (case hu_64ac => ke_room)); intro _ _ _ _ _ _; (try dsimp only); (try k_sweep); (try k_fold))
  k_with "call ref" => (k_here; (with_reducible show wpAny _ _ (call (Value.ref 76) _) _ _ _); k_dflt (refine' mend_ok ?k1_59a1 ?k2_59a1 ?k3_59a1 ?k4_59a1 ?k5_59a1 ?kK_59a1 ?hx_59a1 ?hdx_59a1 ?hsp_59a1 ?D_59a1 ?sub_59a1 ?hl_59a1 ?h0_59a1 ?h1_59a1 ?hd_59a1 ?hu_59a1 ?_; (case k1_59a1 => k_asm); (case k2_59a1 => k_asm); (case k3_59a1 => k_asm); (case k4_59a1 => k_asm); (case k5_59a1 => k_asm); (case kK_59a1 => first | exact rfl | assumption); (case hx_59a1 => k_mem); (case hdx_59a1 => k_mem); (case hsp_59a1 => k_mem); (case D_59a1 => with_reducible assumption); (case sub_59a1 => kqd_sub); (case hl_59a1 => omega); (case h0_59a1 => omega); (case h1_59a1 => omega); (case hd_59a1 => ktr_room); (case hu_59a1 => ke_room)); intro _ _ _ _ _ _; (try dsimp only); (try k_sweep); (try k_fold))
  k_with "compareOp NotEq ref ref" => (k_here; (with_reducible show wpAny _ _ (compareOp CmpOp.NotEq (Value.ref _) (Value.ref _)) _ _ _); k_dflt (refine' ne_same ?N_50c9 ?a_50c9 ?f_50c9 ?b_50c9 ?c_50c9 ?g_50c9 ?i_50c9 ?d_50c9 ?j_50c9 ?e_50c9 ?k_50c9 ?q_50c9 ?m_50c9 ?n_50c9 ?_; (case N_50c9 => k_asm); (case a_50c9 => k_mem); (case f_50c9 => k_mem); (case b_50c9 => rfl); (case c_50c9 => rfl); (case g_50c9 => rfl); (case i_50c9 => rfl); (case d_50c9 => with_reducible assumption); (case j_50c9 => with_reducible assumption); (case e_50c9 => kqd_sub); (case k_50c9 => kqd_sub); (case q_50c9 => with_reducible assumption); (case m_50c9 => with_reducible assumption); (case n_50c9 => ke_room); k_whole))
  k_with "compareOp Eq ref ref" => (k_here; (with_reducible show wpAny _ _ (compareOp CmpOp.Eq (Value.ref _) (Value.ref _)) _ _ _); k_dflt (refine' eq_same ?N_ec8a ?a_ec8a ?f_ec8a ?b_ec8a ?c_ec8a ?g_ec8a ?i_ec8a ?d_ec8a ?j_ec8a ?e_ec8a ?k_ec8a ?q_ec8a ?m_ec8a ?n_ec8a ?_; (case N_ec8a => k_asm); (case a_ec8a => k_mem); (case f_ec8a => k_mem); (case b_ec8a => rfl); (case c_ec8a => rfl); (case g_ec8a => rfl); (case i_ec8a => rfl); (case d_ec8a => with_reducible assumption); (case j_ec8a => with_reducible assumption); (case e_ec8a => kqd_sub); (case k_ec8a => kqd_sub); (case q_ec8a => with_reducible assumption); (case m_ec8a => with_reducible assumption); (case n_ec8a => ke_room); k_whole))
  k_with "call builtin:len" => (k_here; (with_reducible show wpAny _ _ (call (Value.builtin "len") [Value.ref _]) _ _ _); k_dflt (refine' len_led ?k1_f453 ?k2_f453 ?k3_f453 ?_; (case k1_f453 => k_asm); (case k2_f453 => k_mem); (case k3_f453 => omega)))
  trivial
section
theorem set1_ok {w : World} {p : Program} {loose : List Str} {mean : ExcName → Option Value} {mg mb : Str → Option Value} {dp un : Nat} {gd : Option (List Code)} {a : Addr} {ccd : Value} {outer : List Env} {A₀ : Around} {base h₀ : Heap} {L : Addr} {m : Str → Option Value} {s : Shared} {Q : Flow → Shared → Prop} {E : Value → Shared → Prop} {news : List (Addr × Obj)} {sc : Scope} {st : Stmt} {cl : List (Str × Addr)} {dk l0 x dx sp : Addr} {c : Int} {tc t0 : Tok} {vsI : List Value} {ns : List Int} {k0 : Nat} {qb od : Obj} {vb : Option Value} {R : List (Addr × Obj)} {S : Addr} {vsS : List Value} {kS : Nat} (hst : st = nth (lawLb w.params) 1)
  (hsc : sc = lawSc w.params) (hcl : cl = cellsFrom (L + 1) sc.names []) (B : Below A₀ base outer h₀) (F : Fr h₀ L s.heap m) (X : (Mine.hd.heap_39 w.params).In h₀) (N : News h₀ L s.heap news) (T : Top p loose mean mg mb h₀) (hnews : news = canN w.params l0 c tc dk L qb dx t0 sp R) (offR : OwnOff R [dk, L + 1 + 1, dx]) (ne1 : @Ne Nat dk (L + 1 + 1)) (ne2 : @Ne Nat dk dx) (ne3 : @Ne Nat (L + 1 + 1) dx) (hm : m (Str.ofString "spans") = some (.ref S)) (hqb : qb.data = Data.cell vb) (hod : od.data = Data.cell (some (.ref x))) (hc : (L + 1, od) ∈ R) (hx : (x, instObj 103 dx) ∈ R) (hS : (S, listOf vsS.toArray kS) ∈ R) (hl : vsS.length < 100)
  (hd : dp + 4 < recursionLimit) (hu : un + 400 < cLine)
  (ret : ∀ (D2 : Addr) (k2 : Nat) (R' : List (Addr × Obj)) (h' : Heap) (tk' : Nat), (∀ p ∈ R, p ∈ R') → OwnOff R' [dk, L + 1 + 1, dx] → (D2, listOf vsS.toArray k2) ∈ R' → Fr h₀ L h' m → News h₀ L h' (canN w.params l0 c tc dk L qb dx t0 D2 R') → Q .next { s with heap := h', toks := tk' }) :
  wpAny (model PySem.Challenge.pw_ok0042_02 w) (ktrTop dp un gd (Str.ofString "law") sc L a ccd cl outer) (exec st (envX (Str.ofString "law") sc L a ccd cl)) Q E s := by
  subst hnews
  conv at hst => rhs; whnf
  conv at hsc => rhs; whnf
  subst hsc
  conv at hcl => rhs; whnf
  subst hst hcl
  show Keep PySem.Challenge.rw_ok0042_02 Mine.hd.heap_39 (wpAny _ _ _ _ _ _)
  k_fill
  unfold Keep
  dsimp only [canN] at N
  have F1 := fr_know F hm
  clear F
  w_strict k_steps
  refine wpAny_call ?_
  k_dflt cell_enter
  w_strict k_steps
  rename_i D2 k2 _ _ z1 z2 z3 _ _ _ _ kF kN Tc kX
  refine ret D2 k2 ((D2, listOf vsS.toArray k2) :: R) _ _ (fun p hp => .tail _ hp) (own_hd ?_ offR) (.head _) (fr_forget kF hm) (cb_drop kN (by kqd_sub))
  repeat' (first | exact List.forall_mem_nil _ | refine List.forall_mem_cons.mpr ⟨?_, ?_⟩)
  all_goals k_ne

end
section
theorem many2_ok {w : World} {p : Program} {loose : List Str} {mean : ExcName → Option Value} {mg mb : Str → Option Value} {dp un : Nat} {gd : Option (List Code)} {a : Addr} {ccd : Value} {outer : List Env} {A₀ : Around} {base h₀ : Heap} {L : Addr} {m : Str → Option Value} {s : Shared} {Q : Flow → Shared → Prop} {E : Value → Shared → Prop} {news : List (Addr × Obj)} {sc : Scope} {st : Stmt} {cl : List (Str × Addr)} {S : Addr} {vsS : List Value} {kS : Nat} {os : List (Option (Int × Int))} {L8 : List (Addr × Obj)} (hst : st = nth (lawLb w.params) 2)
  (hsc : sc = lawSc w.params) (hcl : cl = cellsFrom (L + 1) sc.names []) (B : Below A₀ base outer h₀) (F : Fr h₀ L s.heap m) (X : (Mine.hd.heap_39 w.params).In h₀) (N : News h₀ L s.heap news) (T : Top p loose mean mg mb h₀) (hm : m (Str.ofString "spans") = some (.ref S)) (hS : (S, listOf vsS.toArray kS) ∈ news) (D : DatAll L8 vsS (os.map enc)) (sub : ∀ p ∈ L8, p ∈ news) (hl : os.length < 100)
  (hd : dp + 4 < recursionLimit) (hu : un + 400 < cLine)
  (ret : ∀ (LI : Addr) (us : List Value) (ku : Nat) (tm : Tok) (h' : Heap) (tk' : Nat), DatAll [] us ((flat (strip os)).map encI) → (∀ q ∈ news, q.1 < LI) → Fr h₀ L h' (fun y => if y = Str.ofString "many" then some (.int (os.length : Int) tm) else if y = Str.ofString "listed" then some (.ref LI) else m y) → News h₀ L h' ((LI, listOf us.toArray ku) :: news) → Q .next { s with heap := h', toks := tk' }) :
  wpAny (model PySem.Challenge.pw_ok0042_02 w) (ktrTop dp un gd (Str.ofString "law") sc L a ccd cl outer) (exec st (envX (Str.ofString "law") sc L a ccd cl)) Q E s := by
  conv at hst => rhs; whnf
  conv at hsc => rhs; whnf
  subst hsc
  conv at hcl => rhs; whnf
  subst hst hcl
  show Keep PySem.Challenge.rw_ok0042_02 Mine.hd.heap_39 (wpAny _ _ _ _ _ _)
  k_fill
  unfold Keep
  have hvl := D.length
  rw [List.length_map] at hvl
  have hvl2 : vsS.length < 100 := by omega
  have F1 := fr_know F hm
  clear F
  w_strict k_steps
  rename_i LI us ku _ _ hYL lL hzL DT _ _ _ _ _ _ _ FN NN
  rw [hvl] at FN
  exact ret LI us ku _ _ _ hYL lL (fr_forget2 FN hm) (cb_drop NN (by kqd_sub))

end
section
theorem put_ne {m : Str → Option Value} {x y : Str} {v r : Option Value} (h : y ≠ x) (e : m y = r) : (fun z => if z = x then v else m z) y = r := (if_neg h).trans e
theorem put_eq {m : Str → Option Value} {x : Str} {v : Option Value} : (fun z => if z = x then v else m z) x = v := if_pos rfl
theorem own3 {a : Addr} {o : Obj} {R : List (Addr × Obj)} {x y z : Addr} (h1 : @Ne Nat a x) (h2 : @Ne Nat a y) (h3 : @Ne Nat a z) (r : OwnOff R [x, y, z]) : OwnOff ((a, o) :: R) [x, y, z] :=
  own_hd (fun b hb => by
    simp only [List.mem_cons, List.not_mem_nil, or_false] at hb
    rcases hb with rfl | rfl | rfl
    · exact h1
    · exact h2
    · exact h3) r
theorem own3f {l R : List (Addr × Obj)} {x y z : Addr} (h1 : ∀ q ∈ l, q.1 ≠ x) (h2 : ∀ q ∈ l, q.1 ≠ y) (h3 : ∀ q ∈ l, q.1 ≠ z) (r : OwnOff R [x, y, z]) : OwnOff (l ++ R) [x, y, z] :=
  own_two (own_adr h1 (own_adr h2 (own_adr h3 own_adr0))) r
theorem getD_mapO (f : Int × Int → Int × Int) (l : List (Option (Int × Int))) (j : Nat) : (l.map (Option.map f)).getD j none = (l.getD j none).map f := by
  rw [List.getD_eq_getElem?_getD, List.getD_eq_getElem?_getD, List.getElem?_map]
  cases l[j]? <;> rfl
theorem turn_ok {w : World} {p : Program} {loose : List Str} {mean : ExcName → Option Value} {mg mb : Str → Option Value} {dp un : Nat} {gd : Option (List Code)} {a : Addr} {ccd : Value} {outer : List Env} {A₀ : Around} {base h₀ : Heap} {L : Addr} {m : Str → Option Value} {s : Shared} {Q : Flow → Shared → Prop} {E : Value → Shared → Prop} {news : List (Addr × Obj)} {sc : Scope} {body : List Stmt} {cl : List (Str × Addr)}
  {dk l0 x dx sp : Addr} {c : Int} {tc t0 : Tok} {vsI : List Value} {ns : List Int} {k0 : Nat} {qb od : Obj} {vb : Option Value} {R : List (Addr × Obj)} (hbody : body = lawLb w.params)
  (hsc : sc = lawSc w.params) (hcl : cl = cellsFrom (L + 1) sc.names []) (B : Below A₀ base outer h₀) (F : Fr h₀ L s.heap m) (X : (Mine.hd.heap_39 w.params).In h₀) (N : News h₀ L s.heap news) (T : Top p loose mean mg mb h₀) (hnews : news = canN w.params l0 c tc dk L qb dx t0 sp R) (offR : OwnOff R [dk, L + 1 + 1, dx]) (ne1 : @Ne Nat dk (L + 1 + 1)) (ne2 : @Ne Nat dk dx) (ne3 : @Ne Nat (L + 1 + 1) dx)
  (hl0 : (l0, listOf vsI.toArray k0) ∈ R) (hi : IntsAre vsI ns) (hln : ns.length < 1000) (hc0 : 0 ≤ c) (hc1 : c < 400) (hmD : m (Str.ofString "deck") = some (.ref dk))
  (hqb : qb.data = Data.cell vb) (hod : od.data = Data.cell (some (.ref x))) (hc : (L + 1, od) ∈ R) (hx : (x, instObj 103 dx) ∈ R)
  (hE : PassesOwn (model PySem.Challenge.pw_ok0042_02 w) (ktrTop dp un gd (Str.ofString "law") sc L a ccd cl outer) (envX (Str.ofString "law") sc L a ccd cl) E)
  (hd : dp + 4 < recursionLimit) (hu : un + 400 < cLine)
  (ret : ∀ (m' : Str → Option Value) (c' : Int) (tc' : Tok) (qb' : Obj) (vb' : Option Value) (sp' : Addr) (h' : Heap) (tk' : Nat), m' (Str.ofString "deck") = some (.ref dk) → c ≤ c' → c' ≤ c + 60 → qb'.data = Data.cell vb' → Fr h₀ L h' m' → News h₀ L h' (canN w.params l0 c' tc' dk L qb' dx t0 sp' R) → Q .next { s with heap := h', toks := tk' }) :
  wpAny (model PySem.Challenge.pw_ok0042_02 w) (ktrTop dp un gd (Str.ofString "law") sc L a ccd cl outer) (execs body (envX (Str.ofString "law") sc L a ccd cl)) Q E s := by
  subst hnews
  conv at hbody => rhs; whnf
  subst hbody
  refine wpAny_execs_cons ?_
  refine spans0_ok (x := x) (od := od) (by with_unfolding_all rfl) hsc hcl B F X N T rfl offR ne1 ne2 ne3 hl0 hi hln hc0 (by omega) hmD hqb hd hu (fun S vsS kS o os tl R1 c1 tc1 h1 tk1 q1 q2 hT hY hIn hol sR1 offR1 hS sT F1 N1 => ?_)
  have hml1 : vsS.length = os.length + 1 := by rw [hY.length, List.length_map, List.length_cons]
  have hlen0 : (some o :: os).length < 100 := by rw [List.length_cons]; omega
  obtain ⟨m1, hm1⟩ : ∃ m1 : Str → Option Value, m1 = (fun y => if y = Str.ofString "spans" then some (.ref S) else m y) := ⟨_, rfl⟩
  rw [← hm1] at F1
  have mD1 : m1 (Str.ofString "deck") = some (.ref dk) := by
    rw [hm1]; dsimp only
    repeat (first | assumption | exact if_pos rfl | refine (if_neg (by decide)).trans ?_)
  have mS1 : m1 (Str.ofString "spans") = some (.ref S) := by
    rw [hm1]; dsimp only
    repeat (first | assumption | exact if_pos rfl | refine (if_neg (by decide)).trans ?_)
  clear hm1
  dsimp only
  refine wpAny_execs_cons ?_
  refine set1_ok (vsI := []) (ns := []) (k0 := 0) (by with_unfolding_all rfl) hsc hcl B F1 X N1 T rfl offR1 ne1 ne2 ne3 mS1 hqb hod (sR1 _ hc) (sR1 _ hx) hS (by omega) hd hu (fun sp2 k2 R2 h2 tk2 sR2 offR2 hS2 F2 N2 => ?_)
  dsimp only
  refine wpAny_execs_cons ?_
  refine many2_ok (os := some o :: os) (L8 := tl) (by with_unfolding_all rfl) hsc hcl B F2 X N2 T mS1 (.tail _ (.tail _ (.tail _ (sR2 _ hS)))) hY (fun p hp => .tail _ (.tail _ (.tail _ (sR2 _ (sT p hp))))) hlen0 hd hu (fun LI us ku tm h3 tk3 hYL lL F3 N3 => ?_)
  obtain ⟨m3, hm3⟩ : ∃ m3 : Str → Option Value, m3 = (fun y => if y = Str.ofString "many" then some (.int ((some o :: os).length : Int) tm) else if y = Str.ofString "listed" then some (.ref LI) else m1 y) := ⟨_, rfl⟩
  rw [← hm3] at F3
  have mD3 : m3 (Str.ofString "deck") = some (.ref dk) := by
    rw [hm3]; dsimp only
    repeat (first | assumption | exact if_pos rfl | refine (if_neg (by decide)).trans ?_)
  have mS3 : m3 (Str.ofString "spans") = some (.ref S) := by
    rw [hm3]; dsimp only
    repeat (first | assumption | exact if_pos rfl | refine (if_neg (by decide)).trans ?_)
  have mM3 : m3 (Str.ofString "many") = some (.int ((some o :: os).length : Int) tm) := by
    rw [hm3]; dsimp only
    repeat (first | assumption | exact if_pos rfl | refine (if_neg (by decide)).trans ?_)
  have mL3 : m3 (Str.ofString "listed") = some (.ref LI) := by
    rw [hm3]; dsimp only
    repeat (first | assumption | exact if_pos rfl | refine (if_neg (by decide)).trans ?_)
  clear hm3
  obtain ⟨R3, hR3⟩ : ∃ R3, R3 = (LI, listOf us.toArray ku) :: R2 := ⟨_, rfl⟩
  have N3' : News h₀ L h3 (canN w.params l0 c1 tc1 dk L qb dx t0 sp2 R3) := by rw [hR3]; exact cb_drop N3 (by kqd_sub)
  have sR3 : ∀ p ∈ R2, p ∈ R3 := by rw [hR3]; exact fun p hp => .tail _ hp
  have hLI : (LI, listOf us.toArray ku) ∈ R3 := by rw [hR3]; exact .head _
  have offR3 : OwnOff R3 [dk, L + 1 + 1, dx] := by rw [hR3]; exact own3 (Nat.ne_of_gt (lL _ (.head _))) (Nat.ne_of_gt (lL _ (.tail _ (.head _)))) (Nat.ne_of_gt (lL _ (.tail _ (.tail _ (.head _))))) offR2
  clear hR3 N3 lL F1 F2 N1 N2 F N
  have sA : ∀ p ∈ R, p ∈ R3 := fun p hp => sR3 p (sR2 p (sR1 p hp))
  have sT3 : ∀ p ∈ tl, p ∈ R3 := fun p hp => sR3 p (sR2 p (sT p hp))
  have hS3 := sR3 _ (sR2 _ hS)
  have hsp3 := sR3 _ hS2
  clear sR1 sR2 sR3 sT hS hS2 offR1 offR2
  dsimp only
  refine wpAny_execs_cons ?_
  refine told_ok (os := some o :: os) (L9 := tl) (by with_unfolding_all rfl) hsc hcl B F3 X N3' T mM3 hod (.tail _ (.tail _ (.tail _ (sA _ hc)))) (.tail _ (.tail _ (.tail _ (sA _ hx)))) (.tail _ (.tail _ (.head _))) (.tail _ (.tail _ (.tail _ hsp3))) hY (fun p hp => .tail _ (.tail _ (.tail _ (sT3 p hp)))) hlen0 hd hu (fun TD ys tlT h4 tk4 hYT hTT hfT oTD F4 N4 => ?_)
  obtain ⟨m4, hm4⟩ : ∃ m4 : Str → Option Value, m4 = (fun y => if y = Str.ofString "told_here" then some (.ref TD) else m3 y) := ⟨_, rfl⟩
  rw [← hm4] at F4
  have mD4 : m4 (Str.ofString "deck") = some (.ref dk) := by
    rw [hm4]; dsimp only
    repeat (first | assumption | exact if_pos rfl | refine (if_neg (by decide)).trans ?_)
  have mS4 : m4 (Str.ofString "spans") = some (.ref S) := by
    rw [hm4]; dsimp only
    repeat (first | assumption | exact if_pos rfl | refine (if_neg (by decide)).trans ?_)
  have mM4 : m4 (Str.ofString "many") = some (.int ((some o :: os).length : Int) tm) := by
    rw [hm4]; dsimp only
    repeat (first | assumption | exact if_pos rfl | refine (if_neg (by decide)).trans ?_)
  have mL4 : m4 (Str.ofString "listed") = some (.ref LI) := by
    rw [hm4]; dsimp only
    repeat (first | assumption | exact if_pos rfl | refine (if_neg (by decide)).trans ?_)
  have mT4 : m4 (Str.ofString "told_here") = some (.ref TD) := by
    rw [hm4]; dsimp only
    repeat (first | assumption | exact if_pos rfl | refine (if_neg (by decide)).trans ?_)
  clear hm4
  obtain ⟨R4, hR4⟩ : ∃ R4, R4 = (TD, listOf ys.toArray ys.length) :: (tlT ++ R3) := ⟨_, rfl⟩
  have N4' : News h₀ L h4 (canN w.params l0 c1 tc1 dk L qb dx t0 sp2 R4) := by rw [hR4]; exact cb_drop N4 (by kqd_sub)
  have sR4 : ∀ p ∈ R3, p ∈ R4 := by rw [hR4]; exact fun p hp => .tail _ (List.mem_append_right _ hp)
  have sT4 : ∀ p ∈ tlT, p ∈ R4 := by rw [hR4]; exact fun p hp => .tail _ (List.mem_append_left _ hp)
  have hTD : (TD, listOf ys.toArray ys.length) ∈ R4 := by rw [hR4]; exact .head _
  have offR4 : OwnOff R4 [dk, L + 1 + 1, dx] := by
    rw [hR4]
    exact own3 (Ne.symm (off1_mem oTD _ (List.mem_append_left _ (.head _)))) (Ne.symm (off1_mem oTD _ (List.mem_append_left _ (.tail _ (.head _))))) (Ne.symm (off1_mem oTD _ (List.mem_append_left _ (.tail _ (.tail _ (.head _)))))) (own3f (fun q hq => hfT q hq _ (.head _)) (fun q hq => hfT q hq _ (.tail _ (.head _))) (fun q hq => hfT q hq _ (.tail _ (.tail _ (.head _)))) offR3)
  clear hR4 N4 oTD hfT N3' F3
  dsimp only
  refine wpAny_execs_cons ?_
  refine due_ok (os := some o :: os) (L9 := tl) (by with_unfolding_all rfl) hsc hcl B F4 X N4' T mS4 (.tail _ (.tail _ (.tail _ (sR4 _ hS3)))) hY (fun p hp => .tail _ (.tail _ (.tail _ (sR4 _ (sT3 p hp))))) hlen0 hd hu (fun DU zs tlD h5 tk5 hYD hTD2 hfD oDU F5 N5 => ?_)
  obtain ⟨m5, hm5⟩ : ∃ m5 : Str → Option Value, m5 = (fun y => if y = Str.ofString "due" then some (.ref DU) else m4 y) := ⟨_, rfl⟩
  rw [← hm5] at F5
  have mD5 : m5 (Str.ofString "deck") = some (.ref dk) := by
    rw [hm5]; dsimp only
    repeat (first | assumption | exact if_pos rfl | refine (if_neg (by decide)).trans ?_)
  have mS5 : m5 (Str.ofString "spans") = some (.ref S) := by
    rw [hm5]; dsimp only
    repeat (first | assumption | exact if_pos rfl | refine (if_neg (by decide)).trans ?_)
  have mM5 : m5 (Str.ofString "many") = some (.int ((some o :: os).length : Int) tm) := by
    rw [hm5]; dsimp only
    repeat (first | assumption | exact if_pos rfl | refine (if_neg (by decide)).trans ?_)
  have mL5 : m5 (Str.ofString "listed") = some (.ref LI) := by
    rw [hm5]; dsimp only
    repeat (first | assumption | exact if_pos rfl | refine (if_neg (by decide)).trans ?_)
  have mT5 : m5 (Str.ofString "told_here") = some (.ref TD) := by
    rw [hm5]; dsimp only
    repeat (first | assumption | exact if_pos rfl | refine (if_neg (by decide)).trans ?_)
  have mU5 : m5 (Str.ofString "due") = some (.ref DU) := by
    rw [hm5]; dsimp only
    repeat (first | assumption | exact if_pos rfl | refine (if_neg (by decide)).trans ?_)
  clear hm5
  obtain ⟨R5, hR5⟩ : ∃ R5, R5 = (DU, listOf zs.toArray zs.length) :: (tlD ++ R4) := ⟨_, rfl⟩
  have N5' : News h₀ L h5 (canN w.params l0 c1 tc1 dk L qb dx t0 sp2 R5) := by rw [hR5]; exact cb_drop N5 (by kqd_sub)
  have sR5 : ∀ p ∈ R4, p ∈ R5 := by rw [hR5]; exact fun p hp => .tail _ (List.mem_append_right _ hp)
  have sT5 : ∀ p ∈ tlD, p ∈ R5 := by rw [hR5]; exact fun p hp => .tail _ (List.mem_append_left _ hp)
  have hDU : (DU, listOf zs.toArray zs.length) ∈ R5 := by rw [hR5]; exact .head _
  have offR5 : OwnOff R5 [dk, L + 1 + 1, dx] := by
    rw [hR5]
    exact own3 (Ne.symm (off1_mem oDU _ (List.mem_append_left _ (.head _)))) (Ne.symm (off1_mem oDU _ (List.mem_append_left _ (.tail _ (.head _))))) (Ne.symm (off1_mem oDU _ (List.mem_append_left _ (.tail _ (.tail _ (.head _)))))) (own3f (fun q hq => hfD q hq _ (.head _)) (fun q hq => hfD q hq _ (.tail _ (.head _))) (fun q hq => hfD q hq _ (.tail _ (.tail _ (.head _)))) offR4)
  clear hR5 N5 oDU hfD N4' F4
  have sB : ∀ p ∈ R3, p ∈ R5 := fun p hp => sR5 p (sR4 p hp)
  have hE5 : (List.range ((some o :: os).length + 1)).map (fun j => toldD ((some o :: os).getD j none)) = (some o :: os ++ [none]).map toldD := told_all (some o :: os) toldD
  have hK5 : ∀ d ∈ (some o :: os ++ [none]).map toldD, kqdOk 8 d = true := fun d hd => by
    obtain ⟨q, _, rfl⟩ := List.mem_map.mp hd
    exact toldD_ok q
  dsimp only
  refine wpAny_execs_cons ?_
  refine cmp1_ok (os := some o :: os) (L9 := tl) (L1 := tlT ++ tl) (L2 := tlD ++ tl) (by with_unfolding_all rfl) hsc hcl B F5 X N5' T mT5 mU5 mL5 hod (.tail _ (.tail _ (.tail _ (sB _ (sA _ hc))))) (.tail _ (.tail _ (.tail _ (sB _ (sA _ hx))))) (.tail _ (.tail _ (.head _))) (.tail _ (.tail _ (.tail _ (sB _ hsp3)))) hY (fun p hp => .tail _ (.tail _ (.tail _ (sB _ (sT3 p hp))))) hlen0 (.tail _ (.tail _ (.tail _ (sR5 _ hTD)))) (.tail _ (.tail _ (.tail _ hDU))) (.tail _ (.tail _ (.tail _ (sB _ hLI)))) hYT hYD (fun p hp => .tail _ (.tail _ (.tail _ ((List.mem_append.mp hp).elim (fun h => sR5 _ (sT4 p h)) fun h => sB _ (sT3 p h))))) (fun p hp => .tail _ (.tail _ (.tail _ ((List.mem_append.mp hp).elim (fun h => sT5 p h) fun h => sB _ (sT3 p h))))) hE5 hK5 hYL hd hu (fun h6 tk6 F6 N6 => ?_)
  clear N5' F5 hYT hYD hTD hDU
  dsimp only
  refine wpAny_execs_cons ?_
  refine rest6_ok (os := some o :: os) (L9 := tl) (by with_unfolding_all rfl) hsc hcl B F6 X N6 T rfl offR5 ne1 ne2 ne3 (sB _ (sA _ hl0)) hi hln (by omega) (by omega) mD5 hqb hod (sB _ (sA _ hc)) (sB _ (sA _ hx)) (sB _ hsp3) hY (fun p hp => sB _ (sT3 p hp)) hlen0 hd hu (fun sp7 vs7 n7 r tl7 R7 tc7 h7 tk7 hr sR7 offR7 hsp7 sT7 hT7 hY7 F7 N7 => ?_)
  have sC : ∀ p ∈ R3, p ∈ R7 := fun p hp => sR7 p (sB p hp)
  have hq7 : strip (strip (some o :: os) ++ List.replicate r none) = strip (some o :: os) := by rw [strip_none_app, strip_idem]
  have hsl := strip_le (some o :: os)
  have hl7 : (strip (some o :: os) ++ List.replicate r (none : Option (Int × Int))).length < 200 := by rw [List.length_append, List.length_replicate]; omega
  clear F6 N6 sB sR7 sR5 sR4 sT4 sT5
  dsimp only
  refine wpAny_execs_cons ?_
  refine cmp7_ok (os := some o :: os) (os2 := strip (some o :: os) ++ List.replicate r none) (L9 := tl7) (L8 := tl) (by with_unfolding_all rfl) hsc hcl B F7 X N7 T mL5 mM5 mS5 hod (.tail _ (.tail _ (.tail _ (sC _ (sA _ hc))))) (.tail _ (.tail _ (.tail _ (sC _ (sA _ hx))))) (.tail _ (.tail _ (.head _))) (.tail _ (.tail _ (.tail _ hsp7))) hY7 (fun p hp => .tail _ (.tail _ (.tail _ (sT7 p hp)))) hlen0 hl7 (.tail _ (.tail _ (.tail _ (sC _ hLI)))) hYL (.tail _ (.tail _ (.tail _ (sC _ hS3)))) hY (fun p hp => .tail _ (.tail _ (.tail _ (sC _ (sT3 p hp))))) (by rw [hq7]) (kept_of (some o :: os) r) hd hu (fun h8 tk8 F8 N8 => ?_)
  clear F7 N7
  dsimp only
  refine wpAny_execs_cons ?_
  refine by8_ok (x := x) (tv := tc) (od := od) (vs := []) (k := 0) (v := 0) (os := []) (L9 := []) (by with_unfolding_all rfl) hsc hcl B F8 X N8 T rfl offR7 ne1 ne2 ne3 (sC _ (sA _ hl0)) hi hln (by omega) (by omega) mD5 hqb hd hu (fun v tv tc9 qb9 h9 tk9 hqb9 hv1 hv2 F9 N9 => ?_)
  clear F8 N8
  dsimp only
  refine wpAny_execs_cons ?_
  refine tr9_ok (vsI := []) (ns := []) (k0 := 0) (vb := none) (os := strip (some o :: os) ++ List.replicate r none) (L9 := tl7) (by with_unfolding_all rfl) hsc hcl B F9 X N9 T rfl offR7 ne1 ne2 ne3 hqb9 hv1 hv2 hod (sC _ (sA _ hc)) (sC _ (sA _ hx)) hsp7 hY7 sT7 hT7 hl7 hd hu (fun spA vsA tlA RA hA tkA sRA offRA hspA sTA hTA hYA FA NA => ?_)
  have sD : ∀ p ∈ R3, p ∈ RA := fun p hp => sRA p (sC p hp)
  clear F9 N9 sC sRA offR7 hsp7 sT7 hT7 hY7
  have hlA : ((strip (some o :: os) ++ List.replicate r none).map (Option.map (shift v))).length < 200 := by rw [List.length_map]; exact hl7
  have hEA : (flat (strip ((strip (some o :: os) ++ List.replicate r none).map (Option.map (shift v))))).map encI = ((flat (strip (some o :: os))).map (Option.map (· + v))).map encI := by rw [strip_map, hq7, flat_shift]
  dsimp only
  refine wpAny_execs_cons ?_
  refine cmp10_ok (os := some o :: os) (os3 := (strip (some o :: os) ++ List.replicate r none).map (Option.map (shift v))) (L9 := tlA) (by with_unfolding_all rfl) hsc hcl B FA X NA T mL5 hqb9 (.tail _ (.head _)) hv1 hv2 hod (.tail _ (.tail _ (.tail _ (sD _ (sA _ hc))))) (.tail _ (.tail _ (.tail _ (sD _ (sA _ hx))))) (.tail _ (.tail _ (.head _))) (.tail _ (.tail _ (.tail _ hspA))) hYA (fun p hp => .tail _ (.tail _ (.tail _ (sTA p hp)))) hlen0 hlA (.tail _ (.tail _ (.tail _ (sD _ hLI)))) hYL hEA hd hu (fun hB tkB FB NB => ?_)
  clear FA NA
  dsimp only
  refine wpAny_execs_cons ?_
  refine tr11_ok (vsI := []) (ns := []) (k0 := 0) (vb := none) (os := (strip (some o :: os) ++ List.replicate r none).map (Option.map (shift v))) (L9 := tlA) (by with_unfolding_all rfl) hsc hcl B FB X NB T rfl offRA ne1 ne2 ne3 hqb9 hv1 hv2 hod (sD _ (sA _ hc)) (sD _ (sA _ hx)) hspA hYA sTA hTA hlA hd hu (fun spC vsC tlC RC hC tkC sRC offRC hspC sTC hTC hYC FC NC => ?_)
  rw [shift_back] at hYC
  have sE : ∀ p ∈ R3, p ∈ RC := fun p hp => sRC p (sD p hp)
  clear FB NB sD sRC offRA hspA sTA hTA hYA hEA hlA
  dsimp only
  refine wpAny_execs_cons ?_
  refine row12_ok (x := x) (st0 := 0) (tv := tc) (od := od) (vb := none) (by with_unfolding_all rfl) hsc hcl B FC X NC T rfl offRC ne1 ne2 ne3 (sE _ (sA _ hl0)) hi hln (by omega) (by omega) mD5 hd hu (fun RW vsR kr st0 ts tcD RD hD tkD iR lR hs0 hs1 sRD offRD hRW FD ND => ?_)
  obtain ⟨m6, hm6⟩ : ∃ m6 : Str → Option Value, m6 = (fun y => if y = Str.ofString "row" then some (.ref RW) else if y = Str.ofString "start" then some (.int st0 ts) else m5 y) := ⟨_, rfl⟩
  rw [← hm6] at FD
  have mD6 : m6 (Str.ofString "deck") = some (.ref dk) := by
    rw [hm6]; dsimp only
    repeat (first | assumption | exact if_pos rfl | refine (if_neg (by decide)).trans ?_)
  have mS6 : m6 (Str.ofString "spans") = some (.ref S) := by
    rw [hm6]; dsimp only
    repeat (first | assumption | exact if_pos rfl | refine (if_neg (by decide)).trans ?_)
  have mM6 : m6 (Str.ofString "many") = some (.int ((some o :: os).length : Int) tm) := by
    rw [hm6]; dsimp only
    repeat (first | assumption | exact if_pos rfl | refine (if_neg (by decide)).trans ?_)
  have mL6 : m6 (Str.ofString "listed") = some (.ref LI) := by
    rw [hm6]; dsimp only
    repeat (first | assumption | exact if_pos rfl | refine (if_neg (by decide)).trans ?_)
  have mR6 : m6 (Str.ofString "row") = some (.ref RW) := by
    rw [hm6]; dsimp only
    repeat (first | assumption | exact if_pos rfl | refine (if_neg (by decide)).trans ?_)
  have mB6 : m6 (Str.ofString "start") = some (.int st0 ts) := by
    rw [hm6]; dsimp only
    repeat (first | assumption | exact if_pos rfl | refine (if_neg (by decide)).trans ?_)
  clear hm6
  dsimp only
  refine wpAny_execs_cons ?_
  refine new13_ok (x := x) (tv := tc) (od := od) (vb := none) (by with_unfolding_all rfl) hsc hcl B FD X ND T rfl offRD ne1 ne2 ne3 (sRD _ (sE _ (sA _ hl0))) hi hln (by omega) (by omega) mD6 mB6 hs0 hs1 hd hu (fun NW vsN kn en te tcE RE hEE tkE iN lN hse hen sRE offRE hNW FE NE => ?_)
  obtain ⟨m7, hm7⟩ : ∃ m7 : Str → Option Value, m7 = (fun y => if y = Str.ofString "end" then some (.int en te) else if y = Str.ofString "new" then some (.ref NW) else m6 y) := ⟨_, rfl⟩
  rw [← hm7] at FE
  have mD7 : m7 (Str.ofString "deck") = some (.ref dk) := by
    rw [hm7]; dsimp only
    repeat (first | assumption | exact if_pos rfl | refine (if_neg (by decide)).trans ?_)
  have mS7 : m7 (Str.ofString "spans") = some (.ref S) := by
    rw [hm7]; dsimp only
    repeat (first | assumption | exact if_pos rfl | refine (if_neg (by decide)).trans ?_)
  have mM7 : m7 (Str.ofString "many") = some (.int ((some o :: os).length : Int) tm) := by
    rw [hm7]; dsimp only
    repeat (first | assumption | exact if_pos rfl | refine (if_neg (by decide)).trans ?_)
  have mL7 : m7 (Str.ofString "listed") = some (.ref LI) := by
    rw [hm7]; dsimp only
    repeat (first | assumption | exact if_pos rfl | refine (if_neg (by decide)).trans ?_)
  have mR7 : m7 (Str.ofString "row") = some (.ref RW) := by
    rw [hm7]; dsimp only
    repeat (first | assumption | exact if_pos rfl | refine (if_neg (by decide)).trans ?_)
  have mB7 : m7 (Str.ofString "start") = some (.int st0 ts) := by
    rw [hm7]; dsimp only
    repeat (first | assumption | exact if_pos rfl | refine (if_neg (by decide)).trans ?_)
  have mE7 : m7 (Str.ofString "end") = some (.int en te) := by
    rw [hm7]; dsimp only
    repeat (first | assumption | exact if_pos rfl | refine (if_neg (by decide)).trans ?_)
  have mN7 : m7 (Str.ofString "new") = some (.ref NW) := by
    rw [hm7]; dsimp only
    repeat (first | assumption | exact if_pos rfl | refine (if_neg (by decide)).trans ?_)
  clear hm7
  have sF : ∀ p ∈ RC, p ∈ RE := fun p hp => sRE p (sRD p hp)
  have lN2 : vsN.length < 100 := by omega
  have hRW2 := sRE _ hRW
  clear FC NC FD ND sRD sRE offRC offRD hRW
  dsimp only
  refine wpAny_execs_cons ?_
  refine rep14_ok (os := strip (some o :: os) ++ List.replicate r none) (L9 := tlC) (by with_unfolding_all rfl) hsc hcl B FE X NE T rfl offRE ne1 ne2 ne3 mB7 mN7 mE7 hs0 hse hen hNW lN2 hqb9 hod (sF _ (sE _ (sA _ hc))) (sF _ (sE _ (sA _ hx))) (sF _ hspC) hYC (fun p hp => sF _ (sTC p hp)) hTC hl7 hd hu (fun spG vsG tlG RG hG tkG sRG offRG hspG sTG hTG hYG FG NG => ?_)
  have sH : ∀ p ∈ R3, p ∈ RG := fun p hp => sRG p (sF p (sE p hp))
  have hNW2 := sRG _ hNW
  have hRW3 := sRG _ hRW2
  clear FE NE sF sE sRG offRE hspC sTC hTC hYC hNW hRW2
  dsimp only
  refine wpAny_execs_cons ?_
  refine chg15_ok (by with_unfolding_all rfl) hsc hcl B FG X NG T mR7 mB7 mN7 mE7 (.tail _ (.tail _ (.tail _ hRW3))) (.tail _ (.tail _ (.tail _ hNW2))) lR lN2 hs0 hse hen hd hu (fun CH kc hI tkI lCH FI NI => ?_)
  obtain ⟨m8, hm8⟩ : ∃ m8 : Str → Option Value, m8 = (fun y => if y = Str.ofString "changed" then some (.ref CH) else m7 y) := ⟨_, rfl⟩
  rw [← hm8] at FI
  have mD8 : m8 (Str.ofString "deck") = some (.ref dk) := by
    rw [hm8]; dsimp only
    repeat (first | assumption | exact if_pos rfl | refine (if_neg (by decide)).trans ?_)
  have mS8 : m8 (Str.ofString "spans") = some (.ref S) := by
    rw [hm8]; dsimp only
    repeat (first | assumption | exact if_pos rfl | refine (if_neg (by decide)).trans ?_)
  have mM8 : m8 (Str.ofString "many") = some (.int ((some o :: os).length : Int) tm) := by
    rw [hm8]; dsimp only
    repeat (first | assumption | exact if_pos rfl | refine (if_neg (by decide)).trans ?_)
  have mR8 : m8 (Str.ofString "row") = some (.ref RW) := by
    rw [hm8]; dsimp only
    repeat (first | assumption | exact if_pos rfl | refine (if_neg (by decide)).trans ?_)
  have mB8 : m8 (Str.ofString "start") = some (.int st0 ts) := by
    rw [hm8]; dsimp only
    repeat (first | assumption | exact if_pos rfl | refine (if_neg (by decide)).trans ?_)
  have mE8 : m8 (Str.ofString "end") = some (.int en te) := by
    rw [hm8]; dsimp only
    repeat (first | assumption | exact if_pos rfl | refine (if_neg (by decide)).trans ?_)
  have mN8 : m8 (Str.ofString "new") = some (.ref NW) := by
    rw [hm8]; dsimp only
    repeat (first | assumption | exact if_pos rfl | refine (if_neg (by decide)).trans ?_)
  have mC8 : m8 (Str.ofString "changed") = some (.ref CH) := by
    rw [hm8]; dsimp only
    repeat (first | assumption | exact if_pos rfl | refine (if_neg (by decide)).trans ?_)
  clear hm8
  have hlG : ((strip (some o :: os) ++ List.replicate r none).map (Option.map (mv st0 en (st0 + vsN.length)))).length < 200 := by rw [List.length_map]; exact hl7
  have hgG : ∀ j, ((strip (some o :: os) ++ List.replicate r none).map (Option.map (mv st0 en (st0 + vsN.length)))).getD j none = ((some o :: os).getD j none).map (mv st0 en (st0 + vsN.length)) := fun j => by rw [getD_mapO, kept_of]
  dsimp only
  refine wpAny_execs_cons ?_
  refine for16_ok (os := some o :: os) (os4 := (strip (some o :: os) ++ List.replicate r none).map (Option.map (mv st0 en (st0 + vsN.length)))) (L9 := tlG) (L8 := tl) (by with_unfolding_all rfl) hsc hcl B FI X NI T mM8 mS8 mB8 mE8 mN8 mR8 mC8 hod (.tail _ (.tail _ (.tail _ (.tail _ (sH _ (sA _ hc)))))) (.tail _ (.tail _ (.tail _ (.tail _ (sH _ (sA _ hx)))))) (.tail _ (.tail _ (.tail _ (.head _)))) (.tail _ (.tail _ (.tail _ (.tail _ hspG)))) hYG (fun p hp => .tail _ (.tail _ (.tail _ (.tail _ (sTG p hp))))) hlen0 hlG (.tail _ (.tail _ (.tail _ (.tail _ (sH _ hS3))))) hY (fun p hp => .tail _ (.tail _ (.tail _ (.tail _ (sH _ (sT3 p hp)))))) (.tail _ (.tail _ (.tail _ (.tail _ hRW3)))) (.tail _ (.tail _ (.tail _ (.tail _ hNW2)))) (.head _) iN iR lN2 lR hs0 hse hen hIn hgG hE hd hu (fun m9 hZ tkZ hm9 FZ NZ => ?_)
  dsimp only
  refine wpAny_execs_nil ?_
  exact ret m9 (c1 + 1 + 1 + 1 + 1 + 1) tcE qb9 _ spG hZ tkZ ((hm9 _ (by decide)).trans mD8) (by omega) (by omega) hqb9 FZ (fun q hq => by
    rcases List.mem_cons.mp hq with rfl | hq
    · exact NZ _ (.tail _ (.head _))
    · rcases List.mem_cons.mp hq with rfl | hq
      · exact NZ _ (.tail _ (.tail _ (.head _)))
      · rcases List.mem_cons.mp hq with rfl | hq
        · exact NZ _ (.tail _ (.tail _ (.tail _ (.head _))))
        · exact NZ _ (.tail _ (.tail _ (.tail _ (.tail _ (sH _ (sA _ hq)))))))

end

theorem kwadf : True := by
  k_with "call ref" => (k_here; (with_reducible show wpAny _ _ (call (Value.ref 62) _) _ _ _); k_dflt (refine' mspan_raise ?k1_9300 ?k2_9300 ?k3_9300 ?k4_9300 ?k5_9300 ?kK_9300 ?hx_9300 ?h0_9300 ?hd_9300 ?hu_9300 ?_; (case k1_9300 => k_asm); (case k2_9300 => k_asm); (case k3_9300 => k_asm); (case k4_9300 => k_asm); (case k5_9300 => k_asm); (case kK_9300 => first | exact rfl | assumption); (case hx_9300 => k_mem); (case h0_9300 => omega); (case hd_9300 => ktr_room); (case hu_9300 => ke_room)); intro _ _ _ _ _ _ _ _ _ _ _; (try dsimp only))
  trivial
section
theorem top_deeper {nm : Str} {sc : Scope} {L a : Addr} {ccd : Value} {cl : List (Str × Addr)} : ktrTop (callerA.depth + 1) (callerA.units + 3) callerA.guards nm sc L a ccd cl [] = callerA.deeper (envX nm sc L a ccd cl) := rfl
theorem try_ok {w : World} {p : Program} {loose : List Str} {mean : ExcName → Option Value} {mg mb : Str → Option Value} {a : Addr} {ccd : Value} {h₀ : Heap} {L : Addr} {m : Str → Option Value} {s : Shared} {dp un : Nat} {Q : Flow → Shared → Prop} {E : Value → Shared → Prop} {news : List (Addr × Obj)} {sc : Scope} {st : Stmt} {cl : List (Str × Addr)} {dk l0 x dx sp : Addr} {c : Int} {tc t0 : Tok} {vsI : List Value} {ns : List Int} {k0 : Nat} {od : Obj} {R : List (Addr × Obj)} (hst : st = nth (lawBody w.params) 2)
  (hsc : sc = lawSc w.params) (hcl : cl = cellsFrom (L + 1) sc.names []) (B : Below callerA h₀ [] h₀) (F : Fr h₀ L s.heap m) (X : (Mine.hd.heap_39 w.params).In h₀) (N : News h₀ L s.heap news) (T : Top p loose mean mg mb h₀) (hnews : news = (dk, deckO l0 c tc 0) :: (dx, spansDict w.params t0 sp) :: R) (offR : OwnOff R [dk]) (ne2 : @Ne Nat dk dx)
  (hl0 : (l0, listOf vsI.toArray k0) ∈ R) (hi : IntsAre vsI ns) (hln : ns.length < 1000) (hc0 : 0 ≤ c) (hc1 : c < 900) (hm : m (Str.ofString "deck") = some (.ref dk))
  (hod : od.data = Data.cell (some (.ref x))) (hc : (L + 1, od) ∈ R) (hx : (x, instObj 103 dx) ∈ R)
  (hdp : dp = callerA.depth + 1) (hun : un = callerA.units + 3) (hd : dp + 8 < recursionLimit) (hu : un + 900 < cLine)
  (ret : ∀ (m' : Str → Option Value) (g' h' : Heap) (tk' : Nat), KtsTurn [] h₀ g' → Fr g' L h' m' → Q (.ret (.bool true)) { s with heap := h', toks := tk' }) :
  wpAny (model PySem.Challenge.pw_ok0042_02 w) (ktrTop dp un callerA.guards (Str.ofString "law") sc L a ccd cl []) (exec st (envX (Str.ofString "law") sc L a ccd cl)) Q E s := by
  subst hnews
  have hne0 : @Ne Nat l0 dk := offR _ hl0 _ (.head _)
  conv at hst => rhs; whnf
  conv at hsc => rhs; whnf
  subst hsc
  conv at hcl => rhs; whnf
  subst hst hcl
  show Keep PySem.Challenge.rw_ok0042_02 Mine.hd.heap_39 (wpAny _ _ _ _ _ _)
  k_fill
  unfold Keep
  have F1 := fr_know F hm
  clear F
  refine wpAny_Try_except ?_
  w_strict k_steps
  subst hdp hun
  rename_i r9 t9 c9 h9 k9 r0 r1 F9 N9 g2 e D t1 oD h2 tk2 FG2 R2 U2 S2
  clear qk ek
  simp only [top_deeper]
  refine caughtD (A₀ := callerA) (outer := []) R2 FG2 B U2 X T (by k_is) (by kts_isx) (fun h5 g5 tk5 oe T5 F5 N5 c5 d5 nc5 B5 X5 TT5 => ?_)
  clear F9 N9 R2 FG2 U2
  w_strict k_steps
  refine get_sym ((excC_of X5).keeps F5.keep) (N5 _ (.head _)).1 c5 nc5 d5 (N5 _ (.tail _ (.head _))).1 S2 (fun tk6 tk7 => ?_)
  dsimp only
  w_strict k_steps
  refine wpAny_nameGoes (by rfl) F5.ns (by rfl) (fun h6 m6 n6 s6 => ?_)
  have F6 := F5.set n6 s6
  have e1 : (Str.ofString "args-out-of-range" == Str.ofString "args-out-of-range") = true := by decide
  show Q (Flow.ret (Value.bool (Str.ofString "args-out-of-range" == Str.ofString "args-out-of-range"))) _
  rw [e1]
  exact ret _ _ _ _ T5 F6
theorem try_use {M : Model} {A : Around} {env : Env} {w : World} {p : Program} {loose : List Str} {mean : ExcName → Option Value} {mg mb : Str → Option Value} {a : Addr} {ccd : Value} {h₀ : Heap} {L : Addr} {m : Str → Option Value} {s : Shared} {Q : Flow → Shared → Prop} {E : Value → Shared → Prop} {news : List (Addr × Obj)} {sc : Scope} {st : Stmt} {cl : List (Str × Addr)} {dk l0 x dx sp : Addr} {c : Int} {tc t0 : Tok} {vsI : List Value} {ns : List Int} {k0 : Nat} {od : Obj} {R : List (Addr × Obj)} (hM : M = model PySem.Challenge.pw_ok0042_02 w) (hA : A = callerA.deeper (envX (Str.ofString "law") sc L a ccd cl)) (he : env = envX (Str.ofString "law") sc L a ccd cl) (hst : st = nth (lawBody w.params) 2)
  (hsc : sc = lawSc w.params) (hcl : cl = cellsFrom (L + 1) sc.names []) (B : Below callerA h₀ [] h₀) (F : Fr h₀ L s.heap m) (X : (Mine.hd.heap_39 w.params).In h₀) (N : News h₀ L s.heap news) (T : Top p loose mean mg mb h₀) (hnews : news = (dk, deckO l0 c tc 0) :: (dx, spansDict w.params t0 sp) :: R) (offR : OwnOff R [dk]) (ne2 : @Ne Nat dk dx)
  (hl0 : (l0, listOf vsI.toArray k0) ∈ R) (hi : IntsAre vsI ns) (hln : ns.length < 1000) (hc0 : 0 ≤ c) (hc1 : c < 900) (hm : m (Str.ofString "deck") = some (.ref dk))
  (hod : od.data = Data.cell (some (.ref x))) (hc : (L + 1, od) ∈ R) (hx : (x, instObj 103 dx) ∈ R)
  (ret : ∀ (m' : Str → Option Value) (g' h' : Heap) (tk' : Nat), KtsTurn [] h₀ g' → Fr g' L h' m' → Q (.ret (.bool true)) { s with heap := h', toks := tk' }) :
  wpAny M A (exec st env) Q E s := by
  subst hM hA he
  exact try_ok hst hsc hcl B F X N T hnews offR ne2 hl0 hi hln hc0 hc1 hm hod hc hx rfl rfl (by decide) (by decide) ret

end

theorem kwadg : True := by
  k_with "subscriptTail" => (k_here; (with_reducible show wpAny _ _ (subscriptTail (PySem.Expr.Call _ _ _ _) (PySem.Expr.Slice _ _ none _) (Value.ref _) (Value.ref _)) _ _ _); k_dflt (refine kba_turn (value' := PySem.Expr.Name (PySem.Str.ofString "_") ⟨0, 0, 0, 0⟩) (fun _ => rfl) ?_); walk_at "subscriptTail Name Slice ref ref")
  trivial
section
theorem main2 : PySem.Challenge.rw_ok0042_02.Holds := hd (by
  k_go0
  all_goals try k_fold
  rename_i w s0 s1 mg mb G0 Y0 fa o pm doc ho hg KX X V GL T Bt TE TW am om M a1 a2 hcd ns hs hlay hL1 hr1 hl2 as1 as2 la vs as3 hL ra w1 r0 hI hr hlen _ K0 hD h1 tk1 F q2 q1 d2 d1 N0 X0
  clear X0 hr r0 w1 ra hr1 hl2 hlay hL1 hs TE TW M Bt GL V X G0 Y0 ho hcd hD
  replace F : Fr s1.heap s1.heap.objs.size h1 (fun y => if y = Str.ofString "script" then some (Value.ref la) else none) := by with_unfolding_all exact F
  replace d1 : q1.data = Data.cell none := by with_unfolding_all exact d1
  replace d2 : q2.data = Data.cell none := by with_unfolding_all exact d2
  have n01 : @Ne Nat (s1.heap.objs.size + 1) (s1.heap.objs.size + 1 + 1) := by omega
  have hlen2 : ns.length < 1000 := by omega
  have hvs2 : vs.length < 1000 := by have := hI.length; omega
  clear hlen
  w_strict k_steps
  unfold Halt
  with_unfolding_all refine For_invVF (by k_asm) (by rfl) (by rfl) ?_
  w_strict k_steps
  unfold Halt
  rename_i D2c c2 h11 hl5 a22 a5 D1 h10 hl4 b21 b20 b4 dl h9 hl3 e19 e18 e17 e3 x dx h8 F3 N3 hl2 f16 f15 f14 f13 f2 g2 g' L' h7 B' X' T' tkq sp0 h6 hl1 k12 k11 k10 k9 k8 k7 k1 h5 F2 N2 tkr Tc kX Dt h4 hl m6 m5 m4 m3 m2 m1 m0 ml1 h3 h2 h1 od FN1 NN1 hod h0 tkz ta ub vc R1 FL NL KL
  clear h11 h10 h9 h8 F3 N3 hl5 hl4 hl3 hl2 hl1 B' X' T' h7 h6 F2 N2 h5 h4 hl FN1 NN1 KL
  obtain ⟨RQ, hRQ⟩ : ∃ R, R = [(D1, listOf (vs.take 50).toArray 0), (s1.heap.objs.size + 1, od), (x, instObj 103 dx)] := ⟨_, rfl⟩
  set_option pp.deepTerms true in trace_state
  have NJ : News T.heap s1.heap.objs.size h0 (canN w.params D1 0 (tk1 + 1) dl s1.heap.objs.size q2 dx (tkq + 1) sp0 RQ) := by rw [hRQ]; exact cb_drop NL (by kqd_sub)
  have offQ : OwnOff RQ [dl, s1.heap.objs.size + 1 + 1, dx] := by
    rw [hRQ]
    exact own3 (by k_ne) (by k_ne) (by k_ne) (own3 (by k_ne) (by k_ne) (by k_ne) (own3 (by k_ne) (by k_ne) (by k_ne) (fun _ h => nomatch h)))
  refine loop_range (fun i m nx => ∃ (c : Int) (tc : Tok) (qb : Obj) (vb : Option Value) (sp : Addr), m (Str.ofString "deck") = some (.ref dl) ∧ nx = canN w.params D1 c tc dl s1.heap.objs.size qb dx (tkq + 1) sp RQ ∧ 0 ≤ c ∧ c ≤ 60 * (i : Int) ∧ qb.data = Data.cell vb)
    (by rfl) R1 (small_ofN (by omega) (by omega) (by omega) (by omega)) (rangeSize_nat _ _) FL NJ ⟨0, tk1 + 1, q2, none, sp0, if_pos rfl, rfl, by omega, by omega, d2⟩ ?_ ?_
  · rintro i t m₁ nx h tk own hi' offO ⟨c, tc, qb, vb, sp, hmD, rfl, hc0, hc1, hqb⟩ F4 N4
    have offT : OwnOff (RQ ++ own) [dl, s1.heap.objs.size + 1 + 1, dx] := own_two offQ (fun p hp b hb => offO p hp b (by
      simp only [List.mem_cons, List.not_mem_nil, or_false] at hb
      rcases hb with rfl | rfl | rfl
      · exact .head _
      · exact .tail _ (.head _)
      · exact .tail _ (.tail _ (.head _))))
    have inR : ∀ p ∈ RQ, p ∈ RQ ++ own := fun p hp => List.mem_append_left _ hp
    have r1 : (D1, listOf (vs.take 50).toArray 0) ∈ RQ := by rw [hRQ]; exact .head _
    have r2 : (s1.heap.objs.size + 1, od) ∈ RQ := by rw [hRQ]; exact .tail _ (.head _)
    have r3 : (x, instObj 103 dx) ∈ RQ := by rw [hRQ]; exact .tail _ (.tail _ (.head _))
    have hl50 : (ns.take 50).length < 1000 := by rw [List.length_take]; omega
    have hi2 : (i : Int) ≤ 1 := by
      have : i < 2 := hi'
      omega
    with_unfolding_all refine turn_ok (L := s1.heap.objs.size) (x := x) (od := od) (R := RQ ++ own) ?hbody ?hsc ?hcl K0 F4 kX N4 Tc rfl offT (by k_ne) (by k_ne) (by k_ne) (inR _ r1) (hI.take 50) hl50 hc0 (by omega) ((if_neg (by decide)).trans hmD) hqb hod (inR _ r2) (inR _ r3) ?hE ?hd ?hu (fun m' c' tc' qb' vb' sp' h' tk' e1 e2 e3 e4 e5 e6 => ?_)
    case hbody => with_unfolding_all rfl
    case hsc => with_unfolding_all rfl
    case hcl => with_unfolding_all rfl
    case hE => passes_own
    case hd => first | ktr_room | decide | (simp only [recursionLimit]; decide)
    case hu => first | ke_room | decide
    refine InvEndG.intro (nx := canN w.params D1 c' tc' dl s1.heap.objs.size qb' dx (tkq + 1) sp' RQ) e5 e6 ⟨c', tc', qb', vb', sp', e1, rfl, by omega, by omega, e4⟩ offO ?_ ?_
    · exact fun p hp => List.mem_append_left own hp
    · exact fun p hp => List.mem_append_right (canN w.params D1 c' tc' dl s1.heap.objs.size qb' dx (tkq + 1) sp' RQ) hp
  · rintro m₁ nx h tk ⟨c, tc, qb, vb, sp, hmD, rfl, hc0, hc1, hqb⟩ F4 N4
    have F5 := fr_know (x := Str.ofString "deck") F4 hmD
    have hI5 := hI.take 50
    have hl50 : (ns.take 50).length < 1000 := by rw [List.length_take]; omega
    clear F4 FL NL NJ offQ
    subst hRQ
    dsimp only [canN] at N4
    have hc2 : c ≤ 120 := by
      have : ((2 : Nat) : Int) = 2 := rfl
      omega
    w_strict k_steps
    replace F5 : Fr T.heap s1.heap.objs.size h (fun y => if y = Str.ofString "deck" then some (Value.ref dl) else m₁ y) := by with_unfolding_all exact F5
    replace N4 : News T.heap s1.heap.objs.size h ((dl, deckO D1 c tc 0) :: (s1.heap.objs.size + 1 + 1, qb) :: (dx, spansDict w.params (tkq + 1) sp) :: (D1, listOf (vs.take 50).toArray 0) :: (s1.heap.objs.size + 1, od) :: (x, instObj 103 dx) :: []) := by with_unfolding_all exact N4
    have N5 := cb_drop (news := (dl, deckO D1 c tc 0) :: (dx, spansDict w.params (tkq + 1) sp) :: (D1, listOf (vs.take 50).toArray 0) :: (s1.heap.objs.size + 1, od) :: (x, instObj 103 dx) :: []) N4 (by kqd_sub)
    refine try_use (dk := dl) (l0 := D1) (vsI := vs.take 50) (ns := ns.take 50) (k0 := 0) (h₀ := T.heap) (m := fun y => if y = Str.ofString "deck" then some (Value.ref dl) else m₁ y) (news := (dl, deckO D1 c tc 0) :: (dx, spansDict w.params (tkq + 1) sp) :: (D1, listOf (vs.take 50).toArray 0) :: (s1.heap.objs.size + 1, od) :: (x, instObj 103 dx) :: []) (L := s1.heap.objs.size) (sc := lawSc w.params) (cl := cellsFrom (s1.heap.objs.size + 1) (lawSc w.params).names []) (a := fa) (ccd := .ref a1) (c := c) (tc := tc) (t0 := tkq + 1) (sp := sp) (dx := dx) (x := x) (od := od) (R := (D1, listOf (vs.take 50).toArray 0) :: (s1.heap.objs.size + 1, od) :: (x, instObj 103 dx) :: []) ?hM ?hA ?he ?hst rfl rfl K0 F5 kX N5 Tc rfl ?offR (by k_ne) (.head _) hI5 hl50 hc0 (by omega) rfl hod (.tail _ (.head _)) (.tail _ (.tail _ (.head _))) (fun m' g' h' tk' Tg FG => ?_)
    case hM => with_unfolding_all rfl
    case hA => with_unfolding_all rfl
    case he => with_unfolding_all rfl
    case hst => with_unfolding_all rfl
    case offR => exact own_hd (by repeat' (first | exact List.forall_mem_nil _ | refine List.forall_mem_cons.mpr ⟨by k_ne, ?_⟩)) (own_hd (by repeat' (first | exact List.forall_mem_nil _ | refine List.forall_mem_cons.mpr ⟨by k_ne, ?_⟩)) (own_hd (by repeat' (first | exact List.forall_mem_nil _ | refine List.forall_mem_cons.mpr ⟨by k_ne, ?_⟩)) (fun _ h => nomatch h)))
    have FZ : Fr s1.heap s1.heap.objs.size h' m' := ⟨FG.ns, fun b o e => FG.keep b o (Tg.other b o e List.not_mem_nil), Nat.le_refl _⟩
    show GoodW _ _ _ _ _ (.ok (.ret (.bool true))) _
    refine goodW_bool FZ hg (raisesW_false ?_) ?_
    · wrow_none_raised
    · first | wrow_post | kc_post)

end
end Mine

theorem PySem.Challenge.cw_ok0042_02_holds : PySem.Challenge.rw_ok0042_02.Holds :=
  Mine.main2
