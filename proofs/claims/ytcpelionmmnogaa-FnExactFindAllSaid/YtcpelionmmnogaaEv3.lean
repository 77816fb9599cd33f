/- An evaluator over the abstract machine's values: typed words, and the bundles by which simp runs it. No condition. -/
import Derived.Test.YtcpelionmmnogaaEv2
namespace Go.Proofs.Ytcpelionmmnogaa.Am
open Go
set_option linter.unusedVariables false
set_option linter.unusedSimpArgs false

section
variable {α β γ : Type} {c : α → List AV}
theorem t_inb (xs : List α) (i) : inb (xs.map c) i = inb xs i := by simp [inb]
theorem t_ln (xs : List α) : lnR (xs.map c) = ln xs := by simp [lnR, ln]
theorem t_row [Inhabited α] (xs : List α) (i : Int) (h : inb xs i = true) : rowOf (xs.map c) i.toNat = c (gt xs i) := by
  obtain ⟨h0, h1⟩ := inb_iff.1 h
  have h2 : i.toNat < xs.length := by omega
  simp [rowOf, gt, List.getD_eq_getElem?_getD, h2]
theorem t_blt (xs : List α) (i : Int) (h : inb xs i = true) : inbN (xs.map c) i.toNat = true := by
  unfold inbN
  obtain ⟨h0, h1⟩ := inb_iff.1 h
  rw [Nat.blt_eq]; simp; omega
theorem t_set (xs : List α) (i : Int) (x : α) : (xs.map c).set i.toNat (c x) = (xs.set i.toNat x).map c := by rw [List.map_set]
theorem t_cut (xs : List α) (l h : Int) : cut (xs.map c) l h = (cut xs l h).map c := by simp [cut, List.map_take, List.map_drop]
theorem t_app (xs ys : List α) : xs.map c ++ ys.map c = (xs ++ ys).map c := by simp
theorem t_len (xs : List α) : (xs.map c).length = xs.length := by simp
theorem t_inbset (xs : List α) (n : Nat) (x : α) (i : Int) : inb (xs.set n x) i = inb xs i := by simp [inb]
theorem t_gtset [Inhabited α] (xs : List α) (x : α) (i : Int) (h : inb xs i = true) : gt (xs.set i.toNat x) i = x := by
  obtain ⟨h0, h1⟩ := inb_iff.1 h
  have h2 : i.toNat < xs.length := by omega
  simp [gt, List.getD_eq_getElem?_getD, h2]
theorem t_setset (xs : List α) (n : Nat) (x y : α) : (xs.set n x).set n y = xs.set n y := by simp
theorem t_bindmap (o : Option α) (g : β → γ) (f : α → Option β) : (o.bind f).map g = o.bind fun x => (f x).map g := by cases o <;> rfl
theorem t_needmap (b : Bool) (o : Option β) (g : β → γ) (l) : (need b o l).map g = need b (o.map g) () := by cases b <;> rfl
theorem t_condmap (b : Bool) (x y : Option β) (g : β → γ) : (cond b x y).map g = cond b (x.map g) (y.map g) := by cases b <;> rfl
theorem t_evomap {ρ δ : Type} (p : ρ → Option β) (q : δ → Option β) (x) (g : β → γ) : (evO p q x).map g = evO (fun r => (p r).map g) (fun r => (q r).map g) x := by cases x <;> rfl
theorem t_bind_some (x : α) (f : α → Option β) : (some x).bind f = f x := _root_.id rfl
theorem t_bind_bind (o : Option α) (f : α → Option β) (g : β → Option γ) : (o.bind f).bind g = o.bind fun x => (f x).bind g := by cases o <;> rfl
theorem t_sum_l {α' β' : Type} (f : α → α') (g : β → β') (x) : Sum.map f g (.inl x) = .inl (f x) := _root_.id rfl
theorem t_sum_r {α' β' : Type} (f : α → α') (g : β → β') (x) : Sum.map f g (.inr x) = .inr (g x) := _root_.id rfl
end
/-- xs, told as rows. -/
class EncR {α : Type} (c : α → List AV) (r : List AV) (x : outParam α) : Prop where
  eq : r = c x
class EncL {α : Type} (c : α → List AV) (R : List (List AV)) (xs : outParam (List α)) : Prop where
  eq : R = xs.map c
instance {α : Type} (c : α → List AV) (x : α) : EncR c (c x) x := ⟨rfl⟩
instance {α : Type} (c : α → List AV) (xs : List α) : EncL c (xs.map c) xs := ⟨rfl⟩
instance {α : Type} (c : α → List AV) : EncL c [] [] := ⟨rfl⟩
instance {α : Type} (c : α → List AV) (r R x xs) [h : EncR c r x] [H : EncL c R xs] : EncL c (r :: R) (x :: xs) := ⟨by rw [h.eq, H.eq]; rfl⟩
instance {α : Type} (c : α → List AV) (R S xs ys) [h : EncL c R xs] [H : EncL c S ys] : EncL c (R ++ S) (xs ++ ys) := ⟨by rw [h.eq, H.eq]; simp⟩
instance {α : Type} (c : α → List AV) (R xs) (i : Nat) (r x) [h : EncL c R xs] [H : EncR c r x] : EncL c (R.set i r) (xs.set i x) := ⟨by rw [h.eq, H.eq, List.map_set]⟩
instance {α : Type} (c : α → List AV) (n : Nat) (r x) [H : EncR c r x] : EncL c (List.replicate n r) (List.replicate n x) := ⟨by rw [H.eq, List.map_replicate]⟩
theorem t_apps {α : Type} {c : α → List AV} (xs : List α) (R) {ys} [h : EncL c R ys] : xs.map c ++ R = (xs ++ ys).map c := by rw [h.eq]; simp
theorem t_setR {α : Type} {c : α → List AV} (xs : List α) (n : Nat) (R) {x} [h : EncR c R x] : (xs.map c).set n R = (xs.set n x).map c := by rw [h.eq, List.map_set]
theorem t_clean {α : Type} {c : α → List AV} (h : ∀ x, cleans (c x) = true) (xs : List α) : cleanRows (xs.map c) = true := by
  induction xs with
  | nil => simp [cleanRows]
  | cons x xs ih => simp [cleanRows, h, ih]
theorem t_lend {α : Type} {c c' : α → List AV} (h : ∀ x, lendRow (c x) = c' x) (xs : List α) : lendRows (xs.map c) = xs.map c' := by
  induction xs with
  | nil => simp [lendRows]
  | cons x xs ih => simp [lendRows, h, ih]

theorem t_empO {α : Type} {c : α → List AV} (xs : List α) (n b : Nat) (m) : oemp (xs.map c).isEmpty (some (AV.own n [])) (need (rm (0 + xs.length) b) (some (AV.own n (xs.map c))) m) = need (rm (0 + xs.length) b) (some (AV.own n (xs.map c))) () := by
  cases xs with
  | nil => simp [oemp, oeq, need, rm]
  | cons r R => rfl
/-! the bundles -/
set_option linter.defProp false
set_option maxRecDepth 100000
def evA := And.intro @m_obind <| And.intro @c_skip <| And.intro @c_ret <| And.intro @c_exit <| And.intro @c_seq <| And.intro @c_cond <| And.intro @c_block <| And.intro @c_region <| And.intro @c_regN0 <| And.intro @c_regN1 <| And.intro @c_regA0 <| And.intro @c_regA1 <| And.intro @c_Ns <| And.intro @c_Nt <| And.intro @w_set <| And.intro @n_z0 <| And.intro @n_zs <| And.intro @r_fA_n <| And.intro @r_fA_r <| And.intro @c_nilA <| And.intro @c_consA <| And.intro @c_consAn <| And.intro @oA_move <| And.intro @oA_assign <| And.intro @oA_load <| And.intro @oA_store <| And.intro @oA_fa <| And.intro @oA_ia <| And.intro @oA_ext <| And.intro @oA_bin <| And.intro @oA_box <|  And.intro @oA_call <| And.intro @oA_bslice <| And.intro @o_mki <| And.intro @o_pan <| And.intro @c_drawn <| And.intro @c_drT0 <| And.intro @c_drT1 <| And.intro @t_done <| And.intro @t_one <| And.intro @t_one1 <| And.intro @t_alt <| And.intro @c_reg <|
  And.intro @c_reg0 <| And.intro @c_reg1 <| And.intro @c_loop <| And.intro @c_loop1 <| And.intro @c_then_n <| And.intro @c_then_r <| And.intro @c_then_e <| And.intro @c_blk_n <| And.intro @c_blk_r <| And.intro @c_blk_e <|
  And.intro @c_nil <| And.intro @c_cons <| And.intro @c_consn <| And.intro @c_g <| And.intro @c_gn <| And.intro @c_gd1 <| And.intro @c_gd0 <| And.intro @c_gdu <|
  And.intro @c_tag_region <| And.intro @c_tag_seq <| And.intro @c_tag_cond <| And.intro @c_tag_block <| And.intro @c_tag_loop <|
  And.intro @o_move <| And.intro @o_assign <| And.intro @o_pick <| And.intro @o_alloc <| And.intro @o_box <| And.intro @o_build <| And.intro @o_bslice <| And.intro @o_load <| And.intro @o_store <| And.intro @o_bin <| And.intro @o_bini <| And.intro @o_binb <| And.intro @o_bins <| And.intro @o_binn <| And.intro @o_mkf <| And.intro @o_cvb <| And.intro @o_cvt <| And.intro @o_slc <| And.intro @o_six <| And.intro @o_un <|
  And.intro @o_fa <| And.intro @o_ia <| And.intro @o_ext <| And.intro @o_len <| And.intro @o_min <| And.intro @o_max <| And.intro @o_call <| And.intro @o_ocall <| And.intro @a_app <| And.intro @a_mk <|
  And.intro @e_up <| And.intro @e_wipe <| And.intro @e_frm_nil <| And.intro @e_frm_cons <| And.intro @e_args_nil <| And.intro @e_args_zero <| And.intro @e_args_succ <| And.intro @e_ev_tmp <| And.intro @e_ev_const <| And.intro @e_ev_func <|
  And.intro @e_cond_t <| And.intro @e_cond_f <| And.intro @e_need_t <| And.intro @e_obind_some <| And.intro @e_lk_nil <| And.intro @e_lk_cons <|
  And.intro @r_fin_n <| And.intro @r_fin_r <| And.intro @n_norm <| And.intro @n_nil <| And.intro @n_r <| And.intro @n_s <| And.intro @n_cn <| And.intro @n_cr <| And.intro @n_ce <|
  And.intro @f_seq <| And.intro @f_cond <| And.intro @f_block <| And.intro @f_loop <| And.intro @f_region <| And.intro @f_skip <| And.intro @f_ret <| And.intro @f_exit <| And.intro @f_or0 <| And.intro @f_ors <|
  And.intro @getD_some <| And.intro @getD_none <| And.intro @cpF_eq <| And.intro @caF_eq <| And.intro @lpF_eq @i_fst
def evB := And.intro @n_nil <| And.intro @n_r <| And.intro @n_s <| And.intro @c_jbind <| And.intro @e_sel_t <| And.intro @e_sel_f <| And.intro @e_cond_t <| And.intro @e_cond_f <| And.intro @e_need_t <| And.intro @e_obind_some <| And.intro @c_reg0 <| And.intro @c_reg1 <| And.intro @c_loop1 <| And.intro @c_gd1 <| And.intro @c_gd0 <| And.intro @f_or0 <| And.intro @f_ors <| And.intro @getD_some <| And.intro @getD_none <| And.intro @c_drT0 <| And.intro @c_drT1 <| And.intro @t_one1 <| And.intro @t_done <| And.intro @oeq_self <| And.intro @c_regN0 <| And.intro @c_regN1 <| And.intro @n_z0 <| And.intro @n_zs <| And.intro @n_p0 <| And.intro @n_ps <| And.intro @n_c0 <| And.intro @n_cs <| And.intro @n_o0 <| And.intro @n_o1 <| And.intro @s_w <| And.intro @w_j <| And.intro @w_s <| And.intro @w_r0 <| And.intro @w_rs <| And.intro @w_rsl <| And.intro @w_ragg <| And.intro @w_ri <| And.intro @w_rb <| And.intro @w_rst <| And.intro @w_rn <| And.intro @w_rm <| And.intro @w_a0 <| And.intro @w_as <| And.intro @w_asl <| And.intro @w_aagg <| And.intro @w_ai <| And.intro @w_ab <| And.intro @w_ast <| And.intro @w_an <| And.intro @w_am <| And.intro @w_ix <| And.intro @w_k0 <| And.intro @w_ks <| And.intro @w_p0 <| And.intro @w_ps <| And.intro @w_l0 <| And.intro @w_ls <| And.intro @w_si <| And.intro @w_sb <| And.intro @w_ss <| And.intro @w_fi <| And.intro @w_fb <| And.intro @w_fs <| And.intro @w_ft <| And.intro @w_o1 <| And.intro @w_p <| And.intro @w_jl <| And.intro @w_x <| And.intro @w_n <| And.intro @w_set <| And.intro @r_tk0 <| And.intro @r_tks <| And.intro @caF_eq <| And.intro @e_empc <| And.intro @e_nf <| And.intro @c_regA0 <| And.intro @c_regA1 <| And.intro @s_t <| And.intro @s_q <| And.intro @s_f <| And.intro @q_sl <| And.intro @q_lst <| And.intro @q_some <| And.intro @s_sl <| And.intro @s_lst <| And.intro @s_some <| And.intro @s_ints <| And.intro @c_ord0 <| And.intro @c_ord1 <| And.intro @c_pk0 <| And.intro @c_pks <| And.intro @c_pkO <| And.intro @c_ordP <| And.intro @m_at0 <| And.intro @m_ats <| And.intro @m_atA <| And.intro @m_obind <| And.intro @cpF_eq <| And.intro @lpF_eq <| And.intro @e_lk_nil <| And.intro @c_tag_region <|
  And.intro @e_ble <| And.intro @e_blt <| And.intro @e_dt <| And.intro @e_df <| And.intro @m_inb0 <| And.intro @m_inbs <| And.intro @e_olet <| And.intro @e_oletK <| And.intro @e_cv_bool <| And.intro @e_cv_int <| And.intro @e_cv_str <| And.intro @e_cv_nil <| And.intro @e_obind_map <| And.intro @c_cnd <| And.intro @c_asB <| And.intro @c_gd <| And.intro @o_who <|
  And.intro @b_add <| And.intro @b_sub <| And.intro @b_mul <| And.intro @b_quo <| And.intro @b_rem <| And.intro @b_eql <| And.intro @b_neq <| And.intro @b_lss <| And.intro @b_leq <| And.intro @b_gtr <| And.intro @b_geq <| And.intro @b_not <| And.intro @b_neg <|
  And.intro @b_eqa <| And.intro @b_nea <| And.intro @b_eqE <| And.intro @b_eqb <| And.intro @b_neb <| And.intro @m_and0 <| And.intro @b_sadd <| And.intro @b_seql <| And.intro @b_sneq <| And.intro @m_tup <| And.intro @m_tupE <| And.intro @b_ce0 <| And.intro @b_cei <| And.intro @b_ceb <| And.intro @b_ces <| And.intro @m_idxa <| And.intro @m_idxA <| And.intro @m_slc1 <| And.intro @m_slc2 <| And.intro @m_slc3 <| And.intro @m_sls1 <| And.intro @m_sls2 <| And.intro @m_sls3 <| And.intro @m_six <| And.intro @m_arrs <|
  And.intro @b_pickb <| And.intro @b_pickt <| And.intro @b_pickf <| And.intro @c_jbs <| And.intro @c_jcond <| And.intro @c_and <| And.intro @c_or <| And.intro @c_nand <| And.intro @e_obind_lmap <| And.intro @b_min <| And.intro @b_max <|
  And.intro @m_kg0 <| And.intro @m_kgs <| And.intro @m_set0 <| And.intro @m_sets <| And.intro @m_app <| And.intro @m_app0 <| And.intro @m_len0 <| And.intro @m_lens <| And.intro @m_drop0 <| And.intro @m_drops <| And.intro @m_take0 <| And.intro @m_takes <|
  And.intro @m_cvi' <| And.intro @m_bst <| And.intro @m_bstl <| And.intro @m_bsts <| And.intro @bo_nil <| And.intro @bo_cons <| And.intro @m_isn <| And.intro @m_isnn <| And.intro @m_empS <| And.intro @m_empO <| And.intro @m_lenimm <| And.intro @m_lennil <| And.intro @m_lensl <| And.intro @m_lenlst <| And.intro @m_lenstr <| And.intro @m_addi <| And.intro @m_add <| And.intro @m_addE <| And.intro @m_idxi <| And.intro @m_idx <| And.intro @m_idxE <|
  And.intro @m_ci <| And.intro @m_c <| And.intro @m_cbox <| And.intro @m_clst <| And.intro @m_map0 <| And.intro @m_maps <| And.intro @m_ldb <| And.intro @m_ldi <| And.intro @m_lds <| And.intro @m_ldimm <| And.intro @m_ldnil <| And.intro @m_ldown <|
  And.intro @m_load1 <| And.intro @m_loada <| And.intro @m_loadA <| And.intro @m_alloc <| And.intro @m_ok <| And.intro @m_boxa <| And.intro @m_boxi <| And.intro @m_all0 <| And.intro @m_alls <|
  And.intro @m_ckb <| And.intro @m_cki <| And.intro @m_cks <| And.intro @m_ckn <| And.intro @m_ckimm <| And.intro @m_ckclo <| And.intro @m_cksl <| And.intro @m_ckptr <| And.intro @m_is <| And.intro @m_clb <| And.intro @m_cli <| And.intro @m_cls <| And.intro @m_cln <| And.intro @m_climm <| And.intro @m_and <|
  And.intro @m_store <| And.intro @m_storeb <| And.intro @m_storel <| And.intro @m_stC1 <| And.intro @m_stC0 <| And.intro @m_ab <| And.intro @m_cva <| And.intro @m_cvi <| And.intro @m_cvb <| And.intro @m_cvs <| And.intro @m_cvn <| And.intro @m_cvm <| And.intro @m_cvl <| And.intro @m_clsl <| And.intro @m_cqb <| And.intro @m_cqi <| And.intro @m_cqs <| And.intro @m_cqn <| And.intro @m_cqm <| And.intro @nz_0 <| And.intro @nz_n <| And.intro @nz_c <| And.intro @nz_b <| And.intro @nz_i <| And.intro @nz_s <| And.intro @nz_l <| And.intro @nz_o <| And.intro @nz_m <| And.intro @fx_z <| And.intro @fx_n <| And.intro @fx_a <| And.intro @fx_0 <| And.intro @fx_1 <| And.intro @fx_2 <| And.intro @fx_Z <| And.intro @fx_Z0 <| And.intro @m_fta <| And.intro @m_ftl <| And.intro @m_puta <| And.intro @m_putb <| And.intro @m_puti <| And.intro @m_puts <| And.intro @m_putn <| And.intro @m_putsl <| And.intro @m_putimm <| And.intro @m_pc <|
  And.intro @r_nil <| And.intro @r_tmp <| And.intro @r_cell <| And.intro @r_map_some <| And.intro @r_map_none <| And.intro @r_one <| And.intro @r_two <| And.intro @r_none <| And.intro @x_b <| And.intro @x_i <| And.intro @x_s <| And.intro @x_nil <| And.intro @x_agg <| And.intro @x_tup <| And.intro @x_sl <| And.intro @x_lst <| And.intro @x_snil <| And.intro @x_scons <| And.intro @x_sE <|
  And.intro @n_ssl <| And.intro @n_sptr <| And.intro @n_snil <| And.intro @n_nd0 <| And.intro @n_nds <| And.intro @n_kr <| And.intro @n_krn0 <| And.intro @n_krns <| And.intro @n_reb <| And.intro @n_rel <| And.intro @n_rs0 <| And.intro @n_rss <| And.intro @n_slO <| And.intro @n_slN <| And.intro @n_ptrO <| And.intro @n_ptrN <|
  And.intro @n_resl <| And.intro @n_reptr <| And.intro @n_reagg <| And.intro @n_retup <| And.intro @n_reclo <| And.intro @n_reb' <| And.intro @n_rei <| And.intro @n_res <| And.intro @n_ren <| And.intro @n_reu <| And.intro @n_reimm <| And.intro @n_reiptr <| And.intro @n_pos0 <| And.intro @n_poss <| And.intro @n_fren <| And.intro @n_frl0 <| And.intro @n_frls <|
  And.intro @l_0 <| And.intro @l_s <| And.intro @l_sl <| And.intro @l_lst <| And.intro @l_sl' <| And.intro @l_ptr <| And.intro @l_pbox <| And.intro @l_plst <| And.intro @l_iptr <| And.intro @l_Bsl <| And.intro @l_Bb <| And.intro @l_Bi <| And.intro @l_Bs <| And.intro @l_Bn <| And.intro @l_Bm <| And.intro @m_row0 <| And.intro @l_agg <| And.intro @l_tup <| And.intro @l_clo <| And.intro @l_b <| And.intro @l_i <| And.intro @l_st <| And.intro @l_n <| And.intro @l_imm <| And.intro @l_rows0 <| And.intro @l_rowss <| And.intro @l_row0 <| And.intro @l_rows <| And.intro @l_cb <| And.intro @l_ci <| And.intro @l_cs <| And.intro @l_cn <| And.intro @l_cimm <| And.intro @l_cown <|
  And.intro @i_own <| And.intro @i_agg <| And.intro @i_tup <| And.intro @i_b <| And.intro @i_i <| And.intro @i_st <| And.intro @i_n <| And.intro @i_s0 <| And.intro @i_ss <| And.intro @i_fst <| And.intro @i_snd <|
  And.intro @s_bst <| And.intro @s_barr <| And.intro @s_b1s <| And.intro @s_b0 <| And.intro @s_b <| And.intro @s_b1 <| And.intro @s_b2 <| And.intro @s_f0 <| And.intro @s_fs <| And.intro @s_f1 <| And.intro @s_aa <| And.intro @s_ab <| And.intro @s_ai <| And.intro @s_as <| And.intro @s_an <| And.intro @s_aimm <| And.intro @s_asl <| And.intro @s_z0 <| And.intro @s_zs <|
  And.intro @s_ab0 <| And.intro @s_abb <| And.intro @s_abi <| And.intro @s_abs <| And.intro @s_abn <| And.intro @s_abimm <| And.intro @s_absl <| And.intro @s_abE <| And.intro @s_ro0 <| And.intro @s_ros <|
  And.intro @a_bnd <| And.intro @a_mk1 <| And.intro @a_eq <| And.intro @c_gdu <| And.intro @a_1 <| And.intro @a_2 <| And.intro @a_3 <| And.intro @a_4 <| And.intro @a_s0 <| And.intro @a_si <| And.intro @a_ss @a_sE
def evT := And.intro @t_inb <| And.intro @t_empO <| And.intro @t_cut <| And.intro @t_ln <| And.intro @t_row <| And.intro @t_blt <| And.intro @t_setR <| And.intro @t_apps <| And.intro @w64_eq <| And.intro @t_len <| And.intro @t_inbset <| And.intro @t_gtset <| And.intro @t_setset <| And.intro @evO_r <| And.intro @evO_b <| And.intro @t_bindmap <| And.intro @t_needmap <| And.intro @t_condmap <| And.intro @t_bind_some <| And.intro @t_evomap <| And.intro @t_bind_bind <| And.intro @t_sum_l @t_sum_r
end Go.Proofs.Ytcpelionmmnogaa.Am
