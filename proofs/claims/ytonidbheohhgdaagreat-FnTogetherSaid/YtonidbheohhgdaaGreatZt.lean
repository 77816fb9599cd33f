import Derived.Test.YtonidbheohhgdaaGreatZs
import Derived.Test.YtonidbheohhgdaaGreatSt
import Derived.Test.YtonidbheohhgdaaGreatSg
import Derived.Test.YtonidbheohhgdaaGreatEc
namespace Go.Proofs.YtonidbheohhgdaaGreat
open Go Go.Proofs Go.Proofs.YtonidbheohhgdaaGreat.Am
set_option linter.unusedVariables false
set_option linter.unusedSimpArgs false
set_option maxRecDepth 100000
instance wd0:Wd:=⟨fun _=>True,fun _ _=>trivial⟩
theorem Qvm:SortP Tryz.prog 66 :=
 SortP.of (EnterOK.of (fn:=Tryz.f66) Tryz.func66 rfl (by decide)) (fun blk off cap zs w h1 h2 h3=>Tryz.slices_Sort_int blk off cap zs w h1 h2 h3) (fun p cap w=>Tryz.slices_Sort_int_none p cap w)
theorem QPg:∀g,T.st g=true→SortP T.P g:=by
 intro g h;have h':Nat.beq g 66=true:=h;have hg:g=66:=Nat.eq_of_beq_eq_true h';subst hg;exact Qvm
theorem Qve:CompP Tryz.prog 224 :=
 CompP.of (EnterOK.of (fn:=Tryz.f224) Tryz.func224 rfl (by decide)) (fun blk off cap zs w h1 h2 h3=>Tryz.slices_Compact_int blk off cap zs w h1 h2 h3) (fun p cap w=>Tryz.slices_Compact_int_empty p cap w)
theorem QOT:∀g,T.qt g=true→CompP T.P g:=by
 intro g h;have h':Nat.beq g 224=true:=h;have hg:g=224:=Nat.eq_of_beq_eq_true h';subst hg;exact Qve
theorem Quk(x:Int)(h0:0≤x)(h1:x≤17592186044416):PC Tryz.prog 269 [.nil,.i .i64 x] (·=.own 1 []) :=
 QzP (EnterOK.of (fn:=Tryz.f269) Tryz.func269 rfl (by decide)) (fun base l c n w h1 h2 h3 h4=>Any8.slices_Grow_room Tryz.growI base l c n w h1 h2 h3 h4)
  (fun base l c n cs w h1 h2 h3 h4 h5 h6 h7=>Calls.mono (Any8.slices_Grow_grow Tryz.growI _ (.int .i64 0) rfl rfl (by decide) base l c n cs w h1 h2 h3 h4 h5 h6 h7) fun e w' h=>⟨_,h⟩) x h0 h1
theorem QRS:∀g args x,T.xt g args=some x→PC T.P g args (·=x):=by
 intro g args x h0;have h:xt g args=some x:=h0;clear h0;unfold xt at h
 split at h
 ·rename_i y
  split at h
  ·rename_i hg
   subst hg;unfold Zi nd at h;have hb:(decide (0≤y)&&decide (y≤17592186044416))=true:=by
    cases hc:(decide (0≤y)&&decide (y≤17592186044416))with
    |true=>rfl
    |false=>rw[hc]at h;cases h
   rw[hb]at h;simp only[Bool.and_eq_true,decide_eq_true_eq]at hb;injection h with h
   subst h;exact Quk y hb.1 hb.2
  ·cases h
 ·cases h
end Go.Proofs.YtonidbheohhgdaaGreat
