/-
  A part of a proof: the last text of the claim says what is proved, and under which conditions.
-/
import Derived.Test.YtfdmcaddpfmchaaGreatDoorM15
import Derived.Test.YtfdmcaddpfmchaaGreatDoorM9
import Derived.Test.YtfdmcaddpfmchaaGreatDoorM19
import Derived.WideKeyArgs
import Derived.Carry
set_option linter.unusedSimpArgs false
set_option linter.unusedVariables false
set_option linter.unnecessarySimpa false
/-
  AlphaSplit: the row and its card, from the run.
-/
namespace Go.Proofs.YtfdmcaddpfmchaaGreatDoor
open Go Go.Vm Go.ChangeShapes Go.WideShapes Go.ChangeAt Go.RowKit
theorem laidOut11:laidOutB Tryz.prog=true:=by kernel_rfl
theorem fits11_0:fits Tryz.prog (.st [.sl 3 (.st [.str,.int .i64,.int .i64]),.sl 4 (.st [.str,.int .i64,.sl 6 (.st [.int .i64,.st [.str,.sl 4 (.st [.str,.st [.int .i64,.int .i64,.str]])],.int .i64,.sl 5 (.st [.int .i64,.str,.st [.int .i64,.int .i64,.str]]),.sl 5 (.st [.int .i64,.str,.st [.int .i64,.int .i64,.str]])]),.sl 4 (.st [.int .i64,.str,.sl 1 (.sl 5 (.st [.int .i64,.str,.st [.int .i64,.int .i64,.str]])),.int .i64])]),.sl 4 (.st [.str,.st [.str,.sl 4 (.st [.str,.st [.int .i64,.int .i64,.str]])],.sl 5 (.st [.int .i64,.st [.str,.sl 4 (.st [.str,.st [.int .i64,.int .i64,.str]])],.int .i64,.int .i64])])]) 31=true:=by kernel_rfl
theorem rec11_0:Tryz.prog.readableRec 31=true:=by kernel_rfl
theorem row11_0:31<Tryz.prog.types.size:=of_decide_eq_true (by kernel_rfl)
theorem fits11_1:fits Tryz.prog (.sl 2 (.st [.str,.sl 3 (.st [.int .i64,.int .i64,.str])])) 96=true:=by kernel_rfl
theorem rec11_1:Tryz.prog.readableRec 96=true:=by kernel_rfl
theorem row11_1:96<Tryz.prog.types.size:=of_decide_eq_true (by kernel_rfl)
set_option maxRecDepth 100000 in
theorem lifted11 (os:Os) (started:os.Started) (H:Type) (enc:TypeId × Value→H) :
  ReturnsInHanded {} Tryz.checked os 11 .any (fun w args=>(Rows.alphaSplitSpec.pre enc Tryz.prog Tryz.f11 [] false w args∧laidMetH Tryz.prog Rows.alphaSplitRow.laid w)∧sizedMet enc Tryz.prog Tryz.f11 (OpenSpec.ofChange Rows.alphaSplitSpec) false w args)
   (Rows.alphaSplitSpec.post enc Tryz.prog Tryz.f11 false true false false):=by
 refine returnsInHanded_of_change_and (C:=Tryz.checked) (X:=fun w _=>laidMetH Tryz.prog Rows.alphaSplitRow.laid w) (fun _ _ _ hh h=>h.of_heap hh) own started (by kernel_rfl) Tryz.func11
  (ChangeSpec.witness_shaped (enc:=enc) (C:=Tryz.checked) (os:=os) (X:=fun w _=>laidMetH Tryz.prog Rows.alphaSplitRow.laid w) false (World.laidAll Tryz.prog os Rows.alphaSplitRow.laid) #[.agg #[.slice none 0 0,.slice none 0 0,.slice none 0 0],.slice none 0 0] 8 (World.laidAll_os _ _ _)
   (World.shaped_of_ZipB (by kernel_rfl) (by kernel_rfl)) (by kernel_rfl) (by kernel_rfl) (by kernel_rfl)
   (by rw[MakeChecks.laidMetH_plain _ _ _ (by kernel_rfl)];exact laidMet_laidAll _ (by kernel_rfl) (by kernel_rfl))) ?_
 intro W base args ds gs before hval0 hW _ hwt hX _
 have hval:∀ (j:Nat) t v,Tryz.f11.params[j]? = some t→args[j]? = some v→Value.okWide Tryz.prog W .any base t v:=hval0
 have hW':=hW
 obtain⟨p,q,hA0,hV,rfl,_,_⟩:=hW
 have hA:DataW.TrodAll enc Tryz.prog W 0 (fun _=>true) true Tryz.f11.params.toList args.toList ds p:=hA0
 rw[Tryz.params11] at hA hval hwt
 obtain⟨v0,v1,d0,d1,p0,p1,rfl,rfl,rfl,h0,h1⟩:=trodAll_two hA
 obtain⟨rfl,rfl⟩:=trodVars_none hV
 obtain⟨x0,hx0,r0⟩:=open_val fits11_0 (hval 0 31 v0 rfl rfl) h0 (weightsEach_get hwt (j:=0) rfl rfl)
 obtain⟨x1,hx1,r1⟩:=open_val fits11_1 (hval 1 96 v1 rfl rfl) h1 (weightsEach_get hwt (j:=1) rfl rfl)
 obtain⟨wd,hcall⟩:=alphaSplit_run x0 x1 hx0 hx1
 refine(top_ok (KW:=KWX) (P:=Tryz.prog) (T:=TX) orders funs_ok prim_ok prim_q (F:=c11) rfl hcall (A:=#[v0,v1]) (w:=W) (keepsX (show KWX W from trivial)) (show KWX W from trivial) rfl (fun j x y hx hy=>?_)).mono fun e W' he=>?_
 ·match j,hx,hy with
  |0,hx,hy=>cases hx;cases hy;exact r0
  |1,hx,hy=>cases hx;cases hy;exact r1
  |j+2,hx,hy=>simp at hx
 ·cases e with
  |returned cv=>
   obtain⟨rfl,hb⟩:=he
   have hlt:=fun x hx=>hW'.lt x hx
   refine⟨_,rfl,post_of_below (pa:=(p0++p1)) (pv:=[]) hW' (fun _ _ _=>trodAll_mk1 (shut_bool Tryz.underlying4 _)) (fun sp hsp=>?_) (fun _ _=>rfl) (by simp) hb (ok_one (by kernel_rfl) rfl (okWide_bool_mk Tryz.underlying4 _))⟩
   rw[Tryz.params11]
   exact trodAll_mk2 (WideElems.Trod_stays laidOut11 rec11_0 row11_0 h0 (fun x hx=>hb.same (hlt x (by simp[hx]))) (fun x hx=>hsp x (by simp[hx]))) (WideElems.Trod_stays laidOut11 rec11_1 row11_1 h1 (fun x hx=>hb.same (hlt x (by simp[hx]))) (fun x hx=>hsp x (by simp[hx])))
  |panicked _=>cases he
  |outgrown=>cases he
end Go.Proofs.YtfdmcaddpfmchaaGreatDoor
