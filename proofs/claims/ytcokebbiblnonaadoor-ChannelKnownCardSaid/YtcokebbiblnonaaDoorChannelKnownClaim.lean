/-
  THE STATEMENT ChannelKnown: the closed law returns true.
-/
import Derived.Test.YtcokebbiblnonaaDoorAbH
import Derived.Carry
import Derived.Test.YtcokebbiblnonaaDoorChC
import Derived.Test.YtcokebbiblnonaaDoorKnX
import Derived.Test.YtcokebbiblnonaaDoorRows
import Derived.Test.YtcokebbiblnonaaDoorCards
import Derived.Test.YtcokebbiblnonaaDoorTie
set_option linter.all false
noncomputable section
namespace Go.Proofs.YtcokebbiblnonaaDoor
open Go Go.Ab
open Go.ChangeShapes Go.WideShapes Go.RowKit
set_option maxRecDepth 1000000
noncomputable def Xuv:Func:=(Tryd.prog.funcs[7]?).getD default
theorem Zb4:Kids Tryd.prog (· < Tryd.prog.types.size):=kids_rows (by kernel_rfl) (by kernel_rfl)
theorem Ytz:∀ t e,t < Tryd.prog.types.size→Tryd.prog.underlying t=some (.slice e)→0 < Tryd.prog.cellsOf e:=slices_full_of _ (by kernel_rfl)
theorem Ywc:Ab.LaidIn (Qxg nv Qbj) Qbj:=Yi8 (by kernel_rfl)
theorem own:ownKnob Tryd.prog.godebug=none:=by kernel_rfl
theorem Y38:Yy2 Tryd.prog Rows.channelKnownRow.laid nv Qbj:=by
 intro x hx
 rcases List.mem_cons.1 hx with rfl | hx
 ·exact⟨by decide,Xkg (by kernel_rfl), "mangrove/blake.begins",(Tryd.prog.globals[0]?.map (·.type)).getD 0,_,8,List.mem_cons_self,by kernel_rfl,by kernel_rfl,by kernel_rfl⟩
 ·rcases List.mem_cons.1 hx with rfl | hx
  ·exact⟨by decide,Xkg (by kernel_rfl), "mangrove/blake.orders",(Tryd.prog.globals[1]?.map (·.type)).getD 0,_,8,(List.mem_cons_of_mem _ List.mem_cons_self),by kernel_rfl,by kernel_rfl,by kernel_rfl⟩
  ·cases hx
theorem start{W:World}(h:laidMet Tryd.prog Rows.channelKnownRow.laid W):HRel ⟨nv,W.heap.size⟩ (Yh1 nv) (Qxg nv Qbj) W :=
 Ykj h Y38 (Yv3 h Y38 (1,Qx1) (by simp[Qbj]))
theorem Yt7(os:Os)(started:os.Started)(H:Type)(enc:TypeId × Value→H) :
  ReturnsInHanded {} Tryd.checked os 7 .any (fun w args=>(Rows.channelKnownSpec.pre enc Tryd.prog Xuv [] false w args∧laidMetH Tryd.prog Rows.channelKnownRow.laid w)∧sizedMet enc Tryd.prog Xuv (OpenSpec.ofChange Rows.channelKnownSpec) false w args)
   (Rows.channelKnownSpec.post enc Tryd.prog Xuv false true false false):=by
 refine returnsInHanded_of_change_and (C:=Tryd.checked) (X:=fun w _=>laidMetH Tryd.prog Rows.channelKnownRow.laid w) (fun _ _ _ hh h=>h.of_heap hh) own started (by kernel_rfl) (by kernel_rfl)
  (ChangeSpec.witness_at (enc:=enc) (C:=Tryd.checked) (os:=os) (X:=fun w _=>laidMetH Tryd.prog Rows.channelKnownRow.laid w) false (World.laidAll Tryd.prog os Rows.channelKnownRow.laid) #[] 8 (World.laidAll_os _ _ _) (by kernel_rfl) (by kernel_rfl) (by kernel_rfl) (by kernel_rfl) (by kernel_rfl)
   (laidMet_laidAll _ (by kernel_rfl) (by kernel_rfl))) ?_
 intro W base args ds gs before hval hW _ hbulk hL _
 have hL':laidMet Tryd.prog Rows.channelKnownRow.laid W:=by rw[Go.MakeChecks.laidMetH_plain _ _ _ (by kernel_rfl)]at hL;exact hL
 have HS:=start hL'
 obtain⟨p,q,hA, -⟩:=id hW
 rw[show Xuv.params.toList=[] by kernel_rfl]at hA
 obtain⟨e1,rfl,rfl⟩:=trodAll_nil hA
 obtain rfl:args = #[]:=Array.toList_eq_nil_iff.1 e1
 refine Ymr Zb4 Ytz (tb:=4) (fun t ht=>by rw[show Xuv.params.toList=[] by kernel_rfl]at ht;cases ht) (by kernel_rfl) (by kernel_rfl) rfl hW rfl ?_
 exact Yph (vs:=[]) HS (Yug _ _) (by simp) (by simp) (Y0z _ (Yxg _) Ywc _ (fun _=>rfl))
theorem Xxb:Rows.ChannelKnownSaid :=
 OpenClaim.holds_of_wide 7 Xuv rfl rfl rfl rfl rfl rfl rfl ⟨rfl,rfl,rfl,rfl,rfl⟩ rfl rfl rfl rfl rfl (by kernel_rfl) (by kernel_rfl) (by kernel_rfl)
  (of_decide_eq_true (by kernel_rfl)) (by unfold Func.isWrapper;rw[if_neg (of_decide_eq_false (by kernel_rfl))];exact⟨rfl,rfl⟩)
  (fun os started H enc _=>Yt7 os started H enc)
theorem channelKnown_holds:Rows.ChannelKnownCardSaid :=
 Claim7.holds_tied_plain_at .later [] [.widerDeep,.data] true (true, "3df5c339953eddf198bd387bb524106c95d0446289be04f5b1b60005fabaa7b6") false
  Xxb (fun _ h=>by cases h) (by kernel_rfl) (fun _ h=>by cases h) channelKnown_row_tie rfl ⟨rfl,rfl⟩ (by kernel_rfl) rfl
  (fun f fn hf hfn=>by
   obtain rfl:f=7:=Option.some.inj ((show Tryd.prog.funcNamed "mangrove/mangrovelaw17.ChannelKnown" = some 7 by kernel_rfl).symm.trans hf) |>.symm
   obtain rfl:fn=Xuv:=(Option.some.inj ((show Tryd.prog.funcs[7]? = some Xuv by kernel_rfl).symm.trans hfn)).symm
   exact⟨by kernel_rfl,fun j t ht=>by
    have:=List.all_eq_true.1 (show Xuv.params.toList.all (fun t => !Tryd.prog.wantsStandIn t)=true by kernel_rfl) t (by rw[Array.mem_toList_iff];exact Array.mem_of_getElem? ht)
    exact(by simpa using this:Tryd.prog.wantsStandIn t=false)⟩)
  (by kernel_rfl)
#print axioms channelKnown_holds
end Go.Proofs.YtcokebbiblnonaaDoor
