/-
  THE STATEMENT SweepTaken: the closed law returns true.
-/
import Derived.Test.YtgjlmnnggnajmaaGreatDoorAbG
import Derived.Test.YtgjlmnnggnajmaaGreatDoorLgS
import Derived.Test.YtgjlmnnggnajmaaGreatDoorRows
import Derived.Test.YtgjlmnnggnajmaaGreatDoorCards
import Derived.Test.YtgjlmnnggnajmaaGreatDoorTie
set_option linter.all false
noncomputable section
namespace Go.Proofs.YtgjlmnnggnajmaaGreatDoor
open Go Go.Ab
open Go.ChangeShapes Go.WideShapes Go.RowKit
set_option maxRecDepth 1000000
noncomputable def Xzc:Func:=(Tryz.prog.funcs[3]?).getD default
theorem Z0t:Kids Tryz.prog (· < Tryz.prog.types.size):=kids_rows (by kernel_rfl) (by kernel_rfl)
theorem Zf4:∀ t e,t < Tryz.prog.types.size->Tryz.prog.underlying t=some (.slice e)->0 < Tryz.prog.cellsOf e:=slices_full_of _ (by kernel_rfl)
theorem Zic:Ab.LaidIn (Q0j nv laidAll) laidAll:=Yb1 (by kernel_rfl)
theorem own:ownKnob Tryz.prog.godebug=none:=by kernel_rfl
theorem Zpu:Zks Tryz.prog Rows.sweepTakenRow.laid nv laidAll:=by
 intro x hx
 rcases List.mem_cons.1 hx with rfl | hx
 ·exact⟨by decide,Qvb (by kernel_rfl), "mangrove/blake.begins",(Tryz.prog.globals[0]?.map (·.type)).getD 0,_,8,List.mem_cons_self,by kernel_rfl,by kernel_rfl,by kernel_rfl⟩
 ·rcases List.mem_cons.1 hx with rfl | hx
  ·exact⟨by decide,Qvb (by kernel_rfl), "mangrove/pack.forms",(Tryz.prog.globals[2]?.map (·.type)).getD 0,_,8,(List.mem_cons_of_mem _ (List.mem_cons_of_mem _ (List.mem_cons_of_mem _ List.mem_cons_self))),by kernel_rfl,by kernel_rfl,by kernel_rfl⟩
  ·rcases List.mem_cons.1 hx with rfl | hx
   ·exact⟨by decide,Qvb (by kernel_rfl), "mangrove/blake.orders",(Tryz.prog.globals[1]?.map (·.type)).getD 0,_,8,(List.mem_cons_of_mem _ List.mem_cons_self),by kernel_rfl,by kernel_rfl,by kernel_rfl⟩
   ·cases hx
theorem start{W:World}(h:laidMet Tryz.prog Rows.sweepTakenRow.laid W):HRel ⟨nv,W.heap.size⟩ (Ypw nv) (Q0j nv laidAll) W :=
 Yxw h Zpu (Zhz h Zpu (2,Qp0) (by simp[laidAll]))
theorem Zfb(os:Os)(started:os.Started)(H:Type)(enc:TypeId × Value->H) :
  ReturnsInHanded {} Tryz.checked os 3 .any (fun w args=>(Rows.sweepTakenSpec.pre enc Tryz.prog Xzc [] false w args/\laidMetH Tryz.prog Rows.sweepTakenRow.laid w)/\sizedMet enc Tryz.prog Xzc (OpenSpec.ofChange Rows.sweepTakenSpec) false w args)
   (Rows.sweepTakenSpec.post enc Tryz.prog Xzc false true false false):=by
 refine returnsInHanded_of_change_and (C:=Tryz.checked) (X:=fun w _=>laidMetH Tryz.prog Rows.sweepTakenRow.laid w) (fun _ _ _ hh h=>h.of_heap hh) own started (by kernel_rfl) (by kernel_rfl)
  (ChangeSpec.witness_at (enc:=enc) (C:=Tryz.checked) (os:=os) (X:=fun w _=>laidMetH Tryz.prog Rows.sweepTakenRow.laid w) false (World.laidAll Tryz.prog os Rows.sweepTakenRow.laid) #[.agg ⟨[.int .i64 0,.int .i64 0,.int .i64 0,.int .i64 0]++List.replicate 32 (.int .u8 0) ++ [.int .i64 0,.int .i64 0,.bool false]⟩] 8 (World.laidAll_os _ _ _) (by kernel_rfl) (by kernel_rfl) (by kernel_rfl) (by kernel_rfl) (by kernel_rfl)
   (laidMet_laidAll _ (by kernel_rfl) (by kernel_rfl))) ?_
 intro W base args ds gs before hval hW _ hbulk hL _
 have hL':laidMet Tryz.prog Rows.sweepTakenRow.laid W:=by rw[Go.MakeChecks.laidMetH_plain _ _ _ (by kernel_rfl)]at hL;exact hL
 have HS:=start hL'
 obtain⟨p,q,hA, -⟩:=id hW
 rw[show Xzc.params.toList=[25] by kernel_rfl]at hA hbulk
 obtain⟨v1,d1,rfl,rfl,h1⟩:=trodAll_one hA
 have hall:∀ n ∈ DataW.weightsEach Tryz.prog ([25]++Rows.sweepTakenSpec.plain.varTypes Tryz.prog) ([d1]++gs),n<=reachBytes:=fun n hn=>by simpa using List.all_eq_true.1 hbulk n hn
 obtain⟨α1,hh1,cs,H1,o1,x1,a1,e1,k1,q1⟩:=Zgb (fs:=Zdn) (by kernel_rfl) Zkl HS (Zg6 _ _) (hval 0 25 _ (by kernel_rfl) rfl) h1 (fun n hn=>hall n (Q57 (i:=0) rfl rfl hn))
 obtain⟨x,rfl⟩:=Zqe q1
 refine Y6n Z0t Zf4 (tb:=4) (fun t ht=>by rw[show Xzc.params.toList=[25] by kernel_rfl]at ht;exact of_decide_eq_true (List.all_eq_true.1 (show [25].all (fun t=>decide (t < Tryz.prog.types.size))=true by kernel_rfl) t ht)) (by kernel_rfl) (by kernel_rfl) rfl hW rfl ?_
 exact Za6 (vs:=[.agg ⟨x.cells⟩]) H1 o1 (by simpa using k1) (by have e2:ren α1 (.agg ⟨x.cells⟩)=v1:=e1;rw[<- e2];simp) (Zpe _ x _ (Laid.old Zic a1) _ (fun _=>rfl))
theorem Yfb:Rows.SweepTakenSaid :=
 OpenClaim.holds_of_wide 3 Xzc rfl rfl rfl rfl rfl rfl rfl ⟨rfl,rfl,rfl,rfl,rfl⟩ rfl rfl rfl rfl rfl (by kernel_rfl) (by kernel_rfl) (by kernel_rfl)
  (of_decide_eq_true (by kernel_rfl)) (by unfold Func.isWrapper;rw[if_neg (of_decide_eq_false (by kernel_rfl))];exact⟨rfl,rfl⟩)
  (fun os started H enc _=>Zfb os started H enc)
theorem sweepTaken_holds:Rows.SweepTakenCardSaid :=
 Claim7.holds_tied_plain_at .later [] [.widerDeep,.data,.data,.widerDeep,.pinned] true (true, "cf375801f9b215cdbe6b2afea3c8bf24ba367fda34a39c05d7bf9e5d050020f6") true
  Yfb (fun _ h=>by cases h) (by kernel_rfl) (fun _ h=>by cases h) sweepTaken_row_tie rfl ⟨rfl,rfl⟩ (by kernel_rfl) rfl
  (fun f fn hf hfn=>by
   obtain rfl:f=3:=Option.some.inj ((show Tryz.prog.funcNamed "mangrove/mangrovelaw24.SweepTaken" = some 3 by kernel_rfl).symm.trans hf) |>.symm
   obtain rfl:fn=Xzc:=(Option.some.inj ((show Tryz.prog.funcs[3]? = some Xzc by kernel_rfl).symm.trans hfn)).symm
   exact⟨by kernel_rfl,fun j t ht=>by
    have:=List.all_eq_true.1 (show Xzc.params.toList.all (fun t => !Tryz.prog.wantsStandIn t)=true by kernel_rfl) t (by rw[Array.mem_toList_iff];exact Array.mem_of_getElem? ht)
    exact(by simpa using this:Tryz.prog.wantsStandIn t=false)⟩)
  (by kernel_rfl)
#print axioms sweepTaken_holds
end Go.Proofs.YtgjlmnnggnajmaaGreatDoor
