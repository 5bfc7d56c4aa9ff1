/-
  THE STATEMENT SweepMakes: the closed law returns true.
-/
import Derived.Test.YtgmelhgoiepoaaaGreatDoorAbG
import Derived.Test.YtgmelhgoiepoaaaGreatDoorMkI
import Derived.Test.YtgmelhgoiepoaaaGreatDoorRows
import Derived.Test.YtgmelhgoiepoaaaGreatDoorCards
import Derived.Test.YtgmelhgoiepoaaaGreatDoorTie
set_option linter.all false
noncomputable section
namespace Go.Proofs.YtgmelhgoiepoaaaGreatDoor
open Go Go.Ab
open Go.ChangeShapes Go.WideShapes Go.RowKit
set_option maxRecDepth 1000000
noncomputable def Xqb:Func:=(Tryz.prog.funcs[3]?).getD default
theorem Jf7:Kids Tryz.prog (· < Tryz.prog.types.size):=kids_rows (by kernel_rfl) (by kernel_rfl)
theorem Zvs:∀ t e,t < Tryz.prog.types.size->Tryz.prog.underlying t=some (.slice e)->0 < Tryz.prog.cellsOf e:=slices_full_of _ (by kernel_rfl)
theorem Zyu:Ab.LaidIn (Qyd nv laidAll) laidAll:=Ybk (by kernel_rfl)
theorem own:ownKnob Tryz.prog.godebug=none:=by kernel_rfl
theorem Z5v:Z10 Tryz.prog Rows.sweepMakesRow.laid nv laidAll:=by
 intro x hx
 rcases List.mem_cons.1 hx with rfl | hx
 ·exact⟨by decide,Qtq (by kernel_rfl), "mangrove/blake.begins",(Tryz.prog.globals[0]?.map (·.type)).getD 0,_,8,List.mem_cons_self,by kernel_rfl,by kernel_rfl,by kernel_rfl⟩
 ·rcases List.mem_cons.1 hx with rfl | hx
  ·exact⟨by decide,Qtq (by kernel_rfl), "mangrove/pack.forms",(Tryz.prog.globals[1]?.map (·.type)).getD 0,_,8,(List.mem_cons_of_mem _ (List.mem_cons_of_mem _ List.mem_cons_self)),by kernel_rfl,by kernel_rfl,by kernel_rfl⟩
  ·rcases List.mem_cons.1 hx with rfl | hx
   ·exact⟨by decide,Qtq (by kernel_rfl), "mangrove/blake.orders",(Tryz.prog.globals[2]?.map (·.type)).getD 0,_,8,(List.mem_cons_of_mem _ List.mem_cons_self),by kernel_rfl,by kernel_rfl,by kernel_rfl⟩
   ·cases hx
theorem start{W:World}(h:laidMet Tryz.prog Rows.sweepMakesRow.laid W):HRel ⟨nv,W.heap.size⟩ (Y46 nv) (Qyd nv laidAll) W :=
 Zdu h Z5v (Zyh h Z5v (2,Q7x) (by simp[laidAll]))
theorem Zvz(os:Os)(started:os.Started)(H:Type)(enc:TypeId × Value->H) :
  ReturnsInHanded {} Tryz.checked os 3 .any (fun w args=>(Rows.sweepMakesSpec.pre enc Tryz.prog Xqb [] false w args/\laidMetH Tryz.prog Rows.sweepMakesRow.laid w)/\sizedMet enc Tryz.prog Xqb (OpenSpec.ofChange Rows.sweepMakesSpec) false w args)
   (Rows.sweepMakesSpec.post enc Tryz.prog Xqb false true false false):=by
 refine returnsInHanded_of_change_and (C:=Tryz.checked) (X:=fun w _=>laidMetH Tryz.prog Rows.sweepMakesRow.laid w) (fun _ _ _ hh h=>h.of_heap hh) own started (by kernel_rfl) (by kernel_rfl)
  (ChangeSpec.witness_at (enc:=enc) (C:=Tryz.checked) (os:=os) (X:=fun w _=>laidMetH Tryz.prog Rows.sweepMakesRow.laid w) false (World.laidAll Tryz.prog os Rows.sweepMakesRow.laid) #[.agg ⟨[.slice none 0 0,.int .i64 0,.slice none 0 0,.int .i64 0,.int .i64 0,.int .i64 0,.int .i64 0]++List.replicate 32 (.int .u8 0) ++ [.int .i64 0,.int .i64 0,.int .i64 0]++List.replicate 32 (.int .u8 0)⟩] 8 (World.laidAll_os _ _ _) (by kernel_rfl) (by kernel_rfl) (by kernel_rfl) (by kernel_rfl) (by kernel_rfl)
   (laidMet_laidAll _ (by kernel_rfl) (by kernel_rfl))) ?_
 intro W base args ds gs before hval hW _ hbulk hL _
 have hL':laidMet Tryz.prog Rows.sweepMakesRow.laid W:=by rw[Go.MakeChecks.laidMetH_plain _ _ _ (by kernel_rfl)]at hL;exact hL
 have HS:=start hL'
 obtain⟨p,q,hA, -⟩:=id hW
 rw[show Xqb.params.toList=[29] by kernel_rfl]at hA hbulk
 obtain⟨v1,d1,rfl,rfl,h1⟩:=trodAll_one hA
 have hall:∀ n ∈ DataW.weightsEach Tryz.prog ([29]++Rows.sweepMakesSpec.plain.varTypes Tryz.prog) ([d1]++gs),n<=reachBytes:=fun n hn=>by simpa using List.all_eq_true.1 hbulk n hn
 obtain⟨α1,hh1,cs,H1,o1,x1,a1,e1,k1,q1⟩:=Zwy (fs:=Zuh) (by kernel_rfl) Zy5 HS (Zwv _ _) (hval 0 29 _ (by kernel_rfl) rfl) h1 (fun n hn=>hall n (Q22 (i:=0) rfl rfl hn))
 obtain⟨sd,pv,owner,total,value,amount,fee,x,sec,seed,pts,rfl,C⟩:=Z8k q1
 refine Znc Jf7 Zvs (tb:=4) (fun t ht=>by rw[show Xqb.params.toList=[29] by kernel_rfl]at ht;exact of_decide_eq_true (List.all_eq_true.1 (show [29].all (fun t=>decide (t < Tryz.prog.types.size))=true by kernel_rfl) t ht)) (by kernel_rfl) (by kernel_rfl) rfl hW rfl ?_
 exact Zr6 H1 o1 (by simpa using k1) (by simp[e1]) (Z2q _ C.ss C.bsd C.hpts C.hp C.hxb C.hs C.bs (Laid.old Zyu a1) _ (fun _=>rfl))
theorem Ylu:Rows.SweepMakesSaid :=
 OpenClaim.holds_of_wide 3 Xqb rfl rfl rfl rfl rfl rfl rfl ⟨rfl,rfl,rfl,rfl,rfl⟩ rfl rfl rfl rfl rfl (by kernel_rfl) (by kernel_rfl) (by kernel_rfl)
  (of_decide_eq_true (by kernel_rfl)) (by unfold Func.isWrapper;rw[if_neg (of_decide_eq_false (by kernel_rfl))];exact⟨rfl,rfl⟩)
  (fun os started H enc _=>Zvz os started H enc)
theorem sweepMakes_holds:Rows.SweepMakesCardSaid :=
 Claim7.holds_tied_plain_at .later [] [.widerDeep,.data,.widerDeep] true (true, "c98d45db16346634e5856f455e647bbb9fbac10a8ddd33960ccbe4ef39894fbe") true
  Ylu (fun _ h=>by cases h) (by kernel_rfl) (fun _ h=>by cases h) sweepMakes_row_tie rfl ⟨rfl,rfl⟩ (by kernel_rfl) rfl
  (fun f fn hf hfn=>by
   obtain rfl:f=3:=Option.some.inj ((show Tryz.prog.funcNamed "mangrove/mangrovelaw24.SweepMakes" = some 3 by kernel_rfl).symm.trans hf) |>.symm
   obtain rfl:fn=Xqb:=(Option.some.inj ((show Tryz.prog.funcs[3]? = some Xqb by kernel_rfl).symm.trans hfn)).symm
   exact⟨by kernel_rfl,fun j t ht=>by
    have:=List.all_eq_true.1 (show Xqb.params.toList.all (fun t => !Tryz.prog.wantsStandIn t)=true by kernel_rfl) t (by rw[Array.mem_toList_iff];exact Array.mem_of_getElem? ht)
    exact(by simpa using this:Tryz.prog.wantsStandIn t=false)⟩)
  (by kernel_rfl)
#print axioms sweepMakes_holds
end Go.Proofs.YtgmelhgoiepoaaaGreatDoor
