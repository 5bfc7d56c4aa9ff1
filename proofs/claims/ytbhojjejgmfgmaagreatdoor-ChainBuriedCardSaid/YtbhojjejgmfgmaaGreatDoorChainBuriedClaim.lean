/-
  THE STATEMENT ChainBuried: the closed law returns true.
-/
import Derived.Test.YtbhojjejgmfgmaaGreatDoorAbG
import Derived.Test.YtbhojjejgmfgmaaGreatDoorCcM
import Derived.Test.YtbhojjejgmfgmaaGreatDoorRows
import Derived.Test.YtbhojjejgmfgmaaGreatDoorCards
import Derived.Test.YtbhojjejgmfgmaaGreatDoorTie
set_option linter.all false
noncomputable section
namespace Go.Proofs.YtbhojjejgmfgmaaGreatDoor
open Go Go.Ab
open Go.ChangeShapes Go.WideShapes Go.RowKit
set_option maxRecDepth 1000000
noncomputable def zm:Func:=(Tryz.prog.funcs[3]?).getD default
theorem Vm6:Kids Tryz.prog (· < Tryz.prog.types.size):=kids_rows (by kernel_rfl) (by kernel_rfl)
theorem Jxf:∀ t e,t < Tryz.prog.types.size->Tryz.prog.underlying t=some (.slice e)->0 < Tryz.prog.cellsOf e:=slices_full_of _ (by kernel_rfl)
theorem J0u:Ab.LaidIn (rE nv laidAll) laidAll:=Jw8 (by kernel_rfl)
theorem own:ownKnob Tryz.prog.godebug=none:=kR
theorem J9w:J3u Tryz.prog Rows.chainBuriedRow.laid nv laidAll:=by
 intro x hx
 rcases List.mem_cons.1 hx with rfl | hx
 ·exact⟨by decide,EA (by kernel_rfl), "mangrove/blake.begins",(Tryz.prog.globals[0]?.map (·.type)).getD 0,_,8,List.mem_cons_self,by kernel_rfl,by kernel_rfl,by kernel_rfl⟩
 ·rcases List.mem_cons.1 hx with rfl | hx
  ·exact⟨by decide,EA (by kernel_rfl), "mangrove/pack.forms",(Tryz.prog.globals[1]?.map (·.type)).getD 0,_,8,(List.mem_cons_of_mem _ (List.mem_cons_of_mem _ (List.mem_cons_of_mem _ List.mem_cons_self))),by kernel_rfl,by kernel_rfl,by kernel_rfl⟩
  ·rcases List.mem_cons.1 hx with rfl | hx
   ·exact⟨by decide,EA (by kernel_rfl), "mangrove/blake.orders",(Tryz.prog.globals[2]?.map (·.type)).getD 0,_,8,(List.mem_cons_of_mem _ List.mem_cons_self),by kernel_rfl,by kernel_rfl,by kernel_rfl⟩
   ·cases hx
theorem start{W:World}(h:laidMet Tryz.prog Rows.chainBuriedRow.laid W):bN ⟨nv,W.heap.size⟩ (Ay nv) (rE nv laidAll) W :=
 Jev h J9w (J0h h J9w (2,Ei) (by simp[laidAll]))
theorem Jxk(os:Os)(started:os.Started)(H:Type)(enc:TypeId × Value->H) :
  ReturnsInHanded {} Tryz.checked os 3 .any (fun w args=>(Rows.chainBuriedSpec.pre enc Tryz.prog zm [] false w args/\laidMetH Tryz.prog Rows.chainBuriedRow.laid w)/\sizedMet enc Tryz.prog zm (OpenSpec.ofChange Rows.chainBuriedSpec) false w args)
   (Rows.chainBuriedSpec.post enc Tryz.prog zm false true false false):=by
 refine returnsInHanded_of_change_and (C:=Tryz.checked) (X:=fun w _=>laidMetH Tryz.prog Rows.chainBuriedRow.laid w) (fun _ _ _ hh h=>h.of_heap hh) own started (by kernel_rfl) (by kernel_rfl)
  (ChangeSpec.witness_at (enc:=enc) (C:=Tryz.checked) (os:=os) (X:=fun w _=>laidMetH Tryz.prog Rows.chainBuriedRow.laid w) false (World.laidAll Tryz.prog os Rows.chainBuriedRow.laid) #[.int .i64 0,.slice none 0 0] 8 (World.laidAll_os _ _ _) (by kernel_rfl) (by kernel_rfl) (by kernel_rfl) (by kernel_rfl) (by kernel_rfl)
   (laidMet_laidAll _ (by kernel_rfl) (by kernel_rfl))) ?_
 intro W base args ds gs before hval hW _ hbulk hL _
 have hL':laidMet Tryz.prog Rows.chainBuriedRow.laid W:=by rw[Go.MakeChecks.laidMetH_plain _ _ _ (by kernel_rfl)]at hL;exact hL
 have HS:=start hL'
 obtain⟨p,q,hA, -⟩:=id hW
 rw[show zm.params.toList=[3,22] by kernel_rfl]at hA hbulk
 obtain⟨v1,v2,d1,d2,p1,p2,rfl,rfl,rfl,h1,h2⟩:=trodAll_two hA
 have hall:∀ n ∈ DataW.weightsEach Tryz.prog ([3,22]++Rows.chainBuriedSpec.plain.varTypes Tryz.prog) ([d1,d2]++gs),n<=reachBytes:=fun n hn=>by simpa using List.all_eq_true.1 hbulk n hn
 obtain⟨n1,rfl,rfl, -, -⟩:=open_int (k:=.i64) (by kernel_rfl) (hval 0 3 _ (by kernel_rfl) rfl) h1
 obtain⟨Z1,hh1,w1,H1,o1,x1,a1,e1,k1,s1⟩:=J8a (e:=44) (by kernel_rfl) J08 HS (Z5j _ _) (hval 1 22 _ (by kernel_rfl) rfl) h2 (fun n hn=>hall n (RJ (i:=1) rfl rfl hn))
 obtain⟨l,R⟩:=Vc6 s1
 refine Jnt Vm6 Jxf (tb:=4) (fun t ht=>by rw[show zm.params.toList=[3,22] by kernel_rfl]at ht;exact of_decide_eq_true (List.all_eq_true.1 (show [3,22].all (fun t=>decide (t < Tryz.prog.types.size))=true by kernel_rfl) t ht)) (by kernel_rfl) (by kernel_rfl) rfl hW rfl ?_
 exact Jrs (vs:=[.int .i64 n1,w1]) H1 o1 (by simpa[c_]using k1) (by simp[ren,e1]) (Vb4 _ (Laid.R J0u a1) R n1 _ (fun _=>rfl))
theorem Zj3:Rows.ChainBuriedSaid :=
 OpenClaim.holds_of_wide 3 zm rfl rfl rfl rfl rfl rfl rfl ⟨rfl,rfl,rfl,rfl,rfl⟩ rfl rfl rfl rfl rfl (by kernel_rfl) (by kernel_rfl) (by kernel_rfl)
  (of_decide_eq_true (by kernel_rfl)) (by unfold Func.isWrapper;rw[if_neg (of_decide_eq_false (by kernel_rfl))];exact⟨rfl,rfl⟩)
  (fun os started H enc _=>Jxk os started H enc)
theorem chainBuried_holds:Rows.ChainBuriedCardSaid :=
 Claim7.holds_tied_plain_at .later [] [.widerDeep,.data,.data,.widerDeep,.pinned] true (true, "71876e1271cb36c642e791029e551231721eef2cb2d5e994ba1f414bc71d3edc") true
  Zj3 (fun _ h=>by cases h) (by kernel_rfl) (fun _ h=>by cases h) chainBuried_row_tie rfl ⟨rfl,rfl⟩ (by kernel_rfl) rfl
  (fun f fn hf hfn=>by
   obtain rfl:f=3:=Option.some.inj ((show Tryz.prog.funcNamed "mangrove/mangrovelaw11.ChainBuried" = some 3 by kernel_rfl).symm.trans hf) |>.symm
   obtain rfl:fn=zm:=(Option.some.inj ((show Tryz.prog.funcs[3]? = some zm by kernel_rfl).symm.trans hfn)).symm
   exact⟨by kernel_rfl,fun j t ht=>by
    have:=List.all_eq_true.1 (show zm.params.toList.all (fun t => !Tryz.prog.wantsStandIn t)=true by kernel_rfl) t (by rw[Array.mem_toList_iff];exact Array.mem_of_getElem? ht)
    exact(by simpa using this:Tryz.prog.wantsStandIn t=false)⟩)
  (by kernel_rfl)
#print axioms chainBuried_holds
end Go.Proofs.YtbhojjejgmfgmaaGreatDoor
