/-
  THE STATEMENT ChannelRuns: the closed law returns true.
-/
import Derived.Test.YtcokebbiblnonaaDoorAbH
import Derived.Carry
import Derived.Test.YtcokebbiblnonaaDoorChC
import Derived.Test.YtcokebbiblnonaaDoorCrZ
import Derived.Test.YtcokebbiblnonaaDoorRows
import Derived.Test.YtcokebbiblnonaaDoorCards
import Derived.Test.YtcokebbiblnonaaDoorTie
set_option linter.all false
noncomputable section
namespace Go.Proofs.YtcokebbiblnonaaDoor
open Go Go.Ab
open Go.ChangeShapes Go.WideShapes Go.RowKit
set_option maxRecDepth 1000000
noncomputable def Yr5:Func:=(Tryd.prog.funcs[4]?).getD default
theorem Zr0:Kids Tryd.prog (· < Tryd.prog.types.size):=kids_rows (by kernel_rfl) (by kernel_rfl)
theorem Zai : ∀ t e,t < Tryd.prog.types.size→Tryd.prog.underlying t=some (.slice e)→0 < Tryd.prog.cellsOf e:=slices_full_of _ (by kernel_rfl)
theorem Zdm:Ab.LaidIn (Xyt nv Qz5) Qz5:=Y1e (by kernel_rfl)
theorem own:ownKnob Tryd.prog.godebug=none:=by kernel_rfl
theorem Zin:Zes Tryd.prog Rows.channelRunsRow.laid nv Qz5:=by
 intro x hx
 rcases List.mem_cons.1 hx with rfl | hx
 ·exact⟨by decide,Yhm (by kernel_rfl), "mangrove/blake.begins",(Tryd.prog.globals[0]?.map (·.type)).getD 0,_,8,List.mem_cons_self,by kernel_rfl,by kernel_rfl,by kernel_rfl⟩
 ·rcases List.mem_cons.1 hx with rfl | hx
  ·exact⟨by decide,Yhm (by kernel_rfl), "mangrove/blake.orders",(Tryd.prog.globals[1]?.map (·.type)).getD 0,_,8,(List.mem_cons_of_mem _ List.mem_cons_self),by kernel_rfl,by kernel_rfl,by kernel_rfl⟩
  ·cases hx
theorem start{W:World}(h:laidMet Tryd.prog Rows.channelRunsRow.laid W):HRel ⟨nv,W.heap.size⟩ (Yzp nv) (Xyt nv Qz5) W :=
 Y1f h Zin (Zdj h Zin (1,Yki) (by simp[Qz5]))
theorem Za4(os:Os)(started:os.Started)(H:Type)(enc:TypeId × Value→H) :
  ReturnsInHanded {} Tryd.checked os 4 .any (fun w args=>(Rows.channelRunsSpec.pre enc Tryd.prog Yr5 [] false w args∧laidMetH Tryd.prog Rows.channelRunsRow.laid w)∧sizedMet enc Tryd.prog Yr5 (OpenSpec.ofChange Rows.channelRunsSpec) false w args)
   (Rows.channelRunsSpec.post enc Tryd.prog Yr5 false true false false):=by
 refine returnsInHanded_of_change_and (C:=Tryd.checked) (X:=fun w _=>laidMetH Tryd.prog Rows.channelRunsRow.laid w) (fun _ _ _ hh h=>h.of_heap hh) own started (by kernel_rfl) (by kernel_rfl)
  (ChangeSpec.witness_at (enc:=enc) (C:=Tryd.checked) (os:=os) (X:=fun w _=>laidMetH Tryd.prog Rows.channelRunsRow.laid w) false (World.laidAll Tryd.prog os Rows.channelRunsRow.laid) #[.int .i64 0, .int .i64 0, .slice none 0 0] 8 (World.laidAll_os _ _ _) (by kernel_rfl) (by kernel_rfl) (by kernel_rfl) (by kernel_rfl) (by kernel_rfl)
   (laidMet_laidAll _ (by kernel_rfl) (by kernel_rfl))) ?_
 intro W base args ds gs before hval hW _ hbulk hL _
 have hL':laidMet Tryd.prog Rows.channelRunsRow.laid W:=by rw[Go.MakeChecks.laidMetH_plain _ _ _ (by kernel_rfl)]at hL;exact hL
 have HS:=start hL'
 obtain⟨p,q,hA, -⟩:=id hW
 rw[show Yr5.params.toList = [3,3,22] by kernel_rfl]at hA
 obtain⟨v1,v2,v3,d1,d2,d3,p1,p2,p3,rfl,rfl,rfl,h1,h2,h3⟩:=trodAll_three hA
 obtain⟨n1,rfl,rfl, -,r1⟩:=open_int (k := .i64) (by kernel_rfl) (hval 0 3 _ (by kernel_rfl) rfl) h1
 obtain⟨n2,rfl,rfl, -, -⟩:=open_int (k := .i64) (by kernel_rfl) (hval 1 3 _ (by kernel_rfl) rfl) h2
 obtain⟨α1,hh1,w1,len,cs,H1,o1,x1,a1,e1,k1,s1,b1⟩:=Zgg (e:=34) (by kernel_rfl) Zk5 Zob (by decide) HS (Zaa _ _) rfl (hval 2 22 _ (by kernel_rfl) rfl) h3
 obtain⟨os',rfl,ok,rfl⟩:=Y8n len cs b1
 refine Y3t Zr0 Zai (tb:=4) (fun t ht=>by rw[show Yr5.params.toList = [3,3,22] by kernel_rfl]at ht;exact of_decide_eq_true (List.all_eq_true.1 (show [3,3,22].all (fun t=>decide (t < Tryd.prog.types.size))=true by kernel_rfl) t ht)) (by kernel_rfl) (by kernel_rfl) rfl hW rfl ?_
 exact Y69 (vs := [.int .i64 n1, .int .i64 n2,w1]) H1 o1 (by simpa[okV]using k1) (by simp[ren,e1]) (Zl6 _ (Zcw _) (i64_in r1) s1 ok (LaidIn.old Zdm a1) _ (fun _ _=>rfl))
theorem Yui:Rows.ChannelRunsSaid :=
 OpenClaim.holds_of_wide 4 Yr5 rfl rfl rfl rfl rfl rfl rfl ⟨rfl,rfl,rfl,rfl,rfl⟩ rfl rfl rfl rfl rfl (by kernel_rfl) (by kernel_rfl) (by kernel_rfl)
  (of_decide_eq_true (by kernel_rfl)) (by unfold Func.isWrapper;rw[if_neg (of_decide_eq_false (by kernel_rfl))];exact⟨rfl,rfl⟩)
  (fun os started H enc _=>Za4 os started H enc)
theorem channelRuns_holds:Rows.ChannelRunsCardSaid :=
 Claim7.holds_tied_plain_at .later [] [.widerDeep, .data] true (true, "3df5c339953eddf198bd387bb524106c95d0446289be04f5b1b60005fabaa7b6") false
  Yui (fun _ h=>by cases h) (by kernel_rfl) (fun _ h=>by cases h) channelRuns_row_tie rfl ⟨rfl,rfl⟩ (by kernel_rfl) rfl
  (fun f fn hf hfn=>by
   obtain rfl:f=4:=Option.some.inj ((show Tryd.prog.funcNamed "mangrove/mangrovelaw17.ChannelRuns" = some 4 by kernel_rfl).symm.trans hf) |>.symm
   obtain rfl:fn=Yr5:=(Option.some.inj ((show Tryd.prog.funcs[4]? = some Yr5 by kernel_rfl).symm.trans hfn)).symm
   exact⟨by kernel_rfl,fun j t ht=>by
    have:=List.all_eq_true.1 (show Yr5.params.toList.all (fun t => !Tryd.prog.wantsStandIn t)=true by kernel_rfl) t (by rw[Array.mem_toList_iff];exact Array.mem_of_getElem? ht)
    exact(by simpa using this:Tryd.prog.wantsStandIn t=false)⟩)
  (by kernel_rfl)
#print axioms channelRuns_holds
end Go.Proofs.YtcokebbiblnonaaDoor
