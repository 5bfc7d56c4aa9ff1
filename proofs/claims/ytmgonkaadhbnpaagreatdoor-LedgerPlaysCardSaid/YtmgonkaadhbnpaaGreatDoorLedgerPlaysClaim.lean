/-
  THE STATEMENT LedgerPlays: the closed law returns true.
-/
import Derived.Test.YtmgonkaadhbnpaaGreatDoorAbG
import Derived.Test.YtmgonkaadhbnpaaGreatDoorLqA
import Derived.Test.YtmgonkaadhbnpaaGreatDoorRows
import Derived.Test.YtmgonkaadhbnpaaGreatDoorCards
import Derived.Test.YtmgonkaadhbnpaaGreatDoorTie
set_option linter.all false
noncomputable section
namespace Go.Proofs.YtmgonkaadhbnpaaGreatDoor
open Go Go.Ab
open Go.ChangeShapes Go.WideShapes Go.RowKit
set_option maxRecDepth 1000000
noncomputable def yH:Func:=(Tryz.prog.funcs[3]?).getD default
theorem Wen:Kids Tryz.prog (· < Tryz.prog.types.size):=kids_rows (by kernel_rfl) (by kernel_rfl)
theorem Up5:∀ t e,t < Tryz.prog.types.size->Tryz.prog.underlying t=some (.slice e)->0 < Tryz.prog.cellsOf e:=slices_full_of _ (by kernel_rfl)
theorem Usw:Ab.LaidIn (vK nv laidAll) laidAll:=fun x hx=>by
 simp only[laidAll,List.mem_cons,List.not_mem_nil,or_false]at hx
 rcases hx with rfl | rfl | rfl <;> kernel_rfl
theorem own:ownKnob Tryz.prog.godebug=none:=kR
theorem U2k:NW Tryz.prog Rows.ledgerPlaysRow.laid nv laidAll:=by
 intro x hx
 rcases List.mem_cons.1 hx with rfl | hx
 ·exact⟨by decide,GW (by kernel_rfl), "mangrove/blake.begins",(Tryz.prog.globals[0]?.map (·.type)).getD 0,_,8,List.mem_cons_self,by kernel_rfl,by kernel_rfl,by kernel_rfl⟩
 ·rcases List.mem_cons.1 hx with rfl | hx
  ·exact⟨by decide,GW (by kernel_rfl), "mangrove/pack.forms",(Tryz.prog.globals[1]?.map (·.type)).getD 0,_,8,(List.mem_cons_of_mem _ (List.mem_cons_of_mem _ (List.mem_cons_of_mem _ List.mem_cons_self))),by kernel_rfl,by kernel_rfl,by kernel_rfl⟩
  ·rcases List.mem_cons.1 hx with rfl | hx
   ·exact⟨by decide,GW (by kernel_rfl), "mangrove/blake.orders",(Tryz.prog.globals[2]?.map (·.type)).getD 0,_,8,(List.mem_cons_of_mem _ List.mem_cons_self),by kernel_rfl,by kernel_rfl,by kernel_rfl⟩
   ·cases hx
theorem start{W:World}(h:laidMet Tryz.prog Rows.ledgerPlaysRow.laid W):c_ ⟨nv,W.heap.size⟩ (AI nv) (vK nv laidAll) W :=
 V46 h U2k (Usl h U2k (2,wq) (by simp[laidAll]))
theorem Upa(os:Os)(started:os.Started)(H:Type)(enc:TypeId × Value->H) :
  ReturnsInHanded {} Tryz.checked os 3 .any (fun w args=>(Rows.ledgerPlaysSpec.pre enc Tryz.prog yH [] false w args/\laidMetH Tryz.prog Rows.ledgerPlaysRow.laid w)/\sizedMet enc Tryz.prog yH (OpenSpec.ofChange Rows.ledgerPlaysSpec) false w args)
   (Rows.ledgerPlaysSpec.post enc Tryz.prog yH false true false false):=by
 refine returnsInHanded_of_change_and (C:=Tryz.checked) (X:=fun w _=>laidMetH Tryz.prog Rows.ledgerPlaysRow.laid w) (fun _ _ _ hh h=>h.of_heap hh) own started (by kernel_rfl) (by kernel_rfl)
  (ChangeSpec.witness_at (enc:=enc) (C:=Tryz.checked) (os:=os) (X:=fun w _=>laidMetH Tryz.prog Rows.ledgerPlaysRow.laid w) false (World.laidAll Tryz.prog os Rows.ledgerPlaysRow.laid) #[.slice none 0 0,.slice none 0 0] 8 (World.laidAll_os _ _ _) (by kernel_rfl) (by kernel_rfl) (by kernel_rfl) (by kernel_rfl) (by kernel_rfl)
   (laidMet_laidAll _ (by kernel_rfl) (by kernel_rfl))) ?_
 intro W base args ds gs before hval hW _ hbulk hL _
 have hL':laidMet Tryz.prog Rows.ledgerPlaysRow.laid W:=by rw[Go.MakeChecks.laidMetH_plain _ _ _ (by kernel_rfl)]at hL;exact hL
 have HS:=start hL'
 obtain⟨p,q,hA, -⟩:=id hW
 rw[show yH.params.toList=[22,23] by kernel_rfl]at hA hbulk
 obtain⟨v1,v2,d1,d2,p1,p2,rfl,rfl,rfl,h1,h2⟩:=trodAll_two hA
 have hall:∀ n ∈ DataW.weightsEach Tryz.prog ([22,23]++Rows.ledgerPlaysSpec.plain.varTypes Tryz.prog) ([d1,d2]++gs),n<=reachBytes:=fun n hn=>by simpa using List.all_eq_true.1 hbulk n hn
 obtain⟨M1,hh1,w1,H1,o1,x1,a1,e1,k1,s1⟩:=Un7 (e:=39) (by kernel_rfl) V4h HS (Vqt _ _) (hval 0 22 _ (by kernel_rfl) rfl) h1 (fun n hn=>hall n (Hy (i:=0) rfl rfl hn))
 obtain⟨M2,hh2,w2,H2,o2,x2,a2,e2,k2,s2⟩:=Un7 (e:=42) (by kernel_rfl) Uvx H1 o1 (hval 1 23 _ (by kernel_rfl) rfl) h2 (fun n hn=>hall n (Hy (i:=1) rfl rfl hn))
 obtain⟨outs,O_⟩:=Uww s1
 obtain⟨acts,T⟩:=U3g s2
 have m1:b_ M2 w1=v1:=(iB (Im H1 x2) w1 k1).trans e1
 have dm2:∀ c,dom M1 c->dom M2 c:=fun c hc=>by simpa[dom,Im H1 x2 c hc]using hc
 refine Uey Wen Up5 (tb:=4) (fun t ht=>by rw[show yH.params.toList=[22,23] by kernel_rfl]at ht;exact of_decide_eq_true (List.all_eq_true.1 (show [22,23].all (fun t=>decide (t < Tryz.prog.types.size))=true by kernel_rfl) t ht)) (by kernel_rfl) (by kernel_rfl) rfl hW rfl ?_
 refine Ujb (vs:=[w1,w2]) H2 o2 (fun v hv => ?_) (by simp[m1,e2]) (Uy5 _ (Laid.R Usw (a1.trans a2)) (O_.R a2) T _ (fun _=>rfl))
 simp only[List.mem_cons,List.not_mem_nil,or_false]at hv
 rcases hv with rfl | rfl
 ·exact iq dm2 _ k1
 ·exact k2
theorem Jii:Rows.LedgerPlaysSaid :=
 OpenClaim.holds_of_wide 3 yH rfl rfl rfl rfl rfl rfl rfl ⟨rfl,rfl,rfl,rfl,rfl⟩ rfl rfl rfl rfl rfl (by kernel_rfl) (by kernel_rfl) (by kernel_rfl)
  (of_decide_eq_true (by kernel_rfl)) (by unfold Func.isWrapper;rw[if_neg (of_decide_eq_false (by kernel_rfl))];exact⟨rfl,rfl⟩)
  (fun os started H enc _=>Upa os started H enc)
theorem ledgerPlays_holds:Rows.LedgerPlaysCardSaid :=
 Claim7.holds_tied_plain_at .later [] [.widerDeep,.data,.data,.widerDeep,.pinned] true (true, "63a3099d2bb16554bc97b82ca6e36f501f10ff917ca564aea2624760f917fd04") true
  Jii (fun _ h=>by cases h) (by kernel_rfl) (fun _ h=>by cases h) ledgerPlays_row_tie rfl ⟨rfl,rfl⟩ (by kernel_rfl) rfl
  (fun f fn hf hfn=>by
   obtain rfl:f=3:=Option.some.inj ((show Tryz.prog.funcNamed "mangrove/mangrovelaw10.LedgerPlays" = some 3 by kernel_rfl).symm.trans hf) |>.symm
   obtain rfl:fn=yH:=(Option.some.inj ((show Tryz.prog.funcs[3]? = some yH by kernel_rfl).symm.trans hfn)).symm
   exact⟨by kernel_rfl,fun j t ht=>by
    have:=List.all_eq_true.1 (show yH.params.toList.all (fun t => !Tryz.prog.wantsStandIn t)=true by kernel_rfl) t (by rw[Array.mem_toList_iff];exact Array.mem_of_getElem? ht)
    exact(by simpa using this:Tryz.prog.wantsStandIn t=false)⟩)
  (by kernel_rfl)
#print axioms ledgerPlays_holds
end Go.Proofs.YtmgonkaadhbnpaaGreatDoor
