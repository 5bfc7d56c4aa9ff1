/-
  THE STATEMENT PoolDearer: the closed law returns true.
-/
import Derived.Test.YtapodfgjkmddlaaGreatDoorAbG
import Derived.Test.YtapodfgjkmddlaaGreatDoorPdN
import Derived.Test.YtapodfgjkmddlaaGreatDoorRows
import Derived.Test.YtapodfgjkmddlaaGreatDoorCards
import Derived.Test.YtapodfgjkmddlaaGreatDoorTie
set_option linter.all false
noncomputable section
namespace Go.Proofs.YtapodfgjkmddlaaGreatDoor
open Go Go.Ab
open Go.ChangeShapes Go.WideShapes Go.RowKit
set_option maxRecDepth 1000000
noncomputable def Yen:Func:=(Tryz.prog.funcs[3]?).getD default
theorem Jvr:Kids Tryz.prog (· < Tryz.prog.types.size):=kids_rows (by kernel_rfl) (by kernel_rfl)
theorem Z84:∀ t e,t < Tryz.prog.types.size->Tryz.prog.underlying t=some (.slice e)->0 < Tryz.prog.cellsOf e:=slices_full_of _ (by kernel_rfl)
theorem Jbv:Ab.LaidIn (Q31 nv laidAll) laidAll:=Yxw (by kernel_rfl)
theorem own:ownKnob Tryz.prog.godebug=none:=kR
theorem Jk5:Jer Tryz.prog Rows.poolDearerRow.laid nv laidAll:=by
 intro x hx
 rcases ap.1 hx with rfl | hx
 ·exact⟨by decide,Q3r (by kernel_rfl), "mangrove/blake.begins",(Tryz.prog.globals[0]?.map (·.type)).getD 0,_,8,bo,by kernel_rfl,by kernel_rfl,by kernel_rfl⟩
 ·rcases ap.1 hx with rfl | hx
  ·exact⟨by decide,Q3r (by kernel_rfl), "mangrove/pack.forms",(Tryz.prog.globals[1]?.map (·.type)).getD 0,_,8,(aN _ (aN _ (aN _ bo))),by kernel_rfl,by kernel_rfl,by kernel_rfl⟩
  ·rcases ap.1 hx with rfl | hx
   ·exact⟨by decide,Q3r (by kernel_rfl), "mangrove/blake.orders",(Tryz.prog.globals[3]?.map (·.type)).getD 0,_,8,(aN _ bo),by kernel_rfl,by kernel_rfl,by kernel_rfl⟩
   ·cases hx
theorem start{W:World}(h:laidMet Tryz.prog Rows.poolDearerRow.laid W):HRel ⟨nv,W.heap.size⟩ (Yri nv) (Q31 nv laidAll) W :=
 Zq8 h Jk5 (Jbh h Jk5 (3,Q69) (by simp[laidAll]))
theorem Z8b(os:Os)(started:os.Started)(H:Type)(enc:TypeId × Value->H) :
  ReturnsInHanded {} Tryz.checked os 3 .any (fun w args=>(Rows.poolDearerSpec.pre enc Tryz.prog Yen [] false w args/\laidMetH Tryz.prog Rows.poolDearerRow.laid w)/\sizedMet enc Tryz.prog Yen (OpenSpec.ofChange Rows.poolDearerSpec) false w args)
   (Rows.poolDearerSpec.post enc Tryz.prog Yen false true false false):=by
 refine returnsInHanded_of_change_and (C:=Tryz.checked) (X:=fun w _=>laidMetH Tryz.prog Rows.poolDearerRow.laid w) (fun _ _ _ hh h=>h.of_heap hh) own started (by kernel_rfl) (by kernel_rfl)
  (ChangeSpec.witness_at (enc:=enc) (C:=Tryz.checked) (os:=os) (X:=fun w _=>laidMetH Tryz.prog Rows.poolDearerRow.laid w) false (World.laidAll Tryz.prog os Rows.poolDearerRow.laid) #[.slice none 0 0,.slice none 0 0] 8 (World.laidAll_os _ _ _) (by kernel_rfl) (by kernel_rfl) (by kernel_rfl) (by kernel_rfl) (by kernel_rfl)
   (laidMet_laidAll _ (by kernel_rfl) (by kernel_rfl))) ?_
 intro W base args ds gs before hval hW _ hbulk hL _
 have hL':laidMet Tryz.prog Rows.poolDearerRow.laid W:=by rw[Go.MakeChecks.laidMetH_plain _ _ _ (by kernel_rfl)]at hL;exact hL
 have HS:=start hL'
 obtain⟨p,q,hA, -⟩:=id hW
 rw[show Yen.params.toList=[22,23] by kernel_rfl]at hA hbulk
 obtain⟨v1,v2,d1,d2,p1,p2,rfl,rfl,rfl,h1,h2⟩:=trodAll_two hA
 have hall:∀ n ∈ DataW.weightsEach Tryz.prog ([22,23]++Rows.poolDearerSpec.plain.varTypes Tryz.prog) ([d1,d2]++gs),n<=reachBytes:=fun n hn=>by simpa using cR.1 hbulk n hn
 obtain⟨α1,hh1,w1,H1,o1,x1,a1,e1,k1,s1⟩:=Z6e (e:=3) (by kernel_rfl) Zsh HS (Zi2 _ _) (hval 0 22 _ (by kernel_rfl) rfl) h1 (fun n hn=>hall n (Q3m (i:=0) rfl rfl hn))
 obtain⟨α2,hh2,w2,H2,o2,x2,a2,e2,k2,s2⟩:=Z6e (e:=35) (by kernel_rfl) Z83 H1 o1 (hval 1 23 _ (by kernel_rfl) rfl) h2 (fun n hn=>hall n (Q3m (i:=1) rfl rfl hn))
 obtain⟨xs,sx,nx⟩:=Jf8 s1
 obtain⟨ys,sy⟩:=Jrz s2
 have m1:ren α2 w1=v1:=(ren_congr (Zm6 H1 x2) w1 k1).trans e1
 have dm2:∀ c,dom α1 c->dom α2 c:=fun c hc=>by simpa[dom,Zm6 H1 x2 c hc]using hc
 refine Zz3 Jvr Z84 (tb:=4) (fun t ht=>by rw[show Yen.params.toList=[22,23] by kernel_rfl]at ht;exact of_decide_eq_true (cR.1 (show [22,23].all (fun t=>decide (t < Tryz.prog.types.size))=true by kernel_rfl) t ht)) (by kernel_rfl) (by kernel_rfl) rfl hW rfl ?_
 refine Z2k (vs:=[w1,w2]) H2 o2 (fun v hv => ?_) (by simp[m1,e2]) (Jlr _ (Laid.old Jbv (a1.trans a2)) (sx.old a2) nx sy _ (fun _=>rfl))
 simp only[ap,cm,or_false]at hv
 rcases hv with rfl | rfl
 ·exact okV_mono dm2 _ k1
 ·exact k2
theorem Y15:Rows.PoolDearerSaid :=
 OpenClaim.holds_of_wide 3 Yen rfl rfl rfl rfl rfl rfl rfl ⟨rfl,rfl,rfl,rfl,rfl⟩ rfl rfl rfl rfl rfl (by kernel_rfl) (by kernel_rfl) (by kernel_rfl)
  (of_decide_eq_true (by kernel_rfl)) (by unfold Func.isWrapper;rw[if_neg (of_decide_eq_false (by kernel_rfl))];exact⟨rfl,rfl⟩)
  (fun os started H enc _=>Z8b os started H enc)
theorem poolDearer_holds:Rows.PoolDearerCardSaid :=
 Claim7.holds_tied_plain_at .later [] [.widerDeep,.data,.data,.widerDeep,.pinned] true (true, "de83192c6796e40e010ecb9e4b91564d1c131c1f37f50a84d5442e29cce0ee49") true
  Y15 (fun _ h=>by cases h) (by kernel_rfl) (fun _ h=>by cases h) poolDearer_row_tie rfl ⟨rfl,rfl⟩ (by kernel_rfl) rfl
  (fun f fn hf hfn=>by
   obtain rfl:f=3:=bz ((show Tryz.prog.funcNamed "mangrove/mangrovelaw12.PoolDearer" = some 3 by kernel_rfl).symm.trans hf) |>.symm
   obtain rfl:fn=Yen:=(bz ((show Tryz.prog.funcs[3]? = some Yen by kernel_rfl).symm.trans hfn)).symm
   exact⟨by kernel_rfl,fun j t ht=>by
    have:=cR.1 (show Yen.params.toList.all (fun t => !Tryz.prog.wantsStandIn t)=true by kernel_rfl) t (by rw[cY];exact Array.mem_of_getElem? ht)
    exact(by simpa using this:Tryz.prog.wantsStandIn t=false)⟩)
  (by kernel_rfl)
#print axioms poolDearer_holds
end Go.Proofs.YtapodfgjkmddlaaGreatDoor
