/-
  THE STATEMENT WalletApart: the closed law returns true.
-/
import Derived.Test.YtcnhfkplgknomaaDoorAbG
import Derived.Test.YtcnhfkplgknomaaDoorWaX
import Derived.Test.YtcnhfkplgknomaaDoorRows
import Derived.Test.YtcnhfkplgknomaaDoorCards
import Derived.Test.YtcnhfkplgknomaaDoorTie
set_option linter.all false
noncomputable section
namespace Go.Proofs.YtcnhfkplgknomaaDoor
open Go Go.Ab
open Go.ChangeShapes Go.WideShapes Go.RowKit
set_option maxRecDepth 1000000
noncomputable def Xnc:Func:=(Tryd.prog.funcs[3]?).getD default
theorem Y0o:Kids Tryd.prog (· < Tryd.prog.types.size):=kids_rows (by kernel_rfl) (by kernel_rfl)
theorem Yiv:∀ t e,t < Tryd.prog.types.size->Tryd.prog.underlying t=some (.slice e)->0 < Tryd.prog.cellsOf e:=slices_full_of _ (by kernel_rfl)
theorem Yls:Ab.LaidIn (Q0v nv laidAll) laidAll:=Xts (by kernel_rfl)
theorem own:ownKnob Tryd.prog.godebug=none:=by kernel_rfl
theorem Ys7:Yoe Tryd.prog Rows.walletApartRow.laid nv laidAll:=by
 intro x hx
 rcases List.mem_cons.1 hx with rfl | hx
 ·exact⟨by decide,Quu (by kernel_rfl), "mangrove/blake.begins",(Tryd.prog.globals[0]?.map (·.type)).getD 0,_,8,List.mem_cons_self,by kernel_rfl,by kernel_rfl,by kernel_rfl⟩
 ·rcases List.mem_cons.1 hx with rfl | hx
  ·exact⟨by decide,Quu (by kernel_rfl), "mangrove/pack.forms",(Tryd.prog.globals[1]?.map (·.type)).getD 0,_,8,(List.mem_cons_of_mem _ (List.mem_cons_of_mem _ List.mem_cons_self)),by kernel_rfl,by kernel_rfl,by kernel_rfl⟩
  ·rcases List.mem_cons.1 hx with rfl | hx
   ·exact⟨by decide,Quu (by kernel_rfl), "mangrove/blake.orders",(Tryd.prog.globals[2]?.map (·.type)).getD 0,_,8,(List.mem_cons_of_mem _ List.mem_cons_self),by kernel_rfl,by kernel_rfl,by kernel_rfl⟩
   ·cases hx
theorem start{W:World}(h:laidMet Tryd.prog Rows.walletApartRow.laid W):HRel ⟨nv,W.heap.size⟩ (X2o nv) (Q0v nv laidAll) W :=
 X6p h Ys7 (Ykh h Ys7 (2,Q8u) (by simp[laidAll]))
theorem Yjj(os:Os)(started:os.Started)(H:Type)(enc:TypeId × Value->H) :
  ReturnsInHanded {} Tryd.checked os 3 .any (fun w args=>(Rows.walletApartSpec.pre enc Tryd.prog Xnc [] false w args/\laidMetH Tryd.prog Rows.walletApartRow.laid w)/\sizedMet enc Tryd.prog Xnc (OpenSpec.ofChange Rows.walletApartSpec) false w args)
   (Rows.walletApartSpec.post enc Tryd.prog Xnc false true false false):=by
 refine returnsInHanded_of_change_and (C:=Tryd.checked) (X:=fun w _=>laidMetH Tryd.prog Rows.walletApartRow.laid w) (fun _ _ _ hh h=>h.of_heap hh) own started (by kernel_rfl) (by kernel_rfl)
  (ChangeSpec.witness_at (enc:=enc) (C:=Tryd.checked) (os:=os) (X:=fun w _=>laidMetH Tryd.prog Rows.walletApartRow.laid w) false (World.laidAll Tryd.prog os Rows.walletApartRow.laid) #[.slice none 0 0,.slice none 0 0] 8 (World.laidAll_os _ _ _) (by kernel_rfl) (by kernel_rfl) (by kernel_rfl) (by kernel_rfl) (by kernel_rfl)
   (laidMet_laidAll _ (by kernel_rfl) (by kernel_rfl))) ?_
 intro W base args ds gs before hval hW _ hbulk hL _
 have hL':laidMet Tryd.prog Rows.walletApartRow.laid W:=by rw[Go.MakeChecks.laidMetH_plain _ _ _ (by kernel_rfl)]at hL;exact hL
 have HS:=start hL'
 obtain⟨p,q,hA, -⟩:=id hW
 rw[show Xnc.params.toList=[22,22] by kernel_rfl]at hA hbulk
 obtain⟨v1,v2,d1,d2,p1,p2,rfl,rfl,rfl,h1,h2⟩:=trodAll_two hA
 have hall:∀ n ∈ DataW.weightsEach Tryd.prog ([22,22]++Rows.walletApartSpec.plain.varTypes Tryd.prog) ([d1,d2]++gs),n<=reachBytes:=fun n hn=>by simpa using List.all_eq_true.1 hbulk n hn
 obtain⟨α1,hh1,w1,H1,o1,x1,a1,e1,k1,s1⟩:=Yhp (e:=3) (by kernel_rfl) Ybs HS (Yij _ _) (hval 0 22 _ (by kernel_rfl) rfl) h1 (fun n hn=>hall n (Q2u (i:=0) rfl rfl hn))
 obtain⟨α2,hh2,w2,H2,o2,x2,a2,e2,k2,s2⟩:=Yhp (e:=3) (by kernel_rfl) Ybs H1 o1 (hval 1 22 _ (by kernel_rfl) rfl) h2 (fun n hn=>hall n (Q2u (i:=1) rfl rfl hn))
 obtain⟨xs,sx⟩:=Ylb s1
 obtain⟨ys,sy⟩:=Ylb s2
 have m1:ren α2 w1=v1:=(ren_congr (X6f H1 x2) w1 k1).trans e1
 have dm2:∀ c,dom α1 c->dom α2 c:=fun c hc=>by simpa[dom,X6f H1 x2 c hc]using hc
 refine Ybm Y0o Yiv (tb:=4) (fun t ht=>by rw[show Xnc.params.toList=[22,22] by kernel_rfl]at ht;exact of_decide_eq_true (List.all_eq_true.1 (show [22,22].all (fun t=>decide (t < Tryd.prog.types.size))=true by kernel_rfl) t ht)) (by kernel_rfl) (by kernel_rfl) rfl hW rfl ?_
 refine Ye8 (vs:=[w1,w2]) H2 o2 (fun v hv => ?_) (by simp[m1,e2]) (Ypo _ (sx.old a2) sy (Laid.old Yls (a1.trans a2)) _ (fun _=>rfl))
 simp only[List.mem_cons,List.not_mem_nil,or_false]at hv
 rcases hv with rfl | rfl
 ·exact okV_mono dm2 _ k1
 ·exact k2
theorem Xsk:Rows.WalletApartSaid :=
 OpenClaim.holds_of_wide 3 Xnc rfl rfl rfl rfl rfl rfl rfl ⟨rfl,rfl,rfl,rfl,rfl⟩ rfl rfl rfl rfl rfl (by kernel_rfl) (by kernel_rfl) (by kernel_rfl)
  (of_decide_eq_true (by kernel_rfl)) (by unfold Func.isWrapper;rw[if_neg (of_decide_eq_false (by kernel_rfl))];exact⟨rfl,rfl⟩)
  (fun os started H enc _=>Yjj os started H enc)
theorem walletApart_holds:Rows.WalletApartCardSaid :=
 Claim7.holds_tied_plain_at .later [] [.widerDeep,.data,.widerDeep] true (true, "a0cb8c52f5dcab97370ffba10b614a2e9511657bfc24e5d4c82016074a04a44c") true
  Xsk (fun _ h=>by cases h) (by kernel_rfl) (fun _ h=>by cases h) walletApart_row_tie rfl ⟨rfl,rfl⟩ (by kernel_rfl) rfl
  (fun f fn hf hfn=>by
   obtain rfl:f=3:=Option.some.inj ((show Tryd.prog.funcNamed "mangrove/mangrovelaw18.WalletApart" = some 3 by kernel_rfl).symm.trans hf) |>.symm
   obtain rfl:fn=Xnc:=(Option.some.inj ((show Tryd.prog.funcs[3]? = some Xnc by kernel_rfl).symm.trans hfn)).symm
   exact⟨by kernel_rfl,fun j t ht=>by
    have:=List.all_eq_true.1 (show Xnc.params.toList.all (fun t => !Tryd.prog.wantsStandIn t)=true by kernel_rfl) t (by rw[Array.mem_toList_iff];exact Array.mem_of_getElem? ht)
    exact(by simpa using this:Tryd.prog.wantsStandIn t=false)⟩)
  (by kernel_rfl)
#print axioms walletApart_holds
end Go.Proofs.YtcnhfkplgknomaaDoor
