/-
  THE STATEMENT LedgerUndoes: the closed law returns true.
-/
import Derived.Test.YtijagoebdgohnaaGreatDoorAbG
import Derived.Test.YtijagoebdgohnaaGreatDoorLuL
import Derived.Test.YtijagoebdgohnaaGreatDoorRows
import Derived.Test.YtijagoebdgohnaaGreatDoorCards
import Derived.Test.YtijagoebdgohnaaGreatDoorTie
set_option linter.all false
noncomputable section
namespace Go.Proofs.YtijagoebdgohnaaGreatDoor
open Go Go.Ab
open Go.ChangeShapes Go.WideShapes Go.RowKit
set_option maxRecDepth 1000000
noncomputable def Ybg:Func:=(Tryz.prog.funcs[3]?).getD default
theorem Jj0:Kids Tryz.prog (· < Tryz.prog.types.size):=kids_rows (by kernel_rfl) (by kernel_rfl)
theorem Zwd:∀ t e,t < Tryz.prog.types.size->Tryz.prog.underlying t=some (.slice e)->0 < Tryz.prog.cellsOf e:=slices_full_of _ (by kernel_rfl)
theorem Zzk:Ab.LaidIn (Q0b nv laidAll) laidAll:=Yqm (by kernel_rfl)
theorem own:ownKnob Tryz.prog.godebug=none:=by kernel_rfl
theorem Z7v:Z2e Tryz.prog Rows.ledgerUndoesRow.laid nv laidAll:=by
 intro x hx
 rcases ax.1 hx with rfl | hx
 ·exact⟨by decide,Q14 (by kernel_rfl), "mangrove/blake.begins",(Tryz.prog.globals[0]?.map (·.type)).getD 0,_,8,bX,by kernel_rfl,by kernel_rfl,by kernel_rfl⟩
 ·rcases ax.1 hx with rfl | hx
  ·exact⟨by decide,Q14 (by kernel_rfl), "mangrove/pack.forms",(Tryz.prog.globals[1]?.map (·.type)).getD 0,_,8,(bb _ (bb _ (bb _ bX))),by kernel_rfl,by kernel_rfl,by kernel_rfl⟩
  ·rcases ax.1 hx with rfl | hx
   ·exact⟨by decide,Q14 (by kernel_rfl), "mangrove/blake.orders",(Tryz.prog.globals[3]?.map (·.type)).getD 0,_,8,(bb _ bX),by kernel_rfl,by kernel_rfl,by kernel_rfl⟩
   ·cases hx
theorem start{W:World}(h:laidMet Tryz.prog Rows.ledgerUndoesRow.laid W):HRel ⟨nv,W.heap.size⟩ (Ykl nv) (Q0b nv laidAll) W :=
 Zfh h Z7v (Zz6 h Z7v (3,Q4c) (by simp[laidAll]))
theorem Zwj(os:Os)(started:os.Started)(H:Type)(enc:TypeId × Value->H) :
  ReturnsInHanded {} Tryz.checked os 3 .any (fun w args=>(Rows.ledgerUndoesSpec.pre enc Tryz.prog Ybg [] false w args/\laidMetH Tryz.prog Rows.ledgerUndoesRow.laid w)/\sizedMet enc Tryz.prog Ybg (OpenSpec.ofChange Rows.ledgerUndoesSpec) false w args)
   (Rows.ledgerUndoesSpec.post enc Tryz.prog Ybg false true false false):=by
 refine returnsInHanded_of_change_and (C:=Tryz.checked) (X:=fun w _=>laidMetH Tryz.prog Rows.ledgerUndoesRow.laid w) (fun _ _ _ hh h=>h.of_heap hh) own started (by kernel_rfl) (by kernel_rfl)
  (ChangeSpec.witness_at (enc:=enc) (C:=Tryz.checked) (os:=os) (X:=fun w _=>laidMetH Tryz.prog Rows.ledgerUndoesRow.laid w) false (World.laidAll Tryz.prog os Rows.ledgerUndoesRow.laid) #[.slice none 0 0,.slice none 0 0] 8 (World.laidAll_os _ _ _) (by kernel_rfl) (by kernel_rfl) (by kernel_rfl) (by kernel_rfl) (by kernel_rfl)
   (laidMet_laidAll _ (by kernel_rfl) (by kernel_rfl))) ?_
 intro W base args ds gs before hval hW _ hbulk hL _
 have hL':laidMet Tryz.prog Rows.ledgerUndoesRow.laid W:=by rw[Go.MakeChecks.laidMetH_plain _ _ _ (by kernel_rfl)]at hL;exact hL
 have HS:=start hL'
 obtain⟨p,q,hA, -⟩:=id hW
 rw[show Ybg.params.toList=[22,23] by kernel_rfl]at hA hbulk
 obtain⟨v1,v2,d1,d2,p1,p2,rfl,rfl,rfl,h1,h2⟩:=trodAll_two hA
 have hall:∀ n ∈ DataW.weightsEach Tryz.prog ([22,23]++Rows.ledgerUndoesSpec.plain.varTypes Tryz.prog) ([d1,d2]++gs),n<=reachBytes:=fun n hn=>by simpa using dA.1 hbulk n hn
 obtain⟨α1,hh1,w1,H1,o1,x1,a1,e1,k1,s1⟩:=Zut (e:=3) (by kernel_rfl) Zhl HS (Y81 _ _) (hval 0 22 _ (by kernel_rfl) rfl) h1 (fun n hn=>hall n (Q0x (i:=0) rfl rfl hn))
 obtain⟨α2,hh2,w2,H2,o2,x2,a2,e2,k2,s2⟩:=Zut (e:=36) (by kernel_rfl) Zwc H1 o1 (hval 1 23 _ (by kernel_rfl) rfl) h2 (fun n hn=>hall n (Q0x (i:=1) rfl rfl hn))
 obtain⟨xs,sx,nx⟩:=Z2u s1
 obtain⟨ys,sy⟩:=Jfe s2
 have m1:ren α2 w1=v1:=(ren_congr (Zbq H1 x2) w1 k1).trans e1
 have dm2:∀ c,dom α1 c->dom α2 c:=fun c hc=>by simpa[dom,Zbq H1 x2 c hc]using hc
 refine Zo1 Jj0 Zwd (tb:=4) (fun t ht=>by rw[show Ybg.params.toList=[22,23] by kernel_rfl]at ht;exact of_decide_eq_true (dA.1 (show [22,23].all (fun t=>decide (t < Tryz.prog.types.size))=true by kernel_rfl) t ht)) (by kernel_rfl) (by kernel_rfl) rfl hW rfl ?_
 refine Zrd (vs:=[w1,w2]) H2 o2 (fun v hv => ?_) (by simp[m1,e2]) (Jds _ (Laid.old Zzk (a1.trans a2)) (sx.old a2) nx sy _ (fun _=>rfl))
 simp only[ax,cQ,or_false]at hv
 rcases hv with rfl | rfl
 ·exact okV_mono dm2 _ k1
 ·exact k2
theorem Yjr:Rows.LedgerUndoesSaid :=
 OpenClaim.holds_of_wide 3 Ybg rfl rfl rfl rfl rfl rfl rfl ⟨rfl,rfl,rfl,rfl,rfl⟩ rfl rfl rfl rfl rfl (by kernel_rfl) (by kernel_rfl) (by kernel_rfl)
  (of_decide_eq_true (by kernel_rfl)) (by unfold Func.isWrapper;rw[if_neg (of_decide_eq_false (by kernel_rfl))];exact⟨rfl,rfl⟩)
  (fun os started H enc _=>Zwj os started H enc)
theorem ledgerUndoes_holds:Rows.LedgerUndoesCardSaid :=
 Claim7.holds_tied_plain_at .later [] [.widerDeep,.data,.data,.widerDeep,.pinned] true (true, "6ca63b244d3df9415dfa4f1e38b2154dfaf99ed15500851b83b4fd5304864c02") true
  Yjr (fun _ h=>by cases h) (by kernel_rfl) (fun _ h=>by cases h) ledgerUndoes_row_tie rfl ⟨rfl,rfl⟩ (by kernel_rfl) rfl
  (fun f fn hf hfn=>by
   obtain rfl:f=3:=bB ((show Tryz.prog.funcNamed "mangrove/mangrovelaw10.LedgerUndoes" = some 3 by kernel_rfl).symm.trans hf) |>.symm
   obtain rfl:fn=Ybg:=(bB ((show Tryz.prog.funcs[3]? = some Ybg by kernel_rfl).symm.trans hfn)).symm
   exact⟨by kernel_rfl,fun j t ht=>by
    have:=dA.1 (show Ybg.params.toList.all (fun t => !Tryz.prog.wantsStandIn t)=true by kernel_rfl) t (by rw[dH];exact cm ht)
    exact(by simpa using this:Tryz.prog.wantsStandIn t=false)⟩)
  (by kernel_rfl)
#print axioms ledgerUndoes_holds
end Go.Proofs.YtijagoebdgohnaaGreatDoor
