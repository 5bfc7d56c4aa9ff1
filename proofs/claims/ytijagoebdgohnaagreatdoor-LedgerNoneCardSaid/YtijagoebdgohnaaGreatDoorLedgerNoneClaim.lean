/-
  THE STATEMENT LedgerNone: the closed law returns true.
-/
import Derived.Test.YtijagoebdgohnaaGreatDoorAbG
import Derived.Test.YtijagoebdgohnaaGreatDoorLuL
import Derived.Test.YtijagoebdgohnaaGreatDoorRows
import Derived.Test.YtijagoebdgohnaaGreatDoorCards
import Derived.Test.YtijagoebdgohnaaGreatDoorTie
set_option linter.all false
noncomputable section
namespace Go.Proofs.YtijagoebdgohnaaGreatDoor
open Go Go.Ab
open Go.ChangeShapes Go.WideShapes Go.RowKit
set_option maxRecDepth 1000000
noncomputable def Yc4:Func:=(Tryz.prog.funcs[4]?).getD default
theorem Jkw:Kids Tryz.prog (· < Tryz.prog.types.size):=kids_rows (by kernel_rfl) (by kernel_rfl)
theorem Zy7:∀ t e,t < Tryz.prog.types.size->Tryz.prog.underlying t=some (.slice e)->0 < Tryz.prog.cellsOf e:=slices_full_of _ (by kernel_rfl)
theorem Z1f:Ab.LaidIn (Q0v nv laidAll) laidAll:=Yrl (by kernel_rfl)
theorem own:ownKnob Tryz.prog.godebug=none:=kR
theorem Z9p:Z49 Tryz.prog Rows.ledgerNoneRow.laid nv laidAll:=by
 intro x hx
 rcases ax.1 hx with rfl | hx
 ·exact⟨by decide,Q1k (by kernel_rfl), "mangrove/blake.begins",(Tryz.prog.globals[0]?.map (·.type)).getD 0,_,8,bR,by kernel_rfl,by kernel_rfl,by kernel_rfl⟩
 ·rcases ax.1 hx with rfl | hx
  ·exact⟨by decide,Q1k (by kernel_rfl), "mangrove/pack.forms",(Tryz.prog.globals[1]?.map (·.type)).getD 0,_,8,(bb _ (bb _ (bb _ bR))),by kernel_rfl,by kernel_rfl,by kernel_rfl⟩
  ·rcases ax.1 hx with rfl | hx
   ·exact⟨by decide,Q1k (by kernel_rfl), "mangrove/blake.orders",(Tryz.prog.globals[3]?.map (·.type)).getD 0,_,8,(bb _ bR),by kernel_rfl,by kernel_rfl,by kernel_rfl⟩
   ·cases hx
theorem start{W:World}(h:laidMet Tryz.prog Rows.ledgerNoneRow.laid W):HRel ⟨nv,W.heap.size⟩ (Yle nv) (Q0v nv laidAll) W :=
 Zhe h Z9p (Z12 h Z9p (3,Q48) (by simp[laidAll]))
theorem Zyd(os:Os)(started:os.Started)(H:Type)(enc:TypeId × Value->H) :
  ReturnsInHanded {} Tryz.checked os 4 .any (fun w args=>(Rows.ledgerNoneSpec.pre enc Tryz.prog Yc4 [] false w args/\laidMetH Tryz.prog Rows.ledgerNoneRow.laid w)/\sizedMet enc Tryz.prog Yc4 (OpenSpec.ofChange Rows.ledgerNoneSpec) false w args)
   (Rows.ledgerNoneSpec.post enc Tryz.prog Yc4 false true false false):=by
 refine returnsInHanded_of_change_and (C:=Tryz.checked) (X:=fun w _=>laidMetH Tryz.prog Rows.ledgerNoneRow.laid w) (fun _ _ _ hh h=>h.of_heap hh) own started (by kernel_rfl) (by kernel_rfl)
  (ChangeSpec.witness_at (enc:=enc) (C:=Tryz.checked) (os:=os) (X:=fun w _=>laidMetH Tryz.prog Rows.ledgerNoneRow.laid w) false (World.laidAll Tryz.prog os Rows.ledgerNoneRow.laid) #[.agg ⟨[.slice none 0 0,.slice none 0 0,.int .i64 0,.int .i64 0]⟩] 8 (World.laidAll_os _ _ _) (by kernel_rfl) (by kernel_rfl) (by kernel_rfl) (by kernel_rfl) (by kernel_rfl)
   (laidMet_laidAll _ (by kernel_rfl) (by kernel_rfl))) ?_
 intro W base args ds gs before hval hW _ hbulk hL _
 have hL':laidMet Tryz.prog Rows.ledgerNoneRow.laid W:=by rw[Go.MakeChecks.laidMetH_plain _ _ _ (by kernel_rfl)]at hL;exact hL
 have HS:=start hL'
 obtain⟨p,q,hA, -⟩:=id hW
 rw[show Yc4.params.toList=[48] by kernel_rfl]at hA hbulk
 obtain⟨v1,d1,rfl,rfl,h1⟩:=trodAll_one hA
 have hall:∀ n ∈ DataW.weightsEach Tryz.prog ([48]++Rows.ledgerNoneSpec.plain.varTypes Tryz.prog) ([d1]++gs),n<=reachBytes:=fun n hn=>by simpa using dh.1 hbulk n hn
 obtain⟨α1,hh1,cs,H1,o1,x1,a1,e1,k1,q1⟩:=Zzc (fs:=Z7k) (by kernel_rfl) Z93 HS (Y9p _ _) (hval 0 48 _ (by kernel_rfl) rfl) h1 (fun n hn=>hall n (Xcd (i:=0) rfl rfl hn))
 obtain⟨x,rfl,X⟩:=Jfu q1
 refine Zpz Jkw Zy7 (tb:=4) (fun t ht=>by rw[show Yc4.params.toList=[48] by kernel_rfl]at ht;exact of_decide_eq_true (dh.1 (show [48].all (fun t=>decide (t < Tryz.prog.types.size))=true by kernel_rfl) t ht)) (by kernel_rfl) (by kernel_rfl) rfl hW rfl ?_
 exact Zt6 H1 o1 (by simpa using k1) (by simp[e1]) (Jcn _ (Laid.old Z1f a1) X _ (fun _=>rfl))
theorem Ywl:Rows.LedgerNoneSaid :=
 OpenClaim.holds_of_wide 4 Yc4 rfl rfl rfl rfl rfl rfl rfl ⟨rfl,rfl,rfl,rfl,rfl⟩ rfl rfl rfl rfl rfl (by kernel_rfl) (by kernel_rfl) (by kernel_rfl)
  (of_decide_eq_true (by kernel_rfl)) (by unfold Func.isWrapper;rw[if_neg (of_decide_eq_false (by kernel_rfl))];exact⟨rfl,rfl⟩)
  (fun os started H enc _=>Zyd os started H enc)
theorem ledgerNone_holds:Rows.LedgerNoneCardSaid :=
 Claim7.holds_tied_plain_at .later [] [.widerDeep,.data,.data,.widerDeep,.pinned] true (true, "6ca63b244d3df9415dfa4f1e38b2154dfaf99ed15500851b83b4fd5304864c02") true
  Ywl (fun _ h=>by cases h) (by kernel_rfl) (fun _ h=>by cases h) ledgerNone_row_tie rfl ⟨rfl,rfl⟩ (by kernel_rfl) rfl
  (fun f fn hf hfn=>by
   obtain rfl:f=4:=Ab.bE ((show Tryz.prog.funcNamed "mangrove/mangrovelaw10.LedgerNone" = some 4 by kernel_rfl).symm.trans hf) |>.symm
   obtain rfl:fn=Yc4:=(Ab.bE ((show Tryz.prog.funcs[4]? = some Yc4 by kernel_rfl).symm.trans hfn)).symm
   exact⟨by kernel_rfl,fun j t ht=>by
    have:=dh.1 (show Yc4.params.toList.all (fun t => !Tryz.prog.wantsStandIn t)=true by kernel_rfl) t (by rw[dF];exact ck ht)
    exact(by simpa using this:Tryz.prog.wantsStandIn t=false)⟩)
  (by kernel_rfl)
#print axioms ledgerNone_holds
end Go.Proofs.YtijagoebdgohnaaGreatDoor
