import Derived.Test.YtgeeklmjfbiieaaDoorAbG
import Derived.Test.YtgeeklmjfbiieaaDoorR6A
import Derived.Test.YtgeeklmjfbiieaaDoorRows
import Derived.Test.YtgeeklmjfbiieaaDoorCards
import Derived.Test.YtgeeklmjfbiieaaDoorTie
set_option linter.all false
noncomputable section
namespace Go.Proofs.YtgeeklmjfbiieaaDoor
open Go Go.Ab
open Go.ChangeShapes Go.WideShapes Go.RowKit
set_option maxRecDepth 1000000
noncomputable def Xv8:Func:=(Tryd.prog.funcs[4]?).getD default
theorem Zqm:Kids Tryd.prog (· < Tryd.prog.types.size):=kids_rows (by kernel_rfl) (by kernel_rfl)
theorem Y78:∀ t e,t < Tryd.prog.types.size→Tryd.prog.underlying t=some (.slice e)→0 < Tryd.prog.cellsOf e:=slices_full_of _ (by kernel_rfl)
theorem Zb9:Ab.LaidIn (Quh nv laidAll) laidAll:=X6x (by kernel_rfl)
theorem own:ownKnob Tryd.prog.godebug=none:=by kernel_rfl
theorem Zgf:Zb8 Tryd.prog Rows.scriptRunsRow.laid nv laidAll:=by
 intro x hx
 rcases List.mem_cons.1 hx with rfl | hx
 ·exact⟨by decide,Qpr (by kernel_rfl), "mangrove/blake.begins",(Tryd.prog.globals[0]?.map (·.type)).getD 0,_,8,List.mem_cons_self,by kernel_rfl,by kernel_rfl,by kernel_rfl⟩
 ·rcases List.mem_cons.1 hx with rfl | hx
  ·exact⟨by decide,Qpr (by kernel_rfl), "mangrove/pack.forms",(Tryd.prog.globals[1]?.map (·.type)).getD 0,_,8,(List.mem_cons_of_mem _ (List.mem_cons_of_mem _ (List.mem_cons_of_mem _ List.mem_cons_self))),by kernel_rfl,by kernel_rfl,by kernel_rfl⟩
  ·rcases List.mem_cons.1 hx with rfl | hx
   ·exact⟨by decide,Qpr (by kernel_rfl), "mangrove/blake.orders",(Tryd.prog.globals[2]?.map (·.type)).getD 0,_,8,(List.mem_cons_of_mem _ List.mem_cons_self),by kernel_rfl,by kernel_rfl,by kernel_rfl⟩
   ·cases hx
theorem start{W:World}(h:laidMet Tryd.prog Rows.scriptRunsRow.laid W):HRel ⟨nv,W.heap.size⟩ (Ynj nv) (Quh nv laidAll) W :=
 Yoq h Zgf (Zah h Zgf (2,Qwc) (by simp[laidAll]))
theorem Y73(os:Os)(started:os.Started)(H:Type)(enc:TypeId × Value→H) :
  ReturnsInHanded {} Tryd.checked os 4 .any (fun w args=>(Rows.scriptRunsSpec.pre enc Tryd.prog Xv8 [] false w args∧laidMetH Tryd.prog Rows.scriptRunsRow.laid w)∧sizedMet enc Tryd.prog Xv8 (OpenSpec.ofChange Rows.scriptRunsSpec) false w args)
   (Rows.scriptRunsSpec.post enc Tryd.prog Xv8 false true false false):=by
 refine returnsInHanded_of_change_and (C:=Tryd.checked) (X:=fun w _=>laidMetH Tryd.prog Rows.scriptRunsRow.laid w) (fun _ _ _ hh h=>h.of_heap hh) own started (by kernel_rfl) (by kernel_rfl)
  (ChangeSpec.witness_at (enc:=enc) (C:=Tryd.checked) (os:=os) (X:=fun w _=>laidMetH Tryd.prog Rows.scriptRunsRow.laid w) false (World.laidAll Tryd.prog os Rows.scriptRunsRow.laid) #[.agg ⟨[.slice none 0 0,.slice none 0 0,.slice none 0 0]++List.replicate 32 (.int .u8 0) ++ [.int .i64 0,.int .i64 0]⟩] 8 (World.laidAll_os _ _ _) (by kernel_rfl) (by kernel_rfl) (by kernel_rfl) (by kernel_rfl) (by kernel_rfl)
   (laidMet_laidAll _ (by kernel_rfl) (by kernel_rfl))) ?_
 intro W base args ds gs before hval hW _ hbulk hL _
 have hL':laidMet Tryd.prog Rows.scriptRunsRow.laid W:=by rw[Go.MakeChecks.laidMetH_plain _ _ _ (by kernel_rfl)]at hL;exact hL
 have HS:=start hL'
 obtain⟨p,q,hA, -⟩:=id hW
 rw[show Xv8.params.toList=[53] by kernel_rfl]at hA hbulk
 obtain⟨v1,d1,rfl,rfl,h1⟩:=trodAll_one hA
 have hall:∀ n ∈ DataW.weightsEach Tryd.prog ([53]++Rows.scriptRunsSpec.plain.varTypes Tryd.prog) ([d1]++gs),n≤reachBytes:=fun n hn=>by simpa using List.all_eq_true.1 hbulk n hn
 obtain⟨α1,hh1,cs,H1,o1,x1,a1,e1,k1,q1⟩:=Y5f (fs:=Y4x) (by kernel_rfl) Zao HS (Y71 _ _) (hval 0 53 _ (by kernel_rfl) rfl) h1 (fun n hn=>hall n (Qy2 (i:=0) rfl rfl hn))
 obtain⟨vs,vk,vd,ds,seed,lk,ow,xs,items,rfl,C⟩:=Zjt q1
 refine Ywt Zqm Y78 (tb:=4) (fun t ht=>by rw[show Xv8.params.toList=[53] by kernel_rfl]at ht;exact of_decide_eq_true (List.all_eq_true.1 (show [53].all (fun t=>decide (t < Tryd.prog.types.size))=true by kernel_rfl) t ht)) (by kernel_rfl) (by kernel_rfl) rfl hW rfl ?_
 exact Y08 H1 o1 (by simpa using k1) (by simp[e1]) (Yos _ C (Laid.old Zb9 a1) _ (fun _=>rfl))
theorem Ydn:Rows.ScriptRunsSaid :=
 OpenClaim.holds_of_wide 4 Xv8 rfl rfl rfl rfl rfl rfl rfl ⟨rfl,rfl,rfl,rfl,rfl⟩ rfl rfl rfl rfl rfl (by kernel_rfl) (by kernel_rfl) (by kernel_rfl)
  (of_decide_eq_true (by kernel_rfl)) (by unfold Func.isWrapper;rw[if_neg (of_decide_eq_false (by kernel_rfl))];exact⟨rfl,rfl⟩)
  (fun os started H enc _=>Y73 os started H enc)
theorem scriptRuns_holds:Rows.ScriptRunsCardSaid :=
 Claim7.holds_tied_plain_at .later [] [.widerDeep,.data,.data,.widerDeep,.pinned] true (true, "7b9be1d986de62eedba578622e6e904b28071755f5a2cd976ef061f1b7f52159") true
  Ydn (fun _ h=>by cases h) (by kernel_rfl) (fun _ h=>by cases h) scriptRuns_row_tie rfl ⟨rfl,rfl⟩ (by kernel_rfl) rfl
  (fun f fn hf hfn=>by
   obtain rfl:f=4:=Option.some.inj ((show Tryd.prog.funcNamed "mangrove/mangrovelaw06.ScriptRuns" = some 4 by kernel_rfl).symm.trans hf) |>.symm
   obtain rfl:fn=Xv8:=(Option.some.inj ((show Tryd.prog.funcs[4]? = some Xv8 by kernel_rfl).symm.trans hfn)).symm
   exact⟨by kernel_rfl,fun j t ht=>by
    have:=List.all_eq_true.1 (show Xv8.params.toList.all (fun t => !Tryd.prog.wantsStandIn t)=true by kernel_rfl) t (by rw[Array.mem_toList_iff];exact Array.mem_of_getElem? ht)
    exact(by simpa using this:Tryd.prog.wantsStandIn t=false)⟩)
  (by kernel_rfl)
#print axioms scriptRuns_holds
end Go.Proofs.YtgeeklmjfbiieaaDoor
