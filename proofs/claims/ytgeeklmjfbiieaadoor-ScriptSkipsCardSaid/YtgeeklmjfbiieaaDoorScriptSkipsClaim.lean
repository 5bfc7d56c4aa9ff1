/-
  THE STATEMENT ScriptSkips: the closed law returns true.
-/
import Derived.Test.YtgeeklmjfbiieaaDoorAbG
import Derived.Test.YtgeeklmjfbiieaaDoorSkX
import Derived.Test.YtgeeklmjfbiieaaDoorRows
import Derived.Test.YtgeeklmjfbiieaaDoorCards
import Derived.Test.YtgeeklmjfbiieaaDoorTie
set_option linter.all false
noncomputable section
namespace Go.Proofs.YtgeeklmjfbiieaaDoor
open Go Go.Ab
open Go.ChangeShapes Go.WideShapes Go.RowKit
set_option maxRecDepth 1000000
noncomputable def Qz8:Func:=(Tryd.prog.funcs[5]?).getD default
theorem X4n:Kids Tryd.prog (· < Tryd.prog.types.size):=kids_rows (by kernel_rfl) (by kernel_rfl)
theorem Xpk:∀ t e,t < Tryd.prog.types.size→Tryd.prog.underlying t=some (.slice e)→0 < Tryd.prog.cellsOf e:=slices_full_of _ (by kernel_rfl)
theorem Xsf:Ab.LaidIn (Qim nv laidAll) laidAll:=Q7f (by kernel_rfl)
theorem own:ownKnob Tryd.prog.godebug=none:=by kernel_rfl
theorem Xy1:Xtr Tryd.prog Rows.scriptSkipsRow.laid nv laidAll:=by
 intro x hx
 rcases List.mem_cons.1 hx with rfl | hx
 ·exact⟨by decide,Qg4 (by kernel_rfl), "mangrove/blake.begins",(Tryd.prog.globals[0]?.map (·.type)).getD 0,_,8,List.mem_cons_self,by kernel_rfl,by kernel_rfl,by kernel_rfl⟩
 ·rcases List.mem_cons.1 hx with rfl | hx
  ·exact⟨by decide,Qg4 (by kernel_rfl), "mangrove/pack.forms",(Tryd.prog.globals[1]?.map (·.type)).getD 0,_,8,(List.mem_cons_of_mem _ (List.mem_cons_of_mem _ (List.mem_cons_of_mem _ List.mem_cons_self))),by kernel_rfl,by kernel_rfl,by kernel_rfl⟩
  ·rcases List.mem_cons.1 hx with rfl | hx
   ·exact⟨by decide,Qg4 (by kernel_rfl), "mangrove/blake.orders",(Tryd.prog.globals[2]?.map (·.type)).getD 0,_,8,(List.mem_cons_of_mem _ List.mem_cons_self),by kernel_rfl,by kernel_rfl,by kernel_rfl⟩
   ·cases hx
theorem start{W:World}(h:laidMet Tryd.prog Rows.scriptSkipsRow.laid W):HRel ⟨nv,W.heap.size⟩ (Xfo nv) (Qim nv laidAll) W :=
 Xgy h Xy1 (Xrm h Xy1 (2,Qjg) (by simp[laidAll]))
theorem Xq4(os:Os)(started:os.Started)(H:Type)(enc:TypeId × Value→H) :
  ReturnsInHanded {} Tryd.checked os 5 .any (fun w args=>(Rows.scriptSkipsSpec.pre enc Tryd.prog Qz8 [] false w args∧laidMetH Tryd.prog Rows.scriptSkipsRow.laid w)∧sizedMet enc Tryd.prog Qz8 (OpenSpec.ofChange Rows.scriptSkipsSpec) false w args)
   (Rows.scriptSkipsSpec.post enc Tryd.prog Qz8 false true false false):=by
 refine returnsInHanded_of_change_and (C:=Tryd.checked) (X:=fun w _=>laidMetH Tryd.prog Rows.scriptSkipsRow.laid w) (fun _ _ _ hh h=>h.of_heap hh) own started (by kernel_rfl) (by kernel_rfl)
  (ChangeSpec.witness_at (enc:=enc) (C:=Tryd.checked) (os:=os) (X:=fun w _=>laidMetH Tryd.prog Rows.scriptSkipsRow.laid w) false (World.laidAll Tryd.prog os Rows.scriptSkipsRow.laid) #[.slice none 0 0,.slice none 0 0,.slice none 0 0] 8 (World.laidAll_os _ _ _) (by kernel_rfl) (by kernel_rfl) (by kernel_rfl) (by kernel_rfl) (by kernel_rfl)
   (laidMet_laidAll _ (by kernel_rfl) (by kernel_rfl))) ?_
 intro W base args ds gs before hval hW _ hbulk hL _
 have hL':laidMet Tryd.prog Rows.scriptSkipsRow.laid W:=by rw[Go.MakeChecks.laidMetH_plain _ _ _ (by kernel_rfl)]at hL;exact hL
 have HS:=start hL'
 obtain⟨p,q,hA, -⟩:=id hW
 rw[show Qz8.params.toList=[47,47,43] by kernel_rfl]at hA hbulk
 obtain⟨v1,vs1,d1,ds1,q1,r1,hargs,rfl, -,h1,hA1⟩:=trodAll_cons hA
 obtain⟨v2,vs2,d2,ds2,q2,r2,rfl,rfl, -,h2,hA2⟩:=trodAll_cons hA1
 obtain⟨v3,vs3,d3,ds3,q3,r3,rfl,rfl, -,h3,hA3⟩:=trodAll_cons hA2
 obtain⟨rfl,rfl, -⟩:=trodAll_nil hA3
 have hall:∀ n ∈ DataW.weightsEach Tryd.prog ([47,47,43]++Rows.scriptSkipsSpec.plain.varTypes Tryd.prog) ([d1,d2,d3]++gs),n≤reachBytes:=fun n hn=>by simpa using List.all_eq_true.1 hbulk n hn
 obtain⟨α1,hh1,w1,H1,o1,x1,a1,e1,k1,s1⟩:=Xh2 (e:=5) (by kernel_rfl) Q0v HS (Xp9 _ _) (hval 0 47 _ (by kernel_rfl) (by rw[← Array.getElem?_toList,hargs];rfl)) h1 (fun n hn=>hall n (Qgm (i:=0) rfl rfl hn))
 obtain⟨α2,hh2,w2,H2,o2,x2,a2,e2,k2,s2⟩:=Xh2 (e:=5) (by kernel_rfl) Q0v H1 o1 (hval 1 47 _ (by kernel_rfl) (by rw[← Array.getElem?_toList,hargs];rfl)) h2 (fun n hn=>hall n (Qgm (i:=1) rfl rfl hn))
 obtain⟨α3,hh3,w3,H3,o3,x3,a3,e3,k3,s3⟩:=Xh2 (e:=47) (by kernel_rfl) Xtm H2 o2 (hval 2 43 _ (by kernel_rfl) (by rw[← Array.getElem?_toList,hargs];rfl)) h3 (fun n hn=>hall n (Qgm (i:=2) rfl rfl hn))
 obtain⟨xs,sx,bx, -⟩:=Xz9 s1
 obtain⟨ys,sy,by', -⟩:=Xz9 s2
 obtain⟨items,ss,hn,its,hl⟩:=Xvt s3
 have m1:ren α3 w1=v1:=by rw[ren_congr (fun c hc=>(Qvh H2 x3 c (by simpa[dom,Qvh H1 x2 c hc]using hc)).trans (Qvh H1 x2 c hc)) w1 k1,e1]
 have m2:ren α3 w2=v2:=by rw[ren_congr (Qvh H2 x3) w2 k2,e2]
 have dm2:∀ c,dom α1 c→dom α2 c:=fun c hc=>by simpa[dom,Qvh H1 x2 c hc]using hc
 have dm3:∀ c,dom α2 c→dom α3 c:=fun c hc=>by simpa[dom,Qvh H2 x3 c hc]using hc
 refine Xko X4n Xpk (tb:=4) (fun t ht=>by rw[show Qz8.params.toList=[47,47,43] by kernel_rfl]at ht;exact of_decide_eq_true (List.all_eq_true.1 (show [47,47,43].all (fun t=>decide (t < Tryd.prog.types.size))=true by kernel_rfl) t ht)) (by kernel_rfl) (by kernel_rfl) rfl hW rfl ?_
 refine Xmp (vs:=[w1,w2,w3]) H3 o3 (fun v hv => ?_) (by apply Array.ext';rw[hargs];simp[m1,m2,e3]) (Xdk _ ((sx.old a2).old a3) bx (sy.old a3) by' ss hn its hl (Laid.old Xsf ((a1.trans a2).trans a3)) _ (fun _=>rfl))
 simp only[List.mem_cons,List.not_mem_nil,or_false]at hv
 rcases hv with rfl | rfl | rfl
 ·exact okV_mono (fun c hc=>dm3 c (dm2 c hc)) _ k1
 ·exact okV_mono dm3 _ k2
 ·exact k3
theorem Q3x:Rows.ScriptSkipsSaid :=
 OpenClaim.holds_of_wide 5 Qz8 rfl rfl rfl rfl rfl rfl rfl ⟨rfl,rfl,rfl,rfl,rfl⟩ rfl rfl rfl rfl rfl (by kernel_rfl) (by kernel_rfl) (by kernel_rfl)
  (of_decide_eq_true (by kernel_rfl)) (by unfold Func.isWrapper;rw[if_neg (of_decide_eq_false (by kernel_rfl))];exact⟨rfl,rfl⟩)
  (fun os started H enc _=>Xq4 os started H enc)
theorem scriptSkips_holds:Rows.ScriptSkipsCardSaid :=
 Claim7.holds_tied_plain_at .later [] [.widerDeep,.data,.data,.widerDeep,.pinned] true (true, "7b9be1d986de62eedba578622e6e904b28071755f5a2cd976ef061f1b7f52159") true
  Q3x (fun _ h=>by cases h) (by kernel_rfl) (fun _ h=>by cases h) scriptSkips_row_tie rfl ⟨rfl,rfl⟩ (by kernel_rfl) rfl
  (fun f fn hf hfn=>by
   obtain rfl:f=5:=Option.some.inj ((show Tryd.prog.funcNamed "mangrove/mangrovelaw06.ScriptSkips" = some 5 by kernel_rfl).symm.trans hf) |>.symm
   obtain rfl:fn=Qz8:=(Option.some.inj ((show Tryd.prog.funcs[5]? = some Qz8 by kernel_rfl).symm.trans hfn)).symm
   exact⟨by kernel_rfl,fun j t ht=>by
    have:=List.all_eq_true.1 (show Qz8.params.toList.all (fun t => !Tryd.prog.wantsStandIn t)=true by kernel_rfl) t (by rw[Array.mem_toList_iff];exact Array.mem_of_getElem? ht)
    exact(by simpa using this:Tryd.prog.wantsStandIn t=false)⟩)
  (by kernel_rfl)
#print axioms scriptSkips_holds
end Go.Proofs.YtgeeklmjfbiieaaDoor
