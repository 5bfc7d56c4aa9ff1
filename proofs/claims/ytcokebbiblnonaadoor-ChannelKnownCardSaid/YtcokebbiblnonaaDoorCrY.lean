/-
  The document's channel: Add from its head on; Fail, Fulfil, Expire.
-/
import Derived.Test.YtcokebbiblnonaaDoorCrX
import Derived.Test.YtcokebbiblnonaaDoorRfB
set_option linter.all false
noncomputable section
namespace Go.Proofs.YtcokebbiblnonaaDoor
open Go Go.Ab
set_option maxRecDepth 100000
theorem RMv.after{h h1 h':Heap}{κ:Nat}{lv lv':Value}(a:Old h h1)(m:RMv h1 h' κ lv lv'):RMv h h' κ lv lv' :=
 ⟨Nat.le_trans a.1 m.next,fun x hx h1' h2=>by rw[m.same x (Nat.lt_of_lt_of_le hx a.1) h1' h2,a.2 x hx],fun x hx=>by
  rcases m.sub x hx with q | q
  ·exact .inl q
  ·exact .inr (Nat.le_trans a.1 q)⟩
theorem Rel.amts{c:CSt}{t a b:Int}{L:List CKept}(R:Rel c a b L)(i:CInv c t):∀ k ∈ L,1≤k.row.am∧k.row.am≤Qg6:=fun k hk=>by
 obtain⟨-, -, -,h4,h5, -⟩:=i.rows k (R.perm.mem_iff.1 hk)
 exact⟨h4,h5⟩
theorem Rel.bal{c:CSt}{a b:Int}{L:List CKept}(R:Rel c a b L)(e:Int):(if e=1 then a+Qz5 1 L else if e=2 then b+Qz5 2 L else 0)=c.bal e:=by
 unfold CSt.bal
 rw[R.b1,R.b2]
section
variable(b:Nat){h:Heap}{n0 κ:Nat}{a0 b0:Int}{lv:Value}{L:List CKept}(R:Ref h n0 κ a0 b0 lv L)(hn:L.length < 900)
include R hn
section
attribute [local simp] Z8 Zv Ym Qbf Jk Xv Yo Qba Qc2 Zc Z2 Z5 Yy Yx Yw Qar Zb Z3 Yk Ul Xz Qet Xy Vr Qbd Qfz Qbg Uk Qcz Qk3 Y0 Qcq Z7 Yd Zf aop Qh nth Ab.g0 gv gs Q4 Qe aev evs evO Qk Tr.get_put St.put Tm.put flat flatA Zd Qn Qq Qp Qr Qm Qo Qs Qu Ql Q7 Q8 X6 Qa Q3 Q0 Qd Qb Qf Q1 Q2 Q9
set_option maxHeartbeats 4000000 in
theorem Y49{c:CSt}{t:Int}(i:CInv c t)(Rl:Rel c a0 b0 L)(h0:0≤a0∧a0≤Qg6)(h1:0≤b0∧b0≤Qg6)(r:CRow)(hr:r.hash.length=32)(K:AEnd→Heap→Prop)(hk:∀ h' lv',Ref h' n0 κ a0 b0 lv' (if Qn8 c r=0 then Xxh ⟨r,1,Uq⟩ L else L)→RMv h h' κ lv lv'→K (.ret (.int .i64 (Qn8 c r))) h'):FnK Tryd.prog (E b).G 30 [.pointer (some ⟨κ,0,none⟩),.agg ⟨r.cells⟩] h K:=by
 refine Qfa (E b) (Qh9 b) (Qc4 b) mixed (Qhf b) (Qf4 b) (Ym b) Xh9 Xtj Xq8 rfl ?_
 obtain⟨hA,eA⟩:∃ hA,hA=h.push (.cells true 1 r.cells):=⟨_,rfl⟩
 have bA:Yo5 (.agg ⟨r.cells⟩) h=some (.pointer (some ⟨h.next,0,none⟩),hA):=by rw[eA];rfl
 have gA:hA.get h.next=some (.cells true 1 r.cells):=by rw[eA,Heap.get_push,if_pos rfl]
 have aA:Old h hA:=by rw[eA];exact Old.push _ _
 have RA:=R.old aA
 have RR:RowAt hA h.next r:=⟨⟨1,gA⟩,hr⟩
 obtain⟨r0,r1,r2,r3, -⟩:=RR.cs
 have bad:∀ z h',Old h h'→Qn8 c r=z→z≠0→K (.ret (.int .i64 z)) h':=fun z h' a hz hn=>by
  have:=hk h' lv (by rw[if_neg (by omega)];exact R.old a) (RMv.old a)
  rwa [hz]at this
 by_cases f1:r.fr < 1
 ·simp[Yz,kON,kOC,Yi,kNN,kNP,kRR,kRP,kEN,kER,Q5,Xh,Zz,kTN,kTR,kTX,kTP,kBN,kBR,kBX,kBP,kCS,kCR,kCE,kAM,Yh.putAll,bA,r0,r1,r2,r3,f1]
  exact bad 1 hA aA (by unfold Qn8;rw[if_pos (by omega)]) (by decide)
 by_cases f2:2 < r.fr
 ·simp[Yz,kON,kOC,Yi,kNN,kNP,kRR,kRP,kEN,kER,Q5,Xh,Zz,kTN,kTR,kTX,kTP,kBN,kBR,kBX,kBP,kCS,kCR,kCE,kAM,Yh.putAll,bA,r0,r1,r2,r3,f1,f2]
  exact bad 1 hA aA (by unfold Qn8;rw[if_pos (by omega)]) (by decide)
 by_cases i1:r.id < 1
 ·simp[Yz,kON,kOC,Yi,kNN,kNP,kRR,kRP,kEN,kER,Q5,Xh,Zz,kTN,kTR,kTX,kTP,kBN,kBR,kBX,kBP,kCS,kCR,kCE,kAM,Yh.putAll,bA,r0,r1,r2,r3,f1,f2,i1]
  exact bad 1 hA aA (by unfold Qn8;rw[if_pos (by omega)]) (by decide)
 by_cases i2:1073741824 < r.id
 ·simp[Yz,kON,kOC,Yi,kNN,kNP,kRR,kRP,kEN,kER,Q5,Xh,Zz,kTN,kTR,kTX,kTP,kBN,kBR,kBX,kBP,kCS,kCR,kCE,kAM,Yh.putAll,bA,r0,r1,r2,r3,f1,f2,i1,i2]
  exact bad 1 hA aA (by unfold Qn8;rw[if_pos (by simp only[Q3y];omega)]) (by decide)
 by_cases u1:r.til < 0
 ·simp[Yz,kON,kOC,Yi,kNN,kNP,kRR,kRP,kEN,kER,Q5,Xh,Zz,kTN,kTR,kTX,kTP,kBN,kBR,kBX,kBP,kCS,kCR,kCE,kAM,Yh.putAll,bA,r0,r1,r2,r3,f1,f2,i1,i2,u1]
  exact bad 1 hA aA (by unfold Qn8;rw[if_pos (by omega)]) (by decide)
 by_cases u2:1073741824 < r.til
 ·simp[Yz,kON,kOC,Yi,kNN,kNP,kRR,kRP,kEN,kER,Q5,Xh,Zz,kTN,kTR,kTX,kTP,kBN,kBR,kBX,kBP,kCS,kCR,kCE,kAM,Yh.putAll,bA,r0,r1,r2,r3,f1,f2,i1,i2,u1,u2]
  exact bad 1 hA aA (by unfold Qn8;rw[if_pos (by simp only[Q3y];omega)]) (by decide)
 have ok1:¬ ((r.fr≠1∧r.fr≠2)∨r.id < 1∨Q3y < r.id∨r.til < 0∨Q3y < r.til):=by simp only[Q3y];omega
 by_cases m1:r.am < 1
 ·simp[Yz,kON,kOC,Yi,kNN,kNP,kRR,kRP,kEN,kER,Q5,Xh,Zz,kTN,kTR,kTX,kTP,kBN,kBR,kBX,kBP,kCS,kCR,kCE,kAM,Yh.putAll,bA,r0,r1,r2,r3,f1,f2,i1,i2,u1,u2,m1]
  exact bad 15 hA aA (by unfold Qn8;rw[if_neg ok1,if_pos (.inl m1)]) (by decide)
 by_cases m2:1125899906842624 < r.am
 ·simp[Yz,kON,kOC,Yi,kNN,kNP,kRR,kRP,kEN,kER,Q5,Xh,Zz,kTN,kTR,kTX,kTP,kBN,kBR,kBX,kBP,kCS,kCR,kCE,kAM,Yh.putAll,bA,r0,r1,r2,r3,f1,f2,i1,i2,u1,u2,m1,m2]
  exact bad 15 hA aA (by unfold Qn8;rw[if_neg ok1,if_pos (.inr m2)]) (by decide)
 have ok2:¬ (r.am < 1∨Qg6 < r.am):=by simp only[Qg6];omega
 simp[Yz,kON,kOC,Yi,kNN,kNP,kRR,kRP,kEN,kER,Q5,Xh,Zz,kTN,kTR,kTX,kTP,kBN,kBR,kBX,kBP,kCS,kCR,kCE,kAM,Yh.putAll,bA,r0,r1,r2,r3,f1,f2,i1,i2,u1,u2,m1,m2]
 refine Ykv b RA (by omega) r.id _ ?_
 cases hf:Qc5 r.id L with
 | some k =>
  obtain⟨j,k',hp,hi,hf'⟩:=Xut (id:=r.id) (L:=L) (by rw[hf];rfl)
  have hj:¬ (j:Int) < 0:=by omega
  have hj2:(0:Int)≤(j:Int):=by omega
  simp[Yz,kON,kOC,Yi,kNN,kNP,kRR,kRP,kEN,kER,Q5,Xh,Zz,kTN,kTR,kTX,kTP,kBN,kBR,kBX,kBP,kCS,kCR,kCE,kAM,Yh.putAll,hp,Ypg,hj,hj2]
  exact bad 13 hA aA (by unfold Qn8;rw[if_neg ok1,if_neg ok2,if_pos (by rw[← Rl.find,hf];rfl)]) (by decide)
 | none =>
  have ok3:¬ (Qc5 r.id c.rows).isSome=true:=by rw[← Rl.find,hf];simp
  simp[Yz,kON,kOC,Yi,kNN,kNP,kRR,kRP,kEN,kER,Q5,Xh,Zz,kTN,kTR,kTX,kTP,kBN,kBR,kBX,kBP,kCS,kCR,kCE,kAM,Yh.putAll,Xvs hf,Ypg]
  refine Yjk b RA (by omega) _ fun pv hP owP aP => ?_
  have lenp:∀ hx,Q2a (E b).toEnv 77 pv hx=some (.int .i64 ((Qe3 L).length:Int)):=fun hx=>Qk6 (T77 b) owP.sl
  have pr:=Ytn i Rl.pend.1 Rl.pend.2
  have am:=pr.len
  by_cases p16:16≤((Qe3 L).length:Int)
  ·simp[Yz,kON,kOC,Yi,kNN,kNP,kRR,kRP,kEN,kER,Q5,Xh,Zz,kTN,kTR,kTX,kTP,kBN,kBR,kBX,kBP,kCS,kCR,kCE,kAM,Yh.putAll,lenp,p16]
   exact bad 3 hP (aA.trans aP) (by unfold Qn8;rw[if_neg ok1,if_neg ok2,if_neg ok3,if_pos (by omega)]) (by decide)
  have ok4:¬ 16≤c.many:=by omega
  have RP:=RA.old aP
  obtain⟨s0,s1,s2,s3, -⟩:=(RR.old aP).cs
  obtain⟨_,hB,kB,kBn,jB,aB⟩:=Yw8 b RP (by omega) r.fr (Rl.amts i) h0 h1 (fun v h'=>v=.ret (.int .i64 (c.bal r.fr))∧Old hP h') (fun h' q=>⟨by rw[Rl.bal],q⟩)
  rw[jB]at kB
  obtain⟨-, -,v2, -, -⟩:=((RR.old aP).old aB).cs
  have v0:=((RR.old aP).old aB).cs.1
  by_cases lim:c.bal r.fr < r.am
  ·simp[Yz,kON,kOC,Yi,kNN,kNP,kRR,kRP,kEN,kER,Q5,Xh,Zz,kTN,kTR,kTX,kTP,kBN,kBR,kBX,kBP,kCS,kCR,kCE,kAM,Yh.putAll,lenp,p16]
   refine Qeu [⟨36,[.pointer (some ⟨κ,0,none⟩),.int .i64 r.fr],hP,.int .i64 (c.bal r.fr),hB,true⟩] ?_ Qo0 Qpa Qnu (by simp (config:={maxSteps:=1000000}) [Ab.runT,Zy,Z9,ldv,Nat.testBit,W5,J3,Zr,Jm,loadAt,Qae,V9,Qqd,Qr6,Yz,s0,s2,v2,Ql7,lim];first | exact⟨rfl,rfl⟩ | rfl) ?_ ?_
   ·simp only[List.mem_cons,List.not_mem_nil,or_false]
    rintro e rfl
    exact⟨kB,kBn,fun _ c hc=>aB.2 c hc⟩
   ·simp (config:={maxSteps:=1000000}) [Zy,Z9,Qb5,ldv,Ab.runT,Zy,Z9,ldv,Nat.testBit,W5,J3,Zr,Jm,loadAt,Qae,V9,Yz,s0,s2,v2,v0]
   simp[Yz,kON,kOC,Yi,kNN,kNP,kRR,kRP,kEN,kER,Q5,Xh,Zz,kTN,kTR,kTX,kTP,kBN,kBR,kBX,kBP,kCS,kCR,kCE,kAM,Yh.putAll]
   exact bad 22 hB ((aA.trans aP).trans aB) (by unfold Qn8;rw[if_neg ok1,if_neg ok2,if_neg ok3,if_neg ok4,if_pos lim]) (by decide)
  have e0:Qn8 c r=0:=by unfold Qn8;rw[if_neg ok1,if_neg ok2,if_neg ok3,if_neg ok4,if_neg lim]
  rw[e0]at hk
  simp only[if_true]at hk
  simp[Yz,kON,kOC,Yi,kNN,kNP,kRR,kRP,kEN,kER,Q5,Xh,Zz,kTN,kTR,kTX,kTP,kBN,kBR,kBX,kBP,kCS,kCR,kCE,kAM,Yh.putAll,lenp,p16]
  refine Qeu [⟨36,[.pointer (some ⟨κ,0,none⟩),.int .i64 r.fr],hP,.int .i64 (c.bal r.fr),hB,true⟩] ?_ Qo0 Qpa Qnu (by simp (config:={maxSteps:=1000000}) [Ab.runT,Zy,Z9,ldv,Nat.testBit,W5,J3,Zr,Jm,loadAt,Qae,V9,Qqd,Qr6,Yz,s0,s2,v2,Ql7,lim];first | exact⟨rfl,rfl⟩ | rfl) ?_ ?_
  ·simp only[List.mem_cons,List.not_mem_nil,or_false]
   rintro e rfl
   exact⟨kB,kBn,fun _ c hc=>aB.2 c hc⟩
  ·simp (config:={maxSteps:=1000000}) [Zy,Z9,Qb5,ldv,Ab.runT,Zy,Z9,ldv,Nat.testBit,W5,J3,Zr,Jm,loadAt,Qae,V9,Yz,s0,s2,v2,v0]
  simp[Yz,kON,kOC,Yi,kNN,kNP,kRR,kRP,kEN,kER,Q5,Xh,Zz,kTN,kTR,kTX,kTP,kBN,kBR,kBX,kBP,kCS,kCR,kCE,kAM,Yh.putAll,-Yz]
  exact Yvp b (RP.old aB) hn r hr ((RR.old aP).old aB) (by simp) (by simp) K fun h' lv' R' M'=>hk h' lv' R' (M'.after ((aA.trans aP).trans aB))
end
end
end Go.Proofs.YtcokebbiblnonaaDoor
end
noncomputable section
namespace Go.Proofs.YtcokebbiblnonaaDoor
open Go Go.Ab
set_option maxRecDepth 100000
theorem Xxd{h:Heap}{n0 z n:Nat}{v:Value}{xs:List Value}(o:Own h n0 z v n xs){bk i:Nat}(hb:Qb9 v=some bk){l:List Value}(hi:i+l.length≤xs.length) :
  ∃ h',Qdq h bk i l=some h'∧Own h' n0 z v n (xs.take i++l++xs.drop (i+l.length))∧h'.next=h.next∧∀ c,c≠bk→h'.get c=h.get c:=by
 rcases o with⟨rfl,rfl,rfl⟩ | ⟨bk',c,z',rest,rfl,h1,h2,h3,h4,h5,h6⟩
 ·cases hb
 ·simp only[Qb9,Option.some.injEq]at hb
  subst hb
  have hlt:=Heap.get_lt h2
  have e:(xs++rest).take i++l++(xs++rest).drop (i+l.length)=(xs.take i++l++xs.drop (i+l.length))++rest:=by
   rw[List.take_append_of_le_length (by omega),List.drop_append_of_le_length (by omega)]
   simp
  have el:(xs.take i++l++xs.drop (i+l.length)).length=xs.length:=by simp;omega
  refine⟨_,Qgn h2 (by simp;omega),.inr ⟨bk',c,z',rest,rfl,h1,by rw[Heap.get_set _ _ _ _ hlt,if_pos rfl,e],by rw[el];exact h3,h4,h5,?_⟩,rfl,fun k hk=>by rw[Heap.get_set _ _ _ _ hlt,if_neg (Ne.symm hk)]⟩
  rcases h6 with q | ⟨q,q'⟩
  ·exact .inl q
  ·refine .inr ⟨q,?_⟩
   rw[← q',List.length_append (bs:=rest),el,List.length_append]
theorem Ys7{l:List Value}{j:Nat}:∀ {L:List CKept} {i:Nat} {k k':CKept},(∀ x ∈ L,x.lens)→L[i]? = some k→k.cells.take j++l++k.cells.drop (j+l.length)=k'.cells→j+l.length≤69→(Qf3 L).take (i*69+j)++l++(Qf3 L).drop (i*69+j+l.length)=Qf3 (L.set i k')
 | [],i,k,k',_,h,_,_=>by simp at h
 | x::r,0,k,k',hl,h,e,hj=>by
  simp at h
  subst h
  have lx:=CKept.len (hl x List.mem_cons_self)
  simp only[Qf3,List.flatMap_cons,List.set_cons_zero,Nat.zero_mul,Nat.zero_add]
  rw[List.take_append_of_le_length (by omega),List.drop_append_of_le_length (by omega),← e]
  simp
 | x::r,i+1,k,k',hl,h,e,hj=>by
  have lx:=CKept.len (hl x List.mem_cons_self)
  have ih:=Ys7 (L:=r) (i:=i) (fun y hy=>hl y (List.mem_cons_of_mem _ hy)) (by simpa using h) e hj
  simp only[Qf3,List.flatMap_cons,List.set_cons_succ]at ih ⊢
  have e1:(i+1)*69+j=x.cells.length+(i*69+j):=by omega
  have e2:(i+1)*69+j+l.length=x.cells.length+(i*69+j+l.length):=by omega
  rw[e2,e1,List.take_append,List.drop_append,List.take_of_length_le (by omega),List.drop_of_length_le (l:=x.cells) (by omega)]
  simp only[Nat.add_sub_cancel_left,List.nil_append]
  rw[List.append_assoc,List.append_assoc,← ih,List.append_assoc]
theorem Yqi{id:Int}{f:CKept→CKept}:∀ {L:List CKept} {i:Nat} {k:CKept},(L.map (·.row.id)).Nodup→L[i]? = some k→k.row.id=id→L.map (upd id f)=L.set i (f k)
 | [],i,k,_,h,_=>by simp at h
 | x::r,0,k,nd,h,e=>by
  simp at h
  subst h
  simp only[List.map_cons,List.nodup_cons]at nd
  simp only[List.map_cons,List.set_cons_zero,upd,if_pos e.symm]
  congr 1
  conv=>rhs;rw[← List.map_id r]
  refine List.map_congr_left fun q hq => ?_
  unfold upd
  rw[if_neg]
  ·rfl
  ·intro e'
   exact nd.1 (List.mem_map.2 ⟨q,hq,by rw[← e',e]⟩)
 | x::r,i+1,k,nd,h,e=>by
  simp only[List.map_cons,List.nodup_cons]at nd
  have hk:r[i]? = some k:=by simpa using h
  have hne:id≠x.row.id:=fun e'=>nd.1 (List.mem_map.2 ⟨k,List.mem_of_getElem? hk,by rw[e,e']⟩)
  simp only[List.map_cons,List.set_cons_succ,Yqi nd.2 hk e]
  rw[upd,if_neg hne]
theorem Ref.put{h:Heap}{n0 κ:Nat}{a0 b0:Int}{lv:Value}{L:List CKept}(R:Ref h n0 κ a0 b0 lv L){i bk:Nat}{k k':CKept}(hi:L[i]? = some k)(hb:Qb9 lv=some bk){j:Nat}{l:List Value}(hj:j+l.length≤69)(he:k.cells.take j++l++k.cells.drop (j+l.length)=k'.cells)(hl:k'.lens) :
  ∃ h',Qdq h bk (i*69+j) l=some h'∧Ref h' n0 κ a0 b0 lv (L.set i k')∧RMv h h' κ lv lv∧h'.next=h.next∧∀ c,c≠bk→h'.get c=h.get c:=by
 have hlt:i < L.length:=(List.getElem?_eq_some_iff.1 hi).1
 have lc:(Qf3 L).length=L.length*69:=R.rows.len
 obtain⟨h',s1,o1,n1,f1⟩:=Xxd R.rows hb (i:=i*69+j) (l:=l) (by have : (i+1)*69≤L.length*69:=Nat.mul_le_mul_right _ hlt;omega)
 rw[Ys7 R.each hi he hj]at o1
 obtain⟨⟨z,g⟩, -⟩:=id R
 have nκ:κ≠bk:=fun e=>R.ap (e ▸ hb)
 refine⟨h',s1,⟨⟨z,by rw[f1 κ nκ];exact g⟩,by rw[List.length_set];exact o1,R.lo,R.ap,fun x hx => ?_⟩,⟨by rw[n1];exact Nat.le_refl _,fun x _ _ hne=>f1 x fun e=>hne (e ▸ hb),fun _ h => .inl h⟩,n1,f1⟩
 rcases List.mem_or_eq_of_mem_set hx with h | rfl
 ·exact R.each x h
 ·exact hl
theorem Yk6{k:CKept}(hl:k.lens)(s:Int):k.cells.take 36 ++ [.int .i64 s]++k.cells.drop (36 + [Value.int .i64 s].length)=({k with state:=s}:CKept).cells:=by
 have lr:=CRow.len hl.1
 have h1:k.cells.take 36=k.row.cells:=by unfold CKept.cells;rw[← lr,List.take_left]
 have h2:k.cells.drop 37=k.secret.map u8v:=by
  have e:k.row.cells++(Value.int .i64 k.state::k.secret.map u8v)=(k.row.cells ++ [Value.int .i64 k.state])++k.secret.map u8v:=by simp
  have l3:(k.row.cells ++ [Value.int .i64 k.state]).length=37:=by simp[lr]
  unfold CKept.cells
  rw[e,← l3,List.drop_left]
 rw[h1,show 36 + [Value.int .i64 s].length=37 from rfl,h2]
 simp[CKept.cells]
theorem Yxz{k:CKept}(hl:k.lens){x:List Nat}(hx:x.length=32):k.cells.take 37++x.map u8v++k.cells.drop (37+(x.map u8v).length)=({k with secret:=x}:CKept).cells:=by
 have lr:=CRow.len hl.1
 have lk:=CKept.len hl
 have h1:k.cells.take 37=k.row.cells ++ [.int .i64 k.state]:=by
  have e:k.row.cells++(Value.int .i64 k.state::k.secret.map u8v)=(k.row.cells ++ [Value.int .i64 k.state])++k.secret.map u8v:=by simp
  have l3:(k.row.cells ++ [Value.int .i64 k.state]).length=37:=by simp[lr]
  unfold CKept.cells
  rw[e,← l3,List.take_left]
 rw[h1,List.drop_of_length_le (by rw[lk,List.length_map,hx];omega)]
 simp[CKept.cells]
section
variable(b:Nat){h:Heap}{n0 κ:Nat}{a0 b0:Int}{lv:Value}{L:List CKept}(R:Ref h n0 κ a0 b0 lv L)(hn:L.length < 900)
include R hn
section
attribute [local simp] Qei Qij Jw Qh5 Yk Xv Vr Qbd Qbg Qao Jk Yu Qgu Qgf Zn Qga Yd kON kOC Yi kNN kNP kRR kRP kEN kER Q5 Xh Zz Zf aop Qh nth Ab.g0 gv gs Q4 Qe aev evs evO Qk Tr.get_put St.put Tm.put flat flatA Zd Qn Qq Qp Qr Qm Qo Qs Qu Ql Q7 Q8 kTN kTR kTX kTP kBN kBR kBX kBP kCS kCR kCE kAM Yh.putAll X6 Qa Q3 Q0 Qd Qb Qf Q1 Q2 Q9
set_option maxHeartbeats 1000000 in
theorem Y1u{c:CSt}(Rl:Rel c a0 b0 L)(id:Int)(K:AEnd→Heap→Prop)(hk:∀ h',Ref h' n0 κ a0 b0 lv (if(Qfb c id).isSome then L.map (upd id Xxp)else L)→RMv h h' κ lv lv→K (.ret (.int .i64 (Xtm c id))) h'):FnK Tryd.prog (E b).G 33 [.pointer (some ⟨κ,0,none⟩),.int .i64 id] h K:=by
 refine Qfa (E b) (Qh9 b) (Qc4 b) mixed (Qhf b) (Qf4 b) (Jw b) Xdi Xrt Xmn rfl ?_
 obtain⟨-, -, -,c3⟩:=R.cs
 simp
 refine Ykv b R (by omega) id _ ?_
 have bad:Qfb c id=none→K (.ret (.int .i64 12)) h:=fun hw=>by
  have:=hk h (by rw[hw];exact R) (RMv.old (Old.refl _))
  simpa[Xtm,hw]using this
 cases hf:Qc5 id L with
 | none =>
  simp[Xvs hf,Ypg]
  exact bad (by unfold Qfb;rw[← Rl.find,hf])
 | some k =>
  obtain⟨j,k',hp,hi,hf'⟩:=Xut (id:=id) (L:=L) (by rw[hf];rfl)
  rw[hf]at hf'
  cases hf'
  have hj:¬ (j:Int) < 0:=by omega
  obtain⟨bk,hb,ia,ka⟩:=R.kat b hi
  by_cases hs:k.state=1
  ·have hw:Qfb c id=some k:=by unfold Qfb;rw[← Rl.find,hf];simp[hs]
   have hid:=(Qhc hf).2
   have lk:=R.each k (List.mem_of_getElem? hi)
   obtain⟨h',s1,R1,M1, -, -⟩:=R.put hi hb (k':=Xxp k) (j:=36) (l:=[.int .i64 3]) (by simp) (Yk6 lk 3) lk
   have:=hk h' (by rw[hw];simp only[Option.isSome_some,if_true];rw[Yqi (Xd8 Rl.lt) hi hid];exact R1) M1
   simp only[Xtm,hw,Option.isSome_some,if_true]at this
   simp[hp,Ypg,hj,Wf,c3,ia,ka.st,hs,s1]
   exact this
  ·simp[hp,Ypg,hj,Wf,c3,ia,ka.st,hs]
   exact bad (by unfold Qfb;rw[← Rl.find,hf];simp[hs])
end
section
attribute [local simp] Vh Ud Z0 Yk Xv Vr Qbd Qbg Qao Jk Yu Vn Vj Qbh Uk Qqx Jn Wz Zn Qm0 Va Vl Yd Zf aop Qh nth Ab.g0 gv gs Q4 Qe aev evs evO Qk Tr.get_put St.put Tm.put flat flatA Zd Qn Qq Qp Qr Qm Qo Qs Qu Ql Q7 Q8 X6 Qa Q3 Q0 Qd Qb Qf Q1 Q2 Q9
set_option maxHeartbeats 2000000 in
theorem Yte{c:CSt}(Rl:Rel c a0 b0 L)(id:Int){x:List Nat}(hx:x.length=32)(hb8:∀ y ∈ x,y < 256)(K:AEnd→Heap→Prop)(hk:∀ h',Ref h' n0 κ a0 b0 lv (if Qeh c id x=0 then L.map (upd id fun q=>{q with state:=2,secret:=x})else L)→RMv h h' κ lv lv→K (.ret (.int .i64 (Qeh c id x))) h'):FnK Tryd.prog (E b).G 32 [.pointer (some ⟨κ,0,none⟩),.int .i64 id,.agg ⟨x.map u8v⟩] h K:=by
 refine Qfa (E b) (Qh9 b) (Qc4 b) mixed (Qhf b) (Qf4 b) (Z0 b) Q4f Xif Xay rfl ?_
 obtain⟨hA,eA⟩:∃ hA,hA=h.push (.cells true 1 (x.map u8v)):=⟨_,rfl⟩
 have bA:Yo5 (.agg ⟨x.map u8v⟩) h=some (.pointer (some ⟨h.next,0,none⟩),hA):=by rw[eA];rfl
 have gA:hA.get h.next=some (.cells true 1 (x.map u8v)):=by rw[eA,Heap.get_push,if_pos rfl]
 have aA:Old h hA:=by rw[eA];exact Old.push _ _
 have RA:=R.old aA
 obtain⟨-, -, -,c3⟩:=RA.cs
 have bad:∀ z h',Old h h'→Qeh c id x=z→z≠0→K (.ret (.int .i64 z)) h':=fun z h' a hz hn=>by
  have:=hk h' (by rw[if_neg (by omega)];exact R.old a) (RMv.old a)
  rwa [hz]at this
 simp[kON,kOC,Yi,kNN,kNP,kRR,kRP,kEN,kER,Q5,Xh,Zz,kTN,kTR,kTX,kTP,kBN,kBR,kBX,kBP,kCS,kCR,kCE,kAM,Yh.putAll,bA]
 refine Ykv b RA (by omega) id _ ?_
 cases hf:Qc5 id L with
 | none =>
  simp[kON,kOC,Yi,kNN,kNP,kRR,kRP,kEN,kER,Q5,Xh,Zz,kTN,kTR,kTX,kTP,kBN,kBR,kBX,kBP,kCS,kCR,kCE,kAM,Yh.putAll,Xvs hf,Ypg]
  exact bad 12 hA aA (by unfold Qeh Qfb;rw[← Rl.find,hf]) (by decide)
 | some k =>
  obtain⟨j,k',hp,hi,hf'⟩:=Xut (id:=id) (L:=L) (by rw[hf];rfl)
  rw[hf]at hf'
  cases hf'
  have hj:¬ (j:Int) < 0:=by omega
  obtain⟨bk,hb,ia,ka⟩:=RA.kat b hi
  by_cases hs:k.state=1
  rotate_left
  ·simp[kON,kOC,Yi,kNN,kNP,kRR,kRP,kEN,kER,Q5,Xh,Zz,kTN,kTR,kTX,kTP,kBN,kBR,kBX,kBP,kCS,kCR,kCE,kAM,Yh.putAll,hp,Ypg,hj,Wf,c3,ia,ka.st,hs]
   exact bad 12 hA aA (by unfold Qeh Qfb;rw[← Rl.find,hf];simp[hs]) (by decide)
  have hw:Qfb c id=some k:=by unfold Qfb;rw[← Rl.find,hf];simp[hs]
  have hid:=(Qhc hf).2
  have lk:=R.each k (List.mem_of_getElem? hi)
  have sA:SN hA (.slice (some ⟨h.next,0,none⟩) 32 32) x:=.inr ⟨h.next,0,32,true,1,[],[],by rw[hx],by simpa using gA,rfl,by simp,by omega,by unfold Qg5;omega,fun q=>by unfold Qg5 at q;omega⟩
  obtain⟨_,hS,k1,n1,j1,aS⟩:=Y4y b sA (by omega) hb8 (fun r h'=>r=.ret (.agg ⟨(Bl.keyed1 [] x).map u8v⟩)∧Old hA h') (fun h' q=>⟨rfl,q⟩)
  rw[j1]at k1
  have kl:(Bl.keyed1 [] x).length=32:=Qta _
  have RS:=RA.old aS
  obtain⟨-, -, -,d3⟩:=RS.cs
  obtain⟨bk',hb',ia',kaS⟩:=RS.kat b hi
  rw[hb]at hb'
  cases hb'
  by_cases hh:Bl.keyed1 [] x=k.row.hash
  ·have e0:Qeh c id x=0:=by simp[Qeh,hw,hh]
   rw[e0]at hk
   simp only[if_true]at hk
   have ldx:∀ hq,Old hA hq→Qcd hq h.next 0 32=some (.agg ⟨x.map u8v⟩):=fun hq a=>by rw[Qb3 (a.get gA) (by simp[hx]),List.drop_zero,List.take_of_length_le (by simp[hx])]
   obtain⟨h1,s1,R1,M1,nx1,f1⟩:=RS.put hi hb (k':={k with state:=2}) (j:=36) (l:=[.int .i64 2]) (by simp) (Yk6 lk 2) lk
   have hi1:(L.set j {k with state:=2})[j]? = some {k with state:=2}:=by rw[List.getElem?_set_self (List.getElem?_eq_some_iff.1 hi).1]
   obtain⟨h2,s2,R2,M2,nx2,f2⟩:=R1.put hi1 hb (k':={k with state:=2,secret:=x}) (j:=37) (l:=x.map u8v) (by simp[hx]) (Yxz (k:={k with state:=2}) lk hx) ⟨lk.1,hx⟩
   rw[List.set_set,← Yqi (f:=fun q:CKept=>{q with state:=2,secret:=x}) (Xd8 Rl.lt) hi hid]at R2
   obtain⟨-, -, -,e3⟩:=R1.cs
   have nbk:h.next≠bk:=fun e=>by have:=R.rows.out (e ▸ hb);omega
   have ldx1:Qcd h1 h.next 0 32=some (.agg ⟨x.map u8v⟩):=by
    have:=ldx hS aS
    unfold Qcd at this ⊢
    rw[f1 _ nbk];exact this
   have ldx2:Qcd h2 h.next 0 32=some (.agg ⟨x.map u8v⟩):=by
    have:=ldx1
    unfold Qcd at this ⊢
    rw[f2 _ nbk];exact this
   have e3':Vs h2 κ 3=some lv:=R2.cs.2.2.2
   have M:RMv h h2 κ lv lv:=RMv.after (aA.trans aS) ⟨by omega,fun y hy n1 n2=>by rw[M2.same y (by omega) n1 n2,M1.same y hy n1 n2],fun _ h => .inl h⟩
   simp[kON,kOC,Yi,kNN,kNP,kRR,kRP,kEN,kER,Q5,Xh,Zz,kTN,kTR,kTX,kTP,kBN,kBR,kBX,kBP,kCS,kCR,kCE,kAM,Yh.putAll,hp,Ypg,hj,Wf,c3,ia,ka.st,hs]
   refine Qeu [⟨48,[.slice (some ⟨h.next,0,none⟩) 32 32],hA,.agg ⟨(Bl.keyed1 [] x).map u8v⟩,hS,true⟩] ?_ Ql4 Qm7 Qkv (by simp (config:={maxSteps:=1000000}) [Ab.runT,Zy,Z9,ldv,Nat.testBit,W5,J3,Zr,Jm,loadAt,Qae,V9,Qmd,Qnx,Wf,Ybf,Ql7,d3,ia,kaS.hash,Y94 b kl lk.1];first | exact⟨rfl,rfl⟩ | rfl) ?_ ?_
   ·simp only[List.mem_cons,List.not_mem_nil,or_false]
    rintro e rfl
    exact⟨k1,n1,fun _ c hc=>aS.2 c hc⟩
   ·simp (config:={maxSteps:=1000000}) [Zy,Z9,Qaa,ldv,Ab.runT,Zy,Z9,ldv,Nat.testBit,W5,J3,Zr,Jm,loadAt,Qae,V9,Wf,c3,d3,ia,ka.hash,kaS.hash]
   simp[kON,kOC,Yi,kNN,kNP,kRR,kRP,kEN,kER,Q5,Xh,Zz,kTN,kTR,kTX,kTP,kBN,kBR,kBX,kBP,kCS,kCR,kCE,kAM,Yh.putAll,hh,Wf,d3,ia,s1]
   refine Qeu [] (by simp) Qv9 Qws Qvk (by simp (config:={maxSteps:=1000000}) [Ab.runT,Zy,Z9,ldv,Nat.testBit,W5,J3,Zr,Jm,loadAt,Qae,V9,Qyp,Q1u,Wf,e3,ia,ldx1,s2,hx];first | exact⟨rfl,rfl⟩ | rfl) ?_ ?_
   ·simp (config:={maxSteps:=1000000}) [Zy,Z9,Qau,ldv,Ab.runT,Zy,Z9,ldv,Nat.testBit,W5,J3,Zr,Jm,loadAt,Qae,V9,Wf,e3,e3',ia,ldx1,ldx2]
   simp[kON,kOC,Yi,kNN,kNP,kRR,kRP,kEN,kER,Q5,Xh,Zz,kTN,kTR,kTX,kTP,kBN,kBR,kBX,kBP,kCS,kCR,kCE,kAM,Yh.putAll]
   exact hk h2 R2 M
  ·simp[kON,kOC,Yi,kNN,kNP,kRR,kRP,kEN,kER,Q5,Xh,Zz,kTN,kTR,kTX,kTP,kBN,kBR,kBX,kBP,kCS,kCR,kCE,kAM,Yh.putAll,hp,Ypg,hj,Wf,c3,ia,ka.st,hs]
   refine Qeu [⟨48,[.slice (some ⟨h.next,0,none⟩) 32 32],hA,.agg ⟨(Bl.keyed1 [] x).map u8v⟩,hS,true⟩] ?_ Ql4 Qm7 Qkv (by simp (config:={maxSteps:=1000000}) [Ab.runT,Zy,Z9,ldv,Nat.testBit,W5,J3,Zr,Jm,loadAt,Qae,V9,Qmd,Qnx,Wf,Ybf,Ql7,d3,ia,kaS.hash,Y94 b kl lk.1];first | exact⟨rfl,rfl⟩ | rfl) ?_ ?_
   ·simp only[List.mem_cons,List.not_mem_nil,or_false]
    rintro e rfl
    exact⟨k1,n1,fun _ c hc=>aS.2 c hc⟩
   ·simp (config:={maxSteps:=1000000}) [Zy,Z9,Qaa,ldv,Ab.runT,Zy,Z9,ldv,Nat.testBit,W5,J3,Zr,Jm,loadAt,Qae,V9,Wf,c3,d3,ia,ka.hash,kaS.hash]
   simp[kON,kOC,Yi,kNN,kNP,kRR,kRP,kEN,kER,Q5,Xh,Zz,kTN,kTR,kTX,kTP,kBN,kBR,kBX,kBP,kCS,kCR,kCE,kAM,Yh.putAll,hh]
   exact bad 16 hS (aA.trans aS) (by simp[Qeh,hw,hh]) (by decide)
end
end
end Go.Proofs.YtcokebbiblnonaaDoor
end
noncomputable section
namespace Go.Proofs.YtcokebbiblnonaaDoor
open Go Go.Ab
set_option maxRecDepth 100000
def ovL(n:Int)(L:List CKept)(i:Nat):List CKept:=(L.take i).map (over n)++L.drop i
theorem Yv2(n:Int)(L:List CKept)(i:Nat):(ovL n L i).length=L.length:=by simp[ovL];omega
theorem Y4w{n:Int}{L:List CKept}{i:Nat}{k:CKept}(h:L[i]? = some k):(ovL n L i)[i]? = some k:=by
 have hlt:i < L.length:=(List.getElem?_eq_some_iff.1 h).1
 have l1:((L.take i).map (over n)).length=i:=by simp;omega
 rw[ovL,List.getElem?_append_right (by omega),l1,Nat.sub_self,List.getElem?_drop,Nat.add_zero,h]
theorem Yj0{n:Int}{L:List CKept}{i:Nat}{k:CKept}(h:L[i]? = some k):ovL n L (i+1)=(ovL n L i).set i (over n k):=by
 have hlt:i < L.length:=(List.getElem?_eq_some_iff.1 h).1
 have l1:((L.take i).map (over n)).length=i:=by simp;omega
 have e1:L.drop i=k::L.drop (i+1):=by
  rw[List.drop_eq_getElem_cons hlt]
  congr 1
  rw[List.getElem?_eq_getElem hlt]at h
  exact Option.some.inj h
 rw[ovL,ovL,List.set_append_right _ _ (by omega),l1,Nat.sub_self,e1,List.set_cons_zero,List.take_succ,h]
 simp
theorem Yix{n:Int}{L:List CKept}{i:Nat}{k:CKept}(h:L[i]? = some k):W8 n (Qe3 (L.take (i+1)))=W8 n (Qe3 (L.take i))++(if k.state=1∧k.row.til≤n then [k.row.id]else []):=by
 rw[Xx5 h]
 unfold W8
 by_cases h1:k.state=1
 ·by_cases h2:k.row.til≤n <;> simp[h1,h2,List.filter_append]
 ·simp[h1]
section
variable(b:Nat){h:Heap}{n0 κ:Nat}{a0 b0:Int}{lv:Value}{L:List CKept}(R:Ref h n0 κ a0 b0 lv L)(hn:L.length < 900)
include R hn
def Zbc(h:Heap)(n0 κ:Nat)(a0 b0 n:Int)(lv:Value)(L:List CKept)(m:Nat)(s:St):Prop:=∃ (tr:Tr Value) (h1:Heap) (ov:Value) (i:Nat),s=⟨⟨58,tr⟩,[],h1⟩∧tr.get 0=some (.pointer (some ⟨κ,0,none⟩))∧tr.get 1=some (.int .i64 n)∧tr.get 5=some ov∧tr.get 6=some (.int .i64 (i:Int))∧i≤L.length∧m=L.length-i∧Ref h1 n0 κ a0 b0 lv (ovL n L i)∧RMv h h1 κ lv lv∧Own h1 h.next 1 ov (W8 n (Qe3 (L.take i))).length (Xu9 (W8 n (Qe3 (L.take i))))
section
attribute [local simp] Qbw Qec J9 Qdc Qde Vr Qbd Qfz Xv Qbg Qao Jk Z6 Uk Qc2 Vi Qcx Qcc Zn Qba Y0 Yd kON kOC Yi kNN kNP kRR kRP kEN kER Q5 Xh Zz Zf aop Qh nth Ab.g0 gv gs Q4 Qe aev evs evO Qk Tr.get_put St.put Tm.put flat flatA Zd Qn Qq Qp Qr Qm Qo Qs Qu Ql Q7 Q8 kTN kTR kTX kTP kBN kBR kBX kBP kCS kCR kCE kAM Yh.putAll X6 Qa Q3 Q0 Qd Qb Qf Q1 Q2 Q9
set_option maxHeartbeats 2000000 in
theorem Y6d(n:Int)(K:AEnd→Heap→Prop)(hk:∀ v h',Ref h' n0 κ a0 b0 lv (L.map (over n))→RMv h h' κ lv lv→Own h' h.next 1 v (W8 n (Qe3 L)).length (Xu9 (W8 n (Qe3 L)))→K (.ret v) h'):FnK Tryd.prog (E b).G 34 [.pointer (some ⟨κ,0,none⟩),.int .i64 n] h K:=by
 refine Qfa (E b) (Qh9 b) (Qc4 b) mixed (Qhf b) (Qf4 b) (J9 b) Q2y Xh1 Xe7 rfl ?_
 have lκ:κ < h.next:=by obtain⟨z,g⟩:=R.at';exact Heap.get_lt g
 simp
 refine Qgm (Zbc h n0 κ a0 b0 n lv L) L.length ⟨_,h,.slice none 0 0,0,rfl,by simp,by simp,by simp,by simp,by omega,rfl,by simpa[ovL]using R,RMv.old (Old.refl _),Own.nil⟩ ?_
 rintro k s' ⟨tr,h1,ov,i,rfl,t0,t1,t5,t6,hi,rfl,R1,M1,ow⟩ _
 have len:=R1.len b
 rw[Yv2]at len
 obtain⟨-, -, -,c3⟩:=R1.cs
 by_cases hlt:i < L.length
 ·have hlt':(i:Int) < (L.length:Int):=by omega
  obtain⟨k,hk'⟩:∃ k,L[i]? = some k:=⟨_,List.getElem?_eq_getElem hlt⟩
  have hi1:=Y4w (n:=n) hk'
  obtain⟨bk,hb,ia,ka⟩:=R1.kat b hi1
  have lk:=R.each k (List.mem_of_getElem? hk')
  have w1:IntKind.i64.wrap ((i:Int)+1)=((i+1:Nat):Int):=by rw[Qa9 (by omega) (by omega)];omega
  have lids:(W8 n (Qe3 (L.take i))).length≤900:=by
   unfold W8 Qe3
   rw[List.length_map]
   refine Nat.le_trans (List.length_filter_le _ _) ?_
   rw[List.length_map]
   refine Nat.le_trans (List.length_filter_le _ _) ?_
   rw[List.length_take];omega
  by_cases hs:k.state=1
  ·by_cases ht:k.row.til≤n
   ·obtain⟨h2,s1,R2,M2,n2,f2⟩:=R1.put hi1 hb (k':=Xxp k) (j:=36) (l:=[.int .i64 3]) (by simp) (Yk6 lk 3) lk
    obtain⟨-, -, -,d3⟩:=R2.cs
    obtain⟨bk2,hb2,ia2,ka2⟩:=R2.kat b (i:=i) (k:=Xxp k) (by rw[List.getElem?_set_self (by rw[Yv2];exact hlt)])
    rw[hb]at hb2
    cases hb2
    have kid:Vs h2 bk (i*69+1)=some (.int .i64 k.row.id):=ka2.id
    have hbk:bk < h.next:=R.rows.out hb
    have ow2:Own h2 h.next 1 ov (W8 n (Qe3 (L.take i))).length (Xu9 (W8 n (Qe3 (L.take i)))):=ow.keep fun c hc _=>f2 c fun e=>by have:=(ow.from hc).1;omega
    have hbd:=Xu6 (T53 b) (z:=1) Qt6 (by omega) (by omega) (y:=.int .i64 k.row.id) rfl (ys:=[.int .i64 k.row.id]) rfl rfl (h:=h2)
    have hR8:R3.bytes=8:=by kernel_rfl
    obtain⟨v',h3,q1,q2,q3,q4⟩:=Qrh (T53 b) Qt6 (by omega) ow2 (by have:=M1.next;omega) (ys:=[.int .i64 k.row.id]) rfl (by rw[hR8];omega) (by omega)
    have R3:=R2.keep (h':=h3) fun c hc hc2=>q3.2 c hc fun e=>by
     have:=(ow2.from e).1
     rcases hc2 with rfl | hc2
     ·omega
     ·have:=R.rows.out hc2;omega
    have M3:RMv h h3 κ lv lv:=⟨by have:=M1.next;have:=q3.1;omega,fun x hx e1 e2=>by
     have:=M1.next
     rw[q3.2 x (by omega) (fun e=>by have:=(ow2.from e).1;omega),f2 x (fun e=>e2 (e ▸ hb)),M1.same x hx e1 e2],fun _ h => .inl h⟩
    simp[Wf,t0,t1,t5,t6,c3,len,hlt',ia,ka.st,ka.til,hs,ht,s1,d3,kid,hbd,q1,w1]
    refine⟨L.length-(i+1),by omega,_,h3,v',i+1,rfl,by simp[t0],by simp[t1],by simp,by simp,by omega,rfl,?_,M3,?_⟩
    ·rw[Yj0 hk',over,if_pos ⟨hs,ht⟩];exact R3
    ·rw[Yix hk',if_pos ⟨hs,ht⟩,List.length_append]
     simpa[Xu9]using q2
   ·simp[Wf,t0,t1,t5,t6,c3,len,hlt',ia,ka.st,ka.til,hs,ht,w1]
    refine⟨L.length-(i+1),by omega,_,h1,ov,i+1,rfl,by simp[t0],by simp[t1],by simp[t5],by simp,by omega,rfl,?_,M1,?_⟩
    ·rw[Yj0 hk',over,if_neg (fun h=>ht h.2)]
     have e:(ovL n L i).set i k=ovL n L i:=by
      obtain⟨h1,h2⟩:=List.getElem?_eq_some_iff.1 hi1
      rw[← h2];exact List.set_getElem_self h1
     rw[e];exact R1
    ·rw[Yix hk',if_neg (fun h=>ht h.2),List.append_nil];exact ow
  ·simp[Wf,t0,t1,t5,t6,c3,len,hlt',ia,ka.st,ka.til,hs,w1]
   refine⟨L.length-(i+1),by omega,_,h1,ov,i+1,rfl,by simp[t0],by simp[t1],by simp[t5],by simp,by omega,rfl,?_,M1,?_⟩
   ·rw[Yj0 hk',over,if_neg (fun h=>hs h.1)]
    have e:(ovL n L i).set i k=ovL n L i:=by
     obtain⟨h1,h2⟩:=List.getElem?_eq_some_iff.1 hi1
     rw[← h2];exact List.set_getElem_self h1
    rw[e];exact R1
   ·rw[Yix hk',if_neg (fun h=>hs h.1),List.append_nil];exact ow
 ·have hlt':¬ (i:Int) < (L.length:Int):=by omega
  have e:i=L.length:=by omega
  rw[e,List.take_length]at ow
  have R1':=R1
  rw[e]at R1'
  simp only[ovL,List.take_length,List.drop_length,List.append_nil]at R1'
  simp[Wf,t0,t1,t5,t6,c3,len,hlt']
  exact hk ov h1 R1' M1 ow
end
end
section
attribute [local simp] Qd9 Yd kON kOC Yi kNN kNP kRR kRP kEN kER Q5 Xh Zz Zf aop Qh nth Ab.g0 gv gs Q4 Qe aev evs evO Qk Tr.get_put St.put Tm.put flat flatA Zd Qn Qq Qp Qr Qm Qo Qs Qu Ql Q7 Q8 kTN kTR kTX kTP kBN kBR kBX kBP kCS kCR kCE kAM Yh.putAll X6 Qa Q3 Q0 Qd Qb Qf Q1 Q2 Q9
theorem Ywk(b:Nat)(x:Int)(h:Heap)(K:AEnd→Heap→Prop)(hk:K (.ret (.bool (decide (0≤x∧x≤Qg6)))) h):FnK Tryd.prog (E b).G 29 [.int .i64 x] h K:=by
 refine Qfa (E b) (Qh9 b) (Qc4 b) mixed (Qhf b) (Qf4 b) (Qd9 b) Xwe Yes X7h rfl ?_
 by_cases h1:0≤x
 ·by_cases h2:x≤1125899906842624
  ·rw[decide_eq_true (⟨h1,by simp only[Qg6];exact h2⟩:0≤x∧x≤Qg6)]at hk
   simp[Qnb,Qz3,Ul,Vi,Qsr,Qrq,h1,h2]
   exact hk
  ·rw[decide_eq_false (fun q=>h2 (by have:=q.2;simp only[Qg6]at this;exact this))]at hk
   simp[Qnb,Qz3,Ul,Vi,Qsr,Qrq,h1,h2]
   exact hk
 ·rw[decide_eq_false (fun q=>h1 q.1)]at hk
  simp[Qnb,Qz3,Ul,Vi,Qsr,Qrq,h1]
  exact hk
theorem Yup(b:Nat)(x y:Int):Qd0 (E b).toEnv 72 [(0,.agg ⟨[.int .i64 0,.int .i64 x,.int .i64 y]⟩)]=some (.agg ⟨[.int .i64 0,.int .i64 x,.int .i64 y,.slice none 0 0]⟩):=by kernel_rfl
theorem Yva(b:Nat){h:Heap}{x y:Int}(K:AEnd→Heap→Prop)(hk:∀ c,Yc7 x y=some c→∀ h' κ,Ref h' h.next κ x y (.slice none 0 0) []→Old h h'→κ < h'.next→K (.ret (.tuple #[.pointer (some ⟨κ,0,none⟩),.int .i64 0])) h')
  (h0:Yc7 x y=none→K (.ret (.tuple #[.pointer none,.int .i64 15])) h):FnK Tryd.prog (E b).G 14 [.int .i64 x,.int .i64 y] h K:=by
 refine Qfa (E b) (Qh9 b) (Qc4 b) mixed (Qhf b) (Qf4 b) (Qab b) Ydj Yp5 Yny rfl ?_
 simp[Qiz,Qpl,Qab,Y0,Yo,Qlg,Qjk,Qjg]
 refine Ywk b x h _ ?_
 by_cases c1:0≤x∧x≤Qg6
 rotate_left
 ·rw[decide_eq_false c1]
  simp[Qiz,Qpl,Qab,Y0,Yo,Qlg,Qjk,Qjg]
  refine h0 ?_
  unfold Yc7
  rw[if_pos (by simp only[Qg6]at c1 ⊢;omega)]
 rw[decide_eq_true c1]
 simp[Qiz,Qpl,Qab,Y0,Yo,Qlg,Qjk,Qjg]
 refine Ywk b y h _ ?_
 by_cases c2:0≤y∧y≤Qg6
 rotate_left
 ·rw[decide_eq_false c2]
  simp[Qiz,Qpl,Qab,Y0,Yo,Qlg,Qjk,Qjg]
  refine h0 ?_
  unfold Yc7
  rw[if_pos (by simp only[Qg6]at c1 c2 ⊢;omega)]
 rw[decide_eq_true c2]
 have w:IntKind.i64.wrap (x+y)=x+y:=by simp only[Qg6]at c1 c2;exact Qa9 (by omega) (by omega)
 by_cases c3:1125899906842624 < x+y
 ·simp[Qiz,Qpl,Qab,Y0,Yo,Qlg,Qjk,Qjg,w,c3]
  refine h0 ?_
  unfold Yc7
  rw[if_pos (by simp only[Qg6]at c1 c2 ⊢;omega)]
 ·obtain⟨hB,eB⟩:∃ hB,hB=h.push (.cells true 1 [.int .i64 0,.int .i64 x,.int .i64 y,.slice none 0 0]):=⟨_,rfl⟩
  have bB:Yo5 (.agg ⟨[.int .i64 0,.int .i64 x,.int .i64 y,.slice none 0 0]⟩) h=some (.pointer (some ⟨h.next,0,none⟩),hB):=by rw[eB];rfl
  have gB:hB.get h.next=some (.cells true 1 [.int .i64 0,.int .i64 x,.int .i64 y,.slice none 0 0]):=by rw[eB,Heap.get_push,if_pos rfl]
  simp[Qiz,Qpl,Qab,Y0,Yo,Qlg,Qjk,Qjg,w,c3,X9v,Yup,bB]
  refine hk ⟨x,y,0,0,[]⟩ (by unfold Yc7;rw[if_neg (by simp only[Qg6]at c1 c2 ⊢;omega)]) hB h.next ⟨⟨1,gB⟩,Own.nil,Nat.le_refl _,by simp[Qb9],by simp⟩ (by rw[eB];exact Old.push _ _) (Heap.get_lt gB)
end
end Go.Proofs.YtcokebbiblnonaaDoor
end
