import Derived.Test.YtcnhfkplgknomaaDoorWaA
set_option linter.all false
noncomputable section
namespace Go.Proofs.YtcnhfkplgknomaaDoor
open Go Go.Ab
set_option maxRecDepth 100000
theorem Xuy:∀ xs:List Int,Q6g (xs.map i8)=some xs
 | []=>rfl
 | x::xs=>by rw[List.map_cons,i8,Q6g,Xuy xs]
theorem Yc5{h:Heap}{v:Value}{xs:List Int}(s:SB h v xs):∃ t,X22 v h=some t:=by
 rcases s with⟨c,rfl,_,_,_⟩ | ⟨bk,o,c,ow,z',pre,post,rfl,g1,g2,g3,_⟩
 ·exact⟨_,rfl⟩
 ·have e:cellsAt h ⟨bk,o,none⟩ xs.length=some (xs.map i8):=by
   simp only[cellsAt,g1]
   rw[<- g2,List.append_assoc,List.drop_left,Q5a (by simp)]
   simp
  exact⟨Yz1 xs,by simp only[X22,e,Xuy]⟩
theorem Yss(b:Nat){h:Heap}{v w:Value}{xs ys:List Int}(s1:SB h v xs)(s2:SB h w ys)(K:KP)(hk:∀ k,K (.ret (.int .i64 k)) h):FK b 46 [v,w] h K:=by
 refine FF b (Qgf b) Xoi Xv9 Xs6 rfl ?_
 obtain⟨s,e1⟩:=Yc5 s1
 obtain⟨t,e2⟩:=Yc5 s2
 have f1:(E b).fn.get 58=none:=by kernel_rfl
 have f2:(E b).ex.get 58=some .compare:=by kernel_rfl
 simp[Q5k,Xsd,Qgf,Xns,Y7,kON,kOC,Y9,kNN,kNP,kRR,kRP,kEN,kER,Q4,Qu,J5,Zh,aop,Qe,nth,Ab.g0,gv,gs,Q9,Q8,aev,evs,evO,Qf,Tr.get_put,St.put,Tm.put,flat,flatA,Zg,Qm,Qh,Ql,Qn,Qj,Qk,Qi,Qq,Qg,Q5,Q6,kTN,kTR,kTX,kTP,kBN,kBR,kBX,kBP,kCS,kCR,kCE,kAM,Y8.putAll,Qt,Qd,Q3,Q1,Qb,Qa,Qc,Q0,Q2,Q7,f1,f2,Xyi,e1,e2]
 exact hk _
def orF:List Int->Int
 | []=>0
 | x::l=>if x=0 then orF l else x
def ORI(v:Value)(ns:List Int)(h:Heap)(k:Nat)(s:St):Prop:=∃ (t:Tr Value) (i:Nat),s=⟨⟨18,t⟩,[],h⟩/\t.get 3=some (.int .i64 0)/\t.get 6=some v/\t.get 7=some (.int .i64 (ns.length:Int))/\t.get 8=some (.int .i64 (i:Int))/\i<=ns.length/\k=ns.length-i/\orF ns=orF (ns.drop i)
attribute [local simp] Y7 kON kOC Y9 kNN kNP kRR kRP kEN kER Q4 Qu J5 Zh aop Qe nth Ab.g0 gv gs Q9 Q8 aev evs evO Qf Tr.get_put St.put Tm.put flat flatA Zg Qm Qh Ql Qn Qj Qk Qi Qq Qg Q5 Q6 kTN kTR kTX kTP kBN kBR kBX kBP kCS kCR kCE kAM Y8.putAll Qt Qd Q3 Q1 Qb Qa Qc Q0 Q2 Q7 Vg Z2 Z4 ldv Um Yw Nat.testBit loadAt Ab.runT J2 Yl Qdo Qvy
section
attribute [local simp] Qeb Qes
theorem Yyo(b:Nat){h:Heap}{v:Value}{ns:List Int}(s:Sl h 1 v ns.length (ns.map (Value.int .i64)))(hn:ns.length < 1000)(K:KP)(hk:K (.ret (.int .i64 (orF ns))) h):FK b 45 [v] h K:=by
 refine FF b (Qeb b) Xsy X3p X02 rfl ?_
 have len:∀ hx,Q43 (E b).toEnv 22 v hx=some (.int .i64 (ns.length:Int)):=fun hx=>Qhl (T22 b) s
 simp[Qli,Qyd,Qeh,Y3,Qei,Uy,Y6,len]
 refine Qff (ORI v ns h) ns.length ⟨_,0,rfl,by simp,by simp,by simp,by simp,by omega,rfl,rfl⟩ ?_
 rintro k s' ⟨t,i,rfl,t3,t6,t7,t8,hi,rfl,ho⟩ -
 by_cases hlt:i < ns.length
 ·have hlt':(i:Int) < (ns.length:Int):=by omega
  have hw:=wS (i:=i) (by omega)
  obtain⟨x,hx⟩:∃ x,ns[i]? = some x:=⟨_,List.getElem?_eq_getElem hlt⟩
  obtain⟨bk,off,q1,q2,q3, -⟩:=Xps (T22 b) Xiw s (k:=.i64) (i:=(i:Int)) (by omega) (by omega)
  have c0:V2 h bk off=some (.int .i64 x):=by
   have:=q3 0 (by omega)
   simpa[hx]using this
  rw[List.drop_eq_getElem_cons hlt,(List.getElem?_eq_some_iff.1 hx).2,orF]at ho
  by_cases h0:x=0
  ·rw[if_pos h0]at ho
   simp[Qli,Qyd,Qeh,Y3,Qei,Uy,Y6,t3,t6,t7,t8,hlt',q2,c0,h0,hw]
   exact⟨ns.length-(i+1),by omega,_,i+1,rfl,by simp[t3],by simp[t6],by simp[t7],by simp,by omega,rfl,ho⟩
  ·rw[if_neg h0]at ho
   rw[ho]at hk
   simp[Qli,Qyd,Qeh,Y3,Qei,Uy,Y6,t3,t6,t7,t8,hlt',q2,c0,h0]
   exact hk
 ·have hlt':¬ (i:Int) < (ns.length:Int):=by omega
  have : i=ns.length:=by omega
  subst this
  rw[List.drop_length]at ho
  rw[ho]at hk
  simp[Qli,Qyd,Qeh,Y3,Qei,Uy,Y6,t3,t6,t7,t8]
  exact hk
theorem Y0q(b:Nat)(h:Heap)(p q:Pt):FK b 44 [.agg ⟨p.cells⟩,.agg ⟨q.cells⟩] h (fun r h2 => ∃ k,r=.ret (.int .i64 k)/\Old h h2):=by
 refine FF b (Uv b) Q3m Q8z Q6q rfl ?_
 obtain⟨hA,eA⟩:∃ hA,hA=h.push (.cells true 1 p.cells):=⟨_,rfl⟩
 have bx:=Xs7 eA
 have aA:=Q33 eA
 have gA:hA.get h.next=some (.cells true 1 p.cells):=by rw[eA,Heap.get_push,if_pos rfl]
 obtain⟨hB,eB⟩:∃ hB,hB=hA.push (.cells true 1 q.cells):=⟨_,rfl⟩
 have by':=Xs7 eB
 have aB:=Q33 eB
 have gB:hB.get hA.next=some (.cells true 1 q.cells):=by rw[eB,Heap.get_push,if_pos rfl]
 have gA':=aB.get gA
 simp[Wi,Qe2,Uv,X3d,Qgf,W2,Jx,bx,by']
 have sb:∀ {hx:Heap} {A:Nat} {p:Pt},hx.get A=some (.cells true 1 p.cells)->SB hx (.slice (some ⟨A,0,none⟩) 32 32) (p.id.map Int.ofNat):=fun {hx A p} g=>by
  have e:(p.id.map Int.ofNat).map i8=p.id.map u8v:=by rw[List.map_map];rfl
  have l:(p.id.map Int.ofNat).length=32:=by rw[List.length_map,p.hd]
  refine .inr ⟨A,0,32,true,1,[],[.int .i64 p.n],by rw[l],by rw[e];exact g,rfl,by rw[e,List.length_map,List.length_map,Nat.mul_one],by rw[l];omega,by decide,fun q=>absurd q (by decide)⟩
 obtain⟨_,_,g1,n1,k1,rfl,rfl⟩:=Yss b (sb gA') (sb gB) (fun r h' => ∃ k,r=.ret (.int .i64 k)/\hB=h') (fun k=>⟨k,rfl,rfl⟩)
 obtain⟨_,_,g2,n2,k2,rfl,rfl⟩:=X2l b p.n q.n hB (fun r h' => ∃ k,r=.ret (.int .i64 k)/\hB=h') ⟨_,rfl,rfl⟩
 obtain⟨hC,eC,aC,gC⟩:=X0q hB [.int .i64 k1,.int .i64 k2]
 have bl:Jf (E b).toEnv 22 2 [(0,.int .i64 k1),(1,.int .i64 k2)] hB=some (.slice (some ⟨hB.next,0,none⟩) 2 2,hC):=by rw[eC];kernel_rfl
 have sC:Sl hC 1 (.slice (some ⟨hB.next,0,none⟩) 2 2) [k1,k2].length ([k1,k2].map (Value.int .i64)):=(Own.new (n0:=0) (z:=1) (xs:=[.int .i64 k1,.int .i64 k2]) (Nat.zero_le _) gC rfl (by decide) (.inr rfl)).sl
 obtain⟨_,_,g3,n3,k3,rfl,rfl⟩:=Yyo b sC (by simp) (fun r h' => ∃ k,r=.ret (.int .i64 k)/\hC=h') ⟨_,rfl,rfl⟩
 have cp:V2 hB h.next 32=some (.int .i64 p.n):=by rw[Jb gA',Pt.cells,List.getElem?_append_right (by simp[p.hd])];simp[p.hd]
 have cq:V2 hB hA.next 32=some (.int .i64 q.n):=by rw[Jb gB,Pt.cells,List.getElem?_append_right (by simp[q.hd])];simp[q.hd]
 refine Qxf [⟨46,[.slice (some ⟨h.next,0,none⟩) 32 32,.slice (some ⟨hA.next,0,none⟩) 32 32],hB,.int .i64 k1,hB,true⟩,⟨21,[.int .i64 p.n,.int .i64 q.n],hB,.int .i64 k2,hB,true⟩,⟨45,[.slice (some ⟨hB.next,0,none⟩) 2 2],hC,.int .i64 k3,hC,true⟩] ?_ Qxq Qyn Qy6 (by simp[Q01,Q1i,Q11,Qzq,Wi,Qe2,Uv,X3d,Qgf,W2,Jx,Ygn,cp,cq,bl,Qym,Yeu];first | exact⟨rfl,rfl⟩ | rfl) ?_ ?_
 ·exact zk3 ⟨g1,n1,fun _ c hc=>rfl⟩ ⟨g2,n2,fun _ c hc=>rfl⟩ ⟨g3,n3,fun _ c hc=>rfl⟩
 ·simp[Zc,Wi,Qe2,Uv,X3d,Qgf,W2,Jx,cp,cq,Xhq]
 simp[Wi,Qe2,Uv,X3d,Qgf,W2,Jx]
 exact(aA.trans aB).trans aC
end
section
attribute [local simp] J1
theorem Yx0(b:Nat){h:Heap}{n0:Nat}{v:Value}{l:List Pt}{f:FuncId}{F:Func}(hF:(E b).fn.get f=some F)(o:Own h n0 33 v l.length (Jy l))(hn:l.length<=12)(lim:Int)
  (hc:∀ (x y:Pt) h1,Beyond v h h1->FK b f [.agg ⟨x.cells⟩,.agg ⟨y.cells⟩] h1 (fun r h2 => ∃ k,r=.ret (.int .i64 k)/\Old h1 h2))
  (K:KP) (hk:∀ h' l',l'.Perm l->Own h' n0 33 v l.length (Jy l')->Beyond v h h'->K (.ret (.tuple #[])) h') :
  CallOK Tryd.prog (E b).G 65 [v,.int .i64 0,.int .i64 (l.length:Int),.int .i64 lim,.func (.func f) #[] #[]] h K:=by
 refine Qn0 (E b) (Vl _ _) (Qcb b) (Vk b) Qa5 (Qd8 b) (J1 b) Qpv Qwc Qvv rfl ?_
 have h1:(l.length:Int)<=12:=by omega
 have hw:IntKind.i64.wrap (l.length:Int)=(l.length:Int):=Wp (by omega) (by omega)
 simp[Vy,Qaw,J7,Xo6,Qx,V3,Qar,W4,Wr,X37,Wb,Wv,Wh,Wl,Vo,Z6,W3,Uo,Y3,Up,Qa2,Qad,X5o,Ud,Y6]
 refine Qff (fun k s=>k=0/\∃ t:Tr Value,s=⟨⟨148,t⟩,[],h⟩/\t.get 0=some v/\t.get 1=some (.int .i64 0)/\t.get 2=some (.int .i64 (l.length:Int))/\t.get 4=some (.func (.func f) #[] #[])) 0 ⟨rfl,_,rfl,by simp,by simp,by simp,by simp⟩ ?_
 rintro k s' ⟨rfl,t,rfl,t0,t1,t2,t4⟩ -
 simp[Vy,Qaw,J7,Xo6,Qx,V3,Qar,W4,Wr,X37,Wb,Wv,Wh,Wl,Vo,Z6,W3,Uo,Y3,Up,Qa2,Qad,X5o,Ud,Y6,t0,t1,t2,t4,h1,hw]
 refine Yx4 b hF o (by omega) hc _ fun h3 l3 p3 o3 b3 => ?_
 simp[Vy,Qaw,J7,Xo6,Qx,V3,Qar,W4,Wr,X37,Wb,Wv,Wh,Wl,Vo,Z6,W3,Uo,Y3,Up,Qa2,Qad,X5o,Ud,Y6]
 exact hk h3 l3 p3 o3 b3
theorem Yqt:∀ m:Nat,m<=12->∃ k:Int,∀ b,Ym4 ((Qfr Tryd.prog (mkE Tryd.prog nv b) Yn0 60 3).fn 66 [.int .u64 (m:Int)] (Qdl nv [] false []))=some (.int .i64 k)
 | 0,_=>⟨0,fun b=>by kernel_rfl⟩
 | 1,_=>⟨1,fun b=>by kernel_rfl⟩
 | 2,_=>⟨2,fun b=>by kernel_rfl⟩
 | 3,_=>⟨2,fun b=>by kernel_rfl⟩
 | 4,_=>⟨3,fun b=>by kernel_rfl⟩
 | 5,_=>⟨3,fun b=>by kernel_rfl⟩
 | 6,_=>⟨3,fun b=>by kernel_rfl⟩
 | 7,_=>⟨3,fun b=>by kernel_rfl⟩
 | 8,_=>⟨4,fun b=>by kernel_rfl⟩
 | 9,_=>⟨4,fun b=>by kernel_rfl⟩
 | 10,_=>⟨4,fun b=>by kernel_rfl⟩
 | 11,_=>⟨4,fun b=>by kernel_rfl⟩
 | 12,_=>⟨4,fun b=>by kernel_rfl⟩
 | n+13,h=>absurd h (by omega)
theorem Ytu(b:Nat){m:Nat}(hm:m<=12)(h:Heap)(K:KP)(hk:∀ k,K (.ret (.int .i64 k)) h):FK b 66 [.int .u64 (m:Int)] h K:=by
 obtain⟨k,hr⟩:=Yqt m hm
 exact⟨_,_,Xrc (k:=60) (m:=3) (laid:=[]) (rows:=[]) Qa5 (fun b=>X4i _) Xnz hr rfl (fun x hx=>by cases hx) (fun x hx=>by cases hx) (bs:=[]) rfl (by simp) (fun k d r hd _=>by simp at hd) (Vq (Qdt rfl) Qvw),Nat.le_refl _,hk k⟩
theorem Yww(b:Nat){h:Heap}{n0:Nat}{v:Value}{l:List Pt}{f:FuncId}{F:Func}(hF:(E b).fn.get f=some F)(o:Own h n0 33 v l.length (Jy l))(hn:l.length<=12)
  (hc:∀ (x y:Pt) h1,Beyond v h h1->FK b f [.agg ⟨x.cells⟩,.agg ⟨y.cells⟩] h1 (fun r h2 => ∃ k,r=.ret (.int .i64 k)/\Old h1 h2))
  (K:KP) (hk:∀ h' l',l'.Perm l->Own h' n0 33 v l.length (Jy l')->Beyond v h h'->K (.ret (.tuple #[])) h') :
  CallOK Tryd.prog (E b).G 56 [v,.func (.func f) #[] #[]] h K:=by
 refine Qn0 (E b) (Vl _ _) (Qcb b) (Vk b) Qa5 (Qd8 b) (Za b) Qmo Qp4 Qom rfl ?_
 have len:∀ hx,Q43 (E b).toEnv 29 v hx=some (.int .i64 (l.length:Int)):=fun hx=>Qhl (T29 b) o.sl
 simp[Vc,Wj,Za,Qbo,Yfo,Yfg,Q00,len]
 have hw:IntKind.u64.wrap (l.length:Int)=(l.length:Int):=X32 (by omega) (by omega)
 rw[hw]
 refine(Ytu b hn h _ fun k => ?_).ok
 simp[Vc,Wj,Za,Qbo,Yfo,Yfg,Q00]
 refine Yx0 b hF o hn k hc _ fun h3 l3 p3 o3 b3 => ?_
 simp[Vc,Wj,Za,Qbo,Yfo,Yfg,Q00]
 exact hk h3 l3 p3 o3 b3
end
theorem Xxs{A B:Type}{f:A->B}{l:List A}(h:(l.map f).Nodup):l.Nodup:=by
 induction l with
 | nil=>simp
 | cons a l ih =>
  rw[List.map_cons,List.nodup_cons]at h
  rw[List.nodup_cons]
  exact⟨fun q=>h.1 (List.mem_map.2 ⟨a,q,rfl⟩),ih h.2⟩
theorem Yol(b:Nat)(h:Heap)(x:Pt):∃ hA hB,Qhn (E b).toEnv 36 h=some (.pointer (some ⟨h.next,0,none⟩),hA)/\Qd1 (E b).toEnv 36 (.pointer (some ⟨h.next,0,none⟩)) (.agg ⟨x.cells⟩) hA=some hB/\hB.get h.next=some (.cells true 1 x.cells)/\Qll hB h.next 0 33=some (.agg ⟨x.cells⟩)/\Old h hB/\hB.next=h.next+1:=by
 obtain⟨z,hz⟩:∃ z:List Value,z=[.int .u8 0,.int .u8 0,.int .u8 0,.int .u8 0,.int .u8 0,.int .u8 0,.int .u8 0,.int .u8 0,.int .u8 0,.int .u8 0,.int .u8 0,.int .u8 0,.int .u8 0,.int .u8 0,.int .u8 0,.int .u8 0,.int .u8 0,.int .u8 0,.int .u8 0,.int .u8 0,.int .u8 0,.int .u8 0,.int .u8 0,.int .u8 0,.int .u8 0,.int .u8 0,.int .u8 0,.int .u8 0,.int .u8 0,.int .u8 0,.int .u8 0,.int .u8 0,.int .i64 0]:=⟨_,rfl⟩
 have lz:z.length=33:=by rw[hz];rfl
 have e:=Xbd b h
 rw[<- hz]at e
 have g:(h.push (.cells true 1 z)).get h.next=some (.cells true 1 z):=by rw[Heap.get_push,if_pos rfl]
 have lt:=Heap.get_lt g
 have d:(z.take 0++x.cells++z.drop (0+x.cells.length))=x.cells:=by rw[List.drop_eq_nil_of_le (by rw[Pt.len,lz];omega)];simp
 refine⟨_,(h.push (.cells true 1 z)).set h.next (some (.cells true 1 x.cells)),e,?_,by rw[Heap.get_set _ _ _ _ lt,if_pos rfl],?_,(Old.push _ _).set _ (Nat.le_refl _) lt,rfl⟩
 ·rw[Qyv (l:=x.cells) (X4e b) (by rw[Pt.len,Qcc]),Qgt g (by rw[Pt.len,lz];omega),d]
 ·rw[Qe3 (by rw[Heap.get_set _ _ _ _ lt,if_pos rfl]) (by rw[Pt.len];omega),List.drop_zero,List.take_of_length_le (by rw[Pt.len];omega)]
theorem Yu0(b:Nat)(h:Heap)(mv:Value)(hm:Qjj mv=true/\mv.cells = #[mv])(K:KP)(hk:∀ h',h'.get h.next=some (.cells true 1 [mv])->Old h h'->h'.next=h.next+1->K (.ret (.func (.func 57) #[] #[.pointer (some ⟨h.next,0,none⟩)])) h'):FK b 43 [mv] h K:=by
 refine FF b (Yu b) Qbw Qdp Qda rfl ?_
 obtain⟨hA,eA⟩:∃ hA,hA=h.push (.cells true 1 [mv]):=⟨_,rfl⟩
 have bx:Yn3 mv h=some (.pointer (some ⟨h.next,0,none⟩),hA):=by simp[Yn3,eA,hm.1,hm.2]
 simp[Vm,Qdb,Yu,bx]
 exact hk hA (by rw[eA,Heap.get_push,if_pos rfl]) (by rw[eA];exact Old.push _ _) (by rw[eA];rfl)
def K1I(A l R mb clk:Nat)(es:List PE)(I:List PE->Heap->Prop)(k:Nat)(s:St):Prop:=∃ (t:Tr Value) (g:Heap) (vis:List PE),s=⟨⟨14,t⟩,[],g⟩/\t.get 0=some (.func (.yield l) #[] #[])/\t.get 5=some (.pointer (some ⟨R,0,none⟩))/\k=es.length-vis.length/\g.get R=some (.obj (.mapIter (some mb) clk ⟨vis.map (·.born)⟩ clk))/\(∀ x ∈ vis,x ∈ es)/\(vis.map (·.born)).Nodup/\I vis g
section
attribute [local simp] Ye Ys Yd Q6u Qwd Uo
set_option maxHeartbeats 1000000 in
theorem Yyx(b:Nat){l A mb clk:Nat}{es:List PE}(h:Heap)(K:KP)(I:List PE->Heap->Prop)(B:Born (es.map PE.e) clk)(hI:I [] h)
  (h1:∀ vis g,I vis g->g.get A=some (.cells true 1 [.map (some mb)])/\g.get mb=some (.map ⟨es.map PE.e⟩ clk)/\∃ st pe t ps an bd d,g.get l=some (.obj (.loop st pe t ps an bd d))/\∀ p:Pt,Yf3 t.size ps.toList [.agg ⟨p.cells⟩]=true)
  (hst:∀ vis g g',I vis g->g.next<=g'.next->(∀ c,c < g.next->c≠h.next->g'.get c=g.get c)->I vis g')
  (hr:∀ vis g e (K:KP),I vis g->h.next+1<=g.next->e ∈ es->vis.length < es.length->(∀ g',I (vis ++ [e]) g'->g.next<=g'.next->g'.get h.next=g.get h.next->K (.ret (.bool true)) g')->Q9q Tryd.prog (E b).G l [.agg ⟨e.key.cells⟩] g K)
  (hk:∀ vis g,vis.Perm es->I vis g->K (.ret (.tuple #[])) g):CallOK Tryd.prog (E b).G 57 [.func (.yield l) #[] #[],.pointer (some ⟨A,0,none⟩)] h K:=by
 refine Qn0 (E b) (Vl _ _) (Qcb b) (Vk b) Qa5 (Qd8 b) (Yd b) Qbp Qd6 Qcu rfl ?_
 obtain⟨gA,gm, -⟩:=h1 _ _ hI
 have cA:V2 h A 0=some (.map (some mb)):=by rw[Jb gA];rfl
 obtain⟨hI',eI⟩:∃ hI',hI'=h.push (.obj (.mapIter (some mb) clk #[] clk)):=⟨_,rfl⟩
 have aI:=Q33 eI
 have gI:hI'.get h.next=some (.obj (.mapIter (some mb) clk ⟨[]⟩ clk)):=by rw[eI,Heap.get_push,if_pos rfl]
 have md:R65.desc=.map 36 71:=by kernel_rfl
 have rg:Xla (E b).toEnv 65 (.map (some mb)) h=some (.pointer (some ⟨h.next,0,none⟩),hI'):=by
  rw[eI]
  simp only[Xla,Yox,md,gm]
 simp[Xbd,cA,rg]
 refine Qff (K1I A l h.next mb clk es I) es.length ⟨_,hI',[],rfl,by simp,by simp,by simp,gI,by simp,by simp,hst _ _ _ hI aI.1 fun c hc _=>aI.2 c hc⟩ ?_
 rintro k s' ⟨t,g,vis,rfl,t0,t5,rfl,it,hsub,hnd,hIg⟩ -
 obtain⟨gAg,gmg,st,pe,tl,ps,an,bd,d,q3,q4⟩:=h1 _ _ hIg
 obtain⟨ne,nx⟩:=Ygl B it gmg
 simp[Xbd]
 refine Yrm (it:=.pointer (some ⟨h.next,0,none⟩)) (by simp[t5]) rfl ne fun y hy => ?_
 have lI:=Heap.get_lt it
 rcases nx y hy with⟨hall,rfl⟩ | ⟨e,he,hv,rfl⟩
 ·simp[Xbd,t0,t5]
  refine hk vis g ?_ hIg
  have nde:(es.map (·.born)).Nodup:=by
   have:=B.nd
   rw[List.map_map]at this
   exact this
  refine(List.perm_ext_iff_of_nodup (Xxs hnd) (Xxs nde)).2 fun x=>⟨hsub x,fun hx => ?_⟩
  obtain⟨y,hy1,hy2⟩:=List.mem_map.1 (hall x.e (List.mem_map.2 ⟨x,hx,rfl⟩))
  rw[<- X7m nde (hsub y hy1) hx hy2]
  exact hy1
 ·obtain⟨x,hx,rfl⟩:=List.mem_map.1 he
  obtain⟨h2,e2⟩:∃ h2,h2=g.set h.next (some (.obj (.mapIter (some mb) clk ⟨vis.map (·.born) ++ [x.e.born]⟩ clk))):=⟨_,rfl⟩
  have g2:h2.get h.next=some (.obj (.mapIter (some mb) clk ⟨vis.map (·.born) ++ [x.e.born]⟩ clk)):=by rw[e2,Heap.get_set _ _ _ _ lI,if_pos rfl]
  have k2:∀ c,c≠h.next->h2.get c=g.get c:=fun c hc=>by rw[e2,Heap.get_set _ _ _ _ lI,if_neg (Ne.symm hc)]
  have n2:h2.next=g.next:=by rw[e2];rfl
  have hmb2:h2.get mb=some (.map ⟨es.map PE.e⟩ clk):=by
   rw[k2 mb fun e=>by rw[e,it]at gmg;cases gmg]
   exact gmg
  have en:=Yce B g2 hmb2 he
  obtain⟨hA,hB,alB,stB,gB,lB,oB,nB⟩:=Yol b h2 x.key
  have hI4:I vis hB:=hst vis g hB hIg (by rw[<- n2];exact oB.1) fun c hc hne=>by rw[oB.2 c (by rw[n2];exact hc),k2 c hne]
  obtain⟨-, -,st,pe,tl,ps,an,bd,d,q3,q4⟩:=h1 _ _ hI4
  have gR:hB.get h.next=some (.obj (.mapIter (some mb) clk ⟨vis.map (·.born) ++ [x.e.born]⟩ clk)):=oB.get g2
  have nd2:((vis ++ [x]).map (·.born)).Nodup:=by
   rw[List.map_append,List.nodup_append]
   exact⟨hnd,by simp,fun a ha c hc q=>by simp at hc;subst hc;exact hv (by rw[q]at ha;exact ha)⟩
  have sub2:∀ y ∈ vis ++ [x],y ∈ es:=fun y hy=>by
   rcases List.mem_append.1 hy with q | q
   ·exact hsub y q
   ·rw[List.mem_singleton.1 q];exact hx
  have len2:=List.Nodup.length_le_of_subset (Xxs nd2) sub2
  rw[List.length_append,List.length_singleton]at len2
  rw[<- e2]
  simp only[PE.e]at en
  have q4:=q4 x.key
  simp[Xbd,t0,t5,PE.e,en,-Xbd,alB,stB,lB,Xrv,q3,q4]
  refine hr vis hB x _ hI4 (by have:=Heap.get_lt gR;omega) hx (by omega) fun g' hI' hn' hg' => ?_
  simp[Xbd,t0,t5]
  exact⟨es.length-(vis.length+1),by omega,_,g',vis ++ [x],rfl,by simp[t0],by simp[t5],by simp,by rw[hg',gR];simp[PE.e],sub2,nd2,hI'⟩
end
def aSq:Code:=Y0d (Yav (Yg 64))
def bSq:Code:=Y0e (Yav (Yg 64))
theorem Yti:Yav (Yg 64)=.rangeFunc (.tmp 6) #[7] aSq bSq:=by kernel_rfl
theorem Yz0:Uu aSq=Qb5:=by kernel_rfl
theorem Yyg:Uu bSq=Qaz:=by kernel_rfl
structure ASI (h:Heap) (V D L N:Nat) (tl:Tm) (vis:List PE) (g:Heap):Prop where
 gd:g.get D=some (.obj .defs)
 gl:g.get L=some (.obj (.loop .ready none tl #[7] aSq bSq D))
 gv:∃ ov,g.get V=some (.cells true 1 [ov])/\Own g N 33 ov (vis.map (·.key)).length (Jy (vis.map (·.key)))
 n:N<=g.next+1
 old:Old h g
section
set_option maxHeartbeats 1000000 in
theorem Ywf(b:Nat){h:Heap}{A mb clk:Nat}{es:List PE}(gA:h.get A=some (.cells true 1 [.map (some mb)]))(gm:h.get mb=some (.map ⟨es.map PE.e⟩ clk))(B:Born (es.map PE.e) clk)(hn:es.length < 1000000)
  (K:KP) (hk:∀ v' h' l',l'.Perm (es.map (·.key))->Own h' h.next 33 v' l'.length (Jy l')->Old h h'->K (.ret v') h'):CallOK Tryd.prog (E b).G 64 [.slice none 0 0,.func (.func 57) #[] #[.pointer (some ⟨A,0,none⟩)]] h K:=by
 refine Qn0 (E b) (Vl _ _) (Qcb b) (Vk b) Qa5 (Qd8 b) (Jn b) Qls Qo3 Qnd rfl ?_
 obtain⟨hV,eV⟩:∃ hV,hV=h.push (.cells true 1 [.slice none 0 0]):=⟨_,rfl⟩
 have bx:Yn3 (.slice none 0 0) h=some (.pointer (some ⟨h.next,0,none⟩),hV):=by rw[eV];rfl
 have aV:=Q33 eV
 have gV:hV.get h.next=some (.cells true 1 [.slice none 0 0]):=by rw[eV,Heap.get_push,if_pos rfl]
 have nV:=X0g eV
 simp[Uq,Qdx,Jn,Qcy,Yt6,bx,Yti]
 refine Yxs (first:=#[]) (captured:=#[.pointer (some ⟨A,0,none⟩)]) (by simp) (Yd b) ?_
 generalize hTL:Tm.mk 13 _=TL
 have e2:TL.t.get 2=some (.pointer (some ⟨h.next,0,none⟩)):=by rw[<- hTL];simp
 have es':TL.size=13:=by rw[<- hTL]
 have hTl:TL=⟨13,TL.t⟩:=by rw[<- es']
 obtain⟨h0,e0⟩:∃ h0,h0=(hV.push (.obj .defs)).push (.obj (.loop .ready none TL #[7] aSq bSq hV.next)):=⟨_,rfl⟩
 have n0:h0.next=h.next+3:=by rw[e0];simp only[Qza,nV]
 have a0:Old hV h0:=by rw[e0];exact(Old.push _ _).trans (Old.push _ _)
 have g0:=a0.get gV
 rw[<- e0]
 refine Yyx b (l:=hV.next+1) h0 _ (ASI h h.next hV.next (hV.next+1) (h0.next+1) TL) B ⟨?_,?_,⟨_,g0,Own.nil⟩,by omega,aV.trans a0⟩ (fun vis g i=>⟨i.old.get gA,i.old.get gm,_,_,_,_,_,_,_,i.gl,fun p=>by rw[es'];rfl⟩) ?_ ?_ ?_
 ·rw[e0];simp (disch:=first | omega | (simp only[Qza,Xpb];done) | (simp only[Qza,Xpb];omega)) only[Yx2,Ywr,Ywl,Yxl]
 ·rw[e0];simp (disch:=first | omega | (simp only[Qza,Xpb];done) | (simp only[Qza,Xpb];omega)) only[Yx2,Ywr,Ywl,Yxl]
 ·intro vis g g' i hn' hg
  obtain⟨ov,q1,q2⟩:=i.gv
  have lD:=Heap.get_lt i.gd
  have lL:=Heap.get_lt i.gl
  have lV:=Heap.get_lt q1
  refine⟨by rw[hg _ lD (by omega)];exact i.gd,by rw[hg _ lL (by omega)];exact i.gl,⟨ov,by rw[hg _ lV (by omega)];exact q1,q2.keep fun c hc hl=>hg c hl fun e => ?_⟩,by have:=i.n;omega,⟨Nat.le_trans i.old.1 hn',fun c hc=>by rw[hg c (Nat.lt_of_lt_of_le hc i.old.1) (by omega),i.old.2 c hc]⟩⟩
  have:=(q2.from hc).1
  omega
 ·intro vis g x K' i hng hx hlen hK
  refine Ysm (E b) (Vl _ _) (Qcb b) (Vk b) Qa5 i.gl (by rw[es'];rfl) Yz0 Yyg ?_
  obtain⟨ov,q1,q2⟩:=i.gv
  have lV:=Heap.get_lt q1
  have lL:=Heap.get_lt i.gl
  obtain⟨hA,hB,alB,stB,gX,lX,oX,nX⟩:=Yol b g x.key
  have lLB:=Heap.get_lt (oX.get i.gl)
  obtain⟨hC,eC⟩:∃ hC,hC=hB.set (hV.next+1) (some (.obj (.loop .busy none TL #[7] aSq bSq hV.next))):=⟨_,rfl⟩
  have kC:∀ c,c≠hV.next+1->hC.get c=hB.get c:=fun c hc=>by rw[eC,Heap.get_set _ _ _ _ lLB,if_neg (Ne.symm hc)]
  have gCL:hC.get (hV.next+1)=some (.obj (.loop .busy none TL #[7] aSq bSq hV.next)):=by rw[eC,Heap.get_set _ _ _ _ lLB,if_pos rfl]
  have nC:hC.next=hB.next:=by rw[eC];rfl
  have q2':Own hC (h0.next+1) 33 ov (vis.map (·.key)).length (Jy (vis.map (·.key))):=q2.keep fun c hc hl=>by rw[kC c (fun e=>by have:=(q2.from hc).1;omega),oX.2 c hl]
  have cV:V2 hC h.next 0=some ov:=by rw[Jb ((kC _ (by omega)).trans (oX.get q1))];rfl
  have lC:Qll hC g.next 0 33=some (.agg ⟨x.key.cells⟩):=agW ((kC _ (by omega)).trans gX) (by rw[Pt.len];omega) (by rw[Pt.len];omega)
  have bl:Jf (E b).toEnv 29 1 [(0,.agg ⟨x.key.cells⟩)] hC=some (.slice (some ⟨hC.next,0,none⟩) 1 1,hC.push (.cells true 1 x.key.cells)):=Xx9 (T29 b) (z:=33) Qcc (by omega) (by omega) (y:=.agg ⟨x.key.cells⟩) rfl (ys:=x.key.cells) rfl (Pt.len x.key)
  have hNB:h0.next+1<=hC.next:=by have:=oX.1;omega
  obtain⟨v6,h6,k1,k2,k3⟩:=Xj8 (T29 b) (z:=33) Qcc (by omega) q2' hNB (ys:=x.key.cells) (Pt.len x.key) (by rw[Xvm];simp;omega) (by simp;omega)
  have ovr:∀ c,Un ov=some c->h0.next+1<=c:=fun c hc=>(q2'.from hc).1
  have g6:∀ c,c < h0.next+1->h6.get c=hC.get c:=fun c hc=>k3.2 c (by omega) fun e=>by have:=ovr c e;omega
  have gV6:h6.get h.next=some (.cells true 1 [ov]):=by
   rw[g6 _ (by omega),kC _ (by omega)]
   exact oX.get q1
  have lV6:=Heap.get_lt gV6
  obtain⟨h7,e7⟩:∃ h7,h7=h6.set h.next (some (.cells true 1 [v6])):=⟨_,rfl⟩
  have st7:Qbh h6 h.next 0 [v6]=some h7:=by rw[e7];exact Qp0 gV6 (by simp)
  have k7:∀ c,c≠h.next->h7.get c=h6.get c:=fun c hc=>by rw[e7,Heap.get_set _ _ _ _ lV6,if_neg (Ne.symm hc)]
  have gV7:h7.get h.next=some (.cells true 1 [v6]):=by rw[e7,Heap.get_set _ _ _ _ lV6,if_pos rfl]
  have n7:h7.next=h6.next:=by rw[e7];rfl
  have one6:=k2.sl.one
  have glB:=oX.get i.gl
  have g7L:h7.get (hV.next+1)=some (.obj (.loop .busy none TL #[7] aSq bSq hV.next)):=by
   rw[k7 _ (by omega),g6 _ (by omega)]
   exact gCL
  rw[hTl]at eC gCL glB g7L ⊢
  simp[Qb5,Xbd,Qwd,Xn3,Xz5,-Xbd,alB,stB,glB,<- eC]
  simp[Qaz,Yt6,Uo,e2,cV,lC,bl,k1,Yyn,one6,st7]
  have l7:=Heap.get_lt g7L
  obtain⟨h8,e8⟩:∃ h8,h8=h7.set (hV.next+1) (some (.obj (.loop .ready none TL #[7] aSq bSq hV.next))):=⟨_,rfl⟩
  have k8:∀ c,c≠hV.next+1->h8.get c=h7.get c:=fun c hc=>by rw[e8,Heap.get_set _ _ _ _ l7,if_neg (Ne.symm hc)]
  have n8:h8.next=h7.next:=by rw[e8];rfl
  have low8:∀ c,c < h0.next+1->c≠h.next->c≠hV.next+1->c < g.next->h8.get c=g.get c:=fun c h1 h2 h3 h4=>by rw[k8 c h3,k7 c h2,g6 c h1,kC c h3,oX.2 c h4]
  have nn:g.next<=h8.next:=by have:=oX.1;have:=k3.1;omega
  refine X1h (st:=.busy) (pe:=none) (t2:=⟨13,TL.t⟩) (ps2:=#[7]) (as2:=aSq) (bd2:=bSq) (d2:=hV.next) g7L ?_
  rw[<- hTl,<- e8]
  refine hK h8 ⟨?_,?_,⟨v6,?_,?_⟩,by omega,⟨Nat.le_trans i.old.1 nn,fun c hc => ?_⟩⟩ nn ?_
  ·rw[low8 _ (by omega) (by omega) (by omega) (Heap.get_lt i.gd)];exact i.gd
  ·rw[e8,Heap.get_set _ _ _ _ l7,if_pos rfl]
  ·rw[k8 _ (by omega)];exact gV7
  ·have e:Jy ((vis ++ [x]).map (·.key))=Jy (vis.map (·.key))++x.key.cells:=by simp[Jy]
   rw[e,List.map_append,List.length_append]
   exact k2.keep fun c hc hl=>by
    have:=(k2.from hc).1
    rw[k8 c (by omega),k7 c (by omega)]
  ·rw[low8 c (by omega) (by omega) (by omega) (Nat.lt_of_lt_of_le hc i.old.1)];exact i.old.2 c hc
  ·exact low8 _ (by omega) (by omega) (by omega) (by omega)
 ·intro vis g p i
  refine Yd9 (by simp) i.gl ?_
  obtain⟨ov,q1,q2⟩:=i.gv
  have lL:=Heap.get_lt i.gl
  obtain⟨g1,eg1⟩:∃ g1,g1=g.set (hV.next+1) none:=⟨_,rfl⟩
  have k1:∀ c,c≠hV.next+1->g1.get c=g.get c:=fun c hc=>by rw[eg1,Heap.get_set _ _ _ _ lL,if_neg (Ne.symm hc)]
  have n1:g1.next=g.next:=by rw[eg1];rfl
  have cV:V2 g1 h.next 0=some ov:=by rw[Jb ((k1 _ (by omega)).trans q1)];rfl
  have gd:g1.get hV.next=some (.obj .defs):=(k1 _ (by omega)).trans i.gd
  rw[hTl,<- eg1]
  simp[Uq,Qdx,Jn,Qcy,Yt6,e2,cV,gd]
  have lD:=Heap.get_lt gd
  have k2:∀ c,c≠hV.next->c≠hV.next+1->(g1.set hV.next none).get c=g.get c:=fun c h1 h2=>by rw[Heap.get_set _ _ _ _ lD,if_neg (Ne.symm h1),k1 c h2]
  exact hk ov _ (vis.map (·.key)) (p.map _) ((q2.keep fun c hc hl=>k2 c (fun e=>by have:=(q2.from hc).1;omega) fun e=>by have:=(q2.from hc).1;omega).low (by omega)) ⟨by show h.next<=g1.next;rw[n1];exact i.old.1,fun c hc=>by rw[k2 c (by omega) (by omega)];exact i.old.2 c hc⟩
theorem Yin(b:Nat){h:Heap}{A mb clk:Nat}{es:List PE}(gA:h.get A=some (.cells true 1 [.map (some mb)]))(gm:h.get mb=some (.map ⟨es.map PE.e⟩ clk))(B:Born (es.map PE.e) clk)(hn:es.length < 1000000)
  (K:KP) (hk:∀ v' h' l',l'.Perm (es.map (·.key))->Own h' h.next 33 v' l'.length (Jy l')->Old h h'->K (.ret v') h'):CallOK Tryd.prog (E b).G 55 [.func (.func 57) #[] #[.pointer (some ⟨A,0,none⟩)]] h K:=by
 refine Qn0 (E b) (Vl _ _) (Qcb b) (Vk b) Qa5 (Qd8 b) (Vw b) Qz6 Q3z Q1t rfl ?_
 simp[Qee,Qmx,Vw,Qki,Jn]
 refine Ywf b gA gm B hn _ fun v' h' l' p o a => ?_
 simp[Qee,Qmx,Vw,Qki,Jn]
 exact hk v' h' l' p o a
theorem Ymr(b:Nat){h:Heap}{A mb clk:Nat}{es:List PE}(gA:h.get A=some (.cells true 1 [.map (some mb)]))(gm:h.get mb=some (.map ⟨es.map PE.e⟩ clk))(B:Born (es.map PE.e) clk)(hn:es.length<=12)
  (K:KP) (hk:∀ v' h' l',l'.Perm (es.map (·.key))->Own h' h.next 33 v' l'.length (Jy l')->Old h h'->K (.ret v') h'):CallOK Tryd.prog (E b).G 42 [.func (.func 57) #[] #[.pointer (some ⟨A,0,none⟩)],.func (.func 44) #[] #[]] h K:=by
 refine Qn0 (E b) (Vl _ _) (Qcb b) (Vk b) Qa5 (Qd8 b) (Jm b) Qwl Qyp Qya rfl ?_
 simp[W9,Qdw,Jm,Qc8,Vw,Za]
 refine Yin b gA gm B (by omega) _ fun v' h' l' p o a => ?_
 simp[W9,Qdw,Jm,Qc8,Vw,Za]
 have hl:=p.length_eq
 rw[List.length_map]at hl
 refine Yww b (Uv b) o (by omega) (fun x y h1 _=>Y0q b h1 x y) _ fun h3 l3 p3 o3 b3 => ?_
 simp[W9,Qdw,Jm,Qc8,Vw,Za]
 exact hk v' h3 l3 (p3.trans p) (by rw[p3.length_eq];exact o3) (b3.old a o)
end
structure LC where
 key:Pt
 value:Int
 sv:Value
 script:List Int
 made:Int
 born:Nat
def LC.v(x:LC):Value:=.agg ⟨[.int .i64 x.value,x.sv,.int .i64 x.made]⟩
def LC.pe(x:LC):PE:=⟨x.key,x.v,x.born⟩
def Xhl(l:List LC):List PE:=l.map LC.pe
structure LedM (h:Heap) (lb mb z clk:Nat) (nt un:Value) (ls:List LC):Prop where
 gl:h.get lb=some (.cells true z [nt,.map (some mb),un])
 gm:h.get mb=some (.map ⟨(Xhl ls).map PE.e⟩ clk)
 B:Born ((Xhl ls).map PE.e) clk
 hs:∀ x ∈ ls,SB h x.sv x.script/\x.script.length < 1000000
theorem LedM.old{h h':Heap}{lb mb z clk:Nat}{nt un:Value}{ls:List LC}(w:LedM h lb mb z clk nt un ls)(a:Old h h'):LedM h' lb mb z clk nt un ls :=
 ⟨a.get w.gl,a.get w.gm,w.B,fun x hx=>⟨(w.hs x hx).1.old a,(w.hs x hx).2⟩⟩
theorem Ylk(l:List LC):(Xhl l).length=l.length:=by simp[Xhl]
section
theorem Ykn(b:Nat){h:Heap}{lb mb z clk:Nat}{nt un:Value}{ls:List LC}(w:LedM h lb mb z clk nt un ls)(hn:ls.length<=12)
  (K:KP) (hk:∀ v' h' l',l'.Perm (ls.map (·.key))->Own h' h.next 33 v' l'.length (Jy l')->Old h h'->K (.ret v') h'):CallOK Tryd.prog (E b).G 28 [.pointer (some ⟨lb,0,none⟩)] h K:=by
 refine Qn0 (E b) (Vl _ _) (Qcb b) (Vk b) Qa5 (Qd8 b) (Zi b) Q7k Xcv Xb5 rfl ?_
 have c1:V2 h lb 1=some (.map (some mb)):=by rw[Jb w.gl];rfl
 simp[Qe4,Qlg,Zi,Qh0,Qrk,Q6u,Yu,Jm,Q5f,c1]
 refine(Yu0 b h (.map (some mb)) ⟨rfl,rfl⟩ _ fun h2 g2 a2 n2 => ?_).ok
 simp[Qe4,Qlg,Zi,Qh0,Qrk,Q6u,Yu,Jm]
 refine Ymr b g2 (a2.get w.gm) w.B (by rw[Ylk];exact hn) _ fun v' h' l' p o a => ?_
 simp[Qe4,Qlg,Zi,Qh0,Qrk,Q6u,Yu,Jm]
 refine hk v' h' l' ?_ (o.low (by omega)) (a2.trans a)
 have e:(Xhl ls).map (·.key)=ls.map (·.key):=by rw[Xhl,List.map_map];rfl
 rw[e]at p
 exact p
theorem X2m(b:Nat)(z:Int){v:Value}{h:Heap}{n:Nat}{xs:List Value}(s:Sl h 1 v n xs):Q5s (E b).toEnv 46 [(0,.int .i64 z),(1,v)]=some (.agg ⟨[.int .i64 z,v]⟩):=by
 rcases s with⟨c,rfl,_⟩ | ⟨bk,o,c,ow,z',pre,post,rfl,_⟩
 ·kernel_rfl
 ·kernel_rfl
theorem Yxo{h:Heap}{sv:Value}{script:List Int}(s:SB h sv script)(hne:script ≠ []):Un sv≠none:=by
 rcases s with⟨c,rfl,_,_,e⟩ | ⟨bk,o,c,ow,z',pre,post,rfl,_⟩
 ·simp at e;exact absurd e hne
 ·simp[Un]
theorem Ygh(b:Nat){h:Heap}{v:Int}{sv:Value}{script:List Int}(s:SB h sv script)(hne:script ≠ [])(hl:script.length < 1000000)(K:KP)(hk:∀ sv' h',OB h' h.next sv' script->Old h h'->K (.ret (.agg ⟨[.int .i64 v,sv']⟩)) h'):FK b 25 [.agg ⟨[.int .i64 v,sv]⟩] h K:=by
 refine FF b (Ji b) Xpv X10 Xyu rfl ?_
 obtain⟨hA,eA⟩:∃ hA,hA=h.push (.cells true 1 [.int .i64 v,sv]):=⟨_,rfl⟩
 have bx:=Xs7 eA
 have aA:=Q33 eA
 have gA:hA.get h.next=some (.cells true 1 [.int .i64 v,sv]):=by rw[eA,Heap.get_push,if_pos rfl]
 simp[Qji,Qwf,Ji,Qvy,Qxv,Qes,Qy5,Qzr,Qm5,Qzc,bx]
 obtain⟨hB,eB,aB,gB⟩:=X0q hA [.int .i64 0,.slice none 0 0]
 rw[<- eB]
 obtain⟨_,h3,g3,n3,sv3,rfl,o3,a3⟩:=Yja b (s.old (aA.trans aB)) (Yxo s hne) (by omega) (fun r h' => ∃ v',r=.ret v'/\OB h' hB.next v' script/\Old hB h') (fun v' h' o a=>⟨v',rfl,o,a⟩)
 have c0:V2 hB h.next 0=some (.int .i64 v):=by rw[Jb (aB.get gA)];rfl
 have c1:V2 hB h.next 1=some sv:=by rw[Jb (aB.get gA)];rfl
 have gB3:=a3.get gB
 have l3:=Heap.get_lt gB3
 obtain⟨h4,e4⟩:∃ h4,h4=h3.set hA.next (some (.cells true 1 [.int .i64 v,sv3])):=⟨_,rfl⟩
 have st4:Qd1 (E b).toEnv 46 (.pointer (some ⟨hA.next,0,none⟩)) (.agg ⟨[.int .i64 v,sv3]⟩) h3=some h4:=by
  rw[Qyv (l:=[.int .i64 v,sv3]) (Yk4 b) (by rw[Q2f];rfl),e4]
  exact Qgt gB3 (by simp)
 have g4:h4.get hA.next=some (.cells true 1 [.int .i64 v,sv3]):=by rw[e4,Heap.get_set _ _ _ _ l3,if_pos rfl]
 have k4:∀ c,c≠hA.next->h4.get c=h3.get c:=fun c hc=>by rw[e4,Heap.get_set _ _ _ _ l3,if_neg (Ne.symm hc)]
 have ag4:Qll h4 hA.next 0 2=some (.agg ⟨[.int .i64 v,sv3]⟩):=by rw[Qe3 g4 (by simp)];rfl
 refine Qxf [⟨38,[sv],hB,sv3,h3,true⟩] ?_ Xiy Xjp Xga (by simp[Xmb,Xny,Xp8,Qji,Qwf,Ji,Qxv,Qes,Qy5,Qzr,Qm5,Qzc,c0,c1,Qym,X2m b v o3.sl,st4];first | exact⟨rfl,rfl⟩ | rfl) ?_ ?_
 ·exact zk1 ⟨g3,n3,fun _ c hc=>a3.2 c hc⟩
 ·simp[Wy,Qji,Qwf,Ji,Qxv,Qes,Qy5,Qzr,Qm5,Qzc,c0,Xhq]
 simp[Qji,Qwf,Ji,Qvy,Qxv,Qes,Qy5,Qzr,Qm5,Qzc,Xmn,ag4]
 have nA:=X0g eA
 have nB:=X0g eB
 refine hk sv3 h4 ((o3.keep fun c hc _=>k4 c fun e=>by have:=(o3.from hc).1;omega).low (by omega)) ⟨by rw[e4];have:=a3.1;show h.next<=h3.next;omega,fun c hc=>by rw[k4 c (by omega),a3.2 c (by omega),aB.2 c (by omega),aA.2 c hc]⟩
theorem Yla{l:List PE}(nd:(l.map (·.key)).Nodup){x:PE}(hx:x ∈ l):∃ i,Xc5 x.key l 0=some (i,x.val):=by
 cases hf:Xc5 x.key l 0 with
 | none=>exact absurd rfl (Xqj.1 hf x hx)
 | some q =>
  obtain⟨i,v⟩:=q
  obtain⟨y,h1, -,h3,h4⟩:=X1p hf
  rw[X7m nd (List.mem_of_getElem? h1) hx h3]at h4
  exact⟨i,by rw[h4]⟩
theorem mdC:R65.desc=.map 36 71:=by kernel_rfl
set_option maxHeartbeats 1000000 in
theorem Ywg(b:Nat){h:Heap}{lb mb z clk:Nat}{nt un:Value}{ls:List LC}(w:LedM h lb mb z clk nt un ls)(nd:(ls.map (·.key)).Nodup){x:LC}(hx:x ∈ ls)(hne:x.script ≠ [])
  (K:KP) (hk:∀ sv' h',OB h' h.next sv' x.script->Old h h'->K (.ret (.tuple #[.agg ⟨[.int .i64 x.value,sv']⟩,.int .i64 x.made,.bool true])) h'):CallOK Tryd.prog (E b).G 29 [.pointer (some ⟨lb,0,none⟩),.agg ⟨x.key.cells⟩] h K:=by
 refine Qn0 (E b) (Vl _ _) (Qcb b) (Vk b) Qa5 (Qd8 b) (Z3 b) Xee Xlv Xl8 rfl ?_
 obtain⟨i,hf⟩:=Yla (l:=Xhl ls) (by rw[Xhl,List.map_map];exact nd) (List.mem_map.2 ⟨x,hx,rfl⟩)
 obtain⟨hA,eA⟩:∃ hA,hA=h.push (.cells true 1 x.key.cells):=⟨_,rfl⟩
 have bx:=Xs7 eA
 have aA:=Q33 eA
 have gA:hA.get h.next=some (.cells true 1 x.key.cells):=by rw[eA,Heap.get_push,if_pos rfl]
 obtain⟨hB,eB,aB,gB⟩:=X0q hA [.int .i64 0,.slice none 0 0]
 have alB:Qhn (E b).toEnv 46 hA=some (.pointer (some ⟨hA.next,0,none⟩),hB):=by rw[eB];exact Qvy b hA
 have wB:=w.old (aA.trans aB)
 have nA:=X0g eA
 have nB:=X0g eB
 have cl:V2 hB lb 1=some (.map (some mb)):=by rw[Jb wB.gl];rfl
 have kp:Qll hB h.next 0 33=some (.agg ⟨x.key.cells⟩):=agW (aB.get gA) (by rw[Pt.len];omega) (by rw[Pt.len];omega)
 have lk:=(Yx6 (b:=b) (Yox b) mdC wB.gm (Yub b) x.key).2
 have hf':Xc5 x.key (Xhl ls) 0=some (i,x.v):=hf
 rw[hf']at lk
 obtain⟨hC,eC⟩:∃ hC,hC=hB.push (.cells true 1 [.int .i64 0,.slice none 0 0,.int .i64 0]):=⟨_,rfl⟩
 have gC:hC.get hB.next=some (.cells true 1 [.int .i64 0,.slice none 0 0,.int .i64 0]):=by rw[eC,Heap.get_push,if_pos rfl]
 have alC:Qhn (E b).toEnv 71 hB=some (.pointer (some ⟨hB.next,0,none⟩),hC):=by rw[eC];exact X3m b hB
 have lC:=Heap.get_lt gC
 obtain⟨hD,eD⟩:∃ hD,hD=hC.set hB.next (some (.cells true 1 [.int .i64 x.value,x.sv,.int .i64 x.made])):=⟨_,rfl⟩
 have stD:Qd1 (E b).toEnv 71 (.pointer (some ⟨hB.next,0,none⟩)) (.agg ⟨[.int .i64 x.value,x.sv,.int .i64 x.made]⟩) hC=some hD:=by
  rw[Qyv (l:=[.int .i64 x.value,x.sv,.int .i64 x.made]) (Yub b) (by rw[Yh9];rfl),eD]
  exact Qgt gC (by simp)
 have gD:hD.get hB.next=some (.cells true 1 [.int .i64 x.value,x.sv,.int .i64 x.made]):=by rw[eD,Heap.get_set _ _ _ _ lC,if_pos rfl]
 have aD:Old hB hD:=by rw[eD,eC];exact(Old.push _ _).set _ (Nat.le_refl _) (by rw[<- eC];exact lC)
 simp[Vx,Qae,Z3,Qvy,Qrk,Q6u,Uo,X3m,Ydw,Xn2,Xmn,Ji,Xls,Qes,Qzc,bx,-Qvy,alB]
 refine Qxf [] (by simp) Q53 Q6m Q55 (by simp[Q99,Q8b,Vx,Qae,Z3,Qrk,Q6u,Uo,X3m,Ydw,Xn2,Xmn,Ji,Xls,Qes,Qzc,Q5f,cl,kp,lk,LC.v,-X3m,alC,stD];first | exact⟨rfl,rfl⟩ | rfl) ?_ ?_
 ·simp[W6,Vx,Qae,Z3,Qrk,Q6u,Uo,X3m,Ydw,Xn2,Xmn,Ji,Xls,Qes,Qzc]
 have wD:=(wB.old aD).hs x hx
 obtain⟨_,h3,g3,n3,sv3,rfl,o3,a3⟩:=Ygh b (v:=x.value) wD.1 hne wD.2 (fun r h' => ∃ v',r=.ret (.agg ⟨[.int .i64 x.value,v']⟩)/\OB h' hD.next v' x.script/\Old hD h') (fun v' h' o a=>⟨v',rfl,o,a⟩)
 have agD:Qll hD hB.next 0 2=some (.agg ⟨[.int .i64 x.value,x.sv]⟩):=by rw[Qe3 gD (by simp)];rfl
 have c2:V2 hD hB.next 2=some (.int .i64 x.made):=by rw[Jb gD];rfl
 have c2':V2 h3 hB.next 2=some (.int .i64 x.made):=by rw[Jb (a3.get gD)];rfl
 have gB3:=(aD.trans a3).get gB
 have l3:=Heap.get_lt gB3
 obtain⟨h4,e4⟩:∃ h4,h4=h3.set hA.next (some (.cells true 1 [.int .i64 x.value,sv3])):=⟨_,rfl⟩
 have st4:Qd1 (E b).toEnv 46 (.pointer (some ⟨hA.next,0,none⟩)) (.agg ⟨[.int .i64 x.value,sv3]⟩) h3=some h4:=by
  rw[Qyv (l:=[.int .i64 x.value,sv3]) (Yk4 b) (by rw[Q2f];rfl),e4]
  exact Qgt gB3 (by simp)
 have g4:h4.get hA.next=some (.cells true 1 [.int .i64 x.value,sv3]):=by rw[e4,Heap.get_set _ _ _ _ l3,if_pos rfl]
 have k4:∀ c,c≠hA.next->h4.get c=h3.get c:=fun c hc=>by rw[e4,Heap.get_set _ _ _ _ l3,if_neg (Ne.symm hc)]
 have ag4:Qll h4 hA.next 0 2=some (.agg ⟨[.int .i64 x.value,sv3]⟩):=by rw[Qe3 g4 (by simp)];rfl
 have c2'':V2 h4 hB.next 2=some (.int .i64 x.made):=by rw[Jb ((k4 _ (by omega)).trans (a3.get gD))];rfl
 simp[Vx,Qae,Z3,Qvy,Qrk,Q6u,Uo,X3m,Ydw,Xn2,Xmn,Ji,Xls,Qes,Qzc]
 refine Qxf [⟨25,[.agg ⟨[.int .i64 x.value,x.sv]⟩],hD,.agg ⟨[.int .i64 x.value,sv3]⟩,h3,true⟩] ?_ Q4x Q84 Q4q (by simp[Q8j,Xab,Q9v,Vx,Qae,Z3,Qrk,Q6u,Uo,X3m,Ydw,Xn2,Xmn,Ji,Xls,Qes,Qzc,agD,c2',Qym,st4];first | exact⟨rfl,rfl⟩ | rfl) ?_ ?_
 ·exact zk1 ⟨g3,n3,fun _ c hc=>a3.2 c hc⟩
 ·simp[Vd,Vx,Qae,Z3,Qrk,Q6u,Uo,X3m,Ydw,Xn2,Xmn,Ji,Xls,Qes,Qzc,c2,c2',c2'',Xhq]
 simp[Vx,Qae,Z3,Qvy,Qrk,Q6u,Uo,X3m,Ydw,Xn2,Xmn,Ji,Xls,Qes,Qzc,Xmn,ag4]
 have dB:=aD.1
 have d3:=a3.1
 refine hk sv3 h4 ((o3.keep fun c hc _=>k4 c fun e=>by have:=(o3.from hc).1;omega).low (by omega)) ⟨by rw[e4];show h.next<=h3.next;omega,fun c hc=>by rw[k4 c (by omega),a3.2 c (by omega),aD.2 c (by omega),aB.2 c (by omega),aA.2 c hc]⟩
end
def pn(i:Nat):Pt:=⟨List.replicate 32 0,(i:Int),by simp⟩
theorem Yq3(b:Nat)(i:Nat):Q5s (E b).toEnv 36 [(1,.int .i64 (i:Int))]=some (.agg ⟨(pn i).cells⟩):=by kernel_rfl
theorem Yp5(b:Nat)(z:Int){v:Value}{h:Heap}{n:Nat}{xs:List Value}(s:Sl h 1 v n xs):Q5s (E b).toEnv 71 [(0,.agg ⟨[.int .i64 z,v]⟩)]=some (.agg ⟨[.int .i64 z,v,.int .i64 0]⟩):=by
 rcases s with⟨c,rfl,_⟩ | ⟨bk,o,c,ow,z',pre,post,rfl,_⟩
 ·kernel_rfl
 ·kernel_rfl
theorem Ykf(b ν mb:Nat):Q5s (E b).toEnv 68 [(0,.pointer (some ⟨ν,0,none⟩)),(1,.map (some mb))]=some (.agg ⟨[.pointer (some ⟨ν,0,none⟩),.map (some mb),.slice none 0 0]⟩):=by kernel_rfl
theorem Ylc(b mb:Nat)(o:Int):Q5s (E b).toEnv 60 [(0,.int .i64 o),(2,.map (some mb))]=some (.agg ⟨[.int .i64 o,.slice none 0 0,.map (some mb)]⟩):=by kernel_rfl
theorem Yo2(b:Nat)(o:Int)(h:Heap)(K:KP)(hk:∀ ω mb z h',WalM h' ω mb z 0 (.int .i64 o) (.slice none 0 0) [] []->Old h h'->h.next<=ω->h.next<=mb->K (.ret (.pointer (some ⟨ω,0,none⟩))) h'):FK b 16 [.int .i64 o] h K:=by
 refine FF b (Qat b) Xuw Ybl X6m rfl ?_
 have mk:Qwg (E b).toEnv 58 none h=some (.map (some h.next),h.push (.map #[] 0)):=by
  simp only[Qwg,Yei,Yo3]
 obtain⟨hA,eA⟩:∃ hA,hA=h.push (.map #[] 0):=⟨_,rfl⟩
 have gA:hA.get h.next=some (.map #[] 0):=by rw[eA,Heap.get_push,if_pos rfl]
 have aA:=Q33 eA
 rw[<- eA]at mk
 obtain⟨hB,eB⟩:∃ hB,hB=hA.push (.cells true 1 [.int .i64 o,.slice none 0 0,.map (some h.next)]):=⟨_,rfl⟩
 have bx:=Xs7 eB
 have aB:=Q33 eB
 simp[Xfu,X5c,Qat,mk,Ylc,bx]
 refine hk hA.next h.next 1 hB ⟨by rw[eB,Heap.get_push,if_pos rfl],aB.get gA,⟨by simp[Ql8],by simp[Ql8]⟩,by simp,Sl.nil,by simp⟩ (aA.trans aB) aA.1 (Nat.le_refl _)
theorem Ylt(b:Nat)(h:Heap)(z:Int){v:Value}{n:Nat}{xs:List Value}(s:Sl h 1 v n xs):∃ hA hB,Qhn (E b).toEnv 46 h=some (.pointer (some ⟨h.next,0,none⟩),hA)/\Qd1 (E b).toEnv 46 (.pointer (some ⟨h.next,0,none⟩)) (.agg ⟨[.int .i64 z,v]⟩) hA=some hB/\hB.get h.next=some (.cells true 1 [.int .i64 z,v])/\Qll hB h.next 0 2=some (.agg ⟨[.int .i64 z,v]⟩)/\Old h hB/\hB.next=h.next+1:=by
 have g:(h.push (.cells true 1 [.int .i64 0,.slice none 0 0])).get h.next=some (.cells true 1 [.int .i64 0,.slice none 0 0]):=by rw[Heap.get_push,if_pos rfl]
 have lt:=Heap.get_lt g
 refine⟨_,(h.push (.cells true 1 [.int .i64 0,.slice none 0 0])).set h.next (some (.cells true 1 [.int .i64 z,v])),Qvy b h,?_,by rw[Heap.get_set _ _ _ _ lt,if_pos rfl],?_,(Old.push _ _).set _ (Nat.le_refl _) lt,rfl⟩
 ·rw[Qyv (l:=[.int .i64 z,v]) (Yk4 b) (by rw[Q2f];rfl)]
  exact Qgt g (by simp)
 ·rw[Qe3 (by rw[Heap.get_set _ _ _ _ lt,if_pos rfl]) (by simp)];rfl
structure LofO (ls:List LC) (outs:List OutV):Prop where
 k:ls.map (·.key)=(List.range ls.length).map pn
 v:ls.map (·.value)=outs.map (·.value)
 s:ls.map (·.script)=outs.map (·.script)
theorem Yly{i j:Nat}(h:pn i=pn j):i=j:=by
 have : (pn i).n=(pn j).n:=by rw[h]
 simp[pn]at this
 omega
def NLI(h:Heap)(ov nt:Value)(lb mb:Nat)(outs:List OutV)(k:Nat)(s:St):Prop:=∃ (t:Tr Value) (h1:Heap) (i:Nat) (ls:List LC),s=⟨⟨30,t⟩,[],h1⟩/\t.get 5=some (.pointer (some ⟨lb,0,none⟩))/\t.get 12=some ov/\t.get 13=some (.int .i64 (outs.length:Int))/\t.get 14=some (.int .i64 (i:Int))/\i<=outs.length/\k=outs.length-i/\LedM h1 lb mb 1 i nt (.slice none 0 0) ls/\ls.length=i/\LofO ls (outs.take i)/\Old h h1
section
attribute [local simp] Qg1 Qpf Vn Ykb Y3 Yir Xmn Qzc Qrk Q6u Ji Y6
set_option maxHeartbeats 1000000 in
theorem Ynw(b:Nat){h:Heap}{ov:Value}{ν:Nat}{outs:List OutV}(so:Sl h 2 ov outs.length (Q1g outs))(hs:∀ o ∈ outs,SB h o.sv o.script/\o.script ≠ []/\o.script.length < 1000000)(hn:outs.length < 1000000)
  (K:KP) (hk:∀ lb mb h' ls,LedM h' lb mb 1 outs.length (.pointer (some ⟨ν,0,none⟩)) (.slice none 0 0) ls->ls.length=outs.length->LofO ls outs->Old h h'->K (.ret (.pointer (some ⟨lb,0,none⟩))) h'):CallOK Tryd.prog (E b).G 14 [ov,.pointer (some ⟨ν,0,none⟩)] h K:=by
 refine Qn0 (E b) (Vl _ _) (Qcb b) (Vk b) Qa5 (Qd8 b) (Vn b) Xye X7p X4t rfl ?_
 have mk:=Yp4 (b:=b) (Yox b) mdC (h:=h)
 obtain⟨hA,eA⟩:∃ hA,hA=h.push (.map #[] 0):=⟨_,rfl⟩
 have gA:hA.get h.next=some (.map #[] 0):=by rw[eA,Heap.get_push,if_pos rfl]
 have aA:=Q33 eA
 have nA:=X0g eA
 rw[<- eA]at mk
 obtain⟨hB,eB⟩:∃ hB,hB=hA.push (.cells true 1 [.pointer (some ⟨ν,0,none⟩),.map (some h.next),.slice none 0 0]):=⟨_,rfl⟩
 have bx:=Xs7 eB
 have aB:=Q33 eB
 have gB:hB.get hA.next=some (.cells true 1 [.pointer (some ⟨ν,0,none⟩),.map (some h.next),.slice none 0 0]):=by rw[eB,Heap.get_push,if_pos rfl]
 have len:∀ hx,Q43 (E b).toEnv 42 ov hx=some (.int .i64 (outs.length:Int)):=fun hx=>Qhl (T42 b) so
 simp[Qvy,mk,Ykf,bx,len]
 refine Qff (NLI h ov (.pointer (some ⟨ν,0,none⟩)) hA.next h.next outs) outs.length ⟨_,hB,0,[],rfl,by simp,by simp,by simp,by simp,by omega,rfl,⟨gB,aB.get gA,⟨by simp[Xhl],by simp[Xhl]⟩,by simp⟩,rfl,⟨rfl,rfl,rfl⟩,aA.trans aB⟩ ?_
 rintro k s' ⟨t,h1,i,ls,rfl,t5,t12,t13,t14,hi,rfl,w,hl,lo,a1⟩ -
 by_cases hlt:i < outs.length
 ·have hlt':(i:Int) < (outs.length:Int):=by omega
  have hw:=wS (i:=i) (by omega)
  obtain⟨x,hx⟩:∃ x,outs[i]? = some x:=⟨_,List.getElem?_eq_getElem hlt⟩
  obtain⟨bk,off, -,x1,x2, -, -⟩:=Ysk (b:=b) (T42 b) Q2f (so.old a1) hx
  have hsx:=hs x (List.mem_of_getElem? hx)
  obtain⟨hA1,hA2,alA,stA,gX,lX,oX,nX⟩:=Ylt b h1 x.value (hsx.1.old a1)
  have w2:=w.old oX
  obtain⟨_,h3,g3,n3,sv3,rfl,o3,a3⟩:=Ygh b (v:=x.value) (hsx.1.old (a1.trans oX)) hsx.2.1 hsx.2.2 (fun r h' => ∃ v',r=.ret (.agg ⟨[.int .i64 x.value,v']⟩)/\OB h' hA2.next v' x.script/\Old hA2 h') (fun v' h' o a=>⟨v',rfl,o,a⟩)
  have w3:=w2.old a3
  have hf:Xc5 (pn i) (Xhl ls) 0=none:=Xqj.2 fun y hy e=>by
   obtain⟨z,hz,rfl⟩:=List.mem_map.1 hy
   have : z.key ∈ ls.map (·.key):=List.mem_map.2 ⟨z,hz,rfl⟩
   rw[lo.k]at this
   obtain⟨j,hj,ej⟩:=List.mem_map.1 this
   have:=Yly (ej.trans e)
   rw[List.mem_range,hl]at hj
   omega
  obtain⟨y,ey⟩:∃ y:LC,y=⟨pn i,x.value,sv3,x.script,0,i⟩:=⟨_,rfl⟩
  have up:=Yux (b:=b) (Yox b) mdC w3.gm hf (.agg ⟨[.int .i64 x.value,sv3,.int .i64 0]⟩)
  have eL:Xhl ls ++ [(⟨pn i,.agg ⟨[.int .i64 x.value,sv3,.int .i64 0]⟩,i⟩:PE)]=Xhl (ls ++ [y]):=by rw[ey];simp[Xhl,LC.pe,LC.v]
  rw[eL]at up
  have lm:=Heap.get_lt w3.gm
  obtain⟨h4,e4⟩:∃ h4,h4=h3.set h.next (some (.map ⟨(Xhl (ls ++ [y])).map PE.e⟩ (i+1))):=⟨_,rfl⟩
  rw[<- e4]at up
  have k4:∀ c,c≠h.next->h4.get c=h3.get c:=fun c hc=>by rw[e4,Heap.get_set _ _ _ _ lm,if_neg (Ne.symm hc)]
  have g4:h4.get h.next=some (.map ⟨(Xhl (ls ++ [y])).map PE.e⟩ (i+1)):=by rw[e4,Heap.get_set _ _ _ _ lm,if_pos rfl]
  have c1:V2 hA2 hA.next 1=some (.map (some h.next)):=by rw[Jb w2.gl];rfl
  simp[Qvy,t5,t12,t13,t14,hlt',x1,x2,OutV.cells,-Qvy,alA,stA]
  refine Qxf [⟨25,[.agg ⟨[.int .i64 x.value,x.sv]⟩],hA2,.agg ⟨[.int .i64 x.value,sv3]⟩,h3,true⟩] ?_ Xm3 Xnw Xme (by simp[Xqk,Xs5,Xry,Q5f,t5,t14,c1,lX,Yq3,Yp5 b x.value o3.sl,Qym,up];first | exact⟨rfl,rfl⟩ | rfl) ?_ ?_
  ·exact zk1 ⟨g3,n3,fun _ c hc=>a3.2 c hc⟩
  ·simp[Qc1]
  simp[Qvy,t14,hw]
  have tk:outs.take (i+1)=outs.take i ++ [x]:=by rw[List.take_succ,hx];rfl
  have sk:∀ {zz nn:Nat} {v:Value} {xs:List Value},Sl h3 zz v nn xs->Sl h4 zz v nn xs:=fun {zz nn v xs} s=>s.keep fun c hb hc=>k4 c fun e=>by
   obtain⟨_,_,_,g⟩:=Xvc s hb
   rw[e,w3.gm]at g
   cases g
  refine⟨outs.length-(i+1),by omega,_,h4,i+1,ls ++ [y],rfl,by simp[t5],by simp[t12],by simp[t13],by simp,by omega,rfl,⟨?_,g4,?_,fun z hz => ?_⟩,by simp[hl],⟨?_,?_,?_⟩,?_⟩
  ·rw[k4 _ (by omega)];exact w3.gl
  ·have:=w3.B.push (.agg ⟨(pn i).cells⟩) (.agg ⟨[.int .i64 x.value,sv3,.int .i64 0]⟩)
   rw[<- eL]
   simpa[PE.e]using this
  ·rcases List.mem_append.1 hz with q | q
   ·exact⟨sk (w3.hs z q).1,(w3.hs z q).2⟩
   ·rw[List.mem_singleton.1 q,ey]
    exact⟨sk o3.sl,hsx.2.2⟩
  ·rw[List.map_append,lo.k,List.length_append,List.length_singleton,List.range_succ,List.map_append,hl,ey];rfl
  ·rw[tk,List.map_append,List.map_append,lo.v,ey];rfl
  ·rw[tk,List.map_append,List.map_append,lo.s,ey];rfl
  ·have q:=(a1.trans oX).trans a3
   exact⟨by rw[e4];exact q.1,fun c hc=>by rw[k4 c (by omega),q.2 c hc]⟩
 ·have hlt':¬ (i:Int) < (outs.length:Int):=by omega
  have : i=outs.length:=by omega
  subst this
  rw[List.take_length]at lo
  simp[Qvy,t5,t12,t13,t14]
  exact hk _ _ h1 ls w hl lo a1
end
theorem Yyd:Ykd 1=[1,1,134]:=by decide
section
attribute [local simp] Qoc Q1q W7 Qww Uy Yr9 Yvg Yha Yh2 Ql3 W5 Qlz Qwz Qvc Qou Qwv
theorem Ypm(b:Nat){h:Heap}{sv:Value}(s:SB h sv (Ykd 1))(K:KP)(hk:∀ h',Old h h'->K (.ret (.tuple #[.int .i64 1,.bool true])) h'):FK b 30 [sv] h K:=by
 refine FF b (W7 b) Xw5 X8f X3h rfl ?_
 have len:∀ hx,Q43 (E b).toEnv 43 sv hx=some (.int .i64 3):=fun hx=>Qhl (T43 b) s
 obtain⟨bk,off,q1,q2,q3⟩:=Yxe (b:=b) s (k:=.i64) (i:=1) (z:=1) rfl
 simp only[Int.natCast_one]at q2
 simp only[i8]at q3
 simp[len,q2,q3]
 refine Yrj b 1 h _ ?_
 simp[len,q2,q3,show inF 1 1 32=true from by decide]
 refine Yro b 1 h _ fun v2 h2 o2 a2 => ?_
 simp[len,q2,q3]
 have by1:Bytes (Ykd 1):=by rw[Yyd];intro x hx;simp at hx;rcases hx with rfl | rfl <;> omega
 refine Yqy b (s.old a2) o2.sl by1 by1 _ ?_
 have q3':V2 h2 bk off=some (.int .u8 1):=by
  obtain⟨_,_,r1,r2,r3⟩:=Yxe (b:=b) (s.old a2) (k:=.i64) (i:=1) (z:=1) rfl
  simp only[Int.natCast_one]at r2
  rw[q2]at r2
  cases r2
  exact r3
 have w1:IntKind.i64.wrap 1=1:=by decide
 simp[len,q2,q3',w1]
 exact hk h2 a2
end
theorem Yq8(b:Nat)(p:Pt)(z:Int):Q5s (E b).toEnv 56 [(0,.agg ⟨p.cells⟩),(1,.int .i64 z)]=some (.agg ⟨(Cn.mk p z).cells⟩):=by
 obtain⟨fs,pl,hfs,hpl,hp0,hp1⟩:∃ fs pl,R56.desc=.struct fs/\Xgy (E b).toEnv fs.toList=some pl/\nth pl 0=some (0,33)/\nth pl 1=some (33,1) :=
  ⟨(match R56.desc with | .struct fs=>fs | _ => #[]),(Xgy (E b).toEnv (match R56.desc with | .struct fs=>fs | _ => #[]).toList).getD [],by kernel_rfl,by kernel_rfl,by kernel_rfl,by kernel_rfl⟩
 obtain⟨zz,ez,hz,hzd⟩:∃ zz:List Value,zz=R56.zero.cells.toList/\zz.length=34/\zz.drop 33=[.int .i64 0]:=⟨_,rfl,by kernel_rfl,by kernel_rfl⟩
 have sl:=p.len
 have e2:(Qjj (.agg ⟨p.cells⟩) && (Value.agg ⟨p.cells⟩).cells.size == 33 && Nat.ble (0+33) zz.length)=true:=by
  have h1:(Value.agg ⟨p.cells⟩).cells.size=33:=sl
  rw[h1,hz];rfl
 have e3:Qod zz 0 (Value.agg ⟨p.cells⟩).cells.toList=some (p.cells++zz.drop 33):=by
  show Qod zz 0 p.cells=_
  rw[Q3r (by rw[sl,hz];omega)]
  simp[sl]
 have e4:(Qjj (.int .i64 z) && (Value.int .i64 z).cells.size == 1 && Nat.ble (33+1) (p.cells ++ [(.int .i64 0:Value)]).length)=true:=by
  rw[List.length_append,sl];rfl
 have e5:Qod (p.cells ++ [(.int .i64 0:Value)]) 33 (Value.int .i64 z).cells.toList=some (p.cells ++ [.int .i64 z]):=by
  show Qod _ 33 [.int .i64 z]=_
  rw[Q3r (by rw[List.length_append,sl];simp)]
  have e6:∀ r:List Value,(p.cells++r).take 33=p.cells:=fun r=>by rw[<- sl,List.take_left]
  have e7:(p.cells ++ [(.int .i64 0:Value)]).drop (33+1)=[]:=List.drop_eq_nil_of_le (by rw[List.length_append,sl];simp)
  simp only[e6,List.length_singleton,e7,List.append_nil]
 simp only[Q5s,X9e,hfs,hpl,<- ez,Xql,hp0,hp1,e2,if_true,e3,hzd,e4,e5,Option.map_some]
 rfl
def Ytb(ls:List LC)(p:Pt):Int:=((ls.find? fun x=>x.key=p).map (·.value)).getD 0
def Xrj(ls:List LC)(p:Pt):Cn:=⟨p,Ytb ls p⟩
theorem X8w{ls:List LC}(nd:(ls.map (·.key)).Nodup){x:LC}(hx:x ∈ ls):Ytb ls x.key=x.value:=by
 unfold Ytb
 cases hf:ls.find? fun y=>y.key=x.key with
 | none =>
  have:=List.find?_eq_none.1 hf x hx
  simp at this
 | some y =>
  have h1:=List.find?_some hf
  have h2:=List.mem_of_find?_eq_some hf
  simp at h1
  rw[X7m nd h2 hx h1]
  rfl
def But(ω:Nat)(h h':Heap):Prop:=h.next<=h'.next/\∀ c,c < h.next->c≠ω->h'.get c=h.get c
theorem But.old{ω:Nat}{h h1 h2:Heap}(a:But ω h h1)(b:Old h1 h2):But ω h h2:=⟨Nat.le_trans a.1 b.1,fun c hc hne=>by rw[b.2 c (Nat.lt_of_lt_of_le hc a.1),a.2 c hc hne]⟩
theorem But.of{ω:Nat}{h h1:Heap}(a:Old h h1):But ω h h1:=⟨a.1,fun c hc _=>a.2 c hc⟩
def SEI(ω lb mbw z:Nat)(v:Value)(ls:List LC)(ps:List Pt)(hP:Heap)(k:Nat)(s:St):Prop:=∃ (t:Tr Value) (h1:Heap) (i:Nat) (cv:Value),s=⟨⟨57,t⟩,[],h1⟩/\t.get 0=some (.pointer (some ⟨ω,0,none⟩))/\t.get 1=some (.pointer (some ⟨lb,0,none⟩))/\t.get 15=some v/\t.get 16=some (.int .i64 (ps.length:Int))/\t.get 17=some (.int .i64 (i:Int))/\i<=ps.length/\k=ps.length-i/\But ω hP h1/\h1.get ω=some (.cells true z [.int .i64 1,cv,.map (some mbw)])/\Own h1 hP.next 34 cv i (Jc ((ps.take i).map (Xrj ls)))
section
attribute [local simp] Jv Vz Yr Q07 Xau Zi Qbo Y3 W3 Uo Qwd Z3 Qzc Qy5 Qzr W7 Xa3 Qes V3 V5 Ju Xtg Qxv Y6
set_option maxHeartbeats 2000000 in
theorem Yw8(b:Nat){h:Heap}{ω mbw z clk lb mb z2 clk2:Nat}{cv nt un:Value}{cs:List Cn}{l:List HE}{ls:List LC}(w:WalM h ω mbw z clk (.int .i64 1) cv cs l)
  (hL:∀ h',But ω h h'->LedM h' lb mb z2 clk2 nt un ls) (hn:ls.length<=12) (nd:(ls.map (·.key)).Nodup) (hp:∀ x ∈ ls,x.script=Ykd 1) (hd:∀ x ∈ l,Un x.ie.val≠some ω)
  (K:KP) (hk:∀ cv' cs' h',cs'.Perm (ls.map fun x=>⟨x.key,x.value⟩)->WalM h' ω mbw z clk (.int .i64 1) cv' cs' l->But ω h h'->K (.ret (.tuple #[])) h'):CallOK Tryd.prog (E b).G 17 [.pointer (some ⟨ω,0,none⟩),.pointer (some ⟨lb,0,none⟩)] h K:=by
 refine Qn0 (E b) (Vl _ _) (Qcb b) (Vk b) Qa5 (Qd8 b) (Yr b) Xef Xlu Xkr rfl ?_
 have lω:=Heap.get_lt w.gω
 obtain⟨hA,eA⟩:∃ hA,hA=h.set ω (some (.cells true z [.int .i64 1,.slice none 0 0,.map (some mbw)])):=⟨_,rfl⟩
 have stA:Qbh h ω 1 [.slice none 0 0]=some hA:=by rw[eA];exact Qp0 w.gω (by simp)
 have gA:hA.get ω=some (.cells true z [.int .i64 1,.slice none 0 0,.map (some mbw)]):=by rw[eA,Heap.get_set _ _ _ _ lω,if_pos rfl]
 have bA:But ω h hA:=⟨by rw[eA];exact Nat.le_refl _,fun c hc hne=>by rw[eA,Heap.get_set _ _ _ _ lω,if_neg (Ne.symm hne)]⟩
 simp[Xbd,Qvy,Q5f,stA]
 refine Ykn b (hL hA bA) hn _ fun v hP ps pp oP aP => ?_
 have bP:=bA.old aP
 have lps:ps.length=ls.length:=by have:=pp.length_eq;simpa using this
 have gP:=aP.get gA
 have len:∀ hx,Q43 (E b).toEnv 29 v hx=some (.int .i64 (ps.length:Int)):=fun hx=>Qhl (T29 b) oP.sl
 simp[Xbd,Qvy,len]
 refine Qff (SEI ω lb mbw z v ls ps hP) ps.length ⟨_,hP,0,.slice none 0 0,rfl,by simp,by simp,by simp,by simp,by simp,by omega,rfl,But.of (Old.refl _),gP,Own.nil⟩ ?_
 rintro k s' ⟨t,h1,i,cv1,rfl,t0,t1,t15,t16,t17,hi,rfl,b1,g1,o1⟩ -
 have lAP:ω < hA.next:=Heap.get_lt gA
 by_cases hlt:i < ps.length
 ·have hlt':(i:Int) < (ps.length:Int):=by omega
  have hw:=wS (i:=i) (by omega)
  obtain⟨p,hpi⟩:∃ p,ps[i]? = some p:=⟨_,List.getElem?_eq_getElem hlt⟩
  obtain⟨x,hx,rfl⟩:∃ x ∈ ls,x.key=p:=List.mem_map.1 (pp.mem_iff.1 (List.mem_of_getElem? hpi))
  obtain⟨bk,off,x1,x2⟩:=Yq7 (b:=b) (T29 b) Qcc (oP.sl.keep fun c hc hl=>b1.2 c hl fun e=>by have:=(oP.from hc).1;omega) hpi
  obtain⟨hA1,hB,alB,stB,gB,lB,oB,nB⟩:=Yol b h1 x.key
  simp[Xbd,Qvy,t0,t1,t15,t16,t17,hlt',x1,x2,-Xbd,alB,stB,lB]
  have bb:But ω h h1:=⟨Nat.le_trans bP.1 b1.1,fun c hc hne=>by rw[b1.2 c (Nat.lt_of_lt_of_le hc bP.1) hne,bP.2 c hc hne]⟩
  have hpx:=hp x hx
  refine Ywg b (hL hB (bb.old oB)) nd hx (by rw[hpx,Yyd];simp) _ fun sv h3 o3 a3 => ?_
  rw[hpx]at o3
  obtain⟨hC,hD,alD,stD,gD, -,oD,nD⟩:=Ylt b h3 x.value o3.sl
  have cD1:V2 hD h3.next 1=some sv:=by rw[Jb gD];rfl
  simp[Xbd,Qvy,t0,t1,t15,t16,t17,-Qvy,alD,stD,cD1]
  refine(Ypm b (o3.sl.old oD) _ fun h4 a4 => ?_).ok
  have a14:Old h1 h4:=((oB.trans a3).trans oD).trans a4
  have g4:=a14.get g1
  have c0:V2 h4 ω 0=some (.int .i64 1):=by rw[Jb g4];rfl
  have c1:V2 h4 ω 1=some cv1:=by rw[Jb g4];rfl
  simp[Xbd,Qvy,t0,t1,t15,t16,t17,Q5f,c0]
  have lp4:Qll h4 h1.next 0 33=some (.agg ⟨x.key.cells⟩):=agW (((a3.trans oD).trans a4).get gB) (by rw[Pt.len];omega) (by rw[Pt.len];omega)
  have cv4:V2 h4 h3.next 0=some (.int .i64 x.value):=by rw[Jb (a4.get gD)];rfl
  have o4:=o1.keep (h':=h4) fun c _ hc=>a14.2 c hc
  obtain⟨v6,h6,k1,k2,k3⟩:=Xj8 (T53 b) (z:=34) Qbg (by omega) o4 (Nat.le_trans b1.1 a14.1) (ys:=(Cn.mk x.key x.value).cells) (Cn.len _) (by rw[X8m];omega) (by omega)
  have bl:Jf (E b).toEnv 53 1 [(0,.agg ⟨(Cn.mk x.key x.value).cells⟩)] h4=some (.slice (some ⟨h4.next,0,none⟩) 1 1,h4.push (.cells true 1 (Cn.mk x.key x.value).cells)):=Xx9 (T53 b) (z:=34) Qbg (by omega) (by omega) (y:=.agg ⟨(Cn.mk x.key x.value).cells⟩) rfl (ys:=(Cn.mk x.key x.value).cells) rfl (Cn.len _)
  have hPω:ω < hP.next:=Nat.lt_of_lt_of_le lAP aP.1
  have g6:h6.get ω=some (.cells true z [.int .i64 1,cv1,.map (some mbw)]):=by
   rw[k3.2 ω (Heap.get_lt g4) fun e=>by have:=(o4.from e).1;omega]
   exact g4
  have l6:=Heap.get_lt g6
  obtain⟨h7,e7⟩:∃ h7,h7=h6.set ω (some (.cells true z [.int .i64 1,v6,.map (some mbw)])):=⟨_,rfl⟩
  have st7:Qbh h6 ω 1 [v6]=some h7:=by rw[e7];exact Qp0 g6 (by simp)
  have k7:∀ c,c≠ω->h7.get c=h6.get c:=fun c hc=>by rw[e7,Heap.get_set _ _ _ _ l6,if_neg (Ne.symm hc)]
  have g7:h7.get ω=some (.cells true z [.int .i64 1,v6,.map (some mbw)]):=by rw[e7,Heap.get_set _ _ _ _ l6,if_pos rfl]
  have one6:=k2.sl.one
  refine Qxf [] (by simp) Q4r Q7r Q49 (by simp[Q89,Q8s,Q8g,Xbd,Q5f,t0,c1,lp4,cv4,Yq8,bl,k1,Yzm,one6,st7];first | exact⟨rfl,rfl⟩ | rfl) ?_ ?_
  ·simp[Va,Xbd,cv4,lp4,c1]
  simp[Xbd,Qvy,t17,hw]
  have tk:(ps.take (i+1)).map (Xrj ls)=(ps.take i).map (Xrj ls) ++ [Cn.mk x.key x.value]:=by
   rw[List.take_succ,hpi,List.map_append]
   simp[Xrj,X8w nd hx]
  refine⟨ps.length-(i+1),by omega,_,h7,i+1,v6,rfl,by simp[t0],by simp[t1],by simp[t15],by simp[t16],by simp,by omega,rfl,⟨?_,fun c hc hne => ?_⟩,g7,?_⟩
  ·have:=b1.1;have:=a14.1;have:=k3.1
   rw[e7];show hP.next<=h6.next;omega
  ·have:=b1.1;have:=a14.1
   rw[k7 c hne,k3.2 c (by omega) fun e=>by have:=(o4.from e).1;omega,a14.2 c (by omega),b1.2 c hc hne]
  ·rw[tk,Xm0]
   have e:Jc [Cn.mk x.key x.value]=(Cn.mk x.key x.value).cells:=by simp[Jc]
   rw[e]
   exact k2.keep fun c hc _=>k7 c fun e=>by
    have:=(k2.from hc).1
    omega
 ·have hlt':¬ (i:Int) < (ps.length:Int):=by omega
  have : i=ps.length:=by omega
  subst this
  rw[List.take_length]at o1
  simp[Xbd,Qvy,t15,t16,t17]
  have bb:But ω h h1:=⟨Nat.le_trans bP.1 b1.1,fun c hc hne=>by rw[b1.2 c (Nat.lt_of_lt_of_le hc bP.1) hne,bP.2 c hc hne]⟩
  refine hk cv1 (ps.map (Xrj ls)) h1 ?_ ?_ bb
  ·have q:=pp.map (Xrj ls)
   have e:(ls.map (·.key)).map (Xrj ls)=ls.map fun x=>(⟨x.key,x.value⟩:Cn):=by
    rw[List.map_map]
    exact List.map_congr_left fun x hx=>by simp[Xrj,X8w nd hx]
   rw[e]at q
   exact q
  ·have sk:∀ {zz nn:Nat} {v:Value} {xs:List Value},Sl h zz v nn xs->Un v≠some ω->Sl h1 zz v nn xs:=fun {zz nn v xs} s hne=>s.keep fun c hb hc=>bb.2 c hc fun e=>hne (by rw[hb,e])
   have gω:=w.gω
   refine⟨g1,?_,w.B,fun x hx=>⟨sk (w.hs x hx).1 (hd x hx),(w.hs x hx).2⟩,?_,by rw[List.length_map];omega⟩
   ·rw[bb.2 mbw (Heap.get_lt w.gm) fun e=>by rw[<- e,w.gm]at gω;cases gω]
    exact w.gm
   ·have:=o1.sl
    rw[List.length_map]
    exact this
end
def Xlj(vs:List Int)(l:List Pt):Int:=(l.map fun p=>vs.getD p.n.toNat 0).sum
theorem X48(vs:List Int)(l m:List Pt):Xlj vs (l++m)=Xlj vs l+Xlj vs m:=by simp[Xlj]
theorem Yr0{l m:List Int}(p:l.Perm m):l.sum=m.sum:=by
 induction p with
 | nil=>rfl
 | cons x _ ih=>simp[ih]
 | swap x y l=>simp;omega
 | trans _ _ h1 h2=>rw[h1,h2]
theorem X7j(vs:List Int){l m:List Pt}(p:l.Perm m):Xlj vs l=Xlj vs m:=Yr0 (p.map _)
def Qaa(l:List HE):List Pt:=l.flatMap (·.pts)
def Qe5(id:Int)(l:List HE):List Pt:=((Xd6 id l).map (·.pts)).getD []
structure CsOK (vs:List Int) (cs:List Cn):Prop where
 nd:(cs.map (·.pt)).Nodup
 at':∀ x ∈ cs,∃ j,x.pt=pn j/\vs[j]? = some x.value
 pos:∀ x ∈ vs,1<=x/\x<=1000
theorem CsOK.val{vs:List Int}{cs:List Cn}(c:CsOK vs cs){x:Cn}(hx:x ∈ cs):vs.getD x.pt.n.toNat 0=x.value:=by
 obtain⟨j,h1,h2⟩:=c.at' x hx
 rw[h1]
 simp[pn,h2]
theorem CsOK.sum{vs:List Int}{cs:List Cn}(c:CsOK vs cs){l:List Cn}(hl:∀ x ∈ l,x ∈ cs):Xlj vs (l.map (·.pt))=Ql7 l:=by
 rw[Xlj,Ql7,List.map_map]
 congr 1
 exact List.map_congr_left fun x hx=>c.val (hl x hx)
theorem CsOK.bound{vs:List Int}{cs:List Cn}(c:CsOK vs cs){x:Cn}(hx:x ∈ cs):1<=x.value/\x.value<=1000:=by
 obtain⟨j,h1,h2⟩:=c.at' x hx
 exact c.pos _ (List.mem_of_getElem? h2)
theorem Xys{l:List HE}{x:Cn}:X8g l x=true↔x.pt ∈ Qaa l:=by
 simp[X8g,Qaa]
theorem Ypw(q:Cn->Bool)(l:List Cn):Ql7 l=Ql7 (l.filter fun x => !q x)+Ql7 (l.filter q):=by
 induction l with
 | nil=>rfl
 | cons x l ih =>
  have e:∀ m:List Cn,Ql7 (x::m)=x.value+Ql7 m:=fun m=>by simp[Ql7]
  cases hq:q x with
  | true=>simp[hq,e,ih];omega
  | false=>simp[hq,e,ih];omega
theorem Yq0{vs:List Int}{cs:List Cn}(c:CsOK vs cs){l:List HE}(nd:(Qaa l).Nodup)(sub:∀ p ∈ Qaa l,p ∈ cs.map (·.pt)):Ql7 (Xjr cs l)=Ql7 cs-Xlj vs (Qaa l):=by
 have h1:=Ypw (X8g l) cs
 have h2:((cs.filter (X8g l)).map (·.pt)).Perm (Qaa l):=by
  refine(List.perm_ext_iff_of_nodup ?_ nd).2 fun p=>⟨fun hp => ?_,fun hp => ?_⟩
  ·exact c.nd.sublist (List.Sublist.map _ List.filter_sublist)
  ·obtain⟨x,hx,rfl⟩:=List.mem_map.1 hp
   exact Xys.1 (List.mem_filter.1 hx).2
  ·obtain⟨x,hx,rfl⟩:=List.mem_map.1 (sub p hp)
   exact List.mem_map.2 ⟨x,List.mem_filter.2 ⟨hx,Xys.2 hp⟩,rfl⟩
 have h3:=X7j vs h2
 rw[c.sum fun x hx=>(List.mem_filter.1 hx).1]at h3
 unfold Xjr
 omega
theorem Yi2{vs:List Int}{cs:List Cn}(c:CsOK vs cs){ps:List Pt}(sub:∀ p ∈ ps,p ∈ cs.map (·.pt)):(ps.length:Int)<=Xlj vs ps/\Xlj vs ps<=1000*(ps.length:Int):=by
 induction ps with
 | nil=>simp[Xlj]
 | cons p ps ih =>
  have h1:=ih fun q hq=>sub q (by simp[hq])
  obtain⟨x,hx,e⟩:=List.mem_map.1 (sub p (by simp))
  have h2:=c.val hx
  have h3:=c.bound hx
  have e2:Xlj vs (p::ps)=vs.getD p.n.toNat 0+Xlj vs ps:=by simp[Xlj]
  rw[<- e]at e2 ⊢
  rw[e2,h2]
  simp only[List.length_cons,Int.natCast_add,Int.natCast_one]
  omega
theorem Ylp{amount:Int}:∀ {l o0:List Cn},∃ m r,tkF amount l o0=o0++m/\l=m++r
 | [],o0=>⟨[],[],by simp[tkF],rfl⟩
 | c::l,o0=>by
  by_cases h:amount<=Ql7 o0
  ·exact⟨[],c::l,by simp[tkF,h],rfl⟩
  ·obtain⟨m,r,h1,h2⟩:=Ylp (amount:=amount) (l:=l) (o0:=o0 ++ [c])
   exact⟨c::m,r,by simp[tkF,h,h1],by rw[h2];rfl⟩
theorem Yhk{amount:Int}:∀ {l o0:List Cn},(∀ m x,o0=m ++ [x]->Ql7 m < amount)->∀ m x,tkF amount l o0=m ++ [x]->Ql7 m < amount
 | [],o0,h,m,x,e=>h m x (by simpa[tkF]using e)
 | c::l,o0,h,m,x,e=>by
  by_cases hc:amount<=Ql7 o0
  ·exact h m x (by simpa[tkF,hc]using e)
  ·refine Yhk (l:=l) (o0:=o0 ++ [c]) (fun m' x' e' => ?_) m x (by simpa[tkF,hc]using e)
   have:=List.append_inj' e' rfl
   rw[<- this.1]
   omega
theorem Xm5(id:Int):∀ (l:List IE) (j:Nat),Qhb id l (j+1)=(Qhb id l j).map fun q=>(q.1+1,q.2)
 | [],_=>rfl
 | x::l,j=>by
  unfold Qhb
  by_cases h:id=x.key
  ·rw[if_pos h,if_pos h];rfl
  ·rw[if_neg h,if_neg h,Xm5 id l (j+1)]
theorem X2p(id:Int)(x:HE)(l:List HE):Xd6 id (x::l)=if id=x.ie.key then some x else Xd6 id l:=by
 unfold Xd6
 rw[show Xbp (x::l)=x.ie::Xbp l from rfl,Qhb]
 by_cases h:id=x.ie.key
 ·rw[if_pos h,if_pos h];rfl
 ·rw[if_neg h,if_neg h,Xm5]
  cases Qhb id (Xbp l) 0 with
  | none=>rfl
  | some q=>rfl
theorem Xj6(id:Int)(x:HE)(l:List HE):Qtw id (x::l)=if id=x.ie.key then l else x::Qtw id l:=by
 unfold Qtw
 rw[show Xbp (x::l)=x.ie::Xbp l from rfl,Qhb]
 by_cases h:id=x.ie.key
 ·rw[if_pos h,if_pos h];rfl
 ·rw[if_neg h,if_neg h,Xm5]
  cases Qhb id (Xbp l) 0 with
  | none=>rfl
  | some q=>rfl
theorem Ytx(id:Int)(l:List HE):(Qhb id (Xbp l) 0).isSome=(Xd6 id l).isSome:=by
 unfold Xd6
 cases hf:Qhb id (Xbp l) 0 with
 | none=>rfl
 | some q =>
  obtain⟨x,h, -⟩:=X54 hf
  simp[h]
theorem Q5c{id:Int}{l:List HE}(h:∀ e ∈ l,e.ie.key≠id):Qhb id (Xbp l) 0=none:=X1t.2 fun x hx=>by
 obtain⟨e,he,rfl⟩:=List.mem_map.1 hx
 exact h e he
theorem Qw8(id:Int)(x:HE)(l:List HE):Qe5 id (x::l)=if id=x.ie.key then x.pts else Qe5 id l:=by
 unfold Qe5
 rw[X2p]
 by_cases h:id=x.ie.key <;> simp[h]
theorem Q5b(id:Int):∀ l:List HE,(Qaa l).Perm (Qe5 id l++Qaa (Qtw id l))
 | []=>by simp[Qaa,Qe5,Xd6,Qtw,Xbp,Qhb]
 | x::l=>by
  rw[Qw8,Xj6]
  by_cases h:id=x.ie.key
  ·rw[if_pos h,if_pos h]
   simp[Qaa]
  ·rw[if_neg h,if_neg h]
   have e1:Qaa (x::l)=x.pts++Qaa l:=rfl
   have e2:Qaa (x::Qtw id l)=x.pts++Qaa (Qtw id l):=rfl
   rw[e1,e2]
   refine((Q5b id l).append_left _).trans ?_
   rw[<- List.append_assoc,<- List.append_assoc]
   exact List.Perm.append_right _ List.perm_append_comm
theorem Q3n(id:Int):∀ l:List HE,(Qtw id l).Sublist l
 | []=>by simp[Qtw,Xbp,Qhb]
 | x::l=>by
  rw[Xj6]
  by_cases h:id=x.ie.key
  ·rw[if_pos h];exact List.sublist_cons_self _ _
  ·rw[if_neg h];exact(Q3n id l).cons_cons _
theorem Yj5{id:Int}{l:List HE}(h:∀ e ∈ l,e.ie.key≠id):Qe5 id l=[]:=by
 unfold Qe5 Xd6
 rw[Q5c h]
 rfl
theorem Yi9{id:Int}{l:List HE}(h:∀ e ∈ l,e.ie.key≠id):Qtw id l=l:=by
 unfold Qtw
 rw[Q5c h]
theorem Xmp(id j:Int):∀ {l:List HE},(l.map (·.ie.key)).Nodup->Qe5 j (Qtw id l)=if j=id then []else Qe5 j l
 | [],_=>by simp[Qe5,Xd6,Qtw,Xbp,Qhb]
 | x::l,nd=>by
  rw[List.map_cons,List.nodup_cons]at nd
  have ih:=Xmp id j nd.2
  rw[Xj6,Qw8]
  by_cases h:id=x.ie.key
  ·rw[if_pos h]
   by_cases hj:j=id
   ·rw[if_pos hj]
    exact Yj5 fun e he q=>nd.1 (List.mem_map.2 ⟨e,he,by rw[q,hj,h]⟩)
   ·rw[if_neg hj,if_neg (fun q=>hj (by rw[q,h]))]
  ·rw[if_neg h,Qw8,ih]
   by_cases hj:j=x.ie.key
   ·rw[if_pos hj,if_neg (fun q=>h (by rw[<- q,hj])),if_pos hj]
   ·rw[if_neg hj,if_neg hj]
theorem Xy3{j:Int}{x:HE}:∀ {l:List HE},(∀ e ∈ l,e.ie.key≠x.ie.key)->Qe5 j (l ++ [x])=if j=x.ie.key then x.pts else Qe5 j l
 | [],_=>by rw[List.nil_append,Qw8]
 | y::l,h=>by
  rw[List.cons_append,Qw8,Qw8,Xy3 fun e he=>h e (by simp[he])]
  by_cases hj:j=x.ie.key
  ·have:=h y (by simp)
   rw[if_pos hj,if_neg (fun q=>this (by rw[<- q,hj])),if_pos hj]
  ·rw[if_neg hj,if_neg hj]
theorem Xnn{id:Int}{p:Pt}:∀ {l:List HE},p ∈ Qe5 id l->p ∈ Qaa l
 | [],h=>by simp[Qe5,Xd6,Xbp,Qhb]at h
 | x::l,h=>by
  rw[Qw8]at h
  show p ∈ x.pts++Qaa l
  rw[List.mem_append]
  by_cases hj:id=x.ie.key
  ·rw[if_pos hj]at h;exact .inl h
  ·rw[if_neg hj]at h;exact .inr (Xnn h)
structure WSt (vs:List Int) (cs:List Cn) (i:Nat) (l:List HE) (worth:List Int) (left:Int):Prop where
 kb:∀ e ∈ l,0<=e.ie.key/\e.ie.key < i
 kn:(l.map (·.ie.key)).Nodup
 pn:(Qaa l).Nodup
 ps:∀ p ∈ Qaa l,p ∈ cs.map (·.pt)
 ne:∀ e ∈ l,e.pts ≠ []
 wl:worth.length=20
 w:∀ j:Nat,j < 20->worth[j]? = some (Xlj vs (Qe5 j l))
 lf:left=Ql7 cs-Xlj vs (Qaa l)
variable{vs:List Int}{cs:List Cn}{i:Nat}{l:List HE}{worth:List Int}{left:Int}
theorem WSt.free(s:WSt vs cs i l worth left)(c:CsOK vs cs):Ql7 (Xjr cs l)=left:=by
 rw[Yq0 c s.pn s.ps,s.lf]
theorem WSt.next(s:WSt vs cs i l worth left):WSt vs cs (i+1) l worth left :=
 ⟨fun e he=>⟨(s.kb e he).1,by have:=(s.kb e he).2;omega⟩,s.kn,s.pn,s.ps,s.ne,s.wl,s.w,s.lf⟩
theorem Yvq:∀ {l:List HE} {id:Int},(∀ e ∈ l,e.pts ≠ [])->((Xd6 id l).isSome=true↔Qe5 id l ≠ [])
 | [],id,_=>by simp[Qe5,Xd6,Xbp,Qhb]
 | x::l,id,h=>by
  rw[X2p,Qw8]
  by_cases hj:id=x.ie.key
  ·simp[hj,h x (by simp)]
  ·rw[if_neg hj,if_neg hj];exact Yvq fun e he=>h e (by simp[he])
theorem WSt.present(s:WSt vs cs i l worth left)(c:CsOK vs cs)(id:Int):(Qhb id (Xbp l) 0).isSome=decide (0 < Xlj vs (Qe5 id l)):=by
 rw[Ytx]
 have h1:=Yi2 c (ps:=Qe5 id l) fun p hp=>s.ps p (Xnn hp)
 have h2:=Yvq (id:=id) s.ne
 cases hh:(Xd6 id l).isSome with
 | true =>
  have:=h2.1 hh
  have : 0 < (Qe5 id l).length:=List.length_pos_iff.2 this
  symm
  rw[decide_eq_true_iff]
  omega
 | false =>
  have : Qe5 id l=[]:=by
   by_cases h:Qe5 id l=[]
   ·exact h
   ·rw[h2.2 h]at hh;cases hh
  rw[this]
  simp[Xlj]
theorem WSt.drop(s:WSt vs cs i l worth left)(id:Nat)(hid:id < 20):WSt vs cs i (Qtw id l) (worth.set id 0) (left+Xlj vs (Qe5 id l)):=by
 have sub:=Q3n id l
 have pm:=Q5b id l
 refine⟨fun e he=>s.kb e (sub.subset he),s.kn.sublist (sub.map _),?_,fun p hp=>s.ps p (pm.mem_iff.2 (List.mem_append.2 (.inr hp))),fun e he=>s.ne e (sub.subset he),by rw[List.length_set,s.wl],fun j hj => ?_,?_⟩
 ·exact(List.nodup_append.1 (pm.nodup s.pn)).2.1
 ·rw[Xmp _ _ s.kn,List.getElem?_set]
  by_cases h:id=j
  ·subst h
   rw[if_pos rfl,if_pos rfl,if_pos (by rw[s.wl];exact hj)]
   simp[Xlj]
  ·rw[if_neg h,if_neg (fun q=>h (by omega)),s.w j hj]
 ·have:=X7j vs pm
  rw[X48]at this
  rw[s.lf]
  omega
theorem WSt.more(s:WSt vs cs i l worth left)(c:CsOK vs cs)(hi:i < 20){o:List Cn}(hne:o ≠ [])(hn:(o.map (·.pt)).Nodup)(ho:∀ x ∈ o,x ∈ cs/\x.pt ∉ Qaa l)(vc:Value)(clk:Nat):WSt vs cs (i+1) (l ++ [⟨⟨(i:Int),vc,clk⟩,o.map (·.pt)⟩]) (worth.set i (Ql7 o)) (left-Ql7 o):=by
 have e1:Qaa (l ++ [⟨⟨(i:Int),vc,clk⟩,o.map (·.pt)⟩])=Qaa l++o.map (·.pt):=by simp[Qaa]
 have hk:∀ e ∈ l,e.ie.key≠(i:Int):=fun e he=>by have:=(s.kb e he).2;omega
 have so:=c.sum fun x hx=>(ho x hx).1
 refine⟨fun e he => ?_,?_,?_,fun p hp => ?_,fun e he => ?_,by rw[List.length_set,s.wl],fun j hj => ?_,?_⟩
 ·rcases List.mem_append.1 he with q | q
  ·have:=s.kb e q;omega
  ·rw[List.mem_singleton.1 q];exact⟨Int.natCast_nonneg i,show(i:Int) < ((i+1:Nat):Int) by omega⟩
 ·rw[List.map_append,List.nodup_append]
  refine⟨s.kn,by simp,fun a ha b hb q => ?_⟩
  obtain⟨e,he,rfl⟩:=List.mem_map.1 ha
  simp at hb
  exact hk e he (by rw[q,hb])
 ·rw[e1,List.nodup_append]
  refine⟨s.pn,hn,fun a ha b hb q => ?_⟩
  obtain⟨x,hx,rfl⟩:=List.mem_map.1 hb
  exact(ho x hx).2 (q ▸ ha)
 ·rw[e1]at hp
  rcases List.mem_append.1 hp with q | q
  ·exact s.ps p q
  ·obtain⟨x,hx,rfl⟩:=List.mem_map.1 q
   exact List.mem_map.2 ⟨x,(ho x hx).1,rfl⟩
 ·rcases List.mem_append.1 he with q | q
  ·exact s.ne e q
  ·rw[List.mem_singleton.1 q];simpa using hne
 ·rw[Xy3 hk,List.getElem?_set]
  by_cases h:i=j
  ·subst h
   rw[if_pos rfl,if_pos rfl,if_pos (by rw[s.wl];exact hj),so]
  ·rw[if_neg h,if_neg (fun q=>h (by have q:(j:Int)=(i:Int):=q;omega)),s.w j hj]
 ·rw[e1,X48,so,s.lf]
  omega
def Xp6(v n:Int):Int:=if Int.tmod v n < 0 then Int.tmod v n+n else Int.tmod v n
theorem Xtl(v:Int){n:Int}(hn:0 < n):0<=Xp6 v n/\Xp6 v n < n:=by
 unfold Xp6
 have h1:=Int.tmod_lt_of_pos v hn
 have h2 : -n < Int.tmod v n:=by
  have h1:=Int.natAbs_tmod v n
  have h2:=Nat.mod_lt v.natAbs (y:=n.natAbs) (by omega)
  omega
 split <;> omega
section
attribute [local simp] Xb6 Xwg Yy Y3 Xnv Y6
theorem Ygq(b:Nat)(v:Int){n:Int}(hn:0 < n)(hm:n < 1000000)(hrem:Qfz (binOp .rem 3 (.int .i64 v) (.int .i64 n))=some (.int .i64 (Int.tmod v n)))(h:Heap)(K:KP)(hk:K (.ret (.int .i64 (Xp6 v n))) h):FK b 7 [.int .i64 v,.int .i64 n] h K:=by
 refine FF b (Yy b) X4p Yjo Ye6 rfl ?_
 have hin:=Xtl v hn
 have h0:¬ n < 1:=by omega
 unfold Xp6 at hk hin
 by_cases hz:Int.tmod v n < 0
 ·rw[if_pos hz]at hk hin
  have w2:IntKind.i64.wrap (Int.tmod v n+n)=Int.tmod v n+n:=Wp (by omega) (by omega)
  simp[h0,hrem,hz,w2]
  exact hk
 ·rw[if_neg hz]at hk
  simp[h0,hrem,hz]
  exact hk
end
theorem Ype(x:Int):Qfz (binOp .rem 3 (.int .i64 x) (.int .i64 1000))=some (.int .i64 (Int.tmod x 1000)):=by kernel_rfl
theorem Yri(x:Int):Qfz (binOp .rem 3 (.int .i64 x) (.int .i64 3000))=some (.int .i64 (Int.tmod x 3000)):=by kernel_rfl
abbrev X2z(h:Heap)(v:Value)(xs:List Int):Prop:=Sl h 1 v xs.length (xs.map (Value.int .i64))
abbrev Ywm(h:Heap)(n0:Nat)(v:Value)(xs:List Int):Prop:=Own h n0 1 v xs.length (xs.map (Value.int .i64))
theorem Xot{b:Nat}{h:Heap}{v:Value}{xs:List Int}(s:X2z h v xs){i:Nat}{z:Int}(hi:xs[i]? = some z) :
  ∃ bk o,Un v=some bk/\Zm (E b).toEnv 22 v (.int .i64 (i:Int))=some (.pointer (some ⟨bk,o,none⟩))/\V2 h bk o=some (.int .i64 z):=by
 have hl:i < xs.length:=(List.getElem?_eq_some_iff.1 hi).1
 obtain⟨bk,o,h1,h2,h3, -⟩:=Xps (T22 b) Xiw s (k:=.i64) (i:=(i:Int)) (by omega) (by omega)
 refine⟨bk,o,h1,h2,?_⟩
 have:=h3 0 (by omega)
 simpa[hi]using this
def Ycn(xs:List Int):List Int:=(xs.take 12).map fun x=>1+Xp6 x 1000
theorem Yra(xs:List Int):∀ x ∈ Ycn xs,1<=x/\x<=1000:=fun x hx=>by
 obtain⟨y,_,rfl⟩:=List.mem_map.1 hx
 have:=Xtl y (n:=1000) (by omega)
 omega
theorem Ygf(xs:List Int):(Ycn xs).length=min 12 xs.length:=by simp[Ycn]
def VaI(lv:Value)(xs:List Int)(h:Heap)(k:Nat)(s:St):Prop:=∃ (t:Tr Value) (h1:Heap) (i:Nat) (ov:Value),s=⟨⟨25,t⟩,[],h1⟩/\t.get 0=some lv/\t.get 3=some ov/\t.get 4=some (.int .i64 (i:Int))/\i<=min 12 xs.length/\k=12-i/\Old h h1/\Ywm h1 h.next ov ((Ycn xs).take i)
section
attribute [local simp] Qfo Qoo Yc Qj1 Qjk Qja Qeh Y3 Qjt Qgy Qei Qes Yy Y6
theorem Yob(b:Nat){h:Heap}{lv:Value}{xs:List Int}(s:X2z h lv xs)(K:KP)(hk:∀ v' h',Ywm h' h.next v' (Ycn xs)->Old h h'->K (.ret v') h'):FK b 4 [lv] h K:=by
 refine FF b (Yc b) Xqq X05 Xxf rfl ?_
 have len:∀ hx,Q43 (E b).toEnv 22 lv hx=some (.int .i64 (xs.length:Int)):=fun hx=>Qhl (T22 b) s
 simp
 refine Qff (VaI lv xs h) 12 ⟨_,h,0,.slice none 0 0,rfl,by simp,by simp,by simp,by omega,rfl,Old.refl _,Own.nil⟩ ?_
 rintro k s' ⟨t,h1,i,ov,rfl,t0,t3,t4,hi,rfl,a1,o1⟩ -
 have hvl:=Ygf xs
 have hti:((Ycn xs).take i).length=i:=by rw[List.length_take];omega
 by_cases hlt:i < xs.length
 ·have hlt':(i:Int) < (xs.length:Int):=by omega
  by_cases h12:i < 12
  ·have h12':(i:Int) < 12:=by omega
   have hw:=wS (i:=i) (by omega)
   obtain⟨x,hx⟩:∃ x,xs[i]? = some x:=⟨_,List.getElem?_eq_getElem hlt⟩
   obtain⟨bk,off, -,x1,x2⟩:=Xot (b:=b) (s.old a1) hx
   have hp:=Xtl x (n:=1000) (by omega)
   have hw2:IntKind.i64.wrap (1+Xp6 x 1000)=1+Xp6 x 1000:=Wp (by omega) (by omega)
   simp[len,t0,t3,t4,hlt,hlt',h12,h12',x1,x2]
   refine Ygq b x (by omega) (by omega) (Ype x) h1 _ ?_
   have bl:Jf (E b).toEnv 22 1 [(0,.int .i64 (1+Xp6 x 1000))] h1=some (.slice (some ⟨h1.next,0,none⟩) 1 1,h1.push (.cells true 1 [.int .i64 (1+Xp6 x 1000)])):=Xx9 (T22 b) (z:=1) Xiw (by omega) (by omega) rfl rfl rfl
   obtain⟨v6,h6,k1,k2,k3⟩:=Xj8 (T22 b) (z:=1) Xiw (by omega) o1 a1.1 (ys:=[.int .i64 (1+Xp6 x 1000)]) rfl (by rw[Yhx];omega) (by omega)
   simp[t0,t3,t4,hw2,bl,k1,hw]
   have tk:(Ycn xs).take (i+1)=(Ycn xs).take i ++ [1+Xp6 x 1000]:=by
    rw[List.take_succ]
    have : (Ycn xs)[i]? = some (1+Xp6 x 1000):=by
     rw[Ycn,List.getElem?_map,List.getElem?_take_of_lt h12,hx];rfl
    rw[this];rfl
   refine⟨12-(i+1),by omega,_,h6,i+1,v6,rfl,by simp[t0],by simp,by simp,by omega,rfl,k3.old a1 o1,?_⟩
   rw[tk]
   show Own h6 h.next 1 v6 _ _
   rw[List.map_append,List.length_append]
   exact k2
  ·have h12':¬ (i:Int) < 12:=by omega
   have e:(Ycn xs).take i=Ycn xs:=List.take_of_length_le (by omega)
   rw[e]at o1
   simp[len,t0,t3,t4,hlt,hlt',h12,h12']
   exact hk ov h1 o1 a1
 ·have hlt':¬ (i:Int) < (xs.length:Int):=by omega
  have e:(Ycn xs).take i=Ycn xs:=List.take_of_length_le (by omega)
  rw[e]at o1
  simp[len,t0,t3,t4,hlt,hlt']
  exact hk ov h1 o1 a1
end
theorem X2d{A B:Type}{f:A->B}(hf:∀ x y,f x=f y->x=y):∀ {l:List A},l.Nodup->(l.map f).Nodup
 | [],_=>by simp
 | a::l,h=>by
  rw[List.nodup_cons]at h
  rw[List.map_cons,List.nodup_cons]
  refine⟨fun q => ?_,X2d hf h.2⟩
  obtain⟨b,hb,e⟩:=List.mem_map.1 q
  rw[hf b a e]at hb
  exact h.1 hb
theorem Ysc{ls:List LC}{os:List OutV}(f:LofO ls os):(ls.map (·.key)).Nodup:=by
 rw[f.k]
 exact X2d (fun x y h=>Yly h) List.nodup_range
theorem Yxq{ls:List LC}{os:List OutV}{vs:List Int}{cs:List Cn}(f:LofO ls os)(ev:os.map (·.value)=vs)(hpos:∀ x ∈ vs,1<=x/\x<=1000)(p:cs.Perm (ls.map fun x=>⟨x.key,x.value⟩)):CsOK vs cs:=by
 refine⟨?_,fun x hx => ?_,hpos⟩
 ·have q:=p.map (·.pt)
  rw[List.map_map]at q
  exact q.symm.nodup (Ysc f)
 ·obtain⟨y,hy,rfl⟩:=List.mem_map.1 (p.mem_iff.1 hx)
  obtain⟨j,hj,ej⟩:=List.getElem_of_mem hy
  have e1:(ls.map (·.key))[j]? = some y.key:=by rw[List.getElem?_map,List.getElem?_eq_getElem hj,ej];rfl
  have e2:(ls.map (·.value))[j]? = some y.value:=by rw[List.getElem?_map,List.getElem?_eq_getElem hj,ej];rfl
  rw[f.k,List.getElem?_map,List.getElem?_range hj]at e1
  rw[f.v,ev]at e2
  exact⟨j,(Option.some.inj e1).symm,e2⟩
theorem Yvp(b:Nat)(a:Addr):X2h (E b).toEnv .eql 47 (.pointer (some a)) (.pointer none)=some (.bool false):=by kernel_rfl
theorem Yrz(b:Nat)(a:Addr):X2h (E b).toEnv .eql 24 (.pointer (some a)) (.pointer none)=some (.bool false):=by kernel_rfl
theorem Yjl(b:Nat)(z:Int){v:Value}{h:Heap}{n0 n:Nat}{xs:List Value}(s:Own h n0 1 v n xs):Q5s (E b).toEnv 46 [(0,.int .i64 z),(1,v)]=some (.agg ⟨[.int .i64 z,v]⟩):=X2m b z s.sl
def OFI(vv:Value)(vs:List Int)(h:Heap)(k:Nat)(s:St):Prop:=∃ (t:Tr Value) (h1:Heap) (i:Nat) (ov:Value) (os:List OutV),s=⟨⟨38,t⟩,[],h1⟩/\t.get 0=some vv/\t.get 3=some ov/\t.get 4=some (.int .i64 (i:Int))/\i<=vs.length/\k=vs.length-i/\Old h h1/\Own h1 h.next 2 ov os.length (Q1g os)/\os.map (·.value)=vs.take i/\(∀ o ∈ os,o.script=Ykd 1/\SB h1 o.sv (Ykd 1)/\∀ c,Un o.sv=some c->Un ov≠some c)
def Ysx:List Nat:=[107,101,121,115]
section
attribute [local simp] Qc3 Qhg Yp Qe9 Qec Qea Qeh Y3 Qei Qes W5 Y6 Qyc Qa9 Vn Qat Qyg Jo Qbq Qas Qbr Yr
set_option maxHeartbeats 1000000 in
theorem Yyy(b:Nat){h:Heap}(laid:Ab.LaidIn h laidAll){vv:Value}{vs:List Int}(s:X2z h vv vs)(hn:vs.length<=12)(hpos:∀ x ∈ vs,1<=x/\x<=1000)
  (K:KP) (hk:∀ ω mb z cv cs h',WalM h' ω mb z 0 (.int .i64 1) cv cs []->CsOK vs cs->cs.length=vs.length->Old h h'->h.next<=ω->h.next<=mb->K (.ret (.pointer (some ⟨ω,0,none⟩))) h'):CallOK Tryd.prog (E b).G 5 [vv] h K:=by
 refine Qn0 (E b) (Vl _ _) (Qcb b) (Vk b) Qa5 (Qd8 b) (Yp b) X6d Yjx Yco rfl ?_
 have len:∀ hx,Q43 (E b).toEnv 22 vv hx=some (.int .i64 (vs.length:Int)):=fun hx=>Qhl (T22 b) s
 simp
 refine Qff (OFI vv vs h) vs.length ⟨_,h,0,.slice none 0 0,[],rfl,by simp,by simp,by simp,by omega,rfl,Old.refl _,Own.nil,by simp,by simp⟩ ?_
 rintro k s' ⟨t,h1,i,ov,os,rfl,t0,t3,t4,hi,rfl,a1,o1,ev,hos⟩ -
 have lo:os.length=i:=by have:=congrArg List.length ev;rw[List.length_map,List.length_take]at this;omega
 by_cases hlt:i < vs.length
 ·have hlt':(i:Int) < (vs.length:Int):=by omega
  have hw:=wS (i:=i) (by omega)
  obtain⟨x,hx⟩:∃ x,vs[i]? = some x:=⟨_,List.getElem?_eq_getElem hlt⟩
  obtain⟨bk,off, -,x1,x2⟩:=Xot (b:=b) (s.old a1) hx
  obtain⟨_,h3,g3,n3,sv3,rfl,o3,a3⟩:=Yro b 1 h1 (fun r h' => ∃ v',r=.ret v'/\OB h' h1.next v' (Ykd 1)/\Old h1 h') (fun v' h' o a=>⟨v',rfl,o,a⟩)
  have o1':=o1.keep (h':=h3) fun c _ hc=>a3.2 c hc
  have bl:Jf (E b).toEnv 42 1 [(0,.agg ⟨[.int .i64 x,sv3]⟩)] h3=some (.slice (some ⟨h3.next,0,none⟩) 1 1,h3.push (.cells true 1 [.int .i64 x,sv3])):=Xx9 (T42 b) (z:=2) Q2f (by omega) (by omega) rfl rfl rfl
  obtain⟨v6,h6,k1,k2,k3,k4⟩:=Xyw (T42 b) (z:=2) Q2f (by omega) o1' (Nat.le_trans a1.1 a3.1) (ys:=[.int .i64 x,sv3]) rfl (by rw[Yno];omega) (by omega)
  simp[len,t0,t3,t4,hlt,hlt']
  refine Qxf [⟨13,[.int .i64 1],h1,sv3,h3,true⟩] ?_ Xr1 Xsr Xq0 (by simp[Xwd,X1c,Xzx,t0,t3,t4,x1,x2,Yjl b x o3,bl,k1,Qym];first | exact⟨rfl,rfl⟩ | rfl) ?_ ?_
  ·exact zk1 ⟨g3,n3,fun _ c hc=>a3.2 c hc⟩
  ·simp[Qf7,x2]
  simp[t4,hw]
  have b6:∀ {c:Nat},Un ov≠some c->c < h3.next->h6.get c=h3.get c:=fun hne hc=>k3.2 _ hc hne
  refine⟨vs.length-(i+1),by omega,_,h6,i+1,v6,os ++ [⟨x,sv3,Ykd 1⟩],rfl,by simp[t0],by simp,by simp,by omega,rfl,⟨Nat.le_trans a1.1 (Nat.le_trans a3.1 k3.1),fun c hc => ?_⟩,?_,?_,?_⟩
  ·rw[k3.2 c (Nat.lt_of_lt_of_le hc (Nat.le_trans a1.1 a3.1)) fun e=>by have:=(o1.from e).1;omega,(a1.trans a3).2 c hc]
  ·have e:Q1g (os ++ [⟨x,sv3,Ykd 1⟩])=Q1g os ++ [.int .i64 x,sv3]:=by simp[Q1g,OutV.cells]
   rw[e,List.length_append]
   exact k2
  ·rw[List.map_append,ev,List.take_succ,hx];rfl
  ·intro o ho
   rcases List.mem_append.1 ho with q | q
   ·obtain⟨r1,r2,r3⟩:=hos o q
    have low:∀ c,Un o.sv=some c->c < h1.next:=fun c hc=>by
     obtain⟨_,_,_,g⟩:=Xvc r2 hc
     exact Heap.get_lt g
    refine⟨r1,(r2.old a3).keep fun c hc hl=>b6 (fun e=>r3 c hc e) hl,fun c hc e => ?_⟩
    rcases k4 c e with q | q
    ·exact r3 c hc q
    ·have:=low c hc;have:=a3.1;omega
   ·rw[List.mem_singleton.1 q]
    have hne:∀ c,Un sv3=some c->Un ov≠some c:=fun c hc e=>by
     have:=(o1.from e).2;have:=(o3.from hc).1;omega
    refine⟨rfl,o3.sl.keep fun c hc hl=>b6 (hne c hc) hl,fun c hc e => ?_⟩
    rcases k4 c e with q | q
    ·exact hne c hc q
    ·have:=(o3.from hc).2;omega
 ·have hlt':¬ (i:Int) < (vs.length:Int):=by omega
  have : i=vs.length:=by omega
  subst this
  rw[List.take_length]at ev
  obtain⟨hA,eA,aA,gA⟩:=X0q h1 ((Ysx.map u8v))
  have bl:Jf (E b).toEnv 43 4 [(0,.int .u8 107),(1,.int .u8 101),(2,.int .u8 121),(3,.int .u8 115)] h1=some (.slice (some ⟨h1.next,0,none⟩) 4 4,hA):=by rw[eA];exact Ywu b _ _ _ _ h1
  have sK:SN hA (.slice (some ⟨h1.next,0,none⟩) 4 4) Ysx:=(Own.new (n0:=0) (z:=1) (n:=4) (c:=4) (Nat.zero_le _) gA rfl (by decide) (.inr rfl)).sl
  simp[len,t0,t3,t4,bl,Yoh b gA]
  refine(Yxn b (Laid.old laid (a1.trans aA)) sK (by simp[Ysx]) _ fun ν h2 _ _ a2 => ?_).ok
  simp[t3]
  have a12:Old h1 h2:=aA.trans a2
  refine Ynw b (outs:=os) (o1.sl.old a12) (fun o ho => ?_) (by omega) _ fun lb mb2 h3 ls wl ll lof a3 => ?_
  ·obtain⟨r1,r2, -⟩:=hos o ho
   rw[r1]
   exact⟨r2.old a12,by rw[Yyd];simp,by rw[Yyd];simp⟩
  simp
  refine(Yo2 b 1 h3 _ fun ω mb z h4 w4 a4 hω hmb => ?_).ok
  simp[Yvp,Yrz]
  have nd:=Ysc lof
  refine Yw8 b w4 (fun h' bb=>wl.old ⟨Nat.le_trans a4.1 bb.1,fun c hc=>by rw[bb.2 c (Nat.lt_of_lt_of_le hc a4.1) (by omega),a4.2 c hc]⟩) (by omega) nd (fun y hy => ?_) (by simp) _ fun cv cs h5 pc w5 b5 => ?_
  ·have : y.script ∈ os.map (·.script):=by rw[<- lof.s];exact List.mem_map.2 ⟨y,hy,rfl⟩
   obtain⟨o,ho,e⟩:=List.mem_map.1 this
   rw[<- e]
   exact(hos o ho).1
  simp
  have a03:Old h h3:=(a1.trans a12).trans a3
  refine hk ω mb z cv cs h5 w5 (Yxq lof ev hpos pc) (by have:=pc.length_eq;rw[List.length_map]at this;omega) ⟨Nat.le_trans a03.1 (Nat.le_trans a4.1 b5.1),fun c hc => ?_⟩ (Nat.le_trans a03.1 hω) (Nat.le_trans a03.1 hmb)
  rw[b5.2 c (Nat.lt_of_lt_of_le hc (Nat.le_trans a03.1 a4.1)) (by have:=a03.1;omega),a4.2 c (Nat.lt_of_lt_of_le hc a03.1),a03.2 c hc]
end
def SPI(v1 v2:Value)(l m:List Pt)(h:Heap)(k:Nat)(s:St):Prop:=∃ (t:Tr Value) (i:Nat),s=⟨⟨27,t⟩,[],h⟩/\t.get 0=some v1/\t.get 1=some v2/\t.get 5=some (.int .i64 (i:Int))/\i<=m.length/\k=m.length-i/\l.take i=m.take i
section
attribute [local simp] Ul Qb0 Y1 Wn Qbo Uy Ws Y3 W3 Uo Qvg W0 Y6 Uz
theorem Yia(b:Nat){h:Heap}{v1 v2:Value}{l m:List Pt}(s1:Sl h 33 v1 l.length (Jy l))(s2:Sl h 33 v2 m.length (Jy m))(hn:m.length < 1000000)(K:KP)(hk:K (.ret (.bool (decide (l=m)))) h) :
  FK b 10 [v1,v2] h K:=by
 refine FF b (Y1 b) Xml Xsz Xpt rfl ?_
 have len1:∀ hx,Q43 (E b).toEnv 29 v1 hx=some (.int .i64 (l.length:Int)):=fun hx=>Qhl (T29 b) s1
 have len2:∀ hx,Q43 (E b).toEnv 29 v2 hx=some (.int .i64 (m.length:Int)):=fun hx=>Qhl (T29 b) s2
 by_cases hl:l.length=m.length
 ·rw[hl]at len1
  simp[len1,len2]
  refine Qff (SPI v1 v2 l m h) m.length ⟨_,0,rfl,by simp,by simp,by simp,by omega,rfl,by simp⟩ ?_
  rintro k s' ⟨t,i,rfl,t0,t1,t5,hi,rfl,he⟩ -
  by_cases hlt:i < m.length
  ·have hlt':(i:Int) < (m.length:Int):=by omega
   obtain⟨p,hp⟩:∃ p,l[i]? = some p:=⟨_,List.getElem?_eq_getElem (by omega)⟩
   obtain⟨q,hq⟩:∃ q,m[i]? = some q:=⟨_,List.getElem?_eq_getElem hlt⟩
   obtain⟨b1,o1,x1,x2⟩:=Yq7 (b:=b) (T29 b) Qcc s1 hp
   obtain⟨b2,o2,y1,y2⟩:=Yq7 (b:=b) (T29 b) Qcc s2 hq
   have hw:=wS (i:=i) (by omega)
   simp[t0,t1,t5,len1,hlt,hlt']
   refine Qxf [] (by simp) Q9r Xdm Xao (by simp[Xie,t0,t1,t5,x1,x2,y1,y2,peq];first | exact⟨rfl,rfl⟩ | rfl) ?_ ?_
   ·simp[Qfw]
   by_cases hpq:p=q
   ·simp[t0,t1,t5,hpq,hw]
    refine⟨m.length-(i+1),by omega,_,i+1,rfl,by simp[t0],by simp[t1],by simp,by omega,rfl,?_⟩
    rw[List.take_succ,List.take_succ,hp,hq,he,hpq]
   ·simp[t0,t1,t5,hpq]
    have : l≠m:=fun e=>hpq (by rw[e,hq]at hp;exact(Option.some.inj hp).symm)
    simpa[this]using hk
  ·have hlt':¬ (i:Int) < (m.length:Int):=by omega
   have : i=m.length:=by omega
   subst this
   rw[List.take_length,<- hl,List.take_length]at he
   simp[t0,t1,t5,len1,hlt']
   simpa[he]using hk
 ·have hl':¬ (l.length:Int)=(m.length:Int):=by omega
  simp[len1,len2,hl,hl']
  have : l≠m:=fun e=>hl (by rw[e])
  simpa[this]using hk
end
def Xz2(l:List HE)(n:Nat):List Pt:=(List.range n).flatMap fun i:Nat=>Qe5 (i:Int) l
theorem Xyv(l:List HE)(n:Nat):Xz2 l (n+1)=Xz2 l n++Qe5 (n:Int) l:=by simp[Xz2,List.range_succ]
theorem Yjp{i j:Int}{l:List HE}(hij:i≠j)(kn:(l.map (·.ie.key)).Nodup)(pn:(Qaa l).Nodup){p:Pt}(hi:p ∈ Qe5 i l)(hj:p ∈ Qe5 j l):False:=by
 have nd:=(Q5b i l).nodup pn
 have h2:p ∈ Qaa (Qtw i l):=Xnn (id:=j) (by rw[Xmp _ _ kn,if_neg (Ne.symm hij)];exact hj)
 exact(List.nodup_append.1 nd).2.2 p hi p h2 rfl
theorem Yq5{i:Int}{l:List HE}(pn:(Qaa l).Nodup):(Qe5 i l).Nodup:=(List.nodup_append.1 ((Q5b i l).nodup pn)).1
theorem Ygm{l:List HE}(kn:(l.map (·.ie.key)).Nodup)(pn:(Qaa l).Nodup):∀ n,(Xz2 l n).Nodup
 | 0=>by simp[Xz2]
 | n+1=>by
  rw[Xyv,List.nodup_append]
  refine⟨Ygm kn pn n,Yq5 pn,fun a ha c hc e => ?_⟩
  subst e
  obtain⟨i,hi,h1⟩:=List.mem_flatMap.1 ha
  have:=List.mem_range.1 hi
  exact Yjp (by omega) kn pn h1 hc
def Xpw(d:List Pt)(n:Nat):List Value:=(List.range n).map fun j => .bool (decide (pn j ∈ d))
theorem Xox(d:List Pt)(n:Nat):(Xpw d n).length=n:=by simp[Xpw]
theorem Ymw(n:Nat):Xpw [] n=List.replicate n (.bool false):=by
 apply List.ext_getElem?
 intro j
 rw[Xpw,List.getElem?_map,List.getElem?_replicate]
 by_cases h:j < n
 ·rw[List.getElem?_range h,if_pos h];simp
 ·rw[List.getElem?_eq_none (by simp;omega),if_neg h];rfl
theorem X5n{d:List Pt}{n j:Nat}(h:j < n):(Xpw d n)[j]? = some (.bool (decide (pn j ∈ d))):=by
 rw[Xpw,List.getElem?_map,List.getElem?_range h];rfl
theorem Ynh{d:List Pt}{n j:Nat}(h:j < n):(Xpw d n).set j (.bool true)=Xpw (d ++ [pn j]) n:=by
 apply List.ext_getElem?
 intro i
 rw[List.getElem?_set,Xox]
 by_cases hi:i < n
 ·rw[X5n hi,X5n hi]
  by_cases e:j=i
  ·subst e;rw[if_pos rfl,if_pos h];simp
  ·rw[if_neg e]
   have : pn i≠pn j:=fun q=>e (Yly q).symm
   simp[this]
 ·rw[List.getElem?_eq_none (by rw[Xox];omega),List.getElem?_eq_none (by rw[Xox];omega),if_neg (by omega)]
end Go.Proofs.YtcnhfkplgknomaaDoor
end
