import Derived.Test.YtapodfgjkmddlaaGreatDoorLgA
set_option linter.all false
noncomputable section
namespace Go.Proofs.YtapodfgjkmddlaaGreatDoor
open Go Go.Ab
set_option maxRecDepth 100000
def Jh4(h:Heap)(v:Value):Prop:=∀ c,J4 v=some c->∃ z' a n cc rest,h.get c=some (.cells true z' (.slice a n cc::rest))
section
variable{h h':Heap}{v:Value}(fb:Jh4 h v)(kp:∀ c,c < h.next->J4 v≠some c->h'.get c=h.get c)
include kp fb
end
def UnRow(_:Heap)(v:Value)(ud:List (List BK)):Prop:=v=.slice none 0 0/\ud=[]
def Ju5(ud:List (List BK)):List Value:=ud.flatMap Jvc
def UnRow.nil{h:Heap}:UnRow h (.slice none 0 0) []:=⟨rfl,rfl⟩
def UnRow.old{h h':Heap}{v:Value}{ud:List (List BK)}(u:UnRow h v ud)(_:Old h h'):UnRow h' v ud:=u
def UnRow.len{b:Nat}{h:Heap}{v:Value}{ud:List (List BK)}(u:UnRow h v ud):∀ hx,Qkc (E b).toEnv 86 v hx=some (.int .i64 (ud.length:Int)):=fun hx=>by
 obtain⟨rfl,rfl⟩:=u;exact Qa0 (h:=hx) (z:=1) (T86 b) Sl.nil
section
variable{h h':Heap}{lb:Nat}(fb:∃ z' a rest,h.get lb=some (.cells true z' (.pointer a::rest)))(kp:∀ c,c < h.next->c≠lb->h'.get c=h.get c)
include kp
include fb
end
structure LedS (h:Heap) (lb mb z ν clk:Nat) (ks:List Nat) (un:Value) (ls:List LC) (ud:List (List BK)):Prop where
 gl:h.get lb=some (.cells true z [pO ν 0,.map (some mb),un])
 gν:∃ ow zν,h.get ν=some (.cells ow zν (ks.map u8v))
 co:CoM h mb clk ls
 ur:UnRow h un ud
 off:Off un (Jpm ls++Ju5 ud)
 ofl:∀ s ∈ Jpm ls++Ju5 ud,J4 s≠some lb
 la:Ab.LaidIn h laidAll
 ks:ks.length=1024
def LedS.old{h h':Heap}{lb mb z ν clk:Nat}{ks:List Nat}{un:Value}{ls:List LC}{ud:List (List BK)}(S:LedS h lb mb z ν clk ks un ls ud)(a:Old h h'):LedS h' lb mb z ν clk ks un ls ud:=by
 obtain⟨gl,⟨ow,zν,gν⟩,co,un,off,ofl,la,hks⟩:=S;exact⟨a.get gl,⟨ow,zν,a.get gν⟩,co.old a,un.old a,off,ofl,Laid.old la a,hks⟩
def Jvv(lb mb:Nat)(un:Value)(h h':Heap):Prop:=h.next<=h'.next/\∀ c,c < h.next->c≠lb->c≠mb->J4 un≠some c->h'.get c=h.get c
structure TxV where
 iv:Value
 ov:Value
 ins:List InV
 outs:List OutV
 lock:Int
def TxV.cells(x:TxV):List Value:=txC x.iv x.ov x.lock
def TxV.p(x:TxV):PTx:=ptx x.ins x.outs x.lock
def TxV.len(x:TxV):x.cells.length=3:=rfl
structure TxAt (h:Heap) (x:TxV):Prop where
 i:Ins h x.iv x.ins
 o:Outs h x.ov x.outs
 p:∀ y ∈ x.ins,PtB y.pt
def TxAt.old{h h':Heap}{x:TxV}(t:TxAt h x)(a:Old h h'):TxAt h' x:=⟨t.i.old a,t.o.old a,t.p⟩
def Xjw(l:List TxV):List Value:=l.flatMap TxV.cells
structure TxsAt (h:Heap) (v:Value) (l:List TxV):Prop where
 s:Sl h 3 v l.length (Xjw l)
 n:l.length < 1000000
 a:∀ x ∈ l,TxAt h x
def TxsAt.old{h h':Heap}{v:Value}{l:List TxV}(t:TxsAt h v l)(a:Old h h'):TxsAt h' v l:=⟨t.s.old a,t.n,fun x hx=>(t.a x hx).old a⟩
def Zvl{b:Nat}{te ts:TypeId}{re rs:TyRec}(T:SlTy (E b).toEnv te ts re rs)(hz:re.size=3){h:Heap}{v:Value}{l:List TxV}(s:Sl h 3 v l.length (Xjw l)){i:Nat}{x:TxV}(hp:l[i]? = some x) :
  ∃ bk off,V5 (E b).toEnv ts v (.int .i64 (i:Int))=some (pO bk off)/\Wy h bk off 3=some (.agg ⟨x.cells⟩):=by
 have hl:=(List.getElem?_eq_some_iff.1 hp).1;obtain⟨bk,off,q1,q2,q3,q4⟩:=Q7o T hz s (k:=.i64) (i:=(i:Int)) (by omega) (by omega);refine⟨bk,off,q2,?_⟩;rw[q4,aT,Xjw,Yac TxV.len hp]
structure A1 (lb:Nat) (tv:Value) (n:Nat) (t:Tr Value) (i:Nat) (bv:Value):Prop where
 t0:t.get 0=some (pO lb 0)
 t5:t.get 5=some bv
 t13:t.get 13=some tv
 t14:t.get 14=some (.int .i64 (n:Int))
 t15:t.get 15=some (.int .i64 (i:Int))
def pn(i:Nat):Pt:=⟨List.replicate 32 0,(i:Int),by simp⟩
def Jij(b:Nat)(i:Nat):Qn1 (E b).toEnv 61 [(1,.int .i64 (i:Int))]=some (.agg ⟨(pn i).cells⟩):=kR
def Jhe(b:Nat)(z:Int){v:Value}{h:Heap}{n:Nat}{xs:List Value}(s:Sl h 1 v n xs):Qn1 (E b).toEnv 91 [(0,.agg ⟨[.int .i64 z,v]⟩)]=some (.agg ⟨[.int .i64 z,v,.int .i64 0]⟩):=by
 rcases s with⟨c,rfl,_⟩ | ⟨bk,o,c,ow,z',pre,post,rfl,_⟩
 ·kernel_rfl
 ·kernel_rfl
def Jd1(b ν mb:Nat):Qn1 (E b).toEnv 88 [(0,pO ν 0),(1,.map (some mb))]=some (.agg ⟨[pO ν 0,.map (some mb),.slice none 0 0]⟩):=kR
def Jkh(l:List POut):Xk0:=l.zipIdx.foldl (fun m q=>Jkf m (pn q.2) (some ⟨q.1.value,q.1.script,0⟩)) (fun _=>none)
def Z60(l:List POut)(o:POut):Jkh (l ++ [o])=Jkf (Jkh l) (pn l.length) (some ⟨o.value,o.script,0⟩):=by
 unfold Jkh;rw[List.zipIdx_append,List.foldl_append];simp
def Juu(i:Nat):PtB (pn i):=fun n hn=>by
 have : n=0:=List.eq_of_mem_replicate hn;omega
def NwI(h:Heap)(ov:Value)(lb mb z ν:Nat)(outs:List OutV)(k:Nat)(s:St):Prop:=∃ (t:Tr Value) (h1:Heap) (i clk:Nat) (ls:List LC),s=⟨⟨30,t⟩,[],h1⟩/\t.get 5=some (pO lb 0)/\t.get 12=some ov/\t.get 13=some (.int .i64 (outs.length:Int))/\t.get 14=some (.int .i64 (i:Int))/\i<=outs.length/\k=outs.length-i/\h1.get lb=some (.cells true z [pO ν 0,.map (some mb),.slice none 0 0])/\CoM h1 mb clk ls/\Qum ls=Jkh ((outs.map OutV.p).take i)/\(∀ s ∈ Jpm ls,∀ c,J4 s=some c->lb < c)/\Old h h1/\ls.length<=i
section
attribute [local simp] Qo1 Qyf Qct Qg1 Qb9 Qeg Qs3 Wu Xj kON kOC Xn kNN kNP kRR kEN kER Q6 X2 Yn Ya aop Qg nth Ab.g0 gv gs Qd Qc aev evs evO Qh Tr.get_put St.put Tm.put flat flatA Y9 Qm Qp Qn Qo Qk Ql Qj Qt Qi Q7 Q8 kTN kTR kTX kTP kBN kBR kBX kBP kCS kCR kCE kAM Xm.putAll Qv Q0 Q9
set_option maxHeartbeats 1000000 in
def Jb2(b:Nat){h:Heap}{ov:Value}{ν:Nat}{ks:List Nat}{outs:List OutV}(laid:Ab.LaidIn h laidAll)(gν:∃ ow zν,h.get ν=some (.cells ow zν (ks.map u8v)))(hks:ks.length=1024)(so:Outs h ov outs)(hv:∀ o ∈ outs,0<=o.value/\o.value<=1125899906842624)
  (K:KP) (hk:∀ lb mb clk h' ls,LedS h' lb mb 1 ν clk ks (.slice none 0 0) ls []->Qum ls=Jkh (outs.map OutV.p)->ls.length<=outs.length->Old h h'->h.next<=lb->h.next<=mb->K (.ret (pO lb 0)) h'):CallOK Tryz.prog (E b).G 14 [ov,pO ν 0] h K:=by
 refine Qh3 (E b) (Vy _ _) (Uf b) (Jd b) mixed (Ui b) (Qct b) Y2j.1 Y2j.2.1 Y2j.2.2 rfl ?_;have hn:=so.n;have mk:=Zk3 (b:=b) (Z74 b) mdC (h:=h);obtain⟨hA,eA⟩:∃ hA,hA=h.push (.map #[] 0):=⟨_,rfl⟩;have gA:hA.get h.next=some (.map #[] 0):=by rw[eA,Heap.get_push,if_pos rfl]
 have aA:=Qon eA;have nA:=Q8i eA;rw[<- eA]at mk;obtain⟨hB,eB⟩:∃ hB,hB=hA.push (.cells true 1 [pO ν 0,.map (some h.next),.slice none 0 0]):=⟨_,rfl⟩;have bx:=Qw8 eB;have aB:=Qon eB;have gB:hB.get hA.next=some (.cells true 1 [pO ν 0,.map (some h.next),.slice none 0 0]):=by rw[eB,Heap.get_push,if_pos rfl]
 have len:∀ hx,Qkc (E b).toEnv 29 ov hx=some (.int .i64 (outs.length:Int)):=fun hx=>Qa0 (T29 b) so.s;simp[Qa2,mk,Jd1,bx,len];refine Qdf (NwI h ov hA.next h.next 1 ν outs) outs.length ⟨_,hB,0,0,[],rfl,by simp,by simp,by simp,by simp,by omega,rfl,gB,⟨aB.get gA,⟨by simp[Q2m],by simp[Q2m]⟩,by simp,by simp,by simp⟩,rfl,by simp[Jpm],aA.trans aB,by simp⟩ ?_;rintro k s' ⟨t,h1,i,clk,ls,rfl,t5,t12,t13,t14,hi,rfl,gl,w,em,sv,a1,hll⟩ -;by_cases hlt:i < outs.length
 ·have hlt':(i:Int) < (outs.length:Int):=by omega
  have hw:=wS (i:=i) (by omega);obtain⟨x,hx⟩:∃ x,outs[i]? = some x:=⟨_,List.getElem?_eq_getElem hlt⟩;have hxm:=List.mem_of_getElem? hx;obtain⟨bk,off, -,x1,x2, -, -⟩:=Xjz (b:=b) (T29 b) Qjv (so.s.old a1) hx;have hsx:=(so.a x hxm).old a1;obtain⟨hA1,h2,alA,stA,stA',g2,a2,n2⟩:=Quc b (Zdt b) (l:=x.cells) (by rw[OutV.len,Qjv]) (by kernel_rfl) h1;have ld:Wy h2 h1.next 0 2=some (.agg ⟨x.cells⟩):=agW g2 (by rw[OutV.len];omega) (by rw[OutV.len];omega);have xc:x.cells=[.int .i64 x.value,x.sv]:=rfl;obtain⟨_,h3,g3,n3,sv3,rfl,o3,a3⟩:=Z5f b (v:=x.value) (hsx.s.old a2) hsx.l (fun r h' => ∃ v',r=.ret (.agg ⟨[.int .i64 x.value,v']⟩)/\OB h' h2.next v' x.script/\Old h2 h') (fun v' h' o a=>⟨v',rfl,o,a⟩);obtain⟨y,ey⟩:∃ y:LV,y=⟨x.value,sv3,x.script,0⟩:=⟨_,rfl⟩;have ly:LvAt h3 y:=by rw[ey];exact⟨o3.sl,hsx.b,hsx.l,hv x hxm⟩
  obtain⟨ls4,clk4,h4,up,e4,co4,em4,le4,mem4⟩:=Jss b ((w.old a2).old a3) (Juu i) ly;have by':Qn1 (E b).toEnv 91 [(0,.agg ⟨[.int .i64 x.value,sv3]⟩)]=some (.agg ⟨y.cells⟩):=by rw[ey];exact Jhe b x.value o3.sl
  have c1:Yw h2 hA.next 1=some (.map (some h.next)):=by rw[Yi (a2.get gl)];rfl
  have a23:=a2.trans a3;simp[Qa2,t5,t12,t13,t14,hlt,hlt',x1,x2,-Qa2,alA,stA,stA'];refine Qem [⟨33,[.agg ⟨[.int .i64 x.value,x.sv]⟩],h2,.agg ⟨[.int .i64 x.value,sv3]⟩,h3,true⟩] ?_ Ydc Ygt Ycc (by simp[Ab.runT,Yk,Y1,ldv,Nat.testBit,Vi,Yq,Yl,Ys,loadAt,Wj,Zc,Yq0,Yw9,Yug,Qa2,Qec,t5,t14,c1,ld,xc,Jij,by',up];first | exact⟨rfl,rfl⟩ | rfl) ?_ ?_
  ·exact zk1 ⟨g3,n3,fun _ c hc=>a3.2 c hc⟩
  ·simp[Yk,Y1,Qiq,ldv,Ab.runT,Yk,Y1,ldv,Nat.testBit,Vi,Yq,Yl,Ys,loadAt,Wj,Zc,Qa2]
  simp[Qa2,t5,t12,t13,t14,hw];have gm3:=((w.old a2).old a3).gm;refine⟨outs.length-(i+1),by omega,_,h4,i+1,clk4,ls4,rfl,by simp[t5],by simp[t12],by simp[t13],by simp,by omega,rfl,by rw[e4];exact Z7u (a23.get gl) gm3 _,co4,?_,fun s hs c hc => ?_,?_,by omega⟩
  ·rw[em4,em,aQ,List.getElem?_map,hx];have hl:((outs.map OutV.p).take i).length=i:=by rw[br,aL];omega
   show _=Jkh ((outs.map OutV.p).take i ++ [x.p]);rw[Z60,hl,ey];rfl
  ·obtain⟨z,hz,rfl⟩:=am.1 hs;rcases mem4 z hz with q | q
   ·exact sv _ (am.2 ⟨z,q,rfl⟩) c hc
   ·rw[q,ey]at hc;have:=(o3.from hc).1;have:=Heap.get_lt (a2.get gl);omega
  ·have q:=a1.trans a23;exact⟨by rw[e4];exact q.1,fun c hc=>by rw[e4,gY (Heap.get_lt gm3),if_neg (by omega),q.2 c hc]⟩
 ·have hlt':¬ (i:Int) < (outs.length:Int):=by omega
  have : i=outs.length:=by omega
  subst this;rw[aj (by simp)]at em;obtain⟨ow,zν,gν⟩:=gν;simp[Qa2,t5,t12,t13,t14];refine hk _ _ clk h1 ls ⟨gl,⟨ow,zν,a1.get gν⟩,w,UnRow.nil,Off.nil,fun s hs e => ?_,Laid.old laid a1,hks⟩ em hll a1 (by omega) (ab _);have:=sv s (by simpa[Ju5]using hs) _ e;omega
end
end Go.Proofs.YtapodfgjkmddlaaGreatDoor
end
